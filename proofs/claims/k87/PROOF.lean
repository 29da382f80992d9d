import PyProof.Rows.All
import Wide.All
import OpenK.AllK
import Wide.FinOn
import KE.KStateDown
import HandS.ForMost
import HandS.Exc
import HandS.Walk
import HandS.Wide
import HandS.Style
import HandS.Flow
import HandS.IsInst
import HandS.Zip
import HandS.Defaults
import HandS.TupAny
import PyProof.Rows.RuleB_bool
import HandS.Head0
import HandS.Head1
import HandS.Head2
import HandS.HeadEnd
import HandS.HeadHook1
import HandS.HeadHook2
import PySem.Challenge.RW_betsalong_k87_whole_known_families
set_option Elab.async false
set_option linter.all false
set_option maxRecDepth 100000
set_option maxHeartbeats 0
/-! Dl: a data level over the hand layer: what a def does told over plain data, by Bool-valued continuations. -/
namespace Dl
open PySem PySem.Spec PyProof.Rows L2

/-! ### data at values -/
/-- a tuple of the written part -/
def KT (K : PySem.W.Frag) (a : Addr) (xs : List V) : Prop := ∃ (o : Obj) (its : Array Value) (n : Nat), K.lookup a = some o ∧ o.cls = .type "tuple" ∧ o.data = .seq its n ∧ its.size ≤ sizeLine ∧ Vals xs its.toList
mutual
inductive Rp (K : PySem.W.Frag) (F : Hp) : V → PyData → Prop
  | non : Rp K F .non .none
  | bl (b : Bool) : Rp K F (.bl b) (.bool b)
  | int (i : Int) : Rp K F (.int i) (.int i)
  | str (x : Str) : Rp K F (.str x) (.str x)
  | lst {a : Addr} {xs : List V} {ds : List PyData} : F a = some (.lst xs) → RpAll K F xs ds → Rp K F (.ref a) (.list ds)
  | tup {a : Addr} {xs : List V} {ds : List PyData} : F a = some (.tup xs) → RpAll K F xs ds → Rp K F (.ref a) (.tuple ds)
  | ktup {a : Addr} {xs : List V} {ds : List PyData} : KT K a xs → RpAll K F xs ds → Rp K F (.ref a) (.tuple ds)
inductive RpAll (K : PySem.W.Frag) (F : Hp) : List V → List PyData → Prop
  | nil : RpAll K F [] []
  | cons {v : V} {vs : List V} {d : PyData} {ds : List PyData} : Rp K F v d → RpAll K F vs ds → RpAll K F (v :: vs) (d :: ds)
end
section
variable {K : PySem.W.Frag} {F F' H : Hp}
mutual
theorem Rp.mono (e : Same F F') : ∀ {v : V} {d : PyData}, Rp K F v d → Rp K F' v d
  | _, _, .non => .non
  | _, _, .bl b => .bl b
  | _, _, .int i => .int i
  | _, _, .str x => .str x
  | _, _, .lst h a => .lst (e _ _ h) (RpAll.mono e a)
  | _, _, .tup h a => .tup (e _ _ h) (RpAll.mono e a)
  | _, _, .ktup h a => .ktup h (RpAll.mono e a)
theorem RpAll.mono (e : Same F F') : ∀ {vs : List V} {ds : List PyData}, RpAll K F vs ds → RpAll K F' vs ds
  | _, _, .nil => .nil
  | _, _, .cons h a => .cons (Rp.mono e h) (RpAll.mono e a)
end
mutual
theorem Rp.dp : ∀ {v : V} {d : PyData}, Rp K F v d → Dp K F v d
  | _, _, .non => .non
  | _, _, .bl b => .bl b
  | _, _, .int i => .int i
  | _, _, .str x => .str x
  | _, _, .lst h a => .lst (.inl (.inl h)) (RpAll.dp a)
  | _, _, .tup h a => .tup (.inl (.inl h)) (RpAll.dp a)
  | _, _, .ktup h a => .tup (.inr h) (RpAll.dp a)
theorem RpAll.dp : ∀ {vs : List V} {ds : List PyData}, RpAll K F vs ds → DpAll K F vs ds
  | _, _, .nil => .nil
  | _, _, .cons h a => .cons (Rp.dp h) (RpAll.dp a)
end
theorem RpAll.length : ∀ {vs : List V} {ds : List PyData}, RpAll K F vs ds → vs.length = ds.length
  | _, _, .nil => rfl
  | _, _, .cons _ a => by rw [List.length_cons, List.length_cons, RpAll.length a]
theorem RpAll.at : ∀ {vs : List V} {ds : List PyData} {i : Nat} {d : PyData}, RpAll K F vs ds → ds[i]? = some d → ∃ v, vs[i]? = some v ∧ Rp K F v d
  | _, _, _, _, .nil, e => by simp at e
  | _, _, 0, _, .cons h _, e => by simp at e; subst e; exact ⟨_, rfl, h⟩
  | _, _, i + 1, d, .cons _ a, e => by
    obtain ⟨v, h1, h2⟩ := RpAll.at (i := i) (d := d) a (by simpa using e)
    exact ⟨v, by simpa using h1, h2⟩
theorem RpAll.at' {vs : List V} {ds : List PyData} {i : Nat} {v : V} (a : RpAll K F vs ds) (e : vs[i]? = some v) : ∃ d, ds[i]? = some d ∧ Rp K F v d := by
  have hi : i < vs.length := (List.getElem?_eq_some_iff.mp e).1
  rw [a.length] at hi
  obtain ⟨v', h1, h2⟩ := a.at (List.getElem?_eq_getElem hi)
  rw [e] at h1
  cases h1
  exact ⟨_, List.getElem?_eq_getElem hi, h2⟩
theorem RpAll.append : ∀ {vs ws : List V} {ds es : List PyData}, RpAll K F vs ds → RpAll K F ws es → RpAll K F (vs ++ ws) (ds ++ es)
  | _, _, _, _, .nil, b => b
  | _, _, _, _, .cons h a, b => .cons h (RpAll.append a b)
theorem RpAll.take : ∀ (n : Nat) {vs : List V} {ds : List PyData}, RpAll K F vs ds → RpAll K F (vs.take n) (ds.take n)
  | 0, _, _, _ => .nil
  | _ + 1, _, _, .nil => .nil
  | n + 1, _, _, .cons h a => .cons h (RpAll.take n a)
theorem RpAll.drop : ∀ (n : Nat) {vs : List V} {ds : List PyData}, RpAll K F vs ds → RpAll K F (vs.drop n) (ds.drop n)
  | 0, _, _, a => a
  | _ + 1, _, _, .nil => .nil
  | n + 1, _, _, .cons _ a => RpAll.drop n a
theorem RpAll.set {v : V} {d : PyData} (h : Rp K F v d) : ∀ (i : Nat) {vs : List V} {ds : List PyData}, RpAll K F vs ds → RpAll K F (vs.set i v) (ds.set i d)
  | _, _, _, .nil => .nil
  | 0, _, _, .cons _ a => .cons h a
  | i + 1, _, _, .cons g a => .cons g (RpAll.set h i a)
theorem RpAll.reverse {vs : List V} {ds : List PyData} (a : RpAll K F vs ds) : RpAll K F vs.reverse ds.reverse := by
  induction a using RpAll.rec (motive_1 := fun _ _ _ => True) with
  | nil => exact .nil
  | cons h _ _ ih => rw [List.reverse_cons, List.reverse_cons]; exact ih.append (.cons h .nil)
  | _ => trivial
theorem RpAll.erase : ∀ (i : Nat) {vs : List V} {ds : List PyData}, RpAll K F vs ds → RpAll K F (vs.eraseIdx i) (ds.eraseIdx i)
  | _, _, _, .nil => .nil
  | 0, _, _, .cons _ a => a
  | i + 1, _, _, .cons g a => .cons g (RpAll.erase i a)
theorem RpAll.dropLast {vs : List V} {ds : List PyData} (a : RpAll K F vs ds) : RpAll K F vs.dropLast ds.dropLast := by
  rw [List.dropLast_eq_take, List.dropLast_eq_take, a.length]
  exact a.take _
theorem RpAll.rep {vs : List V} {ds : List PyData} (a : RpAll K F vs ds) : ∀ n : Nat, RpAll K F (List.replicate n vs).flatten (List.replicate n ds).flatten
  | 0 => .nil
  | n + 1 => by rw [List.replicate_succ, List.replicate_succ, List.flatten_cons, List.flatten_cons]; exact a.append (RpAll.rep a n)
theorem RpAll.ints : ∀ {vs : List V} {ns : List Int}, RpAll K F vs (ns.map PyData.int) → vs = ns.map V.int
  | [], [], _ => rfl
  | _, _ :: _, .cons h a => by
    cases h
    rw [List.map_cons, ← RpAll.ints a]
theorem RpAll.bools : ∀ {vs : List V} {ns : List Bool}, RpAll K F vs (ns.map PyData.bool) → vs = ns.map V.bl
  | [], [], _ => rfl
  | _, _ :: _, .cons h a => by
    cases h
    rw [List.map_cons, ← RpAll.bools a]
theorem RpAll.of_ints : ∀ (ns : List Int), RpAll K F (ns.map V.int) (ns.map PyData.int)
  | [] => .nil
  | n :: r => .cons (.int n) (RpAll.of_ints r)
end

/-! ### steps of the heap -/
/-- the pot: a list of two numbers, changed by draws alone -/
def PotOk (H : Hp) (pp : Addr) : Prop := ∃ a b : Int, H pp = some (.lst [.int a, .int b]) ∧ 0 ≤ a ∧ 0 ≤ b ∧ b < 4294967296
/-- the base: F is the frozen part of H -/
structure Bs (pp : Addr) (F H : Hp) : Prop where
  fh : Same F H
  fp : F pp = none
  po : PotOk H pp
structure Stp (pp : Addr) (F H F' H' : Hp) : Prop where
  ff : Same F F'
  fh : Same F' H'
  fr : ∀ b o, b ≠ pp → H b = some o → H' b = some o
  nf : ∀ b o, F' b = some o → F b = some o ∨ H b = none
  po : PotOk H' pp
section
variable {pp : Addr} {F H F1 H1 F2 H2 : Hp}
theorem PotOk.some {H : Hp} {pp : Addr} (p : PotOk H pp) : H pp ≠ none := fun e => by
  obtain ⟨a, b, h, _⟩ := p
  rw [e] at h
  cases h
theorem Stp.refl (b : Bs pp F H) : Stp pp F H F H := ⟨Same.refl F, b.fh, fun _ _ _ h => h, fun _ _ h => .inl h, b.po⟩
theorem Stp.bs (b : Bs pp F H) (s : Stp pp F H F1 H1) : Bs pp F1 H1 := ⟨s.fh, by
  cases q : F1 pp with
  | none => rfl
  | some o =>
    rcases s.nf pp o q with e | e
    · rw [b.fp] at e; cases e
    · exact absurd e b.po.some, s.po⟩
theorem Stp.trans (a : Stp pp F H F1 H1) (b : Stp pp F1 H1 F2 H2) : Stp pp F H F2 H2 := by
  refine ⟨a.ff.trans b.ff, b.fh, fun c o n h => b.fr c o n (a.fr c o n h), fun c o h => ?_, b.po⟩
  rcases b.nf c o h with e | e
  · exact a.nf c o e
  · by_cases hc : c = pp
    · subst hc; exact absurd e a.po.some
    · refine .inr ?_
      cases q : H c with
      | none => rfl
      | some u => rw [a.fr c u hc q] at e; cases e
/-- a new object, frozen at once -/
theorem Stp.new {p : Addr} {o : HO} (b : Bs pp F H) (n : H p = none) : Stp pp F H (upd F p o) (upd H p o) := by
  have hp : pp ≠ p := fun e => by subst e; exact b.po.some n
  refine ⟨fun c u h => ?_, fun c u h => ?_, fun c u _ h => ?_, fun c u h => ?_, ?_⟩
  · rw [upd_ne (ne_of_none (b.fh c u h) n)]; exact h
  · by_cases e : c = p
    · subst e; rw [upd_same] at h; rw [upd_same]; exact h
    · rw [upd_ne e] at h; rw [upd_ne e]; exact b.fh c u h
  · rw [upd_ne (ne_of_none h n)]; exact h
  · by_cases e : c = p
    · subst e; exact .inr n
    · rw [upd_ne e] at h; exact .inl h
  · obtain ⟨x, y, e, q⟩ := b.po
    exact ⟨x, y, by rw [upd_ne hp]; exact e, q⟩
/-- a new object, owned -/
theorem Stp.newO {p : Addr} {o : HO} (b : Bs pp F H) (n : H p = none) : Stp pp F H F (upd H p o) := by
  have hp : pp ≠ p := fun e => by subst e; exact b.po.some n
  refine ⟨Same.refl F, fun c u h => ?_, fun c u _ h => ?_, fun c u h => .inl h, ?_⟩
  · rw [upd_ne (ne_of_none (b.fh c u h) n)]; exact b.fh c u h
  · rw [upd_ne (ne_of_none h n)]; exact h
  · obtain ⟨x, y, e, q⟩ := b.po
    exact ⟨x, y, by rw [upd_ne hp]; exact e, q⟩
theorem Bs.keep (b : Bs pp F H) {a : Addr} {o : HO} (h : F a = some o) : H a = some o := b.fh a o h
/-- an owned object is written: seen from a state where it was not -/
theorem Stp.write {p : Addr} {o : HO} (s : Stp pp F H F1 H1) (n : H p = none) (f : F1 p = none) (np : p ≠ pp) : Stp pp F H F1 (upd H1 p o) := by
  refine ⟨s.ff, fun c u h => ?_, fun c u hc h => ?_, s.nf, ?_⟩
  · rw [upd_ne (ne_of_none h f)]; exact s.fh c u h
  · rw [upd_ne (ne_of_none h n)]; exact s.fr c u hc h
  · obtain ⟨x, y, e, q⟩ := s.po
    exact ⟨x, y, by rw [upd_ne (Ne.symm np)]; exact e, q⟩
/-- an owned object is frozen -/
theorem Stp.freeze {p : Addr} {o : HO} (s : Stp pp F H F1 H1) (n : H p = none) (f : F1 p = none) (h : H1 p = some o) : Stp pp F H (upd F1 p o) H1 := by
  refine ⟨fun c u e => ?_, fun c u e => ?_, s.fr, fun c u e => ?_, s.po⟩
  · have e1 := s.ff c u e
    rw [upd_ne (ne_of_none e1 f)]; exact e1
  · by_cases z : c = p
    · subst z; rw [upd_same] at e; cases e; exact h
    · rw [upd_ne z] at e; exact s.fh c u e
  · by_cases z : c = p
    · subst z; exact .inr n
    · rw [upd_ne z] at e; exact s.nf c u e
theorem Stp.own (s : Stp pp F H F1 H1) {p : Addr} (f : F p = none) (h : H p ≠ none) : F1 p = none := by
  cases q : F1 p with
  | none => rfl
  | some o =>
    rcases s.nf p o q with e | e
    · rw [f] at e; cases e
    · exact absurd e h
theorem same_upd {F : Hp} {p : Addr} {o : HO} (f : F p = none) : Same F (upd F p o) := fun c u h => by
  rw [upd_ne (ne_of_none h f)]; exact h
end

/-! ### slots -/
inductive Sl where
  | no | fz (d : PyData) | ow (ds : List PyData) | pt
abbrev Sls := List Sl
structure Wd where
  pp : Addr
  F0 : Hp
  H0 : Hp
def SlOk (K : PySem.W.Frag) (W : Wd) (F H : Hp) (o : Option (Option V)) : Sl → Prop
  | .no => True
  | .fz d => ∃ v, o = some (some v) ∧ Rp K F v d
  | .ow ds => ∃ p xs, o = some (some (.ref p)) ∧ H p = some (.lst xs) ∧ F p = none ∧ p ≠ W.pp ∧ W.H0 p = none ∧ RpAll K F xs ds
  | .pt => o = some (some (.ref W.pp))
structure Rel (K : PySem.W.Frag) (W : Wd) (env : Sls) (σ : L2.St) (F H : Hp) : Prop where
  b0 : Bs W.pp W.F0 W.H0
  st : Stp W.pp W.F0 W.H0 F H
  len : σ.length = env.length
  sl : ∀ (i : Nat) (s : Sl), env[i]? = some s → SlOk K W F H (σ[i]?) s
  dis : ∀ (i j : Nat) (p : Addr) (ds es : List PyData), env[i]? = some (.ow ds) → env[j]? = some (.ow es) → σ[i]? = some (some (.ref p)) → σ[j]? = some (some (.ref p)) → i = j
section
variable {K : PySem.W.Frag} {W : Wd} {env : Sls} {σ : L2.St} {F H F' H' : Hp}
theorem Rel.bs (r : Rel K W env σ F H) : Bs W.pp F H := Stp.bs r.b0 r.st
theorem Rel.step (r : Rel K W env σ F H) (s : Stp W.pp F H F' H') : Rel K W env σ F' H' := by
  refine ⟨r.b0, r.st.trans s, r.len, fun i q e => ?_, r.dis⟩
  have h := r.sl i q e
  cases q with
  | no => trivial
  | fz d => obtain ⟨v, h1, h2⟩ := h; exact ⟨v, h1, h2.mono s.ff⟩
  | ow ds =>
    obtain ⟨p, xs, h1, h2, h3, h4, h5, h6⟩ := h
    exact ⟨p, xs, h1, s.fr _ _ h4 h2, s.own h3 (by rw [h2]; exact fun z => nomatch z), h4, h5, h6.mono s.ff⟩
  | pt => exact h
theorem Rel.fz (r : Rel K W env σ F H) {i : Nat} {d : PyData} (e : env[i]? = some (.fz d)) : ∃ v, σ[i]? = some (some v) ∧ Rp K F v d := r.sl i _ e
/-- a slot is set to frozen data -/
theorem Rel.set (r : Rel K W env σ F H) {v : V} {d : PyData} (h : Rp K F v d) (i : Nat) : Rel K W (env.set i (.fz d)) (σ.set i (some v)) F H := by
  refine ⟨r.b0, r.st, by rw [List.length_set, List.length_set]; exact r.len, fun j q e => ?_, fun j l p ds es e1 e2 g1 g2 => ?_⟩
  · rw [List.getElem?_set] at e ⊢
    by_cases hj : i = j
    · subst hj
      rw [if_pos rfl] at e ⊢
      by_cases hl : i < env.length
      · rw [if_pos hl] at e
        cases e
        rw [if_pos (by rw [r.len]; exact hl)]
        exact ⟨v, rfl, h⟩
      · rw [if_neg hl] at e; cases e
    · rw [if_neg hj] at e ⊢
      exact r.sl j q e
  · have n1 : i ≠ j := fun z => by
      subst z
      rw [List.getElem?_set, if_pos rfl] at e1
      split at e1 <;> cases e1
    have n2 : i ≠ l := fun z => by
      subst z
      rw [List.getElem?_set, if_pos rfl] at e2
      split at e2 <;> cases e2
    rw [List.getElem?_set_ne n1] at e1 g1
    rw [List.getElem?_set_ne n2] at e2 g2
    exact r.dis j l p ds es e1 e2 g1 g2
/-- a slot is forgotten -/
theorem Rel.unset (r : Rel K W env σ F H) (o : Option V) (i : Nat) : Rel K W (env.set i .no) (σ.set i o) F H := by
  refine ⟨r.b0, r.st, by rw [List.length_set, List.length_set]; exact r.len, fun j q e => ?_, fun j l p ds es e1 e2 g1 g2 => ?_⟩
  · rw [List.getElem?_set] at e ⊢
    by_cases hj : i = j
    · subst hj
      rw [if_pos rfl] at e
      by_cases hl : i < env.length
      · rw [if_pos hl] at e
        cases e
        trivial
      · rw [if_neg hl] at e; cases e
    · rw [if_neg hj] at e ⊢
      exact r.sl j q e
  · have n1 : i ≠ j := fun z => by
      subst z
      rw [List.getElem?_set, if_pos rfl] at e1
      split at e1 <;> cases e1
    have n2 : i ≠ l := fun z => by
      subst z
      rw [List.getElem?_set, if_pos rfl] at e2
      split at e2 <;> cases e2
    rw [List.getElem?_set_ne n1] at e1 g1
    rw [List.getElem?_set_ne n2] at e2 g2
    exact r.dis j l p ds es e1 e2 g1 g2
/-- a slot gets a new list of its own -/
theorem Rel.setO (r : Rel K W env σ F H) {p : Addr} {xs : List V} {ds : List PyData} (n : H p = none) (h : RpAll K F xs ds) (i : Nat) :
    Rel K W (env.set i (.ow ds)) (σ.set i (some (.ref p))) F (upd H p (.lst xs)) := by
  have B := r.bs
  have r2 := r.step (Stp.newO (o := .lst xs) B n)
  have hf : F p = none := by
    cases q : F p with
    | none => rfl
    | some o => rw [B.fh p o q] at n; cases n
  have np : p ≠ W.pp := fun e => by subst e; exact B.po.some n
  have h0 : W.H0 p = none := by
    cases q : W.H0 p with
    | none => rfl
    | some o => rw [r.st.fr p o np q] at n; cases n
  have apart : ∀ (j : Nat) (q : Addr) (es : List PyData), env[j]? = some (Sl.ow es) → σ[j]? = some (some (V.ref q)) → q ≠ p := fun j q es e g => by
    obtain ⟨p', xs', h1, h2, _⟩ := r.sl j _ e
    rw [g] at h1
    cases h1
    exact ne_of_none h2 n
  refine ⟨r.b0, r2.st, by rw [List.length_set, List.length_set]; exact r.len, fun j q e => ?_, fun j l q ds' es e1 e2 g1 g2 => ?_⟩
  · rw [List.getElem?_set] at e ⊢
    by_cases hj : i = j
    · subst hj
      rw [if_pos rfl] at e ⊢
      by_cases hl : i < env.length
      · rw [if_pos hl] at e
        cases e
        rw [if_pos (by rw [r.len]; exact hl)]
        exact ⟨p, xs, rfl, upd_same, hf, np, h0, h⟩
      · rw [if_neg hl] at e; cases e
    · rw [if_neg hj] at e ⊢
      exact r2.sl j q e
  · by_cases n1 : i = j
    · by_cases n2 : i = l
      · rw [← n1, ← n2]
      · subst n1
        rw [List.getElem?_set_ne n2] at e2 g2
        have hl : i < σ.length := by
          rw [List.getElem?_set, if_pos rfl] at g1
          split at g1
          · assumption
          · cases g1
        rw [List.getElem?_set_self hl] at g1
        cases g1
        exact absurd rfl (apart l p es e2 g2)
    · by_cases n2 : i = l
      · subst n2
        rw [List.getElem?_set_ne n1] at e1 g1
        have hl : i < σ.length := by
          rw [List.getElem?_set, if_pos rfl] at g2
          split at g2
          · assumption
          · cases g2
        rw [List.getElem?_set_self hl] at g2
        cases g2
        exact absurd rfl (apart j p ds' e1 g1)
      · rw [List.getElem?_set_ne n1] at e1 g1
        rw [List.getElem?_set_ne n2] at e2 g2
        exact r.dis j l q ds' es e1 e2 g1 g2
/-- an owned list is written -/
theorem Rel.wr (r : Rel K W env σ F H) {i : Nat} {p : Addr} {ds ds' : List PyData} {xs' : List V} (e : env[i]? = some (.ow ds)) (g : σ[i]? = some (some (.ref p))) (h : RpAll K F xs' ds') :
    Rel K W (env.set i (.ow ds')) σ F (upd H p (.lst xs')) := by
  obtain ⟨p', xs, h1, h2, h3, h4, h5, h6⟩ := r.sl i _ e
  rw [g] at h1
  cases h1
  have hi : i < env.length := (List.getElem?_eq_some_iff.mp e).1
  refine ⟨r.b0, r.st.write h5 h3 h4, by rw [List.length_set]; exact r.len, fun j q e' => ?_, fun j l q ds1 es e1 e2 g1 g2 => ?_⟩
  · by_cases hj : i = j
    · subst hj
      rw [List.getElem?_set_self hi] at e'
      cases e'
      exact ⟨p, xs', g, upd_same, h3, h4, h5, h⟩
    · rw [List.getElem?_set_ne hj] at e'
      have z := r.sl j q e'
      cases q with
      | no => trivial
      | fz d => exact z
      | ow es =>
        obtain ⟨p2, ys, z1, z2, z3, z4, z5, z6⟩ := z
        refine ⟨p2, ys, z1, ?_, z3, z4, z5, z6⟩
        have np : p2 ≠ p := fun ee => by
          subst ee
          exact hj (r.dis i j p2 ds es e e' g z1)
        rw [upd_ne np]; exact z2
      | pt => exact z
  · have back : ∀ (m : Nat) (ds2 : List PyData), (env.set i (Sl.ow ds'))[m]? = some (Sl.ow ds2) → ∃ ds3, env[m]? = some (Sl.ow ds3) := fun m ds2 h => by
      by_cases hm : i = m
      · subst hm; exact ⟨ds, e⟩
      · rw [List.getElem?_set_ne hm] at h; exact ⟨ds2, h⟩
    obtain ⟨d1, f1⟩ := back j ds1 e1
    obtain ⟨d2, f2⟩ := back l es e2
    exact r.dis j l q d1 d2 f1 f2 g1 g2
/-- an owned list is frozen -/
theorem Rel.fzo (r : Rel K W env σ F H) {i : Nat} {ds : List PyData} (e : env[i]? = some (.ow ds)) : ∃ F', Same F F' ∧ Rel K W (env.set i (.fz (.list ds))) σ F' H := by
  obtain ⟨p, xs, h1, h2, h3, h4, h5, h6⟩ := r.sl i _ e
  have hi : i < env.length := (List.getElem?_eq_some_iff.mp e).1
  have sf : Same F (upd F p (.lst xs)) := same_upd h3
  have st : Stp W.pp W.F0 W.H0 (upd F p (.lst xs)) H := r.st.freeze h5 h3 h2
  refine ⟨upd F p (.lst xs), sf, r.b0, st, by rw [List.length_set]; exact r.len, fun j q e' => ?_, fun j l q ds1 es e1 e2 g1 g2 => ?_⟩
  · by_cases hj : i = j
    · subst hj
      rw [List.getElem?_set_self hi] at e'
      cases e'
      exact ⟨.ref p, h1, .lst upd_same (h6.mono sf)⟩
    · rw [List.getElem?_set_ne hj] at e'
      have z := r.sl j q e'
      cases q with
      | no => trivial
      | fz d => obtain ⟨v, z1, z2⟩ := z; exact ⟨v, z1, z2.mono sf⟩
      | ow es =>
        obtain ⟨p2, ys, z1, z2, z3, z4, z5, z6⟩ := z
        refine ⟨p2, ys, z1, z2, ?_, z4, z5, z6.mono sf⟩
        have np : p2 ≠ p := fun ee => by
          subst ee
          exact hj (r.dis i j p2 ds es e e' h1 z1)
        rw [upd_ne np]; exact z3
      | pt => exact z
  · have back : ∀ (m : Nat) (ds2 : List PyData), (env.set i (Sl.fz (.list ds)))[m]? = some (Sl.ow ds2) → env[m]? = some (Sl.ow ds2) := fun m ds2 h => by
      by_cases hm : i = m
      · subst hm; rw [List.getElem?_set_self hi] at h; cases h
      · rw [List.getElem?_set_ne hm] at h; exact h
    exact r.dis j l q ds1 es (back j ds1 e1) (back l es e2) g1 g2
end
end Dl

namespace Dl
open PySem PySem.Spec PyProof.Rows L2

abbrev KF := PyData → Bool
abbrev DE := Sls → KF → Bool
abbrev DT := Sls → (Bool → Bool) → Bool
abbrev DA := Sls → (List PyData → Bool) → Bool
abbrev G2 := PyData → PyData → KF → Bool
abbrev G1 := PyData → KF → Bool

def look : Sls → Nat → Sl
  | [], _ => .no
  | s :: _, 0 => s
  | _ :: r, n + 1 => look r n
theorem look_some : ∀ {env : Sls} {i : Nat} {s : Sl}, look env i = s → s ≠ .no → env[i]? = some s
  | [], _, _, h, n => absurd h.symm n
  | _ :: _, 0, _, h, _ => by rw [← h]; rfl
  | _ :: r, i + 1, s, h, n => by
    rw [List.getElem?_cons_succ]
    exact look_some (env := r) h n

section
variable (K : PySem.W.Frag) (W : Wd)
def OkE (t : TE) (e : DE) : Prop := ∀ (env : Sls) (σ : L2.St) (F H : Hp) (k : KF) (Q : VK), Rel K W env σ F H → e env k = true → (∀ d v F' H', Stp W.pp F H F' H' → Rp K F' v d → k d = true → Q v H') → t σ H Q
def OkT (t : TT) (e : DT) : Prop := ∀ (env : Sls) (σ : L2.St) (F H : Hp) (k : Bool → Bool) (Q : Bool → Hp → Prop), Rel K W env σ F H → e env k = true → (∀ b F' H', Stp W.pp F H F' H' → k b = true → Q b H') → t σ H Q
def OkA (t : TA) (e : DA) : Prop := ∀ (env : Sls) (σ : L2.St) (F H : Hp) (k : List PyData → Bool) (Q : List V → Hp → Prop), Rel K W env σ F H → e env k = true → (∀ ds vs F' H', Stp W.pp F H F' H' → RpAll K F' vs ds → k ds = true → Q vs H') → t σ H Q
def OkR (r : R2) (g : G2) : Prop := ∀ (F H : Hp) (x y : V) (a b : PyData) (k : KF) (Q : VK), Bs W.pp F H → Rp K F x a → Rp K F y b → g a b k = true → (∀ d v F' H', Stp W.pp F H F' H' → Rp K F' v d → k d = true → Q v H') → r x y H Q
def OkU (r : V → Hp → VK → Prop) (g : G1) : Prop := ∀ (F H : Hp) (x : V) (a : PyData) (k : KF) (Q : VK), Bs W.pp F H → Rp K F x a → g a k = true → (∀ d v F' H', Stp W.pp F H F' H' → Rp K F' v d → k d = true → Q v H') → r x H Q
/-- a call of a built-in by its arguments -/
abbrev GC := List PyData → KF → Bool
def OkC (r : List V → Hp → VK → Prop) (g : GC) : Prop := ∀ (F H : Hp) (vs : List V) (ds : List PyData) (k : KF) (Q : VK), Bs W.pp F H → RpAll K F vs ds → g ds k = true → (∀ d v F' H', Stp W.pp F H F' H' → Rp K F' v d → k d = true → Q v H') → r vs H Q
end

structure SE (W : Wd) (X : Cx) (e : Expr) (de : DE) : Prop where
  ex : ∃ t, PE X e t ∧ OkE X.K W t de
structure ST (W : Wd) (X : Cx) (e : Expr) (dt : DT) : Prop where
  ex : ∃ t, PT X e t ∧ OkT X.K W t dt
structure SW (W : Wd) (X : Cx) (e : Expr) (dt : DT) : Prop where
  ex : ∃ t, PW X e t ∧ OkT X.K W t dt
structure SA (W : Wd) (X : Cx) (es : List Expr) (da : DA) : Prop where
  ex : ∃ t, PA X es t ∧ OkA X.K W t da

/-! ### combinators -/
def dVar (i : Nat) : DE := fun env k => match look env i with
  | .fz d => k d
  | _ => false
def dC (d : PyData) : DE := fun _ k => k d
def dOp (g : G2) (a b : DE) : DE := fun env k => a env fun x => b env fun y => g x y k
def dUn (g : G1) (a : DE) : DE := fun env k => a env fun x => g x k
def dB (a : DE) : DT := fun env k => a env fun x => match x with
  | .bool b => k b
  | _ => false
def dAnd (a b : DT) : DT := fun env k => a env fun c => match c with
  | true => b env k
  | false => k false
def dOr (a b : DT) : DT := fun env k => a env fun c => match c with
  | true => k true
  | false => b env k
def dNot (a : DT) : DT := fun env k => a env fun c => k (!c)
def dAndV (a b : DE) : DE := fun env k => a env fun x => match x with
  | .bool true => b env k
  | .bool false => k (.bool false)
  | _ => false
def dOrV (a b : DE) : DE := fun env k => a env fun x => match x with
  | .bool true => k (.bool true)
  | .bool false => b env k
  | _ => false
def dNotV (a : DE) : DE := fun env k => a env fun x => match x with
  | .bool c => k (.bool (!c))
  | _ => false
def dIf (c : DT) (a b : DE) : DE := fun env k => c env fun x => match x with
  | true => a env k
  | false => b env k
def aNil : DA := fun _ k => k []
def aCons (a : DE) (r : DA) : DA := fun env k => a env fun x => r env fun xs => k (x :: xs)
def small (n : Nat) : Bool := Nat.ble n 100000
theorem small_ok {n : Nat} (h : small n = true) : n ≤ sizeLine := Nat.le_trans (Nat.le_of_ble_eq_true h) (by decide)
def dTup (a : DA) : DE := fun env k => a env fun xs => match small xs.length with
  | true => k (.tuple xs)
  | false => false
def dLst (a : DA) : DE := fun env k => a env fun xs => match small xs.length with
  | true => k (.list xs)
  | false => false
def dCB (g : GC) (a : DA) : DE := fun env k => a env fun xs => g xs k

section
variable {W : Wd} {X : Cx} {K : PySem.W.Frag} {ea eb ec : Expr} {da db dc : DE} {ta tb tc : DT} {pos : Pos} {es : List Expr} {dr : DA}

theorem se_var {i : Nat} {x : Str} (hN : X.N[i]? = some x := by rfl) (hv : Vis X.env.scope x := by first | exact Or.inl rfl | exact Or.inr (Or.inl rfl) | exact Or.inr (Or.inr rfl)) (hd : (x == ("__debug__" : Str)) = false := by decide)
    (hcd : (x == ("__classdict__" : Str)) = false := by decide) : SE W X (.Name x pos) (dVar i) := by
  refine ⟨_, pe_var hN hv hd hcd, fun env σ F H k Q R h q => ?_⟩
  unfold dVar at h
  cases e : look env i with
  | fz d =>
    rw [e] at h
    obtain ⟨v, h1, h2⟩ := R.fz (look_some e (fun z => nomatch z))
    exact ⟨v, h1, q d v F H (Stp.refl R.bs) h2 h⟩
  | _ => rw [e] at h; cases h
theorem okE_c {v : V} {d : PyData} (r : ∀ F, Rp K F v d) : OkE K W (tC v) (dC d) := fun env σ F H k Q R h q => q d v F H (Stp.refl R.bs) (r F) h
theorem se_int {i j} : SE W X (.Constant (.int i) j pos) (dC (.int i)) := ⟨_, pe_int, okE_c fun _ => .int i⟩
theorem se_bl {b j} : SE W X (.Constant (.bool b) j pos) (dC (.bool b)) := ⟨_, pe_bl, okE_c fun _ => .bl b⟩
theorem se_non {j} : SE W X (.Constant .none j pos) (dC .none) := ⟨_, pe_non, okE_c fun _ => .non⟩
theorem se_str {x j} : SE W X (.Constant (.str x) j pos) (dC (.str x)) := ⟨_, pe_str, okE_c fun _ => .str x⟩
/-- a constant of the module -/
structure Glo (K : PySem.W.Frag) (mg : Str → Option Value) (x : Str) (d : PyData) : Prop where
  ex : ∃ u v, mg x = some u ∧ RelV v u ∧ ∀ F, Rp K F v d
theorem se_glob {x : Str} {d : PyData} (g : Glo X.K X.mg x d) (hg : Gl X x := by rfl) (hd : (x == ("__debug__" : Str)) = false := by decide) : SE W X (.Name x pos) (dC d) := by
  obtain ⟨u, v, h1, h2, h3⟩ := g
  exact ⟨_, pe_glob hg h1 h2 hd, okE_c h3⟩
theorem okE_op {ta tb : TE} {r : R2} {g : G2} (a : OkE K W ta da) (b : OkE K W tb db) (hr : OkR K W r g) : OkE K W (tOp r ta tb) (dOp g da db) := fun env σ F H k Q R h q =>
  a env σ F H _ _ R h fun d v F1 H1 s1 r1 h1 => b env σ F1 H1 _ _ (R.step s1) h1 fun d2 v2 F2 H2 s2 r2 h2 =>
    hr F2 H2 v v2 d d2 k Q ((R.step s1).step s2).bs (r1.mono s2.ff) r2 h2 fun d3 v3 F3 H3 s3 r3 h3 => q d3 v3 F3 H3 ((s1.trans s2).trans s3) r3 h3
theorem okE_un {ta : TE} {r : V → Hp → VK → Prop} {g : G1} (a : OkE K W ta da) (hr : OkU K W r g) : OkE K W (tUn r ta) (dUn g da) := fun env σ F H k Q R h q =>
  a env σ F H _ _ R h fun d v F1 H1 s1 r1 h1 => hr F1 H1 v d k Q (R.step s1).bs r1 h1 fun d3 v3 F3 H3 s3 r3 h3 => q d3 v3 F3 H3 (s1.trans s3) r3 h3
theorem se_bin {op : Operator} {r : R2} {g : G2} (ho : OpR X (binaryOp op) r) (hr : OkR X.K W r g) (a : SE W X ea da) (b : SE W X eb db) : SE W X (.BinOp ea op eb pos) (dOp g da db) := by
  obtain ⟨t1, p1, o1⟩ := a
  obtain ⟨t2, p2, o2⟩ := b
  exact ⟨_, pe_op ho p1 p2, okE_op o1 o2 hr⟩
theorem se_un {op : UnaryOp} {r : V → Hp → VK → Prop} {g : G1} (ho : UnR X (unaryOp op) r) (hr : OkU X.K W r g) (a : SE W X ea da) : SE W X (.UnaryOp op ea pos) (dUn g da) := by
  obtain ⟨t1, p1, o1⟩ := a
  exact ⟨_, pe_un ho p1, okE_un o1 hr⟩
theorem se_cmp {op : CmpOp} {r : R2} {g : G2} (ho : OpR X (compareOp op) r) (hr : OkR X.K W r g) (a : SE W X ea da) (b : SE W X eb db) (hm : behindInMarks op eb = false := by exact nomark _) : SE W X (.Compare ea [op] [eb] pos) (dOp g da db) := by
  obtain ⟨t1, p1, o1⟩ := a
  obtain ⟨t2, p2, o2⟩ := b
  exact ⟨_, pe_cmpR ho p1 p2 hm, okE_op o1 o2 hr⟩
theorem okT_test {t : TE} (a : OkE K W t da) : OkT K W (tTest t) (dB da) := fun env σ F H k Q R h q =>
  a env σ F H _ _ R h fun d v F1 H1 s1 r1 h1 => by
    cases d with
    | bool b => cases r1; exact ⟨b, rfl, q b F1 H1 s1 h1⟩
    | _ => cases h1
theorem okT_B {t : TE} (a : OkE K W t da) : OkT K W (tB t) (dB da) := okT_test a
theorem st_cmp {op : CmpOp} {r : R2} {g : G2} (ho : OpR X (compareOp op) r) (hr : OkR X.K W r g) (a : SE W X ea da) (b : SE W X eb db) (hm : behindInMarks op eb = false := by exact nomark _) : ST W X (.Compare ea [op] [eb] pos) (dB (dOp g da db)) := by
  obtain ⟨t1, p1, o1⟩ := a
  obtain ⟨t2, p2, o2⟩ := b
  exact ⟨_, pt_cmpR ho p1 p2 hm, okT_test (okE_op o1 o2 hr)⟩
/-- a < b < c -/
def dChain (g g' : G2) (a b c : DE) : DE := fun env k => a env fun x => b env fun y => g x y fun z => match z with
  | .bool true => c env fun w => g' y w k
  | .bool false => k (.bool false)
  | _ => false
theorem okE_chain {t1 t2 t3 : TE} {r r' : R2} {g g' : G2} (a : OkE K W t1 da) (b : OkE K W t2 db) (c : OkE K W t3 dc) (hr : OkR K W r g) (hr' : OkR K W r' g') : OkE K W (tChain r r' t1 t2 t3) (dChain g g' da db dc) := fun env σ F H k Q R h q =>
  a env σ F H _ _ R h fun d v F1 H1 s1 r1 h1 => b env σ F1 H1 _ _ (R.step s1) h1 fun d2 v2 F2 H2 s2 r2 h2 =>
    hr F2 H2 v v2 d d2 _ _ ((R.step s1).step s2).bs (r1.mono s2.ff) r2 h2 fun d3 v3 F3 H3 s3 r3 h3 => by
      cases d3 with
      | bool z =>
        cases r3
        refine ⟨z, rfl, ?_⟩
        cases z with
        | true =>
          rw [if_pos rfl]
          refine c env σ F3 H3 _ _ (((R.step s1).step s2).step s3) h3 fun d4 v4 F4 H4 s4 r4 h4 => ?_
          exact hr' F4 H4 v2 v4 d2 d4 k Q ((((R.step s1).step s2).step s3).step s4).bs (r2.mono (s3.ff.trans s4.ff)) r4 h4 fun d5 v5 F5 H5 s5 r5 h5 => q d5 v5 F5 H5 ((((s1.trans s2).trans s3).trans s4).trans s5) r5 h5
        | false =>
          rw [if_neg Bool.false_ne_true]
          exact q _ _ F3 H3 ((s1.trans s2).trans s3) (.bl false) h3
      | _ => cases h3
theorem se_chain {op op' : CmpOp} {r r' : R2} {g g' : G2} (ho : OpR X (compareOp op) r) (hr : OkR X.K W r g) (ho' : OpR X (compareOp op') r') (hr' : OkR X.K W r' g') (a : SE W X ea da) (b : SE W X eb db) (c : SE W X ec dc)
    (hm : lastMarks [op, op'] [eb, ec] = false := by rfl) : SE W X (.Compare ea [op, op'] [eb, ec] pos) (dChain g g' da db dc) := by
  obtain ⟨t1, p1, o1⟩ := a
  obtain ⟨t2, p2, o2⟩ := b
  obtain ⟨t3, p3, o3⟩ := c
  exact ⟨_, pe_chain ho ho' p1 p2 p3 hm, okE_chain o1 o2 o3 hr hr'⟩
theorem st_chain {op op' : CmpOp} {r r' : R2} {g g' : G2} (ho : OpR X (compareOp op) r) (hr : OkR X.K W r g) (ho' : OpR X (compareOp op') r') (hr' : OkR X.K W r' g') (a : SE W X ea da) (b : SE W X eb db) (c : SE W X ec dc)
    (hm : lastMarks [op, op'] [eb, ec] = false := by rfl) : ST W X (.Compare ea [op, op'] [eb, ec] pos) (dB (dChain g g' da db dc)) := by
  obtain ⟨t1, p1, o1⟩ := a
  obtain ⟨t2, p2, o2⟩ := b
  obtain ⟨t3, p3, o3⟩ := c
  exact ⟨_, pt_chain ho ho' p1 p2 p3 hm, okT_test (okE_chain o1 o2 o3 hr hr')⟩
/-- a value as a test -/
theorem st_val (a : SE W X ea da) (he : ∀ whole, isTrue ea X.env whole = (do let v ← whole; standAt ea.pos; holding [v] (truthy v)) := by intro _; rfl) : ST W X ea (dB da) := by
  obtain ⟨t1, p1, o1⟩ := a
  exact ⟨_, pt_val p1 he, okT_B o1⟩
theorem SW.st (h : SW W X ea ta) : ST W X ea ta := by
  obtain ⟨t, p, o⟩ := h
  exact ⟨t, p.pt, o⟩
theorem sw_and1 (a : ST W X ea ta) : SW W X (.BoolOp .And [ea] pos) ta := by
  obtain ⟨t, p, o⟩ := a
  exact ⟨t, pw_and1 p, o⟩
theorem sw_or1 (a : ST W X ea ta) : SW W X (.BoolOp .Or [ea] pos) ta := by
  obtain ⟨t, p, o⟩ := a
  exact ⟨t, pw_or1 p, o⟩
theorem sw_and (a : ST W X ea ta) (b : SW W X (.BoolOp .And (eb :: es) pos) tb) : SW W X (.BoolOp .And (ea :: eb :: es) pos) (dAnd ta tb) := by
  obtain ⟨t1, p1, o1⟩ := a
  obtain ⟨t2, p2, o2⟩ := b
  refine ⟨_, pw_and p1 p2, fun env σ F H k Q R h q => ?_⟩
  refine o1 env σ F H _ _ R h fun b F1 H1 s1 h1 => ?_
  cases b with
  | true => rw [if_pos rfl]; exact o2 env σ F1 H1 _ _ (R.step s1) h1 fun b F2 H2 s2 h2 => q b F2 H2 (s1.trans s2) h2
  | false => rw [if_neg Bool.false_ne_true]; exact q false F1 H1 s1 h1
theorem sw_or (a : ST W X ea ta) (b : SW W X (.BoolOp .Or (eb :: es) pos) tb) : SW W X (.BoolOp .Or (ea :: eb :: es) pos) (dOr ta tb) := by
  obtain ⟨t1, p1, o1⟩ := a
  obtain ⟨t2, p2, o2⟩ := b
  refine ⟨_, pw_or p1 p2, fun env σ F H k Q R h q => ?_⟩
  refine o1 env σ F H _ _ R h fun b F1 H1 s1 h1 => ?_
  cases b with
  | true => rw [if_pos rfl]; exact q true F1 H1 s1 h1
  | false => rw [if_neg Bool.false_ne_true]; exact o2 env σ F1 H1 _ _ (R.step s1) h1 fun b F2 H2 s2 h2 => q b F2 H2 (s1.trans s2) h2
theorem st_not (a : ST W X ea ta) : ST W X (.UnaryOp .Not ea pos) (dNot ta) := by
  obtain ⟨t, p, o⟩ := a
  exact ⟨_, pt_not p, fun env σ F H k Q R h q => o env σ F H _ _ R h fun b F1 H1 s1 h1 => q _ F1 H1 s1 h1⟩
theorem se_one {op} (a : SE W X ea da) : SE W X (.BoolOp op [ea] pos) da := by
  obtain ⟨t, p, o⟩ := a
  exact ⟨t, pe_one p, o⟩
theorem se_and (a : SE W X ea da) (b : SE W X (.BoolOp .And (eb :: es) pos) db) : SE W X (.BoolOp .And (ea :: eb :: es) pos) (dAndV da db) := by
  obtain ⟨t1, p1, o1⟩ := a
  obtain ⟨t2, p2, o2⟩ := b
  refine ⟨_, pe_and p1 p2, fun env σ F H k Q R h q => ?_⟩
  refine o1 env σ F H _ _ R h fun d v F1 H1 s1 r1 h1 => ?_
  cases d with
  | bool c =>
    cases r1
    refine ⟨c, rfl, ?_⟩
    cases c with
    | true => rw [if_pos rfl]; exact o2 env σ F1 H1 _ _ (R.step s1) h1 fun d2 v2 F2 H2 s2 r2 h2 => q d2 v2 F2 H2 (s1.trans s2) r2 h2
    | false => rw [if_neg Bool.false_ne_true]; exact q _ _ F1 H1 s1 (.bl false) h1
  | _ => cases h1
theorem se_or (a : SE W X ea da) (b : SE W X (.BoolOp .Or (eb :: es) pos) db) : SE W X (.BoolOp .Or (ea :: eb :: es) pos) (dOrV da db) := by
  obtain ⟨t1, p1, o1⟩ := a
  obtain ⟨t2, p2, o2⟩ := b
  refine ⟨_, pe_or p1 p2, fun env σ F H k Q R h q => ?_⟩
  refine o1 env σ F H _ _ R h fun d v F1 H1 s1 r1 h1 => ?_
  cases d with
  | bool c =>
    cases r1
    refine ⟨c, rfl, ?_⟩
    cases c with
    | true => rw [if_pos rfl]; exact q _ _ F1 H1 s1 (.bl true) h1
    | false => rw [if_neg Bool.false_ne_true]; exact o2 env σ F1 H1 _ _ (R.step s1) h1 fun d2 v2 F2 H2 s2 r2 h2 => q d2 v2 F2 H2 (s1.trans s2) r2 h2
  | _ => cases h1
theorem se_not (a : SE W X ea da) : SE W X (.UnaryOp .Not ea pos) (dNotV da) := by
  obtain ⟨t, p, o⟩ := a
  refine ⟨_, pe_not p, fun env σ F H k Q R h q => o env σ F H _ _ R h fun d v F1 H1 s1 r1 h1 => ?_⟩
  cases d with
  | bool c => cases r1; exact ⟨c, rfl, q _ _ F1 H1 s1 (.bl _) h1⟩
  | _ => cases h1
theorem se_if (c : ST W X ec tc) (a : SE W X ea da) (b : SE W X eb db) : SE W X (.IfExp ec ea eb pos) (dIf tc da db) := by
  obtain ⟨t0, p0, o0⟩ := c
  obtain ⟨t1, p1, o1⟩ := a
  obtain ⟨t2, p2, o2⟩ := b
  refine ⟨_, pe_ifExp p0 p1 p2, fun env σ F H k Q R h q => ?_⟩
  refine o0 env σ F H _ _ R h fun b F1 H1 s1 h1 => ?_
  cases b with
  | true => rw [if_pos rfl]; exact o1 env σ F1 H1 _ _ (R.step s1) h1 fun d2 v2 F2 H2 s2 r2 h2 => q d2 v2 F2 H2 (s1.trans s2) r2 h2
  | false => rw [if_neg Bool.false_ne_true]; exact o2 env σ F1 H1 _ _ (R.step s1) h1 fun d2 v2 F2 H2 s2 r2 h2 => q d2 v2 F2 H2 (s1.trans s2) r2 h2
theorem sa_nil : SA W X [] aNil := ⟨_, pa_nil, fun env σ F H k Q R h q => q [] [] F H (Stp.refl R.bs) .nil h⟩
theorem sa_cons (a : SE W X ea da) (r : SA W X es dr) (hs : starEach (ea :: es) X.env = (false, eval ea X.env) :: starEach es X.env := by rfl) : SA W X (ea :: es) (aCons da dr) := by
  obtain ⟨t1, p1, o1⟩ := a
  obtain ⟨t2, p2, o2⟩ := r
  refine ⟨_, pa_cons p1 p2 hs, fun env σ F H k Q R h q => ?_⟩
  exact o1 env σ F H _ _ R h fun d v F1 H1 s1 r1 h1 => o2 env σ F1 H1 _ _ (R.step s1) h1 fun ds vs F2 H2 s2 r2 h2 => q (d :: ds) (v :: vs) F2 H2 (s1.trans s2) (.cons (r1.mono s2.ff) r2) h2
theorem se_tup {x1} (a : SA W X es dr) : SE W X (.Tuple es x1 pos) (dTup dr) := by
  obtain ⟨t, p, o⟩ := a
  refine ⟨_, pe_tup p, fun env σ F H k Q R h q => ?_⟩
  refine o env σ F H _ _ R h fun ds vs F1 H1 s1 r1 h1 => ?_
  cases e : small ds.length with
  | true =>
    rw [e] at h1
    refine ⟨by rw [r1.length]; exact small_ok e, fun a na => ?_⟩
    have B := (R.step s1).bs
    have st := Stp.new (o := .tup vs) B na
    exact q (.tuple ds) (.ref a) _ _ (s1.trans st) (.tup upd_same (r1.mono st.ff)) h1
  | false => rw [e] at h1; cases h1
theorem se_lst (a : SA W X es dr) : SE W X (.List es pos) (dLst dr) := by
  obtain ⟨t, p, o⟩ := a
  refine ⟨_, pe_lst p, fun env σ F H k Q R h q => ?_⟩
  refine o env σ F H _ _ R h fun ds vs F1 H1 s1 r1 h1 => ?_
  cases e : small ds.length with
  | true =>
    rw [e] at h1
    refine ⟨by rw [r1.length]; exact small_ok e, fun a na => ?_⟩
    have B := (R.step s1).bs
    have st := Stp.new (o := .lst vs) B na
    exact q (.list ds) (.ref a) _ _ (s1.trans st) (.lst upd_same (r1.mono st.ff)) h1
  | false => rw [e] at h1; cases h1
theorem okE_cb {t : TA} {r : List V → Hp → VK → Prop} {g : GC} (a : OkA K W t dr) (hr : OkC K W r g) : OkE K W (tCB r t) (dCB g dr) := fun env σ F H k Q R h q =>
  a env σ F H _ _ R h fun ds vs F1 H1 s1 r1 h1 => hr F1 H1 vs ds k Q (R.step s1).bs r1 h1 fun d v F2 H2 s2 r2 h2 => q d v F2 H2 (s1.trans s2) r2 h2
theorem se_cb {x : Str} {p : Pos} {id : String} {r : List V → Hp → VK → Prop} {g : GC} (hc : CallR X (.builtin id) r) (hr : OkC X.K W r g) (hm : X.mg x = none) (a : SA W X (ea :: es) dr) (hg : Gl X x := by rfl) (hv : bootBuiltins x = some (.builtin id) := by decide +kernel) (hn : x ≠ "__name__" := by decide)
    (hdb : (x == ("__debug__" : Str)) = false := by decide) (he : starEach (ea :: es) X.env = (false, eval ea X.env) :: starEach es X.env := by rfl) (hpl : (backTo pos (starEach es X.env)).any (·.1) = false := by rfl) : SE W X (.Call (.Name x p) (ea :: es) [] pos) (dCB g dr) := by
  obtain ⟨t, q, o⟩ := a
  exact ⟨_, pe_callB hc hg hm hv q hn hdb he hpl, okE_cb o hr⟩
theorem se_cty {x : Str} {p : Pos} {T : String} {r : List V → Hp → VK → Prop} {g : GC} (hc : CallR X (.type T) r) (hr : OkC X.K W r g) (hm : X.mg x = none) (a : SA W X (ea :: es) dr) (hg : Gl X x := by rfl) (hv : bootBuiltins x = some (.type T) := by decide +kernel) (hn : x ≠ "__name__" := by decide)
    (hdb : (x == ("__debug__" : Str)) = false := by decide) (he : starEach (ea :: es) X.env = (false, eval ea X.env) :: starEach es X.env := by rfl) (hpl : (backTo pos (starEach es X.env)).any (·.1) = false := by rfl) : SE W X (.Call (.Name x p) (ea :: es) [] pos) (dCB g dr) := by
  obtain ⟨t, q, o⟩ := a
  exact ⟨_, pe_callTy hc hg hm hv q hn hdb he hpl, okE_cb o hr⟩
end
end Dl

namespace Dl
open PySem PySem.Spec PyProof.Rows L2

/-! ### a number worked out at once (for the kernel) -/
def frN (n : Nat) (k : Nat → Bool) : Bool := match n with
  | 0 => k 0
  | m + 1 => k (m + 1)
theorem frN_eq (n : Nat) (k : Nat → Bool) : frN n k = k n := by cases n <;> rfl
def fI (i : Int) (k : Int → Bool) : Bool := match i with
  | .ofNat n => frN n fun n => k (.ofNat n)
  | .negSucc n => frN n fun n => k (.negSucc n)
theorem fI_eq (i : Int) (k : Int → Bool) : fI i k = k i := by
  cases i with
  | ofNat n => exact frN_eq n fun n => k (.ofNat n)
  | negSucc n => exact frN_eq n fun n => k (.negSucc n)
theorem of_fI {i : Int} {k : PyData → Bool} (h : fI i (fun z => k (.int z)) = true) : k (.int i) = true := (fI_eq i fun z => k (.int z)).symm.trans h
section
variable {W : Wd} {X : Cx} {K : PySem.W.Frag}
/-! ### operators on data -/
def rOr (r r' : R2) : R2 := fun x y H Q => r x y H Q ∨ r' x y H Q
theorem rOr_op {f : Value → Value → Sem Value} {r r' : R2} (h : OpR X f r) (h' : OpR X f r') : OpR X f (rOr r r') := h.or h'
def rAdds (K : PySem.W.Frag) : R2 := rOr (rI0 fun i j => .int (i + j)) (rOr rCat (rOr (rCatA K) fun x y H Q => ∃ i j, x = .str i ∧ y = .str j ∧ i.length + j.length ≤ sizeLine ∧ Q (.str (i ++ j)) H))
theorem op_adds : OpR X (binaryOp .Add) (rAdds X.K) := rOr_op op_add (rOr_op op_cat (rOr_op op_catA op_add_str))
def gAdd : G2 := fun a b k => match a with
  | .int i => (match b with
    | .int j => fI (i + j) fun z => k (.int z)
    | _ => false)
  | .list xs => (match b with
    | .list ys => (match small (xs.length + ys.length) with
      | true => k (.list (xs ++ ys))
      | false => false)
    | _ => false)
  | .tuple xs => (match b with
    | .tuple ys => (match small (xs.length + ys.length) with
      | true => k (.tuple (xs ++ ys))
      | false => false)
    | _ => false)
  | .str x => (match b with
    | .str y => (match small (x.length + y.length) with
      | true => k (.str (x ++ y))
      | false => false)
    | _ => false)
  | _ => false
theorem sqT_of {F H : Hp} {a : Addr} {ds : List PyData} (e : Same F H) (h : Rp K F (.ref a) (.tuple ds)) : ∃ xs, SqT K H a xs ∧ RpAll K F xs ds := by
  cases h with
  | tup h r => exact ⟨_, .inl (.inl (e _ _ h)), r⟩
  | ktup h r => exact ⟨_, .inr h, r⟩
theorem ok_add : OkR K W (rAdds K) gAdd := fun F H x y a b k Q B ra rb h q => by
  cases a with
  | int i =>
    cases b with
    | int j => cases ra; cases rb; exact .inl ⟨i, j, rfl, rfl, q _ _ F H (Stp.refl B) (.int _) (of_fI h)⟩
    | _ => cases h
  | list xs =>
    cases b with
    | list ys =>
      cases ra with
      | @lst pa vl _ ha ra =>
        cases rb with
        | @lst pb wl _ hb rb =>
          cases e : small (xs.length + ys.length) with
          | false => simp only [gAdd, e] at h; cases h
          | true =>
            simp only [gAdd, e] at h
            refine .inr (.inl ⟨_, _, _, _, rfl, rfl, B.keep ha, B.keep hb, by rw [ra.length, rb.length]; exact small_ok e, fun p np => ?_⟩)
            have st := Stp.new (o := .lst (vl ++ wl)) B np
            exact q _ _ _ _ st (.lst upd_same ((ra.append rb).mono st.ff)) h
    | _ => cases h
  | tuple xs =>
    cases b with
    | tuple ys =>
      cases x with
      | ref pa =>
        cases y with
        | ref pb =>
          obtain ⟨vs, h1, r1⟩ := sqT_of B.fh ra
          obtain ⟨ws, h2, r2⟩ := sqT_of B.fh rb
          cases e : small (xs.length + ys.length) with
          | false => simp only [gAdd, e] at h; cases h
          | true =>
            simp only [gAdd, e] at h
            refine .inr (.inr (.inl ⟨pa, pb, vs, ws, rfl, rfl, h1, h2, by rw [r1.length, r2.length]; exact small_ok e, fun z => ?_, fun _ z => ?_, fun _ _ p np => ?_⟩))
            · subst z
              cases r1
              exact q _ _ F H (Stp.refl B) rb h
            · subst z
              cases r2
              rw [List.append_nil] at h
              exact q _ _ F H (Stp.refl B) ra h
            · have st := Stp.new (o := .tup (vs ++ ws)) B np
              exact q _ _ _ _ st (.tup upd_same ((r1.append r2).mono st.ff)) h
        | _ => cases rb
      | _ => cases ra
    | _ => cases h
  | str x =>
    cases b with
    | str y =>
      cases ra
      cases rb
      cases e : small (x.length + y.length) with
      | false => simp only [gAdd, e] at h; cases h
      | true =>
        simp only [gAdd, e] at h
        exact .inr (.inr (.inr ⟨x, y, rfl, rfl, small_ok e, q _ _ F H (Stp.refl B) (.str _) h⟩))
    | _ => cases h
  | _ => cases h
theorem op_subB : OpR X (binaryOp .Sub) (fun x y H Q => ∃ a b : Bool, x = .bl a ∧ y = .bl b ∧ Q (.int (b2i a - b2i b)) H) := by
  intro pins s σ H x y v u Q I rx ry h
  obtain ⟨a, b, rfl, rfl, q⟩ := h
  cases rx
  cases ry
  exact PyProof.Rows.sub_bool ⟨.int _, H, I.tok _, ⟨_, rfl⟩, q⟩
def rSubs : R2 := rOr (rI0 fun i j => .int (i - j)) (fun x y H Q => ∃ a b : Bool, x = .bl a ∧ y = .bl b ∧ Q (.int (b2i a - b2i b)) H)
theorem op_subs : OpR X (binaryOp .Sub) rSubs := rOr_op op_sub op_subB
def gSub : G2 := fun a b k => match a with
  | .int i => (match b with
    | .int j => fI (i - j) fun z => k (.int z)
    | _ => false)
  | .bool i => (match b with
    | .bool j => k (.int (b2i i - b2i j))
    | _ => false)
  | _ => false
theorem ok_sub : OkR K W rSubs gSub := fun F H x y a b k Q B ra rb h q => by
  cases a with
  | int i =>
    cases b with
    | int j => cases ra; cases rb; exact .inl ⟨i, j, rfl, rfl, q _ _ F H (Stp.refl B) (.int _) (of_fI h)⟩
    | _ => cases h
  | bool i =>
    cases b with
    | bool j => cases ra; cases rb; exact .inr ⟨i, j, rfl, rfl, q _ _ F H (Stp.refl B) (.int _) h⟩
    | _ => cases h
  | _ => cases h
def mulOk (i j : Int) : Bool := Nat.ble (Nat.add (Nat.log2 i.natAbs) (Nat.log2 j.natAbs)) 999999
theorem mulOk_ok {i j : Int} (h : mulOk i j = true) : CMulW i j := Nat.lt_succ_of_le (Nat.le_of_ble_eq_true h)
def rMuls : R2 := rOr (rI CMulW fun i j => .int (i * j)) rRep
theorem op_muls : OpR X (binaryOp .Mult) rMuls := rOr_op op_mulW op_rep
def repOk (n : Nat) (i : Int) : Bool := match i with
  | .ofNat m => Nat.ble m 100000 && small (n * m)
  | .negSucc m => Nat.ble m 100000
theorem repOk_ok {n : Nat} {i : Int} (h : repOk n i = true) : -(2 ^ 63) ≤ i ∧ i < 2 ^ 63 ∧ n * i.toNat ≤ sizeLine := by
  cases i with
  | negSucc m =>
    have l1 : m ≤ 100000 := Nat.le_of_ble_eq_true h
    refine ⟨by omega, by omega, ?_⟩
    show n * 0 ≤ sizeLine
    rw [Nat.mul_zero]
    exact Nat.zero_le _
  | ofNat m =>
    obtain ⟨e3, e4⟩ := Bool.and_eq_true_iff.mp (show (Nat.ble m 100000 && small (n * m)) = true from h)
    have l1 : m ≤ 100000 := Nat.le_of_ble_eq_true e3
    exact ⟨by rw [Int.ofNat_eq_natCast]; omega, by rw [Int.ofNat_eq_natCast]; omega, small_ok e4⟩
def gMul : G2 := fun a b k => match a with
  | .int i => (match b with
    | .int j => (match mulOk i j with
      | true => fI (i * j) fun z => k (.int z)
      | false => false)
    | _ => false)
  | .list xs => (match b with
    | .int j => (match repOk xs.length j with
      | true => k (.list (List.replicate j.toNat xs).flatten)
      | false => false)
    | _ => false)
  | _ => false
theorem ok_mul : OkR K W rMuls gMul := fun F H x y a b k Q B ra rb h q => by
  cases a with
  | int i =>
    cases b with
    | int j =>
      cases ra
      cases rb
      cases e : mulOk i j with
      | false => simp only [gMul, e] at h; cases h
      | true =>
        simp only [gMul, e] at h
        exact .inl ⟨i, j, rfl, rfl, mulOk_ok e, q _ _ F H (Stp.refl B) (.int _) (of_fI h)⟩
    | _ => cases h
  | list xs =>
    cases b with
    | int j =>
      cases rb
      cases ra with
      | @lst pa vl _ ha ra =>
        cases e : repOk xs.length j with
        | false => simp only [gMul, e] at h; cases h
        | true =>
          simp only [gMul, e] at h
          obtain ⟨l1, l2, l3⟩ := repOk_ok e
          refine .inr ⟨_, _, _, rfl, rfl, B.keep ha, l1, l2, by rw [ra.length]; exact l3, fun p np => ?_⟩
          have st := Stp.new (o := .lst (List.replicate j.toNat vl).flatten) B np
          exact q _ _ _ _ st (.lst upd_same ((ra.rep _).mono st.ff)) h
    | _ => cases h
  | _ => cases h
def divOk (j : Int) : Bool := match j with
  | .ofNat (m + 1) => Nat.ble (Nat.log2 (m + 1)) 8999
  | _ => false
theorem divOk_ok {i j : Int} (h : divOk j = true) : CDivW i j := by
  cases j with
  | negSucc m => cases h
  | ofNat m =>
    cases m with
    | zero => cases h
    | succ m =>
      have h1 : Nat.log2 (m + 1) ≤ 8999 := Nat.le_of_ble_eq_true h
      exact ⟨Int.ofNat_lt.mpr (Nat.succ_pos m), by show Nat.log2 (m + 1) < 9000; omega⟩
def gFdiv : G2 := fun a b k => match a with
  | .int i => (match b with
    | .int j => (match divOk j with
      | true => fI (i / j) fun z => k (.int z)
      | false => false)
    | _ => false)
  | _ => false
theorem ok_fdiv : OkR K W (rI CDivW fun i j => .int (i / j)) gFdiv := fun F H x y a b k Q B ra rb h q => by
  cases a with
  | int i =>
    cases b with
    | int j =>
      cases ra
      cases rb
      cases e : divOk j with
      | false => simp only [gFdiv, e] at h; cases h
      | true =>
        simp only [gFdiv, e] at h
        exact ⟨i, j, rfl, rfl, divOk_ok e, q _ _ F H (Stp.refl B) (.int _) (of_fI h)⟩
    | _ => cases h
  | _ => cases h
def gMod : G2 := fun a b k => match a with
  | .int i => (match b with
    | .int j => (match divOk j with
      | true => fI (i % j) fun z => k (.int z)
      | false => false)
    | _ => false)
  | _ => false
theorem ok_mod : OkR K W (rI (fun _ j => 0 < j) fun i j => .int (i % j)) gMod := fun F H x y a b k Q B ra rb h q => by
  cases a with
  | int i =>
    cases b with
    | int j =>
      cases ra
      cases rb
      cases e : divOk j with
      | false => simp only [gMod, e] at h; cases h
      | true =>
        simp only [gMod, e] at h
        exact ⟨i, j, rfl, rfl, (divOk_ok (i := i) e).1, q _ _ F H (Stp.refl B) (.int _) (of_fI h)⟩
    | _ => cases h
  | _ => cases h
def powOk (i j : Int) : Bool := match j with
  | .ofNat m => Nat.ble m 1000 && Nat.ble i.natAbs 1000000
  | _ => false
def gPow : G2 := fun a b k => match a with
  | .int i => (match b with
    | .int j => (match powOk i j with
      | true => k (.int (i ^ j.toNat))
      | false => false)
    | _ => false)
  | _ => false
theorem ok_pow : OkR K W (rI CPow fun i j => .int (i ^ j.toNat)) gPow := fun F H x y a b k Q B ra rb h q => by
  cases a with
  | int i =>
    cases b with
    | int j =>
      cases ra
      cases rb
      cases e : powOk i j with
      | false => simp only [gPow, e] at h; cases h
      | true =>
        simp only [gPow, e] at h
        refine ⟨i, j, rfl, rfl, ?_, q _ _ F H (Stp.refl B) (.int _) h⟩
        cases j with
        | negSucc m => cases e
        | ofNat m =>
          obtain ⟨e3, e4⟩ := Bool.and_eq_true_iff.mp (show (Nat.ble m 1000 && Nat.ble i.natAbs 1000000) = true from e)
          have l1 : m ≤ 1000 := Nat.le_of_ble_eq_true e3
          have l2 : i.natAbs ≤ 1000000 := Nat.le_of_ble_eq_true e4
          exact ⟨Int.natCast_nonneg m, by show (m : Int) ≤ 1000000; omega, Nat.lt_of_le_of_lt l2 (by decide)⟩
    | _ => cases h
  | _ => cases h
def gNeg : G1 := fun a k => match a with
  | .int i => k (.int (-i))
  | _ => false
theorem ok_neg : OkU K W (rU fun i => .int (-i)) gNeg := fun F H x a k Q B ra h q => by
  cases a with
  | int i => cases ra; exact ⟨i, rfl, q _ _ F H (Stp.refl B) (.int _) h⟩
  | _ => cases h
/-! comparisons -/
def gI (p : Int → Int → Bool) : G2 := fun a b k => match a with
  | .int i => (match b with
    | .int j => k (.bool (p i j))
    | _ => false)
  | _ => false
theorem ok_I {p : Int → Int → Bool} : OkR K W (rI0 fun i j => .bl (p i j)) (gI p) := fun F H x y a b k Q B ra rb h q => by
  cases a with
  | int i =>
    cases b with
    | int j => cases ra; cases rb; exact ⟨i, j, rfl, rfl, q _ _ F H (Stp.refl B) (.bl _) h⟩
    | _ => cases h
  | _ => cases h
abbrev gLt : G2 := gI fun i j => decide (i < j)
abbrev gLe : G2 := gI fun i j => decide (i ≤ j)
abbrev gGt : G2 := gI fun i j => decide (j < i)
abbrev gGe : G2 := gI fun i j => decide (j ≤ i)
/-- ints by hand, the rest as data -/
def gEqS (f : Bool → Bool) : G2 := fun a b k => match SeqAt.shaped a && SeqAt.shaped b with
  | true => k (.bool (f (PyData.eqv a b)))
  | false => false
/-- the commonest kinds at once -/
def eqI (i j : Int) : Bool := match i, j with
  | .ofNat n, .ofNat m => Nat.beq n m
  | .negSucc n, .negSucc m => Nat.beq n m
  | _, _ => false
theorem eqI_eq (i j : Int) : eqI i j = (i == j) := by
  cases i with
  | ofNat n =>
    cases j with
    | ofNat m =>
      show Nat.beq n m = (Int.ofNat n == Int.ofNat m)
      rw [Bool.eq_iff_iff, Nat.beq_eq, beq_iff_eq]
      exact ⟨fun e => by rw [e], fun e => Int.ofNat.inj e⟩
    | negSucc m => rfl
  | negSucc n =>
    cases j with
    | ofNat m => rfl
    | negSucc m =>
      show Nat.beq n m = (Int.negSucc n == Int.negSucc m)
      rw [Bool.eq_iff_iff, Nat.beq_eq, beq_iff_eq]
      exact ⟨fun e => by rw [e], fun e => Int.negSucc.inj e⟩
def eqQ : PyData → PyData → Option Bool
  | .int i, .int j => some (eqI i j)
  | .tuple [.int a, .int b], .tuple [.int c, .int d] => some (eqI a c && eqI b d)
  | _, _ => none
theorem eqQ_ok {a b : PyData} {r : Bool} (h : eqQ a b = some r) : SeqAt.shaped a = true ∧ SeqAt.shaped b = true ∧ PyData.eqv a b = r := by
  unfold eqQ at h
  split at h
  · cases h
    exact ⟨rfl, rfl, (eqI_eq _ _).symm⟩
  · rename_i a b c d
    cases h
    refine ⟨rfl, rfl, ?_⟩
    rw [eqI_eq, eqI_eq]
    show ((a == c) && ((b == d) && true)) = _
    rw [Bool.and_true]
  · cases h
def gEqF (f : Bool → Bool) : G2 := fun a b k => match eqQ a b with
  | some r => k (.bool (f r))
  | none => gEqS f a b k
theorem gEqF_ok {f : Bool → Bool} {a b : PyData} {k : KF} (h : gEqF f a b k = true) : SeqAt.shaped a = true ∧ SeqAt.shaped b = true ∧ k (.bool (f (PyData.eqv a b))) = true := by
  unfold gEqF at h
  cases e : eqQ a b with
  | some r =>
    rw [e] at h
    obtain ⟨h1, h2, h3⟩ := eqQ_ok e
    exact ⟨h1, h2, by rw [h3]; exact h⟩
  | none =>
    rw [e] at h
    cases e : (SeqAt.shaped a && SeqAt.shaped b) with
    | false => simp only [gEqS, e] at h; cases h
    | true =>
      simp only [gEqS, e] at h
      obtain ⟨e1, e2⟩ := Bool.and_eq_true_iff.mp e
      exact ⟨e1, e2, h⟩
def gEq : G2 := gEqF id
def gNe : G2 := gEqF not
theorem dp_h {F H : Hp} {x : V} {a : PyData} (B : Same F H) (r : Rp K F x a) : Dp K H x a := (r.mono B).dp
theorem ok_eq : OkR K W (rEqD K) gEq := fun F H x y a b k Q B ra rb h q => by
  obtain ⟨e1, e2, h⟩ := gEqF_ok h
  exact ⟨a, b, dp_h B.fh ra, dp_h B.fh rb, e1, e2, q _ _ F H (Stp.refl B) (.bl _) h⟩
theorem ok_ne : OkR K W (rNeD K) gNe := fun F H x y a b k Q B ra rb h q => by
  obtain ⟨e1, e2, h⟩ := gEqF_ok h
  exact ⟨a, b, dp_h B.fh ra, dp_h B.fh rb, e1, e2, q _ _ F H (Stp.refl B) (.bl _) h⟩
def rIss : R2 := rOr (fun x y H Q => y = .non ∧ Q (.bl (decide (x = .non))) H) rIsB
def rNots : R2 := rOr (fun x y H Q => y = .non ∧ Q (.bl (!decide (x = .non))) H) rNotB
theorem op_iss : OpR X (compareOp .Is) rIss := rOr_op op_isN op_isBl
theorem op_nots : OpR X (compareOp .IsNot) rNots := rOr_op op_notN op_notBl
def isNon : PyData → Bool
  | .none => true
  | _ => false
def gIs : G2 := fun a b k => match b with
  | .none => k (.bool (isNon a))
  | .bool c => (match a with
    | .bool d => k (.bool (d == c))
    | _ => false)
  | _ => false
def gIsNot : G2 := fun a b k => match b with
  | .none => k (.bool (!isNon a))
  | .bool c => (match a with
    | .bool d => k (.bool (!(d == c)))
    | _ => false)
  | _ => false
theorem isNon_v {F : Hp} {x : V} {a : PyData} (r : Rp K F x a) : decide (x = .non) = isNon a := by
  cases r <;> rfl
theorem ok_is : OkR K W rIss gIs := fun F H x y a b k Q B ra rb h q => by
  cases b with
  | none => cases rb; exact .inl ⟨rfl, q _ _ F H (Stp.refl B) (by rw [isNon_v ra]; exact .bl _) h⟩
  | bool c =>
    cases a with
    | bool d =>
      cases ra
      cases rb
      refine .inr ⟨d, c, rfl, rfl, q _ _ F H (Stp.refl B) ?_ h⟩
      rw [show decide (d = c) = (d == c) by cases d <;> cases c <;> rfl]
      exact .bl _
    | _ => cases h
  | _ => cases h
theorem ok_isNot : OkR K W rNots gIsNot := fun F H x y a b k Q B ra rb h q => by
  cases b with
  | none => cases rb; exact .inl ⟨rfl, q _ _ F H (Stp.refl B) (by rw [isNon_v ra]; exact .bl _) h⟩
  | bool c =>
    cases a with
    | bool d =>
      cases ra
      cases rb
      refine .inr ⟨d, c, rfl, rfl, q _ _ F H (Stp.refl B) ?_ h⟩
      rw [show decide (d = c) = (d == c) by cases d <;> cases c <;> rfl]
      exact .bl _
    | _ => cases h
  | _ => cases h
/-! subscripts -/
def gIx : G2 := fun a b k => match b with
  | .int i => (match a with
    | .list xs => (match atI xs i with
      | some d => k d
      | none => false)
    | .tuple xs => (match atI xs i with
      | some d => k d
      | none => false)
    | _ => false)
  | _ => false
theorem rp_atI {F : Hp} {vs : List V} {ds : List PyData} {i : Int} {d : PyData} (r : RpAll K F vs ds) (h : atI ds i = some d) : ∃ v, atI vs i = some v ∧ Rp K F v d := by
  unfold atI at h ⊢
  rw [r.length]
  cases e : ixN ds.length i with
  | none => rw [e] at h; cases h
  | some j =>
    rw [e] at h
    obtain ⟨v, h1, h2⟩ := r.at (show ds[j]? = some d from h)
    exact ⟨v, h1, h2⟩
def rIxA (K : PySem.W.Frag) : R2 := fun x y H Q => rIxL K x y H Q ∨ rIxT K x y H Q
theorem ix_seqA : IxR X (rIxA X.K) := ix_list.or ix_tup
theorem ok_ix : OkR K W (rIxA K) gIx := fun F H x y a b k Q B ra rb h q => by
  cases b with
  | int i =>
    cases rb
    cases a with
    | list xs =>
      cases e : atI xs i with
      | none => simp only [gIx, e] at h; cases h
      | some d =>
        simp only [gIx, e] at h
        cases ra with
        | @lst pa vl _ ha ra =>
          obtain ⟨v, h1, h2⟩ := rp_atI ra e
          exact .inl ⟨_, _, i, v, rfl, rfl, .inl (.inl (B.keep ha)), h1, q d v F H (Stp.refl B) h2 h⟩
    | tuple xs =>
      cases e : atI xs i with
      | none => simp only [gIx, e] at h; cases h
      | some d =>
        simp only [gIx, e] at h
        cases x with
        | ref p =>
          obtain ⟨vs, hs, rr⟩ := sqT_of B.fh ra
          obtain ⟨v, h1, h2⟩ := rp_atI rr e
          exact .inr ⟨_, _, i, v, rfl, rfl, hs, h1, q d v F H (Stp.refl B) h2 h⟩
        | _ => cases ra
    | _ => cases h
  | _ => cases h
theorem se_ix {ea eb : Expr} {da db : DE} {pos : Pos} (a : SE W X ea da) (b : SE W X eb db) (hs : PlainIx eb := by exact fun _ _ => rfl) : SE W X (.Subscript ea eb pos) (dOp gIx da db) := by
  obtain ⟨t1, p1, o1⟩ := a
  obtain ⟨t2, p2, o2⟩ := b
  exact ⟨_, pe_ix ix_seqA p1 p2 hs, okE_op o1 o2 ok_ix⟩
/-! slices -/
abbrev DO := Sls → (Option Int → Bool) → Bool
def OkO (K : PySem.W.Frag) (W : Wd) (t : TO) (e : DO) : Prop := ∀ (env : Sls) (σ : L2.St) (F H : Hp) (k : Option Int → Bool) (Q : Option Int → Hp → Prop), Rel K W env σ F H → e env k = true → (∀ o F' H', Stp W.pp F H F' H' → k o = true → Q o H') → t σ H Q
structure SO (W : Wd) (X : Cx) (e : Option Expr) (d : DO) : Prop where
  ex : ∃ t, PO X e t ∧ OkO X.K W t d
def oNone : DO := fun _ k => k none
def oSome (a : DE) : DO := fun env k => a env fun x => match x with
  | .int i => k (some i)
  | _ => false
theorem so_none : SO W X none oNone := ⟨_, po_none, fun env σ F H k Q R h q => q none F H (Stp.refl R.bs) h⟩
theorem so_some {ea : Expr} {da : DE} (a : SE W X ea da) : SO W X (some ea) (oSome da) := by
  obtain ⟨t, p, o⟩ := a
  refine ⟨_, po_some p, fun env σ F H k Q R h q => o env σ F H _ _ R h fun d v F1 H1 s1 r1 h1 => ?_⟩
  cases d with
  | int i => cases r1; exact ⟨i, rfl, q _ F1 H1 s1 h1⟩
  | _ => cases h1
def cutD (xs : List PyData) (lo hi : Option Int) : List PyData := (xs.drop (HT.sIx xs.length 0 lo)).take (HT.sIx xs.length xs.length hi - HT.sIx xs.length 0 lo)
theorem rp_cut {F : Hp} {vs : List V} {ds : List PyData} (r : RpAll K F vs ds) (lo hi : Option Int) : RpAll K F (cutV vs lo hi) (cutD ds lo hi) := by
  unfold cutV cutD
  rw [r.length]
  exact (r.drop _).take _
theorem cutV_whole {vs : List V} {lo hi : Option Int} (h : HT.sIx vs.length 0 lo = 0 ∧ HT.sIx vs.length vs.length hi = vs.length) : cutV vs lo hi = vs := by
  unfold cutV
  rw [h.1, h.2, List.drop_zero, Nat.sub_zero, List.take_length]
def gCut (lo hi : Option Int) : G1 := fun a k => match a with
  | .list xs => k (.list (cutD xs lo hi))
  | .tuple xs => k (.tuple (cutD xs lo hi))
  | _ => false
def dSl (a : DE) (lo hi : DO) : DE := fun env k => a env fun x => lo env fun l => hi env fun u => gCut l u x k
def rSlAll (K : PySem.W.Frag) : V → Option Int → Option Int → Hp → VK → Prop := fun x lo hi H Q => rSlL K x lo hi H Q ∨ rSlA K x lo hi H Q
theorem sl_all : SlR X (rSlAll X.K) := sl_list.or sl_tupA
theorem se_sl {ea : Expr} {lo hi : Option Expr} {da : DE} {dl dh : DO} {p2 pos : Pos} (a : SE W X ea da) (l : SO W X lo dl) (u : SO W X hi dh) : SE W X (.Subscript ea (.Slice lo hi none p2) pos) (dSl da dl dh) := by
  obtain ⟨t1, p1, o1⟩ := a
  obtain ⟨t2, p2, o2⟩ := l
  obtain ⟨t3, p3, o3⟩ := u
  refine ⟨_, pe_slice sl_all p1 p2 p3, fun env σ F H k Q R h q => ?_⟩
  refine o1 env σ F H _ _ R h fun d v F1 H1 s1 r1 h1 => ?_
  refine o2 env σ F1 H1 _ _ (R.step s1) h1 fun l F2 H2 s2 h2 => ?_
  refine o3 env σ F2 H2 _ _ ((R.step s1).step s2) h2 fun u F3 H3 s3 h3 => ?_
  have B := (((R.step s1).step s2).step s3).bs
  have S := (s1.trans s2).trans s3
  have rr := r1.mono (s2.ff.trans s3.ff)
  cases d with
  | list xs =>
    cases rr with
    | @lst pa vl _ ha ra =>
      refine .inl ⟨_, _, rfl, .inl (.inl (B.keep ha)), fun p np => ?_⟩
      have st := Stp.new (o := .lst (cutV vl l u)) B np
      exact q _ _ _ _ (S.trans st) (.lst upd_same ((rp_cut ra l u).mono st.ff)) h3
  | tuple xs =>
    cases v with
    | ref p =>
      obtain ⟨vs, hs, ra⟩ := sqT_of B.fh rr
      refine .inr ⟨_, _, rfl, hs, fun z => ?_, fun _ p np => ?_⟩
      · have e1 := cutV_whole z
        have e2 : cutD xs l u = xs := by
          have z2 := z
          rw [ra.length] at z2
          unfold cutD
          rw [z2.1, z2.2, List.drop_zero, Nat.sub_zero, List.take_length]
        have h4 : k (.tuple (cutD xs l u)) = true := h3
        rw [e2] at h4
        exact q _ _ F3 H3 S rr h4
      · have st := Stp.new (o := .tup (cutV vs l u)) B np
        exact q _ _ _ _ (S.trans st) (.tup upd_same ((rp_cut ra l u).mono st.ff)) h3
    | _ => cases rr
  | _ => cases h3
/-- xs[::-1] of a list -/
def gRev : G1 := fun a k => match a with
  | .list xs => k (.list xs.reverse)
  | _ => false
theorem se_rev {ea : Expr} {da : DE} {k : Nat} {p1 p2 p3 pos : Pos} (a : SE W X ea da) : SE W X (.Subscript ea (.Slice none none (some (.UnaryOp .USub (.Constant (.int 1) k p1) p2)) p3) pos) (dUn gRev da) := by
  obtain ⟨t1, p1, o1⟩ := a
  refine ⟨_, pe_revL p1, fun env σ F H k Q R h q => ?_⟩
  refine o1 env σ F H _ _ R h fun d v F1 H1 s1 r1 h1 => ?_
  cases d with
  | list xs =>
    cases r1 with
    | @lst pa vl _ ha ra =>
      have B := (R.step s1).bs
      refine ⟨_, _, rfl, .inl (.inl (B.keep ha)), fun p np => ?_⟩
      have st := Stp.new (o := .lst vl.reverse) B np
      exact q _ _ _ _ (s1.trans st) (.lst upd_same (ra.reverse.mono st.ff)) h1
  | _ => cases h1
/-! built-ins -/
def gLen : GC := fun ds k => match ds with
  | [.list xs] => k (.int xs.length)
  | [.tuple xs] => k (.int xs.length)
  | _ => false
theorem ok_len : OkC K W (fun xs H Q => ∃ p ys, xs = [.ref p] ∧ (SqL K H p ys ∨ SqT K H p ys) ∧ Q (.int ys.length) H) gLen := fun F H vs ds k Q B r h q => by
  cases r with
  | nil => cases h
  | @cons v vs d ds r1 r =>
    cases r with
    | cons _ _ => cases d <;> cases h
    | nil =>
      cases d with
      | list xs =>
        cases r1 with
        | @lst pa vl _ ha ra => exact ⟨_, _, rfl, .inl (.inl (.inl (B.keep ha))), by rw [ra.length]; exact q _ _ F H (Stp.refl B) (.int _) h⟩
      | tuple xs =>
        cases v with
        | ref p =>
          obtain ⟨vs, hs, ra⟩ := sqT_of B.fh r1
          exact ⟨_, _, rfl, .inr hs, by rw [ra.length]; exact q _ _ F H (Stp.refl B) (.int _) h⟩
        | _ => cases r1
      | _ => cases h
def gAbs : GC := fun ds k => match ds with
  | [.int i] => k (.int (if i < 0 then -i else i))
  | _ => false
theorem ok_abs : OkC K W (fun xs H Q => ∃ i, xs = [.int i] ∧ Q (.int (if i < 0 then -i else i)) H) gAbs := fun F H vs ds k Q B r h q => by
  cases r with
  | nil => cases h
  | @cons v vs d ds r1 r =>
    cases r with
    | cons _ _ => cases d <;> cases h
    | nil =>
      cases d with
      | int i => cases r1; exact ⟨i, rfl, q _ _ F H (Stp.refl B) (.int _) h⟩
      | _ => cases h
def gInt : GC := fun ds k => match ds with
  | [.int i] => k (.int i)
  | [.bool b] => k (.int (if b then 1 else 0))
  | _ => false
theorem ok_int : OkC K W (fun xs H Q => (∃ i, xs = [.int i] ∧ Q (.int i) H) ∨ ∃ k, xs = [.bl k] ∧ Q (.int (if k then 1 else 0)) H) gInt := fun F H vs ds k Q B r h q => by
  cases r with
  | nil => cases h
  | @cons v vs d ds r1 r =>
    cases r with
    | cons _ _ => cases d <;> cases h
    | nil =>
      cases d with
      | int i => cases r1; exact .inl ⟨i, rfl, q _ _ F H (Stp.refl B) (.int _) h⟩
      | bool i => cases r1; exact .inr ⟨i, rfl, q _ _ F H (Stp.refl B) (.int _) h⟩
      | _ => cases h
def gList : GC := fun ds k => match ds with
  | [.list xs] => k (.list xs)
  | [.tuple xs] => k (.list xs)
  | _ => false
theorem ok_list : OkC K W (fun xs H Q => ∃ p ys, xs = [.ref p] ∧ (SqL K H p ys ∨ SqT K H p ys) ∧ ∀ l, H l = none → Q (.ref l) (upd H l (.lst ys))) gList := fun F H vs ds k Q B r h q => by
  cases r with
  | nil => cases h
  | @cons v vs d ds r1 r =>
    cases r with
    | cons _ _ => cases d <;> cases h
    | nil =>
      cases d with
      | list xs =>
        cases r1 with
        | @lst pa vl _ ha ra =>
          refine ⟨_, _, rfl, .inl (.inl (.inl (B.keep ha))), fun p np => ?_⟩
          have st := Stp.new (o := .lst vl) B np
          exact q _ _ _ _ st (.lst upd_same (ra.mono st.ff)) h
      | tuple xs =>
        cases v with
        | ref p =>
          obtain ⟨vs, hs, ra⟩ := sqT_of B.fh r1
          refine ⟨_, _, rfl, .inr hs, fun p np => ?_⟩
          have st := Stp.new (o := .lst vs) B np
          exact q _ _ _ _ st (.lst upd_same (ra.mono st.ff)) h
        | _ => cases r1
      | _ => cases h
def gTuple : GC := fun ds k => match ds with
  | [.list xs] => k (.tuple xs)
  | [.tuple xs] => k (.tuple xs)
  | _ => false
theorem ok_tuple : OkC K W (fun xs H Q => ∃ p ys, xs = [.ref p] ∧ ((SqL K H p ys ∧ ∀ l, H l = none → Q (.ref l) (upd H l (.tup ys))) ∨ (SqT K H p ys ∧ Q (.ref p) H))) gTuple := fun F H vs ds k Q B r h q => by
  cases r with
  | nil => cases h
  | @cons v vs d ds r1 r =>
    cases r with
    | cons _ _ => cases d <;> cases h
    | nil =>
      cases d with
      | list xs =>
        cases r1 with
        | @lst pa vl _ ha ra =>
          refine ⟨_, _, rfl, .inl ⟨.inl (.inl (B.keep ha)), fun p np => ?_⟩⟩
          have st := Stp.new (o := .tup vl) B np
          exact q _ _ _ _ st (.tup upd_same (ra.mono st.ff)) h
      | tuple xs =>
        cases v with
        | ref p =>
          obtain ⟨vs, hs, ra⟩ := sqT_of B.fh r1
          exact ⟨_, _, rfl, .inr ⟨hs, q _ _ F H (Stp.refl B) r1 h⟩⟩
        | _ => cases r1
      | _ => cases h
def intsOf : List PyData → Option (List Int)
  | [] => some []
  | .int i :: r => (match intsOf r with
    | some l => some (i :: l)
    | none => none)
  | _ => none
theorem intsOf_ok : ∀ {ds : List PyData} {ns : List Int}, intsOf ds = some ns → ds = ns.map PyData.int
  | [], ns, h => by cases h; rfl
  | d :: r, ns, h => by
    cases d with
    | int i =>
      unfold intsOf at h
      cases e : intsOf r with
      | none => rw [e] at h; cases h
      | some l =>
        rw [e] at h
        cases h
        rw [List.map_cons, ← intsOf_ok e]
    | _ => cases h
def boolsOf : List PyData → Option (List Bool)
  | [] => some []
  | .bool i :: r => (match boolsOf r with
    | some l => some (i :: l)
    | none => none)
  | _ => none
theorem boolsOf_ok : ∀ {ds : List PyData} {ns : List Bool}, boolsOf ds = some ns → ds = ns.map PyData.bool
  | [], ns, h => by cases h; rfl
  | d :: r, ns, h => by
    cases d with
    | bool i =>
      unfold boolsOf at h
      cases e : boolsOf r with
      | none => rw [e] at h; cases h
      | some l =>
        rw [e] at h
        cases h
        rw [List.map_cons, ← boolsOf_ok e]
    | _ => cases h
def gInts (f : List Int → KF → Bool) : GC := fun ds k => match ds with
  | [.list xs] => (match intsOf xs with
    | some ns => f ns k
    | none => false)
  | _ => false
theorem gInts_ok {f : List Int → KF → Bool} {F : Hp} {vs : List V} {ds : List PyData} {k : KF} (r : RpAll K F vs ds) (h : gInts f ds k = true) : ∃ a ns, vs = [.ref a] ∧ F a = some (.lst (ns.map V.int)) ∧ f ns k = true := by
  cases r with
  | nil => cases h
  | @cons v vs d ds r1 r =>
    cases r with
    | cons _ _ => cases d <;> cases h
    | nil =>
      cases d with
      | list xs =>
        cases e : intsOf xs with
        | none => simp only [gInts, e] at h; cases h
        | some ns =>
          simp only [gInts, e] at h
          cases r1 with
          | @lst pa vl _ ha ra =>
            rw [intsOf_ok e] at ra
            rw [ra.ints] at ha
            exact ⟨_, ns, rfl, ha, h⟩
      | _ => cases h
def gSum : GC := gInts fun ns k => k (.int ns.sum)
theorem ok_sum : OkC K W (rSum K) gSum := fun F H vs ds k Q B r h q => by
  obtain ⟨a, ns, rfl, ha, h⟩ := gInts_ok r h
  exact ⟨a, ns, rfl, .inl (.inl (B.keep ha)), q _ _ F H (Stp.refl B) (.int _) h⟩
def maxI : List Int → Int
  | [] => 0
  | [x] => x
  | x :: y :: r => (match decide (maxI (y :: r) ≤ x) with
    | true => x
    | false => maxI (y :: r))
def minI : List Int → Int
  | [] => 0
  | [x] => x
  | x :: y :: r => (match decide (x ≤ minI (y :: r)) with
    | true => x
    | false => minI (y :: r))
theorem maxI_ge : ∀ (ns : List Int) (y : Int), y ∈ ns → y ≤ maxI ns
  | [], y, h => by cases h
  | [x], y, h => by rw [List.mem_singleton.mp h]; exact Int.le_refl _
  | x :: z :: r, y, h => by
    have ih := maxI_ge (z :: r)
    unfold maxI
    by_cases e : maxI (z :: r) ≤ x
    · rw [decide_eq_true e]
      rcases List.mem_cons.mp h with h | h
      · rw [h]; exact Int.le_refl _
      · exact Int.le_trans (ih y h) e
    · rw [decide_eq_false e]
      rcases List.mem_cons.mp h with h | h
      · rw [h]; show x ≤ maxI (z :: r); omega
      · exact ih y h
theorem maxI_mem : ∀ (ns : List Int), ns ≠ [] → maxI ns ∈ ns
  | [], h => absurd rfl h
  | [x], _ => List.mem_singleton.mpr rfl
  | x :: z :: r, _ => by
    have ih := maxI_mem (z :: r) (List.cons_ne_nil _ _)
    unfold maxI
    by_cases e : maxI (z :: r) ≤ x
    · rw [decide_eq_true e]; exact List.mem_cons_self
    · rw [decide_eq_false e]; exact List.mem_cons_of_mem _ ih
theorem minI_le : ∀ (ns : List Int) (y : Int), y ∈ ns → minI ns ≤ y
  | [], y, h => by cases h
  | [x], y, h => by rw [List.mem_singleton.mp h]; exact Int.le_refl _
  | x :: z :: r, y, h => by
    have ih := minI_le (z :: r)
    unfold minI
    by_cases e : x ≤ minI (z :: r)
    · rw [decide_eq_true e]
      rcases List.mem_cons.mp h with h | h
      · rw [h]; exact Int.le_refl _
      · exact Int.le_trans e (ih y h)
    · rw [decide_eq_false e]
      rcases List.mem_cons.mp h with h | h
      · rw [h]; show minI (z :: r) ≤ x; omega
      · exact ih y h
theorem minI_mem : ∀ (ns : List Int), ns ≠ [] → minI ns ∈ ns
  | [], h => absurd rfl h
  | [x], _ => List.mem_singleton.mpr rfl
  | x :: z :: r, _ => by
    have ih := minI_mem (z :: r) (List.cons_ne_nil _ _)
    unfold minI
    by_cases e : x ≤ minI (z :: r)
    · rw [decide_eq_true e]; exact List.mem_cons_self
    · rw [decide_eq_false e]; exact List.mem_cons_of_mem _ ih
def gMax : GC := gInts fun ns k => match ns with
  | [] => false
  | x :: r => k (.int (maxI (x :: r)))
def gMin : GC := gInts fun ns k => match ns with
  | [] => false
  | x :: r => k (.int (minI (x :: r)))
theorem ok_max : OkC K W (rMax K) gMax := fun F H vs ds k Q B r h q => by
  obtain ⟨a, ns, rfl, ha, h⟩ := gInts_ok r h
  cases ns with
  | nil => cases h
  | cons x r =>
    refine ⟨a, x :: r, rfl, .inl (.inl (B.keep ha)), Nat.succ_pos _, fun m hm hx => ?_⟩
    have e : m = maxI (x :: r) := Int.le_antisymm (maxI_ge _ m hm) (hx _ (maxI_mem _ (List.cons_ne_nil _ _)))
    rw [e]
    exact q _ _ F H (Stp.refl B) (.int _) h
theorem ok_min : OkC K W (rMin K) gMin := fun F H vs ds k Q B r h q => by
  obtain ⟨a, ns, rfl, ha, h⟩ := gInts_ok r h
  cases ns with
  | nil => cases h
  | cons x r =>
    refine ⟨a, x :: r, rfl, .inl (.inl (B.keep ha)), Nat.succ_pos _, fun m hm hx => ?_⟩
    have e : m = minI (x :: r) := Int.le_antisymm (hx _ (minI_mem _ (List.cons_ne_nil _ _))) (minI_le _ m hm)
    rw [e]
    exact q _ _ F H (Stp.refl B) (.int _) h
def gBools (f : List Bool → Bool) : GC := fun ds k => match ds with
  | [.list xs] => (match boolsOf xs with
    | some ns => k (.bool (f ns))
    | none => false)
  | _ => false
theorem gBools_ok {f : List Bool → Bool} {F : Hp} {vs : List V} {ds : List PyData} {k : KF} (r : RpAll K F vs ds) (h : gBools f ds k = true) : ∃ a ns, vs = [.ref a] ∧ F a = some (.lst (ns.map V.bl)) ∧ k (.bool (f ns)) = true := by
  cases r with
  | nil => cases h
  | @cons v vs d ds r1 r =>
    cases r with
    | cons _ _ => cases d <;> cases h
    | nil =>
      cases d with
      | list xs =>
        cases e : boolsOf xs with
        | none => simp only [gBools, e] at h; cases h
        | some ns =>
          simp only [gBools, e] at h
          cases r1 with
          | @lst pa vl _ ha ra =>
            rw [boolsOf_ok e] at ra
            rw [ra.bools] at ha
            exact ⟨_, ns, rfl, ha, h⟩
      | _ => cases h
def gAll : GC := gBools fun bs => bs.all id
def gAny : GC := gBools fun bs => bs.any id
theorem ok_all : OkC K W (rAll K) gAll := fun F H vs ds k Q B r h q => by
  obtain ⟨a, ns, rfl, ha, h⟩ := gBools_ok r h
  exact ⟨a, ns, rfl, .inl (.inl (B.keep ha)), q _ _ F H (Stp.refl B) (.bl _) h⟩
theorem ok_any : OkC K W (rAny K) gAny := fun F H vs ds k Q B r h q => by
  obtain ⟨a, ns, rfl, ha, h⟩ := gBools_ok r h
  exact ⟨a, ns, rfl, .inl (.inl (B.keep ha)), q _ _ F H (Stp.refl B) (.bl _) h⟩
def gMin2 : GC := fun ds k => match ds with
  | [.int i, .int j] => k (.int (if j < i then j else i))
  | _ => false
def gMax2 : GC := fun ds k => match ds with
  | [.int i, .int j] => k (.int (if j > i then j else i))
  | _ => false
theorem two_ints {F : Hp} {vs : List V} {i j : Int} (r : RpAll K F vs [.int i, .int j]) : vs = [.int i, .int j] := RpAll.ints (ns := [i, j]) r
theorem ok_min2 : OkC K W (fun xs H Q => ∃ i j, xs = [.int i, .int j] ∧ Q (.int (if j < i then j else i)) H) gMin2 := fun F H vs ds k Q B r h q => by
  unfold gMin2 at h
  split at h
  · exact ⟨_, _, two_ints r, q _ _ F H (Stp.refl B) (.int _) h⟩
  · cases h
theorem ok_max2 : OkC K W (fun xs H Q => ∃ i j, xs = [.int i, .int j] ∧ Q (.int (if j > i then j else i)) H) gMax2 := fun F H vs ds k Q B r h q => by
  unfold gMax2 at h
  split at h
  · exact ⟨_, _, two_ints r, q _ _ F H (Stp.refl B) (.int _) h⟩
  · cases h
/-! isinstance -/
inductive Tc where
  | int | bool | str | list | tuple
def Tc.name : Tc → String
  | .int => "int" | .bool => "bool" | .str => "str" | .list => "list" | .tuple => "tuple"
def tyN : PyData → String
  | .none => "NoneType" | .bool _ => "bool" | .int _ => "int" | .str _ => "str" | .list _ => "list" | .tuple _ => "tuple" | .dict _ => "dict"
def Tc.has : Tc → PyData → Bool
  | .int, .int _ => true
  | .int, .bool _ => true
  | .bool, .bool _ => true
  | .str, .str _ => true
  | .list, .list _ => true
  | .tuple, .tuple _ => true
  | _, _ => false
def noDict : PyData → Bool
  | .dict _ => false
  | _ => true
theorem kit_tab : ∀ c : Tc, kitB "NoneType" c.name = some false ∧ kitB "bool" c.name = some (c.has (.bool true)) ∧ kitB "int" c.name = some (c.has (.int 0)) ∧ kitB "str" c.name = some (c.has (.str Str.empty)) ∧ kitB "list" c.name = some (c.has (.list [])) ∧ kitB "tuple" c.name = some (c.has (.tuple []))
  | .int => by decide +kernel
  | .bool => by decide +kernel
  | .str => by decide +kernel
  | .list => by decide +kernel
  | .tuple => by decide +kernel
theorem kit_has (c : Tc) (d : PyData) (h : noDict d = true) : PySem.W.kitOne K (.type (tyN d)) (.type c.name) = some (c.has d) := by
  obtain ⟨h1, h2, h3, h4, h5, h6⟩ := kit_tab c
  cases d with
  | none => rw [show c.has .none = false by cases c <;> rfl]; exact kit_ty h1
  | bool b => rw [show c.has (.bool b) = c.has (.bool true) by cases c <;> rfl]; exact kit_ty h2
  | int b => rw [show c.has (.int b) = c.has (.int 0) by cases c <;> rfl]; exact kit_ty h3
  | str b => rw [show c.has (.str b) = c.has (.str Str.empty) by cases c <;> rfl]; exact kit_ty h4
  | list b => rw [show c.has (.list b) = c.has (.list []) by cases c <;> rfl]; exact kit_ty h5
  | tuple b => rw [show c.has (.tuple b) = c.has (.tuple []) by cases c <;> rfl]; exact kit_ty h6
  | dict b => cases h
theorem tyx_of {F H : Hp} (B : Same F H) {v : V} {d : PyData} (r : Rp K F v d) : TyX K H v (.type (tyN d)) ∧ noDict d = true := by
  cases r with
  | non => exact ⟨.base .non, rfl⟩
  | bl b => exact ⟨.base (.bl b), rfl⟩
  | int i => exact ⟨.base (.int i), rfl⟩
  | str x => exact ⟨.base (.str x), rfl⟩
  | lst h _ => exact ⟨.base (.lst (B _ _ h)), rfl⟩
  | tup h _ => exact ⟨.base (.tup (B _ _ h)), rfl⟩
  | ktup h _ =>
    obtain ⟨o, its, n, h1, h2, _⟩ := h
    exact ⟨.kTuple h1 h2, rfl⟩
def dIs (c : Tc) (a : DE) : DE := fun env k => a env fun x => k (.bool (c.has x))
theorem se_is {x : Str} {p p2 pos : Pos} {ea : Expr} {da : DE} (c : Tc) (hm : X.mg "isinstance" = none) (hmc : X.mg (Str.ofString c.name) = none) (a : SE W X ea da) (hg : Gl X "isinstance" := by rfl) (hgc : Gl X x := by rfl) (hx : x = Str.ofString c.name := by rfl)
    (hn : x ≠ "__name__" := by decide) (hdb : (x == ("__debug__" : Str)) = false := by decide) (hb : bootBuiltins x = some (.type c.name) := by decide +kernel)
    (he : starEach [ea, .Name x p2] X.env = (false, eval ea X.env) :: starEach [.Name x p2] X.env := by rfl) (hs : starEach [.Name x p2] X.env = (false, eval (.Name x p2) X.env) :: starEach [] X.env := by rfl) (hpl : (backTo pos (starEach [.Name x p2] X.env)).any (·.1) = false := by rfl) :
    SE W X (.Call (.Name "isinstance" p) [ea, .Name x p2] [] pos) (dIs c da) := by
  obtain ⟨t, q, o⟩ := a
  subst hx
  refine ⟨_, pe_callB call_isi hg hm (by decide +kernel) (pa_cons q (pa_cons (pe_bltn (v := .ty c.name) hgc hmc hb rfl hn hdb) pa_nil hs) he) (by decide) (by decide) he hpl, fun env σ F H k Q R h q => ?_⟩
  refine o env σ F H _ _ R h fun d v F1 H1 s1 r1 h1 => ?_
  obtain ⟨ty, nd⟩ := tyx_of s1.fh r1
  exact ⟨v, .ty c.name, .type (tyN d), .type c.name, c.has d, rfl, .ty _, ty, kit_has c d nd, q _ _ F1 H1 s1 (.bl _) h1⟩
/-- isinstance(x, (list, tuple)) -/
def dIsLT (a : DE) : DE := fun env k => a env fun x => k (.bool (Tc.list.has x || Tc.tuple.has x))
theorem se_isLT {p p2 p3 p4 pos : Pos} {k0 : Nat} {ea : Expr} {da : DE} (hm : X.mg "isinstance" = none) (hml : X.mg "list" = none) (hmt : X.mg "tuple" = none) (a : SE W X ea da) (hg : Gl X "isinstance" := by rfl) (hgl : Gl X "list" := by rfl) (hgt : Gl X "tuple" := by rfl)
    (he : starEach [ea, .Tuple [.Name "list" p2, .Name "tuple" p3] k0 p4] X.env = (false, eval ea X.env) :: starEach [.Tuple [.Name "list" p2, .Name "tuple" p3] k0 p4] X.env := by rfl) (hpl : (backTo pos (starEach [.Tuple [.Name "list" p2, .Name "tuple" p3] k0 p4] X.env)).any (·.1) = false := by rfl) :
    SE W X (.Call (.Name "isinstance" p) [ea, .Tuple [.Name "list" p2, .Name "tuple" p3] k0 p4] [] pos) (dIsLT da) := by
  obtain ⟨t, q, o⟩ := a
  refine ⟨_, pe_callB call_isiT hg hm (by decide +kernel) (pa_cons q (pa_cons (pe_tup (pa_cons (pe_bltn (v := .ty "list") hgl hml (by decide +kernel) rfl) (pa_cons (pe_bltn (v := .ty "tuple") hgt hmt (by decide +kernel) rfl) pa_nil))) pa_nil) he) (by decide) (by decide) he hpl, fun env σ F H k Q R h q => ?_⟩
  refine o env σ F H _ _ R h fun d v F1 H1 s1 r1 h1 => ⟨by show 2 ≤ sizeLine; decide, fun tp np => ?_⟩
  have B := (R.step s1).bs
  have st := Stp.new (o := .tup [.ty "list", .ty "tuple"]) B np
  obtain ⟨ty, nd⟩ := tyx_of st.fh (r1.mono st.ff)
  refine ⟨v, tp, [.ty "list", .ty "tuple"], .type (tyN d), [.type "list", .type "tuple"], Tc.list.has d || Tc.tuple.has d, rfl, upd_same, .cons (.ty _) (.cons (.ty _) .nil), ty, ?_, q _ _ _ _ (s1.trans st) (.bl _) h1⟩
  have e1 := kit_has (K := X.K) .list d nd
  have e2 := kit_has (K := X.K) .tuple d nd
  unfold PySem.W.kitAny
  rw [show Value.type "list" = Value.type Tc.list.name from rfl, e1]
  cases Tc.list.has d with
  | true => rfl
  | false =>
    unfold PySem.W.kitAny
    rw [show Value.type "tuple" = Value.type Tc.tuple.name from rfl]
    simp only [e2]
    cases Tc.tuple.has d <;> rfl
end
end Dl

namespace Dl
open PySem PySem.Spec PyProof.Rows L2

/-! ### readings by their data -/
def can (K : PySem.W.Frag) (W : Wd) (de : DE) : TE := fun σ H Q => ∃ (env : Sls) (F : Hp) (k : KF), Rel K W env σ F H ∧ de env k = true ∧ ∀ d v F' H', Stp W.pp F H F' H' → Rp K F' v d → k d = true → Q v H'
def canT (K : PySem.W.Frag) (W : Wd) (de : DT) : TT := fun σ H Q => ∃ (env : Sls) (F : Hp) (k : Bool → Bool), Rel K W env σ F H ∧ de env k = true ∧ ∀ b F' H', Stp W.pp F H F' H' → k b = true → Q b H'
section
variable {W : Wd} {X : Cx} {K : PySem.W.Frag} {e : Expr} {de : DE} {dt : DT}
theorem SE.can (h : SE W X e de) : PE X e (can X.K W de) := by
  obtain ⟨t, p, o⟩ := h
  exact ⟨fun pins s σ H Q I ⟨env, F, k, R, h, q⟩ => p.run pins s σ H Q I (o env σ F H k Q R h q)⟩
theorem ST.can (h : ST W X e dt) : PT X e (canT X.K W dt) := by
  obtain ⟨t, p, o⟩ := h
  exact ⟨fun pins s σ H Q I ⟨env, F, k, R, h, q⟩ => p.run pins s σ H Q I (o env σ F H k Q R h q)⟩
theorem okE_can : OkE K W (Dl.can K W de) de := fun env σ F H k Q R h q => ⟨env, F, k, R, h, q⟩
theorem okT_can : OkT K W (canT K W dt) dt := fun env σ F H k Q R h q => ⟨env, F, k, R, h, q⟩
end

/-! ### targets -/
abbrev DG := PyData → Sls → (Sls → Bool) → Bool
abbrev DGs := List PyData → Sls → (Sls → Bool) → Bool
def OkG (K : PySem.W.Frag) (W : Wd) (t : TG) (g : DG) (sl : List Nat) : Prop := ∀ (env : Sls) (σ : L2.St) (F H : Hp) (v : V) (d : PyData) (k : Sls → Bool) (Q : L2.St → Hp → Prop), Rel K W env σ F H → Rp K F v d → g d env k = true →
  (∀ env' σ', Rel K W env' σ' F H → (∀ j, j ∉ sl → σ'[j]? = σ[j]?) → σ'.length = σ.length → k env' = true → Q σ' H) → t v σ H Q
def OkGs (K : PySem.W.Frag) (W : Wd) (t : TGs) (g : DGs) (sl : List Nat) : Prop := ∀ (env : Sls) (σ : L2.St) (F H : Hp) (vs : List V) (ds : List PyData) (k : Sls → Bool) (Q : L2.St → Hp → Prop), Rel K W env σ F H → RpAll K F vs ds → g ds env k = true →
  (∀ env' σ', Rel K W env' σ' F H → (∀ j, j ∉ sl → σ'[j]? = σ[j]?) → σ'.length = σ.length → k env' = true → Q σ' H) → t vs σ H Q
structure SG (W : Wd) (X : Cx) (e : Expr) (g : DG) (sl : List Nat) : Prop where
  ex : ∃ t, PG X e t ∧ OkG X.K W t g sl
structure SGs (W : Wd) (X : Cx) (es : List Expr) (g : DGs) (sl : List Nat) : Prop where
  ex : ∃ t, PGs X es t ∧ OkGs X.K W t g sl
def canG (K : PySem.W.Frag) (W : Wd) (g : DG) (sl : List Nat) : TG := fun v σ H Q => ∃ (env : Sls) (F : Hp) (d : PyData) (k : Sls → Bool), Rel K W env σ F H ∧ Rp K F v d ∧ g d env k = true ∧ ∀ env' σ', Rel K W env' σ' F H → (∀ j, j ∉ sl → σ'[j]? = σ[j]?) → σ'.length = σ.length → k env' = true → Q σ' H
def gN (i : Nat) : DG := fun d env k => k (env.set i (.fz d))
def gsNil : DGs := fun ds env k => match ds with
  | [] => k env
  | _ => false
def gsCons (g : DG) (r : DGs) : DGs := fun ds env k => match ds with
  | d :: ds => g d env fun env' => r ds env' k
  | [] => false
def gT (n : Nat) (r : DGs) : DG := fun d env k => match d with
  | .tuple ds => (match Nat.beq ds.length n with
    | true => r ds env k
    | false => false)
  | _ => false
section
variable {W : Wd} {X : Cx} {K : PySem.W.Frag} {e : Expr} {es : List Expr} {g : DG} {r : DGs} {s1 s2 : List Nat} {pos : Pos}
theorem SG.can (h : SG W X e g s1) : PG X e (canG X.K W g s1) := by
  obtain ⟨t, p, o⟩ := h
  exact ⟨fun pins s σ H v u Q I rv ⟨env, F, d, k, R, rp, h, q⟩ => p.run pins s σ H v u Q I rv (o env σ F H v d k Q R rp h q)⟩
theorem okG_can : OkG K W (canG K W g s1) g s1 := fun env σ F H v d k Q R rp h q => ⟨env, F, d, k, R, rp, h, q⟩
theorem sg_n {i : Nat} {x : Str} (hN : X.N.Nodup) (hi : X.N[i]? = some x := by rfl) (hx : Loc X.env.scope x := by first | exact Or.inl rfl | exact Or.inr rfl) (hf : X.fn x = true ∨ X.env.scope.names.lookup x = some .local := by first | exact .inl rfl | exact .inr rfl) :
    SG W X (.Name x pos) (gN i) [i] := ⟨_, pg_name hN hi hx hf, fun env σ F H v d k Q R rp h q => q _ _ (R.set rp i) (fun j hj => by rw [List.getElem?_set_ne (fun z => hj (by simp [z]))]) (List.length_set ..) h⟩
theorem sgs_nil : SGs W X [] gsNil [] := ⟨_, pgs_nil, fun env σ F H vs ds k Q R rp h q => by
  cases rp with
  | nil => exact ⟨rfl, q _ _ R (fun _ _ => rfl) rfl h⟩
  | cons _ _ => cases h⟩
theorem sgs_cons (h1 : SG W X e g s1) (h2 : SGs W X es r s2) (hs : (assignEach (e :: es) X.env).map (·.2) = assign e X.env :: (assignEach es X.env).map (·.2) := by rfl) : SGs W X (e :: es) (gsCons g r) (s1 ++ s2) := by
  obtain ⟨t1, p1, o1⟩ := h1
  obtain ⟨t2, p2, o2⟩ := h2
  refine ⟨_, pgs_cons p1 p2 hs, fun env σ F H vs ds k Q R rp h q => ?_⟩
  cases rp with
  | nil => cases h
  | cons ra rb =>
    refine ⟨_, _, rfl, o1 env σ F H _ _ _ _ R ra h fun env' σ' R' a1 l1 h' => ?_⟩
    exact o2 env' σ' F H _ _ k Q R' rb h' fun env2 σ2 R2 a2 l2 h2 => q env2 σ2 R2 (fun j hj => by
      rw [a2 j (fun z => hj (List.mem_append_right _ z)), a1 j (fun z => hj (List.mem_append_left _ z))]) (l2.trans l1) h2
theorem sg_t {k : Nat} {n : Nat} (hc : X.calm = true) (h : SGs W X es r s1) (hn : (assignEach es X.env).length = n := by rfl) (hst : (assignEach es X.env).findIdx? (·.1) = none := by rfl) : SG W X (.Tuple es k pos) (gT n r) s1 := by
  obtain ⟨t, p, o⟩ := h
  refine ⟨_, pg_tup hc p hn hst, fun env σ F H v d k Q R rp h q => ?_⟩
  cases d with
  | tuple ds =>
    cases v with
    | ref a =>
      obtain ⟨xs, hs, ra⟩ := sqT_of R.bs.fh rp
      cases e : Nat.beq ds.length n with
      | false => simp only [gT, e] at h; cases h
      | true =>
        simp only [gT, e] at h
        exact ⟨a, xs, rfl, hs, by rw [ra.length]; exact Nat.eq_of_beq_eq_true e, o env σ F H xs ds k Q R ra h q⟩
    | _ => cases rp
  | _ => cases h
end

/-! ### what is walked -/
abbrev DI := Sls → (List PyData → Bool) → Bool
def IsWalk (K : PySem.W.Frag) (W : Wd) (J : It) (ds : List PyData) (F' : Hp) : Prop := ∃ (G : Hp → Prop) (Y : Nat → Hp → V → Hp → Prop), Walk J ds.length G Y ∧ (∀ F H, Same F' F → Same F H → G H) ∧
  ∀ (i : Nat) (H : Hp) (x : V) (H2 F : Hp) (d : PyData), Same F' F → Bs W.pp F H → ds[i]? = some d → Y i H x H2 → ∃ F2, Stp W.pp F H F2 H2 ∧ Rp K F2 x d
theorem IsWalk.mono {K : PySem.W.Frag} {W : Wd} {J : It} {ds : List PyData} {F F' : Hp} (w : IsWalk K W J ds F) (e : Same F F') : IsWalk K W J ds F' := by
  obtain ⟨G, Y, w1, w2, w3⟩ := w
  exact ⟨G, Y, w1, fun F1 H a b => w2 F1 H (e.trans a) b, fun i H x H2 F1 d a => w3 i H x H2 F1 d (e.trans a)⟩
def OkI (K : PySem.W.Frag) (W : Wd) (wi : TI) (it : DI) : Prop := ∀ (env : Sls) (σ : L2.St) (F H : Hp) (k : List PyData → Bool) (R : It → Hp → Prop), Rel K W env σ F H → it env k = true →
  (∀ ds J F' H', Stp W.pp F H F' H' → IsWalk K W J ds F' → k ds = true → R J H') → wi σ H R
structure SI (W : Wd) (X : Cx) (tg e : Expr) (di : DI) : Prop where
  ex : ∃ wi, PI X tg e wi ∧ OkI X.K W wi di
/-- a text's signs -/
def signsD (z : Str) : List PyData := z.cps.toList.map fun c => .str ⟨#[c]⟩
def iSeq (a : DE) : DI := fun env k => a env fun x => match x with
  | .list xs => k xs
  | .tuple xs => k xs
  | .str z => k (signsD z)
  | _ => false
def rangeD : Int → Nat → List PyData
  | _, 0 => []
  | lo, n + 1 => .int lo :: rangeD (lo + 1) n
theorem rangeD_len : ∀ (n : Nat) (lo : Int), (rangeD lo n).length = n
  | 0, _ => rfl
  | n + 1, lo => by unfold rangeD; rw [List.length_cons, rangeD_len n]
theorem rangeD_at : ∀ (n : Nat) (lo : Int) (i : Nat) (d : PyData), (rangeD lo n)[i]? = some d → d = .int (lo + i)
  | 0, _, _, _, h => by simp [rangeD] at h
  | n + 1, lo, 0, d, h => by
    unfold rangeD at h
    simp at h
    rw [← h]; simp
  | n + 1, lo, i + 1, d, h => by
    unfold rangeD at h
    rw [List.getElem?_cons_succ] at h
    rw [rangeD_at n (lo + 1) i d h]
    congr 1
    rw [Int.add_assoc, Int.natCast_add, Int.add_comm 1 (i : Int)]; rfl
def big (i : Int) : Bool := Nat.ble i.natAbs 1000000
theorem big_ok {i : Int} (h : big i = true) : -(2 ^ 62) ≤ i ∧ i < 2 ^ 62 := by
  have h1 : i.natAbs ≤ 1000000 := Nat.le_of_ble_eq_true h
  omega
def iRange1 (a : DE) : DI := fun env k => a env fun x => match x with
  | .int n => (match big n with
    | true => k (rangeD 0 n.toNat)
    | false => false)
  | _ => false
def iRange2 (a b : DE) : DI := fun env k => a env fun x => b env fun y => match x, y with
  | .int lo, .int n => (match big lo && big n with
    | true => k (rangeD lo (n - lo).toNat)
    | false => false)
  | _, _ => false
def enumD : Nat → List PyData → List PyData
  | _, [] => []
  | n, x :: r => .tuple [.int (n : Int), x] :: enumD (n + 1) r
theorem enumD_len : ∀ (xs : List PyData) (n : Nat), (enumD n xs).length = xs.length
  | [], _ => rfl
  | x :: r, n => by unfold enumD; rw [List.length_cons, List.length_cons, enumD_len r]
theorem enumD_at : ∀ (xs : List PyData) (n i : Nat) (d : PyData), (enumD n xs)[i]? = some d → ∃ x, xs[i]? = some x ∧ d = .tuple [.int ((n + i : Nat) : Int), x]
  | [], _, _, _, h => by simp [enumD] at h
  | x :: r, n, 0, d, h => by
    unfold enumD at h
    simp at h
    exact ⟨x, rfl, by rw [← h]; rfl⟩
  | x :: r, n, i + 1, d, h => by
    unfold enumD at h
    rw [List.getElem?_cons_succ] at h
    obtain ⟨y, h1, h2⟩ := enumD_at r (n + 1) i d h
    refine ⟨y, by rw [List.getElem?_cons_succ]; exact h1, ?_⟩
    rw [h2, show n + 1 + i = n + (i + 1) by omega]
def iEnumD (a : DE) : DI := fun env k => a env fun x => match x with
  | .list xs => k (enumD 0 xs)
  | _ => false
def zipD : List PyData → List PyData → List PyData
  | x :: r, y :: q => .tuple [x, y] :: zipD r q
  | _, _ => []
theorem zipD_len : ∀ (xs ys : List PyData), (zipD xs ys).length = min xs.length ys.length
  | [], ys => by simp [zipD]
  | x :: r, [] => by simp [zipD]
  | x :: r, y :: q => by unfold zipD; rw [List.length_cons, List.length_cons, List.length_cons, zipD_len r q]; omega
theorem zipD_at : ∀ (xs ys : List PyData) (i : Nat) (d : PyData), (zipD xs ys)[i]? = some d → ∃ x y, xs[i]? = some x ∧ ys[i]? = some y ∧ d = .tuple [x, y]
  | [], ys, i, d, h => by simp [zipD] at h
  | x :: r, [], i, d, h => by simp [zipD] at h
  | x :: r, y :: q, 0, d, h => by
    unfold zipD at h
    simp at h
    exact ⟨x, y, rfl, rfl, h.symm⟩
  | x :: r, y :: q, i + 1, d, h => by
    unfold zipD at h
    rw [List.getElem?_cons_succ] at h
    exact zipD_at r q i d h
def iZipD (a b : DE) : DI := fun env k => a env fun x => b env fun y => match x, y with
  | .list xs, .list ys => k (zipD xs ys)
  | .tuple xs, .tuple ys => k (zipD xs ys)
  | _, _ => false
section
variable {W : Wd} {X : Cx} {K : PySem.W.Frag} {tg ea eb : Expr} {da db : DE} {pos : Pos}
theorem walkL {a : Addr} {vl : List V} {ds : List PyData} {F' : Hp} (ha : F' a = some (.lst vl)) (r : RpAll K F' vl ds) : IsWalk K W (Itl K a) ds F' := by
  refine ⟨fun H => SqL K H a vl, YAt vl, by rw [← r.length]; exact walk_list, fun F H e1 e2 => .inl (.inl (e2 _ _ (e1 _ _ ha))), fun i H x H2 F d e1 B hd y => ?_⟩
  obtain ⟨rfl, hx⟩ := y
  obtain ⟨v, h1, h2⟩ := r.at hd
  rw [hx] at h1
  cases h1
  exact ⟨F, Stp.refl B, h2.mono e1⟩
theorem walkT {a : Addr} {vl : List V} {ds : List PyData} {F' : Hp} (hs : ∀ F H, Same F' F → Same F H → SqT K H a vl) (r : RpAll K F' vl ds) : IsWalk K W (Itt K a) ds F' := by
  refine ⟨fun H => SqT K H a vl, YAt vl, by rw [← r.length]; exact walk_tup, hs, fun i H x H2 F d e1 B hd y => ?_⟩
  obtain ⟨rfl, hx⟩ := y
  obtain ⟨v, h1, h2⟩ := r.at hd
  rw [hx] at h1
  cases h1
  exact ⟨F, Stp.refl B, h2.mono e1⟩
theorem walkS {z : Str} {F' : Hp} : IsWalk K W (Its z) (signsD z) F' := by
  refine ⟨fun _ => True, _, by rw [show (signsD z).length = z.cps.size by simp [signsD]]; exact walk_str, fun _ _ _ _ => trivial, fun i H x H2 F d e1 B hd y => ?_⟩
  obtain ⟨rfl, c, hc, rfl⟩ := y
  have e : d = .str ⟨#[c]⟩ := by
    unfold signsD at hd
    rw [List.getElem?_map, Array.getElem?_toList, hc] at hd
    exact (Option.some.inj hd).symm
  subst e
  exact ⟨F, Stp.refl B, .str _⟩
theorem walkR {lo : Int} {n : Nat} {F' : Hp} : IsWalk K W (Itr lo n) (rangeD lo n) F' := by
  refine ⟨fun _ => True, _, by rw [rangeD_len]; exact walk_range, fun _ _ _ _ => trivial, fun i H x H2 F d e1 B hd y => ?_⟩
  obtain ⟨rfl, rfl⟩ := y
  rw [rangeD_at n lo i d hd]
  exact ⟨F, Stp.refl B, .int _⟩
theorem walkPair {F H H2 : Hp} {x : V} {f g : Nat → Option V} {i : Nat} {v w : V} {d e : PyData} (B : Bs W.pp F H) (y : YPair f g i H x H2) (h1 : f i = some v) (h2 : g i = some w) (r1 : Rp K F v d) (r2 : Rp K F w e) : ∃ F2, Stp W.pp F H F2 H2 ∧ Rp K F2 x (.tuple [d, e]) := by
  obtain ⟨T, a, b, rfl, nT, rfl, f1, f2⟩ := y
  rw [h1] at f1
  rw [h2] at f2
  cases f1
  cases f2
  have st := Stp.new (o := .tup [v, w]) B nT
  exact ⟨_, st, .tup upd_same (.cons (r1.mono st.ff) (.cons (r2.mono st.ff) .nil))⟩
theorem walkE {a : Addr} {vl : List V} {ds : List PyData} {F' : Hp} (ha : F' a = some (.lst vl)) (r : RpAll K F' vl ds) : IsWalk K W (Ite K a) (enumD 0 ds) F' := by
  refine ⟨fun H => SqL K H a vl, _, by rw [enumD_len, ← r.length]; exact walk_enum, fun F H e1 e2 => .inl (.inl (e2 _ _ (e1 _ _ ha))), fun i H x H2 F d e1 B hd y => ?_⟩
  obtain ⟨z, h1, h2⟩ := enumD_at ds 0 i d hd
  obtain ⟨v, h3, h4⟩ := r.at h1
  subst h2
  rw [Nat.zero_add]
  exact walkPair B y rfl h3 (.int _) (h4.mono e1)
theorem walkZ {a b : Addr} {vl wl : List V} {ds es : List PyData} {F' : Hp} (ha : F' a = some (.lst vl)) (r : RpAll K F' vl ds) (hb : F' b = some (.lst wl)) (r2 : RpAll K F' wl es) : IsWalk K W (Itz K a b) (zipD ds es) F' := by
  refine ⟨fun H => SqL K H a vl ∧ SqL K H b wl, _, walk_zip (by rw [zipD_len, r.length, r2.length]), fun F H e1 e2 => ⟨.inl (.inl (e2 _ _ (e1 _ _ ha))), .inl (.inl (e2 _ _ (e1 _ _ hb)))⟩, fun i H x H2 F d e1 B hd y => ?_⟩
  obtain ⟨z, z2, h1, h2, h3⟩ := zipD_at ds es i d hd
  obtain ⟨v, h4, h5⟩ := r.at h1
  obtain ⟨v2, h6, h7⟩ := r2.at h2
  subst h3
  exact walkPair B y h4 h6 (h5.mono e1) (h7.mono e1)
theorem walk_zipTT {a b : Addr} {xs ys : List V} {n : Nat} (hn : n = min xs.length ys.length) : Walk (RZ.ItzT K a b) n (fun H => SqT K H a xs ∧ SqT K H b ys) (YPair (fun i => xs[i]?) (fun i => ys[i]?)) := by
  subst hn
  refine ⟨fun i _ hi q => ?_, fun _ q => ⟨xs, ys, q.1, q.2, by omega⟩, fun i H v H' _ q y => ?_⟩
  · have h1 : i < xs.length := by omega
    have h2 : i < ys.length := by omega
    exact ⟨xs, ys, xs[i], ys[i], q.1, q.2, by simp [h1], by simp [h2]⟩
  · obtain ⟨T, x, z, h1, h2, h3, h4, h5⟩ := y
    exact ⟨T, x, z, h1, h2, h3, h4 xs q.1, h5 ys q.2⟩
theorem walkZT {a b : Addr} {vl wl : List V} {ds es : List PyData} {F' : Hp} (ha : ∀ F H, Same F' F → Same F H → SqT K H a vl) (r : RpAll K F' vl ds) (hb : ∀ F H, Same F' F → Same F H → SqT K H b wl) (r2 : RpAll K F' wl es) : IsWalk K W (RZ.ItzT K a b) (zipD ds es) F' := by
  refine ⟨fun H => SqT K H a vl ∧ SqT K H b wl, _, walk_zipTT (by rw [zipD_len, r.length, r2.length]), fun F H e1 e2 => ⟨ha F H e1 e2, hb F H e1 e2⟩, fun i H x H2 F d e1 B hd y => ?_⟩
  obtain ⟨z, z2, h1, h2, h3⟩ := zipD_at ds es i d hd
  obtain ⟨v, h4, h5⟩ := r.at h1
  obtain ⟨v2, h6, h7⟩ := r2.at h2
  subst h3
  exact walkPair B y h4 h6 (h5.mono e1) (h7.mono e1)
theorem sqT_all {F' : Hp} {a : Addr} {ds : List PyData} (h : Rp K F' (.ref a) (.tuple ds)) : ∃ vl, (∀ F H, Same F' F → Same F H → SqT K H a vl) ∧ RpAll K F' vl ds := by
  cases h with
  | tup h r => exact ⟨_, fun F H e1 e2 => .inl (.inl (e2 _ _ (e1 _ _ h))), r⟩
  | ktup h r => exact ⟨_, fun F H e1 e2 => .inr h, r⟩
/-- any list, tuple, text -/
def iAnyT (K : PySem.W.Frag) (tl : TE) : TI := fun σ H R => tl σ H fun x H1 => (∃ a, x = .ref a ∧ (∃ xs, SqL K H1 a xs) ∧ R (Itl K a) H1) ∨ (∃ a, x = .ref a ∧ (∃ xs, SqT K H1 a xs) ∧ R (Itt K a) H1) ∨ ∃ z, x = .str z ∧ R (Its z) H1
theorem pi_any {l : Expr} {tl : TE} (hl : PE X l tl) : PI X tg l (iAnyT X.K tl) := by
  refine ⟨fun pins s σ H R I h => ?_⟩
  refine thn (hl.run pins s σ H _ I h) fun v s1 ⟨x, H1, I1, r1, q1⟩ => ?_
  rcases q1 with ⟨a, e, ⟨xs, hq⟩, q⟩ | ⟨a, e, ⟨xs, hq⟩, q⟩ | ⟨z, e, q⟩
  · subst e
    cases r1
    obtain ⟨its, rv, p, hz⟩ := I1.list hq
    refine wpAny_pyIter_list p.isList ?_
    refine ⟨s1.heap.objs.size, [s1.heap.objs.size], _, _, H1, rfl, I1.kept (t' := s1.toks) fun b o e => Heap.get?_push_of_some _ e, turn_list a _, ⟨_, Heap.get?_push_size _ rfl, rfl, rfl⟩, fun b hb => ?_, q⟩
    have e : b = s1.heap.objs.size := by simpa using hb
    subst e
    exact I1.fpOk (Nat.le_refl _) (I1.hok.fresh (Nat.le_refl _))
  · subst e
    cases r1
    obtain ⟨its, rv, p, hz⟩ := I1.tuple hq
    refine wpAny_pyIter_tuple (show s1.heap.IsTuple a its.toArray from p) ?_
    refine ⟨s1.heap.objs.size, [s1.heap.objs.size], _, _, H1, rfl, I1.kept (t' := s1.toks) fun b o e => Heap.get?_push_of_some _ e, turn_tuple a _, ⟨_, Heap.get?_push_size _ rfl, rfl, rfl⟩, fun b hb => ?_, q⟩
    have e : b = s1.heap.objs.size := by simpa using hb
    subst e
    exact I1.fpOk (Nat.le_refl _) (I1.hok.fresh (Nat.le_refl _))
  · subst e
    obtain ⟨t, rfl⟩ := r1
    cases ha : z.cps.all (· < 128)
    · exact wpAny_pyIter_wide ha (pi_one (tk := s1.toks) I1 _ (turn_str _ z t "str_iterator" (.inr rfl)) ⟨_, Heap.get?_push_size _ rfl, rfl, rfl⟩ q)
    · exact wpAny_pyIter_ascii ha (pi_one (tk := s1.toks) I1 _ (turn_str _ z t "str_ascii_iterator" (.inl rfl)) ⟨_, Heap.get?_push_size _ rfl, rfl, rfl⟩ q)
theorem si_seq (a : SE W X ea da) : SI W X tg ea (iSeq da) := by
  obtain ⟨t, p, o⟩ := a
  refine ⟨_, pi_any p, fun env σ F H k R Re h q => o env σ F H _ _ Re h fun d v F1 H1 s1 r1 h1 => ?_⟩
  have B := (Re.step s1).bs
  cases d with
  | list xs =>
    cases r1 with
    | lst ha ra => exact .inl ⟨_, rfl, ⟨_, .inl (.inl (B.keep ha))⟩, q _ _ F1 H1 s1 (walkL ha ra) h1⟩
  | tuple xs =>
    cases v with
    | ref a =>
      obtain ⟨vl, hs, ra⟩ := sqT_all r1
      exact .inr (.inl ⟨_, rfl, ⟨_, hs F1 H1 (Same.refl F1) B.fh⟩, q _ _ F1 H1 s1 (walkT hs ra) h1⟩)
    | _ => cases r1
  | str z => cases r1; exact .inr (.inr ⟨z, rfl, q _ _ F1 H1 s1 walkS h1⟩)
  | _ => cases h1
theorem si_range1 {p : Pos} (hm : X.mg "range" = none) (a : SE W X ea da) (hg : Gl X "range" := by rfl) (hs : starEach [ea] X.env = [(false, eval ea X.env)] := by rfl) (hs2 : starEach [ea] X.env = (false, eval ea X.env) :: starEach [] X.env := by rfl) : SI W X tg (.Call (.Name "range" p) [ea] [] pos) (iRange1 da) := by
  obtain ⟨t, q, o⟩ := a
  refine ⟨_, pi_range1 hg hm (pa_cons q pa_nil hs2) hs, fun env σ F H k R Re h q => o env σ F H _ _ Re h fun d v F1 H1 s1 r1 h1 => ?_⟩
  cases d with
  | int n =>
    cases r1
    cases e : big n with
    | false => simp only [e] at h1; cases h1
    | true =>
      simp only [e] at h1
      obtain ⟨b1, b2⟩ := big_ok e
      exact ⟨n, rfl, b1, b2, q _ _ F1 H1 s1 walkR h1⟩
  | _ => cases h1
theorem si_range2 {p : Pos} (hm : X.mg "range" = none) (a : SE W X ea da) (b : SE W X eb db) (hg : Gl X "range" := by rfl) (hs : starEach [ea, eb] X.env = [(false, eval ea X.env), (false, eval eb X.env)] := by rfl) (hs2 : starEach [eb] X.env = [(false, eval eb X.env)] := by rfl)
    (h1 : starEach [ea, eb] X.env = (false, eval ea X.env) :: starEach [eb] X.env := by rfl) (h2 : starEach [eb] X.env = (false, eval eb X.env) :: starEach [] X.env := by rfl) : SI W X tg (.Call (.Name "range" p) [ea, eb] [] pos) (iRange2 da db) := by
  obtain ⟨t, p1, o⟩ := a
  obtain ⟨t2, p2, o2⟩ := b
  refine ⟨_, pi_range2 hg hm (pa_cons p1 (pa_cons p2 pa_nil h2) h1) hs hs2, fun env σ F H k R Re h q => o env σ F H _ _ Re h fun d v F1 H1 s1 r1 h1 => o2 env σ F1 H1 _ _ (Re.step s1) h1 fun d2 v2 F2 H2 s2 r2 h2 => ?_⟩
  cases d with
  | int lo =>
    cases d2 with
    | int n =>
      cases r1
      cases r2
      cases e : (big lo && big n) with
      | false => simp only [e] at h2; cases h2
      | true =>
        simp only [e] at h2
        obtain ⟨e1, e2⟩ := Bool.and_eq_true_iff.mp e
        obtain ⟨b1, b2⟩ := big_ok e1
        obtain ⟨b3, b4⟩ := big_ok e2
        exact ⟨lo, n, rfl, ⟨b1, b2, b3, b4⟩, q _ _ F2 H2 (s1.trans s2) walkR h2⟩
    | _ => cases h2
  | _ => cases h2
theorem si_enum {p tpos : Pos} {elts : List Expr} {kk : Nat} (hm : X.mg "enumerate" = none) (a : SE W X ea da) (hg : Gl X "enumerate" := by rfl) (hs : starEach [ea] X.env = [(false, eval ea X.env)] := by rfl) (hs2 : starEach [ea] X.env = (false, eval ea X.env) :: starEach [] X.env := by rfl) :
    SI W X (.Tuple elts kk tpos) (.Call (.Name "enumerate" p) [ea] [] pos) (iEnumD da) := by
  obtain ⟨t, q, o⟩ := a
  refine ⟨_, pi_enum hg hm (pa_cons q pa_nil hs2) hs, fun env σ F H k R Re h q => o env σ F H _ _ Re h fun d v F1 H1 s1 r1 h1 => ?_⟩
  have B := (Re.step s1).bs
  cases d with
  | list xs =>
    cases r1 with
    | lst ha ra => exact ⟨_, _, rfl, .inl (.inl (B.keep ha)), q _ _ F1 H1 s1 (walkE ha ra) h1⟩
  | _ => cases h1
theorem si_zip {p tpos : Pos} {elts : List Expr} {kk : Nat} (hm : X.mg "zip" = none) (a : SE W X ea da) (b : SE W X eb db) (hg : Gl X "zip" := by rfl) (hs : starEach [ea, eb] X.env = (false, eval ea X.env) :: starEach [eb] X.env := by rfl) (hpl : (backTo pos (starEach [eb] X.env)).any (·.1) = false := by rfl)
    (h2 : starEach [eb] X.env = (false, eval eb X.env) :: starEach [] X.env := by rfl) : SI W X (.Tuple elts kk tpos) (.Call (.Name "zip" p) [ea, eb] [] pos) (iZipD da db) := by
  obtain ⟨t, p1, o⟩ := a
  obtain ⟨t2, p2, o2⟩ := b
  refine ⟨_, RZ.pi_zipA hg hm (pa_cons p1 (pa_cons p2 pa_nil h2) hs) hs hpl, fun env σ F H k R Re h q => o env σ F H _ _ Re h fun d v F1 H1 s1 r1 h1 => o2 env σ F1 H1 _ _ (Re.step s1) h1 fun d2 v2 F2 H2 s2 r2 h2 => ?_⟩
  have B := ((Re.step s1).step s2).bs
  have r1 := r1.mono s2.ff
  cases d with
  | list xs =>
    cases d2 with
    | list ys =>
      cases r1 with
      | lst ha ra =>
        cases r2 with
        | lst hb rb => exact ⟨_, _, _, _, rfl, .inl ⟨.inl (.inl (B.keep ha)), .inl (.inl (B.keep hb)), q _ _ F2 H2 (s1.trans s2) (walkZ ha ra hb rb) h2⟩⟩
    | _ => cases h2
  | tuple xs =>
    cases d2 with
    | tuple ys =>
      cases v with
      | ref pa =>
        cases v2 with
        | ref pb =>
          obtain ⟨vl, ha, ra⟩ := sqT_all r1
          obtain ⟨wl, hb, rb⟩ := sqT_all r2
          exact ⟨_, _, _, _, rfl, .inr ⟨ha F2 H2 (Same.refl F2) B.fh, hb F2 H2 (Same.refl F2) B.fh, q _ _ F2 H2 (s1.trans s2) (walkZT ha ra hb rb) h2⟩⟩
        | _ => cases r2
      | _ => cases r1
    | _ => cases h2
  | _ => cases h2
end

/-! ### comprehensions -/
def wipeE (env : Sls) : List Nat → Sls
  | [] => env
  | v :: vs => (wipeE env vs).set v .no
theorem Rel.wipe {K : PySem.W.Frag} {W : Wd} {env : Sls} {σ : L2.St} {F H : Hp} (R : Rel K W env σ F H) : ∀ vs : List Nat, Rel K W (wipeE env vs) (L2.wipe σ vs) F H
  | [] => R
  | v :: vs => (Rel.wipe R vs).unset none v
def goLc (tg : DG) (tt : DT) (el : DE) (env : Sls) : List PyData → List PyData → KF → Bool
  | [], acc, k => k (.list acc.reverse)
  | x :: xs, acc, k => tg x env fun env' => tt env' fun b => match b with
    | true => el env' fun y => goLc tg tt el env xs (y :: acc) k
    | false => goLc tg tt el env xs acc k
def dLc (it : DI) (tg : DG) (tt : DT) (el : DE) (vs : List Nat) : DE := fun env k => it env fun xs => match small xs.length with
  | true => goLc tg tt el (wipeE env vs) xs [] k
  | false => false
theorem wipe_at {σ : L2.St} : ∀ {vs : List Nat} {j : Nat}, j ∉ vs → (L2.wipe σ vs)[j]? = σ[j]?
  | [], _, _ => rfl
  | v :: vs, j, h => by
    unfold L2.wipe
    rw [List.getElem?_set_ne (fun z => h (by simp [z]))]
    exact wipe_at (fun z => h (by simp [z]))
theorem wipe_in {σ : L2.St} : ∀ {vs : List Nat} {j : Nat}, j ∈ vs → j < σ.length → (L2.wipe σ vs)[j]? = some none
  | v :: vs, j, h, hl => by
    unfold L2.wipe
    by_cases e : v = j
    · subst e
      rw [List.getElem?_set_self (by rw [L2.wipe_length]; exact hl)]
    · rw [List.getElem?_set_ne e]
      exact wipe_in (by rcases List.mem_cons.mp h with z | z; exact absurd z.symm e; exact z) hl
theorem wipe_same {σ σ2 : L2.St} {vs sl : List Nat} (hl : σ2.length = σ.length) (hs : ∀ j ∈ sl, j ∈ vs) (h : ∀ j, j ∉ sl → σ2[j]? = (L2.wipe σ vs)[j]?) : L2.wipe σ2 vs = L2.wipe σ vs := by
  apply List.ext_getElem?
  intro j
  by_cases hj : j ∈ vs
  · by_cases hb : j < σ.length
    · rw [wipe_in hj hb, wipe_in hj (by rw [hl]; exact hb)]
    · rw [List.getElem?_eq_none (by rw [L2.wipe_length]; omega), List.getElem?_eq_none (by rw [L2.wipe_length]; omega)]
  · rw [wipe_at hj, h j (fun z => hj (hs j z))]
def dYes : DT := fun _ k => k true
structure STs (W : Wd) (X : Cx) (es : List Expr) (dt : DT) : Prop where
  ex : ∃ t, PTs X es t ∧ OkT X.K W t dt
section
variable {W : Wd} {X : Cx} {K : PySem.W.Frag} {e : Expr} {dt : DT}
theorem sts_nil : STs W X [] dYes := ⟨_, pts_nil, fun env σ F H k Q R h q => q true F H (Stp.refl R.bs) h⟩
theorem sts_one (h : ST W X e dt) : STs W X [e] dt := by
  obtain ⟨t, p, o⟩ := h
  exact ⟨t, pts_one p, o⟩
theorem STs.can {es : List Expr} (h : STs W X es dt) : PTs X es (canT X.K W dt) := by
  obtain ⟨t, p, o⟩ := h
  exact ⟨fun pins s σ H Q I ⟨env, F, k, R, h, q⟩ => p.run pins s σ H Q I (o env σ F H k Q R h q)⟩
/-- the state in a comprehension: the new list at D -/
structure InLc (K : PySem.W.Frag) (W : Wd) (F1 H1 : Hp) (D : Addr) (acc : List PyData) (F H : Hp) : Prop where
  st : Stp W.pp F1 H1 F H
  un : F D = none
  at_ : ∃ vl, H D = some (.lst vl) ∧ RpAll K F vl acc.reverse
theorem InLc.step {F1 H1 F H F' H' : Hp} {D : Addr} {acc : List PyData} (np : D ≠ W.pp) (c : InLc K W F1 H1 D acc F H) (s : Stp W.pp F H F' H') : InLc K W F1 H1 D acc F' H' := by
  obtain ⟨vl, h1, h2⟩ := c.at_
  exact ⟨c.st.trans s, s.own c.un (by rw [h1]; exact fun z => nomatch z), vl, s.fr _ _ np h1, h2.mono s.ff⟩
theorem okE_lc {wi : TI} {g : TG} {tt : TT} {te : TE} {it : DI} {tg : DG} {dt : DT} {el : DE} {vs sl : List Nat} (oi : OkI K W wi it) (og : OkG K W g tg sl) (ot : OkT K W tt dt) (oe : OkE K W te el) (hsl : ∀ j ∈ sl, j ∈ vs) :
    OkE K W (tLc wi g tt te vs) (dLc it tg dt el vs) := fun env σ F H k Q R h q => by
  refine oi env σ F H _ _ R h fun ds J F1 H1 s1 wk h1 => ?_
  cases e : small ds.length with
  | false => rw [e] at h1; cases h1
  | true =>
    rw [e] at h1
    have hz := small_ok e
    have hz2 : ds.length ≤ 100000 := Nat.le_of_ble_eq_true e
    have R1 := R.step s1
    have B1 := R1.bs
    obtain ⟨G, Y, w1, w2, w3⟩ := wk
    intro D hD
    have np : D ≠ W.pp := fun z => by subst z; exact B1.po.some hD
    have fD : F1 D = none := by
      cases q : F1 D with
      | none => rfl
      | some o => rw [B1.fh D o q] at hD; cases hD
    have RW := R1.wipe vs
    refine lc_it w1 (fun i H' => ∃ acc F', InLc K W F1 H1 D acc F' H' ∧ acc.length ≤ i ∧ goLc tg dt el (wipeE env vs) (ds.drop i) acc k = true) ⟨[], F1, ⟨Stp.newO B1 hD, fD, [], upd_same, .nil⟩, Nat.le_refl _, h1⟩
      (fun i H' _ ⟨acc, F', c, _⟩ => w2 F' H' c.st.ff c.st.fh) (fun i x H' H'' hi ⟨acc, F', c, la, hg⟩ y => ?_) (fun H' ⟨acc, F', c, la, hg⟩ => ?_)
    · have hd : ds[i]? = some ds[i] := List.getElem?_eq_getElem hi
      have hdr : ds.drop i = ds[i] :: ds.drop (i + 1) := List.drop_eq_getElem_cons hi
      rw [hdr] at hg
      have Bc := Stp.bs B1 c.st
      obtain ⟨F2, s2, r2⟩ := w3 i H' x H'' F' ds[i] c.st.ff Bc hd y
      have c2 := c.step np s2
      have RW2 := (RW.step c2.st)
      unfold goLc at hg
      refine og _ _ F2 H'' x _ _ _ RW2 r2 hg fun env' σ' R' a1 l1 hk => ?_
      have ew : L2.wipe σ' vs = L2.wipe σ vs := wipe_same (l1.trans (L2.wipe_length σ vs)) hsl a1
      refine ⟨ew, ?_⟩
      refine ot env' σ' F2 H'' _ _ R' hk fun b F3 H3 s3 h3 => ?_
      have c3 := c2.step np s3
      cases b with
      | false =>
        rw [if_neg Bool.false_ne_true]
        exact ⟨acc, F3, c3, by omega, h3⟩
      | true =>
        rw [if_pos rfl]
        refine oe env' σ' F3 H3 _ _ (R'.step s3) h3 fun d v F4 H4 s4 r4 h4 => ?_
        have c4 := c3.step np s4
        obtain ⟨vl, h5, h6⟩ := c4.at_
        refine ⟨vl, h5, by rw [h6.length, List.length_reverse]; exact Nat.lt_of_le_of_lt (show acc.length ≤ 100000 by omega) (by decide), d :: acc, F4, ⟨c4.st.write hD c4.un np, c4.un, vl ++ [v], upd_same, ?_⟩, by rw [List.length_cons]; omega, h4⟩
        rw [List.reverse_cons]
        exact h6.append (.cons r4 .nil)
    · rw [List.drop_length] at hg
      unfold goLc at hg
      obtain ⟨vl, h5, h6⟩ := c.at_
      have st := c.st.freeze hD c.un h5
      exact q _ _ (upd F' D (.lst vl)) H' (s1.trans st) (.lst upd_same (h6.mono (same_upd c.un))) hg
end
end Dl

namespace Dl
open PySem PySem.Spec PyProof.Rows L2

section
variable {W : Wd} {X : Cx} {K : PySem.W.Frag}
theorem se_lc {elt tg iter : Expr} {ifs : List Expr} {scope : Scope} {own : List (Str × Nat)} {pos : Pos} {di : DI} {g : DG} {dt : DT} {de : DE} {sl vs : List Nat} (hc : X.calm = true) (hN : X.N.Nodup) (hi : SI W X tg iter di) (ok : BlkOk X.N X.env.scope scope own)
    (hg : ∀ (s : Shared) (H : Hp) (C : Addr) (cl : List (Str × Addr)) (fp : List Addr), SG W (X.blk s H scope (compEnvC scope cl C X.env) fp) tg g sl) (ht : ∀ (s : Shared) (H : Hp) (C : Addr) (cl : List (Str × Addr)) (fp : List Addr), STs W (X.blk s H scope (compEnvC scope cl C X.env) fp) ifs dt)
    (he : ∀ (s : Shared) (H : Hp) (C : Addr) (cl : List (Str × Addr)) (fp : List Addr), SE W (X.blk s H scope (compEnvC scope cl C X.env) fp) elt de) (hsl : ∀ j ∈ sl, j ∈ vs := by decide) (hvs : own.map (·.2) = vs := by rfl) (hs : ∀ x, foldedSetIterable iter X.env x = pure x := by intro _; rfl) :
    SE W X (.ListComp elt [⟨tg, iter, ifs, 0⟩] scope pos) (dLc di g dt de vs) := by
  obtain ⟨wi, p, oi⟩ := hi
  subst hvs
  exact ⟨_, pe_lc hc hN p ok (fun s H C cl fp => (hg s H C cl fp).can) (fun s H C cl fp => (ht s H C cl fp).can) (fun s H C cl fp => (he s H C cl fp).can) hs, okE_lc oi okG_can okT_can okE_can hsl⟩
theorem se_setlc {i : Nat} {y : Str} {py : Pos} {elt tg iter : Expr} {ifs : List Expr} {scope : Scope} {own : List (Str × Nat)} {pos spos : Pos} {di : DI} {g : DG} {dt : DT} {de : DE} {sl vs : List Nat} (hc : X.calm = true) (hN : X.N.Nodup) (hy : X.N[i]? = some y) (hyl : X.env.scope.names.lookup y = some .local)
    (hsw : swapsWith (.ListComp elt [⟨tg, iter, ifs, 0⟩] scope pos) (some (.Name y py)) spos.line X.env = pure true) (hi : SI W X tg iter di) (ok : BlkOk X.N X.env.scope scope own)
    (hg : ∀ (s : Shared) (H : Hp) (C : Addr) (cl : List (Str × Addr)) (fp : List Addr), SG W (X.blk s H scope (compEnvC scope cl C X.env) fp) tg g sl) (ht : ∀ (s : Shared) (H : Hp) (C : Addr) (cl : List (Str × Addr)) (fp : List Addr), STs W (X.blk s H scope (compEnvC scope cl C X.env) fp) ifs dt)
    (he : ∀ (s : Shared) (H : Hp) (C : Addr) (cl : List (Str × Addr)) (fp : List Addr), SE W (X.blk s H scope (compEnvC scope cl C X.env) fp) elt de) (hsl : ∀ j ∈ sl, j ∈ vs := by decide) (hvs : own.map (·.2) = vs := by rfl) (hs : ∀ x, foldedSetIterable iter X.env x = pure x := by intro _; rfl) :
    ∃ te, PS X (.Assign [.Name y py] (.ListComp elt [⟨tg, iter, ifs, 0⟩] scope pos) spos) (tAsg te (gName i)) ∧ OkE X.K W te (dLc di g dt de vs) := by
  obtain ⟨wi, p, oi⟩ := hi
  subst hvs
  exact ⟨_, ps_setLc hc hN hy hyl hsw p ok (fun s H C cl fp => (hg s H C cl fp).can) (fun s H C cl fp => (ht s H C cl fp).can) (fun s H C cl fp => (he s H C cl fp).can) hs, okE_lc oi okG_can okT_can okE_can hsl⟩
end

/-! ### calls of defs -/
abbrev Fn := List PyData → KF → Bool
def RA (K : PySem.W.Frag) (pp : Addr) (F : Hp) (v : V) (d : PyData) : Prop := Rp K F v d ∨ (d = .dict [] ∧ v = .ref pp)
theorem RA.mono {K : PySem.W.Frag} {pp : Addr} {F F' : Hp} {v : V} {d : PyData} (e : Same F F') (h : RA K pp F v d) : RA K pp F' v d := h.elim (fun h => .inl (h.mono e)) .inr
abbrev RAs (K : PySem.W.Frag) (pp : Addr) (F : Hp) : List V → List PyData → Prop := Paired (RA K pp F)
def spOf (K : PySem.W.Frag) (m : Fn) (n : Nat) : Sp := fun vs H Q _ => vs.length = n ∧ ∃ (pp : Addr) (F : Hp) (ds : List PyData) (k : KF), Bs pp F H ∧ RAs K pp F vs ds ∧ m ds k = true ∧ ∀ d v F' H', Stp pp F H F' H' → Rp K F' v d → k d = true → Q v H'
def OkP (K : PySem.W.Frag) (W : Wd) (t : TA) (e : DA) : Prop := ∀ (env : Sls) (σ : L2.St) (F H : Hp) (k : List PyData → Bool) (Q : List V → Hp → Prop), Rel K W env σ F H → e env k = true → (∀ ds vs F' H', Stp W.pp F H F' H' → RAs K W.pp F' vs ds → k ds = true → Q vs H') → t σ H Q
structure SAP (W : Wd) (X : Cx) (es : List Expr) (da : DA) : Prop where
  ex : ∃ t, PA X es t ∧ OkP X.K W t da
structure SKP (W : Wd) (X : Cx) (kws : List Keyword) (da : DA) : Prop where
  ex : ∃ t, PK X kws t ∧ OkP X.K W t da
def aPot (i : Nat) (r : DA) : DA := fun env k => match look env i with
  | .pt => r env fun xs => k (.dict [] :: xs)
  | _ => false
def dCall (m : Fn) (a : DA) : DE := fun env k => a env fun ds => m ds k
structure Has (P : Program) (w : World) (K : PySem.W.Frag) (mg : Str → Option Value) (base : Heap) (lev : Nat) (x : Str) (ps : List Str) (m : Fn) : Prop where
  ex : ∃ f fd, FnOk P w K mg base CX0 lev f fd ps (spOf K m ps.length) ∧ mg x = some (.ref f) ∧ PySem.W.keepIn K (.ref f) = true ∧ Binds K fd ps [] ∧ ∃ oc od osl, K.lookup f = some ⟨oc, od, .func fd, osl⟩
theorem Has.mono {P : Program} {w : World} {K : PySem.W.Frag} {mg : Str → Option Value} {base : Heap} {j l : Nat} {x : Str} {ps : List Str} {m : Fn} (h : Has P w K mg base j x ps m) (e : j ≤ l) : Has P w K mg base l x ps m := by
  obtain ⟨f, fd, F, a, b, c, d⟩ := h
  exact ⟨f, fd, F.mono e, a, b, c, d⟩
/-- another function told of the def: told less -/
theorem Has.imp {P : Program} {w : World} {K : PySem.W.Frag} {mg : Str → Option Value} {base : Heap} {l : Nat} {x : Str} {ps : List Str} {m m' : Fn} (h : Has P w K mg base l x ps m) (e : ∀ ds k, m' ds k = true → m ds k = true) : Has P w K mg base l x ps m' := by
  obtain ⟨f, fd, F, a, b, c, d⟩ := h
  exact ⟨f, fd, F.imp fun vs H Q E ⟨hl, pp, F0, ds, k, B, r, hm, q⟩ => ⟨hl, pp, F0, ds, k, B, r, e ds k hm, q⟩, a, b, c, d⟩
section
variable {W : Wd} {X : Cx} {K : PySem.W.Frag} {ea : Expr} {es : List Expr} {da : DE} {dr : DA} {pos : Pos}
theorem sp_nil : SAP W X [] aNil := ⟨_, pa_nil, fun env σ F H k Q R h q => q [] [] F H (Stp.refl R.bs) .nil h⟩
theorem sp_cons (a : SE W X ea da) (r : SAP W X es dr) (hs : starEach (ea :: es) X.env = (false, eval ea X.env) :: starEach es X.env := by rfl) : SAP W X (ea :: es) (aCons da dr) := by
  obtain ⟨t1, p1, o1⟩ := a
  obtain ⟨t2, p2, o2⟩ := r
  refine ⟨_, pa_cons p1 p2 hs, fun env σ F H k Q R h q => ?_⟩
  exact o1 env σ F H _ _ R h fun d v F1 H1 s1 r1 h1 => o2 env σ F1 H1 _ _ (R.step s1) h1 fun ds vs F2 H2 s2 r2 h2 => q (d :: ds) (v :: vs) F2 H2 (s1.trans s2) (.cons (.inl (r1.mono s2.ff)) r2) h2
theorem sp_pot {i : Nat} {x : Str} {pos' : Pos} (r : SAP W X es dr) (hN : X.N[i]? = some x := by rfl) (hv : Vis X.env.scope x := by first | exact Or.inl rfl | exact Or.inr (Or.inl rfl) | exact Or.inr (Or.inr rfl)) (hd : (x == ("__debug__" : Str)) = false := by decide)
    (hcd : (x == ("__classdict__" : Str)) = false := by decide) (hs : starEach (.Name x pos' :: es) X.env = (false, eval (.Name x pos') X.env) :: starEach es X.env := by rfl) : SAP W X (.Name x pos' :: es) (aPot i dr) := by
  obtain ⟨t2, p2, o2⟩ := r
  refine ⟨_, pa_cons (pe_var hN hv hd hcd) p2 hs, fun env σ F H k Q R h q => ?_⟩
  unfold aPot at h
  cases e : look env i with
  | pt =>
    rw [e] at h
    have h0 : σ[i]? = some (some (.ref W.pp)) := R.sl i _ (look_some e (fun z => nomatch z))
    exact ⟨_, h0, o2 env σ F H _ _ R h fun ds vs F2 H2 s2 r2 h2 => q (.dict [] :: ds) (.ref W.pp :: vs) F2 H2 s2 (.cons (.inr ⟨rfl, rfl⟩) r2) h2⟩
  | _ => rw [e] at h; cases h
theorem sk_nil : SKP W X [] aNil := ⟨_, pk_nil, fun env σ F H k Q R h q => q [] [] F H (Stp.refl R.bs) .nil h⟩
theorem sk_cons {kws : List Keyword} {nm : Option Str} {kpos : Pos} (a : SE W X ea da) (r : SKP W X kws dr) : SKP W X (⟨nm, ea, kpos⟩ :: kws) (aCons da dr) := by
  obtain ⟨t1, p1, o1⟩ := a
  obtain ⟨t2, p2, o2⟩ := r
  refine ⟨_, pk_cons p1 p2, fun env σ F H k Q R h q => ?_⟩
  exact o1 env σ F H _ _ R h fun d v F1 H1 s1 r1 h1 => o2 env σ F1 H1 _ _ (R.step s1) h1 fun ds vs F2 H2 s2 r2 h2 => q (d :: ds) (v :: vs) F2 H2 (s1.trans s2) (.cons (.inl (r1.mono s2.ff)) r2) h2
theorem sk_pot {kws : List Keyword} {nm : Option Str} {kpos : Pos} {i : Nat} {x : Str} {pos' : Pos} (r : SKP W X kws dr) (hN : X.N[i]? = some x := by rfl) (hv : Vis X.env.scope x := by first | exact Or.inl rfl | exact Or.inr (Or.inl rfl) | exact Or.inr (Or.inr rfl)) (hd : (x == ("__debug__" : Str)) = false := by decide)
    (hcd : (x == ("__classdict__" : Str)) = false := by decide) : SKP W X (⟨nm, .Name x pos', kpos⟩ :: kws) (aPot i dr) := by
  obtain ⟨t2, p2, o2⟩ := r
  refine ⟨_, pk_cons (pe_var hN hv hd hcd) p2, fun env σ F H k Q R h q => ?_⟩
  unfold aPot at h
  cases e : look env i with
  | pt =>
    rw [e] at h
    have h0 : σ[i]? = some (some (.ref W.pp)) := R.sl i _ (look_some e (fun z => nomatch z))
    exact ⟨_, h0, o2 env σ F H _ _ R h fun ds vs F2 H2 s2 r2 h2 => q (.dict [] :: ds) (.ref W.pp :: vs) F2 H2 s2 (.cons (.inr ⟨rfl, rfl⟩) r2) h2⟩
  | _ => rw [e] at h; cases h
theorem paired_len {K : PySem.W.Frag} {pp : Addr} {F : Hp} {vs : List V} {ds : List PyData} (h : RAs K pp F vs ds) : vs.length = ds.length := Paired.length h
/-- a call needs as many values as there are parameters -/
def dCallN (n : Nat) (m : Fn) (a : DA) : DE := fun env k => a env fun ds => match Nat.beq ds.length n with
  | true => m ds k
  | false => false
theorem okE_call {t : TA} {m : Fn} {n : Nat} {E : XK} (a : OkP K W t dr) : OkE K W (tCall (spOf K m n) [] E t) (dCallN n m dr) := fun env σ F H k Q R h q => by
  refine a env σ F H _ _ R h fun ds vs F1 H1 s1 r1 h1 => ?_
  cases e : Nat.beq ds.length n with
  | false => simp only [e] at h1; cases h1
  | true =>
    simp only [e] at h1
    show spOf K m n (vs ++ []) H1 Q E
    rw [List.append_nil]
    exact ⟨by rw [paired_len r1]; exact Nat.eq_of_beq_eq_true e, W.pp, F1, ds, k, (R.step s1).bs, r1, h1, fun d v F2 H2 s2 r2 h2 => q d v F2 H2 (s1.trans s2) r2 h2⟩
theorem se_call {l n : Nat} {x : Str} {ps : List Str} {m : Fn} {p : Pos} (h : Has X.prog X.w X.K X.mg X.base l x ps m) (hr : Room l X.A) (a : SAP W X (ea :: es) dr) (hg : Gl X x := by rfl) (hdb : (x == ("__debug__" : Str)) = false := by decide)
    (he : starEach (ea :: es) X.env = (false, eval ea X.env) :: starEach es X.env := by rfl) (hpl : (backTo pos (starEach es X.env)).any (·.1) = false := by rfl) (hn : ps.length = n := by rfl) : SE W X (.Call (.Name x p) (ea :: es) [] pos) (dCallN n m dr) := by
  subst hn
  obtain ⟨f, fd, F, h1, h2, h3, _⟩ := h
  obtain ⟨t, pa, o⟩ := a
  exact ⟨_, pe_call F hr hg h1 h2 h3 .nil pass0 pa hdb he hpl, okE_call (E := E0) o⟩
end

/-! ### statements -/
structure DEnds where
  nx : Sls → Bool
  rt : PyData → Bool
  bk : Sls → Bool
  ct : Sls → Bool
abbrev DS := DEnds → Sls → Bool
structure EndsOk (K : PySem.W.Frag) (W : Wd) (F : Hp) (B : DEnds) (D : Ends) : Prop where
  nx : ∀ env σ F' H, Same F F' → Rel K W env σ F' H → B.nx env = true → D.nx σ H
  rt : ∀ d v F' H, Stp W.pp W.F0 W.H0 F' H → Rp K F' v d → B.rt d = true → D.rt v H
  bk : ∀ env σ F' H, Same F F' → Rel K W env σ F' H → B.bk env = true → D.bk σ H
  ct : ∀ env σ F' H, Same F F' → Rel K W env σ F' H → B.ct env = true → D.ct σ H
theorem EndsOk.mono {K : PySem.W.Frag} {W : Wd} {F F1 : Hp} {B : DEnds} {D : Ends} (e : Same F F1) (h : EndsOk K W F B D) : EndsOk K W F1 B D :=
  ⟨fun env σ F' H s => h.nx env σ F' H (e.trans s), h.rt, fun env σ F' H s => h.bk env σ F' H (e.trans s), fun env σ F' H s => h.ct env σ F' H (e.trans s)⟩
def OkS (K : PySem.W.Frag) (W : Wd) (t : TS) (d : DS) : Prop := ∀ (env : Sls) (σ : L2.St) (F H : Hp) (B : DEnds) (D : Ends), Rel K W env σ F H → d B env = true → EndsOk K W F B D → t D σ H
structure SS (W : Wd) (X : Cx) (st : Stmt) (d : DS) : Prop where
  ex : ∃ t, PS X st t ∧ OkS X.K W t d
structure SSs (W : Wd) (X : Cx) (st : List Stmt) (d : DS) : Prop where
  ex : ∃ t, PSs X st t ∧ OkS X.K W t d
def sNil : DS := fun B env => B.nx env
def sSeq (a b : DS) : DS := fun B env => a { B with nx := b B } env
def sRet (a : DE) : DS := fun B env => a env B.rt
def sRetN : DS := fun B _ => B.rt .none
def sAsg (a : DE) (g : DG) : DS := fun B env => a env fun d => g d env B.nx
def sIf (c : DT) (a b : DS) : DS := fun B env => c env fun x => match x with
  | true => a B env
  | false => b B env
def sExpr (a : DE) : DS := fun B env => a env fun _ => B.nx env
def sNever : DS := fun _ _ => false
def sBrk : DS := fun B env => B.bk env
def sCont : DS := fun B env => B.ct env
/-- the slot's list is frozen from here on -/
def freeze (env : Sls) (i : Nat) : Option Sls := match look env i with
  | .ow ds => some (env.set i (.fz (.list ds)))
  | _ => none
def sFrz (i : Nat) (a : DS) : DS := fun B env => match freeze env i with
  | some env' => a B env'
  | none => false
def goFor (g : DG) (body : DS) (B : DEnds) : List PyData → Sls → Bool
  | [], env => B.nx env
  | x :: xs, env => g x env fun env' => body { nx := goFor g body B xs, rt := B.rt, ct := goFor g body B xs, bk := B.nx } env'
def sFor (it : DI) (g : DG) (body : DS) : DS := fun B env => it env fun xs => goFor g body B xs env
def goWh (c : DT) (body : DS) (B : DEnds) : Nat → Sls → Bool
  | 0, _ => false
  | n + 1, env => c env fun x => match x with
    | true => body { nx := goWh c body B n, rt := B.rt, ct := goWh c body B n, bk := B.nx } env
    | false => B.nx env
def sWh (fuel : Nat) (c : DT) (body : DS) : DS := fun B env => goWh c body B fuel env
section
variable {W : Wd} {X : Cx} {K : PySem.W.Frag} {st : Stmt} {rest : List Stmt} {a b : DS} {e : Expr} {de : DE} {pos : Pos}
theorem ss_nil : SSs W X [] sNil := ⟨_, pss_nil, fun env σ F H B D R h q => q.nx env σ F H (Same.refl F) R h⟩
theorem ss_cons (h1 : SS W X st a) (h2 : SSs W X rest b) : SSs W X (st :: rest) (sSeq a b) := by
  obtain ⟨t1, p1, o1⟩ := h1
  obtain ⟨t2, p2, o2⟩ := h2
  refine ⟨_, pss_cons p1 p2, fun env σ F H B D R h q => ?_⟩
  exact o1 env σ F H _ _ R h ⟨fun env' σ' F' H' e R' h' => o2 env' σ' F' H' _ _ R' h' (q.mono e), q.rt, q.bk, q.ct⟩
theorem ss_one (h1 : SS W X st a) : SSs W X [st] a := by
  obtain ⟨t1, p1, o1⟩ := h1
  exact ⟨_, pss_one p1, o1⟩
theorem ss_frz {i : Nat} (h : SSs W X rest a) : SSs W X rest (sFrz i a) := by
  obtain ⟨t, p, o⟩ := h
  refine ⟨t, p, fun env σ F H B D R h q => ?_⟩
  unfold sFrz freeze at h
  cases e : look env i with
  | ow ds =>
    rw [e] at h
    obtain ⟨F', sf, R'⟩ := R.fzo (look_some e (fun z => nomatch z))
    exact o _ σ F' H B D R' h (q.mono sf)
  | _ => rw [e] at h; cases h
theorem ss_ret (h : SE W X e de) : SS W X (.Return (some e) pos) (sRet de) := by
  obtain ⟨t, p, o⟩ := h
  exact ⟨_, ps_ret p, fun env σ F H B D R h q => o env σ F H _ _ R h fun d v F' H' s r hk => q.rt d v F' H' (R.st.trans s) r hk⟩
theorem ss_retN : SS W X (.Return none pos) sRetN := ⟨_, ps_retN, fun env σ F H B D R h q => q.rt _ _ F H R.st .non h⟩
theorem okS_asg {t : TE} {tg : TG} {g : DG} {sl : List Nat} (o : OkE K W t de) (og : OkG K W tg g sl) : OkS K W (tAsg t tg) (sAsg de g) := fun env σ F H B D R h q =>
  o env σ F H _ _ R h fun d v F' H' s r hk => og env σ F' H' v d _ _ (R.step s) r hk fun env' σ' R' _ _ h' => q.nx env' σ' F' H' s.ff R' h'
theorem ss_asg {tg : Expr} {g : DG} {sl : List Nat} (h : SE W X e de) (hg : SG W X tg g sl) (hs : swapsWithSole [tg] e pos.line X.env = pure false := by rfl) (hw : swappedStores [tg] e X.env = pure none := by rfl)
    (h1 : (assignEach [tg] X.env).map (·.2) = [assign tg X.env] := by rfl) : SS W X (.Assign [tg] e pos) (sAsg de g) := by
  obtain ⟨t, p, o⟩ := h
  obtain ⟨t2, p2, o2⟩ := hg
  exact ⟨_, ps_asg p p2 hs hw h1, okS_asg o o2⟩
theorem okG_name {i : Nat} : OkG K W (gName i) (gN i) [i] := fun env σ F H v d k Q R rp h q => q _ _ (R.set rp i) (fun j hj => by rw [List.getElem?_set_ne (fun z => hj (by simp [z]))]) (List.length_set ..) h
theorem ss_set {i : Nat} {x : Str} {pos' : Pos} (hN : X.N.Nodup) (h : SE W X e de) (hi : X.N[i]? = some x := by rfl) (hx : Loc X.env.scope x := by first | exact Or.inl rfl | exact Or.inr rfl) (hs : swapsWith e (some (.Name x pos')) pos.line X.env = pure false := by rfl)
    (hf : X.fn x = true ∨ X.env.scope.names.lookup x = some .local := by first | exact .inl rfl | exact .inr rfl) : SS W X (.Assign [.Name x pos'] e pos) (sAsg de (gN i)) := by
  obtain ⟨t, p, o⟩ := h
  exact ⟨_, ps_set hN hi hx p hs hf, okS_asg o okG_name⟩
theorem ss_setlc {i : Nat} (h : ∃ te, PS X st (tAsg te (gName i)) ∧ OkE X.K W te de) : SS W X st (sAsg de (gN i)) := by
  obtain ⟨t, p, o⟩ := h
  exact ⟨_, p, okS_asg o okG_name⟩
/-- x, y = a, b by plain names -/
def sPar (i j : Nat) (a : DA) : DS := fun B env => a env fun ds => match ds with
  | [d, e] => B.nx ((env.set i (.fz d)).set j (.fz e))
  | _ => false
theorem ss_par {i j : Nat} {x y : Str} {ea eb : Expr} {da : DA} {px py pt : Pos} {kt k2 pt2} (hc : X.calm = true) (hN : X.N.Nodup) (ha : SA W X [ea, eb] da) (hi : X.N[i]? = some x := by rfl) (hj : X.N[j]? = some y := by rfl) (hij : i ≠ j := by decide)
    (hx : X.env.scope.names.lookup x = some .local := by rfl) (hy : X.env.scope.names.lookup y = some .local := by rfl)
    (hw : swappedStores [.Tuple [.Name x px, .Name y py] kt pt] (.Tuple [ea, eb] k2 pt2) X.env = pure (some [x, y]) := by rfl)
    (hs : swapsWithSole [.Tuple [.Name x px, .Name y py] kt pt] (.Tuple [ea, eb] k2 pt2) pos.line X.env = pure false := by rfl) :
    SS W X (.Assign [.Tuple [.Name x px, .Name y py] kt pt] (.Tuple [ea, eb] k2 pt2) pos) (sPar i j da) := by
  obtain ⟨t, p, o⟩ := ha
  refine ⟨_, ps_par hc hN hi hj hij hx hy p hw hs, fun env σ F H B D R h q => ?_⟩
  refine o env σ F H _ _ R h fun ds vs F1 H1 s1 r1 h1 => ?_
  cases r1 with
  | nil => cases h1
  | @cons v1 vs d1 ds r1 rr =>
    cases rr with
    | nil => cases h1
    | @cons v2 vs d2 ds r2 rr =>
      cases rr with
      | cons _ _ => cases h1
      | nil => exact ⟨v1, v2, rfl, q.nx _ _ F1 H1 s1.ff (((R.step s1).set r1 i).set r2 j) h1⟩
theorem ss_if {c : Expr} {sa sb : List Stmt} {dc : DT} (hc : ST W X c dc) (ha : SSs W X sa a) (hb : SSs W X sb b) : SS W X (.If c sa sb pos) (sIf dc a b) := by
  obtain ⟨t0, p0, o0⟩ := hc
  obtain ⟨t1, p1, o1⟩ := ha
  obtain ⟨t2, p2, o2⟩ := hb
  refine ⟨_, ps_if p0 p1 p2, fun env σ F H B D R h q => o0 env σ F H _ _ R h fun x F1 H1 s1 h1 => ?_⟩
  cases x with
  | true => rw [if_pos rfl]; exact o1 env σ F1 H1 B D (R.step s1) h1 (q.mono s1.ff)
  | false => rw [if_neg Bool.false_ne_true]; exact o2 env σ F1 H1 B D (R.step s1) h1 (q.mono s1.ff)
theorem ss_expr (h : SE W X e de) (hs : swapsWith e none pos.line X.env = pure false := by rfl) : SS W X (.Expr e pos) (sExpr de) := by
  obtain ⟨t, p, o⟩ := h
  exact ⟨_, ps_expr p hs, fun env σ F H B D R h q => o env σ F H _ _ R h fun d v F1 H1 s1 r1 h1 => q.nx env σ F1 H1 s1.ff (R.step s1) h1⟩
theorem ss_never : SS W X st sNever := ⟨_, ps_never, fun env σ F H B D R h q => nomatch h⟩
theorem ss_neverS : SSs W X rest sNever := ⟨_, pss_never, fun env σ F H B D R h q => nomatch h⟩
theorem ss_brk : SS W X (.Break pos) sBrk := ⟨_, ps_break, fun env σ F H B D R h q => q.bk env σ F H (Same.refl F) R h⟩
theorem ss_cont : SS W X (.Continue pos) sCont := ⟨_, ps_continue, fun env σ F H B D R h q => q.ct env σ F H (Same.refl F) R h⟩
theorem ss_for {tg iter : Expr} {body : List Stmt} {di : DI} {g : DG} {sl : List Nat} (hp : PassesOwn (model X.prog X.w) X.A X.env X.xe) (hc : X.calm = true) (hi : SI W X tg iter di) (hg : SG W X tg g sl) (hb : SSs W X body a)
    (hs : ∀ x, foldedSetIterable iter X.env x = pure x := by intro _; rfl) : SS W X (.For tg iter body [] pos) (sFor di g a) := by
  obtain ⟨wi, p0, o0⟩ := hi
  obtain ⟨t1, p1, o1⟩ := hg
  obtain ⟨t2, p2, o2⟩ := hb
  refine ⟨_, ps_for hp hc p0 p1 p2 hs, fun env σ F H B D R h q => o0 env σ F H _ _ R h fun ds J F1 H1 s1 wk h1 => ?_⟩
  obtain ⟨G, Y, w1, w2, w3⟩ := wk
  have R1 := R.step s1
  refine for_it w1 (fun i σ' H' => ∃ env' F', Same F1 F' ∧ Rel X.K W env' σ' F' H' ∧ goFor g a B (ds.drop i) env' = true) ⟨env, F1, Same.refl F1, R1, h1⟩
    (fun i σ' H' _ ⟨env', F', e, R', _⟩ => w2 F' H' e R'.bs.fh) (fun i x σ' H' H2 hi ⟨env', F', e, R', hg⟩ y => ?_) (fun σ' H' ⟨env', F', e, R', hg⟩ => ?_)
  · have hd : ds[i]? = some ds[i] := List.getElem?_eq_getElem hi
    have hdr : ds.drop i = ds[i] :: ds.drop (i + 1) := List.drop_eq_getElem_cons hi
    rw [hdr] at hg
    obtain ⟨F2, s2, r2⟩ := w3 i H' x H2 F' ds[i] e R'.bs hd y
    unfold goFor at hg
    refine o1 env' σ' F2 H2 x _ _ _ (R'.step s2) r2 hg fun env2 σ2 R2 _ _ h2 => ?_
    refine o2 env2 σ2 F2 H2 _ _ R2 h2 ⟨fun env3 σ3 F3 H3 e3 R3 h3 => ⟨env3, F3, (e.trans s2.ff).trans e3, R3, h3⟩, q.rt, fun env3 σ3 F3 H3 e3 R3 h3 => q.nx env3 σ3 F3 H3 (((s1.ff.trans e).trans s2.ff).trans e3) R3 h3, fun env3 σ3 F3 H3 e3 R3 h3 => ⟨env3, F3, (e.trans s2.ff).trans e3, R3, h3⟩⟩
  · rw [List.drop_length] at hg
    exact q.nx env' σ' F' H' (s1.ff.trans e) R' hg
theorem ss_wh {c : Expr} {body : List Stmt} {dc : DT} (fuel : Nat) (hp : PassesOwn (model X.prog X.w) X.A X.env X.xe) (hc : ST W X c dc) (hb : SSs W X body a) : SS W X (.While c body [] pos) (sWh fuel dc a) := by
  obtain ⟨t0, p0, o0⟩ := hc
  obtain ⟨t1, p1, o1⟩ := hb
  refine ⟨_, ps_while hp p0 p1, fun env σ F H B D R h q => ?_⟩
  refine ⟨fun m σ' H' => ∃ env' F', Same F F' ∧ Rel X.K W env' σ' F' H' ∧ goWh dc a B m env' = true, ⟨fuel, env, F, Same.refl F, R, h⟩, fun m σ' H' ⟨env', F', e, R', hg⟩ => ?_⟩
  cases m with
  | zero => cases hg
  | succ m =>
    unfold goWh at hg
    refine o0 env' σ' F' H' _ _ R' hg fun x F1 H1 s1 h1 => ?_
    cases x with
    | true =>
      rw [if_pos rfl]
      refine ⟨fun σ2 H2 => ∃ env2 F2, Same F F2 ∧ Rel X.K W env2 σ2 F2 H2 ∧ goWh dc a B m env2 = true, fun σ2 H2 z => ⟨m, Nat.lt_succ_self m, z⟩, ?_⟩
      exact o1 env' σ' F1 H1 _ _ (R'.step s1) h1 ⟨fun env3 σ3 F3 H3 e3 R3 h3 => ⟨env3, F3, (e.trans s1.ff).trans e3, R3, h3⟩, q.rt, fun env3 σ3 F3 H3 e3 R3 h3 => q.nx env3 σ3 F3 H3 ((e.trans s1.ff).trans e3) R3 h3, fun env3 σ3 F3 H3 e3 R3 h3 => ⟨env3, F3, (e.trans s1.ff).trans e3, R3, h3⟩⟩
    | false =>
      rw [if_neg Bool.false_ne_true]
      exact q.nx env' σ' F1 H1 (e.trans s1.ff) (R'.step s1) h1
end
/-! ### defs -/
def startE (n : Nat) (ds : List PyData) : Sls := ds.map (fun d => match d with
  | .dict _ => Sl.pt
  | d => .fz d) ++ List.replicate (n - ds.length) .no
def mOf (n : Nat) (body : DS) : Fn := fun ds k => body { nx := fun _ => k .none, rt := k, bk := fun _ => false, ct := fun _ => false } (startE n ds)
theorem ras_at {K : PySem.W.Frag} {pp : Addr} {F : Hp} : ∀ {vs : List V} {ds : List PyData} {i : Nat} {d : PyData}, RAs K pp F vs ds → ds[i]? = some d → ∃ v, vs[i]? = some v ∧ RA K pp F v d
  | _, _, _, _, .nil, e => by simp at e
  | _, _, 0, _, .cons h _, e => by simp at e; subst e; exact ⟨_, rfl, h⟩
  | _, _, i + 1, d, .cons _ a, e => by
    obtain ⟨v, h1, h2⟩ := ras_at (i := i) (d := d) a (by simpa using e)
    exact ⟨v, by simpa using h1, h2⟩
theorem rel_start {K : PySem.W.Frag} {pp : Addr} {F H : Hp} {vs : List V} {ds : List PyData} {N : List Str} (B : Bs pp F H) (r : RAs K pp F vs ds) : Rel K ⟨pp, F, H⟩ (startE N.length ds) (L2.start N vs) F H := by
  have hl := paired_len r
  refine ⟨B, Stp.refl B, by unfold startE L2.start; rw [List.length_append, List.length_append, List.length_map, List.length_map, List.length_replicate, List.length_replicate, hl], fun i s e => ?_, fun i j p ds' es e1 _ _ _ => ?_⟩
  · unfold startE at e
    unfold L2.start
    by_cases hi : i < ds.length
    · rw [List.getElem?_append_left (by rw [List.length_map]; exact hi), List.getElem?_map] at e
      rw [List.getElem?_append_left (by rw [List.length_map, hl]; exact hi), List.getElem?_map]
      cases q : ds[i]? with
      | none => rw [q] at e; cases e
      | some d =>
        rw [q] at e
        obtain ⟨v, h1, h2⟩ := ras_at r q
        rw [h1]
        have e := Option.some.inj e
        rcases h2 with h2 | ⟨rfl, rfl⟩
        · have e2 : s = .fz d := by
            rw [← e]
            cases h2 <;> rfl
          subst e2
          exact ⟨v, rfl, h2⟩
        · subst e
          rfl
    · rw [List.getElem?_append_right (by rw [List.length_map]; omega)] at e
      have e2 := List.mem_of_getElem? e
      rw [(List.mem_replicate.mp e2).2]
      trivial
  · exfalso
    unfold startE at e1
    have e2 := List.mem_of_getElem? e1
    rcases List.mem_append.mp e2 with h | h
    · obtain ⟨d, _, hd⟩ := List.mem_map.mp h
      cases d <;> cases hd
    · cases (List.mem_replicate.mp h).2
abbrev FnP (K : PySem.W.Frag) (x : Str) (st : Stmt) (f : Addr) (fd : FuncData) : Prop := FunD K x x (defArgs st) (defBody st) (defScope st) [] [] f fd
section
variable {P : Program} {w : World} {K : PySem.W.Frag} {mg : Str → Option Value} {base : Heap} {f : Addr} {fd : FuncData} {x : Str} {st : Stmt} {N ps : List Str} {body : DS} {l : Nat}
theorem has_of (F : FnP K x st f fd) (S : FnScope N ps (defScope st)) (hm : mg x = some (.ref f)) (hb : Binds K fd ps [])
    (h : ∀ (W : Wd) (cdv : Value) (A : Around) (outer : List Env) (s : Shared) (H : Hp) (E : XK), Room l (A.deeper (envOfC x (defScope st) s.heap.objs.size f cdv)) → SSs W (cxOf CX0 P w K mg base N x (defScope st) f cdv A outer s H E).nox (defBody st) body) :
    Has P w K mg base (l + 1) x ps (mOf N.length body) := by
  have lk : ∃ oc od osl, K.lookup f = some ⟨oc, od, .func fd, osl⟩ := by
    obtain ⟨oc, od, _, _, _, _, _, _, _, osl, _, h2, _⟩ := F.ex
    exact ⟨oc, od, osl, h2⟩
  refine ⟨f, fd, F.ok S (fun vs H Q E h => h.1) (fun cdv A outer s H vs Q E hr hs => ?_), hm, F.kp, hb, lk⟩
  obtain ⟨hl, pp, F0, ds, k, B, r, hmm, q⟩ := hs
  obtain ⟨t, p, o⟩ := h ⟨pp, F0, H⟩ cdv A outer s H E hr
  refine ⟨t, p.nox, o _ _ F0 H _ _ (rel_start B r) hmm ⟨fun env σ F' H' _ R' hk => ?_, fun d v F' H' s' r' hk => q d v F' H' s' r' hk, (fun _ _ _ _ _ _ z => Bool.noConfusion z), (fun _ _ _ _ _ _ z => Bool.noConfusion z)⟩⟩
  exact q .none .non F' H' R'.st .non hk
/-! calls by keywords alone -/
def permD {α : Type} (z : α) (perm : List Nat) (ws : List α) : List α := perm.map fun i => ws.getD i z
def KBok (fd : FuncData) (ps ks : List Str) (perm : List Nat) : Prop := ∀ (s : Shared) (ws : List Value), ws.length = ks.length → BindsTo s fd ⟨[], ks.zip ws⟩ (ps.zip (permD .none perm ws))
structure HasK (P : Program) (w : World) (K : PySem.W.Frag) (mg : Str → Option Value) (base : Heap) (lev : Nat) (x : Str) (ps : List Str) (m : Fn) (ks : List Str) (perm : List Nat) : Prop where
  ex : ∃ f fd, FnOk P w K mg base CX0 lev f fd ps (spOf K m ps.length) ∧ mg x = some (.ref f) ∧ PySem.W.keepIn K (.ref f) = true ∧ KBok fd ps ks perm
theorem Has.kb {m : Fn} {ks : List Str} {perm : List Nat} (h : Has P w K mg base l x ps m) (F : FnP K x st f fd) (hm : mg x = some (.ref f))
    (kb : ∀ (kV doc pm : Value) (an : Option Addr) (cdv ct : Value) (ws : List Value), ws.length = ks.length → bindArgs (PySem.W.fnOf x x (defArgs st) (defBody st) (defScope st) .none kV doc pm an cdv ct) ⟨[], ks.zip ws⟩ = pure (ps.zip (permD .none perm ws))) : HasK P w K mg base l x ps m ks perm := by
  obtain ⟨f', fd', h1, h2, h3, h4, oc, od, osl, h5⟩ := h
  rw [hm] at h2
  cases h2
  obtain ⟨oc2, od2, dV, kV, doc, pm, an, cdv, ct, osl2, rfl, lk, _, hD, _⟩ := F.ex
  rw [lk] at h5
  cases h5
  rcases hD with ⟨_, rfl⟩ | ⟨e, _⟩
  · exact ⟨_, _, h1, hm, h3, fun s ws hl => .of_eq (kb kV doc pm an cdv ct ws hl)⟩
  · exact absurd rfl e
theorem HasK.mono {j : Nat} {m : Fn} {ks : List Str} {perm : List Nat} (h : HasK P w K mg base j x ps m ks perm) (e : j ≤ l) : HasK P w K mg base l x ps m ks perm := by
  obtain ⟨f, fd, F, a, b, c⟩ := h
  exact ⟨f, fd, F.mono e, a, b, c⟩
end
def dCallK (n j : Nat) (perm : List Nat) (m : Fn) (a : DA) : DE := fun env k => a env fun ds => match Nat.beq ds.length j && Nat.beq perm.length n && perm.all fun i => Nat.blt i j with
  | true => m (permD .none perm ds) k
  | false => false
section
variable {W : Wd} {X : Cx} {dr : DA} {pos : Pos}
theorem ras_perm {K : PySem.W.Frag} {pp : Addr} {F : Hp} {vs : List V} {ds : List PyData} (r : RAs K pp F vs ds) : ∀ {perm : List Nat}, (∀ i ∈ perm, i < ds.length) → RAs K pp F (permD .non perm vs) (permD .none perm ds)
  | [], _ => .nil
  | i :: p, h => by
    have hi := h i List.mem_cons_self
    obtain ⟨v, h1, h2⟩ := ras_at r (List.getElem?_eq_getElem hi)
    refine .cons ?_ (ras_perm r fun j hj => h j (List.mem_cons_of_mem _ hj))
    show RA K pp F (vs.getD i .non) (ds.getD i .none)
    rw [List.getD_eq_getElem?_getD, List.getD_eq_getElem?_getD, h1, List.getElem?_eq_getElem hi]
    exact h2
theorem vals_perm {vs : List V} {us : List Value} (r : Vals vs us) : ∀ {perm : List Nat}, (∀ i ∈ perm, i < vs.length) → Vals (permD .non perm vs) (permD .none perm us)
  | [], _ => .nil
  | i :: p, h => by
    have hi := h i List.mem_cons_self
    obtain ⟨u, h1, h2⟩ := Vals.get r (List.getElem?_eq_getElem hi)
    refine .cons ?_ (vals_perm r fun j hj => h j (List.mem_cons_of_mem _ hj))
    show RelV (vs.getD i .non) (us.getD i .none)
    rw [List.getD_eq_getElem?_getD, List.getD_eq_getElem?_getD, h1, List.getElem?_eq_getElem hi]
    exact h2
def tCallK0 (sp : Sp) (j : Nat) (perm : List Nat) (E : XK) (tk : TA) : TE := fun σ H Q => tk σ H fun zs H2 => zs.length = j ∧ (∀ i ∈ perm, i < zs.length) ∧ sp (permD .non perm zs) H2 Q E
theorem pe_callK0 {l : Nat} {x : Str} {ps ks : List Str} {m : Fn} {perm : List Nat} {p : Pos} {kws : List Keyword} {tk : TA} (h : HasK X.prog X.w X.K X.mg X.base l x ps m ks perm) (hr : Room l X.A) (hkw : PK X kws tk) (hg : Gl X x)
    (hall : (backToKw pos (keywordEach kws X.env)).all (·.1.isSome) = true) (hks : (backToKw pos (keywordEach kws X.env)).filterMap (·.1) = ks) (hdb : (x == ("__debug__" : Str)) = false)
    (hpl : ((backTo pos (starEach [] X.env)).any (·.1) || (backToKw pos (keywordEach kws X.env)).any (·.1.isNone)) = false) : PE X (.Call (.Name x p) [] kws pos) (tCallK0 (spOf X.K m ps.length) ks.length perm E0 tk) := by
  obtain ⟨f, fd, F, hm, hk, hb⟩ := h
  refine ⟨fun pins s σ H Q I h => ?_⟩
  refine wpAny_Call_Name_kw (ld_glob I hg hm ?_ hdb)
  refine PySem.W.callWith_KW0 (h₀ := X.base) I.ok.mod.kin hk hall (thn (hkw.run pos pins s σ H _ I h) fun ws s2 ⟨zs, H2, I2, rz, l2, hp, q2⟩ => ⟨I2.kIn, ?_⟩) hpl
  rw [hks]
  have r2 := vals_perm rz hp
  refine wpAny_call (codeAny_mono (F.run X.A X.stack s2 H2 ⟨[], ks.zip ws⟩ (permD .none perm ws) (permD .non perm zs) Q E0 hr I2.env0 (hb s2 ws (rz.length.symm.trans l2)) r2 q2) fun r s' hq => ?_)
  cases r with
  | error e => exact (pass0 (X := X)) pins σ H2 s2 e s' I2 hq
  | ok fl =>
    cases fl with
    | ret u => exact I2.after hq
    | next => exact False.elim hq
    | brk => exact False.elim hq
    | cont => exact False.elim hq
theorem se_callk {l n j : Nat} {x : Str} {ps ks : List Str} {m : Fn} {perm : List Nat} {p : Pos} {kws : List Keyword} (h : HasK X.prog X.w X.K X.mg X.base l x ps m ks perm) (hr : Room l X.A) (a : SKP W X kws dr) (hg : Gl X x := by rfl)
    (hall : (backToKw pos (keywordEach kws X.env)).all (·.1.isSome) = true := by rfl) (hks : (backToKw pos (keywordEach kws X.env)).filterMap (·.1) = ks := by rfl) (hdb : (x == ("__debug__" : Str)) = false := by decide)
    (hpl : ((backTo pos (starEach [] X.env)).any (·.1) || (backToKw pos (keywordEach kws X.env)).any (·.1.isNone)) = false := by rfl) (hn : ps.length = n := by rfl) (hj : ks.length = j := by rfl) : SE W X (.Call (.Name x p) [] kws pos) (dCallK n j perm m dr) := by
  subst hn hj
  obtain ⟨tk, pk, o⟩ := a
  refine ⟨_, pe_callK0 h hr pk hg hall hks hdb hpl, fun env σ F H k Q R h q => o env σ F H _ _ R h fun ds vs F1 H1 s1 r1 h1 => ?_⟩
  cases e : (Nat.beq ds.length ks.length && Nat.beq perm.length ps.length && perm.all fun i => Nat.blt i ks.length) with
  | false => simp only [e] at h1; cases h1
  | true =>
    simp only [e] at h1
    obtain ⟨e1, e3⟩ := Bool.and_eq_true_iff.mp e
    obtain ⟨e1, e2⟩ := Bool.and_eq_true_iff.mp e1
    have l1 : ds.length = ks.length := Nat.eq_of_beq_eq_true e1
    have l2 : perm.length = ps.length := Nat.eq_of_beq_eq_true e2
    have hp : ∀ i ∈ perm, i < ds.length := fun i hi => by
      have := List.all_eq_true.mp e3 i hi
      rw [l1]
      exact Nat.le_of_ble_eq_true this
    refine ⟨(paired_len r1).trans l1, fun i hi => by rw [paired_len r1]; exact hp i hi, ?_, W.pp, F1, _, k, (R.step s1).bs, ras_perm r1 hp, h1, fun d v F2 H2 s2 r2 h2 => q d v F2 H2 (s1.trans s2) r2 h2⟩
    unfold permD
    rw [List.length_map]
    exact l2
end
end Dl

namespace Dl
open PySem PySem.Spec PyProof.Rows L2

/-! ### lists of one's own -/
abbrev DF := Sls → (List PyData → Bool) → Bool
def OkF (K : PySem.W.Frag) (W : Wd) (t : TE) (e : DF) : Prop := ∀ (env : Sls) (σ : L2.St) (F H : Hp) (k : List PyData → Bool) (Q : VK), Rel K W env σ F H → e env k = true →
  (∀ ds xs F' H' p, Stp W.pp F H F' H' → H p = none → F' p = none → H' p = some (.lst xs) → RpAll K F' xs ds → k ds = true → Q (.ref p) H') → t σ H Q
structure SF (W : Wd) (X : Cx) (e : Expr) (df : DF) : Prop where
  ex : ∃ t, PE X e t ∧ OkF X.K W t df
theorem none_of {pp : Addr} {F H : Hp} {p : Addr} (B : Bs pp F H) (n : H p = none) : F p = none := by
  cases q : F p with
  | none => rfl
  | some o => rw [B.fh p o q] at n; cases n
theorem ne_pp {pp : Addr} {F H : Hp} {p : Addr} (B : Bs pp F H) (n : H p = none) : p ≠ pp := fun e => by subst e; exact B.po.some n
theorem back_none {pp : Addr} {F H F' H' : Hp} {p : Addr} (B : Bs pp F H) (s : Stp pp F H F' H') (n : H' p = none) : H p = none := by
  cases q : H p with
  | none => rfl
  | some o =>
    by_cases e : p = pp
    · subst e; exact absurd n s.po.some
    · rw [s.fr p o e q] at n; cases n
section
variable {K : PySem.W.Frag} {W : Wd} {env : Sls} {σ : L2.St} {F H F' H' : Hp}
theorem Rel.setO' (r : Rel K W env σ F H) (s : Stp W.pp F H F' H') {p : Addr} {xs : List V} {ds : List PyData} (n : H p = none) (f : F' p = none) (hp : H' p = some (.lst xs)) (h : RpAll K F' xs ds) (i : Nat) :
    Rel K W (env.set i (.ow ds)) (σ.set i (some (.ref p))) F' H' := by
  have B := r.bs
  have r2 := r.step s
  have np := ne_pp B n
  have h0 : W.H0 p = none := by
    cases q : W.H0 p with
    | none => rfl
    | some o => rw [r.st.fr p o np q] at n; cases n
  have apart : ∀ (j : Nat) (q : Addr) (es : List PyData), env[j]? = some (Sl.ow es) → σ[j]? = some (some (V.ref q)) → q ≠ p := fun j q es e g => by
    obtain ⟨p', xs', h1, h2, _⟩ := r.sl j _ e
    rw [g] at h1
    cases h1
    exact ne_of_none h2 n
  refine ⟨r.b0, r2.st, by rw [List.length_set, List.length_set]; exact r.len, fun j q e => ?_, fun j l q ds' es e1 e2 g1 g2 => ?_⟩
  · rw [List.getElem?_set] at e ⊢
    by_cases hj : i = j
    · subst hj
      rw [if_pos rfl] at e ⊢
      by_cases hl : i < env.length
      · rw [if_pos hl] at e
        cases e
        rw [if_pos (by rw [r.len]; exact hl)]
        exact ⟨p, xs, rfl, hp, f, np, h0, h⟩
      · rw [if_neg hl] at e; cases e
    · rw [if_neg hj] at e ⊢
      exact r2.sl j q e
  · by_cases n1 : i = j
    · by_cases n2 : i = l
      · rw [← n1, ← n2]
      · subst n1
        rw [List.getElem?_set_ne n2] at e2 g2
        have hl : i < σ.length := by
          rw [List.getElem?_set, if_pos rfl] at g1
          split at g1
          · assumption
          · cases g1
        rw [List.getElem?_set_self hl] at g1
        cases g1
        exact absurd rfl (apart l p es e2 g2)
    · by_cases n2 : i = l
      · subst n2
        rw [List.getElem?_set_ne n1] at e1 g1
        have hl : i < σ.length := by
          rw [List.getElem?_set, if_pos rfl] at g2
          split at g2
          · assumption
          · cases g2
        rw [List.getElem?_set_self hl] at g2
        cases g2
        exact absurd rfl (apart j p ds' e1 g1)
      · rw [List.getElem?_set_ne n1] at e1 g1
        rw [List.getElem?_set_ne n2] at e2 g2
        exact r.dis j l q ds' es e1 e2 g1 g2
end
def fLst (a : DA) : DF := fun env k => a env fun xs => match small xs.length with
  | true => k xs
  | false => false
def fLc (it : DI) (tg : DG) (tt : DT) (el : DE) (vs : List Nat) : DF := fun env k => dLc it tg tt el vs env fun d => match d with
  | .list ds => k ds
  | _ => false
def fList (a : DE) : DF := fun env k => a env fun x => match x with
  | .list xs => k xs
  | .tuple xs => k xs
  | _ => false
def fCat (a b : DE) : DF := fun env k => a env fun x => b env fun y => match x, y with
  | .list xs, .list ys => (match small (xs.length + ys.length) with
    | true => k (xs ++ ys)
    | false => false)
  | _, _ => false
def fRep (a b : DE) : DF := fun env k => a env fun x => b env fun y => match x, y with
  | .list xs, .int j => (match repOk xs.length j with
    | true => k (List.replicate j.toNat xs).flatten
    | false => false)
  | _, _ => false
section
variable {K : PySem.W.Frag} {W : Wd} {X : Cx} {ea eb : Expr} {da db : DE} {es : List Expr} {dr : DA} {pos : Pos}
/-- a new list at p, made behind the evaluation -/
theorem okF_new {F H F1 H1 : Hp} {p : Addr} {xs : List V} {ds : List PyData} (B : Bs W.pp F H) (s : Stp W.pp F H F1 H1) (n : H1 p = none) (r : RpAll K F1 xs ds) {Q : VK} {k : List PyData → Bool} (h : k ds = true)
    (q : ∀ ds xs F' H' p, Stp W.pp F H F' H' → H p = none → F' p = none → H' p = some (.lst xs) → RpAll K F' xs ds → k ds = true → Q (.ref p) H') : Q (.ref p) (upd H1 p (.lst xs)) := by
  have B1 := Stp.bs B s
  exact q ds xs F1 _ p (s.trans (Stp.newO B1 n)) (back_none B s n) (none_of B1 n) upd_same r h
theorem sf_lst (a : SA W X es dr) : SF W X (.List es pos) (fLst dr) := by
  obtain ⟨t, p, o⟩ := a
  refine ⟨_, pe_lst p, fun env σ F H k Q R h q => o env σ F H _ _ R h fun ds vs F1 H1 s1 r1 h1 => ?_⟩
  cases e : small ds.length with
  | true =>
    rw [e] at h1
    exact ⟨by rw [r1.length]; exact small_ok e, fun a na => okF_new R.bs s1 na r1 h1 q⟩
  | false => rw [e] at h1; cases h1
theorem sf_list {x : Str} {p : Pos} (hm : X.mg x = none) (a : SE W X ea da) (hx : x = "list" := by rfl) (hg : Gl X x := by rfl) (hn : x ≠ "__name__" := by decide)
    (hdb : (x == ("__debug__" : Str)) = false := by decide) (he : starEach [ea] X.env = (false, eval ea X.env) :: starEach [] X.env := by rfl) (hpl : (backTo pos (starEach [] X.env)).any (·.1) = false := by rfl) : SF W X (.Call (.Name x p) [ea] [] pos) (fList da) := by
  obtain ⟨t, q, o⟩ := a
  refine ⟨_, pe_callTy call_list_of hg hm (by rw [hx]; decide +kernel) (pa_cons q pa_nil he) hn hdb he hpl, fun env σ F H k Q R h q => o env σ F H _ _ R h fun d v F1 H1 s1 r1 h1 => ?_⟩
  have B := (R.step s1).bs
  cases d with
  | list xs =>
    cases r1 with
    | @lst pa vl _ ha ra => exact ⟨_, _, rfl, .inl (.inl (.inl (B.keep ha))), fun p np => okF_new R.bs s1 np ra h1 q⟩
  | tuple xs =>
    cases v with
    | ref p =>
      obtain ⟨vs, hs, ra⟩ := sqT_of B.fh r1
      exact ⟨_, _, rfl, .inr hs, fun p np => okF_new R.bs s1 np ra h1 q⟩
    | _ => cases r1
  | _ => cases h1
theorem sf_cat (a : SE W X ea da) (b : SE W X eb db) : SF W X (.BinOp ea .Add eb pos) (fCat da db) := by
  obtain ⟨t1, p1, o1⟩ := a
  obtain ⟨t2, p2, o2⟩ := b
  refine ⟨_, pe_op op_cat p1 p2, fun env σ F H k Q R h q => o1 env σ F H _ _ R h fun d v F1 H1 s1 r1 h1 => o2 env σ F1 H1 _ _ (R.step s1) h1 fun d2 v2 F2 H2 s2 r2 h2 => ?_⟩
  have B := ((R.step s1).step s2).bs
  have r1 := r1.mono s2.ff
  cases d with
  | list xs =>
    cases d2 with
    | list ys =>
      cases r1 with
      | @lst pa vl _ ha ra =>
        cases r2 with
        | @lst pb wl _ hb rb =>
          cases e : small (xs.length + ys.length) with
          | false => simp only [e] at h2; cases h2
          | true =>
            simp only [e] at h2
            exact ⟨_, _, _, _, rfl, rfl, B.keep ha, B.keep hb, by rw [ra.length, rb.length]; exact small_ok e, fun p np => okF_new R.bs (s1.trans s2) np (ra.append rb) h2 q⟩
    | _ => cases h2
  | _ => cases h2
theorem sf_rep (a : SE W X ea da) (b : SE W X eb db) : SF W X (.BinOp ea .Mult eb pos) (fRep da db) := by
  obtain ⟨t1, p1, o1⟩ := a
  obtain ⟨t2, p2, o2⟩ := b
  refine ⟨_, pe_op op_rep p1 p2, fun env σ F H k Q R h q => o1 env σ F H _ _ R h fun d v F1 H1 s1 r1 h1 => o2 env σ F1 H1 _ _ (R.step s1) h1 fun d2 v2 F2 H2 s2 r2 h2 => ?_⟩
  have B := ((R.step s1).step s2).bs
  have r1 := r1.mono s2.ff
  cases d with
  | list xs =>
    cases d2 with
    | int j =>
      cases r2
      cases r1 with
      | @lst pa vl _ ha ra =>
        cases e : repOk xs.length j with
        | false => simp only [e] at h2; cases h2
        | true =>
          simp only [e] at h2
          obtain ⟨l1, l2, l3⟩ := repOk_ok e
          exact ⟨_, _, _, rfl, rfl, B.keep ha, l1, l2, by rw [ra.length]; exact l3, fun p np => okF_new R.bs (s1.trans s2) np (ra.rep _) h2 q⟩
    | _ => cases h2
  | _ => cases h2
theorem okF_lc {wi : TI} {g : TG} {tt : TT} {te : TE} {it : DI} {tg : DG} {dt : DT} {el : DE} {vs sl : List Nat} (oi : OkI K W wi it) (og : OkG K W g tg sl) (ot : OkT K W tt dt) (oe : OkE K W te el) (hsl : ∀ j ∈ sl, j ∈ vs) :
    OkF K W (tLc wi g tt te vs) (fLc it tg dt el vs) := fun env σ F H k Q R h q => by
  refine oi env σ F H _ _ R h fun ds J F1 H1 s1 wk h1 => ?_
  cases e : small ds.length with
  | false => rw [e] at h1; cases h1
  | true =>
    rw [e] at h1
    have hz := small_ok e
    have hz2 : ds.length ≤ 100000 := Nat.le_of_ble_eq_true e
    have R1 := R.step s1
    have B1 := R1.bs
    obtain ⟨G, Y, w1, w2, w3⟩ := wk
    intro D hD
    have np : D ≠ W.pp := ne_pp B1 hD
    have fD : F1 D = none := none_of B1 hD
    have RW := R1.wipe vs
    refine lc_it w1 (fun i H' => ∃ acc F', InLc K W F1 H1 D acc F' H' ∧ acc.length ≤ i ∧ goLc tg dt el (wipeE env vs) (ds.drop i) acc (fun d => match d with
      | .list ds => k ds
      | _ => false) = true) ⟨[], F1, ⟨Stp.newO B1 hD, fD, [], upd_same, .nil⟩, Nat.le_refl _, h1⟩
      (fun i H' _ ⟨acc, F', c, _⟩ => w2 F' H' c.st.ff c.st.fh) (fun i x H' H'' hi ⟨acc, F', c, la, hg⟩ y => ?_) (fun H' ⟨acc, F', c, la, hg⟩ => ?_)
    · have hd : ds[i]? = some ds[i] := List.getElem?_eq_getElem hi
      have hdr : ds.drop i = ds[i] :: ds.drop (i + 1) := List.drop_eq_getElem_cons hi
      rw [hdr] at hg
      have Bc := Stp.bs B1 c.st
      obtain ⟨F2, s2, r2⟩ := w3 i H' x H'' F' ds[i] c.st.ff Bc hd y
      have c2 := c.step np s2
      have RW2 := (RW.step c2.st)
      unfold goLc at hg
      refine og _ _ F2 H'' x _ _ _ RW2 r2 hg fun env' σ' R' a1 l1 hk => ?_
      have ew : L2.wipe σ' vs = L2.wipe σ vs := wipe_same (l1.trans (L2.wipe_length σ vs)) hsl a1
      refine ⟨ew, ?_⟩
      refine ot env' σ' F2 H'' _ _ R' hk fun b F3 H3 s3 h3 => ?_
      have c3 := c2.step np s3
      cases b with
      | false =>
        rw [if_neg Bool.false_ne_true]
        exact ⟨acc, F3, c3, by omega, h3⟩
      | true =>
        rw [if_pos rfl]
        refine oe env' σ' F3 H3 _ _ (R'.step s3) h3 fun d v F4 H4 s4 r4 h4 => ?_
        have c4 := c3.step np s4
        obtain ⟨vl, h5, h6⟩ := c4.at_
        refine ⟨vl, h5, by rw [h6.length, List.length_reverse]; exact Nat.lt_of_le_of_lt (show acc.length ≤ 100000 by omega) (by decide), d :: acc, F4, ⟨c4.st.write hD c4.un np, c4.un, vl ++ [v], upd_same, ?_⟩, by rw [List.length_cons]; omega, h4⟩
        rw [List.reverse_cons]
        exact h6.append (.cons r4 .nil)
    · rw [List.drop_length] at hg
      unfold goLc at hg
      obtain ⟨vl, h5, h6⟩ := c.at_
      exact q _ vl F' H' D (s1.trans c.st) (back_none R.bs s1 hD) c.un h5 h6 hg
theorem sf_lc {elt tg iter : Expr} {ifs : List Expr} {scope : Scope} {own : List (Str × Nat)} {di : DI} {g : DG} {dt : DT} {de : DE} {sl vs : List Nat} (hc : X.calm = true) (hN : X.N.Nodup) (hi : SI W X tg iter di) (ok : BlkOk X.N X.env.scope scope own)
    (hg : ∀ (s : Shared) (H : Hp) (C : Addr) (cl : List (Str × Addr)) (fp : List Addr), SG W (X.blk s H scope (compEnvC scope cl C X.env) fp) tg g sl) (ht : ∀ (s : Shared) (H : Hp) (C : Addr) (cl : List (Str × Addr)) (fp : List Addr), STs W (X.blk s H scope (compEnvC scope cl C X.env) fp) ifs dt)
    (he : ∀ (s : Shared) (H : Hp) (C : Addr) (cl : List (Str × Addr)) (fp : List Addr), SE W (X.blk s H scope (compEnvC scope cl C X.env) fp) elt de) (hsl : ∀ j ∈ sl, j ∈ vs := by decide) (hvs : own.map (·.2) = vs := by rfl) (hs : ∀ x, foldedSetIterable iter X.env x = pure x := by intro _; rfl) :
    SF W X (.ListComp elt [⟨tg, iter, ifs, 0⟩] scope pos) (fLc di g dt de vs) := by
  obtain ⟨wi, p, oi⟩ := hi
  subst hvs
  exact ⟨_, pe_lc hc hN p ok (fun s H C cl fp => (hg s H C cl fp).can) (fun s H C cl fp => (ht s H C cl fp).can) (fun s H C cl fp => (he s H C cl fp).can) hs, okF_lc oi okG_can okT_can okE_can hsl⟩
theorem sf_setlc {i : Nat} {y : Str} {py : Pos} {elt tg iter : Expr} {ifs : List Expr} {scope : Scope} {own : List (Str × Nat)} {spos : Pos} {di : DI} {g : DG} {dt : DT} {de : DE} {sl vs : List Nat} (hc : X.calm = true) (hN : X.N.Nodup) (hy : X.N[i]? = some y) (hyl : X.env.scope.names.lookup y = some .local)
    (hsw : swapsWith (.ListComp elt [⟨tg, iter, ifs, 0⟩] scope pos) (some (.Name y py)) spos.line X.env = pure true) (hi : SI W X tg iter di) (ok : BlkOk X.N X.env.scope scope own)
    (hg : ∀ (s : Shared) (H : Hp) (C : Addr) (cl : List (Str × Addr)) (fp : List Addr), SG W (X.blk s H scope (compEnvC scope cl C X.env) fp) tg g sl) (ht : ∀ (s : Shared) (H : Hp) (C : Addr) (cl : List (Str × Addr)) (fp : List Addr), STs W (X.blk s H scope (compEnvC scope cl C X.env) fp) ifs dt)
    (he : ∀ (s : Shared) (H : Hp) (C : Addr) (cl : List (Str × Addr)) (fp : List Addr), SE W (X.blk s H scope (compEnvC scope cl C X.env) fp) elt de) (hsl : ∀ j ∈ sl, j ∈ vs := by decide) (hvs : own.map (·.2) = vs := by rfl) (hs : ∀ x, foldedSetIterable iter X.env x = pure x := by intro _; rfl) :
    ∃ te, PS X (.Assign [.Name y py] (.ListComp elt [⟨tg, iter, ifs, 0⟩] scope pos) spos) (tAsg te (gName i)) ∧ OkF X.K W te (fLc di g dt de vs) := by
  obtain ⟨wi, p, oi⟩ := hi
  subst hvs
  exact ⟨_, ps_setLc hc hN hy hyl hsw p ok (fun s H C cl fp => (hg s H C cl fp).can) (fun s H C cl fp => (ht s H C cl fp).can) (fun s H C cl fp => (he s H C cl fp).can) hs, okF_lc oi okG_can okT_can okE_can hsl⟩
end
/-! stores of such -/
def sOwn (i : Nat) (a : DF) : DS := fun B env => a env fun ds => B.nx (env.set i (.ow ds))
section
variable {K : PySem.W.Frag} {W : Wd} {X : Cx} {e : Expr} {df : DF} {pos : Pos} {st : Stmt}
theorem okS_own {t : TE} {i : Nat} (o : OkF K W t df) : OkS K W (tAsg t (gName i)) (sOwn i df) := fun env σ F H B D R h q =>
  o env σ F H _ _ R h fun ds xs F' H' p s n f hp r hk => q.nx _ _ F' H' s.ff (R.setO' s n f hp r i) hk
theorem ss_own {i : Nat} {x : Str} {pos' : Pos} (hN : X.N.Nodup) (h : SF W X e df) (hi : X.N[i]? = some x := by rfl) (hx : Loc X.env.scope x := by first | exact Or.inl rfl | exact Or.inr rfl) (hs : swapsWith e (some (.Name x pos')) pos.line X.env = pure false := by rfl)
    (hf : X.fn x = true ∨ X.env.scope.names.lookup x = some .local := by first | exact .inl rfl | exact .inr rfl) : SS W X (.Assign [.Name x pos'] e pos) (sOwn i df) := by
  obtain ⟨t, p, o⟩ := h
  exact ⟨_, ps_set hN hi hx p hs hf, okS_own o⟩
theorem ss_ownlc {i : Nat} (h : ∃ te, PS X st (tAsg te (gName i)) ∧ OkF X.K W te df) : SS W X st (sOwn i df) := by
  obtain ⟨t, p, o⟩ := h
  exact ⟨_, p, okS_own o⟩
end
/-- x, y = new list, value -/
def sParFE (i j : Nat) (a : DF) (b : DE) : DS := fun B env => a env fun ds => b env fun e => B.nx ((env.set i (.ow ds)).set j (.fz e))
def sParEF (i j : Nat) (a : DE) (b : DF) : DS := fun B env => a env fun d => b env fun es => B.nx ((env.set i (.fz d)).set j (.ow es))
def sParFF (i j : Nat) (a b : DF) : DS := fun B env => a env fun ds => b env fun es => B.nx ((env.set i (.ow ds)).set j (.ow es))
section
variable {W : Wd} {X : Cx} {i j : Nat} {x y : Str} {ea eb : Expr} {da db : DE} {fa fb : DF} {px py pt pos : Pos} {kt k2 : Nat} {pt2 : Pos}
theorem ss_parFE (hc : X.calm = true) (hN : X.N.Nodup) (ha : SF W X ea fa) (hb : SE W X eb db) (hi : X.N[i]? = some x := by rfl) (hj : X.N[j]? = some y := by rfl) (hij : i ≠ j := by decide)
    (hx : X.env.scope.names.lookup x = some .local := by rfl) (hy : X.env.scope.names.lookup y = some .local := by rfl) (he : starEach [ea, eb] X.env = (false, eval ea X.env) :: starEach [eb] X.env := by rfl) (he2 : starEach [eb] X.env = (false, eval eb X.env) :: starEach [] X.env := by rfl)
    (hw : swappedStores [.Tuple [.Name x px, .Name y py] kt pt] (.Tuple [ea, eb] k2 pt2) X.env = pure (some [x, y]) := by rfl)
    (hs : swapsWithSole [.Tuple [.Name x px, .Name y py] kt pt] (.Tuple [ea, eb] k2 pt2) pos.line X.env = pure false := by rfl) :
    SS W X (.Assign [.Tuple [.Name x px, .Name y py] kt pt] (.Tuple [ea, eb] k2 pt2) pos) (sParFE i j fa db) := by
  obtain ⟨t1, p1, o1⟩ := ha
  obtain ⟨t2, p2, o2⟩ := hb
  refine ⟨_, ps_par hc hN hi hj hij hx hy (pa_cons p1 (pa_cons p2 pa_nil he2) he) hw hs, fun env σ F H B D R h q => ?_⟩
  refine o1 env σ F H _ _ R h fun ds xs F1 H1 p s1 n f hp r1 h1 => o2 env σ F1 H1 _ _ (R.step s1) h1 fun d v F2 H2 s2 r2 h2 => ?_
  have np := ne_pp R.bs n
  exact ⟨_, _, rfl, q.nx _ _ F2 H2 (s1.ff.trans s2.ff) ((R.setO' (s1.trans s2) n (s2.own f (by rw [hp]; exact fun z => nomatch z)) (s2.fr _ _ np hp) (r1.mono s2.ff) i).set r2 j) h2⟩
theorem ss_parEF (hc : X.calm = true) (hN : X.N.Nodup) (ha : SE W X ea da) (hb : SF W X eb fb) (hi : X.N[i]? = some x := by rfl) (hj : X.N[j]? = some y := by rfl) (hij : i ≠ j := by decide)
    (hx : X.env.scope.names.lookup x = some .local := by rfl) (hy : X.env.scope.names.lookup y = some .local := by rfl) (he : starEach [ea, eb] X.env = (false, eval ea X.env) :: starEach [eb] X.env := by rfl) (he2 : starEach [eb] X.env = (false, eval eb X.env) :: starEach [] X.env := by rfl)
    (hw : swappedStores [.Tuple [.Name x px, .Name y py] kt pt] (.Tuple [ea, eb] k2 pt2) X.env = pure (some [x, y]) := by rfl)
    (hs : swapsWithSole [.Tuple [.Name x px, .Name y py] kt pt] (.Tuple [ea, eb] k2 pt2) pos.line X.env = pure false := by rfl) :
    SS W X (.Assign [.Tuple [.Name x px, .Name y py] kt pt] (.Tuple [ea, eb] k2 pt2) pos) (sParEF i j da fb) := by
  obtain ⟨t1, p1, o1⟩ := ha
  obtain ⟨t2, p2, o2⟩ := hb
  refine ⟨_, ps_par hc hN hi hj hij hx hy (pa_cons p1 (pa_cons p2 pa_nil he2) he) hw hs, fun env σ F H B D R h q => ?_⟩
  refine o1 env σ F H _ _ R h fun d v F1 H1 s1 r1 h1 => o2 env σ F1 H1 _ _ (R.step s1) h1 fun ds xs F2 H2 p s2 n f hp r2 h2 => ?_
  exact ⟨_, _, rfl, q.nx _ _ F2 H2 (s1.ff.trans s2.ff) (((R.step s1).set r1 i).setO' s2 n f hp r2 j) h2⟩
theorem ss_parFF (hc : X.calm = true) (hN : X.N.Nodup) (ha : SF W X ea fa) (hb : SF W X eb fb) (hi : X.N[i]? = some x := by rfl) (hj : X.N[j]? = some y := by rfl) (hij : i ≠ j := by decide)
    (hx : X.env.scope.names.lookup x = some .local := by rfl) (hy : X.env.scope.names.lookup y = some .local := by rfl) (he : starEach [ea, eb] X.env = (false, eval ea X.env) :: starEach [eb] X.env := by rfl) (he2 : starEach [eb] X.env = (false, eval eb X.env) :: starEach [] X.env := by rfl)
    (hw : swappedStores [.Tuple [.Name x px, .Name y py] kt pt] (.Tuple [ea, eb] k2 pt2) X.env = pure (some [x, y]) := by rfl)
    (hs : swapsWithSole [.Tuple [.Name x px, .Name y py] kt pt] (.Tuple [ea, eb] k2 pt2) pos.line X.env = pure false := by rfl) :
    SS W X (.Assign [.Tuple [.Name x px, .Name y py] kt pt] (.Tuple [ea, eb] k2 pt2) pos) (sParFF i j fa fb) := by
  obtain ⟨t1, p1, o1⟩ := ha
  obtain ⟨t2, p2, o2⟩ := hb
  refine ⟨_, ps_par hc hN hi hj hij hx hy (pa_cons p1 (pa_cons p2 pa_nil he2) he) hw hs, fun env σ F H B D R h q => ?_⟩
  refine o1 env σ F H _ _ R h fun ds xs F1 H1 p s1 n f hp r1 h1 => o2 env σ F1 H1 _ _ (R.step s1) h1 fun es ys F2 H2 p2 s2 n2 f2 hp2 r2 h2 => ?_
  have R1 := R.setO' s1 n f hp r1 i
  exact ⟨_, _, rfl, q.nx _ _ F2 H2 (s1.ff.trans s2.ff) (R1.setO' s2 n2 f2 hp2 r2 j) h2⟩
end

/-! ### reading lists of one's own -/
def frzAll : Sls → List Nat → Option Sls
  | env, [] => some env
  | env, i :: r => match freeze env i with
    | some env' => frzAll env' r
    | none => none
mutual
def noList : PyData → Bool
  | .list _ => false
  | .dict _ => false
  | .tuple xs => noLists xs
  | _ => true
def noLists : List PyData → Bool
  | [] => true
  | x :: r => noList x && noLists r
end
theorem Rel.fzo2 {K : PySem.W.Frag} {W : Wd} {env : Sls} {σ : L2.St} {F H : Hp} (r : Rel K W env σ F H) {i : Nat} {ds : List PyData} (e : env[i]? = some (.ow ds)) :
    ∃ F', Same F F' ∧ (∀ b o, F' b = some o → F b = some o ∨ ∃ xs, o = .lst xs) ∧ Rel K W (env.set i (.fz (.list ds))) σ F' H := by
  obtain ⟨p, xs, h1, h2, h3, h4, h5, h6⟩ := r.sl i _ e
  have hi : i < env.length := (List.getElem?_eq_some_iff.mp e).1
  have sf : Same F (upd F p (.lst xs)) := same_upd h3
  have st : Stp W.pp W.F0 W.H0 (upd F p (.lst xs)) H := r.st.freeze h5 h3 h2
  refine ⟨upd F p (.lst xs), sf, fun b o h => ?_, r.b0, st, by rw [List.length_set]; exact r.len, fun j q e' => ?_, fun j l q ds1 es e1 e2 g1 g2 => ?_⟩
  · by_cases z : b = p
    · subst z; rw [upd_same] at h; cases h; exact .inr ⟨xs, rfl⟩
    · rw [upd_ne z] at h; exact .inl h
  · by_cases hj : i = j
    · subst hj
      rw [List.getElem?_set_self hi] at e'
      cases e'
      exact ⟨.ref p, h1, .lst upd_same (h6.mono sf)⟩
    · rw [List.getElem?_set_ne hj] at e'
      have z := r.sl j q e'
      cases q with
      | no => trivial
      | fz d => obtain ⟨v, z1, z2⟩ := z; exact ⟨v, z1, z2.mono sf⟩
      | ow es =>
        obtain ⟨p2, ys, z1, z2, z3, z4, z5, z6⟩ := z
        refine ⟨p2, ys, z1, z2, ?_, z4, z5, z6.mono sf⟩
        have np : p2 ≠ p := fun ee => by
          subst ee
          exact hj (r.dis i j p2 ds es e e' h1 z1)
        rw [upd_ne np]; exact z3
      | pt => exact z
  · have back : ∀ (m : Nat) (ds2 : List PyData), (env.set i (Sl.fz (.list ds)))[m]? = some (Sl.ow ds2) → env[m]? = some (Sl.ow ds2) := fun m ds2 h => by
      by_cases hm : i = m
      · subst hm; rw [List.getElem?_set_self hi] at h; cases h
      · rw [List.getElem?_set_ne hm] at h; exact h
    exact r.dis j l q ds1 es (back j ds1 e1) (back l es e2) g1 g2
theorem Rel.fzAll {K : PySem.W.Frag} {W : Wd} {σ : L2.St} {H : Hp} : ∀ {is : List Nat} {env env' : Sls} {F : Hp}, Rel K W env σ F H → frzAll env is = some env' → ∃ F', Same F F' ∧ (∀ b o, F' b = some o → F b = some o ∨ ∃ xs, o = .lst xs) ∧ Rel K W env' σ F' H
  | [], env, env', F, r, h => by cases h; exact ⟨F, Same.refl F, fun b o h => .inl h, r⟩
  | i :: is, env, env', F, r, h => by
    unfold frzAll freeze at h
    cases e : look env i with
    | ow ds =>
      rw [e] at h
      obtain ⟨F1, s1, n1, r1⟩ := r.fzo2 (look_some e (fun z => nomatch z))
      obtain ⟨F2, s2, n2, r2⟩ := Rel.fzAll r1 h
      exact ⟨F2, s1.trans s2, fun b o h => (n2 b o h).elim (fun z => n1 b o z) .inr, r2⟩
    | _ => rw [e] at h; cases h
def dBor (is : List Nat) (a : DE) : DE := fun env k => match frzAll env is with
  | some env' => a env' fun d => (match noList d with
    | true => k d
    | false => false)
  | none => false
def dBorT (is : List Nat) (a : DT) : DT := fun env k => match frzAll env is with
  | some env' => a env' k
  | none => false
/-- what stays frozen: what was, and new tuples -/
def onlyT (F F' : Hp) : Hp := fun b => match F b with
  | some o => some o
  | none => match F' b with
    | some (.tup xs) => some (.tup xs)
    | _ => none
theorem onlyT_tup {F F' : Hp} (e : Same F F') {a : Addr} {xs : List V} (h : F' a = some (.tup xs)) : onlyT F F' a = some (.tup xs) := by
  unfold onlyT
  cases q : F a with
  | some o => rw [e a o q] at h; cases h; rfl
  | none => simp only [h]
mutual
theorem rp_onlyT {K : PySem.W.Frag} {F F' : Hp} (e : Same F F') : ∀ {v : V} {d : PyData}, Rp K F' v d → noList d = true → Rp K (onlyT F F') v d
  | _, _, .non, _ => .non
  | _, _, .bl b, _ => .bl b
  | _, _, .int i, _ => .int i
  | _, _, .str x, _ => .str x
  | _, _, .lst h a, n => by simp [noList] at n
  | _, _, .tup h a, n => .tup (onlyT_tup e h) (rps_onlyT e a (by simpa [noList] using n))
  | _, _, .ktup h a, n => .ktup h (rps_onlyT e a (by simpa [noList] using n))
theorem rps_onlyT {K : PySem.W.Frag} {F F' : Hp} (e : Same F F') : ∀ {vs : List V} {ds : List PyData}, RpAll K F' vs ds → noLists ds = true → RpAll K (onlyT F F') vs ds
  | _, _, .nil, _ => .nil
  | _, _, @RpAll.cons _ _ v vs d ds h a, n => by
    have n2 : (noList d && noLists ds) = true := n
    obtain ⟨n3, n4⟩ := Bool.and_eq_true_iff.mp n2
    exact .cons (rp_onlyT e h n3) (rps_onlyT e a n4)
end
theorem stp_onlyT {pp : Addr} {F F1 H F' H' : Hp} (B : Bs pp F H) (e : Same F F1) (n : ∀ b o, F1 b = some o → F b = some o ∨ ∃ xs, o = .lst xs) (s : Stp pp F1 H F' H') : Stp pp F H (onlyT F F') H' := by
  refine ⟨fun b o h => ?_, fun b o h => ?_, s.fr, fun b o h => ?_, s.po⟩
  · unfold onlyT; rw [h]
  · unfold onlyT at h
    cases q : F b with
    | some u =>
      rw [q] at h
      cases h
      exact s.fr b _ (fun z => by subst z; rw [B.fp] at q; cases q) (B.fh b _ q)
    | none =>
      rw [q] at h
      cases q2 : F' b with
      | none => rw [q2] at h; cases h
      | some u =>
        rw [q2] at h
        cases u with
        | tup xs => cases h; exact s.fh b _ q2
        | _ => cases h
  · unfold onlyT at h
    cases q : F b with
    | some u => rw [q] at h; exact .inl h
    | none =>
      rw [q] at h
      cases q2 : F' b with
      | none => rw [q2] at h; cases h
      | some u =>
        rw [q2] at h
        cases u with
        | tup xs =>
          rcases s.nf b _ q2 with z | z
          · rcases n b _ z with z | ⟨ys, z⟩
            · rw [q] at z; cases z
            · cases z
          · exact .inr z
        | _ => cases h
section
variable {K : PySem.W.Frag} {W : Wd} {X : Cx} {e : Expr} {de : DE} {dt : DT}
theorem se_bor (is : List Nat) (h : SE W X e de) : SE W X e (dBor is de) := by
  obtain ⟨t, p, o⟩ := h
  refine ⟨t, p, fun env σ F H k Q R h q => ?_⟩
  unfold dBor at h
  cases e : frzAll env is with
  | none => rw [e] at h; cases h
  | some env' =>
    rw [e] at h
    obtain ⟨F1, s1, n1, R1⟩ := R.fzAll e
    refine o env' σ F1 H _ _ R1 h fun d v F' H' s r hk => ?_
    cases e2 : noList d with
    | false => simp only [e2] at hk; cases hk
    | true =>
      simp only [e2] at hk
      exact q d v _ H' (stp_onlyT R.bs s1 n1 s) (rp_onlyT (s1.trans s.ff) r e2) hk
theorem st_bor (is : List Nat) (h : ST W X e dt) : ST W X e (dBorT is dt) := by
  obtain ⟨t, p, o⟩ := h
  refine ⟨t, p, fun env σ F H k Q R h q => ?_⟩
  unfold dBorT at h
  cases e : frzAll env is with
  | none => rw [e] at h; cases h
  | some env' =>
    rw [e] at h
    obtain ⟨F1, s1, n1, R1⟩ := R.fzAll e
    exact o env' σ F1 H _ _ R1 h fun b F' H' s hk => q b _ H' (stp_onlyT R.bs s1 n1 s) hk
end

/-! ### lists of one's own changed -/
theorem small_lt {n : Nat} (h : small n = true) : n < sizeLine := Nat.lt_of_le_of_lt (Nat.le_of_ble_eq_true h) (by decide)
def sApp (i : Nat) (a : DE) : DS := fun B env => match look env i with
  | .ow ds => a env fun d => (match small ds.length with
    | true => B.nx (env.set i (.ow (ds ++ [d])))
    | false => false)
  | _ => false
def sExt (i : Nat) (a : DE) : DS := fun B env => match look env i with
  | .ow ds => a env fun d => (match d with
    | .list es => (match small (ds.length + es.length) with
      | true => B.nx (env.set i (.ow (ds ++ es)))
      | false => false)
    | _ => false)
  | _ => false
def sSetIx (i : Nat) (ix a : DE) : DS := fun B env => a env fun d => match look env i with
  | .ow ds => ix env fun j => (match j with
    | .int z => (match ixN ds.length z with
      | some n => B.nx (env.set i (.ow (ds.set n d)))
      | none => false)
    | _ => false)
  | _ => false
def sPop (i : Nat) : DS := fun B env => match look env i with
  | .ow (d :: ds) => B.nx (env.set i (.ow (d :: ds).dropLast))
  | _ => false
def sPopTo (j i : Nat) : DS := fun B env => match look env i with
  | .ow ds => (match ds[ds.length - 1]? with
    | some d => B.nx ((env.set i (.ow ds.dropLast)).set j (.fz d))
    | none => false)
  | _ => false
section
variable {K : PySem.W.Frag} {W : Wd} {X : Cx} {e eix : Expr} {de dx : DE} {pos p1 p2 p3 : Pos} {i j : Nat} {x y : Str}
theorem Rel.ow {env : Sls} {σ : L2.St} {F H : Hp} (r : Rel K W env σ F H) {ds : List PyData} (e : look env i = .ow ds) : ∃ p xs, σ[i]? = some (some (.ref p)) ∧ H p = some (.lst xs) ∧ F p = none ∧ p ≠ W.pp ∧ W.H0 p = none ∧ RpAll K F xs ds := r.sl i _ (look_some e (fun z => nomatch z))
theorem ss_app (h : SE W X e de) (hN : X.N[i]? = some x := by rfl) (hv : Vis X.env.scope x := by first | exact Or.inl rfl | exact Or.inr (Or.inl rfl) | exact Or.inr (Or.inr rfl)) (hd : (x == ("__debug__" : Str)) = false := by decide) (hcd : (x == ("__classdict__" : Str)) = false := by decide)
    (hsw : swapsWith (.Call (.Attribute (.Name x p1) "append" p2) [e] [] p3) none pos.line X.env = pure false := by rfl) (hbase : attributeBase (.Name x p1) "append" X.env (eval (.Name x p1) X.env) = eval (.Name x p1) X.env := by rfl)
    (hfew : ((backTo p3 (starEach [e] X.env)).all (fun x => !x.1) && (backToKw p3 (keywordEach [] X.env)).all (fun x => x.1.isSome) && decide (([e] : List Expr).length + ([] : List Keyword).length + (if ([] : List Keyword).isEmpty then 0 else 1) < 30)) = true := by rfl)
    (hline : (p2.endLine == p3.line) = true := by rfl) (hs : starEach [e] X.env = (false, eval e X.env) :: starEach [] X.env := by rfl) (hplain : (backTo p3 (starEach [] X.env)).any (·.1) = false := by rfl) :
    SS W X (.Expr (.Call (.Attribute (.Name x p1) "append" p2) [e] [] p3) pos) (sApp i de) := by
  obtain ⟨t, p, o⟩ := h
  refine ⟨_, ps_expr (pe_bm PySem.F.plainAttrs_list PySem.F.slot_list_append PySem.F.type_list_append mt_append (pe_var hN hv hd hcd) (pa_cons p pa_nil hs) hbase hfew hline hs hplain) hsw, fun env σ F H B D R h q => ?_⟩
  unfold sApp at h
  cases e : look env i with
  | ow ds =>
    rw [e] at h
    obtain ⟨pa, xs, g1, g2, g3, g4, g5, g6⟩ := R.ow e
    refine ⟨.ref pa, g1, .inl ⟨rfl, _, .inl (.inl g2)⟩, o env σ F H _ _ R h fun d v F1 H1 s1 r1 h1 => ?_⟩
    cases e2 : small ds.length with
    | false => simp only [e2] at h1; cases h1
    | true =>
      simp only [e2] at h1
      have R1 := R.step s1
      have g6' := g6.mono s1.ff
      refine ⟨pa, xs, v, rfl, rfl, s1.fr _ _ g4 g2, by rw [g6.length]; exact small_lt e2, ?_⟩
      exact q.nx _ _ F1 _ s1.ff (R1.wr (look_some e (fun z => nomatch z)) g1 (g6'.append (.cons r1 .nil))) h1
  | _ => rw [e] at h; cases h
theorem ss_ext (h : SE W X e de) (hN : X.N[i]? = some x := by rfl) (hv : Vis X.env.scope x := by first | exact Or.inl rfl | exact Or.inr (Or.inl rfl) | exact Or.inr (Or.inr rfl)) (hd : (x == ("__debug__" : Str)) = false := by decide) (hcd : (x == ("__classdict__" : Str)) = false := by decide)
    (hsw : swapsWith (.Call (.Attribute (.Name x p1) "extend" p2) [e] [] p3) none pos.line X.env = pure false := by rfl) (hbase : attributeBase (.Name x p1) "extend" X.env (eval (.Name x p1) X.env) = eval (.Name x p1) X.env := by rfl)
    (hfew : ((backTo p3 (starEach [e] X.env)).all (fun x => !x.1) && (backToKw p3 (keywordEach [] X.env)).all (fun x => x.1.isSome) && decide (([e] : List Expr).length + ([] : List Keyword).length + (if ([] : List Keyword).isEmpty then 0 else 1) < 30)) = true := by rfl)
    (hline : (p2.endLine == p3.line) = true := by rfl) (hs : starEach [e] X.env = (false, eval e X.env) :: starEach [] X.env := by rfl) (hplain : (backTo p3 (starEach [] X.env)).any (·.1) = false := by rfl) :
    SS W X (.Expr (.Call (.Attribute (.Name x p1) "extend" p2) [e] [] p3) pos) (sExt i de) := by
  obtain ⟨t, p, o⟩ := h
  refine ⟨_, ps_expr (pe_bm PySem.F.plainAttrs_list PySem.F.slot_list_extend PySem.F.type_list_extend mt_extend (pe_var hN hv hd hcd) (pa_cons p pa_nil hs) hbase hfew hline hs hplain) hsw, fun env σ F H B D R h q => ?_⟩
  unfold sExt at h
  cases e : look env i with
  | ow ds =>
    rw [e] at h
    obtain ⟨pa, xs, g1, g2, g3, g4, g5, g6⟩ := R.ow e
    refine ⟨.ref pa, g1, .inl ⟨rfl, _, .inl (.inl g2)⟩, o env σ F H _ _ R h fun d v F1 H1 s1 r1 h1 => ?_⟩
    have R1 := R.step s1
    have g6' := g6.mono s1.ff
    cases d with
    | list es =>
      cases r1 with
      | @lst pb wl _ hb rb =>
        cases e2 : small (ds.length + es.length) with
        | false => simp only [e2] at h1; cases h1
        | true =>
          simp only [e2] at h1
          refine ⟨pa, pb, xs, wl, rfl, rfl, s1.fr _ _ g4 g2, R1.bs.keep hb, by rw [g6.length, rb.length]; exact small_ok e2, ?_⟩
          exact q.nx _ _ F1 _ s1.ff (R1.wr (look_some e (fun z => nomatch z)) g1 (g6'.append rb)) h1
    | _ => cases h1
  | _ => rw [e] at h; cases h
theorem ss_setix (h : SE W X e de) (hx : SE W X eix dx) (hN : X.N[i]? = some x := by rfl) (hv : Vis X.env.scope x := by first | exact Or.inl rfl | exact Or.inr (Or.inl rfl) | exact Or.inr (Or.inr rfl)) (hd : (x == ("__debug__" : Str)) = false := by decide) (hcd : (x == ("__classdict__" : Str)) = false := by decide)
    (ha : ∀ v, assign (.Subscript (.Name x p1) eix p2) X.env v = (do
      let ov ← holding [v] (eval (.Name x p1) X.env)
      let iv ← holding [v, ov] (eval eix X.env)
      standAt p2
      holding [v, ov, iv] (setItem ov iv v)
      release [v, ov, iv] []) := by intro _; rfl)
    (hs : swapsWithSole [.Subscript (.Name x p1) eix p2] e pos.line X.env = pure false := by rfl) (hw : swappedStores [.Subscript (.Name x p1) eix p2] e X.env = pure none := by rfl)
    (h1 : (assignEach [.Subscript (.Name x p1) eix p2] X.env).map (·.2) = [assign (.Subscript (.Name x p1) eix p2) X.env] := by rfl) :
    SS W X (.Assign [.Subscript (.Name x p1) eix p2] e pos) (sSetIx i dx de) := by
  obtain ⟨t, p, o⟩ := h
  obtain ⟨t2, px, o2⟩ := hx
  refine ⟨_, ps_asg p (pg_sub (pe_var hN hv hd hcd) px set_list ha) hs hw h1, fun env σ F H B D R h q => o env σ F H _ _ R h fun d v F1 H1 s1 r1 h1 => ?_⟩
  have R1 := R.step s1
  cases e : look env i with
  | ow ds =>
    simp only [e] at h1
    obtain ⟨pa, xs, g1, g2, g3, g4, g5, g6⟩ := R1.ow e
    refine ⟨.ref pa, g1, o2 env σ F1 H1 _ _ R1 h1 fun d2 v2 F2 H2 s2 r2 h2 => ?_⟩
    have R2 := R1.step s2
    cases d2 with
    | int z =>
      cases r2
      cases e2 : ixN ds.length z with
      | none => simp only [e2] at h2; cases h2
      | some n =>
        simp only [e2] at h2
        refine ⟨pa, xs, z, n, rfl, rfl, s2.fr _ _ g4 g2, by rw [g6.length]; exact e2, ?_⟩
        exact q.nx _ _ F2 _ (s1.ff.trans s2.ff) (R2.wr (look_some e (fun z => nomatch z)) g1 ((g6.mono s2.ff).set (r1.mono s2.ff) n)) h2
    | _ => cases h2
  | _ => simp only [e] at h1; cases h1
theorem last_of {α : Type} (xs : List α) : xs[xs.length - 1]? = xs.getLast? := by rw [List.getLast?_eq_getElem?]
theorem ss_pop (hN : X.N[i]? = some x := by rfl) (hv : Vis X.env.scope x := by first | exact Or.inl rfl | exact Or.inr (Or.inl rfl) | exact Or.inr (Or.inr rfl)) (hd : (x == ("__debug__" : Str)) = false := by decide) (hcd : (x == ("__classdict__" : Str)) = false := by decide)
    (hsw : swapsWith (.Call (.Attribute (.Name x p1) "pop" p2) [] [] p3) none pos.line X.env = pure false := by rfl) (hbase : attributeBase (.Name x p1) "pop" X.env (eval (.Name x p1) X.env) = eval (.Name x p1) X.env := by rfl)
    (hline : (p2.endLine == p3.line) = true := by rfl) :
    SS W X (.Expr (.Call (.Attribute (.Name x p1) "pop" p2) [] [] p3) pos) (sPop i) := by
  refine ⟨_, ps_expr (pe_bm0 PySem.F.plainAttrs_list PySem.F.slot_list_pop PySem.F.type_list_pop mt_pop (pe_var hN hv hd hcd) hbase hline) hsw, fun env σ F H B D R h q => ?_⟩
  unfold sPop at h
  cases e : look env i with
  | ow ds =>
    rw [e] at h
    obtain ⟨pa, xs, g1, g2, g3, g4, g5, g6⟩ := R.ow e
    cases ds with
    | nil => cases h
    | cons d ds =>
      have hl : (d :: ds)[(d :: ds).length - 1]? = some ((d :: ds).getLast (List.cons_ne_nil _ _)) := by rw [last_of, List.getLast?_eq_getLast (List.cons_ne_nil d ds)]
      obtain ⟨v, h1, _⟩ := g6.at hl
      refine ⟨.ref pa, g1, .inl ⟨rfl, _, .inl (.inl g2)⟩, pa, xs, v, rfl, rfl, g2, by rw [g6.length]; exact h1, ?_⟩
      exact q.nx _ _ F _ (Same.refl F) (R.wr (look_some e (fun z => nomatch z)) g1 g6.dropLast) h
  | _ => rw [e] at h; cases h
theorem ss_popTo {p4 : Pos} {y : Str} (hNd : X.N.Nodup) (hN : X.N[i]? = some x := by rfl) (hv : Vis X.env.scope x := by first | exact Or.inl rfl | exact Or.inr (Or.inl rfl) | exact Or.inr (Or.inr rfl)) (hd : (x == ("__debug__" : Str)) = false := by decide) (hcd : (x == ("__classdict__" : Str)) = false := by decide)
    (hj : X.N[j]? = some y := by rfl) (hy : Loc X.env.scope y := by first | exact Or.inl rfl | exact Or.inr rfl) (hf : X.fn y = true ∨ X.env.scope.names.lookup y = some .local := by first | exact .inl rfl | exact .inr rfl)
    (hsw : swapsWith (.Call (.Attribute (.Name x p1) "pop" p2) [] [] p3) (some (.Name y p4)) pos.line X.env = pure false := by rfl) (hbase : attributeBase (.Name x p1) "pop" X.env (eval (.Name x p1) X.env) = eval (.Name x p1) X.env := by rfl)
    (hline : (p2.endLine == p3.line) = true := by rfl) :
    SS W X (.Assign [.Name y p4] (.Call (.Attribute (.Name x p1) "pop" p2) [] [] p3) pos) (sPopTo j i) := by
  refine ⟨_, ps_set hNd hj hy (pe_bm0 PySem.F.plainAttrs_list PySem.F.slot_list_pop PySem.F.type_list_pop mt_pop (pe_var hN hv hd hcd) hbase hline) hsw hf, fun env σ F H B D R h q => ?_⟩
  unfold sPopTo at h
  cases e : look env i with
  | ow ds =>
    rw [e] at h
    obtain ⟨pa, xs, g1, g2, g3, g4, g5, g6⟩ := R.ow e
    cases e2 : ds[ds.length - 1]? with
    | none => simp only [e2] at h; cases h
    | some d =>
      simp only [e2] at h
      obtain ⟨v, h1, h2⟩ := g6.at e2
      refine ⟨.ref pa, g1, .inl ⟨rfl, _, .inl (.inl g2)⟩, pa, xs, v, rfl, rfl, g2, by rw [g6.length]; exact h1, ?_⟩
      exact q.nx _ _ F _ (Same.refl F) ((R.wr (look_some e (fun z => nomatch z)) g1 g6.dropLast).set h2 j) h
  | _ => rw [e] at h; cases h
end
end Dl

namespace Dl
open PySem PySem.Spec PyProof.Rows L2

/-! ### xs[:e:-1] -/
def idxTo (n : Nat) (hi : Option Int) : List Nat := sliceRange (sliceBounds none hi (some (-1)) n).1 (sliceBounds none hi (some (-1)) n).2.1 (sliceBounds none hi (some (-1)) n).2.2
def pickTo {α : Type} (xs : List α) (hi : Option Int) : List α := (idxTo xs.length hi).filterMap fun i => xs[i]?
theorem vals_pick {xs : List V} {us : List Value} (r : Vals xs us) : ∀ l : List Nat, Vals (l.filterMap fun i => xs[i]?) (l.filterMap fun i => us[i]?)
  | [] => .nil
  | i :: l => by
    rw [List.filterMap_cons, List.filterMap_cons]
    cases e : xs[i]? with
    | none =>
      rw [r.none_of e]
      exact vals_pick r l
    | some x =>
      obtain ⟨u, h1, h2⟩ := r.get e
      rw [h1]
      exact .cons h2 (vals_pick r l)
theorem rp_pick {K : PySem.W.Frag} {F : Hp} {xs : List V} {ds : List PyData} (r : RpAll K F xs ds) : ∀ l : List Nat, RpAll K F (l.filterMap fun i => xs[i]?) (l.filterMap fun i => ds[i]?)
  | [] => .nil
  | i :: l => by
    rw [List.filterMap_cons, List.filterMap_cons]
    cases e : xs[i]? with
    | none =>
      have e2 : ds[i]? = none := by
        have := List.getElem?_eq_none_iff.mp e
        rw [r.length] at this
        exact List.getElem?_eq_none_iff.mpr this
      rw [e2]
      exact rp_pick r l
    | some x =>
      obtain ⟨u, h1, h2⟩ := r.at' e
      rw [h1]
      exact .cons h2 (rp_pick r l)
theorem idxTo_len (n : Nat) (hi : Option Int) : (idxTo n hi).length ≤ n := by
  unfold idxTo
  refine sliceRange_length_le _ _ _ n (fun h => ?_) (fun _ => ?_)
  · exfalso
    simp [sliceBounds] at h
  · simp only [sliceBounds, Option.getD_some]
    constructor
    · simp
    · cases hi with
      | none => simp
      | some i => simp; split <;> omega
theorem pick_len {α : Type} (xs : List α) (hi : Option Int) : (pickTo xs hi).length ≤ xs.length := Nat.le_trans (List.length_filterMap_le _ _) (idxTo_len _ _)
section
variable {X : Cx} {W : Wd}
def tRevTo (K : PySem.W.Frag) (te : TE) (to : TO) : TE := fun σ H Q => te σ H fun x H1 => to σ H1 fun o H2 => ∃ a xs, x = .ref a ∧ SqL K H2 a xs ∧ ∀ p, H2 p = none → Q (.ref p) (upd H2 p (.lst (pickTo xs o)))
theorem pe_revTo {e : Expr} {hi : Option Expr} {te : TE} {to : TO} {k : Nat} {p1 p2 p3 pos : Pos} (he : PE X e te) (ho : PO X hi to) : PE X (.Subscript e (.Slice none hi (some (.UnaryOp .USub (.Constant (.int 1) k p1) p2)) p3) pos) (tRevTo X.K te to) := by
  refine ⟨fun pins s σ H Q I h => ?_⟩
  refine Subscript_ (thn (he.run pins s σ H _ I h) fun v s1 ⟨x, H1, I1, r1, q1⟩ => ?_)
  have hst : PO X (some (.UnaryOp .USub (.Constant (.int 1) k p1) p2)) (tPart (tUn (rU fun i => .int (-i)) (tC (.int 1)))) := po_some (pe_un un_neg pe_int)
  refine wpAny_Slice (thn (po_none.run pins s1 σ H1 (fun o H2 => o = none ∧ H2 = H1) I1 ⟨rfl, rfl⟩) fun vl s2 ⟨l, H2, I2, pl, el, e2⟩ => ?_)
  subst el e2
  refine thn (ho.run pins s2 σ H2 _ I2 q1) fun vu s3 ⟨u, H3, I3, pu, a, xs, ex, hx, q⟩ => ?_
  subst ex
  cases r1
  refine thn (hst.run pins s3 σ H3 (fun o H4 => o = some (-1) ∧ H4 = H3) I3 ⟨1, rfl, -1, rfl, rfl, rfl⟩) fun vs s4 ⟨o, H4, I4, ps, eo, e4⟩ => ?_
  subst eo e4
  have I5 : Inv X pins σ H4 { s4 with heap := s4.heap.push { cls := .type "slice", data := .fields #[vl, vu, vs] } } := I4.kept (t' := s4.toks) fun b ob q => Heap.get?_push_of_some _ q
  obtain ⟨its, r, ht, hz⟩ := I5.list hx
  have hlen := r.length
  show wpAny (model X.prog X.w) X.A (subscriptTail e (.Slice none hi (some (.UnaryOp .USub (.Constant (.int 1) k p1) p2)) p3) (.ref a) (.ref s4.heap.objs.size)) (EP X pins σ Q) X.xe { s4 with heap := s4.heap.push { cls := .type "slice", data := .fields #[vl, vu, vs] } }
  refine tail_any (ops := [.ref a, .ref s4.heap.objs.size]) ht.isList.typeIs (PySem.slot_list_getitem.lookup) ?_ (by with_unfolding_all rfl)
  refine wpAny_getItem_list_slice ht.isList (Heap.IsSliceOf.new _ vl vu vs) pl pu ps (by decide) ?_ (by rw [List.size_toArray]; omega)
  have ep : slicePick its.toArray none u (some (-1)) = (pickTo its u).toArray := by
    unfold slicePick pickTo idxTo
    rw [List.size_toArray]
    congr 1
    try (congr 1; funext i; simp)
  rw [ep]
  refine ⟨.ref _, _, I5.laid (t' := s4.toks) (o := .lst (pickTo xs u)) (fun b ob q => Heap.get?_push_of_some _ q) (Nat.le_refl _) ?_, rfl, q _ (I5.hok.fresh (Nat.le_refl _))⟩
  exact ⟨Nat.le_trans (pick_len xs u) hz, _, 0, by unfold pickTo; rw [hlen]; exact vals_pick r _, Heap.get?_push_size _ rfl⟩
def dRevTo (a b : DE) : DE := fun env k => a env fun x => b env fun y => match x, y with
  | .list xs, .int i => k (.list (pickTo xs (some i)))
  | _, _ => false
theorem se_revTo {ea eb : Expr} {da db : DE} {k : Nat} {p1 p2 p3 pos : Pos} (a : SE W X ea da) (b : SE W X eb db) : SE W X (.Subscript ea (.Slice none (some eb) (some (.UnaryOp .USub (.Constant (.int 1) k p1) p2)) p3) pos) (dRevTo da db) := by
  obtain ⟨t1, p1, o1⟩ := a
  obtain ⟨t2, p2, o2⟩ := b
  refine ⟨_, pe_revTo p1 (po_some p2), fun env σ F H k Q R h q => o1 env σ F H _ _ R h fun d v F1 H1 s1 r1 h1 => o2 env σ F1 H1 _ _ (R.step s1) h1 fun d2 v2 F2 H2 s2 r2 h2 => ?_⟩
  have B := ((R.step s1).step s2).bs
  have r1 := r1.mono s2.ff
  cases d with
  | list xs =>
    cases d2 with
    | int i =>
      cases r2
      cases r1 with
      | @lst pa vl _ ha ra =>
        refine ⟨i, rfl, pa, vl, rfl, .inl (.inl (B.keep ha)), fun p np => ?_⟩
        have st := Stp.new (o := .lst (pickTo vl (some i))) B np
        refine q _ _ _ _ ((s1.trans s2).trans st) (.lst upd_same ?_) h2
        have rp : RpAll X.K F2 (pickTo vl (some i)) (pickTo xs (some i)) := by
          unfold pickTo
          rw [ra.length]
          exact rp_pick ra _
        exact rp.mono st.ff
    | _ => cases h2
  | _ => cases h2
end
/-! ### draws: any number below -/
def allB : Nat → (Nat → Bool) → Bool
  | 0, _ => true
  | n + 1, f => match f n with
    | true => allB n f
    | false => false
def mDraw : Fn := fun ds k => match ds with
  | [.dict _, .int (.ofNat (n + 1))] => (match Nat.ble n 1000000000 with
    | true => allB (n + 1) fun c => k (.int (Int.ofNat c))
    | false => false)
  | _ => false
def isT : KF := fun d => match d with
  | .bool true => true
  | _ => false
/-! ### three names at once -/
def sPar3 (i j l : Nat) (a : DA) : DS := fun B env => a env fun ds => match ds with
  | [d, e, f] => B.nx (((env.set i (.fz d)).set j (.fz e)).set l (.fz f))
  | _ => false
section
variable {W : Wd} {X : Cx}
theorem ss_par3 {i j l : Nat} {x y z : Str} {ea eb ec : Expr} {da : DA} {px py pz pt pos : Pos} {kt k2 : Nat} {pt2 : Pos} (hc : X.calm = true) (hN : X.N.Nodup) (ha : SA W X [ea, eb, ec] da) (hi : X.N[i]? = some x := by rfl) (hj : X.N[j]? = some y := by rfl) (hl : X.N[l]? = some z := by rfl)
    (hij : i ≠ j := by decide) (hil : i ≠ l := by decide) (hjl : j ≠ l := by decide) (hx : X.env.scope.names.lookup x = some .local := by rfl) (hy : X.env.scope.names.lookup y = some .local := by rfl) (hz : X.env.scope.names.lookup z = some .local := by rfl)
    (hw : swappedStores [.Tuple [.Name x px, .Name y py, .Name z pz] kt pt] (.Tuple [ea, eb, ec] k2 pt2) X.env = pure (some [x, y, z]) := by rfl)
    (hs : swapsWithSole [.Tuple [.Name x px, .Name y py, .Name z pz] kt pt] (.Tuple [ea, eb, ec] k2 pt2) pos.line X.env = pure false := by rfl) :
    SS W X (.Assign [.Tuple [.Name x px, .Name y py, .Name z pz] kt pt] (.Tuple [ea, eb, ec] k2 pt2) pos) (sPar3 i j l da) := by
  obtain ⟨t, p, o⟩ := ha
  refine ⟨_, ps_par3 hc hN hi hj hl hij hil hjl hx hy hz p hw hs, fun env σ F H B D R h q => o env σ F H _ _ R h fun ds vs F1 H1 s1 r1 h1 => ?_⟩
  cases r1 with
  | nil => cases h1
  | @cons v1 vs d1 ds r1 rr =>
    cases rr with
    | nil => cases h1
    | @cons v2 vs d2 ds r2 rr =>
      cases rr with
      | nil => cases h1
      | @cons v3 vs d3 ds r3 rr =>
        cases rr with
        | cons _ _ => cases h1
        | nil => exact ⟨v1, v2, v3, rfl, q.nx _ _ F1 H1 s1.ff ((((R.step s1).set r1 i).set r2 j).set r3 l) h1⟩
end
end Dl

namespace Dl
open PySem PySem.Spec PyProof.Rows L2
/-! ### fractions worked out at once -/
def logOk (n : Nat) : Bool := Nat.ble (Nat.log2 n) 8999
def mkP (t : Int) (m : Nat) (k : KF) : Bool := match logOk m with
  | true => frN (Nat.gcd t.natAbs m) fun g => fI (t / Int.ofNat g) fun a => frN (m / g) fun c => k (.tuple [.int a, .int (.ofNat c)])
  | false => false
def mkFr (t b : Int) (k : KF) : Bool := match b with
  | .ofNat 0 => false
  | .ofNat (n + 1) => mkP t (n + 1) k
  | .negSucc n => fI (0 - t) fun t => mkP t (n + 1) k
def qDivisor : Fn := fun ds k => match ds with
  | [.int (.ofNat a), .int (.ofNat b)] => (match logOk b with
    | true => frN (Nat.gcd a b) fun g => k (.int (.ofNat g))
    | false => false)
  | _ => false
def qReduced : Fn := fun ds k => match ds with
  | [.int t, .int b] => mkFr t b k
  | _ => false
def qFr2 (f : Int → Int → Int → Int → KF → Bool) : Fn := fun ds k => match ds with
  | [.tuple [.int a, .int b], .tuple [.int c, .int d]] => f a b c d k
  | _ => false
/-- a * b, worked out -/
def mI (a b : Int) (k : Int → Bool) : Bool := match mulOk a b with
  | true => fI (a * b) k
  | false => false
def qAddR (red : Fn) : Fn := qFr2 fun a b c d k => mI a d fun x => mI c b fun y => mI b d fun z => fI (x + y) fun t => red [.int t, .int z] k
def qTakeR (red : Fn) : Fn := qFr2 fun a b c d k => mI a d fun x => mI c b fun y => mI b d fun z => fI (x - y) fun t => red [.int t, .int z] k
def qMulR (red : Fn) : Fn := qFr2 fun a b c d k => mI a c fun x => mI b d fun z => red [.int x, .int z] k
def qDivR (red : Fn) : Fn := qFr2 fun a b c d k => mI a d fun x => mI b c fun z => red [.int x, .int z] k
def qBelow : Fn := qFr2 fun a b c d k => mI a d fun x => mI c b fun y => k (.bool (decide (x < y)))
theorem mI_eq {a b : Int} {k : Int → Bool} (h : mI a b k = true) : mulOk a b = true ∧ k (a * b) = true := by
  unfold mI at h
  cases e : mulOk a b with
  | false => rw [e] at h; cases h
  | true =>
    rw [e] at h
    exact ⟨rfl, (fI_eq _ _).symm.trans h⟩
theorem mkP_eq {t : Int} {m : Nat} {k : KF} (h : mkP t m k = true) : logOk m = true ∧ k (.tuple [.int (t / Int.ofNat (Nat.gcd t.natAbs m)), .int (Int.ofNat (m / Nat.gcd t.natAbs m))]) = true := by
  unfold mkP at h
  cases e : logOk m with
  | false => rw [e] at h; cases h
  | true =>
    rw [e] at h
    refine ⟨rfl, ?_⟩
    have h : frN (Nat.gcd t.natAbs m) (fun g => fI (t / Int.ofNat g) fun a => frN (m / g) fun c => k (.tuple [.int a, .int (.ofNat c)])) = true := h
    rw [frN_eq, fI_eq, frN_eq] at h
    exact h
theorem mkFr_eq {t b : Int} {k : KF} (h : mkFr t b k = true) : ∃ (s : Int) (n : Nat), mkP s (n + 1) k = true ∧ ((b = Int.ofNat (n + 1) ∧ s = t) ∨ (b = Int.negSucc n ∧ s = 0 - t)) := by
  unfold mkFr at h
  split at h
  · cases h
  · exact ⟨t, _, h, .inl ⟨rfl, rfl⟩⟩
  · rename_i n
    rw [fI_eq] at h
    exact ⟨0 - t, n, h, .inr ⟨rfl, rfl⟩⟩
theorem allB_all {n : Nat} {f : Nat → Bool} (h : allB n f = true) : ∀ c, c < n → f c = true := by
  induction n with
  | zero => intro c hc; exact absurd hc (Nat.not_lt_zero c)
  | succ n ih =>
    intro c hc
    unfold allB at h
    cases e : f n with
    | false => rw [e] at h; cases h
    | true =>
      rw [e] at h
      by_cases hn : c = n
      · rw [hn]; exact e
      · exact ih h c (by omega)
theorem allB_of {n : Nat} {f : Nat → Bool} (h : ∀ c, c < n → f c = true) : allB n f = true := by
  induction n with
  | zero => rfl
  | succ n ih =>
    unfold allB
    rw [h n (Nat.lt_succ_self n)]
    exact ih fun c hc => h c (by omega)
theorem qFr2_eq {f : Int → Int → Int → Int → KF → Bool} {ds : List PyData} {k : KF} (h : qFr2 f ds k = true) : ∃ a b c d, ds = [.tuple [.int a, .int b], .tuple [.int c, .int d]] ∧ f a b c d k = true := by
  unfold qFr2 at h
  split at h
  · exact ⟨_, _, _, _, rfl, h⟩
  · cases h
/-! ### the loop of the greatest common divisor -/
def gcdT : DT := dB (dOp gGt (dVar 1) (dC (.int 0)))
def gcdB : DS := sPar 0 1 (aCons (dVar 1) (aCons (dOp gMod (dCB gInt (aCons (dVar 0) aNil)) (dVar 1)) aNil))
theorem gcd_end (B : DEnds) (n a : Nat) (r : Sls) : goWh gcdT gcdB B (n + 1) (.fz (.int (Int.ofNat a)) :: .fz (.int (Int.ofNat 0)) :: r) = B.nx (.fz (.int (Int.ofNat a)) :: .fz (.int (Int.ofNat 0)) :: r) := rfl
theorem gcd_step (B : DEnds) (n a b : Nat) (r : Sls) (h : logOk (b + 1) = true) : goWh gcdT gcdB B (n + 1) (.fz (.int (Int.ofNat a)) :: .fz (.int (Int.ofNat (b + 1))) :: r) = goWh gcdT gcdB B n (.fz (.int (Int.ofNat (b + 1))) :: .fz (.int (Int.ofNat (a % (b + 1)))) :: r) := by
  have e : decide ((0 : Int) < Int.ofNat (b + 1)) = true := decide_eq_true (Int.ofNat_lt.mpr (Nat.succ_pos b))
  show (match decide ((0 : Int) < Int.ofNat (b + 1)) with
    | true => gcdB { nx := goWh gcdT gcdB B n, rt := B.rt, ct := goWh gcdT gcdB B n, bk := B.nx } _
    | false => B.nx _) = _
  rw [e]
  show (match divOk (Int.ofNat (b + 1)) with
    | true => fI (Int.ofNat a % Int.ofNat (b + 1)) fun z => goWh gcdT gcdB B n (.fz (.int (Int.ofNat (b + 1))) :: .fz (.int z) :: r)
    | false => false) = _
  rw [show divOk (Int.ofNat (b + 1)) = true from h]
  show fI _ _ = _
  rw [fI_eq]
  rfl
theorem log_mono {a b : Nat} (h : a ≤ b) (hb : logOk b = true) : logOk a = true := by
  have h1 : Nat.log2 b ≤ 8999 := Nat.le_of_ble_eq_true hb
  refine Nat.ble_eq_true_of_le (Nat.le_trans ?_ h1)
  by_cases ha : a = 0
  · subst ha; simp
  · have hb0 : b ≠ 0 := by omega
    exact (Nat.le_log2 hb0).mpr (Nat.le_trans (Nat.log2_self_le ha) h)
theorem gcd_loop (B : DEnds) (r : Sls) : ∀ (n fuel a b : Nat), b < 2 ^ n → 2 * n + 1 ≤ fuel → logOk b = true → goWh gcdT gcdB B fuel (.fz (.int (Int.ofNat a)) :: .fz (.int (Int.ofNat b)) :: r) = B.nx (.fz (.int (Int.ofNat (Nat.gcd a b))) :: .fz (.int (Int.ofNat 0)) :: r)
  | 0, fuel, a, b, hb, hf, hl => by
    have e : b = 0 := by simpa using hb
    subst e
    obtain ⟨m, rfl⟩ : ∃ m, fuel = m + 1 := ⟨fuel - 1, by omega⟩
    rw [gcd_end, Nat.gcd_zero_right]
  | n + 1, fuel, a, b, hb, hf, hl => by
    obtain ⟨m, rfl⟩ : ∃ m, fuel = m + 2 := ⟨fuel - 2, by omega⟩
    cases b with
    | zero => rw [gcd_end, Nat.gcd_zero_right]
    | succ b =>
      rw [gcd_step _ _ _ _ _ hl]
      have hr : a % (b + 1) < b + 1 := Nat.mod_lt _ (Nat.succ_pos b)
      have e1 : Nat.gcd a (b + 1) = Nat.gcd (b + 1) (a % (b + 1)) := by
        rw [Nat.gcd_comm a, Nat.gcd_rec, Nat.gcd_comm]
      rw [e1]
      generalize a % (b + 1) = c at hr
      cases c with
      | zero => rw [gcd_end, Nat.gcd_zero_right]
      | succ c =>
        rw [gcd_step _ _ _ _ _ (log_mono (by omega) hl)]
        have e2 : Nat.gcd (b + 1) (c + 1) = Nat.gcd (c + 1) ((b + 1) % (c + 1)) := by
          rw [Nat.gcd_comm (b + 1), Nat.gcd_rec, Nat.gcd_comm]
        rw [e2]
        have hh : (b + 1) % (c + 1) < 2 ^ n := by
          have h2 : (b + 1) % (c + 1) < c + 1 := Nat.mod_lt _ (Nat.succ_pos c)
          have h3 : (b + 1) % (c + 1) + (c + 1) ≤ b + 1 := by
            have h4 := Nat.div_add_mod (b + 1) (c + 1)
            have h5 : 1 ≤ (b + 1) / (c + 1) := (Nat.one_le_div_iff (Nat.succ_pos c)).mpr (by omega)
            have h6 : c + 1 ≤ (c + 1) * ((b + 1) / (c + 1)) := Nat.le_mul_of_pos_right _ h5
            omega
          have h7 : b + 1 < 2 * 2 ^ n := by rw [Nat.pow_succ] at hb; omega
          omega
        exact gcd_loop B r n m (c + 1) ((b + 1) % (c + 1)) hh (by omega) (log_mono (Nat.mod_le _ _) hl)
set_option exponentiation.threshold 10000 in
theorem lt_of_log {b : Nat} (h : logOk b = true) : b < 2 ^ 9000 := by
  have h1 : Nat.log2 b ≤ 8999 := Nat.le_of_ble_eq_true h
  by_cases hb : b = 0
  · subst hb; exact Nat.two_pow_pos _
  · exact (Nat.log2_lt hb).mp (by omega)
theorem le_divisor (n : Nat) (ds : List PyData) (k : KF) (h : qDivisor ds k = true) : mOf n (sSeq (sWh 1000000 gcdT gcdB) (sRet (dVar 0))) ds k = true := by
  unfold qDivisor at h
  split at h
  · rename_i a b
    cases e : logOk b with
    | false => rw [e] at h; cases h
    | true =>
      rw [e] at h
      have h : frN (Nat.gcd a b) (fun g => k (.int (.ofNat g))) = true := h
      rw [frN_eq] at h
      show goWh gcdT gcdB _ 1000000 (.fz (.int (Int.ofNat a)) :: .fz (.int (Int.ofNat b)) :: _) = true
      rw [gcd_loop _ _ 9000 1000000 a b (lt_of_log e) (by decide) e]
      exact h
  · cases h
end Dl

namespace Dl
open PySem PySem.Spec PyProof.Rows L2
/-! ### the bodies of the fractions' defs -/
abbrev x00 : DE := dOp gIx (dVar 0) (dC (.int 0))
abbrev x01 : DE := dOp gIx (dVar 0) (dC (.int 1))
abbrev x10 : DE := dOp gIx (dVar 1) (dC (.int 0))
abbrev x11 : DE := dOp gIx (dVar 1) (dC (.int 1))
def bReduced (dv : Fn) : DS := (sSeq (sIf (dB (dOp gLt (dVar 1) (dC (.int 0)))) (sPar 0 1 (aCons (dOp gSub (dC (.int 0)) (dVar 0)) (aCons (dOp gSub (dC (.int 0)) (dVar 1)) aNil))) sNil)
  (sSeq (sAsg (dCallN 2 dv (aCons (dCB gAbs (aCons (dVar 0) aNil)) (aCons (dVar 1) aNil))) (gN 2))
  (sRet (dTup (aCons (dOp gFdiv (dVar 0) (dVar 2)) (aCons (dOp gFdiv (dVar 1) (dVar 2)) aNil))))))
def bAdd (red : Fn) : DS := sRet (dCallN 2 red (aCons (dOp gAdd (dOp gMul x00 x11) (dOp gMul x10 x01)) (aCons (dOp gMul x01 x11) aNil)))
def bTake (red : Fn) : DS := sRet (dCallN 2 red (aCons (dOp gSub (dOp gMul x00 x11) (dOp gMul x10 x01)) (aCons (dOp gMul x01 x11) aNil)))
def bMul (red : Fn) : DS := sRet (dCallN 2 red (aCons (dOp gMul x00 x10) (aCons (dOp gMul x01 x11) aNil)))
def bDiv (red : Fn) : DS := sRet (dCallN 2 red (aCons (dOp gMul x00 x11) (aCons (dOp gMul x01 x10) aNil)))
def bBelow : DS := sRet (dOp gLt (dOp gMul x00 x11) (dOp gMul x10 x01))
theorem abs_eq (t : Int) : (if t < 0 then -t else t) = Int.ofNat t.natAbs := by
  split
  · rw [Int.ofNat_eq_natCast]; omega
  · rw [Int.ofNat_eq_natCast]; omega
theorem divOk_of {g : Nat} (h : 0 < g) (l : logOk g = true) : divOk (Int.ofNat g) = true := by
  cases g with
  | zero => exact absurd h (Nat.lt_irrefl 0)
  | succ g => exact l
theorem gFdiv_of {i : Int} {g : Nat} (h : 0 < g) (l : logOk g = true) (k : KF) : gFdiv (.int i) (.int (Int.ofNat g)) k = k (.int (i / Int.ofNat g)) := by
  show (match divOk (Int.ofNat g) with
    | true => fI (i / Int.ofNat g) fun z => k (.int z)
    | false => false) = _
  rw [divOk_of h l]
  show fI _ _ = _
  rw [fI_eq]
theorem gMul_of {i j : Int} (h : mulOk i j = true) (k : KF) : gMul (.int i) (.int j) k = k (.int (i * j)) := by
  show (match mulOk i j with
    | true => fI (i * j) fun z => k (.int z)
    | false => false) = _
  rw [h]
  show fI _ _ = _
  rw [fI_eq]
theorem gAdd_of (i j : Int) (k : KF) : gAdd (.int i) (.int j) k = k (.int (i + j)) := fI_eq (i + j) fun z => k (.int z)
theorem gSub_of (i j : Int) (k : KF) : gSub (.int i) (.int j) k = k (.int (i - j)) := fI_eq (i - j) fun z => k (.int z)
theorem qDivisor_of (a b : Nat) (h : logOk b = true) (k : KF) : qDivisor [.int (Int.ofNat a), .int (Int.ofNat b)] k = k (.int (Int.ofNat (Nat.gcd a b))) := by
  show (match logOk b with
    | true => frN (Nat.gcd a b) fun g => k (.int (.ofNat g))
    | false => false) = _
  rw [h]
  show frN _ _ = _
  rw [frN_eq]
def redK (t b : Int) (k : KF) : Bool := qDivisor [.int (if t < 0 then -t else t), .int b] (fun d => gFdiv (.int t) d fun x => gFdiv (.int b) d fun y => k (.tuple [x, y]))
theorem red_tail {t : Int} {m : Nat} {k : KF} (hm : 0 < m) (h : mkP t m k = true) : qDivisor [.int (if t < 0 then -t else t), .int (Int.ofNat m)] (fun d => gFdiv (.int t) d fun x => gFdiv (.int (Int.ofNat m)) d fun y => k (.tuple [x, y])) = true := by
  obtain ⟨h1, h2⟩ := mkP_eq h
  have hg : 0 < Nat.gcd t.natAbs m := Nat.gcd_pos_of_pos_right _ hm
  have hl : logOk (Nat.gcd t.natAbs m) = true := log_mono (Nat.le_of_dvd hm (Nat.gcd_dvd_right _ _)) h1
  rw [abs_eq, qDivisor_of _ _ h1, gFdiv_of hg hl, gFdiv_of hg hl]
  exact h2
theorem le_reduced (ds : List PyData) (k : KF) (h : qReduced ds k = true) : mOf 3 (bReduced qDivisor) ds k = true := by
  unfold qReduced at h
  split at h
  · rename_i t b
    obtain ⟨s, n, h1, h2⟩ := mkFr_eq h
    rcases h2 with ⟨rfl, rfl⟩ | ⟨rfl, rfl⟩
    · have e : decide (Int.ofNat (n + 1) < (0 : Int)) = false := decide_eq_false (by rw [Int.ofNat_eq_natCast]; omega)
      show (match decide (Int.ofNat (n + 1) < (0 : Int)) with
        | true => fI (0 - s) fun z => fI (0 - Int.ofNat (n + 1)) fun y => redK z y k
        | false => redK s (Int.ofNat (n + 1)) k) = true
      rw [e]
      exact red_tail (Nat.succ_pos n) h1
    · have e : decide (Int.negSucc n < (0 : Int)) = true := decide_eq_true (Int.negSucc_lt_zero n)
      show (match decide (Int.negSucc n < (0 : Int)) with
        | true => fI (0 - t) fun z => fI (0 - Int.negSucc n) fun y => redK z y k
        | false => redK t (Int.negSucc n) k) = true
      rw [e]
      show fI (0 - t) (fun z => fI (0 - Int.negSucc n) fun y => redK z y k) = true
      rw [fI_eq, fI_eq]
      have e2 : (0 : Int) - Int.negSucc n = Int.ofNat (n + 1) := by
        rw [Int.ofNat_eq_natCast]; omega
      rw [e2]
      exact red_tail (Nat.succ_pos n) h1
  · cases h
theorem le_add (red : Fn) (ds : List PyData) (k : KF) (h : qAddR red ds k = true) : mOf 2 (bAdd red) ds k = true := by
  obtain ⟨a, b, c, d, rfl, h⟩ := qFr2_eq h
  obtain ⟨m1, h⟩ := mI_eq h
  obtain ⟨m2, h⟩ := mI_eq h
  obtain ⟨m3, h⟩ := mI_eq h
  rw [fI_eq] at h
  show gMul (.int a) (.int d) (fun x => gMul (.int c) (.int b) fun y => gAdd x y fun s => gMul (.int b) (.int d) fun z => red [s, z] k) = true
  rw [gMul_of m1, gMul_of m2, gAdd_of, gMul_of m3]
  exact h
theorem le_take (red : Fn) (ds : List PyData) (k : KF) (h : qTakeR red ds k = true) : mOf 2 (bTake red) ds k = true := by
  obtain ⟨a, b, c, d, rfl, h⟩ := qFr2_eq h
  obtain ⟨m1, h⟩ := mI_eq h
  obtain ⟨m2, h⟩ := mI_eq h
  obtain ⟨m3, h⟩ := mI_eq h
  rw [fI_eq] at h
  show gMul (.int a) (.int d) (fun x => gMul (.int c) (.int b) fun y => gSub x y fun s => gMul (.int b) (.int d) fun z => red [s, z] k) = true
  rw [gMul_of m1, gMul_of m2, gSub_of, gMul_of m3]
  exact h
theorem le_mul (red : Fn) (ds : List PyData) (k : KF) (h : qMulR red ds k = true) : mOf 2 (bMul red) ds k = true := by
  obtain ⟨a, b, c, d, rfl, h⟩ := qFr2_eq h
  obtain ⟨m1, h⟩ := mI_eq h
  obtain ⟨m3, h⟩ := mI_eq h
  show gMul (.int a) (.int c) (fun x => gMul (.int b) (.int d) fun z => red [x, z] k) = true
  rw [gMul_of m1, gMul_of m3]
  exact h
theorem le_div (red : Fn) (ds : List PyData) (k : KF) (h : qDivR red ds k = true) : mOf 2 (bDiv red) ds k = true := by
  obtain ⟨a, b, c, d, rfl, h⟩ := qFr2_eq h
  obtain ⟨m1, h⟩ := mI_eq h
  obtain ⟨m3, h⟩ := mI_eq h
  show gMul (.int a) (.int d) (fun x => gMul (.int b) (.int c) fun z => red [x, z] k) = true
  rw [gMul_of m1, gMul_of m3]
  exact h
theorem le_below (ds : List PyData) (k : KF) (h : qBelow ds k = true) : mOf 2 bBelow ds k = true := by
  obtain ⟨a, b, c, d, rfl, h⟩ := qFr2_eq h
  obtain ⟨m1, h⟩ := mI_eq h
  obtain ⟨m2, h⟩ := mI_eq h
  show gMul (.int a) (.int d) (fun x => gMul (.int c) (.int b) fun y => gLt x y k) = true
  rw [gMul_of m1, gMul_of m2]
  exact h
/-! ### other ways to write it -/
theorem gcd_any {T : DT} {G : DS} {E : Nat → Nat → Sls} {B : DEnds} (hend : ∀ n a, goWh T G B (n + 1) (E a 0) = B.nx (E a 0)) (hstep : ∀ n a b, logOk (b + 1) = true → goWh T G B (n + 1) (E a (b + 1)) = goWh T G B n (E (b + 1) (a % (b + 1)))) :
    ∀ (n fuel a b : Nat), b < 2 ^ n → 2 * n + 1 ≤ fuel → logOk b = true → goWh T G B fuel (E a b) = B.nx (E (Nat.gcd a b) 0)
  | 0, fuel, a, b, hb, hf, hl => by
    have e : b = 0 := by simpa using hb
    subst e
    obtain ⟨m, rfl⟩ : ∃ m, fuel = m + 1 := ⟨fuel - 1, by omega⟩
    rw [hend, Nat.gcd_zero_right]
  | n + 1, fuel, a, b, hb, hf, hl => by
    obtain ⟨m, rfl⟩ : ∃ m, fuel = m + 2 := ⟨fuel - 2, by omega⟩
    cases b with
    | zero => rw [hend, Nat.gcd_zero_right]
    | succ b =>
      rw [hstep _ _ _ hl]
      have hr : a % (b + 1) < b + 1 := Nat.mod_lt _ (Nat.succ_pos b)
      have e1 : Nat.gcd a (b + 1) = Nat.gcd (b + 1) (a % (b + 1)) := by
        rw [Nat.gcd_comm a, Nat.gcd_rec, Nat.gcd_comm]
      rw [e1]
      generalize a % (b + 1) = c at hr
      cases c with
      | zero => rw [hend, Nat.gcd_zero_right]
      | succ c =>
        rw [hstep _ _ _ (log_mono (by omega) hl)]
        have e2 : Nat.gcd (b + 1) (c + 1) = Nat.gcd (c + 1) ((b + 1) % (c + 1)) := by
          rw [Nat.gcd_comm (b + 1), Nat.gcd_rec, Nat.gcd_comm]
        rw [e2]
        have hh : (b + 1) % (c + 1) < 2 ^ n := by
          have h2 : (b + 1) % (c + 1) < c + 1 := Nat.mod_lt _ (Nat.succ_pos c)
          have h3 : (b + 1) % (c + 1) + (c + 1) ≤ b + 1 := by
            have h4 := Nat.div_add_mod (b + 1) (c + 1)
            have h5 : 1 ≤ (b + 1) / (c + 1) := (Nat.one_le_div_iff (Nat.succ_pos c)).mpr (by omega)
            have h6 : c + 1 ≤ (c + 1) * ((b + 1) / (c + 1)) := Nat.le_mul_of_pos_right _ h5
            omega
          have h7 : b + 1 < 2 * 2 ^ n := by rw [Nat.pow_succ] at hb; omega
          omega
        exact gcd_any hend hstep n m (c + 1) ((b + 1) % (c + 1)) hh (by omega) (log_mono (Nat.mod_le _ _) hl)
/-! by a sign and a loop of its own -/
def qPlain : Fn := fun ds k => match ds with
  | [.int t, .int b] => (match Nat.ble (Nat.log2 t.natAbs) 900000 with
    | true => mkFr t b k
    | false => false)
  | _ => false
def plainT : DT := dB (dOp gNe (dVar 3) (dC (.int 0)))
def plainB : DS := sPar 2 3 (aCons (dVar 3) (aCons (dOp gMod (dCB gInt (aCons (dVar 2) aNil)) (dVar 3)) aNil))
def bPlain : DS := (sSeq (sPar 2 3 (aCons (dCB gAbs (aCons (dVar 0) aNil)) (aCons (dCB gAbs (aCons (dVar 1) aNil)) aNil)))
  (sSeq (sWh 1000000 plainT plainB)
  (sSeq (sAsg (dIf (dB (dOp gGt (dVar 1) (dC (.int 0)))) (dC (.int 1)) (dUn gNeg (dC (.int 1)))) (gN 4))
  (sRet (dTup (aCons (dOp gFdiv (dOp gMul (dVar 4) (dVar 0)) (dVar 2)) (aCons (dOp gFdiv (dOp gMul (dVar 4) (dVar 1)) (dVar 2)) aNil)))))))
theorem gMod_of {i : Int} {g : Nat} (h : 0 < g) (l : logOk g = true) (k : KF) : gMod (.int i) (.int (Int.ofNat g)) k = k (.int (i % Int.ofNat g)) := by
  show (match divOk (Int.ofNat g) with
    | true => fI (i % Int.ofNat g) fun z => k (.int z)
    | false => false) = _
  rw [divOk_of h l]
  show fI _ _ = _
  rw [fI_eq]
theorem plain_loop (t b : PyData) (B : DEnds) (fuel a c : Nat) (hf : 18001 ≤ fuel) (hl : logOk c = true) :
    goWh plainT plainB B fuel [.fz t, .fz b, .fz (.int (Int.ofNat a)), .fz (.int (Int.ofNat c)), .no] = B.nx [.fz t, .fz b, .fz (.int (Int.ofNat (Nat.gcd a c))), .fz (.int (Int.ofNat 0)), .no] := by
  refine gcd_any (T := plainT) (G := plainB) (B := B) (E := fun a c => [.fz t, .fz b, .fz (.int (Int.ofNat a)), .fz (.int (Int.ofNat c)), .no]) (fun n a => rfl) (fun n a c h => ?_) 9000 fuel a c (lt_of_log hl) hf hl
  show gMod (.int (Int.ofNat a)) (.int (Int.ofNat (c + 1))) (fun z => goWh plainT plainB B n [.fz t, .fz b, .fz (.int (Int.ofNat (c + 1))), .fz z, .no]) = _
  rw [gMod_of (Nat.succ_pos c) h]
  rfl
def plainK (s t b : Int) (g : PyData) (k : KF) : Bool := gMul (.int s) (.int t) fun x => gFdiv x g fun x => gMul (.int s) (.int b) fun y => gFdiv y g fun y => k (.tuple [x, y])
theorem le_plain (ds : List PyData) (k : KF) (h : qPlain ds k = true) : mOf 5 bPlain ds k = true := by
  unfold qPlain at h
  split at h
  · rename_i t b
    cases e0 : Nat.ble (Nat.log2 t.natAbs) 900000 with
    | false => rw [e0] at h; cases h
    | true =>
      rw [e0] at h
      have l0 : Nat.log2 t.natAbs ≤ 900000 := Nat.le_of_ble_eq_true e0
      obtain ⟨s, n, h1, h2⟩ := mkFr_eq h
      obtain ⟨h3, h4⟩ := mkP_eq h1
      have l3 : Nat.log2 (n + 1) ≤ 8999 := Nat.le_of_ble_eq_true h3
      have eb : (if b < 0 then -b else b) = Int.ofNat (n + 1) := by
        rcases h2 with ⟨rfl, rfl⟩ | ⟨rfl, rfl⟩
        · rw [if_neg (by rw [Int.ofNat_eq_natCast]; omega)]
        · rw [if_pos (Int.negSucc_lt_zero n)]; rfl
      show goWh plainT plainB _ 1000000 [.fz (.int t), .fz (.int b), .fz (.int (if t < 0 then -t else t)), .fz (.int (if b < 0 then -b else b)), .no] = true
      rw [eb, abs_eq, plain_loop _ _ _ _ _ _ (by decide) h3]
      show (match decide ((0 : Int) < b) with
        | true => plainK 1 t b (.int (Int.ofNat (Nat.gcd t.natAbs (n + 1)))) k
        | false => plainK (-1) t b (.int (Int.ofNat (Nat.gcd t.natAbs (n + 1)))) k) = true
      have es : s.natAbs = t.natAbs := by
        rcases h2 with ⟨_, rfl⟩ | ⟨_, rfl⟩
        · rfl
        · omega
      rw [es] at h4
      have hg : 0 < Nat.gcd t.natAbs (n + 1) := Nat.gcd_pos_of_pos_right _ (Nat.succ_pos n)
      have hl : logOk (Nat.gcd t.natAbs (n + 1)) = true := log_mono (Nat.le_of_dvd (Nat.succ_pos n) (Nat.gcd_dvd_right _ _)) h3
      rcases h2 with ⟨rfl, rfl⟩ | ⟨rfl, rfl⟩
      · rw [decide_eq_true (show (0 : Int) < Int.ofNat (n + 1) by rw [Int.ofNat_eq_natCast]; omega)]
        have m1 : mulOk 1 s = true := Nat.ble_eq_true_of_le (by show Nat.log2 1 + Nat.log2 s.natAbs ≤ 999999; rw [show Nat.log2 1 = 0 by decide]; omega)
        have m2 : mulOk 1 (Int.ofNat (n + 1)) = true := Nat.ble_eq_true_of_le (by show Nat.log2 1 + Nat.log2 (n + 1) ≤ 999999; rw [show Nat.log2 1 = 0 by decide]; omega)
        show plainK 1 s (Int.ofNat (n + 1)) (.int (Int.ofNat (Nat.gcd s.natAbs (n + 1)))) k = true
        unfold plainK
        rw [gMul_of m1, gFdiv_of hg hl, gMul_of m2, gFdiv_of hg hl, Int.one_mul, Int.one_mul]
        exact h4
      · rw [decide_eq_false (show ¬ (0 : Int) < Int.negSucc n by have := Int.negSucc_lt_zero n; omega)]
        have m1 : mulOk (-1) t = true := Nat.ble_eq_true_of_le (by show Nat.log2 1 + Nat.log2 t.natAbs ≤ 999999; rw [show Nat.log2 1 = 0 by decide]; omega)
        have m2 : mulOk (-1) (Int.negSucc n) = true := Nat.ble_eq_true_of_le (by show Nat.log2 1 + Nat.log2 (n + 1) ≤ 999999; rw [show Nat.log2 1 = 0 by decide]; omega)
        show plainK (-1) t (Int.negSucc n) (.int (Int.ofNat (Nat.gcd t.natAbs (n + 1)))) k = true
        unfold plainK
        rw [gMul_of m1, gFdiv_of hg hl, gMul_of m2, gFdiv_of hg hl]
        rw [show (-1 : Int) * t = 0 - t by omega, show (-1 : Int) * Int.negSucc n = Int.ofNat (n + 1) by rw [Int.ofNat_eq_natCast]; omega]
        exact h4
  · cases h
end Dl

namespace Dl
open PySem PySem.Spec PyProof.Rows L2
/-! ### a draw ahead, case by case -/
abbrev BT : DEnds := { nx := fun _ => isT .none, rt := isT, bk := fun _ => false, ct := fun _ => false }
theorem draw_asg {d e : Int} {n m i j : Nat} {rest : DS} {B : DEnds} {env : Sls} (hp : look env j = .pt) (hm : Nat.ble m 1000000000 = true) (he : e = Int.ofNat (m + 1)) (h : ∀ c, c < m + 1 → rest B (env.set i (.fz (.int (d + Int.ofNat c)))) = true) :
    sSeq (sAsg (dOp gAdd (dC (.int d)) (dCallN 2 mDraw (aPot j (aCons (dC (.int e)) aNil)))) (gN i)) rest B env = true := by
  subst he
  show (match look env j with
    | .pt => (match Nat.ble m 1000000000 with
      | true => allB (m + 1) fun c => fI (d + Int.ofNat c) fun z => rest B (env.set i (.fz (.int z)))
      | false => false)
    | _ => false) = true
  rw [hp]
  show (match Nat.ble m 1000000000 with
      | true => allB (m + 1) fun c => fI (d + Int.ofNat c) fun z => rest B (env.set i (.fz (.int z)))
      | false => false) = true
  rw [hm]
  refine allB_of fun c hc => ?_
  rw [fI_eq]
  exact h c hc
/-- a fraction drawn -/
theorem draw_fr {pl : Fn} {b d e : Int} {m i l j : Nat} {rest : DS} {B : DEnds} {env : Sls} (hp : look env j = .pt) (hi : look env i = .fz (.int b)) (hm : Nat.ble m 1000000000 = true) (hb : b - e = Int.ofNat (m + 1)) (h : ∀ c, c < m + 1 → pl [.int (d + Int.ofNat c), .int b] (fun v => rest B (env.set l (.fz v))) = true) :
    sSeq (sAsg (dCallN 2 pl (aCons (dOp gAdd (dC (.int d)) (dCallN 2 mDraw (aPot j (aCons (dOp gSub (dVar i) (dC (.int e))) aNil)))) (aCons (dVar i) aNil))) (gN l)) rest B env = true := by
  show (match look env j with
    | .pt => (match look env i with
      | .fz x => gSub x (.int e) fun x => mDraw [.dict [], x] fun y => gAdd (.int d) y fun z => (match look env i with
        | .fz x => pl [z, x] fun v => rest B (env.set l (.fz v))
        | _ => false)
      | _ => false)
    | _ => false) = true
  rw [hp]
  simp only [hi]
  show (fI (b - e) fun z => mDraw [.dict [], .int z] fun y => gAdd (.int d) y fun z => pl [z, .int b] fun v => rest B (env.set l (.fz v))) = true
  rw [fI_eq, hb]
  show (match Nat.ble m 1000000000 with
      | true => allB (m + 1) fun c => fI (d + Int.ofNat c) fun z => pl [.int z, .int b] fun v => rest B (env.set l (.fz v))
      | false => false) = true
  rw [hm]
  refine allB_of fun c hc => ?_
  rw [fI_eq]
  exact h c hc
/-- two draws ahead -/
theorem draw_par {d e e2 : Int} {m m2 i l j : Nat} {rest : DS} {B : DEnds} {env : Sls} (hp : look env j = .pt) (hm : Nat.ble m 1000000000 = true) (hm2 : Nat.ble m2 1000000000 = true) (he : e = Int.ofNat (m + 1)) (he2 : e2 = Int.ofNat (m2 + 1))
    (h : ∀ c, c < m + 1 → ∀ c2, c2 < m2 + 1 → rest B ((env.set i (.fz (.int (d + Int.ofNat c)))).set l (.fz (.int (Int.ofNat c2)))) = true) :
    sSeq (sPar i l (aCons (dOp gAdd (dC (.int d)) (dCallN 2 mDraw (aPot j (aCons (dC (.int e)) aNil)))) (aCons (dCallN 2 mDraw (aPot j (aCons (dC (.int e2)) aNil))) aNil))) rest B env = true := by
  subst he he2
  show (match look env j with
    | .pt => (match Nat.ble m 1000000000 with
      | true => allB (m + 1) fun c => fI (d + Int.ofNat c) fun z => (match look env j with
        | .pt => (match Nat.ble m2 1000000000 with
          | true => allB (m2 + 1) fun c2 => rest B ((env.set i (.fz (.int z))).set l (.fz (.int (Int.ofNat c2))))
          | false => false)
        | _ => false)
      | false => false)
    | _ => false) = true
  rw [hp]
  simp only [hm, hm2]
  refine allB_of fun c hc => ?_
  rw [fI_eq]
  exact allB_of fun c2 hc2 => h c hc c2 hc2
end Dl

namespace Dl
open PySem PySem.Spec PyProof.Rows L2
/-! ### the chances of a sum of two -/
def pIn (ad mu : Fn) (x : PyData) : List PyData → List PyData → (List PyData → Bool) → Bool
  | [], fs, k => k fs
  | y :: ys, f :: fs, k => mu [x, y] fun p => ad [f, p] fun z => match noList z with
    | true => pIn ad mu x ys fs fun r => k (z :: r)
    | false => false
  | _ :: _, [], _ => false
def pOut (ad mu : Fn) (ys : List PyData) : List PyData → List PyData → (List PyData → Bool) → Bool
  | [], fs, k => k fs
  | x :: xs, fs, k => pIn ad mu x ys fs fun r => match r with
    | h :: t => pOut ad mu ys xs t fun t => k (h :: t)
    | [] => pOut ad mu ys xs [] k
def prI (ad mu : Fn) : DS := sSetIx 2 (dOp gAdd (dVar 3) (dVar 5)) (dBor [2] (dCallN 2 ad (aCons (dOp gIx (dVar 2) (dOp gAdd (dVar 3) (dVar 5))) (aCons (dCallN 2 mu (aCons (dVar 4) (aCons (dVar 6) aNil))) aNil))))
def prG : DG := gT 2 (gsCons (gN 5) (gsCons (gN 6) gsNil))
def prG0 : DG := gT 2 (gsCons (gN 3) (gsCons (gN 4) gsNil))
def prO (ad mu : Fn) : DS := sFor (iEnumD (dVar 1)) prG (prI ad mu)
def prRest (ad mu : Fn) : DS := sSeq (sFor (iEnumD (dVar 0)) prG0 (prO ad mu)) (sFrz 2 (sRet (dVar 2)))
def prFirst (nt : PyData) : DF := fRep (dLst (aCons (dC nt) aNil)) (dOp gSub (dOp gAdd (dCB gLen (aCons (dVar 0) aNil)) (dCB gLen (aCons (dVar 1) aNil))) (dC (.int 1)))
def bProd (ad mu : Fn) (nt : PyData) : DS := sSeq (sOwn 2 (prFirst nt)) (prRest ad mu)
def prTail (ad mu : Fn) (xs ys : List PyData) : DS := fun B env => match env with
  | [_, _, .ow fd, _, _, _, _] => pOut ad mu ys xs fd fun r => B.rt (.list r)
  | _ => false
def qProd (ad mu : Fn) (nt : PyData) : Fn := fun ds k => match ds with
  | [.list xs, .list ys] => mOf 7 (sSeq (sOwn 2 (prFirst nt)) (prTail ad mu xs ys)) [.list xs, .list ys] k
  | _ => false
abbrev e7 (x y fd a n p q : Sl) : Sls := [x, y, fd, a, n, p, q]
theorem ixN_lt {n m : Nat} (h : n < m) : ixN m (Int.ofNat n) = some n := by
  have h1 : (0 : Int) ≤ Int.ofNat n := Int.ofNat_nonneg n
  have h2 : Int.ofNat n < (m : Int) := Int.ofNat_lt.mpr h
  unfold ixN
  rw [if_pos h1, if_pos h2]
  rfl
theorem ixN_ge {n m : Nat} (h : m ≤ n) : ixN m (Int.ofNat n) = none := by
  have h1 : (0 : Int) ≤ Int.ofNat n := Int.ofNat_nonneg n
  have h2 : ¬ (Int.ofNat n < (m : Int)) := fun z => by
    have := Int.ofNat_lt.mp z
    omega
  unfold ixN
  rw [if_pos h1, if_neg h2]
section
variable {ad mu : Fn} {X Y : Sl}
theorem in_step (B : DEnds) (fd : List PyData) (a j : Nat) (n y : PyData) : prI ad mu B (e7 X Y (.ow fd) (.fz (.int (a : Int))) (.fz n) (.fz (.int (j : Int))) (.fz y)) =
    (match atI fd (Int.ofNat (a + j)) with
      | some f => mu [n, y] fun p => ad [f, p] fun z => (match noList z with
        | true => (match ixN fd.length (Int.ofNat (a + j)) with
          | some i => B.nx (e7 X Y (.ow (fd.set i z)) (.fz (.int (a : Int))) (.fz n) (.fz (.int (j : Int))) (.fz y))
          | none => false)
        | false => false)
      | none => false) := by
  have hf : ∀ k : Int → Bool, fI ((a : Int) + (j : Int)) k = k (Int.ofNat (a + j)) := fun k => by
    rw [fI_eq]
    rfl
  show (fI ((a : Int) + (j : Int)) fun i => (match atI fd i with
      | some f => mu [n, y] fun p => ad [f, p] fun z => (match noList z with
        | true => fI ((a : Int) + (j : Int)) fun i => (match ixN fd.length i with
          | some i => B.nx (e7 X Y (.ow (fd.set i z)) (.fz (.int (a : Int))) (.fz n) (.fz (.int (j : Int))) (.fz y))
          | none => false)
        | false => false)
      | none => false)) = _
  rw [hf]
  simp only [hf]
theorem in_eq (K : List PyData → Bool) (a : Nat) (n : PyData) (B : DEnds) (hB : ∀ fd p q, B.nx (e7 X Y (.ow fd) (.fz (.int (a : Int))) (.fz n) p q) = K fd) :
    ∀ (ys : List PyData) (j : Nat) (pre fs : List PyData) (p q : Sl), (pre.length = a + j ∨ (fs = [] ∧ pre.length ≤ a + j)) →
      goFor prG (prI ad mu) B (enumD j ys) (e7 X Y (.ow (pre ++ fs)) (.fz (.int (a : Int))) (.fz n) p q) = pIn ad mu n ys fs fun r => K (pre ++ r)
  | [], j, pre, fs, p, q, _ => hB _ _ _
  | y :: ys, j, pre, fs, p, q, h => by
    show prI ad mu { nx := goFor prG (prI ad mu) B (enumD (j + 1) ys), rt := B.rt, ct := goFor prG (prI ad mu) B (enumD (j + 1) ys), bk := B.nx } (e7 X Y (.ow (pre ++ fs)) (.fz (.int (a : Int))) (.fz n) (.fz (.int (j : Int))) (.fz y)) = _
    rw [in_step]
    cases fs with
    | nil =>
      have hl : (pre ++ ([] : List PyData)).length ≤ a + j := by
        rw [List.append_nil]
        rcases h with h | ⟨_, h⟩ <;> omega
      have e : atI (pre ++ []) (Int.ofNat (a + j)) = none := by
        unfold atI
        rw [ixN_ge hl]
        rfl
      rw [e]
      rfl
    | cons f fs =>
      have hp : pre.length = a + j := h.elim id fun z => nomatch z.1
      have hl : a + j < (pre ++ f :: fs).length := by rw [List.length_append, List.length_cons]; omega
      have hg : (pre ++ f :: fs)[a + j]? = some f := by
        rw [← hp, List.getElem?_append_right (Nat.le_refl _), Nat.sub_self]
        rfl
      have e : atI (pre ++ f :: fs) (Int.ofNat (a + j)) = some f := by
        unfold atI
        rw [ixN_lt hl]
        exact hg
      have hs : ∀ z, (pre ++ f :: fs).set (a + j) z = (pre ++ [z]) ++ fs := fun z => by
        rw [← hp, List.set_append_right _ _ (Nat.le_refl _), Nat.sub_self, List.append_assoc]
        rfl
      rw [e, ixN_lt hl]
      show (mu [n, y] fun p => ad [f, p] fun z => _) = (mu [n, y] fun p => ad [f, p] fun z => _)
      congr 1
      funext p
      congr 1
      funext z
      cases noList z with
      | false => rfl
      | true =>
        show goFor prG (prI ad mu) B (enumD (j + 1) ys) (e7 X Y (.ow ((pre ++ f :: fs).set (a + j) z)) (.fz (.int (a : Int))) (.fz n) (.fz (.int (j : Int))) (.fz y)) = _
        rw [hs, in_eq K a n B hB ys (j + 1) (pre ++ [z]) fs _ _ (.inl (by rw [List.length_append, hp]; rfl))]
        congr 1
        funext r
        rw [List.append_assoc]
        rfl
theorem out_eq (ys : List PyData) (K : List PyData → Bool) (B : DEnds) (hB : ∀ fd a n p q, B.nx (e7 X (.fz (.list ys)) (.ow fd) a n p q) = K fd) :
    ∀ (xs : List PyData) (a : Nat) (pre fs : List PyData) (s n p q : Sl), (pre.length = a ∨ (fs = [] ∧ pre.length ≤ a)) →
      goFor prG0 (prO ad mu) B (enumD a xs) (e7 X (.fz (.list ys)) (.ow (pre ++ fs)) s n p q) = pOut ad mu ys xs fs fun r => K (pre ++ r)
  | [], a, pre, fs, s, n, p, q, _ => hB _ _ _ _ _
  | x :: xs, a, pre, fs, s, n, p, q, h => by
    show goFor prG (prI ad mu) { nx := goFor prG0 (prO ad mu) B (enumD (a + 1) xs), rt := B.rt, ct := goFor prG0 (prO ad mu) B (enumD (a + 1) xs), bk := B.nx } (enumD 0 ys) (e7 X (.fz (.list ys)) (.ow (pre ++ fs)) (.fz (.int (a : Int))) (.fz x) p q) = _
    have main : ∀ (fd : List PyData) (p q : Sl), goFor prG0 (prO ad mu) B (enumD (a + 1) xs) (e7 X (.fz (.list ys)) (.ow fd) (.fz (.int (a : Int))) (.fz x) p q) = (if a ≤ fd.length then (match fd.drop a with
        | h :: t => pOut ad mu ys xs t fun t => K (fd.take a ++ h :: t)
        | [] => pOut ad mu ys xs [] fun t => K (fd.take a ++ t)) else pOut ad mu ys xs [] fun t => K (fd ++ t)) := fun fd p q => by
      by_cases hl : a ≤ fd.length
      · rw [if_pos hl]
        cases e : fd.drop a with
        | nil =>
          have e2 : fd = fd.take a := by
            have := List.take_append_drop a fd
            rw [e, List.append_nil] at this
            exact this.symm
          have e3 : fd = fd.take a ++ [] := by rw [List.append_nil]; exact e2
          conv => lhs; rw [e3]
          exact out_eq ys K B hB xs (a + 1) (fd.take a) [] _ _ _ _ (.inr ⟨rfl, by rw [List.length_take]; omega⟩)
        | cons h t =>
          have e2 : fd = (fd.take a ++ [h]) ++ t := by
            have := List.take_append_drop a fd
            rw [e] at this
            rw [List.append_assoc]
            exact this.symm
          conv => lhs; rw [e2]
          rw [out_eq ys K B hB xs (a + 1) (fd.take a ++ [h]) t _ _ _ _ (.inl (by rw [List.length_append, List.length_take]; simp; omega))]
          congr 1
          funext t
          rw [List.append_assoc]
          rfl
      · rw [if_neg hl]
        have e3 : fd = fd ++ [] := by rw [List.append_nil]
        conv => lhs; rw [e3]
        exact out_eq ys K B hB xs (a + 1) fd [] _ _ _ _ (.inr ⟨rfl, by omega⟩)
    rcases h with h | ⟨rfl, h⟩
    · rw [in_eq (fun fd => if a ≤ fd.length then (match fd.drop a with
        | h :: t => pOut ad mu ys xs t fun t => K (fd.take a ++ h :: t)
        | [] => pOut ad mu ys xs [] fun t => K (fd.take a ++ t)) else pOut ad mu ys xs [] fun t => K (fd ++ t)) a x _ main ys 0 pre fs p q (.inl h)]
      show _ = pIn ad mu x ys fs fun r => _
      congr 1
      funext r
      have e1 : (pre ++ r).drop a = r := by rw [← h]; simp
      have e2 : (pre ++ r).take a = pre := by rw [← h]; simp
      rw [if_pos (by rw [List.length_append]; omega), e1, e2]
    · cases ys with
      | nil => exact out_eq [] K B hB xs (a + 1) pre [] _ _ _ _ (.inr ⟨rfl, by omega⟩)
      | cons y ys =>
        rw [in_eq (fun fd => if a ≤ fd.length then (match fd.drop a with
          | h :: t => pOut ad mu (y :: ys) xs t fun t => K (fd.take a ++ h :: t)
          | [] => pOut ad mu (y :: ys) xs [] fun t => K (fd.take a ++ t)) else pOut ad mu (y :: ys) xs [] fun t => K (fd ++ t)) a x _ main (y :: ys) 0 pre [] p q (.inr ⟨rfl, h⟩)]
        rfl
theorem rest_eq (xs ys : List PyData) (fd : List PyData) (B : DEnds) (a n p q : Sl) : prRest ad mu B (e7 (.fz (.list xs)) (.fz (.list ys)) (.ow fd) a n p q) = prTail ad mu xs ys B (e7 (.fz (.list xs)) (.fz (.list ys)) (.ow fd) a n p q) := by
  show goFor prG0 (prO ad mu) { B with nx := sFrz 2 (sRet (dVar 2)) B } (enumD 0 xs) (e7 (.fz (.list xs)) (.fz (.list ys)) (.ow ([] ++ fd)) a n p q) = _
  exact out_eq ys (fun r => B.rt (.list r)) _ (fun fd a n p q => rfl) xs 0 [] fd a n p q (.inl rfl)
end
theorem le_prod (ad mu : Fn) (nt : PyData) (ds : List PyData) (k : KF) (h : qProd ad mu nt ds k = true) : mOf 7 (bProd ad mu nt) ds k = true := by
  unfold qProd at h
  split at h
  · rename_i xs ys
    have e : ∀ B : DEnds, (fun fd => prRest ad mu B ((startE 7 [.list xs, .list ys]).set 2 (.ow fd))) = (fun fd => prTail ad mu xs ys B ((startE 7 [.list xs, .list ys]).set 2 (.ow fd))) := fun B => funext fun fd => rest_eq xs ys fd B _ _ _ _
    exact (congrArg (fun g => prFirst nt (startE 7 [.list xs, .list ys]) g) (e { nx := fun _ => k .none, rt := k, bk := fun _ => false, ct := fun _ => false })).trans h
  · cases h
end Dl

namespace Dl
open PySem PySem.Spec PyProof.Rows L2
/-! ### the pot, the end -/
theorem stp_pot {pp : Addr} {F H F1 H1 : Hp} {a b : Int} (B : Bs pp F H) (s : Stp pp F H F1 H1) (ha : 0 ≤ a) (hb : 0 ≤ b) (hc : b < 4294967296) : Stp pp F H F1 (upd H1 pp (.lst [.int a, .int b])) := by
  have f1 := (Stp.bs B s).fp
  refine ⟨s.ff, fun c u h => ?_, fun c u hc h => ?_, s.nf, ⟨a, b, upd_same, ha, hb, hc⟩⟩
  · rw [upd_ne (ne_of_none h f1)]; exact s.fh c u h
  · rw [upd_ne hc]; exact s.fr c u hc h
theorem allB_get : ∀ {n : Nat} {f : Nat → Bool} {c : Nat}, Dl.allB n f = true → c < n → f c = true
  | 0, _, _, _, h => absurd h (Nat.not_lt_zero _)
  | n + 1, f, c, e, h => by
    unfold Dl.allB at e
    cases q : f n with
    | false => rw [q] at e; cases e
    | true =>
      rw [q] at e
      by_cases hc : c = n
      · rw [hc]; exact q
      · exact allB_get e (by omega)
def mTrue : Fn := fun ds k => match ds with
  | [.dict _] => k (.bool true)
  | _ => false
theorem isT_eq {d : PyData} (h : isT d = true) : d = .bool true := by
  cases d with
  | bool b =>
    cases b with
    | true => rfl
    | false => cases h
  | _ => cases h
theorem Has.always {P : Program} {w : World} {K : PySem.W.Frag} {mg : Str → Option Value} {base : Heap} {l : Nat} {x : Str} {ps : List Str} {m : Fn} (h : Has P w K mg base l x ps m) (e : m [.dict []] isT = true) : Has P w K mg base l x ps mTrue := by
  obtain ⟨f, fd, F, a, b, c, d⟩ := h
  refine ⟨f, fd, F.imp fun vs H Q E ⟨hl, pp, F0, ds, k, B, r, hm, q⟩ => ?_, a, b, c, d⟩
  unfold mTrue at hm
  split at hm
  case h_2 => cases hm
  rename_i l
  cases r with
  | cons r1 r =>
    cases r
    rcases r1 with r1 | ⟨r1, _⟩
    · cases r1
    · cases r1
      exact ⟨hl, pp, F0, _, isT, B, .cons (.inr ⟨rfl, by assumption⟩) .nil, e, fun d v F' H' s z hd => q d v F' H' s z (by rw [isT_eq hd]; exact hm)⟩
/-- a reading for each world -/
theorem se_all {X : Cx} {e : Expr} {d : DE} (h : ∀ W, SE W X e d) : ∃ t, PE X e t ∧ ∀ W, OkE X.K W t d := by
  have h2 : ∀ W, ∃ t, PE X e t ∧ OkE X.K W t d := fun W => (h W).ex
  refine ⟨fun σ H Q => ∃ W, Classical.choose (h2 W) σ H Q, ⟨fun pins s σ H Q I ⟨W, hw⟩ => (Classical.choose_spec (h2 W)).1.run pins s σ H Q I hw⟩, fun W env σ F H k Q R hd q => ⟨W, (Classical.choose_spec (h2 W)).2 env σ F H k Q R hd q⟩⟩
theorem bs_new {H : Hp} {p : Addr} {x y : Int} (hx : 0 ≤ x) (hy : 0 ≤ y) (hy2 : y < 4294967296) : Bs p (fun _ => none) (upd H p (.lst [.int x, .int y])) :=
  ⟨(fun _ _ h => nomatch h), rfl, ⟨x, y, upd_same, hx, hy, hy2⟩⟩
/-- what the pot's def does -/
def spPot (K : PySem.W.Frag) : Sp := fun vs H Q _ => ∃ (a : Addr) (ns : List Int) (k : Int), vs = [.ref a, .int k] ∧ SqL K H a (ns.map V.int) ∧ 0 ≤ k ∧ k < 100 ∧ ∀ p x y, H p = none → 0 ≤ x → 0 ≤ y → y < 4294967296 → Q (.ref p) (upd H p (.lst [.int x, .int y]))
def spLaw (K : PySem.W.Frag) : Sp := fun vs H Q _ => ∃ (a : Addr) (ns : List Int), vs = [.ref a] ∧ SqL K H a (ns.map V.int) ∧ ∀ H', Q (.bl true) H'
end Dl

namespace Dl
open PySem PySem.Spec PyProof.Rows L2
/-! ### the head's Hook, with one more test of the written part -/
def obsE (n : Nat) (fa : List He.Fa) (fn : List He.DefD) (ex : PySem.W.Frag → Bool) (g : Addr → Option Obj) : He.AlD × Bool := (He.obsDG n fa fn g, ex (He.frG g (He.asD g n)))
def SaysE (fa : List He.Fa) (fn : List He.DefD) (ex : PySem.W.Frag → Bool) (K : PySem.W.Frag) : Prop := He.SaysD fa fn K ∧ ex K = true
def hookE (n : Nat) (fa : List He.Fa) (fn : List He.DefD) (ex : PySem.W.Frag → Bool) : PySem.W.Hook where
  α := He.AlD × Bool
  obs := fun s => obsE n fa fn ex s.heap.get?
  val := fun _ => (He.valD fn, true)
  says := fun _ h => ∃ K : PySem.W.Frag, K.In h ∧ SaysE fa fn ex K
  of := fun _ _ e => ⟨_, He.frG_in, congrArg (fun z : He.AlD × Bool => z.1) e, congrArg (fun z : He.AlD × Bool => z.2) e⟩
  keeps := fun _ _ _ ⟨K, hK, c⟩ k => ⟨K, PySem.W.Frag.In.keeps hK k, c⟩
theorem obsE_eq {n : Nat} {fa : List He.Fa} {fn : List He.DefD} {ex : PySem.W.Frag → Bool} {g : Addr → Option Obj} {s : Shared} (h : ∀ a, g a = s.heap.get? a) : obsE n fa fn ex g = (hookE n fa fn ex).obs s := by
  have e : g = s.heap.get? := funext h
  rw [e] <;> rfl
theorem saysD_fact {fa : List He.Fa} {fn : List He.DefD} {K : PySem.W.Frag} (c : He.SaysD fa fn K) {f : He.Fa} (h : f ∈ fa) : f.ok K = true := by
  obtain ⟨i, hi, e⟩ := List.mem_iff_getElem.mp h
  exact c.fact i (f := f) (by rw [List.getElem?_eq_getElem hi, e])
def tupI (K : PySem.W.Frag) (x : Str) (is : List Int) : Bool := He.tupB K x (is.map He.Dv.int)
section
variable {K : PySem.W.Frag} {h : Heap} {mg : Str → Option Value}
theorem glo_int (X : K.In h) (G : h.Ns mainGlobals mg) {x : Str} {i : Int} (c : (He.Fa.int x i).ok K = true) : Glo K mg x (.int i) := by
  obtain ⟨t, e⟩ := He.int_ok X G c
  exact ⟨_, .int i, e, ⟨t, rfl⟩, fun F => .int i⟩
theorem glo_tup (X : K.In h) (G : h.Ns mainGlobals mg) {x : Str} {is : List Int} (c : (He.Fa.glo x).ok K = true) (t : tupI K x is = true) : Glo K mg x (.tuple (is.map PyData.int)) := by
  refine ⟨_, .ref (He.ga K x), He.glo_ok X G c, rfl, fun F => ?_⟩
  have z := He.tupB_ok t (fun _ => none)
  have e : (is.map He.Dv.int).map (He.Dv.v K) = is.map V.int := by rw [List.map_map]; rfl
  rw [e] at z
  rcases z with z | z
  · rcases z with z | ⟨o, z⟩
    · cases z
    · cases z
  · exact .ktup z (RpAll.of_ints is)
end
end Dl

namespace Kp
open PySem PySem.Spec PyProof.Rows L2 Dl
def top (i : Nat) : Stmt := PySem.Challenge.pw_betsalong_k87_whole_known_families.main.body.getD i (.Pass ⟨0, 0, 0, 0⟩)
def blt : List Str := ["len", "range", "int", "abs", "list", "tuple", "isinstance", "bool", "str", "sum", "all", "any", "min", "max", "enumerate", "zip", "sorted", "divmod", "repr", "dict", "set", "reversed"]
def c_MOST_DIGITS : PyData := (.int 1000000000000)
def c_NOUGHT : PyData := (.tuple [(.int 0), (.int 1)])
def c_ONE : PyData := (.tuple [(.int 1), (.int 1)])
def c_MOST_CHANCES : PyData := (.int 5)
def c_MOST_TIME : PyData := (.int 6)
def c_MOST_SIZED : PyData := (.int 3)
def c_MOST_BORN : PyData := (.int 12)
def c_MOST_SIZES : PyData := (.int 64)
def c_MOST_DEAD : PyData := (.int 4)
def c_MOST_HALVED : PyData := (.int 60)
abbrev m__law_draw : Fn := mDraw
abbrev N_is_integer : List Str := ["value"]
def b_is_integer : DS := (sRet (dAndV (dIs .int (dVar 0)) (dNotV (dIs .bool (dVar 0)))))
def m_is_integer : Fn := mOf 1 b_is_integer
abbrev N_is_within : List Str := ["value", "least", "most"]
def b_is_within : DS := (sRet (dAndV (dCallN 1 m_is_integer (aCons (dVar 0) aNil)) (dChain gLe gLe (dVar 1) (dVar 0) (dVar 2))))
def m_is_within : Fn := mOf 3 b_is_within
abbrev N_is_list : List Str := ["value"]
def b_is_list : DS := (sRet (dIsLT (dVar 0)))
def m_is_list : Fn := mOf 1 b_is_list
abbrev N_check_number : List Str := ["value", "least", "most"]
def b_check_number : DS := (sIf (dNot (dB (dCallN 3 m_is_within (aCons (dVar 0) (aCons (dVar 1) (aCons (dVar 2) aNil)))))) sNever sNil)
def m_check_number : Fn := mOf 3 b_check_number
abbrev N_want_at_most : List Str := ["what", "limit", "number"]
def b_want_at_most : DS := (sIf (dB (dOp gGt (dVar 2) (dVar 1))) sNever sNil)
def m_want_at_most : Fn := mOf 3 b_want_at_most
abbrev N_divisor : List Str := ["one", "late"]
def b_divisor : DS := (sSeq (sWh 1000000 (dB (dOp gGt (dVar 1) (dC (.int 0)))) (sPar 0 1 (aCons (dVar 1) (aCons (dOp gMod (dCB gInt (aCons (dVar 0) aNil)) (dVar 1)) aNil))))
  (sRet (dVar 0)))
def m0_divisor : Fn := mOf 2 b_divisor
def m_divisor : Fn := qDivisor
abbrev N_is_fraction_of : List Str := ["value"]
def b_is_fraction_of : DS := (sSeq (sIf (dOr (dNot (dB (dIs .tuple (dVar 0)))) (dOr (dB (dOp gNe (dCB gLen (aCons (dVar 0) aNil)) (dC (.int 2)))) (dOr (dNot (dB (dCallN 1 m_is_integer (aCons (dOp gIx (dVar 0) (dC (.int 0))) aNil)))) (dNot (dB (dCallN 1 m_is_integer (aCons (dOp gIx (dVar 0) (dC (.int 1))) aNil))))))) (sRet (dC (.bool false))) sNil)
  (sRet (dAndV (dOp gGe (dOp gIx (dVar 0) (dC (.int 1))) (dC (.int 1))) (dOp gEq (dCallN 2 m_divisor (aCons (dCB gAbs (aCons (dOp gIx (dVar 0) (dC (.int 0))) aNil)) (aCons (dOp gIx (dVar 0) (dC (.int 1))) aNil))) (dC (.int 1))))))
def m_is_fraction_of : Fn := mOf 1 b_is_fraction_of
abbrev N_is_short : List Str := ["value"]
def b_is_short : DS := (sRet (dAndV (dCallN 1 m_is_fraction_of (aCons (dVar 0) aNil)) (dAndV (dOp gLt (dCB gAbs (aCons (dOp gIx (dVar 0) (dC (.int 0))) aNil)) (dC c_MOST_DIGITS)) (dOp gLt (dOp gIx (dVar 0) (dC (.int 1))) (dC c_MOST_DIGITS)))))
def m_is_short : Fn := mOf 1 b_is_short
abbrev N_check_fraction : List Str := ["value"]
def b_check_fraction : DS := (sIf (dNot (dB (dCallN 1 m_is_short (aCons (dVar 0) aNil)))) sNever sNil)
def m_check_fraction : Fn := mOf 1 b_check_fraction
abbrev N_reduced : List Str := ["top", "bottom", "common"]
def b_reduced : DS := (sSeq (sIf (dB (dOp gLt (dVar 1) (dC (.int 0)))) (sPar 0 1 (aCons (dOp gSub (dC (.int 0)) (dVar 0)) (aCons (dOp gSub (dC (.int 0)) (dVar 1)) aNil))) sNil)
  (sSeq (sAsg (dCallN 2 m_divisor (aCons (dCB gAbs (aCons (dVar 0) aNil)) (aCons (dVar 1) aNil))) (gN 2))
  (sRet (dTup (aCons (dOp gFdiv (dVar 0) (dVar 2)) (aCons (dOp gFdiv (dVar 1) (dVar 2)) aNil))))))
def m0_reduced : Fn := mOf 3 b_reduced
def m_reduced : Fn := qReduced
abbrev N_add : List Str := ["one", "late"]
def b_add : DS := (sRet (dCallN 2 m_reduced (aCons (dOp gAdd (dOp gMul (dOp gIx (dVar 0) (dC (.int 0))) (dOp gIx (dVar 1) (dC (.int 1)))) (dOp gMul (dOp gIx (dVar 1) (dC (.int 0))) (dOp gIx (dVar 0) (dC (.int 1))))) (aCons (dOp gMul (dOp gIx (dVar 0) (dC (.int 1))) (dOp gIx (dVar 1) (dC (.int 1)))) aNil))))
def m0_add : Fn := mOf 2 b_add
def m_add : Fn := qAddR m_reduced
abbrev N_take : List Str := ["one", "late"]
def b_take : DS := (sRet (dCallN 2 m_reduced (aCons (dOp gSub (dOp gMul (dOp gIx (dVar 0) (dC (.int 0))) (dOp gIx (dVar 1) (dC (.int 1)))) (dOp gMul (dOp gIx (dVar 1) (dC (.int 0))) (dOp gIx (dVar 0) (dC (.int 1))))) (aCons (dOp gMul (dOp gIx (dVar 0) (dC (.int 1))) (dOp gIx (dVar 1) (dC (.int 1)))) aNil))))
def m0_take : Fn := mOf 2 b_take
def m_take : Fn := qTakeR m_reduced
abbrev N_multiply : List Str := ["one", "late"]
def b_multiply : DS := (sRet (dCallN 2 m_reduced (aCons (dOp gMul (dOp gIx (dVar 0) (dC (.int 0))) (dOp gIx (dVar 1) (dC (.int 0)))) (aCons (dOp gMul (dOp gIx (dVar 0) (dC (.int 1))) (dOp gIx (dVar 1) (dC (.int 1)))) aNil))))
def m0_multiply : Fn := mOf 2 b_multiply
def m_multiply : Fn := qMulR m_reduced
abbrev N_divide : List Str := ["one", "late"]
def b_divide : DS := (sRet (dCallN 2 m_reduced (aCons (dOp gMul (dOp gIx (dVar 0) (dC (.int 0))) (dOp gIx (dVar 1) (dC (.int 1)))) (aCons (dOp gMul (dOp gIx (dVar 0) (dC (.int 1))) (dOp gIx (dVar 1) (dC (.int 0)))) aNil))))
def m0_divide : Fn := mOf 2 b_divide
def m_divide : Fn := qDivR m_reduced
abbrev N_is_below : List Str := ["one", "late"]
def b_is_below : DS := (sRet (dOp gLt (dOp gMul (dOp gIx (dVar 0) (dC (.int 0))) (dOp gIx (dVar 1) (dC (.int 1)))) (dOp gMul (dOp gIx (dVar 1) (dC (.int 0))) (dOp gIx (dVar 0) (dC (.int 1))))))
def m0_is_below : Fn := mOf 2 b_is_below
def m_is_below : Fn := qBelow
abbrev N_total : List Str := ["some", "found", "one"]
def b_total : DS := (sSeq (sAsg (dC c_NOUGHT) (gN 1))
  (sSeq (sFor (iSeq (dVar 0)) (gN 2) (sAsg (dCallN 2 m_add (aCons (dVar 1) (aCons (dVar 2) aNil))) (gN 1)))
  (sRet (dVar 1))))
def m_total : Fn := mOf 3 b_total
abbrev N_are_children_of : List Str := ["value", "one"]
def b_are_children_of : DS := (sSeq (sIf (dOr (dNot (dB (dCallN 1 m_is_list (aCons (dVar 0) aNil)))) (dNot (dB (dChain gLe gLe (dC (.int 1)) (dCB gLen (aCons (dVar 0) aNil)) (dC c_MOST_CHANCES))))) (sRet (dC (.bool false))) sNil)
  (sRet (dAndV (dCB gAll (aCons (dLc (iSeq (dVar 0)) (gN 1) dYes (dAndV (dCallN 1 m_is_fraction_of (aCons (dVar 1) aNil)) (dOp gGe (dOp gIx (dVar 1) (dC (.int 0))) (dC (.int 0)))) [1]) aNil)) (dOp gEq (dCallN 1 m_total (aCons (dCB gList (aCons (dVar 0) aNil)) aNil)) (dC c_ONE)))))
def m_are_children_of : Fn := mOf 2 b_are_children_of
abbrev N_check_children : List Str := ["value", "one"]
def b_check_children : DS := (sIf (dOr (dNot (dB (dCallN 1 m_are_children_of (aCons (dVar 0) aNil)))) (dNot (dB (dCB gAll (aCons (dLc (iSeq (dVar 0)) (gN 1) dYes (dCallN 1 m_is_short (aCons (dVar 1) aNil)) [1]) aNil))))) sNever sNil)
def m_check_children : Fn := mOf 2 b_check_children
abbrev N_told_of : List Str := ["some", "found"]
def b_told_of : DS := (sSeq (sOwn 1 (fList (dVar 0)))
  (sSeq (sWh 1000000 (dBorT [1] (dAnd (dB (dOp gNe (dVar 1) (dLst aNil))) (dB (dOp gEq (dOp gIx (dVar 1) (dUn gNeg (dC (.int 1)))) (dC c_NOUGHT))))) (sPop 1))
  (sFrz 1 (sRet (dVar 1)))))
def m_told_of : Fn := mOf 2 b_told_of
abbrev N_product_of : List Str := ["one", "late", "found", "at", "near", "place", "far"]
def b_product_of : DS := (sSeq (sOwn 2 (fRep (dLst (aCons (dC c_NOUGHT) aNil)) (dOp gSub (dOp gAdd (dCB gLen (aCons (dVar 0) aNil)) (dCB gLen (aCons (dVar 1) aNil))) (dC (.int 1)))))
  (sSeq (sFor (iEnumD (dVar 0)) (gT 2 (gsCons (gN 3) (gsCons (gN 4) gsNil))) (sFor (iEnumD (dVar 1)) (gT 2 (gsCons (gN 5) (gsCons (gN 6) gsNil))) (sSetIx 2 (dOp gAdd (dVar 3) (dVar 5)) (dBor [2] (dCallN 2 m_add (aCons (dOp gIx (dVar 2) (dOp gAdd (dVar 3) (dVar 5))) (aCons (dCallN 2 m_multiply (aCons (dVar 4) (aCons (dVar 6) aNil))) aNil)))))))
  (sFrz 2 (sRet (dVar 2)))))
def m0_product_of : Fn := mOf 7 b_product_of
def m_product_of : Fn := qProd m_add m_multiply c_NOUGHT
abbrev N_put_of : List Str := ["children", "late", "found", "power", "one", "longer", "more", "far", "near"]
def b_put_of : DS := (sSeq (sPar 2 3 (aCons (dLst (aCons (dC c_NOUGHT) aNil)) (aCons (dLst (aCons (dC c_ONE) aNil)) aNil)))
  (sSeq (sFor (iSeq (dCallN 1 m_told_of (aCons (dVar 0) aNil))) (gN 4) (sSeq (sAsg (dOp gAdd (dVar 2) (dOp gMul (dLst (aCons (dC c_NOUGHT) aNil)) (dOp gSub (dCB gLen (aCons (dVar 3) aNil)) (dCB gLen (aCons (dVar 2) aNil))))) (gN 5))
  (sSeq (sAsg (dOp gAdd (dVar 3) (dOp gMul (dLst (aCons (dC c_NOUGHT) aNil)) (dOp gSub (dCB gLen (aCons (dVar 5) aNil)) (dCB gLen (aCons (dVar 3) aNil))))) (gN 6))
  (sSeq (sAsg (dLc (iZipD (dVar 5) (dVar 6)) (gT 2 (gsCons (gN 8) (gsCons (gN 7) gsNil))) dYes (dCallN 2 m_add (aCons (dVar 8) (aCons (dCallN 2 m_multiply (aCons (dVar 4) (aCons (dVar 7) aNil))) aNil))) [8, 7]) (gN 2))
  (sAsg (dCallN 2 m_product_of (aCons (dVar 3) (aCons (dCallN 1 m_told_of (aCons (dVar 1) aNil)) aNil))) (gN 3))))))
  (sRet (dCallN 1 m_told_of (aCons (dVar 2) aNil)))))
def m_put_of : Fn := mOf 9 b_put_of
abbrev N_want_sizes : List Str := ["children", "late"]
def b_want_sizes : DS := (sExpr (dCallN 3 m_want_at_most (aCons (dC (.str "sizes")) (aCons (dC c_MOST_SIZES) (aCons (dOp gMul (dOp gSub (dCB gLen (aCons (dCallN 1 m_told_of (aCons (dVar 0) aNil)) aNil)) (dC (.int 1))) (dOp gSub (dCB gLen (aCons (dCallN 1 m_told_of (aCons (dVar 1) aNil)) aNil)) (dC (.int 1)))) aNil)))))
def m_want_sizes : Fn := mOf 2 b_want_sizes
abbrev N_mean_by : List Str := ["children", "one", "at"]
def b_mean_by : DS := (sRet (dCallN 1 m_total (aCons (dLc (iEnumD (dVar 0)) (gT 2 (gsCons (gN 2) (gsCons (gN 1) gsNil))) dYes (dCallN 2 m_multiply (aCons (dVar 1) (aCons (dTup (aCons (dVar 2) (aCons (dC (.int 1)) aNil))) aNil))) [2, 1]) aNil)))
def m_mean_by : Fn := mOf 3 b_mean_by
abbrev N_spread_by : List Str := ["children", "middle", "one", "at"]
def b_spread_by : DS := (sSeq (sAsg (dCallN 1 m_mean_by (aCons (dVar 0) aNil)) (gN 1))
  (sRet (dCallN 2 m_take (aCons (dCallN 1 m_total (aCons (dLc (iEnumD (dVar 0)) (gT 2 (gsCons (gN 3) (gsCons (gN 2) gsNil))) dYes (dCallN 2 m_multiply (aCons (dVar 2) (aCons (dTup (aCons (dOp gMul (dVar 3) (dVar 3)) (aCons (dC (.int 1)) aNil))) aNil))) [3, 2]) aNil)) (aCons (dCallN 2 m_multiply (aCons (dVar 1) (aCons (dVar 1) aNil))) aNil)))))
def m_spread_by : Fn := mOf 4 b_spread_by
abbrev N_number_of : List Str := ["children", "fraction", "found", "one"]
def b_number_of : DS := (sSeq (sAsg (dC c_NOUGHT) (gN 2))
  (sSeq (sFor (iSeq (dUn gRev (dCB gList (aCons (dVar 0) aNil)))) (gN 3) (sAsg (dCallN 2 m_add (aCons (dCallN 2 m_multiply (aCons (dVar 2) (aCons (dVar 1) aNil))) (aCons (dVar 3) aNil))) (gN 2)))
  (sRet (dVar 2))))
def m_number_of : Fn := mOf 4 b_number_of
abbrev N_power_of : List Str := ["number", "many", "found", "turn"]
def b_power_of : DS := (sSeq (sAsg (dC c_ONE) (gN 2))
  (sSeq (sFor (iRange1 (dVar 1)) (gN 3) (sAsg (dCallN 2 m_multiply (aCons (dVar 2) (aCons (dVar 0) aNil))) (gN 2)))
  (sRet (dVar 2))))
def m_power_of : Fn := mOf 4 b_power_of
abbrev N_are_children : List Str := ["value"]
def b_are_children : DS := (sRet (dCallN 1 m_are_children_of (aCons (dVar 0) aNil)))
def m_are_children : Fn := mOf 1 b_are_children
abbrev N_child_mean : List Str := ["children"]
def b_child_mean : DS := (sSeq (sExpr (dCallN 1 m_check_children (aCons (dVar 0) aNil)))
  (sRet (dCallN 1 m_mean_by (aCons (dVar 0) aNil))))
def m_child_mean : Fn := mOf 1 b_child_mean
abbrev N_child_spread : List Str := ["children"]
def b_child_spread : DS := (sSeq (sExpr (dCallN 1 m_check_children (aCons (dVar 0) aNil)))
  (sRet (dCallN 1 m_spread_by (aCons (dVar 0) aNil))))
def m_child_spread : Fn := mOf 1 b_child_spread
abbrev N_number_at : List Str := ["children", "fraction"]
def b_number_at : DS := (sSeq (sExpr (dCallN 1 m_check_children (aCons (dVar 0) aNil)))
  (sSeq (sExpr (dCallN 1 m_check_fraction (aCons (dVar 1) aNil)))
  (sSeq (sIf (dOr (dB (dOp gLt (dOp gIx (dVar 1) (dC (.int 0))) (dC (.int 0)))) (dB (dCallN 2 m_is_below (aCons (dC c_ONE) (aCons (dVar 1) aNil))))) sNever sNil)
  (sRet (dCallN 2 m_number_of (aCons (dVar 0) (aCons (dVar 1) aNil)))))))
def m_number_at : Fn := mOf 2 b_number_at
abbrev N_mean_size : List Str := ["children", "many"]
def b_mean_size : DS := (sSeq (sExpr (dCallN 1 m_check_children (aCons (dVar 0) aNil)))
  (sSeq (sExpr (dCallN 3 m_check_number (aCons (dVar 1) (aCons (dC (.int 0)) (aCons (dC c_MOST_TIME) aNil)))))
  (sRet (dCallN 2 m_power_of (aCons (dCallN 1 m_mean_by (aCons (dVar 0) aNil)) (aCons (dVar 1) aNil))))))
def m_mean_size : Fn := mOf 2 b_mean_size
abbrev N_spread_size : List Str := ["children", "many", "middle", "own", "found", "turn"]
def b_spread_size : DS := (sSeq (sExpr (dCallN 1 m_check_children (aCons (dVar 0) aNil)))
  (sSeq (sExpr (dCallN 3 m_check_number (aCons (dVar 1) (aCons (dC (.int 0)) (aCons (dC c_MOST_TIME) aNil)))))
  (sSeq (sPar3 2 3 4 (aCons (dCallN 1 m_mean_by (aCons (dVar 0) aNil)) (aCons (dCallN 1 m_spread_by (aCons (dVar 0) aNil)) (aCons (dC c_NOUGHT) aNil))))
  (sSeq (sFor (iRange1 (dVar 1)) (gN 5) (sAsg (dCallN 2 m_add (aCons (dCallN 2 m_multiply (aCons (dVar 4) (aCons (dCallN 2 m_multiply (aCons (dVar 2) (aCons (dVar 2) aNil))) aNil))) (aCons (dCallN 2 m_multiply (aCons (dVar 3) (aCons (dCallN 2 m_power_of (aCons (dVar 2) (aCons (dVar 5) aNil))) aNil))) aNil))) (gN 4)))
  (sRet (dVar 4))))))
def m_spread_size : Fn := mOf 6 b_spread_size
abbrev N_put_into : List Str := ["children", "late"]
def b_put_into : DS := (sSeq (sExpr (dCallN 1 m_check_children (aCons (dVar 0) aNil)))
  (sSeq (sExpr (dCallN 1 m_check_children (aCons (dVar 1) aNil)))
  (sSeq (sExpr (dCallN 2 m_want_sizes (aCons (dVar 0) (aCons (dVar 1) aNil))))
  (sRet (dCallN 2 m_put_of (aCons (dVar 0) (aCons (dVar 1) aNil)))))))
def m_put_into : Fn := mOf 2 b_put_into
abbrev N_size_chances : List Str := ["children", "many", "found", "turn"]
def b_size_chances : DS := (sSeq (sExpr (dCallN 1 m_check_children (aCons (dVar 0) aNil)))
  (sSeq (sExpr (dCallN 3 m_check_number (aCons (dVar 1) (aCons (dC (.int 0)) (aCons (dC c_MOST_SIZED) aNil)))))
  (sSeq (sAsg (dLst (aCons (dC c_NOUGHT) (aCons (dC c_ONE) aNil))) (gN 2))
  (sSeq (sFor (iRange1 (dVar 1)) (gN 3) (sSeq (sExpr (dCallN 2 m_want_sizes (aCons (dVar 2) (aCons (dVar 0) aNil))))
  (sAsg (dCallN 2 m_put_of (aCons (dVar 2) (aCons (dVar 0) aNil))) (gN 2))))
  (sRet (dVar 2))))))
def m_size_chances : Fn := mOf 4 b_size_chances
abbrev N_born_chance : List Str := ["children", "many", "found", "turn"]
def b_born_chance : DS := (sSeq (sExpr (dCallN 1 m_check_children (aCons (dVar 0) aNil)))
  (sSeq (sExpr (dCallN 3 m_check_number (aCons (dVar 1) (aCons (dC (.int 1)) (aCons (dC c_MOST_BORN) aNil)))))
  (sSeq (sAsg (dLst (aCons (dC c_ONE) aNil)) (gN 2))
  (sSeq (sFor (iRange1 (dVar 1)) (gN 3) (sAsg (dCallN 2 m_product_of (aCons (dVar 2) (aCons (dCB gList (aCons (dVar 0) aNil)) aNil))) (gN 2)))
  (sRet (dIf (dB (dOp gLt (dOp gSub (dVar 1) (dC (.int 1))) (dCB gLen (aCons (dVar 2) aNil)))) (dCallN 2 m_divide (aCons (dOp gIx (dVar 2) (dOp gSub (dVar 1) (dC (.int 1)))) (aCons (dTup (aCons (dVar 1) (aCons (dC (.int 1)) aNil))) aNil))) (dC c_NOUGHT)))))))
def m_born_chance : Fn := mOf 4 b_born_chance
abbrev N_is_sure_of : List Str := ["children"]
def b_is_sure_of : DS := (sSeq (sIf (dAnd (dB (dOp gGt (dCB gLen (aCons (dVar 0) aNil)) (dC (.int 1)))) (dB (dOp gEq (dOp gIx (dVar 0) (dC (.int 1))) (dC c_ONE)))) (sRet (dC (.bool false))) sNil)
  (sRet (dNotV (dCallN 2 m_is_below (aCons (dC c_ONE) (aCons (dCallN 1 m_mean_by (aCons (dVar 0) aNil)) aNil))))))
def m_is_sure_of : Fn := mOf 1 b_is_sure_of
abbrev N_is_live_of : List Str := ["children", "value"]
def b_is_live_of : DS := (sSeq (sIf (dOr (dNot (dB (dCallN 1 m_is_fraction_of (aCons (dVar 1) aNil)))) (dOr (dB (dOp gLt (dOp gIx (dVar 1) (dC (.int 0))) (dC (.int 0)))) (dNot (dB (dCallN 2 m_is_below (aCons (dVar 1) (aCons (dC c_ONE) aNil))))))) (sRet (dC (.bool false))) sNil)
  (sRet (dNotV (dCallN 2 m_is_below (aCons (dVar 1) (aCons (dCallN 2 m_number_of (aCons (dVar 0) (aCons (dVar 1) aNil))) aNil))))))
def m_is_live_of : Fn := mOf 2 b_is_live_of
abbrev N_middle_of : List Str := ["low", "high"]
def b_middle_of : DS := (sRet (dCallN 2 m_divide (aCons (dCallN 2 m_add (aCons (dVar 0) (aCons (dVar 1) aNil))) (aCons (dTup (aCons (dC (.int 2)) (aCons (dC (.int 1)) aNil))) aNil))))
def m_middle_of : Fn := mOf 2 b_middle_of
abbrev N_whole_quotient : List Str := ["children", "most", "top", "bottom", "numbers", "found", "carry", "number"]
def b_whole_quotient : DS := (sSeq (sAsg (dC (.int 1)) (gN 1))
  (sSeq (sFor (iSeq (dVar 0)) (gT 2 (gsCons (gN 2) (gsCons (gN 3) gsNil))) (sAsg (dOp gMul (dOp gFdiv (dVar 1) (dCallN 2 m_divisor (aCons (dVar 1) (aCons (dVar 3) aNil)))) (dVar 3)) (gN 1)))
  (sSeq (sOwn 4 (fLc (iSeq (dVar 0)) (gT 2 (gsCons (gN 2) (gsCons (gN 3) gsNil))) dYes (dOp gMul (dVar 2) (dOp gFdiv (dVar 1) (dVar 3))) [2, 3]))
  (sFrz 4 (sSeq (sOwn 4 (fCat (dVar 4) (dOp gMul (dLst (aCons (dC (.int 0)) aNil)) (dOp gSub (dC (.int 2)) (dCB gLen (aCons (dVar 4) aNil))))))
  (sSeq (sSetIx 4 (dC (.int 1)) (dBor [4] (dOp gSub (dOp gIx (dVar 4) (dC (.int 1))) (dVar 1))))
  (sSeq (sParFE 5 6 (fLst aNil) (dC (.int 0)))
  (sFrz 4 (sSeq (sFor (iSeq (dRevTo (dVar 4) (dC (.int 0)))) (gN 7) (sSeq (sAsg (dOp gAdd (dVar 6) (dVar 7)) (gN 6))
  (sFrz 5 (sOwn 5 (fCat (dLst (aCons (dVar 6) aNil)) (dVar 5))))))
  (sSeq (sWh 1000000 (dBorT [5] (dAnd (dB (dOp gNe (dVar 5) (dLst aNil))) (dB (dOp gEq (dOp gIx (dVar 5) (dUn gNeg (dC (.int 1)))) (dC (.int 0)))))) (sPop 5))
  (sFrz 5 (sRet (dVar 5)))))))))))))
def m_whole_quotient : Fn := mOf 8 b_whole_quotient
abbrev N_sign_of : List Str := ["numbers", "top", "bottom", "found", "power", "number"]
def b_sign_of : DS := (sSeq (sAsg (dTup (aCons (dC (.int 0)) (aCons (dC (.int 1)) aNil))) (gT 2 (gsCons (gN 3) (gsCons (gN 4) gsNil))))
  (sSeq (sFor (iSeq (dUn gRev (dVar 0))) (gN 5) (sPar 3 4 (aCons (dOp gAdd (dOp gMul (dVar 3) (dVar 1)) (dOp gMul (dVar 5) (dVar 4))) (aCons (dOp gMul (dVar 4) (dVar 2)) aNil))))
  (sRet (dOp gSub (dOp gGt (dVar 3) (dC (.int 0))) (dOp gLt (dVar 3) (dC (.int 0)))))))
def m_sign_of : Fn := mOf 6 b_sign_of
abbrev N_root_between : List Str := ["numbers", "bottom", "low", "high", "middle", "sign"]
def b_root_between : DS := (sSeq (sAsg (dCB gAbs (aCons (dOp gIx (dVar 0) (dUn gNeg (dC (.int 1)))) aNil)) (gN 1))
  (sSeq (sPar 2 3 (aCons (dC (.int 0)) (aCons (dVar 1) aNil)))
  (sSeq (sWh 1000000 (dB (dOp gGt (dOp gSub (dVar 3) (dVar 2)) (dC (.int 1)))) (sSeq (sAsg (dOp gFdiv (dOp gAdd (dVar 2) (dVar 3)) (dC (.int 2))) (gN 4))
  (sSeq (sAsg (dCallN 3 m_sign_of (aCons (dVar 0) (aCons (dVar 4) (aCons (dVar 1) aNil)))) (gN 5))
  (sSeq (sIf (dB (dOp gEq (dVar 5) (dC (.int 0)))) (sRet (dCallN 2 m_reduced (aCons (dVar 4) (aCons (dVar 1) aNil)))) sNil)
  (sAsg (dIf (dB (dOp gLt (dVar 5) (dC (.int 0)))) (dTup (aCons (dVar 4) (aCons (dVar 3) aNil))) (dTup (aCons (dVar 2) (aCons (dVar 4) aNil)))) (gT 2 (gsCons (gN 2) (gsCons (gN 3) gsNil))))))))
  (sRet (dC .none)))))
def m_root_between : Fn := mOf 6 b_root_between
abbrev N_death_of : List Str := ["children"]
def b_death_of : DS := (sSeq (sIf (dB (dCallN 1 m_is_sure_of (aCons (dVar 0) aNil))) (sRet (dC c_ONE)) sNil)
  (sSeq (sIf (dB (dOp gEq (dOp gIx (dVar 0) (dC (.int 0))) (dC c_NOUGHT))) (sRet (dC c_NOUGHT)) sNil)
  (sRet (dCallN 1 m_root_between (aCons (dCallN 1 m_whole_quotient (aCons (dVar 0) aNil)) aNil)))))
def m_death_of : Fn := mOf 1 b_death_of
abbrev N_dead_by : List Str := ["children", "many", "found", "turn"]
def b_dead_by : DS := (sSeq (sExpr (dCallN 1 m_check_children (aCons (dVar 0) aNil)))
  (sSeq (sExpr (dCallN 3 m_check_number (aCons (dVar 1) (aCons (dC (.int 0)) (aCons (dC c_MOST_DEAD) aNil)))))
  (sSeq (sAsg (dC c_NOUGHT) (gN 2))
  (sSeq (sFor (iRange1 (dVar 1)) (gN 3) (sAsg (dCallN 2 m_number_of (aCons (dVar 0) (aCons (dVar 2) aNil))) (gN 2)))
  (sRet (dVar 2))))))
def m_dead_by : Fn := mOf 4 b_dead_by
abbrev N_dies_surely : List Str := ["children"]
def b_dies_surely : DS := (sSeq (sExpr (dCallN 1 m_check_children (aCons (dVar 0) aNil)))
  (sRet (dCallN 1 m_is_sure_of (aCons (dVar 0) aNil))))
def m_dies_surely : Fn := mOf 1 b_dies_surely
abbrev N_live_paper : List Str := ["children", "found"]
def b_live_paper : DS := (sSeq (sExpr (dCallN 1 m_check_children (aCons (dVar 0) aNil)))
  (sSeq (sIf (dB (dCallN 1 m_is_sure_of (aCons (dVar 0) aNil))) (sRet (dC .none)) sNil)
  (sSeq (sAsg (dC c_NOUGHT) (gN 1))
  (sSeq (sWh 1000000 (dNot (dB (dCallN 2 m_is_live_of (aCons (dVar 0) (aCons (dVar 1) aNil))))) (sAsg (dCallN 2 m_middle_of (aCons (dVar 1) (aCons (dC c_ONE) aNil))) (gN 1)))
  (sRet (dVar 1))))))
def m_live_paper : Fn := mOf 2 b_live_paper
abbrev N_is_live_paper : List Str := ["children", "value"]
def b_is_live_paper : DS := (sSeq (sExpr (dCallN 1 m_check_children (aCons (dVar 0) aNil)))
  (sRet (dCallN 2 m_is_live_of (aCons (dVar 0) (aCons (dVar 1) aNil)))))
def m_is_live_paper : Fn := mOf 2 b_is_live_paper
abbrev N_death_chance : List Str := ["children"]
def b_death_chance : DS := (sSeq (sExpr (dCallN 1 m_check_children (aCons (dVar 0) aNil)))
  (sRet (dCallN 1 m_death_of (aCons (dVar 0) aNil))))
def m_death_chance : Fn := mOf 1 b_death_chance
abbrev N_death_between : List Str := ["children", "many", "low", "high", "turn", "middle"]
def b_death_between : DS := (sSeq (sExpr (dCallN 1 m_check_children (aCons (dVar 0) aNil)))
  (sSeq (sExpr (dCallN 3 m_check_number (aCons (dVar 1) (aCons (dC (.int 0)) (aCons (dC c_MOST_HALVED) aNil)))))
  (sSeq (sPar 2 3 (aCons (dC c_NOUGHT) (aCons (dC c_ONE) aNil)))
  (sSeq (sFor (iRange1 (dVar 1)) (gN 4) (sSeq (sAsg (dCallN 2 m_middle_of (aCons (dVar 2) (aCons (dVar 3) aNil))) (gN 5))
  (sIf (dB (dCallN 2 m_is_below (aCons (dVar 5) (aCons (dCallN 2 m_number_of (aCons (dVar 0) (aCons (dVar 5) aNil))) aNil)))) (sAsg (dVar 5) (gN 2)) (sAsg (dVar 5) (gN 3)))))
  (sRet (dTup (aCons (dVar 2) (aCons (dVar 3) aNil))))))))
def m_death_between : Fn := mOf 6 b_death_between
abbrev N_dying : List Str := ["children", "root", "found", "power", "one"]
def b_dying : DS := (sSeq (sExpr (dCallN 1 m_check_children (aCons (dVar 0) aNil)))
  (sSeq (sAsg (dCallN 1 m_death_of (aCons (dVar 0) aNil)) (gN 1))
  (sSeq (sIf (dOr (dB (dOp gIs (dVar 1) (dC .none))) (dB (dOp gEq (dOp gIx (dVar 1) (dC (.int 0))) (dC (.int 0))))) sNever sNil)
  (sSeq (sParFE 2 3 (fLst aNil) (dCallN 2 m_divide (aCons (dC c_ONE) (aCons (dVar 1) aNil))))
  (sSeq (sFor (iSeq (dVar 0)) (gN 4) (sSeq (sApp 2 (dCallN 2 m_multiply (aCons (dVar 4) (aCons (dVar 3) aNil))))
  (sAsg (dCallN 2 m_multiply (aCons (dVar 3) (aCons (dVar 1) aNil))) (gN 3))))
  (sFrz 2 (sRet (dVar 2))))))))
def m_dying : Fn := mOf 5 b_dying
abbrev N__law_plain : List Str := ["top", "bottom", "one", "late", "sign"]
def b__law_plain : DS := (sSeq (sPar 2 3 (aCons (dCB gAbs (aCons (dVar 0) aNil)) (aCons (dCB gAbs (aCons (dVar 1) aNil)) aNil)))
  (sSeq (sWh 1000000 (dB (dOp gNe (dVar 3) (dC (.int 0)))) (sPar 2 3 (aCons (dVar 3) (aCons (dOp gMod (dCB gInt (aCons (dVar 2) aNil)) (dVar 3)) aNil))))
  (sSeq (sAsg (dIf (dB (dOp gGt (dVar 1) (dC (.int 0)))) (dC (.int 1)) (dUn gNeg (dC (.int 1)))) (gN 4))
  (sRet (dTup (aCons (dOp gFdiv (dOp gMul (dVar 4) (dVar 0)) (dVar 2)) (aCons (dOp gFdiv (dOp gMul (dVar 4) (dVar 1)) (dVar 2)) aNil)))))))
def m0__law_plain : Fn := mOf 5 b__law_plain
def m__law_plain : Fn := qPlain
abbrev N__law_plus : List Str := ["one", "late"]
def b__law_plus : DS := (sRet (dCallN 2 m__law_plain (aCons (dOp gAdd (dOp gMul (dOp gIx (dVar 0) (dC (.int 0))) (dOp gIx (dVar 1) (dC (.int 1)))) (dOp gMul (dOp gIx (dVar 1) (dC (.int 0))) (dOp gIx (dVar 0) (dC (.int 1))))) (aCons (dOp gMul (dOp gIx (dVar 0) (dC (.int 1))) (dOp gIx (dVar 1) (dC (.int 1)))) aNil))))
def m0__law_plus : Fn := mOf 2 b__law_plus
def m__law_plus : Fn := qAddR m__law_plain
abbrev N__law_times : List Str := ["one", "late"]
def b__law_times : DS := (sRet (dCallN 2 m__law_plain (aCons (dOp gMul (dOp gIx (dVar 0) (dC (.int 0))) (dOp gIx (dVar 1) (dC (.int 0)))) (aCons (dOp gMul (dOp gIx (dVar 0) (dC (.int 1))) (dOp gIx (dVar 1) (dC (.int 1)))) aNil))))
def m0__law_times : Fn := mOf 2 b__law_times
def m__law_times : Fn := qMulR m__law_plain
abbrev N__law_below : List Str := ["one", "late"]
def b__law_below : DS := (sRet (dOp gLt (dOp gMul (dOp gIx (dVar 0) (dC (.int 0))) (dOp gIx (dVar 1) (dC (.int 1)))) (dOp gMul (dOp gIx (dVar 1) (dC (.int 0))) (dOp gIx (dVar 0) (dC (.int 1))))))
def m0__law_below : Fn := mOf 2 b__law_below
def m__law_below : Fn := qBelow
abbrev N__law_less : List Str := ["one", "late"]
def b__law_less : DS := (sRet (dCallN 2 m__law_plus (aCons (dVar 0) (aCons (dTup (aCons (dOp gSub (dC (.int 0)) (dOp gIx (dVar 1) (dC (.int 0)))) (aCons (dOp gIx (dVar 1) (dC (.int 1))) aNil))) aNil))))
def m__law_less : Fn := mOf 2 b__law_less
abbrev N__law_share : List Str := ["one", "late"]
def b__law_share : DS := (sRet (dCallN 2 m__law_plain (aCons (dOp gMul (dOp gIx (dVar 0) (dC (.int 0))) (dOp gIx (dVar 1) (dC (.int 1)))) (aCons (dOp gMul (dOp gIx (dVar 0) (dC (.int 1))) (dOp gIx (dVar 1) (dC (.int 0)))) aNil))))
def m0__law_share : Fn := mOf 2 b__law_share
def m__law_share : Fn := qDivR m__law_plain
abbrev N__law_power : List Str := ["one", "many", "found", "turn"]
def b__law_power : DS := (sSeq (sAsg (dTup (aCons (dC (.int 1)) (aCons (dC (.int 1)) aNil))) (gN 2))
  (sSeq (sFor (iRange1 (dVar 1)) (gN 3) (sAsg (dCallN 2 m__law_times (aCons (dVar 2) (aCons (dVar 0) aNil))) (gN 2)))
  (sRet (dVar 2))))
def m__law_power : Fn := mOf 4 b__law_power
abbrev N__law_lines_right : List Str := ["pot", "bottom", "on", "children", "rest", "many", "lives", "twice"]
def b__law_lines_right : DS := (sSeq (sAsg (dOp gAdd (dC (.int 2)) (dCallN 2 m__law_draw (aPot 0 (aCons (dC (.int 8)) aNil)))) (gN 1))
  (sSeq (sAsg (dCallN 2 m__law_plain (aCons (dOp gAdd (dC (.int 1)) (dCallN 2 m__law_draw (aPot 0 (aCons (dOp gSub (dVar 1) (dC (.int 1))) aNil)))) (aCons (dVar 1) aNil))) (gN 2))
  (sSeq (sPar 3 4 (aCons (dLst (aCons (dCallN 2 m__law_less (aCons (dTup (aCons (dC (.int 1)) (aCons (dC (.int 1)) aNil))) (aCons (dVar 2) aNil))) (aCons (dVar 2) aNil))) (aCons (dCallN 2 m__law_less (aCons (dTup (aCons (dC (.int 1)) (aCons (dC (.int 1)) aNil))) (aCons (dVar 2) aNil))) aNil)))
  (sSeq (sIf (dOr (dB (dOp gNe (dCallN 1 m_child_mean (aCons (dVar 3) aNil)) (dVar 2))) (dOr (dB (dOp gNe (dCallN 1 m_child_spread (aCons (dVar 3) aNil)) (dCallN 2 m__law_times (aCons (dVar 2) (aCons (dVar 4) aNil))))) (dOr (dB (dOp gIsNot (dCallN 1 m_dies_surely (aCons (dVar 3) aNil)) (dC (.bool true)))) (dB (dOp gNe (dCallN 1 m_death_chance (aCons (dVar 3) aNil)) (dTup (aCons (dC (.int 1)) (aCons (dC (.int 1)) aNil)))))))) (sRet (dC (.bool false))) sNil)
  (sSeq (sFor (iRange1 (dC (.int 5))) (gN 5) (sSeq (sAsg (dCallN 2 m__law_power (aCons (dVar 2) (aCons (dVar 5) aNil))) (gN 6))
  (sSeq (sIf (dOr (dB (dOp gNe (dCallN 2 m_dead_by (aCons (dVar 3) (aCons (dVar 5) aNil))) (dCallN 2 m__law_less (aCons (dTup (aCons (dC (.int 1)) (aCons (dC (.int 1)) aNil))) (aCons (dVar 6) aNil))))) (dB (dOp gNe (dCallN 2 m_mean_size (aCons (dVar 3) (aCons (dVar 5) aNil))) (dVar 6)))) (sRet (dC (.bool false))) sNil)
  (sSeq (sIf (dAnd (dB (dOp gLt (dVar 5) (dC (.int 4)))) (dB (dOp gNe (dCallN 2 m_size_chances (aCons (dVar 3) (aCons (dVar 5) aNil))) (dIf (dB (dOp gEq (dVar 5) (dC (.int 0)))) (dLst (aCons (dTup (aCons (dC (.int 0)) (aCons (dC (.int 1)) aNil))) (aCons (dTup (aCons (dC (.int 1)) (aCons (dC (.int 1)) aNil))) aNil))) (dLst (aCons (dCallN 2 m__law_less (aCons (dTup (aCons (dC (.int 1)) (aCons (dC (.int 1)) aNil))) (aCons (dVar 6) aNil))) (aCons (dVar 6) aNil))))))) (sRet (dC (.bool false))) sNil)
  (sIf (dAnd (dB (dOp gGt (dVar 5) (dC (.int 0)))) (dB (dOp gNe (dCallN 2 m_born_chance (aCons (dVar 3) (aCons (dVar 5) aNil))) (dCallN 2 m__law_times (aCons (dCallN 2 m__law_power (aCons (dVar 2) (aCons (dOp gSub (dVar 5) (dC (.int 1))) aNil))) (aCons (dVar 4) aNil)))))) (sRet (dC (.bool false))) sNil)))))
  (sSeq (sAsg (dCallN 2 m_put_into (aCons (dVar 3) (aCons (dVar 3) aNil))) (gN 7))
  (sRet (dAndV (dOp gEq (dVar 7) (dLst (aCons (dCallN 2 m__law_less (aCons (dTup (aCons (dC (.int 1)) (aCons (dC (.int 1)) aNil))) (aCons (dCallN 2 m__law_times (aCons (dVar 2) (aCons (dVar 2) aNil))) aNil))) (aCons (dCallN 2 m__law_times (aCons (dVar 2) (aCons (dVar 2) aNil))) aNil)))) (dAndV (dOp gIs (dCallN 1 m_are_children (aCons (dVar 7) aNil)) (dC (.bool true))) (dOp gIs (dCallN 1 m_live_paper (aCons (dVar 3) aNil)) (dC .none)))))))))))
def m__law_lines_right : Fn := mOf 8 b__law_lines_right
abbrev N__law_two_right : List Str := ["pot", "bottom", "two", "none", "children", "brackets", "many", "half", "due", "root"]
def r__law_two_right : DS :=   (sSeq (sAsg (dCallN 2 m__law_less (aCons (dTup (aCons (dC (.int 1)) (aCons (dC (.int 1)) aNil))) (aCons (dVar 2) aNil))) (gN 3))
  (sSeq (sPar 4 5 (aCons (dLst (aCons (dVar 3) (aCons (dTup (aCons (dC (.int 0)) (aCons (dC (.int 1)) aNil))) (aCons (dVar 2) aNil)))) (aCons (dLst (aCons (dC (.int 1)) (aCons (dC (.int 1)) (aCons (dC (.int 2)) (aCons (dC (.int 5)) (aCons (dC (.int 14)) (aCons (dC (.int 42)) aNil))))))) aNil)))
  (sSeq (sFor (iRange2 (dC (.int 1)) (dC (.int 13))) (gN 6) (sSeq (sAsg (dOp gFdiv (dOp gSub (dVar 6) (dC (.int 1))) (dC (.int 2))) (gN 7))
  (sSeq (sAsg (dIf (dB (dOp gEq (dOp gMod (dVar 6) (dC (.int 2))) (dC (.int 1)))) (dCallN 2 m__law_times (aCons (dTup (aCons (dOp gIx (dVar 5) (dVar 7)) (aCons (dC (.int 1)) aNil))) (aCons (dCallN 2 m__law_times (aCons (dCallN 2 m__law_power (aCons (dVar 2) (aCons (dVar 7) aNil))) (aCons (dCallN 2 m__law_power (aCons (dVar 3) (aCons (dOp gAdd (dVar 7) (dC (.int 1))) aNil))) aNil))) aNil))) (dTup (aCons (dC (.int 0)) (aCons (dC (.int 1)) aNil)))) (gN 8))
  (sIf (dB (dOp gNe (dCallK 2 2 [1, 0] m_born_chance (aCons (dVar 6) (aCons (dVar 4) aNil))) (dVar 8))) (sRet (dC (.bool false))) sNil))))
  (sSeq (sAsg (dIf (dB (dCallN 2 m__law_below (aCons (dVar 3) (aCons (dVar 2) aNil)))) (dCallN 2 m__law_share (aCons (dVar 3) (aCons (dVar 2) aNil))) (dTup (aCons (dC (.int 1)) (aCons (dC (.int 1)) aNil)))) (gN 9))
  (sSeq (sIf (dOr (dB (dOp gNe (dCallN 1 m_death_chance (aCons (dVar 4) aNil)) (dVar 9))) (dOr (dB (dOp gNe (dCallN 1 m_dies_surely (aCons (dVar 4) aNil)) (dOp gEq (dVar 9) (dTup (aCons (dC (.int 1)) (aCons (dC (.int 1)) aNil)))))) (dB (dOp gNe (dCallN 2 m_is_live_paper (aCons (dVar 4) (aCons (dVar 9) aNil))) (dOp gNe (dVar 9) (dTup (aCons (dC (.int 1)) (aCons (dC (.int 1)) aNil)))))))) (sRet (dC (.bool false))) sNil)
  (sSeq (sIf (dAnd (dB (dOp gNe (dVar 9) (dTup (aCons (dC (.int 1)) (aCons (dC (.int 1)) aNil))))) (dB (dOp gNe (dCallN 1 m_dying (aCons (dVar 4) aNil)) (dUn gRev (dVar 4))))) (sRet (dC (.bool false))) sNil)
  (sRet (dAndV (dOp gEq (dCallN 2 m_number_at (aCons (dVar 4) (aCons (dTup (aCons (dC (.int 1)) (aCons (dC (.int 2)) aNil))) aNil))) (dCallN 2 m__law_plus (aCons (dVar 3) (aCons (dCallN 2 m__law_times (aCons (dVar 2) (aCons (dTup (aCons (dC (.int 1)) (aCons (dC (.int 4)) aNil))) aNil))) aNil)))) (dOp gEq (dCallN 2 m_size_chances (aCons (dVar 4) (aCons (dC (.int 1)) aNil))) (dVar 4))))))))))
def b__law_two_right : DS := (sSeq (sAsg (dOp gAdd (dC (.int 2)) (dCallN 2 m__law_draw (aPot 0 (aCons (dC (.int 8)) aNil)))) (gN 1))
  (sSeq (sAsg (dCallN 2 m__law_plain (aCons (dOp gAdd (dC (.int 1)) (dCallN 2 m__law_draw (aPot 0 (aCons (dOp gSub (dVar 1) (dC (.int 1))) aNil)))) (aCons (dVar 1) aNil))) (gN 2)) r__law_two_right))
def m__law_two_right : Fn := mOf 10 b__law_two_right
abbrev N__law_always_right : List Str := ["pot", "many", "time", "children", "size", "turn", "born"]
def r__law_always_right : DS :=   (sSeq (sAsg (dTup (aCons (dOp gAdd (dOp gMul (dLst (aCons (dTup (aCons (dC (.int 0)) (aCons (dC (.int 1)) aNil))) aNil)) (dVar 1)) (dLst (aCons (dTup (aCons (dC (.int 1)) (aCons (dC (.int 1)) aNil))) aNil))) (aCons (dC (.int 1)) aNil))) (gT 2 (gsCons (gN 3) (gsCons (gN 4) gsNil))))
  (sSeq (sFor (iRange1 (dVar 2)) (gN 5) (sAsg (dOp gMul (dVar 4) (dVar 1)) (gN 4)))
  (sSeq (sIf (dOr (dB (dOp gNe (dCallN 2 m_size_chances (aCons (dVar 3) (aCons (dVar 2) aNil))) (dOp gAdd (dOp gMul (dLst (aCons (dTup (aCons (dC (.int 0)) (aCons (dC (.int 1)) aNil))) aNil)) (dVar 4)) (dLst (aCons (dTup (aCons (dC (.int 1)) (aCons (dC (.int 1)) aNil))) aNil))))) (dOr (dB (dOp gNe (dCallN 2 m_mean_size (aCons (dVar 3) (aCons (dVar 2) aNil))) (dTup (aCons (dVar 4) (aCons (dC (.int 1)) aNil))))) (dB (dOp gNe (dCallN 2 m_spread_size (aCons (dVar 3) (aCons (dVar 2) aNil))) (dTup (aCons (dC (.int 0)) (aCons (dC (.int 1)) aNil))))))) (sRet (dC (.bool false))) sNil)
  (sSeq (sIf (dOr (dB (dOp gNe (dCallN 1 m_death_chance (aCons (dVar 3) aNil)) (dTup (aCons (dC (.int 0)) (aCons (dC (.int 1)) aNil))))) (dOr (dB (dOp gIsNot (dCallN 1 m_dies_surely (aCons (dVar 3) aNil)) (dC (.bool false)))) (dOr (dB (dOp gIsNot (dCallN 2 m_is_live_paper (aCons (dVar 3) (aCons (dTup (aCons (dC (.int 0)) (aCons (dC (.int 1)) aNil))) aNil))) (dC (.bool true)))) (dB (dOp gNe (dCallN 2 m_dead_by (aCons (dVar 3) (aCons (dC (.int 4)) aNil))) (dTup (aCons (dC (.int 0)) (aCons (dC (.int 1)) aNil)))))))) (sRet (dC (.bool false))) sNil)
  (sRet (dAndV (dOp gEq (dCallN 2 m_death_between (aCons (dVar 3) (aCons (dC (.int 10)) aNil))) (dTup (aCons (dTup (aCons (dC (.int 0)) (aCons (dC (.int 1)) aNil))) (aCons (dTup (aCons (dC (.int 1)) (aCons (dOp gPow (dC (.int 2)) (dC (.int 10))) aNil))) aNil)))) (dCB gAll (aCons (dLc (iRange2 (dC (.int 1)) (dC (.int 13))) (gN 6) dYes (dOp gEq (dCallN 2 m_born_chance (aCons (dVar 3) (aCons (dVar 6) aNil))) (dTup (aCons (dC (.int 0)) (aCons (dC (.int 1)) aNil)))) [6]) aNil))))))))
def b__law_always_right : DS := (sSeq (sPar 1 2 (aCons (dOp gAdd (dC (.int 1)) (dCallN 2 m__law_draw (aPot 0 (aCons (dC (.int 4)) aNil)))) (aCons (dCallN 2 m__law_draw (aPot 0 (aCons (dC (.int 4)) aNil))) aNil))) r__law_always_right)
def m__law_always_right : Fn := mOf 7 b__law_always_right
abbrev N__law_one_right : List Str := ["pot", "many", "lazy", "children", "spread", "time", "one"]
def b__law_one_right : DS := (sSeq (sAsg (dTup (aCons (dOp gAdd (dC (.int 2)) (dCallN 2 m__law_draw (aPot 0 (aCons (dC (.int 3)) aNil)))) (aCons (dCallN 2 m__law_draw (aPot 0 (aCons (dC (.int 3)) aNil))) aNil))) (gT 2 (gsCons (gN 1) (gsCons (gN 2) gsNil))))
  (sSeq (sOwn 3 (fCat (dOp gAdd (dLst (aCons (dCallN 2 m__law_plain (aCons (dOp gSub (dVar 1) (dC (.int 1))) (aCons (dVar 1) aNil))) aNil)) (dOp gMul (dLst (aCons (dTup (aCons (dC (.int 0)) (aCons (dC (.int 1)) aNil))) aNil)) (dOp gSub (dVar 1) (dC (.int 1))))) (dLst (aCons (dCallN 2 m__law_plain (aCons (dC (.int 1)) (aCons (dVar 1) aNil))) aNil))))
  (sFrz 3 (sSeq (sOwn 3 (fLc (iSeq (dVar 3)) (gN 6) dYes (dCallN 2 m__law_times (aCons (dVar 6) (aCons (dTup (aCons (dC (.int 1)) (aCons (dOp gAdd (dC (.int 1)) (dVar 2)) aNil))) aNil))) [6]))
  (sSeq (sSetIx 3 (dC (.int 1)) (dBor [3] (dCallN 2 m__law_plus (aCons (dOp gIx (dVar 3) (dC (.int 1))) (aCons (dCallN 2 m__law_plain (aCons (dVar 2) (aCons (dOp gAdd (dC (.int 1)) (dVar 2)) aNil))) aNil)))))
  (sSeq (sAsg (dCallN 2 m__law_plain (aCons (dOp gSub (dVar 1) (dC (.int 1))) (aCons (dOp gAdd (dC (.int 1)) (dVar 2)) aNil))) (gN 4))
  (sSeq (sIf (dBorT [3] (dOr (dB (dOp gNe (dCallN 1 m_child_mean (aCons (dVar 3) aNil)) (dTup (aCons (dC (.int 1)) (aCons (dC (.int 1)) aNil))))) (dOr (dB (dOp gNe (dCallN 1 m_child_spread (aCons (dVar 3) aNil)) (dVar 4))) (dOr (dB (dOp gIsNot (dCallN 1 m_dies_surely (aCons (dVar 3) aNil)) (dC (.bool true)))) (dB (dOp gIsNot (dCallN 1 m_live_paper (aCons (dVar 3) aNil)) (dC .none))))))) (sRet (dC (.bool false))) sNil)
  (sSeq (sFor (iRange1 (dC (.int 7))) (gN 5) (sIf (dBorT [3] (dOr (dB (dOp gNe (dCallN 2 m_mean_size (aCons (dVar 3) (aCons (dVar 5) aNil))) (dTup (aCons (dC (.int 1)) (aCons (dC (.int 1)) aNil))))) (dB (dOp gNe (dCallN 2 m_spread_size (aCons (dVar 3) (aCons (dVar 5) aNil))) (dCallN 2 m__law_times (aCons (dTup (aCons (dVar 5) (aCons (dC (.int 1)) aNil))) (aCons (dVar 4) aNil))))))) (sRet (dC (.bool false))) sNil))
  (sFrz 3 (sRet (dAndV (dOp gEq (dCallN 1 m_death_chance (aCons (dVar 3) aNil)) (dTup (aCons (dC (.int 1)) (aCons (dC (.int 1)) aNil)))) (dAndV (dOp gEq (dCallN 1 m_dying (aCons (dVar 3) aNil)) (dVar 3)) (dOp gEq (dCallN 2 m_death_between (aCons (dVar 3) (aCons (dC (.int 9)) aNil))) (dTup (aCons (dTup (aCons (dOp gSub (dOp gPow (dC (.int 2)) (dC (.int 9))) (dC (.int 1))) (aCons (dOp gPow (dC (.int 2)) (dC (.int 9))) aNil))) (aCons (dTup (aCons (dC (.int 1)) (aCons (dC (.int 1)) aNil))) aNil))))))))))))))))
def m__law_one_right : Fn := mOf 7 b__law_one_right
end Kp

namespace Kp
open PySem PySem.Spec PyProof.Rows L2 Dl
section
variable {P : Program} {w : World} {K : PySem.W.Frag} {mg : Str → Option Value} {base : Heap}
theorem S_is_integer : FnScope N_is_integer ["value"] (defScope (top 11)) := ⟨rfl, rfl, rfl, by decide +kernel, rfl, by decide +kernel, by decide +kernel⟩
theorem h_is_integer {f : Addr} {fd : FuncData} (F : FnP K "is_integer" (top 11) f fd) (hm : mg "is_integer" = some (.ref f)) (bl : ∀ x ∈ blt, mg x = none)  : Has P w K mg base 1 "is_integer" ["value"] m_is_integer :=
  has_of (l := 0) (N := N_is_integer) F S_is_integer hm (F.bindsN fun _ _ _ _ _ _ us hl => match us, hl with | [_], _ => rfl) (fun W cdv A outer s H E hr =>
  (ss_one (ss_ret (se_and (se_is .int (bl "isinstance" (by decide)) (bl "int" (by decide)) (se_var (i := 0))) (se_one (se_not (se_is .bool (bl "isinstance" (by decide)) (bl "bool" (by decide)) (se_var (i := 0)))))))))
theorem S_is_within : FnScope N_is_within ["value", "least", "most"] (defScope (top 12)) := ⟨rfl, rfl, rfl, by decide +kernel, rfl, by decide +kernel, by decide +kernel⟩
theorem h_is_within {f : Addr} {fd : FuncData} (F : FnP K "is_within" (top 12) f fd) (hm : mg "is_within" = some (.ref f)) (bl : ∀ x ∈ blt, mg x = none) (h_is_integer : Has P w K mg base 1 "is_integer" ["value"] m_is_integer) : Has P w K mg base 2 "is_within" ["value", "least", "most"] m_is_within :=
  has_of (l := 1) (N := N_is_within) F S_is_within hm (F.bindsN fun _ _ _ _ _ _ us hl => match us, hl with | [_, _, _], _ => rfl) (fun W cdv A outer s H E hr =>
  (ss_one (ss_ret (se_and (se_call (h_is_integer.mono (by decide)) hr (sp_cons (se_var (i := 0)) sp_nil)) (se_one (se_chain op_le ok_I op_le ok_I (se_var (i := 1)) (se_var (i := 0)) (se_var (i := 2))))))))
theorem S_is_list : FnScope N_is_list ["value"] (defScope (top 13)) := ⟨rfl, rfl, rfl, by decide +kernel, rfl, by decide +kernel, by decide +kernel⟩
theorem h_is_list {f : Addr} {fd : FuncData} (F : FnP K "is_list" (top 13) f fd) (hm : mg "is_list" = some (.ref f)) (bl : ∀ x ∈ blt, mg x = none)  : Has P w K mg base 1 "is_list" ["value"] m_is_list :=
  has_of (l := 0) (N := N_is_list) F S_is_list hm (F.bindsN fun _ _ _ _ _ _ us hl => match us, hl with | [_], _ => rfl) (fun W cdv A outer s H E hr =>
  (ss_one (ss_ret (se_isLT (bl "isinstance" (by decide)) (bl "list" (by decide)) (bl "tuple" (by decide)) (se_var (i := 0))))))
theorem S_check_number : FnScope N_check_number ["value", "least", "most"] (defScope (top 14)) := ⟨rfl, rfl, rfl, by decide +kernel, rfl, by decide +kernel, by decide +kernel⟩
theorem h_check_number {f : Addr} {fd : FuncData} (F : FnP K "check_number" (top 14) f fd) (hm : mg "check_number" = some (.ref f)) (bl : ∀ x ∈ blt, mg x = none) (h_is_within : Has P w K mg base 2 "is_within" ["value", "least", "most"] m_is_within) : Has P w K mg base 3 "check_number" ["value", "least", "most"] m_check_number :=
  has_of (l := 2) (N := N_check_number) F S_check_number hm (F.bindsN fun _ _ _ _ _ _ us hl => match us, hl with | [_, _, _], _ => rfl) (fun W cdv A outer s H E hr =>
  (ss_one (ss_if (st_not (st_val (se_call (h_is_within.mono (by decide)) hr (sp_cons (se_var (i := 0)) (sp_cons (se_var (i := 1)) (sp_cons (se_var (i := 2)) sp_nil)))))) (ss_one ss_never) ss_nil)))
theorem S_want_at_most : FnScope N_want_at_most ["what", "limit", "number"] (defScope (top 15)) := ⟨rfl, rfl, rfl, by decide +kernel, rfl, by decide +kernel, by decide +kernel⟩
theorem h_want_at_most {f : Addr} {fd : FuncData} (F : FnP K "want_at_most" (top 15) f fd) (hm : mg "want_at_most" = some (.ref f)) (bl : ∀ x ∈ blt, mg x = none)  : Has P w K mg base 1 "want_at_most" ["what", "limit", "number"] m_want_at_most :=
  has_of (l := 0) (N := N_want_at_most) F S_want_at_most hm (F.bindsN fun _ _ _ _ _ _ us hl => match us, hl with | [_, _, _], _ => rfl) (fun W cdv A outer s H E hr =>
  (ss_one (ss_if (st_cmp op_gt ok_I (se_var (i := 2)) (se_var (i := 1))) (ss_one ss_never) ss_nil)))
theorem S_divisor : FnScope N_divisor ["one", "late"] (defScope (top 16)) := ⟨rfl, rfl, rfl, by decide +kernel, rfl, by decide +kernel, by decide +kernel⟩
theorem h0_divisor {f : Addr} {fd : FuncData} (F : FnP K "divisor" (top 16) f fd) (hm : mg "divisor" = some (.ref f)) (bl : ∀ x ∈ blt, mg x = none)  : Has P w K mg base 1 "divisor" ["one", "late"] m0_divisor :=
  has_of (l := 0) (N := N_divisor) F S_divisor hm (F.bindsN fun _ _ _ _ _ _ us hl => match us, hl with | [_, _], _ => rfl) (fun W cdv A outer s H E hr =>
  (ss_cons (ss_wh 1000000 PassesOwn.never (st_cmp op_gt ok_I (se_var (i := 1)) se_int) (ss_one (ss_par (i := 0) (j := 1) rfl S_divisor.nd (sa_cons (se_var (i := 1)) (sa_cons (se_bin op_mod ok_mod (se_cty call_int1 ok_int (bl "int" (by decide)) (sa_cons (se_var (i := 0)) sa_nil)) (se_var (i := 1))) sa_nil)))))
  (ss_one (ss_ret (se_var (i := 0))))))
theorem h_divisor {f : Addr} {fd : FuncData} (F : FnP K "divisor" (top 16) f fd) (hm : mg "divisor" = some (.ref f)) (bl : ∀ x ∈ blt, mg x = none)  : Has P w K mg base 1 "divisor" ["one", "late"] m_divisor :=
  (h0_divisor F hm bl ).imp fun ds k h => le_divisor 2 ds k h
theorem S_is_fraction_of : FnScope N_is_fraction_of ["value"] (defScope (top 17)) := ⟨rfl, rfl, rfl, by decide +kernel, rfl, by decide +kernel, by decide +kernel⟩
theorem h_is_fraction_of {f : Addr} {fd : FuncData} (F : FnP K "is_fraction_of" (top 17) f fd) (hm : mg "is_fraction_of" = some (.ref f)) (bl : ∀ x ∈ blt, mg x = none) (h_is_integer : Has P w K mg base 1 "is_integer" ["value"] m_is_integer) (h_divisor : Has P w K mg base 1 "divisor" ["one", "late"] m_divisor) : Has P w K mg base 2 "is_fraction_of" ["value"] m_is_fraction_of :=
  has_of (l := 1) (N := N_is_fraction_of) F S_is_fraction_of hm (F.bindsN fun _ _ _ _ _ _ us hl => match us, hl with | [_], _ => rfl) (fun W cdv A outer s H E hr =>
  (ss_cons (ss_if ((sw_or (st_not (st_val (se_is .tuple (bl "isinstance" (by decide)) (bl "tuple" (by decide)) (se_var (i := 0))))) (sw_or (st_cmp (op_neD hr.units) ok_ne (se_cb call_len_seq ok_len (bl "len" (by decide)) (sa_cons (se_var (i := 0)) sa_nil)) se_int) (sw_or (st_not (st_val (se_call (h_is_integer.mono (by decide)) hr (sp_cons (se_ix (se_var (i := 0)) se_int) sp_nil)))) (sw_or1 (st_not (st_val (se_call (h_is_integer.mono (by decide)) hr (sp_cons (se_ix (se_var (i := 0)) se_int) sp_nil))))))))).st (ss_one (ss_ret se_bl)) ss_nil)
  (ss_one (ss_ret (se_and (se_cmp op_ge ok_I (se_ix (se_var (i := 0)) se_int) se_int) (se_one (se_cmp (op_eqD hr.units) ok_eq (se_call (h_divisor.mono (by decide)) hr (sp_cons (se_cb call_abs ok_abs (bl "abs" (by decide)) (sa_cons (se_ix (se_var (i := 0)) se_int) sa_nil)) (sp_cons (se_ix (se_var (i := 0)) se_int) sp_nil))) se_int)))))))
theorem S_is_short : FnScope N_is_short ["value"] (defScope (top 18)) := ⟨rfl, rfl, rfl, by decide +kernel, rfl, by decide +kernel, by decide +kernel⟩
theorem h_is_short {f : Addr} {fd : FuncData} (F : FnP K "is_short" (top 18) f fd) (hm : mg "is_short" = some (.ref f)) (bl : ∀ x ∈ blt, mg x = none) (g_MOST_DIGITS : Glo K mg "MOST_DIGITS" c_MOST_DIGITS) (h_is_fraction_of : Has P w K mg base 2 "is_fraction_of" ["value"] m_is_fraction_of) : Has P w K mg base 3 "is_short" ["value"] m_is_short :=
  has_of (l := 2) (N := N_is_short) F S_is_short hm (F.bindsN fun _ _ _ _ _ _ us hl => match us, hl with | [_], _ => rfl) (fun W cdv A outer s H E hr =>
  (ss_one (ss_ret (se_and (se_call (h_is_fraction_of.mono (by decide)) hr (sp_cons (se_var (i := 0)) sp_nil)) (se_and (se_cmp op_lt ok_I (se_cb call_abs ok_abs (bl "abs" (by decide)) (sa_cons (se_ix (se_var (i := 0)) se_int) sa_nil)) (se_glob g_MOST_DIGITS)) (se_one (se_cmp op_lt ok_I (se_ix (se_var (i := 0)) se_int) (se_glob g_MOST_DIGITS))))))))
theorem S_check_fraction : FnScope N_check_fraction ["value"] (defScope (top 19)) := ⟨rfl, rfl, rfl, by decide +kernel, rfl, by decide +kernel, by decide +kernel⟩
theorem h_check_fraction {f : Addr} {fd : FuncData} (F : FnP K "check_fraction" (top 19) f fd) (hm : mg "check_fraction" = some (.ref f)) (bl : ∀ x ∈ blt, mg x = none) (h_is_short : Has P w K mg base 3 "is_short" ["value"] m_is_short) : Has P w K mg base 4 "check_fraction" ["value"] m_check_fraction :=
  has_of (l := 3) (N := N_check_fraction) F S_check_fraction hm (F.bindsN fun _ _ _ _ _ _ us hl => match us, hl with | [_], _ => rfl) (fun W cdv A outer s H E hr =>
  (ss_one (ss_if (st_not (st_val (se_call (h_is_short.mono (by decide)) hr (sp_cons (se_var (i := 0)) sp_nil)))) (ss_one ss_never) ss_nil)))
theorem S_reduced : FnScope N_reduced ["top", "bottom"] (defScope (top 23)) := ⟨rfl, rfl, rfl, by decide +kernel, rfl, by decide +kernel, by decide +kernel⟩
theorem h0_reduced {f : Addr} {fd : FuncData} (F : FnP K "reduced" (top 23) f fd) (hm : mg "reduced" = some (.ref f)) (bl : ∀ x ∈ blt, mg x = none) (h_divisor : Has P w K mg base 1 "divisor" ["one", "late"] m_divisor) : Has P w K mg base 2 "reduced" ["top", "bottom"] m0_reduced :=
  has_of (l := 1) (N := N_reduced) F S_reduced hm (F.bindsN fun _ _ _ _ _ _ us hl => match us, hl with | [_, _], _ => rfl) (fun W cdv A outer s H E hr =>
  (ss_cons (ss_if (st_cmp op_lt ok_I (se_var (i := 1)) se_int) (ss_one (ss_par (i := 0) (j := 1) rfl S_reduced.nd (sa_cons (se_bin op_subs ok_sub se_int (se_var (i := 0))) (sa_cons (se_bin op_subs ok_sub se_int (se_var (i := 1))) sa_nil)))) ss_nil)
  (ss_cons (ss_set (i := 2) S_reduced.nd (se_call (h_divisor.mono (by decide)) hr (sp_cons (se_cb call_abs ok_abs (bl "abs" (by decide)) (sa_cons (se_var (i := 0)) sa_nil)) (sp_cons (se_var (i := 1)) sp_nil))))
  (ss_one (ss_ret (se_tup (sa_cons (se_bin op_fdivW ok_fdiv (se_var (i := 0)) (se_var (i := 2))) (sa_cons (se_bin op_fdivW ok_fdiv (se_var (i := 1)) (se_var (i := 2))) sa_nil))))))))
theorem h_reduced {f : Addr} {fd : FuncData} (F : FnP K "reduced" (top 23) f fd) (hm : mg "reduced" = some (.ref f)) (bl : ∀ x ∈ blt, mg x = none) (h_divisor : Has P w K mg base 1 "divisor" ["one", "late"] m_divisor) : Has P w K mg base 2 "reduced" ["top", "bottom"] m_reduced :=
  (h0_reduced F hm bl h_divisor).imp fun ds k h => le_reduced ds k h
theorem S_add : FnScope N_add ["one", "late"] (defScope (top 24)) := ⟨rfl, rfl, rfl, by decide +kernel, rfl, by decide +kernel, by decide +kernel⟩
theorem h0_add {f : Addr} {fd : FuncData} (F : FnP K "add" (top 24) f fd) (hm : mg "add" = some (.ref f)) (bl : ∀ x ∈ blt, mg x = none) (h_reduced : Has P w K mg base 2 "reduced" ["top", "bottom"] m_reduced) : Has P w K mg base 3 "add" ["one", "late"] m0_add :=
  has_of (l := 2) (N := N_add) F S_add hm (F.bindsN fun _ _ _ _ _ _ us hl => match us, hl with | [_, _], _ => rfl) (fun W cdv A outer s H E hr =>
  (ss_one (ss_ret (se_call (h_reduced.mono (by decide)) hr (sp_cons (se_bin op_adds ok_add (se_bin op_muls ok_mul (se_ix (se_var (i := 0)) se_int) (se_ix (se_var (i := 1)) se_int)) (se_bin op_muls ok_mul (se_ix (se_var (i := 1)) se_int) (se_ix (se_var (i := 0)) se_int))) (sp_cons (se_bin op_muls ok_mul (se_ix (se_var (i := 0)) se_int) (se_ix (se_var (i := 1)) se_int)) sp_nil))))))
theorem h_add {f : Addr} {fd : FuncData} (F : FnP K "add" (top 24) f fd) (hm : mg "add" = some (.ref f)) (bl : ∀ x ∈ blt, mg x = none) (h_reduced : Has P w K mg base 2 "reduced" ["top", "bottom"] m_reduced) : Has P w K mg base 3 "add" ["one", "late"] m_add :=
  (h0_add F hm bl h_reduced).imp fun ds k h => le_add m_reduced ds k h
theorem S_take : FnScope N_take ["one", "late"] (defScope (top 25)) := ⟨rfl, rfl, rfl, by decide +kernel, rfl, by decide +kernel, by decide +kernel⟩
theorem h0_take {f : Addr} {fd : FuncData} (F : FnP K "take" (top 25) f fd) (hm : mg "take" = some (.ref f)) (bl : ∀ x ∈ blt, mg x = none) (h_reduced : Has P w K mg base 2 "reduced" ["top", "bottom"] m_reduced) : Has P w K mg base 3 "take" ["one", "late"] m0_take :=
  has_of (l := 2) (N := N_take) F S_take hm (F.bindsN fun _ _ _ _ _ _ us hl => match us, hl with | [_, _], _ => rfl) (fun W cdv A outer s H E hr =>
  (ss_one (ss_ret (se_call (h_reduced.mono (by decide)) hr (sp_cons (se_bin op_subs ok_sub (se_bin op_muls ok_mul (se_ix (se_var (i := 0)) se_int) (se_ix (se_var (i := 1)) se_int)) (se_bin op_muls ok_mul (se_ix (se_var (i := 1)) se_int) (se_ix (se_var (i := 0)) se_int))) (sp_cons (se_bin op_muls ok_mul (se_ix (se_var (i := 0)) se_int) (se_ix (se_var (i := 1)) se_int)) sp_nil))))))
theorem h_take {f : Addr} {fd : FuncData} (F : FnP K "take" (top 25) f fd) (hm : mg "take" = some (.ref f)) (bl : ∀ x ∈ blt, mg x = none) (h_reduced : Has P w K mg base 2 "reduced" ["top", "bottom"] m_reduced) : Has P w K mg base 3 "take" ["one", "late"] m_take :=
  (h0_take F hm bl h_reduced).imp fun ds k h => le_take m_reduced ds k h
theorem S_multiply : FnScope N_multiply ["one", "late"] (defScope (top 26)) := ⟨rfl, rfl, rfl, by decide +kernel, rfl, by decide +kernel, by decide +kernel⟩
theorem h0_multiply {f : Addr} {fd : FuncData} (F : FnP K "multiply" (top 26) f fd) (hm : mg "multiply" = some (.ref f)) (bl : ∀ x ∈ blt, mg x = none) (h_reduced : Has P w K mg base 2 "reduced" ["top", "bottom"] m_reduced) : Has P w K mg base 3 "multiply" ["one", "late"] m0_multiply :=
  has_of (l := 2) (N := N_multiply) F S_multiply hm (F.bindsN fun _ _ _ _ _ _ us hl => match us, hl with | [_, _], _ => rfl) (fun W cdv A outer s H E hr =>
  (ss_one (ss_ret (se_call (h_reduced.mono (by decide)) hr (sp_cons (se_bin op_muls ok_mul (se_ix (se_var (i := 0)) se_int) (se_ix (se_var (i := 1)) se_int)) (sp_cons (se_bin op_muls ok_mul (se_ix (se_var (i := 0)) se_int) (se_ix (se_var (i := 1)) se_int)) sp_nil))))))
theorem h_multiply {f : Addr} {fd : FuncData} (F : FnP K "multiply" (top 26) f fd) (hm : mg "multiply" = some (.ref f)) (bl : ∀ x ∈ blt, mg x = none) (h_reduced : Has P w K mg base 2 "reduced" ["top", "bottom"] m_reduced) : Has P w K mg base 3 "multiply" ["one", "late"] m_multiply :=
  (h0_multiply F hm bl h_reduced).imp fun ds k h => le_mul m_reduced ds k h
theorem S_divide : FnScope N_divide ["one", "late"] (defScope (top 27)) := ⟨rfl, rfl, rfl, by decide +kernel, rfl, by decide +kernel, by decide +kernel⟩
theorem h0_divide {f : Addr} {fd : FuncData} (F : FnP K "divide" (top 27) f fd) (hm : mg "divide" = some (.ref f)) (bl : ∀ x ∈ blt, mg x = none) (h_reduced : Has P w K mg base 2 "reduced" ["top", "bottom"] m_reduced) : Has P w K mg base 3 "divide" ["one", "late"] m0_divide :=
  has_of (l := 2) (N := N_divide) F S_divide hm (F.bindsN fun _ _ _ _ _ _ us hl => match us, hl with | [_, _], _ => rfl) (fun W cdv A outer s H E hr =>
  (ss_one (ss_ret (se_call (h_reduced.mono (by decide)) hr (sp_cons (se_bin op_muls ok_mul (se_ix (se_var (i := 0)) se_int) (se_ix (se_var (i := 1)) se_int)) (sp_cons (se_bin op_muls ok_mul (se_ix (se_var (i := 0)) se_int) (se_ix (se_var (i := 1)) se_int)) sp_nil))))))
theorem h_divide {f : Addr} {fd : FuncData} (F : FnP K "divide" (top 27) f fd) (hm : mg "divide" = some (.ref f)) (bl : ∀ x ∈ blt, mg x = none) (h_reduced : Has P w K mg base 2 "reduced" ["top", "bottom"] m_reduced) : Has P w K mg base 3 "divide" ["one", "late"] m_divide :=
  (h0_divide F hm bl h_reduced).imp fun ds k h => le_div m_reduced ds k h
theorem S_is_below : FnScope N_is_below ["one", "late"] (defScope (top 28)) := ⟨rfl, rfl, rfl, by decide +kernel, rfl, by decide +kernel, by decide +kernel⟩
theorem h0_is_below {f : Addr} {fd : FuncData} (F : FnP K "is_below" (top 28) f fd) (hm : mg "is_below" = some (.ref f)) (bl : ∀ x ∈ blt, mg x = none)  : Has P w K mg base 1 "is_below" ["one", "late"] m0_is_below :=
  has_of (l := 0) (N := N_is_below) F S_is_below hm (F.bindsN fun _ _ _ _ _ _ us hl => match us, hl with | [_, _], _ => rfl) (fun W cdv A outer s H E hr =>
  (ss_one (ss_ret (se_cmp op_lt ok_I (se_bin op_muls ok_mul (se_ix (se_var (i := 0)) se_int) (se_ix (se_var (i := 1)) se_int)) (se_bin op_muls ok_mul (se_ix (se_var (i := 1)) se_int) (se_ix (se_var (i := 0)) se_int))))))
theorem h_is_below {f : Addr} {fd : FuncData} (F : FnP K "is_below" (top 28) f fd) (hm : mg "is_below" = some (.ref f)) (bl : ∀ x ∈ blt, mg x = none)  : Has P w K mg base 1 "is_below" ["one", "late"] m_is_below :=
  (h0_is_below F hm bl ).imp fun ds k h => le_below ds k h
theorem S_total : FnScope N_total ["some"] (defScope (top 29)) := ⟨rfl, rfl, rfl, by decide +kernel, rfl, by decide +kernel, by decide +kernel⟩
theorem h_total {f : Addr} {fd : FuncData} (F : FnP K "total" (top 29) f fd) (hm : mg "total" = some (.ref f)) (bl : ∀ x ∈ blt, mg x = none) (g_NOUGHT : Glo K mg "NOUGHT" c_NOUGHT) (h_add : Has P w K mg base 3 "add" ["one", "late"] m_add) : Has P w K mg base 4 "total" ["some"] m_total :=
  has_of (l := 3) (N := N_total) F S_total hm (F.bindsN fun _ _ _ _ _ _ us hl => match us, hl with | [_], _ => rfl) (fun W cdv A outer s H E hr =>
  (ss_cons (ss_set (i := 1) S_total.nd (se_glob g_NOUGHT))
  (ss_cons (ss_for PassesOwn.never rfl (si_seq (se_var (i := 0))) (sg_n (i := 2) S_total.nd) (ss_one (ss_set (i := 1) S_total.nd (se_call (h_add.mono (by decide)) hr (sp_cons (se_var (i := 1)) (sp_cons (se_var (i := 2)) sp_nil))))))
  (ss_one (ss_ret (se_var (i := 1)))))))
theorem S_are_children_of : FnScope N_are_children_of ["value"] (defScope (top 36)) := ⟨rfl, rfl, rfl, by decide +kernel, rfl, by decide +kernel, by decide +kernel⟩
theorem h_are_children_of {f : Addr} {fd : FuncData} (F : FnP K "are_children_of" (top 36) f fd) (hm : mg "are_children_of" = some (.ref f)) (bl : ∀ x ∈ blt, mg x = none) (g_MOST_CHANCES : Glo K mg "MOST_CHANCES" c_MOST_CHANCES) (g_ONE : Glo K mg "ONE" c_ONE) (h_is_list : Has P w K mg base 1 "is_list" ["value"] m_is_list) (h_is_fraction_of : Has P w K mg base 2 "is_fraction_of" ["value"] m_is_fraction_of) (h_total : Has P w K mg base 4 "total" ["some"] m_total) : Has P w K mg base 5 "are_children_of" ["value"] m_are_children_of :=
  has_of (l := 4) (N := N_are_children_of) F S_are_children_of hm (F.bindsN fun _ _ _ _ _ _ us hl => match us, hl with | [_], _ => rfl) (fun W cdv A outer s H E hr =>
  (ss_cons (ss_if ((sw_or (st_not (st_val (se_call (h_is_list.mono (by decide)) hr (sp_cons (se_var (i := 0)) sp_nil)))) (sw_or1 (st_not (st_chain op_le ok_I op_le ok_I se_int (se_cb call_len_seq ok_len (bl "len" (by decide)) (sa_cons (se_var (i := 0)) sa_nil)) (se_glob g_MOST_CHANCES)))))).st (ss_one (ss_ret se_bl)) ss_nil)
  (ss_one (ss_ret (se_and (se_cb (cr_all rfl) ok_all (bl "all" (by decide)) (sa_cons (se_lc (own := [("one", 1)]) (vs := [1]) rfl S_are_children_of.nd (si_seq (se_var (i := 0))) (blkOk_by (N := N_are_children_of) (sc := defScope (top 36)) (by decide +kernel)) (fun _ _ _ _ _ => (sg_n (i := 1) S_are_children_of.nd)) (fun _ _ _ _ _ => sts_nil) (fun _ _ _ _ _ => (se_and (se_call (h_is_fraction_of.mono (by decide)) hr (sp_cons (se_var (i := 1)) sp_nil)) (se_one (se_cmp op_ge ok_I (se_ix (se_var (i := 1)) se_int) se_int))))) sa_nil)) (se_one (se_cmp (op_eqD hr.units) ok_eq (se_call (h_total.mono (by decide)) hr (sp_cons (se_cty call_list_of ok_list (bl "list" (by decide)) (sa_cons (se_var (i := 0)) sa_nil)) sp_nil)) (se_glob g_ONE))))))))
theorem S_check_children : FnScope N_check_children ["value"] (defScope (top 37)) := ⟨rfl, rfl, rfl, by decide +kernel, rfl, by decide +kernel, by decide +kernel⟩
theorem h_check_children {f : Addr} {fd : FuncData} (F : FnP K "check_children" (top 37) f fd) (hm : mg "check_children" = some (.ref f)) (bl : ∀ x ∈ blt, mg x = none) (h_are_children_of : Has P w K mg base 5 "are_children_of" ["value"] m_are_children_of) (h_is_short : Has P w K mg base 3 "is_short" ["value"] m_is_short) : Has P w K mg base 6 "check_children" ["value"] m_check_children :=
  has_of (l := 5) (N := N_check_children) F S_check_children hm (F.bindsN fun _ _ _ _ _ _ us hl => match us, hl with | [_], _ => rfl) (fun W cdv A outer s H E hr =>
  (ss_one (ss_if ((sw_or (st_not (st_val (se_call (h_are_children_of.mono (by decide)) hr (sp_cons (se_var (i := 0)) sp_nil)))) (sw_or1 (st_not (st_val (se_cb (cr_all rfl) ok_all (bl "all" (by decide)) (sa_cons (se_lc (own := [("one", 1)]) (vs := [1]) rfl S_check_children.nd (si_seq (se_var (i := 0))) (blkOk_by (N := N_check_children) (sc := defScope (top 37)) (by decide +kernel)) (fun _ _ _ _ _ => (sg_n (i := 1) S_check_children.nd)) (fun _ _ _ _ _ => sts_nil) (fun _ _ _ _ _ => (se_call (h_is_short.mono (by decide)) hr (sp_cons (se_var (i := 1)) sp_nil)))) sa_nil))))))).st (ss_one ss_never) ss_nil)))
theorem S_told_of : FnScope N_told_of ["some"] (defScope (top 38)) := ⟨rfl, rfl, rfl, by decide +kernel, rfl, by decide +kernel, by decide +kernel⟩
theorem h_told_of {f : Addr} {fd : FuncData} (F : FnP K "told_of" (top 38) f fd) (hm : mg "told_of" = some (.ref f)) (bl : ∀ x ∈ blt, mg x = none) (g_NOUGHT : Glo K mg "NOUGHT" c_NOUGHT) : Has P w K mg base 1 "told_of" ["some"] m_told_of :=
  has_of (l := 0) (N := N_told_of) F S_told_of hm (F.bindsN fun _ _ _ _ _ _ us hl => match us, hl with | [_], _ => rfl) (fun W cdv A outer s H E hr =>
  (ss_cons (ss_own (i := 1) S_told_of.nd (sf_list (bl "list" (by decide)) (se_var (i := 0))))
  (ss_cons (ss_wh 1000000 PassesOwn.never (st_bor [1] ((sw_and (st_cmp (op_neD hr.units) ok_ne (se_var (i := 1)) (se_lst sa_nil)) (sw_and1 (st_cmp (op_eqD hr.units) ok_eq (se_ix (se_var (i := 1)) (se_un un_neg ok_neg se_int)) (se_glob g_NOUGHT))))).st) (ss_one (ss_pop (i := 1))))
  (ss_frz (i := 1) (ss_one (ss_ret (se_var (i := 1))))))))
theorem S_product_of : FnScope N_product_of ["one", "late"] (defScope (top 39)) := ⟨rfl, rfl, rfl, by decide +kernel, rfl, by decide +kernel, by decide +kernel⟩
theorem h0_product_of {f : Addr} {fd : FuncData} (F : FnP K "product_of" (top 39) f fd) (hm : mg "product_of" = some (.ref f)) (bl : ∀ x ∈ blt, mg x = none) (g_NOUGHT : Glo K mg "NOUGHT" c_NOUGHT) (h_multiply : Has P w K mg base 3 "multiply" ["one", "late"] m_multiply) (h_add : Has P w K mg base 3 "add" ["one", "late"] m_add) : Has P w K mg base 4 "product_of" ["one", "late"] m0_product_of :=
  has_of (l := 3) (N := N_product_of) F S_product_of hm (F.bindsN fun _ _ _ _ _ _ us hl => match us, hl with | [_, _], _ => rfl) (fun W cdv A outer s H E hr =>
  (ss_cons (ss_own (i := 2) S_product_of.nd (sf_rep (se_lst (sa_cons (se_glob g_NOUGHT) sa_nil)) (se_bin op_subs ok_sub (se_bin op_adds ok_add (se_cb call_len_seq ok_len (bl "len" (by decide)) (sa_cons (se_var (i := 0)) sa_nil)) (se_cb call_len_seq ok_len (bl "len" (by decide)) (sa_cons (se_var (i := 1)) sa_nil))) se_int)))
  (ss_cons (ss_for PassesOwn.never rfl (si_enum (bl "enumerate" (by decide)) (se_var (i := 0))) (sg_t rfl (sgs_cons (sg_n (i := 3) S_product_of.nd) (sgs_cons (sg_n (i := 4) S_product_of.nd) sgs_nil))) (ss_one (ss_for PassesOwn.never rfl (si_enum (bl "enumerate" (by decide)) (se_var (i := 1))) (sg_t rfl (sgs_cons (sg_n (i := 5) S_product_of.nd) (sgs_cons (sg_n (i := 6) S_product_of.nd) sgs_nil))) (ss_one (ss_setix (i := 2) (se_bor [2] (se_call (h_add.mono (by decide)) hr (sp_cons (se_ix (se_var (i := 2)) (se_bin op_adds ok_add (se_var (i := 3)) (se_var (i := 5)))) (sp_cons (se_call (h_multiply.mono (by decide)) hr (sp_cons (se_var (i := 4)) (sp_cons (se_var (i := 6)) sp_nil))) sp_nil)))) (se_bin op_adds ok_add (se_var (i := 3)) (se_var (i := 5))))))))
  (ss_frz (i := 2) (ss_one (ss_ret (se_var (i := 2))))))))
theorem h_product_of {f : Addr} {fd : FuncData} (F : FnP K "product_of" (top 39) f fd) (hm : mg "product_of" = some (.ref f)) (bl : ∀ x ∈ blt, mg x = none) (g_NOUGHT : Glo K mg "NOUGHT" c_NOUGHT) (h_multiply : Has P w K mg base 3 "multiply" ["one", "late"] m_multiply) (h_add : Has P w K mg base 3 "add" ["one", "late"] m_add) : Has P w K mg base 4 "product_of" ["one", "late"] m_product_of :=
  (h0_product_of F hm bl g_NOUGHT h_multiply h_add).imp fun ds k h => le_prod m_add m_multiply c_NOUGHT ds k h
theorem S_put_of : FnScope N_put_of ["children", "late"] (defScope (top 40)) := ⟨rfl, rfl, rfl, by decide +kernel, rfl, by decide +kernel, by decide +kernel⟩
theorem h_put_of {f : Addr} {fd : FuncData} (F : FnP K "put_of" (top 40) f fd) (hm : mg "put_of" = some (.ref f)) (bl : ∀ x ∈ blt, mg x = none) (g_NOUGHT : Glo K mg "NOUGHT" c_NOUGHT) (g_ONE : Glo K mg "ONE" c_ONE) (h_told_of : Has P w K mg base 1 "told_of" ["some"] m_told_of) (h_multiply : Has P w K mg base 3 "multiply" ["one", "late"] m_multiply) (h_add : Has P w K mg base 3 "add" ["one", "late"] m_add) (h_product_of : Has P w K mg base 4 "product_of" ["one", "late"] m_product_of) : Has P w K mg base 5 "put_of" ["children", "late"] m_put_of :=
  has_of (l := 4) (N := N_put_of) F S_put_of hm (F.bindsN fun _ _ _ _ _ _ us hl => match us, hl with | [_, _], _ => rfl) (fun W cdv A outer s H E hr =>
  (ss_cons (ss_par (i := 2) (j := 3) rfl S_put_of.nd (sa_cons (se_lst (sa_cons (se_glob g_NOUGHT) sa_nil)) (sa_cons (se_lst (sa_cons (se_glob g_ONE) sa_nil)) sa_nil)))
  (ss_cons (ss_for PassesOwn.never rfl (si_seq (se_call (h_told_of.mono (by decide)) hr (sp_cons (se_var (i := 0)) sp_nil))) (sg_n (i := 4) S_put_of.nd) (ss_cons (ss_set (i := 5) S_put_of.nd (se_bin op_adds ok_add (se_var (i := 2)) (se_bin op_muls ok_mul (se_lst (sa_cons (se_glob g_NOUGHT) sa_nil)) (se_bin op_subs ok_sub (se_cb call_len_seq ok_len (bl "len" (by decide)) (sa_cons (se_var (i := 3)) sa_nil)) (se_cb call_len_seq ok_len (bl "len" (by decide)) (sa_cons (se_var (i := 2)) sa_nil))))))
  (ss_cons (ss_set (i := 6) S_put_of.nd (se_bin op_adds ok_add (se_var (i := 3)) (se_bin op_muls ok_mul (se_lst (sa_cons (se_glob g_NOUGHT) sa_nil)) (se_bin op_subs ok_sub (se_cb call_len_seq ok_len (bl "len" (by decide)) (sa_cons (se_var (i := 5)) sa_nil)) (se_cb call_len_seq ok_len (bl "len" (by decide)) (sa_cons (se_var (i := 3)) sa_nil))))))
  (ss_cons (ss_setlc (se_setlc (i := 2) (own := [("near", 8), ("far", 7)]) (vs := [8, 7]) rfl S_put_of.nd rfl rfl (sw_true rfl rfl rfl (by decide +kernel)) (si_zip (bl "zip" (by decide)) (se_var (i := 5)) (se_var (i := 6))) (blkOk_by (N := N_put_of) (sc := defScope (top 40)) (by decide +kernel)) (fun _ _ _ _ _ => (sg_t rfl (sgs_cons (sg_n (i := 8) S_put_of.nd) (sgs_cons (sg_n (i := 7) S_put_of.nd) sgs_nil)))) (fun _ _ _ _ _ => sts_nil) (fun _ _ _ _ _ => (se_call (h_add.mono (by decide)) hr (sp_cons (se_var (i := 8)) (sp_cons (se_call (h_multiply.mono (by decide)) hr (sp_cons (se_var (i := 4)) (sp_cons (se_var (i := 7)) sp_nil))) sp_nil))))))
  (ss_one (ss_set (i := 3) S_put_of.nd (se_call (h_product_of.mono (by decide)) hr (sp_cons (se_var (i := 3)) (sp_cons (se_call (h_told_of.mono (by decide)) hr (sp_cons (se_var (i := 1)) sp_nil)) sp_nil)))))))))
  (ss_one (ss_ret (se_call (h_told_of.mono (by decide)) hr (sp_cons (se_var (i := 2)) sp_nil)))))))
theorem S_want_sizes : FnScope N_want_sizes ["children", "late"] (defScope (top 41)) := ⟨rfl, rfl, rfl, by decide +kernel, rfl, by decide +kernel, by decide +kernel⟩
theorem h_want_sizes {f : Addr} {fd : FuncData} (F : FnP K "want_sizes" (top 41) f fd) (hm : mg "want_sizes" = some (.ref f)) (bl : ∀ x ∈ blt, mg x = none) (g_MOST_SIZES : Glo K mg "MOST_SIZES" c_MOST_SIZES) (h_told_of : Has P w K mg base 1 "told_of" ["some"] m_told_of) (h_want_at_most : Has P w K mg base 1 "want_at_most" ["what", "limit", "number"] m_want_at_most) : Has P w K mg base 2 "want_sizes" ["children", "late"] m_want_sizes :=
  has_of (l := 1) (N := N_want_sizes) F S_want_sizes hm (F.bindsN fun _ _ _ _ _ _ us hl => match us, hl with | [_, _], _ => rfl) (fun W cdv A outer s H E hr =>
  (ss_one (ss_expr (se_call (h_want_at_most.mono (by decide)) hr (sp_cons se_str (sp_cons (se_glob g_MOST_SIZES) (sp_cons (se_bin op_muls ok_mul (se_bin op_subs ok_sub (se_cb call_len_seq ok_len (bl "len" (by decide)) (sa_cons (se_call (h_told_of.mono (by decide)) hr (sp_cons (se_var (i := 0)) sp_nil)) sa_nil)) se_int) (se_bin op_subs ok_sub (se_cb call_len_seq ok_len (bl "len" (by decide)) (sa_cons (se_call (h_told_of.mono (by decide)) hr (sp_cons (se_var (i := 1)) sp_nil)) sa_nil)) se_int)) sp_nil)))))))
theorem S_mean_by : FnScope N_mean_by ["children"] (defScope (top 42)) := ⟨rfl, rfl, rfl, by decide +kernel, rfl, by decide +kernel, by decide +kernel⟩
theorem h_mean_by {f : Addr} {fd : FuncData} (F : FnP K "mean_by" (top 42) f fd) (hm : mg "mean_by" = some (.ref f)) (bl : ∀ x ∈ blt, mg x = none) (h_multiply : Has P w K mg base 3 "multiply" ["one", "late"] m_multiply) (h_total : Has P w K mg base 4 "total" ["some"] m_total) : Has P w K mg base 5 "mean_by" ["children"] m_mean_by :=
  has_of (l := 4) (N := N_mean_by) F S_mean_by hm (F.bindsN fun _ _ _ _ _ _ us hl => match us, hl with | [_], _ => rfl) (fun W cdv A outer s H E hr =>
  (ss_one (ss_ret (se_call (h_total.mono (by decide)) hr (sp_cons (se_lc (own := [("at", 2), ("one", 1)]) (vs := [2, 1]) rfl S_mean_by.nd (si_enum (bl "enumerate" (by decide)) (se_var (i := 0))) (blkOk_by (N := N_mean_by) (sc := defScope (top 42)) (by decide +kernel)) (fun _ _ _ _ _ => (sg_t rfl (sgs_cons (sg_n (i := 2) S_mean_by.nd) (sgs_cons (sg_n (i := 1) S_mean_by.nd) sgs_nil)))) (fun _ _ _ _ _ => sts_nil) (fun _ _ _ _ _ => (se_call (h_multiply.mono (by decide)) hr (sp_cons (se_var (i := 1)) (sp_cons (se_tup (sa_cons (se_var (i := 2)) (sa_cons se_int sa_nil))) sp_nil))))) sp_nil)))))
theorem S_spread_by : FnScope N_spread_by ["children"] (defScope (top 43)) := ⟨rfl, rfl, rfl, by decide +kernel, rfl, by decide +kernel, by decide +kernel⟩
theorem h_spread_by {f : Addr} {fd : FuncData} (F : FnP K "spread_by" (top 43) f fd) (hm : mg "spread_by" = some (.ref f)) (bl : ∀ x ∈ blt, mg x = none) (h_mean_by : Has P w K mg base 5 "mean_by" ["children"] m_mean_by) (h_multiply : Has P w K mg base 3 "multiply" ["one", "late"] m_multiply) (h_total : Has P w K mg base 4 "total" ["some"] m_total) (h_take : Has P w K mg base 3 "take" ["one", "late"] m_take) : Has P w K mg base 6 "spread_by" ["children"] m_spread_by :=
  has_of (l := 5) (N := N_spread_by) F S_spread_by hm (F.bindsN fun _ _ _ _ _ _ us hl => match us, hl with | [_], _ => rfl) (fun W cdv A outer s H E hr =>
  (ss_cons (ss_set (i := 1) S_spread_by.nd (se_call (h_mean_by.mono (by decide)) hr (sp_cons (se_var (i := 0)) sp_nil)))
  (ss_one (ss_ret (se_call (h_take.mono (by decide)) hr (sp_cons (se_call (h_total.mono (by decide)) hr (sp_cons (se_lc (own := [("at", 3), ("one", 2)]) (vs := [3, 2]) rfl S_spread_by.nd (si_enum (bl "enumerate" (by decide)) (se_var (i := 0))) (blkOk_by (N := N_spread_by) (sc := defScope (top 43)) (by decide +kernel)) (fun _ _ _ _ _ => (sg_t rfl (sgs_cons (sg_n (i := 3) S_spread_by.nd) (sgs_cons (sg_n (i := 2) S_spread_by.nd) sgs_nil)))) (fun _ _ _ _ _ => sts_nil) (fun _ _ _ _ _ => (se_call (h_multiply.mono (by decide)) hr (sp_cons (se_var (i := 2)) (sp_cons (se_tup (sa_cons (se_bin op_muls ok_mul (se_var (i := 3)) (se_var (i := 3))) (sa_cons se_int sa_nil))) sp_nil))))) sp_nil)) (sp_cons (se_call (h_multiply.mono (by decide)) hr (sp_cons (se_var (i := 1)) (sp_cons (se_var (i := 1)) sp_nil))) sp_nil)))))))
theorem S_number_of : FnScope N_number_of ["children", "fraction"] (defScope (top 44)) := ⟨rfl, rfl, rfl, by decide +kernel, rfl, by decide +kernel, by decide +kernel⟩
theorem h_number_of {f : Addr} {fd : FuncData} (F : FnP K "number_of" (top 44) f fd) (hm : mg "number_of" = some (.ref f)) (bl : ∀ x ∈ blt, mg x = none) (g_NOUGHT : Glo K mg "NOUGHT" c_NOUGHT) (h_multiply : Has P w K mg base 3 "multiply" ["one", "late"] m_multiply) (h_add : Has P w K mg base 3 "add" ["one", "late"] m_add) : Has P w K mg base 4 "number_of" ["children", "fraction"] m_number_of :=
  has_of (l := 3) (N := N_number_of) F S_number_of hm (F.bindsN fun _ _ _ _ _ _ us hl => match us, hl with | [_, _], _ => rfl) (fun W cdv A outer s H E hr =>
  (ss_cons (ss_set (i := 2) S_number_of.nd (se_glob g_NOUGHT))
  (ss_cons (ss_for PassesOwn.never rfl (si_seq (se_rev (se_cty call_list_of ok_list (bl "list" (by decide)) (sa_cons (se_var (i := 0)) sa_nil)))) (sg_n (i := 3) S_number_of.nd) (ss_one (ss_set (i := 2) S_number_of.nd (se_call (h_add.mono (by decide)) hr (sp_cons (se_call (h_multiply.mono (by decide)) hr (sp_cons (se_var (i := 2)) (sp_cons (se_var (i := 1)) sp_nil))) (sp_cons (se_var (i := 3)) sp_nil))))))
  (ss_one (ss_ret (se_var (i := 2)))))))
theorem S_power_of : FnScope N_power_of ["number", "many"] (defScope (top 45)) := ⟨rfl, rfl, rfl, by decide +kernel, rfl, by decide +kernel, by decide +kernel⟩
theorem h_power_of {f : Addr} {fd : FuncData} (F : FnP K "power_of" (top 45) f fd) (hm : mg "power_of" = some (.ref f)) (bl : ∀ x ∈ blt, mg x = none) (g_ONE : Glo K mg "ONE" c_ONE) (h_multiply : Has P w K mg base 3 "multiply" ["one", "late"] m_multiply) : Has P w K mg base 4 "power_of" ["number", "many"] m_power_of :=
  has_of (l := 3) (N := N_power_of) F S_power_of hm (F.bindsN fun _ _ _ _ _ _ us hl => match us, hl with | [_, _], _ => rfl) (fun W cdv A outer s H E hr =>
  (ss_cons (ss_set (i := 2) S_power_of.nd (se_glob g_ONE))
  (ss_cons (ss_for PassesOwn.never rfl (si_range1 (bl "range" (by decide)) (se_var (i := 1))) (sg_n (i := 3) S_power_of.nd) (ss_one (ss_set (i := 2) S_power_of.nd (se_call (h_multiply.mono (by decide)) hr (sp_cons (se_var (i := 2)) (sp_cons (se_var (i := 0)) sp_nil))))))
  (ss_one (ss_ret (se_var (i := 2)))))))
theorem S_are_children : FnScope N_are_children ["value"] (defScope (top 46)) := ⟨rfl, rfl, rfl, by decide +kernel, rfl, by decide +kernel, by decide +kernel⟩
theorem h_are_children {f : Addr} {fd : FuncData} (F : FnP K "are_children" (top 46) f fd) (hm : mg "are_children" = some (.ref f)) (bl : ∀ x ∈ blt, mg x = none) (h_are_children_of : Has P w K mg base 5 "are_children_of" ["value"] m_are_children_of) : Has P w K mg base 6 "are_children" ["value"] m_are_children :=
  has_of (l := 5) (N := N_are_children) F S_are_children hm (F.bindsN fun _ _ _ _ _ _ us hl => match us, hl with | [_], _ => rfl) (fun W cdv A outer s H E hr =>
  (ss_one (ss_ret (se_call (h_are_children_of.mono (by decide)) hr (sp_cons (se_var (i := 0)) sp_nil)))))
theorem S_child_mean : FnScope N_child_mean ["children"] (defScope (top 47)) := ⟨rfl, rfl, rfl, by decide +kernel, rfl, by decide +kernel, by decide +kernel⟩
theorem h_child_mean {f : Addr} {fd : FuncData} (F : FnP K "child_mean" (top 47) f fd) (hm : mg "child_mean" = some (.ref f)) (bl : ∀ x ∈ blt, mg x = none) (h_check_children : Has P w K mg base 6 "check_children" ["value"] m_check_children) (h_mean_by : Has P w K mg base 5 "mean_by" ["children"] m_mean_by) : Has P w K mg base 7 "child_mean" ["children"] m_child_mean :=
  has_of (l := 6) (N := N_child_mean) F S_child_mean hm (F.bindsN fun _ _ _ _ _ _ us hl => match us, hl with | [_], _ => rfl) (fun W cdv A outer s H E hr =>
  (ss_cons (ss_expr (se_call (h_check_children.mono (by decide)) hr (sp_cons (se_var (i := 0)) sp_nil)))
  (ss_one (ss_ret (se_call (h_mean_by.mono (by decide)) hr (sp_cons (se_var (i := 0)) sp_nil))))))
theorem S_child_spread : FnScope N_child_spread ["children"] (defScope (top 48)) := ⟨rfl, rfl, rfl, by decide +kernel, rfl, by decide +kernel, by decide +kernel⟩
theorem h_child_spread {f : Addr} {fd : FuncData} (F : FnP K "child_spread" (top 48) f fd) (hm : mg "child_spread" = some (.ref f)) (bl : ∀ x ∈ blt, mg x = none) (h_check_children : Has P w K mg base 6 "check_children" ["value"] m_check_children) (h_spread_by : Has P w K mg base 6 "spread_by" ["children"] m_spread_by) : Has P w K mg base 7 "child_spread" ["children"] m_child_spread :=
  has_of (l := 6) (N := N_child_spread) F S_child_spread hm (F.bindsN fun _ _ _ _ _ _ us hl => match us, hl with | [_], _ => rfl) (fun W cdv A outer s H E hr =>
  (ss_cons (ss_expr (se_call (h_check_children.mono (by decide)) hr (sp_cons (se_var (i := 0)) sp_nil)))
  (ss_one (ss_ret (se_call (h_spread_by.mono (by decide)) hr (sp_cons (se_var (i := 0)) sp_nil))))))
theorem S_number_at : FnScope N_number_at ["children", "fraction"] (defScope (top 49)) := ⟨rfl, rfl, rfl, by decide +kernel, rfl, by decide +kernel, by decide +kernel⟩
theorem h_number_at {f : Addr} {fd : FuncData} (F : FnP K "number_at" (top 49) f fd) (hm : mg "number_at" = some (.ref f)) (bl : ∀ x ∈ blt, mg x = none) (g_ONE : Glo K mg "ONE" c_ONE) (h_check_children : Has P w K mg base 6 "check_children" ["value"] m_check_children) (h_check_fraction : Has P w K mg base 4 "check_fraction" ["value"] m_check_fraction) (h_is_below : Has P w K mg base 1 "is_below" ["one", "late"] m_is_below) (h_number_of : Has P w K mg base 4 "number_of" ["children", "fraction"] m_number_of) : Has P w K mg base 7 "number_at" ["children", "fraction"] m_number_at :=
  has_of (l := 6) (N := N_number_at) F S_number_at hm (F.bindsN fun _ _ _ _ _ _ us hl => match us, hl with | [_, _], _ => rfl) (fun W cdv A outer s H E hr =>
  (ss_cons (ss_expr (se_call (h_check_children.mono (by decide)) hr (sp_cons (se_var (i := 0)) sp_nil)))
  (ss_cons (ss_expr (se_call (h_check_fraction.mono (by decide)) hr (sp_cons (se_var (i := 1)) sp_nil)))
  (ss_cons (ss_if ((sw_or (st_cmp op_lt ok_I (se_ix (se_var (i := 1)) se_int) se_int) (sw_or1 (st_val (se_call (h_is_below.mono (by decide)) hr (sp_cons (se_glob g_ONE) (sp_cons (se_var (i := 1)) sp_nil))))))).st (ss_one ss_never) ss_nil)
  (ss_one (ss_ret (se_call (h_number_of.mono (by decide)) hr (sp_cons (se_var (i := 0)) (sp_cons (se_var (i := 1)) sp_nil)))))))))
theorem S_mean_size : FnScope N_mean_size ["children", "many"] (defScope (top 50)) := ⟨rfl, rfl, rfl, by decide +kernel, rfl, by decide +kernel, by decide +kernel⟩
theorem h_mean_size {f : Addr} {fd : FuncData} (F : FnP K "mean_size" (top 50) f fd) (hm : mg "mean_size" = some (.ref f)) (bl : ∀ x ∈ blt, mg x = none) (g_MOST_TIME : Glo K mg "MOST_TIME" c_MOST_TIME) (h_check_children : Has P w K mg base 6 "check_children" ["value"] m_check_children) (h_check_number : Has P w K mg base 3 "check_number" ["value", "least", "most"] m_check_number) (h_mean_by : Has P w K mg base 5 "mean_by" ["children"] m_mean_by) (h_power_of : Has P w K mg base 4 "power_of" ["number", "many"] m_power_of) : Has P w K mg base 7 "mean_size" ["children", "many"] m_mean_size :=
  has_of (l := 6) (N := N_mean_size) F S_mean_size hm (F.bindsN fun _ _ _ _ _ _ us hl => match us, hl with | [_, _], _ => rfl) (fun W cdv A outer s H E hr =>
  (ss_cons (ss_expr (se_call (h_check_children.mono (by decide)) hr (sp_cons (se_var (i := 0)) sp_nil)))
  (ss_cons (ss_expr (se_call (h_check_number.mono (by decide)) hr (sp_cons (se_var (i := 1)) (sp_cons se_int (sp_cons (se_glob g_MOST_TIME) sp_nil)))))
  (ss_one (ss_ret (se_call (h_power_of.mono (by decide)) hr (sp_cons (se_call (h_mean_by.mono (by decide)) hr (sp_cons (se_var (i := 0)) sp_nil)) (sp_cons (se_var (i := 1)) sp_nil))))))))
theorem S_spread_size : FnScope N_spread_size ["children", "many"] (defScope (top 51)) := ⟨rfl, rfl, rfl, by decide +kernel, rfl, by decide +kernel, by decide +kernel⟩
theorem h_spread_size {f : Addr} {fd : FuncData} (F : FnP K "spread_size" (top 51) f fd) (hm : mg "spread_size" = some (.ref f)) (bl : ∀ x ∈ blt, mg x = none) (g_MOST_TIME : Glo K mg "MOST_TIME" c_MOST_TIME) (g_NOUGHT : Glo K mg "NOUGHT" c_NOUGHT) (h_check_children : Has P w K mg base 6 "check_children" ["value"] m_check_children) (h_check_number : Has P w K mg base 3 "check_number" ["value", "least", "most"] m_check_number) (h_mean_by : Has P w K mg base 5 "mean_by" ["children"] m_mean_by) (h_spread_by : Has P w K mg base 6 "spread_by" ["children"] m_spread_by) (h_power_of : Has P w K mg base 4 "power_of" ["number", "many"] m_power_of) (h_multiply : Has P w K mg base 3 "multiply" ["one", "late"] m_multiply) (h_add : Has P w K mg base 3 "add" ["one", "late"] m_add) : Has P w K mg base 7 "spread_size" ["children", "many"] m_spread_size :=
  has_of (l := 6) (N := N_spread_size) F S_spread_size hm (F.bindsN fun _ _ _ _ _ _ us hl => match us, hl with | [_, _], _ => rfl) (fun W cdv A outer s H E hr =>
  (ss_cons (ss_expr (se_call (h_check_children.mono (by decide)) hr (sp_cons (se_var (i := 0)) sp_nil)))
  (ss_cons (ss_expr (se_call (h_check_number.mono (by decide)) hr (sp_cons (se_var (i := 1)) (sp_cons se_int (sp_cons (se_glob g_MOST_TIME) sp_nil)))))
  (ss_cons (ss_par3 (i := 2) (j := 3) (l := 4) rfl S_spread_size.nd (sa_cons (se_call (h_mean_by.mono (by decide)) hr (sp_cons (se_var (i := 0)) sp_nil)) (sa_cons (se_call (h_spread_by.mono (by decide)) hr (sp_cons (se_var (i := 0)) sp_nil)) (sa_cons (se_glob g_NOUGHT) sa_nil))))
  (ss_cons (ss_for PassesOwn.never rfl (si_range1 (bl "range" (by decide)) (se_var (i := 1))) (sg_n (i := 5) S_spread_size.nd) (ss_one (ss_set (i := 4) S_spread_size.nd (se_call (h_add.mono (by decide)) hr (sp_cons (se_call (h_multiply.mono (by decide)) hr (sp_cons (se_var (i := 4)) (sp_cons (se_call (h_multiply.mono (by decide)) hr (sp_cons (se_var (i := 2)) (sp_cons (se_var (i := 2)) sp_nil))) sp_nil))) (sp_cons (se_call (h_multiply.mono (by decide)) hr (sp_cons (se_var (i := 3)) (sp_cons (se_call (h_power_of.mono (by decide)) hr (sp_cons (se_var (i := 2)) (sp_cons (se_var (i := 5)) sp_nil))) sp_nil))) sp_nil))))))
  (ss_one (ss_ret (se_var (i := 4)))))))))
theorem S_put_into : FnScope N_put_into ["children", "late"] (defScope (top 52)) := ⟨rfl, rfl, rfl, by decide +kernel, rfl, by decide +kernel, by decide +kernel⟩
theorem h_put_into {f : Addr} {fd : FuncData} (F : FnP K "put_into" (top 52) f fd) (hm : mg "put_into" = some (.ref f)) (bl : ∀ x ∈ blt, mg x = none) (h_check_children : Has P w K mg base 6 "check_children" ["value"] m_check_children) (h_want_sizes : Has P w K mg base 2 "want_sizes" ["children", "late"] m_want_sizes) (h_put_of : Has P w K mg base 5 "put_of" ["children", "late"] m_put_of) : Has P w K mg base 7 "put_into" ["children", "late"] m_put_into :=
  has_of (l := 6) (N := N_put_into) F S_put_into hm (F.bindsN fun _ _ _ _ _ _ us hl => match us, hl with | [_, _], _ => rfl) (fun W cdv A outer s H E hr =>
  (ss_cons (ss_expr (se_call (h_check_children.mono (by decide)) hr (sp_cons (se_var (i := 0)) sp_nil)))
  (ss_cons (ss_expr (se_call (h_check_children.mono (by decide)) hr (sp_cons (se_var (i := 1)) sp_nil)))
  (ss_cons (ss_expr (se_call (h_want_sizes.mono (by decide)) hr (sp_cons (se_var (i := 0)) (sp_cons (se_var (i := 1)) sp_nil))))
  (ss_one (ss_ret (se_call (h_put_of.mono (by decide)) hr (sp_cons (se_var (i := 0)) (sp_cons (se_var (i := 1)) sp_nil)))))))))
theorem S_size_chances : FnScope N_size_chances ["children", "many"] (defScope (top 53)) := ⟨rfl, rfl, rfl, by decide +kernel, rfl, by decide +kernel, by decide +kernel⟩
theorem h_size_chances {f : Addr} {fd : FuncData} (F : FnP K "size_chances" (top 53) f fd) (hm : mg "size_chances" = some (.ref f)) (bl : ∀ x ∈ blt, mg x = none) (g_MOST_SIZED : Glo K mg "MOST_SIZED" c_MOST_SIZED) (g_ONE : Glo K mg "ONE" c_ONE) (g_NOUGHT : Glo K mg "NOUGHT" c_NOUGHT) (h_check_children : Has P w K mg base 6 "check_children" ["value"] m_check_children) (h_check_number : Has P w K mg base 3 "check_number" ["value", "least", "most"] m_check_number) (h_want_sizes : Has P w K mg base 2 "want_sizes" ["children", "late"] m_want_sizes) (h_put_of : Has P w K mg base 5 "put_of" ["children", "late"] m_put_of) : Has P w K mg base 7 "size_chances" ["children", "many"] m_size_chances :=
  has_of (l := 6) (N := N_size_chances) F S_size_chances hm (F.bindsN fun _ _ _ _ _ _ us hl => match us, hl with | [_, _], _ => rfl) (fun W cdv A outer s H E hr =>
  (ss_cons (ss_expr (se_call (h_check_children.mono (by decide)) hr (sp_cons (se_var (i := 0)) sp_nil)))
  (ss_cons (ss_expr (se_call (h_check_number.mono (by decide)) hr (sp_cons (se_var (i := 1)) (sp_cons se_int (sp_cons (se_glob g_MOST_SIZED) sp_nil)))))
  (ss_cons (ss_set (i := 2) S_size_chances.nd (se_lst (sa_cons (se_glob g_NOUGHT) (sa_cons (se_glob g_ONE) sa_nil))))
  (ss_cons (ss_for PassesOwn.never rfl (si_range1 (bl "range" (by decide)) (se_var (i := 1))) (sg_n (i := 3) S_size_chances.nd) (ss_cons (ss_expr (se_call (h_want_sizes.mono (by decide)) hr (sp_cons (se_var (i := 2)) (sp_cons (se_var (i := 0)) sp_nil))))
  (ss_one (ss_set (i := 2) S_size_chances.nd (se_call (h_put_of.mono (by decide)) hr (sp_cons (se_var (i := 2)) (sp_cons (se_var (i := 0)) sp_nil)))))))
  (ss_one (ss_ret (se_var (i := 2)))))))))
theorem S_born_chance : FnScope N_born_chance ["children", "many"] (defScope (top 54)) := ⟨rfl, rfl, rfl, by decide +kernel, rfl, by decide +kernel, by decide +kernel⟩
theorem h_born_chance {f : Addr} {fd : FuncData} (F : FnP K "born_chance" (top 54) f fd) (hm : mg "born_chance" = some (.ref f)) (bl : ∀ x ∈ blt, mg x = none) (g_MOST_BORN : Glo K mg "MOST_BORN" c_MOST_BORN) (g_ONE : Glo K mg "ONE" c_ONE) (g_NOUGHT : Glo K mg "NOUGHT" c_NOUGHT) (h_check_children : Has P w K mg base 6 "check_children" ["value"] m_check_children) (h_check_number : Has P w K mg base 3 "check_number" ["value", "least", "most"] m_check_number) (h_product_of : Has P w K mg base 4 "product_of" ["one", "late"] m_product_of) (h_divide : Has P w K mg base 3 "divide" ["one", "late"] m_divide) : Has P w K mg base 7 "born_chance" ["children", "many"] m_born_chance :=
  has_of (l := 6) (N := N_born_chance) F S_born_chance hm (F.bindsN fun _ _ _ _ _ _ us hl => match us, hl with | [_, _], _ => rfl) (fun W cdv A outer s H E hr =>
  (ss_cons (ss_expr (se_call (h_check_children.mono (by decide)) hr (sp_cons (se_var (i := 0)) sp_nil)))
  (ss_cons (ss_expr (se_call (h_check_number.mono (by decide)) hr (sp_cons (se_var (i := 1)) (sp_cons se_int (sp_cons (se_glob g_MOST_BORN) sp_nil)))))
  (ss_cons (ss_set (i := 2) S_born_chance.nd (se_lst (sa_cons (se_glob g_ONE) sa_nil)))
  (ss_cons (ss_for PassesOwn.never rfl (si_range1 (bl "range" (by decide)) (se_var (i := 1))) (sg_n (i := 3) S_born_chance.nd) (ss_one (ss_set (i := 2) S_born_chance.nd (se_call (h_product_of.mono (by decide)) hr (sp_cons (se_var (i := 2)) (sp_cons (se_cty call_list_of ok_list (bl "list" (by decide)) (sa_cons (se_var (i := 0)) sa_nil)) sp_nil))))))
  (ss_one (ss_ret (se_if (st_cmp op_lt ok_I (se_bin op_subs ok_sub (se_var (i := 1)) se_int) (se_cb call_len_seq ok_len (bl "len" (by decide)) (sa_cons (se_var (i := 2)) sa_nil))) (se_call (h_divide.mono (by decide)) hr (sp_cons (se_ix (se_var (i := 2)) (se_bin op_subs ok_sub (se_var (i := 1)) se_int)) (sp_cons (se_tup (sa_cons (se_var (i := 1)) (sa_cons se_int sa_nil))) sp_nil))) (se_glob g_NOUGHT)))))))))
theorem S_is_sure_of : FnScope N_is_sure_of ["children"] (defScope (top 58)) := ⟨rfl, rfl, rfl, by decide +kernel, rfl, by decide +kernel, by decide +kernel⟩
theorem h_is_sure_of {f : Addr} {fd : FuncData} (F : FnP K "is_sure_of" (top 58) f fd) (hm : mg "is_sure_of" = some (.ref f)) (bl : ∀ x ∈ blt, mg x = none) (g_ONE : Glo K mg "ONE" c_ONE) (h_mean_by : Has P w K mg base 5 "mean_by" ["children"] m_mean_by) (h_is_below : Has P w K mg base 1 "is_below" ["one", "late"] m_is_below) : Has P w K mg base 6 "is_sure_of" ["children"] m_is_sure_of :=
  has_of (l := 5) (N := N_is_sure_of) F S_is_sure_of hm (F.bindsN fun _ _ _ _ _ _ us hl => match us, hl with | [_], _ => rfl) (fun W cdv A outer s H E hr =>
  (ss_cons (ss_if ((sw_and (st_cmp op_gt ok_I (se_cb call_len_seq ok_len (bl "len" (by decide)) (sa_cons (se_var (i := 0)) sa_nil)) se_int) (sw_and1 (st_cmp (op_eqD hr.units) ok_eq (se_ix (se_var (i := 0)) se_int) (se_glob g_ONE))))).st (ss_one (ss_ret se_bl)) ss_nil)
  (ss_one (ss_ret (se_not (se_call (h_is_below.mono (by decide)) hr (sp_cons (se_glob g_ONE) (sp_cons (se_call (h_mean_by.mono (by decide)) hr (sp_cons (se_var (i := 0)) sp_nil)) sp_nil))))))))
theorem S_is_live_of : FnScope N_is_live_of ["children", "value"] (defScope (top 59)) := ⟨rfl, rfl, rfl, by decide +kernel, rfl, by decide +kernel, by decide +kernel⟩
theorem h_is_live_of {f : Addr} {fd : FuncData} (F : FnP K "is_live_of" (top 59) f fd) (hm : mg "is_live_of" = some (.ref f)) (bl : ∀ x ∈ blt, mg x = none) (g_ONE : Glo K mg "ONE" c_ONE) (h_is_fraction_of : Has P w K mg base 2 "is_fraction_of" ["value"] m_is_fraction_of) (h_is_below : Has P w K mg base 1 "is_below" ["one", "late"] m_is_below) (h_number_of : Has P w K mg base 4 "number_of" ["children", "fraction"] m_number_of) : Has P w K mg base 5 "is_live_of" ["children", "value"] m_is_live_of :=
  has_of (l := 4) (N := N_is_live_of) F S_is_live_of hm (F.bindsN fun _ _ _ _ _ _ us hl => match us, hl with | [_, _], _ => rfl) (fun W cdv A outer s H E hr =>
  (ss_cons (ss_if ((sw_or (st_not (st_val (se_call (h_is_fraction_of.mono (by decide)) hr (sp_cons (se_var (i := 1)) sp_nil)))) (sw_or (st_cmp op_lt ok_I (se_ix (se_var (i := 1)) se_int) se_int) (sw_or1 (st_not (st_val (se_call (h_is_below.mono (by decide)) hr (sp_cons (se_var (i := 1)) (sp_cons (se_glob g_ONE) sp_nil))))))))).st (ss_one (ss_ret se_bl)) ss_nil)
  (ss_one (ss_ret (se_not (se_call (h_is_below.mono (by decide)) hr (sp_cons (se_var (i := 1)) (sp_cons (se_call (h_number_of.mono (by decide)) hr (sp_cons (se_var (i := 0)) (sp_cons (se_var (i := 1)) sp_nil))) sp_nil))))))))
theorem S_middle_of : FnScope N_middle_of ["low", "high"] (defScope (top 60)) := ⟨rfl, rfl, rfl, by decide +kernel, rfl, by decide +kernel, by decide +kernel⟩
theorem h_middle_of {f : Addr} {fd : FuncData} (F : FnP K "middle_of" (top 60) f fd) (hm : mg "middle_of" = some (.ref f)) (bl : ∀ x ∈ blt, mg x = none) (h_add : Has P w K mg base 3 "add" ["one", "late"] m_add) (h_divide : Has P w K mg base 3 "divide" ["one", "late"] m_divide) : Has P w K mg base 4 "middle_of" ["low", "high"] m_middle_of :=
  has_of (l := 3) (N := N_middle_of) F S_middle_of hm (F.bindsN fun _ _ _ _ _ _ us hl => match us, hl with | [_, _], _ => rfl) (fun W cdv A outer s H E hr =>
  (ss_one (ss_ret (se_call (h_divide.mono (by decide)) hr (sp_cons (se_call (h_add.mono (by decide)) hr (sp_cons (se_var (i := 0)) (sp_cons (se_var (i := 1)) sp_nil))) (sp_cons (se_tup (sa_cons se_int (sa_cons se_int sa_nil))) sp_nil))))))
theorem S_whole_quotient : FnScope N_whole_quotient ["children"] (defScope (top 61)) := ⟨rfl, rfl, rfl, by decide +kernel, rfl, by decide +kernel, by decide +kernel⟩
theorem h_whole_quotient {f : Addr} {fd : FuncData} (F : FnP K "whole_quotient" (top 61) f fd) (hm : mg "whole_quotient" = some (.ref f)) (bl : ∀ x ∈ blt, mg x = none) (h_divisor : Has P w K mg base 1 "divisor" ["one", "late"] m_divisor) : Has P w K mg base 2 "whole_quotient" ["children"] m_whole_quotient :=
  has_of (l := 1) (N := N_whole_quotient) F S_whole_quotient hm (F.bindsN fun _ _ _ _ _ _ us hl => match us, hl with | [_], _ => rfl) (fun W cdv A outer s H E hr =>
  (ss_cons (ss_set (i := 1) S_whole_quotient.nd se_int)
  (ss_cons (ss_for PassesOwn.never rfl (si_seq (se_var (i := 0))) (sg_t rfl (sgs_cons (sg_n (i := 2) S_whole_quotient.nd) (sgs_cons (sg_n (i := 3) S_whole_quotient.nd) sgs_nil))) (ss_one (ss_set (i := 1) S_whole_quotient.nd (se_bin op_muls ok_mul (se_bin op_fdivW ok_fdiv (se_var (i := 1)) (se_call (h_divisor.mono (by decide)) hr (sp_cons (se_var (i := 1)) (sp_cons (se_var (i := 3)) sp_nil)))) (se_var (i := 3))))))
  (ss_cons (ss_ownlc (sf_setlc (i := 4) (own := [("top", 2), ("bottom", 3)]) (vs := [2, 3]) rfl S_whole_quotient.nd rfl rfl (sw_true rfl rfl rfl (by decide +kernel)) (si_seq (se_var (i := 0))) (blkOk_by (N := N_whole_quotient) (sc := defScope (top 61)) (by decide +kernel)) (fun _ _ _ _ _ => (sg_t rfl (sgs_cons (sg_n (i := 2) S_whole_quotient.nd) (sgs_cons (sg_n (i := 3) S_whole_quotient.nd) sgs_nil)))) (fun _ _ _ _ _ => sts_nil) (fun _ _ _ _ _ => (se_bin op_muls ok_mul (se_var (i := 2)) (se_bin op_fdivW ok_fdiv (se_var (i := 1)) (se_var (i := 3)))))))
  (ss_frz (i := 4) (ss_cons (ss_own (i := 4) S_whole_quotient.nd (sf_cat (se_var (i := 4)) (se_bin op_muls ok_mul (se_lst (sa_cons se_int sa_nil)) (se_bin op_subs ok_sub se_int (se_cb call_len_seq ok_len (bl "len" (by decide)) (sa_cons (se_var (i := 4)) sa_nil))))))
  (ss_cons (ss_setix (i := 4) (se_bor [4] (se_bin op_subs ok_sub (se_ix (se_var (i := 4)) se_int) (se_var (i := 1)))) se_int)
  (ss_cons (ss_parFE (i := 5) (j := 6) rfl S_whole_quotient.nd (sf_lst sa_nil) se_int)
  (ss_frz (i := 4) (ss_cons (ss_for PassesOwn.never rfl (si_seq (se_revTo (se_var (i := 4)) se_int)) (sg_n (i := 7) S_whole_quotient.nd) (ss_cons (ss_set (i := 6) S_whole_quotient.nd (se_bin op_adds ok_add (se_var (i := 6)) (se_var (i := 7))))
  (ss_frz (i := 5) (ss_one (ss_own (i := 5) S_whole_quotient.nd (sf_cat (se_lst (sa_cons (se_var (i := 6)) sa_nil)) (se_var (i := 5))))))))
  (ss_cons (ss_wh 1000000 PassesOwn.never (st_bor [5] ((sw_and (st_cmp (op_neD hr.units) ok_ne (se_var (i := 5)) (se_lst sa_nil)) (sw_and1 (st_cmp (op_eqD hr.units) ok_eq (se_ix (se_var (i := 5)) (se_un un_neg ok_neg se_int)) se_int)))).st) (ss_one (ss_pop (i := 5))))
  (ss_frz (i := 5) (ss_one (ss_ret (se_var (i := 5))))))))))))))))
theorem S_sign_of : FnScope N_sign_of ["numbers", "top", "bottom"] (defScope (top 62)) := ⟨rfl, rfl, rfl, by decide +kernel, rfl, by decide +kernel, by decide +kernel⟩
theorem h_sign_of {f : Addr} {fd : FuncData} (F : FnP K "sign_of" (top 62) f fd) (hm : mg "sign_of" = some (.ref f)) (bl : ∀ x ∈ blt, mg x = none)  : Has P w K mg base 1 "sign_of" ["numbers", "top", "bottom"] m_sign_of :=
  has_of (l := 0) (N := N_sign_of) F S_sign_of hm (F.bindsN fun _ _ _ _ _ _ us hl => match us, hl with | [_, _, _], _ => rfl) (fun W cdv A outer s H E hr =>
  (ss_cons (ss_asg (se_tup (sa_cons se_int (sa_cons se_int sa_nil))) (sg_t rfl (sgs_cons (sg_n (i := 3) S_sign_of.nd) (sgs_cons (sg_n (i := 4) S_sign_of.nd) sgs_nil))))
  (ss_cons (ss_for PassesOwn.never rfl (si_seq (se_rev (se_var (i := 0)))) (sg_n (i := 5) S_sign_of.nd) (ss_one (ss_par (i := 3) (j := 4) rfl S_sign_of.nd (sa_cons (se_bin op_adds ok_add (se_bin op_muls ok_mul (se_var (i := 3)) (se_var (i := 1))) (se_bin op_muls ok_mul (se_var (i := 5)) (se_var (i := 4)))) (sa_cons (se_bin op_muls ok_mul (se_var (i := 4)) (se_var (i := 2))) sa_nil)))))
  (ss_one (ss_ret (se_bin op_subs ok_sub (se_cmp op_gt ok_I (se_var (i := 3)) se_int) (se_cmp op_lt ok_I (se_var (i := 3)) se_int)))))))
theorem S_root_between : FnScope N_root_between ["numbers"] (defScope (top 63)) := ⟨rfl, rfl, rfl, by decide +kernel, rfl, by decide +kernel, by decide +kernel⟩
theorem h_root_between {f : Addr} {fd : FuncData} (F : FnP K "root_between" (top 63) f fd) (hm : mg "root_between" = some (.ref f)) (bl : ∀ x ∈ blt, mg x = none) (h_sign_of : Has P w K mg base 1 "sign_of" ["numbers", "top", "bottom"] m_sign_of) (h_reduced : Has P w K mg base 2 "reduced" ["top", "bottom"] m_reduced) : Has P w K mg base 3 "root_between" ["numbers"] m_root_between :=
  has_of (l := 2) (N := N_root_between) F S_root_between hm (F.bindsN fun _ _ _ _ _ _ us hl => match us, hl with | [_], _ => rfl) (fun W cdv A outer s H E hr =>
  (ss_cons (ss_set (i := 1) S_root_between.nd (se_cb call_abs ok_abs (bl "abs" (by decide)) (sa_cons (se_ix (se_var (i := 0)) (se_un un_neg ok_neg se_int)) sa_nil)))
  (ss_cons (ss_par (i := 2) (j := 3) rfl S_root_between.nd (sa_cons se_int (sa_cons (se_var (i := 1)) sa_nil)))
  (ss_cons (ss_wh 1000000 PassesOwn.never (st_cmp op_gt ok_I (se_bin op_subs ok_sub (se_var (i := 3)) (se_var (i := 2))) se_int) (ss_cons (ss_set (i := 4) S_root_between.nd (se_bin op_fdivW ok_fdiv (se_bin op_adds ok_add (se_var (i := 2)) (se_var (i := 3))) se_int))
  (ss_cons (ss_set (i := 5) S_root_between.nd (se_call (h_sign_of.mono (by decide)) hr (sp_cons (se_var (i := 0)) (sp_cons (se_var (i := 4)) (sp_cons (se_var (i := 1)) sp_nil)))))
  (ss_cons (ss_if (st_cmp (op_eqD hr.units) ok_eq (se_var (i := 5)) se_int) (ss_one (ss_ret (se_call (h_reduced.mono (by decide)) hr (sp_cons (se_var (i := 4)) (sp_cons (se_var (i := 1)) sp_nil))))) ss_nil)
  (ss_one (ss_asg (se_if (st_cmp op_lt ok_I (se_var (i := 5)) se_int) (se_tup (sa_cons (se_var (i := 4)) (sa_cons (se_var (i := 3)) sa_nil))) (se_tup (sa_cons (se_var (i := 2)) (sa_cons (se_var (i := 4)) sa_nil)))) (sg_t rfl (sgs_cons (sg_n (i := 2) S_root_between.nd) (sgs_cons (sg_n (i := 3) S_root_between.nd) sgs_nil)))))))))
  (ss_one (ss_ret se_non))))))
theorem S_death_of : FnScope N_death_of ["children"] (defScope (top 64)) := ⟨rfl, rfl, rfl, by decide +kernel, rfl, by decide +kernel, by decide +kernel⟩
theorem h_death_of {f : Addr} {fd : FuncData} (F : FnP K "death_of" (top 64) f fd) (hm : mg "death_of" = some (.ref f)) (bl : ∀ x ∈ blt, mg x = none) (g_ONE : Glo K mg "ONE" c_ONE) (g_NOUGHT : Glo K mg "NOUGHT" c_NOUGHT) (h_is_sure_of : Has P w K mg base 6 "is_sure_of" ["children"] m_is_sure_of) (h_whole_quotient : Has P w K mg base 2 "whole_quotient" ["children"] m_whole_quotient) (h_root_between : Has P w K mg base 3 "root_between" ["numbers"] m_root_between) : Has P w K mg base 7 "death_of" ["children"] m_death_of :=
  has_of (l := 6) (N := N_death_of) F S_death_of hm (F.bindsN fun _ _ _ _ _ _ us hl => match us, hl with | [_], _ => rfl) (fun W cdv A outer s H E hr =>
  (ss_cons (ss_if (st_val (se_call (h_is_sure_of.mono (by decide)) hr (sp_cons (se_var (i := 0)) sp_nil))) (ss_one (ss_ret (se_glob g_ONE))) ss_nil)
  (ss_cons (ss_if (st_cmp (op_eqD hr.units) ok_eq (se_ix (se_var (i := 0)) se_int) (se_glob g_NOUGHT)) (ss_one (ss_ret (se_glob g_NOUGHT))) ss_nil)
  (ss_one (ss_ret (se_call (h_root_between.mono (by decide)) hr (sp_cons (se_call (h_whole_quotient.mono (by decide)) hr (sp_cons (se_var (i := 0)) sp_nil)) sp_nil)))))))
theorem S_dead_by : FnScope N_dead_by ["children", "many"] (defScope (top 65)) := ⟨rfl, rfl, rfl, by decide +kernel, rfl, by decide +kernel, by decide +kernel⟩
theorem h_dead_by {f : Addr} {fd : FuncData} (F : FnP K "dead_by" (top 65) f fd) (hm : mg "dead_by" = some (.ref f)) (bl : ∀ x ∈ blt, mg x = none) (g_MOST_DEAD : Glo K mg "MOST_DEAD" c_MOST_DEAD) (g_NOUGHT : Glo K mg "NOUGHT" c_NOUGHT) (h_check_children : Has P w K mg base 6 "check_children" ["value"] m_check_children) (h_check_number : Has P w K mg base 3 "check_number" ["value", "least", "most"] m_check_number) (h_number_of : Has P w K mg base 4 "number_of" ["children", "fraction"] m_number_of) : Has P w K mg base 7 "dead_by" ["children", "many"] m_dead_by :=
  has_of (l := 6) (N := N_dead_by) F S_dead_by hm (F.bindsN fun _ _ _ _ _ _ us hl => match us, hl with | [_, _], _ => rfl) (fun W cdv A outer s H E hr =>
  (ss_cons (ss_expr (se_call (h_check_children.mono (by decide)) hr (sp_cons (se_var (i := 0)) sp_nil)))
  (ss_cons (ss_expr (se_call (h_check_number.mono (by decide)) hr (sp_cons (se_var (i := 1)) (sp_cons se_int (sp_cons (se_glob g_MOST_DEAD) sp_nil)))))
  (ss_cons (ss_set (i := 2) S_dead_by.nd (se_glob g_NOUGHT))
  (ss_cons (ss_for PassesOwn.never rfl (si_range1 (bl "range" (by decide)) (se_var (i := 1))) (sg_n (i := 3) S_dead_by.nd) (ss_one (ss_set (i := 2) S_dead_by.nd (se_call (h_number_of.mono (by decide)) hr (sp_cons (se_var (i := 0)) (sp_cons (se_var (i := 2)) sp_nil))))))
  (ss_one (ss_ret (se_var (i := 2)))))))))
theorem S_dies_surely : FnScope N_dies_surely ["children"] (defScope (top 66)) := ⟨rfl, rfl, rfl, by decide +kernel, rfl, by decide +kernel, by decide +kernel⟩
theorem h_dies_surely {f : Addr} {fd : FuncData} (F : FnP K "dies_surely" (top 66) f fd) (hm : mg "dies_surely" = some (.ref f)) (bl : ∀ x ∈ blt, mg x = none) (h_check_children : Has P w K mg base 6 "check_children" ["value"] m_check_children) (h_is_sure_of : Has P w K mg base 6 "is_sure_of" ["children"] m_is_sure_of) : Has P w K mg base 7 "dies_surely" ["children"] m_dies_surely :=
  has_of (l := 6) (N := N_dies_surely) F S_dies_surely hm (F.bindsN fun _ _ _ _ _ _ us hl => match us, hl with | [_], _ => rfl) (fun W cdv A outer s H E hr =>
  (ss_cons (ss_expr (se_call (h_check_children.mono (by decide)) hr (sp_cons (se_var (i := 0)) sp_nil)))
  (ss_one (ss_ret (se_call (h_is_sure_of.mono (by decide)) hr (sp_cons (se_var (i := 0)) sp_nil))))))
theorem S_live_paper : FnScope N_live_paper ["children"] (defScope (top 67)) := ⟨rfl, rfl, rfl, by decide +kernel, rfl, by decide +kernel, by decide +kernel⟩
theorem h_live_paper {f : Addr} {fd : FuncData} (F : FnP K "live_paper" (top 67) f fd) (hm : mg "live_paper" = some (.ref f)) (bl : ∀ x ∈ blt, mg x = none) (g_NOUGHT : Glo K mg "NOUGHT" c_NOUGHT) (g_ONE : Glo K mg "ONE" c_ONE) (h_check_children : Has P w K mg base 6 "check_children" ["value"] m_check_children) (h_is_sure_of : Has P w K mg base 6 "is_sure_of" ["children"] m_is_sure_of) (h_is_live_of : Has P w K mg base 5 "is_live_of" ["children", "value"] m_is_live_of) (h_middle_of : Has P w K mg base 4 "middle_of" ["low", "high"] m_middle_of) : Has P w K mg base 7 "live_paper" ["children"] m_live_paper :=
  has_of (l := 6) (N := N_live_paper) F S_live_paper hm (F.bindsN fun _ _ _ _ _ _ us hl => match us, hl with | [_], _ => rfl) (fun W cdv A outer s H E hr =>
  (ss_cons (ss_expr (se_call (h_check_children.mono (by decide)) hr (sp_cons (se_var (i := 0)) sp_nil)))
  (ss_cons (ss_if (st_val (se_call (h_is_sure_of.mono (by decide)) hr (sp_cons (se_var (i := 0)) sp_nil))) (ss_one (ss_ret se_non)) ss_nil)
  (ss_cons (ss_set (i := 1) S_live_paper.nd (se_glob g_NOUGHT))
  (ss_cons (ss_wh 1000000 PassesOwn.never (st_not (st_val (se_call (h_is_live_of.mono (by decide)) hr (sp_cons (se_var (i := 0)) (sp_cons (se_var (i := 1)) sp_nil))))) (ss_one (ss_set (i := 1) S_live_paper.nd (se_call (h_middle_of.mono (by decide)) hr (sp_cons (se_var (i := 1)) (sp_cons (se_glob g_ONE) sp_nil))))))
  (ss_one (ss_ret (se_var (i := 1)))))))))
theorem S_is_live_paper : FnScope N_is_live_paper ["children", "value"] (defScope (top 68)) := ⟨rfl, rfl, rfl, by decide +kernel, rfl, by decide +kernel, by decide +kernel⟩
theorem h_is_live_paper {f : Addr} {fd : FuncData} (F : FnP K "is_live_paper" (top 68) f fd) (hm : mg "is_live_paper" = some (.ref f)) (bl : ∀ x ∈ blt, mg x = none) (h_check_children : Has P w K mg base 6 "check_children" ["value"] m_check_children) (h_is_live_of : Has P w K mg base 5 "is_live_of" ["children", "value"] m_is_live_of) : Has P w K mg base 7 "is_live_paper" ["children", "value"] m_is_live_paper :=
  has_of (l := 6) (N := N_is_live_paper) F S_is_live_paper hm (F.bindsN fun _ _ _ _ _ _ us hl => match us, hl with | [_, _], _ => rfl) (fun W cdv A outer s H E hr =>
  (ss_cons (ss_expr (se_call (h_check_children.mono (by decide)) hr (sp_cons (se_var (i := 0)) sp_nil)))
  (ss_one (ss_ret (se_call (h_is_live_of.mono (by decide)) hr (sp_cons (se_var (i := 0)) (sp_cons (se_var (i := 1)) sp_nil)))))))
theorem S_death_chance : FnScope N_death_chance ["children"] (defScope (top 69)) := ⟨rfl, rfl, rfl, by decide +kernel, rfl, by decide +kernel, by decide +kernel⟩
theorem h_death_chance {f : Addr} {fd : FuncData} (F : FnP K "death_chance" (top 69) f fd) (hm : mg "death_chance" = some (.ref f)) (bl : ∀ x ∈ blt, mg x = none) (h_check_children : Has P w K mg base 6 "check_children" ["value"] m_check_children) (h_death_of : Has P w K mg base 7 "death_of" ["children"] m_death_of) : Has P w K mg base 8 "death_chance" ["children"] m_death_chance :=
  has_of (l := 7) (N := N_death_chance) F S_death_chance hm (F.bindsN fun _ _ _ _ _ _ us hl => match us, hl with | [_], _ => rfl) (fun W cdv A outer s H E hr =>
  (ss_cons (ss_expr (se_call (h_check_children.mono (by decide)) hr (sp_cons (se_var (i := 0)) sp_nil)))
  (ss_one (ss_ret (se_call (h_death_of.mono (by decide)) hr (sp_cons (se_var (i := 0)) sp_nil))))))
theorem S_death_between : FnScope N_death_between ["children", "many"] (defScope (top 70)) := ⟨rfl, rfl, rfl, by decide +kernel, rfl, by decide +kernel, by decide +kernel⟩
theorem h_death_between {f : Addr} {fd : FuncData} (F : FnP K "death_between" (top 70) f fd) (hm : mg "death_between" = some (.ref f)) (bl : ∀ x ∈ blt, mg x = none) (g_MOST_HALVED : Glo K mg "MOST_HALVED" c_MOST_HALVED) (g_NOUGHT : Glo K mg "NOUGHT" c_NOUGHT) (g_ONE : Glo K mg "ONE" c_ONE) (h_check_children : Has P w K mg base 6 "check_children" ["value"] m_check_children) (h_check_number : Has P w K mg base 3 "check_number" ["value", "least", "most"] m_check_number) (h_middle_of : Has P w K mg base 4 "middle_of" ["low", "high"] m_middle_of) (h_number_of : Has P w K mg base 4 "number_of" ["children", "fraction"] m_number_of) (h_is_below : Has P w K mg base 1 "is_below" ["one", "late"] m_is_below) : Has P w K mg base 7 "death_between" ["children", "many"] m_death_between :=
  has_of (l := 6) (N := N_death_between) F S_death_between hm (F.bindsN fun _ _ _ _ _ _ us hl => match us, hl with | [_, _], _ => rfl) (fun W cdv A outer s H E hr =>
  (ss_cons (ss_expr (se_call (h_check_children.mono (by decide)) hr (sp_cons (se_var (i := 0)) sp_nil)))
  (ss_cons (ss_expr (se_call (h_check_number.mono (by decide)) hr (sp_cons (se_var (i := 1)) (sp_cons se_int (sp_cons (se_glob g_MOST_HALVED) sp_nil)))))
  (ss_cons (ss_par (i := 2) (j := 3) rfl S_death_between.nd (sa_cons (se_glob g_NOUGHT) (sa_cons (se_glob g_ONE) sa_nil)))
  (ss_cons (ss_for PassesOwn.never rfl (si_range1 (bl "range" (by decide)) (se_var (i := 1))) (sg_n (i := 4) S_death_between.nd) (ss_cons (ss_set (i := 5) S_death_between.nd (se_call (h_middle_of.mono (by decide)) hr (sp_cons (se_var (i := 2)) (sp_cons (se_var (i := 3)) sp_nil))))
  (ss_one (ss_if (st_val (se_call (h_is_below.mono (by decide)) hr (sp_cons (se_var (i := 5)) (sp_cons (se_call (h_number_of.mono (by decide)) hr (sp_cons (se_var (i := 0)) (sp_cons (se_var (i := 5)) sp_nil))) sp_nil)))) (ss_one (ss_set (i := 2) S_death_between.nd (se_var (i := 5)))) (ss_one (ss_set (i := 3) S_death_between.nd (se_var (i := 5))))))))
  (ss_one (ss_ret (se_tup (sa_cons (se_var (i := 2)) (sa_cons (se_var (i := 3)) sa_nil))))))))))
theorem S_dying : FnScope N_dying ["children"] (defScope (top 71)) := ⟨rfl, rfl, rfl, by decide +kernel, rfl, by decide +kernel, by decide +kernel⟩
theorem h_dying {f : Addr} {fd : FuncData} (F : FnP K "dying" (top 71) f fd) (hm : mg "dying" = some (.ref f)) (bl : ∀ x ∈ blt, mg x = none) (g_ONE : Glo K mg "ONE" c_ONE) (h_check_children : Has P w K mg base 6 "check_children" ["value"] m_check_children) (h_death_of : Has P w K mg base 7 "death_of" ["children"] m_death_of) (h_divide : Has P w K mg base 3 "divide" ["one", "late"] m_divide) (h_multiply : Has P w K mg base 3 "multiply" ["one", "late"] m_multiply) : Has P w K mg base 8 "dying" ["children"] m_dying :=
  has_of (l := 7) (N := N_dying) F S_dying hm (F.bindsN fun _ _ _ _ _ _ us hl => match us, hl with | [_], _ => rfl) (fun W cdv A outer s H E hr =>
  (ss_cons (ss_expr (se_call (h_check_children.mono (by decide)) hr (sp_cons (se_var (i := 0)) sp_nil)))
  (ss_cons (ss_set (i := 1) S_dying.nd (se_call (h_death_of.mono (by decide)) hr (sp_cons (se_var (i := 0)) sp_nil)))
  (ss_cons (ss_if ((sw_or (st_cmp op_iss ok_is (se_var (i := 1)) se_non) (sw_or1 (st_cmp (op_eqD hr.units) ok_eq (se_ix (se_var (i := 1)) se_int) se_int)))).st (ss_one ss_never) ss_nil)
  (ss_cons (ss_parFE (i := 2) (j := 3) rfl S_dying.nd (sf_lst sa_nil) (se_call (h_divide.mono (by decide)) hr (sp_cons (se_glob g_ONE) (sp_cons (se_var (i := 1)) sp_nil))))
  (ss_cons (ss_for PassesOwn.never rfl (si_seq (se_var (i := 0))) (sg_n (i := 4) S_dying.nd) (ss_cons (ss_app (i := 2) (se_call (h_multiply.mono (by decide)) hr (sp_cons (se_var (i := 4)) (sp_cons (se_var (i := 3)) sp_nil))))
  (ss_one (ss_set (i := 3) S_dying.nd (se_call (h_multiply.mono (by decide)) hr (sp_cons (se_var (i := 3)) (sp_cons (se_var (i := 1)) sp_nil)))))))
  (ss_frz (i := 2) (ss_one (ss_ret (se_var (i := 2)))))))))))
theorem S__law_plain : FnScope N__law_plain ["top", "bottom"] (defScope (top 77)) := ⟨rfl, rfl, rfl, by decide +kernel, rfl, by decide +kernel, by decide +kernel⟩
theorem h0__law_plain {f : Addr} {fd : FuncData} (F : FnP K "_law_plain" (top 77) f fd) (hm : mg "_law_plain" = some (.ref f)) (bl : ∀ x ∈ blt, mg x = none)  : Has P w K mg base 1 "_law_plain" ["top", "bottom"] m0__law_plain :=
  has_of (l := 0) (N := N__law_plain) F S__law_plain hm (F.bindsN fun _ _ _ _ _ _ us hl => match us, hl with | [_, _], _ => rfl) (fun W cdv A outer s H E hr =>
  (ss_cons (ss_par (i := 2) (j := 3) rfl S__law_plain.nd (sa_cons (se_cb call_abs ok_abs (bl "abs" (by decide)) (sa_cons (se_var (i := 0)) sa_nil)) (sa_cons (se_cb call_abs ok_abs (bl "abs" (by decide)) (sa_cons (se_var (i := 1)) sa_nil)) sa_nil)))
  (ss_cons (ss_wh 1000000 PassesOwn.never (st_cmp (op_neD hr.units) ok_ne (se_var (i := 3)) se_int) (ss_one (ss_par (i := 2) (j := 3) rfl S__law_plain.nd (sa_cons (se_var (i := 3)) (sa_cons (se_bin op_mod ok_mod (se_cty call_int1 ok_int (bl "int" (by decide)) (sa_cons (se_var (i := 2)) sa_nil)) (se_var (i := 3))) sa_nil)))))
  (ss_cons (ss_set (i := 4) S__law_plain.nd (se_if (st_cmp op_gt ok_I (se_var (i := 1)) se_int) se_int (se_un un_neg ok_neg se_int)))
  (ss_one (ss_ret (se_tup (sa_cons (se_bin op_fdivW ok_fdiv (se_bin op_muls ok_mul (se_var (i := 4)) (se_var (i := 0))) (se_var (i := 2))) (sa_cons (se_bin op_fdivW ok_fdiv (se_bin op_muls ok_mul (se_var (i := 4)) (se_var (i := 1))) (se_var (i := 2))) sa_nil)))))))))
theorem h__law_plain {f : Addr} {fd : FuncData} (F : FnP K "_law_plain" (top 77) f fd) (hm : mg "_law_plain" = some (.ref f)) (bl : ∀ x ∈ blt, mg x = none)  : Has P w K mg base 1 "_law_plain" ["top", "bottom"] m__law_plain :=
  (h0__law_plain F hm bl ).imp fun ds k h => le_plain ds k h
theorem S__law_plus : FnScope N__law_plus ["one", "late"] (defScope (top 78)) := ⟨rfl, rfl, rfl, by decide +kernel, rfl, by decide +kernel, by decide +kernel⟩
theorem h0__law_plus {f : Addr} {fd : FuncData} (F : FnP K "_law_plus" (top 78) f fd) (hm : mg "_law_plus" = some (.ref f)) (bl : ∀ x ∈ blt, mg x = none) (h__law_plain : Has P w K mg base 1 "_law_plain" ["top", "bottom"] m__law_plain) : Has P w K mg base 2 "_law_plus" ["one", "late"] m0__law_plus :=
  has_of (l := 1) (N := N__law_plus) F S__law_plus hm (F.bindsN fun _ _ _ _ _ _ us hl => match us, hl with | [_, _], _ => rfl) (fun W cdv A outer s H E hr =>
  (ss_one (ss_ret (se_call (h__law_plain.mono (by decide)) hr (sp_cons (se_bin op_adds ok_add (se_bin op_muls ok_mul (se_ix (se_var (i := 0)) se_int) (se_ix (se_var (i := 1)) se_int)) (se_bin op_muls ok_mul (se_ix (se_var (i := 1)) se_int) (se_ix (se_var (i := 0)) se_int))) (sp_cons (se_bin op_muls ok_mul (se_ix (se_var (i := 0)) se_int) (se_ix (se_var (i := 1)) se_int)) sp_nil))))))
theorem h__law_plus {f : Addr} {fd : FuncData} (F : FnP K "_law_plus" (top 78) f fd) (hm : mg "_law_plus" = some (.ref f)) (bl : ∀ x ∈ blt, mg x = none) (h__law_plain : Has P w K mg base 1 "_law_plain" ["top", "bottom"] m__law_plain) : Has P w K mg base 2 "_law_plus" ["one", "late"] m__law_plus :=
  (h0__law_plus F hm bl h__law_plain).imp fun ds k h => le_add m__law_plain ds k h
theorem S__law_times : FnScope N__law_times ["one", "late"] (defScope (top 79)) := ⟨rfl, rfl, rfl, by decide +kernel, rfl, by decide +kernel, by decide +kernel⟩
theorem h0__law_times {f : Addr} {fd : FuncData} (F : FnP K "_law_times" (top 79) f fd) (hm : mg "_law_times" = some (.ref f)) (bl : ∀ x ∈ blt, mg x = none) (h__law_plain : Has P w K mg base 1 "_law_plain" ["top", "bottom"] m__law_plain) : Has P w K mg base 2 "_law_times" ["one", "late"] m0__law_times :=
  has_of (l := 1) (N := N__law_times) F S__law_times hm (F.bindsN fun _ _ _ _ _ _ us hl => match us, hl with | [_, _], _ => rfl) (fun W cdv A outer s H E hr =>
  (ss_one (ss_ret (se_call (h__law_plain.mono (by decide)) hr (sp_cons (se_bin op_muls ok_mul (se_ix (se_var (i := 0)) se_int) (se_ix (se_var (i := 1)) se_int)) (sp_cons (se_bin op_muls ok_mul (se_ix (se_var (i := 0)) se_int) (se_ix (se_var (i := 1)) se_int)) sp_nil))))))
theorem h__law_times {f : Addr} {fd : FuncData} (F : FnP K "_law_times" (top 79) f fd) (hm : mg "_law_times" = some (.ref f)) (bl : ∀ x ∈ blt, mg x = none) (h__law_plain : Has P w K mg base 1 "_law_plain" ["top", "bottom"] m__law_plain) : Has P w K mg base 2 "_law_times" ["one", "late"] m__law_times :=
  (h0__law_times F hm bl h__law_plain).imp fun ds k h => le_mul m__law_plain ds k h
theorem S__law_below : FnScope N__law_below ["one", "late"] (defScope (top 83)) := ⟨rfl, rfl, rfl, by decide +kernel, rfl, by decide +kernel, by decide +kernel⟩
theorem h0__law_below {f : Addr} {fd : FuncData} (F : FnP K "_law_below" (top 83) f fd) (hm : mg "_law_below" = some (.ref f)) (bl : ∀ x ∈ blt, mg x = none)  : Has P w K mg base 1 "_law_below" ["one", "late"] m0__law_below :=
  has_of (l := 0) (N := N__law_below) F S__law_below hm (F.bindsN fun _ _ _ _ _ _ us hl => match us, hl with | [_, _], _ => rfl) (fun W cdv A outer s H E hr =>
  (ss_one (ss_ret (se_cmp op_lt ok_I (se_bin op_muls ok_mul (se_ix (se_var (i := 0)) se_int) (se_ix (se_var (i := 1)) se_int)) (se_bin op_muls ok_mul (se_ix (se_var (i := 1)) se_int) (se_ix (se_var (i := 0)) se_int))))))
theorem h__law_below {f : Addr} {fd : FuncData} (F : FnP K "_law_below" (top 83) f fd) (hm : mg "_law_below" = some (.ref f)) (bl : ∀ x ∈ blt, mg x = none)  : Has P w K mg base 1 "_law_below" ["one", "late"] m__law_below :=
  (h0__law_below F hm bl ).imp fun ds k h => le_below ds k h
theorem S__law_less : FnScope N__law_less ["one", "late"] (defScope (top 84)) := ⟨rfl, rfl, rfl, by decide +kernel, rfl, by decide +kernel, by decide +kernel⟩
theorem h__law_less {f : Addr} {fd : FuncData} (F : FnP K "_law_less" (top 84) f fd) (hm : mg "_law_less" = some (.ref f)) (bl : ∀ x ∈ blt, mg x = none) (h__law_plus : Has P w K mg base 2 "_law_plus" ["one", "late"] m__law_plus) : Has P w K mg base 3 "_law_less" ["one", "late"] m__law_less :=
  has_of (l := 2) (N := N__law_less) F S__law_less hm (F.bindsN fun _ _ _ _ _ _ us hl => match us, hl with | [_, _], _ => rfl) (fun W cdv A outer s H E hr =>
  (ss_one (ss_ret (se_call (h__law_plus.mono (by decide)) hr (sp_cons (se_var (i := 0)) (sp_cons (se_tup (sa_cons (se_bin op_subs ok_sub se_int (se_ix (se_var (i := 1)) se_int)) (sa_cons (se_ix (se_var (i := 1)) se_int) sa_nil))) sp_nil))))))
theorem S__law_share : FnScope N__law_share ["one", "late"] (defScope (top 85)) := ⟨rfl, rfl, rfl, by decide +kernel, rfl, by decide +kernel, by decide +kernel⟩
theorem h0__law_share {f : Addr} {fd : FuncData} (F : FnP K "_law_share" (top 85) f fd) (hm : mg "_law_share" = some (.ref f)) (bl : ∀ x ∈ blt, mg x = none) (h__law_plain : Has P w K mg base 1 "_law_plain" ["top", "bottom"] m__law_plain) : Has P w K mg base 2 "_law_share" ["one", "late"] m0__law_share :=
  has_of (l := 1) (N := N__law_share) F S__law_share hm (F.bindsN fun _ _ _ _ _ _ us hl => match us, hl with | [_, _], _ => rfl) (fun W cdv A outer s H E hr =>
  (ss_one (ss_ret (se_call (h__law_plain.mono (by decide)) hr (sp_cons (se_bin op_muls ok_mul (se_ix (se_var (i := 0)) se_int) (se_ix (se_var (i := 1)) se_int)) (sp_cons (se_bin op_muls ok_mul (se_ix (se_var (i := 0)) se_int) (se_ix (se_var (i := 1)) se_int)) sp_nil))))))
theorem h__law_share {f : Addr} {fd : FuncData} (F : FnP K "_law_share" (top 85) f fd) (hm : mg "_law_share" = some (.ref f)) (bl : ∀ x ∈ blt, mg x = none) (h__law_plain : Has P w K mg base 1 "_law_plain" ["top", "bottom"] m__law_plain) : Has P w K mg base 2 "_law_share" ["one", "late"] m__law_share :=
  (h0__law_share F hm bl h__law_plain).imp fun ds k h => le_div m__law_plain ds k h
theorem S__law_power : FnScope N__law_power ["one", "many"] (defScope (top 96)) := ⟨rfl, rfl, rfl, by decide +kernel, rfl, by decide +kernel, by decide +kernel⟩
theorem h__law_power {f : Addr} {fd : FuncData} (F : FnP K "_law_power" (top 96) f fd) (hm : mg "_law_power" = some (.ref f)) (bl : ∀ x ∈ blt, mg x = none) (h__law_times : Has P w K mg base 2 "_law_times" ["one", "late"] m__law_times) : Has P w K mg base 3 "_law_power" ["one", "many"] m__law_power :=
  has_of (l := 2) (N := N__law_power) F S__law_power hm (F.bindsN fun _ _ _ _ _ _ us hl => match us, hl with | [_, _], _ => rfl) (fun W cdv A outer s H E hr =>
  (ss_cons (ss_set (i := 2) S__law_power.nd (se_tup (sa_cons se_int (sa_cons se_int sa_nil))))
  (ss_cons (ss_for PassesOwn.never rfl (si_range1 (bl "range" (by decide)) (se_var (i := 1))) (sg_n (i := 3) S__law_power.nd) (ss_one (ss_set (i := 2) S__law_power.nd (se_call (h__law_times.mono (by decide)) hr (sp_cons (se_var (i := 2)) (sp_cons (se_var (i := 0)) sp_nil))))))
  (ss_one (ss_ret (se_var (i := 2)))))))
theorem S__law_lines_right : FnScope N__law_lines_right ["pot"] (defScope (top 97)) := ⟨rfl, rfl, rfl, by decide +kernel, rfl, by decide +kernel, by decide +kernel⟩
theorem h__law_lines_right {f : Addr} {fd : FuncData} (F : FnP K "_law_lines_right" (top 97) f fd) (hm : mg "_law_lines_right" = some (.ref f)) (bl : ∀ x ∈ blt, mg x = none) (h__law_draw : Has P w K mg base 1 "_law_draw" ["pot", "many"] m__law_draw) (h__law_plain : Has P w K mg base 1 "_law_plain" ["top", "bottom"] m__law_plain) (h__law_less : Has P w K mg base 3 "_law_less" ["one", "late"] m__law_less) (h_child_mean : Has P w K mg base 7 "child_mean" ["children"] m_child_mean) (h_child_spread : Has P w K mg base 7 "child_spread" ["children"] m_child_spread) (h__law_times : Has P w K mg base 2 "_law_times" ["one", "late"] m__law_times) (h_dies_surely : Has P w K mg base 7 "dies_surely" ["children"] m_dies_surely) (h_death_chance : Has P w K mg base 8 "death_chance" ["children"] m_death_chance) (h__law_power : Has P w K mg base 3 "_law_power" ["one", "many"] m__law_power) (h_dead_by : Has P w K mg base 7 "dead_by" ["children", "many"] m_dead_by) (h_mean_size : Has P w K mg base 7 "mean_size" ["children", "many"] m_mean_size) (h_size_chances : Has P w K mg base 7 "size_chances" ["children", "many"] m_size_chances) (h_born_chance : Has P w K mg base 7 "born_chance" ["children", "many"] m_born_chance) (h_put_into : Has P w K mg base 7 "put_into" ["children", "late"] m_put_into) (h_are_children : Has P w K mg base 6 "are_children" ["value"] m_are_children) (h_live_paper : Has P w K mg base 7 "live_paper" ["children"] m_live_paper) : Has P w K mg base 9 "_law_lines_right" ["pot"] m__law_lines_right :=
  has_of (l := 8) (N := N__law_lines_right) F S__law_lines_right hm (F.bindsN fun _ _ _ _ _ _ us hl => match us, hl with | [_], _ => rfl) (fun W cdv A outer s H E hr =>
  (ss_cons (ss_set (i := 1) S__law_lines_right.nd (se_bin op_adds ok_add se_int (se_call (h__law_draw.mono (by decide)) hr (sp_pot (i := 0) (sp_cons se_int sp_nil)))))
  (ss_cons (ss_set (i := 2) S__law_lines_right.nd (se_call (h__law_plain.mono (by decide)) hr (sp_cons (se_bin op_adds ok_add se_int (se_call (h__law_draw.mono (by decide)) hr (sp_pot (i := 0) (sp_cons (se_bin op_subs ok_sub (se_var (i := 1)) se_int) sp_nil)))) (sp_cons (se_var (i := 1)) sp_nil))))
  (ss_cons (ss_par (i := 3) (j := 4) rfl S__law_lines_right.nd (sa_cons (se_lst (sa_cons (se_call (h__law_less.mono (by decide)) hr (sp_cons (se_tup (sa_cons se_int (sa_cons se_int sa_nil))) (sp_cons (se_var (i := 2)) sp_nil))) (sa_cons (se_var (i := 2)) sa_nil))) (sa_cons (se_call (h__law_less.mono (by decide)) hr (sp_cons (se_tup (sa_cons se_int (sa_cons se_int sa_nil))) (sp_cons (se_var (i := 2)) sp_nil))) sa_nil)))
  (ss_cons (ss_if ((sw_or (st_cmp (op_neD hr.units) ok_ne (se_call (h_child_mean.mono (by decide)) hr (sp_cons (se_var (i := 3)) sp_nil)) (se_var (i := 2))) (sw_or (st_cmp (op_neD hr.units) ok_ne (se_call (h_child_spread.mono (by decide)) hr (sp_cons (se_var (i := 3)) sp_nil)) (se_call (h__law_times.mono (by decide)) hr (sp_cons (se_var (i := 2)) (sp_cons (se_var (i := 4)) sp_nil)))) (sw_or (st_cmp op_nots ok_isNot (se_call (h_dies_surely.mono (by decide)) hr (sp_cons (se_var (i := 3)) sp_nil)) se_bl) (sw_or1 (st_cmp (op_neD hr.units) ok_ne (se_call (h_death_chance.mono (by decide)) hr (sp_cons (se_var (i := 3)) sp_nil)) (se_tup (sa_cons se_int (sa_cons se_int sa_nil))))))))).st (ss_one (ss_ret se_bl)) ss_nil)
  (ss_cons (ss_for PassesOwn.never rfl (si_range1 (bl "range" (by decide)) se_int) (sg_n (i := 5) S__law_lines_right.nd) (ss_cons (ss_set (i := 6) S__law_lines_right.nd (se_call (h__law_power.mono (by decide)) hr (sp_cons (se_var (i := 2)) (sp_cons (se_var (i := 5)) sp_nil))))
  (ss_cons (ss_if ((sw_or (st_cmp (op_neD hr.units) ok_ne (se_call (h_dead_by.mono (by decide)) hr (sp_cons (se_var (i := 3)) (sp_cons (se_var (i := 5)) sp_nil))) (se_call (h__law_less.mono (by decide)) hr (sp_cons (se_tup (sa_cons se_int (sa_cons se_int sa_nil))) (sp_cons (se_var (i := 6)) sp_nil)))) (sw_or1 (st_cmp (op_neD hr.units) ok_ne (se_call (h_mean_size.mono (by decide)) hr (sp_cons (se_var (i := 3)) (sp_cons (se_var (i := 5)) sp_nil))) (se_var (i := 6)))))).st (ss_one (ss_ret se_bl)) ss_nil)
  (ss_cons (ss_if ((sw_and (st_cmp op_lt ok_I (se_var (i := 5)) se_int) (sw_and1 (st_cmp (op_neD hr.units) ok_ne (se_call (h_size_chances.mono (by decide)) hr (sp_cons (se_var (i := 3)) (sp_cons (se_var (i := 5)) sp_nil))) (se_if (st_cmp (op_eqD hr.units) ok_eq (se_var (i := 5)) se_int) (se_lst (sa_cons (se_tup (sa_cons se_int (sa_cons se_int sa_nil))) (sa_cons (se_tup (sa_cons se_int (sa_cons se_int sa_nil))) sa_nil))) (se_lst (sa_cons (se_call (h__law_less.mono (by decide)) hr (sp_cons (se_tup (sa_cons se_int (sa_cons se_int sa_nil))) (sp_cons (se_var (i := 6)) sp_nil))) (sa_cons (se_var (i := 6)) sa_nil)))))))).st (ss_one (ss_ret se_bl)) ss_nil)
  (ss_one (ss_if ((sw_and (st_cmp op_gt ok_I (se_var (i := 5)) se_int) (sw_and1 (st_cmp (op_neD hr.units) ok_ne (se_call (h_born_chance.mono (by decide)) hr (sp_cons (se_var (i := 3)) (sp_cons (se_var (i := 5)) sp_nil))) (se_call (h__law_times.mono (by decide)) hr (sp_cons (se_call (h__law_power.mono (by decide)) hr (sp_cons (se_var (i := 2)) (sp_cons (se_bin op_subs ok_sub (se_var (i := 5)) se_int) sp_nil))) (sp_cons (se_var (i := 4)) sp_nil))))))).st (ss_one (ss_ret se_bl)) ss_nil))))))
  (ss_cons (ss_set (i := 7) S__law_lines_right.nd (se_call (h_put_into.mono (by decide)) hr (sp_cons (se_var (i := 3)) (sp_cons (se_var (i := 3)) sp_nil))))
  (ss_one (ss_ret (se_and (se_cmp (op_eqD hr.units) ok_eq (se_var (i := 7)) (se_lst (sa_cons (se_call (h__law_less.mono (by decide)) hr (sp_cons (se_tup (sa_cons se_int (sa_cons se_int sa_nil))) (sp_cons (se_call (h__law_times.mono (by decide)) hr (sp_cons (se_var (i := 2)) (sp_cons (se_var (i := 2)) sp_nil))) sp_nil))) (sa_cons (se_call (h__law_times.mono (by decide)) hr (sp_cons (se_var (i := 2)) (sp_cons (se_var (i := 2)) sp_nil))) sa_nil)))) (se_and (se_cmp op_iss ok_is (se_call (h_are_children.mono (by decide)) hr (sp_cons (se_var (i := 7)) sp_nil)) se_bl) (se_one (se_cmp op_iss ok_is (se_call (h_live_paper.mono (by decide)) hr (sp_cons (se_var (i := 3)) sp_nil)) se_non)))))))))))))
theorem S__law_two_right : FnScope N__law_two_right ["pot"] (defScope (top 98)) := ⟨rfl, rfl, rfl, by decide +kernel, rfl, by decide +kernel, by decide +kernel⟩
theorem h__law_two_right {f : Addr} {fd : FuncData} (F : FnP K "_law_two_right" (top 98) f fd) (hm : mg "_law_two_right" = some (.ref f)) (bl : ∀ x ∈ blt, mg x = none) (h__law_draw : Has P w K mg base 1 "_law_draw" ["pot", "many"] m__law_draw) (h__law_plain : Has P w K mg base 1 "_law_plain" ["top", "bottom"] m__law_plain) (h__law_less : Has P w K mg base 3 "_law_less" ["one", "late"] m__law_less) (h__law_power : Has P w K mg base 3 "_law_power" ["one", "many"] m__law_power) (h__law_times : Has P w K mg base 2 "_law_times" ["one", "late"] m__law_times) (h__law_below : Has P w K mg base 1 "_law_below" ["one", "late"] m__law_below) (h__law_share : Has P w K mg base 2 "_law_share" ["one", "late"] m__law_share) (h_death_chance : Has P w K mg base 8 "death_chance" ["children"] m_death_chance) (h_dies_surely : Has P w K mg base 7 "dies_surely" ["children"] m_dies_surely) (h_is_live_paper : Has P w K mg base 7 "is_live_paper" ["children", "value"] m_is_live_paper) (h_dying : Has P w K mg base 8 "dying" ["children"] m_dying) (h_number_at : Has P w K mg base 7 "number_at" ["children", "fraction"] m_number_at) (h__law_plus : Has P w K mg base 2 "_law_plus" ["one", "late"] m__law_plus) (h_size_chances : Has P w K mg base 7 "size_chances" ["children", "many"] m_size_chances) (h_born_chance_k10 : HasK P w K mg base 7 "born_chance" ["children", "many"] m_born_chance ["many", "children"] [1, 0]) : Has P w K mg base 9 "_law_two_right" ["pot"] m__law_two_right :=
  has_of (l := 8) (N := N__law_two_right) F S__law_two_right hm (F.bindsN fun _ _ _ _ _ _ us hl => match us, hl with | [_], _ => rfl) (fun W cdv A outer s H E hr =>
  (ss_cons (ss_set (i := 1) S__law_two_right.nd (se_bin op_adds ok_add se_int (se_call (h__law_draw.mono (by decide)) hr (sp_pot (i := 0) (sp_cons se_int sp_nil)))))
  (ss_cons (ss_set (i := 2) S__law_two_right.nd (se_call (h__law_plain.mono (by decide)) hr (sp_cons (se_bin op_adds ok_add se_int (se_call (h__law_draw.mono (by decide)) hr (sp_pot (i := 0) (sp_cons (se_bin op_subs ok_sub (se_var (i := 1)) se_int) sp_nil)))) (sp_cons (se_var (i := 1)) sp_nil))))
  (ss_cons (ss_set (i := 3) S__law_two_right.nd (se_call (h__law_less.mono (by decide)) hr (sp_cons (se_tup (sa_cons se_int (sa_cons se_int sa_nil))) (sp_cons (se_var (i := 2)) sp_nil))))
  (ss_cons (ss_par (i := 4) (j := 5) rfl S__law_two_right.nd (sa_cons (se_lst (sa_cons (se_var (i := 3)) (sa_cons (se_tup (sa_cons se_int (sa_cons se_int sa_nil))) (sa_cons (se_var (i := 2)) sa_nil)))) (sa_cons (se_lst (sa_cons se_int (sa_cons se_int (sa_cons se_int (sa_cons se_int (sa_cons se_int (sa_cons se_int sa_nil))))))) sa_nil)))
  (ss_cons (ss_for PassesOwn.never rfl (si_range2 (bl "range" (by decide)) se_int se_int) (sg_n (i := 6) S__law_two_right.nd) (ss_cons (ss_set (i := 7) S__law_two_right.nd (se_bin op_fdivW ok_fdiv (se_bin op_subs ok_sub (se_var (i := 6)) se_int) se_int))
  (ss_cons (ss_set (i := 8) S__law_two_right.nd (se_if (st_cmp (op_eqD hr.units) ok_eq (se_bin op_mod ok_mod (se_var (i := 6)) se_int) se_int) (se_call (h__law_times.mono (by decide)) hr (sp_cons (se_tup (sa_cons (se_ix (se_var (i := 5)) (se_var (i := 7))) (sa_cons se_int sa_nil))) (sp_cons (se_call (h__law_times.mono (by decide)) hr (sp_cons (se_call (h__law_power.mono (by decide)) hr (sp_cons (se_var (i := 2)) (sp_cons (se_var (i := 7)) sp_nil))) (sp_cons (se_call (h__law_power.mono (by decide)) hr (sp_cons (se_var (i := 3)) (sp_cons (se_bin op_adds ok_add (se_var (i := 7)) se_int) sp_nil))) sp_nil))) sp_nil))) (se_tup (sa_cons se_int (sa_cons se_int sa_nil)))))
  (ss_one (ss_if (st_cmp (op_neD hr.units) ok_ne (se_callk (h_born_chance_k10.mono (by decide)) hr (sk_cons (se_var (i := 6)) (sk_cons (se_var (i := 4)) sk_nil))) (se_var (i := 8))) (ss_one (ss_ret se_bl)) ss_nil)))))
  (ss_cons (ss_set (i := 9) S__law_two_right.nd (se_if (st_val (se_call (h__law_below.mono (by decide)) hr (sp_cons (se_var (i := 3)) (sp_cons (se_var (i := 2)) sp_nil)))) (se_call (h__law_share.mono (by decide)) hr (sp_cons (se_var (i := 3)) (sp_cons (se_var (i := 2)) sp_nil))) (se_tup (sa_cons se_int (sa_cons se_int sa_nil)))))
  (ss_cons (ss_if ((sw_or (st_cmp (op_neD hr.units) ok_ne (se_call (h_death_chance.mono (by decide)) hr (sp_cons (se_var (i := 4)) sp_nil)) (se_var (i := 9))) (sw_or (st_cmp (op_neD hr.units) ok_ne (se_call (h_dies_surely.mono (by decide)) hr (sp_cons (se_var (i := 4)) sp_nil)) (se_cmp (op_eqD hr.units) ok_eq (se_var (i := 9)) (se_tup (sa_cons se_int (sa_cons se_int sa_nil))))) (sw_or1 (st_cmp (op_neD hr.units) ok_ne (se_call (h_is_live_paper.mono (by decide)) hr (sp_cons (se_var (i := 4)) (sp_cons (se_var (i := 9)) sp_nil))) (se_cmp (op_neD hr.units) ok_ne (se_var (i := 9)) (se_tup (sa_cons se_int (sa_cons se_int sa_nil))))))))).st (ss_one (ss_ret se_bl)) ss_nil)
  (ss_cons (ss_if ((sw_and (st_cmp (op_neD hr.units) ok_ne (se_var (i := 9)) (se_tup (sa_cons se_int (sa_cons se_int sa_nil)))) (sw_and1 (st_cmp (op_neD hr.units) ok_ne (se_call (h_dying.mono (by decide)) hr (sp_cons (se_var (i := 4)) sp_nil)) (se_rev (se_var (i := 4))))))).st (ss_one (ss_ret se_bl)) ss_nil)
  (ss_one (ss_ret (se_and (se_cmp (op_eqD hr.units) ok_eq (se_call (h_number_at.mono (by decide)) hr (sp_cons (se_var (i := 4)) (sp_cons (se_tup (sa_cons se_int (sa_cons se_int sa_nil))) sp_nil))) (se_call (h__law_plus.mono (by decide)) hr (sp_cons (se_var (i := 3)) (sp_cons (se_call (h__law_times.mono (by decide)) hr (sp_cons (se_var (i := 2)) (sp_cons (se_tup (sa_cons se_int (sa_cons se_int sa_nil))) sp_nil))) sp_nil)))) (se_one (se_cmp (op_eqD hr.units) ok_eq (se_call (h_size_chances.mono (by decide)) hr (sp_cons (se_var (i := 4)) (sp_cons se_int sp_nil))) (se_var (i := 4))))))))))))))))
theorem S__law_always_right : FnScope N__law_always_right ["pot"] (defScope (top 99)) := ⟨rfl, rfl, rfl, by decide +kernel, rfl, by decide +kernel, by decide +kernel⟩
theorem h__law_always_right {f : Addr} {fd : FuncData} (F : FnP K "_law_always_right" (top 99) f fd) (hm : mg "_law_always_right" = some (.ref f)) (bl : ∀ x ∈ blt, mg x = none) (h__law_draw : Has P w K mg base 1 "_law_draw" ["pot", "many"] m__law_draw) (h_size_chances : Has P w K mg base 7 "size_chances" ["children", "many"] m_size_chances) (h_mean_size : Has P w K mg base 7 "mean_size" ["children", "many"] m_mean_size) (h_spread_size : Has P w K mg base 7 "spread_size" ["children", "many"] m_spread_size) (h_death_chance : Has P w K mg base 8 "death_chance" ["children"] m_death_chance) (h_dies_surely : Has P w K mg base 7 "dies_surely" ["children"] m_dies_surely) (h_is_live_paper : Has P w K mg base 7 "is_live_paper" ["children", "value"] m_is_live_paper) (h_dead_by : Has P w K mg base 7 "dead_by" ["children", "many"] m_dead_by) (h_death_between : Has P w K mg base 7 "death_between" ["children", "many"] m_death_between) (h_born_chance : Has P w K mg base 7 "born_chance" ["children", "many"] m_born_chance) : Has P w K mg base 9 "_law_always_right" ["pot"] m__law_always_right :=
  has_of (l := 8) (N := N__law_always_right) F S__law_always_right hm (F.bindsN fun _ _ _ _ _ _ us hl => match us, hl with | [_], _ => rfl) (fun W cdv A outer s H E hr =>
  (ss_cons (ss_par (i := 1) (j := 2) rfl S__law_always_right.nd (sa_cons (se_bin op_adds ok_add se_int (se_call (h__law_draw.mono (by decide)) hr (sp_pot (i := 0) (sp_cons se_int sp_nil)))) (sa_cons (se_call (h__law_draw.mono (by decide)) hr (sp_pot (i := 0) (sp_cons se_int sp_nil))) sa_nil)))
  (ss_cons (ss_asg (se_tup (sa_cons (se_bin op_adds ok_add (se_bin op_muls ok_mul (se_lst (sa_cons (se_tup (sa_cons se_int (sa_cons se_int sa_nil))) sa_nil)) (se_var (i := 1))) (se_lst (sa_cons (se_tup (sa_cons se_int (sa_cons se_int sa_nil))) sa_nil))) (sa_cons se_int sa_nil))) (sg_t rfl (sgs_cons (sg_n (i := 3) S__law_always_right.nd) (sgs_cons (sg_n (i := 4) S__law_always_right.nd) sgs_nil))))
  (ss_cons (ss_for PassesOwn.never rfl (si_range1 (bl "range" (by decide)) (se_var (i := 2))) (sg_n (i := 5) S__law_always_right.nd) (ss_one (ss_set (i := 4) S__law_always_right.nd (se_bin op_muls ok_mul (se_var (i := 4)) (se_var (i := 1))))))
  (ss_cons (ss_if ((sw_or (st_cmp (op_neD hr.units) ok_ne (se_call (h_size_chances.mono (by decide)) hr (sp_cons (se_var (i := 3)) (sp_cons (se_var (i := 2)) sp_nil))) (se_bin op_adds ok_add (se_bin op_muls ok_mul (se_lst (sa_cons (se_tup (sa_cons se_int (sa_cons se_int sa_nil))) sa_nil)) (se_var (i := 4))) (se_lst (sa_cons (se_tup (sa_cons se_int (sa_cons se_int sa_nil))) sa_nil)))) (sw_or (st_cmp (op_neD hr.units) ok_ne (se_call (h_mean_size.mono (by decide)) hr (sp_cons (se_var (i := 3)) (sp_cons (se_var (i := 2)) sp_nil))) (se_tup (sa_cons (se_var (i := 4)) (sa_cons se_int sa_nil)))) (sw_or1 (st_cmp (op_neD hr.units) ok_ne (se_call (h_spread_size.mono (by decide)) hr (sp_cons (se_var (i := 3)) (sp_cons (se_var (i := 2)) sp_nil))) (se_tup (sa_cons se_int (sa_cons se_int sa_nil)))))))).st (ss_one (ss_ret se_bl)) ss_nil)
  (ss_cons (ss_if ((sw_or (st_cmp (op_neD hr.units) ok_ne (se_call (h_death_chance.mono (by decide)) hr (sp_cons (se_var (i := 3)) sp_nil)) (se_tup (sa_cons se_int (sa_cons se_int sa_nil)))) (sw_or (st_cmp op_nots ok_isNot (se_call (h_dies_surely.mono (by decide)) hr (sp_cons (se_var (i := 3)) sp_nil)) se_bl) (sw_or (st_cmp op_nots ok_isNot (se_call (h_is_live_paper.mono (by decide)) hr (sp_cons (se_var (i := 3)) (sp_cons (se_tup (sa_cons se_int (sa_cons se_int sa_nil))) sp_nil))) se_bl) (sw_or1 (st_cmp (op_neD hr.units) ok_ne (se_call (h_dead_by.mono (by decide)) hr (sp_cons (se_var (i := 3)) (sp_cons se_int sp_nil))) (se_tup (sa_cons se_int (sa_cons se_int sa_nil))))))))).st (ss_one (ss_ret se_bl)) ss_nil)
  (ss_one (ss_ret (se_and (se_cmp (op_eqD hr.units) ok_eq (se_call (h_death_between.mono (by decide)) hr (sp_cons (se_var (i := 3)) (sp_cons se_int sp_nil))) (se_tup (sa_cons (se_tup (sa_cons se_int (sa_cons se_int sa_nil))) (sa_cons (se_tup (sa_cons se_int (sa_cons (se_bin op_pow ok_pow se_int se_int) sa_nil))) sa_nil)))) (se_one (se_cb (cr_all rfl) ok_all (bl "all" (by decide)) (sa_cons (se_lc (own := [("born", 6)]) (vs := [6]) rfl S__law_always_right.nd (si_range2 (bl "range" (by decide)) se_int se_int) (blkOk_by (N := N__law_always_right) (sc := defScope (top 99)) (by decide +kernel)) (fun _ _ _ _ _ => (sg_n (i := 6) S__law_always_right.nd)) (fun _ _ _ _ _ => sts_nil) (fun _ _ _ _ _ => (se_cmp (op_eqD hr.units) ok_eq (se_call (h_born_chance.mono (by decide)) hr (sp_cons (se_var (i := 3)) (sp_cons (se_var (i := 6)) sp_nil))) (se_tup (sa_cons se_int (sa_cons se_int sa_nil)))))) sa_nil))))))))))))
theorem S__law_one_right : FnScope N__law_one_right ["pot"] (defScope (top 100)) := ⟨rfl, rfl, rfl, by decide +kernel, rfl, by decide +kernel, by decide +kernel⟩
theorem h__law_one_right {f : Addr} {fd : FuncData} (F : FnP K "_law_one_right" (top 100) f fd) (hm : mg "_law_one_right" = some (.ref f)) (bl : ∀ x ∈ blt, mg x = none) (h__law_draw : Has P w K mg base 1 "_law_draw" ["pot", "many"] m__law_draw) (h__law_plain : Has P w K mg base 1 "_law_plain" ["top", "bottom"] m__law_plain) (h__law_times : Has P w K mg base 2 "_law_times" ["one", "late"] m__law_times) (h__law_plus : Has P w K mg base 2 "_law_plus" ["one", "late"] m__law_plus) (h_child_mean : Has P w K mg base 7 "child_mean" ["children"] m_child_mean) (h_child_spread : Has P w K mg base 7 "child_spread" ["children"] m_child_spread) (h_dies_surely : Has P w K mg base 7 "dies_surely" ["children"] m_dies_surely) (h_live_paper : Has P w K mg base 7 "live_paper" ["children"] m_live_paper) (h_mean_size : Has P w K mg base 7 "mean_size" ["children", "many"] m_mean_size) (h_spread_size : Has P w K mg base 7 "spread_size" ["children", "many"] m_spread_size) (h_death_chance : Has P w K mg base 8 "death_chance" ["children"] m_death_chance) (h_dying : Has P w K mg base 8 "dying" ["children"] m_dying) (h_death_between : Has P w K mg base 7 "death_between" ["children", "many"] m_death_between) : Has P w K mg base 9 "_law_one_right" ["pot"] m__law_one_right :=
  has_of (l := 8) (N := N__law_one_right) F S__law_one_right hm (F.bindsN fun _ _ _ _ _ _ us hl => match us, hl with | [_], _ => rfl) (fun W cdv A outer s H E hr =>
  (ss_cons (ss_asg (se_tup (sa_cons (se_bin op_adds ok_add se_int (se_call (h__law_draw.mono (by decide)) hr (sp_pot (i := 0) (sp_cons se_int sp_nil)))) (sa_cons (se_call (h__law_draw.mono (by decide)) hr (sp_pot (i := 0) (sp_cons se_int sp_nil))) sa_nil))) (sg_t rfl (sgs_cons (sg_n (i := 1) S__law_one_right.nd) (sgs_cons (sg_n (i := 2) S__law_one_right.nd) sgs_nil))))
  (ss_cons (ss_own (i := 3) S__law_one_right.nd (sf_cat (se_bin op_adds ok_add (se_lst (sa_cons (se_call (h__law_plain.mono (by decide)) hr (sp_cons (se_bin op_subs ok_sub (se_var (i := 1)) se_int) (sp_cons (se_var (i := 1)) sp_nil))) sa_nil)) (se_bin op_muls ok_mul (se_lst (sa_cons (se_tup (sa_cons se_int (sa_cons se_int sa_nil))) sa_nil)) (se_bin op_subs ok_sub (se_var (i := 1)) se_int))) (se_lst (sa_cons (se_call (h__law_plain.mono (by decide)) hr (sp_cons se_int (sp_cons (se_var (i := 1)) sp_nil))) sa_nil))))
  (ss_frz (i := 3) (ss_cons (ss_ownlc (sf_setlc (i := 3) (own := [("one", 6)]) (vs := [6]) rfl S__law_one_right.nd rfl rfl (sw_true rfl rfl rfl (by decide +kernel)) (si_seq (se_var (i := 3))) (blkOk_by (N := N__law_one_right) (sc := defScope (top 100)) (by decide +kernel)) (fun _ _ _ _ _ => (sg_n (i := 6) S__law_one_right.nd)) (fun _ _ _ _ _ => sts_nil) (fun _ _ _ _ _ => (se_call (h__law_times.mono (by decide)) hr (sp_cons (se_var (i := 6)) (sp_cons (se_tup (sa_cons se_int (sa_cons (se_bin op_adds ok_add se_int (se_var (i := 2))) sa_nil))) sp_nil))))))
  (ss_cons (ss_setix (i := 3) (se_bor [3] (se_call (h__law_plus.mono (by decide)) hr (sp_cons (se_ix (se_var (i := 3)) se_int) (sp_cons (se_call (h__law_plain.mono (by decide)) hr (sp_cons (se_var (i := 2)) (sp_cons (se_bin op_adds ok_add se_int (se_var (i := 2))) sp_nil))) sp_nil)))) se_int)
  (ss_cons (ss_set (i := 4) S__law_one_right.nd (se_call (h__law_plain.mono (by decide)) hr (sp_cons (se_bin op_subs ok_sub (se_var (i := 1)) se_int) (sp_cons (se_bin op_adds ok_add se_int (se_var (i := 2))) sp_nil))))
  (ss_cons (ss_if (st_bor [3] ((sw_or (st_cmp (op_neD hr.units) ok_ne (se_call (h_child_mean.mono (by decide)) hr (sp_cons (se_var (i := 3)) sp_nil)) (se_tup (sa_cons se_int (sa_cons se_int sa_nil)))) (sw_or (st_cmp (op_neD hr.units) ok_ne (se_call (h_child_spread.mono (by decide)) hr (sp_cons (se_var (i := 3)) sp_nil)) (se_var (i := 4))) (sw_or (st_cmp op_nots ok_isNot (se_call (h_dies_surely.mono (by decide)) hr (sp_cons (se_var (i := 3)) sp_nil)) se_bl) (sw_or1 (st_cmp op_nots ok_isNot (se_call (h_live_paper.mono (by decide)) hr (sp_cons (se_var (i := 3)) sp_nil)) se_non)))))).st) (ss_one (ss_ret se_bl)) ss_nil)
  (ss_cons (ss_for PassesOwn.never rfl (si_range1 (bl "range" (by decide)) se_int) (sg_n (i := 5) S__law_one_right.nd) (ss_one (ss_if (st_bor [3] ((sw_or (st_cmp (op_neD hr.units) ok_ne (se_call (h_mean_size.mono (by decide)) hr (sp_cons (se_var (i := 3)) (sp_cons (se_var (i := 5)) sp_nil))) (se_tup (sa_cons se_int (sa_cons se_int sa_nil)))) (sw_or1 (st_cmp (op_neD hr.units) ok_ne (se_call (h_spread_size.mono (by decide)) hr (sp_cons (se_var (i := 3)) (sp_cons (se_var (i := 5)) sp_nil))) (se_call (h__law_times.mono (by decide)) hr (sp_cons (se_tup (sa_cons (se_var (i := 5)) (sa_cons se_int sa_nil))) (sp_cons (se_var (i := 4)) sp_nil))))))).st) (ss_one (ss_ret se_bl)) ss_nil)))
  (ss_frz (i := 3) (ss_one (ss_ret (se_and (se_cmp (op_eqD hr.units) ok_eq (se_call (h_death_chance.mono (by decide)) hr (sp_cons (se_var (i := 3)) sp_nil)) (se_tup (sa_cons se_int (sa_cons se_int sa_nil)))) (se_and (se_cmp (op_eqD hr.units) ok_eq (se_call (h_dying.mono (by decide)) hr (sp_cons (se_var (i := 3)) sp_nil)) (se_var (i := 3))) (se_one (se_cmp (op_eqD hr.units) ok_eq (se_call (h_death_between.mono (by decide)) hr (sp_cons (se_var (i := 3)) (sp_cons se_int sp_nil))) (se_tup (sa_cons (se_tup (sa_cons (se_bin op_subs ok_sub (se_bin op_pow ok_pow se_int se_int) se_int) (sa_cons (se_bin op_pow ok_pow se_int se_int) sa_nil))) (sa_cons (se_tup (sa_cons se_int (sa_cons se_int sa_nil))) sa_nil)))))))))))))))))))
end
end Kp

namespace Kp
open PySem PySem.Spec PyProof.Rows L2 Dl
section
variable {P : Program} {w : World} {K : PySem.W.Frag} {mg : Str → Option Value} {base : Heap}
abbrev N__law_draw : List Str := ["pot", "many", "digit"]
theorem S__law_draw : FnScope N__law_draw ["pot", "many"] (defScope (top 74)) := ⟨rfl, rfl, rfl, by decide +kernel, rfl, by decide +kernel, by decide +kernel⟩

theorem h__law_draw {f : Addr} {fd : FuncData} (F : FnP K "_law_draw" (top 74) f fd) (hm : mg "_law_draw" = some (.ref f)) (bl : ∀ x ∈ blt, mg x = none) : Has P w K mg base 1 "_law_draw" ["pot", "many"] mDraw := by
  have lk : ∃ oc od osl, K.lookup f = some ⟨oc, od, .func fd, osl⟩ := by
    obtain ⟨oc, od, _, _, _, _, _, _, _, osl, _, h2, _⟩ := F.ex
    exact ⟨oc, od, osl, h2⟩
  refine ⟨f, fd, F.ok S__law_draw (fun vs H Q E h => h.1) (fun cdv A outer s H vs Q E hr hs => ?_), hm, F.kp, F.bindsN fun _ _ _ _ _ _ us hl => match us, hl with | [_, _], _ => rfl, lk⟩
  refine ⟨_, PSs.nox (pss_cons (ps_if (pt_cmpR op_gt (pe_ix ix_list (pv 0) pe_int (by intro _ _; rfl)) pe_int (nomark _))
      (pss_cons (ps_asg (pe_callB call_divmod rfl (bl "divmod" (by decide)) (by decide +kernel) (pa_cons (pe_ix ix_list (pv 0) pe_int (by intro _ _; rfl)) (pa_cons (pv 1) pa_nil))) (pg_tup rfl (pgs_cons (pg_sub (pv 0) pe_int set_list) (pgs_cons (pg_name (i := 2) S__law_draw.nd rfl (Or.inl rfl)) pgs_nil)))) (pss_one (ps_ret (pv 2)))) pss_nil)
    (pss_cons (ps_asg (pe_op op_mod (pe_callTy call_int1 rfl (bl "int" (by decide)) (by decide +kernel) (pa_cons (pe_op op_add (pe_op op_mul (pe_ix ix_list (pv 0) pe_int (by intro _ _; rfl)) pe_int) pe_int) pa_nil)) pe_int) (pg_sub (pv 0) pe_int set_list))
    (pss_one (ps_ret (pe_op op_mod (pe_callTy call_int1 rfl (bl "int" (by decide)) (by decide +kernel) (pa_cons (pe_op op_fdiv (pe_op op_mod (pe_callTy call_int1 rfl (bl "int" (by decide)) (by decide +kernel) (pa_cons (pe_op op_mul (pe_ix ix_list (pv 0) pe_int (by intro _ _; rfl)) (pe_ix ix_list (pv 0) pe_int (by intro _ _; rfl))) pa_nil)) pe_int) pe_int) pa_nil)) (pv 1)))))), ?_⟩
  obtain ⟨hl, pp, F0, ds, k, B, r, hmm, q⟩ := hs
  unfold mDraw at hmm
  split at hmm
  case h_2 => cases hmm
  rename_i l n
  cases r with
  | @cons v1 vs d1 ds r1 r =>
    cases r with
    | @cons v2 vs d2 ds r2 r =>
      cases r with
      | nil =>
        rcases r1 with r1 | ⟨_, rfl⟩
        · cases r1
        rcases r2 with r2 | ⟨r2, _⟩
        case inr => cases r2
        cases r2
        cases e : Nat.ble n 1000000000 with
        | false => rw [e] at hmm; cases hmm
        | true =>
          rw [e] at hmm
          have hmm : Dl.allB (n + 1) (fun c => k (.int (Int.ofNat c))) = true := hmm
          have hn : n ≤ 1000000000 := Nat.le_of_ble_eq_true e
          have hpos : (0 : Int) < Int.ofNat (n + 1) := Int.ofNat_lt.mpr (Nat.succ_pos n)
          have hbig : Int.ofNat (n + 1) < (1073741824 : Int) := by
            have : ((n + 1 : Nat) : Int) < 1073741824 := by omega
            exact this
          have fin : ∀ (z : Int), 0 ≤ z → z < Int.ofNat (n + 1) → k (.int z) = true := fun z h0 h1 => by
            obtain ⟨c, rfl⟩ := Int.eq_ofNat_of_zero_le h0
            exact allB_get hmm (Int.ofNat_lt.mp h1)
          obtain ⟨a, b, hp, ha, hb, hb2⟩ := B.po
          refine ⟨_, rfl, pp, [.int a, .int b], 0, .int a, rfl, rfl, .inl (.inl hp), rfl, a, 0, rfl, rfl, _, rfl, ?_⟩
          show (if decide ((0 : Int) < a) = true then _ else _)
          by_cases h0 : 0 < a
          · rw [if_pos (decide_eq_true h0)]
            refine ⟨_, rfl, pp, [.int a, .int b], 0, .int a, rfl, rfl, .inl (.inl hp), rfl, _, rfl, a, Int.ofNat (n + 1), rfl, ⟨hpos, hbig⟩, fun p hpn => ?_⟩
            have st := Stp.newO (o := .tup [.int (a / Int.ofNat (n + 1)), .int (a % Int.ofNat (n + 1))]) B hpn
            have np := ne_pp B hpn
            refine ⟨p, [.int (a / Int.ofNat (n + 1)), .int (a % Int.ofNat (n + 1))], rfl, .inl (.inl upd_same), rfl, _, _, rfl, _, rfl, pp, [.int a, .int b], 0, 0, rfl, rfl, ?_, rfl, _, _, rfl, rfl, _, rfl, ?_⟩
            · rw [upd_ne (Ne.symm np)]; exact hp
            · exact q _ _ F0 _ (stp_pot B st (Int.ediv_nonneg ha (Int.le_of_lt hpos)) hb hb2) (.int _) (fin _ (Int.emod_nonneg _ (Int.ne_of_gt hpos)) (Int.emod_lt_of_pos _ hpos))
          · rw [if_neg (fun z => h0 (of_decide_eq_true z))]
            have m1 : (0 : Int) ≤ (b * 39373 + 3251) % 2147483587 := Int.emod_nonneg _ (by decide)
            have m2 : (b * 39373 + 3251) % 2147483587 < 2147483587 := Int.emod_lt_of_pos _ (by decide)
            refine ⟨_, rfl, pp, [.int a, .int b], 1, .int b, rfl, rfl, .inl (.inl hp), rfl, b, 39373, rfl, rfl, .inr (by decide), _, _, rfl, rfl, .inl ⟨_, rfl, _, 2147483587, rfl, rfl, (show (0 : Int) < 2147483587 by decide), ?_⟩⟩
            refine ⟨_, rfl, pp, [.int a, .int b], 1, 1, rfl, rfl, hp, rfl, ?_⟩
            have hz : upd H pp (HO.lst [.int a, .int ((b * 39373 + 3251) % 2147483587)]) pp = some (.lst [.int a, .int ((b * 39373 + 3251) % 2147483587)]) := upd_same
            refine ⟨_, rfl, pp, [.int a, .int ((b * 39373 + 3251) % 2147483587)], 1, .int ((b * 39373 + 3251) % 2147483587), rfl, rfl, .inl (.inl hz), rfl, _, rfl, pp, [.int a, .int ((b * 39373 + 3251) % 2147483587)], 1, .int ((b * 39373 + 3251) % 2147483587), rfl, rfl, .inl (.inl hz), rfl, (b * 39373 + 3251) % 2147483587, (b * 39373 + 3251) % 2147483587, rfl, rfl, .inl ⟨by omega, by omega⟩, .inl ⟨_, rfl, _, 2147483563, rfl, rfl, (show (0 : Int) < 2147483563 by decide), _, 19, rfl, rfl, ⟨by decide, by decide⟩, .inl ⟨_, rfl, _, rfl, _, _, rfl, rfl, hpos, ?_⟩⟩⟩
            exact q _ _ F0 _ (stp_pot B (Stp.refl B) ha m1 (by omega)) (.int _) (fin _ (Int.emod_nonneg _ (Int.ne_of_gt hpos)) (Int.emod_lt_of_pos _ hpos))

abbrev N__law_pot : List Str := ["script", "k", "cell"]
theorem S__law_pot : FnScope N__law_pot ["script", "k"] (defScope (top 73)) := ⟨rfl, rfl, rfl, by decide +kernel, rfl, by decide +kernel, by decide +kernel⟩
def potTail : TS := tRet (tLst (tCons (tCB (fun xs H Q => ∃ i j, xs = [V.int i, .int j] ∧ Q (.int (if j > i then j else i)) H) (tCons (tC (.int 0)) (tCons (tOp (rI0 fun i j => .int (i - j)) (tVar 2) (tOp (rI CPow fun i j => .int (i ^ j.toNat)) (tC (.int 10)) (tC (.int 18)))) tNil)))
  (tCons (tOp (rI0 fun i j => .int (i + j)) (tOp (rI (fun _ j => 0 < j) fun i j => .int (i % j)) (tCB (fun xs H Q => (∃ i, xs = [V.int i] ∧ Q (.int i) H) ∨ ∃ k, xs = [V.bl k] ∧ Q (.int (if k then 1 else 0)) H) (tCons (tOp (rI0 fun i j => .int (i + j)) (tOp (rI0 fun i j => .int (i + j)) (tOp (rI CMul fun i j => .int (i * j)) (tOp (rI (fun _ j => 0 < j) fun i j => .int (i % j)) (tCB (fun xs H Q => (∃ i, xs = [V.int i] ∧ Q (.int i) H) ∨ ∃ k, xs = [V.bl k] ∧ Q (.int (if k then 1 else 0)) H) (tCons (tVar 2) tNil)) (tC (.int 2147483549))) (tC (.int 40014))) (tOp (rI CMul fun i j => .int (i * j)) (tC (.int 11971)) (tVar 1))) (tC (.int 61))) tNil)) (tC (.int 2147483563))) (tC (.int 1))) tNil)))
theorem pot_tail {a : Addr} {k c : Int} {H : Hp} {D : Ends} (h1 : 0 ≤ k) (h2 : k < 100) (hQ : ∀ p x y, H p = none → 0 ≤ x → 0 ≤ y → y < 4294967296 → D.rt (.ref p) (upd H p (.lst [.int x, .int y]))) : potTail D [some (.ref a), some (.int k), some (.int c)] H := by
  have m1 : (0 : Int) ≤ c % 2147483549 := Int.emod_nonneg _ (by decide)
  have m2 : c % 2147483549 < 2147483549 := Int.emod_lt_of_pos _ (by decide)
  refine ⟨_, rfl, 10, 18, rfl, rfl, ⟨by decide, by decide, by decide⟩, _, _, rfl, rfl, _, _, rfl, ?_⟩
  refine ⟨_, rfl, .inl ⟨_, rfl, _, 2147483549, rfl, rfl, (show (0 : Int) < 2147483549 by decide), c % 2147483549, 40014, rfl, rfl, .inl ⟨by omega, by omega⟩, _, rfl, 11971, k, rfl, rfl, .inl ⟨by decide, by decide⟩, _, _, rfl, rfl, _, 61, rfl, rfl, .inl ⟨_, rfl, _, 2147483563, rfl, rfl, (show (0 : Int) < 2147483563 by decide), _, 1, rfl, rfl, ?_⟩⟩⟩
  refine ⟨(show (2 : Nat) ≤ sizeLine by decide), fun p hp => ?_⟩
  refine hQ p _ _ hp ?_ ?_ ?_
  · show (0 : Int) ≤ (if c - (10 : Int) ^ (18 : Int).toNat > 0 then c - (10 : Int) ^ (18 : Int).toNat else 0)
    split
    · omega
    · omega
  · show (0 : Int) ≤ (c % 2147483549 * 40014 + 11971 * k + 61) % 2147483563 + 1
    have : (0 : Int) ≤ (c % 2147483549 * 40014 + 11971 * k + 61) % 2147483563 := Int.emod_nonneg _ (by decide)
    omega
  · show (c % 2147483549 * 40014 + 11971 * k + 61) % 2147483563 + 1 < 4294967296
    have : (c % 2147483549 * 40014 + 11971 * k + 61) % 2147483563 < 2147483563 := Int.emod_lt_of_pos _ (by decide)
    omega
theorem ok_pot {f : Addr} {fd : FuncData} (F : FnP K "_law_pot" (top 73) f fd) (bl : ∀ x ∈ blt, mg x = none) : FnOk P w K mg base CX0 1 f fd ["script", "k"] (spPot K) := by
  refine F.ok S__law_pot (fun vs H Q E h => ?_) (fun cdv A outer s H vs Q E hr hs => ?_)
  · obtain ⟨a, ns, k, rfl, _⟩ := h
    rfl
  refine ⟨_, PSs.nox (pss_cons (ps_set (i := 2) S__law_pot.nd rfl (Or.inl rfl) (pe_op op_add (pe_op op_mul pe_int (pv 1)) pe_int))
    (pss_cons (ps_if (pt_cmpR op_lt (pv 1) (pe_callB call_len_seq rfl (bl "len" (by decide)) (by decide +kernel) (pa_cons (pv 0) pa_nil)) (nomark _))
      (pss_one (ps_set (i := 2) S__law_pot.nd rfl (Or.inl rfl) (pe_callB call_abs rfl (bl "abs" (by decide)) (by decide +kernel) (pa_cons (pe_ix ix_list (pv 0) (pv 1) (by intro _ _; rfl)) pa_nil)))) pss_nil)
    (pss_one (ps_ret (pe_lst (pa_cons (pe_callB (call_max2 rfl) rfl (bl "max" (by decide)) (by decide +kernel) (pa_cons pe_int (pa_cons (pe_op op_sub (pv 2) (pe_op op_pow pe_int pe_int)) pa_nil))) (pa_cons (pe_op op_add (pe_op op_mod (pe_callTy call_int1 rfl (bl "int" (by decide)) (by decide +kernel) (pa_cons (pe_op op_add (pe_op op_add (pe_op op_mul (pe_op op_mod (pe_callTy call_int1 rfl (bl "int" (by decide)) (by decide +kernel) (pa_cons (pv 2) pa_nil)) pe_int) pe_int) (pe_op op_mul pe_int (pv 1))) pe_int) pa_nil)) pe_int) pe_int) pa_nil))))))), ?_⟩
  obtain ⟨a, ns, k, rfl, hS, h1, h2, hQ⟩ := hs
  refine ⟨_, rfl, 3229, k, rfl, rfl, .inl ⟨by decide, by decide⟩, _, 11971, rfl, rfl, ?_⟩
  refine ⟨_, rfl, _, rfl, a, ns.map V.int, rfl, .inl hS, k, _, rfl, rfl, _, rfl, ?_⟩
  show (if decide (k < ((ns.map V.int).length : Int)) = true then _ else _)
  by_cases h0 : k < ((ns.map V.int).length : Int)
  · rw [if_pos (decide_eq_true h0)]
    obtain ⟨j, rfl⟩ := Int.eq_ofNat_of_zero_le h1
    have hj : j < (ns.map V.int).length := Int.ofNat_lt.mp h0
    have hj2 : j < ns.length := by rw [List.length_map] at hj; exact hj
    have e : atI (ns.map V.int) (Int.ofNat j) = some (.int ns[j]) := by
      unfold atI
      rw [ixN_lt hj]
      show (ns.map V.int)[j]? = _
      rw [List.getElem?_map, List.getElem?_eq_getElem hj2]
      rfl
    exact ⟨_, rfl, _, rfl, a, ns.map V.int, _, _, rfl, rfl, hS, e, _, rfl, pot_tail h1 h2 hQ⟩
  · rw [if_neg (fun z => h0 (of_decide_eq_true z))]
    exact pot_tail h1 h2 hQ
end
end Kp

namespace Kp
open PySem Dl
theorem ea_0_0 : r__law_always_right BT (((startE 7 [.dict []]).set 1 (.fz (.int 1))).set 2 (.fz (.int 0))) = true := by decide +kernel
theorem ea_0_1 : r__law_always_right BT (((startE 7 [.dict []]).set 1 (.fz (.int 1))).set 2 (.fz (.int 1))) = true := by decide +kernel
theorem ea_0_2 : r__law_always_right BT (((startE 7 [.dict []]).set 1 (.fz (.int 1))).set 2 (.fz (.int 2))) = true := by decide +kernel
theorem ea_0_3 : r__law_always_right BT (((startE 7 [.dict []]).set 1 (.fz (.int 1))).set 2 (.fz (.int 3))) = true := by decide +kernel
theorem ea_1_0 : r__law_always_right BT (((startE 7 [.dict []]).set 1 (.fz (.int 2))).set 2 (.fz (.int 0))) = true := by decide +kernel
theorem ea_1_1 : r__law_always_right BT (((startE 7 [.dict []]).set 1 (.fz (.int 2))).set 2 (.fz (.int 1))) = true := by decide +kernel
theorem ea_1_2 : r__law_always_right BT (((startE 7 [.dict []]).set 1 (.fz (.int 2))).set 2 (.fz (.int 2))) = true := by decide +kernel
theorem ea_1_3 : r__law_always_right BT (((startE 7 [.dict []]).set 1 (.fz (.int 2))).set 2 (.fz (.int 3))) = true := by decide +kernel
theorem ea_2_0 : r__law_always_right BT (((startE 7 [.dict []]).set 1 (.fz (.int 3))).set 2 (.fz (.int 0))) = true := by decide +kernel
theorem ea_2_1 : r__law_always_right BT (((startE 7 [.dict []]).set 1 (.fz (.int 3))).set 2 (.fz (.int 1))) = true := by decide +kernel
theorem ea_2_2 : r__law_always_right BT (((startE 7 [.dict []]).set 1 (.fz (.int 3))).set 2 (.fz (.int 2))) = true := by decide +kernel
theorem ea_2_3 : r__law_always_right BT (((startE 7 [.dict []]).set 1 (.fz (.int 3))).set 2 (.fz (.int 3))) = true := by decide +kernel
theorem ea_3_0 : r__law_always_right BT (((startE 7 [.dict []]).set 1 (.fz (.int 4))).set 2 (.fz (.int 0))) = true := by decide +kernel
theorem ea_3_1 : r__law_always_right BT (((startE 7 [.dict []]).set 1 (.fz (.int 4))).set 2 (.fz (.int 1))) = true := by decide +kernel
theorem ea_3_2 : r__law_always_right BT (((startE 7 [.dict []]).set 1 (.fz (.int 4))).set 2 (.fz (.int 2))) = true := by decide +kernel
theorem ea_3_3 : r__law_always_right BT (((startE 7 [.dict []]).set 1 (.fz (.int 4))).set 2 (.fz (.int 3))) = true := by decide +kernel
theorem eb_2_0 : (qPlain [.int (1 + Int.ofNat 0), .int (2 + Int.ofNat 0)] fun v => r__law_two_right BT (((startE 10 [.dict []]).set 1 (.fz (.int (2 + Int.ofNat 0)))).set 2 (.fz v))) = true := by decide +kernel
theorem eb_3_0 : (qPlain [.int (1 + Int.ofNat 0), .int (2 + Int.ofNat 1)] fun v => r__law_two_right BT (((startE 10 [.dict []]).set 1 (.fz (.int (2 + Int.ofNat 1)))).set 2 (.fz v))) = true := by decide +kernel
theorem eb_3_1 : (qPlain [.int (1 + Int.ofNat 1), .int (2 + Int.ofNat 1)] fun v => r__law_two_right BT (((startE 10 [.dict []]).set 1 (.fz (.int (2 + Int.ofNat 1)))).set 2 (.fz v))) = true := by decide +kernel
theorem eb_4_0 : (qPlain [.int (1 + Int.ofNat 0), .int (2 + Int.ofNat 2)] fun v => r__law_two_right BT (((startE 10 [.dict []]).set 1 (.fz (.int (2 + Int.ofNat 2)))).set 2 (.fz v))) = true := by decide +kernel
theorem eb_4_1 : (qPlain [.int (1 + Int.ofNat 1), .int (2 + Int.ofNat 2)] fun v => r__law_two_right BT (((startE 10 [.dict []]).set 1 (.fz (.int (2 + Int.ofNat 2)))).set 2 (.fz v))) = true := by decide +kernel
theorem eb_4_2 : (qPlain [.int (1 + Int.ofNat 2), .int (2 + Int.ofNat 2)] fun v => r__law_two_right BT (((startE 10 [.dict []]).set 1 (.fz (.int (2 + Int.ofNat 2)))).set 2 (.fz v))) = true := by decide +kernel
theorem eb_5_0 : (qPlain [.int (1 + Int.ofNat 0), .int (2 + Int.ofNat 3)] fun v => r__law_two_right BT (((startE 10 [.dict []]).set 1 (.fz (.int (2 + Int.ofNat 3)))).set 2 (.fz v))) = true := by decide +kernel
theorem eb_5_1 : (qPlain [.int (1 + Int.ofNat 1), .int (2 + Int.ofNat 3)] fun v => r__law_two_right BT (((startE 10 [.dict []]).set 1 (.fz (.int (2 + Int.ofNat 3)))).set 2 (.fz v))) = true := by decide +kernel
theorem eb_5_2 : (qPlain [.int (1 + Int.ofNat 2), .int (2 + Int.ofNat 3)] fun v => r__law_two_right BT (((startE 10 [.dict []]).set 1 (.fz (.int (2 + Int.ofNat 3)))).set 2 (.fz v))) = true := by decide +kernel
theorem eb_5_3 : (qPlain [.int (1 + Int.ofNat 3), .int (2 + Int.ofNat 3)] fun v => r__law_two_right BT (((startE 10 [.dict []]).set 1 (.fz (.int (2 + Int.ofNat 3)))).set 2 (.fz v))) = true := by decide +kernel
theorem eb_6_0 : (qPlain [.int (1 + Int.ofNat 0), .int (2 + Int.ofNat 4)] fun v => r__law_two_right BT (((startE 10 [.dict []]).set 1 (.fz (.int (2 + Int.ofNat 4)))).set 2 (.fz v))) = true := by decide +kernel
theorem eb_6_1 : (qPlain [.int (1 + Int.ofNat 1), .int (2 + Int.ofNat 4)] fun v => r__law_two_right BT (((startE 10 [.dict []]).set 1 (.fz (.int (2 + Int.ofNat 4)))).set 2 (.fz v))) = true := by decide +kernel
theorem eb_6_2 : (qPlain [.int (1 + Int.ofNat 2), .int (2 + Int.ofNat 4)] fun v => r__law_two_right BT (((startE 10 [.dict []]).set 1 (.fz (.int (2 + Int.ofNat 4)))).set 2 (.fz v))) = true := by decide +kernel
theorem eb_6_3 : (qPlain [.int (1 + Int.ofNat 3), .int (2 + Int.ofNat 4)] fun v => r__law_two_right BT (((startE 10 [.dict []]).set 1 (.fz (.int (2 + Int.ofNat 4)))).set 2 (.fz v))) = true := by decide +kernel
theorem eb_6_4 : (qPlain [.int (1 + Int.ofNat 4), .int (2 + Int.ofNat 4)] fun v => r__law_two_right BT (((startE 10 [.dict []]).set 1 (.fz (.int (2 + Int.ofNat 4)))).set 2 (.fz v))) = true := by decide +kernel
theorem eb_7_0 : (qPlain [.int (1 + Int.ofNat 0), .int (2 + Int.ofNat 5)] fun v => r__law_two_right BT (((startE 10 [.dict []]).set 1 (.fz (.int (2 + Int.ofNat 5)))).set 2 (.fz v))) = true := by decide +kernel
theorem eb_7_1 : (qPlain [.int (1 + Int.ofNat 1), .int (2 + Int.ofNat 5)] fun v => r__law_two_right BT (((startE 10 [.dict []]).set 1 (.fz (.int (2 + Int.ofNat 5)))).set 2 (.fz v))) = true := by decide +kernel
theorem eb_7_2 : (qPlain [.int (1 + Int.ofNat 2), .int (2 + Int.ofNat 5)] fun v => r__law_two_right BT (((startE 10 [.dict []]).set 1 (.fz (.int (2 + Int.ofNat 5)))).set 2 (.fz v))) = true := by decide +kernel
theorem eb_7_3 : (qPlain [.int (1 + Int.ofNat 3), .int (2 + Int.ofNat 5)] fun v => r__law_two_right BT (((startE 10 [.dict []]).set 1 (.fz (.int (2 + Int.ofNat 5)))).set 2 (.fz v))) = true := by decide +kernel
theorem eb_7_4 : (qPlain [.int (1 + Int.ofNat 4), .int (2 + Int.ofNat 5)] fun v => r__law_two_right BT (((startE 10 [.dict []]).set 1 (.fz (.int (2 + Int.ofNat 5)))).set 2 (.fz v))) = true := by decide +kernel
theorem eb_7_5 : (qPlain [.int (1 + Int.ofNat 5), .int (2 + Int.ofNat 5)] fun v => r__law_two_right BT (((startE 10 [.dict []]).set 1 (.fz (.int (2 + Int.ofNat 5)))).set 2 (.fz v))) = true := by decide +kernel
theorem eb_8_0 : (qPlain [.int (1 + Int.ofNat 0), .int (2 + Int.ofNat 6)] fun v => r__law_two_right BT (((startE 10 [.dict []]).set 1 (.fz (.int (2 + Int.ofNat 6)))).set 2 (.fz v))) = true := by decide +kernel
theorem eb_8_1 : (qPlain [.int (1 + Int.ofNat 1), .int (2 + Int.ofNat 6)] fun v => r__law_two_right BT (((startE 10 [.dict []]).set 1 (.fz (.int (2 + Int.ofNat 6)))).set 2 (.fz v))) = true := by decide +kernel
theorem eb_8_2 : (qPlain [.int (1 + Int.ofNat 2), .int (2 + Int.ofNat 6)] fun v => r__law_two_right BT (((startE 10 [.dict []]).set 1 (.fz (.int (2 + Int.ofNat 6)))).set 2 (.fz v))) = true := by decide +kernel
theorem eb_8_3 : (qPlain [.int (1 + Int.ofNat 3), .int (2 + Int.ofNat 6)] fun v => r__law_two_right BT (((startE 10 [.dict []]).set 1 (.fz (.int (2 + Int.ofNat 6)))).set 2 (.fz v))) = true := by decide +kernel
theorem eb_8_4 : (qPlain [.int (1 + Int.ofNat 4), .int (2 + Int.ofNat 6)] fun v => r__law_two_right BT (((startE 10 [.dict []]).set 1 (.fz (.int (2 + Int.ofNat 6)))).set 2 (.fz v))) = true := by decide +kernel
theorem eb_8_5 : (qPlain [.int (1 + Int.ofNat 5), .int (2 + Int.ofNat 6)] fun v => r__law_two_right BT (((startE 10 [.dict []]).set 1 (.fz (.int (2 + Int.ofNat 6)))).set 2 (.fz v))) = true := by decide +kernel
theorem eb_8_6 : (qPlain [.int (1 + Int.ofNat 6), .int (2 + Int.ofNat 6)] fun v => r__law_two_right BT (((startE 10 [.dict []]).set 1 (.fz (.int (2 + Int.ofNat 6)))).set 2 (.fz v))) = true := by decide +kernel
theorem eb_9_0 : (qPlain [.int (1 + Int.ofNat 0), .int (2 + Int.ofNat 7)] fun v => r__law_two_right BT (((startE 10 [.dict []]).set 1 (.fz (.int (2 + Int.ofNat 7)))).set 2 (.fz v))) = true := by decide +kernel
theorem eb_9_1 : (qPlain [.int (1 + Int.ofNat 1), .int (2 + Int.ofNat 7)] fun v => r__law_two_right BT (((startE 10 [.dict []]).set 1 (.fz (.int (2 + Int.ofNat 7)))).set 2 (.fz v))) = true := by decide +kernel
theorem eb_9_2 : (qPlain [.int (1 + Int.ofNat 2), .int (2 + Int.ofNat 7)] fun v => r__law_two_right BT (((startE 10 [.dict []]).set 1 (.fz (.int (2 + Int.ofNat 7)))).set 2 (.fz v))) = true := by decide +kernel
theorem eb_9_3 : (qPlain [.int (1 + Int.ofNat 3), .int (2 + Int.ofNat 7)] fun v => r__law_two_right BT (((startE 10 [.dict []]).set 1 (.fz (.int (2 + Int.ofNat 7)))).set 2 (.fz v))) = true := by decide +kernel
theorem eb_9_4 : (qPlain [.int (1 + Int.ofNat 4), .int (2 + Int.ofNat 7)] fun v => r__law_two_right BT (((startE 10 [.dict []]).set 1 (.fz (.int (2 + Int.ofNat 7)))).set 2 (.fz v))) = true := by decide +kernel
theorem eb_9_5 : (qPlain [.int (1 + Int.ofNat 5), .int (2 + Int.ofNat 7)] fun v => r__law_two_right BT (((startE 10 [.dict []]).set 1 (.fz (.int (2 + Int.ofNat 7)))).set 2 (.fz v))) = true := by decide +kernel
theorem eb_9_6 : (qPlain [.int (1 + Int.ofNat 6), .int (2 + Int.ofNat 7)] fun v => r__law_two_right BT (((startE 10 [.dict []]).set 1 (.fz (.int (2 + Int.ofNat 7)))).set 2 (.fz v))) = true := by decide +kernel
theorem eb_9_7 : (qPlain [.int (1 + Int.ofNat 7), .int (2 + Int.ofNat 7)] fun v => r__law_two_right BT (((startE 10 [.dict []]).set 1 (.fz (.int (2 + Int.ofNat 7)))).set 2 (.fz v))) = true := by decide +kernel
theorem t_lines : m__law_lines_right [.dict []] isT = true := by decide +kernel
theorem t_one : m__law_one_right [.dict []] isT = true := by decide +kernel
theorem t_always : m__law_always_right [.dict []] isT = true := by
  show b__law_always_right BT (startE 7 [.dict []]) = true
  unfold b__law_always_right
  refine draw_par (m := 3) (m2 := 3) rfl rfl rfl rfl rfl fun c hc c2 hc2 => ?_
  match c, c2, hc, hc2 with
  | 0, 0, _, _ => exact ea_0_0
  | 0, 1, _, _ => exact ea_0_1
  | 0, 2, _, _ => exact ea_0_2
  | 0, 3, _, _ => exact ea_0_3
  | 1, 0, _, _ => exact ea_1_0
  | 1, 1, _, _ => exact ea_1_1
  | 1, 2, _, _ => exact ea_1_2
  | 1, 3, _, _ => exact ea_1_3
  | 2, 0, _, _ => exact ea_2_0
  | 2, 1, _, _ => exact ea_2_1
  | 2, 2, _, _ => exact ea_2_2
  | 2, 3, _, _ => exact ea_2_3
  | 3, 0, _, _ => exact ea_3_0
  | 3, 1, _, _ => exact ea_3_1
  | 3, 2, _, _ => exact ea_3_2
  | 3, 3, _, _ => exact ea_3_3
  | _ + 4, _, h, _ => exact absurd h (by omega)
  | _, _ + 4, _, h => exact absurd h (by omega)
theorem t_two : m__law_two_right [.dict []] isT = true := by
  show b__law_two_right BT (startE 10 [.dict []]) = true
  unfold b__law_two_right
  refine draw_asg (n := 0) (m := 7) rfl rfl rfl fun c hc => ?_
  match c, hc with
  | 0, _ =>
    refine draw_fr (m := 0) rfl rfl rfl rfl fun c hc => ?_
    match c, hc with
    | 0, _ => exact eb_2_0
    | _ + 1, h => exact absurd h (by omega)
  | 1, _ =>
    refine draw_fr (m := 1) rfl rfl rfl rfl fun c hc => ?_
    match c, hc with
    | 0, _ => exact eb_3_0
    | 1, _ => exact eb_3_1
    | _ + 2, h => exact absurd h (by omega)
  | 2, _ =>
    refine draw_fr (m := 2) rfl rfl rfl rfl fun c hc => ?_
    match c, hc with
    | 0, _ => exact eb_4_0
    | 1, _ => exact eb_4_1
    | 2, _ => exact eb_4_2
    | _ + 3, h => exact absurd h (by omega)
  | 3, _ =>
    refine draw_fr (m := 3) rfl rfl rfl rfl fun c hc => ?_
    match c, hc with
    | 0, _ => exact eb_5_0
    | 1, _ => exact eb_5_1
    | 2, _ => exact eb_5_2
    | 3, _ => exact eb_5_3
    | _ + 4, h => exact absurd h (by omega)
  | 4, _ =>
    refine draw_fr (m := 4) rfl rfl rfl rfl fun c hc => ?_
    match c, hc with
    | 0, _ => exact eb_6_0
    | 1, _ => exact eb_6_1
    | 2, _ => exact eb_6_2
    | 3, _ => exact eb_6_3
    | 4, _ => exact eb_6_4
    | _ + 5, h => exact absurd h (by omega)
  | 5, _ =>
    refine draw_fr (m := 5) rfl rfl rfl rfl fun c hc => ?_
    match c, hc with
    | 0, _ => exact eb_7_0
    | 1, _ => exact eb_7_1
    | 2, _ => exact eb_7_2
    | 3, _ => exact eb_7_3
    | 4, _ => exact eb_7_4
    | 5, _ => exact eb_7_5
    | _ + 6, h => exact absurd h (by omega)
  | 6, _ =>
    refine draw_fr (m := 6) rfl rfl rfl rfl fun c hc => ?_
    match c, hc with
    | 0, _ => exact eb_8_0
    | 1, _ => exact eb_8_1
    | 2, _ => exact eb_8_2
    | 3, _ => exact eb_8_3
    | 4, _ => exact eb_8_4
    | 5, _ => exact eb_8_5
    | 6, _ => exact eb_8_6
    | _ + 7, h => exact absurd h (by omega)
  | 7, _ =>
    refine draw_fr (m := 7) rfl rfl rfl rfl fun c hc => ?_
    match c, hc with
    | 0, _ => exact eb_9_0
    | 1, _ => exact eb_9_1
    | 2, _ => exact eb_9_2
    | 3, _ => exact eb_9_3
    | 4, _ => exact eb_9_4
    | 5, _ => exact eb_9_5
    | 6, _ => exact eb_9_6
    | 7, _ => exact eb_9_7
    | _ + 8, h => exact absurd h (by omega)
  | _ + 8, h => exact absurd h (by omega)
end Kp


namespace Kp
open PySem PySem.Spec PyProof.Rows L2 Dl
section
variable {P : Program} {w : World} {K : PySem.W.Frag} {mg : Str → Option Value} {base : Heap}
abbrev N_law : List Str := ["script", "pot", "turn"]
theorem S_law : FnScope N_law ["script"] (defScope (top 101)) := ⟨rfl, rfl, rfl, by decide +kernel, rfl, by decide +kernel, by decide +kernel⟩
def retE (st : Stmt) (k : Nat) : Expr := match (defBody st)[k]? with
  | some (.Return (some e) _) => e
  | _ => .Tuple [] default default
def law_code : DE := (dCB gAll (aCons (dLc (iRange1 (dC (.int 3))) (gN 2) dYes (dAndV (dCallN 1 mTrue (aPot 1 aNil)) (dAndV (dCallN 1 mTrue (aPot 1 aNil)) (dAndV (dCallN 1 mTrue (aPot 1 aNil)) (dCallN 1 mTrue (aPot 1 aNil))))) [2]) aNil))
theorem law_end : law_code [.no, .pt, .no] isT = true := by decide +kernel
theorem ok_law {f fp : Addr} {fd fdp : FuncData} (F : FnP K "law" (top 101) f fd) (bl : ∀ x ∈ blt, mg x = none) (FP : FnP K "_law_pot" (top 73) fp fdp) (gP : mg "_law_pot" = some (.ref fp)) (h__law_lines_right : Has P w K mg base 9 "_law_lines_right" ["pot"] mTrue) (h__law_two_right : Has P w K mg base 9 "_law_two_right" ["pot"] mTrue) (h__law_always_right : Has P w K mg base 9 "_law_always_right" ["pot"] mTrue) (h__law_one_right : Has P w K mg base 9 "_law_one_right" ["pot"] mTrue) :
    FnOk P w K mg base CX0 10 f fd ["script"] (spLaw K) := by
  have GP := ok_pot (w := w) (P := P) (base := base) FP bl
  have bP : Binds K fdp ["script", "k"] [] := FP.bindsN fun _ _ _ _ _ _ us hl => match us, hl with | [_, _], _ => rfl
  refine F.ok S_law (fun vs H Q E h => ?_) (fun cdv A outer s H vs Q E hr hs => ?_)
  · obtain ⟨a, ns, rfl, _⟩ := h
    rfl
  obtain ⟨t, p, o⟩ := se_all (e := retE (top 101) 1) (X := (cxOf CX0 P w K mg base N_law "law" (defScope (top 101)) f cdv A outer s H E).nox) (d := law_code) (fun W => (se_cb (cr_all rfl) ok_all (bl "all" (by decide)) (sa_cons (se_lc (own := [("turn", 2)]) (vs := [2]) rfl S_law.nd (si_range1 (bl "range" (by decide)) se_int) (blkOk_by (N := N_law) (sc := defScope (top 101)) (by decide +kernel)) (fun _ _ _ _ _ => (sg_n (i := 2) S_law.nd)) (fun _ _ _ _ _ => sts_nil) (fun _ _ _ _ _ => (se_and (se_call (h__law_lines_right.mono (by decide)) hr (sp_pot (i := 1) sp_nil)) (se_and (se_call (h__law_two_right.mono (by decide)) hr (sp_pot (i := 1) sp_nil)) (se_and (se_call (h__law_always_right.mono (by decide)) hr (sp_pot (i := 1) sp_nil)) (se_one (se_call (h__law_one_right.mono (by decide)) hr (sp_pot (i := 1) sp_nil)))))))) sa_nil)))
  refine ⟨_, PSs.nox (pss_cons (ps_set (i := 1) S_law.nd rfl (by first | exact Or.inl rfl | exact Or.inr rfl) (pe_call (GP.mono (by decide)) hr rfl gP FP.kp bP .nil pass0 (pa_cons (pv 0) (pa_cons pe_int pa_nil)))) (pss_one (ps_ret p))), ?_⟩
  obtain ⟨a, ns, rfl, hS, hQ⟩ := hs
  refine ⟨_, rfl, a, ns, 0, rfl, hS, by decide, by decide, fun p x y hp hx hy hy2 => ?_⟩
  have B := bs_new (p := p) (H := H) hx hy hy2
  refine o ⟨p, _, _⟩ [.no, .pt, .no] _ _ _ isT _ ⟨B, Stp.refl B, rfl, fun i s e => ?_, fun i j p ds es e => ?_⟩ law_end fun d v F' H' s r h => ?_
  · match i, e with
    | 0, e => cases e; trivial
    | 1, e => cases e; rfl
    | 2, e => cases e; trivial
    | _ + 3, e => cases e
  · exfalso
    match i, e with
    | 0, e => cases e
    | 1, e => cases e
    | 2, e => cases e
    | _ + 3, e => cases e
  · rw [isT_eq h] at r
    cases r
    exact hQ _
end

end Kp

namespace Kp
open PySem PySem.Spec PyProof.Rows L2 Dl

def dOf (i : Nat) (x : Str) : He.DefD := ⟨(x, none), x, x, defArgs (top i), defBody (top i), defScope (top i), [], []⟩
def fnL : List He.DefD := [dOf 11 "is_integer", dOf 12 "is_within", dOf 13 "is_list", dOf 14 "check_number", dOf 15 "want_at_most", dOf 16 "divisor", dOf 17 "is_fraction_of", dOf 18 "is_short", dOf 19 "check_fraction", dOf 23 "reduced", dOf 24 "add", dOf 25 "take", dOf 26 "multiply", dOf 27 "divide", dOf 28 "is_below", dOf 29 "total", dOf 36 "are_children_of", dOf 37 "check_children", dOf 38 "told_of", dOf 39 "product_of", dOf 40 "put_of", dOf 41 "want_sizes", dOf 42 "mean_by", dOf 43 "spread_by", dOf 44 "number_of", dOf 45 "power_of", dOf 46 "are_children", dOf 47 "child_mean", dOf 48 "child_spread", dOf 49 "number_at", dOf 50 "mean_size", dOf 51 "spread_size", dOf 52 "put_into", dOf 53 "size_chances", dOf 54 "born_chance", dOf 58 "is_sure_of", dOf 59 "is_live_of", dOf 60 "middle_of", dOf 61 "whole_quotient", dOf 62 "sign_of", dOf 63 "root_between", dOf 64 "death_of", dOf 65 "dead_by", dOf 66 "dies_surely", dOf 67 "live_paper", dOf 68 "is_live_paper", dOf 69 "death_chance", dOf 70 "death_between", dOf 71 "dying", dOf 73 "_law_pot", dOf 74 "_law_draw", dOf 77 "_law_plain", dOf 78 "_law_plus", dOf 79 "_law_times", dOf 83 "_law_below", dOf 84 "_law_less", dOf 85 "_law_share", dOf 96 "_law_power", dOf 97 "_law_lines_right", dOf 98 "_law_two_right", dOf 99 "_law_always_right", dOf 100 "_law_one_right", dOf 101 "law"]
def faL : List He.Fa := [.glo "is_integer", .glo "is_within", .glo "is_list", .glo "check_number", .glo "want_at_most", .glo "divisor", .glo "is_fraction_of", .glo "is_short", .glo "check_fraction", .glo "reduced", .glo "add", .glo "take", .glo "multiply", .glo "divide", .glo "is_below", .glo "total", .glo "are_children_of", .glo "check_children", .glo "told_of", .glo "product_of", .glo "put_of", .glo "want_sizes", .glo "mean_by", .glo "spread_by", .glo "number_of", .glo "power_of", .glo "are_children", .glo "child_mean", .glo "child_spread", .glo "number_at", .glo "mean_size", .glo "spread_size", .glo "put_into", .glo "size_chances", .glo "born_chance", .glo "is_sure_of", .glo "is_live_of", .glo "middle_of", .glo "whole_quotient", .glo "sign_of", .glo "root_between", .glo "death_of", .glo "dead_by", .glo "dies_surely", .glo "live_paper", .glo "is_live_paper", .glo "death_chance", .glo "death_between", .glo "dying", .glo "_law_pot", .glo "_law_draw", .glo "_law_plain", .glo "_law_plus", .glo "_law_times", .glo "_law_below", .glo "_law_less", .glo "_law_share", .glo "_law_power", .glo "_law_lines_right", .glo "_law_two_right", .glo "_law_always_right", .glo "_law_one_right", .glo "law", .int "MOST_DIGITS" 1000000000000, .glo "NOUGHT", .glo "ONE", .int "MOST_CHANCES" 5, .int "MOST_TIME" 6, .int "MOST_SIZED" 3, .int "MOST_BORN" 12, .int "MOST_SIZES" 64, .int "MOST_DEAD" 4, .int "MOST_HALVED" 60] ++ blt.map He.Fa.free
def exL (K : PySem.W.Frag) : Bool := tupI K "NOUGHT" [0, 1] && tupI K "ONE" [1, 1]
abbrev R : PySem.W.OpenRow := PySem.W.OpenLaw.row PySem.Challenge.rw_betsalong_k87_whole_known_families
abbrev hk : PySem.W.Hook := hookE 2 faL fnL exL
def ob (s : PySem.W.SharedT) : He.AlD × Bool := obsE 2 faL fnL exL (HandSHeadRun.getT s)
theorem ob_eq (s : PySem.W.SharedT) : ob s = hk.obs s.abs := obsE_eq (HandSHeadRun.getT_eq s)
def loose : List Str := (["BetError", "StateError", "LimitError", "InvalidFraction", "InvalidNumber", "InvalidChildren", "NoRoot", "TooMany", "MOST_DIGITS", "is_integer", "is_within", "is_list", "check_number", "want_at_most", "divisor", "is_fraction_of", "is_short", "check_fraction", "NOUGHT", "ONE", "reduced", "add", "take", "multiply", "divide", "is_below", "total", "MOST_CHANCES", "MOST_TIME", "MOST_SIZED"] : List Str) ++ (["MOST_BORN", "MOST_SIZES", "are_children_of", "check_children", "told_of", "product_of", "put_of", "want_sizes", "mean_by", "spread_by", "number_of", "power_of", "are_children", "child_mean", "child_spread", "number_at", "mean_size", "spread_size", "put_into", "size_chances", "born_chance", "MOST_DEAD", "MOST_HALVED", "is_sure_of", "is_live_of", "middle_of", "whole_quotient", "sign_of", "root_between", "death_of"] : List Str) ++ (["dead_by", "dies_surely", "live_paper", "is_live_paper", "death_chance", "death_between", "dying", "_law_pot", "_law_draw", "_law_pick", "_law_mixed", "_law_plain", "_law_plus", "_law_times", "_law_total", "_law_lot", "_law_fraction", "_law_below", "_law_less", "_law_share", "_law_children", "_law_number", "_law_mean", "_law_spread", "_law_added", "_law_told", "_law_put", "_law_is_sure", "_law_is_frac", "_law_is_live"] : List Str) ++ (["_law_power", "_law_lines_right", "_law_two_right", "_law_always_right", "_law_one_right"] : List Str)
theorem run (w : World) : HandSHeadRun.RunEq R (PySem.W.view R.prog [101]) hk ob 30000 loose w := by
  intro os
  kernel_rfl
theorem facts {P : Program} {w : World} {K : PySem.W.Frag} {h : Heap} {mg : Str → Option Value} {f : Addr} (X : K.In h) (G : h.Ns mainGlobals mg) (hfa : mg ("law" : Str) = some (.ref f)) (c0 : SaysE faL fnL exL K) :
    ∃ fd : FuncData, (∀ (s : Shared) (v : Value), BindsTo s fd ⟨[v], []⟩ [("script", v)]) ∧ ∀ base : Heap, K.In base → base.Ns mainGlobals mg → FnOk P w K mg base CX0 10 f fd ["script"] (spLaw K) := by
  obtain ⟨c, cx⟩ := c0
  have bl : ∀ x ∈ blt, mg x = none := fun x hx => He.free_ok X G (saysD_fact c (List.mem_append_right _ (List.mem_map_of_mem hx)))
  obtain ⟨fd_is_integer, F_is_integer⟩ := c.def_ 0 (d := dOf 11 "is_integer") rfl
  have a_is_integer := He.glo_ok X G (c.fact 0 (f := .glo "is_integer") rfl)
  obtain ⟨fd_is_within, F_is_within⟩ := c.def_ 1 (d := dOf 12 "is_within") rfl
  have a_is_within := He.glo_ok X G (c.fact 1 (f := .glo "is_within") rfl)
  obtain ⟨fd_is_list, F_is_list⟩ := c.def_ 2 (d := dOf 13 "is_list") rfl
  have a_is_list := He.glo_ok X G (c.fact 2 (f := .glo "is_list") rfl)
  obtain ⟨fd_check_number, F_check_number⟩ := c.def_ 3 (d := dOf 14 "check_number") rfl
  have a_check_number := He.glo_ok X G (c.fact 3 (f := .glo "check_number") rfl)
  obtain ⟨fd_want_at_most, F_want_at_most⟩ := c.def_ 4 (d := dOf 15 "want_at_most") rfl
  have a_want_at_most := He.glo_ok X G (c.fact 4 (f := .glo "want_at_most") rfl)
  obtain ⟨fd_divisor, F_divisor⟩ := c.def_ 5 (d := dOf 16 "divisor") rfl
  have a_divisor := He.glo_ok X G (c.fact 5 (f := .glo "divisor") rfl)
  obtain ⟨fd_is_fraction_of, F_is_fraction_of⟩ := c.def_ 6 (d := dOf 17 "is_fraction_of") rfl
  have a_is_fraction_of := He.glo_ok X G (c.fact 6 (f := .glo "is_fraction_of") rfl)
  obtain ⟨fd_is_short, F_is_short⟩ := c.def_ 7 (d := dOf 18 "is_short") rfl
  have a_is_short := He.glo_ok X G (c.fact 7 (f := .glo "is_short") rfl)
  obtain ⟨fd_check_fraction, F_check_fraction⟩ := c.def_ 8 (d := dOf 19 "check_fraction") rfl
  have a_check_fraction := He.glo_ok X G (c.fact 8 (f := .glo "check_fraction") rfl)
  obtain ⟨fd_reduced, F_reduced⟩ := c.def_ 9 (d := dOf 23 "reduced") rfl
  have a_reduced := He.glo_ok X G (c.fact 9 (f := .glo "reduced") rfl)
  obtain ⟨fd_add, F_add⟩ := c.def_ 10 (d := dOf 24 "add") rfl
  have a_add := He.glo_ok X G (c.fact 10 (f := .glo "add") rfl)
  obtain ⟨fd_take, F_take⟩ := c.def_ 11 (d := dOf 25 "take") rfl
  have a_take := He.glo_ok X G (c.fact 11 (f := .glo "take") rfl)
  obtain ⟨fd_multiply, F_multiply⟩ := c.def_ 12 (d := dOf 26 "multiply") rfl
  have a_multiply := He.glo_ok X G (c.fact 12 (f := .glo "multiply") rfl)
  obtain ⟨fd_divide, F_divide⟩ := c.def_ 13 (d := dOf 27 "divide") rfl
  have a_divide := He.glo_ok X G (c.fact 13 (f := .glo "divide") rfl)
  obtain ⟨fd_is_below, F_is_below⟩ := c.def_ 14 (d := dOf 28 "is_below") rfl
  have a_is_below := He.glo_ok X G (c.fact 14 (f := .glo "is_below") rfl)
  obtain ⟨fd_total, F_total⟩ := c.def_ 15 (d := dOf 29 "total") rfl
  have a_total := He.glo_ok X G (c.fact 15 (f := .glo "total") rfl)
  obtain ⟨fd_are_children_of, F_are_children_of⟩ := c.def_ 16 (d := dOf 36 "are_children_of") rfl
  have a_are_children_of := He.glo_ok X G (c.fact 16 (f := .glo "are_children_of") rfl)
  obtain ⟨fd_check_children, F_check_children⟩ := c.def_ 17 (d := dOf 37 "check_children") rfl
  have a_check_children := He.glo_ok X G (c.fact 17 (f := .glo "check_children") rfl)
  obtain ⟨fd_told_of, F_told_of⟩ := c.def_ 18 (d := dOf 38 "told_of") rfl
  have a_told_of := He.glo_ok X G (c.fact 18 (f := .glo "told_of") rfl)
  obtain ⟨fd_product_of, F_product_of⟩ := c.def_ 19 (d := dOf 39 "product_of") rfl
  have a_product_of := He.glo_ok X G (c.fact 19 (f := .glo "product_of") rfl)
  obtain ⟨fd_put_of, F_put_of⟩ := c.def_ 20 (d := dOf 40 "put_of") rfl
  have a_put_of := He.glo_ok X G (c.fact 20 (f := .glo "put_of") rfl)
  obtain ⟨fd_want_sizes, F_want_sizes⟩ := c.def_ 21 (d := dOf 41 "want_sizes") rfl
  have a_want_sizes := He.glo_ok X G (c.fact 21 (f := .glo "want_sizes") rfl)
  obtain ⟨fd_mean_by, F_mean_by⟩ := c.def_ 22 (d := dOf 42 "mean_by") rfl
  have a_mean_by := He.glo_ok X G (c.fact 22 (f := .glo "mean_by") rfl)
  obtain ⟨fd_spread_by, F_spread_by⟩ := c.def_ 23 (d := dOf 43 "spread_by") rfl
  have a_spread_by := He.glo_ok X G (c.fact 23 (f := .glo "spread_by") rfl)
  obtain ⟨fd_number_of, F_number_of⟩ := c.def_ 24 (d := dOf 44 "number_of") rfl
  have a_number_of := He.glo_ok X G (c.fact 24 (f := .glo "number_of") rfl)
  obtain ⟨fd_power_of, F_power_of⟩ := c.def_ 25 (d := dOf 45 "power_of") rfl
  have a_power_of := He.glo_ok X G (c.fact 25 (f := .glo "power_of") rfl)
  obtain ⟨fd_are_children, F_are_children⟩ := c.def_ 26 (d := dOf 46 "are_children") rfl
  have a_are_children := He.glo_ok X G (c.fact 26 (f := .glo "are_children") rfl)
  obtain ⟨fd_child_mean, F_child_mean⟩ := c.def_ 27 (d := dOf 47 "child_mean") rfl
  have a_child_mean := He.glo_ok X G (c.fact 27 (f := .glo "child_mean") rfl)
  obtain ⟨fd_child_spread, F_child_spread⟩ := c.def_ 28 (d := dOf 48 "child_spread") rfl
  have a_child_spread := He.glo_ok X G (c.fact 28 (f := .glo "child_spread") rfl)
  obtain ⟨fd_number_at, F_number_at⟩ := c.def_ 29 (d := dOf 49 "number_at") rfl
  have a_number_at := He.glo_ok X G (c.fact 29 (f := .glo "number_at") rfl)
  obtain ⟨fd_mean_size, F_mean_size⟩ := c.def_ 30 (d := dOf 50 "mean_size") rfl
  have a_mean_size := He.glo_ok X G (c.fact 30 (f := .glo "mean_size") rfl)
  obtain ⟨fd_spread_size, F_spread_size⟩ := c.def_ 31 (d := dOf 51 "spread_size") rfl
  have a_spread_size := He.glo_ok X G (c.fact 31 (f := .glo "spread_size") rfl)
  obtain ⟨fd_put_into, F_put_into⟩ := c.def_ 32 (d := dOf 52 "put_into") rfl
  have a_put_into := He.glo_ok X G (c.fact 32 (f := .glo "put_into") rfl)
  obtain ⟨fd_size_chances, F_size_chances⟩ := c.def_ 33 (d := dOf 53 "size_chances") rfl
  have a_size_chances := He.glo_ok X G (c.fact 33 (f := .glo "size_chances") rfl)
  obtain ⟨fd_born_chance, F_born_chance⟩ := c.def_ 34 (d := dOf 54 "born_chance") rfl
  have a_born_chance := He.glo_ok X G (c.fact 34 (f := .glo "born_chance") rfl)
  obtain ⟨fd_is_sure_of, F_is_sure_of⟩ := c.def_ 35 (d := dOf 58 "is_sure_of") rfl
  have a_is_sure_of := He.glo_ok X G (c.fact 35 (f := .glo "is_sure_of") rfl)
  obtain ⟨fd_is_live_of, F_is_live_of⟩ := c.def_ 36 (d := dOf 59 "is_live_of") rfl
  have a_is_live_of := He.glo_ok X G (c.fact 36 (f := .glo "is_live_of") rfl)
  obtain ⟨fd_middle_of, F_middle_of⟩ := c.def_ 37 (d := dOf 60 "middle_of") rfl
  have a_middle_of := He.glo_ok X G (c.fact 37 (f := .glo "middle_of") rfl)
  obtain ⟨fd_whole_quotient, F_whole_quotient⟩ := c.def_ 38 (d := dOf 61 "whole_quotient") rfl
  have a_whole_quotient := He.glo_ok X G (c.fact 38 (f := .glo "whole_quotient") rfl)
  obtain ⟨fd_sign_of, F_sign_of⟩ := c.def_ 39 (d := dOf 62 "sign_of") rfl
  have a_sign_of := He.glo_ok X G (c.fact 39 (f := .glo "sign_of") rfl)
  obtain ⟨fd_root_between, F_root_between⟩ := c.def_ 40 (d := dOf 63 "root_between") rfl
  have a_root_between := He.glo_ok X G (c.fact 40 (f := .glo "root_between") rfl)
  obtain ⟨fd_death_of, F_death_of⟩ := c.def_ 41 (d := dOf 64 "death_of") rfl
  have a_death_of := He.glo_ok X G (c.fact 41 (f := .glo "death_of") rfl)
  obtain ⟨fd_dead_by, F_dead_by⟩ := c.def_ 42 (d := dOf 65 "dead_by") rfl
  have a_dead_by := He.glo_ok X G (c.fact 42 (f := .glo "dead_by") rfl)
  obtain ⟨fd_dies_surely, F_dies_surely⟩ := c.def_ 43 (d := dOf 66 "dies_surely") rfl
  have a_dies_surely := He.glo_ok X G (c.fact 43 (f := .glo "dies_surely") rfl)
  obtain ⟨fd_live_paper, F_live_paper⟩ := c.def_ 44 (d := dOf 67 "live_paper") rfl
  have a_live_paper := He.glo_ok X G (c.fact 44 (f := .glo "live_paper") rfl)
  obtain ⟨fd_is_live_paper, F_is_live_paper⟩ := c.def_ 45 (d := dOf 68 "is_live_paper") rfl
  have a_is_live_paper := He.glo_ok X G (c.fact 45 (f := .glo "is_live_paper") rfl)
  obtain ⟨fd_death_chance, F_death_chance⟩ := c.def_ 46 (d := dOf 69 "death_chance") rfl
  have a_death_chance := He.glo_ok X G (c.fact 46 (f := .glo "death_chance") rfl)
  obtain ⟨fd_death_between, F_death_between⟩ := c.def_ 47 (d := dOf 70 "death_between") rfl
  have a_death_between := He.glo_ok X G (c.fact 47 (f := .glo "death_between") rfl)
  obtain ⟨fd_dying, F_dying⟩ := c.def_ 48 (d := dOf 71 "dying") rfl
  have a_dying := He.glo_ok X G (c.fact 48 (f := .glo "dying") rfl)
  obtain ⟨fd__law_pot, F__law_pot⟩ := c.def_ 49 (d := dOf 73 "_law_pot") rfl
  have a__law_pot := He.glo_ok X G (c.fact 49 (f := .glo "_law_pot") rfl)
  obtain ⟨fd__law_draw, F__law_draw⟩ := c.def_ 50 (d := dOf 74 "_law_draw") rfl
  have a__law_draw := He.glo_ok X G (c.fact 50 (f := .glo "_law_draw") rfl)
  obtain ⟨fd__law_plain, F__law_plain⟩ := c.def_ 51 (d := dOf 77 "_law_plain") rfl
  have a__law_plain := He.glo_ok X G (c.fact 51 (f := .glo "_law_plain") rfl)
  obtain ⟨fd__law_plus, F__law_plus⟩ := c.def_ 52 (d := dOf 78 "_law_plus") rfl
  have a__law_plus := He.glo_ok X G (c.fact 52 (f := .glo "_law_plus") rfl)
  obtain ⟨fd__law_times, F__law_times⟩ := c.def_ 53 (d := dOf 79 "_law_times") rfl
  have a__law_times := He.glo_ok X G (c.fact 53 (f := .glo "_law_times") rfl)
  obtain ⟨fd__law_below, F__law_below⟩ := c.def_ 54 (d := dOf 83 "_law_below") rfl
  have a__law_below := He.glo_ok X G (c.fact 54 (f := .glo "_law_below") rfl)
  obtain ⟨fd__law_less, F__law_less⟩ := c.def_ 55 (d := dOf 84 "_law_less") rfl
  have a__law_less := He.glo_ok X G (c.fact 55 (f := .glo "_law_less") rfl)
  obtain ⟨fd__law_share, F__law_share⟩ := c.def_ 56 (d := dOf 85 "_law_share") rfl
  have a__law_share := He.glo_ok X G (c.fact 56 (f := .glo "_law_share") rfl)
  obtain ⟨fd__law_power, F__law_power⟩ := c.def_ 57 (d := dOf 96 "_law_power") rfl
  have a__law_power := He.glo_ok X G (c.fact 57 (f := .glo "_law_power") rfl)
  obtain ⟨fd__law_lines_right, F__law_lines_right⟩ := c.def_ 58 (d := dOf 97 "_law_lines_right") rfl
  have a__law_lines_right := He.glo_ok X G (c.fact 58 (f := .glo "_law_lines_right") rfl)
  obtain ⟨fd__law_two_right, F__law_two_right⟩ := c.def_ 59 (d := dOf 98 "_law_two_right") rfl
  have a__law_two_right := He.glo_ok X G (c.fact 59 (f := .glo "_law_two_right") rfl)
  obtain ⟨fd__law_always_right, F__law_always_right⟩ := c.def_ 60 (d := dOf 99 "_law_always_right") rfl
  have a__law_always_right := He.glo_ok X G (c.fact 60 (f := .glo "_law_always_right") rfl)
  obtain ⟨fd__law_one_right, F__law_one_right⟩ := c.def_ 61 (d := dOf 100 "_law_one_right") rfl
  have a__law_one_right := He.glo_ok X G (c.fact 61 (f := .glo "_law_one_right") rfl)
  obtain ⟨fd_law, F_law⟩ := c.def_ 62 (d := dOf 101 "law") rfl
  have a_law := He.glo_ok X G (c.fact 62 (f := .glo "law") rfl)
  have g_MOST_DIGITS : Glo K mg "MOST_DIGITS" c_MOST_DIGITS := glo_int X G (c.fact 63 (f := .int "MOST_DIGITS" 1000000000000) rfl)
  have g_MOST_CHANCES : Glo K mg "MOST_CHANCES" c_MOST_CHANCES := glo_int X G (c.fact 66 (f := .int "MOST_CHANCES" 5) rfl)
  have g_MOST_TIME : Glo K mg "MOST_TIME" c_MOST_TIME := glo_int X G (c.fact 67 (f := .int "MOST_TIME" 6) rfl)
  have g_MOST_SIZED : Glo K mg "MOST_SIZED" c_MOST_SIZED := glo_int X G (c.fact 68 (f := .int "MOST_SIZED" 3) rfl)
  have g_MOST_BORN : Glo K mg "MOST_BORN" c_MOST_BORN := glo_int X G (c.fact 69 (f := .int "MOST_BORN" 12) rfl)
  have g_MOST_SIZES : Glo K mg "MOST_SIZES" c_MOST_SIZES := glo_int X G (c.fact 70 (f := .int "MOST_SIZES" 64) rfl)
  have g_MOST_DEAD : Glo K mg "MOST_DEAD" c_MOST_DEAD := glo_int X G (c.fact 71 (f := .int "MOST_DEAD" 4) rfl)
  have g_MOST_HALVED : Glo K mg "MOST_HALVED" c_MOST_HALVED := glo_int X G (c.fact 72 (f := .int "MOST_HALVED" 60) rfl)
  have g_NOUGHT : Glo K mg "NOUGHT" c_NOUGHT := glo_tup X G (c.fact 64 (f := .glo "NOUGHT") rfl) (is := [0, 1]) (He.ba cx).1
  have g_ONE : Glo K mg "ONE" c_ONE := glo_tup X G (c.fact 65 (f := .glo "ONE") rfl) (is := [1, 1]) (He.ba cx).2
  have e := hfa.symm.trans a_law
  cases e
  have b := FunD.bindsA (ps := ["script"]) F_law fun _ _ _ _ _ _ us hl => match us, hl with | [_], _ => rfl
  refine ⟨fd_law, fun s v => b s [v] rfl, fun base _ _ => ?_⟩
  have h_is_integer := Kp.h_is_integer (P := P) (w := w) (base := base) F_is_integer a_is_integer bl 
  have h_is_within := Kp.h_is_within (P := P) (w := w) (base := base) F_is_within a_is_within bl h_is_integer
  have h_is_list := Kp.h_is_list (P := P) (w := w) (base := base) F_is_list a_is_list bl 
  have h_check_number := Kp.h_check_number (P := P) (w := w) (base := base) F_check_number a_check_number bl h_is_within
  have h_want_at_most := Kp.h_want_at_most (P := P) (w := w) (base := base) F_want_at_most a_want_at_most bl 
  have h_divisor := Kp.h_divisor (P := P) (w := w) (base := base) F_divisor a_divisor bl 
  have h_is_fraction_of := Kp.h_is_fraction_of (P := P) (w := w) (base := base) F_is_fraction_of a_is_fraction_of bl h_is_integer h_divisor
  have h_is_short := Kp.h_is_short (P := P) (w := w) (base := base) F_is_short a_is_short bl g_MOST_DIGITS h_is_fraction_of
  have h_check_fraction := Kp.h_check_fraction (P := P) (w := w) (base := base) F_check_fraction a_check_fraction bl h_is_short
  have h_reduced := Kp.h_reduced (P := P) (w := w) (base := base) F_reduced a_reduced bl h_divisor
  have h_add := Kp.h_add (P := P) (w := w) (base := base) F_add a_add bl h_reduced
  have h_take := Kp.h_take (P := P) (w := w) (base := base) F_take a_take bl h_reduced
  have h_multiply := Kp.h_multiply (P := P) (w := w) (base := base) F_multiply a_multiply bl h_reduced
  have h_divide := Kp.h_divide (P := P) (w := w) (base := base) F_divide a_divide bl h_reduced
  have h_is_below := Kp.h_is_below (P := P) (w := w) (base := base) F_is_below a_is_below bl 
  have h_total := Kp.h_total (P := P) (w := w) (base := base) F_total a_total bl g_NOUGHT h_add
  have h_are_children_of := Kp.h_are_children_of (P := P) (w := w) (base := base) F_are_children_of a_are_children_of bl g_MOST_CHANCES g_ONE h_is_list h_is_fraction_of h_total
  have h_check_children := Kp.h_check_children (P := P) (w := w) (base := base) F_check_children a_check_children bl h_are_children_of h_is_short
  have h_told_of := Kp.h_told_of (P := P) (w := w) (base := base) F_told_of a_told_of bl g_NOUGHT
  have h_product_of := Kp.h_product_of (P := P) (w := w) (base := base) F_product_of a_product_of bl g_NOUGHT h_multiply h_add
  have h_put_of := Kp.h_put_of (P := P) (w := w) (base := base) F_put_of a_put_of bl g_NOUGHT g_ONE h_told_of h_multiply h_add h_product_of
  have h_want_sizes := Kp.h_want_sizes (P := P) (w := w) (base := base) F_want_sizes a_want_sizes bl g_MOST_SIZES h_told_of h_want_at_most
  have h_mean_by := Kp.h_mean_by (P := P) (w := w) (base := base) F_mean_by a_mean_by bl h_multiply h_total
  have h_spread_by := Kp.h_spread_by (P := P) (w := w) (base := base) F_spread_by a_spread_by bl h_mean_by h_multiply h_total h_take
  have h_number_of := Kp.h_number_of (P := P) (w := w) (base := base) F_number_of a_number_of bl g_NOUGHT h_multiply h_add
  have h_power_of := Kp.h_power_of (P := P) (w := w) (base := base) F_power_of a_power_of bl g_ONE h_multiply
  have h_are_children := Kp.h_are_children (P := P) (w := w) (base := base) F_are_children a_are_children bl h_are_children_of
  have h_child_mean := Kp.h_child_mean (P := P) (w := w) (base := base) F_child_mean a_child_mean bl h_check_children h_mean_by
  have h_child_spread := Kp.h_child_spread (P := P) (w := w) (base := base) F_child_spread a_child_spread bl h_check_children h_spread_by
  have h_number_at := Kp.h_number_at (P := P) (w := w) (base := base) F_number_at a_number_at bl g_ONE h_check_children h_check_fraction h_is_below h_number_of
  have h_mean_size := Kp.h_mean_size (P := P) (w := w) (base := base) F_mean_size a_mean_size bl g_MOST_TIME h_check_children h_check_number h_mean_by h_power_of
  have h_spread_size := Kp.h_spread_size (P := P) (w := w) (base := base) F_spread_size a_spread_size bl g_MOST_TIME g_NOUGHT h_check_children h_check_number h_mean_by h_spread_by h_power_of h_multiply h_add
  have h_put_into := Kp.h_put_into (P := P) (w := w) (base := base) F_put_into a_put_into bl h_check_children h_want_sizes h_put_of
  have h_size_chances := Kp.h_size_chances (P := P) (w := w) (base := base) F_size_chances a_size_chances bl g_MOST_SIZED g_ONE g_NOUGHT h_check_children h_check_number h_want_sizes h_put_of
  have h_born_chance := Kp.h_born_chance (P := P) (w := w) (base := base) F_born_chance a_born_chance bl g_MOST_BORN g_ONE g_NOUGHT h_check_children h_check_number h_product_of h_divide
  have h_is_sure_of := Kp.h_is_sure_of (P := P) (w := w) (base := base) F_is_sure_of a_is_sure_of bl g_ONE h_mean_by h_is_below
  have h_is_live_of := Kp.h_is_live_of (P := P) (w := w) (base := base) F_is_live_of a_is_live_of bl g_ONE h_is_fraction_of h_is_below h_number_of
  have h_middle_of := Kp.h_middle_of (P := P) (w := w) (base := base) F_middle_of a_middle_of bl h_add h_divide
  have h_whole_quotient := Kp.h_whole_quotient (P := P) (w := w) (base := base) F_whole_quotient a_whole_quotient bl h_divisor
  have h_sign_of := Kp.h_sign_of (P := P) (w := w) (base := base) F_sign_of a_sign_of bl 
  have h_root_between := Kp.h_root_between (P := P) (w := w) (base := base) F_root_between a_root_between bl h_sign_of h_reduced
  have h_death_of := Kp.h_death_of (P := P) (w := w) (base := base) F_death_of a_death_of bl g_ONE g_NOUGHT h_is_sure_of h_whole_quotient h_root_between
  have h_dead_by := Kp.h_dead_by (P := P) (w := w) (base := base) F_dead_by a_dead_by bl g_MOST_DEAD g_NOUGHT h_check_children h_check_number h_number_of
  have h_dies_surely := Kp.h_dies_surely (P := P) (w := w) (base := base) F_dies_surely a_dies_surely bl h_check_children h_is_sure_of
  have h_live_paper := Kp.h_live_paper (P := P) (w := w) (base := base) F_live_paper a_live_paper bl g_NOUGHT g_ONE h_check_children h_is_sure_of h_is_live_of h_middle_of
  have h_is_live_paper := Kp.h_is_live_paper (P := P) (w := w) (base := base) F_is_live_paper a_is_live_paper bl h_check_children h_is_live_of
  have h_death_chance := Kp.h_death_chance (P := P) (w := w) (base := base) F_death_chance a_death_chance bl h_check_children h_death_of
  have h_death_between := Kp.h_death_between (P := P) (w := w) (base := base) F_death_between a_death_between bl g_MOST_HALVED g_NOUGHT g_ONE h_check_children h_check_number h_middle_of h_number_of h_is_below
  have h_dying := Kp.h_dying (P := P) (w := w) (base := base) F_dying a_dying bl g_ONE h_check_children h_death_of h_divide h_multiply
  have h__law_draw := Kp.h__law_draw (P := P) (w := w) (base := base) F__law_draw a__law_draw bl
  have h__law_plain := Kp.h__law_plain (P := P) (w := w) (base := base) F__law_plain a__law_plain bl 
  have h__law_plus := Kp.h__law_plus (P := P) (w := w) (base := base) F__law_plus a__law_plus bl h__law_plain
  have h__law_times := Kp.h__law_times (P := P) (w := w) (base := base) F__law_times a__law_times bl h__law_plain
  have h__law_below := Kp.h__law_below (P := P) (w := w) (base := base) F__law_below a__law_below bl 
  have h__law_less := Kp.h__law_less (P := P) (w := w) (base := base) F__law_less a__law_less bl h__law_plus
  have h__law_share := Kp.h__law_share (P := P) (w := w) (base := base) F__law_share a__law_share bl h__law_plain
  have h__law_power := Kp.h__law_power (P := P) (w := w) (base := base) F__law_power a__law_power bl h__law_times
  have h__law_lines_right := Kp.h__law_lines_right (P := P) (w := w) (base := base) F__law_lines_right a__law_lines_right bl h__law_draw h__law_plain h__law_less h_child_mean h_child_spread h__law_times h_dies_surely h_death_chance h__law_power h_dead_by h_mean_size h_size_chances h_born_chance h_put_into h_are_children h_live_paper
  have h__law_two_right := Kp.h__law_two_right (P := P) (w := w) (base := base) F__law_two_right a__law_two_right bl h__law_draw h__law_plain h__law_less h__law_power h__law_times h__law_below h__law_share h_death_chance h_dies_surely h_is_live_paper h_dying h_number_at h__law_plus h_size_chances (Has.kb (st := top 54) h_born_chance F_born_chance a_born_chance (ks := ["many", "children"]) (perm := [1, 0]) fun _ _ _ _ _ _ ws hl => match ws, hl with | [_, _], _ => rfl)
  have h__law_always_right := Kp.h__law_always_right (P := P) (w := w) (base := base) F__law_always_right a__law_always_right bl h__law_draw h_size_chances h_mean_size h_spread_size h_death_chance h_dies_surely h_is_live_paper h_dead_by h_death_between h_born_chance
  have h__law_one_right := Kp.h__law_one_right (P := P) (w := w) (base := base) F__law_one_right a__law_one_right bl h__law_draw h__law_plain h__law_times h__law_plus h_child_mean h_child_spread h_dies_surely h_live_paper h_mean_size h_spread_size h_death_chance h_dying h_death_between
  exact ok_law F_law bl F__law_pot a__law_pot (h__law_lines_right.always t_lines) (h__law_two_right.always t_two) (h__law_always_right.always t_always) (h__law_one_right.always t_one)
end Kp
open PySem PySem.W PySem.Calls PyProof.Rows
theorem PySem.Challenge.cw_betsalong_k87_whole_known_families_holds : PySem.Challenge.rw_betsalong_k87_whole_known_families.Holds := by
  w_on; o_law
  refine HandSHeadRun.head_any (r := OpenLaw.row PySem.Challenge.rw_betsalong_k87_whole_known_families) (q := view (OpenLaw.row PySem.Challenge.rw_betsalong_k87_whole_known_families).prog [101]) (H := Kp.hk) (ob := Kp.ob) (M := 30000) (loose := Kp.loose) (d := HandSHeadRun.topDef (OpenLaw.row PySem.Challenge.rw_betsalong_k87_whole_known_families).prog 101) (kwd := []) Kp.ob_eq
    (by kernel_rfl) (fun s => by kernel_rfl) Kp.run (by kernel_rfl) (by kernel_rfl) (by kernel_rfl) (by rfl) (by first | assumption | decide +kernel) (by decide +kernel) ⟨rfl, rfl, rfl, rfl, rfl, by decide +kernel⟩ ?hw ?hc
  case hw => w_witness2
  case hc =>
    refine L2.walk_ofE (l := PySem.Challenge.rw_betsalong_k87_whole_known_families) (n := 63) (k := 10) (x := "script") (CX := L2.CX0) rfl (by decide) (by kernel_rfl) ⟨rfl, by decide, by decide⟩ ?F (fun _ _ _ _ z => z)
    intro w mg fa h Y G hmg0
    obtain ⟨K, KX, c⟩ := Y
    have hmg : mg ("law" : PySem.Str) = some (.ref fa) := by
      have e : (HandSHeadRun.topDef (OpenLaw.row PySem.Challenge.rw_betsalong_k87_whole_known_families).prog 101).name = ("law" : PySem.Str) := by kernel_rfl
      rw [← e]
      exact hmg0
    obtain ⟨fd, hb, hF⟩ := Kp.facts (P := (PySem.Challenge.rw_betsalong_k87_whole_known_families).prog) (w := w) KX G hmg c
    exact ⟨K, fd, Dl.spLaw K, KX, hb, fun H a ns hl _ hS => ⟨a, ns, rfl, hS, fun _ => rfl⟩, hF⟩
