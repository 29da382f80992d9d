import PyProof.Rows.All
import Wide.All
import OpenK.AllK
import Wide.FinOn
import KE.KStateDown
import HandS.ForMost
import HandS.Exc
import HandS.Walk
import HandS.Wide
import HandS.Style
import HandS.Flow
import HandS.IsInst
import HandS.Zip
import HandS.Defaults
import HandS.TupAny
import PyProof.Rows.RuleB_bool
import HandS.Head0
import HandS.Head1
import HandS.Head2
import HandS.HeadEnd
import HandS.Ends
import HandS.HeadHook1
import HandS.HeadHook2
import HandS.Iter
import KE.KDictZip
import HandS.Conv
import KE.GoesEnum
import KE.KTupSum
import HandS.Dict
import PyProof.Rows.ReprOcc
import PySem.Challenge.RW_betsalong_k86_whole_families_that_die_ou
set_option Elab.async false
set_option linter.all false
set_option maxRecDepth 100000
set_option maxHeartbeats 0
/-! Dl: a data level over the hand layer: what a def does told over plain data, by Bool-valued continuations. -/
namespace Dl
open PySem PySem.Spec PyProof.Rows L2
/-- stands for the pot among arguments -/
abbrev potD : PyData := .dict [(.none, .none)]

/-! ### data at values -/
/-- a tuple of the written part -/
def KT (K : PySem.W.Frag) (a : Addr) (xs : List V) : Prop := ∃ (o : Obj) (its : Array Value) (n : Nat), K.lookup a = some o ∧ o.cls = .type "tuple" ∧ o.data = .seq its n ∧ its.size ≤ sizeLine ∧ Vals xs its.toList
mutual
inductive Rp (K : PySem.W.Frag) (F : Hp) : V → PyData → Prop
  | non : Rp K F .non .none
  | bl (b : Bool) : Rp K F (.bl b) (.bool b)
  | int (i : Int) : Rp K F (.int i) (.int i)
  | str (x : Str) : Rp K F (.str x) (.str x)
  | lst {a : Addr} {xs : List V} {ds : List PyData} : F a = some (.lst xs) → RpAll K F xs ds → Rp K F (.ref a) (.list ds)
  | tup {a : Addr} {xs : List V} {ds : List PyData} : F a = some (.tup xs) → RpAll K F xs ds → Rp K F (.ref a) (.tuple ds)
  | ktup {a : Addr} {xs : List V} {ds : List PyData} : KT K a xs → RpAll K F xs ds → Rp K F (.ref a) (.tuple ds)
  | dct0 {a : Addr} : F a = some (.dK []) → Rp K F (.ref a) (.dict [])
inductive RpAll (K : PySem.W.Frag) (F : Hp) : List V → List PyData → Prop
  | nil : RpAll K F [] []
  | cons {v : V} {vs : List V} {d : PyData} {ds : List PyData} : Rp K F v d → RpAll K F vs ds → RpAll K F (v :: vs) (d :: ds)
end
section
variable {K : PySem.W.Frag} {F F' H : Hp}
mutual
theorem Rp.mono (e : Same F F') : ∀ {v : V} {d : PyData}, Rp K F v d → Rp K F' v d
  | _, _, .non => .non
  | _, _, .bl b => .bl b
  | _, _, .int i => .int i
  | _, _, .str x => .str x
  | _, _, .lst h a => .lst (e _ _ h) (RpAll.mono e a)
  | _, _, .tup h a => .tup (e _ _ h) (RpAll.mono e a)
  | _, _, .ktup h a => .ktup h (RpAll.mono e a)
  | _, _, .dct0 h => .dct0 (e _ _ h)
theorem RpAll.mono (e : Same F F') : ∀ {vs : List V} {ds : List PyData}, RpAll K F vs ds → RpAll K F' vs ds
  | _, _, .nil => .nil
  | _, _, .cons h a => .cons (Rp.mono e h) (RpAll.mono e a)
end
mutual
theorem Rp.dp : ∀ {v : V} {d : PyData}, Rp K F v d → d.canLay0 = true → Dp K F v d
  | _, _, .non, _ => .non
  | _, _, .bl b, _ => .bl b
  | _, _, .int i, _ => .int i
  | _, _, .str x, _ => .str x
  | _, _, .lst h a, c => .lst (.inl (.inl h)) (RpAll.dp a c)
  | _, _, .tup h a, c => .tup (.inl (.inl h)) (RpAll.dp a c)
  | _, _, .ktup h a, c => .tup (.inr h) (RpAll.dp a c)
  | _, _, .dct0 _, c => nomatch c
theorem RpAll.dp : ∀ {vs : List V} {ds : List PyData}, RpAll K F vs ds → PyData.canLayAll0 ds = true → DpAll K F vs ds
  | _, _, .nil, _ => .nil
  | _, _, .cons h a, c => by
    unfold PyData.canLayAll0 at c
    exact .cons (Rp.dp h (Bool.and_eq_true_iff.mp c).1) (RpAll.dp a (Bool.and_eq_true_iff.mp c).2)
end
theorem RpAll.length : ∀ {vs : List V} {ds : List PyData}, RpAll K F vs ds → vs.length = ds.length
  | _, _, .nil => rfl
  | _, _, .cons _ a => by rw [List.length_cons, List.length_cons, RpAll.length a]
theorem RpAll.at : ∀ {vs : List V} {ds : List PyData} {i : Nat} {d : PyData}, RpAll K F vs ds → ds[i]? = some d → ∃ v, vs[i]? = some v ∧ Rp K F v d
  | _, _, _, _, .nil, e => by simp at e
  | _, _, 0, _, .cons h _, e => by simp at e; subst e; exact ⟨_, rfl, h⟩
  | _, _, i + 1, d, .cons _ a, e => by
    obtain ⟨v, h1, h2⟩ := RpAll.at (i := i) (d := d) a (by simpa using e)
    exact ⟨v, by simpa using h1, h2⟩
theorem RpAll.at' {vs : List V} {ds : List PyData} {i : Nat} {v : V} (a : RpAll K F vs ds) (e : vs[i]? = some v) : ∃ d, ds[i]? = some d ∧ Rp K F v d := by
  have hi : i < vs.length := (List.getElem?_eq_some_iff.mp e).1
  rw [a.length] at hi
  obtain ⟨v', h1, h2⟩ := a.at (List.getElem?_eq_getElem hi)
  rw [e] at h1
  cases h1
  exact ⟨_, List.getElem?_eq_getElem hi, h2⟩
theorem RpAll.append : ∀ {vs ws : List V} {ds es : List PyData}, RpAll K F vs ds → RpAll K F ws es → RpAll K F (vs ++ ws) (ds ++ es)
  | _, _, _, _, .nil, b => b
  | _, _, _, _, .cons h a, b => .cons h (RpAll.append a b)
theorem RpAll.take : ∀ (n : Nat) {vs : List V} {ds : List PyData}, RpAll K F vs ds → RpAll K F (vs.take n) (ds.take n)
  | 0, _, _, _ => .nil
  | _ + 1, _, _, .nil => .nil
  | n + 1, _, _, .cons h a => .cons h (RpAll.take n a)
theorem RpAll.drop : ∀ (n : Nat) {vs : List V} {ds : List PyData}, RpAll K F vs ds → RpAll K F (vs.drop n) (ds.drop n)
  | 0, _, _, a => a
  | _ + 1, _, _, .nil => .nil
  | n + 1, _, _, .cons _ a => RpAll.drop n a
theorem RpAll.set {v : V} {d : PyData} (h : Rp K F v d) : ∀ (i : Nat) {vs : List V} {ds : List PyData}, RpAll K F vs ds → RpAll K F (vs.set i v) (ds.set i d)
  | _, _, _, .nil => .nil
  | 0, _, _, .cons _ a => .cons h a
  | i + 1, _, _, .cons g a => .cons g (RpAll.set h i a)
theorem RpAll.reverse {vs : List V} {ds : List PyData} (a : RpAll K F vs ds) : RpAll K F vs.reverse ds.reverse := by
  induction a using RpAll.rec (motive_1 := fun _ _ _ => True) with
  | nil => exact .nil
  | cons h _ _ ih => rw [List.reverse_cons, List.reverse_cons]; exact ih.append (.cons h .nil)
  | _ => trivial
theorem RpAll.erase : ∀ (i : Nat) {vs : List V} {ds : List PyData}, RpAll K F vs ds → RpAll K F (vs.eraseIdx i) (ds.eraseIdx i)
  | _, _, _, .nil => .nil
  | 0, _, _, .cons _ a => a
  | i + 1, _, _, .cons g a => .cons g (RpAll.erase i a)
theorem RpAll.dropLast {vs : List V} {ds : List PyData} (a : RpAll K F vs ds) : RpAll K F vs.dropLast ds.dropLast := by
  rw [List.dropLast_eq_take, List.dropLast_eq_take, a.length]
  exact a.take _
theorem RpAll.rep {vs : List V} {ds : List PyData} (a : RpAll K F vs ds) : ∀ n : Nat, RpAll K F (List.replicate n vs).flatten (List.replicate n ds).flatten
  | 0 => .nil
  | n + 1 => by rw [List.replicate_succ, List.replicate_succ, List.flatten_cons, List.flatten_cons]; exact a.append (RpAll.rep a n)
theorem RpAll.ints : ∀ {vs : List V} {ns : List Int}, RpAll K F vs (ns.map PyData.int) → vs = ns.map V.int
  | [], [], _ => rfl
  | _, _ :: _, .cons h a => by
    cases h
    rw [List.map_cons, ← RpAll.ints a]
theorem RpAll.bools : ∀ {vs : List V} {ns : List Bool}, RpAll K F vs (ns.map PyData.bool) → vs = ns.map V.bl
  | [], [], _ => rfl
  | _, _ :: _, .cons h a => by
    cases h
    rw [List.map_cons, ← RpAll.bools a]
theorem RpAll.of_ints : ∀ (ns : List Int), RpAll K F (ns.map V.int) (ns.map PyData.int)
  | [] => .nil
  | n :: r => .cons (.int n) (RpAll.of_ints r)
end

/-! ### steps of the heap -/
/-- the pot: a list of two numbers, changed by draws alone -/
def PotOk (H : Hp) (pp : Addr) : Prop := ∃ a b : Int, H pp = some (.lst [.int a, .int b]) ∧ 0 ≤ a ∧ 0 ≤ b ∧ b < 4294967296
/-- the base: F is the frozen part of H -/
structure Bs (pp : Addr) (F H : Hp) : Prop where
  fh : Same F H
  fp : F pp = none
  po : PotOk H pp
structure Stp (pp : Addr) (F H F' H' : Hp) : Prop where
  ff : Same F F'
  fh : Same F' H'
  fr : ∀ b o, b ≠ pp → H b = some o → H' b = some o
  nf : ∀ b o, F' b = some o → F b = some o ∨ H b = none
  po : PotOk H' pp
section
variable {pp : Addr} {F H F1 H1 F2 H2 : Hp}
theorem PotOk.some {H : Hp} {pp : Addr} (p : PotOk H pp) : H pp ≠ none := fun e => by
  obtain ⟨a, b, h, _⟩ := p
  rw [e] at h
  cases h
theorem Stp.refl (b : Bs pp F H) : Stp pp F H F H := ⟨Same.refl F, b.fh, fun _ _ _ h => h, fun _ _ h => .inl h, b.po⟩
theorem Stp.bs (b : Bs pp F H) (s : Stp pp F H F1 H1) : Bs pp F1 H1 := ⟨s.fh, by
  cases q : F1 pp with
  | none => rfl
  | some o =>
    rcases s.nf pp o q with e | e
    · rw [b.fp] at e; cases e
    · exact absurd e b.po.some, s.po⟩
theorem Stp.trans (a : Stp pp F H F1 H1) (b : Stp pp F1 H1 F2 H2) : Stp pp F H F2 H2 := by
  refine ⟨a.ff.trans b.ff, b.fh, fun c o n h => b.fr c o n (a.fr c o n h), fun c o h => ?_, b.po⟩
  rcases b.nf c o h with e | e
  · exact a.nf c o e
  · by_cases hc : c = pp
    · subst hc; exact absurd e a.po.some
    · refine .inr ?_
      cases q : H c with
      | none => rfl
      | some u => rw [a.fr c u hc q] at e; cases e
/-- a new object, frozen at once -/
theorem Stp.new {p : Addr} {o : HO} (b : Bs pp F H) (n : H p = none) : Stp pp F H (upd F p o) (upd H p o) := by
  have hp : pp ≠ p := fun e => by subst e; exact b.po.some n
  refine ⟨fun c u h => ?_, fun c u h => ?_, fun c u _ h => ?_, fun c u h => ?_, ?_⟩
  · rw [upd_ne (ne_of_none (b.fh c u h) n)]; exact h
  · by_cases e : c = p
    · subst e; rw [upd_same] at h; rw [upd_same]; exact h
    · rw [upd_ne e] at h; rw [upd_ne e]; exact b.fh c u h
  · rw [upd_ne (ne_of_none h n)]; exact h
  · by_cases e : c = p
    · subst e; exact .inr n
    · rw [upd_ne e] at h; exact .inl h
  · obtain ⟨x, y, e, q⟩ := b.po
    exact ⟨x, y, by rw [upd_ne hp]; exact e, q⟩
/-- a new object, owned -/
theorem Stp.newO {p : Addr} {o : HO} (b : Bs pp F H) (n : H p = none) : Stp pp F H F (upd H p o) := by
  have hp : pp ≠ p := fun e => by subst e; exact b.po.some n
  refine ⟨Same.refl F, fun c u h => ?_, fun c u _ h => ?_, fun c u h => .inl h, ?_⟩
  · rw [upd_ne (ne_of_none (b.fh c u h) n)]; exact b.fh c u h
  · rw [upd_ne (ne_of_none h n)]; exact h
  · obtain ⟨x, y, e, q⟩ := b.po
    exact ⟨x, y, by rw [upd_ne hp]; exact e, q⟩
theorem Bs.keep (b : Bs pp F H) {a : Addr} {o : HO} (h : F a = some o) : H a = some o := b.fh a o h
/-- an owned object is written: seen from a state where it was not -/
theorem Stp.write {p : Addr} {o : HO} (s : Stp pp F H F1 H1) (n : H p = none) (f : F1 p = none) (np : p ≠ pp) : Stp pp F H F1 (upd H1 p o) := by
  refine ⟨s.ff, fun c u h => ?_, fun c u hc h => ?_, s.nf, ?_⟩
  · rw [upd_ne (ne_of_none h f)]; exact s.fh c u h
  · rw [upd_ne (ne_of_none h n)]; exact s.fr c u hc h
  · obtain ⟨x, y, e, q⟩ := s.po
    exact ⟨x, y, by rw [upd_ne (Ne.symm np)]; exact e, q⟩
/-- an owned object is frozen -/
theorem Stp.freeze {p : Addr} {o : HO} (s : Stp pp F H F1 H1) (n : H p = none) (f : F1 p = none) (h : H1 p = some o) : Stp pp F H (upd F1 p o) H1 := by
  refine ⟨fun c u e => ?_, fun c u e => ?_, s.fr, fun c u e => ?_, s.po⟩
  · have e1 := s.ff c u e
    rw [upd_ne (ne_of_none e1 f)]; exact e1
  · by_cases z : c = p
    · subst z; rw [upd_same] at e; cases e; exact h
    · rw [upd_ne z] at e; exact s.fh c u e
  · by_cases z : c = p
    · subst z; exact .inr n
    · rw [upd_ne z] at e; exact s.nf c u e
theorem Stp.own (s : Stp pp F H F1 H1) {p : Addr} (f : F p = none) (h : H p ≠ none) : F1 p = none := by
  cases q : F1 p with
  | none => rfl
  | some o =>
    rcases s.nf p o q with e | e
    · rw [f] at e; cases e
    · exact absurd e h
theorem same_upd {F : Hp} {p : Addr} {o : HO} (f : F p = none) : Same F (upd F p o) := fun c u h => by
  rw [upd_ne (ne_of_none h f)]; exact h
end

/-! ### slots -/
inductive Sl where
  | no | fz (d : PyData) | ow (ds : List PyData) | pt
abbrev Sls := List Sl
structure Wd where
  pp : Addr
  F0 : Hp
  H0 : Hp
  fr : Bool
def SlOk (K : PySem.W.Frag) (W : Wd) (F H : Hp) (o : Option (Option V)) : Sl → Prop
  | .no => True
  | .fz d => ∃ v, o = some (some v) ∧ Rp K F v d
  | .ow ds => ∃ p xs, o = some (some (.ref p)) ∧ H p = some (.lst xs) ∧ F p = none ∧ p ≠ W.pp ∧ W.H0 p = none ∧ RpAll K F xs ds
  | .pt => o = some (some (.ref W.pp))
structure Rel (K : PySem.W.Frag) (W : Wd) (env : Sls) (σ : L2.St) (F H : Hp) : Prop where
  b0 : Bs W.pp W.F0 W.H0
  st : Stp W.pp W.F0 W.H0 F H
  len : σ.length = env.length
  sl : ∀ (i : Nat) (s : Sl), env[i]? = some s → SlOk K W F H (σ[i]?) s
  dis : ∀ (i j : Nat) (p : Addr) (ds es : List PyData), env[i]? = some (.ow ds) → env[j]? = some (.ow es) → σ[i]? = some (some (.ref p)) → σ[j]? = some (some (.ref p)) → i = j
section
variable {K : PySem.W.Frag} {W : Wd} {env : Sls} {σ : L2.St} {F H F' H' : Hp}
theorem Rel.bs (r : Rel K W env σ F H) : Bs W.pp F H := Stp.bs r.b0 r.st
theorem Rel.step (r : Rel K W env σ F H) (s : Stp W.pp F H F' H') : Rel K W env σ F' H' := by
  refine ⟨r.b0, r.st.trans s, r.len, fun i q e => ?_, r.dis⟩
  have h := r.sl i q e
  cases q with
  | no => trivial
  | fz d => obtain ⟨v, h1, h2⟩ := h; exact ⟨v, h1, h2.mono s.ff⟩
  | ow ds =>
    obtain ⟨p, xs, h1, h2, h3, h4, h5, h6⟩ := h
    exact ⟨p, xs, h1, s.fr _ _ h4 h2, s.own h3 (by rw [h2]; exact fun z => nomatch z), h4, h5, h6.mono s.ff⟩
  | pt => exact h
theorem Rel.fz (r : Rel K W env σ F H) {i : Nat} {d : PyData} (e : env[i]? = some (.fz d)) : ∃ v, σ[i]? = some (some v) ∧ Rp K F v d := r.sl i _ e
/-- a slot is set to frozen data -/
theorem Rel.set (r : Rel K W env σ F H) {v : V} {d : PyData} (h : Rp K F v d) (i : Nat) : Rel K W (env.set i (.fz d)) (σ.set i (some v)) F H := by
  refine ⟨r.b0, r.st, by rw [List.length_set, List.length_set]; exact r.len, fun j q e => ?_, fun j l p ds es e1 e2 g1 g2 => ?_⟩
  · rw [List.getElem?_set] at e ⊢
    by_cases hj : i = j
    · subst hj
      rw [if_pos rfl] at e ⊢
      by_cases hl : i < env.length
      · rw [if_pos hl] at e
        cases e
        rw [if_pos (by rw [r.len]; exact hl)]
        exact ⟨v, rfl, h⟩
      · rw [if_neg hl] at e; cases e
    · rw [if_neg hj] at e ⊢
      exact r.sl j q e
  · have n1 : i ≠ j := fun z => by
      subst z
      rw [List.getElem?_set, if_pos rfl] at e1
      split at e1 <;> cases e1
    have n2 : i ≠ l := fun z => by
      subst z
      rw [List.getElem?_set, if_pos rfl] at e2
      split at e2 <;> cases e2
    rw [List.getElem?_set_ne n1] at e1 g1
    rw [List.getElem?_set_ne n2] at e2 g2
    exact r.dis j l p ds es e1 e2 g1 g2
/-- a slot is forgotten -/
theorem Rel.unset (r : Rel K W env σ F H) (o : Option V) (i : Nat) : Rel K W (env.set i .no) (σ.set i o) F H := by
  refine ⟨r.b0, r.st, by rw [List.length_set, List.length_set]; exact r.len, fun j q e => ?_, fun j l p ds es e1 e2 g1 g2 => ?_⟩
  · rw [List.getElem?_set] at e ⊢
    by_cases hj : i = j
    · subst hj
      rw [if_pos rfl] at e
      by_cases hl : i < env.length
      · rw [if_pos hl] at e
        cases e
        trivial
      · rw [if_neg hl] at e; cases e
    · rw [if_neg hj] at e ⊢
      exact r.sl j q e
  · have n1 : i ≠ j := fun z => by
      subst z
      rw [List.getElem?_set, if_pos rfl] at e1
      split at e1 <;> cases e1
    have n2 : i ≠ l := fun z => by
      subst z
      rw [List.getElem?_set, if_pos rfl] at e2
      split at e2 <;> cases e2
    rw [List.getElem?_set_ne n1] at e1 g1
    rw [List.getElem?_set_ne n2] at e2 g2
    exact r.dis j l p ds es e1 e2 g1 g2
/-- a slot gets a new list of its own -/
theorem Rel.setO (r : Rel K W env σ F H) {p : Addr} {xs : List V} {ds : List PyData} (n : H p = none) (h : RpAll K F xs ds) (i : Nat) :
    Rel K W (env.set i (.ow ds)) (σ.set i (some (.ref p))) F (upd H p (.lst xs)) := by
  have B := r.bs
  have r2 := r.step (Stp.newO (o := .lst xs) B n)
  have hf : F p = none := by
    cases q : F p with
    | none => rfl
    | some o => rw [B.fh p o q] at n; cases n
  have np : p ≠ W.pp := fun e => by subst e; exact B.po.some n
  have h0 : W.H0 p = none := by
    cases q : W.H0 p with
    | none => rfl
    | some o => rw [r.st.fr p o np q] at n; cases n
  have apart : ∀ (j : Nat) (q : Addr) (es : List PyData), env[j]? = some (Sl.ow es) → σ[j]? = some (some (V.ref q)) → q ≠ p := fun j q es e g => by
    obtain ⟨p', xs', h1, h2, _⟩ := r.sl j _ e
    rw [g] at h1
    cases h1
    exact ne_of_none h2 n
  refine ⟨r.b0, r2.st, by rw [List.length_set, List.length_set]; exact r.len, fun j q e => ?_, fun j l q ds' es e1 e2 g1 g2 => ?_⟩
  · rw [List.getElem?_set] at e ⊢
    by_cases hj : i = j
    · subst hj
      rw [if_pos rfl] at e ⊢
      by_cases hl : i < env.length
      · rw [if_pos hl] at e
        cases e
        rw [if_pos (by rw [r.len]; exact hl)]
        exact ⟨p, xs, rfl, upd_same, hf, np, h0, h⟩
      · rw [if_neg hl] at e; cases e
    · rw [if_neg hj] at e ⊢
      exact r2.sl j q e
  · by_cases n1 : i = j
    · by_cases n2 : i = l
      · rw [← n1, ← n2]
      · subst n1
        rw [List.getElem?_set_ne n2] at e2 g2
        have hl : i < σ.length := by
          rw [List.getElem?_set, if_pos rfl] at g1
          split at g1
          · assumption
          · cases g1
        rw [List.getElem?_set_self hl] at g1
        cases g1
        exact absurd rfl (apart l p es e2 g2)
    · by_cases n2 : i = l
      · subst n2
        rw [List.getElem?_set_ne n1] at e1 g1
        have hl : i < σ.length := by
          rw [List.getElem?_set, if_pos rfl] at g2
          split at g2
          · assumption
          · cases g2
        rw [List.getElem?_set_self hl] at g2
        cases g2
        exact absurd rfl (apart j p ds' e1 g1)
      · rw [List.getElem?_set_ne n1] at e1 g1
        rw [List.getElem?_set_ne n2] at e2 g2
        exact r.dis j l q ds' es e1 e2 g1 g2
/-- an owned list is written -/
theorem Rel.wr (r : Rel K W env σ F H) {i : Nat} {p : Addr} {ds ds' : List PyData} {xs' : List V} (e : env[i]? = some (.ow ds)) (g : σ[i]? = some (some (.ref p))) (h : RpAll K F xs' ds') :
    Rel K W (env.set i (.ow ds')) σ F (upd H p (.lst xs')) := by
  obtain ⟨p', xs, h1, h2, h3, h4, h5, h6⟩ := r.sl i _ e
  rw [g] at h1
  cases h1
  have hi : i < env.length := (List.getElem?_eq_some_iff.mp e).1
  refine ⟨r.b0, r.st.write h5 h3 h4, by rw [List.length_set]; exact r.len, fun j q e' => ?_, fun j l q ds1 es e1 e2 g1 g2 => ?_⟩
  · by_cases hj : i = j
    · subst hj
      rw [List.getElem?_set_self hi] at e'
      cases e'
      exact ⟨p, xs', g, upd_same, h3, h4, h5, h⟩
    · rw [List.getElem?_set_ne hj] at e'
      have z := r.sl j q e'
      cases q with
      | no => trivial
      | fz d => exact z
      | ow es =>
        obtain ⟨p2, ys, z1, z2, z3, z4, z5, z6⟩ := z
        refine ⟨p2, ys, z1, ?_, z3, z4, z5, z6⟩
        have np : p2 ≠ p := fun ee => by
          subst ee
          exact hj (r.dis i j p2 ds es e e' g z1)
        rw [upd_ne np]; exact z2
      | pt => exact z
  · have back : ∀ (m : Nat) (ds2 : List PyData), (env.set i (Sl.ow ds'))[m]? = some (Sl.ow ds2) → ∃ ds3, env[m]? = some (Sl.ow ds3) := fun m ds2 h => by
      by_cases hm : i = m
      · subst hm; exact ⟨ds, e⟩
      · rw [List.getElem?_set_ne hm] at h; exact ⟨ds2, h⟩
    obtain ⟨d1, f1⟩ := back j ds1 e1
    obtain ⟨d2, f2⟩ := back l es e2
    exact r.dis j l q d1 d2 f1 f2 g1 g2
/-- an owned list is frozen -/
theorem Rel.fzo (r : Rel K W env σ F H) {i : Nat} {ds : List PyData} (e : env[i]? = some (.ow ds)) : ∃ F', Same F F' ∧ Rel K W (env.set i (.fz (.list ds))) σ F' H := by
  obtain ⟨p, xs, h1, h2, h3, h4, h5, h6⟩ := r.sl i _ e
  have hi : i < env.length := (List.getElem?_eq_some_iff.mp e).1
  have sf : Same F (upd F p (.lst xs)) := same_upd h3
  have st : Stp W.pp W.F0 W.H0 (upd F p (.lst xs)) H := r.st.freeze h5 h3 h2
  refine ⟨upd F p (.lst xs), sf, r.b0, st, by rw [List.length_set]; exact r.len, fun j q e' => ?_, fun j l q ds1 es e1 e2 g1 g2 => ?_⟩
  · by_cases hj : i = j
    · subst hj
      rw [List.getElem?_set_self hi] at e'
      cases e'
      exact ⟨.ref p, h1, .lst upd_same (h6.mono sf)⟩
    · rw [List.getElem?_set_ne hj] at e'
      have z := r.sl j q e'
      cases q with
      | no => trivial
      | fz d => obtain ⟨v, z1, z2⟩ := z; exact ⟨v, z1, z2.mono sf⟩
      | ow es =>
        obtain ⟨p2, ys, z1, z2, z3, z4, z5, z6⟩ := z
        refine ⟨p2, ys, z1, z2, ?_, z4, z5, z6.mono sf⟩
        have np : p2 ≠ p := fun ee => by
          subst ee
          exact hj (r.dis i j p2 ds es e e' h1 z1)
        rw [upd_ne np]; exact z3
      | pt => exact z
  · have back : ∀ (m : Nat) (ds2 : List PyData), (env.set i (Sl.fz (.list ds)))[m]? = some (Sl.ow ds2) → env[m]? = some (Sl.ow ds2) := fun m ds2 h => by
      by_cases hm : i = m
      · subst hm; rw [List.getElem?_set_self hi] at h; cases h
      · rw [List.getElem?_set_ne hm] at h; exact h
    exact r.dis j l q ds1 es (back j ds1 e1) (back l es e2) g1 g2
end
end Dl

namespace Dl
open PySem PySem.Spec PyProof.Rows L2

abbrev KF := PyData → Bool
abbrev DE := Sls → KF → Bool
abbrev DT := Sls → (Bool → Bool) → Bool
abbrev DA := Sls → (List PyData → Bool) → Bool
abbrev G2 := PyData → PyData → KF → Bool
abbrev G1 := PyData → KF → Bool

def look : Sls → Nat → Sl
  | [], _ => .no
  | s :: _, 0 => s
  | _ :: r, n + 1 => look r n
theorem look_some : ∀ {env : Sls} {i : Nat} {s : Sl}, look env i = s → s ≠ .no → env[i]? = some s
  | [], _, _, h, n => absurd h.symm n
  | _ :: _, 0, _, h, _ => by rw [← h]; rfl
  | _ :: r, i + 1, s, h, n => by
    rw [List.getElem?_cons_succ]
    exact look_some (env := r) h n

section
variable (K : PySem.W.Frag) (W : Wd)
def OkE (t : TE) (e : DE) : Prop := ∀ (env : Sls) (σ : L2.St) (F H : Hp) (k : KF) (Q : VK), Rel K W env σ F H → e env k = true → (∀ d v F' H', Stp W.pp F H F' H' → Rp K F' v d → k d = true → Q v H') → t σ H Q
def OkT (t : TT) (e : DT) : Prop := ∀ (env : Sls) (σ : L2.St) (F H : Hp) (k : Bool → Bool) (Q : Bool → Hp → Prop), Rel K W env σ F H → e env k = true → (∀ b F' H', Stp W.pp F H F' H' → k b = true → Q b H') → t σ H Q
def OkA (t : TA) (e : DA) : Prop := ∀ (env : Sls) (σ : L2.St) (F H : Hp) (k : List PyData → Bool) (Q : List V → Hp → Prop), Rel K W env σ F H → e env k = true → (∀ ds vs F' H', Stp W.pp F H F' H' → RpAll K F' vs ds → k ds = true → Q vs H') → t σ H Q
def OkR (r : R2) (g : G2) : Prop := ∀ (F H : Hp) (x y : V) (a b : PyData) (k : KF) (Q : VK), Bs W.pp F H → Rp K F x a → Rp K F y b → g a b k = true → (∀ d v F' H', Stp W.pp F H F' H' → Rp K F' v d → k d = true → Q v H') → r x y H Q
def OkU (r : V → Hp → VK → Prop) (g : G1) : Prop := ∀ (F H : Hp) (x : V) (a : PyData) (k : KF) (Q : VK), Bs W.pp F H → Rp K F x a → g a k = true → (∀ d v F' H', Stp W.pp F H F' H' → Rp K F' v d → k d = true → Q v H') → r x H Q
/-- a call of a built-in by its arguments -/
abbrev GC := List PyData → KF → Bool
def OkC (r : List V → Hp → VK → Prop) (g : GC) : Prop := ∀ (F H : Hp) (vs : List V) (ds : List PyData) (k : KF) (Q : VK), Bs W.pp F H → RpAll K F vs ds → g ds k = true → (∀ d v F' H', Stp W.pp F H F' H' → Rp K F' v d → k d = true → Q v H') → r vs H Q
end

structure SE (W : Wd) (X : Cx) (e : Expr) (de : DE) : Prop where
  ex : ∃ t, PE X e t ∧ OkE X.K W t de
structure ST (W : Wd) (X : Cx) (e : Expr) (dt : DT) : Prop where
  ex : ∃ t, PT X e t ∧ OkT X.K W t dt
structure SW (W : Wd) (X : Cx) (e : Expr) (dt : DT) : Prop where
  ex : ∃ t, PW X e t ∧ OkT X.K W t dt
structure SA (W : Wd) (X : Cx) (es : List Expr) (da : DA) : Prop where
  ex : ∃ t, PA X es t ∧ OkA X.K W t da

/-! ### combinators -/
def dVar (i : Nat) : DE := fun env k => match look env i with
  | .fz d => k d
  | _ => false
def dC (d : PyData) : DE := fun _ k => k d
def dOp (g : G2) (a b : DE) : DE := fun env k => a env fun x => b env fun y => g x y k
def dUn (g : G1) (a : DE) : DE := fun env k => a env fun x => g x k
def dB (a : DE) : DT := fun env k => a env fun x => match x with
  | .bool b => k b
  | _ => false
def dAnd (a b : DT) : DT := fun env k => a env fun c => match c with
  | true => b env k
  | false => k false
def dOr (a b : DT) : DT := fun env k => a env fun c => match c with
  | true => k true
  | false => b env k
def dNot (a : DT) : DT := fun env k => a env fun c => k (!c)
def dAndV (a b : DE) : DE := fun env k => a env fun x => match x with
  | .bool true => b env k
  | .bool false => k (.bool false)
  | _ => false
def dOrV (a b : DE) : DE := fun env k => a env fun x => match x with
  | .bool true => k (.bool true)
  | .bool false => b env k
  | _ => false
def dNotV (a : DE) : DE := fun env k => a env fun x => match x with
  | .bool c => k (.bool (!c))
  | _ => false
def dIf (c : DT) (a b : DE) : DE := fun env k => c env fun x => match x with
  | true => a env k
  | false => b env k
def aNil : DA := fun _ k => k []
def aCons (a : DE) (r : DA) : DA := fun env k => a env fun x => r env fun xs => k (x :: xs)
def small (n : Nat) : Bool := Nat.ble n 100000
theorem small_ok {n : Nat} (h : small n = true) : n ≤ sizeLine := Nat.le_trans (Nat.le_of_ble_eq_true h) (by decide)
def dTup (a : DA) : DE := fun env k => a env fun xs => match small xs.length with
  | true => k (.tuple xs)
  | false => false
def dLst (a : DA) : DE := fun env k => a env fun xs => match small xs.length with
  | true => k (.list xs)
  | false => false
def dCB (g : GC) (a : DA) : DE := fun env k => a env fun xs => g xs k

section
variable {W : Wd} {X : Cx} {K : PySem.W.Frag} {ea eb ec : Expr} {da db dc : DE} {ta tb tc : DT} {pos : Pos} {es : List Expr} {dr : DA}

theorem se_var {i : Nat} {x : Str} (hN : X.N[i]? = some x := by rfl) (hv : Vis X.env.scope x := by first | exact Or.inl rfl | exact Or.inr (Or.inl rfl) | exact Or.inr (Or.inr rfl)) (hd : (x == ("__debug__" : Str)) = false := by decide)
    (hcd : (x == ("__classdict__" : Str)) = false := by decide) : SE W X (.Name x pos) (dVar i) := by
  refine ⟨_, pe_var hN hv hd hcd, fun env σ F H k Q R h q => ?_⟩
  unfold dVar at h
  cases e : look env i with
  | fz d =>
    rw [e] at h
    obtain ⟨v, h1, h2⟩ := R.fz (look_some e (fun z => nomatch z))
    exact ⟨v, h1, q d v F H (Stp.refl R.bs) h2 h⟩
  | _ => rw [e] at h; cases h
theorem okE_c {v : V} {d : PyData} (r : ∀ F, Rp K F v d) : OkE K W (tC v) (dC d) := fun env σ F H k Q R h q => q d v F H (Stp.refl R.bs) (r F) h
theorem se_int {i j} : SE W X (.Constant (.int i) j pos) (dC (.int i)) := ⟨_, pe_int, okE_c fun _ => .int i⟩
theorem se_bl {b j} : SE W X (.Constant (.bool b) j pos) (dC (.bool b)) := ⟨_, pe_bl, okE_c fun _ => .bl b⟩
theorem se_non {j} : SE W X (.Constant .none j pos) (dC .none) := ⟨_, pe_non, okE_c fun _ => .non⟩
theorem se_str {x j} : SE W X (.Constant (.str x) j pos) (dC (.str x)) := ⟨_, pe_str, okE_c fun _ => .str x⟩
/-- a constant of the module -/
structure Glo (K : PySem.W.Frag) (mg : Str → Option Value) (x : Str) (d : PyData) : Prop where
  ex : ∃ u v, mg x = some u ∧ RelV v u ∧ ∀ F, Rp K F v d
theorem se_glob {x : Str} {d : PyData} (g : Glo X.K X.mg x d) (hg : Gl X x := by rfl) (hd : (x == ("__debug__" : Str)) = false := by decide) : SE W X (.Name x pos) (dC d) := by
  obtain ⟨u, v, h1, h2, h3⟩ := g
  exact ⟨_, pe_glob hg h1 h2 hd, okE_c h3⟩
theorem okE_op {ta tb : TE} {r : R2} {g : G2} (a : OkE K W ta da) (b : OkE K W tb db) (hr : OkR K W r g) : OkE K W (tOp r ta tb) (dOp g da db) := fun env σ F H k Q R h q =>
  a env σ F H _ _ R h fun d v F1 H1 s1 r1 h1 => b env σ F1 H1 _ _ (R.step s1) h1 fun d2 v2 F2 H2 s2 r2 h2 =>
    hr F2 H2 v v2 d d2 k Q ((R.step s1).step s2).bs (r1.mono s2.ff) r2 h2 fun d3 v3 F3 H3 s3 r3 h3 => q d3 v3 F3 H3 ((s1.trans s2).trans s3) r3 h3
theorem okE_un {ta : TE} {r : V → Hp → VK → Prop} {g : G1} (a : OkE K W ta da) (hr : OkU K W r g) : OkE K W (tUn r ta) (dUn g da) := fun env σ F H k Q R h q =>
  a env σ F H _ _ R h fun d v F1 H1 s1 r1 h1 => hr F1 H1 v d k Q (R.step s1).bs r1 h1 fun d3 v3 F3 H3 s3 r3 h3 => q d3 v3 F3 H3 (s1.trans s3) r3 h3
theorem se_bin {op : Operator} {r : R2} {g : G2} (ho : OpR X (binaryOp op) r) (hr : OkR X.K W r g) (a : SE W X ea da) (b : SE W X eb db) : SE W X (.BinOp ea op eb pos) (dOp g da db) := by
  obtain ⟨t1, p1, o1⟩ := a
  obtain ⟨t2, p2, o2⟩ := b
  exact ⟨_, pe_op ho p1 p2, okE_op o1 o2 hr⟩
theorem se_un {op : UnaryOp} {r : V → Hp → VK → Prop} {g : G1} (ho : UnR X (unaryOp op) r) (hr : OkU X.K W r g) (a : SE W X ea da) : SE W X (.UnaryOp op ea pos) (dUn g da) := by
  obtain ⟨t1, p1, o1⟩ := a
  exact ⟨_, pe_un ho p1, okE_un o1 hr⟩
theorem se_cmp {op : CmpOp} {r : R2} {g : G2} (ho : OpR X (compareOp op) r) (hr : OkR X.K W r g) (a : SE W X ea da) (b : SE W X eb db) (hm : behindInMarks op eb = false := by exact nomark _) : SE W X (.Compare ea [op] [eb] pos) (dOp g da db) := by
  obtain ⟨t1, p1, o1⟩ := a
  obtain ⟨t2, p2, o2⟩ := b
  exact ⟨_, pe_cmpR ho p1 p2 hm, okE_op o1 o2 hr⟩
theorem okT_test {t : TE} (a : OkE K W t da) : OkT K W (tTest t) (dB da) := fun env σ F H k Q R h q =>
  a env σ F H _ _ R h fun d v F1 H1 s1 r1 h1 => by
    cases d with
    | bool b => cases r1; exact ⟨b, rfl, q b F1 H1 s1 h1⟩
    | _ => cases h1
theorem okT_B {t : TE} (a : OkE K W t da) : OkT K W (tB t) (dB da) := okT_test a
theorem st_cmp {op : CmpOp} {r : R2} {g : G2} (ho : OpR X (compareOp op) r) (hr : OkR X.K W r g) (a : SE W X ea da) (b : SE W X eb db) (hm : behindInMarks op eb = false := by exact nomark _) : ST W X (.Compare ea [op] [eb] pos) (dB (dOp g da db)) := by
  obtain ⟨t1, p1, o1⟩ := a
  obtain ⟨t2, p2, o2⟩ := b
  exact ⟨_, pt_cmpR ho p1 p2 hm, okT_test (okE_op o1 o2 hr)⟩
/-- a < b < c -/
def dChain (g g' : G2) (a b c : DE) : DE := fun env k => a env fun x => b env fun y => g x y fun z => match z with
  | .bool true => c env fun w => g' y w k
  | .bool false => k (.bool false)
  | _ => false
theorem okE_chain {t1 t2 t3 : TE} {r r' : R2} {g g' : G2} (a : OkE K W t1 da) (b : OkE K W t2 db) (c : OkE K W t3 dc) (hr : OkR K W r g) (hr' : OkR K W r' g') : OkE K W (tChain r r' t1 t2 t3) (dChain g g' da db dc) := fun env σ F H k Q R h q =>
  a env σ F H _ _ R h fun d v F1 H1 s1 r1 h1 => b env σ F1 H1 _ _ (R.step s1) h1 fun d2 v2 F2 H2 s2 r2 h2 =>
    hr F2 H2 v v2 d d2 _ _ ((R.step s1).step s2).bs (r1.mono s2.ff) r2 h2 fun d3 v3 F3 H3 s3 r3 h3 => by
      cases d3 with
      | bool z =>
        cases r3
        refine ⟨z, rfl, ?_⟩
        cases z with
        | true =>
          rw [if_pos rfl]
          refine c env σ F3 H3 _ _ (((R.step s1).step s2).step s3) h3 fun d4 v4 F4 H4 s4 r4 h4 => ?_
          exact hr' F4 H4 v2 v4 d2 d4 k Q ((((R.step s1).step s2).step s3).step s4).bs (r2.mono (s3.ff.trans s4.ff)) r4 h4 fun d5 v5 F5 H5 s5 r5 h5 => q d5 v5 F5 H5 ((((s1.trans s2).trans s3).trans s4).trans s5) r5 h5
        | false =>
          rw [if_neg Bool.false_ne_true]
          exact q _ _ F3 H3 ((s1.trans s2).trans s3) (.bl false) h3
      | _ => cases h3
theorem se_chain {op op' : CmpOp} {r r' : R2} {g g' : G2} (ho : OpR X (compareOp op) r) (hr : OkR X.K W r g) (ho' : OpR X (compareOp op') r') (hr' : OkR X.K W r' g') (a : SE W X ea da) (b : SE W X eb db) (c : SE W X ec dc)
    (hm : lastMarks [op, op'] [eb, ec] = false := by rfl) : SE W X (.Compare ea [op, op'] [eb, ec] pos) (dChain g g' da db dc) := by
  obtain ⟨t1, p1, o1⟩ := a
  obtain ⟨t2, p2, o2⟩ := b
  obtain ⟨t3, p3, o3⟩ := c
  exact ⟨_, pe_chain ho ho' p1 p2 p3 hm, okE_chain o1 o2 o3 hr hr'⟩
theorem st_chain {op op' : CmpOp} {r r' : R2} {g g' : G2} (ho : OpR X (compareOp op) r) (hr : OkR X.K W r g) (ho' : OpR X (compareOp op') r') (hr' : OkR X.K W r' g') (a : SE W X ea da) (b : SE W X eb db) (c : SE W X ec dc)
    (hm : lastMarks [op, op'] [eb, ec] = false := by rfl) : ST W X (.Compare ea [op, op'] [eb, ec] pos) (dB (dChain g g' da db dc)) := by
  obtain ⟨t1, p1, o1⟩ := a
  obtain ⟨t2, p2, o2⟩ := b
  obtain ⟨t3, p3, o3⟩ := c
  exact ⟨_, pt_chain ho ho' p1 p2 p3 hm, okT_test (okE_chain o1 o2 o3 hr hr')⟩
/-- a value as a test -/
theorem st_val (a : SE W X ea da) (he : ∀ whole, isTrue ea X.env whole = (do let v ← whole; standAt ea.pos; holding [v] (truthy v)) := by intro _; rfl) : ST W X ea (dB da) := by
  obtain ⟨t1, p1, o1⟩ := a
  exact ⟨_, pt_val p1 he, okT_B o1⟩
theorem SW.st (h : SW W X ea ta) : ST W X ea ta := by
  obtain ⟨t, p, o⟩ := h
  exact ⟨t, p.pt, o⟩
theorem sw_and1 (a : ST W X ea ta) : SW W X (.BoolOp .And [ea] pos) ta := by
  obtain ⟨t, p, o⟩ := a
  exact ⟨t, pw_and1 p, o⟩
theorem sw_or1 (a : ST W X ea ta) : SW W X (.BoolOp .Or [ea] pos) ta := by
  obtain ⟨t, p, o⟩ := a
  exact ⟨t, pw_or1 p, o⟩
theorem sw_and (a : ST W X ea ta) (b : SW W X (.BoolOp .And (eb :: es) pos) tb) : SW W X (.BoolOp .And (ea :: eb :: es) pos) (dAnd ta tb) := by
  obtain ⟨t1, p1, o1⟩ := a
  obtain ⟨t2, p2, o2⟩ := b
  refine ⟨_, pw_and p1 p2, fun env σ F H k Q R h q => ?_⟩
  refine o1 env σ F H _ _ R h fun b F1 H1 s1 h1 => ?_
  cases b with
  | true => rw [if_pos rfl]; exact o2 env σ F1 H1 _ _ (R.step s1) h1 fun b F2 H2 s2 h2 => q b F2 H2 (s1.trans s2) h2
  | false => rw [if_neg Bool.false_ne_true]; exact q false F1 H1 s1 h1
theorem sw_or (a : ST W X ea ta) (b : SW W X (.BoolOp .Or (eb :: es) pos) tb) : SW W X (.BoolOp .Or (ea :: eb :: es) pos) (dOr ta tb) := by
  obtain ⟨t1, p1, o1⟩ := a
  obtain ⟨t2, p2, o2⟩ := b
  refine ⟨_, pw_or p1 p2, fun env σ F H k Q R h q => ?_⟩
  refine o1 env σ F H _ _ R h fun b F1 H1 s1 h1 => ?_
  cases b with
  | true => rw [if_pos rfl]; exact q true F1 H1 s1 h1
  | false => rw [if_neg Bool.false_ne_true]; exact o2 env σ F1 H1 _ _ (R.step s1) h1 fun b F2 H2 s2 h2 => q b F2 H2 (s1.trans s2) h2
theorem st_not (a : ST W X ea ta) : ST W X (.UnaryOp .Not ea pos) (dNot ta) := by
  obtain ⟨t, p, o⟩ := a
  exact ⟨_, pt_not p, fun env σ F H k Q R h q => o env σ F H _ _ R h fun b F1 H1 s1 h1 => q _ F1 H1 s1 h1⟩
theorem se_one {op} (a : SE W X ea da) : SE W X (.BoolOp op [ea] pos) da := by
  obtain ⟨t, p, o⟩ := a
  exact ⟨t, pe_one p, o⟩
theorem se_and (a : SE W X ea da) (b : SE W X (.BoolOp .And (eb :: es) pos) db) : SE W X (.BoolOp .And (ea :: eb :: es) pos) (dAndV da db) := by
  obtain ⟨t1, p1, o1⟩ := a
  obtain ⟨t2, p2, o2⟩ := b
  refine ⟨_, pe_and p1 p2, fun env σ F H k Q R h q => ?_⟩
  refine o1 env σ F H _ _ R h fun d v F1 H1 s1 r1 h1 => ?_
  cases d with
  | bool c =>
    cases r1
    refine ⟨c, rfl, ?_⟩
    cases c with
    | true => rw [if_pos rfl]; exact o2 env σ F1 H1 _ _ (R.step s1) h1 fun d2 v2 F2 H2 s2 r2 h2 => q d2 v2 F2 H2 (s1.trans s2) r2 h2
    | false => rw [if_neg Bool.false_ne_true]; exact q _ _ F1 H1 s1 (.bl false) h1
  | _ => cases h1
theorem se_or (a : SE W X ea da) (b : SE W X (.BoolOp .Or (eb :: es) pos) db) : SE W X (.BoolOp .Or (ea :: eb :: es) pos) (dOrV da db) := by
  obtain ⟨t1, p1, o1⟩ := a
  obtain ⟨t2, p2, o2⟩ := b
  refine ⟨_, pe_or p1 p2, fun env σ F H k Q R h q => ?_⟩
  refine o1 env σ F H _ _ R h fun d v F1 H1 s1 r1 h1 => ?_
  cases d with
  | bool c =>
    cases r1
    refine ⟨c, rfl, ?_⟩
    cases c with
    | true => rw [if_pos rfl]; exact q _ _ F1 H1 s1 (.bl true) h1
    | false => rw [if_neg Bool.false_ne_true]; exact o2 env σ F1 H1 _ _ (R.step s1) h1 fun d2 v2 F2 H2 s2 r2 h2 => q d2 v2 F2 H2 (s1.trans s2) r2 h2
  | _ => cases h1
theorem se_not (a : SE W X ea da) : SE W X (.UnaryOp .Not ea pos) (dNotV da) := by
  obtain ⟨t, p, o⟩ := a
  refine ⟨_, pe_not p, fun env σ F H k Q R h q => o env σ F H _ _ R h fun d v F1 H1 s1 r1 h1 => ?_⟩
  cases d with
  | bool c => cases r1; exact ⟨c, rfl, q _ _ F1 H1 s1 (.bl _) h1⟩
  | _ => cases h1
theorem se_if (c : ST W X ec tc) (a : SE W X ea da) (b : SE W X eb db) : SE W X (.IfExp ec ea eb pos) (dIf tc da db) := by
  obtain ⟨t0, p0, o0⟩ := c
  obtain ⟨t1, p1, o1⟩ := a
  obtain ⟨t2, p2, o2⟩ := b
  refine ⟨_, pe_ifExp p0 p1 p2, fun env σ F H k Q R h q => ?_⟩
  refine o0 env σ F H _ _ R h fun b F1 H1 s1 h1 => ?_
  cases b with
  | true => rw [if_pos rfl]; exact o1 env σ F1 H1 _ _ (R.step s1) h1 fun d2 v2 F2 H2 s2 r2 h2 => q d2 v2 F2 H2 (s1.trans s2) r2 h2
  | false => rw [if_neg Bool.false_ne_true]; exact o2 env σ F1 H1 _ _ (R.step s1) h1 fun d2 v2 F2 H2 s2 r2 h2 => q d2 v2 F2 H2 (s1.trans s2) r2 h2
theorem sa_nil : SA W X [] aNil := ⟨_, pa_nil, fun env σ F H k Q R h q => q [] [] F H (Stp.refl R.bs) .nil h⟩
theorem sa_cons (a : SE W X ea da) (r : SA W X es dr) (hs : starEach (ea :: es) X.env = (false, eval ea X.env) :: starEach es X.env := by rfl) : SA W X (ea :: es) (aCons da dr) := by
  obtain ⟨t1, p1, o1⟩ := a
  obtain ⟨t2, p2, o2⟩ := r
  refine ⟨_, pa_cons p1 p2 hs, fun env σ F H k Q R h q => ?_⟩
  exact o1 env σ F H _ _ R h fun d v F1 H1 s1 r1 h1 => o2 env σ F1 H1 _ _ (R.step s1) h1 fun ds vs F2 H2 s2 r2 h2 => q (d :: ds) (v :: vs) F2 H2 (s1.trans s2) (.cons (r1.mono s2.ff) r2) h2
theorem se_tup {x1} (a : SA W X es dr) : SE W X (.Tuple es x1 pos) (dTup dr) := by
  obtain ⟨t, p, o⟩ := a
  refine ⟨_, pe_tup p, fun env σ F H k Q R h q => ?_⟩
  refine o env σ F H _ _ R h fun ds vs F1 H1 s1 r1 h1 => ?_
  cases e : small ds.length with
  | true =>
    rw [e] at h1
    refine ⟨by rw [r1.length]; exact small_ok e, fun a na => ?_⟩
    have B := (R.step s1).bs
    have st := Stp.new (o := .tup vs) B na
    exact q (.tuple ds) (.ref a) _ _ (s1.trans st) (.tup upd_same (r1.mono st.ff)) h1
  | false => rw [e] at h1; cases h1
theorem se_lst (a : SA W X es dr) : SE W X (.List es pos) (dLst dr) := by
  obtain ⟨t, p, o⟩ := a
  refine ⟨_, pe_lst p, fun env σ F H k Q R h q => ?_⟩
  refine o env σ F H _ _ R h fun ds vs F1 H1 s1 r1 h1 => ?_
  cases e : small ds.length with
  | true =>
    rw [e] at h1
    refine ⟨by rw [r1.length]; exact small_ok e, fun a na => ?_⟩
    have B := (R.step s1).bs
    have st := Stp.new (o := .lst vs) B na
    exact q (.list ds) (.ref a) _ _ (s1.trans st) (.lst upd_same (r1.mono st.ff)) h1
  | false => rw [e] at h1; cases h1
theorem okE_cb {t : TA} {r : List V → Hp → VK → Prop} {g : GC} (a : OkA K W t dr) (hr : OkC K W r g) : OkE K W (tCB r t) (dCB g dr) := fun env σ F H k Q R h q =>
  a env σ F H _ _ R h fun ds vs F1 H1 s1 r1 h1 => hr F1 H1 vs ds k Q (R.step s1).bs r1 h1 fun d v F2 H2 s2 r2 h2 => q d v F2 H2 (s1.trans s2) r2 h2
theorem se_cb {x : Str} {p : Pos} {id : String} {r : List V → Hp → VK → Prop} {g : GC} (hc : CallR X (.builtin id) r) (hr : OkC X.K W r g) (hm : X.mg x = none) (a : SA W X (ea :: es) dr) (hg : Gl X x := by rfl) (hv : bootBuiltins x = some (.builtin id) := by decide +kernel) (hn : x ≠ "__name__" := by decide)
    (hdb : (x == ("__debug__" : Str)) = false := by decide) (he : starEach (ea :: es) X.env = (false, eval ea X.env) :: starEach es X.env := by rfl) (hpl : (backTo pos (starEach es X.env)).any (·.1) = false := by rfl) : SE W X (.Call (.Name x p) (ea :: es) [] pos) (dCB g dr) := by
  obtain ⟨t, q, o⟩ := a
  exact ⟨_, pe_callB hc hg hm hv q hn hdb he hpl, okE_cb o hr⟩
theorem se_cty {x : Str} {p : Pos} {T : String} {r : List V → Hp → VK → Prop} {g : GC} (hc : CallR X (.type T) r) (hr : OkC X.K W r g) (hm : X.mg x = none) (a : SA W X (ea :: es) dr) (hg : Gl X x := by rfl) (hv : bootBuiltins x = some (.type T) := by decide +kernel) (hn : x ≠ "__name__" := by decide)
    (hdb : (x == ("__debug__" : Str)) = false := by decide) (he : starEach (ea :: es) X.env = (false, eval ea X.env) :: starEach es X.env := by rfl) (hpl : (backTo pos (starEach es X.env)).any (·.1) = false := by rfl) : SE W X (.Call (.Name x p) (ea :: es) [] pos) (dCB g dr) := by
  obtain ⟨t, q, o⟩ := a
  exact ⟨_, pe_callTy hc hg hm hv q hn hdb he hpl, okE_cb o hr⟩
end
end Dl

namespace Dl
open PySem PySem.Spec PyProof.Rows L2

/-! ### a number worked out at once (for the kernel) -/
def frN (n : Nat) (k : Nat → Bool) : Bool := match n with
  | 0 => k 0
  | m + 1 => k (m + 1)
theorem frN_eq (n : Nat) (k : Nat → Bool) : frN n k = k n := by cases n <;> rfl
def fI (i : Int) (k : Int → Bool) : Bool := match i with
  | .ofNat n => frN n fun n => k (.ofNat n)
  | .negSucc n => frN n fun n => k (.negSucc n)
theorem fI_eq (i : Int) (k : Int → Bool) : fI i k = k i := by
  cases i with
  | ofNat n => exact frN_eq n fun n => k (.ofNat n)
  | negSucc n => exact frN_eq n fun n => k (.negSucc n)
theorem of_fI {i : Int} {k : PyData → Bool} (h : fI i (fun z => k (.int z)) = true) : k (.int i) = true := (fI_eq i fun z => k (.int z)).symm.trans h
section
variable {W : Wd} {X : Cx} {K : PySem.W.Frag}
/-! ### operators on data -/
def rOr (r r' : R2) : R2 := fun x y H Q => r x y H Q ∨ r' x y H Q
theorem rOr_op {f : Value → Value → Sem Value} {r r' : R2} (h : OpR X f r) (h' : OpR X f r') : OpR X f (rOr r r') := h.or h'
def rAdds (K : PySem.W.Frag) : R2 := rOr (rI0 fun i j => .int (i + j)) (rOr rCat (rOr (rCatA K) fun x y H Q => ∃ i j, x = .str i ∧ y = .str j ∧ i.length + j.length ≤ sizeLine ∧ Q (.str (i ++ j)) H))
theorem op_adds : OpR X (binaryOp .Add) (rAdds X.K) := rOr_op op_add (rOr_op op_cat (rOr_op op_catA op_add_str))
def gAdd : G2 := fun a b k => match a with
  | .int i => (match b with
    | .int j => fI (i + j) fun z => k (.int z)
    | _ => false)
  | .list xs => (match b with
    | .list ys => (match small (xs.length + ys.length) with
      | true => k (.list (xs ++ ys))
      | false => false)
    | _ => false)
  | .tuple xs => (match b with
    | .tuple ys => (match small (xs.length + ys.length) with
      | true => k (.tuple (xs ++ ys))
      | false => false)
    | _ => false)
  | .str x => (match b with
    | .str y => (match small (x.length + y.length) with
      | true => k (.str (x ++ y))
      | false => false)
    | _ => false)
  | _ => false
theorem sqT_of {F H : Hp} {a : Addr} {ds : List PyData} (e : Same F H) (h : Rp K F (.ref a) (.tuple ds)) : ∃ xs, SqT K H a xs ∧ RpAll K F xs ds := by
  cases h with
  | tup h r => exact ⟨_, .inl (.inl (e _ _ h)), r⟩
  | ktup h r => exact ⟨_, .inr h, r⟩
theorem ok_add : OkR K W (rAdds K) gAdd := fun F H x y a b k Q B ra rb h q => by
  cases a with
  | int i =>
    cases b with
    | int j => cases ra; cases rb; exact .inl ⟨i, j, rfl, rfl, q _ _ F H (Stp.refl B) (.int _) (of_fI h)⟩
    | _ => cases h
  | list xs =>
    cases b with
    | list ys =>
      cases ra with
      | @lst pa vl _ ha ra =>
        cases rb with
        | @lst pb wl _ hb rb =>
          cases e : small (xs.length + ys.length) with
          | false => simp only [gAdd, e] at h; cases h
          | true =>
            simp only [gAdd, e] at h
            refine .inr (.inl ⟨_, _, _, _, rfl, rfl, B.keep ha, B.keep hb, by rw [ra.length, rb.length]; exact small_ok e, fun p np => ?_⟩)
            have st := Stp.new (o := .lst (vl ++ wl)) B np
            exact q _ _ _ _ st (.lst upd_same ((ra.append rb).mono st.ff)) h
    | _ => cases h
  | tuple xs =>
    cases b with
    | tuple ys =>
      cases x with
      | ref pa =>
        cases y with
        | ref pb =>
          obtain ⟨vs, h1, r1⟩ := sqT_of B.fh ra
          obtain ⟨ws, h2, r2⟩ := sqT_of B.fh rb
          cases e : small (xs.length + ys.length) with
          | false => simp only [gAdd, e] at h; cases h
          | true =>
            simp only [gAdd, e] at h
            refine .inr (.inr (.inl ⟨pa, pb, vs, ws, rfl, rfl, h1, h2, by rw [r1.length, r2.length]; exact small_ok e, fun z => ?_, fun _ z => ?_, fun _ _ p np => ?_⟩))
            · subst z
              cases r1
              exact q _ _ F H (Stp.refl B) rb h
            · subst z
              cases r2
              rw [List.append_nil] at h
              exact q _ _ F H (Stp.refl B) ra h
            · have st := Stp.new (o := .tup (vs ++ ws)) B np
              exact q _ _ _ _ st (.tup upd_same ((r1.append r2).mono st.ff)) h
        | _ => cases rb
      | _ => cases ra
    | _ => cases h
  | str x =>
    cases b with
    | str y =>
      cases ra
      cases rb
      cases e : small (x.length + y.length) with
      | false => simp only [gAdd, e] at h; cases h
      | true =>
        simp only [gAdd, e] at h
        exact .inr (.inr (.inr ⟨x, y, rfl, rfl, small_ok e, q _ _ F H (Stp.refl B) (.str _) h⟩))
    | _ => cases h
  | _ => cases h
theorem op_subB : OpR X (binaryOp .Sub) (fun x y H Q => ∃ a b : Bool, x = .bl a ∧ y = .bl b ∧ Q (.int (b2i a - b2i b)) H) := by
  intro pins s σ H x y v u Q I rx ry h
  obtain ⟨a, b, rfl, rfl, q⟩ := h
  cases rx
  cases ry
  exact PyProof.Rows.sub_bool ⟨.int _, H, I.tok _, ⟨_, rfl⟩, q⟩
def rSubs : R2 := rOr (rI0 fun i j => .int (i - j)) (fun x y H Q => ∃ a b : Bool, x = .bl a ∧ y = .bl b ∧ Q (.int (b2i a - b2i b)) H)
theorem op_subs : OpR X (binaryOp .Sub) rSubs := rOr_op op_sub op_subB
def gSub : G2 := fun a b k => match a with
  | .int i => (match b with
    | .int j => fI (i - j) fun z => k (.int z)
    | _ => false)
  | .bool i => (match b with
    | .bool j => k (.int (b2i i - b2i j))
    | _ => false)
  | _ => false
theorem ok_sub : OkR K W rSubs gSub := fun F H x y a b k Q B ra rb h q => by
  cases a with
  | int i =>
    cases b with
    | int j => cases ra; cases rb; exact .inl ⟨i, j, rfl, rfl, q _ _ F H (Stp.refl B) (.int _) (of_fI h)⟩
    | _ => cases h
  | bool i =>
    cases b with
    | bool j => cases ra; cases rb; exact .inr ⟨i, j, rfl, rfl, q _ _ F H (Stp.refl B) (.int _) h⟩
    | _ => cases h
  | _ => cases h
def mulOk (i j : Int) : Bool := Nat.ble (Nat.add (Nat.log2 i.natAbs) (Nat.log2 j.natAbs)) 999999
theorem mulOk_ok {i j : Int} (h : mulOk i j = true) : CMulW i j := Nat.lt_succ_of_le (Nat.le_of_ble_eq_true h)
def rMuls : R2 := rOr (rI CMulW fun i j => .int (i * j)) rRep
theorem op_muls : OpR X (binaryOp .Mult) rMuls := rOr_op op_mulW op_rep
def repOk (n : Nat) (i : Int) : Bool := match i with
  | .ofNat m => Nat.ble m 100000 && small (n * m)
  | .negSucc m => Nat.ble m 100000
theorem repOk_ok {n : Nat} {i : Int} (h : repOk n i = true) : -(2 ^ 63) ≤ i ∧ i < 2 ^ 63 ∧ n * i.toNat ≤ sizeLine := by
  cases i with
  | negSucc m =>
    have l1 : m ≤ 100000 := Nat.le_of_ble_eq_true h
    refine ⟨by omega, by omega, ?_⟩
    show n * 0 ≤ sizeLine
    rw [Nat.mul_zero]
    exact Nat.zero_le _
  | ofNat m =>
    obtain ⟨e3, e4⟩ := Bool.and_eq_true_iff.mp (show (Nat.ble m 100000 && small (n * m)) = true from h)
    have l1 : m ≤ 100000 := Nat.le_of_ble_eq_true e3
    exact ⟨by rw [Int.ofNat_eq_natCast]; omega, by rw [Int.ofNat_eq_natCast]; omega, small_ok e4⟩
def gMul : G2 := fun a b k => match a with
  | .int i => (match b with
    | .int j => (match mulOk i j with
      | true => fI (i * j) fun z => k (.int z)
      | false => false)
    | _ => false)
  | .list xs => (match b with
    | .int j => (match repOk xs.length j with
      | true => k (.list (List.replicate j.toNat xs).flatten)
      | false => false)
    | _ => false)
  | _ => false
theorem ok_mul : OkR K W rMuls gMul := fun F H x y a b k Q B ra rb h q => by
  cases a with
  | int i =>
    cases b with
    | int j =>
      cases ra
      cases rb
      cases e : mulOk i j with
      | false => simp only [gMul, e] at h; cases h
      | true =>
        simp only [gMul, e] at h
        exact .inl ⟨i, j, rfl, rfl, mulOk_ok e, q _ _ F H (Stp.refl B) (.int _) (of_fI h)⟩
    | _ => cases h
  | list xs =>
    cases b with
    | int j =>
      cases rb
      cases ra with
      | @lst pa vl _ ha ra =>
        cases e : repOk xs.length j with
        | false => simp only [gMul, e] at h; cases h
        | true =>
          simp only [gMul, e] at h
          obtain ⟨l1, l2, l3⟩ := repOk_ok e
          refine .inr ⟨_, _, _, rfl, rfl, B.keep ha, l1, l2, by rw [ra.length]; exact l3, fun p np => ?_⟩
          have st := Stp.new (o := .lst (List.replicate j.toNat vl).flatten) B np
          exact q _ _ _ _ st (.lst upd_same ((ra.rep _).mono st.ff)) h
    | _ => cases h
  | _ => cases h
def divOk (j : Int) : Bool := match j with
  | .ofNat (m + 1) => Nat.ble (Nat.log2 (m + 1)) 8999
  | _ => false
theorem divOk_ok {i j : Int} (h : divOk j = true) : CDivW i j := by
  cases j with
  | negSucc m => cases h
  | ofNat m =>
    cases m with
    | zero => cases h
    | succ m =>
      have h1 : Nat.log2 (m + 1) ≤ 8999 := Nat.le_of_ble_eq_true h
      exact ⟨Int.ofNat_lt.mpr (Nat.succ_pos m), by show Nat.log2 (m + 1) < 9000; omega⟩
def gFdiv : G2 := fun a b k => match a with
  | .int i => (match b with
    | .int j => (match divOk j with
      | true => fI (i / j) fun z => k (.int z)
      | false => false)
    | _ => false)
  | _ => false
theorem ok_fdiv : OkR K W (rI CDivW fun i j => .int (i / j)) gFdiv := fun F H x y a b k Q B ra rb h q => by
  cases a with
  | int i =>
    cases b with
    | int j =>
      cases ra
      cases rb
      cases e : divOk j with
      | false => simp only [gFdiv, e] at h; cases h
      | true =>
        simp only [gFdiv, e] at h
        exact ⟨i, j, rfl, rfl, divOk_ok e, q _ _ F H (Stp.refl B) (.int _) (of_fI h)⟩
    | _ => cases h
  | _ => cases h
def gMod : G2 := fun a b k => match a with
  | .int i => (match b with
    | .int j => (match divOk j with
      | true => fI (i % j) fun z => k (.int z)
      | false => false)
    | _ => false)
  | _ => false
theorem ok_mod : OkR K W (rI (fun _ j => 0 < j) fun i j => .int (i % j)) gMod := fun F H x y a b k Q B ra rb h q => by
  cases a with
  | int i =>
    cases b with
    | int j =>
      cases ra
      cases rb
      cases e : divOk j with
      | false => simp only [gMod, e] at h; cases h
      | true =>
        simp only [gMod, e] at h
        exact ⟨i, j, rfl, rfl, (divOk_ok (i := i) e).1, q _ _ F H (Stp.refl B) (.int _) (of_fI h)⟩
    | _ => cases h
  | _ => cases h
def powOk (i j : Int) : Bool := match j with
  | .ofNat m => Nat.ble m 1000 && Nat.ble i.natAbs 1000000
  | _ => false
def gPow : G2 := fun a b k => match a with
  | .int i => (match b with
    | .int j => (match powOk i j with
      | true => k (.int (i ^ j.toNat))
      | false => false)
    | _ => false)
  | _ => false
theorem ok_pow : OkR K W (rI CPow fun i j => .int (i ^ j.toNat)) gPow := fun F H x y a b k Q B ra rb h q => by
  cases a with
  | int i =>
    cases b with
    | int j =>
      cases ra
      cases rb
      cases e : powOk i j with
      | false => simp only [gPow, e] at h; cases h
      | true =>
        simp only [gPow, e] at h
        refine ⟨i, j, rfl, rfl, ?_, q _ _ F H (Stp.refl B) (.int _) h⟩
        cases j with
        | negSucc m => cases e
        | ofNat m =>
          obtain ⟨e3, e4⟩ := Bool.and_eq_true_iff.mp (show (Nat.ble m 1000 && Nat.ble i.natAbs 1000000) = true from e)
          have l1 : m ≤ 1000 := Nat.le_of_ble_eq_true e3
          have l2 : i.natAbs ≤ 1000000 := Nat.le_of_ble_eq_true e4
          exact ⟨Int.natCast_nonneg m, by show (m : Int) ≤ 1000000; omega, Nat.lt_of_le_of_lt l2 (by decide)⟩
    | _ => cases h
  | _ => cases h
def gNeg : G1 := fun a k => match a with
  | .int i => k (.int (-i))
  | _ => false
theorem ok_neg : OkU K W (rU fun i => .int (-i)) gNeg := fun F H x a k Q B ra h q => by
  cases a with
  | int i => cases ra; exact ⟨i, rfl, q _ _ F H (Stp.refl B) (.int _) h⟩
  | _ => cases h
/-! comparisons -/
def gI (p : Int → Int → Bool) : G2 := fun a b k => match a with
  | .int i => (match b with
    | .int j => k (.bool (p i j))
    | _ => false)
  | _ => false
theorem ok_I {p : Int → Int → Bool} : OkR K W (rI0 fun i j => .bl (p i j)) (gI p) := fun F H x y a b k Q B ra rb h q => by
  cases a with
  | int i =>
    cases b with
    | int j => cases ra; cases rb; exact ⟨i, j, rfl, rfl, q _ _ F H (Stp.refl B) (.bl _) h⟩
    | _ => cases h
  | _ => cases h
abbrev gLt : G2 := gI fun i j => decide (i < j)
abbrev gLe : G2 := gI fun i j => decide (i ≤ j)
abbrev gGt : G2 := gI fun i j => decide (j < i)
abbrev gGe : G2 := gI fun i j => decide (j ≤ i)
/-- ints by hand, the rest as data -/
def gEqS (f : Bool → Bool) : G2 := fun a b k => match SeqAt.shaped a && SeqAt.shaped b with
  | true => k (.bool (f (PyData.eqv a b)))
  | false => false
/-- the commonest kinds at once -/
def eqI (i j : Int) : Bool := match i, j with
  | .ofNat n, .ofNat m => Nat.beq n m
  | .negSucc n, .negSucc m => Nat.beq n m
  | _, _ => false
theorem eqI_eq (i j : Int) : eqI i j = (i == j) := by
  cases i with
  | ofNat n =>
    cases j with
    | ofNat m =>
      show Nat.beq n m = (Int.ofNat n == Int.ofNat m)
      rw [Bool.eq_iff_iff, Nat.beq_eq, beq_iff_eq]
      exact ⟨fun e => by rw [e], fun e => Int.ofNat.inj e⟩
    | negSucc m => rfl
  | negSucc n =>
    cases j with
    | ofNat m => rfl
    | negSucc m =>
      show Nat.beq n m = (Int.negSucc n == Int.negSucc m)
      rw [Bool.eq_iff_iff, Nat.beq_eq, beq_iff_eq]
      exact ⟨fun e => by rw [e], fun e => Int.negSucc.inj e⟩
def eqQ : PyData → PyData → Option Bool
  | .int i, .int j => some (eqI i j)
  | .tuple [.int a, .int b], .tuple [.int c, .int d] => some (eqI a c && eqI b d)
  | _, _ => none
theorem eqQ_ok {a b : PyData} {r : Bool} (h : eqQ a b = some r) : SeqAt.shaped a = true ∧ SeqAt.shaped b = true ∧ PyData.eqv a b = r := by
  unfold eqQ at h
  split at h
  · cases h
    exact ⟨rfl, rfl, (eqI_eq _ _).symm⟩
  · rename_i a b c d
    cases h
    refine ⟨rfl, rfl, ?_⟩
    rw [eqI_eq, eqI_eq]
    show ((a == c) && ((b == d) && true)) = _
    rw [Bool.and_true]
  · cases h
def fEqB (a b : Bool) : Bool := match a, b with
  | true, true => true
  | false, false => true
  | _, _ => false
def b2iD (a : Bool) : Int := match a with
  | true => .ofNat 1
  | false => .ofNat 0
mutual
/-- Python's == worked out at once -/
def fEq : PyData → PyData → Bool
  | .none, .none => true
  | .bool a, .bool b => fEqB a b
  | .bool a, .int j => eqI (b2iD a) j
  | .int i, .bool b => eqI i (b2iD b)
  | .int i, .int j => eqI i j
  | .str x, .str y => decide (x = y)
  | .list xs, .list ys => fEqs xs ys
  | .tuple xs, .tuple ys => fEqs xs ys
  | _, _ => false
def fEqs : List PyData → List PyData → Bool
  | [], [] => true
  | x :: xs, y :: ys => match fEq x y with
    | true => fEqs xs ys
    | false => false
  | _, _ => false
end
mutual
theorem fEq_eqv : ∀ a b : PyData, fEq a b = PyData.eqv a b
  | .none, b => by cases b <;> rfl
  | .bool a, b => by
    cases b with
    | bool b => cases a <;> cases b <;> rfl
    | int j =>
      show eqI (b2iD a) j = ((if a then 1 else 0) == j)
      rw [eqI_eq]
      cases a <;> rfl
    | _ => rfl
  | .int a, b => by
    cases b with
    | bool b =>
      show eqI a (b2iD b) = (a == (if b then 1 else 0))
      rw [eqI_eq]
      cases b <;> rfl
    | int j => exact eqI_eq a j
    | _ => rfl
  | .str a, b => by
    cases b with
    | str b =>
      show decide (a = b) = (a == b)
      rw [Bool.eq_iff_iff, beq_iff_eq, decide_eq_true_iff]
    | _ => rfl
  | .list a, b => by
    cases b with
    | list b => exact fEqs_eqv a b
    | _ => rfl
  | .tuple a, b => by
    cases b with
    | tuple b => exact fEqs_eqv a b
    | _ => rfl
  | .dict a, b => by cases b <;> rfl
theorem fEqs_eqv : ∀ a b : List PyData, fEqs a b = PyData.eqvAll a b
  | [], [] => rfl
  | [], _ :: _ => rfl
  | _ :: _, [] => rfl
  | x :: xs, y :: ys => by
    show (match fEq x y with
      | true => fEqs xs ys
      | false => false) = (PyData.eqv x y && PyData.eqvAll xs ys)
    rw [← fEq_eqv x y, ← fEqs_eqv xs ys]
    cases fEq x y <;> rfl
end
/-! at most n deep, no dict, its texts of plain signs -/
mutual
def plD : Nat → PyData → Bool
  | _, .none => true
  | _, .bool _ => true
  | _, .int _ => true
  | _, .str x => x.cps.all (fun c => Nat.ble c 127)
  | n + 1, .list xs => plDs n xs
  | n + 1, .tuple xs => plDs n xs
  | _, _ => false
def plDs : Nat → List PyData → Bool
  | _, [] => true
  | n, x :: xs => match plD n x with
    | true => plDs n xs
    | false => false
end
mutual
theorem plD_of : ∀ (n : Nat) (d : PyData), plD n d = true → d.canLay0 = true ∧ d.depth ≤ n
  | n, .none, _ => ⟨rfl, Nat.zero_le _⟩
  | n, .bool b, _ => ⟨rfl, Nat.zero_le _⟩
  | n, .int i, _ => ⟨rfl, Nat.zero_le _⟩
  | n, .str x, h => by
    have h : x.cps.all (fun c => Nat.ble c 127) = true := by unfold plD at h; exact h
    refine ⟨?_, Nat.zero_le _⟩
    show x.cps.all (· < 0x110000) = true
    rw [Array.all_eq_true] at h ⊢
    intro i hi
    have := Nat.le_of_ble_eq_true (h i hi)
    exact decide_eq_true (by omega)
  | n + 1, .list xs, h => by
    have s := plDs_of n xs (by unfold plD at h; exact h)
    exact ⟨s.1, Nat.succ_le_succ s.2⟩
  | n + 1, .tuple xs, h => by
    have s := plDs_of n xs (by unfold plD at h; exact h)
    exact ⟨s.1, Nat.succ_le_succ s.2⟩
  | 0, .list _, h => by unfold plD at h; cases h
  | 0, .tuple _, h => by unfold plD at h; cases h
  | n, .dict _, h => by cases n <;> · unfold plD at h; cases h
theorem plDs_of : ∀ (n : Nat) (ds : List PyData), plDs n ds = true → PyData.canLayAll0 ds = true ∧ PyData.depthAll ds ≤ n
  | n, [], _ => ⟨rfl, Nat.zero_le _⟩
  | n, x :: xs, h => by
    unfold plDs at h
    cases e : plD n x with
    | false => rw [e] at h; cases h
    | true =>
      rw [e] at h
      have h1 := plD_of n x e
      have h2 := plDs_of n xs h
      refine ⟨?_, ?_⟩
      · unfold PyData.canLayAll0
        rw [h1.1, h2.1]
        rfl
      · unfold PyData.depthAll
        exact Nat.max_le.mpr ⟨h1.2, h2.2⟩
end
theorem shaped_of {d : PyData} (h : plD 40 d = true) : SeqAt.shaped d = true := by
  obtain ⟨h1, h2⟩ := plD_of 40 d h
  unfold SeqAt.shaped
  rw [h1, decide_eq_true (show d.depth ≤ 64 by omega)]
  rfl
def gEqF (f : Bool → Bool) : G2 := fun a b k => match eqQ a b with
  | some r => k (.bool (f r))
  | none => match plD 40 a with
    | true => (match plD 40 b with
      | true => k (.bool (f (fEq a b)))
      | false => false)
    | false => false
theorem gEqF_ok {f : Bool → Bool} {a b : PyData} {k : KF} (h : gEqF f a b k = true) : SeqAt.shaped a = true ∧ SeqAt.shaped b = true ∧ k (.bool (f (PyData.eqv a b))) = true := by
  unfold gEqF at h
  cases e : eqQ a b with
  | some r =>
    rw [e] at h
    obtain ⟨h1, h2, h3⟩ := eqQ_ok e
    exact ⟨h1, h2, by rw [h3]; exact h⟩
  | none =>
    rw [e] at h
    cases e1 : plD 40 a with
    | false => simp only [e1] at h; cases h
    | true =>
      cases e2 : plD 40 b with
      | false => simp only [e1, e2] at h; cases h
      | true =>
        simp only [e1, e2] at h
        rw [← fEq_eqv]
        exact ⟨shaped_of e1, shaped_of e2, h⟩
/-- == by its data -/
theorem gEqF_pl {f : Bool → Bool} {a b : PyData} {k : KF} (h1 : plD 40 a = true) (h2 : plD 40 b = true) : gEqF f a b k = k (.bool (f (fEq a b))) := by
  unfold gEqF
  cases e : eqQ a b with
  | some r =>
    obtain ⟨_, _, h3⟩ := eqQ_ok e
    rw [fEq_eqv, h3]
  | none => simp only [h1, h2]
def gEq : G2 := gEqF id
def gNe : G2 := gEqF not
theorem dp_h {F H : Hp} {x : V} {a : PyData} (B : Same F H) (r : Rp K F x a) (c : SeqAt.shaped a = true) : Dp K H x a := (r.mono B).dp (by unfold SeqAt.shaped at c; exact (Bool.and_eq_true_iff.mp c).1)
theorem ok_eq : OkR K W (rEqD K) gEq := fun F H x y a b k Q B ra rb h q => by
  obtain ⟨e1, e2, h⟩ := gEqF_ok h
  exact ⟨a, b, dp_h B.fh ra e1, dp_h B.fh rb e2, e1, e2, q _ _ F H (Stp.refl B) (.bl _) h⟩
theorem ok_ne : OkR K W (rNeD K) gNe := fun F H x y a b k Q B ra rb h q => by
  obtain ⟨e1, e2, h⟩ := gEqF_ok h
  exact ⟨a, b, dp_h B.fh ra e1, dp_h B.fh rb e2, e1, e2, q _ _ F H (Stp.refl B) (.bl _) h⟩
def rIss : R2 := rOr (fun x y H Q => y = .non ∧ Q (.bl (decide (x = .non))) H) rIsB
def rNots : R2 := rOr (fun x y H Q => y = .non ∧ Q (.bl (!decide (x = .non))) H) rNotB
theorem op_iss : OpR X (compareOp .Is) rIss := rOr_op op_isN op_isBl
theorem op_nots : OpR X (compareOp .IsNot) rNots := rOr_op op_notN op_notBl
def isNon : PyData → Bool
  | .none => true
  | _ => false
def gIs : G2 := fun a b k => match b with
  | .none => k (.bool (isNon a))
  | .bool c => (match a with
    | .bool d => k (.bool (d == c))
    | _ => false)
  | _ => false
def gIsNot : G2 := fun a b k => match b with
  | .none => k (.bool (!isNon a))
  | .bool c => (match a with
    | .bool d => k (.bool (!(d == c)))
    | _ => false)
  | _ => false
theorem isNon_v {F : Hp} {x : V} {a : PyData} (r : Rp K F x a) : decide (x = .non) = isNon a := by
  cases r <;> rfl
theorem ok_is : OkR K W rIss gIs := fun F H x y a b k Q B ra rb h q => by
  cases b with
  | none => cases rb; exact .inl ⟨rfl, q _ _ F H (Stp.refl B) (by rw [isNon_v ra]; exact .bl _) h⟩
  | bool c =>
    cases a with
    | bool d =>
      cases ra
      cases rb
      refine .inr ⟨d, c, rfl, rfl, q _ _ F H (Stp.refl B) ?_ h⟩
      rw [show decide (d = c) = (d == c) by cases d <;> cases c <;> rfl]
      exact .bl _
    | _ => cases h
  | _ => cases h
theorem ok_isNot : OkR K W rNots gIsNot := fun F H x y a b k Q B ra rb h q => by
  cases b with
  | none => cases rb; exact .inl ⟨rfl, q _ _ F H (Stp.refl B) (by rw [isNon_v ra]; exact .bl _) h⟩
  | bool c =>
    cases a with
    | bool d =>
      cases ra
      cases rb
      refine .inr ⟨d, c, rfl, rfl, q _ _ F H (Stp.refl B) ?_ h⟩
      rw [show decide (d = c) = (d == c) by cases d <;> cases c <;> rfl]
      exact .bl _
    | _ => cases h
  | _ => cases h
/-! subscripts -/
def gIx : G2 := fun a b k => match b with
  | .int i => (match a with
    | .list xs => (match atI xs i with
      | some d => k d
      | none => false)
    | .tuple xs => (match atI xs i with
      | some d => k d
      | none => false)
    | _ => false)
  | _ => false
theorem rp_atI {F : Hp} {vs : List V} {ds : List PyData} {i : Int} {d : PyData} (r : RpAll K F vs ds) (h : atI ds i = some d) : ∃ v, atI vs i = some v ∧ Rp K F v d := by
  unfold atI at h ⊢
  rw [r.length]
  cases e : ixN ds.length i with
  | none => rw [e] at h; cases h
  | some j =>
    rw [e] at h
    obtain ⟨v, h1, h2⟩ := r.at (show ds[j]? = some d from h)
    exact ⟨v, h1, h2⟩
def rIxA (K : PySem.W.Frag) : R2 := fun x y H Q => rIxL K x y H Q ∨ rIxT K x y H Q
theorem ix_seqA : IxR X (rIxA X.K) := ix_list.or ix_tup
theorem ok_ix : OkR K W (rIxA K) gIx := fun F H x y a b k Q B ra rb h q => by
  cases b with
  | int i =>
    cases rb
    cases a with
    | list xs =>
      cases e : atI xs i with
      | none => simp only [gIx, e] at h; cases h
      | some d =>
        simp only [gIx, e] at h
        cases ra with
        | @lst pa vl _ ha ra =>
          obtain ⟨v, h1, h2⟩ := rp_atI ra e
          exact .inl ⟨_, _, i, v, rfl, rfl, .inl (.inl (B.keep ha)), h1, q d v F H (Stp.refl B) h2 h⟩
    | tuple xs =>
      cases e : atI xs i with
      | none => simp only [gIx, e] at h; cases h
      | some d =>
        simp only [gIx, e] at h
        cases x with
        | ref p =>
          obtain ⟨vs, hs, rr⟩ := sqT_of B.fh ra
          obtain ⟨v, h1, h2⟩ := rp_atI rr e
          exact .inr ⟨_, _, i, v, rfl, rfl, hs, h1, q d v F H (Stp.refl B) h2 h⟩
        | _ => cases ra
    | _ => cases h
  | _ => cases h
theorem se_ix {ea eb : Expr} {da db : DE} {pos : Pos} (a : SE W X ea da) (b : SE W X eb db) (hs : PlainIx eb := by exact fun _ _ => rfl) : SE W X (.Subscript ea eb pos) (dOp gIx da db) := by
  obtain ⟨t1, p1, o1⟩ := a
  obtain ⟨t2, p2, o2⟩ := b
  exact ⟨_, pe_ix ix_seqA p1 p2 hs, okE_op o1 o2 ok_ix⟩
/-! slices -/
abbrev DO := Sls → (Option Int → Bool) → Bool
def OkO (K : PySem.W.Frag) (W : Wd) (t : TO) (e : DO) : Prop := ∀ (env : Sls) (σ : L2.St) (F H : Hp) (k : Option Int → Bool) (Q : Option Int → Hp → Prop), Rel K W env σ F H → e env k = true → (∀ o F' H', Stp W.pp F H F' H' → k o = true → Q o H') → t σ H Q
structure SO (W : Wd) (X : Cx) (e : Option Expr) (d : DO) : Prop where
  ex : ∃ t, PO X e t ∧ OkO X.K W t d
def oNone : DO := fun _ k => k none
def oSome (a : DE) : DO := fun env k => a env fun x => match x with
  | .int i => k (some i)
  | _ => false
theorem so_none : SO W X none oNone := ⟨_, po_none, fun env σ F H k Q R h q => q none F H (Stp.refl R.bs) h⟩
theorem so_some {ea : Expr} {da : DE} (a : SE W X ea da) : SO W X (some ea) (oSome da) := by
  obtain ⟨t, p, o⟩ := a
  refine ⟨_, po_some p, fun env σ F H k Q R h q => o env σ F H _ _ R h fun d v F1 H1 s1 r1 h1 => ?_⟩
  cases d with
  | int i => cases r1; exact ⟨i, rfl, q _ F1 H1 s1 h1⟩
  | _ => cases h1
def cutD (xs : List PyData) (lo hi : Option Int) : List PyData := (xs.drop (HT.sIx xs.length 0 lo)).take (HT.sIx xs.length xs.length hi - HT.sIx xs.length 0 lo)
theorem rp_cut {F : Hp} {vs : List V} {ds : List PyData} (r : RpAll K F vs ds) (lo hi : Option Int) : RpAll K F (cutV vs lo hi) (cutD ds lo hi) := by
  unfold cutV cutD
  rw [r.length]
  exact (r.drop _).take _
theorem cutV_whole {vs : List V} {lo hi : Option Int} (h : HT.sIx vs.length 0 lo = 0 ∧ HT.sIx vs.length vs.length hi = vs.length) : cutV vs lo hi = vs := by
  unfold cutV
  rw [h.1, h.2, List.drop_zero, Nat.sub_zero, List.take_length]
def gCut (lo hi : Option Int) : G1 := fun a k => match a with
  | .list xs => k (.list (cutD xs lo hi))
  | .tuple xs => k (.tuple (cutD xs lo hi))
  | _ => false
def dSl (a : DE) (lo hi : DO) : DE := fun env k => a env fun x => lo env fun l => hi env fun u => gCut l u x k
def rSlAll (K : PySem.W.Frag) : V → Option Int → Option Int → Hp → VK → Prop := fun x lo hi H Q => rSlL K x lo hi H Q ∨ rSlA K x lo hi H Q
theorem sl_all : SlR X (rSlAll X.K) := sl_list.or sl_tupA
theorem se_sl {ea : Expr} {lo hi : Option Expr} {da : DE} {dl dh : DO} {p2 pos : Pos} (a : SE W X ea da) (l : SO W X lo dl) (u : SO W X hi dh) : SE W X (.Subscript ea (.Slice lo hi none p2) pos) (dSl da dl dh) := by
  obtain ⟨t1, p1, o1⟩ := a
  obtain ⟨t2, p2, o2⟩ := l
  obtain ⟨t3, p3, o3⟩ := u
  refine ⟨_, pe_slice sl_all p1 p2 p3, fun env σ F H k Q R h q => ?_⟩
  refine o1 env σ F H _ _ R h fun d v F1 H1 s1 r1 h1 => ?_
  refine o2 env σ F1 H1 _ _ (R.step s1) h1 fun l F2 H2 s2 h2 => ?_
  refine o3 env σ F2 H2 _ _ ((R.step s1).step s2) h2 fun u F3 H3 s3 h3 => ?_
  have B := (((R.step s1).step s2).step s3).bs
  have S := (s1.trans s2).trans s3
  have rr := r1.mono (s2.ff.trans s3.ff)
  cases d with
  | list xs =>
    cases rr with
    | @lst pa vl _ ha ra =>
      refine .inl ⟨_, _, rfl, .inl (.inl (B.keep ha)), fun p np => ?_⟩
      have st := Stp.new (o := .lst (cutV vl l u)) B np
      exact q _ _ _ _ (S.trans st) (.lst upd_same ((rp_cut ra l u).mono st.ff)) h3
  | tuple xs =>
    cases v with
    | ref p =>
      obtain ⟨vs, hs, ra⟩ := sqT_of B.fh rr
      refine .inr ⟨_, _, rfl, hs, fun z => ?_, fun _ p np => ?_⟩
      · have e1 := cutV_whole z
        have e2 : cutD xs l u = xs := by
          have z2 := z
          rw [ra.length] at z2
          unfold cutD
          rw [z2.1, z2.2, List.drop_zero, Nat.sub_zero, List.take_length]
        have h4 : k (.tuple (cutD xs l u)) = true := h3
        rw [e2] at h4
        exact q _ _ F3 H3 S rr h4
      · have st := Stp.new (o := .tup (cutV vs l u)) B np
        exact q _ _ _ _ (S.trans st) (.tup upd_same ((rp_cut ra l u).mono st.ff)) h3
    | _ => cases rr
  | _ => cases h3
/-- xs[::-1] of a list -/
def gRev : G1 := fun a k => match a with
  | .list xs => k (.list xs.reverse)
  | _ => false
theorem se_rev {ea : Expr} {da : DE} {k : Nat} {p1 p2 p3 pos : Pos} (a : SE W X ea da) : SE W X (.Subscript ea (.Slice none none (some (.UnaryOp .USub (.Constant (.int 1) k p1) p2)) p3) pos) (dUn gRev da) := by
  obtain ⟨t1, p1, o1⟩ := a
  refine ⟨_, pe_revL p1, fun env σ F H k Q R h q => ?_⟩
  refine o1 env σ F H _ _ R h fun d v F1 H1 s1 r1 h1 => ?_
  cases d with
  | list xs =>
    cases r1 with
    | @lst pa vl _ ha ra =>
      have B := (R.step s1).bs
      refine ⟨_, _, rfl, .inl (.inl (B.keep ha)), fun p np => ?_⟩
      have st := Stp.new (o := .lst vl.reverse) B np
      exact q _ _ _ _ (s1.trans st) (.lst upd_same (ra.reverse.mono st.ff)) h1
  | _ => cases h1
/-! built-ins -/
def gLen : GC := fun ds k => match ds with
  | [.list xs] => k (.int xs.length)
  | [.tuple xs] => k (.int xs.length)
  | _ => false
theorem ok_len : OkC K W (fun xs H Q => ∃ p ys, xs = [.ref p] ∧ (SqL K H p ys ∨ SqT K H p ys) ∧ Q (.int ys.length) H) gLen := fun F H vs ds k Q B r h q => by
  cases r with
  | nil => cases h
  | @cons v vs d ds r1 r =>
    cases r with
    | cons _ _ => cases d <;> cases h
    | nil =>
      cases d with
      | list xs =>
        cases r1 with
        | @lst pa vl _ ha ra => exact ⟨_, _, rfl, .inl (.inl (.inl (B.keep ha))), by rw [ra.length]; exact q _ _ F H (Stp.refl B) (.int _) h⟩
      | tuple xs =>
        cases v with
        | ref p =>
          obtain ⟨vs, hs, ra⟩ := sqT_of B.fh r1
          exact ⟨_, _, rfl, .inr hs, by rw [ra.length]; exact q _ _ F H (Stp.refl B) (.int _) h⟩
        | _ => cases r1
      | _ => cases h
def gAbs : GC := fun ds k => match ds with
  | [.int i] => k (.int (if i < 0 then -i else i))
  | _ => false
theorem ok_abs : OkC K W (fun xs H Q => ∃ i, xs = [.int i] ∧ Q (.int (if i < 0 then -i else i)) H) gAbs := fun F H vs ds k Q B r h q => by
  cases r with
  | nil => cases h
  | @cons v vs d ds r1 r =>
    cases r with
    | cons _ _ => cases d <;> cases h
    | nil =>
      cases d with
      | int i => cases r1; exact ⟨i, rfl, q _ _ F H (Stp.refl B) (.int _) h⟩
      | _ => cases h
def gInt : GC := fun ds k => match ds with
  | [.int i] => k (.int i)
  | [.bool b] => k (.int (if b then 1 else 0))
  | _ => false
theorem ok_int : OkC K W (fun xs H Q => (∃ i, xs = [.int i] ∧ Q (.int i) H) ∨ ∃ k, xs = [.bl k] ∧ Q (.int (if k then 1 else 0)) H) gInt := fun F H vs ds k Q B r h q => by
  cases r with
  | nil => cases h
  | @cons v vs d ds r1 r =>
    cases r with
    | cons _ _ => cases d <;> cases h
    | nil =>
      cases d with
      | int i => cases r1; exact .inl ⟨i, rfl, q _ _ F H (Stp.refl B) (.int _) h⟩
      | bool i => cases r1; exact .inr ⟨i, rfl, q _ _ F H (Stp.refl B) (.int _) h⟩
      | _ => cases h
def gList : GC := fun ds k => match ds with
  | [.list xs] => k (.list xs)
  | [.tuple xs] => k (.list xs)
  | _ => false
theorem ok_list : OkC K W (fun xs H Q => ∃ p ys, xs = [.ref p] ∧ (SqL K H p ys ∨ SqT K H p ys) ∧ ∀ l, H l = none → Q (.ref l) (upd H l (.lst ys))) gList := fun F H vs ds k Q B r h q => by
  cases r with
  | nil => cases h
  | @cons v vs d ds r1 r =>
    cases r with
    | cons _ _ => cases d <;> cases h
    | nil =>
      cases d with
      | list xs =>
        cases r1 with
        | @lst pa vl _ ha ra =>
          refine ⟨_, _, rfl, .inl (.inl (.inl (B.keep ha))), fun p np => ?_⟩
          have st := Stp.new (o := .lst vl) B np
          exact q _ _ _ _ st (.lst upd_same (ra.mono st.ff)) h
      | tuple xs =>
        cases v with
        | ref p =>
          obtain ⟨vs, hs, ra⟩ := sqT_of B.fh r1
          refine ⟨_, _, rfl, .inr hs, fun p np => ?_⟩
          have st := Stp.new (o := .lst vs) B np
          exact q _ _ _ _ st (.lst upd_same (ra.mono st.ff)) h
        | _ => cases r1
      | _ => cases h
def gTuple : GC := fun ds k => match ds with
  | [.list xs] => k (.tuple xs)
  | [.tuple xs] => k (.tuple xs)
  | _ => false
theorem ok_tuple : OkC K W (fun xs H Q => ∃ p ys, xs = [.ref p] ∧ ((SqL K H p ys ∧ ∀ l, H l = none → Q (.ref l) (upd H l (.tup ys))) ∨ (SqT K H p ys ∧ Q (.ref p) H))) gTuple := fun F H vs ds k Q B r h q => by
  cases r with
  | nil => cases h
  | @cons v vs d ds r1 r =>
    cases r with
    | cons _ _ => cases d <;> cases h
    | nil =>
      cases d with
      | list xs =>
        cases r1 with
        | @lst pa vl _ ha ra =>
          refine ⟨_, _, rfl, .inl ⟨.inl (.inl (B.keep ha)), fun p np => ?_⟩⟩
          have st := Stp.new (o := .tup vl) B np
          exact q _ _ _ _ st (.tup upd_same (ra.mono st.ff)) h
      | tuple xs =>
        cases v with
        | ref p =>
          obtain ⟨vs, hs, ra⟩ := sqT_of B.fh r1
          exact ⟨_, _, rfl, .inr ⟨hs, q _ _ F H (Stp.refl B) r1 h⟩⟩
        | _ => cases r1
      | _ => cases h
def intsOf : List PyData → Option (List Int)
  | [] => some []
  | .int i :: r => (match intsOf r with
    | some l => some (i :: l)
    | none => none)
  | _ => none
theorem intsOf_ok : ∀ {ds : List PyData} {ns : List Int}, intsOf ds = some ns → ds = ns.map PyData.int
  | [], ns, h => by cases h; rfl
  | d :: r, ns, h => by
    cases d with
    | int i =>
      unfold intsOf at h
      cases e : intsOf r with
      | none => rw [e] at h; cases h
      | some l =>
        rw [e] at h
        cases h
        rw [List.map_cons, ← intsOf_ok e]
    | _ => cases h
def boolsOf : List PyData → Option (List Bool)
  | [] => some []
  | .bool i :: r => (match boolsOf r with
    | some l => some (i :: l)
    | none => none)
  | _ => none
theorem boolsOf_ok : ∀ {ds : List PyData} {ns : List Bool}, boolsOf ds = some ns → ds = ns.map PyData.bool
  | [], ns, h => by cases h; rfl
  | d :: r, ns, h => by
    cases d with
    | bool i =>
      unfold boolsOf at h
      cases e : boolsOf r with
      | none => rw [e] at h; cases h
      | some l =>
        rw [e] at h
        cases h
        rw [List.map_cons, ← boolsOf_ok e]
    | _ => cases h
def gInts (f : List Int → KF → Bool) : GC := fun ds k => match ds with
  | [.list xs] => (match intsOf xs with
    | some ns => f ns k
    | none => false)
  | _ => false
theorem gInts_ok {f : List Int → KF → Bool} {F : Hp} {vs : List V} {ds : List PyData} {k : KF} (r : RpAll K F vs ds) (h : gInts f ds k = true) : ∃ a ns, vs = [.ref a] ∧ F a = some (.lst (ns.map V.int)) ∧ f ns k = true := by
  cases r with
  | nil => cases h
  | @cons v vs d ds r1 r =>
    cases r with
    | cons _ _ => cases d <;> cases h
    | nil =>
      cases d with
      | list xs =>
        cases e : intsOf xs with
        | none => simp only [gInts, e] at h; cases h
        | some ns =>
          simp only [gInts, e] at h
          cases r1 with
          | @lst pa vl _ ha ra =>
            rw [intsOf_ok e] at ra
            rw [ra.ints] at ha
            exact ⟨_, ns, rfl, ha, h⟩
      | _ => cases h
def gSum : GC := gInts fun ns k => k (.int ns.sum)
theorem ok_sum : OkC K W (rSum K) gSum := fun F H vs ds k Q B r h q => by
  obtain ⟨a, ns, rfl, ha, h⟩ := gInts_ok r h
  exact ⟨a, ns, rfl, .inl (.inl (B.keep ha)), q _ _ F H (Stp.refl B) (.int _) h⟩
def maxI : List Int → Int
  | [] => 0
  | [x] => x
  | x :: y :: r => (match decide (maxI (y :: r) ≤ x) with
    | true => x
    | false => maxI (y :: r))
def minI : List Int → Int
  | [] => 0
  | [x] => x
  | x :: y :: r => (match decide (x ≤ minI (y :: r)) with
    | true => x
    | false => minI (y :: r))
theorem maxI_ge : ∀ (ns : List Int) (y : Int), y ∈ ns → y ≤ maxI ns
  | [], y, h => by cases h
  | [x], y, h => by rw [List.mem_singleton.mp h]; exact Int.le_refl _
  | x :: z :: r, y, h => by
    have ih := maxI_ge (z :: r)
    unfold maxI
    by_cases e : maxI (z :: r) ≤ x
    · rw [decide_eq_true e]
      rcases List.mem_cons.mp h with h | h
      · rw [h]; exact Int.le_refl _
      · exact Int.le_trans (ih y h) e
    · rw [decide_eq_false e]
      rcases List.mem_cons.mp h with h | h
      · rw [h]; show x ≤ maxI (z :: r); omega
      · exact ih y h
theorem maxI_mem : ∀ (ns : List Int), ns ≠ [] → maxI ns ∈ ns
  | [], h => absurd rfl h
  | [x], _ => List.mem_singleton.mpr rfl
  | x :: z :: r, _ => by
    have ih := maxI_mem (z :: r) (List.cons_ne_nil _ _)
    unfold maxI
    by_cases e : maxI (z :: r) ≤ x
    · rw [decide_eq_true e]; exact List.mem_cons_self
    · rw [decide_eq_false e]; exact List.mem_cons_of_mem _ ih
theorem minI_le : ∀ (ns : List Int) (y : Int), y ∈ ns → minI ns ≤ y
  | [], y, h => by cases h
  | [x], y, h => by rw [List.mem_singleton.mp h]; exact Int.le_refl _
  | x :: z :: r, y, h => by
    have ih := minI_le (z :: r)
    unfold minI
    by_cases e : x ≤ minI (z :: r)
    · rw [decide_eq_true e]
      rcases List.mem_cons.mp h with h | h
      · rw [h]; exact Int.le_refl _
      · exact Int.le_trans e (ih y h)
    · rw [decide_eq_false e]
      rcases List.mem_cons.mp h with h | h
      · rw [h]; show minI (z :: r) ≤ x; omega
      · exact ih y h
theorem minI_mem : ∀ (ns : List Int), ns ≠ [] → minI ns ∈ ns
  | [], h => absurd rfl h
  | [x], _ => List.mem_singleton.mpr rfl
  | x :: z :: r, _ => by
    have ih := minI_mem (z :: r) (List.cons_ne_nil _ _)
    unfold minI
    by_cases e : x ≤ minI (z :: r)
    · rw [decide_eq_true e]; exact List.mem_cons_self
    · rw [decide_eq_false e]; exact List.mem_cons_of_mem _ ih
def gMax : GC := gInts fun ns k => match ns with
  | [] => false
  | x :: r => k (.int (maxI (x :: r)))
def gMin : GC := gInts fun ns k => match ns with
  | [] => false
  | x :: r => k (.int (minI (x :: r)))
theorem ok_max : OkC K W (rMax K) gMax := fun F H vs ds k Q B r h q => by
  obtain ⟨a, ns, rfl, ha, h⟩ := gInts_ok r h
  cases ns with
  | nil => cases h
  | cons x r =>
    refine ⟨a, x :: r, rfl, .inl (.inl (B.keep ha)), Nat.succ_pos _, fun m hm hx => ?_⟩
    have e : m = maxI (x :: r) := Int.le_antisymm (maxI_ge _ m hm) (hx _ (maxI_mem _ (List.cons_ne_nil _ _)))
    rw [e]
    exact q _ _ F H (Stp.refl B) (.int _) h
theorem ok_min : OkC K W (rMin K) gMin := fun F H vs ds k Q B r h q => by
  obtain ⟨a, ns, rfl, ha, h⟩ := gInts_ok r h
  cases ns with
  | nil => cases h
  | cons x r =>
    refine ⟨a, x :: r, rfl, .inl (.inl (B.keep ha)), Nat.succ_pos _, fun m hm hx => ?_⟩
    have e : m = minI (x :: r) := Int.le_antisymm (hx _ (minI_mem _ (List.cons_ne_nil _ _))) (minI_le _ m hm)
    rw [e]
    exact q _ _ F H (Stp.refl B) (.int _) h
def gBools (f : List Bool → Bool) : GC := fun ds k => match ds with
  | [.list xs] => (match boolsOf xs with
    | some ns => k (.bool (f ns))
    | none => false)
  | _ => false
theorem gBools_ok {f : List Bool → Bool} {F : Hp} {vs : List V} {ds : List PyData} {k : KF} (r : RpAll K F vs ds) (h : gBools f ds k = true) : ∃ a ns, vs = [.ref a] ∧ F a = some (.lst (ns.map V.bl)) ∧ k (.bool (f ns)) = true := by
  cases r with
  | nil => cases h
  | @cons v vs d ds r1 r =>
    cases r with
    | cons _ _ => cases d <;> cases h
    | nil =>
      cases d with
      | list xs =>
        cases e : boolsOf xs with
        | none => simp only [gBools, e] at h; cases h
        | some ns =>
          simp only [gBools, e] at h
          cases r1 with
          | @lst pa vl _ ha ra =>
            rw [boolsOf_ok e] at ra
            rw [ra.bools] at ha
            exact ⟨_, ns, rfl, ha, h⟩
      | _ => cases h
def gAll : GC := gBools fun bs => bs.all id
def gAny : GC := gBools fun bs => bs.any id
theorem ok_all : OkC K W (rAll K) gAll := fun F H vs ds k Q B r h q => by
  obtain ⟨a, ns, rfl, ha, h⟩ := gBools_ok r h
  exact ⟨a, ns, rfl, .inl (.inl (B.keep ha)), q _ _ F H (Stp.refl B) (.bl _) h⟩
theorem ok_any : OkC K W (rAny K) gAny := fun F H vs ds k Q B r h q => by
  obtain ⟨a, ns, rfl, ha, h⟩ := gBools_ok r h
  exact ⟨a, ns, rfl, .inl (.inl (B.keep ha)), q _ _ F H (Stp.refl B) (.bl _) h⟩
def gMin2 : GC := fun ds k => match ds with
  | [.int i, .int j] => k (.int (if j < i then j else i))
  | _ => false
def gMax2 : GC := fun ds k => match ds with
  | [.int i, .int j] => k (.int (if j > i then j else i))
  | _ => false
theorem two_ints {F : Hp} {vs : List V} {i j : Int} (r : RpAll K F vs [.int i, .int j]) : vs = [.int i, .int j] := RpAll.ints (ns := [i, j]) r
theorem ok_min2 : OkC K W (fun xs H Q => ∃ i j, xs = [.int i, .int j] ∧ Q (.int (if j < i then j else i)) H) gMin2 := fun F H vs ds k Q B r h q => by
  unfold gMin2 at h
  split at h
  · exact ⟨_, _, two_ints r, q _ _ F H (Stp.refl B) (.int _) h⟩
  · cases h
theorem ok_max2 : OkC K W (fun xs H Q => ∃ i j, xs = [.int i, .int j] ∧ Q (.int (if j > i then j else i)) H) gMax2 := fun F H vs ds k Q B r h q => by
  unfold gMax2 at h
  split at h
  · exact ⟨_, _, two_ints r, q _ _ F H (Stp.refl B) (.int _) h⟩
  · cases h
/-! isinstance -/
inductive Tc where
  | int | bool | str | list | tuple
def Tc.name : Tc → String
  | .int => "int" | .bool => "bool" | .str => "str" | .list => "list" | .tuple => "tuple"
def tyN : PyData → String
  | .none => "NoneType" | .bool _ => "bool" | .int _ => "int" | .str _ => "str" | .list _ => "list" | .tuple _ => "tuple" | .dict _ => "dict"
def Tc.has : Tc → PyData → Bool
  | .int, .int _ => true
  | .int, .bool _ => true
  | .bool, .bool _ => true
  | .str, .str _ => true
  | .list, .list _ => true
  | .tuple, .tuple _ => true
  | _, _ => false
def noDict : PyData → Bool
  | .dict (_ :: _) => false
  | _ => true
theorem kit_tab : ∀ c : Tc, kitB "NoneType" c.name = some false ∧ kitB "bool" c.name = some (c.has (.bool true)) ∧ kitB "int" c.name = some (c.has (.int 0)) ∧ kitB "str" c.name = some (c.has (.str Str.empty)) ∧ kitB "list" c.name = some (c.has (.list [])) ∧ kitB "tuple" c.name = some (c.has (.tuple [])) ∧ kitB "dict" c.name = some (c.has (.dict []))
  | .int => by decide +kernel
  | .bool => by decide +kernel
  | .str => by decide +kernel
  | .list => by decide +kernel
  | .tuple => by decide +kernel
theorem kit_has (c : Tc) (d : PyData) (h : noDict d = true) : PySem.W.kitOne K (.type (tyN d)) (.type c.name) = some (c.has d) := by
  obtain ⟨h1, h2, h3, h4, h5, h6, h7⟩ := kit_tab c
  cases d with
  | none => rw [show c.has .none = false by cases c <;> rfl]; exact kit_ty h1
  | bool b => rw [show c.has (.bool b) = c.has (.bool true) by cases c <;> rfl]; exact kit_ty h2
  | int b => rw [show c.has (.int b) = c.has (.int 0) by cases c <;> rfl]; exact kit_ty h3
  | str b => rw [show c.has (.str b) = c.has (.str Str.empty) by cases c <;> rfl]; exact kit_ty h4
  | list b => rw [show c.has (.list b) = c.has (.list []) by cases c <;> rfl]; exact kit_ty h5
  | tuple b => rw [show c.has (.tuple b) = c.has (.tuple []) by cases c <;> rfl]; exact kit_ty h6
  | dict b =>
    cases b with
    | nil => exact kit_ty h7
    | cons _ _ => cases h
theorem tyx_of {F H : Hp} (B : Same F H) {v : V} {d : PyData} (r : Rp K F v d) : TyX K H v (.type (tyN d)) ∧ noDict d = true := by
  cases r with
  | non => exact ⟨.base .non, rfl⟩
  | bl b => exact ⟨.base (.bl b), rfl⟩
  | int i => exact ⟨.base (.int i), rfl⟩
  | str x => exact ⟨.base (.str x), rfl⟩
  | lst h _ => exact ⟨.base (.lst (B _ _ h)), rfl⟩
  | tup h _ => exact ⟨.base (.tup (B _ _ h)), rfl⟩
  | ktup h _ =>
    obtain ⟨o, its, n, h1, h2, _⟩ := h
    exact ⟨.kTuple h1 h2, rfl⟩
  | dct0 h => exact ⟨.base (.dK (B _ _ h)), rfl⟩
def dIs (c : Tc) (a : DE) : DE := fun env k => a env fun x => k (.bool (c.has x))
theorem se_is {x : Str} {p p2 pos : Pos} {ea : Expr} {da : DE} (c : Tc) (hm : X.mg "isinstance" = none) (hmc : X.mg (Str.ofString c.name) = none) (a : SE W X ea da) (hg : Gl X "isinstance" := by rfl) (hgc : Gl X x := by rfl) (hx : x = Str.ofString c.name := by rfl)
    (hn : x ≠ "__name__" := by decide) (hdb : (x == ("__debug__" : Str)) = false := by decide) (hb : bootBuiltins x = some (.type c.name) := by decide +kernel)
    (he : starEach [ea, .Name x p2] X.env = (false, eval ea X.env) :: starEach [.Name x p2] X.env := by rfl) (hs : starEach [.Name x p2] X.env = (false, eval (.Name x p2) X.env) :: starEach [] X.env := by rfl) (hpl : (backTo pos (starEach [.Name x p2] X.env)).any (·.1) = false := by rfl) :
    SE W X (.Call (.Name "isinstance" p) [ea, .Name x p2] [] pos) (dIs c da) := by
  obtain ⟨t, q, o⟩ := a
  subst hx
  refine ⟨_, pe_callB call_isi hg hm (by decide +kernel) (pa_cons q (pa_cons (pe_bltn (v := .ty c.name) hgc hmc hb rfl hn hdb) pa_nil hs) he) (by decide) (by decide) he hpl, fun env σ F H k Q R h q => ?_⟩
  refine o env σ F H _ _ R h fun d v F1 H1 s1 r1 h1 => ?_
  obtain ⟨ty, nd⟩ := tyx_of s1.fh r1
  exact ⟨v, .ty c.name, .type (tyN d), .type c.name, c.has d, rfl, .ty _, ty, kit_has c d nd, q _ _ F1 H1 s1 (.bl _) h1⟩
/-- isinstance(x, (list, tuple)) -/
def dIsLT (a : DE) : DE := fun env k => a env fun x => k (.bool (Tc.list.has x || Tc.tuple.has x))
theorem se_isLT {p p2 p3 p4 pos : Pos} {k0 : Nat} {ea : Expr} {da : DE} (hm : X.mg "isinstance" = none) (hml : X.mg "list" = none) (hmt : X.mg "tuple" = none) (a : SE W X ea da) (hg : Gl X "isinstance" := by rfl) (hgl : Gl X "list" := by rfl) (hgt : Gl X "tuple" := by rfl)
    (he : starEach [ea, .Tuple [.Name "list" p2, .Name "tuple" p3] k0 p4] X.env = (false, eval ea X.env) :: starEach [.Tuple [.Name "list" p2, .Name "tuple" p3] k0 p4] X.env := by rfl) (hpl : (backTo pos (starEach [.Tuple [.Name "list" p2, .Name "tuple" p3] k0 p4] X.env)).any (·.1) = false := by rfl) :
    SE W X (.Call (.Name "isinstance" p) [ea, .Tuple [.Name "list" p2, .Name "tuple" p3] k0 p4] [] pos) (dIsLT da) := by
  obtain ⟨t, q, o⟩ := a
  refine ⟨_, pe_callB call_isiT hg hm (by decide +kernel) (pa_cons q (pa_cons (pe_tup (pa_cons (pe_bltn (v := .ty "list") hgl hml (by decide +kernel) rfl) (pa_cons (pe_bltn (v := .ty "tuple") hgt hmt (by decide +kernel) rfl) pa_nil))) pa_nil) he) (by decide) (by decide) he hpl, fun env σ F H k Q R h q => ?_⟩
  refine o env σ F H _ _ R h fun d v F1 H1 s1 r1 h1 => ⟨by show 2 ≤ sizeLine; decide, fun tp np => ?_⟩
  have B := (R.step s1).bs
  have st := Stp.new (o := .tup [.ty "list", .ty "tuple"]) B np
  obtain ⟨ty, nd⟩ := tyx_of st.fh (r1.mono st.ff)
  refine ⟨v, tp, [.ty "list", .ty "tuple"], .type (tyN d), [.type "list", .type "tuple"], Tc.list.has d || Tc.tuple.has d, rfl, upd_same, .cons (.ty _) (.cons (.ty _) .nil), ty, ?_, q _ _ _ _ (s1.trans st) (.bl _) h1⟩
  have e1 := kit_has (K := X.K) .list d nd
  have e2 := kit_has (K := X.K) .tuple d nd
  unfold PySem.W.kitAny
  rw [show Value.type "list" = Value.type Tc.list.name from rfl, e1]
  cases Tc.list.has d with
  | true => rfl
  | false =>
    unfold PySem.W.kitAny
    rw [show Value.type "tuple" = Value.type Tc.tuple.name from rfl]
    simp only [e2]
    cases Tc.tuple.has d <;> rfl
end
end Dl

namespace Dl
open PySem PySem.Spec PyProof.Rows L2

/-! ### readings by their data -/
def can (K : PySem.W.Frag) (W : Wd) (de : DE) : TE := fun σ H Q => ∃ (env : Sls) (F : Hp) (k : KF), Rel K W env σ F H ∧ de env k = true ∧ ∀ d v F' H', Stp W.pp F H F' H' → Rp K F' v d → k d = true → Q v H'
def canT (K : PySem.W.Frag) (W : Wd) (de : DT) : TT := fun σ H Q => ∃ (env : Sls) (F : Hp) (k : Bool → Bool), Rel K W env σ F H ∧ de env k = true ∧ ∀ b F' H', Stp W.pp F H F' H' → k b = true → Q b H'
section
variable {W : Wd} {X : Cx} {K : PySem.W.Frag} {e : Expr} {de : DE} {dt : DT}
theorem SE.can (h : SE W X e de) : PE X e (can X.K W de) := by
  obtain ⟨t, p, o⟩ := h
  exact ⟨fun pins s σ H Q I ⟨env, F, k, R, h, q⟩ => p.run pins s σ H Q I (o env σ F H k Q R h q)⟩
theorem ST.can (h : ST W X e dt) : PT X e (canT X.K W dt) := by
  obtain ⟨t, p, o⟩ := h
  exact ⟨fun pins s σ H Q I ⟨env, F, k, R, h, q⟩ => p.run pins s σ H Q I (o env σ F H k Q R h q)⟩
theorem okE_can : OkE K W (Dl.can K W de) de := fun env σ F H k Q R h q => ⟨env, F, k, R, h, q⟩
theorem okT_can : OkT K W (canT K W dt) dt := fun env σ F H k Q R h q => ⟨env, F, k, R, h, q⟩
end

/-! ### targets -/
abbrev DG := PyData → Sls → (Sls → Bool) → Bool
abbrev DGs := List PyData → Sls → (Sls → Bool) → Bool
def OkG (K : PySem.W.Frag) (W : Wd) (t : TG) (g : DG) (sl : List Nat) : Prop := ∀ (env : Sls) (σ : L2.St) (F H : Hp) (v : V) (d : PyData) (k : Sls → Bool) (Q : L2.St → Hp → Prop), Rel K W env σ F H → Rp K F v d → g d env k = true →
  (∀ env' σ', Rel K W env' σ' F H → (∀ j, j ∉ sl → σ'[j]? = σ[j]?) → σ'.length = σ.length → k env' = true → Q σ' H) → t v σ H Q
def OkGs (K : PySem.W.Frag) (W : Wd) (t : TGs) (g : DGs) (sl : List Nat) : Prop := ∀ (env : Sls) (σ : L2.St) (F H : Hp) (vs : List V) (ds : List PyData) (k : Sls → Bool) (Q : L2.St → Hp → Prop), Rel K W env σ F H → RpAll K F vs ds → g ds env k = true →
  (∀ env' σ', Rel K W env' σ' F H → (∀ j, j ∉ sl → σ'[j]? = σ[j]?) → σ'.length = σ.length → k env' = true → Q σ' H) → t vs σ H Q
structure SG (W : Wd) (X : Cx) (e : Expr) (g : DG) (sl : List Nat) : Prop where
  ex : ∃ t, PG X e t ∧ OkG X.K W t g sl
structure SGs (W : Wd) (X : Cx) (es : List Expr) (g : DGs) (sl : List Nat) : Prop where
  ex : ∃ t, PGs X es t ∧ OkGs X.K W t g sl
def canG (K : PySem.W.Frag) (W : Wd) (g : DG) (sl : List Nat) : TG := fun v σ H Q => ∃ (env : Sls) (F : Hp) (d : PyData) (k : Sls → Bool), Rel K W env σ F H ∧ Rp K F v d ∧ g d env k = true ∧ ∀ env' σ', Rel K W env' σ' F H → (∀ j, j ∉ sl → σ'[j]? = σ[j]?) → σ'.length = σ.length → k env' = true → Q σ' H
def gN (i : Nat) : DG := fun d env k => k (env.set i (.fz d))
def gsNil : DGs := fun ds env k => match ds with
  | [] => k env
  | _ => false
def gsCons (g : DG) (r : DGs) : DGs := fun ds env k => match ds with
  | d :: ds => g d env fun env' => r ds env' k
  | [] => false
def gT (n : Nat) (r : DGs) : DG := fun d env k => match d with
  | .tuple ds => (match Nat.beq ds.length n with
    | true => r ds env k
    | false => false)
  | _ => false
section
variable {W : Wd} {X : Cx} {K : PySem.W.Frag} {e : Expr} {es : List Expr} {g : DG} {r : DGs} {s1 s2 : List Nat} {pos : Pos}
theorem SG.can (h : SG W X e g s1) : PG X e (canG X.K W g s1) := by
  obtain ⟨t, p, o⟩ := h
  exact ⟨fun pins s σ H v u Q I rv ⟨env, F, d, k, R, rp, h, q⟩ => p.run pins s σ H v u Q I rv (o env σ F H v d k Q R rp h q)⟩
theorem okG_can : OkG K W (canG K W g s1) g s1 := fun env σ F H v d k Q R rp h q => ⟨env, F, d, k, R, rp, h, q⟩
theorem sg_n {i : Nat} {x : Str} (hN : X.N.Nodup) (hi : X.N[i]? = some x := by rfl) (hx : Loc X.env.scope x := by first | exact Or.inl rfl | exact Or.inr rfl) (hf : X.fn x = true ∨ X.env.scope.names.lookup x = some .local := by first | exact .inl rfl | exact .inr rfl) :
    SG W X (.Name x pos) (gN i) [i] := ⟨_, pg_name hN hi hx hf, fun env σ F H v d k Q R rp h q => q _ _ (R.set rp i) (fun j hj => by rw [List.getElem?_set_ne (fun z => hj (by simp [z]))]) (List.length_set ..) h⟩
theorem sgs_nil : SGs W X [] gsNil [] := ⟨_, pgs_nil, fun env σ F H vs ds k Q R rp h q => by
  cases rp with
  | nil => exact ⟨rfl, q _ _ R (fun _ _ => rfl) rfl h⟩
  | cons _ _ => cases h⟩
theorem sgs_cons (h1 : SG W X e g s1) (h2 : SGs W X es r s2) (hs : (assignEach (e :: es) X.env).map (·.2) = assign e X.env :: (assignEach es X.env).map (·.2) := by rfl) : SGs W X (e :: es) (gsCons g r) (s1 ++ s2) := by
  obtain ⟨t1, p1, o1⟩ := h1
  obtain ⟨t2, p2, o2⟩ := h2
  refine ⟨_, pgs_cons p1 p2 hs, fun env σ F H vs ds k Q R rp h q => ?_⟩
  cases rp with
  | nil => cases h
  | cons ra rb =>
    refine ⟨_, _, rfl, o1 env σ F H _ _ _ _ R ra h fun env' σ' R' a1 l1 h' => ?_⟩
    exact o2 env' σ' F H _ _ k Q R' rb h' fun env2 σ2 R2 a2 l2 h2 => q env2 σ2 R2 (fun j hj => by
      rw [a2 j (fun z => hj (List.mem_append_right _ z)), a1 j (fun z => hj (List.mem_append_left _ z))]) (l2.trans l1) h2
theorem sg_t {k : Nat} {n : Nat} (hc : X.calm = true) (h : SGs W X es r s1) (hn : (assignEach es X.env).length = n := by rfl) (hst : (assignEach es X.env).findIdx? (·.1) = none := by rfl) : SG W X (.Tuple es k pos) (gT n r) s1 := by
  obtain ⟨t, p, o⟩ := h
  refine ⟨_, pg_tup hc p hn hst, fun env σ F H v d k Q R rp h q => ?_⟩
  cases d with
  | tuple ds =>
    cases v with
    | ref a =>
      obtain ⟨xs, hs, ra⟩ := sqT_of R.bs.fh rp
      cases e : Nat.beq ds.length n with
      | false => simp only [gT, e] at h; cases h
      | true =>
        simp only [gT, e] at h
        exact ⟨a, xs, rfl, hs, by rw [ra.length]; exact Nat.eq_of_beq_eq_true e, o env σ F H xs ds k Q R ra h q⟩
    | _ => cases rp
  | _ => cases h
end

/-! ### what is walked -/
abbrev DI := Sls → (List PyData → Bool) → Bool
def IsWalk (K : PySem.W.Frag) (W : Wd) (J : It) (ds : List PyData) (F' : Hp) : Prop := ∃ (G : Hp → Prop) (Y : Nat → Hp → V → Hp → Prop), Walk J ds.length G Y ∧ (∀ F H, Same F' F → Same F H → G H) ∧
  ∀ (i : Nat) (H : Hp) (x : V) (H2 F : Hp) (d : PyData), Same F' F → Bs W.pp F H → ds[i]? = some d → Y i H x H2 → ∃ F2, Stp W.pp F H F2 H2 ∧ Rp K F2 x d
theorem IsWalk.mono {K : PySem.W.Frag} {W : Wd} {J : It} {ds : List PyData} {F F' : Hp} (w : IsWalk K W J ds F) (e : Same F F') : IsWalk K W J ds F' := by
  obtain ⟨G, Y, w1, w2, w3⟩ := w
  exact ⟨G, Y, w1, fun F1 H a b => w2 F1 H (e.trans a) b, fun i H x H2 F1 d a => w3 i H x H2 F1 d (e.trans a)⟩
def OkI (K : PySem.W.Frag) (W : Wd) (wi : TI) (it : DI) : Prop := ∀ (env : Sls) (σ : L2.St) (F H : Hp) (k : List PyData → Bool) (R : It → Hp → Prop), Rel K W env σ F H → it env k = true →
  (∀ ds J F' H', Stp W.pp F H F' H' → IsWalk K W J ds F' → k ds = true → R J H') → wi σ H R
structure SI (W : Wd) (X : Cx) (tg e : Expr) (di : DI) : Prop where
  ex : ∃ wi, PI X tg e wi ∧ OkI X.K W wi di
/-- a text's signs -/
def signsD (z : Str) : List PyData := z.cps.toList.map fun c => .str ⟨#[c]⟩
def iSeq (a : DE) : DI := fun env k => a env fun x => match x with
  | .list xs => k xs
  | .tuple xs => k xs
  | .str z => k (signsD z)
  | _ => false
def rangeD : Int → Nat → List PyData
  | _, 0 => []
  | lo, n + 1 => .int lo :: rangeD (lo + 1) n
theorem rangeD_len : ∀ (n : Nat) (lo : Int), (rangeD lo n).length = n
  | 0, _ => rfl
  | n + 1, lo => by unfold rangeD; rw [List.length_cons, rangeD_len n]
theorem rangeD_at : ∀ (n : Nat) (lo : Int) (i : Nat) (d : PyData), (rangeD lo n)[i]? = some d → d = .int (lo + i)
  | 0, _, _, _, h => by simp [rangeD] at h
  | n + 1, lo, 0, d, h => by
    unfold rangeD at h
    simp at h
    rw [← h]; simp
  | n + 1, lo, i + 1, d, h => by
    unfold rangeD at h
    rw [List.getElem?_cons_succ] at h
    rw [rangeD_at n (lo + 1) i d h]
    congr 1
    rw [Int.add_assoc, Int.natCast_add, Int.add_comm 1 (i : Int)]; rfl
def big (i : Int) : Bool := Nat.ble i.natAbs 1000000
theorem big_ok {i : Int} (h : big i = true) : -(2 ^ 62) ≤ i ∧ i < 2 ^ 62 := by
  have h1 : i.natAbs ≤ 1000000 := Nat.le_of_ble_eq_true h
  omega
def iRange1 (a : DE) : DI := fun env k => a env fun x => match x with
  | .int n => (match big n with
    | true => k (rangeD 0 n.toNat)
    | false => false)
  | _ => false
def iRange2 (a b : DE) : DI := fun env k => a env fun x => b env fun y => match x, y with
  | .int lo, .int n => (match big lo && big n with
    | true => k (rangeD lo (n - lo).toNat)
    | false => false)
  | _, _ => false
def enumD : Nat → List PyData → List PyData
  | _, [] => []
  | n, x :: r => .tuple [.int (n : Int), x] :: enumD (n + 1) r
theorem enumD_len : ∀ (xs : List PyData) (n : Nat), (enumD n xs).length = xs.length
  | [], _ => rfl
  | x :: r, n => by unfold enumD; rw [List.length_cons, List.length_cons, enumD_len r]
theorem enumD_at : ∀ (xs : List PyData) (n i : Nat) (d : PyData), (enumD n xs)[i]? = some d → ∃ x, xs[i]? = some x ∧ d = .tuple [.int ((n + i : Nat) : Int), x]
  | [], _, _, _, h => by simp [enumD] at h
  | x :: r, n, 0, d, h => by
    unfold enumD at h
    simp at h
    exact ⟨x, rfl, by rw [← h]; rfl⟩
  | x :: r, n, i + 1, d, h => by
    unfold enumD at h
    rw [List.getElem?_cons_succ] at h
    obtain ⟨y, h1, h2⟩ := enumD_at r (n + 1) i d h
    refine ⟨y, by rw [List.getElem?_cons_succ]; exact h1, ?_⟩
    rw [h2, show n + 1 + i = n + (i + 1) by omega]
def iEnumD (a : DE) : DI := fun env k => a env fun x => match x with
  | .list xs => k (enumD 0 xs)
  | _ => false
def zipD : List PyData → List PyData → List PyData
  | x :: r, y :: q => .tuple [x, y] :: zipD r q
  | _, _ => []
theorem zipD_len : ∀ (xs ys : List PyData), (zipD xs ys).length = min xs.length ys.length
  | [], ys => by simp [zipD]
  | x :: r, [] => by simp [zipD]
  | x :: r, y :: q => by unfold zipD; rw [List.length_cons, List.length_cons, List.length_cons, zipD_len r q]; omega
theorem zipD_at : ∀ (xs ys : List PyData) (i : Nat) (d : PyData), (zipD xs ys)[i]? = some d → ∃ x y, xs[i]? = some x ∧ ys[i]? = some y ∧ d = .tuple [x, y]
  | [], ys, i, d, h => by simp [zipD] at h
  | x :: r, [], i, d, h => by simp [zipD] at h
  | x :: r, y :: q, 0, d, h => by
    unfold zipD at h
    simp at h
    exact ⟨x, y, rfl, rfl, h.symm⟩
  | x :: r, y :: q, i + 1, d, h => by
    unfold zipD at h
    rw [List.getElem?_cons_succ] at h
    exact zipD_at r q i d h
def iZipD (a b : DE) : DI := fun env k => a env fun x => b env fun y => match x, y with
  | .list xs, .list ys => k (zipD xs ys)
  | .tuple xs, .tuple ys => k (zipD xs ys)
  | _, _ => false
section
variable {W : Wd} {X : Cx} {K : PySem.W.Frag} {tg ea eb : Expr} {da db : DE} {pos : Pos}
theorem walkL {a : Addr} {vl : List V} {ds : List PyData} {F' : Hp} (ha : F' a = some (.lst vl)) (r : RpAll K F' vl ds) : IsWalk K W (Itl K a) ds F' := by
  refine ⟨fun H => SqL K H a vl, YAt vl, by rw [← r.length]; exact walk_list, fun F H e1 e2 => .inl (.inl (e2 _ _ (e1 _ _ ha))), fun i H x H2 F d e1 B hd y => ?_⟩
  obtain ⟨rfl, hx⟩ := y
  obtain ⟨v, h1, h2⟩ := r.at hd
  rw [hx] at h1
  cases h1
  exact ⟨F, Stp.refl B, h2.mono e1⟩
theorem walkT {a : Addr} {vl : List V} {ds : List PyData} {F' : Hp} (hs : ∀ F H, Same F' F → Same F H → SqT K H a vl) (r : RpAll K F' vl ds) : IsWalk K W (Itt K a) ds F' := by
  refine ⟨fun H => SqT K H a vl, YAt vl, by rw [← r.length]; exact walk_tup, hs, fun i H x H2 F d e1 B hd y => ?_⟩
  obtain ⟨rfl, hx⟩ := y
  obtain ⟨v, h1, h2⟩ := r.at hd
  rw [hx] at h1
  cases h1
  exact ⟨F, Stp.refl B, h2.mono e1⟩
theorem walkS {z : Str} {F' : Hp} : IsWalk K W (Its z) (signsD z) F' := by
  refine ⟨fun _ => True, _, by rw [show (signsD z).length = z.cps.size by simp [signsD]]; exact walk_str, fun _ _ _ _ => trivial, fun i H x H2 F d e1 B hd y => ?_⟩
  obtain ⟨rfl, c, hc, rfl⟩ := y
  have e : d = .str ⟨#[c]⟩ := by
    unfold signsD at hd
    rw [List.getElem?_map, Array.getElem?_toList, hc] at hd
    exact (Option.some.inj hd).symm
  subst e
  exact ⟨F, Stp.refl B, .str _⟩
theorem walkR {lo : Int} {n : Nat} {F' : Hp} : IsWalk K W (Itr lo n) (rangeD lo n) F' := by
  refine ⟨fun _ => True, _, by rw [rangeD_len]; exact walk_range, fun _ _ _ _ => trivial, fun i H x H2 F d e1 B hd y => ?_⟩
  obtain ⟨rfl, rfl⟩ := y
  rw [rangeD_at n lo i d hd]
  exact ⟨F, Stp.refl B, .int _⟩
theorem walkPair {F H H2 : Hp} {x : V} {f g : Nat → Option V} {i : Nat} {v w : V} {d e : PyData} (B : Bs W.pp F H) (y : YPair f g i H x H2) (h1 : f i = some v) (h2 : g i = some w) (r1 : Rp K F v d) (r2 : Rp K F w e) : ∃ F2, Stp W.pp F H F2 H2 ∧ Rp K F2 x (.tuple [d, e]) := by
  obtain ⟨T, a, b, rfl, nT, rfl, f1, f2⟩ := y
  rw [h1] at f1
  rw [h2] at f2
  cases f1
  cases f2
  have st := Stp.new (o := .tup [v, w]) B nT
  exact ⟨_, st, .tup upd_same (.cons (r1.mono st.ff) (.cons (r2.mono st.ff) .nil))⟩
theorem walkE {a : Addr} {vl : List V} {ds : List PyData} {F' : Hp} (ha : F' a = some (.lst vl)) (r : RpAll K F' vl ds) : IsWalk K W (Ite K a) (enumD 0 ds) F' := by
  refine ⟨fun H => SqL K H a vl, _, by rw [enumD_len, ← r.length]; exact walk_enum, fun F H e1 e2 => .inl (.inl (e2 _ _ (e1 _ _ ha))), fun i H x H2 F d e1 B hd y => ?_⟩
  obtain ⟨z, h1, h2⟩ := enumD_at ds 0 i d hd
  obtain ⟨v, h3, h4⟩ := r.at h1
  subst h2
  rw [Nat.zero_add]
  exact walkPair B y rfl h3 (.int _) (h4.mono e1)
theorem walkZ {a b : Addr} {vl wl : List V} {ds es : List PyData} {F' : Hp} (ha : F' a = some (.lst vl)) (r : RpAll K F' vl ds) (hb : F' b = some (.lst wl)) (r2 : RpAll K F' wl es) : IsWalk K W (Itz K a b) (zipD ds es) F' := by
  refine ⟨fun H => SqL K H a vl ∧ SqL K H b wl, _, walk_zip (by rw [zipD_len, r.length, r2.length]), fun F H e1 e2 => ⟨.inl (.inl (e2 _ _ (e1 _ _ ha))), .inl (.inl (e2 _ _ (e1 _ _ hb)))⟩, fun i H x H2 F d e1 B hd y => ?_⟩
  obtain ⟨z, z2, h1, h2, h3⟩ := zipD_at ds es i d hd
  obtain ⟨v, h4, h5⟩ := r.at h1
  obtain ⟨v2, h6, h7⟩ := r2.at h2
  subst h3
  exact walkPair B y h4 h6 (h5.mono e1) (h7.mono e1)
theorem walk_zipTT {a b : Addr} {xs ys : List V} {n : Nat} (hn : n = min xs.length ys.length) : Walk (RZ.ItzT K a b) n (fun H => SqT K H a xs ∧ SqT K H b ys) (YPair (fun i => xs[i]?) (fun i => ys[i]?)) := by
  subst hn
  refine ⟨fun i _ hi q => ?_, fun _ q => ⟨xs, ys, q.1, q.2, by omega⟩, fun i H v H' _ q y => ?_⟩
  · have h1 : i < xs.length := by omega
    have h2 : i < ys.length := by omega
    exact ⟨xs, ys, xs[i], ys[i], q.1, q.2, by simp [h1], by simp [h2]⟩
  · obtain ⟨T, x, z, h1, h2, h3, h4, h5⟩ := y
    exact ⟨T, x, z, h1, h2, h3, h4 xs q.1, h5 ys q.2⟩
theorem walkZT {a b : Addr} {vl wl : List V} {ds es : List PyData} {F' : Hp} (ha : ∀ F H, Same F' F → Same F H → SqT K H a vl) (r : RpAll K F' vl ds) (hb : ∀ F H, Same F' F → Same F H → SqT K H b wl) (r2 : RpAll K F' wl es) : IsWalk K W (RZ.ItzT K a b) (zipD ds es) F' := by
  refine ⟨fun H => SqT K H a vl ∧ SqT K H b wl, _, walk_zipTT (by rw [zipD_len, r.length, r2.length]), fun F H e1 e2 => ⟨ha F H e1 e2, hb F H e1 e2⟩, fun i H x H2 F d e1 B hd y => ?_⟩
  obtain ⟨z, z2, h1, h2, h3⟩ := zipD_at ds es i d hd
  obtain ⟨v, h4, h5⟩ := r.at h1
  obtain ⟨v2, h6, h7⟩ := r2.at h2
  subst h3
  exact walkPair B y h4 h6 (h5.mono e1) (h7.mono e1)
theorem sqT_all {F' : Hp} {a : Addr} {ds : List PyData} (h : Rp K F' (.ref a) (.tuple ds)) : ∃ vl, (∀ F H, Same F' F → Same F H → SqT K H a vl) ∧ RpAll K F' vl ds := by
  cases h with
  | tup h r => exact ⟨_, fun F H e1 e2 => .inl (.inl (e2 _ _ (e1 _ _ h))), r⟩
  | ktup h r => exact ⟨_, fun F H e1 e2 => .inr h, r⟩
/-- any list, tuple, text -/
def iAnyT (K : PySem.W.Frag) (tl : TE) : TI := fun σ H R => tl σ H fun x H1 => (∃ a, x = .ref a ∧ (∃ xs, SqL K H1 a xs) ∧ R (Itl K a) H1) ∨ (∃ a, x = .ref a ∧ (∃ xs, SqT K H1 a xs) ∧ R (Itt K a) H1) ∨ ∃ z, x = .str z ∧ R (Its z) H1
theorem pi_any {l : Expr} {tl : TE} (hl : PE X l tl) : PI X tg l (iAnyT X.K tl) := by
  refine ⟨fun pins s σ H R I h => ?_⟩
  refine thn (hl.run pins s σ H _ I h) fun v s1 ⟨x, H1, I1, r1, q1⟩ => ?_
  rcases q1 with ⟨a, e, ⟨xs, hq⟩, q⟩ | ⟨a, e, ⟨xs, hq⟩, q⟩ | ⟨z, e, q⟩
  · subst e
    cases r1
    obtain ⟨its, rv, p, hz⟩ := I1.list hq
    refine wpAny_pyIter_list p.isList ?_
    refine ⟨s1.heap.objs.size, [s1.heap.objs.size], _, _, H1, rfl, I1.kept (t' := s1.toks) fun b o e => Heap.get?_push_of_some _ e, turn_list a _, ⟨_, Heap.get?_push_size _ rfl, rfl, rfl⟩, fun b hb => ?_, q⟩
    have e : b = s1.heap.objs.size := by simpa using hb
    subst e
    exact I1.fpOk (Nat.le_refl _) (I1.hok.fresh (Nat.le_refl _))
  · subst e
    cases r1
    obtain ⟨its, rv, p, hz⟩ := I1.tuple hq
    refine wpAny_pyIter_tuple (show s1.heap.IsTuple a its.toArray from p) ?_
    refine ⟨s1.heap.objs.size, [s1.heap.objs.size], _, _, H1, rfl, I1.kept (t' := s1.toks) fun b o e => Heap.get?_push_of_some _ e, turn_tuple a _, ⟨_, Heap.get?_push_size _ rfl, rfl, rfl⟩, fun b hb => ?_, q⟩
    have e : b = s1.heap.objs.size := by simpa using hb
    subst e
    exact I1.fpOk (Nat.le_refl _) (I1.hok.fresh (Nat.le_refl _))
  · subst e
    obtain ⟨t, rfl⟩ := r1
    cases ha : z.cps.all (· < 128)
    · exact wpAny_pyIter_wide ha (pi_one (tk := s1.toks) I1 _ (turn_str _ z t "str_iterator" (.inr rfl)) ⟨_, Heap.get?_push_size _ rfl, rfl, rfl⟩ q)
    · exact wpAny_pyIter_ascii ha (pi_one (tk := s1.toks) I1 _ (turn_str _ z t "str_ascii_iterator" (.inl rfl)) ⟨_, Heap.get?_push_size _ rfl, rfl, rfl⟩ q)
theorem si_seq (a : SE W X ea da) : SI W X tg ea (iSeq da) := by
  obtain ⟨t, p, o⟩ := a
  refine ⟨_, pi_any p, fun env σ F H k R Re h q => o env σ F H _ _ Re h fun d v F1 H1 s1 r1 h1 => ?_⟩
  have B := (Re.step s1).bs
  cases d with
  | list xs =>
    cases r1 with
    | lst ha ra => exact .inl ⟨_, rfl, ⟨_, .inl (.inl (B.keep ha))⟩, q _ _ F1 H1 s1 (walkL ha ra) h1⟩
  | tuple xs =>
    cases v with
    | ref a =>
      obtain ⟨vl, hs, ra⟩ := sqT_all r1
      exact .inr (.inl ⟨_, rfl, ⟨_, hs F1 H1 (Same.refl F1) B.fh⟩, q _ _ F1 H1 s1 (walkT hs ra) h1⟩)
    | _ => cases r1
  | str z => cases r1; exact .inr (.inr ⟨z, rfl, q _ _ F1 H1 s1 walkS h1⟩)
  | _ => cases h1
theorem si_range1 {p : Pos} (hm : X.mg "range" = none) (a : SE W X ea da) (hg : Gl X "range" := by rfl) (hs : starEach [ea] X.env = [(false, eval ea X.env)] := by rfl) (hs2 : starEach [ea] X.env = (false, eval ea X.env) :: starEach [] X.env := by rfl) : SI W X tg (.Call (.Name "range" p) [ea] [] pos) (iRange1 da) := by
  obtain ⟨t, q, o⟩ := a
  refine ⟨_, pi_range1 hg hm (pa_cons q pa_nil hs2) hs, fun env σ F H k R Re h q => o env σ F H _ _ Re h fun d v F1 H1 s1 r1 h1 => ?_⟩
  cases d with
  | int n =>
    cases r1
    cases e : big n with
    | false => simp only [e] at h1; cases h1
    | true =>
      simp only [e] at h1
      obtain ⟨b1, b2⟩ := big_ok e
      exact ⟨n, rfl, b1, b2, q _ _ F1 H1 s1 walkR h1⟩
  | _ => cases h1
theorem si_range2 {p : Pos} (hm : X.mg "range" = none) (a : SE W X ea da) (b : SE W X eb db) (hg : Gl X "range" := by rfl) (hs : starEach [ea, eb] X.env = [(false, eval ea X.env), (false, eval eb X.env)] := by rfl) (hs2 : starEach [eb] X.env = [(false, eval eb X.env)] := by rfl)
    (h1 : starEach [ea, eb] X.env = (false, eval ea X.env) :: starEach [eb] X.env := by rfl) (h2 : starEach [eb] X.env = (false, eval eb X.env) :: starEach [] X.env := by rfl) : SI W X tg (.Call (.Name "range" p) [ea, eb] [] pos) (iRange2 da db) := by
  obtain ⟨t, p1, o⟩ := a
  obtain ⟨t2, p2, o2⟩ := b
  refine ⟨_, pi_range2 hg hm (pa_cons p1 (pa_cons p2 pa_nil h2) h1) hs hs2, fun env σ F H k R Re h q => o env σ F H _ _ Re h fun d v F1 H1 s1 r1 h1 => o2 env σ F1 H1 _ _ (Re.step s1) h1 fun d2 v2 F2 H2 s2 r2 h2 => ?_⟩
  cases d with
  | int lo =>
    cases d2 with
    | int n =>
      cases r1
      cases r2
      cases e : (big lo && big n) with
      | false => simp only [e] at h2; cases h2
      | true =>
        simp only [e] at h2
        obtain ⟨e1, e2⟩ := Bool.and_eq_true_iff.mp e
        obtain ⟨b1, b2⟩ := big_ok e1
        obtain ⟨b3, b4⟩ := big_ok e2
        exact ⟨lo, n, rfl, ⟨b1, b2, b3, b4⟩, q _ _ F2 H2 (s1.trans s2) walkR h2⟩
    | _ => cases h2
  | _ => cases h2
theorem si_enum {p tpos : Pos} {elts : List Expr} {kk : Nat} (hm : X.mg "enumerate" = none) (a : SE W X ea da) (hg : Gl X "enumerate" := by rfl) (hs : starEach [ea] X.env = [(false, eval ea X.env)] := by rfl) (hs2 : starEach [ea] X.env = (false, eval ea X.env) :: starEach [] X.env := by rfl) :
    SI W X (.Tuple elts kk tpos) (.Call (.Name "enumerate" p) [ea] [] pos) (iEnumD da) := by
  obtain ⟨t, q, o⟩ := a
  refine ⟨_, pi_enum hg hm (pa_cons q pa_nil hs2) hs, fun env σ F H k R Re h q => o env σ F H _ _ Re h fun d v F1 H1 s1 r1 h1 => ?_⟩
  have B := (Re.step s1).bs
  cases d with
  | list xs =>
    cases r1 with
    | lst ha ra => exact ⟨_, _, rfl, .inl (.inl (B.keep ha)), q _ _ F1 H1 s1 (walkE ha ra) h1⟩
  | _ => cases h1
theorem si_zip {p tpos : Pos} {elts : List Expr} {kk : Nat} (hm : X.mg "zip" = none) (a : SE W X ea da) (b : SE W X eb db) (hg : Gl X "zip" := by rfl) (hs : starEach [ea, eb] X.env = (false, eval ea X.env) :: starEach [eb] X.env := by rfl) (hpl : (backTo pos (starEach [eb] X.env)).any (·.1) = false := by rfl)
    (h2 : starEach [eb] X.env = (false, eval eb X.env) :: starEach [] X.env := by rfl) : SI W X (.Tuple elts kk tpos) (.Call (.Name "zip" p) [ea, eb] [] pos) (iZipD da db) := by
  obtain ⟨t, p1, o⟩ := a
  obtain ⟨t2, p2, o2⟩ := b
  refine ⟨_, RZ.pi_zipA hg hm (pa_cons p1 (pa_cons p2 pa_nil h2) hs) hs hpl, fun env σ F H k R Re h q => o env σ F H _ _ Re h fun d v F1 H1 s1 r1 h1 => o2 env σ F1 H1 _ _ (Re.step s1) h1 fun d2 v2 F2 H2 s2 r2 h2 => ?_⟩
  have B := ((Re.step s1).step s2).bs
  have r1 := r1.mono s2.ff
  cases d with
  | list xs =>
    cases d2 with
    | list ys =>
      cases r1 with
      | lst ha ra =>
        cases r2 with
        | lst hb rb => exact ⟨_, _, _, _, rfl, .inl ⟨.inl (.inl (B.keep ha)), .inl (.inl (B.keep hb)), q _ _ F2 H2 (s1.trans s2) (walkZ ha ra hb rb) h2⟩⟩
    | _ => cases h2
  | tuple xs =>
    cases d2 with
    | tuple ys =>
      cases v with
      | ref pa =>
        cases v2 with
        | ref pb =>
          obtain ⟨vl, ha, ra⟩ := sqT_all r1
          obtain ⟨wl, hb, rb⟩ := sqT_all r2
          exact ⟨_, _, _, _, rfl, .inr ⟨ha F2 H2 (Same.refl F2) B.fh, hb F2 H2 (Same.refl F2) B.fh, q _ _ F2 H2 (s1.trans s2) (walkZT ha ra hb rb) h2⟩⟩
        | _ => cases r2
      | _ => cases r1
    | _ => cases h2
  | _ => cases h2
end

/-! ### comprehensions -/
def wipeE (env : Sls) : List Nat → Sls
  | [] => env
  | v :: vs => (wipeE env vs).set v .no
theorem Rel.wipe {K : PySem.W.Frag} {W : Wd} {env : Sls} {σ : L2.St} {F H : Hp} (R : Rel K W env σ F H) : ∀ vs : List Nat, Rel K W (wipeE env vs) (L2.wipe σ vs) F H
  | [] => R
  | v :: vs => (Rel.wipe R vs).unset none v
def goLc (tg : DG) (tt : DT) (el : DE) (env : Sls) : List PyData → List PyData → KF → Bool
  | [], acc, k => k (.list acc.reverse)
  | x :: xs, acc, k => tg x env fun env' => tt env' fun b => match b with
    | true => el env' fun y => goLc tg tt el env xs (y :: acc) k
    | false => goLc tg tt el env xs acc k
def dLc (it : DI) (tg : DG) (tt : DT) (el : DE) (vs : List Nat) : DE := fun env k => it env fun xs => match small xs.length with
  | true => goLc tg tt el (wipeE env vs) xs [] k
  | false => false
theorem wipe_at {σ : L2.St} : ∀ {vs : List Nat} {j : Nat}, j ∉ vs → (L2.wipe σ vs)[j]? = σ[j]?
  | [], _, _ => rfl
  | v :: vs, j, h => by
    unfold L2.wipe
    rw [List.getElem?_set_ne (fun z => h (by simp [z]))]
    exact wipe_at (fun z => h (by simp [z]))
theorem wipe_in {σ : L2.St} : ∀ {vs : List Nat} {j : Nat}, j ∈ vs → j < σ.length → (L2.wipe σ vs)[j]? = some none
  | v :: vs, j, h, hl => by
    unfold L2.wipe
    by_cases e : v = j
    · subst e
      rw [List.getElem?_set_self (by rw [L2.wipe_length]; exact hl)]
    · rw [List.getElem?_set_ne e]
      exact wipe_in (by rcases List.mem_cons.mp h with z | z; exact absurd z.symm e; exact z) hl
theorem wipe_same {σ σ2 : L2.St} {vs sl : List Nat} (hl : σ2.length = σ.length) (hs : ∀ j ∈ sl, j ∈ vs) (h : ∀ j, j ∉ sl → σ2[j]? = (L2.wipe σ vs)[j]?) : L2.wipe σ2 vs = L2.wipe σ vs := by
  apply List.ext_getElem?
  intro j
  by_cases hj : j ∈ vs
  · by_cases hb : j < σ.length
    · rw [wipe_in hj hb, wipe_in hj (by rw [hl]; exact hb)]
    · rw [List.getElem?_eq_none (by rw [L2.wipe_length]; omega), List.getElem?_eq_none (by rw [L2.wipe_length]; omega)]
  · rw [wipe_at hj, h j (fun z => hj (hs j z))]
def dYes : DT := fun _ k => k true
structure STs (W : Wd) (X : Cx) (es : List Expr) (dt : DT) : Prop where
  ex : ∃ t, PTs X es t ∧ OkT X.K W t dt
section
variable {W : Wd} {X : Cx} {K : PySem.W.Frag} {e : Expr} {dt : DT}
theorem sts_nil : STs W X [] dYes := ⟨_, pts_nil, fun env σ F H k Q R h q => q true F H (Stp.refl R.bs) h⟩
theorem sts_one (h : ST W X e dt) : STs W X [e] dt := by
  obtain ⟨t, p, o⟩ := h
  exact ⟨t, pts_one p, o⟩
theorem STs.can {es : List Expr} (h : STs W X es dt) : PTs X es (canT X.K W dt) := by
  obtain ⟨t, p, o⟩ := h
  exact ⟨fun pins s σ H Q I ⟨env, F, k, R, h, q⟩ => p.run pins s σ H Q I (o env σ F H k Q R h q)⟩
/-- the state in a comprehension: the new list at D -/
structure InLc (K : PySem.W.Frag) (W : Wd) (F1 H1 : Hp) (D : Addr) (acc : List PyData) (F H : Hp) : Prop where
  st : Stp W.pp F1 H1 F H
  un : F D = none
  at_ : ∃ vl, H D = some (.lst vl) ∧ RpAll K F vl acc.reverse
theorem InLc.step {F1 H1 F H F' H' : Hp} {D : Addr} {acc : List PyData} (np : D ≠ W.pp) (c : InLc K W F1 H1 D acc F H) (s : Stp W.pp F H F' H') : InLc K W F1 H1 D acc F' H' := by
  obtain ⟨vl, h1, h2⟩ := c.at_
  exact ⟨c.st.trans s, s.own c.un (by rw [h1]; exact fun z => nomatch z), vl, s.fr _ _ np h1, h2.mono s.ff⟩
theorem okE_lc {wi : TI} {g : TG} {tt : TT} {te : TE} {it : DI} {tg : DG} {dt : DT} {el : DE} {vs sl : List Nat} (oi : OkI K W wi it) (og : OkG K W g tg sl) (ot : OkT K W tt dt) (oe : OkE K W te el) (hsl : ∀ j ∈ sl, j ∈ vs) :
    OkE K W (tLc wi g tt te vs) (dLc it tg dt el vs) := fun env σ F H k Q R h q => by
  refine oi env σ F H _ _ R h fun ds J F1 H1 s1 wk h1 => ?_
  cases e : small ds.length with
  | false => rw [e] at h1; cases h1
  | true =>
    rw [e] at h1
    have hz := small_ok e
    have hz2 : ds.length ≤ 100000 := Nat.le_of_ble_eq_true e
    have R1 := R.step s1
    have B1 := R1.bs
    obtain ⟨G, Y, w1, w2, w3⟩ := wk
    intro D hD
    have np : D ≠ W.pp := fun z => by subst z; exact B1.po.some hD
    have fD : F1 D = none := by
      cases q : F1 D with
      | none => rfl
      | some o => rw [B1.fh D o q] at hD; cases hD
    have RW := R1.wipe vs
    refine lc_it w1 (fun i H' => ∃ acc F', InLc K W F1 H1 D acc F' H' ∧ acc.length ≤ i ∧ goLc tg dt el (wipeE env vs) (ds.drop i) acc k = true) ⟨[], F1, ⟨Stp.newO B1 hD, fD, [], upd_same, .nil⟩, Nat.le_refl _, h1⟩
      (fun i H' _ ⟨acc, F', c, _⟩ => w2 F' H' c.st.ff c.st.fh) (fun i x H' H'' hi ⟨acc, F', c, la, hg⟩ y => ?_) (fun H' ⟨acc, F', c, la, hg⟩ => ?_)
    · have hd : ds[i]? = some ds[i] := List.getElem?_eq_getElem hi
      have hdr : ds.drop i = ds[i] :: ds.drop (i + 1) := List.drop_eq_getElem_cons hi
      rw [hdr] at hg
      have Bc := Stp.bs B1 c.st
      obtain ⟨F2, s2, r2⟩ := w3 i H' x H'' F' ds[i] c.st.ff Bc hd y
      have c2 := c.step np s2
      have RW2 := (RW.step c2.st)
      unfold goLc at hg
      refine og _ _ F2 H'' x _ _ _ RW2 r2 hg fun env' σ' R' a1 l1 hk => ?_
      have ew : L2.wipe σ' vs = L2.wipe σ vs := wipe_same (l1.trans (L2.wipe_length σ vs)) hsl a1
      refine ⟨ew, ?_⟩
      refine ot env' σ' F2 H'' _ _ R' hk fun b F3 H3 s3 h3 => ?_
      have c3 := c2.step np s3
      cases b with
      | false =>
        rw [if_neg Bool.false_ne_true]
        exact ⟨acc, F3, c3, by omega, h3⟩
      | true =>
        rw [if_pos rfl]
        refine oe env' σ' F3 H3 _ _ (R'.step s3) h3 fun d v F4 H4 s4 r4 h4 => ?_
        have c4 := c3.step np s4
        obtain ⟨vl, h5, h6⟩ := c4.at_
        refine ⟨vl, h5, by rw [h6.length, List.length_reverse]; exact Nat.lt_of_le_of_lt (show acc.length ≤ 100000 by omega) (by decide), d :: acc, F4, ⟨c4.st.write hD c4.un np, c4.un, vl ++ [v], upd_same, ?_⟩, by rw [List.length_cons]; omega, h4⟩
        rw [List.reverse_cons]
        exact h6.append (.cons r4 .nil)
    · rw [List.drop_length] at hg
      unfold goLc at hg
      obtain ⟨vl, h5, h6⟩ := c.at_
      have st := c.st.freeze hD c.un h5
      exact q _ _ (upd F' D (.lst vl)) H' (s1.trans st) (.lst upd_same (h6.mono (same_upd c.un))) hg
end
end Dl

namespace Dl
open PySem PySem.Spec PyProof.Rows L2

section
variable {W : Wd} {X : Cx} {K : PySem.W.Frag}
theorem se_lc {elt tg iter : Expr} {ifs : List Expr} {scope : Scope} {own : List (Str × Nat)} {pos : Pos} {di : DI} {g : DG} {dt : DT} {de : DE} {sl vs : List Nat} (hc : X.calm = true) (hN : X.N.Nodup) (hi : SI W X tg iter di) (ok : BlkOk X.N X.env.scope scope own)
    (hg : ∀ (s : Shared) (H : Hp) (C : Addr) (cl : List (Str × Addr)) (fp : List Addr), SG W (X.blk s H scope (compEnvC scope cl C X.env) fp) tg g sl) (ht : ∀ (s : Shared) (H : Hp) (C : Addr) (cl : List (Str × Addr)) (fp : List Addr), STs W (X.blk s H scope (compEnvC scope cl C X.env) fp) ifs dt)
    (he : ∀ (s : Shared) (H : Hp) (C : Addr) (cl : List (Str × Addr)) (fp : List Addr), SE W (X.blk s H scope (compEnvC scope cl C X.env) fp) elt de) (hsl : ∀ j ∈ sl, j ∈ vs := by decide) (hvs : own.map (·.2) = vs := by rfl) (hs : ∀ x, foldedSetIterable iter X.env x = pure x := by intro _; rfl) :
    SE W X (.ListComp elt [⟨tg, iter, ifs, 0⟩] scope pos) (dLc di g dt de vs) := by
  obtain ⟨wi, p, oi⟩ := hi
  subst hvs
  exact ⟨_, pe_lc hc hN p ok (fun s H C cl fp => (hg s H C cl fp).can) (fun s H C cl fp => (ht s H C cl fp).can) (fun s H C cl fp => (he s H C cl fp).can) hs, okE_lc oi okG_can okT_can okE_can hsl⟩
theorem se_setlc {i : Nat} {y : Str} {py : Pos} {elt tg iter : Expr} {ifs : List Expr} {scope : Scope} {own : List (Str × Nat)} {pos spos : Pos} {di : DI} {g : DG} {dt : DT} {de : DE} {sl vs : List Nat} (hc : X.calm = true) (hN : X.N.Nodup) (hy : X.N[i]? = some y) (hyl : X.env.scope.names.lookup y = some .local)
    (hsw : swapsWith (.ListComp elt [⟨tg, iter, ifs, 0⟩] scope pos) (some (.Name y py)) spos.line X.env = pure true) (hi : SI W X tg iter di) (ok : BlkOk X.N X.env.scope scope own)
    (hg : ∀ (s : Shared) (H : Hp) (C : Addr) (cl : List (Str × Addr)) (fp : List Addr), SG W (X.blk s H scope (compEnvC scope cl C X.env) fp) tg g sl) (ht : ∀ (s : Shared) (H : Hp) (C : Addr) (cl : List (Str × Addr)) (fp : List Addr), STs W (X.blk s H scope (compEnvC scope cl C X.env) fp) ifs dt)
    (he : ∀ (s : Shared) (H : Hp) (C : Addr) (cl : List (Str × Addr)) (fp : List Addr), SE W (X.blk s H scope (compEnvC scope cl C X.env) fp) elt de) (hsl : ∀ j ∈ sl, j ∈ vs := by decide) (hvs : own.map (·.2) = vs := by rfl) (hs : ∀ x, foldedSetIterable iter X.env x = pure x := by intro _; rfl) :
    ∃ te, PS X (.Assign [.Name y py] (.ListComp elt [⟨tg, iter, ifs, 0⟩] scope pos) spos) (tAsg te (gName i)) ∧ OkE X.K W te (dLc di g dt de vs) := by
  obtain ⟨wi, p, oi⟩ := hi
  subst hvs
  exact ⟨_, ps_setLc hc hN hy hyl hsw p ok (fun s H C cl fp => (hg s H C cl fp).can) (fun s H C cl fp => (ht s H C cl fp).can) (fun s H C cl fp => (he s H C cl fp).can) hs, okE_lc oi okG_can okT_can okE_can hsl⟩
end

/-! ### promises where no guard stands around -/
structure FnOkG (P : Program) (w : World) (K : PySem.W.Frag) (mg : Str → Option Value) (base : Heap) (k : Nat) (f : Addr) (fd : FuncData) (ps : List Str) (sp : Sp) : Prop where
  len : ∀ vs H Q E, sp vs H Q E → vs.length = ps.length
  run : ∀ (A : Around) (outer : List Env) (s : Shared) (H : Hp) (args : Args) (us : List Value) (vs : List V) (Q : VK) (E : XK), Room k A → A.guards = some [] → Env0 P w K mg base A outer s H → BindsTo s fd args (ps.zip us) → Vals vs us → sp vs H Q E →
    codeAny (model P w) A (.call (.ref f) args) (CR CX0 outer P w H s Q E) s
theorem FnOkG.of {P : Program} {w : World} {K : PySem.W.Frag} {mg : Str → Option Value} {base : Heap} {k : Nat} {f : Addr} {fd : FuncData} {ps : List Str} {sp : Sp} (F : FnOk P w K mg base CX0 k f fd ps sp) : FnOkG P w K mg base k f fd ps sp :=
  ⟨F.len, fun A outer s H args us vs Q E hr _ => F.run A outer s H args us vs Q E hr⟩
theorem FnOkG.imp {P : Program} {w : World} {K : PySem.W.Frag} {mg : Str → Option Value} {base : Heap} {k : Nat} {f : Addr} {fd : FuncData} {ps : List Str} {sp sp' : Sp} (F : FnOkG P w K mg base k f fd ps sp) (h : ∀ vs H Q E, sp' vs H Q E → sp vs H Q E) : FnOkG P w K mg base k f fd ps sp' :=
  ⟨fun vs H Q E z => F.len vs H Q E (h vs H Q E z), fun A outer s H args us vs Q E hr hg e0 hb r z => F.run A outer s H args us vs Q E hr hg e0 hb r (h vs H Q E z)⟩
theorem FnOkG.mono {P : Program} {w : World} {K : PySem.W.Frag} {mg : Str → Option Value} {base : Heap} {j k : Nat} {f : Addr} {fd : FuncData} {ps : List Str} {sp : Sp} (F : FnOkG P w K mg base j f fd ps sp) (h : j ≤ k) : FnOkG P w K mg base k f fd ps sp :=
  ⟨F.len, fun A outer s H args us vs Q E hr => F.run A outer s H args us vs Q E (hr.mono h)⟩
theorem fn_ofG {P : Program} {w : World} {K : PySem.W.Frag} {mg : Str → Option Value} {base : Heap} {k : Nat} {f : Addr} {name qual : Str} {params : Arguments} {body : List Stmt} {scope : Scope} {dV kV doc pm cdv ct oc : Value} {an od : Option Addr}
    {osl : Array (Option Value)} {N ps : List Str} {sp : Sp} (lk : K.lookup f = some ⟨oc, od, .func (PySem.W.fnOf name qual params body scope dV kV doc pm an cdv ct), osl⟩) (hcd : PySem.W.codeIn K cdv qual = true) (S : FnScope N ps scope)
    (len : ∀ vs H Q E, sp vs H Q E → vs.length = ps.length)
    (hb : ∀ (A : Around) (outer : List Env) (s : Shared) (H : Hp) (vs : List V) (Q : VK) (E : XK), Room k (A.deeper (envOfC qual scope s.heap.objs.size f cdv)) → A.guards = some [] → sp vs H Q E →
      ∃ t, PSs (cxOf CX0 P w K mg base N qual scope f cdv A outer s H E) body t ∧ t { nx := fun _ H' => Q .non H', rt := Q } (start N vs) H) :
    FnOkG P w K mg base (k + 1) f (PySem.W.fnOf name qual params body scope dV kV doc pm an cdv ct) ps sp := by
  refine ⟨len, fun A outer s H args us vs Q E room hg e0 bind r hsp => ?_⟩
  have kin : K.In s.heap := e0.mod.kin.keeps fun b o e => (e0.bs b o e).1
  have nol : s.heap.NoLimit := e0.mod.nolimit.keeps fun b o e => (e0.bs b o e).1
  have kind : ∀ y ∈ ps.zip us, scope.names.lookup y.1 = some .local ∨ (scope.names.lookup y.1 = some .cell ∧ ((cellsFrom (s.heap.objs.size + 1) scope.names []).lookup y.1).isSome = true) := fun ⟨n, v⟩ hy =>
    (S.par n (List.of_mem_zip hy).1).imp id fun q => ⟨q, PySem.W.cellsFrom_some _ _ _ (.inl q)⟩
  refine codeAny_call_function room.depth (kin _ _ lk) rfl S.co S.gen rfl (PySem.W.codeRec_of kin hcd) (bind _ _ _ _ (wpAny_newFunctionEnv_cells S.kind kind fun env he s1 x => ?_))
  subst he
  refine ⟨nol.keeps x.toInCall.keep, codeAny_func ?_⟩
  obtain ⟨t, ht, hq⟩ := hb A outer s H vs Q E (room.deeper _) hg hsp
  have J0 : Inv (cxOf CX0 P w K mg base N qual scope f cdv A outer s H E) [] (start N vs) H s1 := inv_start S room.hd e0 (len _ _ _ _ hsp) r x
  refine wpAny_mono (ht.run [] s1 (start N vs) H _ J0 hq) (fun fl s' hs => ?_) fun e s' hs => hs
  cases fl with
  | ret u =>
    obtain ⟨v, σ', H', J, rv, q⟩ := hs
    exact ⟨v, H', J.os, J.bare, J.base, J.hok, rv, q⟩
  | next =>
    obtain ⟨σ', H', J, q⟩ := hs
    exact ⟨.non, H', J.os, J.bare, J.base, J.hok, rfl, q⟩
  | brk =>
    obtain ⟨_, _, _, q⟩ := hs
    cases q
  | cont =>
    obtain ⟨_, _, _, q⟩ := hs
    cases q
/-! ### calls under promises with guards -/
theorem pe_callG {X : Cx} {k : Nat} {f : Addr} {fd : FuncData} {ps : List Str} {sp : Sp} {x : Str} {p pos : Pos} {e : Expr} {es : List Expr} {t : TA} (F : FnOkG X.prog X.w X.K X.mg X.base k f fd ps sp) (hr : Room k X.A) (gd : X.A.guards = some []) (hg : Gl X x) (hm : X.mg x = some (.ref f)) (hk : PySem.W.keepIn X.K (.ref f) = true) (hb : Binds X.K fd ps [])
    (ha : PA X (e :: es) t) (hdb : (x == ("__debug__" : Str)) = false := by decide) (he : starEach (e :: es) X.env = (false, eval e X.env) :: starEach es X.env := by rfl) (hpl : (backTo pos (starEach es X.env)).any (·.1) = false := by rfl) :
    PE X (.Call (.Name x p) (e :: es) [] pos) (tCall sp [] E0 t) := by
  refine ⟨fun pins s σ H Q I h => wpAny_Call_Name_kw (ld_glob I hg hm ?_ hdb)⟩
  refine PySem.W.callWith_K (h₀ := X.base) I.ok.mod.kin hk (thn (ha.run pos pins s σ H _ I h) fun us s1 ⟨vs, H1, I1, r, q⟩ => ⟨I1.kIn, ?_⟩) he hpl
  have q : sp (vs ++ []) H1 Q E0 := q
  rw [List.append_nil] at q
  have hl : (us ++ []).length = ps.length := by rw [List.append_nil, ← r.length]; exact F.len _ _ _ _ q
  have bd := hb s1 us I1.kIn hl
  rw [List.append_nil] at bd
  refine wpAny_call (codeAny_mono (F.run X.A X.stack s1 H1 ⟨us, []⟩ us vs Q E0 hr gd I1.env0 bd r q) fun o s' hq => ?_)
  cases o with
  | error u => exact (pass0 (X := X)) pins σ H1 s1 u s' I1 hq
  | ok fl =>
    cases fl with
    | ret u => exact I1.after hq
    | next => exact False.elim hq
    | brk => exact False.elim hq
    | cont => exact False.elim hq

theorem okG {P : Program} {w : World} {K : PySem.W.Frag} {mg : Str → Option Value} {base : Heap} {x qual : Str} {params : Arguments} {body : List Stmt} {scope : Scope} {dvs : List V} {kws : List (Str × V)} {f : Addr} {fd : FuncData} {N ps : List Str} {k : Nat} {sp : Sp} (F : FunD K x qual params body scope dvs kws f fd) (S : FnScope N ps scope) (len : ∀ vs H Q E, sp vs H Q E → vs.length = ps.length)
    (hbody : ∀ (cdv : Value) (A : Around) (outer : List Env) (s : Shared) (H : Hp) (vs : List V) (Q : VK) (E : XK), Room k (A.deeper (envOfC qual scope s.heap.objs.size f cdv)) → A.guards = some [] → sp vs H Q E →
      ∃ t, PSs (cxOf CX0 P w K mg base N qual scope f cdv A outer s H E) body t ∧ t { nx := fun _ H' => Q .non H', rt := Q } (start N vs) H) : FnOkG P w K mg base (k + 1) f fd ps sp := by
  obtain ⟨oc, od, dV, kV, doc, pm, an, cdv, ct, osl, rfl, lk, hcd, _, _⟩ := F.ex
  exact fn_ofG lk hcd S len fun A outer s H vs Q E hr hg hsp => hbody cdv A outer s H vs Q E hr hg hsp
/-- room, and no guard around -/
structure RG (k : Nat) (A : Around) : Prop where
  r : Room k A
  g : A.guards = some []
/-! ### calls of defs -/
abbrev Fn := List PyData → KF → Bool
def RA (K : PySem.W.Frag) (pp : Addr) (F : Hp) (v : V) (d : PyData) : Prop := Rp K F v d ∨ (d = potD ∧ v = .ref pp)
theorem RA.mono {K : PySem.W.Frag} {pp : Addr} {F F' : Hp} {v : V} {d : PyData} (e : Same F F') (h : RA K pp F v d) : RA K pp F' v d := h.elim (fun h => .inl (h.mono e)) .inr
abbrev RAs (K : PySem.W.Frag) (pp : Addr) (F : Hp) : List V → List PyData → Prop := Paired (RA K pp F)
def spOf (K : PySem.W.Frag) (m : Fn) (n : Nat) : Sp := fun vs H Q _ => vs.length = n ∧ ∃ (pp : Addr) (F : Hp) (ds : List PyData) (k : KF), Bs pp F H ∧ RAs K pp F vs ds ∧ m ds k = true ∧ ∀ d v F' H', Stp pp F H F' H' → Rp K F' v d → k d = true → Q v H'
def OkP (K : PySem.W.Frag) (W : Wd) (t : TA) (e : DA) : Prop := ∀ (env : Sls) (σ : L2.St) (F H : Hp) (k : List PyData → Bool) (Q : List V → Hp → Prop), Rel K W env σ F H → e env k = true → (∀ ds vs F' H', Stp W.pp F H F' H' → RAs K W.pp F' vs ds → k ds = true → Q vs H') → t σ H Q
structure SAP (W : Wd) (X : Cx) (es : List Expr) (da : DA) : Prop where
  ex : ∃ t, PA X es t ∧ OkP X.K W t da
structure SKP (W : Wd) (X : Cx) (kws : List Keyword) (da : DA) : Prop where
  ex : ∃ t, PK X kws t ∧ OkP X.K W t da
def aPot (i : Nat) (r : DA) : DA := fun env k => match look env i with
  | .pt => r env fun xs => k (potD :: xs)
  | _ => false
def dCall (m : Fn) (a : DA) : DE := fun env k => a env fun ds => m ds k
structure Has (P : Program) (w : World) (K : PySem.W.Frag) (mg : Str → Option Value) (base : Heap) (lev : Nat) (x : Str) (ps : List Str) (m : Fn) : Prop where
  ex : ∃ f fd, FnOkG P w K mg base lev f fd ps (spOf K m ps.length) ∧ mg x = some (.ref f) ∧ PySem.W.keepIn K (.ref f) = true ∧ Binds K fd ps [] ∧ ∃ oc od osl, K.lookup f = some ⟨oc, od, .func fd, osl⟩
theorem Has.mono {P : Program} {w : World} {K : PySem.W.Frag} {mg : Str → Option Value} {base : Heap} {j l : Nat} {x : Str} {ps : List Str} {m : Fn} (h : Has P w K mg base j x ps m) (e : j ≤ l) : Has P w K mg base l x ps m := by
  obtain ⟨f, fd, F, a, b, c, d⟩ := h
  exact ⟨f, fd, F.mono e, a, b, c, d⟩
/-- another function told of the def: told less -/
theorem Has.imp {P : Program} {w : World} {K : PySem.W.Frag} {mg : Str → Option Value} {base : Heap} {l : Nat} {x : Str} {ps : List Str} {m m' : Fn} (h : Has P w K mg base l x ps m) (e : ∀ ds k, m' ds k = true → m ds k = true) : Has P w K mg base l x ps m' := by
  obtain ⟨f, fd, F, a, b, c, d⟩ := h
  exact ⟨f, fd, F.imp fun vs H Q E ⟨hl, pp, F0, ds, k, B, r, hm, q⟩ => ⟨hl, pp, F0, ds, k, B, r, e ds k hm, q⟩, a, b, c, d⟩
section
variable {W : Wd} {X : Cx} {K : PySem.W.Frag} {ea : Expr} {es : List Expr} {da : DE} {dr : DA} {pos : Pos}
theorem sp_nil : SAP W X [] aNil := ⟨_, pa_nil, fun env σ F H k Q R h q => q [] [] F H (Stp.refl R.bs) .nil h⟩
theorem sp_cons (a : SE W X ea da) (r : SAP W X es dr) (hs : starEach (ea :: es) X.env = (false, eval ea X.env) :: starEach es X.env := by rfl) : SAP W X (ea :: es) (aCons da dr) := by
  obtain ⟨t1, p1, o1⟩ := a
  obtain ⟨t2, p2, o2⟩ := r
  refine ⟨_, pa_cons p1 p2 hs, fun env σ F H k Q R h q => ?_⟩
  exact o1 env σ F H _ _ R h fun d v F1 H1 s1 r1 h1 => o2 env σ F1 H1 _ _ (R.step s1) h1 fun ds vs F2 H2 s2 r2 h2 => q (d :: ds) (v :: vs) F2 H2 (s1.trans s2) (.cons (.inl (r1.mono s2.ff)) r2) h2
theorem sp_pot {i : Nat} {x : Str} {pos' : Pos} (r : SAP W X es dr) (hN : X.N[i]? = some x := by rfl) (hv : Vis X.env.scope x := by first | exact Or.inl rfl | exact Or.inr (Or.inl rfl) | exact Or.inr (Or.inr rfl)) (hd : (x == ("__debug__" : Str)) = false := by decide)
    (hcd : (x == ("__classdict__" : Str)) = false := by decide) (hs : starEach (.Name x pos' :: es) X.env = (false, eval (.Name x pos') X.env) :: starEach es X.env := by rfl) : SAP W X (.Name x pos' :: es) (aPot i dr) := by
  obtain ⟨t2, p2, o2⟩ := r
  refine ⟨_, pa_cons (pe_var hN hv hd hcd) p2 hs, fun env σ F H k Q R h q => ?_⟩
  unfold aPot at h
  cases e : look env i with
  | pt =>
    rw [e] at h
    have h0 : σ[i]? = some (some (.ref W.pp)) := R.sl i _ (look_some e (fun z => nomatch z))
    exact ⟨_, h0, o2 env σ F H _ _ R h fun ds vs F2 H2 s2 r2 h2 => q (potD :: ds) (.ref W.pp :: vs) F2 H2 s2 (.cons (.inr ⟨rfl, rfl⟩) r2) h2⟩
  | _ => rw [e] at h; cases h
theorem sk_nil : SKP W X [] aNil := ⟨_, pk_nil, fun env σ F H k Q R h q => q [] [] F H (Stp.refl R.bs) .nil h⟩
theorem sk_cons {kws : List Keyword} {nm : Option Str} {kpos : Pos} (a : SE W X ea da) (r : SKP W X kws dr) : SKP W X (⟨nm, ea, kpos⟩ :: kws) (aCons da dr) := by
  obtain ⟨t1, p1, o1⟩ := a
  obtain ⟨t2, p2, o2⟩ := r
  refine ⟨_, pk_cons p1 p2, fun env σ F H k Q R h q => ?_⟩
  exact o1 env σ F H _ _ R h fun d v F1 H1 s1 r1 h1 => o2 env σ F1 H1 _ _ (R.step s1) h1 fun ds vs F2 H2 s2 r2 h2 => q (d :: ds) (v :: vs) F2 H2 (s1.trans s2) (.cons (.inl (r1.mono s2.ff)) r2) h2
theorem sk_pot {kws : List Keyword} {nm : Option Str} {kpos : Pos} {i : Nat} {x : Str} {pos' : Pos} (r : SKP W X kws dr) (hN : X.N[i]? = some x := by rfl) (hv : Vis X.env.scope x := by first | exact Or.inl rfl | exact Or.inr (Or.inl rfl) | exact Or.inr (Or.inr rfl)) (hd : (x == ("__debug__" : Str)) = false := by decide)
    (hcd : (x == ("__classdict__" : Str)) = false := by decide) : SKP W X (⟨nm, .Name x pos', kpos⟩ :: kws) (aPot i dr) := by
  obtain ⟨t2, p2, o2⟩ := r
  refine ⟨_, pk_cons (pe_var hN hv hd hcd) p2, fun env σ F H k Q R h q => ?_⟩
  unfold aPot at h
  cases e : look env i with
  | pt =>
    rw [e] at h
    have h0 : σ[i]? = some (some (.ref W.pp)) := R.sl i _ (look_some e (fun z => nomatch z))
    exact ⟨_, h0, o2 env σ F H _ _ R h fun ds vs F2 H2 s2 r2 h2 => q (potD :: ds) (.ref W.pp :: vs) F2 H2 s2 (.cons (.inr ⟨rfl, rfl⟩) r2) h2⟩
  | _ => rw [e] at h; cases h
theorem paired_len {K : PySem.W.Frag} {pp : Addr} {F : Hp} {vs : List V} {ds : List PyData} (h : RAs K pp F vs ds) : vs.length = ds.length := Paired.length h
/-- a call needs as many values as there are parameters -/
def dCallN (n : Nat) (m : Fn) (a : DA) : DE := fun env k => a env fun ds => match Nat.beq ds.length n with
  | true => m ds k
  | false => false
theorem okE_call {t : TA} {m : Fn} {n : Nat} {E : XK} (a : OkP K W t dr) : OkE K W (tCall (spOf K m n) [] E t) (dCallN n m dr) := fun env σ F H k Q R h q => by
  refine a env σ F H _ _ R h fun ds vs F1 H1 s1 r1 h1 => ?_
  cases e : Nat.beq ds.length n with
  | false => simp only [e] at h1; cases h1
  | true =>
    simp only [e] at h1
    show spOf K m n (vs ++ []) H1 Q E
    rw [List.append_nil]
    exact ⟨by rw [paired_len r1]; exact Nat.eq_of_beq_eq_true e, W.pp, F1, ds, k, (R.step s1).bs, r1, h1, fun d v F2 H2 s2 r2 h2 => q d v F2 H2 (s1.trans s2) r2 h2⟩
theorem se_call {l n : Nat} {x : Str} {ps : List Str} {m : Fn} {p : Pos} (h : Has X.prog X.w X.K X.mg X.base l x ps m) (hr : RG l X.A) (a : SAP W X (ea :: es) dr) (hg : Gl X x := by rfl) (hdb : (x == ("__debug__" : Str)) = false := by decide)
    (he : starEach (ea :: es) X.env = (false, eval ea X.env) :: starEach es X.env := by rfl) (hpl : (backTo pos (starEach es X.env)).any (·.1) = false := by rfl) (hn : ps.length = n := by rfl) : SE W X (.Call (.Name x p) (ea :: es) [] pos) (dCallN n m dr) := by
  subst hn
  obtain ⟨f, fd, F, h1, h2, h3, _⟩ := h
  obtain ⟨t, pa, o⟩ := a
  exact ⟨_, pe_callG F hr.r hr.g hg h1 h2 h3 pa hdb he hpl, okE_call (E := E0) o⟩
end

/-! ### statements -/
structure DEnds where
  nx : Sls → Bool
  rt : PyData → Bool
  bk : Sls → Bool
  ct : Sls → Bool
abbrev DS := DEnds → Sls → Bool
/-- what may be told at a return: frozen data, or a new list -/
def RtOk (K : PySem.W.Frag) (W : Wd) (F H : Hp) (v : V) (d : PyData) : Prop := match W.fr with
  | false => Rp K F v d
  | true => ∃ p xs ds, v = .ref p ∧ d = .list ds ∧ H p = some (.lst xs) ∧ F p = none ∧ W.H0 p = none ∧ p ≠ W.pp ∧ RpAll K F xs ds
theorem rtOk_fz {K : PySem.W.Frag} {W : Wd} {F H : Hp} {v : V} {d : PyData} (e : W.fr = false) (h : Rp K F v d) : RtOk K W F H v d := by
  unfold RtOk
  rw [e]
  exact h
structure EndsOk (K : PySem.W.Frag) (W : Wd) (F : Hp) (B : DEnds) (D : Ends) : Prop where
  nx : ∀ env σ F' H, Same F F' → Rel K W env σ F' H → B.nx env = true → D.nx σ H
  rt : ∀ d v F' H, Stp W.pp W.F0 W.H0 F' H → RtOk K W F' H v d → B.rt d = true → D.rt v H
  bk : ∀ env σ F' H, Same F F' → Rel K W env σ F' H → B.bk env = true → D.bk σ H
  ct : ∀ env σ F' H, Same F F' → Rel K W env σ F' H → B.ct env = true → D.ct σ H
theorem EndsOk.mono {K : PySem.W.Frag} {W : Wd} {F F1 : Hp} {B : DEnds} {D : Ends} (e : Same F F1) (h : EndsOk K W F B D) : EndsOk K W F1 B D :=
  ⟨fun env σ F' H s => h.nx env σ F' H (e.trans s), h.rt, fun env σ F' H s => h.bk env σ F' H (e.trans s), fun env σ F' H s => h.ct env σ F' H (e.trans s)⟩
def OkS (K : PySem.W.Frag) (W : Wd) (t : TS) (d : DS) : Prop := ∀ (env : Sls) (σ : L2.St) (F H : Hp) (B : DEnds) (D : Ends), Rel K W env σ F H → d B env = true → EndsOk K W F B D → t D σ H
structure SS (W : Wd) (X : Cx) (st : Stmt) (d : DS) : Prop where
  ex : ∃ t, PS X st t ∧ OkS X.K W t d
structure SSs (W : Wd) (X : Cx) (st : List Stmt) (d : DS) : Prop where
  ex : ∃ t, PSs X st t ∧ OkS X.K W t d
def sNil : DS := fun B env => B.nx env
def sSeq (a b : DS) : DS := fun B env => a { B with nx := b B } env
def sRet (a : DE) : DS := fun B env => a env B.rt
def sRetN : DS := fun B _ => B.rt .none
def sAsg (a : DE) (g : DG) : DS := fun B env => a env fun d => g d env B.nx
def sIf (c : DT) (a b : DS) : DS := fun B env => c env fun x => match x with
  | true => a B env
  | false => b B env
def sExpr (a : DE) : DS := fun B env => a env fun _ => B.nx env
def sNever : DS := fun _ _ => false
def sBrk : DS := fun B env => B.bk env
def sCont : DS := fun B env => B.ct env
/-- the slot's list is frozen from here on -/
def freeze (env : Sls) (i : Nat) : Option Sls := match look env i with
  | .ow ds => some (env.set i (.fz (.list ds)))
  | _ => none
def sFrz (i : Nat) (a : DS) : DS := fun B env => match freeze env i with
  | some env' => a B env'
  | none => false
def goFor (g : DG) (body : DS) (B : DEnds) : List PyData → Sls → Bool
  | [], env => B.nx env
  | x :: xs, env => g x env fun env' => body { nx := goFor g body B xs, rt := B.rt, ct := goFor g body B xs, bk := B.nx } env'
def sFor (it : DI) (g : DG) (body : DS) : DS := fun B env => it env fun xs => goFor g body B xs env
def goWh (c : DT) (body : DS) (B : DEnds) : Nat → Sls → Bool
  | 0, _ => false
  | n + 1, env => c env fun x => match x with
    | true => body { nx := goWh c body B n, rt := B.rt, ct := goWh c body B n, bk := B.nx } env
    | false => B.nx env
def sWh (fuel : Nat) (c : DT) (body : DS) : DS := fun B env => goWh c body B fuel env
section
variable {W : Wd} {X : Cx} {K : PySem.W.Frag} {st : Stmt} {rest : List Stmt} {a b : DS} {e : Expr} {de : DE} {pos : Pos}
theorem ss_nil : SSs W X [] sNil := ⟨_, pss_nil, fun env σ F H B D R h q => q.nx env σ F H (Same.refl F) R h⟩
theorem ss_cons (h1 : SS W X st a) (h2 : SSs W X rest b) : SSs W X (st :: rest) (sSeq a b) := by
  obtain ⟨t1, p1, o1⟩ := h1
  obtain ⟨t2, p2, o2⟩ := h2
  refine ⟨_, pss_cons p1 p2, fun env σ F H B D R h q => ?_⟩
  exact o1 env σ F H _ _ R h ⟨fun env' σ' F' H' e R' h' => o2 env' σ' F' H' _ _ R' h' (q.mono e), q.rt, q.bk, q.ct⟩
theorem ss_one (h1 : SS W X st a) : SSs W X [st] a := by
  obtain ⟨t1, p1, o1⟩ := h1
  exact ⟨_, pss_one p1, o1⟩
theorem ss_frz {i : Nat} (h : SSs W X rest a) : SSs W X rest (sFrz i a) := by
  obtain ⟨t, p, o⟩ := h
  refine ⟨t, p, fun env σ F H B D R h q => ?_⟩
  unfold sFrz freeze at h
  cases e : look env i with
  | ow ds =>
    rw [e] at h
    obtain ⟨F', sf, R'⟩ := R.fzo (look_some e (fun z => nomatch z))
    exact o _ σ F' H B D R' h (q.mono sf)
  | _ => rw [e] at h; cases h
theorem ss_ret (hw : W.fr = false) (h : SE W X e de) : SS W X (.Return (some e) pos) (sRet de) := by
  obtain ⟨t, p, o⟩ := h
  exact ⟨_, ps_ret p, fun env σ F H B D R h q => o env σ F H _ _ R h fun d v F' H' s r hk => q.rt d v F' H' (R.st.trans s) (rtOk_fz hw r) hk⟩
theorem ss_retN (hw : W.fr = false) : SS W X (.Return none pos) sRetN := ⟨_, ps_retN, fun env σ F H B D R h q => q.rt _ _ F H R.st (rtOk_fz hw .non) h⟩
theorem okS_asg {t : TE} {tg : TG} {g : DG} {sl : List Nat} (o : OkE K W t de) (og : OkG K W tg g sl) : OkS K W (tAsg t tg) (sAsg de g) := fun env σ F H B D R h q =>
  o env σ F H _ _ R h fun d v F' H' s r hk => og env σ F' H' v d _ _ (R.step s) r hk fun env' σ' R' _ _ h' => q.nx env' σ' F' H' s.ff R' h'
theorem ss_asg {tg : Expr} {g : DG} {sl : List Nat} (h : SE W X e de) (hg : SG W X tg g sl) (hs : swapsWithSole [tg] e pos.line X.env = pure false := by rfl) (hw : swappedStores [tg] e X.env = pure none := by rfl)
    (h1 : (assignEach [tg] X.env).map (·.2) = [assign tg X.env] := by rfl) : SS W X (.Assign [tg] e pos) (sAsg de g) := by
  obtain ⟨t, p, o⟩ := h
  obtain ⟨t2, p2, o2⟩ := hg
  exact ⟨_, ps_asg p p2 hs hw h1, okS_asg o o2⟩
theorem okG_name {i : Nat} : OkG K W (gName i) (gN i) [i] := fun env σ F H v d k Q R rp h q => q _ _ (R.set rp i) (fun j hj => by rw [List.getElem?_set_ne (fun z => hj (by simp [z]))]) (List.length_set ..) h
theorem ss_set {i : Nat} {x : Str} {pos' : Pos} (hN : X.N.Nodup) (h : SE W X e de) (hi : X.N[i]? = some x := by rfl) (hx : Loc X.env.scope x := by first | exact Or.inl rfl | exact Or.inr rfl) (hs : swapsWith e (some (.Name x pos')) pos.line X.env = pure false := by rfl)
    (hf : X.fn x = true ∨ X.env.scope.names.lookup x = some .local := by first | exact .inl rfl | exact .inr rfl) : SS W X (.Assign [.Name x pos'] e pos) (sAsg de (gN i)) := by
  obtain ⟨t, p, o⟩ := h
  exact ⟨_, ps_set hN hi hx p hs hf, okS_asg o okG_name⟩
theorem ss_setlc {i : Nat} (h : ∃ te, PS X st (tAsg te (gName i)) ∧ OkE X.K W te de) : SS W X st (sAsg de (gN i)) := by
  obtain ⟨t, p, o⟩ := h
  exact ⟨_, p, okS_asg o okG_name⟩
/-- x, y = a, b by plain names -/
def sPar (i j : Nat) (a : DA) : DS := fun B env => a env fun ds => match ds with
  | [d, e] => B.nx ((env.set i (.fz d)).set j (.fz e))
  | _ => false
theorem ss_par {i j : Nat} {x y : Str} {ea eb : Expr} {da : DA} {px py pt : Pos} {kt k2 pt2} (hc : X.calm = true) (hN : X.N.Nodup) (ha : SA W X [ea, eb] da) (hi : X.N[i]? = some x := by rfl) (hj : X.N[j]? = some y := by rfl) (hij : i ≠ j := by decide)
    (hx : X.env.scope.names.lookup x = some .local := by rfl) (hy : X.env.scope.names.lookup y = some .local := by rfl)
    (hw : swappedStores [.Tuple [.Name x px, .Name y py] kt pt] (.Tuple [ea, eb] k2 pt2) X.env = pure (some [x, y]) := by rfl)
    (hs : swapsWithSole [.Tuple [.Name x px, .Name y py] kt pt] (.Tuple [ea, eb] k2 pt2) pos.line X.env = pure false := by rfl) :
    SS W X (.Assign [.Tuple [.Name x px, .Name y py] kt pt] (.Tuple [ea, eb] k2 pt2) pos) (sPar i j da) := by
  obtain ⟨t, p, o⟩ := ha
  refine ⟨_, ps_par hc hN hi hj hij hx hy p hw hs, fun env σ F H B D R h q => ?_⟩
  refine o env σ F H _ _ R h fun ds vs F1 H1 s1 r1 h1 => ?_
  cases r1 with
  | nil => cases h1
  | @cons v1 vs d1 ds r1 rr =>
    cases rr with
    | nil => cases h1
    | @cons v2 vs d2 ds r2 rr =>
      cases rr with
      | cons _ _ => cases h1
      | nil => exact ⟨v1, v2, rfl, q.nx _ _ F1 H1 s1.ff (((R.step s1).set r1 i).set r2 j) h1⟩
theorem ss_if {c : Expr} {sa sb : List Stmt} {dc : DT} (hc : ST W X c dc) (ha : SSs W X sa a) (hb : SSs W X sb b) : SS W X (.If c sa sb pos) (sIf dc a b) := by
  obtain ⟨t0, p0, o0⟩ := hc
  obtain ⟨t1, p1, o1⟩ := ha
  obtain ⟨t2, p2, o2⟩ := hb
  refine ⟨_, ps_if p0 p1 p2, fun env σ F H B D R h q => o0 env σ F H _ _ R h fun x F1 H1 s1 h1 => ?_⟩
  cases x with
  | true => rw [if_pos rfl]; exact o1 env σ F1 H1 B D (R.step s1) h1 (q.mono s1.ff)
  | false => rw [if_neg Bool.false_ne_true]; exact o2 env σ F1 H1 B D (R.step s1) h1 (q.mono s1.ff)
theorem ss_expr (h : SE W X e de) (hs : swapsWith e none pos.line X.env = pure false := by rfl) : SS W X (.Expr e pos) (sExpr de) := by
  obtain ⟨t, p, o⟩ := h
  exact ⟨_, ps_expr p hs, fun env σ F H B D R h q => o env σ F H _ _ R h fun d v F1 H1 s1 r1 h1 => q.nx env σ F1 H1 s1.ff (R.step s1) h1⟩
theorem ss_never : SS W X st sNever := ⟨_, ps_never, fun env σ F H B D R h q => nomatch h⟩
theorem ss_neverS : SSs W X rest sNever := ⟨_, pss_never, fun env σ F H B D R h q => nomatch h⟩
theorem ss_brk : SS W X (.Break pos) sBrk := ⟨_, ps_break, fun env σ F H B D R h q => q.bk env σ F H (Same.refl F) R h⟩
theorem ss_cont : SS W X (.Continue pos) sCont := ⟨_, ps_continue, fun env σ F H B D R h q => q.ct env σ F H (Same.refl F) R h⟩
theorem ss_for {tg iter : Expr} {body : List Stmt} {di : DI} {g : DG} {sl : List Nat} (hp : PassesOwn (model X.prog X.w) X.A X.env X.xe) (hc : X.calm = true) (hi : SI W X tg iter di) (hg : SG W X tg g sl) (hb : SSs W X body a)
    (hs : ∀ x, foldedSetIterable iter X.env x = pure x := by intro _; rfl) : SS W X (.For tg iter body [] pos) (sFor di g a) := by
  obtain ⟨wi, p0, o0⟩ := hi
  obtain ⟨t1, p1, o1⟩ := hg
  obtain ⟨t2, p2, o2⟩ := hb
  refine ⟨_, ps_for hp hc p0 p1 p2 hs, fun env σ F H B D R h q => o0 env σ F H _ _ R h fun ds J F1 H1 s1 wk h1 => ?_⟩
  obtain ⟨G, Y, w1, w2, w3⟩ := wk
  have R1 := R.step s1
  refine for_it w1 (fun i σ' H' => ∃ env' F', Same F1 F' ∧ Rel X.K W env' σ' F' H' ∧ goFor g a B (ds.drop i) env' = true) ⟨env, F1, Same.refl F1, R1, h1⟩
    (fun i σ' H' _ ⟨env', F', e, R', _⟩ => w2 F' H' e R'.bs.fh) (fun i x σ' H' H2 hi ⟨env', F', e, R', hg⟩ y => ?_) (fun σ' H' ⟨env', F', e, R', hg⟩ => ?_)
  · have hd : ds[i]? = some ds[i] := List.getElem?_eq_getElem hi
    have hdr : ds.drop i = ds[i] :: ds.drop (i + 1) := List.drop_eq_getElem_cons hi
    rw [hdr] at hg
    obtain ⟨F2, s2, r2⟩ := w3 i H' x H2 F' ds[i] e R'.bs hd y
    unfold goFor at hg
    refine o1 env' σ' F2 H2 x _ _ _ (R'.step s2) r2 hg fun env2 σ2 R2 _ _ h2 => ?_
    refine o2 env2 σ2 F2 H2 _ _ R2 h2 ⟨fun env3 σ3 F3 H3 e3 R3 h3 => ⟨env3, F3, (e.trans s2.ff).trans e3, R3, h3⟩, q.rt, fun env3 σ3 F3 H3 e3 R3 h3 => q.nx env3 σ3 F3 H3 (((s1.ff.trans e).trans s2.ff).trans e3) R3 h3, fun env3 σ3 F3 H3 e3 R3 h3 => ⟨env3, F3, (e.trans s2.ff).trans e3, R3, h3⟩⟩
  · rw [List.drop_length] at hg
    exact q.nx env' σ' F' H' (s1.ff.trans e) R' hg
theorem ss_wh {c : Expr} {body : List Stmt} {dc : DT} (fuel : Nat) (hp : PassesOwn (model X.prog X.w) X.A X.env X.xe) (hc : ST W X c dc) (hb : SSs W X body a) : SS W X (.While c body [] pos) (sWh fuel dc a) := by
  obtain ⟨t0, p0, o0⟩ := hc
  obtain ⟨t1, p1, o1⟩ := hb
  refine ⟨_, ps_while hp p0 p1, fun env σ F H B D R h q => ?_⟩
  refine ⟨fun m σ' H' => ∃ env' F', Same F F' ∧ Rel X.K W env' σ' F' H' ∧ goWh dc a B m env' = true, ⟨fuel, env, F, Same.refl F, R, h⟩, fun m σ' H' ⟨env', F', e, R', hg⟩ => ?_⟩
  cases m with
  | zero => cases hg
  | succ m =>
    unfold goWh at hg
    refine o0 env' σ' F' H' _ _ R' hg fun x F1 H1 s1 h1 => ?_
    cases x with
    | true =>
      rw [if_pos rfl]
      refine ⟨fun σ2 H2 => ∃ env2 F2, Same F F2 ∧ Rel X.K W env2 σ2 F2 H2 ∧ goWh dc a B m env2 = true, fun σ2 H2 z => ⟨m, Nat.lt_succ_self m, z⟩, ?_⟩
      exact o1 env' σ' F1 H1 _ _ (R'.step s1) h1 ⟨fun env3 σ3 F3 H3 e3 R3 h3 => ⟨env3, F3, (e.trans s1.ff).trans e3, R3, h3⟩, q.rt, fun env3 σ3 F3 H3 e3 R3 h3 => q.nx env3 σ3 F3 H3 ((e.trans s1.ff).trans e3) R3 h3, fun env3 σ3 F3 H3 e3 R3 h3 => ⟨env3, F3, (e.trans s1.ff).trans e3, R3, h3⟩⟩
    | false =>
      rw [if_neg Bool.false_ne_true]
      exact q.nx env' σ' F1 H1 (e.trans s1.ff) (R'.step s1) h1
end
/-! ### defs -/
def startE (n : Nat) (ds : List PyData) : Sls := ds.map (fun d => match d with
  | .dict (_ :: _) => Sl.pt
  | d => .fz d) ++ List.replicate (n - ds.length) .no
def mOf (n : Nat) (body : DS) : Fn := fun ds k => body { nx := fun _ => k .none, rt := k, bk := fun _ => false, ct := fun _ => false } (startE n ds)
theorem ras_at {K : PySem.W.Frag} {pp : Addr} {F : Hp} : ∀ {vs : List V} {ds : List PyData} {i : Nat} {d : PyData}, RAs K pp F vs ds → ds[i]? = some d → ∃ v, vs[i]? = some v ∧ RA K pp F v d
  | _, _, _, _, .nil, e => by simp at e
  | _, _, 0, _, .cons h _, e => by simp at e; subst e; exact ⟨_, rfl, h⟩
  | _, _, i + 1, d, .cons _ a, e => by
    obtain ⟨v, h1, h2⟩ := ras_at (i := i) (d := d) a (by simpa using e)
    exact ⟨v, by simpa using h1, h2⟩
theorem rel_start {K : PySem.W.Frag} {pp : Addr} {F H : Hp} {vs : List V} {ds : List PyData} {N : List Str} {b : Bool} (B : Bs pp F H) (r : RAs K pp F vs ds) : Rel K ⟨pp, F, H, b⟩ (startE N.length ds) (L2.start N vs) F H := by
  have hl := paired_len r
  refine ⟨B, Stp.refl B, by unfold startE L2.start; rw [List.length_append, List.length_append, List.length_map, List.length_map, List.length_replicate, List.length_replicate, hl], fun i s e => ?_, fun i j p ds' es e1 _ _ _ => ?_⟩
  · unfold startE at e
    unfold L2.start
    by_cases hi : i < ds.length
    · rw [List.getElem?_append_left (by rw [List.length_map]; exact hi), List.getElem?_map] at e
      rw [List.getElem?_append_left (by rw [List.length_map, hl]; exact hi), List.getElem?_map]
      cases q : ds[i]? with
      | none => rw [q] at e; cases e
      | some d =>
        rw [q] at e
        obtain ⟨v, h1, h2⟩ := ras_at r q
        rw [h1]
        have e := Option.some.inj e
        rcases h2 with h2 | ⟨rfl, rfl⟩
        · have e2 : s = .fz d := by
            rw [← e]
            cases h2 <;> rfl
          subst e2
          exact ⟨v, rfl, h2⟩
        · subst e
          rfl
    · rw [List.getElem?_append_right (by rw [List.length_map]; omega)] at e
      have e2 := List.mem_of_getElem? e
      rw [(List.mem_replicate.mp e2).2]
      trivial
  · exfalso
    unfold startE at e1
    have e2 := List.mem_of_getElem? e1
    rcases List.mem_append.mp e2 with h | h
    · obtain ⟨d, _, hd⟩ := List.mem_map.mp h
      cases d with
      | dict kvs => cases kvs <;> cases hd
      | _ => cases hd
    · cases (List.mem_replicate.mp h).2
abbrev FnP (K : PySem.W.Frag) (x : Str) (st : Stmt) (f : Addr) (fd : FuncData) : Prop := FunD K x x (defArgs st) (defBody st) (defScope st) [] [] f fd
section
variable {P : Program} {w : World} {K : PySem.W.Frag} {mg : Str → Option Value} {base : Heap} {f : Addr} {fd : FuncData} {x : Str} {st : Stmt} {N ps : List Str} {body : DS} {l : Nat}
theorem has_of (F : FnP K x st f fd) (S : FnScope N ps (defScope st)) (hm : mg x = some (.ref f)) (hb : Binds K fd ps [])
    (h : ∀ (W : Wd) (hw : W.fr = false) (cdv : Value) (A : Around) (outer : List Env) (s : Shared) (H : Hp) (E : XK), RG l (A.deeper (envOfC x (defScope st) s.heap.objs.size f cdv)) → SSs W (cxOf CX0 P w K mg base N x (defScope st) f cdv A outer s H E).nox (defBody st) body) :
    Has P w K mg base (l + 1) x ps (mOf N.length body) := by
  have lk : ∃ oc od osl, K.lookup f = some ⟨oc, od, .func fd, osl⟩ := by
    obtain ⟨oc, od, _, _, _, _, _, _, _, osl, _, h2, _⟩ := F.ex
    exact ⟨oc, od, osl, h2⟩
  refine ⟨f, fd, okG F S (fun vs H Q E h => h.1) (fun cdv A outer s H vs Q E hr hg hs => ?_), hm, F.kp, hb, lk⟩
  obtain ⟨hl, pp, F0, ds, k, B, r, hmm, q⟩ := hs
  obtain ⟨t, p, o⟩ := h ⟨pp, F0, H, false⟩ rfl cdv A outer s H E ⟨hr, hg⟩
  refine ⟨t, p.nox, o _ _ F0 H _ _ (rel_start B r) hmm ⟨fun env σ F' H' _ R' hk => ?_, fun d v F' H' s' r' hk => q d v F' H' s' r' hk, (fun _ _ _ _ _ _ z => Bool.noConfusion z), (fun _ _ _ _ _ _ z => Bool.noConfusion z)⟩⟩
  exact q .none .non F' H' R'.st .non hk
/-! calls by keywords alone -/
def permD {α : Type} (z : α) (perm : List Nat) (ws : List α) : List α := perm.map fun i => ws.getD i z
def KBok (fd : FuncData) (ps ks : List Str) (perm : List Nat) : Prop := ∀ (s : Shared) (ws : List Value), ws.length = ks.length → BindsTo s fd ⟨[], ks.zip ws⟩ (ps.zip (permD .none perm ws))
structure HasK (P : Program) (w : World) (K : PySem.W.Frag) (mg : Str → Option Value) (base : Heap) (lev : Nat) (x : Str) (ps : List Str) (m : Fn) (ks : List Str) (perm : List Nat) : Prop where
  ex : ∃ f fd, FnOkG P w K mg base lev f fd ps (spOf K m ps.length) ∧ mg x = some (.ref f) ∧ PySem.W.keepIn K (.ref f) = true ∧ KBok fd ps ks perm
theorem Has.kb {m : Fn} {ks : List Str} {perm : List Nat} (h : Has P w K mg base l x ps m) (F : FnP K x st f fd) (hm : mg x = some (.ref f))
    (kb : ∀ (kV doc pm : Value) (an : Option Addr) (cdv ct : Value) (ws : List Value), ws.length = ks.length → bindArgs (PySem.W.fnOf x x (defArgs st) (defBody st) (defScope st) .none kV doc pm an cdv ct) ⟨[], ks.zip ws⟩ = pure (ps.zip (permD .none perm ws))) : HasK P w K mg base l x ps m ks perm := by
  obtain ⟨f', fd', h1, h2, h3, h4, oc, od, osl, h5⟩ := h
  rw [hm] at h2
  cases h2
  obtain ⟨oc2, od2, dV, kV, doc, pm, an, cdv, ct, osl2, rfl, lk, _, hD, _⟩ := F.ex
  rw [lk] at h5
  cases h5
  rcases hD with ⟨_, rfl⟩ | ⟨e, _⟩
  · exact ⟨_, _, h1, hm, h3, fun s ws hl => .of_eq (kb kV doc pm an cdv ct ws hl)⟩
  · exact absurd rfl e
theorem HasK.mono {j : Nat} {m : Fn} {ks : List Str} {perm : List Nat} (h : HasK P w K mg base j x ps m ks perm) (e : j ≤ l) : HasK P w K mg base l x ps m ks perm := by
  obtain ⟨f, fd, F, a, b, c⟩ := h
  exact ⟨f, fd, F.mono e, a, b, c⟩
end
def dCallK (n j : Nat) (perm : List Nat) (m : Fn) (a : DA) : DE := fun env k => a env fun ds => match Nat.beq ds.length j && Nat.beq perm.length n && perm.all fun i => Nat.blt i j with
  | true => m (permD .none perm ds) k
  | false => false
section
variable {W : Wd} {X : Cx} {dr : DA} {pos : Pos}
theorem ras_perm {K : PySem.W.Frag} {pp : Addr} {F : Hp} {vs : List V} {ds : List PyData} (r : RAs K pp F vs ds) : ∀ {perm : List Nat}, (∀ i ∈ perm, i < ds.length) → RAs K pp F (permD .non perm vs) (permD .none perm ds)
  | [], _ => .nil
  | i :: p, h => by
    have hi := h i List.mem_cons_self
    obtain ⟨v, h1, h2⟩ := ras_at r (List.getElem?_eq_getElem hi)
    refine .cons ?_ (ras_perm r fun j hj => h j (List.mem_cons_of_mem _ hj))
    show RA K pp F (vs.getD i .non) (ds.getD i .none)
    rw [List.getD_eq_getElem?_getD, List.getD_eq_getElem?_getD, h1, List.getElem?_eq_getElem hi]
    exact h2
theorem vals_perm {vs : List V} {us : List Value} (r : Vals vs us) : ∀ {perm : List Nat}, (∀ i ∈ perm, i < vs.length) → Vals (permD .non perm vs) (permD .none perm us)
  | [], _ => .nil
  | i :: p, h => by
    have hi := h i List.mem_cons_self
    obtain ⟨u, h1, h2⟩ := Vals.get r (List.getElem?_eq_getElem hi)
    refine .cons ?_ (vals_perm r fun j hj => h j (List.mem_cons_of_mem _ hj))
    show RelV (vs.getD i .non) (us.getD i .none)
    rw [List.getD_eq_getElem?_getD, List.getD_eq_getElem?_getD, h1, List.getElem?_eq_getElem hi]
    exact h2
def tCallK0 (sp : Sp) (j : Nat) (perm : List Nat) (E : XK) (tk : TA) : TE := fun σ H Q => tk σ H fun zs H2 => zs.length = j ∧ (∀ i ∈ perm, i < zs.length) ∧ sp (permD .non perm zs) H2 Q E
theorem pe_callK0 {l : Nat} {x : Str} {ps ks : List Str} {m : Fn} {perm : List Nat} {p : Pos} {kws : List Keyword} {tk : TA} (h : HasK X.prog X.w X.K X.mg X.base l x ps m ks perm) (hr : RG l X.A) (hkw : PK X kws tk) (hg : Gl X x)
    (hall : (backToKw pos (keywordEach kws X.env)).all (·.1.isSome) = true) (hks : (backToKw pos (keywordEach kws X.env)).filterMap (·.1) = ks) (hdb : (x == ("__debug__" : Str)) = false)
    (hpl : ((backTo pos (starEach [] X.env)).any (·.1) || (backToKw pos (keywordEach kws X.env)).any (·.1.isNone)) = false) : PE X (.Call (.Name x p) [] kws pos) (tCallK0 (spOf X.K m ps.length) ks.length perm E0 tk) := by
  obtain ⟨f, fd, F, hm, hk, hb⟩ := h
  refine ⟨fun pins s σ H Q I h => ?_⟩
  refine wpAny_Call_Name_kw (ld_glob I hg hm ?_ hdb)
  refine PySem.W.callWith_KW0 (h₀ := X.base) I.ok.mod.kin hk hall (thn (hkw.run pos pins s σ H _ I h) fun ws s2 ⟨zs, H2, I2, rz, l2, hp, q2⟩ => ⟨I2.kIn, ?_⟩) hpl
  rw [hks]
  have r2 := vals_perm rz hp
  refine wpAny_call (codeAny_mono (F.run X.A X.stack s2 H2 ⟨[], ks.zip ws⟩ (permD .none perm ws) (permD .non perm zs) Q E0 hr.r hr.g I2.env0 (hb s2 ws (rz.length.symm.trans l2)) r2 q2) fun r s' hq => ?_)
  cases r with
  | error e => exact (pass0 (X := X)) pins σ H2 s2 e s' I2 hq
  | ok fl =>
    cases fl with
    | ret u => exact I2.after hq
    | next => exact False.elim hq
    | brk => exact False.elim hq
    | cont => exact False.elim hq
theorem se_callk {l n j : Nat} {x : Str} {ps ks : List Str} {m : Fn} {perm : List Nat} {p : Pos} {kws : List Keyword} (h : HasK X.prog X.w X.K X.mg X.base l x ps m ks perm) (hr : RG l X.A) (a : SKP W X kws dr) (hg : Gl X x := by rfl)
    (hall : (backToKw pos (keywordEach kws X.env)).all (·.1.isSome) = true := by rfl) (hks : (backToKw pos (keywordEach kws X.env)).filterMap (·.1) = ks := by rfl) (hdb : (x == ("__debug__" : Str)) = false := by decide)
    (hpl : ((backTo pos (starEach [] X.env)).any (·.1) || (backToKw pos (keywordEach kws X.env)).any (·.1.isNone)) = false := by rfl) (hn : ps.length = n := by rfl) (hj : ks.length = j := by rfl) : SE W X (.Call (.Name x p) [] kws pos) (dCallK n j perm m dr) := by
  subst hn hj
  obtain ⟨tk, pk, o⟩ := a
  refine ⟨_, pe_callK0 h hr pk hg hall hks hdb hpl, fun env σ F H k Q R h q => o env σ F H _ _ R h fun ds vs F1 H1 s1 r1 h1 => ?_⟩
  cases e : (Nat.beq ds.length ks.length && Nat.beq perm.length ps.length && perm.all fun i => Nat.blt i ks.length) with
  | false => simp only [e] at h1; cases h1
  | true =>
    simp only [e] at h1
    obtain ⟨e1, e3⟩ := Bool.and_eq_true_iff.mp e
    obtain ⟨e1, e2⟩ := Bool.and_eq_true_iff.mp e1
    have l1 : ds.length = ks.length := Nat.eq_of_beq_eq_true e1
    have l2 : perm.length = ps.length := Nat.eq_of_beq_eq_true e2
    have hp : ∀ i ∈ perm, i < ds.length := fun i hi => by
      have := List.all_eq_true.mp e3 i hi
      rw [l1]
      exact Nat.le_of_ble_eq_true this
    refine ⟨(paired_len r1).trans l1, fun i hi => by rw [paired_len r1]; exact hp i hi, ?_, W.pp, F1, _, k, (R.step s1).bs, ras_perm r1 hp, h1, fun d v F2 H2 s2 r2 h2 => q d v F2 H2 (s1.trans s2) r2 h2⟩
    unfold permD
    rw [List.length_map]
    exact l2
end
end Dl

namespace Dl
open PySem PySem.Spec PyProof.Rows L2 PySem.Builtin PySem.Builtin.Str
/-! ### how long a written value is at most -/
mutual
def capR : PyData → Nat
  | .none => 4
  | .bool _ => 5
  | .int _ => 1921
  | .str x => Nat.add (Nat.mul 10 x.cps.size) 2
  | .list xs => Nat.add (capsR xs) 4
  | .tuple xs => Nat.add (capsR xs) 4
  | .dict _ => 2
def capsR : List PyData → Nat
  | [] => 0
  | x :: xs => Nat.add (Nat.add (capR x) 2) (capsR xs)
end
/-! showable, at most n deep, its texts of plain signs -/
mutual
def okR : Nat → PyData → Bool
  | _, .none => true
  | _, .bool _ => true
  | _, .int i => match i with
    | .ofNat n => Nat.ble (Nat.log2 n) 1919
    | .negSucc n => Nat.ble (Nat.log2 (Nat.succ n)) 1919
  | _, .str x => x.cps.all (fun c => Nat.ble c 127)
  | n + 1, .list xs => oksR n xs
  | n + 1, .tuple xs => oksR n xs
  | _, _ => false
def oksR : Nat → List PyData → Bool
  | _, [] => true
  | n, x :: xs => match okR n x with
    | true => oksR n xs
    | false => false
end
theorem textFrom_le : ∀ (ts : List Str) (k : Nat) (acc : Str), (textFrom k acc ts).length ≤ acc.length + piled ts
  | [], k, acc => by show acc.length ≤ _; omega
  | t :: r, k, acc => by
    have ih := textFrom_le r (k + 1) (acc ++ (if k > 0 then ", " else "" : String) ++ t)
    have e : (acc ++ (if k > 0 then ", " else "" : String) ++ t).length = acc.length + (if k > 0 then 2 else 0) + t.length := by
      rw [strLen_append, strLen_append]
      split <;> rfl
    rw [e] at ih
    show (textFrom (k + 1) _ r).length ≤ _
    rw [piled_cons]
    have h2 : (if k > 0 then 2 else 0 : Nat) ≤ 2 := by split <;> omega
    omega
theorem listText_le (ts : List Str) : (listText ts).length ≤ piled ts + 4 := by
  unfold listText
  have h := textFrom_le ts 0 "["
  rw [strLen_append]
  have e1 : ((("[" : String) : Str)).length = 1 := rfl
  have e2 : ((("]" : String) : Str)).length = 1 := rfl
  rw [e1] at h
  rw [e2]
  omega
theorem tupleText_le (ts : List Str) : (tupleText ts).length ≤ piled ts + 4 := by
  unfold tupleText
  rw [strLen_append, strLen_append]
  have e1 : ((("(" : String) : Str)).length = 1 := rfl
  have e3 : (((if ts.length == 1 then ",)" else ")" : String) : Str)).length ≤ 2 := by split <;> decide
  rw [e1]
  by_cases h : ts = []
  · subst h
    have : (Str.join ", " []).length = 0 := rfl
    rw [this]
    omega
  · have := join_length_add ts h
    omega
theorem quote_or (x : Str) : reprQuote x = 34 ∨ reprQuote x = 39 := by
  unfold reprQuote
  split
  · exact .inl rfl
  · exact .inr rfl
theorem reprChar_le {q c : Nat} (hq : q = 34 ∨ q = 39) (h : c ≤ 127) : (reprChar q c).length ≤ 10 := by
  have key : ∀ c, c < 128 → (reprChar 34 c).length ≤ 10 ∧ (reprChar 39 c).length ≤ 10 := by decide +kernel
  have k := key c (by omega)
  rcases hq with rfl | rfl
  · exact k.1
  · exact k.2
theorem reprFold_le {q : Nat} (hq : q = 34 ∨ q = 39) : ∀ (l : List Nat) (acc : Array Nat), (∀ c ∈ l, c ≤ 127) → (l.foldl (fun out c => out ++ (reprChar q c).toArray) acc).size ≤ acc.size + 10 * l.length
  | [], acc, _ => by simp
  | c :: r, acc, h => by
    have ih := reprFold_le hq r (acc ++ (reprChar q c).toArray) (fun c hc => h c (List.mem_cons_of_mem _ hc))
    have h1 := reprChar_le hq (h c List.mem_cons_self)
    rw [List.foldl_cons]
    have e : (acc ++ (reprChar q c).toArray).size = acc.size + (reprChar q c).length := by simp
    rw [e] at ih
    rw [List.length_cons]
    omega
theorem reprText_le (x : Str) (h : x.cps.all (fun c => Nat.ble c 127) = true) : (reprText x).length ≤ 10 * x.cps.size + 2 := by
  unfold reprText
  show ((x.cps.foldl (fun out c => out ++ (reprChar (reprQuote x) c).toArray) #[reprQuote x]).push (reprQuote x)).size ≤ _
  rw [Array.size_push, ← Array.foldl_toList]
  have := reprFold_le (quote_or x) x.cps.toList #[reprQuote x] (fun c hc => by
    rw [Array.all_eq_true] at h
    obtain ⟨i, hi, e⟩ := List.mem_iff_getElem.mp hc
    have := h i (by simpa using hi)
    rw [Array.getElem_toList] at e
    rw [e] at this
    exact Nat.le_of_ble_eq_true this)
  rw [Array.length_toList] at this
  have e : (#[reprQuote x] : Array Nat).size = 1 := rfl
  rw [e] at this
  omega
theorem okR_int {n : Nat} {i : Int} (h : okR n (.int i) = true) : i.natAbs.log2 < 1920 := by
  unfold okR at h
  cases i with
  | ofNat n => have := Nat.le_of_ble_eq_true h; show Nat.log2 n < 1920; omega
  | negSucc n => have := Nat.le_of_ble_eq_true h; show Nat.log2 (n + 1) < 1920; exact Nat.lt_succ_of_le this
/-- what okR tells of a value -/
structure Shw (n : Nat) (d : PyData) : Prop where
  len : d.shown.length ≤ capR d
  lay : d.canLay0 = true
  sh : d.showable = true
  nod : d.hasDict = false
  dep : d.depth ≤ n
structure Shws (n : Nat) (ds : List PyData) : Prop where
  len : piled (PyData.shownAll ds) ≤ capsR ds
  lay : PyData.canLayAll0 ds = true
  sh : PyData.showableAll ds = true
  nod : PyData.hasDictAll ds = false
  dep : PyData.depthAll ds ≤ n
mutual
theorem shw_of : ∀ (n : Nat) (d : PyData), okR n d = true → Shw n d
  | n, .none, _ => ⟨Nat.le_refl 4, rfl, rfl, rfl, Nat.zero_le _⟩
  | n, .bool b, _ => ⟨by cases b <;> decide, rfl, rfl, rfl, Nat.zero_le _⟩
  | n, .int i, h => ⟨by
      show (Str.ofString (toString i)).length ≤ 1921
      exact int_text_len_1921 (okR_int h), rfl, decide_eq_true (okR_int h), rfl, Nat.zero_le _⟩
  | n, .str x, h => by
    have h : x.cps.all (fun c => Nat.ble c 127) = true := by unfold okR at h; exact h
    refine ⟨reprText_le x h, ?_, rfl, rfl, Nat.zero_le _⟩
    show x.cps.all (· < 0x110000) = true
    rw [Array.all_eq_true] at h ⊢
    intro i hi
    have := Nat.le_of_ble_eq_true (h i hi)
    exact decide_eq_true (by omega)
  | n + 1, .list xs, h => by
    have s := shws_of n xs (by unfold okR at h; exact h)
    exact ⟨Nat.le_trans (listText_le _) (Nat.add_le_add_right s.len 4), s.lay, s.sh, s.nod, Nat.succ_le_succ s.dep⟩
  | n + 1, .tuple xs, h => by
    have s := shws_of n xs (by unfold okR at h; exact h)
    exact ⟨Nat.le_trans (tupleText_le _) (Nat.add_le_add_right s.len 4), s.lay, s.sh, s.nod, Nat.succ_le_succ s.dep⟩
  | 0, .list _, h => by unfold okR at h; cases h
  | 0, .tuple _, h => by unfold okR at h; cases h
  | n, .dict _, h => by cases n <;> · unfold okR at h; cases h
theorem shws_of : ∀ (n : Nat) (ds : List PyData), oksR n ds = true → Shws n ds
  | n, [], _ => ⟨Nat.le_refl 0, rfl, rfl, rfl, Nat.zero_le _⟩
  | n, x :: xs, h => by
    unfold oksR at h
    cases e : okR n x with
    | false => rw [e] at h; cases h
    | true =>
      rw [e] at h
      have h1 := shw_of n x e
      have h2 := shws_of n xs h
      refine ⟨?_, ?_, ?_, ?_, ?_⟩
      · show piled (x.shown :: PyData.shownAll xs) ≤ capR x + 2 + capsR xs
        rw [piled_cons]
        have := h1.len
        have := h2.len
        omega
      · unfold PyData.canLayAll0
        rw [h1.lay, h2.lay]
        rfl
      · unfold PyData.showableAll
        rw [h1.sh, h2.sh]
        rfl
      · unfold PyData.hasDictAll
        rw [h1.nod, h2.nod]
        rfl
      · unfold PyData.depthAll
        exact Nat.max_le.mpr ⟨h1.dep, h2.dep⟩
end
/-- repr(d) may be told -/
def reprOk (d : PyData) : Bool := match okR 40 d with
  | true => Nat.ble (capR d) 16000000
  | false => false
section
variable {X : Cx} {W : Wd}
theorem call_repr {l : Nat} (hr : RG l X.A) : CallR X (.builtin "repr") (fun xs H Q => ∃ v d, xs = [v] ∧ Dp X.K H v d ∧ Shw 40 d ∧ d.shown.length ≤ sizeLine ∧ Q (.str d.shown) H) := by
  intro pins s σ H xs us Q I r h
  obtain ⟨v, d, rfl, hd, S, hz, q⟩ := h
  obtain ⟨u, rfl, rv⟩ := vals1 r
  obtain ⟨as, rd⟩ := Dp.reads I d v u hd rv
  have hk : ∀ (h' : Heap) (u : Tok) (tk : Tok), (∀ b o, s.heap.get? b = some o → h'.get? b = some o) → EP X pins σ Q (.str d.shown u) { s with heap := h', toks := tk } := fun h' u tk hk => ⟨.str d.shown, H, I.kept hk, ⟨u, rfl⟩, q⟩
  have un := hr.r.un
  cases rd with
  | none => exact PySem.P.repr_of_none (hk s.heap _ _ fun _ _ e => e)
  | bool b => exact PySem.P.repr_of_bool (hk s.heap _ _ fun _ _ e => e)
  | int i t => exact PySem.P.repr_of_int (by simpa [PyData.showable] using S.sh) (hk s.heap _ _ fun _ _ e => e)
  | str x t => exact PySem.P.repr_of_str (hk s.heap _ _ fun _ _ e => e) hz
  | list h1 h2 h3 h4 => exact repr_of_reads' (.list h1 h2 h3 h4) S.sh (PyData.noDict_hsm S.nod) hr.g (by have := S.dep; omega) (fun _ _ e => e) (fun h' u tk k => hk h' u tk k) hz
  | tuple h1 h2 h3 h4 => exact repr_of_reads' (.tuple h1 h2 h3 h4) S.sh (PyData.noDict_hsm S.nod) hr.g (by have := S.dep; omega) (fun _ _ e => e) (fun h' u tk k => hk h' u tk k) hz
  | dict _ _ _ _ _ => exact absurd S.nod (by simp [PyData.hasDict])
def gRepr : GC := fun ds k => match ds with
  | [d] => (match reprOk d with
    | true => k (.str d.shown)
    | false => false)
  | _ => false
theorem ok_repr : OkC X.K W (fun xs H Q => ∃ v d, xs = [v] ∧ Dp X.K H v d ∧ Shw 40 d ∧ d.shown.length ≤ sizeLine ∧ Q (.str d.shown) H) gRepr := fun F H vs ds k Q B r h q => by
  unfold gRepr at h
  split at h
  · rename_i d
    cases e : reprOk d with
    | false => rw [e] at h; cases h
    | true =>
      rw [e] at h
      unfold reprOk at e
      cases e2 : okR 40 d with
      | false => rw [e2] at e; cases e
      | true =>
        rw [e2] at e
        have S := shw_of 40 d e2
        cases r with
        | cons r1 rr =>
          cases rr
          exact ⟨_, d, rfl, (r1.mono B.fh).dp S.lay, S, Nat.le_trans S.len (Nat.le_trans (Nat.le_of_ble_eq_true e) (by decide)), q _ _ F H (Stp.refl B) (.str _) h⟩
  · cases h
end
/-! ### repr(a) != repr(b), repr(a) == repr(b), told where a and b are the same -/
mutual
def sameD : PyData → PyData → Bool
  | .none, .none => true
  | .bool a, .bool b => match a, b with
    | true, true => true
    | false, false => true
    | _, _ => false
  | .int a, .int b => eqI a b
  | .str a, .str b => decide (a = b)
  | .list a, .list b => sameDs a b
  | .tuple a, .tuple b => sameDs a b
  | _, _ => false
def sameDs : List PyData → List PyData → Bool
  | [], [] => true
  | x :: xs, y :: ys => match sameD x y with
    | true => sameDs xs ys
    | false => false
  | _, _ => false
end
theorem eqI_refl (i : Int) : eqI i i = true := by rw [eqI_eq]; exact beq_self_eq_true i
mutual
theorem sameD_refl : ∀ (n : Nat) (d : PyData), okR n d = true → sameD d d = true
  | _, .none, _ => rfl
  | _, .bool b, _ => by cases b <;> rfl
  | _, .int i, _ => eqI_refl i
  | _, .str x, _ => decide_eq_true rfl
  | n + 1, .list xs, h => sameDs_refl n xs (by unfold okR at h; exact h)
  | n + 1, .tuple xs, h => sameDs_refl n xs (by unfold okR at h; exact h)
  | 0, .list _, h => by unfold okR at h; cases h
  | 0, .tuple _, h => by unfold okR at h; cases h
  | n, .dict _, h => by cases n <;> · unfold okR at h; cases h
theorem sameDs_refl : ∀ (n : Nat) (ds : List PyData), oksR n ds = true → sameDs ds ds = true
  | _, [], _ => rfl
  | n, x :: xs, h => by
    unfold oksR at h
    cases e : okR n x with
    | false => rw [e] at h; cases h
    | true =>
      rw [e] at h
      unfold sameDs
      rw [sameD_refl n x e]
      exact sameDs_refl n xs h
end
theorem reprOk_same {d : PyData} (h : reprOk d = true) : sameD d d = true := by
  unfold reprOk at h
  cases e2 : okR 40 d with
  | false => rw [e2] at h; cases h
  | true => exact sameD_refl 40 d e2
mutual
theorem sameD_eq : ∀ {d e : PyData}, sameD d e = true → d = e
  | .none, e, h => by cases e <;> first | rfl | cases h
  | .bool a, e, h => by
    cases e with
    | bool b => cases a <;> cases b <;> first | rfl | cases h
    | _ => cases h
  | .int a, e, h => by
    cases e with
    | int b =>
      have h : eqI a b = true := h
      rw [eqI_eq] at h
      rw [eq_of_beq h]
    | _ => cases h
  | .str a, e, h => by
    cases e with
    | str b => rw [of_decide_eq_true (show decide (a = b) = true from h)]
    | _ => cases h
  | .list a, e, h => by
    cases e with
    | list b => rw [sameDs_eq (ds := a) (es := b) h]
    | _ => cases h
  | .tuple a, e, h => by
    cases e with
    | tuple b => rw [sameDs_eq (ds := a) (es := b) h]
    | _ => cases h
  | .dict a, e, h => by cases e <;> cases h
theorem sameDs_eq : ∀ {ds es : List PyData}, sameDs ds es = true → ds = es
  | [], [], _ => rfl
  | x :: xs, y :: ys, h => by
    unfold sameDs at h
    cases e : sameD x y with
    | false => rw [e] at h; cases h
    | true =>
      rw [e] at h
      rw [sameD_eq e, sameDs_eq (ds := xs) (es := ys) h]
  | [], _ :: _, h => nomatch h
  | _ :: _, [], h => nomatch h
end
theorem reprOk_eq {d : PyData} (e : reprOk d = true) : Shw 40 d ∧ d.shown.length ≤ sizeLine := by
  unfold reprOk at e
  cases e2 : okR 40 d with
  | false => rw [e2] at e; cases e
  | true =>
    rw [e2] at e
    have S := shw_of 40 d e2
    exact ⟨S, Nat.le_trans S.len (Nat.le_trans (Nat.le_of_ble_eq_true e) (by decide))⟩
def dRepr2 (r : Bool) (a b : DE) : DE := fun env k => a env fun x => match reprOk x with
  | true => b env fun y => match sameD x y with
    | true => k (.bool r)
    | false => false
  | false => false
section
variable {X : Cx} {W : Wd} {ea eb : Expr} {da db : DE} {dr : DA}
abbrev rReprV (K : PySem.W.Frag) : List V → Hp → VK → Prop := fun xs H Q => ∃ v d, xs = [v] ∧ Dp K H v d ∧ Shw 40 d ∧ d.shown.length ≤ sizeLine ∧ Q (.str d.shown) H
theorem repr_ex {l : Nat} {p pos : Pos} (hr : RG l X.A) (hm : X.mg "repr" = none) (a : SE W X ea da) (hg : Gl X "repr" := by rfl) (he : starEach [ea] X.env = (false, eval ea X.env) :: starEach [] X.env := by rfl) :
    ∃ t, PE X (.Call (.Name "repr" p) [ea] [] pos) (tCB (rReprV X.K) (tCons t tNil)) ∧ OkE X.K W t da := by
  obtain ⟨t, q, o⟩ := a
  exact ⟨t, pe_callB (call_repr hr) hg hm (by decide +kernel) (pa_cons q pa_nil he) (he := he), o⟩
theorem okE_repr2 {t1 t2 : TE} {r2 : R2} {r : Bool} (a : OkE X.K W t1 da) (b : OkE X.K W t2 db) (hr : ∀ (x : Str) (H : Hp) (Q : VK), Q (.bl r) H → r2 (.str x) (.str x) H Q) :
    OkE X.K W (tOp r2 (tCB (rReprV X.K) (tCons t1 tNil)) (tCB (rReprV X.K) (tCons t2 tNil))) (dRepr2 r da db) := fun env σ F H k Q R h q => by
  refine a env σ F H _ _ R h fun d v F1 H1 s1 r1 h1 => ?_
  cases e : reprOk d with
  | false => simp only [e] at h1; cases h1
  | true =>
    simp only [e] at h1
    obtain ⟨S, z⟩ := reprOk_eq e
    refine ⟨v, d, rfl, (r1.mono (R.step s1).bs.fh).dp S.lay, S, z, ?_⟩
    refine b env σ F1 H1 _ _ (R.step s1) h1 fun d2 v2 F2 H2 s2 r2 h2 => ?_
    cases e2 : sameD d d2 with
    | false => simp only [e2] at h2; cases h2
    | true =>
      simp only [e2] at h2
      have ed := sameD_eq e2
      subst ed
      exact ⟨v2, d, rfl, (r2.mono ((R.step s1).step s2).bs.fh).dp S.lay, S, z, hr _ _ _ (q _ _ F2 H2 (s1.trans s2) (.bl _) h2)⟩
theorem se_reprNe {l : Nat} {p p2 q1 q2 pos : Pos} (hr : RG l X.A) (hm : X.mg "repr" = none) (a : SE W X ea da) (b : SE W X eb db) (hg : Gl X "repr" := by rfl) (he : starEach [ea] X.env = (false, eval ea X.env) :: starEach [] X.env := by rfl) (he2 : starEach [eb] X.env = (false, eval eb X.env) :: starEach [] X.env := by rfl)
    (hmk : behindInMarks .NotEq (.Call (.Name "repr" p2) [eb] [] q2) = false := by exact nomark _) : SE W X (.Compare (.Call (.Name "repr" p) [ea] [] q1) [.NotEq] [.Call (.Name "repr" p2) [eb] [] q2] pos) (dRepr2 false da db) := by
  obtain ⟨t1, p1, o1⟩ := repr_ex (p := p) (pos := q1) hr hm a hg he
  obtain ⟨t2, p2', o2⟩ := repr_ex (p := p2) (pos := q2) hr hm b hg he2
  exact ⟨_, pe_cmpR op_ne p1 p2' hmk, okE_repr2 o1 o2 (fun x H Q h => ⟨rfl, by rw [decide_eq_true (rfl : V.str x = V.str x)]; exact h⟩)⟩
theorem se_reprEq {l : Nat} {p p2 q1 q2 pos : Pos} (hr : RG l X.A) (hm : X.mg "repr" = none) (a : SE W X ea da) (b : SE W X eb db) (hg : Gl X "repr" := by rfl) (he : starEach [ea] X.env = (false, eval ea X.env) :: starEach [] X.env := by rfl) (he2 : starEach [eb] X.env = (false, eval eb X.env) :: starEach [] X.env := by rfl)
    (hmk : behindInMarks .Eq (.Call (.Name "repr" p2) [eb] [] q2) = false := by exact nomark _) : SE W X (.Compare (.Call (.Name "repr" p) [ea] [] q1) [.Eq] [.Call (.Name "repr" p2) [eb] [] q2] pos) (dRepr2 true da db) := by
  obtain ⟨t1, p1, o1⟩ := repr_ex (p := p) (pos := q1) hr hm a hg he
  obtain ⟨t2, p2', o2⟩ := repr_ex (p := p2) (pos := q2) hr hm b hg he2
  exact ⟨_, pe_cmpR op_eq p1 p2' hmk, okE_repr2 o1 o2 (fun x H Q h => ⟨rfl, by rw [decide_eq_true (rfl : V.str x = V.str x)]; exact h⟩)⟩
theorem st_reprNe {l : Nat} {p p2 q1 q2 pos : Pos} (hr : RG l X.A) (hm : X.mg "repr" = none) (a : SE W X ea da) (b : SE W X eb db) (hg : Gl X "repr" := by rfl) (he : starEach [ea] X.env = (false, eval ea X.env) :: starEach [] X.env := by rfl) (he2 : starEach [eb] X.env = (false, eval eb X.env) :: starEach [] X.env := by rfl)
    (hmk : behindInMarks .NotEq (.Call (.Name "repr" p2) [eb] [] q2) = false := by exact nomark _) : ST W X (.Compare (.Call (.Name "repr" p) [ea] [] q1) [.NotEq] [.Call (.Name "repr" p2) [eb] [] q2] pos) (dB (dRepr2 false da db)) := by
  obtain ⟨t1, p1, o1⟩ := repr_ex (p := p) (pos := q1) hr hm a hg he
  obtain ⟨t2, p2', o2⟩ := repr_ex (p := p2) (pos := q2) hr hm b hg he2
  exact ⟨_, pt_cmpR op_ne p1 p2' hmk, okT_test (okE_repr2 o1 o2 (fun x H Q h => ⟨rfl, by rw [decide_eq_true (rfl : V.str x = V.str x)]; exact h⟩))⟩
theorem st_reprEq {l : Nat} {p p2 q1 q2 pos : Pos} (hr : RG l X.A) (hm : X.mg "repr" = none) (a : SE W X ea da) (b : SE W X eb db) (hg : Gl X "repr" := by rfl) (he : starEach [ea] X.env = (false, eval ea X.env) :: starEach [] X.env := by rfl) (he2 : starEach [eb] X.env = (false, eval eb X.env) :: starEach [] X.env := by rfl)
    (hmk : behindInMarks .Eq (.Call (.Name "repr" p2) [eb] [] q2) = false := by exact nomark _) : ST W X (.Compare (.Call (.Name "repr" p) [ea] [] q1) [.Eq] [.Call (.Name "repr" p2) [eb] [] q2] pos) (dB (dRepr2 true da db)) := by
  obtain ⟨t1, p1, o1⟩ := repr_ex (p := p) (pos := q1) hr hm a hg he
  obtain ⟨t2, p2', o2⟩ := repr_ex (p := p2) (pos := q2) hr hm b hg he2
  exact ⟨_, pt_cmpR op_eq p1 p2' hmk, okT_test (okE_repr2 o1 o2 (fun x H Q h => ⟨rfl, by rw [decide_eq_true (rfl : V.str x = V.str x)]; exact h⟩))⟩
theorem se_repr {l : Nat} {p pos : Pos} (hr : RG l X.A) (hm : X.mg "repr" = none) (a : SA W X [ea] dr) (hg : Gl X "repr" := by rfl) (he : starEach [ea] X.env = (false, eval ea X.env) :: starEach [] X.env := by rfl) : SE W X (.Call (.Name "repr" p) [ea] [] pos) (dCB gRepr dr) :=
  se_cb (call_repr hr) ok_repr hm a (hg := hg) (he := he)
end
end Dl

namespace Dl
open PySem PySem.Spec PyProof.Rows L2

/-! ### lists of one's own -/
abbrev DF := Sls → (List PyData → Bool) → Bool
def OkF (K : PySem.W.Frag) (W : Wd) (t : TE) (e : DF) : Prop := ∀ (env : Sls) (σ : L2.St) (F H : Hp) (k : List PyData → Bool) (Q : VK), Rel K W env σ F H → e env k = true →
  (∀ ds xs F' H' p, Stp W.pp F H F' H' → H p = none → F' p = none → H' p = some (.lst xs) → RpAll K F' xs ds → k ds = true → Q (.ref p) H') → t σ H Q
structure SF (W : Wd) (X : Cx) (e : Expr) (df : DF) : Prop where
  ex : ∃ t, PE X e t ∧ OkF X.K W t df
theorem none_of {pp : Addr} {F H : Hp} {p : Addr} (B : Bs pp F H) (n : H p = none) : F p = none := by
  cases q : F p with
  | none => rfl
  | some o => rw [B.fh p o q] at n; cases n
theorem ne_pp {pp : Addr} {F H : Hp} {p : Addr} (B : Bs pp F H) (n : H p = none) : p ≠ pp := fun e => by subst e; exact B.po.some n
theorem back_none {pp : Addr} {F H F' H' : Hp} {p : Addr} (B : Bs pp F H) (s : Stp pp F H F' H') (n : H' p = none) : H p = none := by
  cases q : H p with
  | none => rfl
  | some o =>
    by_cases e : p = pp
    · subst e; exact absurd n s.po.some
    · rw [s.fr p o e q] at n; cases n
section
variable {K : PySem.W.Frag} {W : Wd} {env : Sls} {σ : L2.St} {F H F' H' : Hp}
theorem Rel.setO' (r : Rel K W env σ F H) (s : Stp W.pp F H F' H') {p : Addr} {xs : List V} {ds : List PyData} (n : H p = none) (f : F' p = none) (hp : H' p = some (.lst xs)) (h : RpAll K F' xs ds) (i : Nat) :
    Rel K W (env.set i (.ow ds)) (σ.set i (some (.ref p))) F' H' := by
  have B := r.bs
  have r2 := r.step s
  have np := ne_pp B n
  have h0 : W.H0 p = none := by
    cases q : W.H0 p with
    | none => rfl
    | some o => rw [r.st.fr p o np q] at n; cases n
  have apart : ∀ (j : Nat) (q : Addr) (es : List PyData), env[j]? = some (Sl.ow es) → σ[j]? = some (some (V.ref q)) → q ≠ p := fun j q es e g => by
    obtain ⟨p', xs', h1, h2, _⟩ := r.sl j _ e
    rw [g] at h1
    cases h1
    exact ne_of_none h2 n
  refine ⟨r.b0, r2.st, by rw [List.length_set, List.length_set]; exact r.len, fun j q e => ?_, fun j l q ds' es e1 e2 g1 g2 => ?_⟩
  · rw [List.getElem?_set] at e ⊢
    by_cases hj : i = j
    · subst hj
      rw [if_pos rfl] at e ⊢
      by_cases hl : i < env.length
      · rw [if_pos hl] at e
        cases e
        rw [if_pos (by rw [r.len]; exact hl)]
        exact ⟨p, xs, rfl, hp, f, np, h0, h⟩
      · rw [if_neg hl] at e; cases e
    · rw [if_neg hj] at e ⊢
      exact r2.sl j q e
  · by_cases n1 : i = j
    · by_cases n2 : i = l
      · rw [← n1, ← n2]
      · subst n1
        rw [List.getElem?_set_ne n2] at e2 g2
        have hl : i < σ.length := by
          rw [List.getElem?_set, if_pos rfl] at g1
          split at g1
          · assumption
          · cases g1
        rw [List.getElem?_set_self hl] at g1
        cases g1
        exact absurd rfl (apart l p es e2 g2)
    · by_cases n2 : i = l
      · subst n2
        rw [List.getElem?_set_ne n1] at e1 g1
        have hl : i < σ.length := by
          rw [List.getElem?_set, if_pos rfl] at g2
          split at g2
          · assumption
          · cases g2
        rw [List.getElem?_set_self hl] at g2
        cases g2
        exact absurd rfl (apart j p ds' e1 g1)
      · rw [List.getElem?_set_ne n1] at e1 g1
        rw [List.getElem?_set_ne n2] at e2 g2
        exact r.dis j l q ds' es e1 e2 g1 g2
end
def fLst (a : DA) : DF := fun env k => a env fun xs => match small xs.length with
  | true => k xs
  | false => false
def fLc (it : DI) (tg : DG) (tt : DT) (el : DE) (vs : List Nat) : DF := fun env k => dLc it tg tt el vs env fun d => match d with
  | .list ds => k ds
  | _ => false
def fList (a : DE) : DF := fun env k => a env fun x => match x with
  | .list xs => k xs
  | .tuple xs => k xs
  | _ => false
def fCat (a b : DE) : DF := fun env k => a env fun x => b env fun y => match x, y with
  | .list xs, .list ys => (match small (xs.length + ys.length) with
    | true => k (xs ++ ys)
    | false => false)
  | _, _ => false
def fRep (a b : DE) : DF := fun env k => a env fun x => b env fun y => match x, y with
  | .list xs, .int j => (match repOk xs.length j with
    | true => k (List.replicate j.toNat xs).flatten
    | false => false)
  | _, _ => false
section
variable {K : PySem.W.Frag} {W : Wd} {X : Cx} {ea eb : Expr} {da db : DE} {es : List Expr} {dr : DA} {pos : Pos}
/-- a new list at p, made behind the evaluation -/
theorem okF_new {F H F1 H1 : Hp} {p : Addr} {xs : List V} {ds : List PyData} (B : Bs W.pp F H) (s : Stp W.pp F H F1 H1) (n : H1 p = none) (r : RpAll K F1 xs ds) {Q : VK} {k : List PyData → Bool} (h : k ds = true)
    (q : ∀ ds xs F' H' p, Stp W.pp F H F' H' → H p = none → F' p = none → H' p = some (.lst xs) → RpAll K F' xs ds → k ds = true → Q (.ref p) H') : Q (.ref p) (upd H1 p (.lst xs)) := by
  have B1 := Stp.bs B s
  exact q ds xs F1 _ p (s.trans (Stp.newO B1 n)) (back_none B s n) (none_of B1 n) upd_same r h
theorem sf_lst (a : SA W X es dr) : SF W X (.List es pos) (fLst dr) := by
  obtain ⟨t, p, o⟩ := a
  refine ⟨_, pe_lst p, fun env σ F H k Q R h q => o env σ F H _ _ R h fun ds vs F1 H1 s1 r1 h1 => ?_⟩
  cases e : small ds.length with
  | true =>
    rw [e] at h1
    exact ⟨by rw [r1.length]; exact small_ok e, fun a na => okF_new R.bs s1 na r1 h1 q⟩
  | false => rw [e] at h1; cases h1
theorem sf_list {x : Str} {p : Pos} (hm : X.mg x = none) (a : SE W X ea da) (hx : x = "list" := by rfl) (hg : Gl X x := by rfl) (hn : x ≠ "__name__" := by decide)
    (hdb : (x == ("__debug__" : Str)) = false := by decide) (he : starEach [ea] X.env = (false, eval ea X.env) :: starEach [] X.env := by rfl) (hpl : (backTo pos (starEach [] X.env)).any (·.1) = false := by rfl) : SF W X (.Call (.Name x p) [ea] [] pos) (fList da) := by
  obtain ⟨t, q, o⟩ := a
  refine ⟨_, pe_callTy call_list_of hg hm (by rw [hx]; decide +kernel) (pa_cons q pa_nil he) hn hdb he hpl, fun env σ F H k Q R h q => o env σ F H _ _ R h fun d v F1 H1 s1 r1 h1 => ?_⟩
  have B := (R.step s1).bs
  cases d with
  | list xs =>
    cases r1 with
    | @lst pa vl _ ha ra => exact ⟨_, _, rfl, .inl (.inl (.inl (B.keep ha))), fun p np => okF_new R.bs s1 np ra h1 q⟩
  | tuple xs =>
    cases v with
    | ref p =>
      obtain ⟨vs, hs, ra⟩ := sqT_of B.fh r1
      exact ⟨_, _, rfl, .inr hs, fun p np => okF_new R.bs s1 np ra h1 q⟩
    | _ => cases r1
  | _ => cases h1
theorem sf_cat (a : SE W X ea da) (b : SE W X eb db) : SF W X (.BinOp ea .Add eb pos) (fCat da db) := by
  obtain ⟨t1, p1, o1⟩ := a
  obtain ⟨t2, p2, o2⟩ := b
  refine ⟨_, pe_op op_cat p1 p2, fun env σ F H k Q R h q => o1 env σ F H _ _ R h fun d v F1 H1 s1 r1 h1 => o2 env σ F1 H1 _ _ (R.step s1) h1 fun d2 v2 F2 H2 s2 r2 h2 => ?_⟩
  have B := ((R.step s1).step s2).bs
  have r1 := r1.mono s2.ff
  cases d with
  | list xs =>
    cases d2 with
    | list ys =>
      cases r1 with
      | @lst pa vl _ ha ra =>
        cases r2 with
        | @lst pb wl _ hb rb =>
          cases e : small (xs.length + ys.length) with
          | false => simp only [e] at h2; cases h2
          | true =>
            simp only [e] at h2
            exact ⟨_, _, _, _, rfl, rfl, B.keep ha, B.keep hb, by rw [ra.length, rb.length]; exact small_ok e, fun p np => okF_new R.bs (s1.trans s2) np (ra.append rb) h2 q⟩
    | _ => cases h2
  | _ => cases h2
theorem sf_rep (a : SE W X ea da) (b : SE W X eb db) : SF W X (.BinOp ea .Mult eb pos) (fRep da db) := by
  obtain ⟨t1, p1, o1⟩ := a
  obtain ⟨t2, p2, o2⟩ := b
  refine ⟨_, pe_op op_rep p1 p2, fun env σ F H k Q R h q => o1 env σ F H _ _ R h fun d v F1 H1 s1 r1 h1 => o2 env σ F1 H1 _ _ (R.step s1) h1 fun d2 v2 F2 H2 s2 r2 h2 => ?_⟩
  have B := ((R.step s1).step s2).bs
  have r1 := r1.mono s2.ff
  cases d with
  | list xs =>
    cases d2 with
    | int j =>
      cases r2
      cases r1 with
      | @lst pa vl _ ha ra =>
        cases e : repOk xs.length j with
        | false => simp only [e] at h2; cases h2
        | true =>
          simp only [e] at h2
          obtain ⟨l1, l2, l3⟩ := repOk_ok e
          exact ⟨_, _, _, rfl, rfl, B.keep ha, l1, l2, by rw [ra.length]; exact l3, fun p np => okF_new R.bs (s1.trans s2) np (ra.rep _) h2 q⟩
    | _ => cases h2
  | _ => cases h2
theorem okF_lc {wi : TI} {g : TG} {tt : TT} {te : TE} {it : DI} {tg : DG} {dt : DT} {el : DE} {vs sl : List Nat} (oi : OkI K W wi it) (og : OkG K W g tg sl) (ot : OkT K W tt dt) (oe : OkE K W te el) (hsl : ∀ j ∈ sl, j ∈ vs) :
    OkF K W (tLc wi g tt te vs) (fLc it tg dt el vs) := fun env σ F H k Q R h q => by
  refine oi env σ F H _ _ R h fun ds J F1 H1 s1 wk h1 => ?_
  cases e : small ds.length with
  | false => rw [e] at h1; cases h1
  | true =>
    rw [e] at h1
    have hz := small_ok e
    have hz2 : ds.length ≤ 100000 := Nat.le_of_ble_eq_true e
    have R1 := R.step s1
    have B1 := R1.bs
    obtain ⟨G, Y, w1, w2, w3⟩ := wk
    intro D hD
    have np : D ≠ W.pp := ne_pp B1 hD
    have fD : F1 D = none := none_of B1 hD
    have RW := R1.wipe vs
    refine lc_it w1 (fun i H' => ∃ acc F', InLc K W F1 H1 D acc F' H' ∧ acc.length ≤ i ∧ goLc tg dt el (wipeE env vs) (ds.drop i) acc (fun d => match d with
      | .list ds => k ds
      | _ => false) = true) ⟨[], F1, ⟨Stp.newO B1 hD, fD, [], upd_same, .nil⟩, Nat.le_refl _, h1⟩
      (fun i H' _ ⟨acc, F', c, _⟩ => w2 F' H' c.st.ff c.st.fh) (fun i x H' H'' hi ⟨acc, F', c, la, hg⟩ y => ?_) (fun H' ⟨acc, F', c, la, hg⟩ => ?_)
    · have hd : ds[i]? = some ds[i] := List.getElem?_eq_getElem hi
      have hdr : ds.drop i = ds[i] :: ds.drop (i + 1) := List.drop_eq_getElem_cons hi
      rw [hdr] at hg
      have Bc := Stp.bs B1 c.st
      obtain ⟨F2, s2, r2⟩ := w3 i H' x H'' F' ds[i] c.st.ff Bc hd y
      have c2 := c.step np s2
      have RW2 := (RW.step c2.st)
      unfold goLc at hg
      refine og _ _ F2 H'' x _ _ _ RW2 r2 hg fun env' σ' R' a1 l1 hk => ?_
      have ew : L2.wipe σ' vs = L2.wipe σ vs := wipe_same (l1.trans (L2.wipe_length σ vs)) hsl a1
      refine ⟨ew, ?_⟩
      refine ot env' σ' F2 H'' _ _ R' hk fun b F3 H3 s3 h3 => ?_
      have c3 := c2.step np s3
      cases b with
      | false =>
        rw [if_neg Bool.false_ne_true]
        exact ⟨acc, F3, c3, by omega, h3⟩
      | true =>
        rw [if_pos rfl]
        refine oe env' σ' F3 H3 _ _ (R'.step s3) h3 fun d v F4 H4 s4 r4 h4 => ?_
        have c4 := c3.step np s4
        obtain ⟨vl, h5, h6⟩ := c4.at_
        refine ⟨vl, h5, by rw [h6.length, List.length_reverse]; exact Nat.lt_of_le_of_lt (show acc.length ≤ 100000 by omega) (by decide), d :: acc, F4, ⟨c4.st.write hD c4.un np, c4.un, vl ++ [v], upd_same, ?_⟩, by rw [List.length_cons]; omega, h4⟩
        rw [List.reverse_cons]
        exact h6.append (.cons r4 .nil)
    · rw [List.drop_length] at hg
      unfold goLc at hg
      obtain ⟨vl, h5, h6⟩ := c.at_
      exact q _ vl F' H' D (s1.trans c.st) (back_none R.bs s1 hD) c.un h5 h6 hg
theorem sf_lc {elt tg iter : Expr} {ifs : List Expr} {scope : Scope} {own : List (Str × Nat)} {di : DI} {g : DG} {dt : DT} {de : DE} {sl vs : List Nat} (hc : X.calm = true) (hN : X.N.Nodup) (hi : SI W X tg iter di) (ok : BlkOk X.N X.env.scope scope own)
    (hg : ∀ (s : Shared) (H : Hp) (C : Addr) (cl : List (Str × Addr)) (fp : List Addr), SG W (X.blk s H scope (compEnvC scope cl C X.env) fp) tg g sl) (ht : ∀ (s : Shared) (H : Hp) (C : Addr) (cl : List (Str × Addr)) (fp : List Addr), STs W (X.blk s H scope (compEnvC scope cl C X.env) fp) ifs dt)
    (he : ∀ (s : Shared) (H : Hp) (C : Addr) (cl : List (Str × Addr)) (fp : List Addr), SE W (X.blk s H scope (compEnvC scope cl C X.env) fp) elt de) (hsl : ∀ j ∈ sl, j ∈ vs := by decide) (hvs : own.map (·.2) = vs := by rfl) (hs : ∀ x, foldedSetIterable iter X.env x = pure x := by intro _; rfl) :
    SF W X (.ListComp elt [⟨tg, iter, ifs, 0⟩] scope pos) (fLc di g dt de vs) := by
  obtain ⟨wi, p, oi⟩ := hi
  subst hvs
  exact ⟨_, pe_lc hc hN p ok (fun s H C cl fp => (hg s H C cl fp).can) (fun s H C cl fp => (ht s H C cl fp).can) (fun s H C cl fp => (he s H C cl fp).can) hs, okF_lc oi okG_can okT_can okE_can hsl⟩
theorem sf_setlc {i : Nat} {y : Str} {py : Pos} {elt tg iter : Expr} {ifs : List Expr} {scope : Scope} {own : List (Str × Nat)} {spos : Pos} {di : DI} {g : DG} {dt : DT} {de : DE} {sl vs : List Nat} (hc : X.calm = true) (hN : X.N.Nodup) (hy : X.N[i]? = some y) (hyl : X.env.scope.names.lookup y = some .local)
    (hsw : swapsWith (.ListComp elt [⟨tg, iter, ifs, 0⟩] scope pos) (some (.Name y py)) spos.line X.env = pure true) (hi : SI W X tg iter di) (ok : BlkOk X.N X.env.scope scope own)
    (hg : ∀ (s : Shared) (H : Hp) (C : Addr) (cl : List (Str × Addr)) (fp : List Addr), SG W (X.blk s H scope (compEnvC scope cl C X.env) fp) tg g sl) (ht : ∀ (s : Shared) (H : Hp) (C : Addr) (cl : List (Str × Addr)) (fp : List Addr), STs W (X.blk s H scope (compEnvC scope cl C X.env) fp) ifs dt)
    (he : ∀ (s : Shared) (H : Hp) (C : Addr) (cl : List (Str × Addr)) (fp : List Addr), SE W (X.blk s H scope (compEnvC scope cl C X.env) fp) elt de) (hsl : ∀ j ∈ sl, j ∈ vs := by decide) (hvs : own.map (·.2) = vs := by rfl) (hs : ∀ x, foldedSetIterable iter X.env x = pure x := by intro _; rfl) :
    ∃ te, PS X (.Assign [.Name y py] (.ListComp elt [⟨tg, iter, ifs, 0⟩] scope pos) spos) (tAsg te (gName i)) ∧ OkF X.K W te (fLc di g dt de vs) := by
  obtain ⟨wi, p, oi⟩ := hi
  subst hvs
  exact ⟨_, ps_setLc hc hN hy hyl hsw p ok (fun s H C cl fp => (hg s H C cl fp).can) (fun s H C cl fp => (ht s H C cl fp).can) (fun s H C cl fp => (he s H C cl fp).can) hs, okF_lc oi okG_can okT_can okE_can hsl⟩
end
/-! stores of such -/
def sOwn (i : Nat) (a : DF) : DS := fun B env => a env fun ds => B.nx (env.set i (.ow ds))
section
variable {K : PySem.W.Frag} {W : Wd} {X : Cx} {e : Expr} {df : DF} {pos : Pos} {st : Stmt}
theorem okS_own {t : TE} {i : Nat} (o : OkF K W t df) : OkS K W (tAsg t (gName i)) (sOwn i df) := fun env σ F H B D R h q =>
  o env σ F H _ _ R h fun ds xs F' H' p s n f hp r hk => q.nx _ _ F' H' s.ff (R.setO' s n f hp r i) hk
theorem ss_own {i : Nat} {x : Str} {pos' : Pos} (hN : X.N.Nodup) (h : SF W X e df) (hi : X.N[i]? = some x := by rfl) (hx : Loc X.env.scope x := by first | exact Or.inl rfl | exact Or.inr rfl) (hs : swapsWith e (some (.Name x pos')) pos.line X.env = pure false := by rfl)
    (hf : X.fn x = true ∨ X.env.scope.names.lookup x = some .local := by first | exact .inl rfl | exact .inr rfl) : SS W X (.Assign [.Name x pos'] e pos) (sOwn i df) := by
  obtain ⟨t, p, o⟩ := h
  exact ⟨_, ps_set hN hi hx p hs hf, okS_own o⟩
theorem ss_ownlc {i : Nat} (h : ∃ te, PS X st (tAsg te (gName i)) ∧ OkF X.K W te df) : SS W X st (sOwn i df) := by
  obtain ⟨t, p, o⟩ := h
  exact ⟨_, p, okS_own o⟩
end
/-- x, y = new list, value -/
def sParFE (i j : Nat) (a : DF) (b : DE) : DS := fun B env => a env fun ds => b env fun e => B.nx ((env.set i (.ow ds)).set j (.fz e))
def sParEF (i j : Nat) (a : DE) (b : DF) : DS := fun B env => a env fun d => b env fun es => B.nx ((env.set i (.fz d)).set j (.ow es))
def sParFF (i j : Nat) (a b : DF) : DS := fun B env => a env fun ds => b env fun es => B.nx ((env.set i (.ow ds)).set j (.ow es))
section
variable {W : Wd} {X : Cx} {i j : Nat} {x y : Str} {ea eb : Expr} {da db : DE} {fa fb : DF} {px py pt pos : Pos} {kt k2 : Nat} {pt2 : Pos}
theorem ss_parFE (hc : X.calm = true) (hN : X.N.Nodup) (ha : SF W X ea fa) (hb : SE W X eb db) (hi : X.N[i]? = some x := by rfl) (hj : X.N[j]? = some y := by rfl) (hij : i ≠ j := by decide)
    (hx : X.env.scope.names.lookup x = some .local := by rfl) (hy : X.env.scope.names.lookup y = some .local := by rfl) (he : starEach [ea, eb] X.env = (false, eval ea X.env) :: starEach [eb] X.env := by rfl) (he2 : starEach [eb] X.env = (false, eval eb X.env) :: starEach [] X.env := by rfl)
    (hw : swappedStores [.Tuple [.Name x px, .Name y py] kt pt] (.Tuple [ea, eb] k2 pt2) X.env = pure (some [x, y]) := by rfl)
    (hs : swapsWithSole [.Tuple [.Name x px, .Name y py] kt pt] (.Tuple [ea, eb] k2 pt2) pos.line X.env = pure false := by rfl) :
    SS W X (.Assign [.Tuple [.Name x px, .Name y py] kt pt] (.Tuple [ea, eb] k2 pt2) pos) (sParFE i j fa db) := by
  obtain ⟨t1, p1, o1⟩ := ha
  obtain ⟨t2, p2, o2⟩ := hb
  refine ⟨_, ps_par hc hN hi hj hij hx hy (pa_cons p1 (pa_cons p2 pa_nil he2) he) hw hs, fun env σ F H B D R h q => ?_⟩
  refine o1 env σ F H _ _ R h fun ds xs F1 H1 p s1 n f hp r1 h1 => o2 env σ F1 H1 _ _ (R.step s1) h1 fun d v F2 H2 s2 r2 h2 => ?_
  have np := ne_pp R.bs n
  exact ⟨_, _, rfl, q.nx _ _ F2 H2 (s1.ff.trans s2.ff) ((R.setO' (s1.trans s2) n (s2.own f (by rw [hp]; exact fun z => nomatch z)) (s2.fr _ _ np hp) (r1.mono s2.ff) i).set r2 j) h2⟩
theorem ss_parEF (hc : X.calm = true) (hN : X.N.Nodup) (ha : SE W X ea da) (hb : SF W X eb fb) (hi : X.N[i]? = some x := by rfl) (hj : X.N[j]? = some y := by rfl) (hij : i ≠ j := by decide)
    (hx : X.env.scope.names.lookup x = some .local := by rfl) (hy : X.env.scope.names.lookup y = some .local := by rfl) (he : starEach [ea, eb] X.env = (false, eval ea X.env) :: starEach [eb] X.env := by rfl) (he2 : starEach [eb] X.env = (false, eval eb X.env) :: starEach [] X.env := by rfl)
    (hw : swappedStores [.Tuple [.Name x px, .Name y py] kt pt] (.Tuple [ea, eb] k2 pt2) X.env = pure (some [x, y]) := by rfl)
    (hs : swapsWithSole [.Tuple [.Name x px, .Name y py] kt pt] (.Tuple [ea, eb] k2 pt2) pos.line X.env = pure false := by rfl) :
    SS W X (.Assign [.Tuple [.Name x px, .Name y py] kt pt] (.Tuple [ea, eb] k2 pt2) pos) (sParEF i j da fb) := by
  obtain ⟨t1, p1, o1⟩ := ha
  obtain ⟨t2, p2, o2⟩ := hb
  refine ⟨_, ps_par hc hN hi hj hij hx hy (pa_cons p1 (pa_cons p2 pa_nil he2) he) hw hs, fun env σ F H B D R h q => ?_⟩
  refine o1 env σ F H _ _ R h fun d v F1 H1 s1 r1 h1 => o2 env σ F1 H1 _ _ (R.step s1) h1 fun ds xs F2 H2 p s2 n f hp r2 h2 => ?_
  exact ⟨_, _, rfl, q.nx _ _ F2 H2 (s1.ff.trans s2.ff) (((R.step s1).set r1 i).setO' s2 n f hp r2 j) h2⟩
theorem ss_parFF (hc : X.calm = true) (hN : X.N.Nodup) (ha : SF W X ea fa) (hb : SF W X eb fb) (hi : X.N[i]? = some x := by rfl) (hj : X.N[j]? = some y := by rfl) (hij : i ≠ j := by decide)
    (hx : X.env.scope.names.lookup x = some .local := by rfl) (hy : X.env.scope.names.lookup y = some .local := by rfl) (he : starEach [ea, eb] X.env = (false, eval ea X.env) :: starEach [eb] X.env := by rfl) (he2 : starEach [eb] X.env = (false, eval eb X.env) :: starEach [] X.env := by rfl)
    (hw : swappedStores [.Tuple [.Name x px, .Name y py] kt pt] (.Tuple [ea, eb] k2 pt2) X.env = pure (some [x, y]) := by rfl)
    (hs : swapsWithSole [.Tuple [.Name x px, .Name y py] kt pt] (.Tuple [ea, eb] k2 pt2) pos.line X.env = pure false := by rfl) :
    SS W X (.Assign [.Tuple [.Name x px, .Name y py] kt pt] (.Tuple [ea, eb] k2 pt2) pos) (sParFF i j fa fb) := by
  obtain ⟨t1, p1, o1⟩ := ha
  obtain ⟨t2, p2, o2⟩ := hb
  refine ⟨_, ps_par hc hN hi hj hij hx hy (pa_cons p1 (pa_cons p2 pa_nil he2) he) hw hs, fun env σ F H B D R h q => ?_⟩
  refine o1 env σ F H _ _ R h fun ds xs F1 H1 p s1 n f hp r1 h1 => o2 env σ F1 H1 _ _ (R.step s1) h1 fun es ys F2 H2 p2 s2 n2 f2 hp2 r2 h2 => ?_
  have R1 := R.setO' s1 n f hp r1 i
  exact ⟨_, _, rfl, q.nx _ _ F2 H2 (s1.ff.trans s2.ff) (R1.setO' s2 n2 f2 hp2 r2 j) h2⟩
end

/-! ### reading lists of one's own -/
def frzAll : Sls → List Nat → Option Sls
  | env, [] => some env
  | env, i :: r => match freeze env i with
    | some env' => frzAll env' r
    | none => none
mutual
def noList : PyData → Bool
  | .list _ => false
  | .dict _ => false
  | .tuple xs => noLists xs
  | _ => true
def noLists : List PyData → Bool
  | [] => true
  | x :: r => noList x && noLists r
end
theorem Rel.fzo2 {K : PySem.W.Frag} {W : Wd} {env : Sls} {σ : L2.St} {F H : Hp} (r : Rel K W env σ F H) {i : Nat} {ds : List PyData} (e : env[i]? = some (.ow ds)) :
    ∃ F', Same F F' ∧ (∀ b o, F' b = some o → F b = some o ∨ ∃ xs, o = .lst xs) ∧ Rel K W (env.set i (.fz (.list ds))) σ F' H := by
  obtain ⟨p, xs, h1, h2, h3, h4, h5, h6⟩ := r.sl i _ e
  have hi : i < env.length := (List.getElem?_eq_some_iff.mp e).1
  have sf : Same F (upd F p (.lst xs)) := same_upd h3
  have st : Stp W.pp W.F0 W.H0 (upd F p (.lst xs)) H := r.st.freeze h5 h3 h2
  refine ⟨upd F p (.lst xs), sf, fun b o h => ?_, r.b0, st, by rw [List.length_set]; exact r.len, fun j q e' => ?_, fun j l q ds1 es e1 e2 g1 g2 => ?_⟩
  · by_cases z : b = p
    · subst z; rw [upd_same] at h; cases h; exact .inr ⟨xs, rfl⟩
    · rw [upd_ne z] at h; exact .inl h
  · by_cases hj : i = j
    · subst hj
      rw [List.getElem?_set_self hi] at e'
      cases e'
      exact ⟨.ref p, h1, .lst upd_same (h6.mono sf)⟩
    · rw [List.getElem?_set_ne hj] at e'
      have z := r.sl j q e'
      cases q with
      | no => trivial
      | fz d => obtain ⟨v, z1, z2⟩ := z; exact ⟨v, z1, z2.mono sf⟩
      | ow es =>
        obtain ⟨p2, ys, z1, z2, z3, z4, z5, z6⟩ := z
        refine ⟨p2, ys, z1, z2, ?_, z4, z5, z6.mono sf⟩
        have np : p2 ≠ p := fun ee => by
          subst ee
          exact hj (r.dis i j p2 ds es e e' h1 z1)
        rw [upd_ne np]; exact z3
      | pt => exact z
  · have back : ∀ (m : Nat) (ds2 : List PyData), (env.set i (Sl.fz (.list ds)))[m]? = some (Sl.ow ds2) → env[m]? = some (Sl.ow ds2) := fun m ds2 h => by
      by_cases hm : i = m
      · subst hm; rw [List.getElem?_set_self hi] at h; cases h
      · rw [List.getElem?_set_ne hm] at h; exact h
    exact r.dis j l q ds1 es (back j ds1 e1) (back l es e2) g1 g2
theorem Rel.fzAll {K : PySem.W.Frag} {W : Wd} {σ : L2.St} {H : Hp} : ∀ {is : List Nat} {env env' : Sls} {F : Hp}, Rel K W env σ F H → frzAll env is = some env' → ∃ F', Same F F' ∧ (∀ b o, F' b = some o → F b = some o ∨ ∃ xs, o = .lst xs) ∧ Rel K W env' σ F' H
  | [], env, env', F, r, h => by cases h; exact ⟨F, Same.refl F, fun b o h => .inl h, r⟩
  | i :: is, env, env', F, r, h => by
    unfold frzAll freeze at h
    cases e : look env i with
    | ow ds =>
      rw [e] at h
      obtain ⟨F1, s1, n1, r1⟩ := r.fzo2 (look_some e (fun z => nomatch z))
      obtain ⟨F2, s2, n2, r2⟩ := Rel.fzAll r1 h
      exact ⟨F2, s1.trans s2, fun b o h => (n2 b o h).elim (fun z => n1 b o z) .inr, r2⟩
    | _ => rw [e] at h; cases h
def dBor (is : List Nat) (a : DE) : DE := fun env k => match frzAll env is with
  | some env' => a env' fun d => (match noList d with
    | true => k d
    | false => false)
  | none => false
def dBorT (is : List Nat) (a : DT) : DT := fun env k => match frzAll env is with
  | some env' => a env' k
  | none => false
/-- what stays frozen: what was, and new tuples -/
def onlyT (F F' : Hp) : Hp := fun b => match F b with
  | some o => some o
  | none => match F' b with
    | some (.tup xs) => some (.tup xs)
    | _ => none
theorem onlyT_tup {F F' : Hp} (e : Same F F') {a : Addr} {xs : List V} (h : F' a = some (.tup xs)) : onlyT F F' a = some (.tup xs) := by
  unfold onlyT
  cases q : F a with
  | some o => rw [e a o q] at h; cases h; rfl
  | none => simp only [h]
mutual
theorem rp_onlyT {K : PySem.W.Frag} {F F' : Hp} (e : Same F F') : ∀ {v : V} {d : PyData}, Rp K F' v d → noList d = true → Rp K (onlyT F F') v d
  | _, _, .non, _ => .non
  | _, _, .bl b, _ => .bl b
  | _, _, .int i, _ => .int i
  | _, _, .str x, _ => .str x
  | _, _, .lst h a, n => by simp [noList] at n
  | _, _, .tup h a, n => .tup (onlyT_tup e h) (rps_onlyT e a (by simpa [noList] using n))
  | _, _, .ktup h a, n => .ktup h (rps_onlyT e a (by simpa [noList] using n))
theorem rps_onlyT {K : PySem.W.Frag} {F F' : Hp} (e : Same F F') : ∀ {vs : List V} {ds : List PyData}, RpAll K F' vs ds → noLists ds = true → RpAll K (onlyT F F') vs ds
  | _, _, .nil, _ => .nil
  | _, _, @RpAll.cons _ _ v vs d ds h a, n => by
    have n2 : (noList d && noLists ds) = true := n
    obtain ⟨n3, n4⟩ := Bool.and_eq_true_iff.mp n2
    exact .cons (rp_onlyT e h n3) (rps_onlyT e a n4)
end
theorem stp_onlyT {pp : Addr} {F F1 H F' H' : Hp} (B : Bs pp F H) (e : Same F F1) (n : ∀ b o, F1 b = some o → F b = some o ∨ ∃ xs, o = .lst xs) (s : Stp pp F1 H F' H') : Stp pp F H (onlyT F F') H' := by
  refine ⟨fun b o h => ?_, fun b o h => ?_, s.fr, fun b o h => ?_, s.po⟩
  · unfold onlyT; rw [h]
  · unfold onlyT at h
    cases q : F b with
    | some u =>
      rw [q] at h
      cases h
      exact s.fr b _ (fun z => by subst z; rw [B.fp] at q; cases q) (B.fh b _ q)
    | none =>
      rw [q] at h
      cases q2 : F' b with
      | none => rw [q2] at h; cases h
      | some u =>
        rw [q2] at h
        cases u with
        | tup xs => cases h; exact s.fh b _ q2
        | _ => cases h
  · unfold onlyT at h
    cases q : F b with
    | some u => rw [q] at h; exact .inl h
    | none =>
      rw [q] at h
      cases q2 : F' b with
      | none => rw [q2] at h; cases h
      | some u =>
        rw [q2] at h
        cases u with
        | tup xs =>
          rcases s.nf b _ q2 with z | z
          · rcases n b _ z with z | ⟨ys, z⟩
            · rw [q] at z; cases z
            · cases z
          · exact .inr z
        | _ => cases h
section
variable {K : PySem.W.Frag} {W : Wd} {X : Cx} {e : Expr} {de : DE} {dt : DT}
theorem se_bor (is : List Nat) (h : SE W X e de) : SE W X e (dBor is de) := by
  obtain ⟨t, p, o⟩ := h
  refine ⟨t, p, fun env σ F H k Q R h q => ?_⟩
  unfold dBor at h
  cases e : frzAll env is with
  | none => rw [e] at h; cases h
  | some env' =>
    rw [e] at h
    obtain ⟨F1, s1, n1, R1⟩ := R.fzAll e
    refine o env' σ F1 H _ _ R1 h fun d v F' H' s r hk => ?_
    cases e2 : noList d with
    | false => simp only [e2] at hk; cases hk
    | true =>
      simp only [e2] at hk
      exact q d v _ H' (stp_onlyT R.bs s1 n1 s) (rp_onlyT (s1.trans s.ff) r e2) hk
theorem st_bor (is : List Nat) (h : ST W X e dt) : ST W X e (dBorT is dt) := by
  obtain ⟨t, p, o⟩ := h
  refine ⟨t, p, fun env σ F H k Q R h q => ?_⟩
  unfold dBorT at h
  cases e : frzAll env is with
  | none => rw [e] at h; cases h
  | some env' =>
    rw [e] at h
    obtain ⟨F1, s1, n1, R1⟩ := R.fzAll e
    exact o env' σ F1 H _ _ R1 h fun b F' H' s hk => q b _ H' (stp_onlyT R.bs s1 n1 s) hk
end

/-! ### lists of one's own changed -/
theorem small_lt {n : Nat} (h : small n = true) : n < sizeLine := Nat.lt_of_le_of_lt (Nat.le_of_ble_eq_true h) (by decide)
def sApp (i : Nat) (a : DE) : DS := fun B env => match look env i with
  | .ow ds => a env fun d => (match small ds.length with
    | true => B.nx (env.set i (.ow (ds ++ [d])))
    | false => false)
  | _ => false
def sExt (i : Nat) (a : DE) : DS := fun B env => match look env i with
  | .ow ds => a env fun d => (match d with
    | .list es => (match small (ds.length + es.length) with
      | true => B.nx (env.set i (.ow (ds ++ es)))
      | false => false)
    | _ => false)
  | _ => false
def sSetIx (i : Nat) (ix a : DE) : DS := fun B env => a env fun d => match look env i with
  | .ow ds => ix env fun j => (match j with
    | .int z => (match ixN ds.length z with
      | some n => B.nx (env.set i (.ow (ds.set n d)))
      | none => false)
    | _ => false)
  | _ => false
def sPop (i : Nat) : DS := fun B env => match look env i with
  | .ow (d :: ds) => B.nx (env.set i (.ow (d :: ds).dropLast))
  | _ => false
def sPopTo (j i : Nat) : DS := fun B env => match look env i with
  | .ow ds => (match ds[ds.length - 1]? with
    | some d => B.nx ((env.set i (.ow ds.dropLast)).set j (.fz d))
    | none => false)
  | _ => false
section
variable {K : PySem.W.Frag} {W : Wd} {X : Cx} {e eix : Expr} {de dx : DE} {pos p1 p2 p3 : Pos} {i j : Nat} {x y : Str}
theorem Rel.ow {env : Sls} {σ : L2.St} {F H : Hp} (r : Rel K W env σ F H) {ds : List PyData} (e : look env i = .ow ds) : ∃ p xs, σ[i]? = some (some (.ref p)) ∧ H p = some (.lst xs) ∧ F p = none ∧ p ≠ W.pp ∧ W.H0 p = none ∧ RpAll K F xs ds := r.sl i _ (look_some e (fun z => nomatch z))
theorem ss_app (h : SE W X e de) (hN : X.N[i]? = some x := by rfl) (hv : Vis X.env.scope x := by first | exact Or.inl rfl | exact Or.inr (Or.inl rfl) | exact Or.inr (Or.inr rfl)) (hd : (x == ("__debug__" : Str)) = false := by decide) (hcd : (x == ("__classdict__" : Str)) = false := by decide)
    (hsw : swapsWith (.Call (.Attribute (.Name x p1) "append" p2) [e] [] p3) none pos.line X.env = pure false := by rfl) (hbase : attributeBase (.Name x p1) "append" X.env (eval (.Name x p1) X.env) = eval (.Name x p1) X.env := by rfl)
    (hfew : ((backTo p3 (starEach [e] X.env)).all (fun x => !x.1) && (backToKw p3 (keywordEach [] X.env)).all (fun x => x.1.isSome) && decide (([e] : List Expr).length + ([] : List Keyword).length + (if ([] : List Keyword).isEmpty then 0 else 1) < 30)) = true := by rfl)
    (hline : (p2.endLine == p3.line) = true := by rfl) (hs : starEach [e] X.env = (false, eval e X.env) :: starEach [] X.env := by rfl) (hplain : (backTo p3 (starEach [] X.env)).any (·.1) = false := by rfl) :
    SS W X (.Expr (.Call (.Attribute (.Name x p1) "append" p2) [e] [] p3) pos) (sApp i de) := by
  obtain ⟨t, p, o⟩ := h
  refine ⟨_, ps_expr (pe_bm PySem.F.plainAttrs_list PySem.F.slot_list_append PySem.F.type_list_append mt_append (pe_var hN hv hd hcd) (pa_cons p pa_nil hs) hbase hfew hline hs hplain) hsw, fun env σ F H B D R h q => ?_⟩
  unfold sApp at h
  cases e : look env i with
  | ow ds =>
    rw [e] at h
    obtain ⟨pa, xs, g1, g2, g3, g4, g5, g6⟩ := R.ow e
    refine ⟨.ref pa, g1, .inl ⟨rfl, _, .inl (.inl g2)⟩, o env σ F H _ _ R h fun d v F1 H1 s1 r1 h1 => ?_⟩
    cases e2 : small ds.length with
    | false => simp only [e2] at h1; cases h1
    | true =>
      simp only [e2] at h1
      have R1 := R.step s1
      have g6' := g6.mono s1.ff
      refine ⟨pa, xs, v, rfl, rfl, s1.fr _ _ g4 g2, by rw [g6.length]; exact small_lt e2, ?_⟩
      exact q.nx _ _ F1 _ s1.ff (R1.wr (look_some e (fun z => nomatch z)) g1 (g6'.append (.cons r1 .nil))) h1
  | _ => rw [e] at h; cases h
theorem ss_ext (h : SE W X e de) (hN : X.N[i]? = some x := by rfl) (hv : Vis X.env.scope x := by first | exact Or.inl rfl | exact Or.inr (Or.inl rfl) | exact Or.inr (Or.inr rfl)) (hd : (x == ("__debug__" : Str)) = false := by decide) (hcd : (x == ("__classdict__" : Str)) = false := by decide)
    (hsw : swapsWith (.Call (.Attribute (.Name x p1) "extend" p2) [e] [] p3) none pos.line X.env = pure false := by rfl) (hbase : attributeBase (.Name x p1) "extend" X.env (eval (.Name x p1) X.env) = eval (.Name x p1) X.env := by rfl)
    (hfew : ((backTo p3 (starEach [e] X.env)).all (fun x => !x.1) && (backToKw p3 (keywordEach [] X.env)).all (fun x => x.1.isSome) && decide (([e] : List Expr).length + ([] : List Keyword).length + (if ([] : List Keyword).isEmpty then 0 else 1) < 30)) = true := by rfl)
    (hline : (p2.endLine == p3.line) = true := by rfl) (hs : starEach [e] X.env = (false, eval e X.env) :: starEach [] X.env := by rfl) (hplain : (backTo p3 (starEach [] X.env)).any (·.1) = false := by rfl) :
    SS W X (.Expr (.Call (.Attribute (.Name x p1) "extend" p2) [e] [] p3) pos) (sExt i de) := by
  obtain ⟨t, p, o⟩ := h
  refine ⟨_, ps_expr (pe_bm PySem.F.plainAttrs_list PySem.F.slot_list_extend PySem.F.type_list_extend mt_extend (pe_var hN hv hd hcd) (pa_cons p pa_nil hs) hbase hfew hline hs hplain) hsw, fun env σ F H B D R h q => ?_⟩
  unfold sExt at h
  cases e : look env i with
  | ow ds =>
    rw [e] at h
    obtain ⟨pa, xs, g1, g2, g3, g4, g5, g6⟩ := R.ow e
    refine ⟨.ref pa, g1, .inl ⟨rfl, _, .inl (.inl g2)⟩, o env σ F H _ _ R h fun d v F1 H1 s1 r1 h1 => ?_⟩
    have R1 := R.step s1
    have g6' := g6.mono s1.ff
    cases d with
    | list es =>
      cases r1 with
      | @lst pb wl _ hb rb =>
        cases e2 : small (ds.length + es.length) with
        | false => simp only [e2] at h1; cases h1
        | true =>
          simp only [e2] at h1
          refine ⟨pa, pb, xs, wl, rfl, rfl, s1.fr _ _ g4 g2, R1.bs.keep hb, by rw [g6.length, rb.length]; exact small_ok e2, ?_⟩
          exact q.nx _ _ F1 _ s1.ff (R1.wr (look_some e (fun z => nomatch z)) g1 (g6'.append rb)) h1
    | _ => cases h1
  | _ => rw [e] at h; cases h
theorem ss_setix (h : SE W X e de) (hx : SE W X eix dx) (hN : X.N[i]? = some x := by rfl) (hv : Vis X.env.scope x := by first | exact Or.inl rfl | exact Or.inr (Or.inl rfl) | exact Or.inr (Or.inr rfl)) (hd : (x == ("__debug__" : Str)) = false := by decide) (hcd : (x == ("__classdict__" : Str)) = false := by decide)
    (ha : ∀ v, assign (.Subscript (.Name x p1) eix p2) X.env v = (do
      let ov ← holding [v] (eval (.Name x p1) X.env)
      let iv ← holding [v, ov] (eval eix X.env)
      standAt p2
      holding [v, ov, iv] (setItem ov iv v)
      release [v, ov, iv] []) := by intro _; rfl)
    (hs : swapsWithSole [.Subscript (.Name x p1) eix p2] e pos.line X.env = pure false := by rfl) (hw : swappedStores [.Subscript (.Name x p1) eix p2] e X.env = pure none := by rfl)
    (h1 : (assignEach [.Subscript (.Name x p1) eix p2] X.env).map (·.2) = [assign (.Subscript (.Name x p1) eix p2) X.env] := by rfl) :
    SS W X (.Assign [.Subscript (.Name x p1) eix p2] e pos) (sSetIx i dx de) := by
  obtain ⟨t, p, o⟩ := h
  obtain ⟨t2, px, o2⟩ := hx
  refine ⟨_, ps_asg p (pg_sub (pe_var hN hv hd hcd) px set_list ha) hs hw h1, fun env σ F H B D R h q => o env σ F H _ _ R h fun d v F1 H1 s1 r1 h1 => ?_⟩
  have R1 := R.step s1
  cases e : look env i with
  | ow ds =>
    simp only [e] at h1
    obtain ⟨pa, xs, g1, g2, g3, g4, g5, g6⟩ := R1.ow e
    refine ⟨.ref pa, g1, o2 env σ F1 H1 _ _ R1 h1 fun d2 v2 F2 H2 s2 r2 h2 => ?_⟩
    have R2 := R1.step s2
    cases d2 with
    | int z =>
      cases r2
      cases e2 : ixN ds.length z with
      | none => simp only [e2] at h2; cases h2
      | some n =>
        simp only [e2] at h2
        refine ⟨pa, xs, z, n, rfl, rfl, s2.fr _ _ g4 g2, by rw [g6.length]; exact e2, ?_⟩
        exact q.nx _ _ F2 _ (s1.ff.trans s2.ff) (R2.wr (look_some e (fun z => nomatch z)) g1 ((g6.mono s2.ff).set (r1.mono s2.ff) n)) h2
    | _ => cases h2
  | _ => simp only [e] at h1; cases h1
theorem last_of {α : Type} (xs : List α) : xs[xs.length - 1]? = xs.getLast? := by rw [List.getLast?_eq_getElem?]
theorem ss_pop (hN : X.N[i]? = some x := by rfl) (hv : Vis X.env.scope x := by first | exact Or.inl rfl | exact Or.inr (Or.inl rfl) | exact Or.inr (Or.inr rfl)) (hd : (x == ("__debug__" : Str)) = false := by decide) (hcd : (x == ("__classdict__" : Str)) = false := by decide)
    (hsw : swapsWith (.Call (.Attribute (.Name x p1) "pop" p2) [] [] p3) none pos.line X.env = pure false := by rfl) (hbase : attributeBase (.Name x p1) "pop" X.env (eval (.Name x p1) X.env) = eval (.Name x p1) X.env := by rfl)
    (hline : (p2.endLine == p3.line) = true := by rfl) :
    SS W X (.Expr (.Call (.Attribute (.Name x p1) "pop" p2) [] [] p3) pos) (sPop i) := by
  refine ⟨_, ps_expr (pe_bm0 PySem.F.plainAttrs_list PySem.F.slot_list_pop PySem.F.type_list_pop mt_pop (pe_var hN hv hd hcd) hbase hline) hsw, fun env σ F H B D R h q => ?_⟩
  unfold sPop at h
  cases e : look env i with
  | ow ds =>
    rw [e] at h
    obtain ⟨pa, xs, g1, g2, g3, g4, g5, g6⟩ := R.ow e
    cases ds with
    | nil => cases h
    | cons d ds =>
      have hl : (d :: ds)[(d :: ds).length - 1]? = some ((d :: ds).getLast (List.cons_ne_nil _ _)) := by rw [last_of, List.getLast?_eq_getLast (List.cons_ne_nil d ds)]
      obtain ⟨v, h1, _⟩ := g6.at hl
      refine ⟨.ref pa, g1, .inl ⟨rfl, _, .inl (.inl g2)⟩, pa, xs, v, rfl, rfl, g2, by rw [g6.length]; exact h1, ?_⟩
      exact q.nx _ _ F _ (Same.refl F) (R.wr (look_some e (fun z => nomatch z)) g1 g6.dropLast) h
  | _ => rw [e] at h; cases h
theorem ss_popTo {p4 : Pos} {y : Str} (hNd : X.N.Nodup) (hN : X.N[i]? = some x := by rfl) (hv : Vis X.env.scope x := by first | exact Or.inl rfl | exact Or.inr (Or.inl rfl) | exact Or.inr (Or.inr rfl)) (hd : (x == ("__debug__" : Str)) = false := by decide) (hcd : (x == ("__classdict__" : Str)) = false := by decide)
    (hj : X.N[j]? = some y := by rfl) (hy : Loc X.env.scope y := by first | exact Or.inl rfl | exact Or.inr rfl) (hf : X.fn y = true ∨ X.env.scope.names.lookup y = some .local := by first | exact .inl rfl | exact .inr rfl)
    (hsw : swapsWith (.Call (.Attribute (.Name x p1) "pop" p2) [] [] p3) (some (.Name y p4)) pos.line X.env = pure false := by rfl) (hbase : attributeBase (.Name x p1) "pop" X.env (eval (.Name x p1) X.env) = eval (.Name x p1) X.env := by rfl)
    (hline : (p2.endLine == p3.line) = true := by rfl) :
    SS W X (.Assign [.Name y p4] (.Call (.Attribute (.Name x p1) "pop" p2) [] [] p3) pos) (sPopTo j i) := by
  refine ⟨_, ps_set hNd hj hy (pe_bm0 PySem.F.plainAttrs_list PySem.F.slot_list_pop PySem.F.type_list_pop mt_pop (pe_var hN hv hd hcd) hbase hline) hsw hf, fun env σ F H B D R h q => ?_⟩
  unfold sPopTo at h
  cases e : look env i with
  | ow ds =>
    rw [e] at h
    obtain ⟨pa, xs, g1, g2, g3, g4, g5, g6⟩ := R.ow e
    cases e2 : ds[ds.length - 1]? with
    | none => simp only [e2] at h; cases h
    | some d =>
      simp only [e2] at h
      obtain ⟨v, h1, h2⟩ := g6.at e2
      refine ⟨.ref pa, g1, .inl ⟨rfl, _, .inl (.inl g2)⟩, pa, xs, v, rfl, rfl, g2, by rw [g6.length]; exact h1, ?_⟩
      exact q.nx _ _ F _ (Same.refl F) ((R.wr (look_some e (fun z => nomatch z)) g1 g6.dropLast).set h2 j) h
  | _ => rw [e] at h; cases h
end
end Dl

namespace Dl
open PySem PySem.Spec PyProof.Rows L2

/-! ### xs[:e:-1] -/
def idxTo (n : Nat) (hi : Option Int) : List Nat := sliceRange (sliceBounds none hi (some (-1)) n).1 (sliceBounds none hi (some (-1)) n).2.1 (sliceBounds none hi (some (-1)) n).2.2
def pickTo {α : Type} (xs : List α) (hi : Option Int) : List α := (idxTo xs.length hi).filterMap fun i => xs[i]?
theorem vals_pick {xs : List V} {us : List Value} (r : Vals xs us) : ∀ l : List Nat, Vals (l.filterMap fun i => xs[i]?) (l.filterMap fun i => us[i]?)
  | [] => .nil
  | i :: l => by
    rw [List.filterMap_cons, List.filterMap_cons]
    cases e : xs[i]? with
    | none =>
      rw [r.none_of e]
      exact vals_pick r l
    | some x =>
      obtain ⟨u, h1, h2⟩ := r.get e
      rw [h1]
      exact .cons h2 (vals_pick r l)
theorem rp_pick {K : PySem.W.Frag} {F : Hp} {xs : List V} {ds : List PyData} (r : RpAll K F xs ds) : ∀ l : List Nat, RpAll K F (l.filterMap fun i => xs[i]?) (l.filterMap fun i => ds[i]?)
  | [] => .nil
  | i :: l => by
    rw [List.filterMap_cons, List.filterMap_cons]
    cases e : xs[i]? with
    | none =>
      have e2 : ds[i]? = none := by
        have := List.getElem?_eq_none_iff.mp e
        rw [r.length] at this
        exact List.getElem?_eq_none_iff.mpr this
      rw [e2]
      exact rp_pick r l
    | some x =>
      obtain ⟨u, h1, h2⟩ := r.at' e
      rw [h1]
      exact .cons h2 (rp_pick r l)
theorem idxTo_len (n : Nat) (hi : Option Int) : (idxTo n hi).length ≤ n := by
  unfold idxTo
  refine sliceRange_length_le _ _ _ n (fun h => ?_) (fun _ => ?_)
  · exfalso
    simp [sliceBounds] at h
  · simp only [sliceBounds, Option.getD_some]
    constructor
    · simp
    · cases hi with
      | none => simp
      | some i => simp; split <;> omega
theorem pick_len {α : Type} (xs : List α) (hi : Option Int) : (pickTo xs hi).length ≤ xs.length := Nat.le_trans (List.length_filterMap_le _ _) (idxTo_len _ _)
section
variable {X : Cx} {W : Wd}
def tRevTo (K : PySem.W.Frag) (te : TE) (to : TO) : TE := fun σ H Q => te σ H fun x H1 => to σ H1 fun o H2 => ∃ a xs, x = .ref a ∧ SqL K H2 a xs ∧ ∀ p, H2 p = none → Q (.ref p) (upd H2 p (.lst (pickTo xs o)))
theorem pe_revTo {e : Expr} {hi : Option Expr} {te : TE} {to : TO} {k : Nat} {p1 p2 p3 pos : Pos} (he : PE X e te) (ho : PO X hi to) : PE X (.Subscript e (.Slice none hi (some (.UnaryOp .USub (.Constant (.int 1) k p1) p2)) p3) pos) (tRevTo X.K te to) := by
  refine ⟨fun pins s σ H Q I h => ?_⟩
  refine Subscript_ (thn (he.run pins s σ H _ I h) fun v s1 ⟨x, H1, I1, r1, q1⟩ => ?_)
  have hst : PO X (some (.UnaryOp .USub (.Constant (.int 1) k p1) p2)) (tPart (tUn (rU fun i => .int (-i)) (tC (.int 1)))) := po_some (pe_un un_neg pe_int)
  refine wpAny_Slice (thn (po_none.run pins s1 σ H1 (fun o H2 => o = none ∧ H2 = H1) I1 ⟨rfl, rfl⟩) fun vl s2 ⟨l, H2, I2, pl, el, e2⟩ => ?_)
  subst el e2
  refine thn (ho.run pins s2 σ H2 _ I2 q1) fun vu s3 ⟨u, H3, I3, pu, a, xs, ex, hx, q⟩ => ?_
  subst ex
  cases r1
  refine thn (hst.run pins s3 σ H3 (fun o H4 => o = some (-1) ∧ H4 = H3) I3 ⟨1, rfl, -1, rfl, rfl, rfl⟩) fun vs s4 ⟨o, H4, I4, ps, eo, e4⟩ => ?_
  subst eo e4
  have I5 : Inv X pins σ H4 { s4 with heap := s4.heap.push { cls := .type "slice", data := .fields #[vl, vu, vs] } } := I4.kept (t' := s4.toks) fun b ob q => Heap.get?_push_of_some _ q
  obtain ⟨its, r, ht, hz⟩ := I5.list hx
  have hlen := r.length
  show wpAny (model X.prog X.w) X.A (subscriptTail e (.Slice none hi (some (.UnaryOp .USub (.Constant (.int 1) k p1) p2)) p3) (.ref a) (.ref s4.heap.objs.size)) (EP X pins σ Q) X.xe { s4 with heap := s4.heap.push { cls := .type "slice", data := .fields #[vl, vu, vs] } }
  refine tail_any (ops := [.ref a, .ref s4.heap.objs.size]) ht.isList.typeIs (PySem.slot_list_getitem.lookup) ?_ (by with_unfolding_all rfl)
  refine wpAny_getItem_list_slice ht.isList (Heap.IsSliceOf.new _ vl vu vs) pl pu ps (by decide) ?_ (by rw [List.size_toArray]; omega)
  have ep : slicePick its.toArray none u (some (-1)) = (pickTo its u).toArray := by
    unfold slicePick pickTo idxTo
    rw [List.size_toArray]
    congr 1
    try (congr 1; funext i; simp)
  rw [ep]
  refine ⟨.ref _, _, I5.laid (t' := s4.toks) (o := .lst (pickTo xs u)) (fun b ob q => Heap.get?_push_of_some _ q) (Nat.le_refl _) ?_, rfl, q _ (I5.hok.fresh (Nat.le_refl _))⟩
  exact ⟨Nat.le_trans (pick_len xs u) hz, _, 0, by unfold pickTo; rw [hlen]; exact vals_pick r _, Heap.get?_push_size _ rfl⟩
def dRevTo (a b : DE) : DE := fun env k => a env fun x => b env fun y => match x, y with
  | .list xs, .int i => k (.list (pickTo xs (some i)))
  | _, _ => false
theorem se_revTo {ea eb : Expr} {da db : DE} {k : Nat} {p1 p2 p3 pos : Pos} (a : SE W X ea da) (b : SE W X eb db) : SE W X (.Subscript ea (.Slice none (some eb) (some (.UnaryOp .USub (.Constant (.int 1) k p1) p2)) p3) pos) (dRevTo da db) := by
  obtain ⟨t1, p1, o1⟩ := a
  obtain ⟨t2, p2, o2⟩ := b
  refine ⟨_, pe_revTo p1 (po_some p2), fun env σ F H k Q R h q => o1 env σ F H _ _ R h fun d v F1 H1 s1 r1 h1 => o2 env σ F1 H1 _ _ (R.step s1) h1 fun d2 v2 F2 H2 s2 r2 h2 => ?_⟩
  have B := ((R.step s1).step s2).bs
  have r1 := r1.mono s2.ff
  cases d with
  | list xs =>
    cases d2 with
    | int i =>
      cases r2
      cases r1 with
      | @lst pa vl _ ha ra =>
        refine ⟨i, rfl, pa, vl, rfl, .inl (.inl (B.keep ha)), fun p np => ?_⟩
        have st := Stp.new (o := .lst (pickTo vl (some i))) B np
        refine q _ _ _ _ ((s1.trans s2).trans st) (.lst upd_same ?_) h2
        have rp : RpAll X.K F2 (pickTo vl (some i)) (pickTo xs (some i)) := by
          unfold pickTo
          rw [ra.length]
          exact rp_pick ra _
        exact rp.mono st.ff
    | _ => cases h2
  | _ => cases h2
end
/-! ### draws: any number below -/
def allB : Nat → (Nat → Bool) → Bool
  | 0, _ => true
  | n + 1, f => match f n with
    | true => allB n f
    | false => false
def mDraw : Fn := fun ds k => match ds with
  | [.dict (_ :: _), .int (.ofNat (n + 1))] => (match Nat.ble n 1000000000 with
    | true => allB (n + 1) fun c => k (.int (Int.ofNat c))
    | false => false)
  | _ => false
def isT : KF := fun d => match d with
  | .bool true => true
  | _ => false
/-! ### three names at once -/
def sPar3 (i j l : Nat) (a : DA) : DS := fun B env => a env fun ds => match ds with
  | [d, e, f] => B.nx (((env.set i (.fz d)).set j (.fz e)).set l (.fz f))
  | _ => false
section
variable {W : Wd} {X : Cx}
theorem ss_par3 {i j l : Nat} {x y z : Str} {ea eb ec : Expr} {da : DA} {px py pz pt pos : Pos} {kt k2 : Nat} {pt2 : Pos} (hc : X.calm = true) (hN : X.N.Nodup) (ha : SA W X [ea, eb, ec] da) (hi : X.N[i]? = some x := by rfl) (hj : X.N[j]? = some y := by rfl) (hl : X.N[l]? = some z := by rfl)
    (hij : i ≠ j := by decide) (hil : i ≠ l := by decide) (hjl : j ≠ l := by decide) (hx : X.env.scope.names.lookup x = some .local := by rfl) (hy : X.env.scope.names.lookup y = some .local := by rfl) (hz : X.env.scope.names.lookup z = some .local := by rfl)
    (hw : swappedStores [.Tuple [.Name x px, .Name y py, .Name z pz] kt pt] (.Tuple [ea, eb, ec] k2 pt2) X.env = pure (some [x, y, z]) := by rfl)
    (hs : swapsWithSole [.Tuple [.Name x px, .Name y py, .Name z pz] kt pt] (.Tuple [ea, eb, ec] k2 pt2) pos.line X.env = pure false := by rfl) :
    SS W X (.Assign [.Tuple [.Name x px, .Name y py, .Name z pz] kt pt] (.Tuple [ea, eb, ec] k2 pt2) pos) (sPar3 i j l da) := by
  obtain ⟨t, p, o⟩ := ha
  refine ⟨_, ps_par3 hc hN hi hj hl hij hil hjl hx hy hz p hw hs, fun env σ F H B D R h q => o env σ F H _ _ R h fun ds vs F1 H1 s1 r1 h1 => ?_⟩
  cases r1 with
  | nil => cases h1
  | @cons v1 vs d1 ds r1 rr =>
    cases rr with
    | nil => cases h1
    | @cons v2 vs d2 ds r2 rr =>
      cases rr with
      | nil => cases h1
      | @cons v3 vs d3 ds r3 rr =>
        cases rr with
        | cons _ _ => cases h1
        | nil => exact ⟨v1, v2, v3, rfl, q.nx _ _ F1 H1 s1.ff ((((R.step s1).set r1 i).set r2 j).set r3 l) h1⟩
end
end Dl

namespace Dl
open PySem PySem.Spec PyProof.Rows L2
/-! ### fractions worked out at once -/
def logOk (n : Nat) : Bool := Nat.ble (Nat.log2 n) 8999
def mkP (t : Int) (m : Nat) (k : KF) : Bool := match logOk m with
  | true => frN (Nat.gcd t.natAbs m) fun g => fI (t / Int.ofNat g) fun a => frN (m / g) fun c => k (.tuple [.int a, .int (.ofNat c)])
  | false => false
def mkFr (t b : Int) (k : KF) : Bool := match b with
  | .ofNat 0 => false
  | .ofNat (n + 1) => mkP t (n + 1) k
  | .negSucc n => fI (0 - t) fun t => mkP t (n + 1) k
def qDivisor : Fn := fun ds k => match ds with
  | [.int (.ofNat a), .int (.ofNat b)] => (match logOk b with
    | true => frN (Nat.gcd a b) fun g => k (.int (.ofNat g))
    | false => false)
  | _ => false
def qReduced : Fn := fun ds k => match ds with
  | [.int t, .int b] => mkFr t b k
  | _ => false
def qFr2 (f : Int → Int → Int → Int → KF → Bool) : Fn := fun ds k => match ds with
  | [.tuple [.int a, .int b], .tuple [.int c, .int d]] => f a b c d k
  | _ => false
/-- a * b, worked out -/
def mI (a b : Int) (k : Int → Bool) : Bool := match mulOk a b with
  | true => fI (a * b) k
  | false => false
def qAddR (red : Fn) : Fn := qFr2 fun a b c d k => mI a d fun x => mI c b fun y => mI b d fun z => fI (x + y) fun t => red [.int t, .int z] k
def qTakeR (red : Fn) : Fn := qFr2 fun a b c d k => mI a d fun x => mI c b fun y => mI b d fun z => fI (x - y) fun t => red [.int t, .int z] k
def qMulR (red : Fn) : Fn := qFr2 fun a b c d k => mI a c fun x => mI b d fun z => red [.int x, .int z] k
def qDivR (red : Fn) : Fn := qFr2 fun a b c d k => mI a d fun x => mI b c fun z => red [.int x, .int z] k
def qBelow : Fn := qFr2 fun a b c d k => mI a d fun x => mI c b fun y => k (.bool (decide (x < y)))
theorem mI_eq {a b : Int} {k : Int → Bool} (h : mI a b k = true) : mulOk a b = true ∧ k (a * b) = true := by
  unfold mI at h
  cases e : mulOk a b with
  | false => rw [e] at h; cases h
  | true =>
    rw [e] at h
    exact ⟨rfl, (fI_eq _ _).symm.trans h⟩
theorem mkP_eq {t : Int} {m : Nat} {k : KF} (h : mkP t m k = true) : logOk m = true ∧ k (.tuple [.int (t / Int.ofNat (Nat.gcd t.natAbs m)), .int (Int.ofNat (m / Nat.gcd t.natAbs m))]) = true := by
  unfold mkP at h
  cases e : logOk m with
  | false => rw [e] at h; cases h
  | true =>
    rw [e] at h
    refine ⟨rfl, ?_⟩
    have h : frN (Nat.gcd t.natAbs m) (fun g => fI (t / Int.ofNat g) fun a => frN (m / g) fun c => k (.tuple [.int a, .int (.ofNat c)])) = true := h
    rw [frN_eq, fI_eq, frN_eq] at h
    exact h
theorem mkFr_eq {t b : Int} {k : KF} (h : mkFr t b k = true) : ∃ (s : Int) (n : Nat), mkP s (n + 1) k = true ∧ ((b = Int.ofNat (n + 1) ∧ s = t) ∨ (b = Int.negSucc n ∧ s = 0 - t)) := by
  unfold mkFr at h
  split at h
  · cases h
  · exact ⟨t, _, h, .inl ⟨rfl, rfl⟩⟩
  · rename_i n
    rw [fI_eq] at h
    exact ⟨0 - t, n, h, .inr ⟨rfl, rfl⟩⟩
theorem allB_all {n : Nat} {f : Nat → Bool} (h : allB n f = true) : ∀ c, c < n → f c = true := by
  induction n with
  | zero => intro c hc; exact absurd hc (Nat.not_lt_zero c)
  | succ n ih =>
    intro c hc
    unfold allB at h
    cases e : f n with
    | false => rw [e] at h; cases h
    | true =>
      rw [e] at h
      by_cases hn : c = n
      · rw [hn]; exact e
      · exact ih h c (by omega)
theorem allB_of {n : Nat} {f : Nat → Bool} (h : ∀ c, c < n → f c = true) : allB n f = true := by
  induction n with
  | zero => rfl
  | succ n ih =>
    unfold allB
    rw [h n (Nat.lt_succ_self n)]
    exact ih fun c hc => h c (by omega)
theorem qFr2_eq {f : Int → Int → Int → Int → KF → Bool} {ds : List PyData} {k : KF} (h : qFr2 f ds k = true) : ∃ a b c d, ds = [.tuple [.int a, .int b], .tuple [.int c, .int d]] ∧ f a b c d k = true := by
  unfold qFr2 at h
  split at h
  · exact ⟨_, _, _, _, rfl, h⟩
  · cases h
/-! ### the loop of the greatest common divisor -/
def gcdT : DT := dB (dOp gGt (dVar 1) (dC (.int 0)))
def gcdB : DS := sPar 0 1 (aCons (dVar 1) (aCons (dOp gMod (dCB gInt (aCons (dVar 0) aNil)) (dVar 1)) aNil))
theorem gcd_end (B : DEnds) (n a : Nat) (r : Sls) : goWh gcdT gcdB B (n + 1) (.fz (.int (Int.ofNat a)) :: .fz (.int (Int.ofNat 0)) :: r) = B.nx (.fz (.int (Int.ofNat a)) :: .fz (.int (Int.ofNat 0)) :: r) := rfl
theorem gcd_step (B : DEnds) (n a b : Nat) (r : Sls) (h : logOk (b + 1) = true) : goWh gcdT gcdB B (n + 1) (.fz (.int (Int.ofNat a)) :: .fz (.int (Int.ofNat (b + 1))) :: r) = goWh gcdT gcdB B n (.fz (.int (Int.ofNat (b + 1))) :: .fz (.int (Int.ofNat (a % (b + 1)))) :: r) := by
  have e : decide ((0 : Int) < Int.ofNat (b + 1)) = true := decide_eq_true (Int.ofNat_lt.mpr (Nat.succ_pos b))
  show (match decide ((0 : Int) < Int.ofNat (b + 1)) with
    | true => gcdB { nx := goWh gcdT gcdB B n, rt := B.rt, ct := goWh gcdT gcdB B n, bk := B.nx } _
    | false => B.nx _) = _
  rw [e]
  show (match divOk (Int.ofNat (b + 1)) with
    | true => fI (Int.ofNat a % Int.ofNat (b + 1)) fun z => goWh gcdT gcdB B n (.fz (.int (Int.ofNat (b + 1))) :: .fz (.int z) :: r)
    | false => false) = _
  rw [show divOk (Int.ofNat (b + 1)) = true from h]
  show fI _ _ = _
  rw [fI_eq]
  rfl
theorem log_mono {a b : Nat} (h : a ≤ b) (hb : logOk b = true) : logOk a = true := by
  have h1 : Nat.log2 b ≤ 8999 := Nat.le_of_ble_eq_true hb
  refine Nat.ble_eq_true_of_le (Nat.le_trans ?_ h1)
  by_cases ha : a = 0
  · subst ha; simp
  · have hb0 : b ≠ 0 := by omega
    exact (Nat.le_log2 hb0).mpr (Nat.le_trans (Nat.log2_self_le ha) h)
theorem gcd_loop (B : DEnds) (r : Sls) : ∀ (n fuel a b : Nat), b < 2 ^ n → 2 * n + 1 ≤ fuel → logOk b = true → goWh gcdT gcdB B fuel (.fz (.int (Int.ofNat a)) :: .fz (.int (Int.ofNat b)) :: r) = B.nx (.fz (.int (Int.ofNat (Nat.gcd a b))) :: .fz (.int (Int.ofNat 0)) :: r)
  | 0, fuel, a, b, hb, hf, hl => by
    have e : b = 0 := by simpa using hb
    subst e
    obtain ⟨m, rfl⟩ : ∃ m, fuel = m + 1 := ⟨fuel - 1, by omega⟩
    rw [gcd_end, Nat.gcd_zero_right]
  | n + 1, fuel, a, b, hb, hf, hl => by
    obtain ⟨m, rfl⟩ : ∃ m, fuel = m + 2 := ⟨fuel - 2, by omega⟩
    cases b with
    | zero => rw [gcd_end, Nat.gcd_zero_right]
    | succ b =>
      rw [gcd_step _ _ _ _ _ hl]
      have hr : a % (b + 1) < b + 1 := Nat.mod_lt _ (Nat.succ_pos b)
      have e1 : Nat.gcd a (b + 1) = Nat.gcd (b + 1) (a % (b + 1)) := by
        rw [Nat.gcd_comm a, Nat.gcd_rec, Nat.gcd_comm]
      rw [e1]
      generalize a % (b + 1) = c at hr
      cases c with
      | zero => rw [gcd_end, Nat.gcd_zero_right]
      | succ c =>
        rw [gcd_step _ _ _ _ _ (log_mono (by omega) hl)]
        have e2 : Nat.gcd (b + 1) (c + 1) = Nat.gcd (c + 1) ((b + 1) % (c + 1)) := by
          rw [Nat.gcd_comm (b + 1), Nat.gcd_rec, Nat.gcd_comm]
        rw [e2]
        have hh : (b + 1) % (c + 1) < 2 ^ n := by
          have h2 : (b + 1) % (c + 1) < c + 1 := Nat.mod_lt _ (Nat.succ_pos c)
          have h3 : (b + 1) % (c + 1) + (c + 1) ≤ b + 1 := by
            have h4 := Nat.div_add_mod (b + 1) (c + 1)
            have h5 : 1 ≤ (b + 1) / (c + 1) := (Nat.one_le_div_iff (Nat.succ_pos c)).mpr (by omega)
            have h6 : c + 1 ≤ (c + 1) * ((b + 1) / (c + 1)) := Nat.le_mul_of_pos_right _ h5
            omega
          have h7 : b + 1 < 2 * 2 ^ n := by rw [Nat.pow_succ] at hb; omega
          omega
        exact gcd_loop B r n m (c + 1) ((b + 1) % (c + 1)) hh (by omega) (log_mono (Nat.mod_le _ _) hl)
set_option exponentiation.threshold 1000000 in
theorem lt_of_log {b : Nat} (h : logOk b = true) : b < 2 ^ 9000 := by
  have h1 : Nat.log2 b ≤ 8999 := Nat.le_of_ble_eq_true h
  by_cases hb : b = 0
  · subst hb; exact Nat.two_pow_pos _
  · exact (Nat.log2_lt hb).mp (by omega)
theorem le_divisor (n : Nat) (ds : List PyData) (k : KF) (h : qDivisor ds k = true) : mOf n (sSeq (sWh 1000000 gcdT gcdB) (sRet (dVar 0))) ds k = true := by
  unfold qDivisor at h
  split at h
  · rename_i a b
    cases e : logOk b with
    | false => rw [e] at h; cases h
    | true =>
      rw [e] at h
      have h : frN (Nat.gcd a b) (fun g => k (.int (.ofNat g))) = true := h
      rw [frN_eq] at h
      show goWh gcdT gcdB _ 1000000 (.fz (.int (Int.ofNat a)) :: .fz (.int (Int.ofNat b)) :: _) = true
      rw [gcd_loop _ _ 9000 1000000 a b (lt_of_log e) (by decide) e]
      exact h
  · cases h
end Dl

namespace Dl
open PySem PySem.Spec PyProof.Rows L2
/-! ### the bodies of the fractions' defs -/
abbrev x00 : DE := dOp gIx (dVar 0) (dC (.int 0))
abbrev x01 : DE := dOp gIx (dVar 0) (dC (.int 1))
abbrev x10 : DE := dOp gIx (dVar 1) (dC (.int 0))
abbrev x11 : DE := dOp gIx (dVar 1) (dC (.int 1))
def bReduced (dv : Fn) : DS := (sSeq (sIf (dB (dOp gLt (dVar 1) (dC (.int 0)))) (sPar 0 1 (aCons (dOp gSub (dC (.int 0)) (dVar 0)) (aCons (dOp gSub (dC (.int 0)) (dVar 1)) aNil))) sNil)
  (sSeq (sAsg (dCallN 2 dv (aCons (dCB gAbs (aCons (dVar 0) aNil)) (aCons (dVar 1) aNil))) (gN 2))
  (sRet (dTup (aCons (dOp gFdiv (dVar 0) (dVar 2)) (aCons (dOp gFdiv (dVar 1) (dVar 2)) aNil))))))
def bAdd (red : Fn) : DS := sRet (dCallN 2 red (aCons (dOp gAdd (dOp gMul x00 x11) (dOp gMul x10 x01)) (aCons (dOp gMul x01 x11) aNil)))
def bTake (red : Fn) : DS := sRet (dCallN 2 red (aCons (dOp gSub (dOp gMul x00 x11) (dOp gMul x10 x01)) (aCons (dOp gMul x01 x11) aNil)))
def bMul (red : Fn) : DS := sRet (dCallN 2 red (aCons (dOp gMul x00 x10) (aCons (dOp gMul x01 x11) aNil)))
def bDiv (red : Fn) : DS := sRet (dCallN 2 red (aCons (dOp gMul x00 x11) (aCons (dOp gMul x01 x10) aNil)))
def bBelow : DS := sRet (dOp gLt (dOp gMul x00 x11) (dOp gMul x10 x01))
theorem abs_eq (t : Int) : (if t < 0 then -t else t) = Int.ofNat t.natAbs := by
  split
  · rw [Int.ofNat_eq_natCast]; omega
  · rw [Int.ofNat_eq_natCast]; omega
theorem divOk_of {g : Nat} (h : 0 < g) (l : logOk g = true) : divOk (Int.ofNat g) = true := by
  cases g with
  | zero => exact absurd h (Nat.lt_irrefl 0)
  | succ g => exact l
theorem gFdiv_of {i : Int} {g : Nat} (h : 0 < g) (l : logOk g = true) (k : KF) : gFdiv (.int i) (.int (Int.ofNat g)) k = k (.int (i / Int.ofNat g)) := by
  show (match divOk (Int.ofNat g) with
    | true => fI (i / Int.ofNat g) fun z => k (.int z)
    | false => false) = _
  rw [divOk_of h l]
  show fI _ _ = _
  rw [fI_eq]
theorem gMul_of {i j : Int} (h : mulOk i j = true) (k : KF) : gMul (.int i) (.int j) k = k (.int (i * j)) := by
  show (match mulOk i j with
    | true => fI (i * j) fun z => k (.int z)
    | false => false) = _
  rw [h]
  show fI _ _ = _
  rw [fI_eq]
theorem gAdd_of (i j : Int) (k : KF) : gAdd (.int i) (.int j) k = k (.int (i + j)) := fI_eq (i + j) fun z => k (.int z)
theorem gSub_of (i j : Int) (k : KF) : gSub (.int i) (.int j) k = k (.int (i - j)) := fI_eq (i - j) fun z => k (.int z)
theorem qDivisor_of (a b : Nat) (h : logOk b = true) (k : KF) : qDivisor [.int (Int.ofNat a), .int (Int.ofNat b)] k = k (.int (Int.ofNat (Nat.gcd a b))) := by
  show (match logOk b with
    | true => frN (Nat.gcd a b) fun g => k (.int (.ofNat g))
    | false => false) = _
  rw [h]
  show frN _ _ = _
  rw [frN_eq]
def redK (t b : Int) (k : KF) : Bool := qDivisor [.int (if t < 0 then -t else t), .int b] (fun d => gFdiv (.int t) d fun x => gFdiv (.int b) d fun y => k (.tuple [x, y]))
theorem red_tail {t : Int} {m : Nat} {k : KF} (hm : 0 < m) (h : mkP t m k = true) : qDivisor [.int (if t < 0 then -t else t), .int (Int.ofNat m)] (fun d => gFdiv (.int t) d fun x => gFdiv (.int (Int.ofNat m)) d fun y => k (.tuple [x, y])) = true := by
  obtain ⟨h1, h2⟩ := mkP_eq h
  have hg : 0 < Nat.gcd t.natAbs m := Nat.gcd_pos_of_pos_right _ hm
  have hl : logOk (Nat.gcd t.natAbs m) = true := log_mono (Nat.le_of_dvd hm (Nat.gcd_dvd_right _ _)) h1
  rw [abs_eq, qDivisor_of _ _ h1, gFdiv_of hg hl, gFdiv_of hg hl]
  exact h2
theorem le_reduced (ds : List PyData) (k : KF) (h : qReduced ds k = true) : mOf 3 (bReduced qDivisor) ds k = true := by
  unfold qReduced at h
  split at h
  · rename_i t b
    obtain ⟨s, n, h1, h2⟩ := mkFr_eq h
    rcases h2 with ⟨rfl, rfl⟩ | ⟨rfl, rfl⟩
    · have e : decide (Int.ofNat (n + 1) < (0 : Int)) = false := decide_eq_false (by rw [Int.ofNat_eq_natCast]; omega)
      show (match decide (Int.ofNat (n + 1) < (0 : Int)) with
        | true => fI (0 - s) fun z => fI (0 - Int.ofNat (n + 1)) fun y => redK z y k
        | false => redK s (Int.ofNat (n + 1)) k) = true
      rw [e]
      exact red_tail (Nat.succ_pos n) h1
    · have e : decide (Int.negSucc n < (0 : Int)) = true := decide_eq_true (Int.negSucc_lt_zero n)
      show (match decide (Int.negSucc n < (0 : Int)) with
        | true => fI (0 - t) fun z => fI (0 - Int.negSucc n) fun y => redK z y k
        | false => redK t (Int.negSucc n) k) = true
      rw [e]
      show fI (0 - t) (fun z => fI (0 - Int.negSucc n) fun y => redK z y k) = true
      rw [fI_eq, fI_eq]
      have e2 : (0 : Int) - Int.negSucc n = Int.ofNat (n + 1) := by
        rw [Int.ofNat_eq_natCast]; omega
      rw [e2]
      exact red_tail (Nat.succ_pos n) h1
  · cases h
theorem le_add (red : Fn) (ds : List PyData) (k : KF) (h : qAddR red ds k = true) : mOf 2 (bAdd red) ds k = true := by
  obtain ⟨a, b, c, d, rfl, h⟩ := qFr2_eq h
  obtain ⟨m1, h⟩ := mI_eq h
  obtain ⟨m2, h⟩ := mI_eq h
  obtain ⟨m3, h⟩ := mI_eq h
  rw [fI_eq] at h
  show gMul (.int a) (.int d) (fun x => gMul (.int c) (.int b) fun y => gAdd x y fun s => gMul (.int b) (.int d) fun z => red [s, z] k) = true
  rw [gMul_of m1, gMul_of m2, gAdd_of, gMul_of m3]
  exact h
theorem le_take (red : Fn) (ds : List PyData) (k : KF) (h : qTakeR red ds k = true) : mOf 2 (bTake red) ds k = true := by
  obtain ⟨a, b, c, d, rfl, h⟩ := qFr2_eq h
  obtain ⟨m1, h⟩ := mI_eq h
  obtain ⟨m2, h⟩ := mI_eq h
  obtain ⟨m3, h⟩ := mI_eq h
  rw [fI_eq] at h
  show gMul (.int a) (.int d) (fun x => gMul (.int c) (.int b) fun y => gSub x y fun s => gMul (.int b) (.int d) fun z => red [s, z] k) = true
  rw [gMul_of m1, gMul_of m2, gSub_of, gMul_of m3]
  exact h
theorem le_mul (red : Fn) (ds : List PyData) (k : KF) (h : qMulR red ds k = true) : mOf 2 (bMul red) ds k = true := by
  obtain ⟨a, b, c, d, rfl, h⟩ := qFr2_eq h
  obtain ⟨m1, h⟩ := mI_eq h
  obtain ⟨m3, h⟩ := mI_eq h
  show gMul (.int a) (.int c) (fun x => gMul (.int b) (.int d) fun z => red [x, z] k) = true
  rw [gMul_of m1, gMul_of m3]
  exact h
theorem le_div (red : Fn) (ds : List PyData) (k : KF) (h : qDivR red ds k = true) : mOf 2 (bDiv red) ds k = true := by
  obtain ⟨a, b, c, d, rfl, h⟩ := qFr2_eq h
  obtain ⟨m1, h⟩ := mI_eq h
  obtain ⟨m3, h⟩ := mI_eq h
  show gMul (.int a) (.int d) (fun x => gMul (.int b) (.int c) fun z => red [x, z] k) = true
  rw [gMul_of m1, gMul_of m3]
  exact h
theorem le_below (ds : List PyData) (k : KF) (h : qBelow ds k = true) : mOf 2 bBelow ds k = true := by
  obtain ⟨a, b, c, d, rfl, h⟩ := qFr2_eq h
  obtain ⟨m1, h⟩ := mI_eq h
  obtain ⟨m2, h⟩ := mI_eq h
  show gMul (.int a) (.int d) (fun x => gMul (.int c) (.int b) fun y => gLt x y k) = true
  rw [gMul_of m1, gMul_of m2]
  exact h
/-! ### other ways to write it -/
theorem gcd_any {T : DT} {G : DS} {E : Nat → Nat → Sls} {B : DEnds} (hend : ∀ n a, goWh T G B (n + 1) (E a 0) = B.nx (E a 0)) (hstep : ∀ n a b, logOk (b + 1) = true → goWh T G B (n + 1) (E a (b + 1)) = goWh T G B n (E (b + 1) (a % (b + 1)))) :
    ∀ (n fuel a b : Nat), b < 2 ^ n → 2 * n + 1 ≤ fuel → logOk b = true → goWh T G B fuel (E a b) = B.nx (E (Nat.gcd a b) 0)
  | 0, fuel, a, b, hb, hf, hl => by
    have e : b = 0 := by simpa using hb
    subst e
    obtain ⟨m, rfl⟩ : ∃ m, fuel = m + 1 := ⟨fuel - 1, by omega⟩
    rw [hend, Nat.gcd_zero_right]
  | n + 1, fuel, a, b, hb, hf, hl => by
    obtain ⟨m, rfl⟩ : ∃ m, fuel = m + 2 := ⟨fuel - 2, by omega⟩
    cases b with
    | zero => rw [hend, Nat.gcd_zero_right]
    | succ b =>
      rw [hstep _ _ _ hl]
      have hr : a % (b + 1) < b + 1 := Nat.mod_lt _ (Nat.succ_pos b)
      have e1 : Nat.gcd a (b + 1) = Nat.gcd (b + 1) (a % (b + 1)) := by
        rw [Nat.gcd_comm a, Nat.gcd_rec, Nat.gcd_comm]
      rw [e1]
      generalize a % (b + 1) = c at hr
      cases c with
      | zero => rw [hend, Nat.gcd_zero_right]
      | succ c =>
        rw [hstep _ _ _ (log_mono (by omega) hl)]
        have e2 : Nat.gcd (b + 1) (c + 1) = Nat.gcd (c + 1) ((b + 1) % (c + 1)) := by
          rw [Nat.gcd_comm (b + 1), Nat.gcd_rec, Nat.gcd_comm]
        rw [e2]
        have hh : (b + 1) % (c + 1) < 2 ^ n := by
          have h2 : (b + 1) % (c + 1) < c + 1 := Nat.mod_lt _ (Nat.succ_pos c)
          have h3 : (b + 1) % (c + 1) + (c + 1) ≤ b + 1 := by
            have h4 := Nat.div_add_mod (b + 1) (c + 1)
            have h5 : 1 ≤ (b + 1) / (c + 1) := (Nat.one_le_div_iff (Nat.succ_pos c)).mpr (by omega)
            have h6 : c + 1 ≤ (c + 1) * ((b + 1) / (c + 1)) := Nat.le_mul_of_pos_right _ h5
            omega
          have h7 : b + 1 < 2 * 2 ^ n := by rw [Nat.pow_succ] at hb; omega
          omega
        exact gcd_any hend hstep n m (c + 1) ((b + 1) % (c + 1)) hh (by omega) (log_mono (Nat.mod_le _ _) hl)
/-! by a sign and a loop of its own -/
def qPlain : Fn := fun ds k => match ds with
  | [.int t, .int b] => (match Nat.ble (Nat.log2 t.natAbs) 900000 with
    | true => mkFr t b k
    | false => false)
  | _ => false
def plainT : DT := dB (dOp gNe (dVar 3) (dC (.int 0)))
def plainB : DS := sPar 2 3 (aCons (dVar 3) (aCons (dOp gMod (dCB gInt (aCons (dVar 2) aNil)) (dVar 3)) aNil))
def bPlain : DS := (sSeq (sPar 2 3 (aCons (dCB gAbs (aCons (dVar 0) aNil)) (aCons (dCB gAbs (aCons (dVar 1) aNil)) aNil)))
  (sSeq (sWh 1000000 plainT plainB)
  (sSeq (sAsg (dIf (dB (dOp gGt (dVar 1) (dC (.int 0)))) (dC (.int 1)) (dUn gNeg (dC (.int 1)))) (gN 4))
  (sRet (dTup (aCons (dOp gFdiv (dOp gMul (dVar 4) (dVar 0)) (dVar 2)) (aCons (dOp gFdiv (dOp gMul (dVar 4) (dVar 1)) (dVar 2)) aNil)))))))
theorem gMod_of {i : Int} {g : Nat} (h : 0 < g) (l : logOk g = true) (k : KF) : gMod (.int i) (.int (Int.ofNat g)) k = k (.int (i % Int.ofNat g)) := by
  show (match divOk (Int.ofNat g) with
    | true => fI (i % Int.ofNat g) fun z => k (.int z)
    | false => false) = _
  rw [divOk_of h l]
  show fI _ _ = _
  rw [fI_eq]
theorem plain_loop (t b : PyData) (B : DEnds) (fuel a c : Nat) (hf : 18001 ≤ fuel) (hl : logOk c = true) :
    goWh plainT plainB B fuel [.fz t, .fz b, .fz (.int (Int.ofNat a)), .fz (.int (Int.ofNat c)), .no] = B.nx [.fz t, .fz b, .fz (.int (Int.ofNat (Nat.gcd a c))), .fz (.int (Int.ofNat 0)), .no] := by
  refine gcd_any (T := plainT) (G := plainB) (B := B) (E := fun a c => [.fz t, .fz b, .fz (.int (Int.ofNat a)), .fz (.int (Int.ofNat c)), .no]) (fun n a => rfl) (fun n a c h => ?_) 9000 fuel a c (lt_of_log hl) hf hl
  show gMod (.int (Int.ofNat a)) (.int (Int.ofNat (c + 1))) (fun z => goWh plainT plainB B n [.fz t, .fz b, .fz (.int (Int.ofNat (c + 1))), .fz z, .no]) = _
  rw [gMod_of (Nat.succ_pos c) h]
  rfl
def plainK (s t b : Int) (g : PyData) (k : KF) : Bool := gMul (.int s) (.int t) fun x => gFdiv x g fun x => gMul (.int s) (.int b) fun y => gFdiv y g fun y => k (.tuple [x, y])
theorem le_plain (ds : List PyData) (k : KF) (h : qPlain ds k = true) : mOf 5 bPlain ds k = true := by
  unfold qPlain at h
  split at h
  · rename_i t b
    cases e0 : Nat.ble (Nat.log2 t.natAbs) 900000 with
    | false => rw [e0] at h; cases h
    | true =>
      rw [e0] at h
      have l0 : Nat.log2 t.natAbs ≤ 900000 := Nat.le_of_ble_eq_true e0
      obtain ⟨s, n, h1, h2⟩ := mkFr_eq h
      obtain ⟨h3, h4⟩ := mkP_eq h1
      have l3 : Nat.log2 (n + 1) ≤ 8999 := Nat.le_of_ble_eq_true h3
      have eb : (if b < 0 then -b else b) = Int.ofNat (n + 1) := by
        rcases h2 with ⟨rfl, rfl⟩ | ⟨rfl, rfl⟩
        · rw [if_neg (by rw [Int.ofNat_eq_natCast]; omega)]
        · rw [if_pos (Int.negSucc_lt_zero n)]; rfl
      show goWh plainT plainB _ 1000000 [.fz (.int t), .fz (.int b), .fz (.int (if t < 0 then -t else t)), .fz (.int (if b < 0 then -b else b)), .no] = true
      rw [eb, abs_eq, plain_loop _ _ _ _ _ _ (by decide) h3]
      show (match decide ((0 : Int) < b) with
        | true => plainK 1 t b (.int (Int.ofNat (Nat.gcd t.natAbs (n + 1)))) k
        | false => plainK (-1) t b (.int (Int.ofNat (Nat.gcd t.natAbs (n + 1)))) k) = true
      have es : s.natAbs = t.natAbs := by
        rcases h2 with ⟨_, rfl⟩ | ⟨_, rfl⟩
        · rfl
        · omega
      rw [es] at h4
      have hg : 0 < Nat.gcd t.natAbs (n + 1) := Nat.gcd_pos_of_pos_right _ (Nat.succ_pos n)
      have hl : logOk (Nat.gcd t.natAbs (n + 1)) = true := log_mono (Nat.le_of_dvd (Nat.succ_pos n) (Nat.gcd_dvd_right _ _)) h3
      rcases h2 with ⟨rfl, rfl⟩ | ⟨rfl, rfl⟩
      · rw [decide_eq_true (show (0 : Int) < Int.ofNat (n + 1) by rw [Int.ofNat_eq_natCast]; omega)]
        have m1 : mulOk 1 s = true := Nat.ble_eq_true_of_le (by show Nat.log2 1 + Nat.log2 s.natAbs ≤ 999999; rw [show Nat.log2 1 = 0 by decide]; omega)
        have m2 : mulOk 1 (Int.ofNat (n + 1)) = true := Nat.ble_eq_true_of_le (by show Nat.log2 1 + Nat.log2 (n + 1) ≤ 999999; rw [show Nat.log2 1 = 0 by decide]; omega)
        show plainK 1 s (Int.ofNat (n + 1)) (.int (Int.ofNat (Nat.gcd s.natAbs (n + 1)))) k = true
        unfold plainK
        rw [gMul_of m1, gFdiv_of hg hl, gMul_of m2, gFdiv_of hg hl, Int.one_mul, Int.one_mul]
        exact h4
      · rw [decide_eq_false (show ¬ (0 : Int) < Int.negSucc n by have := Int.negSucc_lt_zero n; omega)]
        have m1 : mulOk (-1) t = true := Nat.ble_eq_true_of_le (by show Nat.log2 1 + Nat.log2 t.natAbs ≤ 999999; rw [show Nat.log2 1 = 0 by decide]; omega)
        have m2 : mulOk (-1) (Int.negSucc n) = true := Nat.ble_eq_true_of_le (by show Nat.log2 1 + Nat.log2 (n + 1) ≤ 999999; rw [show Nat.log2 1 = 0 by decide]; omega)
        show plainK (-1) t (Int.negSucc n) (.int (Int.ofNat (Nat.gcd t.natAbs (n + 1)))) k = true
        unfold plainK
        rw [gMul_of m1, gFdiv_of hg hl, gMul_of m2, gFdiv_of hg hl]
        rw [show (-1 : Int) * t = 0 - t by omega, show (-1 : Int) * Int.negSucc n = Int.ofNat (n + 1) by rw [Int.ofNat_eq_natCast]; omega]
        exact h4
  · cases h
end Dl

namespace Dl
open PySem PySem.Spec PyProof.Rows L2
/-! ### a draw ahead, case by case -/
abbrev BT : DEnds := { nx := fun _ => isT .none, rt := isT, bk := fun _ => false, ct := fun _ => false }
theorem draw_asg {d e : Int} {n m i j : Nat} {rest : DS} {B : DEnds} {env : Sls} (hp : look env j = .pt) (hm : Nat.ble m 1000000000 = true) (he : e = Int.ofNat (m + 1)) (h : ∀ c, c < m + 1 → rest B (env.set i (.fz (.int (d + Int.ofNat c)))) = true) :
    sSeq (sAsg (dOp gAdd (dC (.int d)) (dCallN 2 mDraw (aPot j (aCons (dC (.int e)) aNil)))) (gN i)) rest B env = true := by
  subst he
  show (match look env j with
    | .pt => (match Nat.ble m 1000000000 with
      | true => allB (m + 1) fun c => fI (d + Int.ofNat c) fun z => rest B (env.set i (.fz (.int z)))
      | false => false)
    | _ => false) = true
  rw [hp]
  show (match Nat.ble m 1000000000 with
      | true => allB (m + 1) fun c => fI (d + Int.ofNat c) fun z => rest B (env.set i (.fz (.int z)))
      | false => false) = true
  rw [hm]
  refine allB_of fun c hc => ?_
  rw [fI_eq]
  exact h c hc
/-- a fraction drawn -/
theorem draw_fr {pl : Fn} {b d e : Int} {m i l j : Nat} {rest : DS} {B : DEnds} {env : Sls} (hp : look env j = .pt) (hi : look env i = .fz (.int b)) (hm : Nat.ble m 1000000000 = true) (hb : b - e = Int.ofNat (m + 1)) (h : ∀ c, c < m + 1 → pl [.int (d + Int.ofNat c), .int b] (fun v => rest B (env.set l (.fz v))) = true) :
    sSeq (sAsg (dCallN 2 pl (aCons (dOp gAdd (dC (.int d)) (dCallN 2 mDraw (aPot j (aCons (dOp gSub (dVar i) (dC (.int e))) aNil)))) (aCons (dVar i) aNil))) (gN l)) rest B env = true := by
  show (match look env j with
    | .pt => (match look env i with
      | .fz x => gSub x (.int e) fun x => mDraw [potD, x] fun y => gAdd (.int d) y fun z => (match look env i with
        | .fz x => pl [z, x] fun v => rest B (env.set l (.fz v))
        | _ => false)
      | _ => false)
    | _ => false) = true
  rw [hp]
  simp only [hi]
  show (fI (b - e) fun z => mDraw [potD, .int z] fun y => gAdd (.int d) y fun z => pl [z, .int b] fun v => rest B (env.set l (.fz v))) = true
  rw [fI_eq, hb]
  show (match Nat.ble m 1000000000 with
      | true => allB (m + 1) fun c => fI (d + Int.ofNat c) fun z => pl [.int z, .int b] fun v => rest B (env.set l (.fz v))
      | false => false) = true
  rw [hm]
  refine allB_of fun c hc => ?_
  rw [fI_eq]
  exact h c hc
/-- two draws ahead -/
theorem draw_par {d e e2 : Int} {m m2 i l j : Nat} {rest : DS} {B : DEnds} {env : Sls} (hp : look env j = .pt) (hm : Nat.ble m 1000000000 = true) (hm2 : Nat.ble m2 1000000000 = true) (he : e = Int.ofNat (m + 1)) (he2 : e2 = Int.ofNat (m2 + 1))
    (h : ∀ c, c < m + 1 → ∀ c2, c2 < m2 + 1 → rest B ((env.set i (.fz (.int (d + Int.ofNat c)))).set l (.fz (.int (Int.ofNat c2)))) = true) :
    sSeq (sPar i l (aCons (dOp gAdd (dC (.int d)) (dCallN 2 mDraw (aPot j (aCons (dC (.int e)) aNil)))) (aCons (dCallN 2 mDraw (aPot j (aCons (dC (.int e2)) aNil))) aNil))) rest B env = true := by
  subst he he2
  show (match look env j with
    | .pt => (match Nat.ble m 1000000000 with
      | true => allB (m + 1) fun c => fI (d + Int.ofNat c) fun z => (match look env j with
        | .pt => (match Nat.ble m2 1000000000 with
          | true => allB (m2 + 1) fun c2 => rest B ((env.set i (.fz (.int z))).set l (.fz (.int (Int.ofNat c2))))
          | false => false)
        | _ => false)
      | false => false)
    | _ => false) = true
  rw [hp]
  simp only [hm, hm2]
  refine allB_of fun c hc => ?_
  rw [fI_eq]
  exact allB_of fun c2 hc2 => h c hc c2 hc2
end Dl

namespace Dl
open PySem PySem.Spec PyProof.Rows L2
/-! ### the chances of a sum of two -/
def pIn (ad mu : Fn) (x : PyData) : List PyData → List PyData → (List PyData → Bool) → Bool
  | [], fs, k => k fs
  | y :: ys, f :: fs, k => mu [x, y] fun p => ad [f, p] fun z => match noList z with
    | true => pIn ad mu x ys fs fun r => k (z :: r)
    | false => false
  | _ :: _, [], _ => false
def pOut (ad mu : Fn) (ys : List PyData) : List PyData → List PyData → (List PyData → Bool) → Bool
  | [], fs, k => k fs
  | x :: xs, fs, k => pIn ad mu x ys fs fun r => match r with
    | h :: t => pOut ad mu ys xs t fun t => k (h :: t)
    | [] => pOut ad mu ys xs [] k
def prI (ad mu : Fn) : DS := sSetIx 2 (dOp gAdd (dVar 3) (dVar 5)) (dBor [2] (dCallN 2 ad (aCons (dOp gIx (dVar 2) (dOp gAdd (dVar 3) (dVar 5))) (aCons (dCallN 2 mu (aCons (dVar 4) (aCons (dVar 6) aNil))) aNil))))
def prG : DG := gT 2 (gsCons (gN 5) (gsCons (gN 6) gsNil))
def prG0 : DG := gT 2 (gsCons (gN 3) (gsCons (gN 4) gsNil))
def prO (ad mu : Fn) : DS := sFor (iEnumD (dVar 1)) prG (prI ad mu)
def prRest (ad mu : Fn) : DS := sSeq (sFor (iEnumD (dVar 0)) prG0 (prO ad mu)) (sFrz 2 (sRet (dVar 2)))
def prFirst (nt : PyData) : DF := fRep (dLst (aCons (dC nt) aNil)) (dOp gSub (dOp gAdd (dCB gLen (aCons (dVar 0) aNil)) (dCB gLen (aCons (dVar 1) aNil))) (dC (.int 1)))
def bProd (ad mu : Fn) (nt : PyData) : DS := sSeq (sOwn 2 (prFirst nt)) (prRest ad mu)
def prTail (ad mu : Fn) (xs ys : List PyData) : DS := fun B env => match env with
  | [_, _, .ow fd, _, _, _, _] => pOut ad mu ys xs fd fun r => B.rt (.list r)
  | _ => false
def qProd (ad mu : Fn) (nt : PyData) : Fn := fun ds k => match ds with
  | [.list xs, .list ys] => mOf 7 (sSeq (sOwn 2 (prFirst nt)) (prTail ad mu xs ys)) [.list xs, .list ys] k
  | _ => false
abbrev e7 (x y fd a n p q : Sl) : Sls := [x, y, fd, a, n, p, q]
theorem ixN_lt {n m : Nat} (h : n < m) : ixN m (Int.ofNat n) = some n := by
  have h1 : (0 : Int) ≤ Int.ofNat n := Int.ofNat_nonneg n
  have h2 : Int.ofNat n < (m : Int) := Int.ofNat_lt.mpr h
  unfold ixN
  rw [if_pos h1, if_pos h2]
  rfl
theorem ixN_ge {n m : Nat} (h : m ≤ n) : ixN m (Int.ofNat n) = none := by
  have h1 : (0 : Int) ≤ Int.ofNat n := Int.ofNat_nonneg n
  have h2 : ¬ (Int.ofNat n < (m : Int)) := fun z => by
    have := Int.ofNat_lt.mp z
    omega
  unfold ixN
  rw [if_pos h1, if_neg h2]
section
variable {ad mu : Fn} {X Y : Sl}
theorem in_step (B : DEnds) (fd : List PyData) (a j : Nat) (n y : PyData) : prI ad mu B (e7 X Y (.ow fd) (.fz (.int (a : Int))) (.fz n) (.fz (.int (j : Int))) (.fz y)) =
    (match atI fd (Int.ofNat (a + j)) with
      | some f => mu [n, y] fun p => ad [f, p] fun z => (match noList z with
        | true => (match ixN fd.length (Int.ofNat (a + j)) with
          | some i => B.nx (e7 X Y (.ow (fd.set i z)) (.fz (.int (a : Int))) (.fz n) (.fz (.int (j : Int))) (.fz y))
          | none => false)
        | false => false)
      | none => false) := by
  have hf : ∀ k : Int → Bool, fI ((a : Int) + (j : Int)) k = k (Int.ofNat (a + j)) := fun k => by
    rw [fI_eq]
    rfl
  show (fI ((a : Int) + (j : Int)) fun i => (match atI fd i with
      | some f => mu [n, y] fun p => ad [f, p] fun z => (match noList z with
        | true => fI ((a : Int) + (j : Int)) fun i => (match ixN fd.length i with
          | some i => B.nx (e7 X Y (.ow (fd.set i z)) (.fz (.int (a : Int))) (.fz n) (.fz (.int (j : Int))) (.fz y))
          | none => false)
        | false => false)
      | none => false)) = _
  rw [hf]
  simp only [hf]
theorem in_eq (K : List PyData → Bool) (a : Nat) (n : PyData) (B : DEnds) (hB : ∀ fd p q, B.nx (e7 X Y (.ow fd) (.fz (.int (a : Int))) (.fz n) p q) = K fd) :
    ∀ (ys : List PyData) (j : Nat) (pre fs : List PyData) (p q : Sl), (pre.length = a + j ∨ (fs = [] ∧ pre.length ≤ a + j)) →
      goFor prG (prI ad mu) B (enumD j ys) (e7 X Y (.ow (pre ++ fs)) (.fz (.int (a : Int))) (.fz n) p q) = pIn ad mu n ys fs fun r => K (pre ++ r)
  | [], j, pre, fs, p, q, _ => hB _ _ _
  | y :: ys, j, pre, fs, p, q, h => by
    show prI ad mu { nx := goFor prG (prI ad mu) B (enumD (j + 1) ys), rt := B.rt, ct := goFor prG (prI ad mu) B (enumD (j + 1) ys), bk := B.nx } (e7 X Y (.ow (pre ++ fs)) (.fz (.int (a : Int))) (.fz n) (.fz (.int (j : Int))) (.fz y)) = _
    rw [in_step]
    cases fs with
    | nil =>
      have hl : (pre ++ ([] : List PyData)).length ≤ a + j := by
        rw [List.append_nil]
        rcases h with h | ⟨_, h⟩ <;> omega
      have e : atI (pre ++ []) (Int.ofNat (a + j)) = none := by
        unfold atI
        rw [ixN_ge hl]
        rfl
      rw [e]
      rfl
    | cons f fs =>
      have hp : pre.length = a + j := h.elim id fun z => nomatch z.1
      have hl : a + j < (pre ++ f :: fs).length := by rw [List.length_append, List.length_cons]; omega
      have hg : (pre ++ f :: fs)[a + j]? = some f := by
        rw [← hp, List.getElem?_append_right (Nat.le_refl _), Nat.sub_self]
        rfl
      have e : atI (pre ++ f :: fs) (Int.ofNat (a + j)) = some f := by
        unfold atI
        rw [ixN_lt hl]
        exact hg
      have hs : ∀ z, (pre ++ f :: fs).set (a + j) z = (pre ++ [z]) ++ fs := fun z => by
        rw [← hp, List.set_append_right _ _ (Nat.le_refl _), Nat.sub_self, List.append_assoc]
        rfl
      rw [e, ixN_lt hl]
      show (mu [n, y] fun p => ad [f, p] fun z => _) = (mu [n, y] fun p => ad [f, p] fun z => _)
      congr 1
      funext p
      congr 1
      funext z
      cases noList z with
      | false => rfl
      | true =>
        show goFor prG (prI ad mu) B (enumD (j + 1) ys) (e7 X Y (.ow ((pre ++ f :: fs).set (a + j) z)) (.fz (.int (a : Int))) (.fz n) (.fz (.int (j : Int))) (.fz y)) = _
        rw [hs, in_eq K a n B hB ys (j + 1) (pre ++ [z]) fs _ _ (.inl (by rw [List.length_append, hp]; rfl))]
        congr 1
        funext r
        rw [List.append_assoc]
        rfl
theorem out_eq (ys : List PyData) (K : List PyData → Bool) (B : DEnds) (hB : ∀ fd a n p q, B.nx (e7 X (.fz (.list ys)) (.ow fd) a n p q) = K fd) :
    ∀ (xs : List PyData) (a : Nat) (pre fs : List PyData) (s n p q : Sl), (pre.length = a ∨ (fs = [] ∧ pre.length ≤ a)) →
      goFor prG0 (prO ad mu) B (enumD a xs) (e7 X (.fz (.list ys)) (.ow (pre ++ fs)) s n p q) = pOut ad mu ys xs fs fun r => K (pre ++ r)
  | [], a, pre, fs, s, n, p, q, _ => hB _ _ _ _ _
  | x :: xs, a, pre, fs, s, n, p, q, h => by
    show goFor prG (prI ad mu) { nx := goFor prG0 (prO ad mu) B (enumD (a + 1) xs), rt := B.rt, ct := goFor prG0 (prO ad mu) B (enumD (a + 1) xs), bk := B.nx } (enumD 0 ys) (e7 X (.fz (.list ys)) (.ow (pre ++ fs)) (.fz (.int (a : Int))) (.fz x) p q) = _
    have main : ∀ (fd : List PyData) (p q : Sl), goFor prG0 (prO ad mu) B (enumD (a + 1) xs) (e7 X (.fz (.list ys)) (.ow fd) (.fz (.int (a : Int))) (.fz x) p q) = (if a ≤ fd.length then (match fd.drop a with
        | h :: t => pOut ad mu ys xs t fun t => K (fd.take a ++ h :: t)
        | [] => pOut ad mu ys xs [] fun t => K (fd.take a ++ t)) else pOut ad mu ys xs [] fun t => K (fd ++ t)) := fun fd p q => by
      by_cases hl : a ≤ fd.length
      · rw [if_pos hl]
        cases e : fd.drop a with
        | nil =>
          have e2 : fd = fd.take a := by
            have := List.take_append_drop a fd
            rw [e, List.append_nil] at this
            exact this.symm
          have e3 : fd = fd.take a ++ [] := by rw [List.append_nil]; exact e2
          conv => lhs; rw [e3]
          exact out_eq ys K B hB xs (a + 1) (fd.take a) [] _ _ _ _ (.inr ⟨rfl, by rw [List.length_take]; omega⟩)
        | cons h t =>
          have e2 : fd = (fd.take a ++ [h]) ++ t := by
            have := List.take_append_drop a fd
            rw [e] at this
            rw [List.append_assoc]
            exact this.symm
          conv => lhs; rw [e2]
          rw [out_eq ys K B hB xs (a + 1) (fd.take a ++ [h]) t _ _ _ _ (.inl (by rw [List.length_append, List.length_take]; simp; omega))]
          congr 1
          funext t
          rw [List.append_assoc]
          rfl
      · rw [if_neg hl]
        have e3 : fd = fd ++ [] := by rw [List.append_nil]
        conv => lhs; rw [e3]
        exact out_eq ys K B hB xs (a + 1) fd [] _ _ _ _ (.inr ⟨rfl, by omega⟩)
    rcases h with h | ⟨rfl, h⟩
    · rw [in_eq (fun fd => if a ≤ fd.length then (match fd.drop a with
        | h :: t => pOut ad mu ys xs t fun t => K (fd.take a ++ h :: t)
        | [] => pOut ad mu ys xs [] fun t => K (fd.take a ++ t)) else pOut ad mu ys xs [] fun t => K (fd ++ t)) a x _ main ys 0 pre fs p q (.inl h)]
      show _ = pIn ad mu x ys fs fun r => _
      congr 1
      funext r
      have e1 : (pre ++ r).drop a = r := by rw [← h]; simp
      have e2 : (pre ++ r).take a = pre := by rw [← h]; simp
      rw [if_pos (by rw [List.length_append]; omega), e1, e2]
    · cases ys with
      | nil => exact out_eq [] K B hB xs (a + 1) pre [] _ _ _ _ (.inr ⟨rfl, by omega⟩)
      | cons y ys =>
        rw [in_eq (fun fd => if a ≤ fd.length then (match fd.drop a with
          | h :: t => pOut ad mu (y :: ys) xs t fun t => K (fd.take a ++ h :: t)
          | [] => pOut ad mu (y :: ys) xs [] fun t => K (fd.take a ++ t)) else pOut ad mu (y :: ys) xs [] fun t => K (fd ++ t)) a x _ main (y :: ys) 0 pre [] p q (.inr ⟨rfl, h⟩)]
        rfl
theorem rest_eq (xs ys : List PyData) (fd : List PyData) (B : DEnds) (a n p q : Sl) : prRest ad mu B (e7 (.fz (.list xs)) (.fz (.list ys)) (.ow fd) a n p q) = prTail ad mu xs ys B (e7 (.fz (.list xs)) (.fz (.list ys)) (.ow fd) a n p q) := by
  show goFor prG0 (prO ad mu) { B with nx := sFrz 2 (sRet (dVar 2)) B } (enumD 0 xs) (e7 (.fz (.list xs)) (.fz (.list ys)) (.ow ([] ++ fd)) a n p q) = _
  exact out_eq ys (fun r => B.rt (.list r)) _ (fun fd a n p q => rfl) xs 0 [] fd a n p q (.inl rfl)
end
theorem le_prod (ad mu : Fn) (nt : PyData) (ds : List PyData) (k : KF) (h : qProd ad mu nt ds k = true) : mOf 7 (bProd ad mu nt) ds k = true := by
  unfold qProd at h
  split at h
  · rename_i xs ys
    have e : ∀ B : DEnds, (fun fd => prRest ad mu B ((startE 7 [.list xs, .list ys]).set 2 (.ow fd))) = (fun fd => prTail ad mu xs ys B ((startE 7 [.list xs, .list ys]).set 2 (.ow fd))) := fun B => funext fun fd => rest_eq xs ys fd B _ _ _ _
    exact (congrArg (fun g => prFirst nt (startE 7 [.list xs, .list ys]) g) (e { nx := fun _ => k .none, rt := k, bk := fun _ => false, ct := fun _ => false })).trans h
  · cases h
end Dl

namespace Dl
open PySem PySem.Spec PyProof.Rows L2
/-! ### the pot, the end -/
theorem stp_pot {pp : Addr} {F H F1 H1 : Hp} {a b : Int} (B : Bs pp F H) (s : Stp pp F H F1 H1) (ha : 0 ≤ a) (hb : 0 ≤ b) (hc : b < 4294967296) : Stp pp F H F1 (upd H1 pp (.lst [.int a, .int b])) := by
  have f1 := (Stp.bs B s).fp
  refine ⟨s.ff, fun c u h => ?_, fun c u hc h => ?_, s.nf, ⟨a, b, upd_same, ha, hb, hc⟩⟩
  · rw [upd_ne (ne_of_none h f1)]; exact s.fh c u h
  · rw [upd_ne hc]; exact s.fr c u hc h
theorem allB_get : ∀ {n : Nat} {f : Nat → Bool} {c : Nat}, Dl.allB n f = true → c < n → f c = true
  | 0, _, _, _, h => absurd h (Nat.not_lt_zero _)
  | n + 1, f, c, e, h => by
    unfold Dl.allB at e
    cases q : f n with
    | false => rw [q] at e; cases e
    | true =>
      rw [q] at e
      by_cases hc : c = n
      · rw [hc]; exact q
      · exact allB_get e (by omega)
def mTrue : Fn := fun ds k => match ds with
  | [.dict (_ :: _)] => k (.bool true)
  | _ => false
theorem isT_eq {d : PyData} (h : isT d = true) : d = .bool true := by
  cases d with
  | bool b =>
    cases b with
    | true => rfl
    | false => cases h
  | _ => cases h
theorem Has.always {P : Program} {w : World} {K : PySem.W.Frag} {mg : Str → Option Value} {base : Heap} {l : Nat} {x : Str} {ps : List Str} {m : Fn} (h : Has P w K mg base l x ps m) (e : m [potD] isT = true) : Has P w K mg base l x ps mTrue := by
  obtain ⟨f, fd, F, a, b, c, d⟩ := h
  refine ⟨f, fd, F.imp fun vs H Q E ⟨hl, pp, F0, ds, k, B, r, hm, q⟩ => ?_, a, b, c, d⟩
  unfold mTrue at hm
  split at hm
  case h_2 => cases hm
  rename_i l
  cases r with
  | cons r1 r =>
    cases r
    rcases r1 with r1 | ⟨r1, _⟩
    · cases r1
    · cases r1
      exact ⟨hl, pp, F0, _, isT, B, .cons (.inr ⟨rfl, by assumption⟩) .nil, e, fun d v F' H' s z hd => q d v F' H' s z (by rw [isT_eq hd]; exact hm)⟩
/-- a reading for each world -/
theorem se_all {X : Cx} {e : Expr} {d : DE} (h : ∀ W, SE W X e d) : ∃ t, PE X e t ∧ ∀ W, OkE X.K W t d := by
  have h2 : ∀ W, ∃ t, PE X e t ∧ OkE X.K W t d := fun W => (h W).ex
  refine ⟨fun σ H Q => ∃ W, Classical.choose (h2 W) σ H Q, ⟨fun pins s σ H Q I ⟨W, hw⟩ => (Classical.choose_spec (h2 W)).1.run pins s σ H Q I hw⟩, fun W env σ F H k Q R hd q => ⟨W, (Classical.choose_spec (h2 W)).2 env σ F H k Q R hd q⟩⟩
theorem bs_new {H : Hp} {p : Addr} {x y : Int} (hx : 0 ≤ x) (hy : 0 ≤ y) (hy2 : y < 4294967296) : Bs p (fun _ => none) (upd H p (.lst [.int x, .int y])) :=
  ⟨(fun _ _ h => nomatch h), rfl, ⟨x, y, upd_same, hx, hy, hy2⟩⟩
/-- what the pot's def does -/
def spPot (K : PySem.W.Frag) : Sp := fun vs H Q _ => ∃ (a : Addr) (ns : List Int) (k : Int), vs = [.ref a, .int k] ∧ SqL K H a (ns.map V.int) ∧ 0 ≤ k ∧ k < 100 ∧ ∀ p x y, H p = none → 0 ≤ x → 0 ≤ y → y < 4294967296 → Q (.ref p) (upd H p (.lst [.int x, .int y]))
def spLaw (K : PySem.W.Frag) : Sp := fun vs H Q _ => ∃ (a : Addr) (ns : List Int), vs = [.ref a] ∧ SqL K H a (ns.map V.int) ∧ ∀ H', Q (.bl true) H'
end Dl

namespace Dl
open PySem PySem.Spec PyProof.Rows L2
/-! ### the head's Hook, with one more test of the written part -/
def obsE (n : Nat) (fa : List He.Fa) (fn : List He.DefD) (ex : PySem.W.Frag → Bool) (g : Addr → Option Obj) : He.AlD × Bool := (He.obsDG n fa fn g, ex (He.frG g (He.asD g n)))
def SaysE (fa : List He.Fa) (fn : List He.DefD) (ex : PySem.W.Frag → Bool) (K : PySem.W.Frag) : Prop := He.SaysD fa fn K ∧ ex K = true
def hookE (n : Nat) (fa : List He.Fa) (fn : List He.DefD) (ex : PySem.W.Frag → Bool) : PySem.W.Hook where
  α := He.AlD × Bool
  obs := fun s => obsE n fa fn ex s.heap.get?
  val := fun _ => (He.valD fn, true)
  says := fun _ h => ∃ K : PySem.W.Frag, K.In h ∧ SaysE fa fn ex K
  of := fun _ _ e => ⟨_, He.frG_in, congrArg (fun z : He.AlD × Bool => z.1) e, congrArg (fun z : He.AlD × Bool => z.2) e⟩
  keeps := fun _ _ _ ⟨K, hK, c⟩ k => ⟨K, PySem.W.Frag.In.keeps hK k, c⟩
theorem obsE_eq {n : Nat} {fa : List He.Fa} {fn : List He.DefD} {ex : PySem.W.Frag → Bool} {g : Addr → Option Obj} {s : Shared} (h : ∀ a, g a = s.heap.get? a) : obsE n fa fn ex g = (hookE n fa fn ex).obs s := by
  have e : g = s.heap.get? := funext h
  rw [e] <;> rfl
theorem saysD_fact {fa : List He.Fa} {fn : List He.DefD} {K : PySem.W.Frag} (c : He.SaysD fa fn K) {f : He.Fa} (h : f ∈ fa) : f.ok K = true := by
  obtain ⟨i, hi, e⟩ := List.mem_iff_getElem.mp h
  exact c.fact i (f := f) (by rw [List.getElem?_eq_getElem hi, e])
def tupI (K : PySem.W.Frag) (x : Str) (is : List Int) : Bool := He.tupB K x (is.map He.Dv.int)
section
variable {K : PySem.W.Frag} {h : Heap} {mg : Str → Option Value}
theorem glo_int (X : K.In h) (G : h.Ns mainGlobals mg) {x : Str} {i : Int} (c : (He.Fa.int x i).ok K = true) : Glo K mg x (.int i) := by
  obtain ⟨t, e⟩ := He.int_ok X G c
  exact ⟨_, .int i, e, ⟨t, rfl⟩, fun F => .int i⟩
theorem glo_tup (X : K.In h) (G : h.Ns mainGlobals mg) {x : Str} {is : List Int} (c : (He.Fa.glo x).ok K = true) (t : tupI K x is = true) : Glo K mg x (.tuple (is.map PyData.int)) := by
  refine ⟨_, .ref (He.ga K x), He.glo_ok X G c, rfl, fun F => ?_⟩
  have z := He.tupB_ok t (fun _ => none)
  have e : (is.map He.Dv.int).map (He.Dv.v K) = is.map V.int := by rw [List.map_map]; rfl
  rw [e] at z
  rcases z with z | z
  · rcases z with z | ⟨o, z⟩
    · cases z
    · cases z
  · exact .ktup z (RpAll.of_ints is)
end
/-- the call at the outermost place -/
theorem callG {P : Program} {w : World} {K : PySem.W.Frag} {mg mb : Str → Option Value} {k : Nat} {fa a : Addr} {fd : FuncData} {x : Str} {sp : Sp} {s₁ : Shared} {vs : List Value} {ns : List Int}
    (KX : K.In s₁.heap) (hns : s₁.heap.Ns mainGlobals mg) (hb : s₁.heap.Ns builtinsNs mb) (hbb : ∀ x : Str, x ≠ "__name__" → mb x = bootBuiltins x) (hlim : s₁.heap.NoLimit) (hg : s₁.gens = #[])
    (ha : s₁.heap.get? a = some { cls := .type "list", data := .seq vs.toArray }) (hi : IntsAre vs ns) (hl : ns.length ≤ sizeLine) (hr : Room k callerA)
    (F : ∀ base : Heap, K.In base → base.Ns mainGlobals mg → FnOkG P w K mg base k fa fd [x] sp) (hbind : ∀ (s : Shared) (u : Value), BindsTo s fd ⟨[u], []⟩ [(x, u)])
    (hsp : ∀ H : Hp, Only H → SqL K H a (ns.map V.int) → sp [.ref a] H (fun v _ => v = .bl true) fun _ _ _ => False) :
    codeAny (model P w) callerA (.call (.ref fa) ⟨[.ref a], []⟩) (fun r s' => r = .ok (.ret (.bool true)) ∧ OldK s₁.heap s'.heap ∧ s'.os = s₁.os ∧ AllBare s'.gens) s₁ := by
  have big := hi.length
  have main : ∀ H : Hp, Only H → SqL K H a (ns.map V.int) → HOk P w H s₁.heap → (∀ b, H b ≠ none → b = a) → (H a ≠ none → K.lookup a = none) →
      codeAny (model P w) callerA (.call (.ref fa) ⟨[.ref a], []⟩) (fun r s' => r = .ok (.ret (.bool true)) ∧ OldK s₁.heap s'.heap ∧ s'.os = s₁.os ∧ AllBare s'.gens) s₁ := fun H hO hS hok hA hK => by
    have see : ∀ {b : Addr} {o : Obj}, s₁.heap.get? b = some o → H b = none → (hidT s₁.heap H).get? b = some o := fun e n => hidT_get e n
    have dct : ∀ {b : Addr} {m : Str → Option Value}, s₁.heap.Ns b m → (hidT s₁.heap H).Ns b m := fun {b m} ⟨o, es, ep, e, d, r⟩ => ⟨o, es, ep, see e (by
      cases q : H b with
      | none => rfl
      | some u =>
        exfalso
        have z := hA b (by rw [q]; exact fun z => nomatch z)
        rw [z, ha] at e
        cases e
        cases (show Data.seq vs.toArray _ = Data.dict es ep from d)), d, r⟩
    have kin : K.In (hidT s₁.heap H) := fun b o e => see (KX b o e) (by
      cases q : H b with
      | none => rfl
      | some u =>
        exfalso
        have z := hA b (by rw [q]; exact fun z => nomatch z)
        rw [z] at e q
        rw [hK (by rw [q]; exact fun z => nomatch z)] at e
        cases e)
    have md : Mod K mg (hidT s₁.heap H) := ⟨kin, dct hns, ⟨mb, dct hb, hbb⟩, let ⟨mc, h1, h2⟩ := hlim; ⟨mc, dct h1, h2⟩⟩
    have e0 : Env0 P w K mg (hidT s₁.heap H) callerA [] s₁ H := ⟨rfl, md, fun b o e => of_hidT e, Nat.le_of_eq (hidT_size _ _), trivial, (fun b hb => absurd (show b ∈ ([] : List Addr) from hb) List.not_mem_nil), hok, .of_eq hg⟩
    refine codeAny_mono ((F _ kin (dct hns)).run callerA [] s₁ H ⟨[.ref a], []⟩ [.ref a] [.ref a] _ _ hr rfl e0 (hbind s₁ (.ref a)) (.cons rfl .nil) (hsp H hO hS)) fun r s' h => ?_
    cases r with
    | error e => exact False.elim (show False from h)
    | ok fl =>
      cases fl with
      | next => exact False.elim h
      | brk => exact False.elim h
      | cont => exact False.elim h
      | ret u =>
        obtain ⟨v, H', os, bare, un, hok', rv, q⟩ := h
        have q : v = .bl true := q
        rw [q] at rv
        have hu : u = Value.bool true := rv
        rw [hu]
        refine ⟨rfl, OldK.of_keep fun b o e => ?_, os, bare⟩
        cases q : H b with
        | none => exact un.keep b o e q (fun z => absurd (show b ∈ ([] : List Addr) from z) List.not_mem_nil) (by simp)
        | some t =>
          rcases hO b with z | ⟨ob, xs, z⟩
          · rw [q] at z
            cases z
          · obtain ⟨f1, _⟩ := hok b _ z
            obtain ⟨f2, _⟩ := hok' b _ (un.frzs b ob _ z)
            rw [e] at f1
            cases f1
            exact f2
  cases hk : K.lookup a with
  | some o =>
    have e := KX a o hk
    rw [ha] at e
    cases e
    exact main (fun _ => none) (fun _ => .inl rfl) (.inr ⟨_, vs.toArray, _, hk, rfl, rfl, rfl, by rw [List.size_toArray, big]; exact hl, by simpa using vals_ints hi⟩) (fun b u z => nomatch (show (none : Option HO) = some u from z)) (fun b z => absurd rfl z) fun z => absurd rfl z
  | none =>
    have at_ : ∀ b u, (if b = a then some (HO.frz { cls := .type "list", data := .seq vs.toArray } (.lst (ns.map V.int))) else none) = some u → b = a ∧ u = HO.frz { cls := .type "list", data := .seq vs.toArray } (.lst (ns.map V.int)) := fun b u z => by
      by_cases q : b = a
      · rw [if_pos q] at z; exact ⟨q, (Option.some.inj z).symm⟩
      · rw [if_neg q] at z; cases z
    refine main (fun b => if b = a then some (.frz { cls := .type "list", data := .seq vs.toArray } (.lst (ns.map V.int))) else none) (fun b => ?_) (.inl (.inr ⟨_, if_pos rfl⟩)) (fun b u z => ?_) (fun b z => ?_) fun _ => hk
    · by_cases q : b = a
      · exact .inr ⟨_, _, if_pos q⟩
      · exact .inl (if_neg q)
    · obtain ⟨rfl, rfl⟩ := at_ b u z
      exact ⟨ha, by rw [List.length_map]; exact hl, vs, _, vals_ints hi, ha⟩
    · by_cases q : b = a
      · exact q
      · exact absurd (if_neg q) z
/-- a law's end: F gives the written part, the function object, the promise -/
theorem walk_ofG {l : PySem.W.OpenLaw} {n k : Nat} {q : Program} {loose : List Str} {XP : (Str → Option Value) → Heap → Prop} {YP : World → Heap → Prop} {d : DefRec} {x : Str} (hn : l.most = some n) (hn2 : n ≤ sizeLine) (hdf : d.params.defaults = []) (hr : Room k callerA)
    (F : ∀ (w : World) (mg : Str → Option Value) (fa : Addr) (h : Heap), YP w h → h.Ns mainGlobals mg → mg d.name = some (.ref fa) →
      ∃ (K : PySem.W.Frag) (fd : FuncData) (sp : Sp), K.In h ∧ (∀ (s : Shared) (u : Value), BindsTo s fd ⟨[u], []⟩ [(x, u)]) ∧
        (∀ (H : Hp) (a : Addr) (ns : List Int), ns.length ≤ n → Only H → SqL K H a (ns.map V.int) → sp [.ref a] H (fun v _ => v = .bl true) fun _ _ _ => False) ∧
        ∀ base : Heap, K.In base → base.Ns mainGlobals mg → FnOkG l.prog w K mg base k fa fd [x] sp) :
    PySem.W.WalkO q loose XP YP l.row.toRowW d [] (fun f vs => PySem.call f vs) := by
  refine Att.attach_call hn hdf fun w s₀ s₁ mg mb fa o pm cd doc a vs ns G Y ho hd hcd hmg hobj hints hlen hg => ?_
  obtain ⟨K, fd, sp, kin, hb, hsp, ok⟩ := F w mg fa _ Y G.T.g hmg
  exact callG kin G.T.g G.T.b G.T.builtins G.T.nolimit hg hobj hints (Nat.le_trans hlen hn2) hr ok hb fun H hO hS => hsp H a ns hlen hO hS
end Dl

/-! enumerate(zip(a, b)), walked -/
namespace PySem
open Sem (wp)
section
variable {prog : Program} {w : World} {A : Around} {E : Value → Shared → Prop} {s : Shared}
/-- a zip, whatever it says of its tuple -/
abbrev ZipF (h : Heap) (z TI TO : Addr) (v : Value) (f : Bool) : Prop := h.get? z = some { cls := .type "zip", dict := none, data := .fields #[v, .bool f, .bool false, .ref TI, .ref TO], slots := #[] }
theorem ez_gone {z TI TO T : Addr} {f : Bool} {Q : Bool → Shared → Prop} (hz : ZipF s.heap z TI TO (rawInt T) f) (hT : s.heap.get? T = none) (h : Q true s) : wpAny (model prog w) A (Builtin.SmallTypes.ownedTupleIsFree (.ref z)) Q E s := by
  have gone : ∀ {B : Around} {F : Value → Shared → Prop} {Q : Option Obj → Shared → Prop}, Q none s → wpAny (model prog w) B (loadIfAlive T) Q F s := fun {B F Q} q => by
    have q' : Q (s.heap.get? T) s := by rw [hT]; exact q
    exact fun _ _ _ => q'
  unfold Builtin.SmallTypes.ownedTupleIsFree
  refine wpAny_bind (wpAny_field hz rfl (x := rawInt T) rfl (show wpAny _ _ (loadIfAlive ((T : Int).toNat) >>= _) _ _ _ from ?_))
  rw [Int.toNat_natCast]
  refine wpAny_bind (gone ?_)
  simp only [Option.isNone_none, if_true]
  exact wpAny_pure h
/-- a turn of a zip that may lay its tuple anew -/
theorem ez_zip_free {z TI TO i1 i2 l1 l2 : Addr} {k : Nat} {f : Bool} {v : Value} {xs ys : Array Value} {x y a b : Value} {Q : Value → Shared → Prop} (D : ZipApart z TI TO i1 i2 l1 l2)
    (free : ∀ {B : Around} {F : Value → Shared → Prop} {Q : Bool → Shared → Prop}, Q true s → wpAny (model prog w) B (Builtin.SmallTypes.ownedTupleIsFree (.ref z)) Q F s) (hz : ZipF s.heap z TI TO v f) (hTI : IsPair s.heap TI (.ref i1) (.ref i2)) (hTO : IsPair s.heap TO a b)
    (h1 : s.heap.IsListIter i1 l1 k) (h2 : s.heap.IsListIter i2 l2 k) (hl1 : s.heap.IsList l1 xs) (hl2 : s.heap.IsList l2 ys) (hx : xs[k]? = some x) (hy : ys[k]? = some y)
    (hQ : ∀ h', ZipF h' z TI TO (rawInt s.heap.objs.size) false → IsPair h' TO x y → h'.IsListIter i1 l1 (k + 1) → h'.IsListIter i2 l2 (k + 1) → IsPair h' s.heap.objs.size x y → h'.objs.size = s.heap.objs.size + 1 →
      (∀ c o, c ≠ z → c ≠ TO → c ≠ i1 → c ≠ i2 → s.heap.get? c = some o → h'.get? c = some o) → Q (.ref s.heap.objs.size) { s with heap := h' }) :
    wpAny (model prog w) A (Builtin.«zip.__next__» ⟨[.ref z], []⟩) (fun fin s' => ∃ v, fin = .done (.ret v) ∧ Q v s') E s := by
  show wpAny _ _ (field (.ref z) 2 >>= _) _ _ _
  refine wpAny_bind (wpAny_field hz rfl (x := .bool false) rfl (show wpAny _ _ (field (.ref z) 3 >>= _) _ _ _ from wpAny_bind (wpAny_field hz rfl (x := .ref TI) rfl (wpAny_bind (wpAny_seqItems hTI rfl ?_)))))
  refine (show wpAny _ _ (Builtin.SmallTypes.ownedTupleIsFree (.ref z) >>= _) _ _ _ from wpAny_bind (free ?_))
  simp only [if_true]
  refine wpAny_bind (wpAny_rule (wpAny_bind (wpAny_field hz rfl (x := .ref TO) rfl (wpAny_bind (wpAny_setField_rec hz (by simp) fun ga za sa => wpAny_bind ?_)))))
  replace za : ZipF ga z TI TO .ellipsis f := za
  simp only [List.zipIdx_cons, List.zipIdx_nil, List.forIn_cons, List.forIn_nil]
  refine wpAny_bind (wpAny_bind (wpAny_onRaise (show wpAny _ _ (Builtin.SmallTypes.nextOf (.ref i1) >>= _) _ _ _ from wpAny_bind (wpAny_nextOf_list_item (h1.extBut sa.extBut D.i1z) (hl1.extBut sa.extBut D.l1z) hx fun gb ib sb => wpAny_pure ?_))))
  have tb : IsPair gb TO a b := sb.extBut _ _ D.TOi1 (sa.extBut _ _ D.TOz hTO)
  refine wpAny_bind (wpAny_seqItems tb rfl (wpAny_bind (wpAny_updateSeq_pair tb fun gc tc sc => wpAny_bind (wpAny_letGo (wpAny_pure ?_)))))
  replace tc : IsPair gc TO x b := tc
  refine wpAny_bind (wpAny_bind (wpAny_onRaise (show wpAny _ _ (Builtin.SmallTypes.nextOf (.ref i2) >>= _) _ _ _ from wpAny_bind (wpAny_nextOf_list_item (((h2.extBut sa.extBut D.i2z).extBut sb.extBut D.i12.symm).extBut sc.extBut D.TOi2.symm)
    (((hl2.extBut sa.extBut D.l2z).extBut sb.extBut D.l2i1).extBut sc.extBut D.l2TO) hy fun gd id sd => wpAny_pure ?_))))
  have td : IsPair gd TO x b := sd.extBut _ _ D.TOi2 tc
  refine wpAny_bind (wpAny_seqItems td rfl (wpAny_bind (wpAny_updateSeq_pair td fun ge te se => wpAny_bind (wpAny_letGo (wpAny_pure (wpAny_pure ?_))))))
  replace te : IsPair ge TO x y := te
  refine wpAny_bind (wpAny_seqItems te rfl (wpAny_bind (wpAny_newTuple ?_)))
  have sz : ge.objs.size = s.heap.objs.size := by rw [se.1, sd.1, sc.1, sb.1, sa.1]
  have ze : ZipF ge z TI TO .ellipsis f := se.extBut _ _ D.TOz.symm (sd.extBut _ _ D.i2z.symm (sc.extBut _ _ D.TOz.symm (sb.extBut _ _ D.i1z.symm za)))
  have ke : ∀ c o, c ≠ z → c ≠ TO → c ≠ i1 → c ≠ i2 → s.heap.get? c = some o → ge.get? c = some o := fun c o c1 c2 c3 c4 q => se.extBut _ _ c2 (sd.extBut _ _ c4 (sc.extBut _ _ c2 (sb.extBut _ _ c3 (sa.extBut _ _ c1 q))))
  have ie : ge.IsListIter i1 l1 (k + 1) := ((ib.extBut sc.extBut D.TOi1.symm).extBut sd.extBut D.i12).extBut se.extBut D.TOi1.symm
  have je : ge.IsListIter i2 l2 (k + 1) := id.extBut se.extBut D.TOi2.symm
  have lz : z < ge.objs.size := Heap.lt_size ze
  refine (show wpAny _ _ (Builtin.SmallTypes.ownedTupleHandOut (.ref z) (.ref ge.objs.size) >>= _) _ _ _ from wpAny_bind ?_)
  unfold Builtin.SmallTypes.ownedTupleHandOut
  have zp : ZipF (ge.push { cls := .type "tuple", data := .seq #[x, y] }) z TI TO .ellipsis f := Heap.get?_push_of_some _ ze
  refine wpAny_bind (wpAny_setField_rec zp (by simp) fun gp zq sp => ?_)
  replace zq : ZipF gp z TI TO (rawInt ge.objs.size) f := zq
  refine wpAny_setField_rec zq (by simp) fun gr zr sr => ?_
  replace zr : ZipF gr z TI TO (rawInt ge.objs.size) false := zr
  have up : ∀ c o, c ≠ z → ge.get? c = some o → gr.get? c = some o := fun c o c1 q => sr.extBut _ _ c1 (sp.extBut _ _ c1 (Heap.get?_push_of_some _ q))
  have tr : IsPair gr ge.objs.size x y := sr.extBut _ _ (Nat.ne_of_gt lz) (sp.extBut _ _ (Nat.ne_of_gt lz) (Heap.get?_push_size _ rfl))
  have zs : gr.objs.size = ge.objs.size + 1 := by rw [sr.1, sp.1, Heap.size_push]
  rw [sz] at zr tr zs
  refine wpAny_pure ⟨_, rfl, (show Q (.ref ge.objs.size) _ from ?_)⟩
  rw [sz]
  exact hQ gr zr (up _ _ D.TOz te) (ie.at fun o q => up _ o D.i1z q) (je.at fun o q => up _ o D.i2z q) tr zs fun c o c1 c2 c3 c4 q => up c o c1 (ke c o c1 c2 c3 c4 q)
/-- its end -/
theorem ez_zip_freeEnd {z TI TO i1 i2 l1 l2 : Addr} {k : Nat} {f : Bool} {v : Value} {xs ys : Array Value} {a b : Value} {Q : Fin → Shared → Prop} (hh : A.handled = none) (D : ZipApart z TI TO i1 i2 l1 l2)
    (free : ∀ {B : Around} {F : Value → Shared → Prop} {Q : Bool → Shared → Prop}, Q true s → wpAny (model prog w) B (Builtin.SmallTypes.ownedTupleIsFree (.ref z)) Q F s) (hz : ZipF s.heap z TI TO v f) (hTI : IsPair s.heap TI (.ref i1) (.ref i2)) (hTO : IsPair s.heap TO a b)
    (h1 : s.heap.IsListIter i1 l1 k) (h2 : s.heap.IsListIter i2 l2 k) (hl1 : s.heap.IsList l1 xs) (hl2 : s.heap.IsList l2 ys) (hend : xs[k]? = none ∨ ys[k]? = none)
    (hE : ∀ h' e, (∀ c o, c ≠ z → c ≠ TO → c ≠ i1 → c ≠ i2 → s.heap.get? c = some o → h'.get? c = some o) → (∃ o, h'.get? e = some o ∧ o.cls = .type "StopIteration") → E (.ref e) { s with heap := h' }) :
    wpAny (model prog w) A (Builtin.«zip.__next__» ⟨[.ref z], []⟩) Q E s := by
  show wpAny _ _ (field (.ref z) 2 >>= _) _ _ _
  refine wpAny_bind (wpAny_field hz rfl (x := .bool false) rfl (show wpAny _ _ (field (.ref z) 3 >>= _) _ _ _ from wpAny_bind (wpAny_field hz rfl (x := .ref TI) rfl (wpAny_bind (wpAny_seqItems hTI rfl ?_)))))
  refine (show wpAny _ _ (Builtin.SmallTypes.ownedTupleIsFree (.ref z) >>= _) _ _ _ from wpAny_bind (free ?_))
  simp only [if_true]
  refine wpAny_bind (wpAny_rule (wpAny_bind (wpAny_field hz rfl (x := .ref TO) rfl (wpAny_bind (wpAny_setField_rec hz (by simp) fun ga za sa => wpAny_bind ?_)))))
  replace za : ZipF ga z TI TO .ellipsis f := za
  simp only [List.zipIdx_cons, List.zipIdx_nil, List.forIn_cons, List.forIn_nil]
  cases hx : xs[k]? with
  | none =>
    refine wpAny_bind (wpAny_bind (wpAny_onRaise (show wpAny _ _ (Builtin.SmallTypes.nextOf (.ref i1) >>= _) _ _ _ from wpAny_bind (wpAny_nextOf_list_end hh (h1.extBut sa.extBut D.i1z) (hl1.extBut sa.extBut D.l1z) hx fun gb u sb hu => ?_))))
    obtain ⟨ou, hou, hcu⟩ := hu
    have zb : ZipF gb z TI TO .ellipsis f := sb _ _ D.i1z.symm za
    have uz : u ≠ z := fun q => by rw [q, zb] at hou; cases hou; simp at hcu
    exact wpAny_setField_rec zb (by simp) fun gc _ sc => hE gc u (fun c o c1 _ c3 _ q => sc.extBut _ _ c1 (sb _ _ c3 (sa.extBut _ _ c1 q))) ⟨ou, sc.extBut _ _ uz hou, hcu⟩
  | some x =>
    have hy : ys[k]? = none := hend.elim (fun q => by rw [hx] at q; cases q) fun q => q
    refine wpAny_bind (wpAny_bind (wpAny_onRaise (show wpAny _ _ (Builtin.SmallTypes.nextOf (.ref i1) >>= _) _ _ _ from wpAny_bind (wpAny_nextOf_list_item (h1.extBut sa.extBut D.i1z) (hl1.extBut sa.extBut D.l1z) hx fun gb ib sb => wpAny_pure ?_))))
    have tb : IsPair gb TO a b := sb.extBut _ _ D.TOi1 (sa.extBut _ _ D.TOz hTO)
    refine wpAny_bind (wpAny_seqItems tb rfl (wpAny_bind (wpAny_updateSeq_pair tb fun gc tc sc => wpAny_bind (wpAny_letGo (wpAny_pure ?_)))))
    refine wpAny_bind (wpAny_bind (wpAny_onRaise (show wpAny _ _ (Builtin.SmallTypes.nextOf (.ref i2) >>= _) _ _ _ from wpAny_bind (wpAny_nextOf_list_end hh (((h2.extBut sa.extBut D.i2z).extBut sb.extBut D.i12.symm).extBut sc.extBut D.TOi2.symm)
      (((hl2.extBut sa.extBut D.l2z).extBut sb.extBut D.l2i1).extBut sc.extBut D.l2TO) hy fun gd u sd hu => ?_))))
    obtain ⟨ou, hou, hcu⟩ := hu
    have zd : ZipF gd z TI TO .ellipsis f := sd _ _ D.i2z.symm (sc.extBut _ _ D.TOz.symm (sb.extBut _ _ D.i1z.symm za))
    have uz : u ≠ z := fun q => by rw [q, zd] at hou; cases hou; simp at hcu
    exact wpAny_setField_rec zd (by simp) fun ge _ se => hE ge u (fun c o c1 c2 c3 c4 q => se.extBut _ _ c1 (sd _ _ c4 (sc.extBut _ _ c2 (sb.extBut _ _ c3 (sa.extBut _ _ c1 q))))) ⟨ou, se.extBut _ _ uz hou, hcu⟩
/-- a zip of two lists, its tuple out or not -/
structure ZSt (h : Heap) (z TI TO i1 i2 l1 l2 : Addr) (k : Nat) : Prop where
  ti : IsPair h TI (.ref i1) (.ref i2)
  to : ∃ a b, IsPair h TO a b
  h1 : h.IsListIter i1 l1 k
  h2 : h.IsListIter i2 l2 k
  zz : IsZip h z TI TO .none ∨ ∃ (T : Addr) (f : Bool), IsZipHeld h z TI TO T f
theorem ez_zip_item {z TI TO i1 i2 l1 l2 : Addr} {k : Nat} {xs ys : Array Value} {x y : Value} {Q : Value → Shared → Prop} (D : ZipApart z TI TO i1 i2 l1 l2) (Z : ZSt s.heap z TI TO i1 i2 l1 l2 k)
    (hl1 : s.heap.IsList l1 xs) (hl2 : s.heap.IsList l2 ys) (hx : xs[k]? = some x) (hy : ys[k]? = some y)
    (hQ : ∀ h', ZSt h' z TI TO i1 i2 l1 l2 (k + 1) → IsPair h' s.heap.objs.size x y → h'.objs.size = s.heap.objs.size + 1 → (∀ c o, c ∉ [z, TO, i1, i2] → s.heap.get? c = some o → h'.get? c = some o) → Q (.ref s.heap.objs.size) { s with heap := h' }) :
    wpAny (model prog w) A (Builtin.«zip.__next__» ⟨[.ref z], []⟩) (fun fin s' => ∃ v, fin = .done (.ret v) ∧ Q v s') E s := by
  obtain ⟨ti, ⟨a, b, to⟩, h1, h2, zz⟩ := Z
  rcases zz with zz | ⟨T, f, zz⟩
  · refine zip_next_item D zz ti to h1 h2 hl1 hl2 hx hy fun h' a1 a2 a3 a4 a5 a6 a7 => ?_
    exact hQ h' ⟨a7 _ _ D.TIz D.TITO D.TIi1 D.TIi2 ti, ⟨x, y, a2⟩, a3, a4, .inr ⟨_, false, a1⟩⟩ a5 a6 fun c o hc e => by
      simp only [List.mem_cons, List.not_mem_nil, or_false, not_or] at hc
      exact a7 c o hc.1 hc.2.1 hc.2.2.1 hc.2.2.2 e
  · cases hT : s.heap.get? T with
    | some oT =>
      refine zip_next_item_held D zz hT ti h1 h2 hl1 hl2 hx hy fun h' a1 a2 a3 a4 a5 a6 => ?_
      exact hQ h' ⟨a6 _ _ D.TIz D.TIi1 D.TIi2 ti, ⟨a, b, a6 _ _ D.TOz D.TOi1 D.TOi2 to⟩, a2, a3, .inr ⟨T, true, a1⟩⟩ a4 a5 fun c o hc e => by
        simp only [List.mem_cons, List.not_mem_nil, or_false, not_or] at hc
        exact a6 c o hc.1 hc.2.2.1 hc.2.2.2 e
    | none =>
      refine ez_zip_free D (fun {B F Q} q => ez_gone zz hT q) zz ti to h1 h2 hl1 hl2 hx hy fun h' a1 a2 a3 a4 a5 a6 a7 => ?_
      exact hQ h' ⟨a7 _ _ D.TIz D.TITO D.TIi1 D.TIi2 ti, ⟨x, y, a2⟩, a3, a4, .inr ⟨_, false, a1⟩⟩ a5 a6 fun c o hc e => by
        simp only [List.mem_cons, List.not_mem_nil, or_false, not_or] at hc
        exact a7 c o hc.1 hc.2.1 hc.2.2.1 hc.2.2.2 e
theorem ZSt.typ {z TI TO i1 i2 l1 l2 : Addr} {k : Nat} (Z : ZSt s.heap z TI TO i1 i2 l1 l2 k) : s.TypeIs (.ref z) "zip" := by
  rcases Z.zz with q | ⟨_, _, q⟩
  · exact ⟨_, q, rfl⟩
  · exact ⟨_, q, rfl⟩
theorem ez_nextOf_item {z TI TO i1 i2 l1 l2 : Addr} {k : Nat} {xs ys : Array Value} {x y : Value} {Q : Value → Shared → Prop} (D : ZipApart z TI TO i1 i2 l1 l2) (Z : ZSt s.heap z TI TO i1 i2 l1 l2 k)
    (hl1 : s.heap.IsList l1 xs) (hl2 : s.heap.IsList l2 ys) (hx : xs[k]? = some x) (hy : ys[k]? = some y)
    (hQ : ∀ h', ZSt h' z TI TO i1 i2 l1 l2 (k + 1) → IsPair h' s.heap.objs.size x y → h'.objs.size = s.heap.objs.size + 1 → (∀ c o, c ∉ [z, TO, i1, i2] → s.heap.get? c = some o → h'.get? c = some o) → Q (.ref s.heap.objs.size) { s with heap := h' }) :
    wpAny (model prog w) A (Builtin.SmallTypes.nextOf (.ref z)) Q E s := by
  unfold Builtin.SmallTypes.nextOf
  exact wpAny_bind (wpAny_callSpecial?_slot (name := Str.ofString "__next__") Z.typ F.slot_zip_next (wpAny_call_entry F.slot_zip_next Z.typ F.entry_zip_next (ez_zip_item D Z hl1 hl2 hx hy fun h' a b c d => wpAny_pure (hQ h' a b c d)) (F.args_zip_next_1 _)))
theorem ez_nextOf_end {z TI TO i1 i2 l1 l2 : Addr} {k : Nat} {xs ys : Array Value} {Q : Value → Shared → Prop} (hh : A.handled = none) (D : ZipApart z TI TO i1 i2 l1 l2) (Z : ZSt s.heap z TI TO i1 i2 l1 l2 k)
    (hl1 : s.heap.IsList l1 xs) (hl2 : s.heap.IsList l2 ys) (hend : xs[k]? = none ∨ ys[k]? = none)
    (hE : ∀ h' e, (∀ c o, c ∉ [z, TO, i1, i2] → s.heap.get? c = some o → h'.get? c = some o) → (∃ o, h'.get? e = some o ∧ o.cls = .type "StopIteration") → E (.ref e) { s with heap := h' }) :
    wpAny (model prog w) A (Builtin.SmallTypes.nextOf (.ref z)) Q E s := by
  have tp := Z.typ
  obtain ⟨ti, ⟨a, b, to⟩, h1, h2, zz⟩ := Z
  unfold Builtin.SmallTypes.nextOf
  refine wpAny_bind (wpAny_callSpecial?_slot (name := Str.ofString "__next__") tp F.slot_zip_next (wpAny_call_entry F.slot_zip_next tp F.entry_zip_next ?_ (F.args_zip_next_1 _)))
  have wk : ∀ {h' : Heap}, (∀ c o, c ≠ z → c ≠ TO → c ≠ i1 → c ≠ i2 → s.heap.get? c = some o → h'.get? c = some o) → ∀ c o, c ∉ [z, TO, i1, i2] → s.heap.get? c = some o → h'.get? c = some o := fun hk c o hc q => by
    simp only [List.mem_cons, List.not_mem_nil, or_false, not_or] at hc
    exact hk c o hc.1 hc.2.1 hc.2.2.1 hc.2.2.2 q
  rcases zz with zz | ⟨T, f, zz⟩
  · exact zip_next_end hh D zz ti to h1 h2 hl1 hl2 hend fun h' e hk he => hE h' e (wk hk) he
  · cases hT : s.heap.get? T with
    | some oT => exact zip_next_end_held hh D zz hT ti h1 h2 hl1 hl2 hend fun h' e hk he => hE h' e (wk fun c o c1 _ c3 c4 => hk c o c1 c3 c4) he
    | none => exact ez_zip_freeEnd hh D (fun {B F Q} q => ez_gone zz hT q) zz ti to h1 h2 hl1 hl2 hend fun h' e hk he => hE h' e (wk hk) he
/-- one turn of an enumerate, whose inner turn lays one object -/
theorem ez_enum_next {e it : Addr} {i : Nat} {old : Value} {R : Value → Heap → Prop} {wr : List Addr} {Q : Value → Shared → Prop}
    (inner : ∀ Q : Value → Shared → Prop, (∀ x g, R x g → g.objs.size = s.heap.objs.size + 1 → (∀ b o, b ∉ wr → s.heap.get? b = some o → g.get? b = some o) → Q x { s with heap := g }) → wpAny (model prog w) A (Builtin.SmallTypes.nextOf (.ref it)) Q E s)
    (he : IsEnum s.heap e it i old) (hew : e ∉ wr)
    (hQ : ∀ x g h', R x g → g.objs.size = s.heap.objs.size + 1 → (∀ b o, b ∉ wr → s.heap.get? b = some o → g.get? b = some o) → IsEnumOut h' e it ((i : Int) + 1) x (s.heap.objs.size + 1) →
      h'.get? (s.heap.objs.size + 1) = some { cls := .type "tuple", data := .seq #[.int i s.toks, x] } → h'.objs.size = s.heap.objs.size + 2 →
      (∀ b o, b ≠ e → g.get? b = some o → h'.get? b = some o) → Q (.ref (s.heap.objs.size + 1)) { s with heap := h', toks := s.toks + 1 }) :
    wpAny (model prog w) A (Builtin.«enumerate.__next__» ⟨[.ref e], []⟩) (fun fin s' => ∃ v, fin = .done (.ret v) ∧ Q v s') E s := by
  obtain ⟨hp, gs, dr, tk, os⟩ := s
  show wpAny _ _ (field (.ref e) 2 >>= _) _ _ _
  refine wpAny_bind (wpAny_field he rfl (x := .ref it) rfl (wpAny_bind (inner _ fun x ga hR hgs hgk => ?_)))
  replace hgs : ga.objs.size = hp.objs.size + 1 := hgs
  replace hgk : ∀ b o, b ∉ wr → hp.get? b = some o → ga.get? b = some o := hgk
  have ea : IsEnum ga e it i old := hgk e _ hew he
  show wpAny _ _ (field (.ref e) 3 >>= _) _ _ ⟨ga, gs, dr, tk, os⟩
  refine wpAny_bind (wpAny_field ea rfl (x := rawInt i) rfl ?_)
  show wpAny _ _ (field (.ref e) 4 >>= _) _ _ ⟨ga, gs, dr, tk, os⟩
  refine wpAny_bind (wpAny_field ea rfl (x := .none) rfl ?_)
  show wpAny _ _ (mkInt i >>= _) _ _ ⟨ga, gs, dr, tk, os⟩
  refine wpAny_bind (wpAny_mkInt ?_)
  show wpAny _ _ (setField (.ref e) 3 (rawInt ((i : Int) + 1)) >>= _) _ _ ⟨ga, gs, dr, tk + 1, os⟩
  refine wpAny_bind (wpAny_setField_rec ea (by simp) fun gb eb sb => ?_)
  replace sb : Heap.SameBut e ga gb := sb
  replace eb : IsEnum gb e it ((i : Int) + 1) old := eb
  show wpAny _ _ (setField (.ref e) 4 .none >>= _) _ _ ⟨gb, gs, dr, tk + 1, os⟩
  refine wpAny_bind (wpAny_setField_rec eb (by simp) fun gc ec sc => ?_)
  replace sc : Heap.SameBut e gb gc := sc
  replace ec : IsEnum gc e it ((i : Int) + 1) old := ec
  show wpAny _ _ (newTuple [.int i tk, x] >>= _) _ _ ⟨gc, gs, dr, tk + 1, os⟩
  refine wpAny_bind (wpAny_newTuple ?_)
  have ed : IsEnum (gc.push { cls := .type "tuple", data := .seq #[.int i tk, x] }) e it ((i : Int) + 1) old := Heap.get?_push_of_some _ ec
  generalize hgd : gc.push { cls := .type "tuple", data := .seq #[.int i tk, x] } = gd at ed
  have zc : gc.objs.size = hp.objs.size + 1 := by rw [sc.1, sb.1, hgs]
  have le : e < hp.objs.size := Heap.lt_size he
  have td : gd.get? (hp.objs.size + 1) = some { cls := .type "tuple", data := .seq #[.int i tk, x] } := by rw [← hgd, ← zc]; exact Heap.get?_push_size _ rfl
  have zd : gd.objs.size = hp.objs.size + 2 := by rw [← hgd, Heap.size_push, zc]
  have kd : ∀ b o, b ≠ e → ga.get? b = some o → gd.get? b = some o := fun b o hb q => by rw [← hgd]; exact Heap.get?_push_of_some _ (sc.extBut b o hb (sb.extBut b o hb q))
  show wpAny _ _ (Builtin.SmallTypes.ownedTupleIsFree (.ref e) >>= _) _ _ ⟨gd, gs, dr, tk + 1, os⟩
  rw [zc]
  refine wpAny_bind ?_
  unfold Builtin.SmallTypes.ownedTupleIsFree
  refine wpAny_bind (wpAny_field ed rfl (x := .none) rfl (wpAny_pure ?_))
  simp only [if_true]
  refine wpAny_bind (wpAny_rule (wpAny_bind (wpAny_field ed rfl (x := old) rfl ?_)))
  refine wpAny_bind (wpAny_setField_rec ed (by simp) fun gf ef sf => ?_)
  replace sf : Heap.SameBut e gd gf := sf
  replace ef : IsEnum gf e it ((i : Int) + 1) x := ef
  show wpAny _ _ (Builtin.SmallTypes.ownedTupleHandOut (.ref e) (.ref (hp.objs.size + 1)) >>= _) _ _ ⟨gf, gs, dr, tk + 1, os⟩
  refine wpAny_bind ?_
  unfold Builtin.SmallTypes.ownedTupleHandOut
  refine wpAny_bind (wpAny_setField_rec ef (by simp) fun gh eh sh => ?_)
  replace sh : Heap.SameBut e gf gh := sh
  replace eh : IsEnumOut gh e it ((i : Int) + 1) x (hp.objs.size + 1) := eh
  refine wpAny_setField_rec eh (by simp) fun gj ej sj => ?_
  replace sj : Heap.SameBut e gh gj := sj
  replace ej : IsEnumOut gj e it ((i : Int) + 1) x (hp.objs.size + 1) := ej
  have up : ∀ b o, b ≠ e → gd.get? b = some o → gj.get? b = some o := fun b o hb q => sj.extBut b o hb (sh.extBut b o hb (sf.extBut b o hb q))
  have ne : hp.objs.size + 1 ≠ e := Nat.ne_of_gt (Nat.lt_succ_of_lt le)
  refine wpAny_bind (wpAny_letGo (wpAny_pure ⟨_, rfl, hQ x ga gj hR hgs hgk ej (up _ _ ne td) ?_ fun b o hb q => up b o hb (kd b o hb q)⟩))
  show gj.objs.size = _
  rw [sj.1, sh.1, sf.1, zd]
theorem ez_pyNext_item {e z TI TO i1 i2 l1 l2 : Addr} {k : Nat} {old : Value} {xs ys : Array Value} {x y : Value} {Q : Option Value → Shared → Prop} (D : ZipApart z TI TO i1 i2 l1 l2) (Z : ZSt s.heap z TI TO i1 i2 l1 l2 k)
    (hl1 : s.heap.IsList l1 xs) (hl2 : s.heap.IsList l2 ys) (hx : xs[k]? = some x) (hy : ys[k]? = some y) (he : IsEnum s.heap e z k old) (hew : e ∉ [z, TO, i1, i2])
    (hQ : ∀ g h', ZSt g z TI TO i1 i2 l1 l2 (k + 1) → IsPair g s.heap.objs.size x y → g.objs.size = s.heap.objs.size + 1 → (∀ c o, c ∉ [z, TO, i1, i2] → s.heap.get? c = some o → g.get? c = some o) → IsEnumOut h' e z ((k : Int) + 1) (.ref s.heap.objs.size) (s.heap.objs.size + 1) →
      h'.get? (s.heap.objs.size + 1) = some { cls := .type "tuple", data := .seq #[.int k s.toks, .ref s.heap.objs.size] } → h'.objs.size = s.heap.objs.size + 2 →
      (∀ b o, b ≠ e → g.get? b = some o → h'.get? b = some o) → Q (some (.ref (s.heap.objs.size + 1))) { s with heap := h', toks := s.toks + 1 }) : wpAny (model prog w) A (pyNext (.ref e)) Q E s := by
  have hT : s.TypeIs (.ref e) "enumerate" := ⟨_, he, rfl⟩
  unfold pyNext
  refine wpAny_bind (wpAny_attempt (wpAny_callSpecial?_slot (name := Str.ofString "__next__") hT F.slot_enumerate_next (wpAny_call_entry F.slot_enumerate_next hT F.entry_enumerate_next ?_ (F.args_enumerate_next_1 _))))
  refine ez_enum_next (wr := [z, TO, i1, i2]) (R := fun v g => v = .ref s.heap.objs.size ∧ ZSt g z TI TO i1 i2 l1 l2 (k + 1) ∧ IsPair g s.heap.objs.size x y) (fun Q hq => ?_) he hew fun v g h' r a b c d f m => ?_
  · exact ez_nextOf_item D Z hl1 hl2 hx hy fun h' a b c d => hq _ h' ⟨rfl, a, b⟩ c d
  · obtain ⟨rfl, r1, r2⟩ := r
    exact wpAny_pure (hQ g h' r1 r2 a b c d f m)
theorem ez_pyNext_end {e z TI TO i1 i2 l1 l2 : Addr} {k : Nat} {c : Int} {old : Value} {xs ys : Array Value} {Q : Option Value → Shared → Prop} (hh : A.handled = none) (D : ZipApart z TI TO i1 i2 l1 l2) (Z : ZSt s.heap z TI TO i1 i2 l1 l2 k)
    (hl1 : s.heap.IsList l1 xs) (hl2 : s.heap.IsList l2 ys) (hend : xs[k]? = none ∨ ys[k]? = none) (he : IsEnum s.heap e z c old)
    (hQ : ∀ h', (∀ c o, c ∉ [z, TO, i1, i2] → s.heap.get? c = some o → h'.get? c = some o) → Q none { s with heap := h' }) : wpAny (model prog w) A (pyNext (.ref e)) Q E s := by
  have hT : s.TypeIs (.ref e) "enumerate" := ⟨_, he, rfl⟩
  unfold pyNext
  refine wpAny_bind (wpAny_attempt (wpAny_callSpecial?_slot (name := Str.ofString "__next__") hT F.slot_enumerate_next (wpAny_call_entry F.slot_enumerate_next hT F.entry_enumerate_next ?_ (F.args_enumerate_next_1 _))))
  show wpAny _ _ (field (.ref e) 2 >>= _) _ _ _
  refine wpAny_bind (wpAny_field he rfl (x := .ref z) rfl (wpAny_bind (ez_nextOf_end hh D Z hl1 hl2 hend fun g u hk hu => ?_)))
  obtain ⟨o, ho, hc⟩ := hu
  exact wpAny_bind (wpAny_isInstance (T := "StopIteration") (b := true) ⟨o, ho, hc⟩ isSubtype_stop (wpAny_pure (hQ _ hk)))
/-! ### enumerate(z), z a zip -/
theorem meets_enumerate_zip (z TI TO : Addr) :
    Meets (Builtin.«enumerate.__new__» ⟨[.type "enumerate", .ref z], []⟩) (fun _ R s => IsZip s.heap z TI TO .none ∧
      R (.ok (.ret (.ref s.heap.objs.size))) { s with heap := s.heap.push { cls := .type "enumerate", data := .fields #[.none, .bool false, .ref z, rawInt 0, .none, .none] } }) :=
  .of_wp fun prog w A R s h => by
    obtain ⟨hp, g, d, tk, os⟩ := s; obtain ⟨hz, h⟩ := h
    have hsub := sub_enumerate
    have hZ : IsZip (Shared.heap ⟨hp, g, d, tk, os⟩) z TI TO .none := hz
    wp_walk using wpAny_pyIter_zip hZ
    refine wpAny_stack_any fun st => wpAny_pure ?_
    split
    · rename_i c _ _ _ _ _
      cases (c == Value.type "enumerate")
      · wp_walk using wpAny_pyIter_zip hZ
        exact ⟨_, rfl, h⟩
      · wp_walk using wpAny_pyIter_zip hZ
        exact ⟨_, rfl, h⟩
    · wp_walk using wpAny_pyIter_zip hZ
      exact ⟨_, rfl, h⟩
theorem call_enumerate_zip {z TI TO : Addr} {Q : Value → Shared → Prop} (hz : IsZip s.heap z TI TO .none)
    (h : ∀ h', IsEnum h' s.heap.objs.size z 0 .none → h'.objs.size = s.heap.objs.size + 1 → (∀ b o, s.heap.get? b = some o → h'.get? b = some o) → Q (.ref s.heap.objs.size) { s with heap := h' }) :
    wpAny (model prog w) A (call (.type "enumerate") [.ref z]) Q E s := by
  refine callType_new F.called_enumerate (by decide) (F.typeCall_enumerate_1 _) (F.newCall_enumerate_1 _) (fun obj => F.args_object_init_2 obj _) F.entry_enumerate_new (meets_enumerate_zip z TI TO) ⟨hz, ?_⟩
  have he : IsEnum (s.heap.push { cls := .type "enumerate", data := .fields #[.none, .bool false, .ref z, rawInt 0, .none, .none] }) s.heap.objs.size z 0 .none := Heap.get?_push_size _ rfl
  exact ⟨⟨_, he, rfl⟩, h _ he (Heap.size_push ..) fun b o q => Heap.get?_push_of_some _ q⟩
end
end PySem
namespace Dl
open PySem PySem.Spec PyProof.Rows L2
/-! ### the turn -/
def Itez (K : PySem.W.Frag) (a b : Addr) : It :=
  ⟨fun i H => ∃ (xs ys : List V) (x y : V), SqL K H a xs ∧ SqL K H b ys ∧ xs[i]? = some x ∧ ys[i]? = some y,
    fun i H v H' => ∃ T U x y, v = .ref U ∧ H T = none ∧ H U = none ∧ U ≠ T ∧ H' = upd (upd H T (.tup [x, y])) U (.tup [.int (i : Nat), .ref T]) ∧ (∀ xs, SqL K H a xs → xs[i]? = some x) ∧ ∀ ys, SqL K H b ys → ys[i]? = some y,
    fun i H => ∃ xs ys : List V, SqL K H a xs ∧ SqL K H b ys ∧ (xs.length ≤ i ∨ ys.length ≤ i)⟩
theorem fpOk_upd {X : Cx} {pins : List (Addr × Obj)} {H : Hp} {b T : Addr} {o : HO} (h : FpOk X pins H b) (n : b ≠ T) : FpOk X pins (upd H T o) b := ⟨by rw [upd_ne n]; exact h.1, h.2⟩
theorem turn_ez {P : Program} {w : World} {K : PySem.W.Frag} {elts : List Expr} {kk : Nat} {tpos : Pos} {e a b z TI TO i1 i2 : Addr} (D : ZipApart z TI TO i1 i2 a b) (en : e ∉ [z, TI, TO, i1, i2]) :
    Turn P w K (.Tuple elts kk tpos) (Itez K a b) [e, z, TI, TO, i1, i2] e (fun i h => (∃ old, IsEnum h e z ((i : Nat) : Int) old) ∧ ZSt h z TI TO i1 i2 a b i) where
  mem := by simp
  obj := fun i h st c hc => by
    obtain ⟨⟨old, he⟩, hTI, ⟨x, y, hTO⟩, ⟨o1, e1, _, d1⟩, ⟨o2, e2, _, d2⟩, zz⟩ := st
    have e' : c = e ∨ c = z ∨ c = TI ∨ c = TO ∨ c = i1 ∨ c = i2 := by simpa using hc
    rcases e' with q | q | q | q | q | q
    · rw [q]; exact ⟨_, he, fun v q => nomatch q⟩
    · rw [q]
      rcases zz with zz | ⟨T, f, zz⟩
      · exact ⟨_, zz, fun v q => nomatch q⟩
      · exact ⟨_, zz, fun v q => nomatch q⟩
    · rw [q]; exact ⟨_, hTI, fun v q => nomatch q⟩
    · rw [q]; exact ⟨_, hTO, fun v q => nomatch q⟩
    · rw [q]; exact ⟨o1, e1, fun v q => by rw [d1] at q; cases q⟩
    · rw [q]; exact ⟨o2, e2, fun v q => by rw [d2] at q; cases q⟩
  keep := fun i h h' st k => by
    obtain ⟨⟨old, he⟩, hTI, ⟨x, y, hTO⟩, h1, h2, zz⟩ := st
    refine ⟨⟨old, k e (by simp) _ he⟩, k TI (by simp) _ hTI, ⟨x, y, k TO (by simp) _ hTO⟩, h1.at fun o q => k i1 (by simp) o q, h2.at fun o q => k i2 (by simp) o q, ?_⟩
    rcases zz with zz | ⟨T, f, zz⟩
    · exact .inl (k z (by simp) _ zz)
    · exact .inr ⟨T, f, k z (by simp) _ zz⟩
  item := by
    intro X hP hw hK hc i pins s σ H E I hf st hg
    subst hP hw hK
    obtain ⟨⟨old, he⟩, Z⟩ := st
    obtain ⟨xs, ys, x, y, hqx, hqy, hx, hy⟩ := hg
    obtain ⟨its, rv, p, _⟩ := I.list hqx
    obtain ⟨its2, rv2, p2, _⟩ := I.list hqy
    obtain ⟨u, hu, ru⟩ := rv.get hx
    obtain ⟨u2, hu2, ru2⟩ := rv2.get hy
    simp only [List.mem_cons, List.not_mem_nil, or_false, not_or] at en
    obtain ⟨ez, eI, eO, e1, e2⟩ := en
    have lt : ∀ c ∈ [e, z, TI, TO, i1, i2], c < s.heap.objs.size := fun c hc => by
      obtain ⟨hTI, ⟨_, _, hTO⟩, ⟨o1, q1, _⟩, ⟨o2, q2, _⟩, zz⟩ := Z
      have e' : c = e ∨ c = z ∨ c = TI ∨ c = TO ∨ c = i1 ∨ c = i2 := by simpa using hc
      rcases e' with q | q | q | q | q | q
      · rw [q]; exact Heap.lt_size he
      · rw [q]
        rcases zz with zz | ⟨T, f, zz⟩
        · exact Heap.lt_size zz
        · exact Heap.lt_size zz
      · rw [q]; exact Heap.lt_size hTI
      · rw [q]; exact Heap.lt_size hTO
      · rw [q]; exact Heap.lt_size q1
      · rw [q]; exact Heap.lt_size q2
    refine ez_pyNext_item D Z p.isList p2.isList (x := u) (y := u2) (by simpa using hu) (by simpa using hu2) he (by simp [ez, eO, e1, e2]) fun g h' Zg hp hgs hgk he' hU hs hk => ?_
    have le : e < s.heap.objs.size := lt e (by simp)
    refine ⟨_, rfl, wpAny_letOwnedTupleGo_enum (s := { s with heap := h', toks := s.toks + 1 }) he' fun h'' he'' sb => ?_⟩
    have hT : g.get? s.heap.objs.size = some { cls := .type "tuple", data := .seq #[u, u2] } := hp
    have newT : ObjOk X.prog X.w (upd H s.heap.objs.size (.tup [x, y])) g s.heap.objs.size (.tup [x, y]) := ⟨by show 2 ≤ sizeLine; decide, [u, u2], .cons ru (.cons ru2 .nil), ⟨_, hT, rfl, _, rfl⟩⟩
    have I1 : Inv X pins σ (upd H s.heap.objs.size (.tup [x, y])) { s with heap := g } := I.turnedNew (t' := s.toks) (ch := [z, TO, i1, i2]) hgk (fun b hb => hf b (by simp at hb ⊢; rcases hb with q | q | q | q <;> simp [q])) (Nat.le_refl _) newT
    have hU2 : h''.get? (s.heap.objs.size + 1) = some { cls := .type "tuple", data := .seq #[.int i s.toks, .ref s.heap.objs.size] } := (sb.2 _ (Nat.ne_of_gt (Nat.lt_succ_of_lt le))).trans hU
    have newU : ObjOk X.prog X.w (upd (upd H s.heap.objs.size (.tup [x, y])) (s.heap.objs.size + 1) (.tup [.int (i : Nat), .ref s.heap.objs.size])) h'' (s.heap.objs.size + 1) (.tup [.int (i : Nat), .ref s.heap.objs.size]) :=
      ⟨by show 2 ≤ sizeLine; decide, [.int i s.toks, .ref s.heap.objs.size], .cons ⟨_, rfl⟩ (.cons rfl .nil), ⟨_, hU2, rfl, _, rfl⟩⟩
    have ke : ∀ b o, b ≠ e → g.get? b = some o → h''.get? b = some o := fun b o hb q => (sb.2 b hb).trans (hk b o hb q)
    have I2 : Inv X pins σ (upd (upd H s.heap.objs.size (.tup [x, y])) (s.heap.objs.size + 1) (.tup [.int (i : Nat), .ref s.heap.objs.size])) { s with heap := h'', toks := s.toks + 1 } :=
      I1.turnedNew (t' := s.toks + 1) (ch := [e]) (fun b o hb q => ke b o (fun z => hb (by simp [z])) q) (fun b hb => fpOk_upd (hf b (by simp at hb; simp [hb])) (fun q => by
        have hb' : b = e := by simpa using hb
        rw [hb'] at q
        exact absurd le (by rw [q]; exact Nat.lt_irrefl _))) (by show g.objs.size ≤ _; rw [hgs]; exact Nat.le_refl _) newU
    have fresh : ∀ n, s.heap.objs.size ≤ n → H n = none := fun n hn => I.hok.fresh hn
    refine ⟨.ref (s.heap.objs.size + 1), _, I2, rfl, ⟨_, _, x, y, rfl, fresh _ (Nat.le_refl _), fresh _ (Nat.le_succ _), Nat.succ_ne_self _, rfl, fun l hl => by rw [I.list_inj hl hqx]; exact hx, fun l hl => by rw [I.list_inj hl hqy]; exact hy⟩, ⟨⟨.ref s.heap.objs.size, ?_⟩, ?_⟩, fun c hcm => ?_⟩
    · have q1 : ((i + 1 : Nat) : Int) = (i : Int) + 1 := by omega
      rw [q1]; exact he''
    · obtain ⟨hTI, ⟨x', y', hTO⟩, h1, h2, zz⟩ := Zg
      refine ⟨ke _ _ (Ne.symm eI) hTI, ⟨x', y', ke _ _ (Ne.symm eO) hTO⟩, h1.at fun o q => ke _ o (Ne.symm e1) q, h2.at fun o q => ke _ o (Ne.symm e2) q, ?_⟩
      rcases zz with zz | ⟨T, f, zz⟩
      · exact .inl (ke _ _ (Ne.symm ez) zz)
      · exact .inr ⟨T, f, ke _ _ (Ne.symm ez) zz⟩
    · have hlt := lt c hcm
      rw [upd_ne (Nat.ne_of_lt (Nat.lt_succ_of_lt hlt)), upd_ne (Nat.ne_of_lt hlt)]
      exact (hf c hcm).1
  done := by
    intro X hP hw hK hc i pins s σ H E I hf st hg
    subst hP hw hK
    obtain ⟨⟨old, he⟩, Z⟩ := st
    obtain ⟨xs, ys, hqx, hqy, hend⟩ := hg
    obtain ⟨its, rv, p, _⟩ := I.list hqx
    obtain ⟨its2, rv2, p2, _⟩ := I.list hqy
    have m1 := rv.length
    have m2 := rv2.length
    have hn : its.toArray[i]? = none ∨ its2.toArray[i]? = none := hend.elim (fun q => .inl (by simp; omega)) fun q => .inr (by simp; omega)
    exact ez_pyNext_end (I.ok.hd hc) D Z p.isList p2.isList hn he fun h' hk => ⟨rfl, I.turnedL (t' := s.toks) (ch := [z, TO, i1, i2]) hk fun b hb => hf b (by simp at hb ⊢; rcases hb with q | q | q | q <;> simp [q])⟩
  self := fun A i s Q E st h => let ⟨⟨_, he⟩, _⟩ := st; wpAny_pyIter_enum he h
end Dl

namespace Dl
open PySem PySem.Spec PyProof.Rows L2
/-! ### enumerate(zip(a, b)) -/
def iEz (K : PySem.W.Frag) (ta : TA) : TI := fun σ H R => ta σ H fun vs H1 => ∃ a b xs ys, vs = [.ref a, .ref b] ∧ SqL K H1 a xs ∧ SqL K H1 b ys ∧ R (Itez K a b) H1
theorem pi_ez {X : Cx} {e e2 : Expr} {ta : TA} {p p2 pos pos2 tpos : Pos} {elts : List Expr} {kk : Nat} (hg : Gl X "enumerate") (hm : X.mg "enumerate" = none) (hg2 : Gl X "zip") (hm2 : X.mg "zip" = none) (ha : PA X [e, e2] ta)
    (hs0 : starEach [.Call (.Name "zip" p2) [e, e2] [] pos2] X.env = (false, eval (.Call (.Name "zip" p2) [e, e2] [] pos2) X.env) :: starEach [] X.env := by rfl)
    (hs : starEach [e, e2] X.env = (false, eval e X.env) :: starEach [e2] X.env := by rfl) (hpl : (backTo pos2 (starEach [e2] X.env)).any (·.1) = false := by rfl) :
    PI X (.Tuple elts kk tpos) (.Call (.Name "enumerate" p) [.Call (.Name "zip" p2) [e, e2] [] pos2] [] pos) (iEz X.K ta) := by
  refine ⟨fun pins s σ H R I h => ?_⟩
  refine Call_ (ld_blt I hg hm boot_enumerate (PyProof.Rows.callWith_type1 (args_cons (Call_ (ld_blt I hg2 hm2 PyProof.Rows.boot_zip (PyProof.Rows.callWith_type1 (thn (ha.run pos2 pins s σ H _ I h) fun us s1 ⟨vs, H1, I1, r1, q1⟩ => ?_) hs hpl))) hs0) hs0 rfl))
  obtain ⟨a, b, xs, ys, ex, hqx, hqy, q⟩ := q1
  subst ex
  cases r1 with
  | cons r rr =>
    cases rr with
    | cons r' rr =>
      cases rr
      cases r
      cases r'
      obtain ⟨its, rv, pa, _⟩ := I1.list hqx
      obtain ⟨its2, rv2, pb, _⟩ := I1.list hqy
      have la : a < s1.heap.objs.size := pa.lt
      have lb : b < s1.heap.objs.size := pb.lt
      refine call_zip_2 pa.isList pb.isList fun h' hz hTI hTO h1 h2 hsz hk => args_nil (call_enumerate_zip (s := { s1 with heap := h' }) hz fun h'' he hsz' hk' => wpAny_pyIter_enum he ?_)
      have I2 : Inv X pins σ H1 { s1 with heap := h'' } := I1.kept (t' := s1.toks) fun c o e => hk' c o (hk c o e)
      have hN : h'.objs.size = s1.heap.objs.size + 5 := hsz
      have he : IsEnum h'' h'.objs.size (s1.heap.objs.size + 4) 0 .none := he
      rw [hN] at he ⊢
      refine ⟨s1.heap.objs.size + 5, [s1.heap.objs.size + 5, s1.heap.objs.size + 4, s1.heap.objs.size + 2, s1.heap.objs.size + 3, s1.heap.objs.size, s1.heap.objs.size + 1], _, _, H1, rfl, I2, turn_ez (PySem.W.ktu_apart s1.heap.objs.size a b la lb) ?_, ⟨⟨.none, he⟩, hk' _ _ hTI, ⟨_, _, hk' _ _ hTO⟩, h1.at fun o q => hk' _ o q, h2.at fun o q => hk' _ o q, .inl (hk' _ _ hz)⟩, fun c hcm => ?_, q⟩
      · simp
      · have e' : c = s1.heap.objs.size + 5 ∨ c = s1.heap.objs.size + 4 ∨ c = s1.heap.objs.size + 2 ∨ c = s1.heap.objs.size + 3 ∨ c = s1.heap.objs.size ∨ c = s1.heap.objs.size + 1 := by simpa using hcm
        have hle : s1.heap.objs.size ≤ c := by
          rcases e' with z | z | z | z | z | z
          · rw [z]; exact Nat.le_add_right _ _
          · rw [z]; exact Nat.le_add_right _ _
          · rw [z]; exact Nat.le_add_right _ _
          · rw [z]; exact Nat.le_add_right _ _
          · rw [z]; exact Nat.le_refl _
          · rw [z]; exact Nat.le_add_right _ _
        exact I1.fpOk hle (I1.hok.fresh hle)
def YEz (f g : Nat → Option V) : Nat → Hp → V → Hp → Prop := fun i H x H2 => ∃ T U v w, f i = some v ∧ g i = some w ∧ x = .ref U ∧ H T = none ∧ H U = none ∧ U ≠ T ∧ H2 = upd (upd H T (.tup [v, w])) U (.tup [.int (i : Nat), .ref T])
def iEnumZip (a b : DE) : DI := fun env k => a env fun x => b env fun y => match x, y with
  | .list xs, .list ys => k (enumD 0 (zipD xs ys))
  | _, _ => false
section
variable {W : Wd} {X : Cx} {K : PySem.W.Frag} {ea eb : Expr} {da db : DE} {pos : Pos}
theorem walk_ez {a b : Addr} {xs ys : List V} {n : Nat} (hn : n = min xs.length ys.length) : Walk (Itez K a b) n (fun H => SqL K H a xs ∧ SqL K H b ys) (YEz (fun i => xs[i]?) (fun i => ys[i]?)) := by
  subst hn
  refine ⟨fun i _ hi q => ?_, fun _ q => ⟨xs, ys, q.1, q.2, by omega⟩, fun i H v H' _ q y => ?_⟩
  · have h1 : i < xs.length := by omega
    have h2 : i < ys.length := by omega
    exact ⟨xs, ys, xs[i], ys[i], q.1, q.2, by simp [h1], by simp [h2]⟩
  · obtain ⟨T, U, x, z, h1, h2, h3, h4, h5, h6, h7⟩ := y
    exact ⟨T, U, x, z, h6 xs q.1, h7 ys q.2, h1, h2, h3, h4, h5⟩
theorem walkEZ {a b : Addr} {vl wl : List V} {ds es : List PyData} {F' : Hp} (ha : F' a = some (.lst vl)) (r : RpAll K F' vl ds) (hb : F' b = some (.lst wl)) (r2 : RpAll K F' wl es) : IsWalk K W (Itez K a b) (enumD 0 (zipD ds es)) F' := by
  refine ⟨fun H => SqL K H a vl ∧ SqL K H b wl, _, walk_ez (by rw [enumD_len, zipD_len, r.length, r2.length]), fun F H e1 e2 => ⟨.inl (.inl (e2 _ _ (e1 _ _ ha))), .inl (.inl (e2 _ _ (e1 _ _ hb)))⟩, fun i H x H2 F d e1 B hd y => ?_⟩
  obtain ⟨z0, h0, h01⟩ := enumD_at _ 0 i d hd
  obtain ⟨z, z2, h1, h2, h3⟩ := zipD_at ds es i z0 h0
  obtain ⟨v, h4, h5⟩ := r.at h1
  obtain ⟨v2, h6, h7⟩ := r2.at h2
  subst h3 h01
  obtain ⟨T, U, v', w', f1, f2, rfl, nT, nU, nUT, rfl⟩ := y
  have f1 : vl[i]? = some v' := f1
  have f2 : wl[i]? = some w' := f2
  rw [h4] at f1
  rw [h6] at f2
  cases f1
  cases f2
  have st := Stp.new (o := .tup [v, v2]) B nT
  have B2 := Stp.bs B st
  have st2 := Stp.new (o := .tup [.int (i : Nat), .ref T]) B2 (by rw [upd_ne nUT]; exact nU)
  rw [Nat.zero_add]
  exact ⟨_, st.trans st2, .tup upd_same (.cons (.int _) (.cons (.tup (by rw [upd_ne (Ne.symm nUT)]; exact upd_same) (.cons ((h5.mono e1).mono (st.ff.trans st2.ff)) (.cons ((h7.mono e1).mono (st.ff.trans st2.ff)) .nil))) .nil))⟩
theorem si_ez {p p2 pos2 tpos : Pos} {elts : List Expr} {kk : Nat} (hm : X.mg "enumerate" = none) (hm2 : X.mg "zip" = none) (a : SE W X ea da) (b : SE W X eb db) (hg : Gl X "enumerate" := by rfl) (hg2 : Gl X "zip" := by rfl)
    (hs0 : starEach [.Call (.Name "zip" p2) [ea, eb] [] pos2] X.env = (false, eval (.Call (.Name "zip" p2) [ea, eb] [] pos2) X.env) :: starEach [] X.env := by rfl)
    (hs : starEach [ea, eb] X.env = (false, eval ea X.env) :: starEach [eb] X.env := by rfl) (hs2 : starEach [eb] X.env = (false, eval eb X.env) :: starEach [] X.env := by rfl) (hpl : (backTo pos2 (starEach [eb] X.env)).any (·.1) = false := by rfl) :
    SI W X (.Tuple elts kk tpos) (.Call (.Name "enumerate" p) [.Call (.Name "zip" p2) [ea, eb] [] pos2] [] pos) (iEnumZip da db) := by
  obtain ⟨t1, p1, o1⟩ := a
  obtain ⟨t2, p2, o2⟩ := b
  refine ⟨_, pi_ez hg hm hg2 hm2 (pa_cons p1 (pa_cons p2 pa_nil hs2) hs) hs0 hs hpl, fun env σ F H k R Re h q => o1 env σ F H _ _ Re h fun d v F1 H1 s1 r1 h1 => o2 env σ F1 H1 _ _ (Re.step s1) h1 fun d2 v2 F2 H2 s2 r2 h2 => ?_⟩
  have B := ((Re.step s1).step s2).bs
  have r1 := r1.mono s2.ff
  cases d with
  | list xs =>
    cases d2 with
    | list ys =>
      cases r1 with
      | lst ha ra =>
        cases r2 with
        | lst hb rb => exact ⟨_, _, _, _, rfl, .inl (.inl (B.keep ha)), .inl (.inl (B.keep hb)), q _ _ F2 H2 (s1.trans s2) (walkEZ ha ra hb rb) h2⟩
    | _ => cases h2
  | _ => cases h2
end
/-! ### two fors -/
def hideE (env : Sls) : Sls := env.map fun s => match s with
  | .ow _ => .no
  | s => s
theorem Rel.hide {K : PySem.W.Frag} {W : Wd} {env : Sls} {σ : L2.St} {F H F' H' : Hp} (r : Rel K W env σ F H) (e : Same F F') (st : Stp W.pp W.F0 W.H0 F' H') : Rel K W (hideE env) σ F' H' := by
  refine ⟨r.b0, st, by unfold hideE; rw [List.length_map]; exact r.len, fun i s h => ?_, fun i j p ds es h => ?_⟩
  · unfold hideE at h
    rw [List.getElem?_map] at h
    cases q : env[i]? with
    | none => rw [q] at h; cases h
    | some s0 =>
      rw [q] at h
      have h := Option.some.inj h
      have z := r.sl i s0 q
      cases s0 with
      | no => subst h; trivial
      | fz d =>
        subst h
        obtain ⟨v, h1, h2⟩ := z
        exact ⟨v, h1, h2.mono e⟩
      | ow ds => subst h; trivial
      | pt => subst h; exact z
  · exfalso
    unfold hideE at h
    rw [List.getElem?_map] at h
    cases q : env[i]? with
    | none => rw [q] at h; cases h
    | some s0 =>
      rw [q] at h
      have h := Option.some.inj h
      cases s0 <;> cases h
def goIn (tg : DG) (tt : DT) (el : DE) (env : Sls) : List PyData → List PyData → (List PyData → Bool) → Bool
  | [], acc, k => k acc
  | x :: xs, acc, k => tg x env fun env' => tt env' fun b => match b with
    | true => el env' fun y => (match small acc.length with
      | true => goIn tg tt el env xs (y :: acc) k
      | false => false)
    | false => goIn tg tt el env xs acc k
def goLc2 (tg : DG) (tt : DT) (it1 : DI) (tg1 : DG) (tt1 : DT) (el : DE) (env : Sls) (vs1 : List Nat) : List PyData → List PyData → KF → Bool
  | [], acc, k => k (.list acc.reverse)
  | x :: xs, acc, k => tg x env fun env' => tt env' fun b => match b with
    | true => it1 env' fun ys => goIn tg1 tt1 el (wipeE (hideE env') vs1) ys acc fun acc => goLc2 tg tt it1 tg1 tt1 el env vs1 xs acc k
    | false => goLc2 tg tt it1 tg1 tt1 el env vs1 xs acc k
def dLc2 (it : DI) (tg : DG) (tt : DT) (it1 : DI) (tg1 : DG) (tt1 : DT) (el : DE) (vs vs1 : List Nat) : DE := fun env k => it env fun xs => goLc2 tg tt it1 tg1 tt1 el (wipeE env vs) vs1 xs [] k
theorem okE_lc2 {K : PySem.W.Frag} {W : Wd} {wi wi1 : TI} {g g1 : TG} {tt tt1 : TT} {te : TE} {it it1 : DI} {tg tg1 : DG} {dt dt1 : DT} {el : DE} {vs vs1 sl sl1 : List Nat} (oi : OkI K W wi it) (og : OkG K W g tg sl) (ot : OkT K W tt dt) (oi1 : OkI K W wi1 it1) (og1 : OkG K W g1 tg1 sl1) (ot1 : OkT K W tt1 dt1) (oe : OkE K W te el)
    (hsl : ∀ j ∈ sl, j ∈ vs) (hsl1 : ∀ j ∈ sl1, j ∈ vs1) : OkE K W (tLc2 wi g tt wi1 g1 tt1 te vs vs1) (dLc2 it tg dt it1 tg1 dt1 el vs vs1) := fun env σ F H k Q R h q => by
  refine oi env σ F H _ _ R h fun ds J F1 H1 s1 wk h1 => ?_
  have R1 := R.step s1
  have B1 := R1.bs
  obtain ⟨G, Y, w1, w2, w3⟩ := wk
  intro D hD
  have np : D ≠ W.pp := fun z => by subst z; exact B1.po.some hD
  have fD : F1 D = none := none_of B1 hD
  have RW := R1.wipe vs
  have Pd : ∃ Pv : Nat → Hp → Prop, Pv = fun i H' => ∃ acc F', InLc K W F1 H1 D acc F' H' ∧ goLc2 tg dt it1 tg1 dt1 el (wipeE env vs) vs1 (ds.drop i) acc k = true := ⟨_, rfl⟩
  obtain ⟨Pv, hPv⟩ := Pd
  refine ⟨fun i m H' => m = ds.length - i ∧ i ≤ ds.length ∧ Pv i H', ⟨_, rfl, Nat.zero_le _, by rw [hPv]; exact ⟨[], F1, ⟨Stp.newO B1 hD, fD, [], upd_same, .nil⟩, h1⟩⟩, ?_⟩
  rintro i m H' ⟨rfl, hi, hp⟩
  rw [hPv] at hp
  obtain ⟨acc, F', c, hg⟩ := hp
  have gq := w2 F' H' c.st.ff c.st.fh
  by_cases hlt : i < ds.length
  · refine .inr ⟨w1.goes i H' hlt gq, Pv (i + 1), fun H2 p' => ⟨_, by omega, rfl, hlt, p'⟩, fun x H'' y => ?_⟩
    have y := w1.yields i H' x H'' hlt gq y
    have hd : ds[i]? = some ds[i] := List.getElem?_eq_getElem hlt
    have hdr : ds.drop i = ds[i] :: ds.drop (i + 1) := List.drop_eq_getElem_cons hlt
    rw [hdr] at hg
    obtain ⟨F2, s2, r2⟩ := w3 i H' x H'' F' ds[i] c.st.ff (Stp.bs B1 c.st) hd y
    have c2 := c.step np s2
    have RW2 := RW.step c2.st
    unfold goLc2 at hg
    refine og _ _ F2 H'' x _ _ _ RW2 r2 hg fun env' σ' R' a1 l1 hk => ?_
    refine ⟨wipe_same (l1.trans (L2.wipe_length σ vs)) hsl a1, ?_⟩
    refine ot env' σ' F2 H'' _ _ R' hk fun b F3 H3 s3 h3 => ?_
    have c3 := c2.step np s3
    cases b with
    | false =>
      rw [if_neg Bool.false_ne_true, hPv]
      exact ⟨acc, F3, c3, h3⟩
    | true =>
      rw [if_pos rfl]
      refine oi1 env' σ' F3 H3 _ _ (R'.step s3) h3 fun es J1 F4 H4 s4 wk1 h4 => ?_
      have c4 := c3.step np s4
      obtain ⟨G1, Y1, v1, v2, v3⟩ := wk1
      have R4 := (R'.step s3).step s4
      refine ⟨fun j m H' => m = es.length - j ∧ j ≤ es.length ∧ ∃ acc F', InLc K W F1 H1 D acc F' H' ∧ Same F4 F' ∧ goIn tg1 dt1 el (wipeE (hideE env') vs1) (es.drop j) acc (fun acc => goLc2 tg dt it1 tg1 dt1 el (wipeE env vs) vs1 (ds.drop (i + 1)) acc k) = true, ⟨_, rfl, Nat.zero_le _, acc, F4, c4, Same.refl F4, h4⟩, ?_⟩
      rintro j m H5 ⟨rfl, hj, acc5, F5, c5, e5, hg5⟩
      by_cases hjl : j < es.length
      · have B5 := Stp.bs B1 c5.st
        have gq1 := v2 F5 H5 e5 B5.fh
        refine .inr ⟨v1.goes j H5 hjl gq1, fun H' => ∃ acc F', InLc K W F1 H1 D acc F' H' ∧ Same F4 F' ∧ goIn tg1 dt1 el (wipeE (hideE env') vs1) (es.drop (j + 1)) acc (fun acc => goLc2 tg dt it1 tg1 dt1 el (wipeE env vs) vs1 (ds.drop (i + 1)) acc k) = true, fun H2 p' => ⟨_, by omega, rfl, hjl, p'⟩, fun x H6 y => ?_⟩
        have y := v1.yields j H5 x H6 hjl gq1 y
        have hd5 : es[j]? = some es[j] := List.getElem?_eq_getElem hjl
        have hdr5 : es.drop j = es[j] :: es.drop (j + 1) := List.drop_eq_getElem_cons hjl
        rw [hdr5] at hg5
        obtain ⟨F6, s6, r6⟩ := v3 j H5 x H6 F5 es[j] e5 B5 hd5 y
        have c6 := c5.step np s6
        have RH := (R4.hide (e5.trans s6.ff) (R1.st.trans c6.st)).wipe vs1
        unfold goIn at hg5
        refine og1 _ _ F6 H6 x _ _ _ RH r6 hg5 fun env7 σ7 R7 a7 l7 hk7 => ?_
        refine ⟨wipe_same (l7.trans (L2.wipe_length σ' vs1)) hsl1 a7, ?_⟩
        refine ot1 env7 σ7 F6 H6 _ _ R7 hk7 fun b F8 H8 s8 h8 => ?_
        have c8 := c6.step np s8
        cases b with
        | false =>
          rw [if_neg Bool.false_ne_true]
          exact ⟨acc5, F8, c8, (e5.trans s6.ff).trans s8.ff, h8⟩
        | true =>
          rw [if_pos rfl]
          refine oe env7 σ7 F8 H8 _ _ (R7.step s8) h8 fun d v F9 H9 s9 r9 h9 => ?_
          have c9 := c8.step np s9
          obtain ⟨vl, g5, g6⟩ := c9.at_
          cases em : small acc5.length with
          | false => rw [em] at h9; cases h9
          | true =>
            rw [em] at h9
            have hz : acc5.length ≤ 100000 := Nat.le_of_ble_eq_true em
            refine ⟨vl, g5, by rw [g6.length, List.length_reverse]; exact Nat.lt_of_le_of_lt hz (by decide), d :: acc5, F9, ⟨c9.st.write hD c9.un np, c9.un, vl ++ [v], upd_same, ?_⟩, ((e5.trans s6.ff).trans s8.ff).trans s9.ff, h9⟩
            rw [List.reverse_cons]
            exact g6.append (.cons r9 .nil)
      · have e : j = es.length := by omega
        subst e
        rw [List.drop_length] at hg5
        unfold goIn at hg5
        refine .inl ⟨v1.stops H5 (v2 F5 H5 e5 (Stp.bs B1 c5.st).fh), ?_⟩
        rw [hPv]
        exact ⟨acc5, F5, c5, hg5⟩
  · have e : i = ds.length := by omega
    subst e
    rw [List.drop_length] at hg
    unfold goLc2 at hg
    obtain ⟨vl, h5, h6⟩ := c.at_
    have st := c.st.freeze hD c.un h5
    exact .inl ⟨w1.stops H' gq, q _ _ (upd F' D (.lst vl)) H' (s1.trans st) (.lst upd_same (h6.mono (same_upd c.un))) hg⟩
def canI (K : PySem.W.Frag) (W : Wd) (di : DI) : TI := fun σ H R => ∃ (env : Sls) (F : Hp) (k : List PyData → Bool), Rel K W env σ F H ∧ di env k = true ∧ ∀ ds J F' H', Stp W.pp F H F' H' → IsWalk K W J ds F' → k ds = true → R J H'
section
variable {W : Wd} {X : Cx}
theorem SI.can {tg e : Expr} {di : DI} (h : SI W X tg e di) : PI X tg e (canI X.K W di) := by
  obtain ⟨t, p, o⟩ := h
  exact ⟨fun pins s σ H R I ⟨env, F, k, Re, hd, q⟩ => p.run pins s σ H R I (o env σ F H k R Re hd q)⟩
theorem okI_can {K : PySem.W.Frag} {di : DI} : OkI K W (canI K W di) di := fun env σ F H k R Re h q => ⟨env, F, k, Re, h, q⟩
theorem se_lc2 {elt tg iter tg1 iter1 : Expr} {ifs ifs1 : List Expr} {scope : Scope} {own : List (Str × Nat)} {pos : Pos} {di di1 : DI} {g g1 : DG} {dt dt1 : DT} {de : DE} {sl sl1 vs vs1 : List Nat} (hc : X.calm = true) (hN : X.N.Nodup) (hi : SI W X tg iter di) (ok : BlkOk X.N X.env.scope scope own)
    (hg : ∀ (s : Shared) (H : Hp) (C : Addr) (cl : List (Str × Addr)) (fp : List Addr), SG W (X.blk s H scope (compEnvC scope cl C X.env) fp) tg g sl) (ht : ∀ (s : Shared) (H : Hp) (C : Addr) (cl : List (Str × Addr)) (fp : List Addr), STs W (X.blk s H scope (compEnvC scope cl C X.env) fp) ifs dt)
    (hi1 : ∀ (s : Shared) (H : Hp) (C : Addr) (cl : List (Str × Addr)) (fp : List Addr), SI W (X.blk s H scope (compEnvC scope cl C X.env) fp) tg1 iter1 di1)
    (hg1 : ∀ (s : Shared) (H : Hp) (C : Addr) (cl : List (Str × Addr)) (fp : List Addr), SG W (X.blk s H scope (compEnvC scope cl C X.env) fp) tg1 g1 sl1) (ht1 : ∀ (s : Shared) (H : Hp) (C : Addr) (cl : List (Str × Addr)) (fp : List Addr), STs W (X.blk s H scope (compEnvC scope cl C X.env) fp) ifs1 dt1)
    (he : ∀ (s : Shared) (H : Hp) (C : Addr) (cl : List (Str × Addr)) (fp : List Addr), SE W (X.blk s H scope (compEnvC scope cl C X.env) fp) elt de) (hv : ∀ i ∈ vs1, i ∈ vs := by decide) (hsl : ∀ j ∈ sl, j ∈ vs := by decide) (hsl1 : ∀ j ∈ sl1, j ∈ vs1 := by decide) (hvs : own.map (·.2) = vs := by rfl)
    (hs : ∀ x, foldedSetIterable iter X.env x = pure x := by intro _; rfl) (hs1 : ∀ env x, foldedSetIterable iter1 env x = pure x := by intro _ _; rfl) :
    SE W X (.ListComp elt [⟨tg, iter, ifs, 0⟩, ⟨tg1, iter1, ifs1, 0⟩] scope pos) (dLc2 di g dt di1 g1 dt1 de vs vs1) := by
  obtain ⟨wi, p, oi⟩ := hi
  subst hvs
  exact ⟨_, pe_lc2 hc hN p ok hv (fun s H C cl fp => (hg s H C cl fp).can) (fun s H C cl fp => (ht s H C cl fp).can) (fun s H C cl fp => (hi1 s H C cl fp).can) (fun s H C cl fp => (hg1 s H C cl fp).can) (fun s H C cl fp => (ht1 s H C cl fp).can) (fun s H C cl fp => (he s H C cl fp).can) hs hs1,
    okE_lc2 oi okG_can okT_can okI_can okG_can okT_can okE_can hsl hsl1⟩
theorem se_setlc2 {i : Nat} {y : Str} {py : Pos} {elt tg iter tg1 iter1 : Expr} {ifs ifs1 : List Expr} {scope : Scope} {own : List (Str × Nat)} {pos spos : Pos} {di di1 : DI} {g g1 : DG} {dt dt1 : DT} {de : DE} {sl sl1 vs vs1 : List Nat} (hc : X.calm = true) (hN : X.N.Nodup) (hy : X.N[i]? = some y) (hyl : X.env.scope.names.lookup y = some .local)
    (hsw : swapsWith (.ListComp elt [⟨tg, iter, ifs, 0⟩, ⟨tg1, iter1, ifs1, 0⟩] scope pos) (some (.Name y py)) spos.line X.env = pure true) (hi : SI W X tg iter di) (ok : BlkOk X.N X.env.scope scope own)
    (hg : ∀ (s : Shared) (H : Hp) (C : Addr) (cl : List (Str × Addr)) (fp : List Addr), SG W (X.blk s H scope (compEnvC scope cl C X.env) fp) tg g sl) (ht : ∀ (s : Shared) (H : Hp) (C : Addr) (cl : List (Str × Addr)) (fp : List Addr), STs W (X.blk s H scope (compEnvC scope cl C X.env) fp) ifs dt)
    (hi1 : ∀ (s : Shared) (H : Hp) (C : Addr) (cl : List (Str × Addr)) (fp : List Addr), SI W (X.blk s H scope (compEnvC scope cl C X.env) fp) tg1 iter1 di1)
    (hg1 : ∀ (s : Shared) (H : Hp) (C : Addr) (cl : List (Str × Addr)) (fp : List Addr), SG W (X.blk s H scope (compEnvC scope cl C X.env) fp) tg1 g1 sl1) (ht1 : ∀ (s : Shared) (H : Hp) (C : Addr) (cl : List (Str × Addr)) (fp : List Addr), STs W (X.blk s H scope (compEnvC scope cl C X.env) fp) ifs1 dt1)
    (he : ∀ (s : Shared) (H : Hp) (C : Addr) (cl : List (Str × Addr)) (fp : List Addr), SE W (X.blk s H scope (compEnvC scope cl C X.env) fp) elt de) (hv : ∀ i ∈ vs1, i ∈ vs := by decide) (hsl : ∀ j ∈ sl, j ∈ vs := by decide) (hsl1 : ∀ j ∈ sl1, j ∈ vs1 := by decide) (hvs : own.map (·.2) = vs := by rfl)
    (hs : ∀ x, foldedSetIterable iter X.env x = pure x := by intro _; rfl) (hs1 : ∀ env x, foldedSetIterable iter1 env x = pure x := by intro _ _; rfl) :
    ∃ te, PS X (.Assign [.Name y py] (.ListComp elt [⟨tg, iter, ifs, 0⟩, ⟨tg1, iter1, ifs1, 0⟩] scope pos) spos) (tAsg te (gName i)) ∧ OkE X.K W te (dLc2 di g dt di1 g1 dt1 de vs vs1) := by
  obtain ⟨wi, p, oi⟩ := hi
  subst hvs
  exact ⟨_, ps_setLc2 hc hN hy hyl hsw p ok hv (fun s H C cl fp => (hg s H C cl fp).can) (fun s H C cl fp => (ht s H C cl fp).can) (fun s H C cl fp => (hi1 s H C cl fp).can) (fun s H C cl fp => (hg1 s H C cl fp).can) (fun s H C cl fp => (ht1 s H C cl fp).can) (fun s H C cl fp => (he s H C cl fp).can) hs hs1,
    okE_lc2 oi okG_can okT_can okI_can okG_can okT_can okE_can hsl hsl1⟩
end
/-! ### tuple(range(a, b)) -/
def rgOk (i j : Int) : Bool := big i && (big j && Nat.ble (j - i).toNat 100000)
def dTupRg (a b : DE) : DE := fun env k => a env fun x => b env fun y => match x, y with
  | .int i, .int j => (match rgOk i j with
    | true => k (.tuple (rangeD i (j - i).toNat))
    | false => false)
  | _, _ => false
theorem rp_rg {K : PySem.W.Frag} {F : Hp} : ∀ (n : Nat) (lo : Int) (f : Nat → Int), (∀ i, f i = lo + (i : Nat)) → RpAll K F ((List.range n).map fun i => V.int (f i)) (rangeD lo n)
  | 0, _, _, _ => .nil
  | n + 1, lo, f, h => by
    rw [List.range_succ_eq_map, List.map_cons, List.map_map]
    unfold rangeD
    have h0 : f 0 = lo := by rw [h 0]; simp
    refine .cons (by rw [h0]; exact .int lo) (rp_rg n (lo + 1) (f ∘ Nat.succ) fun i => ?_)
    show f (i + 1) = _
    rw [h (i + 1)]
    omega
section
variable {W : Wd} {X : Cx} {ea eb : Expr} {da db : DE} {pos : Pos}
theorem se_tupRg {p pr pos2 : Pos} (hc : X.calm = true) (hm : X.mg "tuple" = none) (hm2 : X.mg "range" = none) (a : SE W X ea da) (b : SE W X eb db) (hg : Gl X "tuple" := by rfl) (hg2 : Gl X "range" := by rfl)
    (na : starEach [.Call (.Name "range" pr) [ea, eb] [] pos2] X.env = (false, eval (.Call (.Name "range" pr) [ea, eb] [] pos2) X.env) :: starEach [] X.env := by rfl)
    (n1 : starEach [ea, eb] X.env = (false, eval ea X.env) :: starEach [eb] X.env := by rfl) (n2 : starEach [eb] X.env = (false, eval eb X.env) :: starEach [] X.env := by rfl) (hp : (backTo pos2 (starEach [eb] X.env)).any (·.1) = false := by rfl) :
    SE W X (.Call (.Name "tuple" p) [.Call (.Name "range" pr) [ea, eb] [] pos2] [] pos) (dTupRg da db) := by
  obtain ⟨t1, p1, o1⟩ := a
  obtain ⟨t2, p2, o2⟩ := b
  refine ⟨_, pe_tupRg hc hg hm (prg_2 hg2 hm2 p1 p2 n1 n2 hp) na, fun env σ F H k Q R h q => o1 env σ F H _ _ R h fun d v F1 H1 s1 r1 h1 => o2 env σ F1 H1 _ _ (R.step s1) h1 fun d2 v2 F2 H2 s2 r2 h2 => ?_⟩
  have B := ((R.step s1).step s2).bs
  cases d with
  | int i =>
    cases d2 with
    | int j =>
      cases r1
      cases r2
      cases e : rgOk i j with
      | false => simp only [e] at h2; cases h2
      | true =>
        simp only [e] at h2
        obtain ⟨e1, e2⟩ := Bool.and_eq_true_iff.mp e
        obtain ⟨e2, e3⟩ := Bool.and_eq_true_iff.mp e2
        obtain ⟨b1, b2⟩ := big_ok e1
        obtain ⟨b3, b4⟩ := big_ok e2
        have e3 := Nat.le_of_ble_eq_true e3
        refine ⟨i, j, rfl, rfl, ⟨b1, b2, b3, b4, by omega⟩, fun p np => ?_⟩
        have st := Stp.new (o := .tup (rgV i j)) B np
        exact q _ _ _ _ ((s1.trans s2).trans st) (.tup upd_same (rp_rg _ i (fun n => i + n) fun _ => rfl)) h2
    | _ => cases h2
  | _ => cases h2
end
/-! ### i in a tuple or list of numbers -/
def asInts : List PyData → Option (List Int)
  | [] => some []
  | .int i :: r => (match asInts r with
    | some l => some (i :: l)
    | none => none)
  | _ => none
theorem asInts_eq : ∀ {ds : List PyData} {l : List Int}, asInts ds = some l → ds = l.map PyData.int
  | [], l, h => by cases h; rfl
  | d :: ds, l, h => by
    cases d with
    | int i =>
      unfold asInts at h
      cases e : asInts ds with
      | none => rw [e] at h; cases h
      | some l' =>
        rw [e] at h
        cases h
        rw [asInts_eq e]
        rfl
    | _ => cases h
def gIn : G2 := fun a b k => match a with
  | .int i => (match b with
    | .list xs => (match asInts xs with
      | some l => k (.bool (l.any fun y => y == i))
      | none => false)
    | .tuple xs => (match asInts xs with
      | some l => k (.bool (l.any fun y => y == i))
      | none => false)
    | _ => false)
  | _ => false
theorem in_ints (i : Int) : ∀ l : List Int, inV (.int i) (l.map V.int) = l.any fun y => y == i
  | [] => rfl
  | y :: l => by
    show (y == i || inV (.int i) (l.map V.int)) = _
    rw [in_ints i l]
    rfl
theorem flat_ints : ∀ l : List Int, (l.map V.int).all flatV = true
  | [] => rfl
  | y :: l => flat_ints l
theorem ok_in {K : PySem.W.Frag} {W : Wd} : OkR K W (rIn K false) gIn := fun F H x y a b k Q B ra rb h q => by
  cases a with
  | int i =>
    cases ra
    cases b with
    | list xs =>
      unfold gIn at h
      cases e : asInts xs with
      | none => simp only [e] at h; cases h
      | some l =>
        simp only [e] at h
        cases rb with
        | @lst p vl _ ha r =>
          rw [asInts_eq e] at r
          have ev := RpAll.ints r
          subst ev
          refine ⟨p, _, rfl, .inl (.inl (.inl (B.keep ha))), rfl, flat_ints l, ?_⟩
          rw [if_neg Bool.false_ne_true, in_ints]
          exact q _ _ F H (Stp.refl B) (.bl _) h
    | tuple xs =>
      unfold gIn at h
      cases e : asInts xs with
      | none => simp only [e] at h; cases h
      | some l =>
        simp only [e] at h
        cases y with
        | ref p =>
          obtain ⟨vl, hs, r⟩ := sqT_of B.fh rb
          rw [asInts_eq e] at r
          have ev := RpAll.ints r
          subst ev
          refine ⟨p, _, rfl, .inr hs, rfl, flat_ints l, ?_⟩
          rw [if_neg Bool.false_ne_true, in_ints]
          exact q _ _ F H (Stp.refl B) (.bl _) h
        | _ => cases rb
    | _ => cases h
  | _ => cases h
/-! ### three names at once, the last a new list -/
def sPar3F (i j l : Nat) (a b : DE) (c : DF) : DS := fun B env => a env fun d => b env fun e => c env fun fs => B.nx (((env.set i (.fz d)).set j (.fz e)).set l (.ow fs))
section
variable {W : Wd} {X : Cx}
theorem ss_par3F {i j l : Nat} {x y z : Str} {ea eb ec : Expr} {da db : DE} {fc : DF} {px py pz pt pos : Pos} {kt k2 : Nat} {pt2 : Pos} (hc : X.calm = true) (hN : X.N.Nodup) (ha : SE W X ea da) (hb : SE W X eb db) (hcc : SF W X ec fc) (hi : X.N[i]? = some x := by rfl) (hj : X.N[j]? = some y := by rfl) (hl : X.N[l]? = some z := by rfl)
    (hij : i ≠ j := by decide) (hil : i ≠ l := by decide) (hjl : j ≠ l := by decide) (hx : X.env.scope.names.lookup x = some .local := by rfl) (hy : X.env.scope.names.lookup y = some .local := by rfl) (hz : X.env.scope.names.lookup z = some .local := by rfl)
    (he : starEach [ea, eb, ec] X.env = (false, eval ea X.env) :: starEach [eb, ec] X.env := by rfl) (he2 : starEach [eb, ec] X.env = (false, eval eb X.env) :: starEach [ec] X.env := by rfl) (he3 : starEach [ec] X.env = (false, eval ec X.env) :: starEach [] X.env := by rfl)
    (hw : swappedStores [.Tuple [.Name x px, .Name y py, .Name z pz] kt pt] (.Tuple [ea, eb, ec] k2 pt2) X.env = pure (some [x, y, z]) := by rfl)
    (hs : swapsWithSole [.Tuple [.Name x px, .Name y py, .Name z pz] kt pt] (.Tuple [ea, eb, ec] k2 pt2) pos.line X.env = pure false := by rfl) :
    SS W X (.Assign [.Tuple [.Name x px, .Name y py, .Name z pz] kt pt] (.Tuple [ea, eb, ec] k2 pt2) pos) (sPar3F i j l da db fc) := by
  obtain ⟨t1, p1, o1⟩ := ha
  obtain ⟨t2, p2, o2⟩ := hb
  obtain ⟨t3, p3, o3⟩ := hcc
  refine ⟨_, ps_par3 hc hN hi hj hl hij hil hjl hx hy hz (pa_cons p1 (pa_cons p2 (pa_cons p3 pa_nil he3) he2) he) hw hs, fun env σ F H B D R h q => ?_⟩
  refine o1 env σ F H _ _ R h fun d v F1 H1 s1 r1 h1 => o2 env σ F1 H1 _ _ (R.step s1) h1 fun e u F2 H2 s2 r2 h2 => o3 env σ F2 H2 _ _ ((R.step s1).step s2) h2 fun ds xs F3 H3 p s3 n f hp r3 h3 => ?_
  have R2 := ((R.step s1).step s2)
  exact ⟨_, _, _, rfl, q.nx _ _ F3 H3 ((s1.ff.trans s2.ff).trans s3.ff) (((R2.set (r1.mono s2.ff) i).set r2 j).setO' s3 n f hp r3 l) h3⟩
end
end Dl

namespace Dl
open PySem PySem.Spec PyProof.Rows L2
/-! ### fractions of whole numbers not below 0, worked out fast -/
abbrev pq (a b : Nat) : PyData := .tuple [.int (Int.ofNat a), .int (Int.ofNat b)]
/-- 2 ^ 900 -/
def bigN : Nat := 8452712498170643941637436558664265704301557216577944354047371344426782440907597751590676094202515006314790319892114058862117560952042968596008623655407033230534186943984081346699704282822823056848387726531379014466368452684024987821414350380272583623832617294363807973376
def frS (n : Nat) (k : Nat → Bool) : Bool := Nat.rec (motive := fun _ => Bool) (k 0) (fun m _ => k (Nat.succ m)) n
theorem frS_eq (n : Nat) (k : Nat → Bool) : frS n k = k n := by cases n <;> rfl
def okN (t m : Nat) : Bool := Nat.ble (Nat.add (Nat.add t m) (Nat.mul (Nat.succ bigN) (Nat.sub 1 m))) bigN
theorem okN_ok {t m : Nat} (h : okN t m = true) : t ≤ bigN ∧ m ≤ bigN ∧ 1 ≤ m := by
  have h1 : (t + m) + (bigN + 1) * (1 - m) ≤ bigN := Nat.le_of_ble_eq_true h
  cases m with
  | zero =>
    rw [Nat.sub_zero, Nat.mul_one] at h1
    omega
  | succ m => exact ⟨by omega, by omega, by omega⟩
def nRed (t m : Nat) (k : Nat → Nat → Bool) : Bool := match okN t m with
  | true => frS (Nat.gcd t m) fun g => frS (Nat.div t g) fun x => frS (Nat.div m g) fun y => k x y
  | false => false
def nAdd (a b c d : Nat) (k : Nat → Nat → Bool) : Bool := nRed (Nat.add (Nat.mul a d) (Nat.mul c b)) (Nat.mul b d) k
def nTake (a b c d : Nat) (k : Nat → Nat → Bool) : Bool := match Nat.ble (Nat.mul c b) (Nat.mul a d) with
  | true => nRed (Nat.sub (Nat.mul a d) (Nat.mul c b)) (Nat.mul b d) k
  | false => false
def nMul (a b c d : Nat) (k : Nat → Nat → Bool) : Bool := nRed (Nat.mul a c) (Nat.mul b d) k
def nDiv (a b c d : Nat) (k : Nat → Nat → Bool) : Bool := nRed (Nat.mul a d) (Nat.mul b c) k
theorem big_log {a : Nat} (h : a ≤ bigN) : Nat.log2 a ≤ 900 := by
  by_cases h0 : a = 0
  · subst h0; decide
  · exact Nat.le_of_lt_succ ((Nat.log2_lt h0).mpr (Nat.lt_of_le_of_lt h (by decide +kernel)))
theorem big_mul {a b : Nat} (ha : a ≤ bigN) (hb : b ≤ bigN) : mulOk (Int.ofNat a) (Int.ofNat b) = true := by
  have h1 := big_log ha
  have h2 := big_log hb
  exact Nat.ble_eq_true_of_le (show Nat.log2 a + Nat.log2 b ≤ 999999 by omega)
theorem mI_nat {a b : Nat} (ha : a ≤ bigN) (hb : b ≤ bigN) (k : Int → Bool) : mI (Int.ofNat a) (Int.ofNat b) k = k (Int.ofNat (a * b)) := by
  unfold mI
  rw [big_mul ha hb]
  exact fI_eq _ _
section
variable {a b c d t m : Nat} {k : Nat → Nat → Bool} {K : KF}
theorem le_nRed (h : nRed t m k = true) (q : ∀ x y, x ≤ bigN → y ≤ bigN → k x y = true → K (pq x y) = true) : qReduced [.int (Int.ofNat t), .int (Int.ofNat m)] K = true := by
  unfold nRed at h
  cases e : okN t m with
  | false => rw [e] at h; cases h
  | true =>
    rw [e] at h
    obtain ⟨h1, h2, h3⟩ := okN_ok e
    simp only [frS_eq] at h
    obtain ⟨n, rfl⟩ : ∃ n, m = n + 1 := ⟨m - 1, by omega⟩
    show mkP (Int.ofNat t) (n + 1) K = true
    unfold mkP
    have hl : logOk (n + 1) = true := Nat.ble_eq_true_of_le (Nat.le_trans (big_log h2) (by decide))
    rw [hl]
    simp only [frN_eq, fI_eq]
    exact q _ _ (Nat.le_trans (Nat.div_le_self _ _) h1) (Nat.le_trans (Nat.div_le_self _ _) h2) h
theorem le_nAdd (ha : a ≤ bigN) (hb : b ≤ bigN) (hc : c ≤ bigN) (hd : d ≤ bigN) (h : nAdd a b c d k = true) (q : ∀ x y, x ≤ bigN → y ≤ bigN → k x y = true → K (pq x y) = true) : qAddR qReduced [pq a b, pq c d] K = true := by
  show (mI (Int.ofNat a) (Int.ofNat d) fun x => mI (Int.ofNat c) (Int.ofNat b) fun y => mI (Int.ofNat b) (Int.ofNat d) fun z => fI (x + y) fun t => qReduced [.int t, .int z] K) = true
  rw [mI_nat ha hd, mI_nat hc hb, mI_nat hb hd, fI_eq]
  exact le_nRed h q
theorem le_nMul (ha : a ≤ bigN) (hb : b ≤ bigN) (hc : c ≤ bigN) (hd : d ≤ bigN) (h : nMul a b c d k = true) (q : ∀ x y, x ≤ bigN → y ≤ bigN → k x y = true → K (pq x y) = true) : qMulR qReduced [pq a b, pq c d] K = true := by
  show (mI (Int.ofNat a) (Int.ofNat c) fun x => mI (Int.ofNat b) (Int.ofNat d) fun z => qReduced [.int x, .int z] K) = true
  rw [mI_nat ha hc, mI_nat hb hd]
  exact le_nRed h q
theorem le_nDiv (ha : a ≤ bigN) (hb : b ≤ bigN) (hc : c ≤ bigN) (hd : d ≤ bigN) (h : nDiv a b c d k = true) (q : ∀ x y, x ≤ bigN → y ≤ bigN → k x y = true → K (pq x y) = true) : qDivR qReduced [pq a b, pq c d] K = true := by
  show (mI (Int.ofNat a) (Int.ofNat d) fun x => mI (Int.ofNat b) (Int.ofNat c) fun z => qReduced [.int x, .int z] K) = true
  rw [mI_nat ha hd, mI_nat hb hc]
  exact le_nRed h q
theorem le_nTake (ha : a ≤ bigN) (hb : b ≤ bigN) (hc : c ≤ bigN) (hd : d ≤ bigN) (h : nTake a b c d k = true) (q : ∀ x y, x ≤ bigN → y ≤ bigN → k x y = true → K (pq x y) = true) : qTakeR qReduced [pq a b, pq c d] K = true := by
  unfold nTake at h
  cases e : Nat.ble (Nat.mul c b) (Nat.mul a d) with
  | false => rw [e] at h; cases h
  | true =>
    rw [e] at h
    have hle : c * b ≤ a * d := Nat.le_of_ble_eq_true e
    show (mI (Int.ofNat a) (Int.ofNat d) fun x => mI (Int.ofNat c) (Int.ofNat b) fun y => mI (Int.ofNat b) (Int.ofNat d) fun z => fI (x - y) fun t => qReduced [.int t, .int z] K) = true
    rw [mI_nat ha hd, mI_nat hc hb, mI_nat hb hd, fI_eq]
    have e2 : Int.ofNat (a * d) - Int.ofNat (c * b) = Int.ofNat (a * d - c * b) := (Int.ofNat_sub hle).symm
    rw [e2]
    exact le_nRed h q
end
/-! ### by a sign and a loop of its own, the bottom kept -/
def fracT : DT := dB (dOp gGt (dVar 3) (dC (.int 0)))
def fracRest (N : Nat) : DS := (sSeq (sPar 2 3 (aCons (dCB gAbs (aCons (dVar 0) aNil)) (aCons (dVar 1) aNil)))
  (sSeq (sWh N fracT plainB)
  (sRet (dTup (aCons (dOp gFdiv (dVar 0) (dVar 2)) (aCons (dOp gFdiv (dVar 1) (dVar 2)) aNil))))))
def bFrac (N : Nat) : DS := (sSeq (sIf (dB (dOp gLt (dVar 1) (dC (.int 0)))) (sPar 0 1 (aCons (dOp gSub (dC (.int 0)) (dVar 0)) (aCons (dOp gSub (dC (.int 0)) (dVar 1)) aNil))) sNil) (fracRest N))
theorem frac_loop (t b : PyData) (B : DEnds) (fuel a c : Nat) (hf : 18001 ≤ fuel) (hl : logOk c = true) :
    goWh fracT plainB B fuel [.fz t, .fz b, .fz (.int (Int.ofNat a)), .fz (.int (Int.ofNat c))] = B.nx [.fz t, .fz b, .fz (.int (Int.ofNat (Nat.gcd a c))), .fz (.int (Int.ofNat 0))] := by
  refine gcd_any (T := fracT) (G := plainB) (B := B) (E := fun a c => [.fz t, .fz b, .fz (.int (Int.ofNat a)), .fz (.int (Int.ofNat c))]) (fun n a => rfl) (fun n a c h => ?_) 9000 fuel a c (lt_of_log hl) hf hl
  have e : decide ((0 : Int) < Int.ofNat (c + 1)) = true := decide_eq_true (Int.ofNat_lt.mpr (Nat.succ_pos c))
  show (match decide ((0 : Int) < Int.ofNat (c + 1)) with
    | true => gMod (.int (Int.ofNat a)) (.int (Int.ofNat (c + 1))) (fun z => goWh fracT plainB B n [.fz t, .fz b, .fz (.int (Int.ofNat (c + 1))), .fz z])
    | false => B.nx _) = _
  rw [e]
  show gMod (.int (Int.ofNat a)) (.int (Int.ofNat (c + 1))) (fun z => goWh fracT plainB B n [.fz t, .fz b, .fz (.int (Int.ofNat (c + 1))), .fz z]) = _
  rw [gMod_of (Nat.succ_pos c) h]
  rfl
theorem frac_tail {N : Nat} (hN : 18001 ≤ N) {t : Int} {m : Nat} {k : KF} {B : DEnds} (hB : B.rt = k) (hm : 0 < m) (h : mkP t m k = true) : fracRest N B [.fz (.int t), .fz (.int (Int.ofNat m)), .no, .no] = true := by
  obtain ⟨h1, h2⟩ := mkP_eq h
  have hg : 0 < Nat.gcd t.natAbs m := Nat.gcd_pos_of_pos_right _ hm
  have hl : logOk (Nat.gcd t.natAbs m) = true := log_mono (Nat.le_of_dvd hm (Nat.gcd_dvd_right _ _)) h1
  show goWh fracT plainB _ N [.fz (.int t), .fz (.int (Int.ofNat m)), .fz (.int (if t < 0 then -t else t)), .fz (.int (Int.ofNat m))] = true
  rw [abs_eq, frac_loop _ _ _ _ _ _ hN h1]
  show gFdiv (.int t) (.int (Int.ofNat (Nat.gcd t.natAbs m))) (fun x => gFdiv (.int (Int.ofNat m)) (.int (Int.ofNat (Nat.gcd t.natAbs m))) fun y => B.rt (.tuple [x, y])) = true
  rw [gFdiv_of hg hl, gFdiv_of hg hl, hB]
  exact h2
def fracB (k : KF) : DEnds := { nx := fun _ => k .none, rt := k, bk := fun _ => false, ct := fun _ => false }
theorem le_frac (N : Nat) (hN : 18001 ≤ N) (ds : List PyData) (k : KF) (h : qReduced ds k = true) : mOf 4 (bFrac N) ds k = true := by
  unfold qReduced at h
  split at h
  · rename_i t b
    obtain ⟨s, n, h1, h2⟩ := mkFr_eq h
    rcases h2 with ⟨rfl, rfl⟩ | ⟨rfl, rfl⟩
    · have e : decide (Int.ofNat (n + 1) < (0 : Int)) = false := decide_eq_false (by rw [Int.ofNat_eq_natCast]; omega)
      show (match decide (Int.ofNat (n + 1) < (0 : Int)) with
        | true => fI (0 - s) fun z => fI (0 - Int.ofNat (n + 1)) fun y => fracRest N (fracB k) [.fz (.int z), .fz (.int y), .no, .no]
        | false => fracRest N (fracB k) [.fz (.int s), .fz (.int (Int.ofNat (n + 1))), .no, .no]) = true
      rw [e]
      exact frac_tail hN rfl (Nat.succ_pos n) h1
    · have e : decide (Int.negSucc n < (0 : Int)) = true := decide_eq_true (Int.negSucc_lt_zero n)
      show (match decide (Int.negSucc n < (0 : Int)) with
        | true => fI (0 - t) fun z => fI (0 - Int.negSucc n) fun y => fracRest N (fracB k) [.fz (.int z), .fz (.int y), .no, .no]
        | false => fracRest N (fracB k) [.fz (.int t), .fz (.int (Int.negSucc n)), .no, .no]) = true
      rw [e]
      show fI (0 - t) (fun z => fI (0 - Int.negSucc n) fun y => fracRest N (fracB k) [.fz (.int z), .fz (.int y), .no, .no]) = true
      rw [fI_eq, fI_eq]
      have e2 : (0 : Int) - Int.negSucc n = Int.ofNat (n + 1) := by
        rw [Int.ofNat_eq_natCast]; omega
      rw [e2]
      exact frac_tail hN rfl (Nat.succ_pos n) h1
  · cases h
/-! ### the four operations, fast where nothing is below 0 -/
def RedOk (red : Fn) : Prop := ∀ (t m : Nat) (k : Nat → Nat → Bool) (K : KF), nRed t m k = true → (∀ x y, x ≤ bigN → y ≤ bigN → k x y = true → K (pq x y) = true) → red [.int (Int.ofNat t), .int (Int.ofNat m)] K = true
theorem redOk_reduced : RedOk qReduced := fun _ _ _ _ h q => le_nRed h q
theorem redOk_plain : RedOk qPlain := fun t m k K h q => by
  have h1 : t ≤ bigN := by
    unfold nRed at h
    cases e : okN t m with
    | false => rw [e] at h; cases h
    | true => exact (okN_ok e).1
  show (match Nat.ble (Nat.log2 t) 900000 with
    | true => qReduced [.int (Int.ofNat t), .int (Int.ofNat m)] K
    | false => false) = true
  rw [show Nat.ble (Nat.log2 t) 900000 = true from Nat.ble_eq_true_of_le (Nat.le_trans (big_log h1) (by decide))]
  exact le_nRed h q
def qFr2F (ok : Nat → Nat → Nat → Nat → Bool) (f : Nat → Nat → Nat → Nat → (Nat → Nat → Bool) → Bool) (slow : Fn) : Fn := fun ds k => match ds with
  | [.tuple [.int (.ofNat a), .int (.ofNat b)], .tuple [.int (.ofNat c), .int (.ofNat d)]] => (match ok a b c d with
    | true => f a b c d fun x y => k (pq x y)
    | false => slow ds k)
  | _ => slow ds k
def ok4 (a b c d : Nat) : Bool := Nat.ble (Nat.add (Nat.add a b) (Nat.add c d)) bigN
def ok4T (a b c d : Nat) : Bool := match ok4 a b c d with
  | true => Nat.ble (Nat.mul c b) (Nat.mul a d)
  | false => false
theorem ok4_ok {a b c d : Nat} (h : ok4 a b c d = true) : a ≤ bigN ∧ b ≤ bigN ∧ c ≤ bigN ∧ d ≤ bigN := by
  have h1 : (a + b) + (c + d) ≤ bigN := Nat.le_of_ble_eq_true h
  omega
def qAddF (red : Fn) : Fn := qFr2F ok4 nAdd (qAddR red)
def qMulF (red : Fn) : Fn := qFr2F ok4 nMul (qMulR red)
def qDivF (red : Fn) : Fn := qFr2F ok4 nDiv (qDivR red)
def qTakeF (red : Fn) : Fn := qFr2F ok4T nTake (qTakeR red)
theorem le_F {ok : Nat → Nat → Nat → Nat → Bool} {f : Nat → Nat → Nat → Nat → (Nat → Nat → Bool) → Bool} {slow : Fn} (e : ∀ a b c d k, ok a b c d = true → f a b c d (fun x y => k (pq x y)) = true → slow [pq a b, pq c d] k = true) (ds : List PyData) (k : KF) (h : qFr2F ok f slow ds k = true) : slow ds k = true := by
  unfold qFr2F at h
  split at h
  · rename_i a b c d
    cases q : ok a b c d with
    | true => rw [q] at h; exact e a b c d k q h
    | false => rw [q] at h; exact h
  · exact h
section
variable {red : Fn} (R : RedOk red)
include R
theorem le_addF (ds : List PyData) (k : KF) (h : qAddF red ds k = true) : mOf 2 (bAdd red) ds k = true := by
  refine le_add red ds k (le_F (fun a b c d k o h => ?_) ds k h)
  obtain ⟨ha, hb, hc, hd⟩ := ok4_ok o
  show (mI (Int.ofNat a) (Int.ofNat d) fun x => mI (Int.ofNat c) (Int.ofNat b) fun y => mI (Int.ofNat b) (Int.ofNat d) fun z => fI (x + y) fun t => red [.int t, .int z] k) = true
  rw [mI_nat ha hd, mI_nat hc hb, mI_nat hb hd, fI_eq]
  exact R _ _ _ _ h fun _ _ _ _ h => h
theorem le_mulF (ds : List PyData) (k : KF) (h : qMulF red ds k = true) : mOf 2 (bMul red) ds k = true := by
  refine le_mul red ds k (le_F (fun a b c d k o h => ?_) ds k h)
  obtain ⟨ha, hb, hc, hd⟩ := ok4_ok o
  show (mI (Int.ofNat a) (Int.ofNat c) fun x => mI (Int.ofNat b) (Int.ofNat d) fun z => red [.int x, .int z] k) = true
  rw [mI_nat ha hc, mI_nat hb hd]
  exact R _ _ _ _ h fun _ _ _ _ h => h
theorem le_divF (ds : List PyData) (k : KF) (h : qDivF red ds k = true) : mOf 2 (bDiv red) ds k = true := by
  refine le_div red ds k (le_F (fun a b c d k o h => ?_) ds k h)
  obtain ⟨ha, hb, hc, hd⟩ := ok4_ok o
  show (mI (Int.ofNat a) (Int.ofNat d) fun x => mI (Int.ofNat b) (Int.ofNat c) fun z => red [.int x, .int z] k) = true
  rw [mI_nat ha hd, mI_nat hb hc]
  exact R _ _ _ _ h fun _ _ _ _ h => h
theorem le_takeF (ds : List PyData) (k : KF) (h : qTakeF red ds k = true) : mOf 2 (bTake red) ds k = true := by
  refine le_take red ds k (le_F (fun a b c d k o h => ?_) ds k h)
  unfold ok4T at o
  cases o4 : ok4 a b c d with
  | false => rw [o4] at o; cases o
  | true =>
    obtain ⟨ha, hb, hc, hd⟩ := ok4_ok o4
    rw [o4] at o
    have hle : c * b ≤ a * d := Nat.le_of_ble_eq_true o
    unfold nTake at h
    rw [show Nat.ble (Nat.mul c b) (Nat.mul a d) = true from o] at h
    show (mI (Int.ofNat a) (Int.ofNat d) fun x => mI (Int.ofNat c) (Int.ofNat b) fun y => mI (Int.ofNat b) (Int.ofNat d) fun z => fI (x - y) fun t => red [.int t, .int z] k) = true
    rw [mI_nat ha hd, mI_nat hc hb, mI_nat hb hd, fI_eq, show Int.ofNat (a * d) - Int.ofNat (c * b) = Int.ofNat (a * d - c * b) from (Int.ofNat_sub hle).symm]
    exact R _ _ _ _ h fun _ _ _ _ h => h
end
end Dl

namespace Dl
open PySem PySem.Spec PyProof.Rows L2
/-! ### along a walk -/
theorem nRed_mono {t m : Nat} {k k' : Nat → Nat → Bool} (h : nRed t m k = true) (q : ∀ x y, x ≤ bigN → y ≤ bigN → k x y = true → k' x y = true) : nRed t m k' = true := by
  unfold nRed at h ⊢
  cases e : okN t m with
  | false => rw [e] at h; cases h
  | true =>
    rw [e] at h
    obtain ⟨h1, h2, _⟩ := okN_ok e
    simp only [frS_eq] at h ⊢
    exact q _ _ (Nat.le_trans (Nat.div_le_self _ _) h1) (Nat.le_trans (Nat.div_le_self _ _) h2) h
section
variable {red : Fn} (R : RedOk red) {a b c d : Nat} {k : Nat → Nat → Bool} {K : KF}
include R
theorem st_add (ha : a ≤ bigN) (hb : b ≤ bigN) (hc : c ≤ bigN) (hd : d ≤ bigN) (h : nAdd a b c d k = true) (q : ∀ x y, x ≤ bigN → y ≤ bigN → k x y = true → K (pq x y) = true) : qAddF red [pq a b, pq c d] K = true := by
  show (match ok4 a b c d with
    | true => nAdd a b c d fun x y => K (pq x y)
    | false => mI (Int.ofNat a) (Int.ofNat d) fun x => mI (Int.ofNat c) (Int.ofNat b) fun y => mI (Int.ofNat b) (Int.ofNat d) fun z => fI (x + y) fun t => red [.int t, .int z] K) = true
  cases ok4 a b c d with
  | true => exact nRed_mono h q
  | false =>
    show (mI (Int.ofNat a) (Int.ofNat d) fun x => mI (Int.ofNat c) (Int.ofNat b) fun y => mI (Int.ofNat b) (Int.ofNat d) fun z => fI (x + y) fun t => red [.int t, .int z] K) = true
    rw [mI_nat ha hd, mI_nat hc hb, mI_nat hb hd, fI_eq]
    exact R _ _ _ _ h q
theorem st_mul (ha : a ≤ bigN) (hb : b ≤ bigN) (hc : c ≤ bigN) (hd : d ≤ bigN) (h : nMul a b c d k = true) (q : ∀ x y, x ≤ bigN → y ≤ bigN → k x y = true → K (pq x y) = true) : qMulF red [pq a b, pq c d] K = true := by
  show (match ok4 a b c d with
    | true => nMul a b c d fun x y => K (pq x y)
    | false => mI (Int.ofNat a) (Int.ofNat c) fun x => mI (Int.ofNat b) (Int.ofNat d) fun z => red [.int x, .int z] K) = true
  cases ok4 a b c d with
  | true => exact nRed_mono h q
  | false =>
    show (mI (Int.ofNat a) (Int.ofNat c) fun x => mI (Int.ofNat b) (Int.ofNat d) fun z => red [.int x, .int z] K) = true
    rw [mI_nat ha hc, mI_nat hb hd]
    exact R _ _ _ _ h q
theorem st_div (ha : a ≤ bigN) (hb : b ≤ bigN) (hc : c ≤ bigN) (hd : d ≤ bigN) (h : nDiv a b c d k = true) (q : ∀ x y, x ≤ bigN → y ≤ bigN → k x y = true → K (pq x y) = true) : qDivF red [pq a b, pq c d] K = true := by
  show (match ok4 a b c d with
    | true => nDiv a b c d fun x y => K (pq x y)
    | false => mI (Int.ofNat a) (Int.ofNat d) fun x => mI (Int.ofNat b) (Int.ofNat c) fun z => red [.int x, .int z] K) = true
  cases ok4 a b c d with
  | true => exact nRed_mono h q
  | false =>
    show (mI (Int.ofNat a) (Int.ofNat d) fun x => mI (Int.ofNat b) (Int.ofNat c) fun z => red [.int x, .int z] K) = true
    rw [mI_nat ha hd, mI_nat hb hc]
    exact R _ _ _ _ h q
theorem st_take (ha : a ≤ bigN) (hb : b ≤ bigN) (hc : c ≤ bigN) (hd : d ≤ bigN) (h : nTake a b c d k = true) (q : ∀ x y, x ≤ bigN → y ≤ bigN → k x y = true → K (pq x y) = true) : qTakeF red [pq a b, pq c d] K = true := by
  unfold nTake at h
  cases e : Nat.ble (Nat.mul c b) (Nat.mul a d) with
  | false => rw [e] at h; cases h
  | true =>
    rw [e] at h
    have hle : c * b ≤ a * d := Nat.le_of_ble_eq_true e
    show (match ok4T a b c d with
      | true => nTake a b c d fun x y => K (pq x y)
      | false => mI (Int.ofNat a) (Int.ofNat d) fun x => mI (Int.ofNat c) (Int.ofNat b) fun y => mI (Int.ofNat b) (Int.ofNat d) fun z => fI (x - y) fun t => red [.int t, .int z] K) = true
    cases ok4T a b c d with
    | true =>
      show nTake a b c d (fun x y => K (pq x y)) = true
      unfold nTake
      rw [e]
      exact nRed_mono h q
    | false =>
      show (mI (Int.ofNat a) (Int.ofNat d) fun x => mI (Int.ofNat c) (Int.ofNat b) fun y => mI (Int.ofNat b) (Int.ofNat d) fun z => fI (x - y) fun t => red [.int t, .int z] K) = true
      rw [mI_nat ha hd, mI_nat hc hb, mI_nat hb hd, fI_eq, show Int.ofNat (a * d) - Int.ofNat (c * b) = Int.ofNat (a * d - c * b) from (Int.ofNat_sub hle).symm]
      exact R _ _ _ _ h q
end
def frOf (d : PyData) (k : Nat → Nat → Bool) : Bool := match d with
  | .tuple [.int (.ofNat a), .int (.ofNat b)] => (match Nat.ble (Nat.add a b) bigN with
    | true => k a b
    | false => false)
  | _ => false
theorem frOf_eq {d : PyData} {k : Nat → Nat → Bool} (h : frOf d k = true) : ∃ a b, d = pq a b ∧ a ≤ bigN ∧ b ≤ bigN ∧ k a b = true := by
  unfold frOf at h
  split at h
  · rename_i a b
    cases e : Nat.ble (Nat.add a b) bigN with
    | false => rw [e] at h; cases h
    | true =>
      rw [e] at h
      have h1 : a + b ≤ bigN := Nat.le_of_ble_eq_true e
      exact ⟨a, b, rfl, by omega, by omega, h⟩
  · cases h
structure QR where
  f : Nat
  g : Nat
  p : Nat
  r : Nat
def QR.enc (q : QR) : PyData := .tuple [pq q.f q.g, pq q.p q.r]
def QR.Ok (q : QR) : Prop := q.f ≤ bigN ∧ q.g ≤ bigN ∧ q.p ≤ bigN ∧ q.r ≤ bigN
def qsFwd : List PyData → List PyData → Nat → Nat → Nat → Nat → List QR → (List QR → Bool) → Bool
  | [], _, _, _, _, _, rows, k => k rows
  | w :: ws, ss, f, g, p, r, rows, k => match ss with
    | [] => k rows
    | s :: ss => (match w with
      | .tuple [x, y] => frOf x fun a b => frOf y fun c d => frOf s fun e h => nAdd a b c d fun x y => nMul a b f g fun u v => nTake x y u v fun bt bm => nDiv c d bt bm fun f' g' => nMul a b p r fun u v => nAdd e h u v fun u v => nDiv u v bt bm fun p' r' => (match small rows.length with
        | true => qsFwd ws ss f' g' p' r' (⟨f', g', p', r'⟩ :: rows) k
        | false => false)
      | _ => false)
def qsBack : List QR → Nat → Nat → List PyData → (List PyData → Bool) → Bool
  | [], _, _, acc, k => k acc
  | q :: rows, z, w, acc, k => nMul q.f q.g z w fun u v => nAdd u v q.p q.r fun z' w' => (match small acc.length with
    | true => qsBack rows z' w' (pq z' w' :: acc) k
    | false => false)
def qSolved : Fn := fun ds k => match ds with
  | [.list walk, first, last, .list sums] => frOf first fun p r => frOf last fun z w => qsFwd walk sums 0 1 p r [] fun rows => qsBack rows z w [pq z w] fun acc => (match small (1 + acc.length) with
    | true => k (.list (pq p r :: acc))
    | false => false)
  | _ => false
section
variable (ad mu tk dv : Fn)
def slG : DG := gT 2 (gsCons (gT 2 (gsCons (gN 7) (gsCons (gN 8) gsNil))) (gsCons (gN 9) gsNil))
def slB : DS := (sSeq (sAsg (dCallN 2 tk (aCons (dCallN 2 ad (aCons (dVar 7) (aCons (dVar 8) aNil))) (aCons (dCallN 2 mu (aCons (dVar 7) (aCons (dVar 4) aNil))) aNil))) (gN 10))
  (sSeq (sPar 4 5 (aCons (dCallN 2 dv (aCons (dVar 8) (aCons (dVar 10) aNil))) (aCons (dCallN 2 dv (aCons (dCallN 2 ad (aCons (dVar 9) (aCons (dCallN 2 mu (aCons (dVar 7) (aCons (dVar 5) aNil))) aNil))) (aCons (dVar 10) aNil))) aNil)))
  (sApp 6 (dTup (aCons (dVar 4) (aCons (dVar 5) aNil))))))
def slG2 : DG := gT 2 (gsCons (gN 12) (gsCons (gN 13) gsNil))
def slB2 : DS := sApp 11 (dBor [11] (dCallN 2 ad (aCons (dCallN 2 mu (aCons (dVar 12) (aCons (dOp gIx (dVar 11) (dUn gNeg (dC (.int 1)))) aNil))) (aCons (dVar 13) aNil))))
def slEnd : DS := sFrz 11 (sRet (dOp gAdd (dLst (aCons (dVar 1) aNil)) (dUn gRev (dVar 11))))
def slTail : DS := (sSeq (sOwn 11 (fLst (aCons (dVar 2) aNil)))
  (sFrz 6 (sSeq (sFor (iSeq (dUn gRev (dVar 6))) slG2 (slB2 ad mu)) slEnd)))
def bSolved (nt : PyData) : DS := (sSeq (sPar3F 4 5 6 (dC nt) (dVar 1) (fLst aNil))
  (sSeq (sFor (iZipD (dVar 0) (dVar 3)) slG (slB ad mu tk dv)) (slTail ad mu)))
end
abbrev sEnv (x0 x1 x2 x3 : PyData) (f g p r : Nat) (s6 a7 a8 a9 a10 a11 a12 a13 : Sl) : Sls := [.fz x0, .fz x1, .fz x2, .fz x3, .fz (pq f g), .fz (pq p r), s6, a7, a8, a9, a10, a11, a12, a13]
theorem fwd_le {red : Fn} (R : RedOk red) {x0 x1 x2 x3 : PyData} {a11 a12 a13 : Sl} {B : DEnds} {k : List QR → Bool} (hB : ∀ (rows : List QR) (f g p r : Nat) (a7 a8 a9 a10 : Sl), (∀ q ∈ rows, q.Ok) → k rows = true → B.nx (sEnv x0 x1 x2 x3 f g p r (.ow (rows.reverse.map QR.enc)) a7 a8 a9 a10 a11 a12 a13) = true) :
    ∀ (ws ss : List PyData) (f g p r : Nat) (rows : List QR) (a7 a8 a9 a10 : Sl), f ≤ bigN → g ≤ bigN → p ≤ bigN → r ≤ bigN → (∀ q ∈ rows, q.Ok) → qsFwd ws ss f g p r rows k = true →
      goFor slG (slB (qAddF red) (qMulF red) (qTakeF red) (qDivF red)) B (zipD ws ss) (sEnv x0 x1 x2 x3 f g p r (.ow (rows.reverse.map QR.enc)) a7 a8 a9 a10 a11 a12 a13) = true
  | [], ss, f, g, p, r, rows, a7, a8, a9, a10, _, _, _, _, hr, h => hB rows f g p r a7 a8 a9 a10 hr h
  | w :: ws, [], f, g, p, r, rows, a7, a8, a9, a10, _, _, _, _, hr, h => hB rows f g p r a7 a8 a9 a10 hr h
  | w :: ws, s :: ss, f, g, p, r, rows, a7, a8, a9, a10, hf, hg, hp, hr0, hr, h => by
    unfold qsFwd at h
    dsimp only at h
    split at h
    case h_2 => cases h
    rename_i x y
    obtain ⟨a, b, rfl, ha, hb, h⟩ := frOf_eq h
    obtain ⟨c, d, rfl, hc, hd, h⟩ := frOf_eq h
    obtain ⟨e, l, rfl, he, hl, h⟩ := frOf_eq h
    show qAddF red [pq a b, pq c d] (fun X => qMulF red [pq a b, pq f g] fun Y => qTakeF red [X, Y] fun T => qDivF red [pq c d, T] fun F => qMulF red [pq a b, pq p r] fun Z => qAddF red [pq e l, Z] fun Z => qDivF red [Z, T] fun P =>
      (match small (rows.reverse.map QR.enc).length with
        | true => goFor slG (slB (qAddF red) (qMulF red) (qTakeF red) (qDivF red)) B (zipD ws ss) [.fz x0, .fz x1, .fz x2, .fz x3, .fz F, .fz P, .ow (rows.reverse.map QR.enc ++ [.tuple [F, P]]), .fz (pq a b), .fz (pq c d), .fz (pq e l), .fz T, a11, a12, a13]
        | false => false)) = true
    refine st_add R ha hb hc hd h fun x y hx hy h => ?_
    refine st_mul R ha hb hf hg h fun u v hu hv h => ?_
    refine st_take R hx hy hu hv h fun bt bm hbt hbm h => ?_
    refine st_div R hc hd hbt hbm h fun f' g' hf' hg' h => ?_
    refine st_mul R ha hb hp hr0 h fun u v hu hv h => ?_
    refine st_add R he hl hu hv h fun u v hu hv h => ?_
    refine st_div R hu hv hbt hbm h fun p' r' hp' hr' h => ?_
    rw [List.length_map, List.length_reverse]
    cases es : small rows.length with
    | false => rw [es] at h; cases h
    | true =>
      rw [es] at h
      have e1 : rows.reverse.map QR.enc ++ [.tuple [pq f' g', pq p' r']] = ((⟨f', g', p', r'⟩ :: rows : List QR).reverse).map QR.enc := by
        rw [List.reverse_cons, List.map_append]
        rfl
      show goFor slG (slB (qAddF red) (qMulF red) (qTakeF red) (qDivF red)) B (zipD ws ss) [.fz x0, .fz x1, .fz x2, .fz x3, .fz (pq f' g'), .fz (pq p' r'), .ow (rows.reverse.map QR.enc ++ [.tuple [pq f' g', pq p' r']]), .fz (pq a b), .fz (pq c d), .fz (pq e l), .fz (pq bt bm), a11, a12, a13] = true
      rw [e1]
      exact fwd_le R hB ws ss f' g' p' r' (⟨f', g', p', r'⟩ :: rows) _ _ _ _ hf' hg' hp' hr' (fun q hq => by
        rcases List.mem_cons.mp hq with rfl | hq
        · exact ⟨hf', hg', hp', hr'⟩
        · exact hr q hq) h
theorem at_last (xs : List PyData) (x : PyData) : atI (xs ++ [x]) (-1) = some x := by
  have hl : (xs ++ [x]).length = xs.length + 1 := by rw [List.length_append]; rfl
  unfold atI ixN
  rw [hl, if_neg (by decide), if_pos (by omega)]
  show (xs ++ [x])[((-1 : Int) + ((xs.length + 1 : Nat) : Int)).toNat]? = some x
  rw [show ((-1 : Int) + ((xs.length + 1 : Nat) : Int)).toNat = xs.length by omega, List.getElem?_append_right (Nat.le_refl _), Nat.sub_self]
  rfl
theorem back_le {red : Fn} (R : RedOk red) {s0 s1 s2 s3 s4 s5 s6 s7 s8 s9 s10 : Sl} {B : DEnds} {k : List PyData → Bool} (hB : ∀ (acc : List PyData) (a12 a13 : Sl), k acc = true → B.nx [s0, s1, s2, s3, s4, s5, s6, s7, s8, s9, s10, .ow acc.reverse, a12, a13] = true) :
    ∀ (rows : List QR) (z w : Nat) (acc : List PyData) (a12 a13 : Sl), (∀ q ∈ rows, q.Ok) → z ≤ bigN → w ≤ bigN → qsBack rows z w (pq z w :: acc) k = true →
      goFor slG2 (slB2 (qAddF red) (qMulF red)) B (rows.map QR.enc) [s0, s1, s2, s3, s4, s5, s6, s7, s8, s9, s10, .ow (pq z w :: acc).reverse, a12, a13] = true
  | [], z, w, acc, a12, a13, _, _, _, h => hB _ a12 a13 h
  | q :: rows, z, w, acc, a12, a13, hr, hz, hw, h => by
    obtain ⟨h1, h2, h3, h4⟩ := hr q List.mem_cons_self
    unfold qsBack at h
    rw [List.reverse_cons]
    show (fI (-1) fun i => (match atI (acc.reverse ++ [pq z w]) i with
      | some l => qMulF red [pq q.f q.g, l] fun X => qAddF red [X, pq q.p q.r] fun Y => (match noList Y with
        | true => (match small (acc.reverse ++ [pq z w]).length with
          | true => goFor slG2 (slB2 (qAddF red) (qMulF red)) B (rows.map QR.enc) [s0, s1, s2, s3, s4, s5, s6, s7, s8, s9, s10, .ow (acc.reverse ++ [pq z w] ++ [Y]), .fz (pq q.f q.g), .fz (pq q.p q.r)]
          | false => false)
        | false => false)
      | none => false)) = true
    rw [fI_eq, at_last]
    refine st_mul R h1 h2 hz hw h fun u v hu hv h => ?_
    refine st_add R hu hv h3 h4 h fun z' w' hz' hw' h => ?_
    have hl : (acc.reverse ++ [pq z w]).length = (pq z w :: acc).length := by rw [List.length_append, List.length_reverse]; rfl
    show (match small (acc.reverse ++ [pq z w]).length with
          | true => goFor slG2 (slB2 (qAddF red) (qMulF red)) B (rows.map QR.enc) [s0, s1, s2, s3, s4, s5, s6, s7, s8, s9, s10, .ow (acc.reverse ++ [pq z w] ++ [pq z' w']), .fz (pq q.f q.g), .fz (pq q.p q.r)]
          | false => false) = true
    rw [hl]
    cases es : small (pq z w :: acc).length with
    | false => rw [es] at h; cases h
    | true =>
      rw [es] at h
      have e1 : acc.reverse ++ [pq z w] ++ [pq z' w'] = (pq z' w' :: (pq z w :: acc)).reverse := by
        rw [List.reverse_cons, List.reverse_cons]
      show goFor slG2 (slB2 (qAddF red) (qMulF red)) B (rows.map QR.enc) [s0, s1, s2, s3, s4, s5, s6, s7, s8, s9, s10, .ow (acc.reverse ++ [pq z w] ++ [pq z' w']), .fz (pq q.f q.g), .fz (pq q.p q.r)] = true
      rw [e1]
      exact back_le R hB rows z' w' (pq z w :: acc) _ _ (fun q hq => hr q (List.mem_cons_of_mem _ hq)) hz' hw' h
theorem le_solved {red : Fn} (R : RedOk red) (ds : List PyData) (k : KF) (h : qSolved ds k = true) : mOf 14 (bSolved (qAddF red) (qMulF red) (qTakeF red) (qDivF red) (.tuple [.int 0, .int 1])) ds k = true := by
  unfold qSolved at h
  split at h
  case h_2 => cases h
  rename_i walk first last sums
  obtain ⟨p, r, rfl, hp, hr, h⟩ := frOf_eq h
  obtain ⟨z, w, rfl, hz, hw, h⟩ := frOf_eq h
  refine fwd_le (B := { nx := slTail (qAddF red) (qMulF red) { nx := fun _ => k .none, rt := k, bk := fun _ => false, ct := fun _ => false }, rt := k, bk := fun _ => false, ct := fun _ => false }) R (x0 := .list walk) (x1 := pq p r) (x2 := pq z w) (x3 := .list sums) (a11 := .no) (a12 := .no) (a13 := .no) (fun rows f g p' r' a7 a8 a9 a10 hrw hk => ?_) walk sums 0 1 p r [] .no .no .no .no (Nat.zero_le _) (by decide +kernel) hp hr (fun q hq => nomatch hq) h
  have hk : qsBack rows z w [pq z w] (fun acc => match small (1 + acc.length) with
    | true => k (.list (pq p r :: acc))
    | false => false) = true := hk
  have e : (rows.reverse.map QR.enc).reverse = rows.map QR.enc := by rw [← List.map_reverse, List.reverse_reverse]
  show goFor slG2 (slB2 (qAddF red) (qMulF red)) _ (rows.reverse.map QR.enc).reverse [.fz (.list walk), .fz (pq p r), .fz (pq z w), .fz (.list sums), .fz (pq f g), .fz (pq p' r'), .fz (.list (rows.reverse.map QR.enc)), a7, a8, a9, a10, .ow [pq z w].reverse, .no, .no] = true
  rw [e]
  refine back_le R (fun acc a12 a13 hacc => ?_) rows z w [] .no .no hrw hz hw hk
  show (match small ([pq p r].length + acc.reverse.reverse.length) with
    | true => k (.list ([pq p r] ++ acc.reverse.reverse))
    | false => false) = true
  rw [List.reverse_reverse]
  exact hacc
end Dl

namespace Dl
open PySem PySem.Spec PyProof.Rows L2
/-! ### whether it is a fraction -/
def bIsInt : DS := (sRet (dAndV (dIs .int (dVar 0)) (dNotV (dIs .bool (dVar 0)))))
def bIsFr (isI dv : Fn) : DS := (sSeq (sIf (dOr (dNot (dB (dIs .tuple (dVar 0)))) (dOr (dB (dOp gNe (dCB gLen (aCons (dVar 0) aNil)) (dC (.int 2)))) (dOr (dNot (dB (dCallN 1 isI (aCons (dOp gIx (dVar 0) (dC (.int 0))) aNil)))) (dNot (dB (dCallN 1 isI (aCons (dOp gIx (dVar 0) (dC (.int 1))) aNil))))))) (sRet (dC (.bool false))) sNil)
  (sRet (dAndV (dOp gGe (dOp gIx (dVar 0) (dC (.int 1))) (dC (.int 1))) (dOp gEq (dCallN 2 dv (aCons (dCB gAbs (aCons (dOp gIx (dVar 0) (dC (.int 0))) aNil)) (aCons (dOp gIx (dVar 0) (dC (.int 1))) aNil))) (dC (.int 1))))))
def qIsFr (slow : Fn) : Fn := fun ds k => match ds with
  | [.tuple [.int (.ofNat a), .int (.ofNat b)]] => (match Nat.beq (Nat.gcd a b) 1 with
    | true => (match Nat.ble 1 b with
      | true => (match logOk b with
        | true => k (.bool true)
        | false => slow ds k)
      | false => slow ds k)
    | false => slow ds k)
  | _ => slow ds k
theorem le_isFr (ds : List PyData) (k : KF) (h : qIsFr (mOf 1 (bIsFr (mOf 1 bIsInt) qDivisor)) ds k = true) : mOf 1 (bIsFr (mOf 1 bIsInt) qDivisor) ds k = true := by
  unfold qIsFr at h
  split at h
  case h_2 => exact h
  rename_i a b
  cases e1 : Nat.beq (Nat.gcd a b) 1 with
  | false => rw [e1] at h; exact h
  | true =>
    rw [e1] at h
    cases e2 : Nat.ble 1 b with
    | false => rw [e2] at h; exact h
    | true =>
      rw [e2] at h
      cases e3 : logOk b with
      | false => rw [e3] at h; exact h
      | true =>
        rw [e3] at h
        have hb : 1 ≤ b := Nat.le_of_ble_eq_true e2
        have hg : Nat.gcd a b = 1 := Nat.eq_of_beq_eq_true e1
        have d1 : decide ((1 : Int) ≤ Int.ofNat b) = true := decide_eq_true (Int.ofNat_le.mpr hb)
        show (match PyData.bool (decide ((1 : Int) ≤ Int.ofNat b)) with
          | .bool true => qDivisor [.int (if Int.ofNat a < 0 then -(Int.ofNat a) else Int.ofNat a), .int (Int.ofNat b)] fun g => gEq g (.int 1) k
          | .bool false => k (.bool false)
          | _ => false) = true
        rw [d1]
        show qDivisor [.int (if Int.ofNat a < 0 then -(Int.ofNat a) else Int.ofNat a), .int (Int.ofNat b)] (fun g => gEq g (.int 1) k) = true
        rw [if_neg (by rw [Int.ofNat_eq_natCast]; omega), qDivisor_of _ _ e3, hg]
        exact h
/-! ### a walk changed at some places -/
def bChg : DS := (sRet (dLc (iEnumZip (dVar 0) (dVar 1)) (gT 2 (gsCons (gN 3) (gsCons (gT 2 (gsCons (gN 4) (gsCons (gN 5) gsNil))) gsNil))) dYes (dIf (dB (dOp gIn (dOp gAdd (dVar 3) (dC (.int 1))) (dVar 2))) (dVar 5) (dVar 4)) [3, 4, 5]))
def memN (n : Nat) : List Int → Bool
  | [] => false
  | i :: r => match i with
    | .ofNat m => (match Nat.beq m n with
      | true => true
      | false => memN n r)
    | _ => memN n r
def chgK (l : List Int) : Nat → List PyData → List PyData → (List PyData → Bool) → Bool
  | _, [], _, k => k []
  | i, w :: ws, os, k => match os with
    | [] => k []
    | o :: os => (match memN (Nat.succ i) l with
      | true => chgK l (Nat.succ i) ws os fun r => k (o :: r)
      | false => chgK l (Nat.succ i) ws os fun r => k (w :: r))
def qChg : Fn := fun ds k => match ds with
  | [.list ws, .list os, .tuple ps] => (match asInts ps with
    | some l => (match small ws.length with
      | true => chgK l 0 ws os fun r => k (.list r)
      | false => false)
    | none => false)
  | _ => false
theorem memN_eq (n : Nat) : ∀ l : List Int, memN n l = l.any fun y => y == Int.ofNat n
  | [] => rfl
  | i :: r => by
    unfold memN
    rw [List.any_cons, ← memN_eq n r]
    cases i with
    | ofNat m =>
      have e : (Int.ofNat m == Int.ofNat n) = Nat.beq m n := by rw [← eqI_eq]; rfl
      rw [e]
      dsimp only
      cases Nat.beq m n <;> rfl
    | negSucc m =>
      have e : (Int.negSucc m == Int.ofNat n) = false := by rw [← eqI_eq]; rfl
      rw [e]
      rfl
def chgT : DG := gT 2 (gsCons (gN 3) (gsCons (gT 2 (gsCons (gN 4) (gsCons (gN 5) gsNil))) gsNil))
def chgE : DE := dIf (dB (dOp gIn (dOp gAdd (dVar 3) (dC (.int 1))) (dVar 2))) (dVar 5) (dVar 4)
theorem chg_eq (x0 x1 : Sl) (l : List Int) (k : KF) : ∀ (i : Nat) (ws os acc : List PyData), goLc chgT dYes chgE [x0, x1, .fz (.tuple (l.map PyData.int)), .no, .no, .no] (enumD i (zipD ws os)) acc k = chgK l i ws os fun r => k (.list (acc.reverse ++ r))
  | i, [], os, acc => by
    show k (.list acc.reverse) = k (.list (acc.reverse ++ []))
    rw [List.append_nil]
  | i, w :: ws, [], acc => by
    show k (.list acc.reverse) = k (.list (acc.reverse ++ []))
    rw [List.append_nil]
  | i, w :: ws, o :: os, acc => by
    have ai : ∀ l : List Int, asInts (l.map PyData.int) = some l := fun l => by
      induction l with
      | nil => rfl
      | cons i r ih =>
        show (match asInts (r.map PyData.int) with
          | some l => some (i :: l)
          | none => none) = _
        rw [ih]
    have step : ∀ d, goLc chgT dYes chgE [x0, x1, .fz (.tuple (l.map PyData.int)), .no, .no, .no] (enumD (i + 1) (zipD ws os)) (d :: acc) k = chgK l (i + 1) ws os fun r => k (.list (acc.reverse ++ d :: r)) := fun d => by
      rw [chg_eq x0 x1 l k (i + 1) ws os (d :: acc), List.reverse_cons]
      congr 1
      funext r
      rw [List.append_assoc]
      rfl
    show (fI ((i : Int) + 1) fun z => (match asInts (l.map PyData.int) with
      | some l' => (match l'.any (fun y => y == z) with
        | true => goLc chgT dYes chgE [x0, x1, .fz (.tuple (l.map PyData.int)), .no, .no, .no] (enumD (i + 1) (zipD ws os)) (o :: acc) k
        | false => goLc chgT dYes chgE [x0, x1, .fz (.tuple (l.map PyData.int)), .no, .no, .no] (enumD (i + 1) (zipD ws os)) (w :: acc) k)
      | none => false)) = (match memN (i + 1) l with
      | true => chgK l (i + 1) ws os fun r => k (.list (acc.reverse ++ o :: r))
      | false => chgK l (i + 1) ws os fun r => k (.list (acc.reverse ++ w :: r)))
    rw [fI_eq, ai, memN_eq, step, step]
    rfl
theorem le_chg (ds : List PyData) (k : KF) (h : qChg ds k = true) : mOf 6 bChg ds k = true := by
  unfold qChg at h
  split at h
  case h_2 => cases h
  rename_i ws os ps
  cases e : asInts ps with
  | none => rw [e] at h; cases h
  | some l =>
    rw [e] at h
    cases es : small ws.length with
    | false => rw [es] at h; cases h
    | true =>
      rw [es] at h
      have ep := asInts_eq e
      subst ep
      have hs : small (enumD 0 (zipD ws os)).length = true := by
        rw [enumD_len, zipD_len]
        exact Nat.ble_eq_true_of_le (Nat.le_trans (Nat.min_le_left _ _) (Nat.le_of_ble_eq_true es))
      show (match small (enumD 0 (zipD ws os)).length with
        | true => goLc chgT dYes chgE [.fz (.list ws), .fz (.list os), .fz (.tuple (l.map PyData.int)), .no, .no, .no] (enumD 0 (zipD ws os)) [] k
        | false => false) = true
      rw [hs]
      exact (chg_eq _ _ l k 0 ws os []).trans h
end Dl

namespace Dl
open PySem PySem.Spec PyProof.Rows L2
/-! ### more draws ahead -/
abbrev drw (j : Nat) (e : Int) : DE := dCallN 2 mDraw (aPot j (aCons (dC (.int e)) aNil))
theorem draw_at {e : Int} {m j : Nat} {env : Sls} {k : KF} (hp : look env j = .pt) (hm : Nat.ble m 1000000000 = true) (he : e = Int.ofNat (m + 1)) (h : ∀ c, c < m + 1 → k (.int (Int.ofNat c)) = true) : drw j e env k = true := by
  subst he
  show (match look env j with
    | .pt => (match Nat.ble m 1000000000 with
      | true => allB (m + 1) fun c => k (.int (Int.ofNat c))
      | false => false)
    | _ => false) = true
  rw [hp]
  simp only [hm]
  exact allB_of h
theorem draw_add {d e : Int} {m j : Nat} {env : Sls} {k : KF} (hp : look env j = .pt) (hm : Nat.ble m 1000000000 = true) (he : e = Int.ofNat (m + 1)) (h : ∀ c, c < m + 1 → k (.int (d + Int.ofNat c)) = true) : dOp gAdd (dC (.int d)) (drw j e) env k = true := by
  show drw j e env (fun y => gAdd (.int d) y k) = true
  refine draw_at hp hm he fun c hc => ?_
  show fI (d + Int.ofNat c) (fun z => k (.int z)) = true
  rw [fI_eq]
  exact h c hc
theorem draw_par_fr {pl : Fn} {x : PyData} {d e d2 e2 : Int} {m m2 i l j : Nat} {rest : DS} {B : DEnds} {env : Sls} (hp : look env j = .pt) (hm : Nat.ble m 1000000000 = true) (hm2 : Nat.ble m2 1000000000 = true) (he : e = Int.ofNat (m + 1)) (he2 : e2 = Int.ofNat (m2 + 1))
    (h : ∀ c, c < m + 1 → ∀ c2, c2 < m2 + 1 → pl [x, .int (d2 + Int.ofNat c2)] (fun v => rest B ((env.set i (.fz (.int (d + Int.ofNat c)))).set l (.fz v))) = true) :
    sSeq (sPar i l (aCons (dOp gAdd (dC (.int d)) (drw j e)) (aCons (dCallN 2 pl (aCons (dC x) (aCons (dOp gAdd (dC (.int d2)) (drw j e2)) aNil))) aNil))) rest B env = true := by
  show dOp gAdd (dC (.int d)) (drw j e) env (fun a => dOp gAdd (dC (.int d2)) (drw j e2) env fun z => pl [x, z] fun v => rest B ((env.set i (.fz a)).set l (.fz v))) = true
  exact draw_add hp hm he fun c hc => draw_add hp hm2 he2 fun c2 hc2 => h c hc c2 hc2
theorem draw_par3 {d e d2 e2 d3 e3 : Int} {m m2 m3 i l n j : Nat} {rest : DS} {B : DEnds} {env : Sls} (hp : look env j = .pt) (hm : Nat.ble m 1000000000 = true) (hm2 : Nat.ble m2 1000000000 = true) (hm3 : Nat.ble m3 1000000000 = true) (he : e = Int.ofNat (m + 1)) (he2 : e2 = Int.ofNat (m2 + 1)) (he3 : e3 = Int.ofNat (m3 + 1))
    (h : ∀ c, c < m + 1 → ∀ c2, c2 < m2 + 1 → ∀ c3, c3 < m3 + 1 → rest B (((env.set i (.fz (.int (d + Int.ofNat c)))).set l (.fz (.int (d2 + Int.ofNat c2)))).set n (.fz (.int (d3 + Int.ofNat c3)))) = true) :
    sSeq (sPar3 i l n (aCons (dOp gAdd (dC (.int d)) (drw j e)) (aCons (dOp gAdd (dC (.int d2)) (drw j e2)) (aCons (dOp gAdd (dC (.int d3)) (drw j e3)) aNil)))) rest B env = true := by
  show dOp gAdd (dC (.int d)) (drw j e) env (fun a => dOp gAdd (dC (.int d2)) (drw j e2) env fun b => dOp gAdd (dC (.int d3)) (drw j e3) env fun c => rest B (((env.set i (.fz a)).set l (.fz b)).set n (.fz c))) = true
  exact draw_add hp hm he fun c hc => draw_add hp hm2 he2 fun c2 hc2 => draw_add hp hm3 he3 fun c3 hc3 => h c hc c2 hc2 c3 hc3
end Dl

namespace Dl
open PySem PySem.Spec PyProof.Rows L2
/-! ### fractions as rational numbers -/
def fr (q : Rat) : PyData := .tuple [.int q.num, .int (Int.ofNat q.den)]
/-- both parts below 2 ^ n -/
def Bd (n : Nat) (q : Rat) : Prop := q.num.natAbs < 2 ^ n ∧ q.den < 2 ^ n
theorem Bd.mono {m n : Nat} {q : Rat} (h : Bd m q) (e : m ≤ n) : Bd n q := ⟨Nat.lt_of_lt_of_le h.1 (Nat.pow_le_pow_right (by decide) e), Nat.lt_of_lt_of_le h.2 (Nat.pow_le_pow_right (by decide) e)⟩
theorem fr_inj {p q : Rat} (h : fr p = fr q) : p = q := by
  unfold fr at h
  simp only [PyData.tuple.injEq, List.cons.injEq, PyData.int.injEq, and_true] at h
  obtain ⟨h1, h2⟩ := h
  exact Rat.ext h1 (Int.ofNat.inj h2)
theorem mkRat_num {t : Int} {m : Nat} (h : m ≠ 0) : (mkRat t m).num = t / (Nat.gcd t.natAbs m : Nat) ∧ (mkRat t m).den = m / Nat.gcd t.natAbs m := by
  rw [Rat.mkRat_def, dif_neg h, Rat.normalize_eq h]
  exact ⟨rfl, rfl⟩
theorem log_lt {a n : Nat} (h : a < 2 ^ n) : Nat.log2 a ≤ n := by
  by_cases h0 : a = 0
  · subst h0; simp
  · exact Nat.le_of_lt ((Nat.log2_lt h0).mpr h)
theorem mul_ok {i j : Int} {m n : Nat} (hi : i.natAbs < 2 ^ m) (hj : j.natAbs < 2 ^ n) (h : m + n ≤ 999999) : mulOk i j = true := by
  have h1 := log_lt hi
  have h2 := log_lt hj
  exact Nat.ble_eq_true_of_le (show Nat.log2 i.natAbs + Nat.log2 j.natAbs ≤ 999999 by omega)
theorem log_ok {a n : Nat} (h : a < 2 ^ n) (hn : n ≤ 8999) : logOk a = true := Nat.ble_eq_true_of_le (Nat.le_trans (log_lt h) hn)
theorem red_pos {t : Int} {m n : Nat} {k : KF} (hm : m ≠ 0) (hl : m < 2 ^ n) (hn : n ≤ 8999) : mkP t m k = k (fr (mkRat t m)) := by
  unfold mkP
  rw [log_ok hl hn]
  simp only [frN_eq, fI_eq]
  obtain ⟨h1, h2⟩ := mkRat_num (t := t) hm
  unfold fr
  rw [h1, h2]
  rfl
theorem red_fr {t : Int} {m n : Nat} {k : KF} (hm : m ≠ 0) (hl : m < 2 ^ n) (hn : n ≤ 8999) : qReduced [.int t, .int (Int.ofNat m)] k = k (fr (mkRat t m)) := by
  obtain ⟨m', rfl⟩ : ∃ m', m = m' + 1 := ⟨m - 1, by omega⟩
  exact red_pos hm hl hn
theorem bd_mk {t : Int} {m n : Nat} (hm : m ≠ 0) (ht : t.natAbs < 2 ^ n) (hl : m < 2 ^ n) : Bd n (mkRat t m) := by
  obtain ⟨h1, h2⟩ := mkRat_num (t := t) hm
  refine ⟨?_, ?_⟩
  · rw [h1]
    refine Nat.lt_of_le_of_lt ?_ ht
    exact Int.natAbs_ediv_le_natAbs _ _
  · rw [h2]
    exact Nat.lt_of_le_of_lt (Nat.div_le_self _ _) hl
theorem pow_mul_lt {a b m n : Nat} (ha : a < 2 ^ m) (hb : b < 2 ^ n) : a * b < 2 ^ (m + n) := by
  rw [Nat.pow_add]
  exact Nat.mul_lt_mul'' ha hb
theorem nat_mul_lt {i : Int} {b m n : Nat} (ha : i.natAbs < 2 ^ m) (hb : b < 2 ^ n) : (i * (b : Int)).natAbs < 2 ^ (m + n) := by
  rw [Int.natAbs_mul, Int.natAbs_natCast]
  exact pow_mul_lt ha hb
section
variable {p q : Rat} {m n : Nat} {k : KF}
theorem den_ne (p q : Rat) : p.den * q.den ≠ 0 := Nat.mul_ne_zero p.den_nz q.den_nz
theorem add_bd (hp : Bd m p) (hq : Bd n q) : Bd (m + n + 1) (p + q) := by
  rw [Rat.add_def']
  have h1 := nat_mul_lt hp.1 hq.2
  have h2 := nat_mul_lt hq.1 hp.2
  have h3 := pow_mul_lt hp.2 hq.2
  have e : 2 ^ (m + n + 1) = 2 ^ (m + n) + 2 ^ (m + n) := by rw [Nat.pow_succ]; omega
  rw [Nat.add_comm n m] at h2
  refine bd_mk (den_ne p q) ?_ (by omega)
  have := Int.natAbs_add_le (p.num * (q.den : Int)) (q.num * (p.den : Int))
  omega
theorem mul_bd (hp : Bd m p) (hq : Bd n q) : Bd (m + n) (p * q) := by
  rw [Rat.mul_def']
  refine bd_mk (den_ne p q) ?_ (pow_mul_lt hp.2 hq.2)
  rw [Int.natAbs_mul]
  exact pow_mul_lt hp.1 hq.1
theorem add_fr (hp : Bd m p) (hq : Bd n q) (h : m + n ≤ 8999) : qAddR qReduced [fr p, fr q] k = k (fr (p + q)) := by
  have e1 := mul_ok (i := p.num) (j := Int.ofNat q.den) hp.1 hq.2 (by omega)
  have e2 := mul_ok (i := q.num) (j := Int.ofNat p.den) hq.1 hp.2 (by omega)
  have e3 := mul_ok (i := Int.ofNat p.den) (j := Int.ofNat q.den) hp.2 hq.2 (by omega)
  show (mI p.num (Int.ofNat q.den) fun x => mI q.num (Int.ofNat p.den) fun y => mI (Int.ofNat p.den) (Int.ofNat q.den) fun z => fI (x + y) fun t => qReduced [.int t, .int z] k) = _
  unfold mI
  simp only [e1, e2, e3, fI_eq]
  rw [Rat.add_def']
  exact red_fr (den_ne p q) (pow_mul_lt hp.2 hq.2) (by omega)
theorem mul_fr (hp : Bd m p) (hq : Bd n q) (h : m + n ≤ 8999) : qMulR qReduced [fr p, fr q] k = k (fr (p * q)) := by
  have e1 := mul_ok (i := p.num) (j := q.num) hp.1 hq.1 (by omega)
  have e3 := mul_ok (i := Int.ofNat p.den) (j := Int.ofNat q.den) hp.2 hq.2 (by omega)
  show (mI p.num q.num fun x => mI (Int.ofNat p.den) (Int.ofNat q.den) fun z => qReduced [.int x, .int z] k) = _
  unfold mI
  simp only [e1, e3, fI_eq]
  rw [Rat.mul_def']
  exact red_fr (den_ne p q) (pow_mul_lt hp.2 hq.2) (by omega)
theorem sub_eq (p q : Rat) : p - q = mkRat (p.num * (q.den : Int) - q.num * (p.den : Int)) (p.den * q.den) := by rw [Rat.sub_def, Rat.normalize_eq_mkRat]
theorem sub_bd (hp : Bd m p) (hq : Bd n q) : Bd (m + n + 1) (p - q) := by
  rw [sub_eq]
  have h1 := nat_mul_lt hp.1 hq.2
  have h2 := nat_mul_lt hq.1 hp.2
  have h3 := pow_mul_lt hp.2 hq.2
  have e : 2 ^ (m + n + 1) = 2 ^ (m + n) + 2 ^ (m + n) := by rw [Nat.pow_succ]; omega
  rw [Nat.add_comm n m] at h2
  refine bd_mk (den_ne p q) ?_ (by omega)
  have := Int.natAbs_sub_le (p.num * (q.den : Int)) (q.num * (p.den : Int))
  omega
theorem sub_fr (hp : Bd m p) (hq : Bd n q) (h : m + n ≤ 8999) : qTakeR qReduced [fr p, fr q] k = k (fr (p - q)) := by
  have e1 := mul_ok (i := p.num) (j := Int.ofNat q.den) hp.1 hq.2 (by omega)
  have e2 := mul_ok (i := q.num) (j := Int.ofNat p.den) hq.1 hp.2 (by omega)
  have e3 := mul_ok (i := Int.ofNat p.den) (j := Int.ofNat q.den) hp.2 hq.2 (by omega)
  show (mI p.num (Int.ofNat q.den) fun x => mI q.num (Int.ofNat p.den) fun y => mI (Int.ofNat p.den) (Int.ofNat q.den) fun z => fI (x - y) fun t => qReduced [.int t, .int z] k) = _
  unfold mI
  simp only [e1, e2, e3, fI_eq]
  rw [sub_eq]
  exact red_fr (den_ne p q) (pow_mul_lt hp.2 hq.2) (by omega)
theorem red_any {t b : Int} (hb : b ≠ 0) (hl : b.natAbs < 2 ^ n) (hn : n ≤ 8999) : qReduced [.int t, .int b] k = k (fr (Rat.divInt t b)) := by
  cases b with
  | ofNat c =>
    have hc : c ≠ 0 := fun z => hb (by rw [z]; rfl)
    rw [red_fr hc hl hn]
    rfl
  | negSucc c =>
    show fI (0 - t) (fun t => mkP t (c + 1) k) = _
    rw [fI_eq, red_pos (Nat.succ_ne_zero c) hl hn]
    have e : Rat.divInt t (Int.negSucc c) = mkRat (0 - t) (c + 1) := by
      show Rat.normalize (-t) (c + 1) (Nat.succ_ne_zero c) = _
      rw [Rat.normalize_eq_mkRat, Int.zero_sub]
    rw [e]
theorem div_eq (p q : Rat) : p / q = Rat.divInt (p.num * (q.den : Int)) ((p.den : Int) * q.num) := by
  rw [Rat.div_def, Rat.inv_def, ← Rat.divInt_mul_divInt, Rat.num_divInt_den]
theorem div_bd (hp : Bd m p) (hq : Bd n q) : Bd (m + n) (p / q) := by
  rw [Rat.div_def]
  refine mul_bd hp ?_
  by_cases h0 : q = 0
  · subst h0
    have e0 : (0 : Rat)⁻¹ = 0 := by grind
    rw [e0]
    exact hq
  · rw [Rat.inv_def]
    have hn : q.num ≠ 0 := fun z => h0 (Rat.num_eq_zero.mp z)
    cases e : q.num with
    | ofNat c =>
      have hc : c ≠ 0 := fun z => hn (by rw [e, z]; rfl)
      have hq1 := hq.1
      rw [e] at hq1
      show Bd n (Rat.divInt (q.den : Int) (Int.ofNat c))
      exact bd_mk (t := (q.den : Int)) (m := c) hc hq.2 hq1
    | negSucc c =>
      have hq1 := hq.1
      rw [e] at hq1
      have e2 : Rat.divInt (q.den : Int) (Int.negSucc c) = mkRat (-(q.den : Int)) (c + 1) := by
        show Rat.normalize (-(q.den : Int)) (c + 1) (Nat.succ_ne_zero c) = _
        rw [Rat.normalize_eq_mkRat]
      rw [e2]
      exact bd_mk (Nat.succ_ne_zero c) (by rw [Int.natAbs_neg]; exact hq.2) hq1
theorem div_fr (hp : Bd m p) (hq : Bd n q) (h : m + n ≤ 8999) (hz : q ≠ 0) : qDivR qReduced [fr p, fr q] k = k (fr (p / q)) := by
  have e1 := mul_ok (i := p.num) (j := Int.ofNat q.den) hp.1 hq.2 (by omega)
  have e3 := mul_ok (i := Int.ofNat p.den) (j := q.num) hp.2 hq.1 (by omega)
  show (mI p.num (Int.ofNat q.den) fun x => mI (Int.ofNat p.den) q.num fun z => qReduced [.int x, .int z] k) = _
  unfold mI
  simp only [e1, e3, fI_eq]
  rw [div_eq]
  have hn : q.num ≠ 0 := fun z => hz (Rat.num_eq_zero.mp z)
  refine red_any (n := m + n) (Int.mul_ne_zero (Int.natCast_ne_zero.mpr p.den_nz) hn) ?_ h
  rw [Int.natAbs_mul]
  exact pow_mul_lt hp.2 hq.1
theorem below_fr (hp : Bd m p) (hq : Bd n q) (h : m + n ≤ 8999) : qBelow [fr p, fr q] k = k (.bool (decide (p < q))) := by
  have e1 := mul_ok (i := p.num) (j := Int.ofNat q.den) hp.1 hq.2 (by omega)
  have e2 := mul_ok (i := q.num) (j := Int.ofNat p.den) hq.1 hp.2 (by omega)
  show (mI p.num (Int.ofNat q.den) fun x => mI q.num (Int.ofNat p.den) fun y => k (.bool (decide (x < y)))) = _
  unfold mI
  simp only [e1, e2, fI_eq]
  congr 2
  exact decide_eq_decide.mpr (Rat.lt_iff p q).symm
theorem eqQ_fr (p q : Rat) : eqQ (fr p) (fr q) = some (decide (p = q)) := by
  show some (eqI p.num q.num && eqI (Int.ofNat p.den) (Int.ofNat q.den)) = _
  congr 1
  rw [eqI_eq, eqI_eq, Bool.eq_iff_iff, Bool.and_eq_true, beq_iff_eq, beq_iff_eq, decide_eq_true_iff]
  exact ⟨fun ⟨a, b⟩ => Rat.ext a (Int.ofNat.inj b), fun e => by rw [e]; exact ⟨rfl, rfl⟩⟩
end
end Dl

namespace Dl
open PySem PySem.Spec PyProof.Rows L2
/-! ### defs that return a new list -/
def spF (K : PySem.W.Frag) (m : Fn) (n : Nat) : Sp := fun vs H Q _ => vs.length = n ∧ ∃ (pp : Addr) (F : Hp) (ds : List PyData) (k : KF), Bs pp F H ∧ RAs K pp F vs ds ∧ m ds k = true ∧
  ∀ es p xs F' H', Stp pp F H F' H' → H p = none → F' p = none → H' p = some (.lst xs) → RpAll K F' xs es → k (.list es) = true → Q (.ref p) H'
def mOfF (n : Nat) (body : DS) : Fn := fun ds k => body { nx := fun _ => false, rt := k, bk := fun _ => false, ct := fun _ => false } (startE n ds)
structure HasF (P : Program) (w : World) (K : PySem.W.Frag) (mg : Str → Option Value) (base : Heap) (lev : Nat) (x : Str) (ps : List Str) (m : Fn) : Prop where
  ex : ∃ f fd, FnOkG P w K mg base lev f fd ps (spF K m ps.length) ∧ mg x = some (.ref f) ∧ PySem.W.keepIn K (.ref f) = true ∧ Binds K fd ps [] ∧ ∃ oc od osl, K.lookup f = some ⟨oc, od, .func fd, osl⟩
section
variable {P : Program} {w : World} {K : PySem.W.Frag} {mg : Str → Option Value} {base : Heap} {f : Addr} {fd : FuncData} {x : Str} {st : Stmt} {N ps : List Str} {body : DS} {l j : Nat} {m m' : Fn}
theorem HasF.mono (h : HasF P w K mg base j x ps m) (e : j ≤ l) : HasF P w K mg base l x ps m := by
  obtain ⟨f, fd, F, a, b, c, d⟩ := h
  exact ⟨f, fd, F.mono e, a, b, c, d⟩
theorem HasF.imp (h : HasF P w K mg base l x ps m) (e : ∀ ds k, m' ds k = true → m ds k = true) : HasF P w K mg base l x ps m' := by
  obtain ⟨f, fd, F, a, b, c, d⟩ := h
  exact ⟨f, fd, F.imp fun vs H Q E ⟨hl, pp, F0, ds, k, B, r, hm, q⟩ => ⟨hl, pp, F0, ds, k, B, r, e ds k hm, q⟩, a, b, c, d⟩
theorem spF_of {vs : List V} {H : Hp} {Q : VK} {E : XK} {n : Nat} (h : spOf K m n vs H Q E) : spF K m n vs H Q E := by
  obtain ⟨hl, pp, F0, ds, k, B, r, hm, q⟩ := h
  exact ⟨hl, pp, F0, ds, k, B, r, hm, fun es p xs F' H' s hn hf hp ra hk => q (.list es) (.ref p) (upd F' p (.lst xs)) H' (s.freeze hn hf hp) (.lst upd_same (ra.mono (same_upd hf))) hk⟩
theorem HasF.has (h : HasF P w K mg base l x ps m) : Has P w K mg base l x ps m := by
  obtain ⟨f, fd, F, a, b, c, d⟩ := h
  exact ⟨f, fd, F.imp fun vs H Q E h => spF_of h, a, b, c, d⟩
theorem hasF_of (F : FnP K x st f fd) (S : FnScope N ps (defScope st)) (hm : mg x = some (.ref f)) (hb : Binds K fd ps [])
    (h : ∀ (W : Wd) (hw : W.fr = true) (cdv : Value) (A : Around) (outer : List Env) (s : Shared) (H : Hp) (E : XK), RG l (A.deeper (envOfC x (defScope st) s.heap.objs.size f cdv)) → SSs W (cxOf CX0 P w K mg base N x (defScope st) f cdv A outer s H E).nox (defBody st) body) :
    HasF P w K mg base (l + 1) x ps (mOfF N.length body) := by
  have lk : ∃ oc od osl, K.lookup f = some ⟨oc, od, .func fd, osl⟩ := by
    obtain ⟨oc, od, _, _, _, _, _, _, _, osl, _, h2, _⟩ := F.ex
    exact ⟨oc, od, osl, h2⟩
  refine ⟨f, fd, okG F S (fun vs H Q E h => h.1) (fun cdv A outer s H vs Q E hr hg hs => ?_), hm, F.kp, hb, lk⟩
  obtain ⟨hl, pp, F0, ds, k, B, r, hmm, q⟩ := hs
  obtain ⟨t, p, o⟩ := h ⟨pp, F0, H, true⟩ rfl cdv A outer s H E ⟨hr, hg⟩
  refine ⟨t, p.nox, o _ _ F0 H _ _ (rel_start B r) hmm ⟨(fun _ _ _ _ _ _ z => Bool.noConfusion z), fun d v F' H' s' r' hk => ?_, (fun _ _ _ _ _ _ z => Bool.noConfusion z), (fun _ _ _ _ _ _ z => Bool.noConfusion z)⟩⟩
  obtain ⟨p', xs, es, rfl, rfl, h1, h2, h3, h4, h5⟩ := (show ∃ p xs ds, v = .ref p ∧ d = .list ds ∧ H' p = some (.lst xs) ∧ F' p = none ∧ H p = none ∧ p ≠ pp ∧ RpAll K F' xs ds from r')
  exact q es p' xs F' H' s' h3 h2 h1 h5 hk
end
def sRetF (a : DF) : DS := fun B env => a env fun ds => B.rt (.list ds)
def sRetO (i : Nat) : DS := fun B env => match look env i with
  | .ow ds => B.rt (.list ds)
  | _ => false
def fCallN (n : Nat) (m : Fn) (a : DA) : DF := fun env k => a env fun ds => match Nat.beq ds.length n with
  | true => m ds fun d => (match d with
    | .list xs => k xs
    | _ => false)
  | false => false
def fIf (c : DT) (a b : DF) : DF := fun env k => c env fun x => match x with
  | true => a env k
  | false => b env k
def fRev (a : DE) : DF := fun env k => a env fun d => match d with
  | .list xs => k xs.reverse
  | _ => false
def sAppX (a : DF) (e : DE) : DS := fun B env => a env fun ds => match small ds.length with
  | true => e env fun _ => B.nx env
  | false => false
section
variable {W : Wd} {X : Cx} {K : PySem.W.Frag} {e ea eb ec : Expr} {es : List Expr} {df da db : DF} {tc : DT} {dr : DA} {de : DE} {pos p1 p2 p3 : Pos}
theorem ss_retF (hw : W.fr = true) (h : SF W X e df) : SS W X (.Return (some e) pos) (sRetF df) := by
  obtain ⟨t, p, o⟩ := h
  refine ⟨_, ps_ret p, fun env σ F H B D R h q => o env σ F H _ _ R h fun ds xs F' H' p s hn hf hp ra hk => q.rt (.list ds) (.ref p) F' H' (R.st.trans s) ?_ hk⟩
  unfold RtOk
  rw [hw]
  have h0 : W.H0 p = none := by
    cases z : W.H0 p with
    | none => rfl
    | some o =>
      have np := ne_pp R.bs hn
      rw [R.st.fr p o np z] at hn
      cases hn
  exact ⟨p, xs, ds, rfl, rfl, hp, hf, h0, ne_pp R.bs hn, ra⟩
theorem ss_retO {i : Nat} {x : Str} (hw : W.fr = true) (hN : X.N[i]? = some x := by rfl) (hv : Vis X.env.scope x := by first | exact Or.inl rfl | exact Or.inr (Or.inl rfl) | exact Or.inr (Or.inr rfl)) (hd : (x == ("__debug__" : Str)) = false := by decide) (hcd : (x == ("__classdict__" : Str)) = false := by decide) :
    SS W X (.Return (some (.Name x p1)) pos) (sRetO i) := by
  refine ⟨_, ps_ret (pe_var hN hv hd hcd), fun env σ F H B D R h q => ?_⟩
  unfold sRetO at h
  cases e : look env i with
  | ow ds =>
    rw [e] at h
    obtain ⟨pa, xs, g1, g2, g3, g4, g5, g6⟩ := R.ow e
    refine ⟨.ref pa, g1, q.rt (.list ds) (.ref pa) F H R.st ?_ h⟩
    unfold RtOk
    rw [hw]
    exact ⟨pa, xs, ds, rfl, rfl, g2, g3, g5, g4, g6⟩
  | _ => rw [e] at h; cases h
theorem sf_call {l n : Nat} {x : Str} {ps : List Str} {m : Fn} {p : Pos} (h : HasF X.prog X.w X.K X.mg X.base l x ps m) (hr : RG l X.A) (a : SAP W X (ea :: es) dr) (hg : Gl X x := by rfl) (hdb : (x == ("__debug__" : Str)) = false := by decide)
    (he : starEach (ea :: es) X.env = (false, eval ea X.env) :: starEach es X.env := by rfl) (hpl : (backTo pos (starEach es X.env)).any (·.1) = false := by rfl) (hn : ps.length = n := by rfl) : SF W X (.Call (.Name x p) (ea :: es) [] pos) (fCallN n m dr) := by
  subst hn
  obtain ⟨f, fd, F, h1, h2, h3, _⟩ := h
  obtain ⟨t, pa, o⟩ := a
  refine ⟨_, pe_callG F hr.r hr.g hg h1 h2 h3 pa hdb he hpl, fun env σ F0 H k Q R h q => o env σ F0 H _ _ R h fun ds vs F1 H1 s1 r1 h1 => ?_⟩
  cases e : Nat.beq ds.length ps.length with
  | false => simp only [e] at h1; cases h1
  | true =>
    simp only [e] at h1
    show spF X.K m ps.length (vs ++ []) H1 Q _
    rw [List.append_nil]
    refine ⟨by rw [paired_len r1]; exact Nat.eq_of_beq_eq_true e, W.pp, F1, ds, _, (R.step s1).bs, r1, h1, fun es p xs F2 H2 s2 hn hf hp ra hk => ?_⟩
    exact q es xs F2 H2 p (s1.trans s2) (back_none R.bs s1 hn) hf hp ra hk
theorem sf_if (c : ST W X ec tc) (a : SF W X ea da) (b : SF W X eb db) : SF W X (.IfExp ec ea eb pos) (fIf tc da db) := by
  obtain ⟨t0, p0, o0⟩ := c
  obtain ⟨t1, p1, o1⟩ := a
  obtain ⟨t2, p2, o2⟩ := b
  refine ⟨_, pe_ifExp p0 p1 p2, fun env σ F H k Q R h q => ?_⟩
  refine o0 env σ F H _ _ R h fun b F1 H1 s1 h1 => ?_
  cases b with
  | true => rw [if_pos rfl]; exact o1 env σ F1 H1 _ _ (R.step s1) h1 fun ds xs F2 H2 p s2 hn hf hp ra hk => q ds xs F2 H2 p (s1.trans s2) (back_none R.bs s1 hn) hf hp ra hk
  | false => rw [if_neg Bool.false_ne_true]; exact o2 env σ F1 H1 _ _ (R.step s1) h1 fun ds xs F2 H2 p s2 hn hf hp ra hk => q ds xs F2 H2 p (s1.trans s2) (back_none R.bs s1 hn) hf hp ra hk
theorem ss_appX (h0 : SF W X ea df) (h : SE W X e de)
    (hsw : swapsWith (.Call (.Attribute ea "append" p2) [e] [] p3) none pos.line X.env = pure false := by rfl) (hbase : attributeBase ea "append" X.env (eval ea X.env) = eval ea X.env := by rfl)
    (hfew : ((backTo p3 (starEach [e] X.env)).all (fun x => !x.1) && (backToKw p3 (keywordEach [] X.env)).all (fun x => x.1.isSome) && decide (([e] : List Expr).length + ([] : List Keyword).length + (if ([] : List Keyword).isEmpty then 0 else 1) < 30)) = true := by rfl)
    (hline : (p2.endLine == p3.line) = true := by rfl) (hs : starEach [e] X.env = (false, eval e X.env) :: starEach [] X.env := by rfl) (hplain : (backTo p3 (starEach [] X.env)).any (·.1) = false := by rfl) :
    SS W X (.Expr (.Call (.Attribute ea "append" p2) [e] [] p3) pos) (sAppX df de) := by
  obtain ⟨t0, p0, o0⟩ := h0
  obtain ⟨t, p, o⟩ := h
  refine ⟨_, ps_expr (pe_bm PySem.F.plainAttrs_list PySem.F.slot_list_append PySem.F.type_list_append mt_append p0 (pa_cons p pa_nil hs) hbase hfew hline hs hplain) hsw, fun env σ F H B D R h q => ?_⟩
  refine o0 env σ F H _ _ R h fun ds xs F1 H1 pa s1 hn hf hp ra hk => ?_
  cases e2 : small ds.length with
  | false => simp only [e2] at hk; cases hk
  | true =>
    simp only [e2] at hk
    have R1 := R.step s1
    have np := ne_pp R.bs hn
    refine .inl ⟨rfl, _, .inl (.inl hp)⟩ |> fun z => ⟨z, o env σ F1 H1 _ _ R1 hk fun d v F2 H2 s2 r2 h2 => ?_⟩
    refine ⟨pa, xs, v, rfl, rfl, s2.fr _ _ np hp, by rw [ra.length]; exact small_lt e2, ?_⟩
    have f2 : F2 pa = none := s2.own hf (by rw [hp]; exact fun z => nomatch z)
    exact q.nx env σ F2 _ (s1.ff.trans s2.ff) (R.step ((s1.trans s2).write hn f2 np)) h2
end
end Dl

namespace Dl
open PySem PySem.Spec PyProof.Rows L2
/-! ### whether it is a fraction, for any two whole numbers -/
def qIsFrQ (slow : Fn) : Fn := fun ds k => match ds with
  | [.tuple [.int a, .int (.ofNat b)]] => (match logOk b with
    | true => k (.bool (Nat.ble 1 b && Nat.beq (Nat.gcd a.natAbs b) 1))
    | false => false)
  | _ => slow ds k
theorem le_isFrQ (ds : List PyData) (k : KF) (h : qIsFrQ (mOf 1 (bIsFr (mOf 1 bIsInt) qDivisor)) ds k = true) : mOf 1 (bIsFr (mOf 1 bIsInt) qDivisor) ds k = true := by
  unfold qIsFrQ at h
  split at h
  case h_2 => exact h
  rename_i a b
  cases e3 : logOk b with
  | false => rw [e3] at h; cases h
  | true =>
    rw [e3] at h
    have h : k (.bool (Nat.ble 1 b && Nat.beq (Nat.gcd a.natAbs b) 1)) = true := h
    show (match PyData.bool (decide ((1 : Int) ≤ Int.ofNat b)) with
      | .bool true => qDivisor [.int (if a < 0 then -a else a), .int (Int.ofNat b)] fun g => gEq g (.int 1) k
      | .bool false => k (.bool false)
      | _ => false) = true
    by_cases hb : 1 ≤ b
    · rw [decide_eq_true (show (1 : Int) ≤ Int.ofNat b by rw [Int.ofNat_eq_natCast]; omega)]
      show qDivisor [.int (if a < 0 then -a else a), .int (Int.ofNat b)] (fun g => gEq g (.int 1) k) = true
      rw [abs_eq, qDivisor_of _ _ e3]
      rw [show Nat.ble 1 b = true from Nat.ble_eq_true_of_le hb, Bool.true_and] at h
      exact h
    · rw [decide_eq_false (show ¬ ((1 : Int) ≤ Int.ofNat b) by rw [Int.ofNat_eq_natCast]; omega)]
      have e : Nat.ble 1 b = false := by
        cases z : Nat.ble 1 b with
        | false => rfl
        | true => exact absurd (Nat.le_of_ble_eq_true z) hb
      rw [e, Bool.false_and] at h
      exact h
end Dl

namespace Dl
open PySem PySem.Spec PyProof.Rows L2
/-! ### several names at once, some of them new lists, by a tuple -/
section
variable {K : PySem.W.Frag} {W : Wd} {env : Sls} {σ : L2.St} {F H F' H' : Hp}
theorem Rel.own1 (r : Rel K W env σ F H) {p : Addr} {xs : List V} {ds : List PyData} (hp : H p = some (.lst xs)) (f : F p = none) (np : p ≠ W.pp) (h0 : W.H0 p = none) (h : RpAll K F xs ds)
    (apart : ∀ (j : Nat) (q : Addr) (es : List PyData), env[j]? = some (Sl.ow es) → σ[j]? = some (some (V.ref q)) → q ≠ p) (i : Nat) :
    Rel K W (env.set i (.ow ds)) (σ.set i (some (.ref p))) F H := by
  refine ⟨r.b0, r.st, by rw [List.length_set, List.length_set]; exact r.len, fun j q e => ?_, fun j l q ds' es e1 e2 g1 g2 => ?_⟩
  · rw [List.getElem?_set] at e ⊢
    by_cases hj : i = j
    · subst hj
      rw [if_pos rfl] at e ⊢
      by_cases hl : i < env.length
      · rw [if_pos hl] at e
        cases e
        rw [if_pos (by rw [r.len]; exact hl)]
        exact ⟨p, xs, rfl, hp, f, np, h0, h⟩
      · rw [if_neg hl] at e; cases e
    · rw [if_neg hj] at e ⊢
      exact r.sl j q e
  · by_cases n1 : i = j
    · by_cases n2 : i = l
      · rw [← n1, ← n2]
      · subst n1
        rw [List.getElem?_set_ne n2] at e2 g2
        have hl : i < σ.length := by
          rw [List.getElem?_set, if_pos rfl] at g1
          split at g1
          · assumption
          · cases g1
        rw [List.getElem?_set_self hl] at g1
        cases g1
        exact absurd rfl (apart l p es e2 g2)
    · by_cases n2 : i = l
      · subst n2
        rw [List.getElem?_set_ne n1] at e1 g1
        have hl : i < σ.length := by
          rw [List.getElem?_set, if_pos rfl] at g2
          split at g2
          · assumption
          · cases g2
        rw [List.getElem?_set_self hl] at g2
        cases g2
        exact absurd rfl (apart j p ds' e1 g1)
      · rw [List.getElem?_set_ne n1] at e1 g1
        rw [List.getElem?_set_ne n2] at e2 g2
        exact r.dis j l q ds' es e1 e2 g1 g2
end
inductive Mxd (K : PySem.W.Frag) (pp : Addr) (H F' H' : Hp) : List Sl → List V → List Addr → Prop
  | nil : Mxd K pp H F' H' [] [] []
  | fz {v : V} {d : PyData} {sls : List Sl} {vs : List V} {ps : List Addr} : Rp K F' v d → Mxd K pp H F' H' sls vs ps → Mxd K pp H F' H' (.fz d :: sls) (v :: vs) ps
  | ow {p : Addr} {xs : List V} {ds : List PyData} {sls : List Sl} {vs : List V} {ps : List Addr} : H p = none → F' p = none → H' p = some (.lst xs) → p ≠ pp → RpAll K F' xs ds → p ∉ ps → Mxd K pp H F' H' sls vs ps → Mxd K pp H F' H' (.ow ds :: sls) (.ref p :: vs) (p :: ps)
section
variable {K : PySem.W.Frag} {pp : Addr} {H F' H' F2 H2 H1 : Hp} {sls : List Sl} {vs : List V} {ps : List Addr}
theorem Mxd.new (m : Mxd K pp H F' H' sls vs ps) : ∀ p ∈ ps, H p = none := by
  induction m with
  | nil => exact fun _ h => nomatch h
  | fz _ _ ih => exact ih
  | ow h1 _ _ _ _ _ _ ih =>
    intro q hq
    rcases List.mem_cons.mp hq with e | hq
    · rw [e]; exact h1
    · exact ih q hq
theorem Mxd.mono (m : Mxd K pp H F' H' sls vs ps) (s : Stp pp F' H' F2 H2) : Mxd K pp H F2 H2 sls vs ps := by
  induction m with
  | nil => exact .nil
  | fz r _ ih => exact .fz (r.mono s.ff) ih
  | ow h1 h2 h3 h4 h5 h6 _ ih => exact .ow h1 (s.own h2 (by rw [h3]; exact fun z => nomatch z)) (s.fr _ _ h4 h3) h4 (h5.mono s.ff) h6 ih
theorem Mxd.back (m : Mxd K pp H1 F' H' sls vs ps) (h : ∀ p, H1 p = none → H p = none) : Mxd K pp H F' H' sls vs ps := by
  induction m with
  | nil => exact .nil
  | fz r _ ih => exact .fz r ih
  | ow h1 h2 h3 h4 h5 h6 _ ih => exact .ow (h _ h1) h2 h3 h4 h5 h6 ih
end
abbrev DM := Sls → (List Sl → Bool) → Bool
def OkM (K : PySem.W.Frag) (W : Wd) (t : TA) (e : DM) : Prop := ∀ (env : Sls) (σ : L2.St) (F H : Hp) (k : List Sl → Bool) (Q : List V → Hp → Prop), Rel K W env σ F H → e env k = true → (∀ sls vs ps F' H', Stp W.pp F H F' H' → Mxd K W.pp H F' H' sls vs ps → k sls = true → Q vs H') → t σ H Q
structure SM (W : Wd) (X : Cx) (es : List Expr) (dm : DM) : Prop where
  ex : ∃ t, PA X es t ∧ OkM X.K W t dm
def mNil : DM := fun _ k => k []
def mE (a : DE) (r : DM) : DM := fun env k => a env fun d => r env fun xs => k (.fz d :: xs)
def mF (a : DF) (r : DM) : DM := fun env k => a env fun ds => r env fun xs => k (.ow ds :: xs)
def setsE : List Nat → List Sl → Sls → Option Sls
  | [], [], env => some env
  | i :: is, s :: ss, env => setsE is ss (env.set i s)
  | _, _, _ => none
def sMix (is : List Nat) (a : DM) : DS := fun B env => a env fun ss => match setsE is ss env with
  | some env' => B.nx env'
  | none => false
structure SN (X : Cx) (es : List Expr) (is : List Nat) : Prop where
  ex : ∃ t, PGs X es t ∧ ∀ (vs : List V) (σ : L2.St) (H : Hp) (Q : L2.St → Hp → Prop), vs.length = is.length → Q ((is.zip vs).foldl (fun σ p => σ.set p.1 (some p.2)) σ) H → t vs σ H Q
section
variable {K : PySem.W.Frag} {W : Wd} {X : Cx} {e : Expr} {es : List Expr} {de : DE} {df : DF} {dm : DM} {pos : Pos} {is : List Nat}
theorem sm_nil : SM W X [] mNil := ⟨_, pa_nil, fun env σ F H k Q R h q => q [] [] [] F H (Stp.refl R.bs) .nil h⟩
theorem sm_e (a : SE W X e de) (r : SM W X es dm) (hs : starEach (e :: es) X.env = (false, eval e X.env) :: starEach es X.env := by rfl) : SM W X (e :: es) (mE de dm) := by
  obtain ⟨t1, p1, o1⟩ := a
  obtain ⟨t2, p2, o2⟩ := r
  refine ⟨_, pa_cons p1 p2 hs, fun env σ F H k Q R h q => ?_⟩
  exact o1 env σ F H _ _ R h fun d v F1 H1 s1 r1 h1 => o2 env σ F1 H1 _ _ (R.step s1) h1 fun ss vs ps F2 H2 s2 m2 h2 =>
    q (.fz d :: ss) (v :: vs) ps F2 H2 (s1.trans s2) (.fz (r1.mono s2.ff) (m2.back fun p n => back_none R.bs s1 n)) h2
theorem sm_f (a : SF W X e df) (r : SM W X es dm) (hs : starEach (e :: es) X.env = (false, eval e X.env) :: starEach es X.env := by rfl) : SM W X (e :: es) (mF df dm) := by
  obtain ⟨t1, p1, o1⟩ := a
  obtain ⟨t2, p2, o2⟩ := r
  refine ⟨_, pa_cons p1 p2 hs, fun env σ F H k Q R h q => ?_⟩
  refine o1 env σ F H _ _ R h fun ds xs F1 H1 p s1 hn hf hp ra h1 => o2 env σ F1 H1 _ _ (R.step s1) h1 fun ss vs ps F2 H2 s2 m2 h2 => ?_
  have np := ne_pp R.bs hn
  refine q (.ow ds :: ss) (.ref p :: vs) (p :: ps) F2 H2 (s1.trans s2) (.ow hn (s2.own hf (by rw [hp]; exact fun z => nomatch z)) (s2.fr _ _ np hp) np (ra.mono s2.ff) (fun hm => ?_) (m2.back fun p n => back_none R.bs s1 n)) h2
  have := m2.new p hm
  rw [hp] at this
  cases this
theorem sn_nil : SN X [] [] := ⟨_, pgs_nil, fun vs σ H Q hl q => by
  cases vs with
  | nil => exact ⟨rfl, q⟩
  | cons _ _ => cases hl⟩
theorem sn_cons {i : Nat} {x : Str} (r : SN X es is) (hN : X.N.Nodup) (hi : X.N[i]? = some x := by rfl) (hx : Loc X.env.scope x := by first | exact Or.inl rfl | exact Or.inr rfl) (hf : X.fn x = true ∨ X.env.scope.names.lookup x = some .local := by first | exact .inl rfl | exact .inr rfl)
    (hs : (assignEach (.Name x pos :: es) X.env).map (·.2) = assign (.Name x pos) X.env :: (assignEach es X.env).map (·.2) := by rfl) : SN X (.Name x pos :: es) (i :: is) := by
  obtain ⟨t, p, o⟩ := r
  refine ⟨_, pgs_cons (pg_name hN hi hx hf) p hs, fun vs σ H Q hl q => ?_⟩
  cases vs with
  | nil => cases hl
  | cons v vs => exact ⟨v, vs, rfl, o vs _ H Q (Nat.succ.inj hl) q⟩
theorem mix_rel {F H H0 : Hp} : ∀ {is : List Nat} {ss : List Sl} {vs : List V} {ps : List Addr} {env env' : Sls} {σ : L2.St}, Mxd K W.pp H0 F H ss vs ps → (∀ p, H0 p = none → W.H0 p = none) → Rel K W env σ F H →
    (∀ (j : Nat) (q : Addr) (es : List PyData), env[j]? = some (Sl.ow es) → σ[j]? = some (some (V.ref q)) → q ∉ ps) → setsE is ss env = some env' → vs.length = is.length ∧ Rel K W env' ((is.zip vs).foldl (fun σ p => σ.set p.1 (some p.2)) σ) F H
  | [], [], vs, ps, env, env', σ, m, h0, R, ap, e => by
    cases m
    cases e
    exact ⟨rfl, R⟩
  | [], _ :: _, vs, ps, env, env', σ, m, h0, R, ap, e => nomatch e
  | _ :: _, [], vs, ps, env, env', σ, m, h0, R, ap, e => nomatch e
  | i :: is, s :: ss, vs, ps, env, env', σ, m, h0, R, ap, e => by
    unfold setsE at e
    cases m with
    | @fz v d _ vs _ r m =>
      obtain ⟨h1, h2⟩ := mix_rel (is := is) m h0 (R.set r i) (fun j q es e1 g1 => by
        have n1 : i ≠ j := fun z => by
          subst z
          rw [List.getElem?_set, if_pos rfl] at e1
          split at e1 <;> cases e1
        rw [List.getElem?_set_ne n1] at e1 g1
        exact ap j q es e1 g1) e
      exact ⟨by rw [List.length_cons, List.length_cons, h1], h2⟩
    | @ow p xs ds _ vs ps n f hp np ra ni m =>
      have ap2 : ∀ (j : Nat) (q : Addr) (es : List PyData), env[j]? = some (Sl.ow es) → σ[j]? = some (some (V.ref q)) → q ≠ p := fun j q es e1 g1 z => ap j q es e1 g1 (by rw [z]; exact List.mem_cons_self)
      obtain ⟨h1, h2⟩ := mix_rel (is := is) m h0 (R.own1 hp f np (h0 _ n) ra ap2 i) (fun j q es e1 g1 => by
        by_cases n1 : i = j
        · subst n1
          have hl : i < σ.length := by
            rw [List.getElem?_set, if_pos rfl] at g1
            split at g1
            · assumption
            · cases g1
          rw [List.getElem?_set_self hl] at g1
          cases g1
          exact ni
        · rw [List.getElem?_set_ne n1] at e1 g1
          exact fun z => ap j q es e1 g1 (List.mem_cons_of_mem _ z)) e
      exact ⟨by rw [List.length_cons, List.length_cons, h1], h2⟩
theorem ss_mix {tes : List Expr} {k k2 : Nat} {pt pt2 : Pos} (hc : X.calm = true) (ha : SM W X es dm) (hg : SN X tes is) (hs : swapsWithSole [.Tuple tes k pt] (.Tuple es k2 pt2) pos.line X.env = pure false := by rfl) (hw : swappedStores [.Tuple tes k pt] (.Tuple es k2 pt2) X.env = pure none := by rfl)
    (h1 : (assignEach [.Tuple tes k pt] X.env).map (·.2) = [assign (.Tuple tes k pt) X.env] := by rfl) (hn : (assignEach tes X.env).length = is.length := by rfl) (hst : (assignEach tes X.env).findIdx? (·.1) = none := by rfl) (hz : is.length ≤ sizeLine := by decide) :
    SS W X (.Assign [.Tuple tes k pt] (.Tuple es k2 pt2) pos) (sMix is dm) := by
  obtain ⟨t, p, o⟩ := ha
  obtain ⟨tg, pg, og⟩ := hg
  refine ⟨_, ps_asg (pe_tup p) (pg_tup hc pg hn hst) hs hw h1, fun env σ F H B D R h q => ?_⟩
  refine o env σ F H _ _ R h fun ss vs ps F1 H1 s1 m h1 => ?_
  cases e : setsE is ss env with
  | none => simp only [e] at h1; cases h1
  | some env' =>
    simp only [e] at h1
    have h0 : ∀ p, H p = none → W.H0 p = none := fun p n => by
      cases z : W.H0 p with
      | none => rfl
      | some o =>
        have np := ne_pp R.bs n
        rw [R.st.fr p o np z] at n
        cases n
    have ap : ∀ (j : Nat) (q : Addr) (es : List PyData), env[j]? = some (Sl.ow es) → σ[j]? = some (some (V.ref q)) → q ∉ ps := fun j q es e1 g1 hm => by
      obtain ⟨p', xs', z1, z2, _⟩ := R.sl j _ e1
      rw [g1] at z1
      cases z1
      have := m.new q hm
      rw [z2] at this
      cases this
    obtain ⟨hl, _⟩ := mix_rel m h0 (R.step s1) ap e
    refine ⟨by rw [hl]; exact hz, fun a na => ⟨a, vs, rfl, .inl (.inl upd_same), hl, og vs σ _ _ hl ?_⟩⟩
    have st := Stp.newO (o := .tup vs) (R.step s1).bs na
    obtain ⟨_, R2⟩ := mix_rel (m.mono st) h0 ((R.step s1).step st) ap e
    exact q.nx env' _ F1 _ s1.ff R2 h1
end
end Dl

/-! zip of lists and tuples mixed, enumerate of a tuple -/
namespace Dl
open PySem PySem.Spec PyProof.Rows L2
open PySem.Sem (wp)
/-- a list or a tuple -/
inductive Sk where
  | l | t
def SqK (K : PySem.W.Frag) (H : Hp) : Sk → Addr → List V → Prop
  | .l, a, xs => SqL K H a xs
  | .t, a, xs => SqT K H a xs
def itH (h : Heap) : Sk → Addr → Addr → Nat → Prop
  | .l, it, a, i => h.IsListIter it a i
  | .t, it, a, i => h.IsTupleIter it a i
def sqH (h : Heap) : Sk → Addr → Array Value → Prop
  | .l, a, its => h.IsList a its
  | .t, a, its => h.IsTuple a its
def itO : Sk → Addr → Obj
  | .l, a => { cls := .type "list_iterator", data := .fields #[.ref a, .int 0 0] }
  | .t, a => { cls := .type "tuple_iterator", data := .fields #[.ref a, .int 0 0] }
theorem drK {prog : Program} {w : World} {A : Around} (hh : A.handled = none) (k : Sk) (it a : Addr) (ne : a ≠ it) (its : Array Value) : Draws prog w A it [it, a] its.size (fun i v => its[i]? = some v) (fun i h => itH h k it a i ∧ sqH h k a its) := by
  cases k with
  | l => exact Draws.list hh it a ne its
  | t => exact Draws.tuple hh it a ne its
theorem beK (k : Sk) (a : Addr) (its : Array Value) : Begins (.ref a) (itO k a) fun h => sqH h k a its := by
  cases k with
  | l => exact begins_list a its
  | t => exact begins_tuple a its
theorem itK_new {h : Heap} {k : Sk} {it a : Addr} (e : h.get? it = some (itO k a)) : itH h k it a 0 := by
  cases k with
  | l => exact ⟨_, e, rfl, rfl⟩
  | t => exact ⟨_, e, rfl, rfl⟩
theorem itK_obj {h : Heap} {k : Sk} {it a : Addr} {i : Nat} (e : itH h k it a i) : ∃ o, h.get? it = some o ∧ ∀ v, o.data ≠ .cell v := by
  cases k with
  | l => obtain ⟨o, h1, _, h3⟩ := e; exact ⟨o, h1, fun v q => by rw [h3] at q; cases q⟩
  | t => obtain ⟨o, h1, _, h3⟩ := e; exact ⟨o, h1, fun v q => by rw [h3] at q; cases q⟩
theorem itK_at {h h' : Heap} {k : Sk} {it a : Addr} {i : Nat} (e : itH h k it a i) (m : ∀ o, h.get? it = some o → h'.get? it = some o) : itH h' k it a i := by
  cases k with
  | l => exact Heap.IsListIter.at e m
  | t => exact Heap.IsTupleIter.at e m
section
variable {X : Cx} {pins : List (Addr × Obj)} {σ : L2.St} {H : Hp} {s : Shared} {k : Sk} {a : Addr} {xs ys : List V}
theorem sqk_its (I : Inv X pins σ H s) (h : SqK X.K H k a xs) : ∃ its : List Value, Vals xs its ∧ sqH s.heap k a its.toArray := by
  cases k with
  | l => obtain ⟨its, r, p, _⟩ := I.list h; exact ⟨its, r, p.isList⟩
  | t => obtain ⟨its, r, p, _⟩ := I.tuple h; exact ⟨its, r, p⟩
theorem sqk_inj (I : Inv X pins σ H s) (h : SqK X.K H k a xs) (h2 : SqK X.K H k a ys) : xs = ys := by
  cases k with
  | l => exact I.list_inj h h2
  | t => exact I.tuple_inj h h2
theorem sqh_lt {h : Heap} {its : Array Value} (e : sqH h k a its) : a < h.objs.size := by
  cases k with
  | l => obtain ⟨o, e, _⟩ := e; exact Heap.lt_size e
  | t => obtain ⟨o, e, _⟩ := e; exact Heap.lt_size e
theorem itH_lt {h : Heap} {it : Addr} {i : Nat} (e : itH h k it a i) : it < h.objs.size := by
  obtain ⟨o, e, _⟩ := itK_obj e; exact Heap.lt_size e
end
/-! ### zip -/
def ItG (K : PySem.W.Frag) (k1 k2 : Sk) (a b : Addr) : It where
  go := fun i H => ∃ (xs ys : List V) (x y : V), SqK K H k1 a xs ∧ SqK K H k2 b ys ∧ xs[i]? = some x ∧ ys[i]? = some y
  yld := fun i H v H' => ∃ T x y, v = .ref T ∧ H T = none ∧ H' = upd H T (.tup [x, y]) ∧ (∀ xs, SqK K H k1 a xs → xs[i]? = some x) ∧ ∀ ys, SqK K H k2 b ys → ys[i]? = some y
  stop := fun i H => ∃ xs ys : List V, SqK K H k1 a xs ∧ SqK K H k2 b ys ∧ i ≤ xs.length ∧ i ≤ ys.length ∧ (i = xs.length ∨ i = ys.length)
structure ZgSt (h : Heap) (k1 k2 : Sk) (a b z TI TO i1 i2 : Addr) (i : Nat) : Prop where
  zz : IsZip h z TI TO .none
  ti : IsTupOf2 h TI (.ref i1) (.ref i2)
  to : ∃ x y, IsTupOf2 h TO x y
  h1 : itH h k1 i1 a i
  h2 : itH h k2 i2 b i
theorem mem5 {c z TI TO i1 i2 : Addr} (h : c ∈ [z, TI, TO, i1, i2]) : c = z ∨ c = TI ∨ c = TO ∨ c = i1 ∨ c = i2 := by simpa using h
theorem turn_zg {P : Program} {w : World} {K : PySem.W.Frag} {elts : List Expr} {kk : Nat} {tpos : Pos} {k1 k2 : Sk} {a b z TI TO i1 i2 : Addr} (D : ZipSep2 z TI TO i1 i2 [i1, a] [i2, b]) (n1 : a ≠ i1) (n2 : b ≠ i2) :
    Turn P w K (.Tuple elts kk tpos) (ItG K k1 k2 a b) [z, TI, TO, i1, i2] z (fun i h => ZgSt h k1 k2 a b z TI TO i1 i2 i) where
  mem := by simp
  obj := fun i h st c hc => by
    obtain ⟨zz, ti, ⟨x, y, to⟩, h1, h2⟩ := st
    rcases mem5 hc with rfl | rfl | rfl | rfl | rfl
    · exact ⟨_, zz, fun v q => nomatch q⟩
    · exact ⟨_, ti, fun v q => nomatch q⟩
    · exact ⟨_, to, fun v q => nomatch q⟩
    · exact itK_obj h1
    · exact itK_obj h2
  keep := fun i h h' st m => by
    obtain ⟨zz, ti, ⟨x, y, to⟩, h1, h2⟩ := st
    exact ⟨m z (by simp) _ zz, m TI (by simp) _ ti, ⟨x, y, m TO (by simp) _ to⟩, itK_at h1 fun o q => m i1 (by simp) o q, itK_at h2 fun o q => m i2 (by simp) o q⟩
  item := by
    intro X eP eW eK hc i pins s σ H E I hf st hg
    subst eP eW eK
    obtain ⟨zz, ti, ⟨x0, y0, to⟩, h1, h2⟩ := st
    obtain ⟨xs, ys, x, y, qx, qy, ex, ey⟩ := hg
    obtain ⟨us, ru, p1⟩ := sqk_its I qx
    obtain ⟨ws, rw_, p2⟩ := sqk_its I qy
    obtain ⟨u, eu, ru1⟩ := ru.get ex
    obtain ⟨u2, eu2, ru2⟩ := rw_.get ey
    have hd := I.ok.hd hc
    have lz : z < s.heap.objs.size := Heap.lt_size zz
    have l1 : i < us.toArray.size := by rw [List.size_toArray]; exact (List.getElem?_eq_some_iff.mp eu).1
    have l2 : i < ws.toArray.size := by rw [List.size_toArray]; exact (List.getElem?_eq_some_iff.mp eu2).1
    refine wpAny_pyNext_zipD2_item D (drK (A := X.A.in1) hd k1 i1 a n1 us.toArray) (drK (A := X.A.in1) hd k2 i2 b n2 ws.toArray) zz ti to ⟨h1, p1⟩ ⟨h2, p2⟩ l1 l2 fun v1 v2 g tk f1 f2 zg tog s1 s2 tg szg kg => ?_
    have e1 : v1 = u := by
      have f1 : us.toArray[i]? = some v1 := f1
      rw [List.getElem?_toArray, eu] at f1
      exact (Option.some.inj f1).symm
    have e2 : v2 = u2 := by
      have f2 : ws.toArray[i]? = some v2 := f2
      rw [List.getElem?_toArray, eu2] at f2
      exact (Option.some.inj f2).symm
    subst e1 e2
    refine ⟨_, rfl, wpAny_letOwnedTupleGo_zip (s := { s with heap := g, toks := tk }) zg fun g2 zg2 sb => ?_⟩
    have t2 : g2.get? s.heap.objs.size = some { cls := .type "tuple", data := .seq #[v1, v2] } := (sb.2 _ (Nat.ne_of_gt lz)).trans tg
    have ok : ObjOk X.prog X.w (upd H s.heap.objs.size (.tup [x, y])) g2 s.heap.objs.size (.tup [x, y]) := ⟨by show 2 ≤ sizeLine; decide, [v1, v2], .cons ru1 (.cons ru2 .nil), ⟨_, t2, rfl, _, rfl⟩⟩
    have I1 : Inv X pins σ (upd H s.heap.objs.size (.tup [x, y])) { s with heap := g2, toks := tk } :=
      I.turnedNew (t' := tk) (ch := [z, TI, TO, i1, i2]) (fun c o hb q => (sb.2 c (fun e => hb (by simp [e]))).trans (kg c o (fun e => hb (by simp [e])) (fun e => hb (by simp [e])) (fun e => hb (by simp [e])) (fun e => hb (by simp [e])) q)) hf (Nat.le_refl _) ok
    have z1 : i1 ≠ z := fun e => D.zf1 (by rw [← e]; exact D.mem1)
    have z2 : i2 ≠ z := fun e => D.zf2 (by rw [← e]; exact D.mem2)
    refine ⟨.ref s.heap.objs.size, _, I1, rfl, ⟨_, x, y, rfl, I.hok.fresh (Nat.le_refl _), rfl, fun l hl => by rw [sqk_inj I hl qx]; exact ex, fun l hl => by rw [sqk_inj I hl qy]; exact ey⟩, ⟨zg2, (sb.2 _ D.TIz).trans (kg _ _ D.TIz D.TITO D.TIi1 D.TIi2 ti), ⟨v1, v2, (sb.2 _ D.TOz).trans tog⟩, itK_at s1.1 fun o q => (sb.2 _ z1).trans q, itK_at s2.1 fun o q => (sb.2 _ z2).trans q⟩, fun c hcm => ?_⟩
    have hlt : c < s.heap.objs.size := by
      rcases mem5 hcm with rfl | rfl | rfl | rfl | rfl
      · exact lz
      · exact Heap.lt_size ti
      · exact Heap.lt_size to
      · exact itH_lt h1
      · exact itH_lt h2
    rw [upd_ne (Nat.ne_of_lt hlt)]
    exact (hf c hcm).1
  done := by
    intro X eP eW eK hc i pins s σ H E I hf st hg
    subst eP eW eK
    obtain ⟨zz, ti, ⟨x0, y0, to⟩, h1, h2⟩ := st
    obtain ⟨xs, ys, qx, qy, l1, l2, he⟩ := hg
    obtain ⟨us, ru, p1⟩ := sqk_its I qx
    obtain ⟨ws, rw_, p2⟩ := sqk_its I qy
    have hd := I.ok.hd hc
    have e1 : us.toArray.size = xs.length := by rw [List.size_toArray, ru.length]
    have e2 : ws.toArray.size = ys.length := by rw [List.size_toArray, rw_.length]
    exact wpAny_pyNext_zipD2_end D (drK (A := X.A.in1) hd k1 i1 a n1 us.toArray) (drK (A := X.A.in1) hd k2 i2 b n2 ws.toArray) zz ti to ⟨h1, p1⟩ ⟨h2, p2⟩ (by rw [e1]; exact l1) (by rw [e2]; exact l2) (by rw [e1, e2]; exact he) fun g tk kg => ⟨rfl, I.turnedL (t' := tk) (ch := [z, TI, TO, i1, i2]) (fun c o hb q => kg c o (fun e => hb (by simp [e])) (fun e => hb (by simp [e])) (fun e => hb (by simp [e])) (fun e => hb (by simp [e])) q) hf⟩
  self := fun A i s Q E st h => wpAny_pyIter_zip st.zz h
def iZipG (K : PySem.W.Frag) (ta : TA) : TI := fun σ H R => ta σ H fun vs H1 => ∃ a b k1 k2 xs ys, vs = [.ref a, .ref b] ∧ SqK K H1 k1 a xs ∧ SqK K H1 k2 b ys ∧ R (ItG K k1 k2 a b) H1
theorem pi_zipG {X : Cx} {e e2 : Expr} {ta : TA} {p pos tpos : Pos} {elts : List Expr} {kk : Nat} (hg : Gl X "zip") (hm : X.mg "zip" = none) (ha : PA X [e, e2] ta)
    (hs : starEach [e, e2] X.env = (false, eval e X.env) :: starEach [e2] X.env := by rfl) (hpl : (backTo pos (starEach [e2] X.env)).any (·.1) = false := by rfl) :
    PI X (.Tuple elts kk tpos) (.Call (.Name "zip" p) [e, e2] [] pos) (iZipG X.K ta) := by
  refine ⟨fun pins s σ H R I h => Call_ (ld_blt I hg hm PyProof.Rows.boot_zip (PyProof.Rows.callWith_type1 (thn (ha.run pos pins s σ H _ I h) fun us s1 ⟨vs, H1, I1, r1, q1⟩ => ?_) hs hpl))⟩
  obtain ⟨a, b, k1, k2, xs, ys, ex, qx, qy, q⟩ := q1
  subst ex
  cases r1 with
  | cons r rr =>
    cases rr with
    | cons r' rr =>
      cases rr
      cases r
      cases r'
      obtain ⟨us, ru, p1⟩ := sqk_its I1 qx
      obtain ⟨ws, rw_, p2⟩ := sqk_its I1 qy
      have la := sqh_lt p1
      have lb := sqh_lt p2
      refine zip_begins2 (beK k1 a us.toArray) (beK k2 b ws.toArray) p1 p2 fun g zz ti to o1 o2 sz kp => wpAny_pyIter_zip zz ?_
      have I2 : Inv X pins σ H1 { s1 with heap := g } := I1.kept (t' := s1.toks) kp
      have D : ZipSep2 (s1.heap.objs.size + 4) (s1.heap.objs.size + 2) (s1.heap.objs.size + 3) s1.heap.objs.size (s1.heap.objs.size + 1) [s1.heap.objs.size, a] [s1.heap.objs.size + 1, b] := zip_sep2 (fun c hc => by simp at hc; rw [hc]; exact la) (fun c hc => by simp at hc; rw [hc]; exact lb)
      refine ⟨s1.heap.objs.size + 4, _, _, _, H1, rfl, I2, turn_zg (k1 := k1) (k2 := k2) D (Nat.ne_of_lt la) (Nat.ne_of_lt (Nat.lt_succ_of_lt lb)), ⟨zz, ti, ⟨_, _, to⟩, itK_new o1, itK_new o2⟩, fun c hc => ?_, q⟩
      have hle : s1.heap.objs.size ≤ c := by
        rcases mem5 hc with rfl | rfl | rfl | rfl | rfl
        · exact Nat.le_add_right _ _
        · exact Nat.le_add_right _ _
        · exact Nat.le_add_right _ _
        · exact Nat.le_refl _
        · exact Nat.le_add_right _ _
      exact I1.fpOk hle (I1.hok.fresh hle)
/-! ### enumerate -/
def ItE (K : PySem.W.Frag) (k : Sk) (a : Addr) : It where
  go := fun i H => ∃ (xs : List V) (x : V), SqK K H k a xs ∧ xs[i]? = some x
  yld := fun i H v H' => ∃ T x, v = .ref T ∧ H T = none ∧ H' = upd H T (.tup [.int (i : Nat), x]) ∧ ∀ xs, SqK K H k a xs → xs[i]? = some x
  stop := fun i H => ∃ xs : List V, SqK K H k a xs ∧ i = xs.length
theorem turn_eg {P : Program} {w : World} {K : PySem.W.Frag} {elts : List Expr} {kk : Nat} {tpos : Pos} {k : Sk} {a e it : Addr} (n1 : a ≠ it) (n2 : e ≠ it) (n3 : e ≠ a) :
    Turn P w K (.Tuple elts kk tpos) (ItE K k a) [e, it] e (fun i h => (∃ old, IsEnum h e it ((i : Nat) : Int) old) ∧ itH h k it a i) where
  mem := by simp
  obj := fun i h st c hc => by
    obtain ⟨⟨old, he⟩, h1⟩ := st
    have hc : c = e ∨ c = it := by simpa using hc
    rcases hc with rfl | rfl
    · exact ⟨_, he, fun v q => nomatch q⟩
    · exact itK_obj h1
  keep := fun i h h' st m => by
    obtain ⟨⟨old, he⟩, h1⟩ := st
    exact ⟨⟨old, m e (by simp) _ he⟩, itK_at h1 fun o q => m it (by simp) o q⟩
  item := by
    intro X eP eW eK hc i pins s σ H E I hf st hg
    subst eP eW eK
    obtain ⟨⟨old, he⟩, h1⟩ := st
    obtain ⟨xs, x, qx, ex⟩ := hg
    obtain ⟨us, ru, p1⟩ := sqk_its I qx
    obtain ⟨u, eu, ru1⟩ := ru.get ex
    have hd := I.ok.hd hc
    have le : e < s.heap.objs.size := Heap.lt_size he
    have l1 : i < us.toArray.size := by rw [List.size_toArray]; exact (List.getElem?_eq_some_iff.mp eu).1
    refine wpAny_pyNext_enum_itemC (drK (A := X.A.in1) hd k it a n1 us.toArray) he ⟨h1, p1⟩ l1 n2 (by simp [n2, n3]) fun v1 g tk f1 eo s1 tg szg kg => ?_
    have e1 : v1 = u := by
      have f1 : us.toArray[i]? = some v1 := f1
      rw [List.getElem?_toArray, eu] at f1
      exact (Option.some.inj f1).symm
    subst e1
    refine ⟨_, rfl, wpAny_letOwnedTupleGo_enum (s := { s with heap := g, toks := tk + 1 }) eo fun g2 eo2 sb => ?_⟩
    have t2 : g2.get? s.heap.objs.size = some { cls := .type "tuple", data := .seq #[.int i tk, v1] } := (sb.2 _ (Nat.ne_of_gt le)).trans tg
    have ok : ObjOk X.prog X.w (upd H s.heap.objs.size (.tup [.int (i : Nat), x])) g2 s.heap.objs.size (.tup [.int (i : Nat), x]) := ⟨by show 2 ≤ sizeLine; decide, [.int i tk, v1], .cons ⟨_, rfl⟩ (.cons ru1 .nil), ⟨_, t2, rfl, _, rfl⟩⟩
    have I1 : Inv X pins σ (upd H s.heap.objs.size (.tup [.int (i : Nat), x])) { s with heap := g2, toks := tk + 1 } :=
      I.turnedNew (t' := tk + 1) (ch := [e, it]) (fun c o hb q => (sb.2 c (fun z => hb (by simp [z]))).trans (kg c o (fun z => hb (by simp [z])) (fun z => hb (by simp [z])) q)) hf (Nat.le_refl _) ok
    refine ⟨.ref s.heap.objs.size, _, I1, rfl, ⟨_, x, rfl, I.hok.fresh (Nat.le_refl _), rfl, fun l hl => by rw [sqk_inj I hl qx]; exact ex⟩, ⟨⟨v1, ?_⟩, itK_at s1.1 fun o q => (sb.2 _ (Ne.symm n2)).trans q⟩, fun c hcm => ?_⟩
    · have z : ((i + 1 : Nat) : Int) = (i : Int) + 1 := by omega
      rw [z]; exact eo2
    · have hlt : c < s.heap.objs.size := by
        have hcm : c = e ∨ c = it := by simpa using hcm
        rcases hcm with rfl | rfl
        · exact le
        · exact itH_lt h1
      rw [upd_ne (Nat.ne_of_lt hlt)]
      exact (hf c hcm).1
  done := by
    intro X eP eW eK hc i pins s σ H E I hf st hg
    subst eP eW eK
    obtain ⟨⟨old, he⟩, h1⟩ := st
    obtain ⟨xs, qx, ei⟩ := hg
    obtain ⟨us, ru, p1⟩ := sqk_its I qx
    obtain ⟨f0, f1, f2, f3, f4, f5⟩ := hf it (by simp)
    have hd := I.ok.hd hc
    have e1 : i = us.toArray.size := by rw [List.size_toArray, ru.length.symm.trans ei.symm]
    subst e1
    exact wpAny_pyNext_enum_endD (drK (A := X.A.in1) hd k it a n1 us.toArray) he ⟨h1, p1⟩ fun g eb => ⟨rfl, I.turned (t' := s.toks) (fun c o hb q => eb c o hb q) f0 f1 f3 f4 f5⟩
  self := fun A i s Q E st h => let ⟨⟨_, he⟩, _⟩ := st; wpAny_pyIter_enum he h
theorem new_eg {v : Value} {ob : Obj} {Hy : Heap → Prop} (B : Begins v ob Hy) :
    Meets (Builtin.«enumerate.__new__» ⟨[.type "enumerate", v], []⟩) (fun _ R s => Hy s.heap ∧ R (.ok (.ret (.ref (s.heap.push ob).objs.size))) { s with heap := (s.heap.push ob).push { cls := .type "enumerate", data := .fields #[.none, .bool false, .ref s.heap.objs.size, rawInt 0, .none, .none] } }) :=
  .of_wp fun prog w A R s h => by
    obtain ⟨hp, gs, dr, tk, os⟩ := s
    obtain ⟨hy, h⟩ := h
    have se := sub_enumerate
    have go : ∀ {A' : Around} {E : Value → Shared → Prop} {Q : Value → Shared → Prop}, Q (.ref hp.objs.size) ⟨hp.push ob, gs, dr, tk, os⟩ → wpAny (model prog w) A' (pyIter v) Q E ⟨hp, gs, dr, tk, os⟩ := fun q => B.iter prog w _ _ ⟨hp, gs, dr, tk, os⟩ _ hy q
    wp_walk using go
    refine wpAny_stack_any fun _ => wpAny_pure ?_
    split
    · rename_i cc _ _ _ _ _
      cases (cc == Value.type "enumerate")
      · wp_walk using go
        exact ⟨_, rfl, h⟩
      · wp_walk using go
        exact ⟨_, rfl, h⟩
    · wp_walk using go
      exact ⟨_, rfl, h⟩
theorem call_eg {prog : Program} {w : World} {A : Around} {E : Value → Shared → Prop} {s : Shared} {v : Value} {ob : Obj} {Hy : Heap → Prop} {Q : Value → Shared → Prop} (B : Begins v ob Hy) (hy : Hy s.heap)
    (h : ∀ g, IsEnum g (s.heap.objs.size + 1) s.heap.objs.size 0 .none → g.get? s.heap.objs.size = some ob → g.objs.size = s.heap.objs.size + 2 → (∀ b o, s.heap.get? b = some o → g.get? b = some o) → Q (.ref (s.heap.objs.size + 1)) { s with heap := g }) :
    wpAny (model prog w) A (call (.type "enumerate") [v]) Q E s := by
  refine callType_new F.called_enumerate (by decide) (F.typeCall_enumerate_1 _) (F.newCall_enumerate_1 _) (fun x => F.args_object_init_2 x _) F.entry_enumerate_new (new_eg B) ⟨hy, ?_⟩
  have z1 : (s.heap.push ob).objs.size = s.heap.objs.size + 1 := Heap.size_push ..
  show _ ∧ _
  rw [z1]
  have en := Heap.get?_push_size (s.heap.push ob) (o := { cls := .type "enumerate", data := .fields #[.none, .bool false, .ref s.heap.objs.size, rawInt 0, .none, .none] }) rfl
  rw [z1] at en
  exact ⟨⟨_, en, rfl⟩, h _ en (Heap.get?_push_of_some _ (Heap.get?_push_size _ B.free)) (by rw [Heap.size_push, z1]) fun b o y => Heap.get?_push_of_some _ (Heap.get?_push_of_some _ y)⟩
def iEnumG (K : PySem.W.Frag) (ta : TA) : TI := fun σ H R => ta σ H fun vs H1 => ∃ a k xs, vs = [.ref a] ∧ SqK K H1 k a xs ∧ R (ItE K k a) H1
theorem pi_enumG {X : Cx} {e : Expr} {ta : TA} {p pos tpos : Pos} {elts : List Expr} {kk : Nat} (hg : Gl X "enumerate") (hm : X.mg "enumerate" = none) (ha : PA X [e] ta) (hs : starEach [e] X.env = [(false, eval e X.env)] := by rfl) :
    PI X (.Tuple elts kk tpos) (.Call (.Name "enumerate" p) [e] [] pos) (iEnumG X.K ta) := by
  refine ⟨fun pins s σ H R I h => Call_ (ld_blt I hg hm boot_enumerate (PyProof.Rows.callWith_type1 (thn (ha.run pos pins s σ H _ I h) fun us s1 ⟨vs, H1, I1, r1, q1⟩ => ?_) hs rfl))⟩
  obtain ⟨a, k, xs, ex, qx, q⟩ := q1
  subst ex
  cases r1 with
  | cons r rr =>
    cases rr
    cases r
    obtain ⟨us, ru, p1⟩ := sqk_its I1 qx
    have la := sqh_lt p1
    refine call_eg (beK k a us.toArray) p1 fun g he o1 sz kp => wpAny_pyIter_enum he ?_
    have I2 : Inv X pins σ H1 { s1 with heap := g } := I1.kept (t' := s1.toks) kp
    refine ⟨s1.heap.objs.size + 1, _, _, _, H1, rfl, I2, turn_eg (k := k) (a := a) (e := s1.heap.objs.size + 1) (it := s1.heap.objs.size) (Nat.ne_of_lt la) (Nat.succ_ne_self _) (Nat.ne_of_gt (Nat.lt_succ_of_lt la)), ⟨⟨.none, he⟩, itK_new o1⟩, fun c hc => ?_, q⟩
    have hc : c = s1.heap.objs.size + 1 ∨ c = s1.heap.objs.size := by simpa using hc
    have hle : s1.heap.objs.size ≤ c := by
      rcases hc with rfl | rfl
      · exact Nat.le_add_right _ _
      · exact Nat.le_refl _
    exact I1.fpOk hle (I1.hok.fresh hle)
/-! ### over data -/
def seqD : PyData → Option (List PyData)
  | .list xs => some xs
  | .tuple xs => some xs
  | _ => none
def iZipQ (a b : DE) : DI := fun env k => a env fun x => b env fun y => match seqD x with
  | some xs => (match seqD y with
    | some ys => k (zipD xs ys)
    | none => false)
  | none => false
def iEnumQ (a : DE) : DI := fun env k => a env fun x => match seqD x with
  | some xs => k (enumD 0 xs)
  | none => false
section
variable {W : Wd} {X : Cx} {K : PySem.W.Frag} {tg ea eb : Expr} {da db : DE} {pos : Pos}
theorem seqD_rp {F : Hp} {v : V} {d : PyData} {ds : List PyData} (e : seqD d = some ds) (r : Rp K F v d) : ∃ a k vl, v = .ref a ∧ (∀ F' H, Same F F' → Same F' H → SqK K H k a vl) ∧ RpAll K F vl ds := by
  cases d with
  | list xs =>
    cases e
    cases r with
    | lst h ra => exact ⟨_, .l, _, rfl, fun F' H s1 s2 => .inl (.inl (s2 _ _ (s1 _ _ h))), ra⟩
  | tuple xs =>
    cases e
    cases v with
    | ref a =>
      obtain ⟨vl, hs, ra⟩ := sqT_all r
      exact ⟨a, .t, vl, rfl, hs, ra⟩
    | _ => cases r
  | _ => cases e
theorem walk_zg {a b : Addr} {k1 k2 : Sk} {xs ys : List V} {n : Nat} (hn : n = min xs.length ys.length) : Walk (ItG K k1 k2 a b) n (fun H => SqK K H k1 a xs ∧ SqK K H k2 b ys) (YPair (fun i => xs[i]?) (fun i => ys[i]?)) := by
  subst hn
  refine ⟨fun i _ hi q => ?_, fun _ q => ⟨xs, ys, q.1, q.2, by omega, by omega, by omega⟩, fun i H v H' _ q y => ?_⟩
  · have h1 : i < xs.length := by omega
    have h2 : i < ys.length := by omega
    exact ⟨xs, ys, xs[i], ys[i], q.1, q.2, by simp [h1], by simp [h2]⟩
  · obtain ⟨T, x, z, h1, h2, h3, h4, h5⟩ := y
    exact ⟨T, x, z, h1, h2, h3, h4 xs q.1, h5 ys q.2⟩
theorem walk_eg {a : Addr} {k : Sk} {xs : List V} : Walk (ItE K k a) xs.length (fun H => SqK K H k a xs) (YPair (fun i => some (.int (i : Nat))) (fun i => xs[i]?)) := by
  refine ⟨fun i _ hi q => ⟨xs, xs[i], q, by simp [hi]⟩, fun _ q => ⟨xs, q, rfl⟩, fun i H v H' _ q y => ?_⟩
  obtain ⟨T, x, h1, h2, h3, h4⟩ := y
  exact ⟨T, _, x, h1, h2, h3, rfl, h4 xs q⟩
theorem si_zipQ {p tpos : Pos} {elts : List Expr} {kk : Nat} (hm : X.mg "zip" = none) (a : SE W X ea da) (b : SE W X eb db) (hg : Gl X "zip" := by rfl) (hs : starEach [ea, eb] X.env = (false, eval ea X.env) :: starEach [eb] X.env := by rfl) (hpl : (backTo pos (starEach [eb] X.env)).any (·.1) = false := by rfl)
    (h2 : starEach [eb] X.env = (false, eval eb X.env) :: starEach [] X.env := by rfl) : SI W X (.Tuple elts kk tpos) (.Call (.Name "zip" p) [ea, eb] [] pos) (iZipQ da db) := by
  obtain ⟨t, p1, o⟩ := a
  obtain ⟨t2, p2, o2⟩ := b
  refine ⟨_, pi_zipG hg hm (pa_cons p1 (pa_cons p2 pa_nil h2) hs) hs hpl, fun env σ F H k Q R h q => o env σ F H _ _ R h fun d v F1 H1 s1 r1 h1 => o2 env σ F1 H1 _ _ (R.step s1) h1 fun d2 v2 F2 H2 s2 r2 h2 => ?_⟩
  have B := ((R.step s1).step s2).bs
  have r1 := r1.mono s2.ff
  cases e : seqD d with
  | none => simp only [e] at h2; cases h2
  | some xs =>
    cases e2 : seqD d2 with
    | none => simp only [e, e2] at h2; cases h2
    | some ys =>
      simp only [e, e2] at h2
      obtain ⟨pa, k1, vl, rfl, ha, ra⟩ := seqD_rp e r1
      obtain ⟨pb, k2, wl, rfl, hb, rb⟩ := seqD_rp e2 r2
      refine ⟨pa, pb, k1, k2, vl, wl, rfl, ha F2 H2 (Same.refl F2) B.fh, hb F2 H2 (Same.refl F2) B.fh, q _ _ F2 H2 (s1.trans s2) ?_ h2⟩
      refine ⟨fun H => SqK X.K H k1 pa vl ∧ SqK X.K H k2 pb wl, _, walk_zg (by rw [zipD_len, ra.length, rb.length]), fun F H e1 e2 => ⟨ha F H e1 e2, hb F H e1 e2⟩, fun i H x H2 F d e1 B hd y => ?_⟩
      obtain ⟨z, z2, h1, h2, h3⟩ := zipD_at xs ys i d hd
      obtain ⟨v, h4, h5⟩ := ra.at h1
      obtain ⟨v2, h6, h7⟩ := rb.at h2
      subst h3
      exact walkPair B y h4 h6 (h5.mono e1) (h7.mono e1)
theorem si_enumQ {p tpos : Pos} {elts : List Expr} {kk : Nat} (hm : X.mg "enumerate" = none) (a : SE W X ea da) (hg : Gl X "enumerate" := by rfl) (hs : starEach [ea] X.env = [(false, eval ea X.env)] := by rfl) (hs2 : starEach [ea] X.env = (false, eval ea X.env) :: starEach [] X.env := by rfl) :
    SI W X (.Tuple elts kk tpos) (.Call (.Name "enumerate" p) [ea] [] pos) (iEnumQ da) := by
  obtain ⟨t, q, o⟩ := a
  refine ⟨_, pi_enumG hg hm (pa_cons q pa_nil hs2) hs, fun env σ F H k Q R h q => o env σ F H _ _ R h fun d v F1 H1 s1 r1 h1 => ?_⟩
  have B := (R.step s1).bs
  cases e : seqD d with
  | none => simp only [e] at h1; cases h1
  | some xs =>
    simp only [e] at h1
    obtain ⟨pa, k1, vl, rfl, ha, ra⟩ := seqD_rp e r1
    refine ⟨pa, k1, vl, rfl, ha F1 H1 (Same.refl F1) B.fh, q _ _ F1 H1 s1 ?_ h1⟩
    refine ⟨fun H => SqK X.K H k1 pa vl, _, by rw [enumD_len, ← ra.length]; exact walk_eg, fun F H e1 e2 => ha F H e1 e2, fun i H x H2 F d e1 B hd y => ?_⟩
    obtain ⟨z, h1, h2⟩ := enumD_at xs 0 i d hd
    obtain ⟨v, h3, h4⟩ := ra.at h1
    subst h2
    rw [Nat.zero_add]
    exact walkPair B y rfl h3 (.int _) (h4.mono e1)
end
end Dl

/-! sum of lists and tuples, sorted lists of whole numbers -/
namespace Dl
open PySem PySem.Spec PyProof.Rows L2
section
variable {W : Wd} {X : Cx} {K : PySem.W.Frag}
def rSum2 (K : PySem.W.Frag) : List V → Hp → VK → Prop := fun vs H Q => ∃ (a : Addr) (ns : List Int), vs = [V.ref a] ∧ (SqL K H a (ns.map V.int) ∨ SqT K H a (ns.map V.int)) ∧ Q (.int ns.sum) H
theorem cr_sum2 (hc : X.calm = true) : CallR X (.builtin "sum") (rSum2 X.K) := by
  intro pins s σ H vs us Q I r h
  obtain ⟨a, ns, rfl, hs, q⟩ := h
  rw [Vals.ref1 r]
  rcases hs with hs | hs
  · obtain ⟨its, rv, hl, _⟩ := I.list hs
    exact sum_raw (I.ok.hd hc) hl.isList rv.ints fun h' tk t' hk => ⟨.int _, H, I.kept hk, ⟨_, rfl⟩, q⟩
  · obtain ⟨its, rv, hl, _⟩ := I.tuple hs
    have hi := rv.ints
    have hl : s.heap.IsTuple a its.toArray := hl
    obtain ⟨xs, hx⟩ := hi.allInts.items
    have hn : numsOf its.toArray.toList = ns := by rw [show its.toArray.toList = its from rfl, hi.numsOf]
    rw [hx] at hl hn
    rw [nums_intItems] at hn
    refine PySem.W.ktm_sumG (I.ok.hd hc) hl fun h' tk t' hk => ⟨.int _, H, I.kept hk, ⟨t', ?_⟩, q⟩
    rw [preSum_eq, List.take_of_length_le (by simp), hn]
def gSum2 : GC := fun ds k => match ds with
  | [.list xs] => (match intsOf xs with
    | some ns => k (.int ns.sum)
    | none => false)
  | [.tuple xs] => (match intsOf xs with
    | some ns => k (.int ns.sum)
    | none => false)
  | _ => false
theorem ok_sum2 : OkC K W (rSum2 K) gSum2 := fun F H vs ds k Q B r h q => by
  cases r with
  | nil => cases h
  | @cons v vs d ds r1 r =>
    cases r with
    | cons _ _ => cases d <;> cases h
    | nil =>
      cases d with
      | list xs =>
        cases e : intsOf xs with
        | none => simp only [gSum2, e] at h; cases h
        | some ns =>
          simp only [gSum2, e] at h
          cases r1 with
          | @lst pa vl _ ha ra =>
            rw [intsOf_ok e] at ra
            rw [ra.ints] at ha
            exact ⟨_, ns, rfl, .inl (.inl (.inl (B.keep ha))), q _ _ F H (Stp.refl B) (.int _) h⟩
      | tuple xs =>
        cases e : intsOf xs with
        | none => simp only [gSum2, e] at h; cases h
        | some ns =>
          simp only [gSum2, e] at h
          cases v with
          | ref p =>
            obtain ⟨vs, hs, ra⟩ := sqT_of B.fh r1
            rw [intsOf_ok e] at ra
            rw [ra.ints] at hs
            exact ⟨_, ns, rfl, .inr hs, q _ _ F H (Stp.refl B) (.int _) h⟩
          | _ => cases r1
      | _ => cases h
def insI2 (x : Int) : List Int → List Int
  | [] => [x]
  | y :: r => match decide (x ≤ y) with
    | true => x :: y :: r
    | false => y :: insI2 x r
def sortI2 : List Int → List Int
  | [] => []
  | x :: r => insI2 x (sortI2 r)
theorem insI2_perm (x : Int) : ∀ l, (insI2 x l).Perm (x :: l)
  | [] => .refl _
  | y :: r => by
    unfold insI2
    split
    · exact .refl _
    · exact ((insI2_perm x r).cons y).trans (.swap x y r)
theorem sortI2_perm : ∀ l, (sortI2 l).Perm l
  | [] => .refl _
  | x :: r => (insI2_perm x _).trans ((sortI2_perm r).cons x)
theorem insI2_rise (x : Int) : ∀ l, l.Pairwise (· ≤ ·) → (insI2 x l).Pairwise (· ≤ ·)
  | [], _ => List.pairwise_singleton _ _
  | y :: r, h => by
    obtain ⟨h1, h2⟩ := List.pairwise_cons.mp h
    unfold insI2
    split
    · rename_i e
      have e := of_decide_eq_true e
      refine List.pairwise_cons.mpr ⟨fun z hz => ?_, h⟩
      rcases List.mem_cons.mp hz with rfl | hz
      · exact e
      · exact Int.le_trans e (h1 z hz)
    · rename_i e
      have e := of_decide_eq_false e
      refine List.pairwise_cons.mpr ⟨fun z hz => ?_, insI2_rise x r h2⟩
      rcases List.mem_cons.mp ((insI2_perm x r).mem_iff.mp hz) with rfl | hz
      · omega
      · exact h1 z hz
theorem sortI2_rise : ∀ l, (sortI2 l).Pairwise (· ≤ ·)
  | [] => .nil
  | x :: r => insI2_rise x _ (sortI2_rise r)
def gSorted : GC := gInts fun ns k => match Nat.blt ns.length 64 with
  | true => k (.list ((sortI2 ns).map .int))
  | false => false
theorem rpAll_ints {F : Hp} : ∀ ns : List Int, RpAll K F (ns.map V.int) (ns.map PyData.int)
  | [] => .nil
  | i :: ns => .cons (.int i) (rpAll_ints ns)
theorem ok_sorted : OkC K W (rSorted K) gSorted := fun F H vs ds k Q B r h q => by
  obtain ⟨a, ns, rfl, ha, h⟩ := gInts_ok r h
  cases e : Nat.blt ns.length 64 with
  | false => rw [e] at h; cases h
  | true =>
    rw [e] at h
    refine ⟨a, ns, rfl, .inl (.inl (B.keep ha)), Nat.le_of_ble_eq_true e, fun ns' p hp hr np => ?_⟩
    have es : ns' = sortI2 ns := (hp.trans (sortI2_perm ns).symm).eq_of_pairwise (fun a b _ _ h1 h2 => Int.le_antisymm h1 h2) hr (sortI2_rise ns)
    subst es
    have st := Stp.new (o := .lst ((sortI2 ns).map V.int)) B np
    exact q _ _ _ _ st (.lst upd_same (rpAll_ints _)) h
theorem se_dict0 {pos : Pos} : SE W X (.Dict [] [] pos) (dC (.dict [])) :=
  ⟨_, pe_dnewK, fun env σ F H k Q R h q => fun p np => q (.dict []) (.ref p) _ _ (Stp.new (o := .dK []) R.bs np) (.dct0 upd_same) h⟩
/-! a new list out of lists of one's own, lent -/
def fBor (is : List Nat) (a : DF) : DF := fun env k => match frzAll env is with
  | some env' => a env' fun ds => (match noLists ds with
    | true => k ds
    | false => false)
  | none => false
theorem rpAll_onlyT {F F' : Hp} (s : Same F F') : ∀ {vs : List V} {ds : List PyData}, RpAll K F' vs ds → noLists ds = true → RpAll K (onlyT F F') vs ds
  | _, _, .nil, _ => .nil
  | _, _, .cons h r, e => by
    unfold noLists at e
    rw [Bool.and_eq_true] at e
    exact .cons (rp_onlyT s h e.1) (rpAll_onlyT s r e.2)
theorem sf_bor {e : Expr} {df : DF} (is : List Nat) (h : SF W X e df) : SF W X e (fBor is df) := by
  obtain ⟨t, p, o⟩ := h
  refine ⟨t, p, fun env σ F H k Q R h q => ?_⟩
  unfold fBor at h
  cases e : frzAll env is with
  | none => rw [e] at h; cases h
  | some env' =>
    rw [e] at h
    obtain ⟨F1, s1, n1, R1⟩ := R.fzAll e
    refine o env' σ F1 H _ _ R1 h fun ds xs F' H' p s hn hf hp ra hk => ?_
    cases e2 : noLists ds with
    | false => simp only [e2] at hk; cases hk
    | true =>
      simp only [e2] at hk
      have hF : F p = none := none_of R.bs hn
      refine q ds xs _ H' p (stp_onlyT R.bs s1 n1 s) hn ?_ hp (rpAll_onlyT (s1.trans s.ff) ra e2) hk
      unfold onlyT
      rw [hF, hf]
/-- a new list as an expression -/
def dNew (a : DF) : DE := fun env k => a env fun ds => k (.list ds)
theorem se_new {e : Expr} {df : DF} (h : SF W X e df) : SE W X e (dNew df) := by
  obtain ⟨t, p, o⟩ := h
  exact ⟨t, p, fun env σ F H k Q R h q => o env σ F H _ _ R h fun ds xs F' H' p s hn hf hp ra hk => q (.list ds) (.ref p) (upd F' p (.lst xs)) H' (s.freeze hn hf hp) (.lst upd_same (ra.mono (same_upd hf))) hk⟩
end
end Dl

namespace Dl
open PySem PySem.Spec PyProof.Rows L2
/-! ### what a reading comes to, as an equation -/
abbrev Ev (f : KF → Bool) (d : PyData) : Prop := ∀ k : KF, f k = k d
abbrev EvT (f : (Bool → Bool) → Bool) (b : Bool) : Prop := ∀ k : Bool → Bool, f k = k b
abbrev EvA (f : (List PyData → Bool) → Bool) (ds : List PyData) : Prop := ∀ k : List PyData → Bool, f k = k ds
abbrev EvO (f : (Option Int → Bool) → Bool) (o : Option Int) : Prop := ∀ k : Option Int → Bool, f k = k o
abbrev EvM (f : (List Sl → Bool) → Bool) (ss : List Sl) : Prop := ∀ k : List Sl → Bool, f k = k ss
abbrev EvG (f : (Sls → Bool) → Bool) (e : Sls) : Prop := ∀ k : Sls → Bool, f k = k e
section
variable {env env' : Sls} {a b c : DE} {g g' : G2} {u : G1} {gc : GC} {x y z r : PyData} {i j : Nat} {dr da : DA} {ds es xs : List PyData} {m : Fn} {n : Nat} {t t1 t2 : DT} {p q : Bool} {o o2 : DO} {l l2 : Option Int} {df df2 : DF} {dm : DM} {ss : List Sl} {it : DI}
theorem ev_var (h : look env i = .fz x) : Ev (dVar i env) x := fun k => by unfold dVar; rw [h]
theorem ev_c : Ev (dC x env) x := fun _ => rfl
theorem ev_op (ha : Ev (a env) x) (hb : Ev (b env) y) (hg : Ev (g x y) z) : Ev (dOp g a b env) z := fun k => by unfold dOp; rw [ha, hb, hg]
theorem ev_un (ha : Ev (a env) x) (hg : Ev (u x) z) : Ev (dUn u a env) z := fun k => by unfold dUn; rw [ha, hg]
theorem eva_nil : EvA (aNil env) [] := fun _ => rfl
theorem eva_cons (ha : Ev (a env) x) (hr : EvA (dr env) xs) : EvA (aCons a dr env) (x :: xs) := fun k => by unfold aCons; rw [ha, hr]
theorem eva_pot (h : look env i = .pt) (hr : EvA (dr env) xs) : EvA (aPot i dr env) (potD :: xs) := fun k => by unfold aPot; rw [h]; exact hr _
theorem ev_tup (ha : EvA (dr env) ds) (hl : small ds.length = true) : Ev (dTup dr env) (.tuple ds) := fun k => by unfold dTup; rw [ha, hl]
theorem ev_lst (ha : EvA (dr env) ds) (hl : small ds.length = true) : Ev (dLst dr env) (.list ds) := fun k => by unfold dLst; rw [ha, hl]
theorem ev_cb (ha : EvA (dr env) ds) (hg : Ev (gc ds) r) : Ev (dCB gc dr env) r := fun k => by unfold dCB; rw [ha, hg]
theorem ev_call (ha : EvA (dr env) ds) (hm : Ev (m ds) r) (hl : Nat.beq ds.length n = true) : Ev (dCallN n m dr env) r := fun k => by unfold dCallN; rw [ha, hl]; exact hm k
theorem ev_callK {perm : List Nat} (ha : EvA (dr env) ds) (hm : Ev (m (permD .none perm ds)) r) (hl : (Nat.beq ds.length j && Nat.beq perm.length n && perm.all fun i => Nat.blt i j) = true) : Ev (dCallK n j perm m dr env) r := fun k => by unfold dCallK; rw [ha, hl]; exact hm k
theorem evf_call (ha : EvA (dr env) ds) (hm : Ev (m ds) (.list es)) (hl : Nat.beq ds.length n = true) : EvA (fCallN n m dr env) es := fun k => by unfold fCallN; rw [ha, hl]; exact hm _
theorem ev_ifT (ht : EvT (t env) true) (ha : Ev (a env) x) : Ev (dIf t a b env) x := fun k => by unfold dIf; rw [ht]; exact ha k
theorem ev_ifF (ht : EvT (t env) false) (ha : Ev (b env) x) : Ev (dIf t a b env) x := fun k => by unfold dIf; rw [ht]; exact ha k
theorem evt_b (ha : Ev (a env) (.bool p)) : EvT (dB a env) p := fun k => by unfold dB; rw [ha]
theorem evt_not (ha : EvT (t env) p) : EvT (dNot t env) (!p) := fun k => by unfold dNot; rw [ha]
theorem evt_andT (ha : EvT (t1 env) true) (hb : EvT (t2 env) p) : EvT (dAnd t1 t2 env) p := fun k => by unfold dAnd; rw [ha]; exact hb k
theorem evt_andF (ha : EvT (t1 env) false) : EvT (dAnd t1 t2 env) false := fun k => by unfold dAnd; rw [ha]
theorem evt_orF (ha : EvT (t1 env) false) (hb : EvT (t2 env) p) : EvT (dOr t1 t2 env) p := fun k => by unfold dOr; rw [ha]; exact hb k
theorem evt_orT (ha : EvT (t1 env) true) : EvT (dOr t1 t2 env) true := fun k => by unfold dOr; rw [ha]
theorem ev_andT (ha : Ev (a env) (.bool true)) (hb : Ev (b env) x) : Ev (dAndV a b env) x := fun k => by unfold dAndV; rw [ha]; exact hb k
theorem ev_andF (ha : Ev (a env) (.bool false)) : Ev (dAndV a b env) (.bool false) := fun k => by unfold dAndV; rw [ha]
theorem ev_orF (ha : Ev (a env) (.bool false)) (hb : Ev (b env) x) : Ev (dOrV a b env) x := fun k => by unfold dOrV; rw [ha]; exact hb k
theorem ev_orT (ha : Ev (a env) (.bool true)) : Ev (dOrV a b env) (.bool true) := fun k => by unfold dOrV; rw [ha]
theorem ev_notV (ha : Ev (a env) (.bool p)) : Ev (dNotV a env) (.bool (!p)) := fun k => by unfold dNotV; rw [ha]
theorem ev_to {f : KF → Bool} (h : Ev f x) (e : x = y) : Ev f y := e ▸ h
theorem ev_toB {f : KF → Bool} (h : Ev f (.bool p)) (e : p = q) : Ev f (.bool q) := e ▸ h
theorem evt_to {f : (Bool → Bool) → Bool} (h : EvT f p) (e : p = q) : EvT f q := e ▸ h
theorem eva_to {f : (List PyData → Bool) → Bool} (h : EvA f ds) (e : ds = xs) : EvA f xs := e ▸ h
theorem ev_notT (ha : Ev (a env) (.bool false)) : Ev (dNotV a env) (.bool true) := ev_notV ha
theorem ev_notF (ha : Ev (a env) (.bool true)) : Ev (dNotV a env) (.bool false) := ev_notV ha
theorem evt_notT (ha : EvT (t env) false) : EvT (dNot t env) true := evt_not ha
theorem evt_notF (ha : EvT (t env) true) : EvT (dNot t env) false := evt_not ha
/-- by cases on the first -/
theorem ev_and (ha : Ev (a env) (.bool p)) (hb : p = true → Ev (b env) (.bool q)) : Ev (dAndV a b env) (.bool (p && q)) := fun k => by
  unfold dAndV; rw [ha]
  cases p with
  | true => exact hb rfl k
  | false => rfl
theorem ev_or (ha : Ev (a env) (.bool p)) (hb : p = false → Ev (b env) (.bool q)) : Ev (dOrV a b env) (.bool (p || q)) := fun k => by
  unfold dOrV; rw [ha]
  cases p with
  | true => rfl
  | false => exact hb rfl k
theorem evt_and (ha : EvT (t1 env) p) (hb : p = true → EvT (t2 env) q) : EvT (dAnd t1 t2 env) (p && q) := fun k => by
  unfold dAnd; rw [ha]
  cases p with
  | true => exact hb rfl k
  | false => rfl
theorem evt_or (ha : EvT (t1 env) p) (hb : p = false → EvT (t2 env) q) : EvT (dOr t1 t2 env) (p || q) := fun k => by
  unfold dOr; rw [ha]
  cases p with
  | true => rfl
  | false => exact hb rfl k
theorem ev_is {cl : Tc} (ha : Ev (a env) x) : Ev (dIs cl a env) (.bool (cl.has x)) := fun k => by unfold dIs; rw [ha]
theorem ev_isLT (ha : Ev (a env) x) : Ev (dIsLT a env) (.bool (Tc.list.has x || Tc.tuple.has x)) := fun k => by unfold dIsLT; rw [ha]
theorem ev_chain (ha : Ev (a env) x) (hb : Ev (b env) y) (hg : Ev (g x y) (.bool p)) (hc : p = true → Ev (c env) z) (hg' : p = true → Ev (g' y z) (.bool q)) : Ev (dChain g g' a b c env) (.bool (p && q)) := fun k => by
  unfold dChain; rw [ha, hb, hg]
  cases p with
  | true => show c env _ = _; rw [hc rfl]; exact hg' rfl k
  | false => rfl
theorem ev_chT (ha : Ev (a env) x) (hb : Ev (b env) y) (hg : Ev (g x y) (.bool true)) (hc : Ev (c env) z) (hg' : Ev (g' y z) (.bool true)) : Ev (dChain g g' a b c env) (.bool true) := ev_chain (p := true) (q := true) ha hb hg (fun _ => hc) (fun _ => hg')
theorem evo_none : EvO (oNone env) none := fun _ => rfl
theorem evo_some {i : Int} (ha : Ev (a env) (.int i)) : EvO (oSome a env) (some i) := fun k => by unfold oSome; rw [ha]
theorem ev_sl (ha : Ev (a env) x) (hl : EvO (o env) l) (hu : EvO (o2 env) l2) (hg : Ev (gCut l l2 x) r) : Ev (dSl a o o2 env) r := fun k => by unfold dSl; rw [ha, hl, hu, hg]
theorem ev_repr2 {f : Bool} (ha : Ev (a env) x) (hb : Ev (b env) y) (h : reprOk x = true) (e : y = x) : Ev (dRepr2 f a b env) (.bool f) := fun k => by
  unfold dRepr2; rw [ha, h]
  show b env _ = _
  rw [hb, e, reprOk_same h]
/-- lists of one's own -/
theorem evf_lst (ha : EvA (dr env) ds) (hl : small ds.length = true) : EvA (fLst dr env) ds := fun k => by unfold fLst; rw [ha, hl]
theorem evf_cat (ha : Ev (a env) (.list xs)) (hb : Ev (b env) (.list ds)) (hl : small (xs.length + ds.length) = true) : EvA (fCat a b env) (xs ++ ds) := fun k => by unfold fCat; rw [ha, hb]; simp only [hl]
theorem evf_listL (ha : Ev (a env) (.list xs)) : EvA (fList a env) xs := fun k => by unfold fList; rw [ha]
theorem evf_listT (ha : Ev (a env) (.tuple xs)) : EvA (fList a env) xs := fun k => by unfold fList; rw [ha]
theorem evm_nil : EvM (mNil env) [] := fun _ => rfl
theorem evm_e (ha : Ev (a env) x) (hr : EvM (dm env) ss) : EvM (mE a dm env) (.fz x :: ss) := fun k => by unfold mE; rw [ha, hr]
theorem evm_f (ha : EvA (df env) xs) (hr : EvM (dm env) ss) : EvM (mF df dm env) (.ow xs :: ss) := fun k => by unfold mF; rw [ha, hr]
/-- reading lists of one's own -/
theorem ev_bor {is : List Nat} (h : frzAll env is = some env') (ha : Ev (a env') x) (hn : noList x = true) : Ev (dBor is a env) x := fun k => by unfold dBor; rw [h]; show a env' _ = _; rw [ha]; simp only [hn]
/-- operators -/
theorem op_add' {i j : Int} : Ev (gAdd (.int i) (.int j)) (.int (i + j)) := fun k => gAdd_of i j k
theorem op_sub' {i j : Int} : Ev (gSub (.int i) (.int j)) (.int (i - j)) := fun k => gSub_of i j k
theorem op_mul' {i j : Int} (h : mulOk i j = true) : Ev (gMul (.int i) (.int j)) (.int (i * j)) := fun k => gMul_of h k
theorem op_I {f : Int → Int → Bool} {i j : Int} : Ev (gI f (.int i) (.int j)) (.bool (f i j)) := fun k => rfl
theorem op_ixL {i : Int} (h : atI xs i = some x) : Ev (gIx (.list xs) (.int i)) x := fun k => by unfold gIx; simp only [h]
theorem op_ixT {i : Int} (h : atI xs i = some x) : Ev (gIx (.tuple xs) (.int i)) x := fun k => by unfold gIx; simp only [h]
theorem op_catL (hl : small (xs.length + ds.length) = true) : Ev (gAdd (.list xs) (.list ds)) (.list (xs ++ ds)) := fun k => by unfold gAdd; simp only [hl]
theorem op_catT (hl : small (xs.length + ds.length) = true) : Ev (gAdd (.tuple xs) (.tuple ds)) (.tuple (xs ++ ds)) := fun k => by unfold gAdd; simp only [hl]
theorem op_eq' (h1 : plD 40 x = true) (h2 : plD 40 y = true) : Ev (gEq x y) (.bool (fEq x y)) := fun k => gEqF_pl h1 h2
theorem op_ne' (h1 : plD 40 x = true) (h2 : plD 40 y = true) : Ev (gNe x y) (.bool (!fEq x y)) := fun k => gEqF_pl h1 h2
theorem op_eqI {i j : Int} : Ev (gEq (.int i) (.int j)) (.bool (eqI i j)) := fun k => rfl
theorem op_neI {i j : Int} : Ev (gNe (.int i) (.int j)) (.bool (!eqI i j)) := fun k => rfl
theorem op_isT {b : Bool} : Ev (gIs (.bool b) (.bool true)) (.bool b) := fun k => by cases b <;> rfl
theorem op_isNT {b : Bool} : Ev (gIsNot (.bool b) (.bool true)) (.bool (!b)) := fun k => by cases b <;> rfl
theorem op_revL : Ev (gRev (.list xs)) (.list xs.reverse) := fun k => rfl
theorem op_cutL : Ev (gCut l l2 (.list xs)) (.list (cutD xs l l2)) := fun k => rfl
theorem op_cutT : Ev (gCut l l2 (.tuple xs)) (.tuple (cutD xs l l2)) := fun k => rfl
theorem op_neg {i : Int} : Ev (gNeg (.int i)) (.int (-i)) := fun k => rfl
theorem cb_lenL : Ev (gLen [.list xs]) (.int xs.length) := fun k => rfl
theorem cb_lenT : Ev (gLen [.tuple xs]) (.int xs.length) := fun k => rfl
theorem cb_tupL : Ev (gTuple [.list xs]) (.tuple xs) := fun k => rfl
theorem cb_tupT : Ev (gTuple [.tuple xs]) (.tuple xs) := fun k => rfl
theorem cb_lstL : Ev (gList [.list xs]) (.list xs) := fun k => rfl
theorem cb_lstT : Ev (gList [.tuple xs]) (.list xs) := fun k => rfl
theorem cb_abs {i : Int} : Ev (gAbs [.int i]) (.int (if i < 0 then -i else i)) := fun k => rfl
theorem cb_repr (h : reprOk x = true) : Ev (gRepr [x]) (.str x.shown) := fun k => by unfold gRepr; simp only [h]
theorem cb_bools {f : List Bool → Bool} {bs : List Bool} (h : ds = bs.map PyData.bool) : Ev (gBools f [.list ds]) (.bool (f bs)) := fun k => by
  subst h
  have e : ∀ bs : List Bool, boolsOf (bs.map PyData.bool) = some bs := fun bs => by
    induction bs with
    | nil => rfl
    | cons b r ih => simp only [List.map_cons, boolsOf, ih]
  unfold gBools
  simp only [e]
end
end Dl

namespace Dl
open PySem PySem.Spec PyProof.Rows L2
/-! ### what statements come to -/
abbrev Ex (s : DS) (env e : Sls) : Prop := ∀ B : DEnds, s B env = B.nx e
abbrev Rt (s : DS) (env : Sls) (d : PyData) : Prop := ∀ B : DEnds, s B env = B.rt d
abbrev ExF (g : DG) (body : DS) (xs : List PyData) (env e : Sls) : Prop := ∀ B : DEnds, goFor g body B xs env = B.nx e
section
variable {env e e1 e2 e3 : Sls} {a b s body : DS} {de dx : DE} {df df2 : DF} {g : DG} {gs : DGs} {x y z d : PyData} {ds es xs : List PyData} {i j l n : Nat} {dr : DA} {dm : DM} {ss : List Sl} {it : DI} {c : DT} {B : DEnds} {k : KF}
theorem evg_n : EvG (gN i d env) (env.set i (.fz d)) := fun _ => rfl
theorem evgs_nil : EvG (gsNil [] env) env := fun _ => rfl
theorem evgs_cons (h1 : EvG (g x env) e1) (h2 : EvG (gs xs e1) e2) : EvG (gsCons g gs (x :: xs) env) e2 := fun k => by
  show g x env (fun env' => gs xs env' k) = _
  rw [h1, h2]
theorem evg_t (h : EvG (gs ds env) e) (hl : Nat.beq ds.length n = true) : EvG (gT n gs (.tuple ds) env) e := fun k => by unfold gT; simp only [hl]; exact h k
theorem ex_nil : Ex sNil env env := fun _ => rfl
theorem ex_seq (h1 : Ex a env e1) (h2 : Ex b e1 e2) : Ex (sSeq a b) env e2 := fun B => by unfold sSeq; rw [h1]; exact h2 B
theorem rt_seq (h1 : Ex a env e1) (h2 : Rt b e1 d) : Rt (sSeq a b) env d := fun B => by unfold sSeq; rw [h1]; exact h2 B
theorem rt_now (h1 : Rt a env d) : Rt (sSeq a b) env d := fun B => by unfold sSeq; rw [h1]
theorem go_seq (h1 : Ex a env e1) (h2 : b B e1 = true) : sSeq a b B env = true := by unfold sSeq; rw [h1]; exact h2
theorem rt_ret (h : Ev (de env) d) : Rt (sRet de) env d := fun B => h B.rt
theorem rt_retF (h : EvA (df env) ds) : Rt (sRetF df) env (.list ds) := fun B => by unfold sRetF; rw [h]
theorem rt_retO (h : look env i = .ow ds) : Rt (sRetO i) env (.list ds) := fun B => by unfold sRetO; rw [h]
theorem rt_retN : Rt sRetN env .none := fun B => rfl
theorem ex_asg (h : Ev (de env) d) (hg : EvG (g d env) e) : Ex (sAsg de g) env e := fun B => by unfold sAsg; rw [h, hg]
theorem ex_own (h : EvA (df env) ds) : Ex (sOwn i df) env (env.set i (.ow ds)) := fun B => by unfold sOwn; rw [h]
theorem ex_par (h : EvA (dr env) [x, y]) : Ex (sPar i j dr) env ((env.set i (.fz x)).set j (.fz y)) := fun B => by unfold sPar; rw [h]
theorem ex_par3 (h : EvA (dr env) [x, y, z]) : Ex (sPar3 i j l dr) env (((env.set i (.fz x)).set j (.fz y)).set l (.fz z)) := fun B => by unfold sPar3; rw [h]
theorem ex_par3F {b : DE} (h1 : Ev (de env) x) (h2 : Ev (b env) y) (h3 : EvA (df env) ds) : Ex (sPar3F i j l de b df) env (((env.set i (.fz x)).set j (.fz y)).set l (.ow ds)) := fun B => by unfold sPar3F; rw [h1, h2, h3]
theorem ex_parFE (h1 : EvA (df env) ds) (h2 : Ev (de env) x) : Ex (sParFE i j df de) env ((env.set i (.ow ds)).set j (.fz x)) := fun B => by unfold sParFE; rw [h1, h2]
theorem ex_parEF (h1 : Ev (de env) x) (h2 : EvA (df env) ds) : Ex (sParEF i j de df) env ((env.set i (.fz x)).set j (.ow ds)) := fun B => by unfold sParEF; rw [h1, h2]
theorem ex_parFF (h1 : EvA (df env) ds) (h2 : EvA (df2 env) es) : Ex (sParFF i j df df2) env ((env.set i (.ow ds)).set j (.ow es)) := fun B => by unfold sParFF; rw [h1, h2]
theorem ex_mix {is : List Nat} (h : EvM (dm env) ss) (hs : setsE is ss env = some e) : Ex (sMix is dm) env e := fun B => by unfold sMix; rw [h]; simp only [hs]
theorem ex_ifT (h : EvT (c env) true) (ha : Ex a env e) : Ex (sIf c a b) env e := fun B => by unfold sIf; rw [h]; exact ha B
theorem ex_ifF (h : EvT (c env) false) (ha : Ex b env e) : Ex (sIf c a b) env e := fun B => by unfold sIf; rw [h]; exact ha B
theorem rt_ifT (h : EvT (c env) true) (ha : Rt a env d) : Rt (sIf c a b) env d := fun B => by unfold sIf; rw [h]; exact ha B
theorem rt_ifF (h : EvT (c env) false) (ha : Rt b env d) : Rt (sIf c a b) env d := fun B => by unfold sIf; rw [h]; exact ha B
theorem ex_expr (h : Ev (de env) d) : Ex (sExpr de) env env := fun B => by unfold sExpr; rw [h]
theorem ex_frz (h : freeze env i = some e1) (ha : Ex a e1 e) : Ex (sFrz i a) env e := fun B => by unfold sFrz; rw [h]; exact ha B
theorem rt_frz (h : freeze env i = some e1) (ha : Rt a e1 d) : Rt (sFrz i a) env d := fun B => by unfold sFrz; rw [h]; exact ha B
theorem ex_app (hl : look env i = .ow ds) (h : Ev (de env) d) (hs : small ds.length = true) : Ex (sApp i de) env (env.set i (.ow (ds ++ [d]))) := fun B => by unfold sApp; rw [hl]; simp only [h, hs]
theorem ex_appX (h : EvA (df env) ds) (h2 : Ev (de env) d) (hs : small ds.length = true) : Ex (sAppX df de) env env := fun B => by unfold sAppX; rw [h]; simp only [hs]; exact h2 _
theorem ex_for (hi : EvA (it env) xs) (h : ExF g body xs env e) : Ex (sFor it g body) env e := fun B => by unfold sFor; rw [hi]; exact h B
theorem exf_nil : ExF g body [] env env := fun _ => rfl
theorem exf_cons (hg : EvG (g x env) e1) (hb : Ex body e1 e2) (ht : ExF g body xs e2 e3) : ExF g body (x :: xs) env e3 := fun B => by unfold goFor; rw [hg, hb]; exact ht B
/-- a loop by what holds at each turn -/
theorem for_inv {α : Type} {f : α → PyData} {xs : List α} (I : List α → List α → Sls → Prop) (hs : ∀ (pre : List α) (w : α) (rest : List α) (e : Sls), pre ++ w :: rest = xs → I pre (w :: rest) e → ∃ e1 e2, EvG (g (f w) e) e1 ∧ Ex body e1 e2 ∧ I (pre ++ [w]) rest e2) :
    ∀ (rest pre : List α) (env : Sls), pre ++ rest = xs → I pre rest env → ∃ e, I xs [] e ∧ ExF g body (rest.map f) env e
  | [], pre, env, hp, h0 => by
    rw [List.append_nil] at hp
    subst hp
    exact ⟨env, h0, exf_nil⟩
  | w :: rest, pre, env, hp, h0 => by
    obtain ⟨e1, e2, hg, hb, h1⟩ := hs pre w rest env hp h0
    obtain ⟨e, h2, h3⟩ := for_inv I hs rest (pre ++ [w]) e2 (by rw [List.append_assoc]; exact hp) h1
    exact ⟨e, h2, exf_cons hg hb h3⟩
/-- a comprehension by what each turn gives -/
theorem lc_go {α : Type} {f : α → PyData} {r : α → PyData} {el : DE} : ∀ (ws : List α) (acc : List PyData), (∀ w ∈ ws, ∃ e, EvG (g (f w) env) e ∧ Ev (el e) (r w)) → ∀ k : KF, goLc g dYes el env (ws.map f) acc k = k (.list (acc.reverse ++ ws.map r))
  | [], acc, h, k => by simp [goLc]
  | w :: ws, acc, h, k => by
    obtain ⟨e, hg, hr⟩ := h w List.mem_cons_self
    show (g (f w) env fun env' => dYes env' fun b => match b with
      | true => el env' fun y => goLc g dYes el env (ws.map f) (y :: acc) k
      | false => goLc g dYes el env (ws.map f) acc k) = _
    rw [hg]
    show el e (fun y => goLc g dYes el env (ws.map f) (y :: acc) k) = _
    rw [hr, lc_go ws (r w :: acc) (fun w hw => h w (List.mem_cons_of_mem _ hw))]
    simp
abbrev EvLc (g : DG) (el : DE) (env : Sls) (xs ys : List PyData) : Prop := ∀ (acc : List PyData) (k : KF), goLc g dYes el env xs acc k = k (.list (acc.reverse ++ ys))
theorem evlc_map {α : Type} {ws : List α} {f r : α → PyData} {el : DE} (h : ∀ w ∈ ws, ∃ e, EvG (g (f w) env) e ∧ Ev (el e) (r w)) : EvLc g el env (ws.map f) (ws.map r) := fun acc k => lc_go ws acc h k
theorem evlc_nil {el : DE} : EvLc g el env [] [] := fun acc k => by simp [goLc]
theorem evlc_cons {el : DE} (hg : EvG (g x env) e) (he : Ev (el e) y) (ht : EvLc g el env xs es) : EvLc g el env (x :: xs) (y :: es) := fun acc k => by
  show (g x env fun env' => dYes env' fun b => match b with
    | true => el env' fun y => goLc g dYes el env xs (y :: acc) k
    | false => goLc g dYes el env xs acc k) = _
  rw [hg]
  show el e (fun y => goLc g dYes el env xs (y :: acc) k) = _
  rw [he, ht]
  simp
theorem ev_lc {el : DE} {vs : List Nat} (hi : EvA (it env) xs) (h : EvLc g el (wipeE env vs) xs ds) (hl : small xs.length = true) : Ev (dLc it g dYes el vs env) (.list ds) := fun k => by
  unfold dLc
  rw [hi]
  simp only [hl]
  rw [h]
  rfl
theorem evf_lc {el : DE} {vs : List Nat} (hi : EvA (it env) xs) (h : EvLc g el (wipeE env vs) xs ds) (hl : small xs.length = true) : EvA (fLc it g dYes el vs env) ds := fun k => by
  unfold fLc
  rw [ev_lc hi h hl]
/-- what is walked -/
theorem evi_seqL (h : Ev (de env) (.list xs)) : EvA (iSeq de env) xs := fun k => by unfold iSeq; rw [h]
theorem evi_seqT (h : Ev (de env) (.tuple xs)) : EvA (iSeq de env) xs := fun k => by unfold iSeq; rw [h]
theorem evi_range {m : Int} (h : Ev (de env) (.int m)) (hb : big m = true) : EvA (iRange1 de env) (rangeD 0 m.toNat) := fun k => by unfold iRange1; rw [h]; simp only [hb]
theorem evi_range2 {m p : Int} (h : Ev (de env) (.int m)) (h2 : Ev (dx env) (.int p)) (hb : (big m && big p) = true) : EvA (iRange2 de dx env) (rangeD m (p - m).toNat) := fun k => by unfold iRange2; rw [h, h2]; simp only [hb]
theorem evi_enum (h : Ev (de env) (.list xs)) : EvA (iEnumD de env) (enumD 0 xs) := fun k => by unfold iEnumD; rw [h]
theorem evi_zipL (h : Ev (de env) (.list xs)) (h2 : Ev (dx env) (.list ds)) : EvA (iZipD de dx env) (zipD xs ds) := fun k => by unfold iZipD; rw [h, h2]
theorem evi_zipT (h : Ev (de env) (.tuple xs)) (h2 : Ev (dx env) (.tuple ds)) : EvA (iZipD de dx env) (zipD xs ds) := fun k => by unfold iZipD; rw [h, h2]
theorem evi_zipQ {es' : List PyData} (h : Ev (de env) x) (h2 : Ev (dx env) y) (e1 : seqD x = some xs) (e2 : seqD y = some es') : EvA (iZipQ de dx env) (zipD xs es') := fun k => by unfold iZipQ; rw [h, h2]; simp only [e1, e2]
theorem evi_enumQ (h : Ev (de env) x) (e1 : seqD x = some xs) : EvA (iEnumQ de env) (enumD 0 xs) := fun k => by unfold iEnumQ; rw [h]; simp only [e1]
/-- defs -/
theorem ev_def (h : Rt body (startE n ds) d) : Ev (mOf n body ds) d := fun k => h _
theorem ev_defN (h : Ex body (startE n ds) e) : Ev (mOf n body ds) .none := fun k => h _
theorem ev_defF (h : Rt body (startE n ds) d) : Ev (mOfF n body ds) d := fun k => h _
theorem zipD_map {α β : Type} (f : α → PyData) (h : β → PyData) : ∀ (as : List α) (bs : List β), zipD (as.map f) (bs.map h) = (as.zip bs).map fun p => .tuple [f p.1, h p.2]
  | [], bs => by simp [zipD]
  | a :: as, [] => by simp [zipD]
  | a :: as, b :: bs => by simp [zipD, zipD_map f h as bs]
theorem enumD_map {α : Type} (f : α → PyData) : ∀ (as : List α) (n : Nat), enumD n (as.map f) = (as.zipIdx n).map fun p => .tuple [.int (p.2 : Int), f p.1]
  | [], n => rfl
  | a :: as, n => by simp [enumD, enumD_map f as (n + 1)]
theorem rangeD_map : ∀ (n : Nat) (lo : Int), rangeD lo n = (List.range n).map fun i : Nat => PyData.int (lo + i)
  | 0, lo => rfl
  | n + 1, lo => by
    rw [List.range_succ_eq_map]
    simp [rangeD, rangeD_map n (lo + 1)]
    intro a _
    omega
end
end Dl

namespace Dl
open PySem PySem.Spec PyProof.Rows L2
/-! ### fractions by rational numbers, as equations -/
section
variable {p q : Rat} {m n : Nat} {env : Sls} {a : DE}
theorem fr_int (i : Int) : fr (i : Rat) = .tuple [.int i, .int 1] := by
  unfold fr
  rw [Rat.num_intCast, Rat.den_intCast]
  rfl
theorem fr_zero : fr 0 = .tuple [.int 0, .int 1] := rfl
theorem fr_one : fr 1 = .tuple [.int 1, .int 1] := rfl
theorem fr_half : fr (1/2) = .tuple [.int 1, .int 2] := by
  unfold fr
  rw [show (1/2 : Rat).num = 1 by decide +kernel, show (1/2 : Rat).den = 2 by decide +kernel]
  rfl
theorem bd_zero : Bd 1 0 := ⟨by decide, by decide⟩
theorem bd_one : Bd 1 1 := ⟨by decide, by decide⟩
theorem bd_half : Bd 2 (1/2) := ⟨by decide +kernel, by decide +kernel⟩
theorem bd_int {i : Int} (h : i.natAbs < 2 ^ n) (hn : 0 < n) : Bd n (i : Rat) := by
  refine ⟨by rw [Rat.num_intCast]; exact h, ?_⟩
  rw [Rat.den_intCast]
  exact Nat.one_lt_two_pow (by omega)
theorem neg_bd (h : Bd n p) : Bd n (-p) := ⟨by rw [Rat.neg_num, Int.natAbs_neg]; exact h.1, by rw [Rat.neg_den]; exact h.2⟩
theorem ev_lit0 : Ev (dTup (aCons (dC (.int 0)) (aCons (dC (.int 1)) aNil)) env) (fr 0) := fun k => rfl
theorem ev_lit1 : Ev (dTup (aCons (dC (.int 1)) (aCons (dC (.int 1)) aNil)) env) (fr 1) := fun k => rfl
theorem ev_lith : Ev (dTup (aCons (dC (.int 1)) (aCons (dC (.int 2)) aNil)) env) (fr (1/2)) := fun k => by rw [fr_half]; rfl
theorem ev_litI {i : Int} (h : Ev (a env) (.int i)) : Ev (dTup (aCons a (aCons (dC (.int 1)) aNil)) env) (fr (i : Rat)) := fun k => by
  rw [fr_int]
  exact ev_tup (eva_cons h (eva_cons ev_c eva_nil)) rfl k
theorem ev_add (hp : Bd m p) (hq : Bd n q) (h : m + n ≤ 8999) : Ev (qAddR qReduced [fr p, fr q]) (fr (p + q)) := fun k => add_fr hp hq h
theorem ev_sub (hp : Bd m p) (hq : Bd n q) (h : m + n ≤ 8999) : Ev (qTakeR qReduced [fr p, fr q]) (fr (p - q)) := fun k => sub_fr hp hq h
theorem ev_mul (hp : Bd m p) (hq : Bd n q) (h : m + n ≤ 8999) : Ev (qMulR qReduced [fr p, fr q]) (fr (p * q)) := fun k => mul_fr hp hq h
theorem ev_div (hp : Bd m p) (hq : Bd n q) (h : m + n ≤ 8999) (hz : q ≠ 0) : Ev (qDivR qReduced [fr p, fr q]) (fr (p / q)) := fun k => div_fr hp hq h hz
theorem ev_below (hp : Bd m p) (hq : Bd n q) (h : m + n ≤ 8999) : Ev (qBelow [fr p, fr q]) (.bool (decide (p < q))) := fun k => below_fr hp hq h
theorem ev_isFr {slow : Fn} (hp : Bd n p) (h : n ≤ 8999) : Ev (qIsFrQ slow [fr p]) (.bool true) := fun k => by
  show (match logOk p.den with
    | true => k (.bool (Nat.ble 1 p.den && Nat.beq (Nat.gcd p.num.natAbs p.den) 1))
    | false => false) = _
  rw [log_ok hp.2 h]
  have h1 : Nat.ble 1 p.den = true := Nat.ble_eq_true_of_le (Nat.pos_of_ne_zero p.den_nz)
  have h2 : Nat.beq (Nat.gcd p.num.natAbs p.den) 1 = true := by
    have := p.reduced
    unfold Nat.Coprime at this
    rw [this]
    rfl
  rw [h1, h2]
  rfl
theorem ev_red {t : Int} {b : Nat} (hm : b ≠ 0) (hl : b < 2 ^ n) (hn : n ≤ 8999) : Ev (qReduced [.int t, .int (b : Int)]) (fr ((t : Rat) / (b : Rat))) := fun k => by
  have e : fr ((t : Rat) / (b : Rat)) = fr (mkRat t b) := by
    congr 1
    rw [div_eq, Rat.num_intCast, Rat.den_intCast, Rat.num_natCast, Rat.den_natCast]
    simp
  rw [e]
  exact red_fr hm hl hn
theorem op_num : Ev (gIx (fr p) (.int 0)) (.int p.num) := fun k => rfl
theorem op_den : Ev (gIx (fr p) (.int 1)) (.int (Int.ofNat p.den)) := fun k => rfl
theorem pl_fr (p : Rat) (n : Nat) : plD (n + 1) (fr p) = true := by unfold fr; simp [plD, plDs]
theorem fEq_fr (p q : Rat) : fEq (fr p) (fr q) = decide (p = q) := by
  unfold fr
  simp only [fEq, fEqs]
  rw [eqI_eq, eqI_eq]
  rw [Bool.eq_iff_iff, decide_eq_true_iff]
  constructor
  · intro h
    have h1 : (p.num == q.num) = true := by
      cases e : (p.num == q.num) with
      | true => rfl
      | false => rw [e] at h; cases h
    rw [h1] at h
    have h2 : (Int.ofNat p.den == Int.ofNat q.den) = true := by
      cases e : (Int.ofNat p.den == Int.ofNat q.den) with
      | true => rfl
      | false => rw [e] at h; cases h
    exact Rat.ext (eq_of_beq h1) (Int.ofNat.inj (eq_of_beq h2))
  · intro h
    subst h
    simp
theorem op_eqfr : Ev (gEq (fr p) (fr q)) (.bool (decide (p = q))) := fun k => by
  rw [op_eq' (pl_fr p 39) (pl_fr q 39), fEq_fr]
theorem op_nefr : Ev (gNe (fr p) (fr q)) (.bool (!decide (p = q))) := fun k => by
  rw [op_ne' (pl_fr p 39) (pl_fr q 39), fEq_fr]
theorem pls_frs (ps : List Rat) (n : Nat) : plDs (n + 1) (ps.map fr) = true := by
  induction ps with
  | nil => rfl
  | cons p ps ih => simp only [List.map_cons, plDs, pl_fr, ih]
theorem fEqs_frs : ∀ (ps qs : List Rat), fEqs (ps.map fr) (qs.map fr) = decide (ps = qs)
  | [], [] => rfl
  | [], _ :: _ => rfl
  | _ :: _, [] => rfl
  | p :: ps, q :: qs => by
    simp only [List.map_cons, fEqs]
    rw [fEq_fr, fEqs_frs ps qs]
    by_cases h1 : p = q
    · by_cases h2 : ps = qs
      · simp [h1, h2]
      · simp [h1, h2]
    · simp [h1]
theorem op_eqfrs {ps qs : List Rat} : Ev (gEq (.list (ps.map fr)) (.list (qs.map fr))) (.bool (decide (ps = qs))) := fun k => by
  rw [op_eq' (by unfold plD; exact pls_frs ps 38) (by unfold plD; exact pls_frs qs 38)]
  simp only [fEq, fEqs_frs]
theorem op_nefrs {ps qs : List Rat} : Ev (gNe (.list (ps.map fr)) (.list (qs.map fr))) (.bool (!decide (ps = qs))) := fun k => by
  rw [op_ne' (by unfold plD; exact pls_frs ps 38) (by unfold plD; exact pls_frs qs 38)]
  simp only [fEq, fEqs_frs]
end
/-! lists read by place -/
theorem atI_nat {α : Type} {xs : List α} {i : Nat} {x : α} (h : xs[i]? = some x) : atI xs (i : Int) = some x := by
  have hi : i < xs.length := (List.getElem?_eq_some_iff.mp h).1
  unfold atI
  rw [show ((i : Int)) = Int.ofNat i from rfl, ixN_lt hi]
  exact h
theorem atI_last {α : Type} {xs : List α} {x : α} : atI (xs ++ [x]) (-1) = some x := by
  unfold atI ixN
  have hl : (xs ++ [x]).length = xs.length + 1 := by simp
  have h : ¬ ((0 : Int) ≤ -1) := by decide
  rw [if_neg h, hl, if_pos (by omega)]
  have e : (-1 + ((xs.length + 1 : Nat) : Int)).toNat = xs.length := by omega
  rw [e]
  simp
/-! text lengths -/
def rp1 (n : Nat) (d : PyData) : Prop := okR n d = true
theorem okR_fr {p : Rat} (h : Bd 1919 p) (n : Nat) : okR (n + 1) (fr p) = true := by
  have h1 := log_lt h.1
  have h2 := log_lt h.2
  unfold fr
  simp only [okR, oksR]
  have e2 : Nat.ble (Nat.log2 p.den) 1919 = true := Nat.ble_eq_true_of_le h2
  cases e : p.num with
  | ofNat k =>
    rw [e] at h1
    have e1 : Nat.ble (Nat.log2 k) 1919 = true := Nat.ble_eq_true_of_le h1
    simp [e1, e2]
  | negSucc k =>
    rw [e] at h1
    have e1 : Nat.ble (Nat.log2 (Nat.succ k)) 1919 = true := Nat.ble_eq_true_of_le h1
    simp [e1, e2]
theorem oksR_frs {ps : List Rat} (h : ∀ p ∈ ps, Bd 1919 p) (n : Nat) : oksR (n + 1) (ps.map fr) = true := by
  induction ps with
  | nil => rfl
  | cons p ps ih => simp only [List.map_cons, oksR, okR_fr (h p List.mem_cons_self), ih fun q hq => h q (List.mem_cons_of_mem _ hq)]
theorem capR_fr (p : Rat) : capR (fr p) = 3850 := rfl
theorem capsR_frs (ps : List Rat) : capsR (ps.map fr) = 3852 * ps.length := by
  induction ps with
  | nil => rfl
  | cons p ps ih =>
    show capR (fr p) + 2 + capsR (ps.map fr) = _
    rw [ih, capR_fr, List.length_cons]
    omega
/-- repr of a list of lists of fractions -/
theorem reprOk_fr {p : Rat} (h : Bd 1919 p) : reprOk (fr p) = true := by
  unfold reprOk
  rw [okR_fr h 39]
  rw [capR_fr]
  rfl
theorem reprOk_of {d : PyData} (h : okR 40 d = true) (hc : capR d ≤ 16000000) : reprOk d = true := by
  unfold reprOk
  rw [h]
  exact Nat.ble_eq_true_of_le hc
theorem op_rep1 {x : PyData} {n : Nat} (h : n ≤ 100000) : Ev (gMul (.list [x]) (.int (n : Int))) (.list (List.replicate n x)) := fun k => by
  have e : (List.replicate n [x]).flatten = List.replicate n x := by
    induction n with
    | zero => rfl
    | succ n ih =>
      rw [List.replicate_succ, List.replicate_succ, List.flatten_cons, ih (by omega)]
      rfl
  have o : repOk 1 (Int.ofNat n) = true := by
    show (Nat.ble n 100000 && small (1 * n)) = true
    rw [Nat.ble_eq_true_of_le h, Nat.one_mul]
    exact Nat.ble_eq_true_of_le h
  show (match repOk 1 (Int.ofNat n) with
    | true => k (.list (List.replicate (Int.toNat (Int.ofNat n)) [x]).flatten)
    | false => false) = _
  rw [o]
  show k (.list (List.replicate n [x]).flatten) = _
  rw [e]
theorem cb_intB {b : Bool} : Ev (gInt [.bool b]) (.int (if b then 1 else 0)) := fun k => by cases b <;> rfl
theorem cb_intI {i : Int} : Ev (gInt [.int i]) (.int i) := fun k => rfl
theorem frs_rep (n : Nat) (p : Rat) : List.replicate n (fr p) = (List.replicate n p).map fr := by simp
/-- a range of whole numbers below n -/
theorem evi_rangeN {env : Sls} {de : DE} {n : Nat} (h : Ev (de env) (.int (n : Int))) (hn : n ≤ 1000000) : EvA (iRange1 de env) ((List.range n).map fun i : Nat => .int (i : Int)) := by
  refine eva_to (evi_range h ?_) ?_
  · show Nat.ble (Int.natAbs (n : Int)) 1000000 = true
    rw [Int.natAbs_natCast]
    exact Nat.ble_eq_true_of_le hn
  · rw [rangeD_map, Int.toNat_natCast]
    simp
/-- range(a, b) -/
theorem evi_rangeN2 {env : Sls} {de dx : DE} {a b : Nat} (h : Ev (de env) (.int (a : Int))) (h2 : Ev (dx env) (.int (b : Int))) (ha : a ≤ 1000000) (hb : b ≤ 1000000) : EvA (iRange2 de dx env) ((List.range (b - a)).map fun i : Nat => .int ((a + i : Nat) : Int)) := by
  refine eva_to (evi_range2 h h2 ?_) ?_
  · show (Nat.ble (Int.natAbs (a : Int)) 1000000 && Nat.ble (Int.natAbs (b : Int)) 1000000) = true
    rw [Int.natAbs_natCast, Int.natAbs_natCast, Nat.ble_eq_true_of_le ha, Nat.ble_eq_true_of_le hb]
    rfl
  · rw [rangeD_map]
    have e : ((b : Int) - (a : Int)).toNat = b - a := by omega
    rw [e]
    apply List.map_congr_left
    intro i _
    simp
/-- what a loop with a test comes to -/
theorem for_check {α : Type} {f : α → PyData} {g : DG} {body : DS} {d : PyData} (P : α → Bool) (I : Sls → Prop) : ∀ (xs : List α) (env : Sls),
    (∀ w ∈ xs, ∀ e, I e → P w = true → ∃ e1 e2, EvG (g (f w) e) e1 ∧ Ex body e1 e2 ∧ I e2) → (∀ w ∈ xs, ∀ e, I e → P w = false → ∃ e1, EvG (g (f w) e) e1 ∧ Rt body e1 d) → I env →
    (xs.all P = true → ∃ e, I e ∧ ExF g body (xs.map f) env e) ∧ (xs.all P = false → ∀ B, goFor g body B (xs.map f) env = B.rt d)
  | [], env, _, _, h => ⟨fun _ => ⟨env, h, exf_nil⟩, fun h => by simp at h⟩
  | w :: xs, env, hT, hF, h => by
    cases e : P w with
    | true =>
      obtain ⟨e1, e2, h1, h2, h3⟩ := hT w List.mem_cons_self env h e
      obtain ⟨a, b⟩ := for_check P I xs e2 (fun w hw => hT w (List.mem_cons_of_mem _ hw)) (fun w hw => hF w (List.mem_cons_of_mem _ hw)) h3
      refine ⟨fun z => ?_, fun z B => ?_⟩
      · rw [List.all_cons, e, Bool.true_and] at z
        obtain ⟨e3, h4, h5⟩ := a z
        exact ⟨e3, h4, exf_cons h1 h2 h5⟩
      · rw [List.all_cons, e, Bool.true_and] at z
        show g (f w) env (fun env' => body { nx := goFor g body B (xs.map f), rt := B.rt, ct := goFor g body B (xs.map f), bk := B.nx } env') = _
        rw [h1, h2]
        exact b z B
    | false =>
      obtain ⟨e1, h1, h2⟩ := hF w List.mem_cons_self env h e
      refine ⟨fun z => (by rw [List.all_cons, e, Bool.false_and] at z; cases z), fun z B => ?_⟩
      show g (f w) env (fun env' => body { nx := goFor g body B (xs.map f), rt := B.rt, ct := goFor g body B (xs.map f), bk := B.nx } env') = _
      rw [h1, h2]
theorem rt_stop {env : Sls} {it : DI} {g : DG} {body : DS} {xs : List PyData} {d : PyData} (hi : EvA (it env) xs) (h : ∀ B, goFor g body B xs env = B.rt d) : Rt (sFor it g body) env d := fun B => by
  unfold sFor
  rw [hi]
  exact h B
end Dl

namespace Dl
open PySem PySem.Spec PyProof.Rows L2
theorem gInt_int {i : Int} {k : KF} : gInt [.int i] k = k (.int i) := rfl
def plainT2 : DT := dB (dOp gNe (dVar 3) (dC (.int 0)))
def plainB2 : DS := sPar 2 3 (aCons (dVar 3) (aCons (dCB gInt (aCons (dOp gMod (dVar 2) (dVar 3)) aNil)) aNil))
def bPlain2 : DS := (sSeq (sPar 2 3 (aCons (dCB gAbs (aCons (dVar 0) aNil)) (aCons (dCB gAbs (aCons (dVar 1) aNil)) aNil)))
  (sSeq (sWh 1000000 plainT2 plainB2)
  (sSeq (sAsg (dIf (dB (dOp gGt (dVar 1) (dC (.int 0)))) (dC (.int 1)) (dUn gNeg (dC (.int 1)))) (gN 4))
  (sRet (dTup (aCons (dCB gInt (aCons (dOp gFdiv (dOp gMul (dVar 4) (dVar 0)) (dVar 2)) aNil)) (aCons (dCB gInt (aCons (dOp gFdiv (dOp gMul (dVar 4) (dVar 1)) (dVar 2)) aNil)) aNil)))))))
theorem plain_loop2 (t b : PyData) (B : DEnds) (fuel a c : Nat) (hf : 18001 ≤ fuel) (hl : logOk c = true) :
    goWh plainT2 plainB2 B fuel [.fz t, .fz b, .fz (.int (Int.ofNat a)), .fz (.int (Int.ofNat c)), .no] = B.nx [.fz t, .fz b, .fz (.int (Int.ofNat (Nat.gcd a c))), .fz (.int (Int.ofNat 0)), .no] := by
  refine gcd_any (T := plainT2) (G := plainB2) (B := B) (E := fun a c => [.fz t, .fz b, .fz (.int (Int.ofNat a)), .fz (.int (Int.ofNat c)), .no]) (fun n a => rfl) (fun n a c h => ?_) 9000 fuel a c (lt_of_log hl) hf hl
  show gMod (.int (Int.ofNat a)) (.int (Int.ofNat (c + 1))) (fun z => gInt [z] fun z => goWh plainT2 plainB2 B n [.fz t, .fz b, .fz (.int (Int.ofNat (c + 1))), .fz z, .no]) = _
  rw [gMod_of (Nat.succ_pos c) h]
  rfl
def plainK2 (s t b : Int) (g : PyData) (k : KF) : Bool := gMul (.int s) (.int t) fun x => gFdiv x g fun x => gInt [x] fun x => gMul (.int s) (.int b) fun y => gFdiv y g fun y => gInt [y] fun y => k (.tuple [x, y])
theorem le_plain2 (ds : List PyData) (k : KF) (h : qPlain ds k = true) : mOf 5 bPlain2 ds k = true := by
  unfold qPlain at h
  split at h
  · rename_i t b
    cases e0 : Nat.ble (Nat.log2 t.natAbs) 900000 with
    | false => rw [e0] at h; cases h
    | true =>
      rw [e0] at h
      have l0 : Nat.log2 t.natAbs ≤ 900000 := Nat.le_of_ble_eq_true e0
      obtain ⟨s, n, h1, h2⟩ := mkFr_eq h
      obtain ⟨h3, h4⟩ := mkP_eq h1
      have l3 : Nat.log2 (n + 1) ≤ 8999 := Nat.le_of_ble_eq_true h3
      have eb : (if b < 0 then -b else b) = Int.ofNat (n + 1) := by
        rcases h2 with ⟨rfl, rfl⟩ | ⟨rfl, rfl⟩
        · rw [if_neg (by rw [Int.ofNat_eq_natCast]; omega)]
        · rw [if_pos (Int.negSucc_lt_zero n)]; rfl
      show goWh plainT2 plainB2 _ 1000000 [.fz (.int t), .fz (.int b), .fz (.int (if t < 0 then -t else t)), .fz (.int (if b < 0 then -b else b)), .no] = true
      rw [eb, abs_eq, plain_loop2 _ _ _ _ _ _ (by decide) h3]
      show (match decide ((0 : Int) < b) with
        | true => plainK2 1 t b (.int (Int.ofNat (Nat.gcd t.natAbs (n + 1)))) k
        | false => plainK2 (-1) t b (.int (Int.ofNat (Nat.gcd t.natAbs (n + 1)))) k) = true
      have es : s.natAbs = t.natAbs := by
        rcases h2 with ⟨_, rfl⟩ | ⟨_, rfl⟩
        · rfl
        · omega
      rw [es] at h4
      have hg : 0 < Nat.gcd t.natAbs (n + 1) := Nat.gcd_pos_of_pos_right _ (Nat.succ_pos n)
      have hl : logOk (Nat.gcd t.natAbs (n + 1)) = true := log_mono (Nat.le_of_dvd (Nat.succ_pos n) (Nat.gcd_dvd_right _ _)) h3
      rcases h2 with ⟨rfl, rfl⟩ | ⟨rfl, rfl⟩
      · rw [decide_eq_true (show (0 : Int) < Int.ofNat (n + 1) by rw [Int.ofNat_eq_natCast]; omega)]
        have m1 : mulOk 1 s = true := Nat.ble_eq_true_of_le (by show Nat.log2 1 + Nat.log2 s.natAbs ≤ 999999; rw [show Nat.log2 1 = 0 by decide]; omega)
        have m2 : mulOk 1 (Int.ofNat (n + 1)) = true := Nat.ble_eq_true_of_le (by show Nat.log2 1 + Nat.log2 (n + 1) ≤ 999999; rw [show Nat.log2 1 = 0 by decide]; omega)
        show plainK2 1 s (Int.ofNat (n + 1)) (.int (Int.ofNat (Nat.gcd s.natAbs (n + 1)))) k = true
        unfold plainK2
        rw [gMul_of m1, gFdiv_of hg hl, gInt_int, gMul_of m2, gFdiv_of hg hl, gInt_int, Int.one_mul, Int.one_mul]
        exact h4
      · rw [decide_eq_false (show ¬ (0 : Int) < Int.negSucc n by have := Int.negSucc_lt_zero n; omega)]
        have m1 : mulOk (-1) t = true := Nat.ble_eq_true_of_le (by show Nat.log2 1 + Nat.log2 t.natAbs ≤ 999999; rw [show Nat.log2 1 = 0 by decide]; omega)
        have m2 : mulOk (-1) (Int.negSucc n) = true := Nat.ble_eq_true_of_le (by show Nat.log2 1 + Nat.log2 (n + 1) ≤ 999999; rw [show Nat.log2 1 = 0 by decide]; omega)
        show plainK2 (-1) t (Int.negSucc n) (.int (Int.ofNat (Nat.gcd t.natAbs (n + 1)))) k = true
        unfold plainK2
        rw [gMul_of m1, gFdiv_of hg hl, gInt_int, gMul_of m2, gFdiv_of hg hl, gInt_int]
        rw [show (-1 : Int) * t = 0 - t by omega, show (-1 : Int) * Int.negSucc n = Int.ofNat (n + 1) by rw [Int.ofNat_eq_natCast]; omega]
        exact h4
  · cases h
theorem plain_red {t b : Int} {k : KF} (h : Nat.log2 t.natAbs ≤ 900000) : qPlain [.int t, .int b] k = qReduced [.int t, .int b] k := by
  show (match Nat.ble (Nat.log2 t.natAbs) 900000 with
    | true => mkFr t b k
    | false => false) = _
  rw [Nat.ble_eq_true_of_le h]
  rfl
theorem ev_plain {t : Int} {b n m : Nat} (hm : b ≠ 0) (hl : b < 2 ^ n) (ht : t.natAbs < 2 ^ m) (hn : n ≤ 8999) (h2 : m ≤ 8999) : Ev (qPlain [.int t, .int (b : Int)]) (fr ((t : Rat) / (b : Rat))) := fun k => by
  rw [plain_red (by have := log_lt ht; omega)]
  exact ev_red hm hl hn k
variable {p q : Rat} {m n : Nat} {k : KF}
theorem mul_frP (hp : Bd m p) (hq : Bd n q) (h : m + n ≤ 8999) : qMulR qPlain [fr p, fr q] k = k (fr (p * q)) := by
  have e1 := mul_ok (i := p.num) (j := q.num) hp.1 hq.1 (by omega)
  have e3 := mul_ok (i := Int.ofNat p.den) (j := Int.ofNat q.den) hp.2 hq.2 (by omega)
  show (mI p.num q.num fun x => mI (Int.ofNat p.den) (Int.ofNat q.den) fun z => qPlain [.int x, .int z] k) = _
  unfold mI
  simp only [e1, e3, fI_eq]
  have hx : (p.num * q.num).natAbs < 2 ^ (m + n) := by rw [Int.natAbs_mul]; exact pow_mul_lt hp.1 hq.1
  rw [plain_red (by have := log_lt hx; omega), Rat.mul_def']
  exact red_fr (den_ne p q) (pow_mul_lt hp.2 hq.2) (by omega)
theorem ev_mulP (hp : Bd m p) (hq : Bd n q) (h : m + n ≤ 8999) : Ev (qMulR qPlain [fr p, fr q]) (fr (p * q)) := fun k => mul_frP hp hq h
end Dl

namespace Kp
open PySem PySem.Spec PyProof.Rows L2 Dl
def top (i : Nat) : Stmt := PySem.Challenge.pw_betsalong_k86_whole_families_that_die_ou.main.body.getD i (.Pass ⟨0, 0, 0, 0⟩)
def blt : List Str := ["len", "range", "int", "abs", "list", "tuple", "isinstance", "bool", "str", "sum", "all", "any", "min", "max", "enumerate", "zip", "sorted", "divmod", "repr", "dict", "set", "reversed"]
def c_MOST_DIGITS : PyData := (.int 1000000000000)
def c_NOUGHT : PyData := (.tuple [(.int 0), (.int 1)])
def c_ONE : PyData := (.tuple [(.int 1), (.int 1)])
def c_MOST_CHANCES : PyData := (.int 5)
def c_MOST_SIZED : PyData := (.int 3)
def c_MOST_SIZES : PyData := (.int 64)
def c_MOST_DEAD : PyData := (.int 4)
def c_MOST_HALVED : PyData := (.int 60)
abbrev m__law_draw : Fn := mDraw
abbrev N_is_integer : List Str := ["value"]
def b_is_integer : DS := (sRet (dAndV (dIs .int (dVar 0)) (dNotV (dIs .bool (dVar 0)))))
def m_is_integer : Fn := mOf 1 b_is_integer
abbrev N_is_within : List Str := ["value", "least", "most"]
def b_is_within : DS := (sRet (dAndV (dCallN 1 m_is_integer (aCons (dVar 0) aNil)) (dChain gLe gLe (dVar 1) (dVar 0) (dVar 2))))
def m_is_within : Fn := mOf 3 b_is_within
abbrev N_is_list : List Str := ["value"]
def b_is_list : DS := (sRet (dIsLT (dVar 0)))
def m_is_list : Fn := mOf 1 b_is_list
abbrev N_check_number : List Str := ["value", "least", "most"]
def b_check_number : DS := (sIf (dNot (dB (dCallN 3 m_is_within (aCons (dVar 0) (aCons (dVar 1) (aCons (dVar 2) aNil)))))) sNever sNil)
def m_check_number : Fn := mOf 3 b_check_number
abbrev N_want_at_most : List Str := ["what", "limit", "number"]
def b_want_at_most : DS := (sIf (dB (dOp gGt (dVar 2) (dVar 1))) sNever sNil)
def m_want_at_most : Fn := mOf 3 b_want_at_most
abbrev N_divisor : List Str := ["one", "late"]
def b_divisor : DS := (sSeq (sWh 1000000 (dB (dOp gGt (dVar 1) (dC (.int 0)))) (sPar 0 1 (aCons (dVar 1) (aCons (dOp gMod (dCB gInt (aCons (dVar 0) aNil)) (dVar 1)) aNil))))
  (sRet (dVar 0)))
def m0_divisor : Fn := mOf 2 b_divisor
def m_divisor : Fn := qDivisor
abbrev N_is_fraction_of : List Str := ["value"]
def b_is_fraction_of : DS := (sSeq (sIf (dOr (dNot (dB (dIs .tuple (dVar 0)))) (dOr (dB (dOp gNe (dCB gLen (aCons (dVar 0) aNil)) (dC (.int 2)))) (dOr (dNot (dB (dCallN 1 m_is_integer (aCons (dOp gIx (dVar 0) (dC (.int 0))) aNil)))) (dNot (dB (dCallN 1 m_is_integer (aCons (dOp gIx (dVar 0) (dC (.int 1))) aNil))))))) (sRet (dC (.bool false))) sNil)
  (sRet (dAndV (dOp gGe (dOp gIx (dVar 0) (dC (.int 1))) (dC (.int 1))) (dOp gEq (dCallN 2 m_divisor (aCons (dCB gAbs (aCons (dOp gIx (dVar 0) (dC (.int 0))) aNil)) (aCons (dOp gIx (dVar 0) (dC (.int 1))) aNil))) (dC (.int 1))))))
def m0_is_fraction_of : Fn := mOf 1 b_is_fraction_of
def m_is_fraction_of : Fn := qIsFrQ m0_is_fraction_of
abbrev N_is_short : List Str := ["value"]
def b_is_short : DS := (sRet (dAndV (dCallN 1 m_is_fraction_of (aCons (dVar 0) aNil)) (dAndV (dOp gLt (dCB gAbs (aCons (dOp gIx (dVar 0) (dC (.int 0))) aNil)) (dC c_MOST_DIGITS)) (dOp gLt (dOp gIx (dVar 0) (dC (.int 1))) (dC c_MOST_DIGITS)))))
def m_is_short : Fn := mOf 1 b_is_short
abbrev N_check_fraction : List Str := ["value"]
def b_check_fraction : DS := (sIf (dNot (dB (dCallN 1 m_is_short (aCons (dVar 0) aNil)))) sNever sNil)
def m_check_fraction : Fn := mOf 1 b_check_fraction
abbrev N_reduced : List Str := ["top", "bottom", "common"]
def b_reduced : DS := (sSeq (sIf (dB (dOp gLt (dVar 1) (dC (.int 0)))) (sPar 0 1 (aCons (dOp gSub (dC (.int 0)) (dVar 0)) (aCons (dOp gSub (dC (.int 0)) (dVar 1)) aNil))) sNil)
  (sSeq (sAsg (dCallN 2 m_divisor (aCons (dCB gAbs (aCons (dVar 0) aNil)) (aCons (dVar 1) aNil))) (gN 2))
  (sRet (dTup (aCons (dOp gFdiv (dVar 0) (dVar 2)) (aCons (dOp gFdiv (dVar 1) (dVar 2)) aNil))))))
def m0_reduced : Fn := mOf 3 b_reduced
def m_reduced : Fn := qReduced
abbrev N_add : List Str := ["one", "late"]
def b_add : DS := (sRet (dCallN 2 m_reduced (aCons (dOp gAdd (dOp gMul (dOp gIx (dVar 0) (dC (.int 0))) (dOp gIx (dVar 1) (dC (.int 1)))) (dOp gMul (dOp gIx (dVar 1) (dC (.int 0))) (dOp gIx (dVar 0) (dC (.int 1))))) (aCons (dOp gMul (dOp gIx (dVar 0) (dC (.int 1))) (dOp gIx (dVar 1) (dC (.int 1)))) aNil))))
def m0_add : Fn := mOf 2 b_add
def m_add : Fn := qAddR m_reduced
abbrev N_multiply : List Str := ["one", "late"]
def b_multiply : DS := (sRet (dCallN 2 m_reduced (aCons (dOp gMul (dOp gIx (dVar 0) (dC (.int 0))) (dOp gIx (dVar 1) (dC (.int 0)))) (aCons (dOp gMul (dOp gIx (dVar 0) (dC (.int 1))) (dOp gIx (dVar 1) (dC (.int 1)))) aNil))))
def m0_multiply : Fn := mOf 2 b_multiply
def m_multiply : Fn := qMulR m_reduced
abbrev N_divide : List Str := ["one", "late"]
def b_divide : DS := (sRet (dCallN 2 m_reduced (aCons (dOp gMul (dOp gIx (dVar 0) (dC (.int 0))) (dOp gIx (dVar 1) (dC (.int 1)))) (aCons (dOp gMul (dOp gIx (dVar 0) (dC (.int 1))) (dOp gIx (dVar 1) (dC (.int 0)))) aNil))))
def m0_divide : Fn := mOf 2 b_divide
def m_divide : Fn := qDivR m_reduced
abbrev N_is_below : List Str := ["one", "late"]
def b_is_below : DS := (sRet (dOp gLt (dOp gMul (dOp gIx (dVar 0) (dC (.int 0))) (dOp gIx (dVar 1) (dC (.int 1)))) (dOp gMul (dOp gIx (dVar 1) (dC (.int 0))) (dOp gIx (dVar 0) (dC (.int 1))))))
def m0_is_below : Fn := mOf 2 b_is_below
def m_is_below : Fn := qBelow
abbrev N_total : List Str := ["some", "found", "one"]
def b_total : DS := (sSeq (sAsg (dC c_NOUGHT) (gN 1))
  (sSeq (sFor (iSeq (dVar 0)) (gN 2) (sAsg (dCallN 2 m_add (aCons (dVar 1) (aCons (dVar 2) aNil))) (gN 1)))
  (sRet (dVar 1))))
def m_total : Fn := mOf 3 b_total
abbrev N_are_children_of : List Str := ["value", "one"]
def b_are_children_of : DS := (sSeq (sIf (dOr (dNot (dB (dCallN 1 m_is_list (aCons (dVar 0) aNil)))) (dNot (dB (dChain gLe gLe (dC (.int 1)) (dCB gLen (aCons (dVar 0) aNil)) (dC c_MOST_CHANCES))))) (sRet (dC (.bool false))) sNil)
  (sRet (dAndV (dCB gAll (aCons (dLc (iSeq (dVar 0)) (gN 1) dYes (dAndV (dCallN 1 m_is_fraction_of (aCons (dVar 1) aNil)) (dOp gGe (dOp gIx (dVar 1) (dC (.int 0))) (dC (.int 0)))) [1]) aNil)) (dOp gEq (dCallN 1 m_total (aCons (dCB gList (aCons (dVar 0) aNil)) aNil)) (dC c_ONE)))))
def m_are_children_of : Fn := mOf 2 b_are_children_of
abbrev N_check_children : List Str := ["value", "one"]
def b_check_children : DS := (sIf (dOr (dNot (dB (dCallN 1 m_are_children_of (aCons (dVar 0) aNil)))) (dNot (dB (dCB gAll (aCons (dLc (iSeq (dVar 0)) (gN 1) dYes (dCallN 1 m_is_short (aCons (dVar 1) aNil)) [1]) aNil))))) sNever sNil)
def m_check_children : Fn := mOf 2 b_check_children
abbrev N_told_of : List Str := ["some", "found"]
def b_told_of : DS := (sSeq (sOwn 1 (fList (dVar 0)))
  (sSeq (sWh 1000000 (dBorT [1] (dAnd (dB (dOp gNe (dVar 1) (dLst aNil))) (dB (dOp gEq (dOp gIx (dVar 1) (dUn gNeg (dC (.int 1)))) (dC c_NOUGHT))))) (sPop 1))
  (sRetO 1)))
def m_told_of : Fn := mOfF 2 b_told_of
abbrev N_product_of : List Str := ["one", "late", "found", "at", "near", "place", "far"]
def b_product_of : DS := (sSeq (sOwn 2 (fRep (dLst (aCons (dC c_NOUGHT) aNil)) (dOp gSub (dOp gAdd (dCB gLen (aCons (dVar 0) aNil)) (dCB gLen (aCons (dVar 1) aNil))) (dC (.int 1)))))
  (sSeq (sFor (iEnumQ (dVar 0)) (gT 2 (gsCons (gN 3) (gsCons (gN 4) gsNil))) (sFor (iEnumQ (dVar 1)) (gT 2 (gsCons (gN 5) (gsCons (gN 6) gsNil))) (sSetIx 2 (dOp gAdd (dVar 3) (dVar 5)) (dBor [2] (dCallN 2 m_add (aCons (dOp gIx (dVar 2) (dOp gAdd (dVar 3) (dVar 5))) (aCons (dCallN 2 m_multiply (aCons (dVar 4) (aCons (dVar 6) aNil))) aNil)))))))
  (sFrz 2 (sRet (dVar 2)))))
def m_product_of : Fn := mOf 7 b_product_of
abbrev N_put_of : List Str := ["children", "late", "found", "power", "one", "longer", "more", "near", "far"]
def b_put_of : DS := (sSeq (sPar 2 3 (aCons (dLst (aCons (dC c_NOUGHT) aNil)) (aCons (dLst (aCons (dC c_ONE) aNil)) aNil)))
  (sSeq (sFor (iSeq (dCallN 1 m_told_of (aCons (dVar 0) aNil))) (gN 4) (sSeq (sAsg (dOp gAdd (dVar 2) (dOp gMul (dLst (aCons (dC c_NOUGHT) aNil)) (dOp gSub (dCB gLen (aCons (dVar 3) aNil)) (dCB gLen (aCons (dVar 2) aNil))))) (gN 5))
  (sSeq (sAsg (dOp gAdd (dVar 3) (dOp gMul (dLst (aCons (dC c_NOUGHT) aNil)) (dOp gSub (dCB gLen (aCons (dVar 5) aNil)) (dCB gLen (aCons (dVar 3) aNil))))) (gN 6))
  (sSeq (sAsg (dLc (iZipQ (dVar 5) (dVar 6)) (gT 2 (gsCons (gN 7) (gsCons (gN 8) gsNil))) dYes (dCallN 2 m_add (aCons (dVar 7) (aCons (dCallN 2 m_multiply (aCons (dVar 4) (aCons (dVar 8) aNil))) aNil))) [7, 8]) (gN 2))
  (sAsg (dCallN 2 m_product_of (aCons (dVar 3) (aCons (dCallN 1 m_told_of (aCons (dVar 1) aNil)) aNil))) (gN 3))))))
  (sRetF (fCallN 1 m_told_of (aCons (dVar 2) aNil)))))
def m_put_of : Fn := mOfF 9 b_put_of
abbrev N_want_sizes : List Str := ["children", "late"]
def b_want_sizes : DS := (sExpr (dCallN 3 m_want_at_most (aCons (dC (.str "sizes")) (aCons (dC c_MOST_SIZES) (aCons (dOp gMul (dOp gSub (dCB gLen (aCons (dCallN 1 m_told_of (aCons (dVar 0) aNil)) aNil)) (dC (.int 1))) (dOp gSub (dCB gLen (aCons (dCallN 1 m_told_of (aCons (dVar 1) aNil)) aNil)) (dC (.int 1)))) aNil)))))
def m_want_sizes : Fn := mOf 2 b_want_sizes
abbrev N_mean_by : List Str := ["children", "at", "one"]
def b_mean_by : DS := (sRet (dCallN 1 m_total (aCons (dLc (iEnumQ (dVar 0)) (gT 2 (gsCons (gN 1) (gsCons (gN 2) gsNil))) dYes (dCallN 2 m_multiply (aCons (dVar 2) (aCons (dTup (aCons (dVar 1) (aCons (dC (.int 1)) aNil))) aNil))) [1, 2]) aNil)))
def m_mean_by : Fn := mOf 3 b_mean_by
abbrev N_number_of : List Str := ["children", "fraction", "found", "one"]
def b_number_of : DS := (sSeq (sAsg (dC c_NOUGHT) (gN 2))
  (sSeq (sFor (iSeq (dUn gRev (dCB gList (aCons (dVar 0) aNil)))) (gN 3) (sAsg (dCallN 2 m_add (aCons (dCallN 2 m_multiply (aCons (dVar 2) (aCons (dVar 1) aNil))) (aCons (dVar 3) aNil))) (gN 2)))
  (sRet (dVar 2))))
def m_number_of : Fn := mOf 4 b_number_of
abbrev N_are_children : List Str := ["value"]
def b_are_children : DS := (sRet (dCallN 1 m_are_children_of (aCons (dVar 0) aNil)))
def m_are_children : Fn := mOf 1 b_are_children
abbrev N_child_mean : List Str := ["children"]
def b_child_mean : DS := (sSeq (sExpr (dCallN 1 m_check_children (aCons (dVar 0) aNil)))
  (sRet (dCallN 1 m_mean_by (aCons (dVar 0) aNil))))
def m_child_mean : Fn := mOf 1 b_child_mean
abbrev N_number_at : List Str := ["children", "fraction"]
def b_number_at : DS := (sSeq (sExpr (dCallN 1 m_check_children (aCons (dVar 0) aNil)))
  (sSeq (sExpr (dCallN 1 m_check_fraction (aCons (dVar 1) aNil)))
  (sSeq (sIf (dOr (dB (dOp gLt (dOp gIx (dVar 1) (dC (.int 0))) (dC (.int 0)))) (dB (dCallN 2 m_is_below (aCons (dC c_ONE) (aCons (dVar 1) aNil))))) sNever sNil)
  (sRet (dCallN 2 m_number_of (aCons (dVar 0) (aCons (dVar 1) aNil)))))))
def m_number_at : Fn := mOf 2 b_number_at
abbrev N_size_chances : List Str := ["children", "many", "found", "turn"]
def b_size_chances : DS := (sSeq (sExpr (dCallN 1 m_check_children (aCons (dVar 0) aNil)))
  (sSeq (sExpr (dCallN 3 m_check_number (aCons (dVar 1) (aCons (dC (.int 0)) (aCons (dC c_MOST_SIZED) aNil)))))
  (sSeq (sOwn 2 (fLst (aCons (dC c_NOUGHT) (aCons (dC c_ONE) aNil))))
  (sSeq (sFor (iRange1 (dVar 1)) (gN 3) (sSeq (sExpr (dBor [2] (dCallN 2 m_want_sizes (aCons (dVar 2) (aCons (dVar 0) aNil)))))
  (sOwn 2 (fBor [2] (fCallN 2 m_put_of (aCons (dVar 2) (aCons (dVar 0) aNil)))))))
  (sRetO 2)))))
def m_size_chances : Fn := mOfF 4 b_size_chances
abbrev N_is_sure_of : List Str := ["children"]
def b_is_sure_of : DS := (sSeq (sIf (dAnd (dB (dOp gGt (dCB gLen (aCons (dVar 0) aNil)) (dC (.int 1)))) (dB (dOp gEq (dOp gIx (dVar 0) (dC (.int 1))) (dC c_ONE)))) (sRet (dC (.bool false))) sNil)
  (sRet (dNotV (dCallN 2 m_is_below (aCons (dC c_ONE) (aCons (dCallN 1 m_mean_by (aCons (dVar 0) aNil)) aNil))))))
def m_is_sure_of : Fn := mOf 1 b_is_sure_of
abbrev N_is_live_of : List Str := ["children", "value"]
def b_is_live_of : DS := (sSeq (sIf (dOr (dNot (dB (dCallN 1 m_is_fraction_of (aCons (dVar 1) aNil)))) (dOr (dB (dOp gLt (dOp gIx (dVar 1) (dC (.int 0))) (dC (.int 0)))) (dNot (dB (dCallN 2 m_is_below (aCons (dVar 1) (aCons (dC c_ONE) aNil))))))) (sRet (dC (.bool false))) sNil)
  (sRet (dNotV (dCallN 2 m_is_below (aCons (dVar 1) (aCons (dCallN 2 m_number_of (aCons (dVar 0) (aCons (dVar 1) aNil))) aNil))))))
def m_is_live_of : Fn := mOf 2 b_is_live_of
abbrev N_middle_of : List Str := ["low", "high"]
def b_middle_of : DS := (sRet (dCallN 2 m_divide (aCons (dCallN 2 m_add (aCons (dVar 0) (aCons (dVar 1) aNil))) (aCons (dTup (aCons (dC (.int 2)) (aCons (dC (.int 1)) aNil))) aNil))))
def m_middle_of : Fn := mOf 2 b_middle_of
abbrev N_whole_quotient : List Str := ["children", "most", "top", "bottom", "numbers", "found", "carry", "number"]
def b_whole_quotient : DS := (sSeq (sAsg (dC (.int 1)) (gN 1))
  (sSeq (sFor (iSeq (dVar 0)) (gT 2 (gsCons (gN 2) (gsCons (gN 3) gsNil))) (sAsg (dOp gMul (dOp gFdiv (dVar 1) (dCallN 2 m_divisor (aCons (dVar 1) (aCons (dVar 3) aNil)))) (dVar 3)) (gN 1)))
  (sSeq (sOwn 4 (fLc (iSeq (dVar 0)) (gT 2 (gsCons (gN 2) (gsCons (gN 3) gsNil))) dYes (dOp gMul (dVar 2) (dOp gFdiv (dVar 1) (dVar 3))) [2, 3]))
  (sFrz 4 (sSeq (sOwn 4 (fCat (dVar 4) (dOp gMul (dLst (aCons (dC (.int 0)) aNil)) (dOp gSub (dC (.int 2)) (dCB gLen (aCons (dVar 4) aNil))))))
  (sSeq (sSetIx 4 (dC (.int 1)) (dBor [4] (dOp gSub (dOp gIx (dVar 4) (dC (.int 1))) (dVar 1))))
  (sSeq (sParFE 5 6 (fLst aNil) (dC (.int 0)))
  (sFrz 4 (sSeq (sFor (iSeq (dRevTo (dVar 4) (dC (.int 0)))) (gN 7) (sSeq (sAsg (dOp gAdd (dVar 6) (dVar 7)) (gN 6))
  (sFrz 5 (sOwn 5 (fCat (dLst (aCons (dVar 6) aNil)) (dVar 5))))))
  (sSeq (sWh 1000000 (dBorT [5] (dAnd (dB (dOp gNe (dVar 5) (dLst aNil))) (dB (dOp gEq (dOp gIx (dVar 5) (dUn gNeg (dC (.int 1)))) (dC (.int 0)))))) (sPop 5))
  (sFrz 5 (sRet (dVar 5)))))))))))))
def m_whole_quotient : Fn := mOf 8 b_whole_quotient
abbrev N_sign_of : List Str := ["numbers", "top", "bottom", "found", "power", "number"]
def b_sign_of : DS := (sSeq (sAsg (dTup (aCons (dC (.int 0)) (aCons (dC (.int 1)) aNil))) (gT 2 (gsCons (gN 3) (gsCons (gN 4) gsNil))))
  (sSeq (sFor (iSeq (dUn gRev (dVar 0))) (gN 5) (sPar 3 4 (aCons (dOp gAdd (dOp gMul (dVar 3) (dVar 1)) (dOp gMul (dVar 5) (dVar 4))) (aCons (dOp gMul (dVar 4) (dVar 2)) aNil))))
  (sRet (dOp gSub (dOp gGt (dVar 3) (dC (.int 0))) (dOp gLt (dVar 3) (dC (.int 0)))))))
def m_sign_of : Fn := mOf 6 b_sign_of
abbrev N_root_between : List Str := ["numbers", "bottom", "low", "high", "middle", "sign"]
def b_root_between : DS := (sSeq (sAsg (dCB gAbs (aCons (dOp gIx (dVar 0) (dUn gNeg (dC (.int 1)))) aNil)) (gN 1))
  (sSeq (sPar 2 3 (aCons (dC (.int 0)) (aCons (dVar 1) aNil)))
  (sSeq (sWh 1000000 (dB (dOp gGt (dOp gSub (dVar 3) (dVar 2)) (dC (.int 1)))) (sSeq (sAsg (dOp gFdiv (dOp gAdd (dVar 2) (dVar 3)) (dC (.int 2))) (gN 4))
  (sSeq (sAsg (dCallN 3 m_sign_of (aCons (dVar 0) (aCons (dVar 4) (aCons (dVar 1) aNil)))) (gN 5))
  (sSeq (sIf (dB (dOp gEq (dVar 5) (dC (.int 0)))) (sRet (dCallN 2 m_reduced (aCons (dVar 4) (aCons (dVar 1) aNil)))) sNil)
  (sAsg (dIf (dB (dOp gLt (dVar 5) (dC (.int 0)))) (dTup (aCons (dVar 4) (aCons (dVar 3) aNil))) (dTup (aCons (dVar 2) (aCons (dVar 4) aNil)))) (gT 2 (gsCons (gN 2) (gsCons (gN 3) gsNil))))))))
  (sRet (dC .none)))))
def m_root_between : Fn := mOf 6 b_root_between
abbrev N_death_of : List Str := ["children"]
def b_death_of : DS := (sSeq (sIf (dB (dCallN 1 m_is_sure_of (aCons (dVar 0) aNil))) (sRet (dC c_ONE)) sNil)
  (sSeq (sIf (dB (dOp gEq (dOp gIx (dVar 0) (dC (.int 0))) (dC c_NOUGHT))) (sRet (dC c_NOUGHT)) sNil)
  (sRet (dCallN 1 m_root_between (aCons (dCallN 1 m_whole_quotient (aCons (dVar 0) aNil)) aNil)))))
def m_death_of : Fn := mOf 1 b_death_of
abbrev N_dead_by : List Str := ["children", "many", "found", "turn"]
def b_dead_by : DS := (sSeq (sExpr (dCallN 1 m_check_children (aCons (dVar 0) aNil)))
  (sSeq (sExpr (dCallN 3 m_check_number (aCons (dVar 1) (aCons (dC (.int 0)) (aCons (dC c_MOST_DEAD) aNil)))))
  (sSeq (sAsg (dC c_NOUGHT) (gN 2))
  (sSeq (sFor (iRange1 (dVar 1)) (gN 3) (sAsg (dCallN 2 m_number_of (aCons (dVar 0) (aCons (dVar 2) aNil))) (gN 2)))
  (sRet (dVar 2))))))
def m_dead_by : Fn := mOf 4 b_dead_by
abbrev N_dies_surely : List Str := ["children"]
def b_dies_surely : DS := (sSeq (sExpr (dCallN 1 m_check_children (aCons (dVar 0) aNil)))
  (sRet (dCallN 1 m_is_sure_of (aCons (dVar 0) aNil))))
def m_dies_surely : Fn := mOf 1 b_dies_surely
abbrev N_live_paper : List Str := ["children", "found"]
def b_live_paper : DS := (sSeq (sExpr (dCallN 1 m_check_children (aCons (dVar 0) aNil)))
  (sSeq (sIf (dB (dCallN 1 m_is_sure_of (aCons (dVar 0) aNil))) (sRet (dC .none)) sNil)
  (sSeq (sAsg (dC c_NOUGHT) (gN 1))
  (sSeq (sWh 1000000 (dNot (dB (dCallN 2 m_is_live_of (aCons (dVar 0) (aCons (dVar 1) aNil))))) (sAsg (dCallN 2 m_middle_of (aCons (dVar 1) (aCons (dC c_ONE) aNil))) (gN 1)))
  (sRet (dVar 1))))))
def m_live_paper : Fn := mOf 2 b_live_paper
abbrev N_is_live_paper : List Str := ["children", "value"]
def b_is_live_paper : DS := (sSeq (sExpr (dCallN 1 m_check_children (aCons (dVar 0) aNil)))
  (sRet (dCallN 2 m_is_live_of (aCons (dVar 0) (aCons (dVar 1) aNil)))))
def m_is_live_paper : Fn := mOf 2 b_is_live_paper
abbrev N_death_chance : List Str := ["children"]
def b_death_chance : DS := (sSeq (sExpr (dCallN 1 m_check_children (aCons (dVar 0) aNil)))
  (sRet (dCallN 1 m_death_of (aCons (dVar 0) aNil))))
def m_death_chance : Fn := mOf 1 b_death_chance
abbrev N_death_between : List Str := ["children", "many", "low", "high", "turn", "middle"]
def b_death_between : DS := (sSeq (sExpr (dCallN 1 m_check_children (aCons (dVar 0) aNil)))
  (sSeq (sExpr (dCallN 3 m_check_number (aCons (dVar 1) (aCons (dC (.int 0)) (aCons (dC c_MOST_HALVED) aNil)))))
  (sSeq (sPar 2 3 (aCons (dC c_NOUGHT) (aCons (dC c_ONE) aNil)))
  (sSeq (sFor (iRange1 (dVar 1)) (gN 4) (sSeq (sAsg (dCallN 2 m_middle_of (aCons (dVar 2) (aCons (dVar 3) aNil))) (gN 5))
  (sIf (dB (dCallN 2 m_is_below (aCons (dVar 5) (aCons (dCallN 2 m_number_of (aCons (dVar 0) (aCons (dVar 5) aNil))) aNil)))) (sAsg (dVar 5) (gN 2)) (sAsg (dVar 5) (gN 3)))))
  (sRet (dTup (aCons (dVar 2) (aCons (dVar 3) aNil))))))))
def m_death_between : Fn := mOf 6 b_death_between
abbrev N_dying : List Str := ["children", "root", "found", "power", "one"]
def b_dying : DS := (sSeq (sExpr (dCallN 1 m_check_children (aCons (dVar 0) aNil)))
  (sSeq (sAsg (dCallN 1 m_death_of (aCons (dVar 0) aNil)) (gN 1))
  (sSeq (sIf (dOr (dB (dOp gIs (dVar 1) (dC .none))) (dB (dOp gEq (dOp gIx (dVar 1) (dC (.int 0))) (dC (.int 0))))) sNever sNil)
  (sSeq (sParFE 2 3 (fLst aNil) (dCallN 2 m_divide (aCons (dC c_ONE) (aCons (dVar 1) aNil))))
  (sSeq (sFor (iSeq (dVar 0)) (gN 4) (sSeq (sApp 2 (dCallN 2 m_multiply (aCons (dVar 4) (aCons (dVar 3) aNil))))
  (sAsg (dCallN 2 m_multiply (aCons (dVar 3) (aCons (dVar 1) aNil))) (gN 3))))
  (sRetO 2))))))
def m_dying : Fn := mOfF 5 b_dying
abbrev N__law_pick : List Str := ["pot", "some"]
def b__law_pick : DS := (sRet (dOp gIx (dVar 1) (dCallN 2 m__law_draw (aPot 0 (aCons (dCB gLen (aCons (dVar 1) aNil)) aNil)))))
def m__law_pick : Fn := mOf 2 b__law_pick
abbrev N__law_plain : List Str := ["top", "bottom", "one", "late", "sign"]
def b__law_plain : DS := (sSeq (sPar 2 3 (aCons (dCB gAbs (aCons (dVar 0) aNil)) (aCons (dCB gAbs (aCons (dVar 1) aNil)) aNil)))
  (sSeq (sWh 1000000 (dB (dOp gNe (dVar 3) (dC (.int 0)))) (sPar 2 3 (aCons (dVar 3) (aCons (dOp gMod (dCB gInt (aCons (dVar 2) aNil)) (dVar 3)) aNil))))
  (sSeq (sAsg (dIf (dB (dOp gGt (dVar 1) (dC (.int 0)))) (dC (.int 1)) (dUn gNeg (dC (.int 1)))) (gN 4))
  (sRet (dTup (aCons (dOp gFdiv (dOp gMul (dVar 4) (dVar 0)) (dVar 2)) (aCons (dOp gFdiv (dOp gMul (dVar 4) (dVar 1)) (dVar 2)) aNil)))))))
def m0__law_plain : Fn := mOf 5 b__law_plain
def m__law_plain : Fn := qPlain
abbrev N__law_plus : List Str := ["one", "late"]
def b__law_plus : DS := (sRet (dCallN 2 m__law_plain (aCons (dOp gAdd (dOp gMul (dOp gIx (dVar 0) (dC (.int 0))) (dOp gIx (dVar 1) (dC (.int 1)))) (dOp gMul (dOp gIx (dVar 1) (dC (.int 0))) (dOp gIx (dVar 0) (dC (.int 1))))) (aCons (dOp gMul (dOp gIx (dVar 0) (dC (.int 1))) (dOp gIx (dVar 1) (dC (.int 1)))) aNil))))
def m0__law_plus : Fn := mOf 2 b__law_plus
def m__law_plus : Fn := qAddR m__law_plain
abbrev N__law_times : List Str := ["one", "late"]
def b__law_times : DS := (sRet (dCallN 2 m__law_plain (aCons (dOp gMul (dOp gIx (dVar 0) (dC (.int 0))) (dOp gIx (dVar 1) (dC (.int 0)))) (aCons (dOp gMul (dOp gIx (dVar 0) (dC (.int 1))) (dOp gIx (dVar 1) (dC (.int 1)))) aNil))))
def m0__law_times : Fn := mOf 2 b__law_times
def m__law_times : Fn := qMulR m__law_plain
abbrev N__law_total : List Str := ["some", "found", "one"]
def b__law_total : DS := (sSeq (sAsg (dTup (aCons (dC (.int 0)) (aCons (dC (.int 1)) aNil))) (gN 1))
  (sSeq (sFor (iSeq (dVar 0)) (gN 2) (sAsg (dCallN 2 m__law_plus (aCons (dVar 1) (aCons (dVar 2) aNil))) (gN 1)))
  (sRet (dVar 1))))
def m__law_total : Fn := mOf 3 b__law_total
abbrev N__law_below : List Str := ["one", "late"]
def b__law_below : DS := (sRet (dOp gLt (dOp gMul (dOp gIx (dVar 0) (dC (.int 0))) (dOp gIx (dVar 1) (dC (.int 1)))) (dOp gMul (dOp gIx (dVar 1) (dC (.int 0))) (dOp gIx (dVar 0) (dC (.int 1))))))
def m0__law_below : Fn := mOf 2 b__law_below
def m__law_below : Fn := qBelow
abbrev N__law_less : List Str := ["one", "late"]
def b__law_less : DS := (sRet (dCallN 2 m__law_plus (aCons (dVar 0) (aCons (dTup (aCons (dOp gSub (dC (.int 0)) (dOp gIx (dVar 1) (dC (.int 0)))) (aCons (dOp gIx (dVar 1) (dC (.int 1))) aNil))) aNil))))
def m__law_less : Fn := mOf 2 b__law_less
abbrev N__law_share : List Str := ["one", "late"]
def b__law_share : DS := (sRet (dCallN 2 m__law_plain (aCons (dOp gMul (dOp gIx (dVar 0) (dC (.int 0))) (dOp gIx (dVar 1) (dC (.int 1)))) (aCons (dOp gMul (dOp gIx (dVar 0) (dC (.int 1))) (dOp gIx (dVar 1) (dC (.int 0)))) aNil))))
def m0__law_share : Fn := mOf 2 b__law_share
def m__law_share : Fn := qDivR m__law_plain
abbrev N__law_children : List Str := ["pot", "parts", "at", "part"]
def b__law_children : DS := (sSeq (sOwn 1 (fLc (iRange1 (dOp gAdd (dC (.int 1)) (dCallN 2 m__law_draw (aPot 0 (aCons (dC (.int 5)) aNil))))) (gN 2) dYes (dCallN 2 m__law_pick (aPot 0 (aCons (dLst (aCons (dC (.int 0)) (aCons (dC (.int 1)) (aCons (dC (.int 1)) (aCons (dC (.int 2)) (aCons (dC (.int 3)) aNil)))))) aNil))) [2]))
  (sSeq (sIf (dBorT [1] (dB (dOp gEq (dCB gSum2 (aCons (dVar 1) aNil)) (dC (.int 0))))) (sSetIx 1 (dBor [1] (dCallN 2 m__law_draw (aPot 0 (aCons (dCB gLen (aCons (dVar 1) aNil)) aNil)))) (dC (.int 1))) sNil)
  (sFrz 1 (sRet (dLc (iSeq (dVar 1)) (gN 3) dYes (dCallN 2 m__law_plain (aCons (dVar 3) (aCons (dCB gSum2 (aCons (dVar 1) aNil)) aNil))) [3])))))
def m__law_children : Fn := mOf 4 b__law_children
abbrev N__law_number : List Str := ["children", "spot", "found", "power", "one"]
def b__law_number : DS := (sSeq (sAsg (dTup (aCons (dTup (aCons (dC (.int 0)) (aCons (dC (.int 1)) aNil))) (aCons (dTup (aCons (dC (.int 1)) (aCons (dC (.int 1)) aNil))) aNil))) (gT 2 (gsCons (gN 2) (gsCons (gN 3) gsNil))))
  (sSeq (sFor (iSeq (dVar 0)) (gN 4) (sSeq (sAsg (dCallN 2 m__law_plus (aCons (dVar 2) (aCons (dCallN 2 m__law_times (aCons (dVar 4) (aCons (dVar 3) aNil))) aNil))) (gN 2))
  (sAsg (dCallN 2 m__law_times (aCons (dVar 3) (aCons (dVar 1) aNil))) (gN 3))))
  (sRet (dVar 2))))
def m__law_number : Fn := mOf 5 b__law_number
abbrev N__law_mean : List Str := ["children", "at", "one"]
def b__law_mean : DS := (sRet (dCallN 1 m__law_total (aCons (dLc (iEnumQ (dVar 0)) (gT 2 (gsCons (gN 1) (gsCons (gN 2) gsNil))) dYes (dCallN 2 m__law_times (aCons (dVar 2) (aCons (dTup (aCons (dVar 1) (aCons (dC (.int 1)) aNil))) aNil))) [1, 2]) aNil)))
def m__law_mean : Fn := mOf 3 b__law_mean
abbrev N__law_is_sure : List Str := ["children"]
def b__law_is_sure : DS := (sRet (dAndV (dNotV (dCallN 2 m__law_below (aCons (dTup (aCons (dC (.int 1)) (aCons (dC (.int 1)) aNil))) (aCons (dCallN 1 m__law_mean (aCons (dVar 0) aNil)) aNil)))) (dOp gNe (dSl (dVar 0) (oSome (dC (.int 1))) (oSome (dC (.int 2)))) (dLst (aCons (dTup (aCons (dC (.int 1)) (aCons (dC (.int 1)) aNil))) aNil)))))
def m__law_is_sure : Fn := mOf 1 b__law_is_sure
abbrev N__law_is_frac : List Str := ["value", "one"]
def b__law_is_frac : DS := (sSeq (sIf (dOr (dNot (dB (dIs .tuple (dVar 0)))) (dOr (dB (dOp gNe (dCB gLen (aCons (dVar 0) aNil)) (dC (.int 2)))) (dNot (dB (dCB gAll (aCons (dLc (iSeq (dVar 0)) (gN 1) dYes (dAndV (dIs .int (dVar 1)) (dNotV (dIs .bool (dVar 1)))) [1]) aNil)))))) (sRet (dC (.bool false))) sNil)
  (sRet (dAndV (dOp gGt (dOp gIx (dVar 0) (dC (.int 1))) (dC (.int 0))) (dOp gEq (dCallN 2 m__law_plain (aCons (dOp gIx (dVar 0) (dC (.int 0))) (aCons (dOp gIx (dVar 0) (dC (.int 1))) aNil))) (dVar 0)))))
def m__law_is_frac : Fn := mOf 2 b__law_is_frac
abbrev N__law_is_live : List Str := ["children", "value"]
def b__law_is_live : DS := (sRet (dAndV (dCallN 1 m__law_is_frac (aCons (dVar 1) aNil)) (dAndV (dOp gGe (dOp gIx (dVar 1) (dC (.int 0))) (dC (.int 0))) (dAndV (dCallN 2 m__law_below (aCons (dVar 1) (aCons (dTup (aCons (dC (.int 1)) (aCons (dC (.int 1)) aNil))) aNil))) (dNotV (dCallN 2 m__law_below (aCons (dVar 1) (aCons (dCallN 2 m__law_number (aCons (dVar 0) (aCons (dVar 1) aNil))) aNil))))))))
def m__law_is_live : Fn := mOf 2 b__law_is_live
abbrev N__law_between_right : List Str := ["children", "root", "low", "high", "many", "middle", "near", "far"]
def b__law_between_right : DS := (sSeq (sAsg (dTup (aCons (dTup (aCons (dC (.int 0)) (aCons (dC (.int 1)) aNil))) (aCons (dTup (aCons (dC (.int 1)) (aCons (dC (.int 1)) aNil))) aNil))) (gT 2 (gsCons (gN 2) (gsCons (gN 3) gsNil))))
  (sSeq (sFor (iRange1 (dC (.int 13))) (gN 4) (sSeq (sIf (dB (dRepr2 false (dLst (aCons (dCallN 2 m_death_between (aCons (dVar 0) (aCons (dVar 4) aNil))) (aCons (dCallK 2 2 [1, 0] m_death_between (aCons (dVar 4) (aCons (dVar 0) aNil))) aNil))) (dOp gMul (dLst (aCons (dTup (aCons (dVar 2) (aCons (dVar 3) aNil))) aNil)) (dC (.int 2))))) (sRet (dC (.bool false))) sNil)
  (sSeq (sIf (dAnd (dB (dOp gIsNot (dVar 1) (dC .none))) (dOr (dB (dCallN 2 m__law_below (aCons (dVar 1) (aCons (dVar 2) aNil)))) (dB (dCallN 2 m__law_below (aCons (dVar 3) (aCons (dVar 1) aNil)))))) (sRet (dC (.bool false))) sNil)
  (sSeq (sAsg (dCallN 2 m__law_times (aCons (dCallN 2 m__law_plus (aCons (dVar 2) (aCons (dVar 3) aNil))) (aCons (dTup (aCons (dC (.int 1)) (aCons (dC (.int 2)) aNil))) aNil))) (gN 5))
  (sIf (dB (dCallN 2 m__law_below (aCons (dVar 5) (aCons (dCallN 2 m__law_number (aCons (dVar 0) (aCons (dVar 5) aNil))) aNil)))) (sAsg (dVar 5) (gN 2)) (sAsg (dVar 5) (gN 3)))))))
  (sSeq (sAsg (dCallN 2 m_death_between (aCons (dVar 0) (aCons (dC (.int 60)) aNil))) (gT 2 (gsCons (gN 6) (gsCons (gN 7) gsNil))))
  (sRet (dOp gEq (dCallN 2 m__law_less (aCons (dVar 7) (aCons (dVar 6) aNil))) (dTup (aCons (dC (.int 1)) (aCons (dOp gPow (dC (.int 2)) (dC (.int 60))) aNil))))))))
def m__law_between_right : Fn := mOf 8 b__law_between_right
abbrev N__law_power : List Str := ["one", "many", "found", "turn"]
def b__law_power : DS := (sSeq (sAsg (dTup (aCons (dC (.int 1)) (aCons (dC (.int 1)) aNil))) (gN 2))
  (sSeq (sFor (iRange1 (dVar 1)) (gN 3) (sAsg (dCallN 2 m__law_times (aCons (dVar 2) (aCons (dVar 0) aNil))) (gN 2)))
  (sRet (dVar 2))))
def m__law_power : Fn := mOf 4 b__law_power
abbrev N__law_dying_right : List Str := ["children", "root", "due", "told", "at", "one"]
def b__law_dying_right : DS := (sSeq (sAsg (dLc (iEnumQ (dVar 0)) (gT 2 (gsCons (gN 4) (gsCons (gN 5) gsNil))) dYes (dCallN 2 m__law_times (aCons (dVar 5) (aCons (dCallN 2 m__law_power (aCons (dVar 1) (aCons (dVar 4) aNil))) aNil))) [4, 5]) (gN 2))
  (sSeq (sAsg (dLc (iSeq (dVar 2)) (gN 5) dYes (dCallN 2 m__law_share (aCons (dVar 5) (aCons (dVar 1) aNil))) [5]) (gN 2))
  (sSeq (sOwn 3 (fCallN 1 m_dying (aCons (dVar 0) aNil)))
  (sSeq (sIf (dBorT [3] (dOr (dB (dRepr2 false (dLst (aCons (dVar 3) (aCons (dCallK 1 1 [0] m_dying (aCons (dCB gTuple (aCons (dVar 0) aNil)) aNil)) aNil))) (dLst (aCons (dVar 2) (aCons (dVar 2) aNil))))) (dB (dOp gIsNot (dCallN 1 m_are_children (aCons (dVar 3) aNil)) (dC (.bool true)))))) (sRet (dC (.bool false))) sNil)
  (sSeq (sApp 3 (dC .none))
  (sSeq (sIf (dOr (dB (dRepr2 false (dCallN 1 m_dying (aCons (dVar 0) aNil)) (dVar 2))) (dNot (dB (dCB gAll (aCons (dLc (iSeq (dVar 2)) (gN 5) dYes (dOp gLt (dOp gIx (dVar 5) (dC (.int 1))) (dOp gPow (dC (.int 10)) (dC (.int 12)))) [5]) aNil))))) (sRet (dRepr2 true (dCallN 1 m_dying (aCons (dVar 0) aNil)) (dVar 2))) sNil)
  (sRet (dAndV (dOp gIs (dCallN 1 m_dies_surely (aCons (dVar 2) aNil)) (dC (.bool true))) (dOp gEq (dCallN 1 m_dying (aCons (dVar 2) aNil)) (dVar 2))))))))))
def m__law_dying_right : Fn := mOf 6 b__law_dying_right
abbrev N__law_one_right : List Str := ["children", "shown", "found", "many", "late", "sure", "paper", "root", "below"]
def b__law_one_right : DS := (sSeq (sPar 1 2 (aCons (dCB gRepr (aCons (dVar 0) aNil)) (aCons (dTup (aCons (dC (.int 0)) (aCons (dC (.int 1)) aNil))) aNil)))
  (sSeq (sFor (iRange1 (dC (.int 5))) (gN 3) (sSeq (sIf (dB (dRepr2 false (dLst (aCons (dCallN 2 m_dead_by (aCons (dVar 0) (aCons (dVar 3) aNil))) (aCons (dCallK 2 2 [1, 0] m_dead_by (aCons (dVar 3) (aCons (dCB gTuple (aCons (dVar 0) aNil)) aNil))) aNil))) (dLst (aCons (dVar 2) (aCons (dVar 2) aNil))))) (sRet (dC (.bool false))) sNil)
  (sSeq (sIf (dAnd (dB (dOp gLt (dVar 3) (dC (.int 4)))) (dB (dOp gNe (dOp gIx (dCallN 2 m_size_chances (aCons (dVar 0) (aCons (dCB gMin2 (aCons (dVar 3) (aCons (dC (.int 3)) aNil))) aNil))) (dC (.int 0))) (dIf (dB (dOp gLt (dVar 3) (dC (.int 4)))) (dVar 2) (dC .none))))) (sRet (dC (.bool false))) sNil)
  (sSeq (sAsg (dCallN 2 m__law_number (aCons (dVar 0) (aCons (dVar 2) aNil))) (gN 4))
  (sSeq (sIf (dB (dCallN 2 m__law_below (aCons (dVar 4) (aCons (dVar 2) aNil)))) (sRet (dC (.bool false))) sNil)
  (sAsg (dVar 4) (gN 2)))))))
  (sSeq (sAsg (dCallN 1 m__law_is_sure (aCons (dVar 0) aNil)) (gN 5))
  (sSeq (sIf (dOr (dB (dRepr2 false (dLst (aCons (dCallN 1 m_dies_surely (aCons (dVar 0) aNil)) (aCons (dCallK 1 1 [0] m_dies_surely (aCons (dVar 0) aNil)) aNil))) (dLst (aCons (dVar 5) (aCons (dVar 5) aNil))))) (dAnd (dB (dCallN 2 m__law_below (aCons (dTup (aCons (dC (.int 1)) (aCons (dC (.int 1)) aNil))) (aCons (dCallN 1 m_child_mean (aCons (dVar 0) aNil)) aNil)))) (dB (dVar 5)))) (sRet (dC (.bool false))) sNil)
  (sSeq (sFor (iSeq (dLst (aCons (dCallN 1 m_live_paper (aCons (dVar 0) aNil)) (aCons (dCallK 1 1 [0] m_live_paper (aCons (dCB gTuple (aCons (dVar 0) aNil)) aNil)) aNil)))) (gN 6) (sIf (dOr (dB (dOp gNe (dOp gIs (dVar 6) (dC .none)) (dVar 5))) (dAnd (dB (dOp gIsNot (dVar 6) (dC .none))) (dOr (dNot (dB (dCallN 2 m__law_is_live (aCons (dVar 0) (aCons (dVar 6) aNil))))) (dB (dOp gIsNot (dCallN 2 m_is_live_paper (aCons (dVar 0) (aCons (dVar 6) aNil))) (dC (.bool true))))))) (sRet (dC (.bool false))) sNil))
  (sSeq (sAsg (dCallN 1 m_death_chance (aCons (dVar 0) aNil)) (gN 7))
  (sSeq (sIf (dOr (dB (dRepr2 false (dCallK 1 1 [0] m_death_chance (aCons (dCB gTuple (aCons (dVar 0) aNil)) aNil)) (dVar 7))) (dOr (dAnd (dB (dVar 5)) (dB (dOp gNe (dVar 7) (dTup (aCons (dC (.int 1)) (aCons (dC (.int 1)) aNil)))))) (dAnd (dB (dOp gIs (dVar 7) (dC .none))) (dB (dOp gEq (dOp gIx (dVar 0) (dC (.int 0))) (dTup (aCons (dC (.int 0)) (aCons (dC (.int 1)) aNil)))))))) (sRet (dC (.bool false))) sNil)
  (sSeq (sIf (dAnd (dB (dOp gIsNot (dVar 7) (dC .none))) (dOr (dB (dOp gNe (dCallN 2 m__law_number (aCons (dVar 0) (aCons (dVar 7) aNil))) (dVar 7))) (dAnd (dNot (dB (dVar 5))) (dB (dOp gIsNot (dCallN 2 m_is_live_paper (aCons (dVar 0) (aCons (dVar 7) aNil))) (dC (.bool true))))))) (sRet (dC (.bool false))) sNil)
  (sSeq (sIf (dAnd (dB (dOp gIsNot (dVar 7) (dC .none))) (dB (dOp gGt (dOp gIx (dVar 7) (dC (.int 0))) (dC (.int 0))))) (sSeq (sAsg (dCallN 2 m__law_times (aCons (dVar 7) (aCons (dTup (aCons (dC (.int 99)) (aCons (dC (.int 100)) aNil))) aNil))) (gN 8))
  (sSeq (sIf (dOr (dB (dOp gIsNot (dCallN 2 m_is_live_paper (aCons (dVar 0) (aCons (dVar 8) aNil))) (dC (.bool false)))) (dB (dCallN 2 m__law_below (aCons (dVar 7) (aCons (dVar 2) aNil))))) (sRet (dC (.bool false))) sNil)
  (sIf (dNot (dB (dCallN 2 m__law_dying_right (aCons (dVar 0) (aCons (dVar 7) aNil))))) (sRet (dC (.bool false))) sNil))) sNil)
  (sRet (dAndV (dCallN 2 m__law_between_right (aCons (dVar 0) (aCons (dVar 7) aNil))) (dOp gEq (dCB gRepr (aCons (dVar 0) aNil)) (dVar 1)))))))))))))
def m__law_one_right : Fn := mOf 9 b__law_one_right
abbrev N__law_known_right : List Str := ["pot", "bottom", "top", "pair", "lazy", "slow", "root", "children", "one"]
def b__law_known_right : DS := (sSeq (sAsg (dOp gAdd (dC (.int 2)) (dCallN 2 m__law_draw (aPot 0 (aCons (dC (.int 7)) aNil)))) (gN 1))
  (sSeq (sAsg (dOp gAdd (dC (.int 1)) (dCallN 2 m__law_draw (aPot 0 (aCons (dOp gSub (dVar 1) (dC (.int 1))) aNil)))) (gN 2))
  (sSeq (sAsg (dLst (aCons (dCallN 2 m__law_plain (aCons (dVar 2) (aCons (dOp gAdd (dVar 2) (dVar 1)) aNil))) (aCons (dTup (aCons (dC (.int 0)) (aCons (dC (.int 1)) aNil))) (aCons (dCallN 2 m__law_plain (aCons (dVar 1) (aCons (dOp gAdd (dVar 2) (dVar 1)) aNil))) aNil)))) (gN 3))
  (sSeq (sAsg (dCallN 2 m__law_pick (aPot 0 (aCons (dLst (aCons (dTup (aCons (dC (.int 0)) (aCons (dC (.int 1)) aNil))) (aCons (dTup (aCons (dC (.int 1)) (aCons (dC (.int 2)) aNil))) (aCons (dTup (aCons (dC (.int 2)) (aCons (dC (.int 3)) aNil))) aNil)))) aNil))) (gN 4))
  (sSeq (sOwn 5 (fLc (iSeq (dVar 3)) (gN 8) dYes (dCallN 2 m__law_times (aCons (dVar 8) (aCons (dCallN 2 m__law_less (aCons (dTup (aCons (dC (.int 1)) (aCons (dC (.int 1)) aNil))) (aCons (dVar 4) aNil))) aNil))) [8]))
  (sSeq (sSetIx 5 (dC (.int 1)) (dBor [5] (dCallN 2 m__law_plus (aCons (dOp gIx (dVar 5) (dC (.int 1))) (aCons (dVar 4) aNil)))))
  (sSeq (sAsg (dCallN 2 m__law_plain (aCons (dVar 2) (aCons (dVar 1) aNil))) (gN 6))
  (sFrz 5 (sSeq (sFor (iSeq (dLst (aCons (dVar 3) (aCons (dVar 5) aNil)))) (gN 7) (sIf (dOr (dB (dOp gNe (dCallN 1 m_death_chance (aCons (dVar 7) aNil)) (dVar 6))) (dOr (dB (dOp gIsNot (dCallN 1 m_dies_surely (aCons (dVar 7) aNil)) (dC (.bool false)))) (dOr (dB (dOp gNe (dCallN 2 m_number_at (aCons (dVar 7) (aCons (dVar 6) aNil))) (dVar 6))) (dNot (dB (dCallN 1 m__law_one_right (aCons (dVar 7) aNil))))))) (sRet (dC (.bool false))) sNil))
  (sRet (dAndV (dOp gEq (dCallN 1 m_death_chance (aCons (dUn gRev (dVar 3)) aNil)) (dTup (aCons (dC (.int 1)) (aCons (dC (.int 1)) aNil)))) (dAndV (dOp gIs (dCallN 1 m_dies_surely (aCons (dUn gRev (dVar 3)) aNil)) (dC (.bool true))) (dOp gEq (dCallN 1 m_dying (aCons (dVar 3) aNil)) (dUn gRev (dVar 3)))))))))))))))
def m__law_known_right : Fn := mOf 9 b__law_known_right
abbrev N__law_right : List Str := ["pot"]
def b__law_right : DS := (sRet (dAndV (dCallN 1 m__law_one_right (aCons (dCallN 1 m__law_children (aPot 0 aNil)) aNil)) (dAndV (dCallN 1 m__law_one_right (aCons (dCallN 1 m__law_children (aPot 0 aNil)) aNil)) (dCallN 1 m__law_known_right (aPot 0 aNil)))))
def m__law_right : Fn := mOf 1 b__law_right
end Kp

namespace Kp
open PySem PySem.Spec PyProof.Rows L2 Dl
section
variable {P : Program} {w : World} {K : PySem.W.Frag} {mg : Str → Option Value} {base : Heap}
abbrev N__law_draw : List Str := ["pot", "many", "digit"]
theorem S__law_draw : FnScope N__law_draw ["pot", "many"] (defScope (top 64)) := ⟨rfl, rfl, rfl, by decide +kernel, rfl, by decide +kernel, by decide +kernel⟩

theorem h__law_draw {f : Addr} {fd : FuncData} (F : FnP K "_law_draw" (top 64) f fd) (hm : mg "_law_draw" = some (.ref f)) (bl : ∀ x ∈ blt, mg x = none) : Has P w K mg base 1 "_law_draw" ["pot", "many"] mDraw := by
  have lk : ∃ oc od osl, K.lookup f = some ⟨oc, od, .func fd, osl⟩ := by
    obtain ⟨oc, od, _, _, _, _, _, _, _, osl, _, h2, _⟩ := F.ex
    exact ⟨oc, od, osl, h2⟩
  refine ⟨f, fd, FnOkG.of (F.ok S__law_draw (fun vs H Q E h => h.1) (fun cdv A outer s H vs Q E hr hs => ?_)), hm, F.kp, F.bindsN fun _ _ _ _ _ _ us hl => match us, hl with | [_, _], _ => rfl, lk⟩
  refine ⟨_, PSs.nox (pss_cons (ps_if (pt_cmpR op_gt (pe_ix ix_list (pv 0) pe_int (by intro _ _; rfl)) pe_int (nomark _))
      (pss_cons (ps_asg (pe_callB call_divmod rfl (bl "divmod" (by decide)) (by decide +kernel) (pa_cons (pe_ix ix_list (pv 0) pe_int (by intro _ _; rfl)) (pa_cons (pv 1) pa_nil))) (pg_tup rfl (pgs_cons (pg_sub (pv 0) pe_int set_list) (pgs_cons (pg_name (i := 2) S__law_draw.nd rfl (Or.inl rfl)) pgs_nil)))) (pss_one (ps_ret (pv 2)))) pss_nil)
    (pss_cons (ps_asg (pe_op op_mod (pe_callTy call_int1 rfl (bl "int" (by decide)) (by decide +kernel) (pa_cons (pe_op op_add (pe_op op_mul (pe_ix ix_list (pv 0) pe_int (by intro _ _; rfl)) pe_int) pe_int) pa_nil)) pe_int) (pg_sub (pv 0) pe_int set_list))
    (pss_one (ps_ret (pe_op op_mod (pe_callTy call_int1 rfl (bl "int" (by decide)) (by decide +kernel) (pa_cons (pe_op op_fdiv (pe_op op_mod (pe_callTy call_int1 rfl (bl "int" (by decide)) (by decide +kernel) (pa_cons (pe_op op_mul (pe_ix ix_list (pv 0) pe_int (by intro _ _; rfl)) (pe_ix ix_list (pv 0) pe_int (by intro _ _; rfl))) pa_nil)) pe_int) pe_int) pa_nil)) (pv 1)))))), ?_⟩
  obtain ⟨hl, pp, F0, ds, k, B, r, hmm, q⟩ := hs
  unfold mDraw at hmm
  split at hmm
  case h_2 => cases hmm
  rename_i l n
  cases r with
  | @cons v1 vs d1 ds r1 r =>
    cases r with
    | @cons v2 vs d2 ds r2 r =>
      cases r with
      | nil =>
        rcases r1 with r1 | ⟨_, rfl⟩
        · cases r1
        rcases r2 with r2 | ⟨r2, _⟩
        case inr => cases r2
        cases r2
        cases e : Nat.ble n 1000000000 with
        | false => rw [e] at hmm; cases hmm
        | true =>
          rw [e] at hmm
          have hmm : Dl.allB (n + 1) (fun c => k (.int (Int.ofNat c))) = true := hmm
          have hn : n ≤ 1000000000 := Nat.le_of_ble_eq_true e
          have hpos : (0 : Int) < Int.ofNat (n + 1) := Int.ofNat_lt.mpr (Nat.succ_pos n)
          have hbig : Int.ofNat (n + 1) < (1073741824 : Int) := by
            have : ((n + 1 : Nat) : Int) < 1073741824 := by omega
            exact this
          have fin : ∀ (z : Int), 0 ≤ z → z < Int.ofNat (n + 1) → k (.int z) = true := fun z h0 h1 => by
            obtain ⟨c, rfl⟩ := Int.eq_ofNat_of_zero_le h0
            exact allB_get hmm (Int.ofNat_lt.mp h1)
          obtain ⟨a, b, hp, ha, hb, hb2⟩ := B.po
          refine ⟨_, rfl, pp, [.int a, .int b], 0, .int a, rfl, rfl, .inl (.inl hp), rfl, a, 0, rfl, rfl, _, rfl, ?_⟩
          show (if decide ((0 : Int) < a) = true then _ else _)
          by_cases h0 : 0 < a
          · rw [if_pos (decide_eq_true h0)]
            refine ⟨_, rfl, pp, [.int a, .int b], 0, .int a, rfl, rfl, .inl (.inl hp), rfl, _, rfl, a, Int.ofNat (n + 1), rfl, ⟨hpos, hbig⟩, fun p hpn => ?_⟩
            have st := Stp.newO (o := .tup [.int (a / Int.ofNat (n + 1)), .int (a % Int.ofNat (n + 1))]) B hpn
            have np := ne_pp B hpn
            refine ⟨p, [.int (a / Int.ofNat (n + 1)), .int (a % Int.ofNat (n + 1))], rfl, .inl (.inl upd_same), rfl, _, _, rfl, _, rfl, pp, [.int a, .int b], 0, 0, rfl, rfl, ?_, rfl, _, _, rfl, rfl, _, rfl, ?_⟩
            · rw [upd_ne (Ne.symm np)]; exact hp
            · exact q _ _ F0 _ (stp_pot B st (Int.ediv_nonneg ha (Int.le_of_lt hpos)) hb hb2) (.int _) (fin _ (Int.emod_nonneg _ (Int.ne_of_gt hpos)) (Int.emod_lt_of_pos _ hpos))
          · rw [if_neg (fun z => h0 (of_decide_eq_true z))]
            have m1 : (0 : Int) ≤ (b * 39373 + 3229) % 2147483587 := Int.emod_nonneg _ (by decide)
            have m2 : (b * 39373 + 3229) % 2147483587 < 2147483587 := Int.emod_lt_of_pos _ (by decide)
            refine ⟨_, rfl, pp, [.int a, .int b], 1, .int b, rfl, rfl, .inl (.inl hp), rfl, b, 39373, rfl, rfl, .inr (by decide), _, _, rfl, rfl, .inl ⟨_, rfl, _, 2147483587, rfl, rfl, (show (0 : Int) < 2147483587 by decide), ?_⟩⟩
            refine ⟨_, rfl, pp, [.int a, .int b], 1, 1, rfl, rfl, hp, rfl, ?_⟩
            have hz : upd H pp (HO.lst [.int a, .int ((b * 39373 + 3229) % 2147483587)]) pp = some (.lst [.int a, .int ((b * 39373 + 3229) % 2147483587)]) := upd_same
            refine ⟨_, rfl, pp, [.int a, .int ((b * 39373 + 3229) % 2147483587)], 1, .int ((b * 39373 + 3229) % 2147483587), rfl, rfl, .inl (.inl hz), rfl, _, rfl, pp, [.int a, .int ((b * 39373 + 3229) % 2147483587)], 1, .int ((b * 39373 + 3229) % 2147483587), rfl, rfl, .inl (.inl hz), rfl, (b * 39373 + 3229) % 2147483587, (b * 39373 + 3229) % 2147483587, rfl, rfl, .inl ⟨by omega, by omega⟩, .inl ⟨_, rfl, _, 2147483563, rfl, rfl, (show (0 : Int) < 2147483563 by decide), _, 19, rfl, rfl, ⟨by decide, by decide⟩, .inl ⟨_, rfl, _, rfl, _, _, rfl, rfl, hpos, ?_⟩⟩⟩
            exact q _ _ F0 _ (stp_pot B (Stp.refl B) ha m1 (by omega)) (.int _) (fin _ (Int.emod_nonneg _ (Int.ne_of_gt hpos)) (Int.emod_lt_of_pos _ hpos))

abbrev N__law_pot : List Str := ["script", "k", "cell"]
theorem S__law_pot : FnScope N__law_pot ["script", "k"] (defScope (top 63)) := ⟨rfl, rfl, rfl, by decide +kernel, rfl, by decide +kernel, by decide +kernel⟩
def potTail : TS := tRet (tLst (tCons (tCB (fun xs H Q => ∃ i j, xs = [V.int i, .int j] ∧ Q (.int (if j > i then j else i)) H) (tCons (tC (.int 0)) (tCons (tOp (rI0 fun i j => .int (i - j)) (tVar 2) (tOp (rI CPow fun i j => .int (i ^ j.toNat)) (tC (.int 10)) (tC (.int 18)))) tNil)))
  (tCons (tOp (rI0 fun i j => .int (i + j)) (tOp (rI (fun _ j => 0 < j) fun i j => .int (i % j)) (tCB (fun xs H Q => (∃ i, xs = [V.int i] ∧ Q (.int i) H) ∨ ∃ k, xs = [V.bl k] ∧ Q (.int (if k then 1 else 0)) H) (tCons (tOp (rI0 fun i j => .int (i + j)) (tOp (rI0 fun i j => .int (i + j)) (tOp (rI CMul fun i j => .int (i * j)) (tOp (rI (fun _ j => 0 < j) fun i j => .int (i % j)) (tCB (fun xs H Q => (∃ i, xs = [V.int i] ∧ Q (.int i) H) ∨ ∃ k, xs = [V.bl k] ∧ Q (.int (if k then 1 else 0)) H) (tCons (tVar 2) tNil)) (tC (.int 2147483549))) (tC (.int 40014))) (tOp (rI CMul fun i j => .int (i * j)) (tC (.int 11969)) (tVar 1))) (tC (.int 61))) tNil)) (tC (.int 2147483563))) (tC (.int 1))) tNil)))
theorem pot_tail {a : Addr} {k c : Int} {H : Hp} {D : Ends} (h1 : 0 ≤ k) (h2 : k < 100) (hQ : ∀ p x y, H p = none → 0 ≤ x → 0 ≤ y → y < 4294967296 → D.rt (.ref p) (upd H p (.lst [.int x, .int y]))) : potTail D [some (.ref a), some (.int k), some (.int c)] H := by
  have m1 : (0 : Int) ≤ c % 2147483549 := Int.emod_nonneg _ (by decide)
  have m2 : c % 2147483549 < 2147483549 := Int.emod_lt_of_pos _ (by decide)
  refine ⟨_, rfl, 10, 18, rfl, rfl, ⟨by decide, by decide, by decide⟩, _, _, rfl, rfl, _, _, rfl, ?_⟩
  refine ⟨_, rfl, .inl ⟨_, rfl, _, 2147483549, rfl, rfl, (show (0 : Int) < 2147483549 by decide), c % 2147483549, 40014, rfl, rfl, .inl ⟨by omega, by omega⟩, _, rfl, 11969, k, rfl, rfl, .inl ⟨by decide, by decide⟩, _, _, rfl, rfl, _, 61, rfl, rfl, .inl ⟨_, rfl, _, 2147483563, rfl, rfl, (show (0 : Int) < 2147483563 by decide), _, 1, rfl, rfl, ?_⟩⟩⟩
  refine ⟨(show (2 : Nat) ≤ sizeLine by decide), fun p hp => ?_⟩
  refine hQ p _ _ hp ?_ ?_ ?_
  · show (0 : Int) ≤ (if c - (10 : Int) ^ (18 : Int).toNat > 0 then c - (10 : Int) ^ (18 : Int).toNat else 0)
    split
    · omega
    · omega
  · show (0 : Int) ≤ (c % 2147483549 * 40014 + 11969 * k + 61) % 2147483563 + 1
    have : (0 : Int) ≤ (c % 2147483549 * 40014 + 11969 * k + 61) % 2147483563 := Int.emod_nonneg _ (by decide)
    omega
  · show (c % 2147483549 * 40014 + 11969 * k + 61) % 2147483563 + 1 < 4294967296
    have : (c % 2147483549 * 40014 + 11969 * k + 61) % 2147483563 < 2147483563 := Int.emod_lt_of_pos _ (by decide)
    omega
theorem ok_pot {f : Addr} {fd : FuncData} (F : FnP K "_law_pot" (top 63) f fd) (bl : ∀ x ∈ blt, mg x = none) : FnOk P w K mg base CX0 1 f fd ["script", "k"] (spPot K) := by
  refine F.ok S__law_pot (fun vs H Q E h => ?_) (fun cdv A outer s H vs Q E hr hs => ?_)
  · obtain ⟨a, ns, k, rfl, _⟩ := h
    rfl
  refine ⟨_, PSs.nox (pss_cons (ps_set (i := 2) S__law_pot.nd rfl (Or.inl rfl) (pe_op op_add (pe_op op_mul pe_int (pv 1)) pe_int))
    (pss_cons (ps_if (pt_cmpR op_lt (pv 1) (pe_callB call_len_seq rfl (bl "len" (by decide)) (by decide +kernel) (pa_cons (pv 0) pa_nil)) (nomark _))
      (pss_one (ps_set (i := 2) S__law_pot.nd rfl (Or.inl rfl) (pe_callB call_abs rfl (bl "abs" (by decide)) (by decide +kernel) (pa_cons (pe_ix ix_list (pv 0) (pv 1) (by intro _ _; rfl)) pa_nil)))) pss_nil)
    (pss_one (ps_ret (pe_lst (pa_cons (pe_callB (call_max2 rfl) rfl (bl "max" (by decide)) (by decide +kernel) (pa_cons pe_int (pa_cons (pe_op op_sub (pv 2) (pe_op op_pow pe_int pe_int)) pa_nil))) (pa_cons (pe_op op_add (pe_op op_mod (pe_callTy call_int1 rfl (bl "int" (by decide)) (by decide +kernel) (pa_cons (pe_op op_add (pe_op op_add (pe_op op_mul (pe_op op_mod (pe_callTy call_int1 rfl (bl "int" (by decide)) (by decide +kernel) (pa_cons (pv 2) pa_nil)) pe_int) pe_int) (pe_op op_mul pe_int (pv 1))) pe_int) pa_nil)) pe_int) pe_int) pa_nil))))))), ?_⟩
  obtain ⟨a, ns, k, rfl, hS, h1, h2, hQ⟩ := hs
  refine ⟨_, rfl, 3221, k, rfl, rfl, .inl ⟨by decide, by decide⟩, _, 11969, rfl, rfl, ?_⟩
  refine ⟨_, rfl, _, rfl, a, ns.map V.int, rfl, .inl hS, k, _, rfl, rfl, _, rfl, ?_⟩
  show (if decide (k < ((ns.map V.int).length : Int)) = true then _ else _)
  by_cases h0 : k < ((ns.map V.int).length : Int)
  · rw [if_pos (decide_eq_true h0)]
    obtain ⟨j, rfl⟩ := Int.eq_ofNat_of_zero_le h1
    have hj : j < (ns.map V.int).length := Int.ofNat_lt.mp h0
    have hj2 : j < ns.length := by rw [List.length_map] at hj; exact hj
    have e : atI (ns.map V.int) (Int.ofNat j) = some (.int ns[j]) := by
      unfold atI
      rw [ixN_lt hj]
      show (ns.map V.int)[j]? = _
      rw [List.getElem?_map, List.getElem?_eq_getElem hj2]
      rfl
    exact ⟨_, rfl, _, rfl, a, ns.map V.int, _, _, rfl, rfl, hS, e, _, rfl, pot_tail h1 h2 hQ⟩
  · rw [if_neg (fun z => h0 (of_decide_eq_true z))]
    exact pot_tail h1 h2 hQ
end
end Kp

namespace Dl
open PySem PySem.Spec PyProof.Rows L2 PySem.Builtin PySem.Builtin.Str
/-- plain signs alone -/
def Pn (s : Str) : Prop := ∀ c ∈ s.cps.toList, c ≤ 127
theorem pn_append {a b : Str} (ha : Pn a) (hb : Pn b) : Pn (a ++ b) := fun c h => by
  have e : (a ++ b).cps = a.cps ++ b.cps := rfl
  rw [e, Array.toList_append, List.mem_append] at h
  rcases h with h | h
  · exact ha c h
  · exact hb c h
theorem pn_lit {s : String} (h : (s.toList.all fun c => decide (c.toNat ≤ 127)) = true) : Pn (Str.ofString s) := fun c hc => by
  rw [Str.ofString_eq_toList] at hc
  simp only [List.mem_map] at hc
  obtain ⟨ch, h1, rfl⟩ := hc
  exact of_decide_eq_true (List.all_eq_true.mp h ch h1)
theorem pn_int (i : Int) : Pn (PyData.shown (.int i)) := by
  show Pn (Str.ofString (toString i))
  refine pn_lit (List.all_eq_true.mpr fun c hc => decide_eq_true ?_)
  rcases int_sign i c hc with h | rfl
  · have := digit_range h
    omega
  · decide
theorem pn_from : ∀ (ts : List Str) (k : Nat) (acc : Str), Pn acc → (∀ t ∈ ts, Pn t) → Pn (textFrom k acc ts)
  | [], _, acc, h, _ => h
  | t :: ts, k, acc, h, ht => by
    refine pn_from ts (k + 1) _ (pn_append (pn_append h ?_) (ht t List.mem_cons_self)) fun u hu => ht u (List.mem_cons_of_mem _ hu)
    split <;> exact pn_lit (by decide)
theorem pn_list {ts : List Str} (h : ∀ t ∈ ts, Pn t) : Pn (listText ts) := pn_append (pn_from ts 0 _ (pn_lit (by decide)) h) (pn_lit (by decide))
theorem pn_join : ∀ (ts : List Str), (∀ t ∈ ts, Pn t) → Pn (Str.join ", " ts)
  | [], _ => fun c h => by cases h
  | [x], h => h x List.mem_cons_self
  | x :: y :: r, h => pn_append (pn_append (h x List.mem_cons_self) (pn_lit (by decide))) (pn_join (y :: r) fun t ht => h t (List.mem_cons_of_mem _ ht))
theorem pn_tuple {ts : List Str} (h : ∀ t ∈ ts, Pn t) : Pn (tupleText ts) := by
  refine pn_append (pn_append (pn_lit (by decide)) (pn_join ts h)) ?_
  split <;> exact pn_lit (by decide)
theorem reprChar_pn {q c : Nat} (hq : q = 34 ∨ q = 39) (h : c ≤ 127) : ∀ x ∈ reprChar q c, x ≤ 127 := by
  have key : ∀ c, c < 128 → ((reprChar 34 c).all (fun x => decide (x ≤ 127)) && (reprChar 39 c).all (fun x => decide (x ≤ 127))) = true := by decide +kernel
  have k := key c (by omega)
  rw [Bool.and_eq_true, List.all_eq_true, List.all_eq_true] at k
  rcases hq with rfl | rfl
  · exact fun x hx => of_decide_eq_true (k.1 x hx)
  · exact fun x hx => of_decide_eq_true (k.2 x hx)
theorem reprFold_pn {q : Nat} (hq : q = 34 ∨ q = 39) : ∀ (l : List Nat) (acc : Array Nat), (∀ c ∈ l, c ≤ 127) → (∀ c ∈ acc.toList, c ≤ 127) → ∀ c ∈ (l.foldl (fun out c => out ++ (reprChar q c).toArray) acc).toList, c ≤ 127
  | [], acc, _, h => h
  | c :: r, acc, hl, h => by
    rw [List.foldl_cons]
    refine reprFold_pn hq r _ (fun c hc => hl c (List.mem_cons_of_mem _ hc)) fun x hx => ?_
    rw [Array.toList_append, List.mem_append] at hx
    rcases hx with hx | hx
    · exact h x hx
    · exact reprChar_pn hq (hl c List.mem_cons_self) x (by simpa using hx)
theorem pn_str {x : Str} (h : x.cps.all (fun c => Nat.ble c 127) = true) : Pn (reprText x) := fun c hc => by
  have hq := quote_or x
  have q1 : reprQuote x ≤ 127 := by rcases hq with h | h <;> rw [h] <;> decide
  unfold reprText at hc
  simp only at hc
  rw [Array.toList_push, ← Array.foldl_toList, List.mem_append] at hc
  rcases hc with hc | hc
  · refine reprFold_pn hq x.cps.toList #[reprQuote x] (fun c hc => ?_) (fun c hc => ?_) c hc
    · rw [Array.all_eq_true] at h
      obtain ⟨i, hi, e⟩ := List.mem_iff_getElem.mp hc
      have := h i (by simpa using hi)
      rw [Array.getElem_toList] at e
      rw [e] at this
      exact Nat.le_of_ble_eq_true this
    · have : c = reprQuote x := by simpa using hc
      rw [this]; exact q1
  · have : c = reprQuote x := by simpa using hc
    rw [this]; exact q1
mutual
theorem pn_shown : ∀ (n : Nat) (d : PyData), okR n d = true → Pn d.shown
  | n, .none, _ => pn_lit (s := "None") (by decide)
  | n, .bool b, _ => by cases b <;> exact pn_lit (by decide)
  | n, .int i, _ => pn_int i
  | n, .str x, h => pn_str (by unfold okR at h; exact h)
  | n + 1, .list xs, h => by
    show Pn (listText (PyData.shownAll xs))
    exact pn_list (pn_showns n xs (by unfold okR at h; exact h))
  | n + 1, .tuple xs, h => by
    show Pn (tupleText (PyData.shownAll xs))
    exact pn_tuple (pn_showns n xs (by unfold okR at h; exact h))
  | 0, .list _, h => by unfold okR at h; cases h
  | 0, .tuple _, h => by unfold okR at h; cases h
  | n, .dict _, h => by cases n <;> · unfold okR at h; cases h
theorem pn_showns : ∀ (n : Nat) (ds : List PyData), oksR n ds = true → ∀ t ∈ PyData.shownAll ds, Pn t
  | _, [], _ => fun _ h => nomatch h
  | n, x :: xs, h => fun t ht => by
    unfold oksR at h
    cases e : okR n x with
    | false => rw [e] at h; cases h
    | true =>
      rw [e] at h
      rcases List.mem_cons.mp ht with rfl | ht
      · exact pn_shown n x e
      · exact pn_showns n xs h t ht
end
theorem okR_of {d : PyData} (h : reprOk d = true) : okR 40 d = true := by
  unfold reprOk at h
  cases e : okR 40 d with
  | true => rfl
  | false => rw [e] at h; cases h
theorem pl_shown {d : PyData} (h : reprOk d = true) : plD 40 (.str d.shown) = true := by
  show d.shown.cps.all (fun c => Nat.ble c 127) = true
  rw [Array.all_eq_true]
  intro i hi
  exact Nat.ble_eq_true_of_le (pn_shown 40 d (okR_of h) _ (Array.getElem_mem_toList hi))
theorem op_eqsh {d : PyData} (h : reprOk d = true) : Ev (gEq (.str d.shown) (.str d.shown)) (.bool true) := fun k => by
  have := op_eq' (pl_shown h) (pl_shown h) k
  rw [this]
  unfold fEq
  rw [decide_eq_true rfl]
end Dl

namespace Dl
open PySem PySem.Spec PyProof.Rows L2
/-! shared rules for a law's own text: draws, parts, calls opened by hand -/
theorem draw_all {env : Sls} {i n : Nat} {k : KF} (h : look env i = .pt) (hn : n ≤ 1000000000) (q : ∀ c : Nat, c < n + 1 → k (.int (c : Int)) = true) : dCallN 2 mDraw (aPot i (aCons (dC (.int (Int.ofNat (n + 1)))) aNil)) env k = true := by
  show (match look env i with
    | .pt => (match Nat.ble n 1000000000 with
      | true => allB (n + 1) fun c => k (.int (Int.ofNat c))
      | false => false)
    | _ => false) = true
  rw [h]
  simp only [Nat.ble_eq_true_of_le hn]
  exact allB_of q
theorem pick_all {xs : List PyData} {k : KF} (h0 : xs ≠ []) (h1 : xs.length ≤ 1000000000) (q : ∀ x ∈ xs, k x = true) : mOf 2 (sRet (dOp gIx (dVar 1) (dCallN 2 mDraw (aPot 0 (aCons (dCB gLen (aCons (dVar 1) aNil)) aNil))))) [potD, .list xs] k = true := by
  obtain ⟨n, hn⟩ : ∃ n, xs.length = n + 1 := by
    cases xs with
    | nil => exact absurd rfl h0
    | cons x xs => exact ⟨xs.length, rfl⟩
  show mDraw [potD, .int (xs.length : Int)] (fun y => gIx (.list xs) y k) = true
  rw [hn]
  show (match Nat.ble n 1000000000 with
      | true => allB (n + 1) fun c => gIx (.list xs) (.int (Int.ofNat c)) k
      | false => false) = true
  simp only [Nat.ble_eq_true_of_le (show n ≤ 1000000000 by omega)]
  refine allB_of fun c hc => ?_
  have hc : c < xs.length := by omega
  have e := op_ixL (Dl.atI_nat (List.getElem?_eq_getElem hc)) k
  refine Eq.trans e ?_
  exact q _ (List.getElem_mem hc)
theorem k_asg2 {A C : DE} {g : DG} {B : DEnds} {env : Sls} : sAsg (dTup (aCons A (aCons C aNil))) g B env = A env fun a => C env fun c => g (.tuple [a, c]) env B.nx := rfl
theorem k_tup2 {A C : DE} {env : Sls} {k : KF} : dTup (aCons A (aCons C aNil)) env k = A env fun a => C env fun c => k (.tuple [a, c]) := rfl
theorem k_call2 {A C : DE} {m : Fn} {env : Sls} {k : KF} : dCallN 2 m (aCons A (aCons C aNil)) env k = A env fun a => C env fun c => m [a, c] k := rfl
theorem k_op {A C : DE} {g : G2} {env : Sls} {k : KF} : dOp g A C env k = A env fun a => C env fun c => g a c k := rfl
theorem k_c {d : PyData} {env : Sls} {k : KF} : dC d env k = k d := rfl
theorem k_asg {A : DE} {g : DG} {B : DEnds} {env : Sls} : sAsg A g B env = A env fun d => g d env B.nx := rfl
theorem k_seq {a b : DS} {B : DEnds} {env : Sls} : sSeq a b B env = a { B with nx := b B } env := rfl
theorem k_potN {m : Fn} {t : DS} {B : DEnds} {e : Sls} : sSeq (sAsg (dCallN 1 m (aPot 0 aNil)) (gN 1)) t B (.pt :: e) = m [potD] fun d => t B ((.pt :: e).set 1 (.fz d)) := rfl
theorem k_mOf {n : Nat} {b : DS} {ds : List PyData} {k : KF} : mOf n b ds k = b { nx := fun _ => k .none, rt := k, bk := fun _ => false, ct := fun _ => false } (startE n ds) := rfl
theorem draw_arg {env : Sls} {i : Nat} {de : DE} {d : PyData} {k : List PyData → Bool} (h : Ev (de env) d) : aPot i (aCons de aNil) env k = aPot i (aCons (dC d) aNil) env k := by
  unfold aPot
  cases look env i <;> first | rfl | exact h _
theorem draw_all' {env : Sls} {i n : Nat} {de : DE} {k : KF} (h : look env i = .pt) (hd : Ev (de env) (.int (Int.ofNat (n + 1)))) (hn : n ≤ 1000000000) (q : ∀ c : Nat, c < n + 1 → k (.int (c : Int)) = true) : dCallN 2 mDraw (aPot i (aCons de aNil)) env k = true := by
  have := draw_all h hn q
  unfold dCallN at this ⊢
  rw [draw_arg hd]
  exact this
theorem cut_lo {xs : List PyData} {k : Nat} (h : k ≤ xs.length) : Dl.cutD xs none (some (k : Int)) = xs.take k := by
  unfold Dl.cutD
  rw [HT.sIx_none, HT.sIx_nat, List.drop_zero, Nat.sub_zero, Nat.min_eq_left h]
theorem cut_hi {xs : List PyData} {k : Nat} (h : k ≤ xs.length) : Dl.cutD xs (some (k : Int)) none = xs.drop k := by
  unfold Dl.cutD
  rw [HT.sIx_none, HT.sIx_nat, Nat.min_eq_left h]
  exact List.take_of_length_le (by rw [List.length_drop]; omega)
theorem op_neB {b : Bool} : Ev (gNe (.bool b) (.bool b)) (.bool false) := fun k => by cases b <;> rfl
theorem all_tt {α : Type} (ws : List α) : Ev (gAll [.list (ws.map fun _ => .bool true)]) (.bool true) := by
  refine ev_toB (cb_bools (bs := ws.map fun _ => true) (by rw [List.map_map]; rfl)) ?_
  simp
theorem all_map {α : Type} {ws : List α} {f : α → PyData} {env : Sls} {g : DG} {el : DE} {vs : List Nat} {it : DI} (hi : EvA (it env) (ws.map f)) (h : ∀ w ∈ ws, ∃ e, EvG (g (f w) (wipeE env vs)) e ∧ Ev (el e) (.bool true)) (hl : small ws.length = true) : Ev (dCB gAll (aCons (dLc it g dYes el vs) aNil) env) (.bool true) :=
  ev_cb (eva_cons (ev_lc hi (evlc_map (r := fun _ => .bool true) h) (by rw [List.length_map]; exact hl)) eva_nil) (all_tt ws)
theorem small_le {n m : Nat} (h : n ≤ m) (hm : m ≤ 100000 := by decide) : small n = true := Nat.ble_eq_true_of_le (Nat.le_trans h hm)
theorem range_draw {env : Sls} {i n : Nat} {k : List PyData → Bool} (h : look env i = .pt) (hn : n ≤ 100000) (q : ∀ c : Nat, c < n + 1 → k ((List.range (c + 1)).map fun i : Nat => .int (i : Int)) = true) :
    iRange1 (dOp gAdd (dC (.int 1)) (dCallN 2 mDraw (aPot i (aCons (dC (.int (Int.ofNat (n + 1)))) aNil)))) env k = true := by
  refine draw_all h (by omega) fun c hc => ?_
  have e := evi_rangeN (env := env) (de := dOp gAdd (dC (.int 1)) (dC (.int (c : Int)))) (n := c + 1) (ev_to (ev_op ev_c ev_c op_add') (by congr 1; omega)) (by omega) k
  exact e.trans (q c hc)
end Dl

namespace Dl
open PySem PySem.Spec PyProof.Rows L2
/-! fractions by a told bottom's power and a told size -/
def Sz (s k m : Nat) (x : Rat) : Prop := ∃ z : Int, x = (z : Rat) / ((s ^ k : Nat) : Rat) ∧ z.natAbs ≤ m * s ^ k
section
variable {s j k m n : Nat} {x y : Rat}
theorem pw_ne (hs : 0 < s) (k : Nat) : ((s ^ k : Nat) : Rat) ≠ 0 := fun e => by
  have h := Nat.pow_pos (n := k) hs
  have : ((s ^ k : Nat) : Rat) = ((0 : Nat) : Rat) := e
  have := Rat.natCast_inj.mp this
  omega
theorem Sz.up (hs : 0 < s) (h : Sz s j m x) (hk : j ≤ k) (hm : m ≤ n) : Sz s k n x := by
  obtain ⟨z, rfl, hz⟩ := h
  obtain ⟨d, rfl⟩ : ∃ d, k = j + d := ⟨k - j, by omega⟩
  refine ⟨z * (s ^ d : Nat), ?_, ?_⟩
  · have h1 := pw_ne hs j
    have h2 := pw_ne hs d
    rw [Nat.pow_add, Rat.natCast_mul, Rat.intCast_mul, Rat.intCast_natCast]
    generalize ((s ^ j : Nat) : Rat) = a at h1
    generalize ((s ^ d : Nat) : Rat) = b at h2
    generalize (z : Rat) = c
    have e1 : a * (c / a) = c := by grind
    have e2 : (a * b) * (c * b / (a * b)) = c * b := by grind
    grind
  · rw [Int.natAbs_mul, Int.natAbs_natCast, Nat.pow_add, ← Nat.mul_assoc]
    exact Nat.mul_le_mul_right _ (Nat.le_trans hz (Nat.mul_le_mul_right _ hm))
theorem Sz.add (h : Sz s k m x) (h' : Sz s k n y) : Sz s k (m + n) (x + y) := by
  obtain ⟨z, rfl, hz⟩ := h
  obtain ⟨z', rfl, hz'⟩ := h'
  refine ⟨z + z', by rw [Rat.intCast_add, Rat.div_def, Rat.div_def, Rat.div_def, Rat.add_mul], ?_⟩
  rw [Nat.add_mul]
  exact Nat.le_trans (Int.natAbs_add_le _ _) (Nat.add_le_add hz hz')
theorem Sz.neg (h : Sz s k m x) : Sz s k m (-x) := by
  obtain ⟨z, rfl, hz⟩ := h
  exact ⟨-z, by rw [Rat.intCast_neg, Rat.div_def, Rat.div_def, Rat.neg_mul], by rw [Int.natAbs_neg]; exact hz⟩
theorem Sz.sub (h : Sz s k m x) (h' : Sz s k n y) : Sz s k (m + n) (x - y) := by
  rw [Rat.sub_eq_add_neg]
  exact h.add h'.neg
theorem Sz.mul (hs : 0 < s) (h : Sz s j m x) (h' : Sz s k n y) : Sz s (j + k) (m * n) (x * y) := by
  obtain ⟨z, rfl, hz⟩ := h
  obtain ⟨z', rfl, hz'⟩ := h'
  refine ⟨z * z', ?_, ?_⟩
  · have h1 := pw_ne hs j
    have h2 := pw_ne hs k
    rw [Nat.pow_add, Rat.natCast_mul, Rat.intCast_mul, Rat.div_def, Rat.div_def, Rat.div_def, Rat.inv_mul_rev]
    grind
  · rw [Int.natAbs_mul, Nat.pow_add]
    calc z.natAbs * z'.natAbs ≤ (m * s ^ j) * (n * s ^ k) := Nat.mul_le_mul hz hz'
      _ = m * n * (s ^ j * s ^ k) := by rw [Nat.mul_mul_mul_comm]
theorem Sz.int (i : Int) (k : Nat) (h : i.natAbs ≤ m) (hs : 0 < s) : Sz s k m (i : Rat) := by
  refine ⟨i * (s ^ k : Nat), ?_, ?_⟩
  · have h1 := pw_ne hs k
    rw [Rat.intCast_mul, Rat.intCast_natCast]
    generalize ((s ^ k : Nat) : Rat) = a at h1
    generalize (i : Rat) = c
    have e2 : a * (c * a / a) = c * a := by grind
    grind
  · rw [Int.natAbs_mul, Int.natAbs_natCast]
    exact Nat.mul_le_mul_right _ h
theorem Sz.zero (hs : 0 < s) (k : Nat) : Sz s k 0 0 := Sz.int 0 k (Nat.le_refl 0) hs
theorem Sz.one (hs : 0 < s) (k : Nat) : Sz s k 1 1 := Sz.int 1 k (by decide) hs
theorem Sz.bd (hs : 0 < s) (hs4 : s ≤ 256) (h : Sz s k m x) {a : Nat} (hm : m < 2 ^ a) (ha : 1 ≤ a := by decide) : Bd (8 * k + a) x := by
  obtain ⟨z, rfl, hz⟩ := h
  have h16 : s ^ k ≤ 2 ^ (8 * k) := by
    rw [Nat.pow_mul]
    exact Nat.pow_le_pow_left hs4 k
  have hp := Nat.pow_pos (n := k) hs
  have e : (z : Rat) / ((s ^ k : Nat) : Rat) = mkRat z (s ^ k) := by rw [Rat.mkRat_eq_div]
  rw [e]
  have h2 : z.natAbs < 2 ^ (8 * k + a) := by
    rw [Nat.pow_add, Nat.mul_comm]
    exact Nat.lt_of_le_of_lt hz (Nat.lt_of_lt_of_le (Nat.mul_lt_mul_of_pos_right hm hp) (Nat.mul_le_mul_left _ h16))
  refine bd_mk (by omega) h2 ?_
  rw [Nat.pow_add]
  have : 2 ≤ 2 ^ a := by
    obtain ⟨b, rfl⟩ : ∃ b, a = b + 1 := ⟨a - 1, by omega⟩
    rw [Nat.pow_succ]
    have := Nat.two_pow_pos b
    omega
  have : 2 ^ (8 * k) * 2 ≤ 2 ^ (8 * k) * 2 ^ a := Nat.mul_le_mul_left _ this
  have := Nat.two_pow_pos (8 * k)
  omega
end
end Dl

namespace Dl
open PySem PySem.Spec PyProof.Rows L2
/-! the law's own four operations by qPlain; both hands at once -/
section
variable {p q : Rat} {m n : Nat} {k : KF}
theorem ev_addP (hp : Bd m p) (hq : Bd n q) (h : m + n ≤ 8998) : Ev (qAddR qPlain [fr p, fr q]) (fr (p + q)) := fun k => by
  have e1 := mul_ok (i := p.num) (j := Int.ofNat q.den) hp.1 hq.2 (by omega)
  have e2 := mul_ok (i := q.num) (j := Int.ofNat p.den) hq.1 hp.2 (by omega)
  have e3 := mul_ok (i := Int.ofNat p.den) (j := Int.ofNat q.den) hp.2 hq.2 (by omega)
  have h1 := nat_mul_lt hp.1 hq.2
  have h2 := nat_mul_lt hq.1 hp.2
  have e : 2 ^ (m + n + 1) = 2 ^ (m + n) + 2 ^ (m + n) := by rw [Nat.pow_succ]; omega
  rw [Nat.add_comm n m] at h2
  have h4 : (p.num * (q.den : Int) + q.num * (p.den : Int)).natAbs < 2 ^ (m + n + 1) := by
    have := Int.natAbs_add_le (p.num * (q.den : Int)) (q.num * (p.den : Int))
    omega
  show (mI p.num (Int.ofNat q.den) fun x => mI q.num (Int.ofNat p.den) fun y => mI (Int.ofNat p.den) (Int.ofNat q.den) fun z => fI (x + y) fun t => qPlain [.int t, .int z] k) = _
  unfold mI
  simp only [e1, e2, e3, fI_eq]
  have h4' : Nat.log2 (p.num * Int.ofNat q.den + q.num * Int.ofNat p.den).natAbs ≤ 900000 := by
    have := log_lt h4
    exact Nat.le_trans this (by omega)
  rw [plain_red h4', Rat.add_def']
  exact red_fr (den_ne p q) (pow_mul_lt hp.2 hq.2) (by omega)
theorem ev_divP (hp : Bd m p) (hq : Bd n q) (h : m + n ≤ 8999) (hz : q ≠ 0) : Ev (qDivR qPlain [fr p, fr q]) (fr (p / q)) := fun k => by
  have e1 := mul_ok (i := p.num) (j := Int.ofNat q.den) hp.1 hq.2 (by omega)
  have e3 := mul_ok (i := Int.ofNat p.den) (j := q.num) hp.2 hq.1 (by omega)
  show (mI p.num (Int.ofNat q.den) fun x => mI (Int.ofNat p.den) q.num fun z => qPlain [.int x, .int z] k) = _
  unfold mI
  simp only [e1, e3, fI_eq]
  have h4' : Nat.log2 (p.num * Int.ofNat q.den).natAbs ≤ 900000 := by
    have := log_lt (nat_mul_lt hp.1 hq.2)
    exact Nat.le_trans this (by omega)
  rw [plain_red h4', div_eq]
  have hn : q.num ≠ 0 := fun z => hz (Rat.num_eq_zero.mp z)
  refine red_any (n := m + n) (Int.mul_ne_zero (Int.natCast_ne_zero.mpr p.den_nz) hn) ?_ h
  rw [Int.natAbs_mul]
  exact pow_mul_lt hp.2 hq.1
end
/-- a def that adds, multiplies -/
def AddOk (f : Fn) : Prop := ∀ (p q : Rat) (m n : Nat), Bd m p → Bd n q → m + n ≤ 8998 → Ev (f [fr p, fr q]) (fr (p + q))
def MulOk (f : Fn) : Prop := ∀ (p q : Rat) (m n : Nat), Bd m p → Bd n q → m + n ≤ 8998 → Ev (f [fr p, fr q]) (fr (p * q))
theorem addok_red : AddOk (qAddR qReduced) := fun p q m n hp hq h => ev_add hp hq (by omega)
theorem addok_plain : AddOk (qAddR qPlain) := fun p q m n hp hq h => ev_addP hp hq h
theorem mulok_red : MulOk (qMulR qReduced) := fun p q m n hp hq h => ev_mul hp hq (by omega)
theorem mulok_plain : MulOk (qMulR qPlain) := fun p q m n hp hq h => ev_mulP hp hq (by omega)
/-! sums -/
def sumR : List Rat → Rat
  | [] => 0
  | x :: r => x + sumR r
theorem sumR_append : ∀ (a b : List Rat), sumR (a ++ b) = sumR a + sumR b
  | [], b => by show sumR b = 0 + sumR b; grind
  | x :: a, b => by
    show x + sumR (a ++ b) = x + sumR a + sumR b
    rw [sumR_append a b]
    grind
def SzL (s k m : Nat) (l : List Rat) : Prop := ∀ x ∈ l, Sz s k m x
section
variable {s k m : Nat}
theorem sumR_sz (hs : 0 < s) : ∀ {l : List Rat}, SzL s k m l → Sz s k (l.length * m) (sumR l)
  | [], _ => (Sz.zero hs k).up hs (Nat.le_refl _) (Nat.zero_le _)
  | x :: l, h => by
    have h1 := h x List.mem_cons_self
    have h2 := sumR_sz hs (l := l) fun y hy => h y (List.mem_cons_of_mem _ hy)
    exact (h1.add h2).up hs (Nat.le_refl _) (by rw [List.length_cons, Nat.succ_mul]; omega)
/-- the loop `found = add(found, one)` -/
theorem total_loop {A : Fn} (hA : AddOk A) (hs : 0 < s) (hs4 : s ≤ 256) (V : Sl) {a : Nat} (ha : 1 ≤ a) (hk : 16 * k + 2 * a ≤ 8998) : ∀ (l pre : List Rat) (j : Sl), SzL s k m (pre ++ l) → (pre ++ l).length * m < 2 ^ a →
    ∃ j', ExF (gN 2) (sAsg (dCallN 2 A (aCons (dVar 1) (aCons (dVar 2) aNil))) (gN 1)) (l.map fr) [V, .fz (fr (sumR pre)), j] [V, .fz (fr (sumR (pre ++ l))), j']
  | [], pre, j, _, _ => by rw [List.append_nil]; exact ⟨_, exf_nil⟩
  | x :: l, pre, j, h, hm => by
    have e : pre ++ x :: l = (pre ++ [x]) ++ l := by simp
    rw [e] at h hm ⊢
    obtain ⟨j', ih⟩ := total_loop hA hs hs4 V ha hk l (pre ++ [x]) (.fz (fr x)) h hm
    have hx : Sz s k m x := h x (by simp)
    have hp : SzL s k m pre := fun y hy => h y (by simp [hy])
    have l1 : pre.length * m < 2 ^ a := Nat.lt_of_le_of_lt (Nat.mul_le_mul_right _ (by simp)) hm
    have l2 : m < 2 ^ a := Nat.lt_of_le_of_lt (by
      have : 1 * m ≤ ((pre ++ [x]) ++ l).length * m := Nat.mul_le_mul_right _ (by simp; omega)
      omega) hm
    have b1 := (sumR_sz hs hp).bd hs hs4 l1 ha
    have b2 := hx.bd hs hs4 l2 ha
    have es : sumR (pre ++ [x]) = sumR pre + x := by
      rw [sumR_append]
      show sumR pre + (x + 0) = _
      grind
    refine ⟨j', exf_cons evg_n (ex_asg (d := fr (sumR (pre ++ [x]))) (ev_to (ev_call (eva_cons (ev_var rfl) (eva_cons (ev_var rfl) eva_nil)) (hA _ _ _ _ b1 b2 (by omega)) rfl) (by rw [es])) evg_n) ih⟩
end
/-! polynomials -/
def told : List Rat → List Rat
  | [] => []
  | x :: l => match told l with
    | [] => if x = 0 then [] else [x]
    | y :: r => x :: y :: r
end Dl

namespace Kp
open PySem PySem.Spec PyProof.Rows L2 Dl
abbrev Fl (l : List Rat) : PyData := .list (l.map fr)
abbrev Ft (l : List Rat) : PyData := .tuple (l.map fr)
theorem ev_nought {env : Sls} : Ev (dC c_NOUGHT env) (fr 0) := fun k => rfl
theorem ev_one {env : Sls} : Ev (dC c_ONE env) (fr 1) := fun k => rfl
theorem addP : AddOk m_add := addok_red
theorem mulP : MulOk m_multiply := mulok_red
theorem addL : AddOk m__law_plus := addok_plain
theorem mulL : MulOk m__law_times := mulok_plain
section
variable {s k m : Nat} {l : List Rat}
theorem s_total (hs : 0 < s) (hs4 : s ≤ 256) {a : Nat} (ha : 1 ≤ a) (hk : 16 * k + 2 * a ≤ 8998) (h : SzL s k m l) (hm : l.length * m < 2 ^ a) : Ev (m_total [Fl l]) (fr (sumR l)) := by
  obtain ⟨j', he⟩ := total_loop (m := m) addP hs hs4 (.fz (Fl l)) ha hk l [] .no h hm
  exact ev_def (rt_seq (ex_asg ev_nought evg_n) (rt_seq (ex_for (evi_seqL (ev_var rfl)) he) (rt_ret (ev_var rfl))))
theorem l_total (hs : 0 < s) (hs4 : s ≤ 256) {a : Nat} (ha : 1 ≤ a) (hk : 16 * k + 2 * a ≤ 8998) (h : SzL s k m l) (hm : l.length * m < 2 ^ a) : Ev (m__law_total [Fl l]) (fr (sumR l)) := by
  obtain ⟨j', he⟩ := total_loop (m := m) addL hs hs4 (.fz (Fl l)) ha hk l [] .no h hm
  exact ev_def (rt_seq (ex_asg ev_lit0 evg_n) (rt_seq (ex_for (evi_seqL (ev_var rfl)) he) (rt_ret (ev_var rfl))))
/-- child chances -/
structure COk (s : Nat) (cs : List Rat) : Prop where
  s0 : 0 < s
  s16 : s ≤ 256
  l1 : 1 ≤ cs.length
  l5 : cs.length ≤ 5
  sz : SzL s 1 1 cs
  nn : ∀ x ∈ cs, 0 ≤ x
  sm : sumR cs = 1
theorem s_is_fr {p : Rat} {n : Nat} (h : Bd n p) (hn : n ≤ 8999) : Ev (m_is_fraction_of [fr p]) (.bool true) := ev_isFr h hn
theorem abs_lt {i : Int} (h : i.natAbs < 2 ^ 39) : decide ((if i < 0 then -i else i) < 1000000000000) = true := by
  have e : (2 : Nat) ^ 39 = 549755813888 := by decide
  rw [e] at h
  refine decide_eq_true ?_
  split <;> omega
theorem den_lt {p : Rat} (h : Bd 39 p) : decide ((Int.ofNat p.den) < 1000000000000) = true := by
  have e : (2 : Nat) ^ 39 = 549755813888 := by decide
  have := h.2
  rw [e] at this
  refine decide_eq_true ?_
  show (p.den : Int) < _
  omega
theorem s_short {p : Rat} (h : Bd 39 p) : Ev (m_is_short [fr p]) (.bool true) :=
  ev_def (rt_ret (ev_andT (ev_call (eva_cons (ev_var rfl) eva_nil) (s_is_fr h (by decide)) rfl) (ev_andT (ev_toB (ev_op (ev_cb (eva_cons (ev_op (ev_var rfl) ev_c op_num) eva_nil) cb_abs) (fun _ => rfl : Ev (dC c_MOST_DIGITS _) (.int 1000000000000)) op_I) (abs_lt h.1)) (ev_toB (ev_op (ev_op (ev_var rfl) ev_c op_den) (fun _ => rfl : Ev (dC c_MOST_DIGITS _) (.int 1000000000000)) op_I) (den_lt h)))))
theorem nn_num {p : Rat} (h : 0 ≤ p) : decide ((0 : Int) ≤ p.num) = true := decide_eq_true (Rat.num_nonneg.mpr h)
theorem s_is_list {V : PyData} (hV : V = Fl l ∨ V = Ft l) : Ev (m_is_list [V]) (.bool true) := by
  rcases hV with rfl | rfl
  · exact ev_def (rt_ret (ev_toB (ev_isLT (ev_var rfl)) rfl))
  · exact ev_def (rt_ret (ev_toB (ev_isLT (ev_var rfl)) rfl))
theorem lookV {V : PyData} (hV : V = Fl l ∨ V = Ft l) (n : Nat) : look (startE (n + 1) [V]) 0 = .fz V := by rcases hV with rfl | rfl <;> rfl
theorem ev_lenV {V : PyData} (hV : V = Fl l ∨ V = Ft l) : Ev (gLen [V]) (.int (l.length : Int)) := by
  rcases hV with rfl | rfl
  · exact ev_to cb_lenL (by rw [List.length_map])
  · exact ev_to cb_lenT (by rw [List.length_map])
theorem evi_V {V : PyData} (hV : V = Fl l ∨ V = Ft l) {env : Sls} {de : DE} (h : Ev (de env) V) : EvA (iSeq de env) (l.map fr) := by
  rcases hV with rfl | rfl
  · exact evi_seqL h
  · exact evi_seqT h
theorem ev_listV {V : PyData} (hV : V = Fl l ∨ V = Ft l) : Ev (gList [V]) (Fl l) := by
  rcases hV with rfl | rfl
  · exact cb_lstL
  · exact cb_lstT
theorem s_are {V : PyData} (hV : V = Fl l ∨ V = Ft l) (hs : 0 < s) (hs4 : s ≤ 256) (l1 : 1 ≤ l.length) (l5 : l.length ≤ 5) (hk : k ≤ 100) (h : SzL s k 1 l) (nn : ∀ x ∈ l, 0 ≤ x) (sm : sumR l = 1) : Ev (m_are_children_of [V]) (.bool true) := by
  have hb : ∀ x ∈ l, Bd (8 * k + 1) x := fun x hx => (h x hx).bd hs hs4 (by decide)
  have l0 := lookV hV 1
  have c1 : Ev (dChain gLe gLe (dC (.int 1)) (dCB gLen (aCons (dVar 0) aNil)) (dC c_MOST_CHANCES) (startE 2 [V])) (.bool true) :=
    ev_chT ev_c (ev_cb (eva_cons (ev_var l0) eva_nil) (ev_lenV hV)) (ev_toB op_I (decide_eq_true (by omega))) (fun _ => rfl : Ev (dC c_MOST_CHANCES _) (.int 5)) (ev_toB op_I (decide_eq_true (by omega)))
  have k4 : (2 : Nat) ^ 4 = 16 := by decide
  have ht := s_total hs hs4 (a := 4) (by decide) (by omega) h (by omega)
  rw [sm] at ht
  refine ev_def (rt_seq (ex_ifF (evt_orF (evt_notF (evt_b (ev_call (eva_cons (ev_var l0) eva_nil) (s_is_list hV) rfl))) (evt_notF (evt_b c1))) ex_nil) (rt_ret (ev_andT (all_map (ws := l) (f := fr) (evi_V hV (ev_var l0)) (fun x hx => ⟨_, evg_n, ev_andT (ev_call (eva_cons (ev_var ?_) eva_nil) (s_is_fr (hb x hx) (by omega)) rfl) (ev_toB (ev_op (ev_op (ev_var ?_) ev_c op_num) ev_c op_I) (nn_num (nn x hx)))⟩) (small_le (m := 20) (by omega))) (ev_toB (ev_op (ev_call (eva_cons (ev_cb (eva_cons (ev_var l0) eva_nil) (ev_listV hV)) eva_nil) ht rfl) ev_one op_eqfr) (by simp)))))
  · rcases hV with rfl | rfl <;> rfl
  · rcases hV with rfl | rfl <;> rfl
theorem s_check {V : PyData} {cs : List Rat} (hV : V = Fl cs ∨ V = Ft cs) (h : COk s cs) : Ev (m_check_children [V]) .none := by
  have l0 := lookV hV 1
  refine ev_defN (ex_ifF (evt_orF (evt_notF (evt_b (ev_call (eva_cons (ev_var l0) eva_nil) (s_are hV h.s0 h.s16 h.l1 h.l5 (by decide) h.sz h.nn h.sm) rfl))) (evt_notF (evt_b (all_map (ws := cs) (f := fr) (evi_V hV (ev_var l0)) (fun x hx => ⟨_, evg_n, ev_call (eva_cons (ev_var ?_) eva_nil) (s_short (((h.sz x hx).bd h.s0 h.s16 (a := 1) (by decide)).mono (by decide))) rfl⟩) (small_le (m := 20) (by have := h.l5; omega)))))) ex_nil)
  rcases hV with rfl | rfl <;> rfl
end
end Kp

namespace Dl
/-! means, spreads, numbers of lists of rational numbers -/
def mnF : Nat → List Rat → Rat
  | _, [] => 0
  | n, c :: l => c * ((n : Int) : Rat) + mnF (n + 1) l
def sqF : Nat → List Rat → Rat
  | _, [] => 0
  | n, c :: l => c * (((n : Int) * (n : Int) : Int) : Rat) + sqF (n + 1) l
def sdF (M : Rat) : Nat → List Rat → Rat
  | _, [] => 0
  | n, c :: l => c * ((((n : Int) : Rat) - M) * (((n : Int) : Rat) - M)) + sdF M (n + 1) l
def nb (x : Rat) : List Rat → Rat
  | [] => 0
  | c :: l => c + x * nb x l
theorem mn_zip : ∀ (l : List Rat) (n : Nat), sumR ((l.zipIdx n).map fun p => p.1 * ((p.2 : Int) : Rat)) = mnF n l
  | [], _ => rfl
  | c :: l, n => by
    show c * ((n : Int) : Rat) + sumR ((l.zipIdx (n + 1)).map fun p => p.1 * ((p.2 : Int) : Rat)) = _
    rw [mn_zip l (n + 1)]
    rfl
theorem sq_zip : ∀ (l : List Rat) (n : Nat), sumR ((l.zipIdx n).map fun p => p.1 * (((p.2 : Int) * (p.2 : Int) : Int) : Rat)) = sqF n l
  | [], _ => rfl
  | c :: l, n => by
    show c * (((n : Int) * (n : Int) : Int) : Rat) + sumR ((l.zipIdx (n + 1)).map fun p => p.1 * (((p.2 : Int) * (p.2 : Int) : Int) : Rat)) = _
    rw [sq_zip l (n + 1)]
    rfl
def apF (M : Rat) : Nat → Nat → List Rat
  | _, 0 => []
  | n, k + 1 => (((n : Int) : Rat) - M) :: apF M (n + 1) k
theorem ap_len (M : Rat) : ∀ (k n : Nat), (apF M n k).length = k
  | 0, _ => rfl
  | k + 1, n => by show (apF M (n + 1) k).length + 1 = _; rw [ap_len M k]
theorem ap_range (M : Rat) : ∀ (k n : Nat), (List.range k).map (fun i => (((n + i : Nat) : Int) : Rat) - M) = apF M n k
  | 0, _ => rfl
  | k + 1, n => by
    rw [List.range_succ_eq_map, List.map_cons, List.map_map]
    show ((((n + 0 : Nat) : Int) : Rat) - M) :: _ = (((n : Int) : Rat) - M) :: apF M (n + 1) k
    rw [← ap_range M k (n + 1)]
    congr 1
    refine List.map_congr_left fun i _ => ?_
    show (((n + (i + 1) : Nat) : Int) : Rat) - M = (((n + 1 + i : Nat) : Int) : Rat) - M
    rw [show n + (i + 1) = n + 1 + i by omega]
theorem sd_zip (M : Rat) : ∀ (l : List Rat) (n : Nat), sumR ((l.zip (apF M n l.length)).map fun p => p.1 * (p.2 * p.2)) = sdF M n l
  | [], _ => rfl
  | c :: l, n => by
    show c * ((((n : Int) : Rat) - M) * (((n : Int) : Rat) - M)) + sumR ((l.zip (apF M (n + 1) l.length)).map fun p => p.1 * (p.2 * p.2)) = _
    rw [sd_zip M l (n + 1)]
    rfl
theorem sd_eq (M : Rat) : ∀ (l : List Rat) (n : Nat), sdF M n l = sqF n l - 2 * M * mnF n l + M * M * sumR l
  | [], _ => by show (0 : Rat) = 0 - 2 * M * 0 + M * M * 0; grind
  | c :: l, n => by
    show c * ((((n : Int) : Rat) - M) * (((n : Int) : Rat) - M)) + sdF M (n + 1) l = c * (((n : Int) * (n : Int) : Int) : Rat) + sqF (n + 1) l - 2 * M * (c * ((n : Int) : Rat) + mnF (n + 1) l) + M * M * (c + sumR l)
    rw [sd_eq M l (n + 1), Rat.intCast_mul]
    grind
theorem sd_mean {l : List Rat} (h : sumR l = 1) : sdF (mnF 0 l) 0 l = sqF 0 l - mnF 0 l * mnF 0 l := by
  rw [sd_eq, h]
  grind
/-- by powers from the first one on -/
def nbP (x : Rat) : List Rat → Rat → Rat → Rat
  | [], _, a => a
  | c :: l, p, a => nbP x l (p * x) (a + c * p)
theorem nbP_eq (x : Rat) : ∀ (l : List Rat) (p a : Rat), nbP x l p a = a + p * nb x l
  | [], p, a => by show a = a + p * 0; grind
  | c :: l, p, a => by
    show nbP x l (p * x) (a + c * p) = a + p * (c + x * nb x l)
    rw [nbP_eq x l]
    grind
/-- from the last one on -/
def nbR (x : Rat) : List Rat → Rat → Rat
  | [], a => a
  | c :: l, a => nbR x l (a * x + c)
theorem nbR_app (x : Rat) : ∀ (l m : List Rat) (a : Rat), nbR x (l ++ m) a = nbR x m (nbR x l a)
  | [], _, _ => rfl
  | c :: l, m, a => nbR_app x l m (a * x + c)
theorem nbR_rev (x : Rat) : ∀ l : List Rat, nbR x l.reverse 0 = nb x l
  | [] => rfl
  | c :: l => by
    rw [List.reverse_cons, nbR_app, nbR_rev x l]
    show nb x l * x + c = c + x * nb x l
    grind
end Dl

namespace Kp
open PySem PySem.Spec PyProof.Rows L2 Dl
theorem fl_map {α : Type} (f : α → Rat) (ws : List α) : PyData.list (ws.map fun w => fr (f w)) = Fl (ws.map f) := by
  show _ = PyData.list ((ws.map f).map fr)
  rw [List.map_map]
  rfl
theorem seqV {l : List Rat} {V : PyData} (hV : V = Fl l ∨ V = Ft l) : seqD V = some (l.map fr) := by rcases hV with rfl | rfl <;> rfl
section
variable {s k : Nat} {l : List Rat} {V : PyData}
theorem zip_ok (hl : l.length ≤ 65) (h : SzL s k 1 l) : ∀ p ∈ l.zipIdx 0, Sz s k 1 p.1 ∧ p.2 ≤ 64 := fun p hp => by
  have := List.mem_zipIdx hp
  simp only [Nat.sub_zero, Nat.zero_add] at this
  refine ⟨?_, by omega⟩
  rw [this.2.2]
  exact h _ (List.getElem_mem _)
theorem mn_szl (hs : 0 < s) (hl : l.length ≤ 65) (h : SzL s k 1 l) : SzL s k 64 ((l.zipIdx 0).map fun p => p.1 * ((p.2 : Int) : Rat)) := fun x hx => by
  obtain ⟨p, hp, rfl⟩ := List.mem_map.mp hx
  obtain ⟨h1, h2⟩ := zip_ok hl h p hp
  exact (h1.mul hs (Sz.int (m := 64) (p.2 : Int) 0 (by rw [Int.natAbs_natCast]; exact h2) hs)).up hs (by omega) (by omega)
theorem sq_szl (hs : 0 < s) (hl : l.length ≤ 65) (h : SzL s k 1 l) : SzL s k 4096 ((l.zipIdx 0).map fun p => p.1 * (((p.2 : Int) * (p.2 : Int) : Int) : Rat)) := fun x hx => by
  obtain ⟨p, hp, rfl⟩ := List.mem_map.mp hx
  obtain ⟨h1, h2⟩ := zip_ok hl h p hp
  refine (h1.mul hs (Sz.int (m := 4096) ((p.2 : Int) * (p.2 : Int)) 0 ?_ hs)).up hs (by omega) (by omega)
  rw [Int.natAbs_mul, Int.natAbs_natCast]
  exact Nat.mul_le_mul h2 h2
theorem mn_sz (hs : 0 < s) (hl : l.length ≤ 65) (h : SzL s k 1 l) : Sz s k 4160 (mnF 0 l) := by
  have := sumR_sz hs (mn_szl hs hl h)
  rw [mn_zip] at this
  refine this.up hs (Nat.le_refl _) ?_
  rw [List.length_map, List.length_zipIdx]
  omega
theorem k13 : (2 : Nat) ^ 13 = 8192 := by decide
theorem ints_bd {i : Nat} (h : i ≤ 4096) : Bd 13 ((i : Int) : Rat) := bd_int (by rw [Int.natAbs_natCast, k13]; omega) (by decide)
theorem small_65 (hl : l.length ≤ 65) : small ((l.zipIdx 0).map fun p => PyData.tuple [.int (p.2 : Int), fr p.1]).length = true := by
  rw [List.length_map, List.length_zipIdx]
  exact small_le (m := 100) (by omega)
theorem s_mean (hV : V = Fl l ∨ V = Ft l) (hs : 0 < s) (hs4 : s ≤ 256) (hl : l.length ≤ 65) (hk : k ≤ 100) (h : SzL s k 1 l) : Ev (m_mean_by [V]) (fr (mnF 0 l)) := by
  have l0 := lookV hV 2
  have ht := s_total hs hs4 (a := 13) (by decide) (by omega) (mn_szl hs hl h) (by rw [List.length_map, List.length_zipIdx, k13]; omega)
  rw [mn_zip] at ht
  refine ev_def (rt_ret (ev_call (eva_cons (ev_to (y := Fl ((l.zipIdx 0).map fun p => p.1 * ((p.2 : Int) : Rat))) (ev_lc (eva_to (evi_enumQ (ev_var l0) (seqV hV)) (enumD_map fr l 0)) (evlc_map (r := fun p : Rat × Nat => fr (p.1 * ((p.2 : Int) : Rat))) fun p hp => ?_) (small_65 hl)) (fl_map _ _)) eva_nil) ht rfl))
  obtain ⟨h1, h2⟩ := zip_ok hl h p hp
  refine ⟨_, evg_t (evgs_cons evg_n (evgs_cons evg_n evgs_nil)) rfl, ev_call (eva_cons (ev_var ?_) (eva_cons (ev_litI (ev_var ?_)) eva_nil)) (mulP _ _ _ _ (h1.bd hs hs4 (a := 1) (by decide)) (ints_bd (by omega)) (by omega)) rfl⟩
  · rcases hV with rfl | rfl <;> rfl
  · rcases hV with rfl | rfl <;> rfl
theorem l_mean (hs : 0 < s) (hs4 : s ≤ 256) (hl : l.length ≤ 65) (hk : k ≤ 100) (h : SzL s k 1 l) : Ev (m__law_mean [Fl l]) (fr (mnF 0 l)) := by
  have ht := l_total hs hs4 (a := 13) (by decide) (by omega) (mn_szl hs hl h) (by rw [List.length_map, List.length_zipIdx, k13]; omega)
  rw [mn_zip] at ht
  refine ev_def (rt_ret (ev_call (eva_cons (ev_to (y := Fl ((l.zipIdx 0).map fun p => p.1 * ((p.2 : Int) : Rat))) (ev_lc (eva_to (evi_enumQ (ev_var rfl) rfl) (enumD_map fr l 0)) (evlc_map (r := fun p : Rat × Nat => fr (p.1 * ((p.2 : Int) : Rat))) fun p hp => ?_) (small_65 hl)) (fl_map _ _)) eva_nil) ht rfl))
  obtain ⟨h1, h2⟩ := zip_ok hl h p hp
  exact ⟨_, evg_t (evgs_cons evg_n (evgs_cons evg_n evgs_nil)) rfl, ev_call (eva_cons (ev_var rfl) (eva_cons (ev_litI (ev_var rfl)) eva_nil)) (mulL _ _ _ _ (h1.bd hs hs4 (a := 1) (by decide)) (ints_bd (by omega)) (by omega)) rfl⟩
theorem k20 : (2 : Nat) ^ 20 = 1048576 := by decide
end
end Kp

namespace Kp
open PySem PySem.Spec PyProof.Rows L2 Dl
theorem op_negfr {p : Rat} : PyData.tuple [.int (0 - p.num), .int (Int.ofNat p.den)] = fr (-p) := by
  unfold fr
  rw [Rat.neg_num, Rat.neg_den, Int.zero_sub]
theorem l_less {p q : Rat} {m n : Nat} (hp : Bd m p) (hq : Bd n q) (h : m + n ≤ 8998) : Ev (m__law_less [fr p, fr q]) (fr (p - q)) := by
  rw [Rat.sub_eq_add_neg]
  exact ev_def (rt_ret (ev_call (eva_cons (ev_var rfl) (eva_cons (ev_to (ev_tup (eva_cons (ev_op ev_c (ev_op (ev_var rfl) ev_c op_num) op_sub') (eva_cons (ev_op (ev_var rfl) ev_c op_den) eva_nil)) rfl) op_negfr) eva_nil)) (addL _ _ _ _ hp (neg_bd hq) h) rfl))
section
variable {s k : Nat} {l : List Rat} {V : PyData}
/-- Horner's loop -/
theorem num_loop {x : Rat} {bx bc : Nat} (hx : Bd bx x) (U W : Sl) : ∀ (l : List Rat) (a : Rat) (n : Nat) (j : Sl), (∀ c ∈ l, Bd bc c) → Bd n a → n + (bx + bc + 1) * l.length ≤ 8000 → bc + bx ≤ 900 →
    ∃ j', ExF (gN 3) (sAsg (dCallN 2 m_add (aCons (dCallN 2 m_multiply (aCons (dVar 2) (aCons (dVar 1) aNil))) (aCons (dVar 3) aNil))) (gN 2)) (l.map fr) [U, .fz (fr x), .fz (fr a), j] [U, .fz (fr x), .fz (fr (nbR x l a)), j'] ∧ Bd (n + (bx + bc + 1) * l.length) (nbR x l a)
  | [], a, n, j, _, ha, _, _ => ⟨_, exf_nil, ha⟩
  | c :: l, a, n, j, hc, ha, hn, h9 => by
    rw [List.length_cons, Nat.mul_succ] at hn
    have bc' := hc c List.mem_cons_self
    have b2 := add_bd (mul_bd ha hx) bc'
    obtain ⟨j', ih, hb⟩ := num_loop hx U W l (a * x + c) (n + (bx + bc + 1)) (.fz (fr c)) (fun y hy => hc y (List.mem_cons_of_mem _ hy)) (b2.mono (by omega)) (by omega) h9
    exact ⟨j', exf_cons evg_n (ex_asg (ev_call (eva_cons (ev_call (eva_cons (ev_var rfl) (eva_cons (ev_var rfl) eva_nil)) (mulP _ _ _ _ ha hx (by omega)) rfl) (eva_cons (ev_var rfl) eva_nil)) (addP _ _ _ _ (mul_bd ha hx) bc' (by omega)) rfl) evg_n) ih, hb.mono (by rw [List.length_cons, Nat.mul_succ]; omega)⟩
theorem s_number {x : Rat} {bx bc : Nat} (hV : V = Fl l ∨ V = Ft l) (hx : Bd bx x) (hc : ∀ c ∈ l, Bd bc c) (hn : 1 + (bx + bc + 1) * l.length ≤ 8000) (h9 : bc + bx ≤ 900) : Ev (m_number_of [V, fr x]) (fr (nb x l)) ∧ Bd (1 + (bx + bc + 1) * l.length) (nb x l) := by
  obtain ⟨j', he, hb⟩ := num_loop hx (.fz V) .no l.reverse 0 1 .no (fun c h => hc c (List.mem_reverse.mp h)) bd_zero (by rw [List.length_reverse]; exact hn) h9
  rw [nbR_rev] at he hb
  rw [List.length_reverse] at hb
  refine ⟨?_, hb⟩
  have e0 : look ((startE 4 [V, fr x]).set 2 (.fz (fr 0))) 0 = .fz V := by rcases hV with rfl | rfl <;> rfl
  have e1 : (startE 4 [V, fr x]).set 2 (.fz (fr 0)) = [.fz V, .fz (fr x), .fz (fr 0), .no] := by rcases hV with rfl | rfl <;> rfl
  refine ev_def (rt_seq (ex_asg ev_nought evg_n) (rt_seq (ex_for (eva_to (evi_seqL (ev_un (ev_cb (eva_cons (ev_var e0) eva_nil) (ev_listV hV)) op_revL)) (by rw [← List.map_reverse])) (by rw [e1]; exact he)) (rt_ret (ev_var rfl))))
/-- the law's: by powers -/
theorem lnum_loop {x : Rat} {bx bc : Nat} (hx : Bd bx x) (U : Sl) : ∀ (l : List Rat) (p a : Rat) (n q : Nat) (j : Sl), (∀ c ∈ l, Bd bc c) → Bd q p → Bd n a → n + l.length * (q + bx * l.length + bc + 1) ≤ 8000 → q + bx * l.length + bx + bc ≤ 8000 →
    ∃ j' p', ExF (gN 4) (sSeq (sAsg (dCallN 2 m__law_plus (aCons (dVar 2) (aCons (dCallN 2 m__law_times (aCons (dVar 4) (aCons (dVar 3) aNil))) aNil))) (gN 2)) (sAsg (dCallN 2 m__law_times (aCons (dVar 3) (aCons (dVar 1) aNil))) (gN 3))) (l.map fr) [U, .fz (fr x), .fz (fr a), .fz (fr p), j] [U, .fz (fr x), .fz (fr (nbP x l p a)), p', j']
  | [], p, a, n, q, j, _, _, _, _, _ => ⟨_, _, exf_nil⟩
  | c :: l, p, a, n, q, j, hc, hp, ha, hn, h9 => by
    rw [List.length_cons, show bx * (l.length + 1) = bx * l.length + bx from Nat.mul_succ _ _] at hn h9
    have e : (l.length + 1) * (q + (bx * l.length + bx) + bc + 1) = l.length * (q + (bx * l.length + bx) + bc + 1) + (q + (bx * l.length + bx) + bc + 1) := by rw [Nat.succ_mul]
    rw [e] at hn
    have bc' := hc c List.mem_cons_self
    have b2 := add_bd ha (mul_bd bc' hp)
    have e3 : q + bx + bx * l.length + bc + 1 = q + (bx * l.length + bx) + bc + 1 := by omega
    obtain ⟨j', p', ih⟩ := lnum_loop hx U l (p * x) (a + c * p) (n + (q + (bx * l.length + bx) + bc + 1)) (q + bx) (.fz (fr c)) (fun y hy => hc y (List.mem_cons_of_mem _ hy)) (mul_bd hp hx) (b2.mono (by omega)) (by rw [e3]; omega) (by omega)
    exact ⟨j', p', exf_cons evg_n (ex_seq (ex_asg (ev_call (eva_cons (ev_var rfl) (eva_cons (ev_call (eva_cons (ev_var rfl) (eva_cons (ev_var rfl) eva_nil)) (mulL _ _ _ _ bc' hp (by omega)) rfl) eva_nil)) (addL _ _ _ _ ha (mul_bd bc' hp) (by omega)) rfl) evg_n) (ex_asg (ev_call (eva_cons (ev_var rfl) (eva_cons (ev_var rfl) eva_nil)) (mulL _ _ _ _ hp hx (by omega)) rfl) evg_n)) ih⟩
theorem l_number {x : Rat} {bx bc : Nat} (hx : Bd bx x) (hc : ∀ c ∈ l, Bd bc c) (hn : 1 + l.length * (1 + bx * l.length + bc + 1) ≤ 8000) (h9 : 1 + bx * l.length + bx + bc ≤ 8000) : Ev (m__law_number [Fl l, fr x]) (fr (nb x l)) := by
  obtain ⟨j', p', he⟩ := lnum_loop hx (.fz (Fl l)) l 1 0 1 1 .no hc bd_one bd_zero hn h9
  have e : nbP x l 1 0 = nb x l := by rw [nbP_eq]; grind
  rw [e] at he
  exact ev_def (rt_seq (ex_asg (ev_tup (eva_cons ev_lit0 (eva_cons ev_lit1 eva_nil)) rfl) (evg_t (evgs_cons evg_n (evgs_cons evg_n evgs_nil)) rfl)) (rt_seq (ex_for (evi_seqL (ev_var rfl)) he) (rt_ret (ev_var rfl))))
def pw (x : Rat) : Nat → Rat
  | 0 => 1
  | n + 1 => pw x n * x
theorem pw_bd {x : Rat} {b : Nat} (hx : Bd b x) : ∀ n, Bd (1 + b * n) (pw x n)
  | 0 => bd_one
  | n + 1 => (mul_bd (pw_bd hx n) hx).mono (by rw [Nat.mul_succ]; omega)
end
end Kp

namespace Kp
open PySem PySem.Spec PyProof.Rows L2 Dl
theorem s_within {i a z : Int} (h1 : a ≤ i) (h2 : i ≤ z) : Ev (m_is_within [.int i, .int a, .int z]) (.bool true) :=
  ev_def (rt_ret (ev_andT (ev_call (eva_cons (ev_var rfl) eva_nil) (ev_def (rt_ret (ev_andT (ev_toB (ev_is (ev_var rfl)) rfl) (ev_notT (ev_toB (ev_is (ev_var rfl)) rfl))))) rfl) (ev_chT (ev_var rfl) (ev_var rfl) (ev_toB op_I (decide_eq_true h1)) (ev_var rfl) (ev_toB op_I (decide_eq_true h2)))))
theorem s_check_number {i a z : Int} (h1 : a ≤ i) (h2 : i ≤ z) : Ev (m_check_number [.int i, .int a, .int z]) .none :=
  ev_defN (ex_ifF (evt_notF (evt_b (ev_call (eva_cons (ev_var rfl) (eva_cons (ev_var rfl) (eva_cons (ev_var rfl) eva_nil))) (s_within h1 h2) rfl))) ex_nil)
section
variable {s : Nat} {cs : List Rat} {V : PyData}
theorem COk.bd (h : COk s cs) : ∀ c ∈ cs, Bd 9 c := fun c hc => (h.sz c hc).bd h.s0 h.s16 (a := 1) (by decide)
theorem COk.l65 (h : COk s cs) : cs.length ≤ 65 := Nat.le_trans h.l5 (by decide)
abbrev mn (l : List Rat) : Rat := mnF 0 l
abbrev sp (l : List Rat) : Rat := sqF 0 l - mnF 0 l * mnF 0 l
theorem COk.mbd (h : COk s cs) : Bd 21 (mn cs) := (mn_sz h.s0 h.l65 h.sz).bd h.s0 h.s16 (a := 13) (by decide)
theorem COk.sbd (h : COk s cs) : Bd 75 (sp cs) := by
  have hsz : ((cs.zipIdx 0).map fun p => p.1 * (((p.2 : Int) * (p.2 : Int) : Int) : Rat)).length * 4096 < 2 ^ 20 := by rw [List.length_map, List.length_zipIdx, k20]; have := h.l5; omega
  have hb := (sumR_sz h.s0 (sq_szl h.s0 h.l65 h.sz)).bd h.s0 h.s16 hsz (by decide)
  rw [sq_zip] at hb
  exact (sub_bd hb (mul_bd h.mbd h.mbd)).mono (by decide)
theorem s_child_mean (hV : V = Fl cs ∨ V = Ft cs) (h : COk s cs) : Ev (m_child_mean [V]) (fr (mn cs)) := by
  have l0 := lookV hV 0
  exact ev_def (rt_seq (ex_expr (ev_call (eva_cons (ev_var l0) eva_nil) (s_check hV h) rfl)) (rt_ret (ev_call (eva_cons (ev_var l0) eva_nil) (s_mean hV h.s0 h.s16 h.l65 (by decide) h.sz) rfl)))
theorem l_mean_c (h : COk s cs) : Ev (m__law_mean [Fl cs]) (fr (mn cs)) := l_mean h.s0 h.s16 h.l65 (by decide) h.sz
theorem s_number_at {x : Rat} (hV : V = Fl cs ∨ V = Ft cs) (h : COk s cs) (hx : Bd 39 x) (x0 : 0 ≤ x) (x1 : x ≤ 1) : Ev (m_number_at [V, fr x]) (fr (nb x cs)) := by
  have l0 : look (startE 2 [V, fr x]) 0 = .fz V := by rcases hV with rfl | rfl <;> rfl
  have l1 : look (startE 2 [V, fr x]) 1 = .fz (fr x) := by rcases hV with rfl | rfl <;> rfl
  have h5 := h.l5
  have hm : (39 + 9 + 1) * cs.length ≤ 49 * 5 := Nat.mul_le_mul_left _ h5
  refine ev_def (rt_seq (ex_expr (ev_call (eva_cons (ev_var l0) eva_nil) (s_check hV h) rfl)) (rt_seq (ex_expr (ev_call (eva_cons (ev_var l1) eva_nil) (ev_defN (ex_ifF (evt_notF (evt_b (ev_call (eva_cons (ev_var rfl) eva_nil) (s_short hx) rfl))) ex_nil)) rfl))
    (rt_seq (ex_ifF (evt_orF (evt_b (ev_toB (ev_op (ev_op (ev_var l1) ev_c op_num) ev_c op_I) (decide_eq_false ?_))) (evt_b (ev_toB (ev_call (eva_cons ev_one (eva_cons (ev_var l1) eva_nil)) (ev_below bd_one hx (by decide)) rfl) (decide_eq_false ?_)))) ex_nil) (rt_ret (ev_call (eva_cons (ev_var l0) (eva_cons (ev_var l1) eva_nil)) (s_number hV hx h.bd (by omega) (by decide)).1 rfl)))))
  · have := Rat.num_nonneg.mpr x0
    omega
  · grind
def spz (M S : Rat) : Nat → Rat
  | 0 => 0
  | n + 1 => spz M S n * (M * M) + S * pw M n
theorem spz_bd (h : COk s cs) : ∀ n, n ≤ 6 → Bd (1 + 250 * n) (spz (mn cs) (sp cs) n)
  | 0, _ => bd_zero
  | n + 1, hn => (add_bd (mul_bd (spz_bd h n (by omega)) (mul_bd h.mbd h.mbd)) (mul_bd h.sbd (pw_bd h.mbd n))).mono (by omega)
end
end Kp

namespace Kp
open PySem PySem.Spec PyProof.Rows L2 Dl
def o2_0 : DS := (sAsg (dCallN 2 m__law_number (aCons (dVar 1) (aCons (dVar 5) aNil))) (gN 6))
def o2_1 : DS := (sIf (dB (dRepr2 false (dLst (aCons (dCallN 2 m_number_at (aCons (dVar 1) (aCons (dVar 5) aNil))) (aCons (dCallK 2 2 [1, 0] m_number_at (aCons (dVar 5) (aCons (dCB gTuple (aCons (dVar 1) aNil)) aNil))) aNil))) (dLst (aCons (dVar 6) (aCons (dVar 6) aNil))))) (sRet (dC (.bool false))) sNil)
def o2_t0 : DS := sSeq o2_0 o2_1
def o2 : DS := sFor (iSeq (dLst (aCons (dTup (aCons (dC (.int 0)) (aCons (dC (.int 1)) aNil))) (aCons (dTup (aCons (dC (.int 1)) (aCons (dC (.int 1)) aNil))) (aCons (dCallN 2 m__law_plain (aCons (dCallN 2 m__law_draw (aPot 0 (aCons (dC (.int 8)) aNil))) (aCons (dC (.int 7)) aNil))) (aCons (dCallN 2 m__law_plain (aCons (dCallN 2 m__law_draw (aPot 0 (aCons (dC (.int 13)) aNil))) (aCons (dC (.int 12)) aNil))) aNil)))))) (gN 5) o2_t0
def o3 : DS := (sAsg (dTup (aCons (dTup (aCons (dC (.int 1)) (aCons (dC (.int 1)) aNil))) (aCons (dTup (aCons (dC (.int 0)) (aCons (dC (.int 1)) aNil))) aNil))) (gT 2 (gsCons (gN 7) (gsCons (gN 8) gsNil))))
def o4_2 : DS := (sAsg (dCallN 2 m__law_plus (aCons (dCallN 2 m__law_times (aCons (dVar 8) (aCons (dCallN 2 m__law_times (aCons (dVar 3) (aCons (dVar 3) aNil))) aNil))) (aCons (dCallN 2 m__law_times (aCons (dVar 4) (aCons (dVar 7) aNil))) aNil))) (gN 8))
def o4_3 : DS := (sAsg (dCallN 2 m__law_times (aCons (dVar 7) (aCons (dVar 3) aNil))) (gN 7))
def o4_t2 : DS := sSeq o4_2 o4_3
def o5 : DS := (sRet (dOp gEq (dCB gRepr (aCons (dVar 1) aNil)) (dVar 2)))
theorem k_seqfor {it : DI} {g : DG} {body t : DS} {B : DEnds} {env : Sls} : sSeq (sFor it g body) t B env = it env fun xs => goFor g body { B with nx := t B } xs env := rfl
theorem k_iseqL {dr : DA} {env : Sls} {k : List PyData → Bool} : iSeq (dLst dr) env k = dr env fun ds => match small ds.length with
  | true => k ds
  | false => false := by
  unfold iSeq dLst
  congr 1
  try (funext ds; cases small ds.length <;> rfl)
theorem k_cons {A : DE} {dr : DA} {env : Sls} {k : List PyData → Bool} : aCons A dr env k = A env fun a => dr env fun ds => k (a :: ds) := rfl
theorem k_nil {env : Sls} {k : List PyData → Bool} : aNil env k = k [] := rfl
theorem rep_frs {xs : List Rat} (hl : xs.length ≤ 100) (hb : ∀ x ∈ xs, Bd 1919 x) : reprOk (.list (xs.map fr)) = true := by
  have o : oksR 39 (xs.map fr) = true := oksR_frs hb 38
  refine reprOk_of (by simp only [okR, o]) ?_
  show capsR (xs.map fr) + 4 ≤ _
  rw [capsR_frs]
  omega
theorem rep_xx {x : Rat} (h : Bd 1919 x) : reprOk (.list [fr x, fr x]) = true := rep_frs (xs := [x, x]) (by simp) fun y hy => by
  simp only [List.mem_cons, List.not_mem_nil, or_false, or_self] at hy
  rw [hy]; exact h
structure Spot (x : Rat) : Prop where
  b : Bd 10 x
  x0 : 0 ≤ x
  x1 : x ≤ 1
theorem spot_of : ∀ n, 0 < n → n < 13 → ∀ c, c ≤ n → Spot ((((c : Nat) : Int) : Rat) / ((n : Nat) : Rat)) := by
  intro n h0 hn c hc
  have k4 : (2 : Nat) ^ 4 = 16 := by decide
  have hb : Bd 10 ((((c : Nat) : Int) : Rat) / ((n : Nat) : Rat)) := by
    have := div_bd (bd_int (i := (c : Int)) (n := 4) (by rw [Int.natAbs_natCast]; omega) (by decide)) (bd_int (i := (n : Int)) (n := 4) (by rw [Int.natAbs_natCast]; omega) (by decide))
    rw [Rat.intCast_natCast n] at this
    exact this.mono (by decide)
  have hn0 : (0 : Rat) < (n : Rat) := by
    have : ((0 : Nat) : Rat) < ((n : Nat) : Rat) := Rat.natCast_lt_natCast.mpr h0
    exact this
  have hcn : (((c : Nat) : Int) : Rat) ≤ (n : Rat) := by
    rw [Rat.intCast_natCast]
    exact Rat.natCast_le_natCast.mpr hc
  have hc0 : (0 : Rat) ≤ (((c : Nat) : Int) : Rat) := by
    rw [Rat.intCast_natCast]
    exact Rat.natCast_nonneg
  generalize (((c : Nat) : Int) : Rat) = x at *
  generalize (n : Rat) = y at *
  have e : y * (x / y) = x := by grind
  refine ⟨hb, ?_, ?_⟩
  · refine Rat.not_lt.mp fun hlt => ?_
    have := Rat.mul_lt_mul_of_pos_left hlt hn0
    grind
  · refine Rat.not_lt.mp fun hlt => ?_
    have := Rat.mul_lt_mul_of_pos_left hlt hn0
    grind
section
variable {s : Nat} {cs : List Rat} {s2 s3 s4 s5 s6 s7 s8 s9 : Sl}
abbrev Eo (cs : List Rat) (r : Sls) : Sls := .pt :: .fz (Fl cs) :: .fz (.str (Fl cs).shown) :: .fz (fr (mn cs)) :: .fz (fr (sp cs)) :: r
theorem COk.rep (h : COk s cs) : reprOk (Fl cs) = true := rep_frs (by have := h.l5; omega) fun x hx => (h.bd x hx).mono (by decide)
theorem x2i (h : COk s cs) {x : Rat} (hx : Spot x) : Ex o2_t0 (Eo cs [.fz (fr x), s6, s7, s8, s9]) (Eo cs [.fz (fr x), .fz (fr (nb x cs)), s7, s8, s9]) := by
  have h5 := h.l5
  have hn1 : 10 * cs.length ≤ 10 * 5 := Nat.mul_le_mul_left _ h5
  have hn2 : cs.length * (1 + 10 * cs.length + 9 + 1) ≤ 5 * 61 := Nat.mul_le_mul h5 (by omega)
  have hn3 : (10 + 9 + 1) * cs.length ≤ 20 * 5 := Nat.mul_le_mul_left _ h5
  have hb := (s_number (V := Fl cs) (.inl rfl) hx.b h.bd (by omega) (by decide)).2
  exact ex_seq (ex_asg (ev_call (eva_cons (ev_var rfl) (eva_cons (ev_var rfl) eva_nil)) (l_number hx.b h.bd (by omega) (by omega)) rfl) evg_n) (ex_ifF (evt_b (ev_repr2 (ev_lst (eva_cons (ev_call (eva_cons (ev_var rfl) (eva_cons (ev_var rfl) eva_nil)) (s_number_at (.inl rfl) h (hx.b.mono (by decide)) hx.x0 hx.x1) rfl) (eva_cons (ev_callK (eva_cons (ev_var rfl) (eva_cons (ev_cb (eva_cons (ev_var rfl) eva_nil) cb_tupL) eva_nil)) (s_number_at (.inr rfl) h (hx.b.mono (by decide)) hx.x0 hx.x1) rfl) eva_nil)) rfl) (ev_lst (eva_cons (ev_var rfl) (eva_cons (ev_var rfl) eva_nil)) rfl) (rep_xx (hb.mono (by omega))) rfl)) ex_nil)
theorem x2l (h : COk s cs) {l : List Rat} (hl : ∀ x ∈ l, Spot x) : ∃ t5 t6, ExF (gN 5) o2_t0 (l.map fr) (Eo cs [s5, s6, s7, s8, s9]) (Eo cs [t5, t6, s7, s8, s9]) := by
  obtain ⟨e, ⟨t5, t6, rfl⟩, he⟩ := for_inv (g := gN 5) (body := o2_t0) (f := fr) (xs := l)
    (fun _ _ e => ∃ t5 t6, e = Eo cs [t5, t6, s7, s8, s9]) (by
    rintro pre x rest e hq ⟨t5, t6, rfl⟩
    exact ⟨_, _, evg_n, x2i h (hl x (by rw [← hq]; simp)), ⟨_, _, rfl⟩⟩) l [] (Eo cs [s5, s6, s7, s8, s9]) rfl ⟨_, _, rfl⟩
  exact ⟨t5, t6, he⟩
theorem x2 (h : COk s cs) {t : DS} {B : DEnds} (q : ∀ t5 t6, t B (Eo cs [t5, t6, s7, s8, s9]) = true) : sSeq o2 t B (Eo cs [s5, s6, s7, s8, s9]) = true := by
  unfold o2
  rw [k_seqfor, k_iseqL, k_cons]
  refine (ev_lit0 _).trans ?_
  rw [k_cons]
  refine (ev_lit1 _).trans ?_
  rw [k_cons, k_call2]
  refine draw_all (n := 7) rfl (by decide) fun c1 h1 => ?_
  rw [k_c]
  refine (ev_plain (t := (c1 : Int)) (b := 7) (n := 4) (m := 4) (by decide) (by decide) (by rw [Int.natAbs_natCast]; have : (2 : Nat) ^ 4 = 16 := (by decide); omega) (by decide) (by decide) _).trans ?_
  rw [k_cons, k_call2]
  refine draw_all (n := 12) rfl (by decide) fun c2 h2 => ?_
  rw [k_c]
  refine (ev_plain (t := (c2 : Int)) (b := 12) (n := 4) (m := 4) (by decide) (by decide) (by rw [Int.natAbs_natCast]; have : (2 : Nat) ^ 4 = 16 := (by decide); omega) (by decide) (by decide) _).trans ?_
  rw [k_nil]
  obtain ⟨t5, t6, he⟩ := x2l (s5 := s5) (s6 := s6) (s7 := s7) (s8 := s8) (s9 := s9) h (l := [0, 1, ((c1 : Int) : Rat) / ((7 : Nat) : Rat), ((c2 : Int) : Rat) / ((12 : Nat) : Rat)]) (by
    intro x hx
    simp only [List.mem_cons, List.not_mem_nil, or_false] at hx
    rcases hx with rfl | rfl | rfl | rfl
    · exact ⟨bd_zero.mono (by decide), Rat.le_refl, by decide⟩
    · exact ⟨bd_one.mono (by decide), by decide, Rat.le_refl⟩
    · exact spot_of 7 (by decide) (by decide) c1 (by omega)
    · exact spot_of 12 (by decide) (by decide) c2 (by omega))
  exact (he _).trans (q t5 t6)
theorem x3 : Ex o3 (Eo cs [s5, s6, s7, s8, s9]) (Eo cs [s5, s6, .fz (fr 1), .fz (fr 0), s9]) := ex_asg (ev_tup (eva_cons ev_lit1 (eva_cons ev_lit0 eva_nil)) rfl) (evg_t (evgs_cons evg_n (evgs_cons evg_n evgs_nil)) rfl)
theorem x5 (h : COk s cs) {r : Sls} : Rt o5 (Eo cs r) (.bool true) := rt_ret (ev_op (ev_cb (eva_cons (ev_var rfl) eva_nil) (cb_repr h.rep)) (ev_var rfl) (op_eqsh h.rep))
end
end Kp

namespace Kp
open PySem PySem.Spec PyProof.Rows L2 Dl
theorem evt_borT {env env' : Sls} {is : List Nat} {a : DT} {p : Bool} (h : frzAll env is = some env') (ha : EvT (a env') p) : EvT (dBorT is a env) p := fun k => by unfold dBorT; rw [h]; exact ha k
theorem goWh_T {c : DT} {body : DS} {B : DEnds} {n : Nat} {env : Sls} (h : EvT (c env) true) : goWh c body B (n + 1) env = body { nx := goWh c body B n, rt := B.rt, ct := goWh c body B n, bk := B.nx } env := by
  show c env _ = _
  rw [h]
theorem goWh_F {c : DT} {body : DS} {B : DEnds} {n : Nat} {env : Sls} (h : EvT (c env) false) : goWh c body B (n + 1) env = B.nx env := by
  show c env _ = _
  rw [h]
theorem told_parts : ∀ l : List Rat, ∃ n, l = told l ++ List.replicate n 0 ∧ (told l = [] ∨ ∃ i x, told l = i ++ [x] ∧ x ≠ 0)
  | [] => ⟨0, rfl, .inl rfl⟩
  | x :: l => by
    obtain ⟨n, h1, h2⟩ := told_parts l
    unfold told
    cases e : told l with
    | nil =>
      rw [e] at h1
      by_cases hx : x = 0
      · rw [if_pos hx]
        refine ⟨n + 1, ?_, .inl rfl⟩
        rw [List.replicate_succ, hx]
        congr 1
      · rw [if_neg hx]
        refine ⟨n, ?_, .inr ⟨[], x, rfl, hx⟩⟩
        show x :: l = x :: List.replicate n 0
        rw [h1]
        rfl
    | cons y r =>
      rw [e] at h1 h2
      refine ⟨n, ?_, ?_⟩
      · show x :: l = x :: ((y :: r) ++ List.replicate n 0)
        rw [← h1]
      · rcases h2 with h2 | ⟨i, z, h2, hz⟩
        · cases h2
        · exact .inr ⟨x :: i, z, by show x :: y :: r = x :: (i ++ [z]); rw [h2], hz⟩
abbrev toldT (Z : DE) : DT := dBorT [1] (dAnd (dB (dOp gNe (dVar 1) (dLst aNil))) (dB (dOp gEq (dOp gIx (dVar 1) (dUn gNeg (dC (.int 1)))) Z)))
theorem told_cond {Z : DE} (hZ : ∀ env, Ev (Z env) (fr 0)) (V : Sl) (i : List Rat) (x : Rat) : EvT (toldT Z [V, .ow ((i ++ [x]).map fr)]) (decide (x = 0)) := by
  refine evt_borT (env' := [V, .fz (.list ((i ++ [x]).map fr))]) rfl (evt_andT (evt_b (ev_toB (ev_op (ev_var rfl) (ev_lst eva_nil rfl) (op_nefrs (qs := []))) (by simp))) (evt_b (ev_op (ev_op (ev_var rfl) (ev_un ev_c op_neg) (op_ixL (x := fr x) ?_)) (hZ _) op_eqfr)))
  rw [List.map_append]
  exact atI_last
theorem told_nil {Z : DE} (V : Sl) : EvT (toldT Z [V, .ow []]) false :=
  evt_borT (env' := [V, .fz (.list [])]) rfl (evt_andF (evt_b (ev_toB (ev_op (ev_var rfl) (ev_lst eva_nil rfl) (op_nefrs (ps := []) (qs := []))) (by simp))))
theorem pop_last {V : Sl} (i : List Rat) (x : Rat) : Ex (sPop 1) [V, .ow ((i ++ [x]).map fr)] [V, .ow (i.map fr)] := fun B => by
  cases i with
  | nil => rfl
  | cons y i =>
    show B.nx [V, .ow (fr y :: (i ++ [x]).map fr).dropLast] = _
    rw [List.map_append]
    show B.nx [V, .ow ((fr y :: i.map fr) ++ [fr x]).dropLast] = _
    rw [List.dropLast_concat]
    rfl
theorem told_loop {Z : DE} (hZ : ∀ env, Ev (Z env) (fr 0)) (V : Sl) (B : DEnds) {t : List Rat} (ht : t = [] ∨ ∃ i x, t = i ++ [x] ∧ x ≠ 0) : ∀ (n f : Nat), goWh (toldT Z) (sPop 1) B (f + n + 1) [V, .ow ((t ++ List.replicate n 0).map fr)] = B.nx [V, .ow (t.map fr)]
  | 0, f => by
    rw [List.replicate_zero, List.append_nil]
    rcases ht with rfl | ⟨i, x, rfl, hx⟩
    · exact goWh_F (told_nil V)
    · exact goWh_F (evt_to (told_cond hZ V i x) (decide_eq_false hx))
  | n + 1, f => by
    have e : t ++ List.replicate (n + 1) 0 = (t ++ List.replicate n 0) ++ [0] := by rw [List.replicate_succ', List.append_assoc]
    rw [e, goWh_T (evt_to (told_cond hZ V _ 0) (decide_eq_true rfl)), pop_last]
    exact told_loop hZ V B ht n f
section
variable {l : List Rat} {V : PyData}
theorem told_len (l : List Rat) : (told l).length ≤ l.length := by
  obtain ⟨n, h1, _⟩ := told_parts l
  have := congrArg List.length h1
  rw [List.length_append] at this
  omega
theorem told_wh {Z : DE} (hZ : ∀ env, Ev (Z env) (fr 0)) (hl : l.length ≤ 1000) : Ex (sWh 1000000 (toldT Z) (sPop 1)) [.fz V, .ow (l.map fr)] [.fz V, .ow ((told l).map fr)] := fun B => by
  obtain ⟨n, h1, h2⟩ := told_parts l
  have hn : n ≤ 1000 := by
    have := congrArg List.length h1
    rw [List.length_append, List.length_replicate] at this
    omega
  obtain ⟨f, hf⟩ : ∃ f, 1000000 = f + n + 1 := ⟨1000000 - n - 1, by omega⟩
  show goWh (toldT Z) (sPop 1) B 1000000 _ = _
  rw [hf]
  have := told_loop hZ (.fz V) B h2 n f
  rw [← h1] at this
  exact this
theorem s_told (hV : V = Fl l ∨ V = Ft l) (hl : l.length ≤ 1000) : Ev (m_told_of [V]) (Fl (told l)) := by
  have e0 : (startE 2 [V]).set 1 (.ow (l.map fr)) = [.fz V, .ow (l.map fr)] := by rcases hV with rfl | rfl <;> rfl
  have l0 := lookV hV 1
  refine ev_defF (rt_seq (ex_own (i := 1) (ds := l.map fr) ?_) (by rw [e0]; exact rt_seq (told_wh (fun _ => ev_nought) hl) (rt_retO rfl)))
  rcases hV with rfl | rfl
  · exact evf_listL (ev_var rfl)
  · exact evf_listT (ev_var rfl)
end
end Kp

namespace Kp
open PySem PySem.Spec PyProof.Rows L2 Dl
theorem ex_setix {i : Nat} {ix a : DE} {env : Sls} {ds : List PyData} {d : PyData} {z : Int} {n : Nat} (h1 : Ev (a env) d) (h2 : look env i = .ow ds) (h3 : Ev (ix env) (.int z)) (h4 : ixN ds.length z = some n) : Ex (sSetIx i ix a) env (env.set i (.ow (ds.set n d))) := fun B => by
  unfold sSetIx
  rw [h1, h2]
  simp only [h3 _, h4]
def rowAdd (f : List Rat) (i : Nat) (near : Rat) : List Rat → List Rat
  | [] => f
  | c :: b => rowAdd (f.set i (f.getD i 0 + near * c)) (i + 1) near b
def prF (f : List Rat) (i : Nat) (b : List Rat) : List Rat → List Rat
  | [] => f
  | c :: a => prF (rowAdd f i c b) (i + 1) b a
/-- the product of two lists as polynomials -/
def pr (a b : List Rat) : List Rat := prF (List.replicate (a.length + b.length - 1) 0) 0 b a
theorem rowAdd_len (near : Rat) : ∀ (b f : List Rat) (i : Nat), (rowAdd f i near b).length = f.length
  | [], _, _ => rfl
  | c :: b, f, i => by
    show (rowAdd (f.set i _) (i + 1) near b).length = _
    rw [rowAdd_len near b, List.length_set]
theorem prF_len (b : List Rat) : ∀ (a f : List Rat) (i : Nat), (prF f i b a).length = f.length
  | [], _, _ => rfl
  | c :: a, f, i => by
    show (prF (rowAdd f i c b) (i + 1) b a).length = _
    rw [prF_len b a, rowAdd_len]
theorem pr_len (a b : List Rat) : (pr a b).length = a.length + b.length - 1 := by
  unfold pr
  rw [prF_len, List.length_replicate]
theorem SzL.set {s k m : Nat} {f : List Rat} {i : Nat} {x : Rat} (h : SzL s k m f) (hx : Sz s k m x) : SzL s k m (f.set i x) := fun y hy => by
  rcases List.mem_or_eq_of_mem_set hy with hy | rfl
  · exact h y hy
  · exact hx
theorem getD_sz {s k m : Nat} {f : List Rat} {i : Nat} (h : SzL s k m f) (hi : i < f.length) : Sz s k m (f.getD i 0) := by
  rw [List.getD_eq_getElem?_getD, List.getElem?_eq_getElem hi]
  exact h _ (List.getElem_mem hi)
abbrev prB (A M : Fn) : DS := sSetIx 2 (dOp gAdd (dVar 3) (dVar 5)) (dBor [2] (dCallN 2 A (aCons (dOp gIx (dVar 2) (dOp gAdd (dVar 3) (dVar 5))) (aCons (dCallN 2 M (aCons (dVar 4) (aCons (dVar 6) aNil))) aNil))))
section
variable {A M : Fn} {s ka kb : Nat}
theorem row_step (hA : AddOk A) (hM : MulOk M) (hs : 0 < s) (hs4 : s ≤ 256) (hk : 16 * (ka + kb) ≤ 7000) (U W : Sl) {f : List Rat} {at_ j n : Nat} {near c : Rat} (hn : n < 2 ^ 10) (hf : SzL s (ka + kb) n f) (h1 : Sz s ka 1 near) (h2 : Sz s kb 1 c) (hi : at_ + j < f.length) :
    Ex (prB A M) [U, W, .ow (f.map fr), .fz (.int (at_ : Int)), .fz (fr near), .fz (.int (j : Int)), .fz (fr c)] [U, W, .ow ((f.set (at_ + j) (f.getD (at_ + j) 0 + near * c)).map fr), .fz (.int (at_ : Int)), .fz (fr near), .fz (.int (j : Int)), .fz (fr c)] ∧ Sz s (ka + kb) (n + 1) (f.getD (at_ + j) 0 + near * c) := by
  have g := getD_sz hf hi
  have gb := g.bd hs hs4 hn (by decide)
  have b1 := h1.bd hs hs4 (a := 1) (by decide)
  have b2 := h2.bd hs hs4 (a := 1) (by decide)
  have hz : (at_ : Int) + (j : Int) = ((at_ + j : Nat) : Int) := by omega
  have hlen : (f.map fr).length = f.length := List.length_map ..
  have hix : ixN (f.map fr).length ((at_ + j : Nat) : Int) = some (at_ + j) := ixN_lt (by rw [hlen]; exact hi)
  refine ⟨?_, (g.add (h1.mul hs h2)).up hs (Nat.le_refl _) (by omega)⟩
  have := ex_setix (i := 2) (ix := dOp gAdd (dVar 3) (dVar 5)) (a := dBor [2] (dCallN 2 A (aCons (dOp gIx (dVar 2) (dOp gAdd (dVar 3) (dVar 5))) (aCons (dCallN 2 M (aCons (dVar 4) (aCons (dVar 6) aNil))) aNil)))) (env := [U, W, .ow (f.map fr), .fz (.int (at_ : Int)), .fz (fr near), .fz (.int (j : Int)), .fz (fr c)]) (ds := f.map fr) (d := fr (f.getD (at_ + j) 0 + near * c)) (z := ((at_ + j : Nat) : Int)) (n := at_ + j)
    (ev_bor (env' := [U, W, .fz (.list (f.map fr)), .fz (.int (at_ : Int)), .fz (fr near), .fz (.int (j : Int)), .fz (fr c)]) rfl (ev_call (eva_cons (ev_op (ev_var rfl) (ev_to (ev_op (ev_var rfl) (ev_var rfl) op_add') (by rw [hz])) (op_ixL (x := fr (f.getD (at_ + j) 0)) (Dl.atI_nat (by rw [List.getElem?_map, List.getElem?_eq_getElem hi, List.getD_eq_getElem?_getD, List.getElem?_eq_getElem hi]; rfl)))) (eva_cons (ev_call (eva_cons (ev_var rfl) (eva_cons (ev_var rfl) eva_nil)) (hM _ _ _ _ b1 b2 (by omega)) rfl) eva_nil)) (hA _ _ _ _ gb (mul_bd b1 b2) (by omega)) rfl) rfl) rfl (ev_to (ev_op (ev_var rfl) (ev_var rfl) op_add') (by rw [hz])) hix
  rw [← List.map_set] at this
  exact this
theorem row_loop (hA : AddOk A) (hM : MulOk M) (hs : 0 < s) (hs4 : s ≤ 256) (hk : 16 * (ka + kb) ≤ 7000) (U W : Sl) {at_ : Nat} {near : Rat} (h1 : Sz s ka 1 near) : ∀ (b f : List Rat) (j n : Nat) (s5 s6 : Sl), n + b.length < 2 ^ 10 → SzL s (ka + kb) n f → SzL s kb 1 b → at_ + j + b.length ≤ f.length →
    ∃ t5 t6, ExF (gT 2 (gsCons (gN 5) (gsCons (gN 6) gsNil))) (prB A M) (enumD j (b.map fr)) [U, W, .ow (f.map fr), .fz (.int (at_ : Int)), .fz (fr near), s5, s6] [U, W, .ow ((rowAdd f (at_ + j) near b).map fr), .fz (.int (at_ : Int)), .fz (fr near), t5, t6] ∧ SzL s (ka + kb) (n + b.length) (rowAdd f (at_ + j) near b)
  | [], f, j, n, s5, s6, _, hf, _, _ => ⟨_, _, exf_nil, hf⟩
  | c :: b, f, j, n, s5, s6, hn, hf, hb, hi => by
    rw [List.length_cons] at hn hi
    obtain ⟨e1, z1⟩ := row_step hA hM hs hs4 hk U W (by omega) hf h1 (hb c List.mem_cons_self) (show at_ + j < f.length by omega)
    have hf' : SzL s (ka + kb) (n + 1) (f.set (at_ + j) (f.getD (at_ + j) 0 + near * c)) := SzL.set (fun y hy => (hf y hy).up hs (Nat.le_refl _) (by omega)) z1
    obtain ⟨t5, t6, ih, hz⟩ := row_loop hA hM hs hs4 hk U W (at_ := at_) h1 b _ (j + 1) (n + 1) (.fz (.int (j : Int))) (.fz (fr c)) (by omega) hf' (fun y hy => hb y (List.mem_cons_of_mem _ hy)) (by rw [List.length_set]; omega)
    refine ⟨t5, t6, exf_cons (evg_t (evgs_cons evg_n (evgs_cons evg_n evgs_nil)) rfl) e1 ih, ?_⟩
    rw [List.length_cons, show n + (b.length + 1) = n + 1 + b.length by omega]
    exact hz
abbrev prO (A M : Fn) : DS := sFor (iEnumQ (dVar 1)) (gT 2 (gsCons (gN 5) (gsCons (gN 6) gsNil))) (prB A M)
theorem pr_loop (hA : AddOk A) (hM : MulOk M) (hs : 0 < s) (hs4 : s ≤ 256) (hk : 16 * (ka + kb) ≤ 7000) (U : Sl) {b : List Rat} (hb : SzL s kb 1 b) : ∀ (a f : List Rat) (i n : Nat) (s3 s4 s5 s6 : Sl), n + a.length * b.length < 2 ^ 10 → SzL s (ka + kb) n f → SzL s ka 1 a → i + a.length + b.length ≤ f.length + 1 →
    ∃ t3 t4 t5 t6, ExF (gT 2 (gsCons (gN 3) (gsCons (gN 4) gsNil))) (prO A M) (enumD i (a.map fr)) [U, .fz (Fl b), .ow (f.map fr), s3, s4, s5, s6] [U, .fz (Fl b), .ow ((prF f i b a).map fr), t3, t4, t5, t6] ∧ SzL s (ka + kb) (n + a.length * b.length) (prF f i b a)
  | [], f, i, n, s3, s4, s5, s6, _, hf, _, _ => ⟨_, _, _, _, exf_nil, by rw [List.length_nil, Nat.zero_mul]; exact hf⟩
  | c :: a, f, i, n, s3, s4, s5, s6, hn, hf, ha, hi => by
    rw [List.length_cons, Nat.succ_mul] at hn
    rw [List.length_cons] at hi
    obtain ⟨t5, t6, e1, z1⟩ := row_loop hA hM hs hs4 hk U (.fz (Fl b)) (at_ := i) (ha c List.mem_cons_self) b f 0 n s5 s6 (by omega) hf hb (by omega)
    rw [Nat.add_zero] at e1 z1
    obtain ⟨t3, t4, t5', t6', ih, hz⟩ := pr_loop hA hM hs hs4 hk U hb a (rowAdd f i c b) (i + 1) (n + b.length) (.fz (.int (i : Int))) (.fz (fr c)) t5 t6 (by omega) z1 (fun y hy => ha y (List.mem_cons_of_mem _ hy)) (by rw [rowAdd_len]; omega)
    refine ⟨t3, t4, t5', t6', exf_cons (evg_t (evgs_cons evg_n (evgs_cons evg_n evgs_nil)) rfl) (ex_for (evi_enumQ (ev_var rfl) rfl) e1) ih, ?_⟩
    rw [List.length_cons, Nat.succ_mul, show n + (a.length * b.length + b.length) = n + b.length + a.length * b.length by omega]
    exact hz
end
end Kp

namespace Kp
open PySem PySem.Spec PyProof.Rows L2 Dl
/-! products: sums, nothing below 0, nothing above 1 -/
def Nn (l : List Rat) : Prop := ∀ x ∈ l, 0 ≤ x
theorem sum_set : ∀ (f : List Rat) (i : Nat) (y : Rat), i < f.length → sumR (f.set i y) = sumR f - f.getD i 0 + y
  | [], i, y, h => by simp at h
  | x :: f, 0, y, _ => by
    show y + sumR f = x + sumR f - x + y
    grind
  | x :: f, i + 1, y, h => by
    show x + sumR (f.set i y) = x + sumR f - f.getD i 0 + y
    rw [sum_set f i y (by simpa using h)]
    grind
theorem sum_row (near : Rat) : ∀ (b f : List Rat) (i : Nat), i + b.length ≤ f.length → sumR (rowAdd f i near b) = sumR f + near * sumR b
  | [], f, i, _ => by show sumR f = sumR f + near * 0; grind
  | c :: b, f, i, h => by
    rw [List.length_cons] at h
    show sumR (rowAdd (f.set i (f.getD i 0 + near * c)) (i + 1) near b) = sumR f + near * (c + sumR b)
    rw [sum_row near b _ _ (by rw [List.length_set]; omega), sum_set f i _ (by omega)]
    grind
theorem sum_prF (b : List Rat) : ∀ (a f : List Rat) (i : Nat), i + a.length + b.length ≤ f.length + 1 → sumR (prF f i b a) = sumR f + sumR a * sumR b
  | [], f, i, _ => by show sumR f = sumR f + 0 * sumR b; grind
  | c :: a, f, i, h => by
    rw [List.length_cons] at h
    show sumR (prF (rowAdd f i c b) (i + 1) b a) = sumR f + (c + sumR a) * sumR b
    rw [sum_prF b a _ _ (by rw [rowAdd_len]; omega), sum_row c b f i (by omega)]
    grind
theorem sum_zeros : ∀ n : Nat, sumR (List.replicate n (0 : Rat)) = 0
  | 0 => rfl
  | n + 1 => by
    rw [List.replicate_succ]
    show 0 + sumR (List.replicate n 0) = 0
    rw [sum_zeros n]
    grind
theorem sum_pr {a b : List Rat} (ha : 1 ≤ a.length) (hb : 1 ≤ b.length) : sumR (pr a b) = sumR a * sumR b := by
  unfold pr
  rw [sum_prF b a _ 0 (by rw [List.length_replicate]; omega), sum_zeros]
  grind
theorem nn_getD {f : List Rat} (h : Nn f) (i : Nat) : 0 ≤ f.getD i 0 := by
  rw [List.getD_eq_getElem?_getD]
  cases e : f[i]? with
  | none => exact Rat.le_refl
  | some x => exact h x (List.mem_of_getElem? e)
theorem nn_row {near : Rat} (h1 : 0 ≤ near) : ∀ (b f : List Rat) (i : Nat), Nn f → Nn b → Nn (rowAdd f i near b)
  | [], _, _, hf, _ => hf
  | c :: b, f, i, hf, hb => by
    refine nn_row h1 b _ _ (fun y hy => ?_) fun y hy => hb y (List.mem_cons_of_mem _ hy)
    rcases List.mem_or_eq_of_mem_set hy with hy | rfl
    · exact hf y hy
    · have g := nn_getD hf i
      have := Rat.mul_nonneg h1 (hb c List.mem_cons_self)
      grind
theorem nn_prF {b : List Rat} (hb : Nn b) : ∀ (a f : List Rat) (i : Nat), Nn f → Nn a → Nn (prF f i b a)
  | [], _, _, hf, _ => hf
  | c :: a, f, i, hf, ha => nn_prF hb a _ _ (nn_row (ha c List.mem_cons_self) b f i hf hb) fun y hy => ha y (List.mem_cons_of_mem _ hy)
theorem nn_pr {a b : List Rat} (ha : Nn a) (hb : Nn b) : Nn (pr a b) := nn_prF hb a _ 0 (fun y hy => by rw [(List.mem_replicate.mp hy).2]; exact Rat.le_refl) ha
theorem nn_sum : ∀ {l : List Rat}, Nn l → 0 ≤ sumR l
  | [], _ => Rat.le_refl
  | x :: l, h => by
    have h1 := h x List.mem_cons_self
    have h2 := nn_sum (l := l) fun y hy => h y (List.mem_cons_of_mem _ hy)
    show 0 ≤ x + sumR l
    grind
theorem le_sum : ∀ {l : List Rat}, Nn l → ∀ x ∈ l, x ≤ sumR l
  | y :: l, h, x, hx => by
    have h1 := h y List.mem_cons_self
    have hl : Nn l := fun y hy => h y (List.mem_cons_of_mem _ hy)
    have h2 := nn_sum hl
    show x ≤ y + sumR l
    rcases List.mem_cons.mp hx with rfl | hx
    · grind
    · have := le_sum hl x hx
      grind
theorem sz_unit {s k m : Nat} {x : Rat} (hs : 0 < s) (h : Sz s k m x) (h0 : 0 ≤ x) (h1 : x ≤ 1) : Sz s k 1 x := by
  obtain ⟨z, rfl, _⟩ := h
  refine ⟨z, rfl, ?_⟩
  have hD := pw_ne hs k
  have hp : (0 : Rat) < ((s ^ k : Nat) : Rat) := by
    have : ((0 : Nat) : Rat) < ((s ^ k : Nat) : Rat) := Rat.natCast_lt_natCast.mpr (Nat.pow_pos hs)
    exact this
  have e : ((s ^ k : Nat) : Rat) * ((z : Rat) / ((s ^ k : Nat) : Rat)) = (z : Rat) := by
    generalize ((s ^ k : Nat) : Rat) = d at hD
    generalize (z : Rat) = c
    grind
  have a1 := Rat.mul_le_mul_of_nonneg_left h1 (Rat.le_of_lt hp)
  have a0 := Rat.mul_nonneg (Rat.le_of_lt hp) h0
  rw [e] at a1 a0
  have z0 : 0 ≤ z := Rat.intCast_nonneg.mp a0
  have z1 : z ≤ ((s ^ k : Nat) : Int) := by
    have : (z : Rat) ≤ (((s ^ k : Nat) : Int) : Rat) := by
      rw [Rat.intCast_natCast]
      grind
    exact Rat.intCast_le_intCast.mp this
  rw [Nat.one_mul]
  omega
theorem unit_all {s k m : Nat} {l : List Rat} (hs : 0 < s) (h : SzL s k m l) (hn : Nn l) (h1 : sumR l = 1) : SzL s k 1 l := fun x hx => sz_unit hs (h x hx) (hn x hx) (by rw [← h1]; exact le_sum hn x hx)
theorem evf_rep1 {a c : DE} {env : Sls} {x : PyData} {n : Nat} (ha : Ev (a env) (.list [x])) (hc : Ev (c env) (.int (n : Int))) (h : n ≤ 100000) : EvA (fRep a c env) (List.replicate n x) := fun k => by
  have e : ∀ n : Nat, (List.replicate n [x]).flatten = List.replicate n x := fun n => by
    induction n with
    | zero => rfl
    | succ n ih =>
      rw [List.replicate_succ, List.replicate_succ, List.flatten_cons, ih]
      rfl
  have o : repOk 1 (Int.ofNat n) = true := by
    show (Nat.ble n 100000 && small (1 * n)) = true
    rw [Nat.ble_eq_true_of_le h, Nat.one_mul]
    exact Nat.ble_eq_true_of_le h
  unfold fRep
  rw [ha, hc]
  show (match repOk 1 (Int.ofNat n) with
    | true => k (List.replicate (Int.toNat (Int.ofNat n)) [x]).flatten
    | false => false) = _
  rw [o]
  show k (List.replicate n [x]).flatten = _
  rw [e]
section
variable {s ka kb : Nat} {a b : List Rat}
theorem sz_zeros (hs : 0 < s) (k n : Nat) : SzL s k 0 (List.replicate n (0 : Rat)) := fun y hy => by
  rw [(List.mem_replicate.mp hy).2]
  exact Sz.zero hs k
theorem ev_many {env : Sls} (h0 : look env 0 = .fz (Fl a)) (h1 : look env 1 = .fz (Fl b)) (ha : 1 ≤ a.length) : Ev (dOp gSub (dOp gAdd (dCB gLen (aCons (dVar 0) aNil)) (dCB gLen (aCons (dVar 1) aNil))) (dC (.int 1)) env) (.int ((a.length + b.length - 1 : Nat) : Int)) :=
  ev_to (ev_op (ev_op (ev_cb (eva_cons (ev_var h0) eva_nil) (ev_lenV (.inl rfl))) (ev_cb (eva_cons (ev_var h1) eva_nil) (ev_lenV (.inl rfl))) op_add') ev_c op_sub') (by congr 1; omega)
theorem pr_sz (hs : 0 < s) (hs4 : s ≤ 256) (hk : 16 * (ka + kb) ≤ 7000) (hz : SzL s ka 1 a) (hz2 : SzL s kb 1 b) (ha : 1 ≤ a.length) (hab : a.length * b.length < 2 ^ 10) : SzL s (ka + kb) (a.length * b.length) (pr a b) := by
  obtain ⟨_, _, _, _, _, z⟩ := pr_loop addok_red mulok_red hs hs4 hk .no hz2 a (List.replicate (a.length + b.length - 1) 0) 0 0 .no .no .no .no (by omega) (sz_zeros hs _ _) hz (by rw [List.length_replicate]; omega)
  rw [Nat.zero_add] at z
  exact z
theorem s_product (hs : 0 < s) (hs4 : s ≤ 256) (hk : 16 * (ka + kb) ≤ 7000) (hz : SzL s ka 1 a) (hz2 : SzL s kb 1 b) (ha : 1 ≤ a.length) (hab : a.length * b.length < 2 ^ 10) (hl : a.length + b.length ≤ 1000) : Ev (m_product_of [Fl a, Fl b]) (Fl (pr a b)) := by
  obtain ⟨t3, t4, t5, t6, e, _⟩ := pr_loop addP mulP hs hs4 hk (.fz (Fl a)) hz2 a (List.replicate (a.length + b.length - 1) 0) 0 0 .no .no .no .no (by omega) (sz_zeros hs _ _) hz (by rw [List.length_replicate]; omega)
  refine ev_def (rt_seq (ex_own (i := 2) (ds := (List.replicate (a.length + b.length - 1) (0 : Rat)).map fr) (eva_to (evf_rep1 (ev_lst (eva_cons ev_nought eva_nil) rfl) (ev_many rfl rfl ha) (by omega)) (by rw [frs_rep]))) (rt_seq (ex_for (evi_enumQ (ev_var rfl) rfl) e) (rt_frz rfl (rt_ret (ev_var rfl)))))
end
end Kp

namespace Kp
open PySem PySem.Spec PyProof.Rows L2 Dl
/-! one list of chances put into another one -/
def addC (c : Rat) (f P : List Rat) : List Rat := ((f ++ List.replicate (P.length - f.length) (0 : Rat)).zip P).map fun p : Rat × Rat => p.1 + c * p.2
def cmpF (f P b : List Rat) : List Rat → List Rat
  | [] => f
  | c :: cs => cmpF (addC c f P) (pr P b) b cs
theorem addC_len {c : Rat} {f P : List Rat} (h : f.length ≤ P.length) : (addC c f P).length = P.length := by
  unfold addC
  rw [List.length_map, List.length_zip, List.length_append, List.length_replicate]
  omega
/-- chances: nothing below 0, together 1 -/
structure Ch (s k : Nat) (l : List Rat) : Prop where
  sz : SzL s k 1 l
  nn : Nn l
  sm : sumR l = 1
  l1 : 1 ≤ l.length
theorem Ch.pr {s ka kb : Nat} {a b : List Rat} (hs : 0 < s) (hs4 : s ≤ 256) (hk : 16 * (ka + kb) ≤ 7000) (ha : Ch s ka a) (hb : Ch s kb b) (hab : a.length * b.length < 2 ^ 10) : Ch s (ka + kb) (pr a b) := by
  have sm : sumR (Kp.pr a b) = 1 := by rw [sum_pr ha.l1 hb.l1, ha.sm, hb.sm]; grind
  have nn := nn_pr ha.nn hb.nn
  have l1 := ha.l1
  have l2 := hb.l1
  exact ⟨unit_all hs (pr_sz hs hs4 hk ha.sz hb.sz ha.l1 hab) nn sm, nn, sm, by rw [pr_len]; omega⟩
section
variable {s kc kb K : Nat} {b : List Rat}
abbrev putB : DS := (sSeq (sAsg (dOp gAdd (dVar 2) (dOp gMul (dLst (aCons (dC c_NOUGHT) aNil)) (dOp gSub (dCB gLen (aCons (dVar 3) aNil)) (dCB gLen (aCons (dVar 2) aNil))))) (gN 5))
  (sSeq (sAsg (dOp gAdd (dVar 3) (dOp gMul (dLst (aCons (dC c_NOUGHT) aNil)) (dOp gSub (dCB gLen (aCons (dVar 5) aNil)) (dCB gLen (aCons (dVar 3) aNil))))) (gN 6))
  (sSeq (sAsg (dLc (iZipQ (dVar 5) (dVar 6)) (gT 2 (gsCons (gN 7) (gsCons (gN 8) gsNil))) dYes (dCallN 2 m_add (aCons (dVar 7) (aCons (dCallN 2 m_multiply (aCons (dVar 4) (aCons (dVar 8) aNil))) aNil))) [7, 8]) (gN 2))
  (sAsg (dCallN 2 m_product_of (aCons (dVar 3) (aCons (dCallN 1 m_told_of (aCons (dVar 1) aNil)) aNil))) (gN 3)))))
theorem put_step (hs : 0 < s) (hs4 : s ≤ 256) (V0 : Sl) {V1 : PyData} {late : List Rat} (hV : V1 = Fl late ∨ V1 = Ft late) (hl : late.length ≤ 5) (hb : Ch s kb (told late)) {f P : List Rat} {c : Rat} {i : Nat} (hc : Sz s kc 1 c) (hf : SzL s K i f) (hP : Ch s (kb * i) P) (hfP : f.length ≤ P.length) (hPl : P.length ≤ 4 * i + 1) (hi : i ≤ 17) (hK : kc + kb * i ≤ K) (hK2 : 16 * (K + kb) ≤ 4000) (s5 s6 s7 s8 : Sl) :
    Ex putB [V0, .fz V1, .fz (Fl f), .fz (Fl P), .fz (fr c), s5, s6, s7, s8] [V0, .fz V1, .fz (Fl (addC c f P)), .fz (Fl (pr P (told late))), .fz (fr c), .fz (Fl (f ++ List.replicate (P.length - f.length) 0)), .fz (Fl P), s7, s8] ∧ SzL s K (i + 1) (addC c f P) := by
  have hbl : (told late).length ≤ 5 := Nat.le_trans (told_len late) hl
  have hab : P.length * (told late).length < 2 ^ 10 := Nat.lt_of_le_of_lt (Nat.mul_le_mul (show P.length ≤ 69 by omega) hbl) (by decide)
  have hg : SzL s K i (f ++ List.replicate (P.length - f.length) 0) := fun y hy => by
    rcases List.mem_append.mp hy with hy | hy
    · exact hf y hy
    · rw [(List.mem_replicate.mp hy).2]
      exact (Sz.zero hs K).up hs (Nat.le_refl _) (Nat.zero_le _)
  have hgl : (f ++ List.replicate (P.length - f.length) 0).length = P.length := by rw [List.length_append, List.length_replicate]; omega
  have k5 : (2 : Nat) ^ 5 = 32 := by decide
  refine ⟨ex_seq (ex_asg (d := Fl (f ++ List.replicate (P.length - f.length) 0)) (ev_to (ev_op (ev_var rfl) (ev_op (ev_lst (eva_cons ev_nought eva_nil) rfl) (ev_to (ev_op (ev_cb (eva_cons (ev_var rfl) eva_nil) (ev_lenV (.inl rfl))) (ev_cb (eva_cons (ev_var rfl) eva_nil) (ev_lenV (.inl rfl))) op_sub') (by rw [show (P.length : Int) - (f.length : Int) = ((P.length - f.length : Nat) : Int) by omega])) (op_rep1 (by omega))) (op_catL ?_)) ?_) evg_n)
    (ex_seq (ex_asg (d := Fl P) (ev_to (ev_op (ev_var rfl) (ev_op (ev_lst (eva_cons ev_nought eva_nil) rfl) (ev_to (ev_op (ev_cb (eva_cons (ev_var rfl) eva_nil) (ev_lenV (.inl rfl))) (ev_cb (eva_cons (ev_var rfl) eva_nil) (ev_lenV (.inl rfl))) op_sub') (by rw [hgl, show (P.length : Int) - (P.length : Int) = ((0 : Nat) : Int) by omega])) (op_rep1 (by omega))) (op_catL ?_)) ?_) evg_n)
    (ex_seq (ex_asg (d := Fl (addC c f P)) (ev_to (ev_lc (eva_to (evi_zipQ (ev_var rfl) (ev_var rfl) rfl rfl) (zipD_map fr fr _ _)) (evlc_map (r := fun p : Rat × Rat => fr (p.1 + c * p.2)) fun p hp => ?_) ?_) (fl_map _ _)) evg_n)
    (ex_asg (ev_call (eva_cons (ev_var rfl) (eva_cons (ev_call (eva_cons (ev_var rfl) eva_nil) (s_told hV (by omega)) rfl) eva_nil)) (s_product (ka := kb * i) (kb := kb) hs hs4 (by omega) hP.sz hb.sz hP.l1 hab (by omega)) rfl) evg_n))), ?_⟩
  · rw [List.length_map, List.length_replicate]; exact small_le (m := 200) (by omega)
  · show PyData.list (f.map fr ++ List.replicate (P.length - f.length) (fr 0)) = PyData.list ((f ++ List.replicate (P.length - f.length) 0).map fr)
    rw [List.map_append, List.map_replicate]
  · rw [List.length_map, List.length_replicate]; exact small_le (m := 200) (by omega)
  · rw [List.replicate_zero, List.append_nil]
  · obtain ⟨h1, h2⟩ := List.of_mem_zip hp
    have b1 := (hg _ h1).bd hs hs4 (a := 5) (by omega) (by decide)
    have b2 := (hP.sz _ h2).bd hs hs4 (a := 1) (by decide)
    have b3 := hc.bd hs hs4 (a := 1) (by decide)
    exact ⟨_, evg_t (evgs_cons evg_n (evgs_cons evg_n evgs_nil)) rfl, ev_call (eva_cons (ev_var rfl) (eva_cons (ev_call (eva_cons (ev_var rfl) (eva_cons (ev_var rfl) eva_nil)) (mulP _ _ _ _ b3 b2 (by omega)) rfl) eva_nil)) (addP _ _ _ _ b1 (mul_bd b3 b2) (by omega)) rfl⟩
  · rw [List.length_map, List.length_zip]; exact small_le (m := 200) (by omega)
  · intro x hx
    obtain ⟨p, hp, rfl⟩ := List.mem_map.mp hx
    obtain ⟨h1, h2⟩ := List.of_mem_zip hp
    exact ((hg _ h1).add ((hc.mul hs (hP.sz _ h2)).up hs hK (Nat.le_refl _))).up hs (Nat.le_refl _) (by omega)
end
end Kp

namespace Kp
open PySem PySem.Spec PyProof.Rows L2 Dl
section
variable {s kc kb K : Nat}
theorem put_loop (hs : 0 < s) (hs4 : s ≤ 256) (V0 : Sl) {V1 : PyData} {late : List Rat} (hV : V1 = Fl late ∨ V1 = Ft late) (hl : late.length ≤ 5) (hb : Ch s kb (told late)) (hK2 : 16 * (K + kb) ≤ 4000) : ∀ (cs f P : List Rat) (i : Nat) (s4 s5 s6 s7 s8 : Sl), SzL s kc 1 cs → SzL s K i f → Ch s (kb * i) P → f.length ≤ P.length → P.length ≤ 4 * i + 1 → i + cs.length ≤ 17 → kc + kb * (i + cs.length) ≤ K →
    ∃ P' t4 t5 t6 t7 t8, ExF (gN 4) putB (cs.map fr) [V0, .fz V1, .fz (Fl f), .fz (Fl P), s4, s5, s6, s7, s8] [V0, .fz V1, .fz (Fl (cmpF f P (told late) cs)), .fz (Fl P'), t4, t5, t6, t7, t8] ∧ SzL s K (i + cs.length) (cmpF f P (told late) cs) ∧ (cmpF f P (told late) cs).length ≤ 70
  | [], f, P, i, s4, s5, s6, s7, s8, _, hf, _, hfP, hPl, hi, _ => ⟨_, _, _, _, _, _, exf_nil, hf, by show f.length ≤ 70; omega⟩
  | c :: cs, f, P, i, s4, s5, s6, s7, s8, hc, hf, hP, hfP, hPl, hi, hK => by
    rw [List.length_cons] at hi hK
    have hbl : (told late).length ≤ 5 := Nat.le_trans (told_len late) hl
    have hab : P.length * (told late).length < 2 ^ 10 := Nat.lt_of_le_of_lt (Nat.mul_le_mul (show P.length ≤ 69 by omega) hbl) (by decide)
    have e1 : kb * (i + (cs.length + 1)) = kb * i + kb * (cs.length + 1) := Nat.mul_add ..
    have e2 : kb * (i + 1) = kb * i + kb := Nat.mul_succ ..
    have e3 : kb * (cs.length + 1) = kb * cs.length + kb := Nat.mul_succ ..
    obtain ⟨x, hz⟩ := put_step hs hs4 V0 hV hl hb (hc c List.mem_cons_self) hf hP hfP hPl (by omega) (K := K) (by omega) hK2 s5 s6 s7 s8
    have hP' : Ch s (kb * (i + 1)) (pr P (told late)) := by rw [e2]; exact hP.pr hs hs4 (by omega) hb hab
    have l1 := hb.l1
    obtain ⟨P', t4, t5, t6, t7, t8, ih, h1, h2⟩ := put_loop hs hs4 V0 hV hl hb hK2 cs (addC c f P) (pr P (told late)) (i + 1) (.fz (fr c)) (.fz (Fl (f ++ List.replicate (P.length - f.length) 0))) (.fz (Fl P)) s7 s8 (fun y hy => hc y (List.mem_cons_of_mem _ hy)) hz hP' (by rw [addC_len hfP, pr_len]; omega) (by rw [pr_len]; omega) (by omega) (by rw [show i + 1 + cs.length = i + (cs.length + 1) by omega]; exact hK)
    refine ⟨P', t4, t5, t6, t7, t8, exf_cons evg_n x ih, ?_, h2⟩
    rw [List.length_cons, show i + (cs.length + 1) = i + 1 + cs.length by omega]
    exact h1
theorem ch_one (hs : 0 < s) : Ch s (kb * 0) [1] := ⟨fun x hx => by rw [List.mem_singleton.mp hx]; exact Sz.one hs _, fun x hx => by rw [List.mem_singleton.mp hx]; decide, by show (1 : Rat) + 0 = 1; grind, by decide⟩
/-- what put_of tells -/
def put (cs late : List Rat) : List Rat := told (cmpF [0] [1] (told late) (told cs))
theorem told_sub {s k m : Nat} {l : List Rat} (h : SzL s k m l) : SzL s k m (told l) := fun x hx => by
  obtain ⟨n, e, _⟩ := told_parts l
  exact h x (by rw [e]; exact List.mem_append_left _ hx)
theorem s_put (hs : 0 < s) (hs4 : s ≤ 256) {V0 V1 : PyData} {cs late : List Rat} (hV0 : V0 = Fl cs ∨ V0 = Ft cs) (hV : V1 = Fl late ∨ V1 = Ft late) (hl : late.length ≤ 5) (hb : Ch s kb (told late)) (hc : SzL s kc 1 cs) (hcl : cs.length ≤ 17) (hk : kc + kb * 17 ≤ 200) (hkb : kb ≤ 10) : Ev (m_put_of [V0, V1]) (Fl (put cs late)) := by
  have ht := told_len cs
  have hm : kb * (told cs).length ≤ kb * 17 := Nat.mul_le_mul_left _ (by omega)
  obtain ⟨P', t4, t5, t6, t7, t8, he, _, h2⟩ := put_loop (kc := kc) (K := 200) hs hs4 (.fz V0) hV hl hb (by omega) (told cs) [0] [1] 0 .no .no .no .no .no (told_sub hc) (fun x hx => by rw [List.mem_singleton.mp hx]; exact Sz.zero hs _) (ch_one hs) (Nat.le_refl _) (by decide) (by omega) (by rw [Nat.zero_add]; omega)
  have e0 : ((startE 9 [V0, V1]).set 2 (.fz (Fl [0]))).set 3 (.fz (Fl [1])) = [.fz V0, .fz V1, .fz (Fl [0]), .fz (Fl [1]), .no, .no, .no, .no, .no] := by rcases hV0 with rfl | rfl <;> rcases hV with rfl | rfl <;> rfl
  refine ev_defF (rt_seq (ex_par (x := Fl [0]) (y := Fl [1]) (eva_cons (ev_lst (eva_cons ev_nought eva_nil) rfl) (eva_cons (ev_lst (eva_cons ev_one eva_nil) rfl) eva_nil))) (by
    rw [e0]
    exact rt_seq (ex_for (evi_seqL (ev_call (eva_cons (ev_var rfl) eva_nil) (s_told hV0 (by omega)) rfl)) he) (rt_retF (evf_call (eva_cons (ev_var rfl) eva_nil) (s_told (.inl rfl) (by omega)) rfl))))
end
end Kp

namespace Kp
open PySem PySem.Spec PyProof.Rows L2 Dl
/-! coefficients of a put -/
def colG (j : Nat) (b : List Rat) : List Rat → List Rat → Rat
  | _, [] => 0
  | P, c :: cs => c * P.getD j 0 + colG j b (pr P b) cs
theorem getD_pad (f : List Rat) (n j : Nat) : (f ++ List.replicate n (0 : Rat)).getD j 0 = f.getD j 0 := by
  rw [List.getD_eq_getElem?_getD, List.getD_eq_getElem?_getD]
  by_cases h : j < f.length
  · rw [List.getElem?_append_left h]
  · rw [List.getElem?_append_right (by omega), List.getElem?_eq_none (show f.length ≤ j by omega)]
    cases e : (List.replicate n (0 : Rat))[j - f.length]? with
    | none => rfl
    | some x =>
      have := List.mem_of_getElem? e
      rw [(List.mem_replicate.mp this).2]
      rfl
theorem addC_get {c : Rat} {f P : List Rat} (h : f.length ≤ P.length) (j : Nat) : (addC c f P).getD j 0 = f.getD j 0 + c * P.getD j 0 := by
  rw [← getD_pad f (P.length - f.length) j]
  have hl : (f ++ List.replicate (P.length - f.length) (0 : Rat)).length = P.length := by rw [List.length_append, List.length_replicate]; omega
  unfold addC
  rw [List.getD_eq_getElem?_getD, List.getD_eq_getElem?_getD, List.getD_eq_getElem?_getD, List.getElem?_map]
  by_cases hj : j < P.length
  · rw [List.getElem?_eq_getElem (show j < (List.zip (f ++ List.replicate (P.length - f.length) 0) P).length by rw [List.length_zip]; omega), List.getElem?_eq_getElem (show j < (f ++ List.replicate (P.length - f.length) (0 : Rat)).length by omega), List.getElem?_eq_getElem hj, List.getElem_zip]
    rfl
  · rw [List.getElem?_eq_none (show (List.zip (f ++ List.replicate (P.length - f.length) 0) P).length ≤ j by rw [List.length_zip]; omega), List.getElem?_eq_none (show (f ++ List.replicate (P.length - f.length) (0 : Rat)).length ≤ j by omega), List.getElem?_eq_none (show P.length ≤ j by omega)]
    show (0 : Rat) = 0 + c * 0
    grind
theorem cmp_get (b : List Rat) (hb : 1 ≤ b.length) (j : Nat) : ∀ (cs f P : List Rat), f.length ≤ P.length → 1 ≤ P.length → (cmpF f P b cs).getD j 0 = f.getD j 0 + colG j b P cs
  | [], f, P, _, _ => by show f.getD j 0 = f.getD j 0 + 0; grind
  | c :: cs, f, P, h, hP => by
    show (cmpF (addC c f P) (pr P b) b cs).getD j 0 = f.getD j 0 + (c * P.getD j 0 + colG j b (pr P b) cs)
    rw [cmp_get b hb j cs _ _ (by rw [addC_len h, pr_len]; omega) (by rw [pr_len]; omega), addC_get h]
    grind
theorem cmp_len (b : List Rat) (hb : 1 ≤ b.length) : ∀ (cs : List Rat) (c : Rat) (f P : List Rat), f.length ≤ P.length → 1 ≤ P.length → (cmpF f P b (c :: cs)).length = P.length + cs.length * (b.length - 1)
  | [], c, f, P, h, _ => by
    show (addC c f P).length = _
    rw [addC_len h, List.length_nil, Nat.zero_mul, Nat.add_zero]
  | d :: cs, c, f, P, h, hP => by
    show (cmpF (addC c f P) (pr P b) b (d :: cs)).length = _
    rw [cmp_len b hb cs d _ _ (by rw [addC_len h, pr_len]; omega) (by rw [pr_len]; omega), pr_len, List.length_cons, Nat.succ_mul]
    omega
/-- the law's list, before it is told -/
def lawL (b cs : List Rat) : List Rat := (List.range ((cs.length - 1) * (b.length - 1) + 1)).map fun j => colG j b [1] cs
theorem law_cmp {b cs : List Rat} (hb : 1 ≤ b.length) (hc : 1 ≤ cs.length) : lawL b cs = cmpF [0] [1] b cs := by
  obtain ⟨c, r, rfl⟩ : ∃ c r, cs = c :: r := by
    cases cs with
    | nil => simp at hc
    | cons c r => exact ⟨c, r, rfl⟩
  have hl := cmp_len b hb r c [0] [1] (Nat.le_refl _) (Nat.le_refl _)
  refine List.ext_getElem ?_ fun j h1 h2 => ?_
  · unfold lawL
    rw [List.length_map, List.length_range, hl, List.length_cons, List.length_singleton, Nat.add_sub_cancel]
    omega
  · have g := cmp_get b hb j (c :: r) [0] [1] (Nat.le_refl _) (Nat.le_refl _)
    rw [List.getD_eq_getElem?_getD, List.getElem?_eq_getElem h2] at g
    have g : (cmpF [0] [1] b (c :: r))[j] = ([0] : List Rat).getD j 0 + colG j b [1] (c :: r) := g
    rw [g]
    have z : ([0] : List Rat).getD j 0 = 0 := by cases j <;> rfl
    rw [z]
    have g1 : (lawL b (c :: r))[j] = colG j b [1] (c :: r) := by simp [lawL]
    rw [g1]
    grind
end Kp

namespace Kp
open PySem PySem.Spec PyProof.Rows L2 Dl
theorem ev_new {df : DF} {env : Sls} {ds : List PyData} (h : EvA (df env) ds) : Ev (dNew df env) (.list ds) := fun k => by
  unfold dNew
  rw [h]
theorem evf_bor {df : DF} {env env' : Sls} {is : List Nat} {ds : List PyData} (h : frzAll env is = some env') (ha : EvA (df env') ds) (hn : noLists ds = true) : EvA (fBor is df env) ds := fun k => by
  unfold fBor
  rw [h]
  show df env' _ = _
  rw [ha]
  simp only [hn]
theorem noLists_frs : ∀ l : List Rat, noLists (l.map fr) = true
  | [] => rfl
  | x :: l => by
    rw [List.map_cons]
    unfold noLists
    rw [noLists_frs l]
    rfl
/-- a comprehension with a test -/
theorem lc_test {α : Type} {f : α → PyData} {r : α → PyData} {b : α → Bool} {g : DG} {t : DT} {el : DE} {env : Sls} : ∀ (ws : List α) (acc : List PyData), (∀ w ∈ ws, ∃ e, EvG (g (f w) env) e ∧ EvT (t e) (b w) ∧ (b w = true → Ev (el e) (r w))) → ∀ k : KF, goLc g t el env (ws.map f) acc k = k (.list (acc.reverse ++ (ws.filter b).map r))
  | [], acc, _, k => by simp [goLc]
  | w :: ws, acc, h, k => by
    obtain ⟨e, h1, h2, h3⟩ := h w List.mem_cons_self
    have ih := fun acc => lc_test ws acc (fun w hw => h w (List.mem_cons_of_mem _ hw)) k
    show g (f w) env (fun env' => t env' fun b => match b with
      | true => el env' fun d => goLc g t el env (ws.map f) (d :: acc) k
      | false => goLc g t el env (ws.map f) acc k) = _
    rw [h1, h2]
    cases hb : b w with
    | true =>
      show el e (fun d => goLc g t el env (ws.map f) (d :: acc) k) = _
      rw [h3 hb, ih, List.filter_cons_of_pos hb]
      simp
    | false =>
      show goLc g t el env (ws.map f) acc k = _
      rw [ih, List.filter_cons_of_neg (by simp [hb])]
theorem ev_lcT {α : Type} {ws : List α} {f r : α → PyData} {b : α → Bool} {it : DI} {g : DG} {t : DT} {el : DE} {vs : List Nat} {env : Sls} (hi : EvA (it env) (ws.map f)) (h : ∀ w ∈ ws, ∃ e, EvG (g (f w) (wipeE env vs)) e ∧ EvT (t e) (b w) ∧ (b w = true → Ev (el e) (r w))) (hl : small ws.length = true) : Ev (dLc it g t el vs env) (.list ((ws.filter b).map r)) := fun k => by
  unfold dLc
  rw [hi]
  have : small (ws.map f).length = true := by rw [List.length_map]; exact hl
  simp only [this]
  rw [lc_test ws [] h k]
  rfl
def pwr (b : List Rat) : Nat → List Rat
  | 0 => [1]
  | n + 1 => pr (pwr b n) b
def rowsF (b : List Rat) : List Rat → Nat → List (List Rat)
  | _, 0 => []
  | P, n + 1 => P :: rowsF b (pr P b) n
theorem rowsF_snoc (b : List Rat) : ∀ (n i : Nat), rowsF b (pwr b i) (n + 1) = rowsF b (pwr b i) n ++ [pwr b (i + n)]
  | 0, i => rfl
  | n + 1, i => by
    show pwr b i :: rowsF b (pwr b (i + 1)) (n + 1) = pwr b i :: rowsF b (pwr b (i + 1)) n ++ [pwr b (i + (n + 1))]
    rw [rowsF_snoc b n (i + 1), show i + 1 + n = i + (n + 1) by omega]
    rfl
theorem col_rows (j : Nat) (b : List Rat) : ∀ (cs P : List Rat), sumR (((cs.zip (rowsF b P cs.length)).filter fun p => decide (j < p.2.length)).map fun p => p.1 * p.2.getD j 0) = colG j b P cs
  | [], _ => rfl
  | c :: cs, P => by
    have ih := col_rows j b cs (pr P b)
    show sumR ((((c, P) :: cs.zip (rowsF b (pr P b) cs.length)).filter fun p => decide (j < p.2.length)).map fun p => p.1 * p.2.getD j 0) = c * P.getD j 0 + colG j b (pr P b) cs
    by_cases h : j < P.length
    · rw [List.filter_cons_of_pos (by simpa using h), List.map_cons]
      show c * P.getD j 0 + sumR _ = _
      rw [ih]
    · rw [List.filter_cons_of_neg (by simpa using h), ih, List.getD_eq_getElem?_getD, List.getElem?_eq_none (by omega)]
      show colG j b (pr P b) cs = c * 0 + colG j b (pr P b) cs
      grind
end Kp

namespace Kp
open PySem PySem.Spec PyProof.Rows L2 Dl
section
variable {s kc kb : Nat} {b cs : List Rat}
theorem pwr_len (hb : 1 ≤ b.length) (h5 : b.length ≤ 5) : ∀ i, (pwr b i).length ≤ 4 * i + 1
  | 0 => Nat.le_refl _
  | i + 1 => by
    show (pr (pwr b i) b).length ≤ _
    rw [pr_len]
    have := pwr_len hb h5 i
    omega
theorem pwr_ch (hs : 0 < s) (hs4 : s ≤ 256) (hb : Ch s kb b) (h5 : b.length ≤ 5) (hkb : kb ≤ 10) : ∀ i, i ≤ 17 → Ch s (kb * i) (pwr b i)
  | 0, _ => ch_one hs
  | i + 1, hi => by
    have ih := pwr_ch hs hs4 hb h5 hkb i (by omega)
    have hl := pwr_len hb.l1 h5 i
    have hm : kb * i ≤ 10 * 17 := Nat.mul_le_mul hkb (by omega)
    rw [Nat.mul_succ]
    exact ih.pr hs hs4 (by omega) hb (Nat.lt_of_le_of_lt (Nat.mul_le_mul (show (pwr b i).length ≤ 69 by omega) h5) (by decide))
theorem rowsF_mem : ∀ (n i : Nat) (P : List Rat), P ∈ rowsF b (pwr b i) n → ∃ j, j < i + n ∧ P = pwr b j
  | 0, _, _, h => by cases h
  | n + 1, i, P, h => by
    rcases List.mem_cons.mp (show P ∈ pwr b i :: rowsF b (pwr b (i + 1)) n from h) with rfl | h
    · exact ⟨i, by omega, rfl⟩
    · obtain ⟨j, hj, e⟩ := rowsF_mem n (i + 1) P h
      exact ⟨j, by omega, e⟩
theorem rowsF_len : ∀ (n : Nat) (P : List Rat), (rowsF b P n).length = n
  | 0, _ => rfl
  | n + 1, P => by show (rowsF b (pr P b) n).length + 1 = _; rw [rowsF_len n]
abbrev Rw (b : List Rat) (n : Nat) : List PyData := (rowsF b [1] n).map fun P => Fl P
theorem place_ev (hs : 0 < s) (hs4 : s ≤ 256) (hb : Ch s kb b) (h5 : b.length ≤ 5) (hkb : kb ≤ 10) (hc : SzL s kc 1 cs) (hkc : kc ≤ 30) (hcl : cs.length ≤ 17) (j : Nat) {s2 s3 s5 s7 s8 : Sl} :
    Ev (dCallN 1 m__law_total (aCons (dLc (iZipQ (dVar 0) (dVar 4)) (gT 2 (gsCons (gN 7) (gsCons (gN 8) gsNil))) (dB (dOp gLt (dVar 6) (dCB gLen (aCons (dVar 8) aNil)))) (dCallN 2 m__law_times (aCons (dVar 7) (aCons (dOp gIx (dVar 8) (dVar 6)) aNil))) [7, 8]) aNil) [.fz (Fl cs), .fz (Fl b), s2, s3, .fz (.list (Rw b cs.length)), s5, .fz (.int (j : Int)), s7, s8]) (fr (colG j b [1] cs)) := by
  have k5 : (2 : Nat) ^ 5 = 32 := by decide
  have hrow : ∀ P, P ∈ rowsF b [1] cs.length → SzL s (kb * 17) 1 P := fun P hP => by
    obtain ⟨i, hi, rfl⟩ := rowsF_mem cs.length 0 P hP
    have h := pwr_ch hs hs4 hb h5 hkb i (by omega)
    exact fun x hx => (h.sz x hx).up hs (Nat.mul_le_mul_left _ (by omega)) (Nat.le_refl _)
  have hz : ∀ p ∈ (cs.zip (rowsF b [1] cs.length)), Sz s kc 1 p.1 ∧ SzL s (kb * 17) 1 p.2 := fun p hp => by
    obtain ⟨q1, q2⟩ := List.of_mem_zip hp
    exact ⟨hc _ q1, hrow _ q2⟩
  have hm : kb * 17 ≤ 170 := by omega
  have hsz : SzL s (kc + kb * 17) 1 (((cs.zip (rowsF b [1] cs.length)).filter fun p => decide (j < p.2.length)).map fun p => p.1 * p.2.getD j 0) := fun x hx => by
    obtain ⟨p, hp, rfl⟩ := List.mem_map.mp hx
    obtain ⟨hp1, hp2⟩ := List.mem_filter.mp hp
    obtain ⟨q1, q2⟩ := hz p hp1
    exact (q1.mul hs (getD_sz q2 (of_decide_eq_true hp2))).up hs (Nat.le_refl _) (Nat.le_refl _)
  have hlen : (((cs.zip (rowsF b [1] cs.length)).filter fun p => decide (j < p.2.length)).map fun p => p.1 * p.2.getD j 0).length ≤ 17 := by
    rw [List.length_map]
    refine Nat.le_trans (List.length_filter_le ..) ?_
    rw [List.length_zip, rowsF_len]
    omega
  have ht := l_total hs hs4 (a := 5) (by decide) (by omega) hsz (by omega)
  rw [col_rows] at ht
  refine ev_call (eva_cons (ev_to (y := Fl (((cs.zip (rowsF b [1] cs.length)).filter fun p => decide (j < p.2.length)).map fun p => p.1 * p.2.getD j 0)) (ev_lcT (eva_to (evi_zipQ (ev_var rfl) (ev_var rfl) rfl rfl) (zipD_map fr (fun P => Fl P) _ _)) (b := fun p : Rat × List Rat => decide (j < p.2.length)) (r := fun p : Rat × List Rat => fr (p.1 * p.2.getD j 0)) (fun p hp => ?_) ?_) (fl_map _ _)) eva_nil) ht rfl
  · obtain ⟨q1, q2⟩ := hz p hp
    refine ⟨_, evg_t (evgs_cons evg_n (evgs_cons evg_n evgs_nil)) rfl, evt_b (ev_toB (ev_op (ev_var rfl) (ev_cb (eva_cons (ev_var rfl) eva_nil) (ev_lenV (.inl rfl))) op_I) ?_), fun hj => ?_⟩
    · exact decide_eq_decide.mpr (by omega)
    · have hj := of_decide_eq_true hj
      have b1 := q1.bd hs hs4 (a := 1) (by decide)
      have b2 := (getD_sz q2 hj).bd hs hs4 (a := 1) (by decide)
      exact ev_call (eva_cons (ev_var rfl) (eva_cons (ev_op (ev_var rfl) (ev_var rfl) (op_ixL (x := fr (p.2.getD j 0)) (Dl.atI_nat (by rw [List.getElem?_map, List.getElem?_eq_getElem hj, List.getD_eq_getElem?_getD, List.getElem?_eq_getElem hj]; rfl)))) eva_nil)) (mulL _ _ _ _ b1 b2 (by omega)) rfl
  · rw [List.length_zip, rowsF_len]; exact small_le (m := 30) (by omega)
end
end Kp

namespace Kp
open PySem PySem.Spec PyProof.Rows L2 Dl
section
variable {s kc kb : Nat} {b cs : List Rat}
theorem places_loop (hs : 0 < s) (hs4 : s ≤ 256) (hb : Ch s kb b) (h5 : b.length ≤ 5) (hkb : kb ≤ 10) (hc : SzL s kc 1 cs) (hkc : kc ≤ 30) (hcl : cs.length ≤ 17) (N : Nat) (hN : N ≤ 100) {s5 s6 s7 s8 : Sl} :
    ∃ t6 t7 t8, Ex (sFor (iRange1 (dOp gAdd (dVar 3) (dC (.int 1)))) (gN 6) (sApp 2 (dBor [4] (dCallN 1 m__law_total (aCons (dLc (iZipQ (dVar 0) (dVar 4)) (gT 2 (gsCons (gN 7) (gsCons (gN 8) gsNil))) (dB (dOp gLt (dVar 6) (dCB gLen (aCons (dVar 8) aNil)))) (dCallN 2 m__law_times (aCons (dVar 7) (aCons (dOp gIx (dVar 8) (dVar 6)) aNil))) [7, 8]) aNil)))))
      [.fz (Fl cs), .fz (Fl b), .ow [], .fz (.int (N : Int)), .ow (Rw b cs.length), s5, s6, s7, s8] [.fz (Fl cs), .fz (Fl b), .ow (((List.range (N + 1)).map fun j => colG j b [1] cs).map fr), .fz (.int (N : Int)), .ow (Rw b cs.length), s5, t6, t7, t8] := by
  obtain ⟨e, ⟨t6, t7, t8, rfl⟩, he⟩ := for_inv (g := gN 6) (body := sApp 2 (dBor [4] (dCallN 1 m__law_total (aCons (dLc (iZipQ (dVar 0) (dVar 4)) (gT 2 (gsCons (gN 7) (gsCons (gN 8) gsNil))) (dB (dOp gLt (dVar 6) (dCB gLen (aCons (dVar 8) aNil)))) (dCallN 2 m__law_times (aCons (dVar 7) (aCons (dOp gIx (dVar 8) (dVar 6)) aNil))) [7, 8]) aNil)))) (f := fun i : Nat => .int (i : Int)) (xs := List.range (N + 1))
    (fun pre _ e => ∃ t6 t7 t8, e = [.fz (Fl cs), .fz (Fl b), .ow ((pre.map fun j => colG j b [1] cs).map fr), .fz (.int (N : Int)), .ow (Rw b cs.length), s5, t6, t7, t8]) (by
    rintro pre i rest e hq ⟨t6, t7, t8, rfl⟩
    have hl : pre.length < N + 1 := by have := congrArg List.length hq; simp at this; omega
    have hv := place_ev hs hs4 hb h5 hkb hc hkc hcl i (s2 := .ow ((pre.map fun j => colG j b [1] cs).map fr)) (s3 := .fz (.int (N : Int))) (s5 := s5) (s7 := t7) (s8 := t8)
    refine ⟨_, _, evg_n, ex_app (ds := (pre.map fun j => colG j b [1] cs).map fr) (d := fr (colG i b [1] cs)) rfl (ev_bor (env' := [.fz (Fl cs), .fz (Fl b), .ow ((pre.map fun j => colG j b [1] cs).map fr), .fz (.int (N : Int)), .fz (.list (Rw b cs.length)), s5, .fz (.int (i : Int)), t7, t8]) rfl hv rfl) ?_, ⟨.fz (.int (i : Int)), t7, t8, ?_⟩⟩
    · rw [List.length_map, List.length_map]; exact small_le (m := 200) (by omega)
    · rw [List.map_append, List.map_append]
      rfl) (List.range (N + 1)) [] [.fz (Fl cs), .fz (Fl b), .ow [], .fz (.int (N : Int)), .ow (Rw b cs.length), s5, s6, s7, s8] rfl ⟨_, _, _, rfl⟩
  exact ⟨t6, t7, t8, ex_for (evi_rangeN (n := N + 1) (ev_op (ev_var rfl) ev_c op_add') (by omega)) he⟩
end
end Kp

namespace Kp
open Dl
/-! numbers of products and of one list put into another one -/
theorem nb_set (x : Rat) : ∀ (f : List Rat) (i : Nat) (y : Rat), i < f.length → nb x (f.set i y) = nb x f + (y - f.getD i 0) * pw x i
  | [], i, y, h => by simp at h
  | c :: f, 0, y, _ => by
    show y + x * nb x f = c + x * nb x f + (y - c) * 1
    grind
  | c :: f, i + 1, y, h => by
    show c + x * nb x (f.set i y) = c + x * nb x f + (y - f.getD i 0) * (pw x i * x)
    rw [nb_set x f i y (by simpa using h)]
    grind
theorem nb_row (x near : Rat) : ∀ (b f : List Rat) (i : Nat), i + b.length ≤ f.length → nb x (rowAdd f i near b) = nb x f + near * pw x i * nb x b
  | [], f, i, _ => by show nb x f = nb x f + near * pw x i * 0; grind
  | c :: b, f, i, h => by
    rw [List.length_cons] at h
    show nb x (rowAdd (f.set i (f.getD i 0 + near * c)) (i + 1) near b) = nb x f + near * pw x i * (c + x * nb x b)
    rw [nb_row x near b _ _ (by rw [List.length_set]; omega), nb_set x f i _ (by omega)]
    show nb x f + (f.getD i 0 + near * c - f.getD i 0) * pw x i + near * (pw x i * x) * nb x b = _
    grind
theorem nb_prF (x : Rat) (b : List Rat) : ∀ (a f : List Rat) (i : Nat), i + a.length + b.length ≤ f.length + 1 → nb x (prF f i b a) = nb x f + pw x i * nb x a * nb x b
  | [], f, i, _ => by show nb x f = nb x f + pw x i * 0 * nb x b; grind
  | c :: a, f, i, h => by
    rw [List.length_cons] at h
    show nb x (prF (rowAdd f i c b) (i + 1) b a) = nb x f + pw x i * (c + x * nb x a) * nb x b
    rw [nb_prF x b a _ _ (by rw [rowAdd_len]; omega), nb_row x c b f i (by omega)]
    show nb x f + c * pw x i * nb x b + pw x i * x * nb x a * nb x b = _
    grind
theorem nb_zeros (x : Rat) : ∀ n : Nat, nb x (List.replicate n 0) = 0
  | 0 => rfl
  | n + 1 => by
    rw [List.replicate_succ]
    show 0 + x * nb x (List.replicate n 0) = 0
    rw [nb_zeros x n]
    grind
theorem nb_pr (x : Rat) {a b : List Rat} (ha : 1 ≤ a.length) (hb : 1 ≤ b.length) : nb x (pr a b) = nb x a * nb x b := by
  unfold pr
  rw [nb_prF x b a _ 0 (by rw [List.length_replicate]; omega), nb_zeros]
  show 0 + 1 * nb x a * nb x b = _
  grind
theorem nb_add (x c : Rat) : ∀ (f P : List Rat), f.length = P.length → nb x ((f.zip P).map fun p : Rat × Rat => p.1 + c * p.2) = nb x f + c * nb x P
  | [], [], _ => by show (0 : Rat) = 0 + c * 0; grind
  | y :: f, z :: P, h => by
    show y + c * z + x * nb x ((f.zip P).map fun p : Rat × Rat => p.1 + c * p.2) = y + x * nb x f + c * (z + x * nb x P)
    rw [nb_add x c f P (by simpa using h)]
    grind
  | [], _ :: _, h => by simp at h
  | _ :: _, [], h => by simp at h
theorem nb_pad (x : Rat) (n : Nat) : ∀ f : List Rat, nb x (f ++ List.replicate n 0) = nb x f
  | [] => nb_zeros x n
  | c :: f => by
    show c + x * nb x (f ++ List.replicate n 0) = c + x * nb x f
    rw [nb_pad x n f]
theorem nb_addC (x c : Rat) {f P : List Rat} (h : f.length ≤ P.length) : nb x (addC c f P) = nb x f + c * nb x P := by
  unfold addC
  rw [nb_add x c _ P (by rw [List.length_append, List.length_replicate]; omega), nb_pad]
theorem nb_cmp (x : Rat) {b : List Rat} (hb : 1 ≤ b.length) : ∀ (cs f P : List Rat), f.length ≤ P.length → 1 ≤ P.length → nb x (cmpF f P b cs) = nb x f + nb x P * nb (nb x b) cs
  | [], f, P, _, _ => by show nb x f = nb x f + nb x P * 0; grind
  | c :: cs, f, P, h, hP => by
    show nb x (cmpF (addC c f P) (pr P b) b cs) = nb x f + nb x P * (c + nb x b * nb (nb x b) cs)
    rw [nb_cmp x hb cs _ _ (by rw [addC_len h, pr_len]; omega) (by rw [pr_len]; omega), nb_addC x c h, nb_pr x hP hb]
    grind
theorem nb_told (x : Rat) (l : List Rat) : nb x (told l) = nb x l := by
  obtain ⟨n, e, _⟩ := told_parts l
  have := nb_pad x n (told l)
  rw [← e] at this
  exact this.symm
/-- the number of a put is the number at a number -/
theorem nb_put (x : Rat) {cs late : List Rat} (h : 1 ≤ (told late).length) : nb x (put cs late) = nb (nb x late) cs := by
  unfold put
  rw [nb_told, nb_cmp x h (told cs) [0] [1] (Nat.le_refl _) (Nat.le_refl _), nb_told, nb_told]
  show (0 : Rat) + x * 0 + (1 + x * 0) * nb (nb x late) cs = _
  grind
end Kp

namespace Kp
open PySem PySem.Spec PyProof.Rows L2 Dl
section
variable {s : Nat} {cs late : List Rat} {V0 V1 : PyData}
theorem s_want {x y : PyData} {a b : List Rat} (hx : x = Fl a ∨ x = Ft a) (hy : y = Fl b ∨ y = Ft b) (ha : 1 ≤ (told a).length) (hb : 1 ≤ (told b).length) (hla : a.length ≤ 17) (hlb : b.length ≤ 5) : Ev (m_want_sizes [x, y]) .none := by
  have l0 : look (startE 2 [x, y]) 0 = .fz x := by rcases hx with rfl | rfl <;> rcases hy with rfl | rfl <;> rfl
  have l1 : look (startE 2 [x, y]) 1 = .fz y := by rcases hx with rfl | rfl <;> rcases hy with rfl | rfl <;> rfl
  have ta := told_len a
  have tb := told_len b
  have hm : ((told a).length - 1) * ((told b).length - 1) ≤ 16 * 4 := Nat.mul_le_mul (by omega) (by omega)
  have k7 : (2 : Nat) ^ 7 = 128 := by decide
  refine ev_defN (ex_expr (d := .none) (ev_call (eva_cons ev_c (eva_cons (fun _ => rfl : Ev (dC c_MOST_SIZES _) (.int 64)) (eva_cons (ev_op (ev_to (ev_op (ev_cb (eva_cons (ev_call (eva_cons (ev_var l0) eva_nil) (s_told hx (by omega)) rfl) eva_nil) (ev_lenV (.inl rfl))) ev_c op_sub') (by rw [show ((told a).length : Int) - 1 = (((told a).length - 1 : Nat) : Int) by omega])) (ev_to (ev_op (ev_cb (eva_cons (ev_call (eva_cons (ev_var l1) eva_nil) (s_told hy (by omega)) rfl) eva_nil) (ev_lenV (.inl rfl))) ev_c op_sub') (by rw [show ((told b).length : Int) - 1 = (((told b).length - 1 : Nat) : Int) by omega])) (op_mul' (mul_ok (m := 7) (n := 7) (by rw [Int.natAbs_natCast, k7]; omega) (by rw [Int.natAbs_natCast, k7]; omega) (by decide)))) eva_nil))) (ev_defN (ex_ifF (evt_b (ev_toB (ev_op (ev_var rfl) (ev_var rfl) op_I) ?_)) ex_nil)) rfl))
  have e : (((told a).length - 1 : Nat) : Int) * (((told b).length - 1 : Nat) : Int) = ((((told a).length - 1) * ((told b).length - 1) : Nat) : Int) := by rw [Int.natCast_mul]
  exact decide_eq_false (by rw [e]; omega)
theorem told_sum (l : List Rat) : sumR (told l) = sumR l := by
  obtain ⟨n, e, _⟩ := told_parts l
  have : sumR l = sumR (told l ++ List.replicate n 0) := congrArg sumR e
  rw [sumR_append, sum_zeros] at this
  grind
theorem COk.ch (h : COk s cs) : Ch s 1 (told cs) := by
  have sm : sumR (told cs) = 1 := by rw [told_sum, h.sm]
  refine ⟨told_sub h.sz, fun x hx => ?_, sm, ?_⟩
  · obtain ⟨n, e, _⟩ := told_parts cs
    exact h.nn x (by rw [e]; exact List.mem_append_left _ hx)
  · cases e : told cs with
    | nil =>
      rw [e] at sm
      exact absurd sm (by decide)
    | cons x l => rw [List.length_cons]; omega
end
end Kp

namespace Kp
open PySem PySem.Spec PyProof.Rows L2 Dl
theorem sz_lift {s t k m : Nat} {x : Rat} (hs : 0 < s) (ht : 0 < t) (h : Sz s k m x) : Sz (s * t) k m x := by
  obtain ⟨z, rfl, hz⟩ := h
  refine ⟨z * (t ^ k : Nat), ?_, ?_⟩
  · have h1 := pw_ne hs k
    have h2 := pw_ne ht k
    rw [Nat.mul_pow, Rat.natCast_mul, Rat.intCast_mul, Rat.intCast_natCast]
    generalize ((s ^ k : Nat) : Rat) = a at h1
    generalize ((t ^ k : Nat) : Rat) = b at h2
    generalize (z : Rat) = c
    have e1 : a * (c / a) = c := by grind
    have e2 : (a * b) * (c * b / (a * b)) = c * b := by grind
    grind
  · rw [Int.natAbs_mul, Int.natAbs_natCast, Nat.mul_pow, ← Nat.mul_assoc]
    exact Nat.mul_le_mul_right _ hz
theorem sz_liftL {s t k m : Nat} {l : List Rat} (hs : 0 < s) (ht : 0 < t) (h : SzL s k m l) : SzL (s * t) k m l := fun x hx => sz_lift hs ht (h x hx)
theorem ch_lift {s t k : Nat} {l : List Rat} (hs : 0 < s) (ht : 0 < t) (h : Ch s k l) : Ch (s * t) k l := ⟨sz_liftL hs ht h.sz, h.nn, h.sm, h.l1⟩
/-- two lists of chances with two bottoms: one base -/
theorem base_two {s s' : Nat} (h : s ≤ 15) (h' : s' ≤ 15) (h0 : 0 < s) (h0' : 0 < s') : 0 < s * s' ∧ s * s' ≤ 256 :=
  ⟨Nat.mul_pos h0 h0', Nat.le_trans (Nat.mul_le_mul h h') (by decide)⟩
end Kp

namespace Kp
open Dl
/-! means of products -/
theorem mn_shift : ∀ (l : List Rat) (n : Nat), mnF n l = ((n : Int) : Rat) * sumR l + mnF 0 l
  | [], n => by show (0 : Rat) = ((n : Int) : Rat) * 0 + 0; grind
  | c :: l, n => by
    show c * ((n : Int) : Rat) + mnF (n + 1) l = ((n : Int) : Rat) * (c + sumR l) + (c * ((0 : Int) : Rat) + mnF (0 + 1) l)
    rw [mn_shift l (n + 1), mn_shift l (0 + 1)]
    have e : (((n + 1 : Nat) : Int) : Rat) = ((n : Int) : Rat) + 1 := by
      rw [show ((n + 1 : Nat) : Int) = (n : Int) + 1 by omega, Rat.intCast_add]
      rfl
    have e1 : (((0 + 1 : Nat) : Int) : Rat) = 1 := rfl
    have e0 : ((0 : Int) : Rat) = 0 := rfl
    rw [e, e1, e0]
    grind
theorem mn_set : ∀ (f : List Rat) (i n : Nat) (y : Rat), i < f.length → mnF n (f.set i y) = mnF n f + (y - f.getD i 0) * (((n + i : Nat) : Int) : Rat)
  | [], i, n, y, h => by simp at h
  | c :: f, 0, n, y, _ => by
    show y * ((n : Int) : Rat) + mnF (n + 1) f = c * ((n : Int) : Rat) + mnF (n + 1) f + (y - c) * ((n : Int) : Rat)
    grind
  | c :: f, i + 1, n, y, h => by
    show c * ((n : Int) : Rat) + mnF (n + 1) (f.set i y) = c * ((n : Int) : Rat) + mnF (n + 1) f + (y - f.getD i 0) * (((n + (i + 1) : Nat) : Int) : Rat)
    rw [mn_set f i (n + 1) y (by simpa using h), show n + 1 + i = n + (i + 1) by omega]
    grind
theorem mn_row (near : Rat) : ∀ (b f : List Rat) (i : Nat), i + b.length ≤ f.length → mnF 0 (rowAdd f i near b) = mnF 0 f + near * mnF i b
  | [], f, i, _ => by show mnF 0 f = mnF 0 f + near * 0; grind
  | c :: b, f, i, h => by
    rw [List.length_cons] at h
    show mnF 0 (rowAdd (f.set i (f.getD i 0 + near * c)) (i + 1) near b) = mnF 0 f + near * (c * ((i : Int) : Rat) + mnF (i + 1) b)
    rw [mn_row near b _ _ (by rw [List.length_set]; omega), mn_set f i 0 _ (by omega), Nat.zero_add]
    grind
theorem mn_prF (b : List Rat) : ∀ (a f : List Rat) (i : Nat), i + a.length + b.length ≤ f.length + 1 → mnF 0 (prF f i b a) = mnF 0 f + mnF i a * sumR b + sumR a * mnF 0 b
  | [], f, i, _ => by show mnF 0 f = mnF 0 f + 0 * sumR b + 0 * mnF 0 b; grind
  | c :: a, f, i, h => by
    rw [List.length_cons] at h
    show mnF 0 (prF (rowAdd f i c b) (i + 1) b a) = mnF 0 f + (c * ((i : Int) : Rat) + mnF (i + 1) a) * sumR b + (c + sumR a) * mnF 0 b
    rw [mn_prF b a _ _ (by rw [rowAdd_len]; omega), mn_row c b f i (by omega), mn_shift b i]
    grind
theorem mn_zeros : ∀ n i : Nat, mnF i (List.replicate n 0) = 0
  | 0, _ => rfl
  | n + 1, i => by
    rw [List.replicate_succ]
    show 0 * ((i : Int) : Rat) + mnF (i + 1) (List.replicate n 0) = 0
    rw [mn_zeros n]
    grind
theorem mn_pr {a b : List Rat} (ha : 1 ≤ a.length) (hb : 1 ≤ b.length) : mnF 0 (pr a b) = mnF 0 a * sumR b + sumR a * mnF 0 b := by
  unfold pr
  rw [mn_prF b a _ 0 (by rw [List.length_replicate]; omega), mn_zeros]
  grind
end Kp

namespace Kp
open Dl
/-! the mean and the sum of a put -/
theorem sm_add (c : Rat) : ∀ (f P : List Rat), f.length = P.length → sumR ((f.zip P).map fun p : Rat × Rat => p.1 + c * p.2) = sumR f + c * sumR P
  | [], [], _ => by show (0 : Rat) = 0 + c * 0; grind
  | y :: f, z :: P, h => by
    show y + c * z + sumR ((f.zip P).map fun p : Rat × Rat => p.1 + c * p.2) = y + sumR f + c * (z + sumR P)
    rw [sm_add c f P (by simpa using h)]
    grind
  | [], _ :: _, h => by simp at h
  | _ :: _, [], h => by simp at h
theorem mn_add (c : Rat) : ∀ (f P : List Rat) (n : Nat), f.length = P.length → mnF n ((f.zip P).map fun p : Rat × Rat => p.1 + c * p.2) = mnF n f + c * mnF n P
  | [], [], n, _ => by show (0 : Rat) = 0 + c * 0; grind
  | y :: f, z :: P, n, h => by
    show (y + c * z) * ((n : Int) : Rat) + mnF (n + 1) ((f.zip P).map fun p : Rat × Rat => p.1 + c * p.2) = y * ((n : Int) : Rat) + mnF (n + 1) f + c * (z * ((n : Int) : Rat) + mnF (n + 1) P)
    rw [mn_add c f P (n + 1) (by simpa using h)]
    grind
  | [], _ :: _, _, h => by simp at h
  | _ :: _, [], _, h => by simp at h
theorem mn_pad (k : Nat) : ∀ (f : List Rat) (n : Nat), mnF n (f ++ List.replicate k 0) = mnF n f
  | [], n => mn_zeros k n
  | c :: f, n => by
    show c * ((n : Int) : Rat) + mnF (n + 1) (f ++ List.replicate k 0) = c * ((n : Int) : Rat) + mnF (n + 1) f
    rw [mn_pad k f (n + 1)]
theorem sm_addC (c : Rat) {f P : List Rat} (h : f.length ≤ P.length) : sumR (addC c f P) = sumR f + c * sumR P := by
  unfold addC
  rw [sm_add c _ P (by rw [List.length_append, List.length_replicate]; omega), sumR_append, sum_zeros]
  grind
theorem mn_addC (c : Rat) {f P : List Rat} (h : f.length ≤ P.length) : mnF 0 (addC c f P) = mnF 0 f + c * mnF 0 P := by
  unfold addC
  rw [mn_add c _ P 0 (by rw [List.length_append, List.length_replicate]; omega), mn_pad]
theorem sm_cmp {b : List Rat} (hb : 1 ≤ b.length) (hs : sumR b = 1) : ∀ (cs f P : List Rat), f.length ≤ P.length → 1 ≤ P.length → sumR P = 1 → sumR (cmpF f P b cs) = sumR f + sumR cs
  | [], f, P, _, _, _ => by show sumR f = sumR f + 0; grind
  | c :: cs, f, P, h, hP, h1 => by
    show sumR (cmpF (addC c f P) (pr P b) b cs) = sumR f + (c + sumR cs)
    rw [sm_cmp hb hs cs _ _ (by rw [addC_len h, pr_len]; omega) (by rw [pr_len]; omega) (by rw [sum_pr hP hb, h1, hs]; grind), sm_addC c h, h1]
    grind
theorem mn_cmp {b : List Rat} (hb : 1 ≤ b.length) (hs : sumR b = 1) : ∀ (cs f P : List Rat) (i : Nat), f.length ≤ P.length → 1 ≤ P.length → sumR P = 1 → mnF 0 P = ((i : Int) : Rat) * mnF 0 b → mnF 0 (cmpF f P b cs) = mnF 0 f + mnF i cs * mnF 0 b
  | [], f, P, i, _, _, _, _ => by show mnF 0 f = mnF 0 f + 0 * mnF 0 b; grind
  | c :: cs, f, P, i, h, hP, h1, hm => by
    have e : (((i + 1 : Nat) : Int) : Rat) = ((i : Int) : Rat) + 1 := by
      rw [show ((i + 1 : Nat) : Int) = (i : Int) + 1 by omega, Rat.intCast_add]
      rfl
    show mnF 0 (cmpF (addC c f P) (pr P b) b cs) = mnF 0 f + (c * ((i : Int) : Rat) + mnF (i + 1) cs) * mnF 0 b
    rw [mn_cmp hb hs cs _ _ (i + 1) (by rw [addC_len h, pr_len]; omega) (by rw [pr_len]; omega) (by rw [sum_pr hP hb, h1, hs]; grind) (by rw [mn_pr hP hb, h1, hs, hm, e]; grind), mn_addC c h, hm]
    grind
end Kp

namespace Kp
open Dl
theorem mn_told (l : List Rat) : mnF 0 (told l) = mnF 0 l := by
  obtain ⟨n, e, _⟩ := told_parts l
  have := mn_pad n (told l) 0
  rw [← e] at this
  exact this.symm
theorem sm_put {s k : Nat} {cs late : List Rat} (hb : Ch s k (told late)) (hc : sumR cs = 1) : sumR (put cs late) = 1 := by
  unfold put
  rw [told_sum, sm_cmp hb.l1 hb.sm (told cs) [0] [1] (Nat.le_refl _) (Nat.le_refl _) (by show (1 : Rat) + 0 = 1; grind), told_sum, hc]
  show (0 : Rat) + 0 + 1 = 1
  grind
theorem mn_put {s k : Nat} {cs late : List Rat} (hb : Ch s k (told late)) : mnF 0 (put cs late) = mnF 0 cs * mnF 0 late := by
  unfold put
  rw [mn_told, mn_cmp hb.l1 hb.sm (told cs) [0] [1] 0 (Nat.le_refl _) (Nat.le_refl _) (by show (1 : Rat) + 0 = 1; grind) (by show (1 : Rat) * ((0 : Int) : Rat) + 0 = ((0 : Int) : Rat) * _; have e0 : ((0 : Int) : Rat) = 0 := rfl; rw [e0]; grind), mn_told, mn_told]
  show (0 : Rat) * ((0 : Int) : Rat) + 0 + _ = _
  grind
end Kp

namespace Kp
open Dl
/-! second moments -/
theorem cast1 (n : Nat) : (((n + 1 : Nat) : Int) : Rat) = ((n : Int) : Rat) + 1 := by
  rw [show ((n + 1 : Nat) : Int) = (n : Int) + 1 by omega, Rat.intCast_add]
  rfl
theorem sq_shift : ∀ (l : List Rat) (n : Nat), sqF n l = ((n : Int) : Rat) * ((n : Int) : Rat) * sumR l + 2 * ((n : Int) : Rat) * mnF 0 l + sqF 0 l
  | [], n => by show (0 : Rat) = ((n : Int) : Rat) * ((n : Int) : Rat) * 0 + 2 * ((n : Int) : Rat) * 0 + 0; grind
  | c :: l, n => by
    show c * (((n : Int) * (n : Int) : Int) : Rat) + sqF (n + 1) l = ((n : Int) : Rat) * ((n : Int) : Rat) * (c + sumR l) + 2 * ((n : Int) : Rat) * (c * ((0 : Int) : Rat) + mnF (0 + 1) l) + (c * (((0 : Int) * (0 : Int) : Int) : Rat) + sqF (0 + 1) l)
    rw [sq_shift l (n + 1), sq_shift l (0 + 1), mn_shift l (0 + 1), cast1, Rat.intCast_mul]
    have e1 : (((0 + 1 : Nat) : Int) : Rat) = 1 := rfl
    have e0 : ((0 : Int) : Rat) = 0 := rfl
    have e2 : (((0 : Int) * (0 : Int) : Int) : Rat) = 0 := rfl
    rw [e1, e0, e2]
    grind
end Kp

namespace Kp
open Dl
theorem sq_set : ∀ (f : List Rat) (i n : Nat) (y : Rat), i < f.length → sqF n (f.set i y) = sqF n f + (y - f.getD i 0) * (((n + i : Nat) : Int) : Rat) * (((n + i : Nat) : Int) : Rat)
  | [], i, n, y, h => by simp at h
  | c :: f, 0, n, y, _ => by
    show y * (((n : Int) * (n : Int) : Int) : Rat) + sqF (n + 1) f = c * (((n : Int) * (n : Int) : Int) : Rat) + sqF (n + 1) f + (y - c) * ((n : Int) : Rat) * ((n : Int) : Rat)
    rw [Rat.intCast_mul]
    grind
  | c :: f, i + 1, n, y, h => by
    show c * (((n : Int) * (n : Int) : Int) : Rat) + sqF (n + 1) (f.set i y) = c * (((n : Int) * (n : Int) : Int) : Rat) + sqF (n + 1) f + (y - f.getD i 0) * (((n + (i + 1) : Nat) : Int) : Rat) * (((n + (i + 1) : Nat) : Int) : Rat)
    rw [sq_set f i (n + 1) y (by simpa using h), show n + 1 + i = n + (i + 1) by omega]
    grind
theorem sq_row (near : Rat) : ∀ (b f : List Rat) (i : Nat), i + b.length ≤ f.length → sqF 0 (rowAdd f i near b) = sqF 0 f + near * sqF i b
  | [], f, i, _ => by show sqF 0 f = sqF 0 f + near * 0; grind
  | c :: b, f, i, h => by
    rw [List.length_cons] at h
    show sqF 0 (rowAdd (f.set i (f.getD i 0 + near * c)) (i + 1) near b) = sqF 0 f + near * (c * (((i : Int) * (i : Int) : Int) : Rat) + sqF (i + 1) b)
    rw [sq_row near b _ _ (by rw [List.length_set]; omega), sq_set f i 0 _ (by omega), Nat.zero_add, Rat.intCast_mul]
    grind
theorem sq_prF (b : List Rat) : ∀ (a f : List Rat) (i : Nat), i + a.length + b.length ≤ f.length + 1 → sqF 0 (prF f i b a) = sqF 0 f + sqF i a * sumR b + 2 * mnF i a * mnF 0 b + sumR a * sqF 0 b
  | [], f, i, _ => by show sqF 0 f = sqF 0 f + 0 * sumR b + 2 * 0 * mnF 0 b + 0 * sqF 0 b; grind
  | c :: a, f, i, h => by
    rw [List.length_cons] at h
    show sqF 0 (prF (rowAdd f i c b) (i + 1) b a) = sqF 0 f + (c * (((i : Int) * (i : Int) : Int) : Rat) + sqF (i + 1) a) * sumR b + 2 * (c * ((i : Int) : Rat) + mnF (i + 1) a) * mnF 0 b + (c + sumR a) * sqF 0 b
    rw [sq_prF b a _ _ (by rw [rowAdd_len]; omega), sq_row c b f i (by omega), sq_shift b i, Rat.intCast_mul]
    grind
end Kp

namespace Kp
open Dl
/-! second moments of products and puts; spreads of puts -/
theorem sq_zeros : ∀ n i : Nat, sqF i (List.replicate n 0) = 0
  | 0, _ => rfl
  | n + 1, i => by
    rw [List.replicate_succ]
    show 0 * (((i : Int) * (i : Int) : Int) : Rat) + sqF (i + 1) (List.replicate n 0) = 0
    rw [sq_zeros n]
    grind
theorem sq_pr {a b : List Rat} (ha : 1 ≤ a.length) (hb : 1 ≤ b.length) : sqF 0 (pr a b) = sqF 0 a * sumR b + 2 * mnF 0 a * mnF 0 b + sumR a * sqF 0 b := by
  unfold pr
  rw [sq_prF b a _ 0 (by rw [List.length_replicate]; omega), sq_zeros]
  grind
theorem sq_add (c : Rat) : ∀ (f P : List Rat) (n : Nat), f.length = P.length → sqF n ((f.zip P).map fun p : Rat × Rat => p.1 + c * p.2) = sqF n f + c * sqF n P
  | [], [], n, _ => by show (0 : Rat) = 0 + c * 0; grind
  | y :: f, z :: P, n, h => by
    show (y + c * z) * (((n : Int) * (n : Int) : Int) : Rat) + sqF (n + 1) ((f.zip P).map fun p : Rat × Rat => p.1 + c * p.2) = y * (((n : Int) * (n : Int) : Int) : Rat) + sqF (n + 1) f + c * (z * (((n : Int) * (n : Int) : Int) : Rat) + sqF (n + 1) P)
    rw [sq_add c f P (n + 1) (by simpa using h)]
    grind
  | [], _ :: _, _, h => by simp at h
  | _ :: _, [], _, h => by simp at h
theorem sq_pad (k : Nat) : ∀ (f : List Rat) (n : Nat), sqF n (f ++ List.replicate k 0) = sqF n f
  | [], n => sq_zeros k n
  | c :: f, n => by
    show c * (((n : Int) * (n : Int) : Int) : Rat) + sqF (n + 1) (f ++ List.replicate k 0) = c * (((n : Int) * (n : Int) : Int) : Rat) + sqF (n + 1) f
    rw [sq_pad k f (n + 1)]
theorem sq_addC (c : Rat) {f P : List Rat} (h : f.length ≤ P.length) : sqF 0 (addC c f P) = sqF 0 f + c * sqF 0 P := by
  unfold addC
  rw [sq_add c _ P 0 (by rw [List.length_append, List.length_replicate]; omega), sq_pad]
theorem sq_cmp {b : List Rat} (hb : 1 ≤ b.length) (hs : sumR b = 1) : ∀ (cs f P : List Rat) (i : Nat), f.length ≤ P.length → 1 ≤ P.length → sumR P = 1 → mnF 0 P = ((i : Int) : Rat) * mnF 0 b → sqF 0 P = ((i : Int) : Rat) * (sqF 0 b - mnF 0 b * mnF 0 b) + ((i : Int) : Rat) * ((i : Int) : Rat) * (mnF 0 b * mnF 0 b) → sqF 0 (cmpF f P b cs) = sqF 0 f + mnF i cs * (sqF 0 b - mnF 0 b * mnF 0 b) + sqF i cs * (mnF 0 b * mnF 0 b)
  | [], f, P, i, _, _, _, _, _ => by show sqF 0 f = sqF 0 f + 0 * (sqF 0 b - mnF 0 b * mnF 0 b) + 0 * (mnF 0 b * mnF 0 b); grind
  | c :: cs, f, P, i, h, hP, h1, hm, hq => by
    have e := cast1 i
    show sqF 0 (cmpF (addC c f P) (pr P b) b cs) = sqF 0 f + (c * ((i : Int) : Rat) + mnF (i + 1) cs) * (sqF 0 b - mnF 0 b * mnF 0 b) + (c * (((i : Int) * (i : Int) : Int) : Rat) + sqF (i + 1) cs) * (mnF 0 b * mnF 0 b)
    rw [sq_cmp hb hs cs _ _ (i + 1) (by rw [addC_len h, pr_len]; omega) (by rw [pr_len]; omega) (by rw [sum_pr hP hb, h1, hs]; grind) (by rw [mn_pr hP hb, h1, hs, hm, e]; grind) (by rw [sq_pr hP hb, h1, hs, hm, hq, e]; grind), sq_addC c h, hq, Rat.intCast_mul]
    grind
theorem sq_told (l : List Rat) : sqF 0 (told l) = sqF 0 l := by
  obtain ⟨n, e, _⟩ := told_parts l
  have := sq_pad n (told l) 0
  rw [← e] at this
  exact this.symm
theorem sp_put {s k : Nat} {cs late : List Rat} (hb : Ch s k (told late)) : sp (put cs late) = sp late * mn cs + mn late * mn late * sp cs := by
  have hm : mn (put cs late) = mn cs * mn late := mn_put hb
  unfold sp
  show sqF 0 (put cs late) - mn (put cs late) * mn (put cs late) = _
  rw [hm]
  have e0 : ((0 : Int) : Rat) = 0 := rfl
  have e : sqF 0 (put cs late) = mn cs * (sqF 0 late - mn late * mn late) + sqF 0 cs * (mn late * mn late) := by
    unfold put
    rw [sq_told, sq_cmp hb.l1 hb.sm (told cs) [0] [1] 0 (Nat.le_refl _) (Nat.le_refl _) (by show (1 : Rat) + 0 = 1; grind) (by show (1 : Rat) * ((0 : Int) : Rat) + 0 = ((0 : Int) : Rat) * _; rw [e0]; grind) (by show (1 : Rat) * (((0 : Int) * (0 : Int) : Int) : Rat) + 0 = ((0 : Int) : Rat) * _ + ((0 : Int) : Rat) * ((0 : Int) : Rat) * _; rw [show (((0 : Int) * (0 : Int) : Int) : Rat) = 0 from rfl, e0]; grind), sq_told, mn_told, mn_told, sq_told]
    show (0 : Rat) * (((0 : Int) * (0 : Int) : Int) : Rat) + 0 + _ + _ = _
    grind
  rw [e]
  show _ = (sqF 0 late - mn late * mn late) * mn cs + mn late * mn late * (sqF 0 cs - mn cs * mn cs)
  grind
theorem told_told (l : List Rat) : told (told l) = told l := by
  obtain ⟨n, e, h⟩ := told_parts l
  obtain ⟨n', e', h'⟩ := told_parts (told l)
  rcases h with h | ⟨i, x, h, hx⟩
  · rw [h]; rfl
  · cases n' with
    | zero => rw [List.replicate_zero, List.append_nil] at e'; exact e'.symm
    | succ n' =>
      rw [List.replicate_succ', ← List.append_assoc, h] at e'
      have := List.append_inj_right' e' rfl
      simp at this
      exact absurd this hx
theorem put_told (cs late : List Rat) : told (put cs late) = put cs late := told_told _
/-- chances of a put -/
theorem nn_addC {c : Rat} (hc : 0 ≤ c) {f P : List Rat} (hf : Nn f) (hP : Nn P) : Nn (addC c f P) := fun x hx => by
  obtain ⟨p, hp, rfl⟩ := List.mem_map.mp hx
  obtain ⟨q1, q2⟩ := List.of_mem_zip hp
  have h1 : 0 ≤ p.1 := by
    rcases List.mem_append.mp q1 with q1 | q1
    · exact hf _ q1
    · rw [(List.mem_replicate.mp q1).2]; exact Rat.le_refl
  have := Rat.mul_nonneg hc (hP _ q2)
  grind
theorem nn_cmp {b : List Rat} (hb : Nn b) : ∀ (cs f P : List Rat), Nn cs → Nn f → Nn P → Nn (cmpF f P b cs)
  | [], _, _, _, hf, _ => hf
  | c :: cs, f, P, hc, hf, hP => nn_cmp hb cs _ _ (fun y hy => hc y (List.mem_cons_of_mem _ hy)) (nn_addC (hc c List.mem_cons_self) hf hP) (nn_pr hP hb)
theorem nn_told {l : List Rat} (h : Nn l) : Nn (told l) := fun x hx => by
  obtain ⟨n, e, _⟩ := told_parts l
  exact h x (by rw [e]; exact List.mem_append_left _ hx)
theorem Ch.told {s k : Nat} {l : List Rat} (h : Ch s k l) : Ch s k (Dl.told l) := by
  have sm : sumR (Dl.told l) = 1 := by rw [told_sum, h.sm]
  refine ⟨told_sub h.sz, nn_told h.nn, sm, ?_⟩
  cases e : Dl.told l with
  | nil =>
    rw [e] at sm
    exact absurd sm (by decide)
  | cons x l => rw [List.length_cons]; omega
theorem ch_put {s kc kb : Nat} {cs late : List Rat} (hs : 0 < s) (hs4 : s ≤ 256) (hl : late.length ≤ 5) (hb : Ch s kb (told late)) (hc : Ch s kc (told cs)) (hcl : cs.length ≤ 17) (hk : kc + kb * (told cs).length ≤ 200) (hkb : kb ≤ 10) : Ch s (kc + kb * (told cs).length) (put cs late) := by
  have ht := told_len cs
  obtain ⟨_, _, _, _, _, _, _, h1, h2⟩ := put_loop (K := kc + kb * (told cs).length) hs hs4 .no (V1 := Fl late) (.inl rfl) hl hb (by omega) (told cs) [0] [1] 0 .no .no .no .no .no hc.sz (fun x hx => by rw [List.mem_singleton.mp hx]; exact Sz.zero hs _) (ch_one hs) (Nat.le_refl _) (by decide) (by omega) (by rw [Nat.zero_add]; exact Nat.le_refl _)
  have nn : Nn (cmpF [0] [1] (told late) (told cs)) := nn_cmp hb.nn _ _ _ hc.nn (fun x hx => by rw [List.mem_singleton.mp hx]; exact Rat.le_refl) (fun x hx => by rw [List.mem_singleton.mp hx]; decide)
  have hsm : sumR cs = 1 := by rw [← told_sum, hc.sm]
  have sm : sumR (put cs late) = 1 := sm_put hb hsm
  have sm' : sumR (cmpF [0] [1] (told late) (told cs)) = 1 := by
    unfold put at sm
    rw [told_sum] at sm
    exact sm
  have hz := unit_all hs h1 nn sm'
  have l1 : 1 ≤ (cmpF [0] [1] (told late) (told cs)).length := by
    cases e : cmpF [0] [1] (told late) (told cs) with
    | nil => rw [e] at sm'; exact absurd sm' (by decide)
    | cons x l => rw [List.length_cons]; omega
  exact Ch.told ⟨hz, nn, sm', l1⟩
theorem put_len {s kb : Nat} {cs late : List Rat} (hb : Ch s kb (told late)) (h1 : 1 ≤ (told cs).length) : (put cs late).length ≤ ((told cs).length - 1) * ((told late).length - 1) + 1 := by
  unfold put
  refine Nat.le_trans (told_len _) ?_
  obtain ⟨c, r, e⟩ : ∃ c r, told cs = c :: r := by
    cases h : told cs with
    | nil => rw [h] at h1; simp at h1
    | cons c r => exact ⟨c, r, rfl⟩
  rw [e, cmp_len _ hb.l1 r c [0] [1] (Nat.le_refl _) (Nat.le_refl _)]
  show 0 + 1 + r.length * ((told late).length - 1) ≤ (r.length + 1 - 1) * ((told late).length - 1) + 1
  rw [Nat.add_sub_cancel]
  omega
end Kp

namespace Kp
open PySem PySem.Spec PyProof.Rows L2 Dl
def pq4 : DS := (sApp 4 (dC .none))
def pq6 : DS := (sAsg (dTup (aCons (dC (.int 1)) (aCons (dC (.int 3)) aNil))) (gN 6))
def pq7 : DS := (sIf (dB (dOp gNe (dCallN 2 m__law_number (aCons (dVar 5) (aCons (dVar 6) aNil))) (dCallN 2 m_number_at (aCons (dVar 0) (aCons (dCallN 2 m_number_at (aCons (dVar 1) (aCons (dVar 6) aNil))) aNil))))) (sRet (dC (.bool false))) sNil)
def pq8 : DS := (sRet (dAndV (dOp gEq (dCallN 1 m__law_mean (aCons (dVar 5) aNil)) (dCallN 2 m__law_times (aCons (dCallN 1 m__law_mean (aCons (dVar 0) aNil)) (aCons (dCallN 1 m__law_mean (aCons (dVar 1) aNil)) aNil)))) (dOp gEq (dCB gRepr (aCons (dLst (aCons (dVar 0) (aCons (dVar 1) aNil))) aNil)) (dVar 2))))
def pqt7 : DS := sSeq pq7 pq8
def pqt6 : DS := sSeq pq6 pqt7
theorem Ch.up {s k k' : Nat} {l : List Rat} (hs : 0 < s) (h : Ch s k l) (hk : k ≤ k') : Ch s k' l := ⟨fun x hx => (h.sz x hx).up hs hk (Nat.le_refl _), h.nn, h.sm, h.l1⟩
theorem COk.ch0 {s : Nat} {cs : List Rat} (h : COk s cs) : Ch s 1 cs := ⟨h.sz, h.nn, h.sm, h.l1⟩
theorem Ch.bd {s k : Nat} {l : List Rat} (h : Ch s k l) (hs : 0 < s) (hs4 : s ≤ 256) : ∀ x ∈ l, Bd (8 * k + 1) x := fun x hx => (h.sz x hx).bd hs hs4 (a := 1) (by decide)
theorem rep_two {a b : List Rat} (ha : a.length ≤ 100) (hb : b.length ≤ 100) (h1 : ∀ x ∈ a, Bd 1919 x) (h2 : ∀ x ∈ b, Bd 1919 x) : reprOk (.list [Fl a, Fl b]) = true := by
  have o1 := oksR_frs h1 37
  have o2 := oksR_frs h2 37
  refine reprOk_of (by simp only [okR, oksR, o1, o2]) ?_
  show (capsR (a.map fr) + 4) + 2 + ((capsR (b.map fr) + 4) + 2 + 0) + 4 ≤ _
  rw [capsR_frs, capsR_frs]; omega
theorem fr_third : fr (1/3) = .tuple [.int 1, .int 3] := by
  unfold fr
  rw [show (1/3 : Rat).num = 1 by decide +kernel, show (1/3 : Rat).den = 3 by decide +kernel]
  rfl
theorem ev_litt {env : Sls} : Ev (dTup (aCons (dC (.int 1)) (aCons (dC (.int 3)) aNil)) env) (fr (1/3)) := fun k => by rw [fr_third]; rfl
theorem bd_third : Bd 2 (1/3) := ⟨by decide +kernel, by decide +kernel⟩
theorem nb_unit {x : Rat} (x0 : 0 ≤ x) (x1 : x ≤ 1) : ∀ {l : List Rat}, Nn l → 0 ≤ nb x l ∧ nb x l ≤ sumR l
  | [], _ => ⟨Rat.le_refl, Rat.le_refl⟩
  | c :: l, h => by
    obtain ⟨a, b⟩ := nb_unit x0 x1 (l := l) fun y hy => h y (List.mem_cons_of_mem _ hy)
    have hc := h c List.mem_cons_self
    have m0 := Rat.mul_nonneg x0 a
    have m1 : x * nb x l ≤ 1 * nb x l := Rat.mul_le_mul_of_nonneg_right x1 a
    show 0 ≤ c + x * nb x l ∧ c + x * nb x l ≤ c + sumR l
    constructor <;> grind
theorem small_bd {s m : Nat} {x : Rat} (hs : 0 < s) (h15 : s ≤ 15) (h : Sz s 1 1 x) : Bd 4 x := by
  obtain ⟨z, rfl, hz⟩ := h
  rw [Nat.pow_one] at hz ⊢
  have e : (z : Rat) / ((s : Nat) : Rat) = mkRat z s := by rw [Rat.mkRat_eq_div]
  rw [e]
  exact bd_mk (by omega) (by have : (2 : Nat) ^ 4 = 16 := (by decide); omega) (by have : (2 : Nat) ^ 4 = 16 := (by decide); omega)
section
variable {s s' : Nat} {cs late : List Rat}
end
end Kp

namespace Kp
open PySem PySem.Spec PyProof.Rows L2 Dl
def sc0 : DS := (sExpr (dCallN 1 m_check_children (aCons (dVar 0) aNil)))
def sc1 : DS := (sExpr (dCallN 3 m_check_number (aCons (dVar 1) (aCons (dC (.int 0)) (aCons (dC c_MOST_SIZED) aNil)))))
def sc2 : DS := (sOwn 2 (fLst (aCons (dC c_NOUGHT) (aCons (dC c_ONE) aNil))))
def sc3_0 : DS := (sExpr (dBor [2] (dCallN 2 m_want_sizes (aCons (dVar 2) (aCons (dVar 0) aNil)))))
def sc3_1 : DS := (sOwn 2 (fBor [2] (fCallN 2 m_put_of (aCons (dVar 2) (aCons (dVar 0) aNil)))))
def sc3_t0 : DS := sSeq sc3_0 sc3_1
def sc3 : DS := sFor (iRange1 (dVar 1)) (gN 3) sc3_t0
def sc4 : DS := (sRetO 2)
def sct3 : DS := sSeq sc3 sc4
def sct2 : DS := sSeq sc2 sct3
def sct1 : DS := sSeq sc1 sct2
def sct0 : DS := sSeq sc0 sct1
theorem sceq : b_size_chances = sct0 := rfl
def zq0 : DS := (sAsg (dLst (aCons (dTup (aCons (dC (.int 0)) (aCons (dC (.int 1)) aNil))) (aCons (dTup (aCons (dC (.int 1)) (aCons (dC (.int 1)) aNil))) aNil))) (gN 1))
def zq1_1 : DS := (sOwn 3 (fCallN 2 m_size_chances (aCons (dVar 0) (aCons (dVar 2) aNil))))
def zq1_2 : DS := (sIf (dBorT [3] (dB (dRepr2 false (dLst (aCons (dVar 3) (aCons (dCallK 2 2 [1, 0] m_size_chances (aCons (dVar 2) (aCons (dCB gTuple (aCons (dVar 0) aNil)) aNil))) aNil))) (dLst (aCons (dVar 1) (aCons (dVar 1) aNil)))))) (sRet (dC (.bool false))) sNil)
def zq1_3 : DS := (sApp 3 (dC .none))
def zq1_5 : DS := (sIf (dAnd (dB (dOp gLt (dVar 2) (dC (.int 2)))) (dB (dOp gIsNot (dCallN 1 m_are_children (aCons (dVar 1) aNil)) (dC (.bool true))))) (sRet (dC (.bool false))) sNil)
def zq2 : DS := (sRet (dC (.bool true)))
def Dz (cs : List Rat) : Nat → List Rat
  | 0 => [0, 1]
  | n + 1 => put (Dz cs n) cs
section
variable {s : Nat} {cs : List Rat} {V : PyData}
theorem dz_told : ∀ n, told (Dz cs n) = Dz cs n
  | 0 => by
    show told [0, 1] = [0, 1]
    decide +kernel
  | n + 1 => put_told _ _
theorem dz_ch0 (hs : 0 < s) : Ch s 0 (Dz cs 0) := by
  refine ⟨fun x hx => ?_, fun x hx => ?_, show sumR [0, 1] = 1 by decide +kernel, show 1 ≤ ([0, 1] : List Rat).length by decide⟩
  · rcases List.mem_cons.mp (show x ∈ [0, 1] from hx) with rfl | hx
    · exact (Sz.zero hs 0).up hs (Nat.le_refl _) (by decide)
    · rw [List.mem_singleton.mp hx]; exact Sz.one hs 0
  · rcases List.mem_cons.mp (show x ∈ [0, 1] from hx) with rfl | hx
    · exact Rat.le_refl
    · rw [List.mem_singleton.mp hx]; decide
theorem dz_step (h : COk s cs) {n k l : Nat} (hd : Ch s k (Dz cs n)) (hl : (Dz cs n).length ≤ l) (h2 : l ≤ 17) (hk : k + l ≤ 200) : Ch s (k + l) (Dz cs (n + 1)) ∧ (Dz cs (n + 1)).length ≤ (l - 1) * 4 + 1 := by
  have e : told (Dz cs n) = Dz cs n := dz_told n
  have hd' : Ch s k (told (Dz cs n)) := by rw [e]; exact hd
  have t2 := told_len cs
  have h5 := h.l5
  constructor
  · exact (ch_put h.s0 h.s16 h.l5 h.ch hd' (by omega) (by rw [e]; omega) (by decide)).up h.s0 (by rw [e]; omega)
  · refine Nat.le_trans (put_len h.ch hd'.l1) ?_
    rw [e]
    have : ((Dz cs n).length - 1) * ((told cs).length - 1) ≤ (l - 1) * 4 := Nat.mul_le_mul (by omega) (by omega)
    omega
structure DzOk (s : Nat) (cs : List Rat) (n : Nat) : Prop where
  ch : Ch s 24 (Dz cs n)
  l65 : (Dz cs n).length ≤ 65
  l17 : n ≤ 2 → (Dz cs n).length ≤ 17
  l5 : n ≤ 1 → (Dz cs n).length ≤ 5
theorem dz_ok (h : COk s cs) : ∀ n, n ≤ 3 → DzOk s cs n := by
  have c0 := dz_ch0 (cs := cs) h.s0
  have l0 : (Dz cs 0).length ≤ 2 := Nat.le_refl 2
  obtain ⟨c1, l1⟩ := dz_step h c0 l0 (by decide) (by decide)
  obtain ⟨c2, l2⟩ := dz_step h c1 l1 (by decide) (by decide)
  obtain ⟨c3, l3⟩ := dz_step h c2 l2 (by decide) (by decide)
  intro n hn
  match n, hn with
  | 0, _ => exact ⟨c0.up h.s0 (by decide), by omega, fun _ => by omega, fun _ => by omega⟩
  | 1, _ => exact ⟨c1.up h.s0 (by decide), Nat.le_trans l1 (by decide), fun _ => Nat.le_trans l1 (by decide), fun _ => l1⟩
  | 2, _ => exact ⟨c2.up h.s0 (by decide), Nat.le_trans l2 (by decide), fun _ => l2, fun z => by omega⟩
  | 3, _ => exact ⟨c3.up h.s0 (by decide), l3, fun z => by omega, fun z => by omega⟩
theorem dz_mn (h : COk s cs) : ∀ n, mn (Dz cs n) = pw (mn cs) n
  | 0 => by
    show mnF 0 [0, 1] = 1
    decide +kernel
  | n + 1 => by
    show mn (put (Dz cs n) cs) = pw (mn cs) n * mn cs
    rw [← dz_mn h n]
    exact mn_put h.ch
theorem dz_sp (h : COk s cs) : ∀ n, sp (Dz cs n) = spz (mn cs) (sp cs) n
  | 0 => by
    show sqF 0 [0, 1] - mnF 0 [0, 1] * mnF 0 [0, 1] = 0
    decide +kernel
  | n + 1 => by
    show sp (put (Dz cs n) cs) = spz (mn cs) (sp cs) n * (mn cs * mn cs) + sp cs * pw (mn cs) n
    rw [sp_put h.ch, dz_mn h n, dz_sp h n]
    grind
theorem s_put_dz (h : COk s cs) (hV : V = Fl cs ∨ V = Ft cs) {n : Nat} (hn : n ≤ 2) : Ev (m_put_of [Fl (Dz cs n), V]) (Fl (Dz cs (n + 1))) := by
  have d := dz_ok h n (by omega)
  exact s_put (kc := 24) (kb := 1) h.s0 h.s16 (.inl rfl) hV h.l5 h.ch d.ch.sz (d.l17 hn) (by decide) (by decide)
theorem s_size (hV : V = Fl cs ∨ V = Ft cs) (h : COk s cs) {n : Nat} (hn : n ≤ 3) : Ev (m_size_chances [V, .int (n : Int)]) (Fl (Dz cs n)) := by
  have l0 : startE 4 [V, .int (n : Int)] = [.fz V, .fz (.int (n : Int)), .no, .no] := by rcases hV with rfl | rfl <;> rfl
  obtain ⟨e, ⟨j, rfl⟩, he⟩ := for_inv (g := gN 3) (body := sc3_t0) (f := fun i : Nat => .int (i : Int)) (xs := List.range n)
    (fun pre _ e => ∃ j, e = [.fz V, .fz (.int (n : Int)), .ow ((Dz cs pre.length).map fr), j]) (by
    rintro pre i rest e hq ⟨j, rfl⟩
    have hl : pre.length < n := by have := congrArg List.length hq; simp at this; omega
    have d := dz_ok h pre.length (by omega)
    have hw := s_want (x := Fl (Dz cs pre.length)) (y := V) (.inl rfl) hV (by rw [dz_told]; exact d.ch.l1) h.ch.l1 (d.l17 (by omega)) h.l5
    refine ⟨_, _, evg_n, ex_seq (ex_expr (d := .none) (ev_bor (env' := [.fz V, .fz (.int (n : Int)), .fz (Fl (Dz cs pre.length)), .fz (.int (i : Int))]) rfl (ev_call (eva_cons (ev_var rfl) (eva_cons (ev_var rfl) eva_nil)) hw rfl) rfl)) (ex_own (ds := (Dz cs (pre.length + 1)).map fr) (evf_bor (env' := [.fz V, .fz (.int (n : Int)), .fz (Fl (Dz cs pre.length)), .fz (.int (i : Int))]) rfl (evf_call (eva_cons (ev_var rfl) (eva_cons (ev_var rfl) eva_nil)) (s_put_dz h hV (by omega)) rfl) (noLists_frs _))), ⟨.fz (.int (i : Int)), ?_⟩⟩
    rw [List.length_append, List.length_singleton]
    rfl) (List.range n) [] [.fz V, .fz (.int (n : Int)), .ow ((Dz cs 0).map fr), .no] rfl ⟨_, rfl⟩
  rw [List.length_range] at he
  unfold m_size_chances
  rw [sceq]
  refine ev_defF ?_
  rw [l0]
  exact rt_seq (ex_expr (ev_call (eva_cons (ev_var rfl) eva_nil) (s_check hV h) rfl)) (rt_seq (ex_expr (ev_call (eva_cons (ev_var rfl) (eva_cons ev_c (eva_cons (fun _ => rfl : Ev (dC c_MOST_SIZED _) (.int 3)) eva_nil))) (s_check_number (by omega) (by omega)) rfl)) (rt_seq (ex_own (ds := (Dz cs 0).map fr) (evf_lst (eva_cons ev_nought (eva_cons ev_one eva_nil)) rfl)) (rt_seq (ex_for (evi_rangeN (n := n) (ev_var rfl) (by omega)) he) (rt_retO rfl))))
abbrev Zs (cs due : List Rat) (m : Nat) (t : Sl) : Sls := [.fz (Fl cs), .fz (Fl due), .fz (.int (m : Int)), t]
end
end Kp

namespace Kp
open Dl
/-! the number of t, less t, divided by t less 1; the least root -/
def sfxR : List Rat → List Rat
  | [] => []
  | x :: l => (x + sumR l) :: sfxR l
def Qc (cs : List Rat) : List Rat := (-(cs.getD 0 0)) :: sfxR (cs.drop 2)
theorem sfx_nb (t : Rat) : ∀ l : List Rat, (t - 1) * nb t (sfxR l) = t * nb t l - sumR l
  | [] => by show (t - 1) * 0 = t * 0 - 0; grind
  | x :: l => by
    have ih := sfx_nb t l
    show (t - 1) * (x + sumR l + t * nb t (sfxR l)) = t * (x + t * nb t l) - (x + sumR l)
    grind
theorem sfx_nn : ∀ {l : List Rat}, (∀ x ∈ l, 0 ≤ x) → (∀ x ∈ sfxR l, 0 ≤ x) ∧ 0 ≤ sumR l
  | [], _ => ⟨fun _ h => (by cases h), Rat.le_refl⟩
  | x :: l, h => by
    obtain ⟨a, b⟩ := sfx_nn (l := l) fun y hy => h y (List.mem_cons_of_mem _ hy)
    have hx := h x List.mem_cons_self
    have e : 0 ≤ x + sumR l := by grind
    refine ⟨fun y hy => ?_, e⟩
    rcases List.mem_cons.mp (show y ∈ (x + sumR l) :: sfxR l from hy) with rfl | hy
    · exact e
    · exact a y hy
theorem qc_nb {cs : List Rat} (h : sumR cs = 1) (t : Rat) : (t - 1) * nb t (Qc cs) = nb t cs - t := by
  match cs, h with
  | [], h => exact absurd h (by decide)
  | [a], h =>
    have h : a + 0 = 1 := h
    show (t - 1) * (-a + t * 0) = a + t * 0 - t
    grind
  | a :: b :: r, h =>
    have h : a + (b + sumR r) = 1 := h
    have e := sfx_nb t r
    show (t - 1) * (-a + t * nb t (sfxR r)) = a + t * (b + t * nb t r) - t
    grind
theorem nb_one : ∀ l : List Rat, nb 1 l = sumR l
  | [] => rfl
  | x :: l => by
    show x + 1 * nb 1 l = x + sumR l
    rw [nb_one l]
    grind
theorem mn_up : ∀ (l : List Rat) (n : Nat), mnF (n + 1) l = mnF n l + sumR l
  | [], n => by show (0 : Rat) = 0 + 0; grind
  | x :: l, n => by
    show x * (((n + 1 : Nat) : Int) : Rat) + mnF (n + 1 + 1) l = x * ((n : Int) : Rat) + mnF (n + 1) l + (x + sumR l)
    rw [mn_up l (n + 1), show ((n + 1 : Nat) : Int) = (n : Int) + 1 by omega, Rat.intCast_add]
    have e1 : ((1 : Int) : Rat) = 1 := rfl
    rw [e1]
    grind
theorem sum_sfx : ∀ l : List Rat, sumR (sfxR l) = mnF 1 l
  | [] => rfl
  | x :: l => by
    show x + sumR l + sumR (sfxR l) = x * (((1 : Nat) : Int) : Rat) + mnF (1 + 1) l
    rw [sum_sfx l, mn_up l 1]
    have e1 : (((1 : Nat) : Int) : Rat) = 1 := rfl
    rw [e1]
    grind
/-- at 1 it is the mean less 1 -/
theorem qc_one {cs : List Rat} (h : sumR cs = 1) : nb 1 (Qc cs) = mnF 0 cs - 1 := by
  rw [nb_one]
  match cs, h with
  | [], h => exact absurd h (by decide)
  | [a], h =>
    have h : a + 0 = 1 := h
    show -a + 0 = a * (((0 : Nat) : Int) : Rat) + 0 - 1
    have e0 : (((0 : Nat) : Int) : Rat) = 0 := rfl
    rw [e0]
    grind
  | a :: b :: r, h =>
    have h : a + (b + sumR r) = 1 := h
    show -a + sumR (sfxR r) = a * (((0 : Nat) : Int) : Rat) + (b * (((1 : Nat) : Int) : Rat) + mnF (1 + 1) r) - 1
    have e0 : (((0 : Nat) : Int) : Rat) = 0 := rfl
    have e1 : (((1 : Nat) : Int) : Rat) = 1 := rfl
    rw [e0, e1, sum_sfx, mn_up r 1]
    grind
theorem nb_mono {s t : Rat} (h0 : 0 ≤ s) (h : s ≤ t) : ∀ {l : List Rat}, (∀ x ∈ l, 0 ≤ x) → 0 ≤ nb s l ∧ nb s l ≤ nb t l
  | [], _ => ⟨Rat.le_refl, Rat.le_refl⟩
  | x :: l, hl => by
    obtain ⟨a, b⟩ := nb_mono h0 h (l := l) fun y hy => hl y (List.mem_cons_of_mem _ hy)
    have hx := hl x List.mem_cons_self
    have m0 := Rat.mul_nonneg h0 a
    have m1 : s * nb s l ≤ t * nb t l := by
      have q1 : s * nb s l ≤ s * nb t l := Rat.mul_le_mul_of_nonneg_left b h0
      have q2 : s * nb t l ≤ t * nb t l := Rat.mul_le_mul_of_nonneg_right h (Rat.le_trans a b)
      exact Rat.le_trans q1 q2
    show 0 ≤ x + s * nb s l ∧ x + s * nb s l ≤ x + t * nb t l
    constructor <;> grind
structure Root (cs : List Rat) (x : Rat) : Prop where
  x0 : 0 ≤ x
  x1 : x ≤ 1
  eq : nb x cs = x
  lo : ∀ t, 0 ≤ t → t < x → t < nb t cs
  hi : ∀ t, x ≤ t → t ≤ 1 → nb t cs ≤ t
section
variable {cs : List Rat}
/-- nonnegative chances with sum 1 -/
structure Chs (cs : List Rat) : Prop where
  nn : ∀ x ∈ cs, 0 ≤ x
  sm : sumR cs = 1
def Rr (cs : List Rat) (t : Rat) : Rat := nb t (sfxR (cs.drop 2))
theorem qc_eq (t : Rat) : nb t (Qc cs) = -(cs.getD 0 0) + t * Rr cs t := rfl
theorem rr_mono (h : Chs cs) {s t : Rat} (h0 : 0 ≤ s) (hst : s ≤ t) : 0 ≤ Rr cs s ∧ Rr cs s ≤ Rr cs t := nb_mono h0 hst (sfx_nn fun x hx => h.nn x (List.mem_of_mem_drop hx)).1
theorem below_of_neg (h : Chs cs) {t : Rat} (h1 : t < 1) (hq : nb t (Qc cs) < 0) : t < nb t cs := by
  have e := qc_nb h.sm t
  have : 0 < (1 - t) * -(nb t (Qc cs)) := Rat.mul_pos (by grind) (by grind)
  grind
theorem above_of_nn (h : Chs cs) {t : Rat} (h1 : t ≤ 1) (hq : 0 ≤ nb t (Qc cs)) : nb t cs ≤ t := by
  have e := qc_nb h.sm t
  have : 0 ≤ (1 - t) * (nb t (Qc cs)) := Rat.mul_nonneg (by grind) hq
  grind
theorem c0_nn (h : Chs cs) : 0 ≤ cs.getD 0 0 := by
  cases cs with
  | nil => exact Rat.le_refl
  | cons a l => exact h.nn a List.mem_cons_self
/-- without a chance of none the root is 0 -/
theorem root_zero (h : Chs cs) (h0 : cs.getD 0 0 = 0) : Root cs 0 := by
  refine ⟨Rat.le_refl, by decide, ?_, fun t h1 h2 => absurd h2 (by grind), fun t h1 h2 => above_of_nn h h2 ?_⟩
  · cases cs with
    | nil => rfl
    | cons a l =>
      have h0 : a = 0 := h0
      show a + 0 * nb 0 l = 0
      grind
  · rw [qc_eq, h0]
    have := Rat.mul_nonneg h1 (rr_mono h h1 (Rat.le_refl)).1
    grind
/-- from a fraction at which the quotient is 0 -/
theorem root_of (h : Chs cs) (h0 : cs.getD 0 0 ≠ 0) {x : Rat} (x0 : 0 ≤ x) (x1 : x < 1) (hq : nb x (Qc cs) = 0) : Root cs x ∧ (∀ t, 0 ≤ t → t < x → nb t (Qc cs) < 0) ∧ (∀ t, x < t → 0 < nb t (Qc cs)) := by
  have c0 := c0_nn h
  have e := qc_nb h.sm x
  rw [hq] at e
  rw [qc_eq] at hq
  obtain ⟨r0, _⟩ := rr_mono h x0 Rat.le_refl
  have hR : 0 < Rr cs x := by
    rcases Rat.le_iff_lt_or_eq.mp r0 with hl | hl
    · exact hl
    · rw [← hl] at hq; exact absurd (show cs.getD 0 0 = 0 by grind) h0
  have lt : ∀ t, 0 ≤ t → t < x → nb t (Qc cs) < 0 := fun t t0 tx => by
    rw [qc_eq]
    have m1 : t * Rr cs t ≤ t * Rr cs x := Rat.mul_le_mul_of_nonneg_left (rr_mono h t0 (Rat.le_of_lt tx)).2 t0
    have m2 : t * Rr cs x < x * Rr cs x := Rat.mul_lt_mul_of_pos_right tx hR
    grind
  have gt : ∀ t, x < t → 0 < nb t (Qc cs) := fun t tx => by
    rw [qc_eq]
    have hm := (rr_mono h x0 (Rat.le_of_lt tx)).2
    have m1 : t * Rr cs x ≤ t * Rr cs t := Rat.mul_le_mul_of_nonneg_left hm (by grind)
    have m2 : x * Rr cs x < t * Rr cs x := Rat.mul_lt_mul_of_pos_right tx hR
    grind
  refine ⟨⟨x0, Rat.le_of_lt x1, by grind, fun t t0 tx => below_of_neg h (by grind) (lt t t0 tx), fun t tx t1 => above_of_nn h t1 ?_⟩, lt, gt⟩
  rcases Rat.le_iff_lt_or_eq.mp tx with hl | rfl
  · exact Rat.le_of_lt (gt t hl)
  · rw [qc_eq, hq]; exact Rat.le_refl
/-- who dies surely -/
theorem root_one (h : Chs cs) (hm : mnF 0 cs ≤ 1) (h1 : cs.getD 1 0 ≠ 1) : Root cs 1 := by
  have c0 := c0_nn h
  have e1 := qc_one h.sm
  have e2 : nb 1 (Qc cs) = -(cs.getD 0 0) + 1 * Rr cs 1 := qc_eq 1
  refine ⟨by decide, Rat.le_refl, by rw [nb_one]; exact h.sm, fun t t0 t1 => below_of_neg h t1 ?_, fun t h1 h2 => ?_⟩
  · obtain ⟨a, b⟩ := rr_mono h t0 (Rat.le_of_lt t1)
    rw [qc_eq]
    have m1 : t * Rr cs t ≤ t * Rr cs 1 := Rat.mul_le_mul_of_nonneg_left b t0
    rcases Rat.le_iff_lt_or_eq.mp (Rat.le_trans a b) with hl | hl
    · have m2 : t * Rr cs 1 < 1 * Rr cs 1 := Rat.mul_lt_mul_of_pos_right t1 hl
      grind
    · -- nothing from 2 on
      have hc0 : cs.getD 0 0 ≠ 0 := fun z => by
        have hR : Rr cs 1 = 0 := hl.symm
        unfold Rr at hR
        rw [nb_one, sum_sfx] at hR
        match cs, h, h1, z, hR with
        | [], h, _, _, _ => exact absurd h.sm (by decide)
        | [a], h, _, z, _ =>
          have s : a + 0 = 1 := h.sm
          have z : a = 0 := z
          grind
        | a :: b :: r, h, h1, z, hR =>
          have s : a + (b + sumR r) = 1 := h.sm
          have z : a = 0 := z
          have h1 : b ≠ 1 := h1
          have hR : mnF 1 r = 0 := hR
          have hn : ∀ x ∈ r, 0 ≤ x := fun x hx => h.nn x (List.mem_cons_of_mem _ (List.mem_cons_of_mem _ hx))
          have q1 := (sfx_nn hn).2
          have q2 : 0 ≤ mnF 0 r := by
            rw [← mn_zip]
            refine (sfx_nn fun x hx => ?_).2
            obtain ⟨p, hp, rfl⟩ := List.mem_map.mp hx
            have hp1 : p.1 ∈ r := by
              have := List.mem_zipIdx hp
              rw [this.2.2]
              exact List.getElem_mem _
            refine Rat.mul_nonneg (hn _ hp1) ?_
            rw [Rat.intCast_natCast]
            exact Rat.natCast_nonneg
          rw [mn_up r 0] at hR
          have : sumR r = 0 := by grind
          exact h1 (by grind)
      rw [← hl, Rat.mul_zero] at m1
      grind
  · have e : t = 1 := by grind
    rw [e, nb_one, h.sm]
    exact Rat.le_refl
end
end Kp

namespace Kp
open PySem PySem.Spec PyProof.Rows L2 Dl
def su0 : DS := (sIf (dAnd (dB (dOp gGt (dCB gLen (aCons (dVar 0) aNil)) (dC (.int 1)))) (dB (dOp gEq (dOp gIx (dVar 0) (dC (.int 1))) (dC c_ONE)))) (sRet (dC (.bool false))) sNil)
def su1 : DS := (sRet (dNotV (dCallN 2 m_is_below (aCons (dC c_ONE) (aCons (dCallN 1 m_mean_by (aCons (dVar 0) aNil)) aNil)))))
def sut0 : DS := sSeq su0 su1
theorem sueq : b_is_sure_of = sut0 := rfl
def wq0 : DS := (sAsg (dC (.int 1)) (gN 1))
def wq1_0 : DS := (sAsg (dOp gMul (dOp gFdiv (dVar 1) (dCallN 2 m_divisor (aCons (dVar 1) (aCons (dVar 3) aNil)))) (dVar 3)) (gN 1))
def wq1 : DS := sFor (iSeq (dVar 0)) (gT 2 (gsCons (gN 2) (gsCons (gN 3) gsNil))) wq1_0
def wq2 : DS := (sOwn 4 (fLc (iSeq (dVar 0)) (gT 2 (gsCons (gN 2) (gsCons (gN 3) gsNil))) dYes (dOp gMul (dVar 2) (dOp gFdiv (dVar 1) (dVar 3))) [2, 3]))
def wq3_0 : DS := (sOwn 4 (fCat (dVar 4) (dOp gMul (dLst (aCons (dC (.int 0)) aNil)) (dOp gSub (dC (.int 2)) (dCB gLen (aCons (dVar 4) aNil))))))
def wq3_1 : DS := (sSetIx 4 (dC (.int 1)) (dBor [4] (dOp gSub (dOp gIx (dVar 4) (dC (.int 1))) (dVar 1))))
def wq3_2 : DS := (sParFE 5 6 (fLst aNil) (dC (.int 0)))
def wq3_3_0_0 : DS := (sAsg (dOp gAdd (dVar 6) (dVar 7)) (gN 6))
def wq3_3_0_1_0 : DS := (sOwn 5 (fCat (dLst (aCons (dVar 6) aNil)) (dVar 5)))
def wq3_3_0_1 : DS := sFrz 5 wq3_3_0_1_0
def wq3_3_0_t0 : DS := sSeq wq3_3_0_0 wq3_3_0_1
def wq3_3_0 : DS := sFor (iSeq (dRevTo (dVar 4) (dC (.int 0)))) (gN 7) wq3_3_0_t0
def wq3_3_1 : DS := (sWh 1000000 (dBorT [5] (dAnd (dB (dOp gNe (dVar 5) (dLst aNil))) (dB (dOp gEq (dOp gIx (dVar 5) (dUn gNeg (dC (.int 1)))) (dC (.int 0)))))) (sPop 5))
def wq3_3_2_0 : DS := (sRet (dVar 5))
def wq3_3_2 : DS := sFrz 5 wq3_3_2_0
def wq3_3_t1 : DS := sSeq wq3_3_1 wq3_3_2
def wq3_3_t0 : DS := sSeq wq3_3_0 wq3_3_t1
def wq3_3 : DS := sFrz 4 wq3_3_t0
def wq3_t2 : DS := sSeq wq3_2 wq3_3
def wq3_t1 : DS := sSeq wq3_1 wq3_t2
def wq3_t0 : DS := sSeq wq3_0 wq3_t1
def wq3 : DS := sFrz 4 wq3_t0
def wqt2 : DS := sSeq wq2 wq3
def wqt1 : DS := sSeq wq1 wqt2
def wqt0 : DS := sSeq wq0 wqt1
theorem wqeq : b_whole_quotient = wqt0 := rfl
def sg0 : DS := (sAsg (dTup (aCons (dC (.int 0)) (aCons (dC (.int 1)) aNil))) (gT 2 (gsCons (gN 3) (gsCons (gN 4) gsNil))))
def sg1_0 : DS := (sPar 3 4 (aCons (dOp gAdd (dOp gMul (dVar 3) (dVar 1)) (dOp gMul (dVar 5) (dVar 4))) (aCons (dOp gMul (dVar 4) (dVar 2)) aNil)))
def sg1 : DS := sFor (iSeq (dUn gRev (dVar 0))) (gN 5) sg1_0
def sg2 : DS := (sRet (dOp gSub (dOp gGt (dVar 3) (dC (.int 0))) (dOp gLt (dVar 3) (dC (.int 0)))))
def sgt1 : DS := sSeq sg1 sg2
def sgt0 : DS := sSeq sg0 sgt1
theorem sgeq : b_sign_of = sgt0 := rfl
def rb0 : DS := (sAsg (dCB gAbs (aCons (dOp gIx (dVar 0) (dUn gNeg (dC (.int 1)))) aNil)) (gN 1))
def rb1 : DS := (sPar 2 3 (aCons (dC (.int 0)) (aCons (dVar 1) aNil)))
def rb2 : DS := (sWh 1000000 (dB (dOp gGt (dOp gSub (dVar 3) (dVar 2)) (dC (.int 1)))) (sSeq (sAsg (dOp gFdiv (dOp gAdd (dVar 2) (dVar 3)) (dC (.int 2))) (gN 4)) (sSeq (sAsg (dCallN 3 m_sign_of (aCons (dVar 0) (aCons (dVar 4) (aCons (dVar 1) aNil)))) (gN 5)) (sSeq (sIf (dB (dOp gEq (dVar 5) (dC (.int 0)))) (sRet (dCallN 2 m_reduced (aCons (dVar 4) (aCons (dVar 1) aNil)))) sNil) (sAsg (dIf (dB (dOp gLt (dVar 5) (dC (.int 0)))) (dTup (aCons (dVar 4) (aCons (dVar 3) aNil))) (dTup (aCons (dVar 2) (aCons (dVar 4) aNil)))) (gT 2 (gsCons (gN 2) (gsCons (gN 3) gsNil))))))))
def rb3 : DS := (sRet (dC .none))
def rbt2 : DS := sSeq rb2 rb3
def rbt1 : DS := sSeq rb1 rbt2
def rbt0 : DS := sSeq rb0 rbt1
theorem rbeq : b_root_between = rbt0 := rfl
def do0 : DS := (sIf (dB (dCallN 1 m_is_sure_of (aCons (dVar 0) aNil))) (sRet (dC c_ONE)) sNil)
def do1 : DS := (sIf (dB (dOp gEq (dOp gIx (dVar 0) (dC (.int 0))) (dC c_NOUGHT))) (sRet (dC c_NOUGHT)) sNil)
def do2 : DS := (sRet (dCallN 1 m_root_between (aCons (dCallN 1 m_whole_quotient (aCons (dVar 0) aNil)) aNil)))
def dot1 : DS := sSeq do1 do2
def dot0 : DS := sSeq do0 dot1
theorem doeq : b_death_of = dot0 := rfl
def dc0 : DS := (sExpr (dCallN 1 m_check_children (aCons (dVar 0) aNil)))
def dc1 : DS := (sRet (dCallN 1 m_death_of (aCons (dVar 0) aNil)))
def dct0 : DS := sSeq dc0 dc1
theorem dceq : b_death_chance = dct0 := rfl
/-! the lowest common bottom -/
def lcF : Nat → List Rat → Nat
  | m, [] => m
  | m, c :: l => lcF (m / Nat.gcd m c.den * c.den) l
theorem lc_eq (m d : Nat) : m / Nat.gcd m d * d = Nat.lcm m d := by
  unfold Nat.lcm
  rw [Nat.div_mul_right_comm (Nat.gcd_dvd_left m d)]
theorem lcF_spec {s : Nat} (hs : 0 < s) : ∀ (l : List Rat) (m : Nat), (∀ c ∈ l, c.den ∣ s) → m ∣ s → lcF m l ∣ s ∧ m ∣ lcF m l ∧ ∀ c ∈ l, c.den ∣ lcF m l
  | [], m, _, hm => ⟨hm, Nat.dvd_refl m, fun c h => by cases h⟩
  | c :: l, m, hc, hm => by
    have h1 := hc c List.mem_cons_self
    have hl : Nat.lcm m c.den ∣ s := Nat.lcm_dvd hm h1
    obtain ⟨a, b, d⟩ := lcF_spec hs l (Nat.lcm m c.den) (fun y hy => hc y (List.mem_cons_of_mem _ hy)) hl
    show lcF (m / Nat.gcd m c.den * c.den) l ∣ s ∧ m ∣ lcF (m / Nat.gcd m c.den * c.den) l ∧ ∀ y ∈ c :: l, y.den ∣ lcF (m / Nat.gcd m c.den * c.den) l
    rw [lc_eq]
    refine ⟨a, Nat.dvd_trans (Nat.dvd_lcm_left _ _) b, fun y hy => ?_⟩
    rcases List.mem_cons.mp hy with rfl | hy
    · exact Nat.dvd_trans (Nat.dvd_lcm_right _ _) b
    · exact d y hy
theorem den_dvd {s m : Nat} {x : Rat} (hs : 0 < s) (h : Sz s 1 m x) : x.den ∣ s := by
  obtain ⟨z, rfl, _⟩ := h
  rw [Nat.pow_one]
  have e : (z : Rat) / ((s : Nat) : Rat) = mkRat z s := by rw [Rat.mkRat_eq_div]
  rw [e, (mkRat_num (t := z) (by omega : s ≠ 0)).2]
  exact Nat.div_dvd_of_dvd (Nat.gcd_dvd_right _ _)
theorem num_le {s : Nat} {x : Rat} (hs : 0 < s) (h : Sz s 1 1 x) : x.num.natAbs ≤ s := by
  obtain ⟨z, rfl, hz⟩ := h
  rw [Nat.pow_one, Nat.one_mul] at hz
  rw [Nat.pow_one]
  have e : (z : Rat) / ((s : Nat) : Rat) = mkRat z s := by rw [Rat.mkRat_eq_div]
  rw [e, (mkRat_num (t := z) (by omega : s ≠ 0)).1]
  exact Nat.le_trans (Int.natAbs_ediv_le_natAbs _ _) hz
theorem k9 : (2 : Nat) ^ 9 = 512 := by decide
theorem log_small {a : Nat} (h : a < 2 ^ 9) : logOk a = true := log_ok h (by decide)
theorem ev_gcd {a b : Nat} (h : b < 2 ^ 9) : Ev (m_divisor [.int (a : Int), .int (b : Int)]) (.int (Nat.gcd a b : Nat)) := fun k => by
  show (match logOk b with
    | true => frN (Nat.gcd a b) fun g => k (.int (.ofNat g))
    | false => false) = _
  rw [log_small h]
  simp only [frN_eq]
  rfl
theorem op_fdiv' {a b : Nat} (h0 : 0 < b) (h : b < 2 ^ 9) : Ev (gFdiv (.int (a : Int)) (.int (b : Int))) (.int ((a / b : Nat) : Int)) := fun k => gFdiv_of h0 (log_small h) k
theorem mulN {a b : Nat} (ha : a < 2 ^ 9) (hb : b < 2 ^ 9) : Ev (gMul (.int (a : Int)) (.int (b : Int))) (.int ((a * b : Nat) : Int)) := ev_to (op_mul' (mul_ok (m := 9) (n := 9) (by rw [Int.natAbs_natCast]; exact ha) (by rw [Int.natAbs_natCast]; exact hb) (by decide))) (by rw [Int.natCast_mul])
section
variable {s : Nat} {cs : List Rat} {V : PyData}
theorem fr_parts (c : Rat) : fr c = .tuple [.int c.num, .int (c.den : Int)] := rfl
theorem evg_fr {c : Rat} {a b : Sl} {e : Sls} {i j : Nat} {env : Sls} (he : (env.set i (.fz (.int c.num))).set j (.fz (.int (c.den : Int))) = e) : EvG (gT 2 (gsCons (gN i) (gsCons (gN j) gsNil)) (fr c) env) e := by
  rw [fr_parts]
  refine evg_t (evgs_cons evg_n (evgs_cons evg_n ?_)) rfl
  rw [he]
  exact evgs_nil
theorem lc_loop (hs : 0 < s) (hs4 : s ≤ 256) (U : Sl) {r : Sls} : ∀ (l : List Rat) (m : Nat) (s2 s3 : Sl), (∀ c ∈ l, c.den ∣ s) → m ∣ s →
    ∃ t2 t3, ExF (gT 2 (gsCons (gN 2) (gsCons (gN 3) gsNil))) wq1_0 (l.map fr) (U :: .fz (.int (m : Int)) :: s2 :: s3 :: r) (U :: .fz (.int (lcF m l : Int)) :: t2 :: t3 :: r)
  | [], m, s2, s3, _, _ => ⟨_, _, exf_nil⟩
  | c :: l, m, s2, s3, hc, hm => by
    have h1 := hc c List.mem_cons_self
    have hl : Nat.lcm m c.den ∣ s := Nat.lcm_dvd hm h1
    have d1 := Nat.le_of_dvd hs h1
    have m1 := Nat.le_of_dvd hs hm
    have c0 := c.den_pos
    have k := k9
    have hg : 0 < Nat.gcd m c.den := Nat.gcd_pos_of_pos_right _ c0
    have hg2 : Nat.gcd m c.den ≤ c.den := Nat.le_of_dvd c0 (Nat.gcd_dvd_right _ _)
    have hq : m / Nat.gcd m c.den ≤ m := Nat.div_le_self _ _
    obtain ⟨t2, t3, ih⟩ := lc_loop hs hs4 U (r := r) l (m / Nat.gcd m c.den * c.den) (.fz (.int c.num)) (.fz (.int (c.den : Int))) (fun y hy => hc y (List.mem_cons_of_mem _ hy)) (by rw [lc_eq]; exact hl)
    exact ⟨t2, t3, exf_cons (evg_fr (a := s2) (b := s3) rfl) (ex_asg (ev_op (ev_op (ev_var rfl) (ev_call (eva_cons (ev_var rfl) (eva_cons (ev_var rfl) eva_nil)) (ev_gcd (by omega)) rfl) (op_fdiv' hg (by omega))) (ev_var rfl) (mulN (by omega) (by omega))) evg_n) ih⟩
def nsI (L : Nat) (cs : List Rat) : List Int := cs.map fun c => c.num * ((L / c.den : Nat) : Int)
theorem nsI_cast {L : Nat} {c : Rat} (h : c.den ∣ L) : ((c.num * ((L / c.den : Nat) : Int) : Int) : Rat) = (L : Rat) * c := by
  obtain ⟨q, rfl⟩ := h
  rw [Nat.mul_div_cancel_left q c.den_pos, Rat.intCast_mul, Rat.intCast_natCast, Rat.natCast_mul]
  have hd : ((c.den : Nat) : Rat) ≠ 0 := fun e => by
    have := Rat.natCast_inj.mp (show ((c.den : Nat) : Rat) = ((0 : Nat) : Rat) from e)
    have := c.den_pos
    omega
  have e : c = (c.num : Rat) / ((c.den : Nat) : Rat) := by rw [← Rat.mkRat_eq_div, Rat.mkRat_self]
  generalize hz : (c.num : Rat) = z at *
  generalize ((c.den : Nat) : Rat) = d at *
  have e2 : d * c = z := by rw [e]; grind
  grind
/-- sums of suffixes of whole numbers -/
def sumI : List Int → Int
  | [] => 0
  | x :: l => x + sumI l
def sfxI : List Int → List Int
  | [] => []
  | x :: l => (x + sumI l) :: sfxI l
def toldI : List Int → List Int
  | [] => []
  | x :: l => match toldI l with
    | [] => if x = 0 then [] else [x]
    | y :: r => x :: y :: r
theorem toldI_parts : ∀ l : List Int, ∃ n, l = toldI l ++ List.replicate n 0 ∧ (toldI l = [] ∨ ∃ i x, toldI l = i ++ [x] ∧ x ≠ 0)
  | [] => ⟨0, rfl, .inl rfl⟩
  | x :: l => by
    obtain ⟨n, h1, h2⟩ := toldI_parts l
    unfold toldI
    cases e : toldI l with
    | nil =>
      rw [e] at h1
      by_cases hx : x = 0
      · rw [if_pos hx]
        refine ⟨n + 1, ?_, .inl rfl⟩
        rw [List.replicate_succ, hx]
        congr 1
      · rw [if_neg hx]
        refine ⟨n, ?_, .inr ⟨[], x, rfl, hx⟩⟩
        show x :: l = x :: List.replicate n 0
        rw [h1]
        rfl
    | cons y r =>
      rw [e] at h1 h2
      refine ⟨n, ?_, ?_⟩
      · show x :: l = x :: ((y :: r) ++ List.replicate n 0)
        rw [← h1]
      · rcases h2 with h2 | ⟨i, z, h2, hz⟩
        · cases h2
        · exact .inr ⟨x :: i, z, by show x :: y :: r = x :: (i ++ [z]); rw [h2], hz⟩
abbrev Il (l : List Int) : PyData := .list (l.map PyData.int)
abbrev castL (l : List Int) : List Rat := l.map fun i : Int => (i : Rat)
theorem pls_ints (l : List Int) (n : Nat) : plDs (n + 1) (l.map PyData.int) = true := by
  induction l with
  | nil => rfl
  | cons p ps ih => simp only [List.map_cons, plDs, ih]; rfl
theorem op_neI0 {l : List Int} : Ev (gNe (Il l) (.list [])) (.bool (!l.isEmpty)) := fun k => by
  rw [op_ne' (by unfold plD; exact pls_ints l 38) rfl]
  cases l <;> rfl
section
variable {e0 e1 e2 e3 e4 e6 e7 : Sl}
abbrev toldC : DT := dBorT [5] (dAnd (dB (dOp gNe (dVar 5) (dLst aNil))) (dB (dOp gEq (dOp gIx (dVar 5) (dUn gNeg (dC (.int 1)))) (dC (.int 0)))))
theorem toldI_cond (i : List Int) (x : Int) : EvT (toldC [e0, e1, e2, e3, e4, .ow ((i ++ [x]).map PyData.int), e6, e7]) (decide (x = 0)) := by
  refine evt_borT (env' := [e0, e1, e2, e3, e4, .fz (Il (i ++ [x])), e6, e7]) rfl (evt_andT (evt_b (ev_toB (ev_op (ev_var rfl) (ev_lst eva_nil rfl) op_neI0) (by simp))) (evt_b (ev_toB (ev_op (ev_op (ev_var rfl) (ev_un ev_c op_neg) (op_ixL (x := .int x) ?_)) ev_c op_eqI) ?_)))
  · rw [List.map_append]
    exact atI_last
  · rw [eqI_eq]
    by_cases h : x = 0 <;> simp [h]
theorem toldI_nil : EvT (toldC [e0, e1, e2, e3, e4, .ow [], e6, e7]) false :=
  evt_borT (env' := [e0, e1, e2, e3, e4, .fz (.list []), e6, e7]) rfl (evt_andF (evt_b (ev_toB (ev_op (ev_var rfl) (ev_lst eva_nil rfl) (op_neI0 (l := []))) rfl)))
theorem popI_last (i : List Int) (x : Int) : Ex (sPop 5) [e0, e1, e2, e3, e4, .ow ((i ++ [x]).map PyData.int), e6, e7] [e0, e1, e2, e3, e4, .ow (i.map PyData.int), e6, e7] := fun B => by
  cases i with
  | nil => rfl
  | cons y i =>
    show B.nx [e0, e1, e2, e3, e4, .ow (PyData.int y :: (i ++ [x]).map PyData.int).dropLast, e6, e7] = _
    rw [List.map_append]
    show B.nx [e0, e1, e2, e3, e4, .ow ((PyData.int y :: i.map PyData.int) ++ [PyData.int x]).dropLast, e6, e7] = _
    rw [List.dropLast_concat]
    rfl
theorem toldI_loop (B : DEnds) {t : List Int} (ht : t = [] ∨ ∃ i x, t = i ++ [x] ∧ x ≠ 0) : ∀ (n f : Nat), goWh toldC (sPop 5) B (f + n + 1) [e0, e1, e2, e3, e4, .ow ((t ++ List.replicate n 0).map PyData.int), e6, e7] = B.nx [e0, e1, e2, e3, e4, .ow (t.map PyData.int), e6, e7]
  | 0, f => by
    rw [List.replicate_zero, List.append_nil]
    rcases ht with rfl | ⟨i, x, rfl, hx⟩
    · exact goWh_F toldI_nil
    · exact goWh_F (evt_to (toldI_cond i x) (decide_eq_false hx))
  | n + 1, f => by
    have e : t ++ List.replicate (n + 1) 0 = (t ++ List.replicate n 0) ++ [0] := by rw [List.replicate_succ', List.append_assoc]
    rw [e, goWh_T (evt_to (toldI_cond _ 0) (decide_eq_true rfl)), popI_last]
    exact toldI_loop B ht n f
theorem toldI_wh {l : List Int} (hl : l.length ≤ 1000) : Ex wq3_3_1 [e0, e1, e2, e3, e4, .ow (l.map PyData.int), e6, e7] [e0, e1, e2, e3, e4, .ow ((toldI l).map PyData.int), e6, e7] := fun B => by
  obtain ⟨n, h1, h2⟩ := toldI_parts l
  have hn : n ≤ 1000 := by
    have := congrArg List.length h1
    rw [List.length_append, List.length_replicate] at this
    omega
  obtain ⟨f, hf⟩ : ∃ f, 1000000 = f + n + 1 := ⟨1000000 - n - 1, by omega⟩
  unfold wq3_3_1 sWh
  rw [hf]
  have := toldI_loop (e0 := e0) (e1 := e1) (e2 := e2) (e3 := e3) (e4 := e4) (e6 := e6) (e7 := e7) B h2 n f
  rw [← h1] at this
  exact this
/-- the loop of carries -/
theorem carry_loop : ∀ (rest pre : List Int) (t7 : Sl), pre.length + rest.length ≤ 1000 →
    ∃ t7', ExF (gN 7) wq3_3_0_t0 (rest.map PyData.int) [e0, e1, e2, e3, e4, .ow ((sfxI pre.reverse).map PyData.int), .fz (.int (sumI pre.reverse)), t7] [e0, e1, e2, e3, e4, .ow ((sfxI (pre ++ rest).reverse).map PyData.int), .fz (.int (sumI (pre ++ rest).reverse)), t7']
  | [], pre, t7, _ => by rw [List.append_nil]; exact ⟨_, exf_nil⟩
  | w :: rest, pre, t7, hl => by
    rw [List.length_cons] at hl
    obtain ⟨t7', ih⟩ := carry_loop rest (pre ++ [w]) (.fz (.int w)) (by rw [List.length_append, List.length_singleton]; omega)
    have e : (pre ++ [w]).reverse = w :: pre.reverse := by simp
    rw [e, List.append_assoc] at ih
    have hs : ∀ l : List Int, (sfxI l).length = l.length := fun l => by
      induction l with
      | nil => rfl
      | cons x l ih => show (sfxI l).length + 1 = _; rw [ih]; rfl
    refine ⟨t7', exf_cons evg_n (ex_seq (ex_asg (d := .int (w + sumI pre.reverse)) (ev_to (ev_op (ev_var rfl) (ev_var rfl) op_add') (by rw [Int.add_comm])) evg_n) (ex_frz (e1 := [e0, e1, e2, e3, e4, .fz (Il (sfxI pre.reverse)), .fz (.int (w + sumI pre.reverse)), .fz (.int w)]) rfl (ex_own (ds := (sfxI (w :: pre.reverse)).map PyData.int) (evf_cat (xs := [.int (w + sumI pre.reverse)]) (ds := (sfxI pre.reverse).map PyData.int) (ev_lst (eva_cons (ev_var rfl) eva_nil) rfl) (ev_var rfl) ?_)))) ih⟩
    rw [List.length_map, hs, List.length_reverse]
    exact small_le (m := 2000) (by show 1 + pre.length ≤ 2000; omega)
end
end
end Kp

namespace Kp
open PySem PySem.Spec PyProof.Rows L2 Dl
theorem op_repZ {x : PyData} {i : Int} (h : i.natAbs ≤ 100000) : Ev (gMul (.list [x]) (.int i)) (.list (List.replicate i.toNat x)) := by
  cases i with
  | ofNat n => exact op_rep1 (n := n) h
  | negSucc n =>
    intro k
    have o : repOk 1 (Int.negSucc n) = true := Nat.ble_eq_true_of_le (Nat.le_trans (Nat.le_succ n) h)
    show (match repOk 1 (Int.negSucc n) with
      | true => k (.list (List.replicate (Int.toNat (Int.negSucc n)) [x]).flatten)
      | false => false) = _
    rw [o]
    rfl
theorem pick_rev {α : Type} (a : α) : ∀ l : List α, 1 ≤ l.length → l.length ≤ 4 → pickTo (a :: l) (some 0) = l.reverse
  | [], h, _ => by simp at h
  | [b], _, _ => by show (idxTo 2 (some 0)).filterMap _ = _; rw [show idxTo 2 (some 0) = [1] by decide +kernel]; rfl
  | [b, c], _, _ => by show (idxTo 3 (some 0)).filterMap _ = _; rw [show idxTo 3 (some 0) = [2, 1] by decide +kernel]; rfl
  | [b, c, d], _, _ => by show (idxTo 4 (some 0)).filterMap _ = _; rw [show idxTo 4 (some 0) = [3, 2, 1] by decide +kernel]; rfl
  | [b, c, d, e], _, _ => by show (idxTo 5 (some 0)).filterMap _ = _; rw [show idxTo 5 (some 0) = [4, 3, 2, 1] by decide +kernel]; rfl
  | _ :: _ :: _ :: _ :: _ :: _, _, h => by simp at h
def tI (L : Nat) : List Rat → List Int
  | [] => []
  | [_] => [0 - (L : Int)]
  | _ :: b :: r => (b.num * ((L / b.den : Nat) : Int) - (L : Int)) :: nsI L r
def hI (L : Nat) : List Rat → Int
  | [] => 0
  | a :: _ => a.num * ((L / a.den : Nat) : Int)
section
variable {s : Nat} {cs : List Rat} {V : PyData}
/-- numbers, brought to two at least, the second one less -/
theorem ns_shape {L : Nat} (h1 : 1 ≤ cs.length) : ∃ m1 r, nsI L cs ++ List.replicate (2 - (cs.length : Int)).toNat 0 = hI L cs :: m1 :: r ∧ tI L cs = (m1 - (L : Int)) :: r ∧ r.length = cs.length - 2 := by
  match cs, h1 with
  | [a], _ => exact ⟨0, [], rfl, rfl, rfl⟩
  | a :: b :: r, _ =>
    refine ⟨b.num * ((L / b.den : Nat) : Int), nsI L r, ?_, rfl, ?_⟩
    · have e : (2 - (((a :: b :: r).length : Nat) : Int)).toNat = 0 := by
        rw [List.length_cons, List.length_cons]; omega
      rw [e, List.replicate_zero, List.append_nil]
      rfl
    · unfold nsI
      rw [List.length_map, List.length_cons, List.length_cons]
      omega
abbrev Lc (cs : List Rat) : Nat := lcF 1 cs
theorem COk.dens (h : COk s cs) : ∀ c ∈ cs, c.den ∣ s := fun c hc => den_dvd h.s0 (h.sz c hc)
theorem COk.lc (h : COk s cs) : Lc cs ∣ s ∧ (∀ c ∈ cs, c.den ∣ Lc cs) ∧ 0 < Lc cs ∧ Lc cs ≤ 256 := by
  obtain ⟨a, _, b⟩ := lcF_spec h.s0 cs 1 h.dens (Nat.one_dvd s)
  have a0 := Nat.pos_of_dvd_of_pos a h.s0
  exact ⟨a, b, a0, Nat.le_trans (Nat.le_of_dvd h.s0 a) h.s16⟩
theorem s_wq (hV : V = Fl cs ∨ V = Ft cs) (h : COk s cs) : Ev (m_whole_quotient [V]) (Il (toldI (sfxI (tI (Lc cs) cs)))) := by
  obtain ⟨d1, d2, d3, d4⟩ := h.lc
  have k := k9
  have h5 := h.l5
  have e0 : (startE 8 [V]).set 1 (.fz (.int 1)) = .fz V :: .fz (.int ((1 : Nat) : Int)) :: .no :: .no :: [.no, .no, .no, .no] := by rcases hV with rfl | rfl <;> rfl
  obtain ⟨t2, t3, x1⟩ := lc_loop h.s0 h.s16 (.fz V) (r := [.no, .no, .no, .no]) cs 1 .no .no h.dens (Nat.one_dvd s)
  have hw : wipeE [.fz V, .fz (.int (Lc cs : Int)), t2, t3, .no, .no, .no, .no] [2, 3] = [.fz V, .fz (.int (Lc cs : Int)), .no, .no, .no, .no, .no, .no] := rfl
  have x2 : Ex wq2 [.fz V, .fz (.int (Lc cs : Int)), t2, t3, .no, .no, .no, .no] [.fz V, .fz (.int (Lc cs : Int)), t2, t3, .ow ((nsI (Lc cs) cs).map PyData.int), .no, .no, .no] := by
    have e : (nsI (Lc cs) cs).map PyData.int = cs.map fun c => PyData.int (c.num * ((Lc cs / c.den : Nat) : Int)) := by
      unfold nsI
      rw [List.map_map]
      rfl
    rw [e]
    refine ex_own (evf_lc (evi_V hV (ev_var rfl)) (evlc_map fun c hc => ?_) (by rw [List.length_map]; exact small_le (m := 20) (by omega)))
    rw [hw]
    have c0 := c.den_pos
    have q1 := Nat.le_of_dvd h.s0 (h.dens c hc)
    have q2 : Lc cs / c.den ≤ Lc cs := Nat.div_le_self _ _
    have q3 := num_le h.s0 (h.sz c hc)
    have s16 := h.s16
    refine ⟨_, evg_fr (a := .no) (b := .no) rfl, ev_op (ev_var rfl) (ev_op (ev_var rfl) (ev_var rfl) (op_fdiv' c0 (by omega))) (op_mul' (mul_ok (m := 9) (n := 9) (by omega) (by rw [Int.natAbs_natCast]; omega) (by decide)))⟩
  obtain ⟨m1, r, q1, q2, q3⟩ := ns_shape (L := Lc cs) h.l1
  have hlen : (nsI (Lc cs) cs).length = cs.length := List.length_map ..
  have x3 : Ex wq3_0 [.fz V, .fz (.int (Lc cs : Int)), t2, t3, .fz (Il (nsI (Lc cs) cs)), .no, .no, .no] [.fz V, .fz (.int (Lc cs : Int)), t2, t3, .ow ((hI (Lc cs) cs :: m1 :: r).map PyData.int), .no, .no, .no] := by
    refine ex_own (eva_to (evf_cat (ev_var rfl) (ev_op (ev_lst (eva_cons ev_c eva_nil) rfl) (ev_op ev_c (ev_cb (eva_cons (ev_var rfl) eva_nil) cb_lenL) op_sub') (op_repZ ?_)) ?_) ?_)
    · rw [List.length_map, hlen]; omega
    · rw [List.length_map, hlen, List.length_replicate]; exact small_le (m := 20) (by omega)
    · rw [← q1, List.map_append, List.map_replicate, List.length_map, hlen]
  have x4 : Ex wq3_1 [.fz V, .fz (.int (Lc cs : Int)), t2, t3, .ow ((hI (Lc cs) cs :: m1 :: r).map PyData.int), .no, .no, .no] [.fz V, .fz (.int (Lc cs : Int)), t2, t3, .ow ((hI (Lc cs) cs :: tI (Lc cs) cs).map PyData.int), .no, .no, .no] := by
    rw [q2]
    exact ex_setix (i := 4) (ix := dC (.int 1)) (env := [.fz V, .fz (.int (Lc cs : Int)), t2, t3, .ow ((hI (Lc cs) cs :: m1 :: r).map PyData.int), .no, .no, .no]) (ds := (hI (Lc cs) cs :: m1 :: r).map PyData.int) (z := 1) (n := 1) (d := .int (m1 - (Lc cs : Int))) (ev_bor (env' := [.fz V, .fz (.int (Lc cs : Int)), t2, t3, .fz (Il (hI (Lc cs) cs :: m1 :: r)), .no, .no, .no]) rfl (ev_op (ev_op (ev_var rfl) ev_c (op_ixL (x := .int m1) (Dl.atI_nat (i := 1) rfl))) (ev_var rfl) op_sub') rfl) rfl ev_c (ixN_lt (by show 1 < (r.map PyData.int).length + 1 + 1; omega))
  have x5 : Ex wq3_2 [.fz V, .fz (.int (Lc cs : Int)), t2, t3, .ow ((hI (Lc cs) cs :: tI (Lc cs) cs).map PyData.int), .no, .no, .no] [.fz V, .fz (.int (Lc cs : Int)), t2, t3, .ow ((hI (Lc cs) cs :: tI (Lc cs) cs).map PyData.int), .ow [], .fz (.int 0), .no] := ex_parFE (evf_lst eva_nil rfl) ev_c
  have tl : (tI (Lc cs) cs).length = cs.length - 2 + 1 := by rw [q2, List.length_cons, q3]
  obtain ⟨t7, x6⟩ := carry_loop (e0 := .fz V) (e1 := .fz (.int (Lc cs : Int))) (e2 := t2) (e3 := t3) (e4 := .fz (Il (hI (Lc cs) cs :: tI (Lc cs) cs))) (tI (Lc cs) cs).reverse [] .no (by rw [List.length_reverse, tl]; show 0 + _ ≤ _; omega)
  rw [List.nil_append, List.reverse_reverse] at x6
  have hs : ∀ l : List Int, (sfxI l).length = l.length := fun l => by
    induction l with
    | nil => rfl
    | cons x l ih => show (sfxI l).length + 1 = _; rw [ih]; rfl
  have x7 := toldI_wh (e0 := .fz V) (e1 := .fz (.int (Lc cs : Int))) (e2 := t2) (e3 := t3) (e4 := .fz (Il (hI (Lc cs) cs :: tI (Lc cs) cs))) (e6 := .fz (.int (sumI (tI (Lc cs) cs)))) (e7 := t7) (l := sfxI (tI (Lc cs) cs)) (by rw [hs, tl]; omega)
  unfold m_whole_quotient
  rw [wqeq]
  refine ev_def (rt_seq (ex_asg ev_c evg_n) (by
    rw [e0]
    refine rt_seq (ex_for (evi_V hV (ev_var rfl)) x1) (rt_seq x2 (rt_frz rfl (rt_seq x3 (rt_seq x4 (rt_seq x5 (rt_frz rfl (rt_seq (ex_for (xs := (tI (Lc cs) cs).reverse.map PyData.int) ?_ x6) (rt_seq x7 (rt_frz rfl (rt_ret (ev_var rfl)))))))))))
    refine evi_seqL fun k => ?_
    show k (.list (pickTo ((hI (Lc cs) cs :: tI (Lc cs) cs).map PyData.int) (some 0))) = _
    rw [List.map_cons, pick_rev _ _ (by rw [List.length_map, tl]; omega) (by rw [List.length_map, tl]; omega), List.map_reverse]))
/-- a sum of whole numbers times powers -/
def hvI (t b : Int) : List Int → Int
  | [] => 0
  | x :: l => hvI t b l * t + x * b ^ l.length
theorem k12 : (2 : Nat) ^ 12 = 4096 := by decide
theorem pow_lt {b : Int} (hb : b.natAbs < 2 ^ 12) : ∀ n : Nat, (b ^ n).natAbs < 2 ^ (12 * n + 1)
  | 0 => by rw [Int.pow_zero]; decide
  | n + 1 => by
    rw [Int.pow_succ, Int.natAbs_mul]
    have := pow_mul_lt (pow_lt hb n) hb
    rw [show 12 * (n + 1) + 1 = 12 * n + 1 + 12 by omega]
    exact this
theorem hvI_lt {t b : Int} (ht : t.natAbs < 2 ^ 12) (hb : b.natAbs < 2 ^ 12) : ∀ l : List Int, (∀ x ∈ l, x.natAbs < 2 ^ 12) → (hvI t b l).natAbs < 2 ^ (14 + 13 * l.length)
  | [], _ => by
    show 0 < 2 ^ _
    exact Nat.two_pow_pos _
  | x :: l, h => by
    have ih := hvI_lt ht hb l fun y hy => h y (List.mem_cons_of_mem _ hy)
    have hx := h x List.mem_cons_self
    have a := pow_mul_lt ih ht
    have c := pow_mul_lt hx (pow_lt hb l.length)
    have c' : x.natAbs * (b ^ l.length).natAbs < 2 ^ (14 + 13 * l.length + 12) := Nat.lt_of_lt_of_le c (Nat.pow_le_pow_right (by decide) (by omega))
    show (hvI t b l * t + x * b ^ l.length).natAbs < _
    rw [List.length_cons, show 14 + 13 * (l.length + 1) = (14 + 13 * l.length + 12) + 1 by omega, Nat.pow_succ]
    refine Nat.lt_of_le_of_lt (Int.natAbs_add_le _ _) ?_
    rw [Int.natAbs_mul, Int.natAbs_mul]
    omega
theorem sg_loop {t b : Int} (ht : t.natAbs < 2 ^ 12) (hb : b.natAbs < 2 ^ 12) (U : Sl) : ∀ (rest pre : List Int) (s5 : Sl), (∀ x ∈ pre, x.natAbs < 2 ^ 12) → (∀ x ∈ rest, x.natAbs < 2 ^ 12) → pre.length + rest.length ≤ 10 →
    ∃ t5, ExF (gN 5) sg1_0 (rest.map PyData.int) [U, .fz (.int t), .fz (.int b), .fz (.int (hvI t b pre.reverse)), .fz (.int (b ^ pre.length)), s5] [U, .fz (.int t), .fz (.int b), .fz (.int (hvI t b (pre ++ rest).reverse)), .fz (.int (b ^ (pre ++ rest).length)), t5]
  | [], pre, s5, _, _, _ => by rw [List.append_nil]; exact ⟨_, exf_nil⟩
  | w :: rest, pre, s5, hp, hr, hl => by
    rw [List.length_cons] at hl
    have hw := hr w List.mem_cons_self
    obtain ⟨t5, ih⟩ := sg_loop ht hb U rest (pre ++ [w]) (.fz (.int w)) (fun x hx => by
      rcases List.mem_append.mp hx with hx | hx
      · exact hp x hx
      · rw [List.mem_singleton.mp hx]; exact hw) (fun x hx => hr x (List.mem_cons_of_mem _ hx)) (by rw [List.length_append, List.length_singleton]; omega)
    have e : (pre ++ [w]).reverse = w :: pre.reverse := by simp
    have b1 := hvI_lt ht hb pre.reverse fun x hx => hp x (List.mem_reverse.mp hx)
    rw [List.length_reverse] at b1
    have b2 := pow_lt hb pre.length
    refine ⟨t5, exf_cons evg_n (ex_par (x := .int (hvI t b (pre ++ [w]).reverse)) (y := .int (b ^ (pre ++ [w]).length)) (eva_cons (ev_to (ev_op (ev_op (ev_var rfl) (ev_var rfl) (op_mul' (mul_ok b1 ht (by omega)))) (ev_op (ev_var rfl) (ev_var rfl) (op_mul' (mul_ok hw b2 (by omega)))) op_add') ?_) (eva_cons (ev_to (ev_op (ev_var rfl) (ev_var rfl) (op_mul' (mul_ok b2 hb (by omega)))) ?_) eva_nil))) (by rw [show pre ++ w :: rest = (pre ++ [w]) ++ rest by simp]; exact ih)⟩
    · rw [e]
      show _ = PyData.int (hvI t b pre.reverse * t + w * b ^ pre.reverse.length)
      rw [List.length_reverse]
    · rw [List.length_append, List.length_singleton, Int.pow_succ]
def sgnI (z : Int) : Int := b2i (decide (z > 0)) - b2i (decide (z < 0))
theorem s_sign {t b : Int} (ht : t.natAbs < 2 ^ 12) (hb : b.natAbs < 2 ^ 12) {l : List Int} (hl : ∀ x ∈ l, x.natAbs < 2 ^ 12) (h10 : l.length ≤ 10) : Ev (m_sign_of [Il l, .int t, .int b]) (.int (sgnI (hvI t b l))) := by
  obtain ⟨t5, x1⟩ := sg_loop ht hb (.fz (Il l)) l.reverse [] .no (fun x hx => by cases hx) (fun x hx => hl x (List.mem_reverse.mp hx)) (by rw [List.length_reverse]; show 0 + _ ≤ _; omega)
  rw [List.nil_append, List.reverse_reverse, List.length_reverse, show b ^ ([] : List Int).length = 1 from Int.pow_zero b] at x1
  have xf : Ex sg1 [.fz (Il l), .fz (.int t), .fz (.int b), .fz (.int 0), .fz (.int 1), .no] [.fz (Il l), .fz (.int t), .fz (.int b), .fz (.int (hvI t b l)), .fz (.int (b ^ l.length)), t5] := ex_for (eva_to (evi_seqL (ev_un (ev_var rfl) op_revL)) (by rw [← List.map_reverse])) x1
  unfold m_sign_of
  rw [sgeq]
  refine ev_def (rt_seq (ex_asg (ev_tup (eva_cons ev_c (eva_cons ev_c eva_nil)) rfl) (evg_t (evgs_cons evg_n (evgs_cons evg_n evgs_nil)) rfl)) (rt_seq xf (rt_ret (ev_op (ev_op (ev_var rfl) ev_c op_I) (ev_op (ev_var rfl) ev_c op_I) fun k => rfl))))
theorem sgn_zero {z : Int} : sgnI z = 0 ↔ z = 0 := by
  unfold sgnI b2i
  by_cases h1 : z > 0
  · have h2 : ¬ z < 0 := by omega
    simp [h1, h2]; omega
  · by_cases h2 : z < 0
    · simp [h1, h2]; omega
    · simp [h1, h2]; omega
theorem sgn_neg {z : Int} : sgnI z < 0 ↔ z < 0 := by
  unfold sgnI b2i
  by_cases h1 : z > 0
  · have h2 : ¬ z < 0 := by omega
    simp [h1, h2]
  · by_cases h2 : z < 0
    · simp [h1, h2]
    · simp [h1, h2]
end
end Kp

namespace Kp
open PySem PySem.Spec PyProof.Rows L2 Dl
section
variable {l : List Int} {b : Nat}
abbrev rbC : DT := dB (dOp gGt (dOp gSub (dVar 3) (dVar 2)) (dC (.int 1)))
abbrev rbI : DS := sIf (dB (dOp gEq (dVar 5) (dC (.int 0)))) (sRet (dCallN 2 m_reduced (aCons (dVar 4) (aCons (dVar 1) aNil)))) sNil
abbrev rbL : DS := sAsg (dIf (dB (dOp gLt (dVar 5) (dC (.int 0)))) (dTup (aCons (dVar 4) (aCons (dVar 3) aNil))) (dTup (aCons (dVar 2) (aCons (dVar 4) aNil)))) (gT 2 (gsCons (gN 2) (gsCons (gN 3) gsNil)))
abbrev rbB : DS := sSeq (sAsg (dOp gFdiv (dOp gAdd (dVar 2) (dVar 3)) (dC (.int 2))) (gN 4)) (sSeq (sAsg (dCallN 3 m_sign_of (aCons (dVar 0) (aCons (dVar 4) (aCons (dVar 1) aNil)))) (gN 5)) (sSeq rbI rbL))
abbrev Re (l : List Int) (b lo hi : Nat) (s4 s5 : Sl) : Sls := [.fz (Il l), .fz (.int (b : Int)), .fz (.int (lo : Int)), .fz (.int (hi : Int)), s4, s5]
theorem rb_cond {lo hi : Nat} {s4 s5 : Sl} (h : lo ≤ hi) : EvT (rbC (Re l b lo hi s4 s5)) (decide (1 < hi - lo)) := by
  refine evt_b (ev_toB (ev_op (ev_op (ev_var rfl) (ev_var rfl) op_sub') ev_c op_I) ?_)
  exact decide_eq_decide.mpr (by omega)
theorem rb_loop (hl : ∀ x ∈ l, x.natAbs < 2 ^ 12) (h10 : l.length ≤ 10) (hb0 : 0 < b) (hb : b < 2 ^ 12) : ∀ (f lo hi : Nat) (s4 s5 : Sl), lo < hi → hi - lo < f → hi ≤ b →
    (∃ m, lo < m ∧ m < hi ∧ hvI (m : Int) (b : Int) l = 0 ∧ ∀ B, goWh rbC rbB B f (Re l b lo hi s4 s5) = B.rt (fr ((m : Rat) / (b : Rat)))) ∨
    ((∃ e, ∀ B, goWh rbC rbB B f (Re l b lo hi s4 s5) = B.nx e) ∧ ∀ m0 : Nat, lo < m0 → m0 < hi → hvI (m0 : Int) (b : Int) l = 0 → (∀ m : Nat, m < m0 → hvI (m : Int) (b : Int) l < 0) → (∀ m : Nat, m0 < m → 0 < hvI (m : Int) (b : Int) l) → False)
  | 0, lo, hi, s4, s5, _, h, _ => by omega
  | f + 1, lo, hi, s4, s5, h1, h2, h3 => by
    have c := rb_cond (l := l) (b := b) (s4 := s4) (s5 := s5) (Nat.le_of_lt h1)
    by_cases hc : 1 < hi - lo
    · rw [decide_eq_true hc] at c
      have hm1 : lo < (lo + hi) / 2 := by omega
      have hm2 : (lo + hi) / 2 < hi := by omega
      have k := k12
      have bk : (b : Int).natAbs < 2 ^ 12 := by rw [Int.natAbs_natCast]; exact hb
      have xs := s_sign (t := (((lo + hi) / 2 : Nat) : Int)) (b := (b : Int)) (by rw [Int.natAbs_natCast]; omega) bk hl h10
      have x1 : Ex (sAsg (dOp gFdiv (dOp gAdd (dVar 2) (dVar 3)) (dC (.int 2))) (gN 4)) (Re l b lo hi s4 s5) (Re l b lo hi (.fz (.int (((lo + hi) / 2 : Nat) : Int))) s5) :=
        ex_asg (ev_op (ev_to (y := .int ((lo + hi : Nat) : Int)) (ev_op (ev_var rfl) (ev_var rfl) op_add') (by rw [Int.natCast_add])) ev_c (op_fdiv' (b := 2) (by decide) (by decide))) evg_n
      have x2 : Ex (sAsg (dCallN 3 m_sign_of (aCons (dVar 0) (aCons (dVar 4) (aCons (dVar 1) aNil)))) (gN 5)) (Re l b lo hi (.fz (.int (((lo + hi) / 2 : Nat) : Int))) s5) (Re l b lo hi (.fz (.int (((lo + hi) / 2 : Nat) : Int))) (.fz (.int (sgnI (hvI (((lo + hi) / 2 : Nat) : Int) (b : Int) l))))) :=
        ex_asg (ev_call (eva_cons (ev_var rfl) (eva_cons (ev_var rfl) (eva_cons (ev_var rfl) eva_nil))) xs rfl) evg_n
      by_cases hz : hvI (((lo + hi) / 2 : Nat) : Int) (b : Int) l = 0
      · refine .inl ⟨(lo + hi) / 2, hm1, hm2, hz, fun B => ?_⟩
        have x3 : Rt (sSeq rbI rbL) (Re l b lo hi (.fz (.int (((lo + hi) / 2 : Nat) : Int))) (.fz (.int (sgnI (hvI (((lo + hi) / 2 : Nat) : Int) (b : Int) l))))) (fr ((((lo + hi) / 2 : Nat) : Rat) / (b : Rat))) := by
          refine rt_now (rt_ifT (evt_b (ev_toB (ev_op (ev_var rfl) ev_c op_eqI) (by rw [eqI_eq, sgn_zero.mpr hz]; rfl))) (rt_ret (ev_to (ev_call (eva_cons (ev_var rfl) (eva_cons (ev_var rfl) eva_nil)) (ev_red (n := 12) (by omega) hb (by decide)) rfl) ?_)))
          rw [Rat.intCast_natCast]
        rw [goWh_T c]
        exact rt_seq x1 (rt_seq x2 x3) _
      · have x3 : Ex rbI (Re l b lo hi (.fz (.int (((lo + hi) / 2 : Nat) : Int))) (.fz (.int (sgnI (hvI (((lo + hi) / 2 : Nat) : Int) (b : Int) l))))) (Re l b lo hi (.fz (.int (((lo + hi) / 2 : Nat) : Int))) (.fz (.int (sgnI (hvI (((lo + hi) / 2 : Nat) : Int) (b : Int) l))))) := by
          refine ex_ifF (evt_b (ev_toB (ev_op (ev_var rfl) ev_c op_eqI) ?_)) ex_nil
          rw [eqI_eq]
          exact beq_false_of_ne fun e => hz (sgn_zero.mp e)
        by_cases hn : hvI (((lo + hi) / 2 : Nat) : Int) (b : Int) l < 0
        · have x4 : Ex rbL (Re l b lo hi (.fz (.int (((lo + hi) / 2 : Nat) : Int))) (.fz (.int (sgnI (hvI (((lo + hi) / 2 : Nat) : Int) (b : Int) l))))) (Re l b ((lo + hi) / 2) hi (.fz (.int (((lo + hi) / 2 : Nat) : Int))) (.fz (.int (sgnI (hvI (((lo + hi) / 2 : Nat) : Int) (b : Int) l))))) :=
            ex_asg (ev_ifT (evt_b (ev_toB (ev_op (ev_var rfl) ev_c op_I) (decide_eq_true (sgn_neg.mpr hn)))) (ev_tup (eva_cons (ev_var rfl) (eva_cons (ev_var rfl) eva_nil)) rfl)) (evg_t (evgs_cons evg_n (evgs_cons evg_n evgs_nil)) rfl)
          have xa := ex_seq x1 (ex_seq x2 (ex_seq x3 x4))
          rcases rb_loop hl h10 hb0 hb f ((lo + hi) / 2) hi (.fz (.int (((lo + hi) / 2 : Nat) : Int))) (.fz (.int (sgnI (hvI (((lo + hi) / 2 : Nat) : Int) (b : Int) l)))) hm2 (by omega) h3 with ⟨m, a1, a2, a3, a4⟩ | ⟨⟨e, a1⟩, a2⟩
          · refine .inl ⟨m, by omega, a2, a3, fun B => ?_⟩
            rw [goWh_T c]
            exact (xa _).trans (a4 B)
          · refine .inr ⟨⟨e, fun B => ?_⟩, fun m0 q1 q2 q3 q4 q5 => a2 m0 ?_ q2 q3 q4 q5⟩
            · rw [goWh_T c]
              exact (xa _).trans (a1 B)
            · rcases Nat.lt_trichotomy ((lo + hi) / 2) m0 with z | z | z
              · exact z
              · exact absurd (by rw [z]; exact q3) hz
              · have := q5 _ z; omega
        · have x4 : Ex rbL (Re l b lo hi (.fz (.int (((lo + hi) / 2 : Nat) : Int))) (.fz (.int (sgnI (hvI (((lo + hi) / 2 : Nat) : Int) (b : Int) l))))) (Re l b lo ((lo + hi) / 2) (.fz (.int (((lo + hi) / 2 : Nat) : Int))) (.fz (.int (sgnI (hvI (((lo + hi) / 2 : Nat) : Int) (b : Int) l))))) :=
            ex_asg (ev_ifF (evt_b (ev_toB (ev_op (ev_var rfl) ev_c op_I) (decide_eq_false fun z => hn (sgn_neg.mp z)))) (ev_tup (eva_cons (ev_var rfl) (eva_cons (ev_var rfl) eva_nil)) rfl)) (evg_t (evgs_cons evg_n (evgs_cons evg_n evgs_nil)) rfl)
          have xa := ex_seq x1 (ex_seq x2 (ex_seq x3 x4))
          rcases rb_loop hl h10 hb0 hb f lo ((lo + hi) / 2) (.fz (.int (((lo + hi) / 2 : Nat) : Int))) (.fz (.int (sgnI (hvI (((lo + hi) / 2 : Nat) : Int) (b : Int) l)))) hm1 (by omega) (by omega) with ⟨m, a1, a2, a3, a4⟩ | ⟨⟨e, a1⟩, a2⟩
          · refine .inl ⟨m, a1, by omega, a3, fun B => ?_⟩
            rw [goWh_T c]
            exact (xa _).trans (a4 B)
          · refine .inr ⟨⟨e, fun B => ?_⟩, fun m0 q1 q2 q3 q4 q5 => a2 m0 q1 ?_ q3 q4 q5⟩
            · rw [goWh_T c]
              exact (xa _).trans (a1 B)
            · rcases Nat.lt_trichotomy ((lo + hi) / 2) m0 with z | z | z
              · have := q4 _ z; omega
              · exact absurd (by rw [z]; exact q3) hz
              · exact z
    · rw [decide_eq_false hc] at c
      refine .inr ⟨⟨_, fun B => goWh_F c⟩, fun m0 q1 q2 => by omega⟩
theorem s_root {i : List Int} {y : Int} (hy : y ≠ 0) (hl : ∀ x ∈ i ++ [y], x.natAbs < 2 ^ 12) (h10 : (i ++ [y]).length ≤ 10) :
    (∃ m, 0 < m ∧ m < y.natAbs ∧ hvI (m : Int) (y.natAbs : Int) (i ++ [y]) = 0 ∧ Ev (m_root_between [Il (i ++ [y])]) (fr ((m : Rat) / (y.natAbs : Rat)))) ∨
    (Ev (m_root_between [Il (i ++ [y])]) .none ∧ ∀ m0 : Nat, 0 < m0 → m0 < y.natAbs → hvI (m0 : Int) (y.natAbs : Int) (i ++ [y]) = 0 → (∀ m : Nat, m < m0 → hvI (m : Int) (y.natAbs : Int) (i ++ [y]) < 0) → (∀ m : Nat, m0 < m → 0 < hvI (m : Int) (y.natAbs : Int) (i ++ [y])) → False) := by
  have hb := hl y (by simp)
  have hb0 : 0 < y.natAbs := by omega
  have k := k12
  have x0 : Ex rb0 [.fz (Il (i ++ [y])), .no, .no, .no, .no, .no] [.fz (Il (i ++ [y])), .fz (.int (y.natAbs : Int)), .no, .no, .no, .no] := by
    refine ex_asg (ev_to (ev_cb (eva_cons (ev_op (ev_var rfl) (ev_un ev_c op_neg) (op_ixL (x := .int y) ?_)) eva_nil) cb_abs) ?_) evg_n
    · rw [List.map_append]; exact atI_last
    · congr 1
      split <;> omega
  have x1 : Ex rb1 [.fz (Il (i ++ [y])), .fz (.int (y.natAbs : Int)), .no, .no, .no, .no] (Re (i ++ [y]) y.natAbs 0 y.natAbs .no .no) := ex_par (eva_cons ev_c (eva_cons (ev_var rfl) eva_nil))
  unfold m_root_between
  rw [rbeq]
  rcases rb_loop (l := i ++ [y]) (b := y.natAbs) hl h10 hb0 hb 1000000 0 y.natAbs .no .no hb0 (by omega) (Nat.le_refl _) with ⟨m, a1, a2, a3, a4⟩ | ⟨⟨e, a1⟩, a2⟩
  · exact .inl ⟨m, a1, a2, a3, ev_def (rt_seq x0 (rt_seq x1 (rt_now (a := rb2) fun B => by unfold rb2 sWh; exact a4 B)))⟩
  · exact .inr ⟨ev_def (rt_seq x0 (rt_seq x1 (rt_seq (a := rb2) (e1 := e) (fun B => by unfold rb2 sWh; exact a1 B) (rt_ret ev_c)))), a2⟩
end
section
variable {s : Nat} {cs : List Rat} {V : PyData}
def sureB (cs : List Rat) : Bool := !decide (cs.getD 1 0 = 1) && !decide (1 < mn cs)
theorem ev_ixV (hV : V = Fl cs ∨ V = Ft cs) {i : Nat} (hi : i < cs.length) : Ev (gIx V (.int (i : Int))) (fr (cs.getD i 0)) := by
  have e : (cs.map fr)[i]? = some (fr (cs.getD i 0)) := by
    rw [List.getElem?_map, List.getElem?_eq_getElem hi, List.getD_eq_getElem?_getD, List.getElem?_eq_getElem hi]
    rfl
  rcases hV with rfl | rfl
  · exact op_ixL (Dl.atI_nat e)
  · exact op_ixT (Dl.atI_nat e)
theorem s_sure (hV : V = Fl cs ∨ V = Ft cs) (h : COk s cs) : Ev (m_is_sure_of [V]) (.bool (sureB cs)) := by
  have l0 : startE 1 [V] = [.fz V] := by rcases hV with rfl | rfl <;> rfl
  have c1 : EvT (dB (dOp gGt (dCB gLen (aCons (dVar 0) aNil)) (dC (.int 1))) [.fz V]) (decide (1 < cs.length)) := evt_b (ev_toB (ev_op (ev_cb (eva_cons (ev_var rfl) eva_nil) (ev_lenV hV)) ev_c op_I) (decide_eq_decide.mpr (by omega)))
  have bM := h.mbd
  have x2 : Ev (dNotV (dCallN 2 m_is_below (aCons (dC c_ONE) (aCons (dCallN 1 m_mean_by (aCons (dVar 0) aNil)) aNil))) [.fz V]) (.bool (!decide (1 < mn cs))) := ev_notV (ev_call (eva_cons ev_one (eva_cons (ev_call (eva_cons (ev_var rfl) eva_nil) (s_mean hV h.s0 h.s16 h.l65 (by decide) h.sz) rfl) eva_nil)) (ev_below bd_one bM (by decide)) rfl)
  unfold m_is_sure_of
  rw [sueq]
  refine ev_def ?_
  rw [l0]
  by_cases h1 : 1 < cs.length
  · rw [decide_eq_true h1] at c1
    have c2 : EvT (dB (dOp gEq (dOp gIx (dVar 0) (dC (.int 1))) (dC c_ONE)) [.fz V]) (decide (cs.getD 1 0 = 1)) := evt_b (ev_op (ev_op (ev_var rfl) ev_c (ev_ixV hV h1)) ev_one op_eqfr)
    by_cases h2 : cs.getD 1 0 = 1
    · rw [decide_eq_true h2] at c2
      have e : sureB cs = false := by unfold sureB; rw [decide_eq_true h2]; rfl
      rw [e]
      exact rt_now (rt_ifT (evt_andT c1 c2) (rt_ret ev_c))
    · rw [decide_eq_false h2] at c2
      have e : sureB cs = !decide (1 < mn cs) := by unfold sureB; rw [decide_eq_false h2]; rfl
      rw [e]
      exact rt_seq (ex_ifF (evt_andT c1 c2) ex_nil) (rt_ret x2)
  · rw [decide_eq_false h1] at c1
    have h2 : cs.getD 1 0 ≠ 1 := by
      rw [List.getD_eq_getElem?_getD, List.getElem?_eq_none (by omega)]
      decide
    have e : sureB cs = !decide (1 < mn cs) := by unfold sureB; rw [decide_eq_false h2]; rfl
    rw [e]
    exact rt_seq (ex_ifF (evt_andF c1) ex_nil) (rt_ret x2)
end
end Kp

namespace Kp
open PySem PySem.Spec PyProof.Rows L2 Dl
theorem rat_tri (a b : Rat) : a < b ∨ a = b ∨ b < a := by grind
theorem div_nn {a b : Rat} (ha : 0 ≤ a) (hb : 0 < b) : 0 ≤ a / b := by
  refine Rat.not_lt.mp fun hlt => ?_
  have := Rat.mul_lt_mul_of_pos_left hlt hb
  have e : b * (a / b) = a := by grind
  grind
theorem sum_cast : ∀ l : List Int, ((sumI l : Int) : Rat) = sumR (castL l)
  | [] => rfl
  | x :: l => by
    show ((x + sumI l : Int) : Rat) = (x : Rat) + sumR (castL l)
    rw [Rat.intCast_add, sum_cast l]
theorem sfx_cast : ∀ l : List Int, castL (sfxI l) = sfxR (castL l)
  | [] => rfl
  | x :: l => by
    show ((x + sumI l : Int) : Rat) :: castL (sfxI l) = ((x : Rat) + sumR (castL l)) :: sfxR (castL l)
    rw [sfx_cast l, Rat.intCast_add, sum_cast l]
theorem sum_scale (L : Rat) : ∀ l : List Rat, sumR (l.map (L * ·)) = L * sumR l
  | [] => by show (0 : Rat) = L * 0; grind
  | x :: l => by
    show L * x + sumR (l.map (L * ·)) = L * (x + sumR l)
    rw [sum_scale L l]
    grind
theorem sfx_scale (L : Rat) : ∀ l : List Rat, sfxR (l.map (L * ·)) = (sfxR l).map (L * ·)
  | [] => rfl
  | x :: l => by
    show (L * x + sumR (l.map (L * ·))) :: sfxR (l.map (L * ·)) = (L * (x + sumR l)) :: (sfxR l).map (L * ·)
    rw [sfx_scale L l, sum_scale L l]
    congr 1
    grind
theorem nb_scale (t L : Rat) : ∀ l : List Rat, nb t (l.map (L * ·)) = L * nb t l
  | [] => by show (0 : Rat) = L * 0; grind
  | x :: l => by
    show L * x + t * nb t (l.map (L * ·)) = L * (x + t * nb t l)
    rw [nb_scale t L l]
    grind
theorem nb_zerosC (t : Rat) (n : Nat) : ∀ l : List Rat, nb t (l ++ List.replicate n 0) = nb t l
  | [] => by
    show nb t (List.replicate n 0) = 0
    induction n with
    | zero => rfl
    | succ n ih =>
      rw [List.replicate_succ]
      show 0 + t * nb t (List.replicate n 0) = 0
      rw [ih]
      grind
  | c :: l => by
    show c + t * nb t (l ++ List.replicate n 0) = c + t * nb t l
    rw [nb_zerosC t n l]
theorem nb_toldI (t : Rat) (l : List Int) : nb t (castL (toldI l)) = nb t (castL l) := by
  obtain ⟨n, e, _⟩ := toldI_parts l
  have h := congrArg castL e
  have h2 : castL (toldI l ++ List.replicate n 0) = castL (toldI l) ++ List.replicate n 0 := by
    unfold castL
    rw [List.map_append, List.map_replicate]
    rfl
  rw [h2] at h
  rw [h, nb_zerosC]
theorem hv_nb {m b : Nat} (hb : 0 < b) : ∀ l : List Int, ((hvI (m : Int) (b : Int) l : Int) : Rat) * (b : Rat) = ((b ^ l.length : Nat) : Rat) * nb ((m : Rat) / (b : Rat)) (castL l)
  | [] => by show ((0 : Int) : Rat) * (b : Rat) = _ * (0 : Rat); rw [show ((0 : Int) : Rat) = 0 from rfl]; grind
  | x :: l => by
    have ih := hv_nb hb l (m := m)
    have hb' : (b : Rat) ≠ 0 := fun e => by
      have := Rat.natCast_inj.mp (show ((b : Nat) : Rat) = ((0 : Nat) : Rat) from e)
      omega
    show ((hvI (m : Int) (b : Int) l * (m : Int) + x * (b : Int) ^ l.length : Int) : Rat) * (b : Rat) = ((b ^ (l.length + 1) : Nat) : Rat) * ((x : Rat) + ((m : Rat) / (b : Rat)) * nb ((m : Rat) / (b : Rat)) (castL l))
    have e2 : ((b : Int) ^ l.length) = ((b ^ l.length : Nat) : Int) := by rw [Int.natCast_pow]
    rw [e2, Nat.pow_succ, Rat.intCast_add, Rat.intCast_mul, Rat.intCast_mul, Rat.intCast_natCast, Rat.intCast_natCast, Rat.natCast_mul]
    generalize ((hvI (m : Int) (b : Int) l : Int) : Rat) = H at *
    generalize nb ((m : Rat) / (b : Rat)) (castL l) = N at *
    generalize ((b ^ l.length : Nat) : Rat) = P at *
    generalize (b : Rat) = B at *
    generalize (m : Rat) = M at *
    generalize (x : Rat) = X at *
    have e3 : B * (M / B) = M := by grind
    have e4 : P * B * (M / B * N) = M * (P * N) := by grind
    grind
theorem hv_sign {m b : Nat} (hb : 0 < b) (l : List Int) : (hvI (m : Int) (b : Int) l = 0 ↔ nb ((m : Rat) / (b : Rat)) (castL l) = 0) ∧ (hvI (m : Int) (b : Int) l < 0 ↔ nb ((m : Rat) / (b : Rat)) (castL l) < 0) ∧ (0 < hvI (m : Int) (b : Int) l ↔ 0 < nb ((m : Rat) / (b : Rat)) (castL l)) := by
  have e := hv_nb (m := m) hb l
  have hb' : (0 : Rat) < (b : Rat) := by
    have : ((0 : Nat) : Rat) < ((b : Nat) : Rat) := Rat.natCast_lt_natCast.mpr hb
    exact this
  have hp : (0 : Rat) < ((b ^ l.length : Nat) : Rat) := by
    have : ((0 : Nat) : Rat) < ((b ^ l.length : Nat) : Rat) := Rat.natCast_lt_natCast.mpr (Nat.pow_pos hb)
    exact this
  have i0 : (hvI (m : Int) (b : Int) l = 0 ↔ ((hvI (m : Int) (b : Int) l : Int) : Rat) = 0) := ⟨fun h => by rw [h]; rfl, fun h => Rat.intCast_inj.mp (show _ = ((0 : Int) : Rat) from h)⟩
  have i1 : (hvI (m : Int) (b : Int) l < 0 ↔ ((hvI (m : Int) (b : Int) l : Int) : Rat) < 0) := (Rat.intCast_lt_intCast (a := hvI (m : Int) (b : Int) l) (b := 0)).symm
  have i2 : (0 < hvI (m : Int) (b : Int) l ↔ 0 < ((hvI (m : Int) (b : Int) l : Int) : Rat)) := (Rat.intCast_lt_intCast (a := 0) (b := hvI (m : Int) (b : Int) l)).symm
  rw [i0, i1, i2]
  generalize ((hvI (m : Int) (b : Int) l : Int) : Rat) = H at *
  generalize nb ((m : Rat) / (b : Rat)) (castL l) = N at *
  generalize ((b ^ l.length : Nat) : Rat) = P at *
  generalize (b : Rat) = B at *
  have key : ∀ x : Rat, (0 < x → 0 < x * B ∧ 0 < P * x) ∧ (x < 0 → x * B < 0 ∧ P * x < 0) := fun x => ⟨fun h => ⟨Rat.mul_pos h hb', Rat.mul_pos hp h⟩, fun h => by
    have a := Rat.mul_pos (show 0 < -x by grind) hb'
    have b := Rat.mul_pos hp (show 0 < -x by grind)
    constructor <;> grind⟩
  obtain ⟨kH1, kH2⟩ := key H
  obtain ⟨kN1, kN2⟩ := key N
  refine ⟨⟨fun h => ?_, fun h => ?_⟩, ⟨fun h => ?_, fun h => ?_⟩, ⟨fun h => ?_, fun h => ?_⟩⟩
  · rcases rat_tri N 0 with z | z | z
    · have := kN2 z; grind
    · exact z
    · have := kN1 z; grind
  · rcases rat_tri H 0 with z | z | z
    · have := kH2 z; grind
    · exact z
    · have := kH1 z; grind
  · have q := kH2 h
    rcases rat_tri N 0 with z | z | z
    · exact z
    · grind
    · have := kN1 z; grind
  · have q := kN2 h
    rcases rat_tri H 0 with z | z | z
    · exact z
    · grind
    · have := kH1 z; grind
  · have q := kH1 h
    rcases rat_tri N 0 with z | z | z
    · have := kN2 z; grind
    · grind
    · exact z
  · have q := kN1 h
    rcases rat_tri H 0 with z | z | z
    · have := kH2 z; grind
    · grind
    · exact z
theorem ns_scale {L : Nat} : ∀ {l : List Rat}, (∀ c ∈ l, c.den ∣ L) → castL (nsI L l) = l.map ((L : Rat) * ·)
  | [], _ => rfl
  | c :: l, h => by
    show ((c.num * ((L / c.den : Nat) : Int) : Int) : Rat) :: castL (nsI L l) = (L : Rat) * c :: l.map ((L : Rat) * ·)
    rw [nsI_cast (h c List.mem_cons_self), ns_scale fun y hy => h y (List.mem_cons_of_mem _ hy)]
/-- the whole quotient is the quotient so many times -/
theorem wq_scale {L : Nat} {cs : List Rat} (hd : ∀ c ∈ cs, c.den ∣ L) (hs : sumR cs = 1) : castL (sfxI (tI L cs)) = (Qc cs).map ((L : Rat) * ·) := by
  rw [sfx_cast]
  match cs, hd, hs with
  | [], _, hs => exact absurd hs (by decide)
  | [a], _, hs =>
    have hs : a + 0 = 1 := hs
    show [((0 - (L : Int) : Int) : Rat) + 0] = [(L : Rat) * -a]
    rw [Rat.intCast_sub, Rat.intCast_natCast, show ((0 : Int) : Rat) = 0 from rfl]
    congr 1
    grind
  | a :: b :: r, hd, hs =>
    have hs : a + (b + sumR r) = 1 := hs
    have e := ns_scale (L := L) (l := r) fun y hy => hd y (List.mem_cons_of_mem _ (List.mem_cons_of_mem _ hy))
    show (((b.num * ((L / b.den : Nat) : Int) - (L : Int) : Int) : Rat) + sumR (castL (nsI L r))) :: sfxR (castL (nsI L r)) = (L : Rat) * -a :: (sfxR r).map ((L : Rat) * ·)
    rw [e, sum_scale, sfx_scale, Rat.intCast_sub, nsI_cast (hd b (by simp)), Rat.intCast_natCast]
    congr 1
    grind
section
variable {s : Nat} {cs : List Rat} {V : PyData}
theorem COk.chs (h : COk s cs) : Chs cs := ⟨h.nn, h.sm⟩
theorem sfx_le : ∀ {l : List Rat}, (∀ x ∈ l, 0 ≤ x) → ∀ y ∈ sfxR l, 0 ≤ y ∧ y ≤ sumR l
  | x :: l, h, y, hy => by
    have hl : ∀ z ∈ l, 0 ≤ z := fun z hz => h z (List.mem_cons_of_mem _ hz)
    have hx := h x List.mem_cons_self
    have q := (sfx_nn hl).2
    rcases List.mem_cons.mp (show y ∈ (x + sumR l) :: sfxR l from hy) with rfl | hy
    · exact ⟨by grind, Rat.le_refl⟩
    · obtain ⟨a, b⟩ := sfx_le hl y hy
      exact ⟨a, by show y ≤ x + sumR l; grind⟩
theorem qc_unit (h : Chs cs) : ∀ q ∈ Qc cs, -1 ≤ q ∧ q ≤ 1 := fun q hq => by
  have c0 := c0_nn h
  have hn : ∀ x ∈ cs.drop 2, 0 ≤ x := fun x hx => h.nn x (List.mem_of_mem_drop hx)
  match cs, h, c0, hn, hq with
  | [], h, _, _, _ => exact absurd h.sm (by decide)
  | [a], h, c0, _, hq =>
    have s : a + 0 = 1 := h.sm
    have hq := List.mem_singleton.mp (show q ∈ [-a] from hq)
    constructor <;> grind
  | a :: b :: r, h, c0, hn, hq =>
    have s : a + (b + sumR r) = 1 := h.sm
    have ha := h.nn a (by simp)
    have hb := h.nn b (by simp)
    have hr := (sfx_nn (l := r) hn).2
    rcases List.mem_cons.mp (show q ∈ -a :: sfxR r from hq) with rfl | hq
    · constructor <;> grind
    · obtain ⟨x, y⟩ := sfx_le (l := r) hn q hq
      constructor <;> grind
theorem wq_bound (h : COk s cs) : ∀ y ∈ sfxI (tI (Lc cs) cs), y.natAbs ≤ 256 := fun y hy => by
  obtain ⟨d1, d2, d3, d4⟩ := h.lc
  have hm : (y : Rat) ∈ castL (sfxI (tI (Lc cs) cs)) := List.mem_map_of_mem hy
  rw [wq_scale d2 h.sm] at hm
  obtain ⟨q, hq, e⟩ := List.mem_map.mp hm
  obtain ⟨q1, q2⟩ := qc_unit h.chs q hq
  have L0 : (0 : Rat) ≤ ((Lc cs : Nat) : Rat) := Rat.natCast_nonneg
  have m1 := Rat.mul_le_mul_of_nonneg_left q2 L0
  have m2 := Rat.mul_le_mul_of_nonneg_left q1 L0
  have e : ((Lc cs : Nat) : Rat) * q = (y : Rat) := e
  rw [e] at m1 m2
  have z1 : y ≤ ((Lc cs : Nat) : Int) := by
    refine Rat.intCast_le_intCast.mp ?_
    rw [Rat.intCast_natCast]
    grind
  have z2 : -((Lc cs : Nat) : Int) ≤ y := by
    refine Rat.intCast_le_intCast.mp ?_
    rw [Rat.intCast_neg, Rat.intCast_natCast]
    grind
  omega
theorem wq_nb (h : COk s cs) (t : Rat) : nb t (castL (toldI (sfxI (tI (Lc cs) cs)))) = ((Lc cs : Nat) : Rat) * nb t (Qc cs) := by
  rw [nb_toldI, wq_scale h.lc.2.1 h.sm, nb_scale]
theorem sure_root (h : COk s cs) (e : sureB cs = true) : Root cs 1 := by
  unfold sureB at e
  simp only [Bool.and_eq_true, Bool.not_eq_true', decide_eq_false_iff_not] at e
  exact root_one h.chs (by have := e.2; show mnF 0 cs ≤ 1; exact Rat.not_lt.mp this) e.1
theorem not_sure_mean (h : COk s cs) (e : sureB cs = false) (h0 : cs.getD 0 0 ≠ 0) : 1 < mn cs := by
  unfold sureB at e
  by_cases h1 : cs.getD 1 0 = 1
  · exfalso
    match cs, h, h1, h0 with
    | [], h, _, _ => exact absurd h.sm (by decide)
    | [a], h, h1, _ => exact absurd h1 (show ¬ (0 : Rat) = 1 by decide)
    | a :: b :: r, h, h1, h0 =>
      have s : a + (b + sumR r) = 1 := h.sm
      have h1 : b = 1 := h1
      have h0 : a ≠ 0 := h0
      have ha := h.nn a (by simp)
      have hr := (sfx_nn (l := r) fun x hx => h.nn x (List.mem_cons_of_mem _ (List.mem_cons_of_mem _ hx))).2
      grind
  · rw [decide_eq_false h1] at e
    simpa using e
/-- what is known of a death chance -/
structure Death (cs : List Rat) (x : Rat) : Prop where
  rt : Root cs x
  bd : Bd 12 x
  su : sureB cs = true → x = 1
  ns : sureB cs = false → x < 1
theorem s_death (hV : V = Fl cs ∨ V = Ft cs) (h : COk s cs) : (∃ x, Ev (m_death_of [V]) (fr x) ∧ Death cs x) ∨
    (Ev (m_death_of [V]) .none ∧ sureB cs = false ∧ cs.getD 0 0 ≠ 0 ∧ ∀ i y, toldI (sfxI (tI (Lc cs) cs)) = i ++ [y] → ∀ m0 : Nat, 0 < m0 → m0 < y.natAbs → nb ((m0 : Rat) / (y.natAbs : Rat)) (Qc cs) ≠ 0) := by
  have l0 : startE 1 [V] = [.fz V] := by rcases hV with rfl | rfl <;> rfl
  have hs := s_sure hV h
  have hw := s_wq hV h
  obtain ⟨d1, d2, d3, d4⟩ := h.lc
  have k := k12
  have cs1 : EvT (dB (dCallN 1 m_is_sure_of (aCons (dVar 0) aNil)) [.fz V]) (sureB cs) := evt_b (ev_call (eva_cons (ev_var rfl) eva_nil) hs rfl)
  unfold m_death_of
  rw [doeq]
  cases e : sureB cs with
  | true =>
    rw [e] at cs1
    refine .inl ⟨1, ev_def (by rw [l0]; exact rt_now (rt_ifT cs1 (rt_ret ev_one))), sure_root h e, bd_one.mono (by decide), fun _ => rfl, fun z => (by rw [e] at z; cases z)⟩
  | false =>
    rw [e] at cs1
    have x0 : Ex do0 [.fz V] [.fz V] := ex_ifF cs1 ex_nil
    have c2 : EvT (dB (dOp gEq (dOp gIx (dVar 0) (dC (.int 0))) (dC c_NOUGHT)) [.fz V]) (decide (cs.getD 0 0 = 0)) := evt_b (ev_op (ev_op (ev_var rfl) ev_c (ev_ixV hV (i := 0) h.l1)) ev_nought op_eqfr)
    by_cases h0 : cs.getD 0 0 = 0
    · rw [decide_eq_true h0] at c2
      exact .inl ⟨0, ev_def (by rw [l0]; exact rt_seq x0 (rt_now (rt_ifT c2 (rt_ret ev_nought)))), root_zero h.chs h0, bd_zero.mono (by decide), fun z => (by rw [e] at z; cases z), fun _ => by decide⟩
    · rw [decide_eq_false h0] at c2
      have x1 : Ex do1 [.fz V] [.fz V] := ex_ifF c2 ex_nil
      have hm := not_sure_mean h e h0
      have L0 : (0 : Rat) < ((Lc cs : Nat) : Rat) := by
        have : ((0 : Nat) : Rat) < ((Lc cs : Nat) : Rat) := Rat.natCast_lt_natCast.mpr d3
        exact this
      obtain ⟨n, q1, q2⟩ := toldI_parts (sfxI (tI (Lc cs) cs))
      have hin : ∀ y ∈ toldI (sfxI (tI (Lc cs) cs)), y.natAbs < 2 ^ 12 := fun y hy => by
        have := wq_bound h y (by rw [q1]; exact List.mem_append_left _ hy)
        omega
      have hlen : (toldI (sfxI (tI (Lc cs) cs))).length ≤ 10 := by
        have a := congrArg List.length q1
        rw [List.length_append] at a
        have hs : ∀ l : List Int, (sfxI l).length = l.length := fun l => by
          induction l with
          | nil => rfl
          | cons x l ih => show (sfxI l).length + 1 = _; rw [ih]; rfl
        obtain ⟨m1, r, p1, p2, p3⟩ := ns_shape (L := Lc cs) h.l1
        have h5 := h.l5
        have p4 : (tI (Lc cs) cs).length = cs.length - 2 + 1 := by rw [p2, List.length_cons, p3]
        rw [hs, p4] at a
        omega
      have hnb : ∀ t : Rat, nb t (castL (toldI (sfxI (tI (Lc cs) cs)))) = ((Lc cs : Nat) : Rat) * nb t (Qc cs) := wq_nb h
      rcases q2 with q2 | ⟨i, y, q2, hy⟩
      · exfalso
        have := hnb 1
        rw [q2, qc_one h.sm] at this
        have this : (0 : Rat) = ((Lc cs : Nat) : Rat) * (mn cs - 1) := this
        have := Rat.mul_pos L0 (show 0 < mn cs - 1 by grind)
        grind
      · rw [q2] at hin hlen hnb hw
        have y0 : 0 < y.natAbs := by omega
        have hy12 := hin y (by simp)
        have hq0 : ∀ t : Rat, (nb t (castL (i ++ [y])) = 0 ↔ nb t (Qc cs) = 0) := fun t => by
          rw [hnb]
          exact ⟨fun z => (Rat.mul_eq_zero.mp z).resolve_left (by grind), fun z => by rw [z]; grind⟩
        rcases s_root hy hin hlen with ⟨m, m0, m1, hz, ev⟩ | ⟨ev, hc⟩
        · have hr := (hq0 _).mp ((hv_sign y0 (i ++ [y])).1.mp hz)
          have yq : (0 : Rat) < ((y.natAbs : Nat) : Rat) := by
            have : ((0 : Nat) : Rat) < ((y.natAbs : Nat) : Rat) := Rat.natCast_lt_natCast.mpr y0
            exact this
          have mq : (0 : Rat) ≤ ((m : Nat) : Rat) := Rat.natCast_nonneg
          have my : ((m : Nat) : Rat) < ((y.natAbs : Nat) : Rat) := Rat.natCast_lt_natCast.mpr m1
          have x0' : (0 : Rat) ≤ (m : Rat) / (y.natAbs : Rat) := by
            exact div_nn mq yq
          have x1' : (m : Rat) / (y.natAbs : Rat) < 1 := by
            refine Rat.not_le.mp fun hle => ?_
            have := Rat.mul_le_mul_of_nonneg_left hle (Rat.le_of_lt yq)
            have e3 : ((y.natAbs : Nat) : Rat) * ((m : Rat) / ((y.natAbs : Nat) : Rat)) = (m : Rat) := by grind
            grind
          have bd : Bd 12 ((m : Rat) / (y.natAbs : Rat)) := by
            have e4 : (m : Rat) / ((y.natAbs : Nat) : Rat) = mkRat (m : Int) y.natAbs := by rw [Rat.mkRat_eq_div, Rat.intCast_natCast]
            rw [e4]
            exact bd_mk (by omega) (by rw [Int.natAbs_natCast]; omega) hy12
          refine .inl ⟨_, ev_def (by rw [l0]; exact rt_seq x0 (rt_seq x1 (rt_ret (ev_call (eva_cons (ev_call (eva_cons (ev_var rfl) eva_nil) hw rfl) eva_nil) ev rfl)))), (root_of h.chs h0 x0' x1' hr).1, bd, fun z => (by rw [e] at z; cases z), fun _ => x1'⟩
        · refine .inr ⟨ev_def (by rw [l0]; exact rt_seq x0 (rt_seq x1 (rt_ret (ev_call (eva_cons (ev_call (eva_cons (ev_var rfl) eva_nil) hw rfl) eva_nil) ev rfl)))), rfl, h0, fun i' y' he m0 hm0 hm1 hz => ?_⟩
          rw [q2] at he
          have hyy : y' = y := by
            have := List.append_inj_right' he rfl
            simp at this
            exact this.symm
          rw [hyy] at hm1 hz
          have yq : (0 : Rat) < ((y.natAbs : Nat) : Rat) := by
            have : ((0 : Nat) : Rat) < ((y.natAbs : Nat) : Rat) := Rat.natCast_lt_natCast.mpr y0
            exact this
          have x0' : (0 : Rat) ≤ (m0 : Rat) / (y.natAbs : Rat) := by
            exact div_nn Rat.natCast_nonneg yq
          have my : ((m0 : Nat) : Rat) < ((y.natAbs : Nat) : Rat) := Rat.natCast_lt_natCast.mpr hm1
          have dl : ∀ a b : Nat, a < b → (a : Rat) / (y.natAbs : Rat) < (b : Rat) / (y.natAbs : Rat) := fun a b hab => by
            refine Rat.not_le.mp fun hle => ?_
            have := Rat.mul_le_mul_of_nonneg_left hle (Rat.le_of_lt yq)
            have hab : ((a : Nat) : Rat) < ((b : Nat) : Rat) := Rat.natCast_lt_natCast.mpr hab
            have e3 : ((y.natAbs : Nat) : Rat) * ((a : Rat) / ((y.natAbs : Nat) : Rat)) = (a : Rat) := by grind
            have e4 : ((y.natAbs : Nat) : Rat) * ((b : Rat) / ((y.natAbs : Nat) : Rat)) = (b : Rat) := by grind
            grind
          have x1' : (m0 : Rat) / (y.natAbs : Rat) < 1 := by
            have := dl m0 y.natAbs hm1
            have e3 : ((y.natAbs : Nat) : Rat) / ((y.natAbs : Nat) : Rat) = 1 := by grind
            rw [e3] at this
            exact this
          obtain ⟨_, r2, r3⟩ := root_of h.chs h0 x0' x1' hz
          refine hc m0 hm0 hm1 ((hv_sign y0 _).1.mpr ((hq0 _).mpr hz)) (fun m hlt => (hv_sign y0 _).2.1.mpr ?_) (fun m hlt => (hv_sign y0 _).2.2.mpr ?_)
          · rw [hnb]
            have p0 : (0 : Rat) ≤ (m : Rat) / (y.natAbs : Rat) := by
              exact div_nn Rat.natCast_nonneg yq
            have := r2 _ p0 (dl m m0 hlt)
            have := Rat.mul_pos L0 (show 0 < -(nb ((m : Rat) / (y.natAbs : Rat)) (Qc cs)) by grind)
            grind
          · rw [hnb]
            exact Rat.mul_pos L0 (r3 _ (dl m0 m hlt))
theorem s_death_chance (hV : V = Fl cs ∨ V = Ft cs) (h : COk s cs) {d : PyData} (e : Ev (m_death_of [V]) d) : Ev (m_death_chance [V]) d := by
  have l0 : startE 1 [V] = [.fz V] := by rcases hV with rfl | rfl <;> rfl
  unfold m_death_chance
  rw [dceq]
  exact ev_def (by rw [l0]; exact rt_seq (ex_expr (ev_call (eva_cons (ev_var rfl) eva_nil) (s_check hV h) rfl)) (rt_ret (ev_call (eva_cons (ev_var rfl) eva_nil) e rfl)))
end
end Kp

namespace Kp
open PySem PySem.Spec PyProof.Rows L2 Dl
/-! chances of all ever born, by powers of one whole number -/
def csN (S : Nat) (ps : List Nat) : List Rat := ps.map fun p : Nat => (p : Rat) / (S : Rat)
def evB (B : Nat) : List Nat → Nat
  | [] => 0
  | x :: l => x + B * evB B l
theorem evB_digit {B : Nat} (hB : 0 < B) : ∀ (l : List Nat) (j : Nat), (∀ x ∈ l, x < B) → evB B l / B ^ j % B = l.getD j 0
  | [], j, _ => by
    show 0 / B ^ j % B = _
    rw [Nat.zero_div, Nat.zero_mod]
    rfl
  | x :: l, 0, h => by
    have hx := h x List.mem_cons_self
    show (x + B * evB B l) / B ^ 0 % B = x
    rw [Nat.pow_zero, Nat.div_one, Nat.add_mul_mod_self_left, Nat.mod_eq_of_lt hx]
  | x :: l, j + 1, h => by
    have hx := h x List.mem_cons_self
    show (x + B * evB B l) / B ^ (j + 1) % B = l.getD j 0
    rw [Nat.pow_succ, Nat.mul_comm (B ^ j) B, ← Nat.div_div_eq_div_mul, Nat.add_mul_div_left _ _ hB, Nat.div_eq_of_lt hx, Nat.zero_add]
    exact evB_digit hB l j fun y hy => h y (List.mem_cons_of_mem _ hy)
theorem nat_of {s k : Nat} (hs : 0 < s) : ∀ l : List Rat, (∀ x ∈ l, Sz s k 1 x) → (∀ x ∈ l, 0 ≤ x) → ∃ q : List Nat, l = q.map (fun a : Nat => (a : Rat) / ((s ^ k : Nat) : Rat)) ∧ ∀ a ∈ q, a ≤ s ^ k
  | [], _, _ => ⟨[], rfl, fun a h => by cases h⟩
  | x :: l, h, hn => by
    obtain ⟨q, e, hq⟩ := nat_of hs l (fun y hy => h y (List.mem_cons_of_mem _ hy)) fun y hy => hn y (List.mem_cons_of_mem _ hy)
    obtain ⟨z, hz, hb⟩ := h x List.mem_cons_self
    have x0 := hn x List.mem_cons_self
    have hp : (0 : Rat) < ((s ^ k : Nat) : Rat) := by
      have : ((0 : Nat) : Rat) < ((s ^ k : Nat) : Rat) := Rat.natCast_lt_natCast.mpr (Nat.pow_pos hs)
      exact this
    have z0 : 0 ≤ z := by
      have a0 := Rat.mul_nonneg (Rat.le_of_lt hp) x0
      have e : ((s ^ k : Nat) : Rat) * x = (z : Rat) := by rw [hz]; generalize ((s ^ k : Nat) : Rat) = d at *; grind
      rw [e] at a0
      exact Rat.intCast_nonneg.mp a0
    obtain ⟨a, rfl⟩ : ∃ a : Nat, z = (a : Int) := ⟨z.toNat, by omega⟩
    refine ⟨a :: q, ?_, fun b hb' => ?_⟩
    · rw [List.map_cons, ← e, hz, Rat.intCast_natCast]
    · rcases List.mem_cons.mp hb' with rfl | hb'
      · rw [Int.natAbs_natCast, Nat.one_mul] at hb; exact hb
      · exact hq b hb'
theorem nb_evB (B : Nat) (D : Rat) : ∀ q : List Nat, nb (B : Rat) (q.map fun a : Nat => (a : Rat) / D) = ((evB B q : Nat) : Rat) / D
  | [] => by
    show (0 : Rat) = ((0 : Nat) : Rat) / D
    rw [show ((0 : Nat) : Rat) = 0 from rfl, Rat.div_def]
    grind
  | x :: q => by
    show (x : Rat) / D + (B : Rat) * nb (B : Rat) (q.map fun a : Nat => (a : Rat) / D) = ((x + B * evB B q : Nat) : Rat) / D
    rw [nb_evB B D q, Rat.natCast_add, Rat.natCast_mul, Rat.div_def, Rat.div_def, Rat.div_def]
    grind
theorem pw_frac {a S : Nat} (hS : 0 < S) : ∀ n, pw ((a : Rat) / (S : Rat)) n = ((a ^ n : Nat) : Rat) / ((S ^ n : Nat) : Rat)
  | 0 => by
    show (1 : Rat) = ((1 : Nat) : Rat) / ((1 : Nat) : Rat)
    decide +kernel
  | n + 1 => by
    show pw ((a : Rat) / (S : Rat)) n * ((a : Rat) / (S : Rat)) = _
    have h1 := pw_ne hS n
    have h2 : (S : Rat) ≠ 0 := fun e => by
      have := Rat.natCast_inj.mp (show ((S : Nat) : Rat) = ((0 : Nat) : Rat) from e)
      omega
    rw [pw_frac hS n, Nat.pow_succ, Nat.pow_succ, Rat.natCast_mul, Rat.natCast_mul]
    generalize ((a ^ n : Nat) : Rat) = x
    generalize ((S ^ n : Nat) : Rat) = y at *
    generalize (a : Rat) = u
    generalize (S : Rat) = v at *
    grind
theorem nb_pwr (x : Rat) {b : List Rat} (hb : 1 ≤ b.length) : ∀ n, nb x (pwr b n) = pw (nb x b) n ∧ 1 ≤ (pwr b n).length
  | 0 => ⟨by show 1 + x * 0 = (1 : Rat); grind, Nat.le_refl 1⟩
  | n + 1 => by
    obtain ⟨a, c⟩ := nb_pwr x hb n
    refine ⟨?_, by show 1 ≤ (pr (pwr b n) b).length; rw [pr_len]; omega⟩
    show nb x (pr (pwr b n) b) = pw (nb x b) n * nb x b
    rw [nb_pr x c hb, a]
abbrev KB : Nat := 281474976710656
section
variable {ps : List Nat} {S : Nat}
theorem pwr_coef (h : COk S (csN S ps)) (h15 : S ≤ 15) {n : Nat} (hn : n ≤ 12) (j : Nat) : (pwr (csN S ps) n).getD j 0 = ((evB KB ps ^ n / KB ^ j % KB : Nat) : Rat) / ((S ^ n : Nat) : Rat) := by
  have hS := h.s0
  have hc := pwr_ch h.s0 h.s16 h.ch0 h.l5 (by decide) n (by omega)
  rw [Nat.one_mul] at hc
  obtain ⟨q, e, hq⟩ := nat_of hS (pwr (csN S ps) n) hc.sz hc.nn
  have hSn : S ^ n < KB := Nat.lt_of_le_of_lt (Nat.le_trans (Nat.pow_le_pow_left h15 n) (Nat.pow_le_pow_right (by decide) hn)) (by decide)
  have e1 := (nb_pwr (KB : Rat) h.l1 n).1
  rw [e, nb_evB, show nb (KB : Rat) (csN S ps) = ((evB KB ps : Nat) : Rat) / (S : Rat) from nb_evB KB (S : Rat) ps, pw_frac hS] at e1
  have hne := pw_ne hS n
  have e2 : evB KB q = evB KB ps ^ n := by
    refine Rat.natCast_inj.mp ?_
    generalize ((evB KB q : Nat) : Rat) = u at *
    generalize ((evB KB ps ^ n : Nat) : Rat) = v at *
    generalize ((S ^ n : Nat) : Rat) = w at *
    have a1 : w * (u / w) = u := by grind
    have a2 : w * (v / w) = v := by grind
    rw [← a1, ← a2, e1]
  have e3 := evB_digit (B := KB) (by decide) q j fun x hx => Nat.lt_of_le_of_lt (hq x hx) hSn
  rw [e2] at e3
  rw [e3, e, List.getD_eq_getElem?_getD, List.getD_eq_getElem?_getD, List.getElem?_map]
  cases q[j]? with
  | none =>
    show (0 : Rat) = ((0 : Nat) : Rat) / _
    rw [show ((0 : Nat) : Rat) = 0 from rfl, Rat.div_def]
    grind
  | some a => rfl
/-- the chance that so many ever live -/
def born (cs : List Rat) (n : Nat) : Rat := (pwr cs n).getD (n - 1) 0 / (n : Rat)
def adF (cs : List Rat) : Nat → Rat
  | 0 => 0
  | n + 1 => adF cs n + born cs (n + 1)
/-- the same in whole numbers, E the number of the parts -/
def adN (E S : Nat) : Nat → Nat
  | 0 => 0
  | n + 1 => adN E S n * S + E ^ (n + 1) / KB ^ n % KB * (27720 / (n + 1))
theorem ad_eq (h : COk S (csN S ps)) (h15 : S ≤ 15) : ∀ n, n ≤ 12 → adF (csN S ps) n = ((adN (evB KB ps) S n : Nat) : Rat) / ((27720 * S ^ n : Nat) : Rat)
  | 0, _ => by
    show (0 : Rat) = ((0 : Nat) : Rat) / _
    rw [show ((0 : Nat) : Rat) = 0 from rfl, Rat.div_def]
    grind
  | n + 1, hn => by
    have hS := h.s0
    show adF (csN S ps) n + (pwr (csN S ps) (n + 1)).getD n 0 / ((n + 1 : Nat) : Rat) = ((adN (evB KB ps) S n * S + evB KB ps ^ (n + 1) / KB ^ n % KB * (27720 / (n + 1)) : Nat) : Rat) / _
    rw [ad_eq h h15 n (by omega), pwr_coef h h15 hn n]
    obtain ⟨q, hq⟩ : ∃ q, 27720 = (n + 1) * q := by
      have hd : ∀ n, n < 12 → (n + 1) ∣ 27720 := by decide
      exact hd n (by omega)
    have e1 : 27720 / (n + 1) = q := by rw [hq, Nat.mul_div_cancel_left _ (by omega)]
    have h1 := pw_ne hS n
    have h2 : (S : Rat) ≠ 0 := fun e => by
      have := Rat.natCast_inj.mp (show ((S : Nat) : Rat) = ((0 : Nat) : Rat) from e)
      omega
    have h3 : ((n + 1 : Nat) : Rat) ≠ 0 := fun e => by
      have := Rat.natCast_inj.mp (show ((n + 1 : Nat) : Rat) = ((0 : Nat) : Rat) from e)
      omega
    have h4 : ((27720 : Nat) : Rat) ≠ 0 := by decide +kernel
    have h5 : ((27720 : Nat) : Rat) = ((n + 1 : Nat) : Rat) * (q : Rat) := by rw [← Rat.natCast_mul, ← hq]
    have hK : ((27720 * S ^ n : Nat) : Rat) = ((27720 : Nat) : Rat) * ((S ^ n : Nat) : Rat) := Rat.natCast_mul ..
    have hK2 : ((27720 * S ^ (n + 1) : Nat) : Rat) = ((27720 : Nat) : Rat) * (((S ^ n : Nat) : Rat) * (S : Rat)) := by rw [Nat.pow_succ, Rat.natCast_mul, Rat.natCast_mul]
    have hS2 : ((S ^ (n + 1) : Nat) : Rat) = ((S ^ n : Nat) : Rat) * (S : Rat) := by rw [Nat.pow_succ, Rat.natCast_mul]
    rw [e1, hK, hK2, hS2]
    generalize adN (evB KB ps) S n = A
    generalize evB KB ps ^ (n + 1) / KB ^ n % KB = C
    have hA : ((A * S + C * q : Nat) : Rat) = (A : Rat) * (S : Rat) + (C : Rat) * (q : Rat) := by rw [Rat.natCast_add, Rat.natCast_mul, Rat.natCast_mul]
    rw [hA]
    generalize ((27720 : Nat) : Rat) = K at *
    generalize ((S ^ n : Nat) : Rat) = P at *
    generalize (S : Rat) = s at *
    generalize ((n + 1 : Nat) : Rat) = m at *
    generalize (q : Rat) = Q at *
    generalize (A : Rat) = a
    generalize (C : Rat) = c
    have hQ : Q ≠ 0 := fun z => h4 (by rw [h5, z]; grind)
    rw [h5]
    grind
def hgN (N D : Nat) : List Nat → Nat
  | [] => 0
  | p :: l => p * D ^ (l.length + 1) + N * hgN N D l
theorem hg_eq {N D : Nat} (hS : 0 < S) (hD : 0 < D) : ∀ l : List Nat, nb ((N : Rat) / (D : Rat)) (csN S l) = ((hgN N D l : Nat) : Rat) / ((S * D ^ l.length : Nat) : Rat)
  | [] => by
    show (0 : Rat) = ((0 : Nat) : Rat) / _
    rw [show ((0 : Nat) : Rat) = 0 from rfl, Rat.div_def]
    grind
  | p :: l => by
    show (p : Rat) / (S : Rat) + (N : Rat) / (D : Rat) * nb ((N : Rat) / (D : Rat)) (csN S l) = ((p * D ^ (l.length + 1) + N * hgN N D l : Nat) : Rat) / ((S * D ^ (l.length + 1) : Nat) : Rat)
    rw [hg_eq hS hD l]
    have h1 := pw_ne hD l.length
    have h2 := pw_ne hS 1
    have h3 := pw_ne hD 1
    rw [Nat.pow_one] at h2 h3
    have e1 : ((S * D ^ l.length : Nat) : Rat) = (S : Rat) * ((D ^ l.length : Nat) : Rat) := Rat.natCast_mul ..
    have e2 : ((S * D ^ (l.length + 1) : Nat) : Rat) = (S : Rat) * (((D ^ l.length : Nat) : Rat) * (D : Rat)) := by rw [Nat.pow_succ, Rat.natCast_mul, Rat.natCast_mul]
    have e3 : ((p * D ^ (l.length + 1) + N * hgN N D l : Nat) : Rat) = (p : Rat) * (((D ^ l.length : Nat) : Rat) * (D : Rat)) + (N : Rat) * ((hgN N D l : Nat) : Rat) := by rw [Nat.pow_succ, Rat.natCast_add, Rat.natCast_mul, Rat.natCast_mul, Rat.natCast_mul]
    rw [e1, e2, e3]
    generalize ((hgN N D l : Nat) : Rat) = H
    generalize ((D ^ l.length : Nat) : Rat) = P at *
    generalize (S : Rat) = s at *
    generalize (D : Rat) = d at *
    generalize (N : Rat) = n at *
    generalize (p : Rat) = x at *
    grind
def mnN : Nat → List Nat → Nat
  | _, [] => 0
  | n, p :: l => p * n + mnN (n + 1) l
theorem mn_eq : ∀ (l : List Nat) (n : Nat), mnF n (csN S l) = ((mnN n l : Nat) : Rat) / (S : Rat)
  | [], n => by
    show (0 : Rat) = ((0 : Nat) : Rat) / _
    rw [show ((0 : Nat) : Rat) = 0 from rfl, Rat.div_def]
    grind
  | p :: l, n => by
    show (p : Rat) / (S : Rat) * ((n : Int) : Rat) + mnF (n + 1) (csN S l) = ((p * n + mnN (n + 1) l : Nat) : Rat) / (S : Rat)
    rw [mn_eq l (n + 1), Rat.natCast_add, Rat.natCast_mul, Rat.intCast_natCast, Rat.div_def, Rat.div_def, Rat.div_def]
    grind
/-- the test -/
def chkB (ps : List Nat) : Bool :=
  frN ps.sum fun S => frN (evB KB ps) fun E => frN (adN E S 12) fun N => frN (27720 * S ^ 12) fun D =>
    Nat.beq N 0 || (Nat.blt N D && frN (hgN N D ps) fun H => Nat.blt (N * (S * D ^ ps.length)) (H * D)) || (Nat.ble N D && Nat.ble (mnN 0 ps) S && !Nat.beq (ps.getD 1 0) S)
theorem not_below (h : COk ps.sum (csN ps.sum ps)) (h15 : ps.sum ≤ 15) (hc : chkB ps = true) {x : Rat} (hx : Death (csN ps.sum ps) x) : ¬ x < adF (csN ps.sum ps) 12 := fun hlt => by
  have hS := h.s0
  have e := ad_eq h h15 12 (by decide)
  unfold chkB at hc
  simp only [frN_eq] at hc
  generalize hN : adN (evB KB ps) ps.sum 12 = N at *
  have hD : 0 < 27720 * ps.sum ^ 12 := Nat.mul_pos (by decide) (Nat.pow_pos hS)
  generalize 27720 * ps.sum ^ 12 = D at *
  have dq : (0 : Rat) < (D : Rat) := by
    have : ((0 : Nat) : Rat) < ((D : Nat) : Rat) := Rat.natCast_lt_natCast.mpr hD
    exact this
  have hle : N ≤ D → (N : Rat) / (D : Rat) ≤ 1 := fun hle => by
    refine Rat.not_lt.mp fun hl => ?_
    have := Rat.mul_lt_mul_of_pos_left hl dq
    have q : ((N : Nat) : Rat) ≤ ((D : Nat) : Rat) := Rat.natCast_le_natCast.mpr hle
    have e2 : (D : Rat) * ((N : Rat) / (D : Rat)) = (N : Rat) := by grind
    grind
  rw [e] at hlt
  have x0 := hx.rt.x0
  simp only [Bool.or_eq_true, Bool.and_eq_true, Bool.not_eq_true'] at hc
  rcases hc with (hc | ⟨c1, c2⟩) | ⟨⟨c1, c2⟩, c3⟩
  · have : N = 0 := Nat.eq_of_beq_eq_true hc
    rw [this] at hlt
    have e0 : ((0 : Nat) : Rat) / (D : Rat) = 0 := by rw [show ((0 : Nat) : Rat) = 0 from rfl, Rat.div_def]; grind
    rw [e0] at hlt
    grind
  · have q1 : N < D := Nat.le_of_ble_eq_true c1
    have q2 : N * (ps.sum * D ^ ps.length) < hgN N D ps * D := Nat.le_of_ble_eq_true c2
    have a1 := hx.rt.hi _ (Rat.le_of_lt hlt) (hle (Nat.le_of_lt q1))
    rw [hg_eq hS hD] at a1
    have hP : 0 < ps.sum * D ^ ps.length := Nat.mul_pos hS (Nat.pow_pos hD)
    generalize ps.sum * D ^ ps.length = P at *
    generalize hgN N D ps = H at *
    have pq : (0 : Rat) < (P : Rat) := by
      have : ((0 : Nat) : Rat) < ((P : Nat) : Rat) := Rat.natCast_lt_natCast.mpr hP
      exact this
    have q3 : ((N * P : Nat) : Rat) < ((H * D : Nat) : Rat) := Rat.natCast_lt_natCast.mpr q2
    rw [Rat.natCast_mul, Rat.natCast_mul] at q3
    have b1 := Rat.mul_le_mul_of_nonneg_left a1 (Rat.le_of_lt (Rat.mul_pos pq dq))
    have e3 : (P : Rat) * (D : Rat) * ((H : Rat) / (P : Rat)) = (H : Rat) * (D : Rat) := by
      generalize (P : Rat) = p at *
      generalize (D : Rat) = d at *
      generalize (H : Rat) = u at *
      grind
    have e4 : (P : Rat) * (D : Rat) * ((N : Rat) / (D : Rat)) = (N : Rat) * (P : Rat) := by
      generalize (P : Rat) = p at *
      generalize (D : Rat) = d at *
      generalize (N : Rat) = u at *
      grind
    rw [e3, e4] at b1
    grind
  · have q1 : N ≤ D := Nat.le_of_ble_eq_true c1
    have q2 : mnN 0 ps ≤ ps.sum := Nat.le_of_ble_eq_true c2
    have q3 : ps.getD 1 0 ≠ ps.sum := fun z => by
      rw [z] at c3
      have : Nat.beq ps.sum ps.sum = true := by simp
      rw [this] at c3
      cases c3
    have sq : (0 : Rat) < (ps.sum : Rat) := by
      have : ((0 : Nat) : Rat) < ((ps.sum : Nat) : Rat) := Rat.natCast_lt_natCast.mpr hS
      exact this
    have s1 : sureB (csN ps.sum ps) = true := by
      unfold sureB
      have m1 : ¬ 1 < mn (csN ps.sum ps) := by
        show ¬ 1 < mnF 0 (csN ps.sum ps)
        rw [mn_eq]
        intro hl
        have := Rat.mul_lt_mul_of_pos_left hl sq
        have q : ((mnN 0 ps : Nat) : Rat) ≤ ((ps.sum : Nat) : Rat) := Rat.natCast_le_natCast.mpr q2
        have e2 : ((ps.sum : Nat) : Rat) * (((mnN 0 ps : Nat) : Rat) / ((ps.sum : Nat) : Rat)) = ((mnN 0 ps : Nat) : Rat) := by grind
        grind
      have m2 : (csN ps.sum ps).getD 1 0 ≠ 1 := by
        unfold csN
        intro hz
        apply q3
        rw [List.getD_eq_getElem?_getD, List.getElem?_map] at hz
        rw [List.getD_eq_getElem?_getD]
        cases hq : ps[1]? with
        | none => rw [hq] at hz; exact absurd hz (show ¬ (0 : Rat) = 1 by decide)
        | some a =>
          rw [hq] at hz
          have hz : (a : Rat) / ((ps.sum : Nat) : Rat) = 1 := hz
          show a = ps.sum
          refine Rat.natCast_inj.mp ?_
          have e2 : ((ps.sum : Nat) : Rat) * ((a : Rat) / ((ps.sum : Nat) : Rat)) = (a : Rat) := by grind
          rw [hz] at e2
          grind
      rw [decide_eq_false m1, decide_eq_false m2]
      rfl
    have := hx.su s1
    have := hle q1
    grind
end
end Kp

namespace Kp
open Dl
/-! maths of the death chance's neighbours -/
def lipB : Nat → Nat
  | 0 => 0
  | n + 1 => n + lipB n
theorem sum_unit : ∀ {l : List Rat}, (∀ x ∈ l, 0 ≤ x ∧ x ≤ 1) → 0 ≤ sumR l ∧ sumR l ≤ ((l.length : Nat) : Rat)
  | [], _ => ⟨Rat.le_refl, Rat.le_refl⟩
  | x :: l, h => by
    obtain ⟨a, b⟩ := h x List.mem_cons_self
    obtain ⟨c, d⟩ := sum_unit (l := l) fun y hy => h y (List.mem_cons_of_mem _ hy)
    show 0 ≤ x + sumR l ∧ x + sumR l ≤ (((l.length + 1 : Nat)) : Rat)
    rw [Rat.natCast_add]
    have e : ((1 : Nat) : Rat) = 1 := rfl
    rw [e]
    constructor <;> grind
theorem lip {t : Rat} (t0 : 0 ≤ t) (t1 : t ≤ 1) : ∀ {l : List Rat}, (∀ x ∈ l, 0 ≤ x ∧ x ≤ 1) → 0 ≤ nb 1 l - nb t l ∧ nb 1 l - nb t l ≤ (1 - t) * ((lipB l.length : Nat) : Rat)
  | [], _ => by
    show (0 : Rat) ≤ 0 - 0 ∧ (0 : Rat) - 0 ≤ (1 - t) * ((0 : Nat) : Rat)
    have e : ((0 : Nat) : Rat) = 0 := rfl
    rw [e]
    constructor <;> grind
  | x :: l, h => by
    have hl : ∀ y ∈ l, 0 ≤ y ∧ y ≤ 1 := fun y hy => h y (List.mem_cons_of_mem _ hy)
    obtain ⟨a, b⟩ := lip t0 t1 hl
    obtain ⟨c, d⟩ := sum_unit hl
    have n1 : nb 1 l = sumR l := nb_one l
    show 0 ≤ x + 1 * nb 1 l - (x + t * nb t l) ∧ x + 1 * nb 1 l - (x + t * nb t l) ≤ (1 - t) * ((l.length + lipB l.length : Nat) : Rat)
    have e1 : x + 1 * nb 1 l - (x + t * nb t l) = (1 - t) * nb 1 l + t * (nb 1 l - nb t l) := by grind
    have p1 : 0 ≤ (1 - t) * nb 1 l := Rat.mul_nonneg (by grind) (by rw [n1]; exact c)
    have p2 : 0 ≤ t * (nb 1 l - nb t l) := Rat.mul_nonneg t0 a
    have p3 : (1 - t) * nb 1 l ≤ (1 - t) * ((l.length : Nat) : Rat) := Rat.mul_le_mul_of_nonneg_left (by rw [n1]; exact d) (by grind)
    have p4 : t * (nb 1 l - nb t l) ≤ 1 * (nb 1 l - nb t l) := Rat.mul_le_mul_of_nonneg_right t1 a
    rw [e1, Rat.natCast_add]
    constructor <;> grind
section
variable {cs : List Rat}
theorem sfx_len : ∀ l : List Rat, (sfxR l).length = l.length
  | [] => rfl
  | x :: l => by show (sfxR l).length + 1 = _; rw [sfx_len l]; rfl
theorem rr_unit (h : Chs cs) : ∀ q ∈ sfxR (cs.drop 2), 0 ≤ q ∧ q ≤ 1 := fun q hq => by
  have hn : ∀ x ∈ cs.drop 2, 0 ≤ x := fun x hx => h.nn x (List.mem_of_mem_drop hx)
  obtain ⟨a, b⟩ := sfx_le hn q hq
  have u : ∀ q ∈ Qc cs, -1 ≤ q ∧ q ≤ 1 := qc_unit h
  exact ⟨a, (u q (List.mem_cons_of_mem _ hq)).2⟩
/-- the quotient falls off slowly below 1 -/
theorem qc_lip (h : Chs cs) (h5 : cs.length ≤ 5) {t : Rat} (t0 : 0 ≤ t) (t1 : t ≤ 1) : nb 1 (Qc cs) - nb t (Qc cs) ≤ (1 - t) * 6 := by
  have hu : ∀ x ∈ (0 : Rat) :: sfxR (cs.drop 2), 0 ≤ x ∧ x ≤ 1 := fun x hx => by
    rcases List.mem_cons.mp hx with rfl | hx
    · exact ⟨Rat.le_refl, by decide⟩
    · exact rr_unit h x hx
  have := (lip t0 t1 hu).2
  have hlen : ((0 : Rat) :: sfxR (cs.drop 2)).length ≤ 4 := by
    rw [List.length_cons, sfx_len, List.length_drop]; omega
  have hB : lipB ((0 : Rat) :: sfxR (cs.drop 2)).length ≤ 6 := by
    generalize ((0 : Rat) :: sfxR (cs.drop 2)).length = n at hlen
    match n, hlen with
    | 0, _ => decide
    | 1, _ => decide
    | 2, _ => decide
    | 3, _ => decide
    | 4, _ => decide
  have hB' : ((lipB ((0 : Rat) :: sfxR (cs.drop 2)).length : Nat) : Rat) ≤ ((6 : Nat) : Rat) := Rat.natCast_le_natCast.mpr hB
  have m := Rat.mul_le_mul_of_nonneg_left hB' (show 0 ≤ 1 - t by grind)
  have e6 : ((6 : Nat) : Rat) = 6 := rfl
  rw [e6] at m
  have q1 : nb 1 (Qc cs) = -(cs.getD 0 0) + 1 * Rr cs 1 := qc_eq 1
  have q2 : nb t (Qc cs) = -(cs.getD 0 0) + t * Rr cs t := qc_eq t
  have this : (0 : Rat) + 1 * Rr cs 1 - (0 + t * Rr cs t) ≤ (1 - t) * ((lipB ((0 : Rat) :: sfxR (cs.drop 2)).length : Nat) : Rat) := this
  rw [q1, q2]
  grind
/-- who does not die surely has a live paper by halves -/
def lx : Nat → Rat
  | 0 => 0
  | k + 1 => (lx k + 1) / 2
theorem lx_unit : ∀ k, 0 ≤ lx k ∧ lx k < 1
  | 0 => ⟨Rat.le_refl, by decide⟩
  | k + 1 => by
    obtain ⟨a, b⟩ := lx_unit k
    have e : lx (k + 1) = (lx k + 1) / 2 := rfl
    have e2 : 2 * ((lx k + 1) / 2) = lx k + 1 := by grind
    rw [e]
    constructor <;> grind
theorem lx_sz : ∀ k, Sz 2 k 1 (lx k)
  | 0 => (Sz.zero (by decide) 0).up (by decide) (Nat.le_refl _) (by decide)
  | k + 1 => by
    obtain ⟨a, b⟩ := lx_unit (k + 1)
    have h := ((lx_sz k).up (k := k) (n := 1) (by decide) (Nat.le_refl _) (Nat.le_refl _)).add (Sz.one (by decide) k)
    have h2 : Sz 2 (k + 1) 4 (lx (k + 1)) := by
      obtain ⟨z, e, hz⟩ := h
      refine ⟨z, ?_, Nat.le_trans hz ?_⟩
      · show (lx k + 1) / 2 = _
        have h1 := pw_ne (s := 2) (by decide) k
        rw [e, Nat.pow_succ, Rat.natCast_mul]
        have e2 : ((2 : Nat) : Rat) = 2 := rfl
        rw [e2]
        generalize ((2 ^ k : Nat) : Rat) = d at *
        generalize (z : Rat) = c at *
        grind
      · rw [Nat.pow_succ]
        have := Nat.two_pow_pos k
        omega
    exact sz_unit (by decide) h2 a (Rat.le_of_lt b)
theorem live_11 (h : Chs cs) (h5 : cs.length ≤ 5) {s : Nat} (hs : 0 < s) (hs4 : s ≤ 256) (hz : Sz s 1 4160 (mnF 0 cs)) (hm : 1 < mnF 0 cs) : nb (lx 11) cs ≤ lx 11 := by
  have e := qc_one h.sm
  have hq : (1 : Rat) / 256 ≤ nb 1 (Qc cs) := by
    rw [e]
    obtain ⟨z, hz, _⟩ := hz
    rw [Nat.pow_one] at hz
    have sq : (0 : Rat) < ((s : Nat) : Rat) := by
      have : ((0 : Nat) : Rat) < ((s : Nat) : Rat) := Rat.natCast_lt_natCast.mpr hs
      exact this
    have s4 : ((s : Nat) : Rat) ≤ ((256 : Nat) : Rat) := Rat.natCast_le_natCast.mpr hs4
    have e256 : ((256 : Nat) : Rat) = 256 := rfl
    rw [e256] at s4
    have e1 : ((s : Nat) : Rat) * mnF 0 cs = (z : Rat) := by rw [hz]; generalize ((s : Nat) : Rat) = d at *; generalize (z : Rat) = c; grind
    have m1 := Rat.mul_lt_mul_of_pos_left hm sq
    rw [e1] at m1
    have z1 : ((s : Nat) : Int) < z := by
      refine Rat.intCast_lt_intCast.mp ?_
      rw [Rat.intCast_natCast]
      grind
    have z2 : (((s : Nat) : Int) + 1 : Int) ≤ z := z1
    have z3 : ((((s : Nat) : Int) + 1 : Int) : Rat) ≤ (z : Rat) := Rat.intCast_le_intCast.mpr z2
    rw [Rat.intCast_add, Rat.intCast_natCast, show ((1 : Int) : Rat) = 1 from rfl] at z3
    refine Rat.not_lt.mp fun hlt => ?_
    have a0 : 0 < mnF 0 cs - 1 := by grind
    have a1 : ((s : Nat) : Rat) * (mnF 0 cs - 1) ≤ 256 * (mnF 0 cs - 1) := Rat.mul_le_mul_of_nonneg_right s4 (Rat.le_of_lt a0)
    grind
  have hl := qc_lip h h5 (lx_unit 11).1 (Rat.le_of_lt (lx_unit 11).2)
  have ex : lx 11 = 2047 / 2048 := by decide +kernel
  refine above_of_nn h (Rat.le_of_lt (lx_unit 11).2) ?_
  rw [ex] at hl ⊢
  grind
/-- numbers of numbers -/
def itF (cs : List Rat) : Nat → Rat
  | 0 => 0
  | n + 1 => nb (itF cs n) cs
theorem nb_range (h : Chs cs) {x : Rat} (x0 : 0 ≤ x) (x1 : x ≤ 1) : 0 ≤ nb x cs ∧ nb x cs ≤ 1 := by
  obtain ⟨a, b⟩ := nb_mono x0 x1 (l := cs) h.nn
  rw [nb_one, h.sm] at b
  exact ⟨a, b⟩
theorem it_unit (h : Chs cs) : ∀ n, 0 ≤ itF cs n ∧ itF cs n ≤ 1
  | 0 => ⟨Rat.le_refl, show (0 : Rat) ≤ 1 by decide⟩
  | n + 1 => nb_range h (it_unit h n).1 (it_unit h n).2
theorem it_mono (h : Chs cs) : ∀ n, itF cs n ≤ itF cs (n + 1)
  | 0 => (it_unit h 1).1
  | n + 1 => (nb_mono (it_unit h n).1 (it_mono h n) (l := cs) h.nn).2
theorem it_root (h : Chs cs) {x : Rat} (hx : Root cs x) : ∀ n, itF cs n ≤ x
  | 0 => hx.x0
  | n + 1 => by
    have := (nb_mono (it_unit h n).1 (it_root h hx n) (l := cs) h.nn).2
    rw [hx.eq] at this
    exact this
theorem root_unique {x y : Rat} (hx : Root cs x) (hy : Root cs y) : x = y := by
  rcases rat_tri x y with h | h | h
  · have := hy.lo x hx.x0 h
    rw [hx.eq] at this
    grind
  · exact h
  · have := hx.lo y hy.x0 h
    rw [hy.eq] at this
    grind
/-- halves -/
def btF (cs : List Rat) : Nat → Rat × Rat
  | 0 => (0, 1)
  | n + 1 => if ((btF cs n).1 + (btF cs n).2) / 2 < nb (((btF cs n).1 + (btF cs n).2) / 2) cs then (((btF cs n).1 + (btF cs n).2) / 2, (btF cs n).2) else ((btF cs n).1, ((btF cs n).1 + (btF cs n).2) / 2)
abbrev midF (cs : List Rat) (n : Nat) : Rat := ((btF cs n).1 + (btF cs n).2) / 2
theorem half2 (a : Rat) : 2 * (a / 2) = a := by grind
structure BtOk (cs : List Rat) (n : Nat) : Prop where
  a0 : 0 ≤ (btF cs n).1
  ab : (btF cs n).1 ≤ (btF cs n).2
  b1 : (btF cs n).2 ≤ 1
  sa : Sz 2 n 1 (btF cs n).1
  sb : Sz 2 n 1 (btF cs n).2
theorem sz_half {n : Nat} {a b : Rat} (ha : Sz 2 n 1 a) (hb : Sz 2 n 1 b) (h0 : 0 ≤ (a + b) / 2) (h1 : (a + b) / 2 ≤ 1) : Sz 2 (n + 1) 1 ((a + b) / 2) := by
  have h2 : Sz 2 (n + 1) 2 ((a + b) / 2) := by
    obtain ⟨z, e, hz⟩ := ha.add hb
    refine ⟨z, ?_, Nat.le_trans hz ?_⟩
    · have h1 := pw_ne (s := 2) (by decide) n
      rw [e, Nat.pow_succ, Rat.natCast_mul]
      have e2 : ((2 : Nat) : Rat) = 2 := rfl
      rw [e2]
      generalize ((2 ^ n : Nat) : Rat) = d at *
      generalize (z : Rat) = c at *
      grind
    · rw [Nat.pow_succ]
      have := Nat.two_pow_pos n
      omega
  exact sz_unit (by decide) h2 h0 h1
theorem bt_ok : ∀ n, BtOk cs n
  | 0 => ⟨Rat.le_refl, by show (0 : Rat) ≤ 1; decide, Rat.le_refl, (Sz.zero (by decide) 0).up (by decide) (Nat.le_refl _) (by decide), Sz.one (by decide) 0⟩
  | n + 1 => by
    obtain ⟨a0, ab, b1, sa, sb⟩ := bt_ok n
    have hm := half2 ((btF cs n).1 + (btF cs n).2)
    have m0 : 0 ≤ ((btF cs n).1 + (btF cs n).2) / 2 := by grind
    have m1 : ((btF cs n).1 + (btF cs n).2) / 2 ≤ 1 := by grind
    have sm := sz_half sa sb m0 m1
    have ma : (btF cs n).1 ≤ ((btF cs n).1 + (btF cs n).2) / 2 := by grind
    have mb : ((btF cs n).1 + (btF cs n).2) / 2 ≤ (btF cs n).2 := by grind
    by_cases h : ((btF cs n).1 + (btF cs n).2) / 2 < nb (((btF cs n).1 + (btF cs n).2) / 2) cs
    · have e : btF cs (n + 1) = (((btF cs n).1 + (btF cs n).2) / 2, (btF cs n).2) := if_pos h
      refine ⟨?_, ?_, ?_, ?_, ?_⟩ <;> rw [e]
      · exact m0
      · exact mb
      · exact b1
      · exact sm
      · exact sb.up (by decide) (by omega) (Nat.le_refl _)
    · have e : btF cs (n + 1) = ((btF cs n).1, ((btF cs n).1 + (btF cs n).2) / 2) := if_neg h
      refine ⟨?_, ?_, ?_, ?_, ?_⟩ <;> rw [e]
      · exact a0
      · exact ma
      · exact m1
      · exact sa.up (by decide) (by omega) (Nat.le_refl _)
      · exact sm
theorem bt_gap : ∀ n, ((btF cs n).2 - (btF cs n).1) * ((2 ^ n : Nat) : Rat) = 1
  | 0 => by
    show ((1 : Rat) - 0) * ((1 : Nat) : Rat) = 1
    decide +kernel
  | n + 1 => by
    have ih := bt_gap n
    have hm := half2 ((btF cs n).1 + (btF cs n).2)
    rw [Nat.pow_succ, Rat.natCast_mul]
    have e2 : ((2 : Nat) : Rat) = 2 := rfl
    rw [e2]
    generalize ((2 ^ n : Nat) : Rat) = d at *
    by_cases h : ((btF cs n).1 + (btF cs n).2) / 2 < nb (((btF cs n).1 + (btF cs n).2) / 2) cs
    · have e : btF cs (n + 1) = (((btF cs n).1 + (btF cs n).2) / 2, (btF cs n).2) := if_pos h
      rw [e]
      grind
    · have e : btF cs (n + 1) = ((btF cs n).1, ((btF cs n).1 + (btF cs n).2) / 2) := if_neg h
      rw [e]
      grind
theorem bt_root {x : Rat} (hx : Root cs x) : ∀ n, (btF cs n).1 ≤ x ∧ x ≤ (btF cs n).2
  | 0 => ⟨hx.x0, hx.x1⟩
  | n + 1 => by
    obtain ⟨p, q⟩ := bt_root hx n
    obtain ⟨a0, ab, b1, _, _⟩ := bt_ok (cs := cs) n
    have hm := half2 ((btF cs n).1 + (btF cs n).2)
    have m0 : 0 ≤ ((btF cs n).1 + (btF cs n).2) / 2 := by grind
    have m1 : ((btF cs n).1 + (btF cs n).2) / 2 ≤ 1 := by grind
    by_cases h : ((btF cs n).1 + (btF cs n).2) / 2 < nb (((btF cs n).1 + (btF cs n).2) / 2) cs
    · have e : btF cs (n + 1) = (((btF cs n).1 + (btF cs n).2) / 2, (btF cs n).2) := if_pos h
      rw [e]
      refine ⟨Rat.not_lt.mp fun hl => ?_, q⟩
      have := hx.hi _ (Rat.le_of_lt hl) m1
      grind
    · have e : btF cs (n + 1) = ((btF cs n).1, ((btF cs n).1 + (btF cs n).2) / 2) := if_neg h
      rw [e]
      refine ⟨p, Rat.not_lt.mp fun hl => ?_⟩
      exact h (hx.lo _ m0 hl)
/-- the dying chances -/
def dueF (x : Rat) : Nat → List Rat → List Rat
  | _, [] => []
  | i, c :: l => (c * pw x i / x) :: dueF x (i + 1) l
theorem due_nb {x : Rat} (hx : x ≠ 0) (t : Rat) : ∀ (l : List Rat) (i : Nat), x * nb t (dueF x i l) = pw x i * nb (x * t) l
  | [], i => by show x * 0 = pw x i * 0; grind
  | c :: l, i => by
    have ih := due_nb hx t l (i + 1)
    show x * (c * pw x i / x + t * nb t (dueF x (i + 1) l)) = pw x i * (c + x * t * nb (x * t) l)
    have e : pw x (i + 1) = pw x i * x := rfl
    rw [e] at ih
    have e1 : x * (c * pw x i / x) = c * pw x i := by grind
    have e2 : x * (c * pw x i / x + t * nb t (dueF x (i + 1) l)) = x * (c * pw x i / x) + t * (x * nb t (dueF x (i + 1) l)) := by grind
    rw [e2, e1, ih]
    grind
theorem due_len (x : Rat) : ∀ (l : List Rat) (i : Nat), (dueF x i l).length = l.length
  | [], _ => rfl
  | c :: l, i => by show (dueF x (i + 1) l).length + 1 = _; rw [due_len x l]; rfl
theorem pw_nn {x : Rat} (h : 0 ≤ x) : ∀ n, 0 ≤ pw x n
  | 0 => by show (0 : Rat) ≤ 1; decide
  | n + 1 => Rat.mul_nonneg (pw_nn h n) h
theorem due_nn {x : Rat} (hx : 0 < x) : ∀ (l : List Rat) (i : Nat), (∀ c ∈ l, 0 ≤ c) → ∀ y ∈ dueF x i l, 0 ≤ y
  | c :: l, i, h, y, hy => by
    rcases List.mem_cons.mp (show y ∈ (c * pw x i / x) :: dueF x (i + 1) l from hy) with rfl | hy
    · exact div_nn (Rat.mul_nonneg (h c List.mem_cons_self) (pw_nn (Rat.le_of_lt hx) i)) hx
    · exact due_nn hx l (i + 1) (fun z hz => h z (List.mem_cons_of_mem _ hz)) y hy
theorem due_chs (h : Chs cs) {x : Rat} (hx : Root cs x) (h0 : 0 < x) : Chs (dueF x 0 cs) := by
  have hn : x ≠ 0 := by grind
  refine ⟨due_nn h0 cs 0 h.nn, ?_⟩
  have e := due_nb hn 1 cs 0
  have e1 : pw x 0 = 1 := rfl
  rw [nb_one, e1, show x * 1 = x by grind, hx.eq] at e
  grind
/-- they die surely -/
theorem due_sure (h : Chs cs) (h5 : cs.length ≤ 5) {x : Rat} (hx : Root cs x) (h0 : 0 < x) (hc : cs.getD 0 0 ≠ 0) : sureB (dueF x 0 cs) = true := by
  have hn : x ≠ 0 := by grind
  have hd := due_chs h hx h0
  have l5 : (dueF x 0 cs).length ≤ 5 := by rw [due_len]; exact h5
  have e1 : pw x 0 = 1 := rfl
  have lt : ∀ t, 0 ≤ t → t < 1 → nb t (Qc (dueF x 0 cs)) < 0 := fun t t0 t1 => by
    have e := due_nb hn t cs 0
    rw [e1] at e
    have xt : x * t < x := by
      have := Rat.mul_lt_mul_of_pos_left t1 h0
      grind
    have lo := hx.lo (x * t) (Rat.mul_nonneg (Rat.le_of_lt h0) t0) xt
    have q := qc_nb hd.sm t
    have hpos : 0 < nb t (dueF x 0 cs) - t := by
      refine Rat.not_le.mp fun hle => ?_
      have := Rat.mul_le_mul_of_nonneg_left hle (Rat.le_of_lt h0)
      grind
    rw [← q] at hpos
    refine Rat.not_le.mp fun hle => ?_
    have := Rat.mul_nonneg (show 0 ≤ 1 - t by grind) hle
    grind
  have hmean : mnF 0 (dueF x 0 cs) ≤ 1 := by
    refine Rat.not_lt.mp fun hlt => ?_
    have q1 := qc_one hd.sm
    have hpos : 0 < nb 1 (Qc (dueF x 0 cs)) := by rw [q1]; grind
    -- t so near to 1 that the fall is less
    have hle1 : nb 1 (Qc (dueF x 0 cs)) ≤ 6 := by
      have a := qc_lip hd l5 (t := 0) Rat.le_refl (by decide)
      have b := lt 0 Rat.le_refl (by decide)
      grind
    have et : 12 * (nb 1 (Qc (dueF x 0 cs)) / 12) = nb 1 (Qc (dueF x 0 cs)) := by grind
    generalize nb 1 (Qc (dueF x 0 cs)) / 12 = d at et
    have d0 : 0 < d := by grind
    have t0 : 0 ≤ 1 - d := by grind
    have a := qc_lip hd l5 t0 (by grind)
    have b := lt (1 - d) t0 (by grind)
    grind
  have h1 : (dueF x 0 cs).getD 1 0 ≠ 1 := by
    have hc0 := c0_nn h
    match cs, h, hc, hc0 with
    | [], h, _, _ => exact absurd h.sm (by decide)
    | [a], h, _, _ => exact show ¬ (0 : Rat) = 1 by decide
    | a :: b :: r, h, hc, hc0 =>
      intro hz
      have hz : b * (1 * x) / x = 1 := hz
      have s : a + (b + sumR r) = 1 := h.sm
      have hr := (sfx_nn (l := r) fun y hy => h.nn y (List.mem_cons_of_mem _ (List.mem_cons_of_mem _ hy))).2
      have hc : a ≠ 0 := hc
      have hc0 : 0 ≤ a := hc0
      have e : b * (1 * x) / x = b := by grind
      rw [e] at hz
      grind
  unfold sureB
  rw [decide_eq_false h1, decide_eq_false (show ¬ 1 < mn (dueF x 0 cs) from Rat.not_lt.mpr hmean)]
  rfl
end
end Kp

namespace Kp
open PySem PySem.Spec PyProof.Rows L2 Dl
def cq0 : DS := (sOwn 1 (fLc (iRange1 (dOp gAdd (dC (.int 1)) (dCallN 2 m__law_draw (aPot 0 (aCons (dC (.int 5)) aNil))))) (gN 2) dYes (dCallN 2 m__law_pick (aPot 0 (aCons (dLst (aCons (dC (.int 0)) (aCons (dC (.int 1)) (aCons (dC (.int 1)) (aCons (dC (.int 2)) (aCons (dC (.int 3)) aNil)))))) aNil))) [2]))
def cq1 : DS := (sIf (dBorT [1] (dB (dOp gEq (dCB gSum2 (aCons (dVar 1) aNil)) (dC (.int 0))))) (sSetIx 1 (dBor [1] (dCallN 2 m__law_draw (aPot 0 (aCons (dCB gLen (aCons (dVar 1) aNil)) aNil)))) (dC (.int 1))) sNil)
def cq2_0 : DS := (sRet (dLc (iSeq (dVar 1)) (gN 3) dYes (dCallN 2 m__law_plain (aCons (dVar 3) (aCons (dCB gSum2 (aCons (dVar 1) aNil)) aNil))) [3]))
def cq2 : DS := sFrz 1 cq2_0
def cqt1 : DS := sSeq cq1 cq2
def cqt0 : DS := sSeq cq0 cqt1
theorem cqeq : b__law_children = cqt0 := rfl
theorem nz {n : Nat} (hn : 0 < n) : ((n : Nat) : Rat) ≠ 0 := fun e => by
  have := Rat.natCast_inj.mp (show ((n : Nat) : Rat) = ((0 : Nat) : Rat) from e)
  omega
/-! children drawn -/
structure POk (ps : List Nat) : Prop where
  l1 : 1 ≤ ps.length
  l5 : ps.length ≤ 5
  m3 : ∀ x ∈ ps, x ≤ 3
  s0 : 0 < ps.sum
theorem mem_sum : ∀ {ps : List Nat}, ∀ x ∈ ps, x ≤ ps.sum
  | y :: ps, x, h => by
    rw [List.sum_cons]
    rcases List.mem_cons.mp h with rfl | h
    · omega
    · have := mem_sum x h; omega
theorem sum_le3 : ∀ {ps : List Nat}, (∀ x ∈ ps, x ≤ 3) → ps.sum ≤ 3 * ps.length
  | [], _ => by decide
  | y :: ps, h => by
    rw [List.sum_cons, List.length_cons]
    have := h y List.mem_cons_self
    have := sum_le3 (ps := ps) fun x hx => h x (List.mem_cons_of_mem _ hx)
    omega
theorem sum_csN (S : Nat) : ∀ l : List Nat, sumR (csN S l) = ((l.sum : Nat) : Rat) / (S : Rat)
  | [] => by
    show (0 : Rat) = ((0 : Nat) : Rat) / _
    rw [show ((0 : Nat) : Rat) = 0 from rfl, Rat.div_def]
    grind
  | x :: l => by
    show (x : Rat) / (S : Rat) + sumR (csN S l) = (((x :: l).sum : Nat) : Rat) / (S : Rat)
    rw [sum_csN S l, List.sum_cons, Rat.natCast_add, Rat.div_def, Rat.div_def, Rat.div_def]
    grind
theorem POk.s15 {ps : List Nat} (h : POk ps) : ps.sum ≤ 15 := Nat.le_trans (sum_le3 h.m3) (by have := h.l5; omega)
theorem cok_of {ps : List Nat} (l1 : 1 ≤ ps.length) (l5 : ps.length ≤ 5) (s0 : 0 < ps.sum) (s16 : ps.sum ≤ 256) : COk ps.sum (csN ps.sum ps) := by
  refine ⟨s0, s16, by unfold csN; rw [List.length_map]; exact l1, by unfold csN; rw [List.length_map]; exact l5, fun x hx => ?_, fun x hx => ?_, ?_⟩
  · obtain ⟨p, hp, rfl⟩ := List.mem_map.mp hx
    refine ⟨(p : Int), by rw [Nat.pow_one, Rat.intCast_natCast], ?_⟩
    rw [Int.natAbs_natCast, Nat.pow_one, Nat.one_mul]
    exact mem_sum p hp
  · obtain ⟨p, hp, rfl⟩ := List.mem_map.mp hx
    refine div_nn Rat.natCast_nonneg ?_
    have : ((0 : Nat) : Rat) < ((ps.sum : Nat) : Rat) := Rat.natCast_lt_natCast.mpr s0
    exact this
  · rw [sum_csN]
    have := nz s0
    grind
theorem POk.cok {ps : List Nat} (h : POk ps) : COk ps.sum (csN ps.sum ps) := cok_of h.l1 h.l5 h.s0 (Nat.le_trans h.s15 (by decide))
abbrev Nl (l : List Nat) : List PyData := l.map fun n : Nat => PyData.int (n : Int)
theorem ints_nats : ∀ l : List Nat, intsOf (Nl l) = some (l.map fun n : Nat => (n : Int))
  | [] => rfl
  | x :: l => by
    show (match intsOf (Nl l) with
      | some ns => some ((x : Int) :: ns)
      | none => none) = _
    rw [ints_nats l]
    rfl
theorem sum_nats : ∀ l : List Nat, (l.map fun n : Nat => (n : Int)).sum = ((l.sum : Nat) : Int)
  | [] => rfl
  | x :: l => by
    rw [List.map_cons, List.sum_cons, List.sum_cons, sum_nats l, Int.natCast_add]
theorem cb_sumN {l : List Nat} : Ev (gSum2 [.list (Nl l)]) (.int ((l.sum : Nat) : Int)) := fun k => by
  unfold gSum2
  simp only [ints_nats, sum_nats]
abbrev fiveL : DE := dLst (aCons (dC (.int 0)) (aCons (dC (.int 1)) (aCons (dC (.int 1)) (aCons (dC (.int 2)) (aCons (dC (.int 3)) aNil)))))
theorem kids_go {k : KF} : ∀ (xs : List PyData) (acc : List PyData), (∀ l : List Nat, l.length = xs.length → (∀ x ∈ l, x ≤ 3) → k (.list (acc.reverse ++ Nl l)) = true) → goLc (gN 2) dYes (dCallN 2 m__law_pick (aPot 0 (aCons fiveL aNil))) [.pt, .no, .no, .no] xs acc k = true
  | [], acc, q => by
    have := q [] rfl (fun x h => by cases h)
    rw [show Nl [] = [] from rfl, List.append_nil] at this
    exact this
  | x :: xs, acc, q => by
    show m__law_pick [potD, .list [.int 0, .int 1, .int 1, .int 2, .int 3]] (fun y => goLc (gN 2) dYes (dCallN 2 m__law_pick (aPot 0 (aCons fiveL aNil))) [.pt, .no, .no, .no] xs (y :: acc) k) = true
    refine pick_all (by simp) (by decide) fun y hy => ?_
    have hy : ∃ n : Nat, y = .int (n : Int) ∧ n ≤ 3 := by
      simp only [List.mem_cons, List.not_mem_nil, or_false] at hy
      rcases hy with rfl | rfl | rfl | rfl | rfl
      · exact ⟨0, rfl, by decide⟩
      · exact ⟨1, rfl, by decide⟩
      · exact ⟨1, rfl, by decide⟩
      · exact ⟨2, rfl, by decide⟩
      · exact ⟨3, rfl, by decide⟩
    obtain ⟨n, rfl, hn⟩ := hy
    refine kids_go xs _ fun l hl hm => ?_
    have := q (n :: l) (by simp [hl]) (fun z hz => by
      rcases List.mem_cons.mp hz with rfl | hz
      · exact hn
      · exact hm z hz)
    rw [List.reverse_cons, List.append_assoc]
    exact this
theorem k_lc' {it : DI} {tg : DG} {tt : DT} {el : DE} {vs : List Nat} {i : Nat} {t : DS} {B : DEnds} {env : Sls} : sSeq (sOwn i (fLc it tg tt el vs)) t B env = it env fun xs => match small xs.length with
    | true => goLc tg tt el (wipeE env vs) xs [] fun d => match d with
      | .list ds => t B (env.set i (.ow ds))
      | _ => false
    | false => false := rfl
theorem k_setdraw {t : DS} {B : DEnds} {l : List PyData} : sSeq (sSetIx 1 (dBor [1] (dCallN 2 m__law_draw (aPot 0 (aCons (dCB gLen (aCons (dVar 1) aNil)) aNil)))) (dC (.int 1))) t B [.pt, .ow l, .no, .no] = mDraw [potD, .int (l.length : Int)] fun d => match noList d with
    | true => (match d with
      | .int z => (match ixN l.length z with
        | some n => t B [.pt, .ow (l.set n (.int 1)), .no, .no]
        | none => false)
      | _ => false)
    | false => false := rfl
theorem k_if {c : DT} {a b t : DS} {B : DEnds} {env : Sls} : sSeq (sIf c a b) t B env = c env fun x => match x with
    | true => sSeq a t B env
    | false => sSeq b t B env := by
  unfold sSeq sIf
  congr 1
theorem draw_len {n : Nat} {k : KF} (h1 : 1 ≤ n) (h9 : n ≤ 1000000) (q : ∀ c : Nat, c < n → k (.int (c : Int)) = true) : mDraw [potD, .int (n : Int)] k = true := by
  obtain ⟨m, rfl⟩ : ∃ m, n = m + 1 := ⟨n - 1, by omega⟩
  show (match Nat.ble m 1000000000 with
      | true => allB (m + 1) fun c => k (.int (Int.ofNat c))
      | false => false) = true
  simp only [Nat.ble_eq_true_of_le (show m ≤ 1000000000 by omega)]
  exact allB_of fun c hc => q c hc
theorem kids_end {k : KF} {ps : List Nat} (h : POk ps) (q : k (Fl (csN ps.sum ps)) = true) : cq2 { nx := fun _ => k .none, rt := k, bk := fun _ => false, ct := fun _ => false } [.pt, .ow (Nl ps), .no, .no] = true := by
  have h5 := h.l5
  have h15 := h.s15
  have k4 : (2 : Nat) ^ 4 = 16 := by decide
  have x : Rt cq2 [.pt, .ow (Nl ps), .no, .no] (Fl (csN ps.sum ps)) := by
    have e : (csN ps.sum ps).map fr = ps.map fun p : Nat => fr (((p : Int) : Rat) / ((ps.sum : Nat) : Rat)) := by
      unfold csN
      rw [List.map_map]
      refine List.map_congr_left fun p _ => ?_
      show fr ((p : Rat) / _) = fr (((p : Int) : Rat) / _)
      rw [Rat.intCast_natCast]
    show Rt cq2 _ (PyData.list ((csN ps.sum ps).map fr))
    rw [e]
    refine rt_frz (e1 := [.pt, .fz (.list (Nl ps)), .no, .no]) rfl (rt_ret (ev_lc (evi_seqL (ev_var rfl)) (evlc_map (f := fun n : Nat => PyData.int (n : Int)) fun p hp => ?_) (by rw [List.length_map]; exact small_le (m := 20) (by omega))))
    have hp3 := h.m3 p hp
    exact ⟨_, evg_n, ev_call (eva_cons (ev_var rfl) (eva_cons (ev_cb (eva_cons (ev_var rfl) eva_nil) cb_sumN) eva_nil)) (ev_plain (n := 4) (m := 4) (by have := h.s0; omega) (by omega) (by rw [Int.natAbs_natCast]; omega) (by decide) (by decide)) rfl⟩
  rw [x]
  exact q
theorem t_kids {k : KF} (q : ∀ ps, POk ps → k (Fl (csN ps.sum ps)) = true) : m__law_children [potD] k = true := by
  unfold m__law_children
  rw [k_mOf, cqeq]
  unfold cqt0 cq0
  rw [k_lc']
  refine range_draw (n := 4) rfl (by decide) fun c hc => ?_
  rw [show small ((List.range (c + 1)).map fun i : Nat => PyData.int (i : Int)).length = true by rw [List.length_map, List.length_range]; exact small_le (m := 20) (by omega)]
  refine kids_go _ [] fun l hl h3 => ?_
  rw [List.length_map, List.length_range] at hl
  show cqt1 _ [.pt, .ow (Nl l), .no, .no] = true
  unfold cqt1 cq1
  rw [k_if]
  have c1 : EvT (dBorT [1] (dB (dOp gEq (dCB gSum2 (aCons (dVar 1) aNil)) (dC (.int 0)))) [.pt, .ow (Nl l), .no, .no]) (decide (l.sum = 0)) := by
    refine evt_borT (env' := [.pt, .fz (.list (Nl l)), .no, .no]) rfl (evt_b (ev_toB (ev_op (ev_cb (eva_cons (ev_var rfl) eva_nil) cb_sumN) ev_c op_eqI) ?_))
    rw [eqI_eq]
    by_cases h : l.sum = 0
    · rw [h]; rfl
    · rw [decide_eq_false h]
      exact beq_false_of_ne (by omega)
  rw [c1]
  by_cases h0 : l.sum = 0
  · rw [decide_eq_true h0]
    show sSeq (sSetIx 1 _ _) _ _ _ = true
    rw [k_setdraw]
    rw [List.length_map]
    refine draw_len (by omega) (by omega) fun i hi => ?_
    have hx : ixN l.length (i : Int) = some i := ixN_lt hi
    show (match ixN l.length (i : Int) with
        | some n => cq2 _ [.pt, .ow ((Nl l).set n (.int 1)), .no, .no]
        | none => false) = true
    rw [hx]
    have e : (Nl l).set i (.int 1) = Nl (l.set i 1) := by
      unfold Nl
      rw [List.map_set]
      rfl
    show cq2 _ [.pt, .ow ((Nl l).set i (.int 1)), .no, .no] = true
    rw [e]
    have hp : POk (l.set i 1) := by
      refine ⟨by rw [List.length_set]; omega, by rw [List.length_set]; omega, fun x hx => ?_, ?_⟩
      · rcases List.mem_or_eq_of_mem_set hx with hx | rfl
        · exact h3 x hx
        · decide
      · have : 1 ∈ l.set i 1 := List.mem_set hi 1
        have := mem_sum 1 this
        omega
    exact kids_end hp (q _ hp)
  · rw [decide_eq_false h0]
    have hp : POk l := ⟨by omega, by omega, h3, by omega⟩
    exact kids_end hp (q _ hp)
end Kp

namespace Kp
open PySem PySem.Spec PyProof.Rows L2 Dl
def il0 : DS := (sIf (dOr (dNot (dB (dCallN 1 m_is_fraction_of (aCons (dVar 1) aNil)))) (dOr (dB (dOp gLt (dOp gIx (dVar 1) (dC (.int 0))) (dC (.int 0)))) (dNot (dB (dCallN 2 m_is_below (aCons (dVar 1) (aCons (dC c_ONE) aNil))))))) (sRet (dC (.bool false))) sNil)
def il1 : DS := (sRet (dNotV (dCallN 2 m_is_below (aCons (dVar 1) (aCons (dCallN 2 m_number_of (aCons (dVar 0) (aCons (dVar 1) aNil))) aNil)))))
def ilt0 : DS := sSeq il0 il1
theorem ileq : b_is_live_of = ilt0 := rfl
def mi0 : DS := (sRet (dCallN 2 m_divide (aCons (dCallN 2 m_add (aCons (dVar 0) (aCons (dVar 1) aNil))) (aCons (dTup (aCons (dC (.int 2)) (aCons (dC (.int 1)) aNil))) aNil))))
theorem mieq : b_middle_of = mi0 := rfl
def db0 : DS := (sExpr (dCallN 1 m_check_children (aCons (dVar 0) aNil)))
def db1 : DS := (sExpr (dCallN 3 m_check_number (aCons (dVar 1) (aCons (dC (.int 0)) (aCons (dC c_MOST_DEAD) aNil)))))
def db2 : DS := (sAsg (dC c_NOUGHT) (gN 2))
def db3_0 : DS := (sAsg (dCallN 2 m_number_of (aCons (dVar 0) (aCons (dVar 2) aNil))) (gN 2))
def db3 : DS := sFor (iRange1 (dVar 1)) (gN 3) db3_0
def db4 : DS := (sRet (dVar 2))
def dbt3 : DS := sSeq db3 db4
def dbt2 : DS := sSeq db2 dbt3
def dbt1 : DS := sSeq db1 dbt2
def dbt0 : DS := sSeq db0 dbt1
theorem dbeq : b_dead_by = dbt0 := rfl
def lp0 : DS := (sExpr (dCallN 1 m_check_children (aCons (dVar 0) aNil)))
def lp1 : DS := (sIf (dB (dCallN 1 m_is_sure_of (aCons (dVar 0) aNil))) (sRet (dC .none)) sNil)
def lp2 : DS := (sAsg (dC c_NOUGHT) (gN 1))
def lp3 : DS := (sWh 1000000 (dNot (dB (dCallN 2 m_is_live_of (aCons (dVar 0) (aCons (dVar 1) aNil))))) (sAsg (dCallN 2 m_middle_of (aCons (dVar 1) (aCons (dC c_ONE) aNil))) (gN 1)))
def lp4 : DS := (sRet (dVar 1))
def lpt3 : DS := sSeq lp3 lp4
def lpt2 : DS := sSeq lp2 lpt3
def lpt1 : DS := sSeq lp1 lpt2
def lpt0 : DS := sSeq lp0 lpt1
theorem lpeq : b_live_paper = lpt0 := rfl
def ip0 : DS := (sExpr (dCallN 1 m_check_children (aCons (dVar 0) aNil)))
def ip1 : DS := (sRet (dCallN 2 m_is_live_of (aCons (dVar 0) (aCons (dVar 1) aNil))))
def ipt0 : DS := sSeq ip0 ip1
theorem ipeq : b_is_live_paper = ipt0 := rfl
def dn0 : DS := (sExpr (dCallN 1 m_check_children (aCons (dVar 0) aNil)))
def dn1 : DS := (sExpr (dCallN 3 m_check_number (aCons (dVar 1) (aCons (dC (.int 0)) (aCons (dC c_MOST_HALVED) aNil)))))
def dn2 : DS := (sPar 2 3 (aCons (dC c_NOUGHT) (aCons (dC c_ONE) aNil)))
def dn3_0 : DS := (sAsg (dCallN 2 m_middle_of (aCons (dVar 2) (aCons (dVar 3) aNil))) (gN 5))
def dn3_1 : DS := (sIf (dB (dCallN 2 m_is_below (aCons (dVar 5) (aCons (dCallN 2 m_number_of (aCons (dVar 0) (aCons (dVar 5) aNil))) aNil)))) (sAsg (dVar 5) (gN 2)) (sAsg (dVar 5) (gN 3)))
def dn3_t0 : DS := sSeq dn3_0 dn3_1
def dn3 : DS := sFor (iRange1 (dVar 1)) (gN 4) dn3_t0
def dn4 : DS := (sRet (dTup (aCons (dVar 2) (aCons (dVar 3) aNil))))
def dnt3 : DS := sSeq dn3 dn4
def dnt2 : DS := sSeq dn2 dnt3
def dnt1 : DS := sSeq dn1 dnt2
def dnt0 : DS := sSeq dn0 dnt1
theorem dneq : b_death_between = dnt0 := rfl
def ds0 : DS := (sExpr (dCallN 1 m_check_children (aCons (dVar 0) aNil)))
def ds1 : DS := (sRet (dCallN 1 m_is_sure_of (aCons (dVar 0) aNil)))
def dst0 : DS := sSeq ds0 ds1
theorem dseq : b_dies_surely = dst0 := rfl
def ls0 : DS := (sRet (dAndV (dNotV (dCallN 2 m__law_below (aCons (dTup (aCons (dC (.int 1)) (aCons (dC (.int 1)) aNil))) (aCons (dCallN 1 m__law_mean (aCons (dVar 0) aNil)) aNil)))) (dOp gNe (dSl (dVar 0) (oSome (dC (.int 1))) (oSome (dC (.int 2)))) (dLst (aCons (dTup (aCons (dC (.int 1)) (aCons (dC (.int 1)) aNil))) aNil)))))
theorem lseq : b__law_is_sure = ls0 := rfl
def lf0 : DS := (sIf (dOr (dNot (dB (dIs .tuple (dVar 0)))) (dOr (dB (dOp gNe (dCB gLen (aCons (dVar 0) aNil)) (dC (.int 2)))) (dNot (dB (dCB gAll (aCons (dLc (iSeq (dVar 0)) (gN 1) dYes (dAndV (dIs .int (dVar 1)) (dNotV (dIs .bool (dVar 1)))) [1]) aNil)))))) (sRet (dC (.bool false))) sNil)
def lf1 : DS := (sRet (dAndV (dOp gGt (dOp gIx (dVar 0) (dC (.int 1))) (dC (.int 0))) (dOp gEq (dCallN 2 m__law_plain (aCons (dOp gIx (dVar 0) (dC (.int 0))) (aCons (dOp gIx (dVar 0) (dC (.int 1))) aNil))) (dVar 0))))
def lft0 : DS := sSeq lf0 lf1
theorem lfeq : b__law_is_frac = lft0 := rfl
def ll0 : DS := (sRet (dAndV (dCallN 1 m__law_is_frac (aCons (dVar 1) aNil)) (dAndV (dOp gGe (dOp gIx (dVar 1) (dC (.int 0))) (dC (.int 0))) (dAndV (dCallN 2 m__law_below (aCons (dVar 1) (aCons (dTup (aCons (dC (.int 1)) (aCons (dC (.int 1)) aNil))) aNil))) (dNotV (dCallN 2 m__law_below (aCons (dVar 1) (aCons (dCallN 2 m__law_number (aCons (dVar 0) (aCons (dVar 1) aNil))) aNil))))))))
theorem lleq : b__law_is_live = ll0 := rfl
/-! by bits alone -/
def BL (β : Nat) (l : List Rat) : Prop := ∀ c ∈ l, Bd β c
theorem sum_bl {β : Nat} : ∀ {l : List Rat}, BL β l → Bd (1 + (β + 1) * l.length) (sumR l)
  | [], _ => bd_zero
  | x :: l, h => by
    have h1 := h x List.mem_cons_self
    have h2 := sum_bl (l := l) fun y hy => h y (List.mem_cons_of_mem _ hy)
    show Bd (1 + (β + 1) * (l.length + 1)) (x + sumR l)
    rw [Nat.mul_succ]
    exact (add_bd h1 h2).mono (by omega)
theorem bl_loop {A : Fn} (hA : AddOk A) (V : Sl) {β : Nat} (hβ : β ≤ 800) : ∀ (l pre : List Rat) (j : Sl), BL β (pre ++ l) → (pre ++ l).length ≤ 5 →
    ∃ j', ExF (gN 2) (sAsg (dCallN 2 A (aCons (dVar 1) (aCons (dVar 2) aNil))) (gN 1)) (l.map fr) [V, .fz (fr (sumR pre)), j] [V, .fz (fr (sumR (pre ++ l))), j']
  | [], pre, j, _, _ => by rw [List.append_nil]; exact ⟨_, exf_nil⟩
  | x :: l, pre, j, h, hl => by
    have e : pre ++ x :: l = (pre ++ [x]) ++ l := by simp
    rw [e] at h hl ⊢
    obtain ⟨j', ih⟩ := bl_loop hA V hβ l (pre ++ [x]) (.fz (fr x)) h hl
    have b1 := sum_bl (β := β) (l := pre) fun y hy => h y (by simp [hy])
    have b2 := h x (by simp)
    have hp : pre.length ≤ 5 := by rw [List.length_append, List.length_append] at hl; omega
    have hm : (β + 1) * pre.length ≤ 801 * 5 := Nat.mul_le_mul (by omega) hp
    have es : sumR (pre ++ [x]) = sumR pre + x := by
      rw [sumR_append]
      show sumR pre + (x + 0) = _
      grind
    exact ⟨j', exf_cons evg_n (ex_asg (d := fr (sumR (pre ++ [x]))) (ev_to (ev_call (eva_cons (ev_var rfl) (eva_cons (ev_var rfl) eva_nil)) (hA _ _ _ _ b1 b2 (by omega)) rfl) (by rw [es])) evg_n) ih⟩
structure CW (β : Nat) (cs : List Rat) : Prop where
  l1 : 1 ≤ cs.length
  l5 : cs.length ≤ 5
  nn : ∀ x ∈ cs, 0 ≤ x
  sm : sumR cs = 1
  bd : BL β cs
  hb : β ≤ 700
section
variable {β : Nat} {cs : List Rat} {V : PyData}
theorem w_total {l : List Rat} (h : BL β l) (hβ : β ≤ 800) (hl : l.length ≤ 5) : Ev (m_total [Fl l]) (fr (sumR l)) := by
  obtain ⟨j', he⟩ := bl_loop addP (.fz (Fl l)) hβ l [] .no h hl
  exact ev_def (rt_seq (ex_asg ev_nought evg_n) (rt_seq (ex_for (evi_seqL (ev_var rfl)) he) (rt_ret (ev_var rfl))))
theorem w_are (hV : V = Fl cs ∨ V = Ft cs) (h : CW β cs) : Ev (m_are_children_of [V]) (.bool true) := by
  have l0 := lookV hV 1
  have l1 := h.l1
  have l5 := h.l5
  have hb := h.hb
  have c1 : Ev (dChain gLe gLe (dC (.int 1)) (dCB gLen (aCons (dVar 0) aNil)) (dC c_MOST_CHANCES) (startE 2 [V])) (.bool true) :=
    ev_chT ev_c (ev_cb (eva_cons (ev_var l0) eva_nil) (ev_lenV hV)) (ev_toB op_I (decide_eq_true (by omega))) (fun _ => rfl : Ev (dC c_MOST_CHANCES _) (.int 5)) (ev_toB op_I (decide_eq_true (by omega)))
  have ht := w_total h.bd (by omega) l5
  rw [h.sm] at ht
  refine ev_def (rt_seq (ex_ifF (evt_orF (evt_notF (evt_b (ev_call (eva_cons (ev_var l0) eva_nil) (s_is_list hV) rfl))) (evt_notF (evt_b c1))) ex_nil) (rt_ret (ev_andT (all_map (ws := cs) (f := fr) (evi_V hV (ev_var l0)) (fun x hx => ⟨_, evg_n, ev_andT (ev_call (eva_cons (ev_var ?_) eva_nil) (s_is_fr (h.bd x hx) (by omega)) rfl) (ev_toB (ev_op (ev_op (ev_var ?_) ev_c op_num) ev_c op_I) (nn_num (h.nn x hx)))⟩) (small_le (m := 20) (by omega))) (ev_toB (ev_op (ev_call (eva_cons (ev_cb (eva_cons (ev_var l0) eva_nil) (ev_listV hV)) eva_nil) ht rfl) ev_one op_eqfr) (by simp)))))
  · rcases hV with rfl | rfl <;> rfl
  · rcases hV with rfl | rfl <;> rfl
theorem w_check (hV : V = Fl cs ∨ V = Ft cs) (h : CW 39 cs) : Ev (m_check_children [V]) .none := by
  have l0 := lookV hV 1
  refine ev_defN (ex_ifF (evt_orF (evt_notF (evt_b (ev_call (eva_cons (ev_var l0) eva_nil) (w_are hV h) rfl))) (evt_notF (evt_b (all_map (ws := cs) (f := fr) (evi_V hV (ev_var l0)) (fun x hx => ⟨_, evg_n, ev_call (eva_cons (ev_var ?_) eva_nil) (s_short (h.bd x hx)) rfl⟩) (small_le (m := 20) (by have := h.l5; omega)))))) ex_nil)
  rcases hV with rfl | rfl <;> rfl
theorem bl_mean (h : BL β cs) (l5 : cs.length ≤ 5) : BL (β + 13) ((cs.zipIdx 0).map fun p => p.1 * ((p.2 : Int) : Rat)) := fun x hx => by
  obtain ⟨p, hp, rfl⟩ := List.mem_map.mp hx
  have := List.mem_zipIdx hp
  simp only [Nat.sub_zero, Nat.zero_add] at this
  exact mul_bd (by rw [this.2.2]; exact h _ (List.getElem_mem _)) (ints_bd (by omega))
theorem w_mean (hV : V = Fl cs ∨ V = Ft cs) (h : CW β cs) : Ev (m_mean_by [V]) (fr (mnF 0 cs)) ∧ Bd (1 + (β + 13 + 1) * 5) (mnF 0 cs) := by
  have l0 := lookV hV 2
  have l5 := h.l5
  have hb := h.hb
  have ht := w_total (bl_mean h.bd l5) (by omega) (by rw [List.length_map, List.length_zipIdx]; exact l5)
  have hbd := sum_bl (bl_mean h.bd l5)
  rw [mn_zip] at ht hbd
  rw [List.length_map, List.length_zipIdx] at hbd
  refine ⟨ev_def (rt_ret (ev_call (eva_cons (ev_to (y := Fl ((cs.zipIdx 0).map fun p => p.1 * ((p.2 : Int) : Rat))) (ev_lc (eva_to (evi_enumQ (ev_var l0) (seqV hV)) (enumD_map fr cs 0)) (evlc_map (r := fun p : Rat × Nat => fr (p.1 * ((p.2 : Int) : Rat))) fun p hp => ?_) (small_65 (by omega))) (fl_map _ _)) eva_nil) ht rfl)), hbd.mono (by have : (β + 13 + 1) * cs.length ≤ (β + 13 + 1) * 5 := Nat.mul_le_mul_left _ l5; omega)⟩
  have hz := List.mem_zipIdx hp
  simp only [Nat.sub_zero, Nat.zero_add] at hz
  have h1 : Bd β p.1 := by rw [hz.2.2]; exact h.bd _ (List.getElem_mem _)
  refine ⟨_, evg_t (evgs_cons evg_n (evgs_cons evg_n evgs_nil)) rfl, ev_call (eva_cons (ev_var ?_) (eva_cons (ev_litI (ev_var ?_)) eva_nil)) (mulP _ _ _ _ h1 (ints_bd (by omega)) (by omega)) rfl⟩
  · rcases hV with rfl | rfl <;> rfl
  · rcases hV with rfl | rfl <;> rfl
theorem w_sure (hV : V = Fl cs ∨ V = Ft cs) (h : CW β cs) : Ev (m_is_sure_of [V]) (.bool (sureB cs)) := by
  have l0 : startE 1 [V] = [.fz V] := by rcases hV with rfl | rfl <;> rfl
  have hb := h.hb
  have c1 : EvT (dB (dOp gGt (dCB gLen (aCons (dVar 0) aNil)) (dC (.int 1))) [.fz V]) (decide (1 < cs.length)) := evt_b (ev_toB (ev_op (ev_cb (eva_cons (ev_var rfl) eva_nil) (ev_lenV hV)) ev_c op_I) (decide_eq_decide.mpr (by omega)))
  obtain ⟨hm, bM⟩ := w_mean hV h
  have x2 : Ev (dNotV (dCallN 2 m_is_below (aCons (dC c_ONE) (aCons (dCallN 1 m_mean_by (aCons (dVar 0) aNil)) aNil))) [.fz V]) (.bool (!decide (1 < mn cs))) := ev_notV (ev_call (eva_cons ev_one (eva_cons (ev_call (eva_cons (ev_var rfl) eva_nil) hm rfl) eva_nil)) (ev_below bd_one bM (by omega)) rfl)
  unfold m_is_sure_of
  rw [sueq]
  refine ev_def ?_
  rw [l0]
  by_cases h1 : 1 < cs.length
  · rw [decide_eq_true h1] at c1
    have c2 : EvT (dB (dOp gEq (dOp gIx (dVar 0) (dC (.int 1))) (dC c_ONE)) [.fz V]) (decide (cs.getD 1 0 = 1)) := evt_b (ev_op (ev_op (ev_var rfl) ev_c (ev_ixV hV h1)) ev_one op_eqfr)
    by_cases h2 : cs.getD 1 0 = 1
    · rw [decide_eq_true h2] at c2
      have e : sureB cs = false := by unfold sureB; rw [decide_eq_true h2]; rfl
      rw [e]
      exact rt_now (rt_ifT (evt_andT c1 c2) (rt_ret ev_c))
    · rw [decide_eq_false h2] at c2
      have e : sureB cs = !decide (1 < mn cs) := by unfold sureB; rw [decide_eq_false h2]; rfl
      rw [e]
      exact rt_seq (ex_ifF (evt_andT c1 c2) ex_nil) (rt_ret x2)
  · rw [decide_eq_false h1] at c1
    have h2 : cs.getD 1 0 ≠ 1 := by
      rw [List.getD_eq_getElem?_getD, List.getElem?_eq_none (by omega)]
      decide
    have e : sureB cs = !decide (1 < mn cs) := by unfold sureB; rw [decide_eq_false h2]; rfl
    rw [e]
    exact rt_seq (ex_ifF (evt_andF c1) ex_nil) (rt_ret x2)
theorem s_dies (hV : V = Fl cs ∨ V = Ft cs) (hc : Ev (m_check_children [V]) .none) (hs : Ev (m_is_sure_of [V]) (.bool (sureB cs))) : Ev (m_dies_surely [V]) (.bool (sureB cs)) := by
  have l0 : startE 1 [V] = [.fz V] := by rcases hV with rfl | rfl <;> rfl
  unfold m_dies_surely
  rw [dseq]
  exact ev_def (by rw [l0]; exact rt_seq (ex_expr (ev_call (eva_cons (ev_var rfl) eva_nil) hc rfl)) (rt_ret (ev_call (eva_cons (ev_var rfl) eva_nil) hs rfl)))
end
section
variable {s : Nat} {cs : List Rat} {V : PyData}
def liveB (cs : List Rat) (x : Rat) : Bool := decide (x < 1) && !decide (x < nb x cs)
theorem s_live (hV : V = Fl cs ∨ V = Ft cs) (h : COk s cs) {x : Rat} {bx : Nat} (hx : Bd bx x) (hb : bx ≤ 700) (x0 : 0 ≤ x) : Ev (m_is_live_of [V, fr x]) (.bool (liveB cs x)) := by
  have l0 : startE 2 [V, fr x] = [.fz V, .fz (fr x)] := by rcases hV with rfl | rfl <;> rfl
  have h5 := h.l5
  have hm : (bx + 9 + 1) * cs.length ≤ 710 * 5 := Nat.mul_le_mul (by omega) h5
  obtain ⟨n1, n2⟩ := s_number hV hx h.bd (by omega) (by omega)
  have c3 : Ev (dCallN 2 m_is_below (aCons (dVar 1) (aCons (dC c_ONE) aNil)) [.fz V, .fz (fr x)]) (.bool (decide (x < 1))) := ev_call (eva_cons (ev_var rfl) (eva_cons ev_one eva_nil)) (ev_below hx bd_one (by omega)) rfl
  have c1 : EvT (dNot (dB (dCallN 1 m_is_fraction_of (aCons (dVar 1) aNil))) [.fz V, .fz (fr x)]) false := evt_notF (evt_b (ev_call (eva_cons (ev_var rfl) eva_nil) (s_is_fr hx (by omega)) rfl))
  have c2 : EvT (dB (dOp gLt (dOp gIx (dVar 1) (dC (.int 0))) (dC (.int 0))) [.fz V, .fz (fr x)]) false := evt_b (ev_toB (ev_op (ev_op (ev_var rfl) ev_c op_num) ev_c op_I) (decide_eq_false (by have := Rat.num_nonneg.mpr x0; omega)))
  unfold m_is_live_of
  rw [ileq]
  refine ev_def ?_
  rw [l0]
  by_cases h1 : x < 1
  · rw [decide_eq_true h1] at c3
    have e : liveB cs x = !decide (x < nb x cs) := by unfold liveB; rw [decide_eq_true h1]; rfl
    rw [e]
    exact rt_seq (ex_ifF (evt_orF c1 (evt_orF c2 (evt_notF (evt_b c3)))) ex_nil) (rt_ret (ev_notV (ev_call (eva_cons (ev_var rfl) (eva_cons (ev_call (eva_cons (ev_var rfl) (eva_cons (ev_var rfl) eva_nil)) n1 rfl) eva_nil)) (ev_below hx n2 (by omega)) rfl)))
  · rw [decide_eq_false h1] at c3
    have e : liveB cs x = false := by unfold liveB; rw [decide_eq_false h1]; rfl
    rw [e]
    exact rt_now (rt_ifT (evt_orF c1 (evt_orF c2 (evt_notT (evt_b c3)))) (rt_ret ev_c))
theorem s_live_paper_is (hV : V = Fl cs ∨ V = Ft cs) (h : COk s cs) {x : Rat} {bx : Nat} (hx : Bd bx x) (hb : bx ≤ 700) (x0 : 0 ≤ x) : Ev (m_is_live_paper [V, fr x]) (.bool (liveB cs x)) := by
  have l0 : startE 2 [V, fr x] = [.fz V, .fz (fr x)] := by rcases hV with rfl | rfl <;> rfl
  unfold m_is_live_paper
  rw [ipeq]
  exact ev_def (by rw [l0]; exact rt_seq (ex_expr (ev_call (eva_cons (ev_var rfl) eva_nil) (s_check hV h) rfl)) (rt_ret (ev_call (eva_cons (ev_var rfl) (eva_cons (ev_var rfl) eva_nil)) (s_live hV h hx hb x0) rfl)))
theorem bd_two : Bd 2 (2 : Rat) := ⟨by decide +kernel, by decide +kernel⟩
theorem s_middle {a b : Rat} {m n : Nat} (ha : Bd m a) (hb : Bd n b) (h : m + n ≤ 8000) : Ev (m_middle_of [fr a, fr b]) (fr ((a + b) / 2)) := by
  unfold m_middle_of
  rw [mieq]
  exact ev_def (rt_ret (ev_call (eva_cons (ev_call (eva_cons (ev_var rfl) (eva_cons (ev_var rfl) eva_nil)) (addP _ _ _ _ ha hb (by omega)) rfl) (eva_cons (ev_to (ev_litI ev_c) (by rw [show ((2 : Int) : Rat) = 2 from rfl])) eva_nil)) (ev_div (add_bd ha hb) bd_two (by omega) (by decide)) rfl))
/-- the loop for a live paper -/
theorem lx_bd (k : Nat) : Bd (8 * k + 1) (lx k) := (lx_sz k).bd (by decide) (by decide) (a := 1) (by decide)
theorem lp_loop (hV : V = Fl cs ∨ V = Ft cs) (h : COk s cs) (h11 : liveB cs (lx 11) = true) : ∀ (d k f : Nat), d + k = 11 → ∃ K, K ≤ 11 ∧ liveB cs (lx K) = true ∧ ∀ B, goWh (dNot (dB (dCallN 2 m_is_live_of (aCons (dVar 0) (aCons (dVar 1) aNil))))) (sAsg (dCallN 2 m_middle_of (aCons (dVar 1) (aCons (dC c_ONE) aNil))) (gN 1)) B (f + d + 1) [.fz V, .fz (fr (lx k))] = B.nx [.fz V, .fz (fr (lx K))]
  | d, k, f, hd => by
    have hl := s_live hV h (lx_bd k) (by omega) (lx_unit k).1
    have c : EvT (dNot (dB (dCallN 2 m_is_live_of (aCons (dVar 0) (aCons (dVar 1) aNil)))) [.fz V, .fz (fr (lx k))]) (!liveB cs (lx k)) := evt_not (evt_b (ev_call (eva_cons (ev_var rfl) (eva_cons (ev_var rfl) eva_nil)) hl rfl))
    cases e : liveB cs (lx k) with
    | true =>
      rw [e] at c
      exact ⟨k, by omega, e, fun B => goWh_F c⟩
    | false =>
      rw [e] at c
      match d, hd with
      | 0, hd =>
        have : k = 11 := by omega
        rw [this, h11] at e
        cases e
      | d + 1, hd =>
        obtain ⟨K, a, b, g⟩ := lp_loop hV h h11 d (k + 1) f (by omega)
        refine ⟨K, a, b, fun B => ?_⟩
        have x : Ex (sAsg (dCallN 2 m_middle_of (aCons (dVar 1) (aCons (dC c_ONE) aNil))) (gN 1)) [.fz V, .fz (fr (lx k))] [.fz V, .fz (fr (lx (k + 1)))] := ex_asg (ev_call (eva_cons (ev_var rfl) (eva_cons ev_one eva_nil)) (s_middle (lx_bd k) bd_one (by omega)) rfl) evg_n
        rw [show f + (d + 1) + 1 = (f + d + 1) + 1 by omega, goWh_T c]
        exact (x _).trans (g B)
theorem live_11' (h : COk s cs) (e : sureB cs = false) : liveB cs (lx 11) = true := by
  have hl : nb (lx 11) cs ≤ lx 11 := by
    by_cases h0 : cs.getD 0 0 = 0
    · exact (root_zero h.chs h0).hi _ (lx_unit 11).1 (Rat.le_of_lt (lx_unit 11).2)
    · have hm : 1 < mnF 0 cs := not_sure_mean h e h0
      exact live_11 h.chs h.l5 h.s0 h.s16 (mn_sz h.s0 h.l65 h.sz) hm
  unfold liveB
  rw [decide_eq_true (lx_unit 11).2, decide_eq_false (Rat.not_lt.mpr hl)]
  rfl
theorem s_live_paper (hV : V = Fl cs ∨ V = Ft cs) (h : COk s cs) : (sureB cs = true ∧ Ev (m_live_paper [V]) .none) ∨ (sureB cs = false ∧ ∃ K, K ≤ 11 ∧ liveB cs (lx K) = true ∧ Ev (m_live_paper [V]) (fr (lx K))) := by
  have l0 : startE 2 [V] = [.fz V, .no] := by rcases hV with rfl | rfl <;> rfl
  have c : EvT (dB (dCallN 1 m_is_sure_of (aCons (dVar 0) aNil)) [.fz V, .no]) (sureB cs) := evt_b (ev_call (eva_cons (ev_var rfl) eva_nil) (s_sure hV h) rfl)
  unfold m_live_paper
  rw [lpeq]
  cases e : sureB cs with
  | true =>
    rw [e] at c
    exact .inl ⟨rfl, ev_def (by rw [l0]; exact rt_seq (ex_expr (ev_call (eva_cons (ev_var rfl) eva_nil) (s_check hV h) rfl)) (rt_now (rt_ifT c (rt_ret ev_c))))⟩
  | false =>
    rw [e] at c
    obtain ⟨K, a, b, g⟩ := lp_loop hV h (live_11' h e) 11 0 999988 rfl
    exact .inr ⟨rfl, K, a, b, ev_def (by rw [l0]; exact rt_seq (ex_expr (ev_call (eva_cons (ev_var rfl) eva_nil) (s_check hV h) rfl)) (rt_seq (ex_ifF c ex_nil) (rt_seq (ex_asg ev_nought evg_n) (rt_seq (a := lp3) (fun B => by unfold lp3 sWh; exact g B) (rt_ret (ev_var rfl))))))⟩
end
end Kp

namespace Kp
open PySem PySem.Spec PyProof.Rows L2 Dl
def bt0 : DS := (sAsg (dTup (aCons (dTup (aCons (dC (.int 0)) (aCons (dC (.int 1)) aNil))) (aCons (dTup (aCons (dC (.int 1)) (aCons (dC (.int 1)) aNil))) aNil))) (gT 2 (gsCons (gN 2) (gsCons (gN 3) gsNil))))
def bt1_0 : DS := (sIf (dB (dRepr2 false (dLst (aCons (dCallN 2 m_death_between (aCons (dVar 0) (aCons (dVar 4) aNil))) (aCons (dCallK 2 2 [1, 0] m_death_between (aCons (dVar 4) (aCons (dVar 0) aNil))) aNil))) (dOp gMul (dLst (aCons (dTup (aCons (dVar 2) (aCons (dVar 3) aNil))) aNil)) (dC (.int 2))))) (sRet (dC (.bool false))) sNil)
def bt1_1 : DS := (sIf (dAnd (dB (dOp gIsNot (dVar 1) (dC .none))) (dOr (dB (dCallN 2 m__law_below (aCons (dVar 1) (aCons (dVar 2) aNil)))) (dB (dCallN 2 m__law_below (aCons (dVar 3) (aCons (dVar 1) aNil)))))) (sRet (dC (.bool false))) sNil)
def bt1_2 : DS := (sAsg (dCallN 2 m__law_times (aCons (dCallN 2 m__law_plus (aCons (dVar 2) (aCons (dVar 3) aNil))) (aCons (dTup (aCons (dC (.int 1)) (aCons (dC (.int 2)) aNil))) aNil))) (gN 5))
def bt1_3 : DS := (sIf (dB (dCallN 2 m__law_below (aCons (dVar 5) (aCons (dCallN 2 m__law_number (aCons (dVar 0) (aCons (dVar 5) aNil))) aNil)))) (sAsg (dVar 5) (gN 2)) (sAsg (dVar 5) (gN 3)))
def bt1_t2 : DS := sSeq bt1_2 bt1_3
def bt1_t1 : DS := sSeq bt1_1 bt1_t2
def bt1_t0 : DS := sSeq bt1_0 bt1_t1
def bt1 : DS := sFor (iRange1 (dC (.int 13))) (gN 4) bt1_t0
def bt2 : DS := (sAsg (dCallN 2 m_death_between (aCons (dVar 0) (aCons (dC (.int 60)) aNil))) (gT 2 (gsCons (gN 6) (gsCons (gN 7) gsNil))))
def bt3 : DS := (sRet (dOp gEq (dCallN 2 m__law_less (aCons (dVar 7) (aCons (dVar 6) aNil))) (dTup (aCons (dC (.int 1)) (aCons (dOp gPow (dC (.int 2)) (dC (.int 60))) aNil)))))
def btt2 : DS := sSeq bt2 bt3
def btt1 : DS := sSeq bt1 btt2
def btt0 : DS := sSeq bt0 btt1
theorem bteq : b__law_between_right = btt0 := rfl
def pwq0 : DS := (sAsg (dTup (aCons (dC (.int 1)) (aCons (dC (.int 1)) aNil))) (gN 2))
def pwq1_0 : DS := (sAsg (dCallN 2 m__law_times (aCons (dVar 2) (aCons (dVar 0) aNil))) (gN 2))
def pwq1 : DS := sFor (iRange1 (dVar 1)) (gN 3) pwq1_0
def pwq2 : DS := (sRet (dVar 2))
def pwqt1 : DS := sSeq pwq1 pwq2
def pwqt0 : DS := sSeq pwq0 pwqt1
theorem pwqeq : b__law_power = pwqt0 := rfl
def dy0 : DS := (sExpr (dCallN 1 m_check_children (aCons (dVar 0) aNil)))
def dy1 : DS := (sAsg (dCallN 1 m_death_of (aCons (dVar 0) aNil)) (gN 1))
def dy2 : DS := (sIf (dOr (dB (dOp gIs (dVar 1) (dC .none))) (dB (dOp gEq (dOp gIx (dVar 1) (dC (.int 0))) (dC (.int 0))))) sNever sNil)
def dy3 : DS := (sParFE 2 3 (fLst aNil) (dCallN 2 m_divide (aCons (dC c_ONE) (aCons (dVar 1) aNil))))
def dy4_0 : DS := (sApp 2 (dCallN 2 m_multiply (aCons (dVar 4) (aCons (dVar 3) aNil))))
def dy4_1 : DS := (sAsg (dCallN 2 m_multiply (aCons (dVar 3) (aCons (dVar 1) aNil))) (gN 3))
def dy4_t0 : DS := sSeq dy4_0 dy4_1
def dy4 : DS := sFor (iSeq (dVar 0)) (gN 4) dy4_t0
def dy5 : DS := (sRetO 2)
def dyt4 : DS := sSeq dy4 dy5
def dyt3 : DS := sSeq dy3 dyt4
def dyt2 : DS := sSeq dy2 dyt3
def dyt1 : DS := sSeq dy1 dyt2
def dyt0 : DS := sSeq dy0 dyt1
theorem dyeq : b_dying = dyt0 := rfl
section
variable {s : Nat} {cs : List Rat} {V : PyData}
theorem nb_sz {e : Nat} {x : Rat} (hs : 0 < s) (hx : Sz s e 1 x) : ∀ (l : List Rat) (c : Rat), SzL s 1 1 l → Sz s 1 1 c → Sz s (1 + e * l.length) (l.length + 1) (nb x (c :: l))
  | [], c, _, hc => by
    show Sz s (1 + e * 0) 1 (c + x * 0)
    rw [show c + x * 0 = c by grind]
    exact hc.up hs (by omega) (Nat.le_refl _)
  | d :: l, c, hl, hc => by
    have ih := nb_sz hs hx l d (fun y hy => hl y (List.mem_cons_of_mem _ hy)) (hl d List.mem_cons_self)
    have h1 := hx.mul hs ih
    rw [List.length_cons, Nat.mul_succ]
    show Sz s _ _ (c + x * nb x (d :: l))
    exact ((hc.up (k := 1 + (e * l.length + e)) (n := 1) hs (by omega) (Nat.le_refl _)).add (h1.up (n := l.length + 1) hs (by omega) (by omega))).up hs (Nat.le_refl _) (by omega)
theorem nb_sz' {e : Nat} {x : Rat} (h : COk s cs) (x0 : 0 ≤ x) (x1 : x ≤ 1) (hx : Sz s e 1 x) : Sz s (1 + 4 * e) 1 (nb x cs) := by
  obtain ⟨a, b⟩ := nb_range h.chs x0 x1
  have h5 := h.l5
  have h1 := h.l1
  have : Sz s (1 + 4 * e) 5 (nb x cs) := by
    cases hc : cs with
    | nil => rw [hc] at h1; simp at h1
    | cons c l =>
      have hsz := h.sz
      rw [hc] at hsz h5
      rw [List.length_cons] at h5
      have := nb_sz h.s0 hx l c (fun y hy => hsz y (List.mem_cons_of_mem _ hy)) (hsz c List.mem_cons_self)
      have hm : e * l.length ≤ e * 4 := Nat.mul_le_mul_left _ (by omega)
      exact this.up h.s0 (by omega) (by omega)
  exact sz_unit h.s0 this a b
def eN : Nat → Nat
  | 0 => 0
  | n + 1 => 1 + 4 * eN n
theorem it_sz (h : COk s cs) : ∀ n, Sz s (eN n) 1 (itF cs n)
  | 0 => (Sz.zero h.s0 0).up h.s0 (Nat.le_refl _) (by decide)
  | n + 1 => nb_sz' h (it_unit h.chs n).1 (it_unit h.chs n).2 (it_sz h n)
theorem it_bd (h : COk s cs) (n : Nat) : Bd (8 * eN n + 1) (itF cs n) := (it_sz h n).bd h.s0 h.s16 (a := 1) (by decide)
theorem eN_le : ∀ n, n ≤ 4 → eN n ≤ 85 := by decide
theorem eN_le3 : ∀ n, n ≤ 3 → eN n ≤ 21 := by decide
theorem s_dead (hV : V = Fl cs ∨ V = Ft cs) (h : COk s cs) {n : Nat} (hn : n ≤ 4) : Ev (m_dead_by [V, .int (n : Int)]) (fr (itF cs n)) := by
  have l0 : startE 4 [V, .int (n : Int)] = [.fz V, .fz (.int (n : Int)), .no, .no] := by rcases hV with rfl | rfl <;> rfl
  have h5 := h.l5
  obtain ⟨e, ⟨j, rfl⟩, he⟩ := for_inv (g := gN 3) (body := db3_0) (f := fun i : Nat => .int (i : Int)) (xs := List.range n)
    (fun pre _ e => ∃ j, e = [.fz V, .fz (.int (n : Int)), .fz (fr (itF cs pre.length)), j]) (by
    rintro pre i rest e hq ⟨j, rfl⟩
    have hl : pre.length < n := by have := congrArg List.length hq; simp at this; omega
    have he := eN_le3 pre.length (by omega)
    have hm : (8 * eN pre.length + 1 + 9 + 1) * cs.length ≤ 179 * 5 := Nat.mul_le_mul (by omega) h5
    refine ⟨_, _, evg_n, ex_asg (ev_call (eva_cons (ev_var rfl) (eva_cons (ev_var rfl) eva_nil)) (s_number hV (it_bd h pre.length) h.bd (by omega) (by omega)).1 rfl) evg_n, ⟨.fz (.int (i : Int)), ?_⟩⟩
    rw [List.length_append, List.length_singleton]
    rfl) (List.range n) [] [.fz V, .fz (.int (n : Int)), .fz (fr (itF cs 0)), .no] rfl ⟨_, rfl⟩
  rw [List.length_range] at he
  unfold m_dead_by
  rw [dbeq]
  refine ev_def ?_
  rw [l0]
  exact rt_seq (ex_expr (ev_call (eva_cons (ev_var rfl) eva_nil) (s_check hV h) rfl)) (rt_seq (ex_expr (ev_call (eva_cons (ev_var rfl) (eva_cons ev_c (eva_cons (fun _ => rfl : Ev (dC c_MOST_DEAD _) (.int 4)) eva_nil))) (s_check_number (by omega) (by omega)) rfl)) (rt_seq (ex_asg ev_nought evg_n) (rt_seq (ex_for (evi_rangeN (n := n) (ev_var rfl) (by omega)) he) (rt_ret (ev_var rfl)))))
/-- sizes' first chance -/
def itG (cs : List Rat) : Nat → Rat → Rat
  | 0, x => x
  | n + 1, x => nb (itG cs n x) cs
theorem itG_in : ∀ (n : Nat) (x : Rat), itG cs n (nb x cs) = nb (itG cs n x) cs
  | 0, x => rfl
  | n + 1, x => by
    show nb (itG cs n (nb x cs)) cs = _
    rw [itG_in n x]
    rfl
theorem itG_F : ∀ n, itG cs n 0 = itF cs n
  | 0 => rfl
  | n + 1 => by
    show nb (itG cs n 0) cs = nb (itF cs n) cs
    rw [itG_F n]
theorem nb_dz (h : COk s cs) : ∀ (n : Nat) (x : Rat), nb x (Dz cs n) = itG cs n x
  | 0, x => by show 0 + x * (1 + x * 0) = x; grind
  | n + 1, x => by
    show nb x (put (Dz cs n) cs) = nb (itG cs n x) cs
    rw [nb_put x h.ch.l1, nb_dz h n, itG_in]
theorem dz_head (h : COk s cs) (n : Nat) : (Dz cs n).getD 0 0 = itF cs n := by
  have e := nb_dz h n 0
  rw [itG_F] at e
  rw [← e]
  cases Dz cs n with
  | nil => rfl
  | cons c l => show c = c + 0 * nb 0 l; grind
/-- the law's numbers, by sizes -/
theorem lnumS_loop {x : Rat} {e : Nat} (hs : 0 < s) (hs4 : s ≤ 256) (he : e ≤ 85) (hx : Sz s e 1 x) (U : Sl) : ∀ (l : List Rat) (p a : Rat) (i : Nat) (j : Sl), SzL s 1 1 l → i + l.length ≤ 5 → Sz s (e * i) 1 p → Sz s (1 + 4 * e) i a →
    ∃ j' p', ExF (gN 4) (sSeq (sAsg (dCallN 2 m__law_plus (aCons (dVar 2) (aCons (dCallN 2 m__law_times (aCons (dVar 4) (aCons (dVar 3) aNil))) aNil))) (gN 2)) (sAsg (dCallN 2 m__law_times (aCons (dVar 3) (aCons (dVar 1) aNil))) (gN 3))) (l.map fr) [U, .fz (fr x), .fz (fr a), .fz (fr p), j] [U, .fz (fr x), .fz (fr (nbP x l p a)), p', j']
  | [], p, a, i, j, _, _, _, _ => ⟨_, _, exf_nil⟩
  | c :: l, p, a, i, j, hc, hi, hp, ha => by
    rw [List.length_cons] at hi
    have hm : e * i ≤ 85 * 4 := Nat.mul_le_mul he (by omega)
    have hm2 : e * i ≤ e * 4 := Nat.mul_le_mul_left _ (by omega)
    have c1 := hc c List.mem_cons_self
    have k3 : (2 : Nat) ^ 3 = 8 := by decide
    have bc := c1.bd hs hs4 (a := 1) (by decide)
    have bp := hp.bd hs hs4 (a := 1) (by decide)
    have bx := hx.bd hs hs4 (a := 1) (by decide)
    have ba := ha.bd hs hs4 (a := 3) (by omega) (by decide)
    have ht : Sz s (1 + 4 * e) 1 (c * p) := (c1.mul hs hp).up hs (by omega) (by omega)
    obtain ⟨j', p', ih⟩ := lnumS_loop hs hs4 he hx U l (p * x) (a + c * p) (i + 1) (.fz (fr c)) (fun y hy => hc y (List.mem_cons_of_mem _ hy)) (by omega) ((hp.mul hs hx).up hs (by rw [Nat.mul_succ]; omega) (Nat.le_refl _)) (ha.add ht)
    exact ⟨j', p', exf_cons evg_n (ex_seq (ex_asg (ev_call (eva_cons (ev_var rfl) (eva_cons (ev_call (eva_cons (ev_var rfl) (eva_cons (ev_var rfl) eva_nil)) (mulL _ _ _ _ bc bp (by omega)) rfl) eva_nil)) (addL _ _ _ _ ba (mul_bd bc bp) (by omega)) rfl) evg_n) (ex_asg (ev_call (eva_cons (ev_var rfl) (eva_cons (ev_var rfl) eva_nil)) (mulL _ _ _ _ bp bx (by omega)) rfl) evg_n)) ih⟩
theorem l_numberS {x : Rat} {e : Nat} (h : COk s cs) (he : e ≤ 85) (hx : Sz s e 1 x) : Ev (m__law_number [Fl cs, fr x]) (fr (nb x cs)) := by
  obtain ⟨j', p', hl⟩ := lnumS_loop h.s0 h.s16 he hx (.fz (Fl cs)) cs 1 0 0 .no h.sz (by have := h.l5; omega) ((Sz.one h.s0 0).up h.s0 (by omega) (Nat.le_refl _)) ((Sz.zero h.s0 _).up h.s0 (Nat.le_refl _) (Nat.le_refl _))
  have e : nbP x cs 1 0 = nb x cs := by rw [nbP_eq]; grind
  rw [e] at hl
  exact ev_def (rt_seq (ex_asg (ev_tup (eva_cons ev_lit0 (eva_cons ev_lit1 eva_nil)) rfl) (evg_t (evgs_cons evg_n (evgs_cons evg_n evgs_nil)) rfl)) (rt_seq (ex_for (evi_seqL (ev_var rfl)) hl) (rt_ret (ev_var rfl))))
theorem l_num (h : COk s cs) {x : Rat} {bx : Nat} (hx : Bd bx x) (hb : bx ≤ 200) : Ev (m__law_number [Fl cs, fr x]) (fr (nb x cs)) := by
  have h5 := h.l5
  have m1 : bx * cs.length ≤ 200 * 5 := Nat.mul_le_mul hb h5
  have m2 : cs.length * (1 + bx * cs.length + 9 + 1) ≤ 5 * 1011 := Nat.mul_le_mul h5 (by omega)
  exact l_number hx h.bd (by omega) (by omega)
theorem s_num (hV : V = Fl cs ∨ V = Ft cs) (h : COk s cs) {x : Rat} {bx : Nat} (hx : Bd bx x) (hb : bx ≤ 700) : Ev (m_number_of [V, fr x]) (fr (nb x cs)) ∧ Bd 3551 (nb x cs) := by
  have h5 := h.l5
  have m1 : (bx + 9 + 1) * cs.length ≤ 710 * 5 := Nat.mul_le_mul (by omega) h5
  obtain ⟨a, b⟩ := s_number hV hx h.bd (by omega) (by omega)
  exact ⟨a, b.mono (by omega)⟩
theorem l_sure (h : COk s cs) : Ev (m__law_is_sure [Fl cs]) (.bool (sureB cs)) := by
  have h1 := h.l1
  have e : Dl.cutD (cs.map fr) (some 1) (some 2) = ((cs.drop 1).take 1).map fr := by
    unfold Dl.cutD
    rw [show HT.sIx (cs.map fr).length 0 (some 1) = min 1 (cs.map fr).length from HT.sIx_nat .., show HT.sIx (cs.map fr).length (cs.map fr).length (some 2) = min 2 (cs.map fr).length from HT.sIx_nat ..]
    rw [List.length_map, Nat.min_eq_left h1]
    by_cases h2 : 2 ≤ cs.length
    · rw [Nat.min_eq_left h2, List.map_take, List.map_drop]
    · have e1 : cs.length = 1 := by omega
      rw [e1, show min 2 1 = 1 from rfl, List.map_take, List.map_drop]
      have : (cs.map fr).drop 1 = [] := List.drop_eq_nil_of_le (by rw [List.length_map]; omega)
      rw [this]
      rfl
  have e2 : ((cs.drop 1).take 1 = [1]) ↔ cs.getD 1 0 = 1 := by
    match cs with
    | [] => exact ⟨fun h => (by cases h), fun h => absurd h (show ¬ (0 : Rat) = 1 by decide)⟩
    | [a] => exact ⟨fun h => (by cases h), fun h => absurd h (show ¬ (0 : Rat) = 1 by decide)⟩
    | a :: b :: r =>
      show [b] = [1] ↔ b = 1
      simp
  have x1 : Ev (dNotV (dCallN 2 m__law_below (aCons (dTup (aCons (dC (.int 1)) (aCons (dC (.int 1)) aNil))) (aCons (dCallN 1 m__law_mean (aCons (dVar 0) aNil)) aNil))) [.fz (Fl cs)]) (.bool (!decide (1 < mn cs))) := ev_notV (ev_call (eva_cons ev_lit1 (eva_cons (ev_call (eva_cons (ev_var rfl) eva_nil) (l_mean h.s0 h.s16 h.l65 (by decide) h.sz) rfl) eva_nil)) (ev_below bd_one h.mbd (by decide)) rfl)
  have x2 : Ev (dOp gNe (dSl (dVar 0) (oSome (dC (.int 1))) (oSome (dC (.int 2)))) (dLst (aCons (dTup (aCons (dC (.int 1)) (aCons (dC (.int 1)) aNil))) aNil)) [.fz (Fl cs)]) (.bool (!decide ((cs.drop 1).take 1 = [1]))) :=
    ev_op (ev_sl (ev_var rfl) (evo_some ev_c) (evo_some ev_c) (fun k => by show k (.list (Dl.cutD (cs.map fr) (some 1) (some 2))) = _; rw [e])) (ev_lst (eva_cons ev_lit1 eva_nil) rfl) (op_nefrs (ps := (cs.drop 1).take 1) (qs := [1]))
  unfold m__law_is_sure
  rw [lseq]
  refine ev_def (rt_ret (ev_toB (ev_and x1 fun _ => x2) ?_))
  unfold sureB
  rw [decide_eq_decide.mpr e2, Bool.and_comm]
theorem l_is_frac {x : Rat} {n : Nat} (hx : Bd n x) (hn : n ≤ 8000) : Ev (m__law_is_frac [fr x]) (.bool true) := by
  have e : fr ((x.num : Rat) / ((x.den : Nat) : Rat)) = fr x := by rw [← Rat.mkRat_eq_div, Rat.mkRat_self]
  unfold m__law_is_frac
  rw [lfeq]
  refine ev_def (rt_seq (ex_ifF (evt_orF (evt_notF (evt_b (ev_toB (ev_is (ev_var rfl)) rfl))) (evt_orF (evt_b (ev_toB (ev_op (ev_cb (eva_cons (ev_var rfl) eva_nil) cb_lenT) ev_c op_neI) rfl)) (evt_notF (evt_b (all_map (ws := [x.num, (x.den : Int)]) (f := PyData.int) (evi_seqT (ev_var rfl)) (fun i hi => ⟨_, evg_n, ev_andT (ev_toB (ev_is (ev_var rfl)) rfl) (ev_notT (ev_toB (ev_is (ev_var rfl)) rfl))⟩) rfl))))) ex_nil)
    (rt_ret (ev_andT (ev_toB (ev_op (ev_op (ev_var rfl) ev_c op_den) ev_c op_I) (decide_eq_true ?_)) (ev_toB (ev_op (ev_to (ev_call (eva_cons (ev_op (ev_var rfl) ev_c op_num) (eva_cons (ev_op (ev_var rfl) ev_c op_den) eva_nil)) (ev_plain x.den_nz hx.2 hx.1 (by omega) (by omega)) rfl) e) (ev_var rfl) op_eqfr) (by simp)))))
  have := x.den_pos
  show (0 : Int) < Int.ofNat x.den
  exact Int.natCast_pos.mpr this
theorem l_is_live (h : COk s cs) {x : Rat} {bx : Nat} (hx : Bd bx x) (hb : bx ≤ 200) (x0 : 0 ≤ x) (hl : liveB cs x = true) : Ev (m__law_is_live [Fl cs, fr x]) (.bool true) := by
  unfold liveB at hl
  simp only [Bool.and_eq_true, Bool.not_eq_true', decide_eq_true_eq, decide_eq_false_iff_not] at hl
  have hn := (s_num (V := Fl cs) (.inl rfl) h hx (by omega)).2
  unfold m__law_is_live
  rw [lleq]
  exact ev_def (rt_ret (ev_andT (ev_call (eva_cons (ev_var rfl) eva_nil) (l_is_frac hx (by omega)) rfl) (ev_andT (ev_toB (ev_op (ev_op (ev_var rfl) ev_c op_num) ev_c op_I) (decide_eq_true (Rat.num_nonneg.mpr x0))) (ev_andT (ev_toB (ev_call (eva_cons (ev_var rfl) (eva_cons ev_lit1 eva_nil)) (ev_below hx bd_one (by omega)) rfl) (decide_eq_true hl.1)) (ev_notT (ev_toB (ev_call (eva_cons (ev_var rfl) (eva_cons (ev_call (eva_cons (ev_var rfl) (eva_cons (ev_var rfl) eva_nil)) (l_num h hx hb) rfl) eva_nil)) (ev_below hx hn (by omega)) rfl) (decide_eq_false hl.2)))))))
/-- between -/
abbrev Bt (cs : List Rat) (n : Nat) : PyData := .tuple [fr (btF cs n).1, fr (btF cs n).2]
theorem bt_bd (n : Nat) : Bd (8 * n + 1) (btF cs n).1 ∧ Bd (8 * n + 1) (btF cs n).2 := ⟨(bt_ok n).sa.bd (by decide) (by decide) (a := 1) (by decide), (bt_ok n).sb.bd (by decide) (by decide) (a := 1) (by decide)⟩
theorem mid_bd (n : Nat) : Bd (8 * (n + 1) + 1) (midF cs n) := by
  obtain ⟨a0, ab, b1, sa, sb⟩ := bt_ok (cs := cs) n
  have hm := half2 ((btF cs n).1 + (btF cs n).2)
  exact (sz_half sa sb (by grind) (by grind)).bd (by decide) (by decide) (a := 1) (by decide)
theorem s_between (hV : V = Fl cs ∨ V = Ft cs) (h : COk s cs) {n : Nat} (hn : n ≤ 60) : Ev (m_death_between [V, .int (n : Int)]) (Bt cs n) := by
  have l0 : startE 6 [V, .int (n : Int)] = [.fz V, .fz (.int (n : Int)), .no, .no, .no, .no] := by rcases hV with rfl | rfl <;> rfl
  obtain ⟨e, ⟨t4, t5, rfl⟩, he⟩ := for_inv (g := gN 4) (body := dn3_t0) (f := fun i : Nat => .int (i : Int)) (xs := List.range n)
    (fun pre _ e => ∃ t4 t5, e = [.fz V, .fz (.int (n : Int)), .fz (fr (btF cs pre.length).1), .fz (fr (btF cs pre.length).2), t4, t5]) (by
    rintro pre i rest e hq ⟨t4, t5, rfl⟩
    have hl : pre.length < n := by have := congrArg List.length hq; simp at this; omega
    obtain ⟨b1, b2⟩ := bt_bd (cs := cs) pre.length
    have bm := mid_bd (cs := cs) pre.length
    obtain ⟨n1, n2⟩ := s_num hV h bm (by omega)
    have x1 : Ex dn3_0 [.fz V, .fz (.int (n : Int)), .fz (fr (btF cs pre.length).1), .fz (fr (btF cs pre.length).2), .fz (.int (i : Int)), t5] [.fz V, .fz (.int (n : Int)), .fz (fr (btF cs pre.length).1), .fz (fr (btF cs pre.length).2), .fz (.int (i : Int)), .fz (fr (midF cs pre.length))] := ex_asg (ev_call (eva_cons (ev_var rfl) (eva_cons (ev_var rfl) eva_nil)) (s_middle b1 b2 (by omega)) rfl) evg_n
    have c : EvT (dB (dCallN 2 m_is_below (aCons (dVar 5) (aCons (dCallN 2 m_number_of (aCons (dVar 0) (aCons (dVar 5) aNil))) aNil))) [.fz V, .fz (.int (n : Int)), .fz (fr (btF cs pre.length).1), .fz (fr (btF cs pre.length).2), .fz (.int (i : Int)), .fz (fr (midF cs pre.length))]) (decide (midF cs pre.length < nb (midF cs pre.length) cs)) := evt_b (ev_call (eva_cons (ev_var rfl) (eva_cons (ev_call (eva_cons (ev_var rfl) (eva_cons (ev_var rfl) eva_nil)) n1 rfl) eva_nil)) (ev_below bm n2 (by omega)) rfl)
    have x2 : Ex dn3_1 [.fz V, .fz (.int (n : Int)), .fz (fr (btF cs pre.length).1), .fz (fr (btF cs pre.length).2), .fz (.int (i : Int)), .fz (fr (midF cs pre.length))] [.fz V, .fz (.int (n : Int)), .fz (fr (btF cs (pre.length + 1)).1), .fz (fr (btF cs (pre.length + 1)).2), .fz (.int (i : Int)), .fz (fr (midF cs pre.length))] := by
      by_cases hc : midF cs pre.length < nb (midF cs pre.length) cs
      · rw [decide_eq_true hc] at c
        have e : btF cs (pre.length + 1) = (midF cs pre.length, (btF cs pre.length).2) := if_pos hc
        rw [e]
        exact ex_ifT c (ex_asg (ev_var rfl) evg_n)
      · rw [decide_eq_false hc] at c
        have e : btF cs (pre.length + 1) = ((btF cs pre.length).1, midF cs pre.length) := if_neg hc
        rw [e]
        exact ex_ifF c (ex_asg (ev_var rfl) evg_n)
    refine ⟨_, _, evg_n, ex_seq x1 x2, ⟨.fz (.int (i : Int)), .fz (fr (midF cs pre.length)), ?_⟩⟩
    rw [List.length_append, List.length_singleton]) (List.range n) [] [.fz V, .fz (.int (n : Int)), .fz (fr (btF cs 0).1), .fz (fr (btF cs 0).2), .no, .no] rfl ⟨_, _, rfl⟩
  rw [List.length_range] at he
  unfold m_death_between
  rw [dneq]
  refine ev_def ?_
  rw [l0]
  exact rt_seq (ex_expr (ev_call (eva_cons (ev_var rfl) eva_nil) (s_check hV h) rfl)) (rt_seq (ex_expr (ev_call (eva_cons (ev_var rfl) (eva_cons ev_c (eva_cons (fun _ => rfl : Ev (dC c_MOST_HALVED _) (.int 60)) eva_nil))) (s_check_number (by omega) (by omega)) rfl)) (rt_seq (ex_par (eva_cons ev_nought (eva_cons ev_one eva_nil))) (rt_seq (ex_for (evi_rangeN (n := n) (ev_var rfl) (by omega)) he) (rt_ret (ev_tup (eva_cons (ev_var rfl) (eva_cons (ev_var rfl) eva_nil)) rfl)))))
end
end Kp

namespace Kp
open PySem PySem.Spec PyProof.Rows L2 Dl
def dr0 : DS := (sAsg (dLc (iEnumQ (dVar 0)) (gT 2 (gsCons (gN 4) (gsCons (gN 5) gsNil))) dYes (dCallN 2 m__law_times (aCons (dVar 5) (aCons (dCallN 2 m__law_power (aCons (dVar 1) (aCons (dVar 4) aNil))) aNil))) [4, 5]) (gN 2))
def dr1 : DS := (sAsg (dLc (iSeq (dVar 2)) (gN 5) dYes (dCallN 2 m__law_share (aCons (dVar 5) (aCons (dVar 1) aNil))) [5]) (gN 2))
def dr2 : DS := (sOwn 3 (fCallN 1 m_dying (aCons (dVar 0) aNil)))
def dr3 : DS := (sIf (dBorT [3] (dOr (dB (dRepr2 false (dLst (aCons (dVar 3) (aCons (dCallK 1 1 [0] m_dying (aCons (dCB gTuple (aCons (dVar 0) aNil)) aNil)) aNil))) (dLst (aCons (dVar 2) (aCons (dVar 2) aNil))))) (dB (dOp gIsNot (dCallN 1 m_are_children (aCons (dVar 3) aNil)) (dC (.bool true)))))) (sRet (dC (.bool false))) sNil)
def dr4 : DS := (sApp 3 (dC .none))
def dr5 : DS := (sIf (dOr (dB (dRepr2 false (dCallN 1 m_dying (aCons (dVar 0) aNil)) (dVar 2))) (dNot (dB (dCB gAll (aCons (dLc (iSeq (dVar 2)) (gN 5) dYes (dOp gLt (dOp gIx (dVar 5) (dC (.int 1))) (dOp gPow (dC (.int 10)) (dC (.int 12)))) [5]) aNil))))) (sRet (dRepr2 true (dCallN 1 m_dying (aCons (dVar 0) aNil)) (dVar 2))) sNil)
def dr6 : DS := (sRet (dAndV (dOp gIs (dCallN 1 m_dies_surely (aCons (dVar 2) aNil)) (dC (.bool true))) (dOp gEq (dCallN 1 m_dying (aCons (dVar 2) aNil)) (dVar 2))))
def drt5 : DS := sSeq dr5 dr6
def drt4 : DS := sSeq dr4 drt5
def drt3 : DS := sSeq dr3 drt4
def drt2 : DS := sSeq dr2 drt3
def drt1 : DS := sSeq dr1 drt2
def drt0 : DS := sSeq dr0 drt1
theorem dreq : b__law_dying_right = drt0 := rfl
section
variable {s : Nat} {cs : List Rat} {V : PyData}
theorem rep_bt2 {a b : Rat} (ha : Bd 1919 a) (hb : Bd 1919 b) : reprOk (.list [.tuple [fr a, fr b], .tuple [fr a, fr b]]) = true := by
  have o1 := okR_fr ha 37
  have o2 := okR_fr hb 37
  refine reprOk_of (by simp only [okR, oksR, o1, o2]) ?_
  show (((capR (fr a)) + 2 + ((capR (fr b)) + 2 + 0)) + 4) + 2 + ((((capR (fr a)) + 2 + ((capR (fr b)) + 2 + 0)) + 4) + 2 + 0) + 4 ≤ _
  rw [capR_fr, capR_fr]
  omega
theorem fr_p60 : fr (1 / ((2 ^ 60 : Nat) : Rat)) = .tuple [.int 1, .int 1152921504606846976] := by
  unfold fr
  rw [show (1 / ((2 ^ 60 : Nat) : Rat)).num = 1 by decide +kernel, show (1 / ((2 ^ 60 : Nat) : Rat)).den = 1152921504606846976 by decide +kernel]
  rfl
abbrev LB (cs : List Rat) (d : PyData) (n : Nat) (r : Sls) : Sls := .fz (Fl cs) :: .fz d :: .fz (fr (btF cs n).1) :: .fz (fr (btF cs n).2) :: r
theorem t_between (h : COk s cs) {d : PyData} (hd : d = .none ∨ ∃ x, d = fr x ∧ Bd 12 x ∧ Root cs x) : Ev (m__law_between_right [Fl cs, d]) (.bool true) := by
  have l0 : startE 8 [Fl cs, d] = [.fz (Fl cs), .fz d, .no, .no, .no, .no, .no, .no] := by
    rcases hd with rfl | ⟨x, rfl, _⟩ <;> rfl
  obtain ⟨e, ⟨t4, t5, rfl⟩, he⟩ := for_inv (g := gN 4) (body := bt1_t0) (f := fun i : Nat => .int (i : Int)) (xs := List.range 13)
    (fun pre _ e => ∃ t4 t5, e = LB cs d pre.length [t4, t5, .no, .no]) (by
    rintro pre i rest e hq ⟨t4, t5, rfl⟩
    have hl : pre.length < 13 := by have := congrArg List.length hq; simp at this; omega
    have hp : i = pre.length := by
      have e1 : (List.range 13)[pre.length]? = some i := by rw [← hq]; simp
      rw [List.getElem?_range hl] at e1
      exact (Option.some.inj e1).symm
    subst hp
    obtain ⟨b1, b2⟩ := bt_bd (cs := cs) pre.length
    have bm := mid_bd (cs := cs) pre.length
    have n1 := l_num h bm (by omega)
    have n2 := (s_num (V := Fl cs) (.inl rfl) h bm (by omega)).2
    have g1 := s_between (V := Fl cs) (.inl rfl) h (n := pre.length) (by omega)
    have x0 : Ex bt1_0 (LB cs d pre.length [.fz (.int (pre.length : Int)), t5, .no, .no]) (LB cs d pre.length [.fz (.int (pre.length : Int)), t5, .no, .no]) :=
      ex_ifF (evt_b (ev_repr2 (ev_lst (eva_cons (ev_call (eva_cons (ev_var rfl) (eva_cons (ev_var rfl) eva_nil)) g1 rfl) (eva_cons (ev_callK (eva_cons (ev_var rfl) (eva_cons (ev_var rfl) eva_nil)) g1 rfl) eva_nil)) rfl) (ev_op (ev_lst (eva_cons (ev_tup (eva_cons (ev_var rfl) (eva_cons (ev_var rfl) eva_nil)) rfl) eva_nil) rfl) ev_c (op_rep1 (n := 2) (by decide))) (rep_bt2 (b1.mono (by omega)) (b2.mono (by omega))) rfl)) ex_nil
    have x1 : Ex bt1_1 (LB cs d pre.length [.fz (.int (pre.length : Int)), t5, .no, .no]) (LB cs d pre.length [.fz (.int (pre.length : Int)), t5, .no, .no]) := by
      rcases hd with rfl | ⟨x, rfl, hx, hr⟩
      · exact ex_ifF (evt_andF (evt_b (ev_op (ev_var rfl) ev_c fun k => rfl))) ex_nil
      · obtain ⟨p, q⟩ := bt_root hr pre.length
        exact ex_ifF (evt_andT (evt_b (ev_op (ev_var rfl) ev_c fun k => rfl)) (evt_orF (evt_b (ev_toB (ev_call (eva_cons (ev_var rfl) (eva_cons (ev_var rfl) eva_nil)) (ev_below hx b1 (by omega)) rfl) (decide_eq_false (Rat.not_lt.mpr p)))) (evt_b (ev_toB (ev_call (eva_cons (ev_var rfl) (eva_cons (ev_var rfl) eva_nil)) (ev_below b2 hx (by omega)) rfl) (decide_eq_false (Rat.not_lt.mpr q)))))) ex_nil
    have em : ((btF cs pre.length).1 + (btF cs pre.length).2) * (1/2) = midF cs pre.length := by
      show _ = ((btF cs pre.length).1 + (btF cs pre.length).2) / 2
      grind
    have x2 : Ex bt1_2 (LB cs d pre.length [.fz (.int (pre.length : Int)), t5, .no, .no]) (LB cs d pre.length [.fz (.int (pre.length : Int)), .fz (fr (midF cs pre.length)), .no, .no]) :=
      ex_asg (ev_to (ev_call (eva_cons (ev_call (eva_cons (ev_var rfl) (eva_cons (ev_var rfl) eva_nil)) (addL _ _ _ _ b1 b2 (by omega)) rfl) (eva_cons ev_lith eva_nil)) (mulL _ _ _ _ (add_bd b1 b2) bd_half (by omega)) rfl) (by rw [em])) evg_n
    have c : EvT (dB (dCallN 2 m__law_below (aCons (dVar 5) (aCons (dCallN 2 m__law_number (aCons (dVar 0) (aCons (dVar 5) aNil))) aNil))) (LB cs d pre.length [.fz (.int (pre.length : Int)), .fz (fr (midF cs pre.length)), .no, .no])) (decide (midF cs pre.length < nb (midF cs pre.length) cs)) := evt_b (ev_call (eva_cons (ev_var rfl) (eva_cons (ev_call (eva_cons (ev_var rfl) (eva_cons (ev_var rfl) eva_nil)) n1 rfl) eva_nil)) (ev_below bm n2 (by omega)) rfl)
    have x3 : Ex bt1_3 (LB cs d pre.length [.fz (.int (pre.length : Int)), .fz (fr (midF cs pre.length)), .no, .no]) (LB cs d (pre.length + 1) [.fz (.int (pre.length : Int)), .fz (fr (midF cs pre.length)), .no, .no]) := by
      by_cases hc : midF cs pre.length < nb (midF cs pre.length) cs
      · rw [decide_eq_true hc] at c
        have e : btF cs (pre.length + 1) = (midF cs pre.length, (btF cs pre.length).2) := if_pos hc
        unfold LB
        rw [e]
        exact ex_ifT c (ex_asg (ev_var rfl) evg_n)
      · rw [decide_eq_false hc] at c
        have e : btF cs (pre.length + 1) = ((btF cs pre.length).1, midF cs pre.length) := if_neg hc
        unfold LB
        rw [e]
        exact ex_ifF c (ex_asg (ev_var rfl) evg_n)
    refine ⟨_, _, evg_n, ex_seq x0 (ex_seq x1 (ex_seq x2 x3)), ⟨.fz (.int (pre.length : Int)), .fz (fr (midF cs pre.length)), ?_⟩⟩
    rw [List.length_append, List.length_singleton]) (List.range 13) [] (LB cs d 0 [.no, .no, .no, .no]) rfl ⟨_, _, rfl⟩
  rw [List.length_range] at he
  have g60 := s_between (V := Fl cs) (.inl rfl) h (n := 60) (by decide)
  obtain ⟨b1, b2⟩ := bt_bd (cs := cs) 60
  have hgap : (btF cs 60).2 - (btF cs 60).1 = 1 / ((2 ^ 60 : Nat) : Rat) := by
    have g := bt_gap (cs := cs) 60
    have h1 := pw_ne (s := 2) (by decide) 60
    generalize ((2 ^ 60 : Nat) : Rat) = D at *
    grind
  unfold m__law_between_right
  rw [bteq]
  refine ev_def ?_
  rw [l0]
  refine rt_seq (ex_asg (d := .tuple [fr 0, fr 1]) (ev_tup (eva_cons ev_lit0 (eva_cons ev_lit1 eva_nil)) rfl) (evg_t (evgs_cons evg_n (evgs_cons evg_n evgs_nil)) rfl)) (rt_seq (ex_for (evi_rangeN (n := 13) ev_c (by decide)) he) (rt_seq (ex_asg (ev_call (eva_cons (ev_var rfl) (eva_cons ev_c eva_nil)) g60 rfl) (evg_t (evgs_cons evg_n (evgs_cons evg_n evgs_nil)) rfl)) (rt_ret (ev_toB (ev_op (ev_to (ev_call (eva_cons (ev_var rfl) (eva_cons (ev_var rfl) eva_nil)) (l_less b2 b1 (by omega)) rfl) (by rw [hgap])) (ev_to (ev_tup (eva_cons ev_c (eva_cons (ev_op ev_c ev_c (z := .int 1152921504606846976) fun k => rfl) eva_nil)) rfl) fr_p60.symm) op_eqfr) (by simp)))))
theorem l_power {x : Rat} {b : Nat} (hx : Bd b x) {n : Nat} (hn : n ≤ 20) (hb : b * 21 ≤ 8000) : Ev (m__law_power [fr x, .int (n : Int)]) (fr (pw x n)) := by
  obtain ⟨e, ⟨j, rfl⟩, he⟩ := for_inv (g := gN 3) (body := pwq1_0) (f := fun i : Nat => .int (i : Int)) (xs := List.range n)
    (fun pre _ e => ∃ j, e = [.fz (fr x), .fz (.int (n : Int)), .fz (fr (pw x pre.length)), j]) (by
    rintro pre i rest e hq ⟨j, rfl⟩
    have hl : pre.length < n := by have := congrArg List.length hq; simp at this; omega
    have : b * pre.length ≤ b * 20 := Nat.mul_le_mul_left _ (by omega)
    refine ⟨_, _, evg_n, ex_asg (ev_call (eva_cons (ev_var rfl) (eva_cons (ev_var rfl) eva_nil)) (mulL _ _ _ _ (pw_bd hx pre.length) hx (by omega)) rfl) evg_n, ⟨.fz (.int (i : Int)), ?_⟩⟩
    rw [List.length_append, List.length_singleton]
    rfl) (List.range n) [] [.fz (fr x), .fz (.int (n : Int)), .fz (fr 1), .no] rfl ⟨_, rfl⟩
  rw [List.length_range] at he
  unfold m__law_power
  rw [pwqeq]
  exact ev_def (rt_seq (ex_asg ev_lit1 evg_n) (rt_seq (ex_for (evi_rangeN (n := n) (ev_var rfl) (by omega)) he) (rt_ret (ev_var rfl))))
theorem due_app (x : Rat) : ∀ (a b : List Rat) (i : Nat), dueF x i (a ++ b) = dueF x i a ++ dueF x (i + a.length) b
  | [], b, i => rfl
  | c :: a, b, i => by
    show (c * pw x i / x) :: dueF x (i + 1) (a ++ b) = (c * pw x i / x) :: (dueF x (i + 1) a ++ dueF x (i + (a.length + 1)) b)
    rw [due_app x a b (i + 1), show i + 1 + a.length = i + (a.length + 1) by omega]
theorem due_bd {x : Rat} {β : Nat} (hx : Bd 12 x) : ∀ (l : List Rat) (i : Nat), BL β l → i + l.length ≤ 5 → BL (β + 61 + 12) (dueF x i l)
  | c :: l, i, h, hi, y, hy => by
    rw [List.length_cons] at hi
    rcases List.mem_cons.mp (show y ∈ (c * pw x i / x) :: dueF x (i + 1) l from hy) with rfl | hy
    · exact (div_bd (mul_bd (h c List.mem_cons_self) (pw_bd hx i)) hx).mono (by omega)
    · exact due_bd hx l (i + 1) (fun z hz => h z (List.mem_cons_of_mem _ hz)) (by omega) y hy
theorem s_dying {β : Nat} (hV : V = Fl cs ∨ V = Ft cs) (hc : Ev (m_check_children [V]) .none) {x : Rat} (hd : Ev (m_death_of [V]) (fr x)) (hx : Bd 12 x) (x0 : 0 < x) (hb : BL β cs) (hβ : β ≤ 700) (h5 : cs.length ≤ 5) : Ev (m_dying [V]) (Fl (dueF x 0 cs)) := by
  have l0 : startE 5 [V] = [.fz V, .no, .no, .no, .no] := by rcases hV with rfl | rfl <;> rfl
  have xn : x ≠ 0 := by grind
  have hp : ∀ n, n ≤ 5 → Bd (1 + 12 * n + 12) (pw x n / x) := fun n hn => div_bd (pw_bd hx n) hx
  obtain ⟨e, ⟨t4, rfl⟩, he⟩ := for_inv (g := gN 4) (body := dy4_t0) (f := fr) (xs := cs)
    (fun pre _ e => ∃ t4, e = [.fz V, .fz (fr x), .ow ((dueF x 0 pre).map fr), .fz (fr (pw x pre.length / x)), t4]) (by
    rintro pre c rest e hq ⟨t4, rfl⟩
    have hl : pre.length < cs.length := by have := congrArg List.length hq; simp at this; omega
    have bp := hp pre.length (by omega)
    have bc := hb c (by rw [← hq]; simp)
    have e1 : c * (pw x pre.length / x) = c * pw x pre.length / x := by grind
    have e2 : pw x pre.length / x * x = pw x (pre.length + 1) / x := by
      show _ = pw x pre.length * x / x
      grind
    refine ⟨_, _, evg_n, ex_seq (ex_app (ds := (dueF x 0 pre).map fr) (d := fr (c * pw x pre.length / x)) rfl (ev_to (ev_call (eva_cons (ev_var rfl) (eva_cons (ev_var rfl) eva_nil)) (mulP _ _ _ _ bc bp (by omega)) rfl) (by rw [e1])) (by rw [List.length_map, due_len]; exact small_le (m := 20) (by omega))) (ex_asg (ev_to (ev_call (eva_cons (ev_var rfl) (eva_cons (ev_var rfl) eva_nil)) (mulP _ _ _ _ bp hx (by omega)) rfl) (by rw [e2])) evg_n), ⟨.fz (fr c), ?_⟩⟩
    rw [due_app, List.length_append, List.length_singleton, List.map_append, Nat.zero_add]
    rfl) cs [] [.fz V, .fz (fr x), .ow [], .fz (fr (pw x 0 / x)), .no] rfl ⟨_, rfl⟩
  have c1 : EvT (dOr (dB (dOp gIs (dVar 1) (dC .none))) (dB (dOp gEq (dOp gIx (dVar 1) (dC (.int 0))) (dC (.int 0)))) [.fz V, .fz (fr x), .no, .no, .no]) false := by
    refine evt_orF (evt_b (ev_op (ev_var rfl) ev_c fun k => rfl)) (evt_b (ev_toB (ev_op (ev_op (ev_var rfl) ev_c op_num) ev_c op_eqI) ?_))
    rw [eqI_eq]
    exact beq_false_of_ne fun z => xn (Rat.num_eq_zero.mp z)
  unfold m_dying
  rw [dyeq]
  refine ev_defF ?_
  rw [l0]
  exact rt_seq (ex_expr (ev_call (eva_cons (ev_var rfl) eva_nil) hc rfl)) (rt_seq (ex_asg (ev_call (eva_cons (ev_var rfl) eva_nil) hd rfl) evg_n) (rt_seq (ex_ifF c1 ex_nil) (rt_seq (ex_parFE (evf_lst eva_nil rfl) (ev_call (eva_cons ev_one (eva_cons (ev_var rfl) eva_nil)) (ev_div bd_one hx (by decide) xn) rfl)) (rt_seq (ex_for (evi_V hV (ev_var rfl)) he) (rt_retO rfl)))))
/-- short by what they are -/
theorem w_short {p : Rat} (h1 : p.num.natAbs < 1000000000000) (h2 : p.den < 1000000000000) : Ev (m_is_short [fr p]) (.bool true) := by
  have k : (2 : Nat) ^ 40 = 1099511627776 := by decide
  have hb : Bd 40 p := ⟨by omega, by omega⟩
  refine ev_def (rt_ret (ev_andT (ev_call (eva_cons (ev_var rfl) eva_nil) (s_is_fr hb (by decide)) rfl) (ev_andT (ev_toB (ev_op (ev_cb (eva_cons (ev_op (ev_var rfl) ev_c op_num) eva_nil) cb_abs) (fun _ => rfl : Ev (dC c_MOST_DIGITS _) (.int 1000000000000)) op_I) (decide_eq_true ?_)) (ev_toB (ev_op (ev_op (ev_var rfl) ev_c op_den) (fun _ => rfl : Ev (dC c_MOST_DIGITS _) (.int 1000000000000)) op_I) (decide_eq_true ?_)))))
  · split <;> omega
  · show (p.den : Int) < _
    omega
theorem w_checkS {β : Nat} (hV : V = Fl cs ∨ V = Ft cs) (h : CW β cs) (hs : ∀ c ∈ cs, c.num.natAbs < 1000000000000 ∧ c.den < 1000000000000) : Ev (m_check_children [V]) .none := by
  have l0 := lookV hV 1
  refine ev_defN (ex_ifF (evt_orF (evt_notF (evt_b (ev_call (eva_cons (ev_var l0) eva_nil) (w_are hV h) rfl))) (evt_notF (evt_b (all_map (ws := cs) (f := fr) (evi_V hV (ev_var l0)) (fun x hx => ⟨_, evg_n, ev_call (eva_cons (ev_var ?_) eva_nil) (w_short (hs x hx).1 (hs x hx).2) rfl⟩) (small_le (m := 20) (by have := h.l5; omega)))))) ex_nil)
  rcases hV with rfl | rfl <;> rfl
theorem w_death_one {β : Nat} (hV : V = Fl cs ∨ V = Ft cs) (h : CW β cs) (e : sureB cs = true) : Ev (m_death_of [V]) (fr 1) := by
  have l0 : startE 1 [V] = [.fz V] := by rcases hV with rfl | rfl <;> rfl
  have hs := w_sure hV h
  rw [e] at hs
  unfold m_death_of
  rw [doeq]
  exact ev_def (by rw [l0]; exact rt_now (rt_ifT (evt_b (ev_call (eva_cons (ev_var rfl) eva_nil) hs rfl)) (rt_ret ev_one)))
theorem pw_one : ∀ n, pw 1 n = 1
  | 0 => rfl
  | n + 1 => by
    show pw 1 n * 1 = 1
    rw [pw_one n]
    grind
theorem due_one : ∀ (l : List Rat) (i : Nat), dueF 1 i l = l
  | [], _ => rfl
  | c :: l, i => by
    show (c * pw 1 i / 1) :: dueF 1 (i + 1) l = c :: l
    rw [due_one l, pw_one]
    congr 1
    grind
theorem num_le_den {c : Rat} (h0 : 0 ≤ c) (h1 : c ≤ 1) : c.num.natAbs ≤ c.den := by
  have a := Rat.num_nonneg.mpr h0
  have b := Rat.le_iff c 1 |>.mp h1
  have e1 : (1 : Rat).num = 1 := rfl
  have e2 : (1 : Rat).den = 1 := rfl
  rw [e1, e2] at b
  omega
theorem zip_due (x : Rat) : ∀ (l : List Rat) (i : Nat), ((l.zipIdx i).map fun p => p.1 * pw x p.2 / x) = dueF x i l
  | [], _ => rfl
  | c :: l, i => by
    show (c * pw x i / x) :: ((l.zipIdx (i + 1)).map fun p => p.1 * pw x p.2 / x) = (c * pw x i / x) :: dueF x (i + 1) l
    rw [zip_due x l (i + 1)]
abbrev Dr (cs : List Rat) (x : Rat) (t2 t3 : Sl) : Sls := [.fz (Fl cs), .fz (fr x), t2, t3, .no, .no]
theorem t_dying (h : COk s cs) {x : Rat} (hx : Death cs x) (x0 : 0 < x) (hd : ∀ V, (V = Fl cs ∨ V = Ft cs) → Ev (m_death_of [V]) (fr x)) : Ev (m__law_dying_right [Fl cs, fr x]) (.bool true) := by
  have h5 := h.l5
  have h1 := h.l1
  have hb : BL 9 cs := h.bd
  have bx := hx.bd
  have xn : x ≠ 0 := by grind
  have hD := due_bd bx cs 0 hb (by omega)
  have hch := due_chs h.chs hx.rt x0
  have dl := due_len x cs 0
  have hc0 : cs.getD 0 0 ≠ 0 := fun z => by
    have := root_unique hx.rt (root_zero h.chs z)
    exact xn this
  have hsure := due_sure h.chs h5 hx.rt x0 hc0
  have cw : CW (9 + 61 + 12) (dueF x 0 cs) := ⟨by rw [dl]; exact h1, by rw [dl]; exact h5, hch.nn, hch.sm, hD, by decide⟩
  have g1 := s_dying (V := Fl cs) (.inl rfl) (s_check (.inl rfl) h) (hd _ (.inl rfl)) bx x0 hb (by decide) h5
  have g2 := s_dying (V := Ft cs) (.inr rfl) (s_check (.inr rfl) h) (hd _ (.inr rfl)) bx x0 hb (by decide) h5
  have hD2 : ∀ y ∈ dueF x 0 cs, Bd 1919 y := fun y hy => (hD y hy).mono (by decide)
  have r2 : reprOk (.list [Fl (dueF x 0 cs), Fl (dueF x 0 cs)]) = true := rep_two (by omega) (by omega) hD2 hD2
  have r1 : reprOk (Fl (dueF x 0 cs)) = true := rep_frs (by omega) hD2
  have x0' : Ex dr0 (Dr cs x .no .no) (Dr cs x (.fz (Fl ((cs.zipIdx 0).map fun p => p.1 * pw x p.2))) .no) := by
    refine ex_asg (ev_to (ev_lc (eva_to (evi_enumQ (ev_var rfl) rfl) (enumD_map fr cs 0)) (evlc_map (r := fun p : Rat × Nat => fr (p.1 * pw x p.2)) fun p hp => ?_) (small_65 (by omega))) (fl_map _ _)) evg_n
    have hz := List.mem_zipIdx hp
    simp only [Nat.sub_zero, Nat.zero_add] at hz
    have b1 : Bd 9 p.1 := by rw [hz.2.2]; exact hb _ (List.getElem_mem _)
    exact ⟨_, evg_t (evgs_cons evg_n (evgs_cons evg_n evgs_nil)) rfl, ev_call (eva_cons (ev_var rfl) (eva_cons (ev_call (eva_cons (ev_var rfl) (eva_cons (ev_var rfl) eva_nil)) (l_power bx (n := p.2) (by omega) (by decide)) rfl) eva_nil)) (mulL _ _ _ _ b1 (pw_bd bx p.2) (by omega)) rfl⟩
  have x1' : Ex dr1 (Dr cs x (.fz (Fl ((cs.zipIdx 0).map fun p => p.1 * pw x p.2))) .no) (Dr cs x (.fz (Fl (dueF x 0 cs))) .no) := by
    have el : ((cs.zipIdx 0).map fun p => p.1 * pw x p.2).map (fun y => y / x) = dueF x 0 cs := by
      rw [List.map_map]
      exact zip_due x cs 0
    refine ex_asg (ev_to (ev_lc (evi_seqL (ev_var rfl)) (evlc_map (r := fun y : Rat => fr (y / x)) fun y hy => ?_) (by rw [List.length_map, List.length_map, List.length_zipIdx]; exact small_le (m := 20) (by omega))) ((fl_map _ _).trans (by rw [el]))) evg_n
    obtain ⟨p, hp, rfl⟩ := List.mem_map.mp hy
    have hz := List.mem_zipIdx hp
    simp only [Nat.sub_zero, Nat.zero_add] at hz
    have b1 : Bd 9 p.1 := by rw [hz.2.2]; exact hb _ (List.getElem_mem _)
    exact ⟨_, evg_n, ev_call (eva_cons (ev_var rfl) (eva_cons (ev_var rfl) eva_nil)) (ev_divP (mul_bd b1 (pw_bd bx p.2)) bx (by omega) xn) rfl⟩
  have x2 : Ex dr2 (Dr cs x (.fz (Fl (dueF x 0 cs))) .no) (Dr cs x (.fz (Fl (dueF x 0 cs))) (.ow ((dueF x 0 cs).map fr))) := ex_own (evf_call (eva_cons (ev_var rfl) eva_nil) g1 rfl)
  have x3 : Ex dr3 (Dr cs x (.fz (Fl (dueF x 0 cs))) (.ow ((dueF x 0 cs).map fr))) (Dr cs x (.fz (Fl (dueF x 0 cs))) (.ow ((dueF x 0 cs).map fr))) :=
    ex_ifF (evt_borT (env' := Dr cs x (.fz (Fl (dueF x 0 cs))) (.fz (Fl (dueF x 0 cs)))) rfl (evt_orF (evt_b (ev_repr2 (ev_lst (eva_cons (ev_var rfl) (eva_cons (ev_callK (eva_cons (ev_cb (eva_cons (ev_var rfl) eva_nil) cb_tupL) eva_nil) g2 rfl) eva_nil)) rfl) (ev_lst (eva_cons (ev_var rfl) (eva_cons (ev_var rfl) eva_nil)) rfl) r2 rfl)) (evt_b (ev_op (ev_call (eva_cons (ev_var rfl) eva_nil) (ev_def (rt_ret (ev_call (eva_cons (ev_var rfl) eva_nil) (w_are (.inl rfl) cw) rfl))) rfl) ev_c op_isNT)))) ex_nil
  have x4 : Ex dr4 (Dr cs x (.fz (Fl (dueF x 0 cs))) (.ow ((dueF x 0 cs).map fr))) (Dr cs x (.fz (Fl (dueF x 0 cs))) (.ow ((dueF x 0 cs).map fr ++ [.none]))) := ex_app rfl ev_c (by rw [List.length_map]; exact small_le (m := 100) (by omega))
  have call : Ev (dCB gAll (aCons (dLc (iSeq (dVar 2)) (gN 5) dYes (dOp gLt (dOp gIx (dVar 5) (dC (.int 1))) (dOp gPow (dC (.int 10)) (dC (.int 12)))) [5]) aNil) (Dr cs x (.fz (Fl (dueF x 0 cs))) (.ow ((dueF x 0 cs).map fr ++ [.none])))) (.bool (((dueF x 0 cs).map fun c : Rat => decide (c.den < 1000000000000)).all id)) := by
    refine ev_cb (eva_cons (ev_lc (evi_seqL (ev_var rfl)) (evlc_map (r := fun c : Rat => .bool (decide (c.den < 1000000000000))) fun c hc => ⟨_, evg_n, ?_⟩) (by rw [List.length_map]; exact small_le (m := 20) (by omega))) eva_nil) (cb_bools (bs := (dueF x 0 cs).map fun c : Rat => decide (c.den < 1000000000000)) (by rw [List.map_map]; rfl))
    refine ev_toB (ev_op (ev_op (ev_var rfl) ev_c op_den) (ev_op ev_c ev_c (z := .int 1000000000000) fun k => rfl) op_I) ?_
    exact decide_eq_decide.mpr (show (c.den : Int) < 1000000000000 ↔ _ by omega)
  unfold m__law_dying_right
  rw [dreq]
  refine ev_def (rt_seq x0' (rt_seq x1' (rt_seq x2 (rt_seq x3 (rt_seq x4 ?_)))))
  have rf : EvT (dB (dRepr2 false (dCallN 1 m_dying (aCons (dVar 0) aNil)) (dVar 2)) (Dr cs x (.fz (Fl (dueF x 0 cs))) (.ow ((dueF x 0 cs).map fr ++ [.none])))) false := evt_b (ev_repr2 (ev_call (eva_cons (ev_var rfl) eva_nil) g1 rfl) (ev_var rfl) r1 rfl)
  cases hall : ((dueF x 0 cs).map fun c : Rat => decide (c.den < 1000000000000)).all id with
  | false =>
    rw [hall] at call
    exact rt_now (rt_ifT (evt_orF rf (evt_notT (evt_b call))) (rt_ret (ev_repr2 (ev_call (eva_cons (ev_var rfl) eva_nil) g1 rfl) (ev_var rfl) r1 rfl)))
  | true =>
    rw [hall] at call
    have hden : ∀ c ∈ dueF x 0 cs, c.num.natAbs < 1000000000000 ∧ c.den < 1000000000000 := fun c hc => by
      have hd : c.den < 1000000000000 := by
        have := List.all_eq_true.mp hall _ (List.mem_map_of_mem hc)
        exact of_decide_eq_true this
      have hle : c ≤ 1 := by
        have := le_sum (l := dueF x 0 cs) hch.nn c hc
        rw [hch.sm] at this
        exact this
      exact ⟨Nat.lt_of_le_of_lt (num_le_den (hch.nn c hc) hle) hd, hd⟩
    have ck := w_checkS (V := Fl (dueF x 0 cs)) (.inl rfl) cw hden
    have sr := w_sure (V := Fl (dueF x 0 cs)) (.inl rfl) cw
    have ds := s_dies (V := Fl (dueF x 0 cs)) (.inl rfl) ck sr
    rw [hsure] at ds
    have g3 := s_dying (V := Fl (dueF x 0 cs)) (.inl rfl) ck (w_death_one (.inl rfl) cw hsure) (bd_one.mono (by decide)) (by decide) hD (by decide) (by omega)
    rw [due_one] at g3
    exact rt_seq (ex_ifF (evt_orF rf (evt_notF (evt_b call))) ex_nil) (rt_ret (ev_andT (ev_op (ev_call (eva_cons (ev_var rfl) eva_nil) ds rfl) ev_c op_isT) (ev_toB (ev_op (ev_call (eva_cons (ev_var rfl) eva_nil) g3 rfl) (ev_var rfl) op_eqfrs) (by simp))))
end
end Kp

namespace Kp
open PySem PySem.Spec PyProof.Rows L2 Dl
def on0 : DS := (sPar 1 2 (aCons (dCB gRepr (aCons (dVar 0) aNil)) (aCons (dTup (aCons (dC (.int 0)) (aCons (dC (.int 1)) aNil))) aNil)))
def on1_0 : DS := (sIf (dB (dRepr2 false (dLst (aCons (dCallN 2 m_dead_by (aCons (dVar 0) (aCons (dVar 3) aNil))) (aCons (dCallK 2 2 [1, 0] m_dead_by (aCons (dVar 3) (aCons (dCB gTuple (aCons (dVar 0) aNil)) aNil))) aNil))) (dLst (aCons (dVar 2) (aCons (dVar 2) aNil))))) (sRet (dC (.bool false))) sNil)
def on1_1 : DS := (sIf (dAnd (dB (dOp gLt (dVar 3) (dC (.int 4)))) (dB (dOp gNe (dOp gIx (dCallN 2 m_size_chances (aCons (dVar 0) (aCons (dCB gMin2 (aCons (dVar 3) (aCons (dC (.int 3)) aNil))) aNil))) (dC (.int 0))) (dIf (dB (dOp gLt (dVar 3) (dC (.int 4)))) (dVar 2) (dC .none))))) (sRet (dC (.bool false))) sNil)
def on1_2 : DS := (sAsg (dCallN 2 m__law_number (aCons (dVar 0) (aCons (dVar 2) aNil))) (gN 4))
def on1_3 : DS := (sIf (dB (dCallN 2 m__law_below (aCons (dVar 4) (aCons (dVar 2) aNil)))) (sRet (dC (.bool false))) sNil)
def on1_4 : DS := (sAsg (dVar 4) (gN 2))
def on1_t3 : DS := sSeq on1_3 on1_4
def on1_t2 : DS := sSeq on1_2 on1_t3
def on1_t1 : DS := sSeq on1_1 on1_t2
def on1_t0 : DS := sSeq on1_0 on1_t1
def on1 : DS := sFor (iRange1 (dC (.int 5))) (gN 3) on1_t0
def on2 : DS := (sAsg (dCallN 1 m__law_is_sure (aCons (dVar 0) aNil)) (gN 5))
def on3 : DS := (sIf (dOr (dB (dRepr2 false (dLst (aCons (dCallN 1 m_dies_surely (aCons (dVar 0) aNil)) (aCons (dCallK 1 1 [0] m_dies_surely (aCons (dVar 0) aNil)) aNil))) (dLst (aCons (dVar 5) (aCons (dVar 5) aNil))))) (dAnd (dB (dCallN 2 m__law_below (aCons (dTup (aCons (dC (.int 1)) (aCons (dC (.int 1)) aNil))) (aCons (dCallN 1 m_child_mean (aCons (dVar 0) aNil)) aNil)))) (dB (dVar 5)))) (sRet (dC (.bool false))) sNil)
def on4_0 : DS := (sIf (dOr (dB (dOp gNe (dOp gIs (dVar 6) (dC .none)) (dVar 5))) (dAnd (dB (dOp gIsNot (dVar 6) (dC .none))) (dOr (dNot (dB (dCallN 2 m__law_is_live (aCons (dVar 0) (aCons (dVar 6) aNil))))) (dB (dOp gIsNot (dCallN 2 m_is_live_paper (aCons (dVar 0) (aCons (dVar 6) aNil))) (dC (.bool true))))))) (sRet (dC (.bool false))) sNil)
def on4 : DS := sFor (iSeq (dLst (aCons (dCallN 1 m_live_paper (aCons (dVar 0) aNil)) (aCons (dCallK 1 1 [0] m_live_paper (aCons (dCB gTuple (aCons (dVar 0) aNil)) aNil)) aNil)))) (gN 6) on4_0
def on5 : DS := (sAsg (dCallN 1 m_death_chance (aCons (dVar 0) aNil)) (gN 7))
def on6 : DS := (sIf (dOr (dB (dRepr2 false (dCallK 1 1 [0] m_death_chance (aCons (dCB gTuple (aCons (dVar 0) aNil)) aNil)) (dVar 7))) (dOr (dAnd (dB (dVar 5)) (dB (dOp gNe (dVar 7) (dTup (aCons (dC (.int 1)) (aCons (dC (.int 1)) aNil)))))) (dAnd (dB (dOp gIs (dVar 7) (dC .none))) (dB (dOp gEq (dOp gIx (dVar 0) (dC (.int 0))) (dTup (aCons (dC (.int 0)) (aCons (dC (.int 1)) aNil)))))))) (sRet (dC (.bool false))) sNil)
def on7 : DS := (sIf (dAnd (dB (dOp gIsNot (dVar 7) (dC .none))) (dOr (dB (dOp gNe (dCallN 2 m__law_number (aCons (dVar 0) (aCons (dVar 7) aNil))) (dVar 7))) (dAnd (dNot (dB (dVar 5))) (dB (dOp gIsNot (dCallN 2 m_is_live_paper (aCons (dVar 0) (aCons (dVar 7) aNil))) (dC (.bool true))))))) (sRet (dC (.bool false))) sNil)
def on8_0 : DS := (sAsg (dCallN 2 m__law_times (aCons (dVar 7) (aCons (dTup (aCons (dC (.int 99)) (aCons (dC (.int 100)) aNil))) aNil))) (gN 8))
def on8_1 : DS := (sIf (dOr (dB (dOp gIsNot (dCallN 2 m_is_live_paper (aCons (dVar 0) (aCons (dVar 8) aNil))) (dC (.bool false)))) (dB (dCallN 2 m__law_below (aCons (dVar 7) (aCons (dVar 2) aNil))))) (sRet (dC (.bool false))) sNil)
def on8_2 : DS := (sIf (dNot (dB (dCallN 2 m__law_dying_right (aCons (dVar 0) (aCons (dVar 7) aNil))))) (sRet (dC (.bool false))) sNil)
def on8_t1 : DS := sSeq on8_1 on8_2
def on8_t0 : DS := sSeq on8_0 on8_t1
def on8 : DS := sIf (dAnd (dB (dOp gIsNot (dVar 7) (dC .none))) (dB (dOp gGt (dOp gIx (dVar 7) (dC (.int 0))) (dC (.int 0))))) on8_t0 sNil
def on9 : DS := (sRet (dAndV (dCallN 2 m__law_between_right (aCons (dVar 0) (aCons (dVar 7) aNil))) (dOp gEq (dCB gRepr (aCons (dVar 0) aNil)) (dVar 1))))
def ont8 : DS := sSeq on8 on9
def ont7 : DS := sSeq on7 ont8
def ont6 : DS := sSeq on6 ont7
def ont5 : DS := sSeq on5 ont6
def ont4 : DS := sSeq on4 ont5
def ont3 : DS := sSeq on3 ont4
def ont2 : DS := sSeq on2 ont3
def ont1 : DS := sSeq on1 ont2
def ont0 : DS := sSeq on0 ont1
theorem oneq : b__law_one_right = ont0 := rfl
section
variable {s : Nat} {cs : List Rat} {V : PyData}
theorem rat_num_pos (x : Rat) : 0 < x.num ↔ 0 < x := by
  have a := Rat.num_nonneg (q := x)
  have b := Rat.num_eq_zero (q := x)
  constructor
  · intro h
    have h0 := a.mp (by omega)
    have hn : x ≠ 0 := fun z => by have := b.mpr z; omega
    grind
  · intro h
    have h0 := a.mpr (Rat.le_of_lt h)
    have hn : x.num ≠ 0 := fun z => by have := b.mp z; grind
    omega
theorem ev_uni {f : KF → Bool} {d e : PyData} (h1 : Ev f d) (h2 : Ev f e) : d = e := by
  have := (h1 (fun y => @decide (y = d) (Classical.propDecidable _))).symm.trans (h2 (fun y => @decide (y = d) (Classical.propDecidable _)))
  have hd : @decide (d = d) (Classical.propDecidable _) = true := @decide_eq_true _ (Classical.propDecidable _) rfl
  have : @decide (e = d) (Classical.propDecidable _) = true := by rw [← this]; exact hd
  exact (@of_decide_eq_true _ (Classical.propDecidable _) this).symm
theorem death_V (h : COk s cs) {d : PyData} (hd : Ev (m_death_of [Fl cs]) d) : ∀ V, (V = Fl cs ∨ V = Ft cs) → Ev (m_death_of [V]) d := fun V hV k => by
  rw [← hd k]
  have key : ∀ W, (W = Fl cs ∨ W = Ft cs) → m_death_of [W] k = (match sureB cs with
    | true => k (fr 1)
    | false => if cs.getD 0 0 = 0 then k (fr 0) else m_root_between [Il (toldI (sfxI (tI (Lc cs) cs)))] k) := fun W hW => by
    have l0 : startE 1 [W] = [.fz W] := by rcases hW with rfl | rfl <;> rfl
    have cs1 : EvT (dB (dCallN 1 m_is_sure_of (aCons (dVar 0) aNil)) [.fz W]) (sureB cs) := evt_b (ev_call (eva_cons (ev_var rfl) eva_nil) (s_sure hW h) rfl)
    unfold m_death_of
    rw [doeq, k_mOf, l0]
    cases e : sureB cs with
    | true =>
      rw [e] at cs1
      exact (rt_now (rt_ifT cs1 (rt_ret ev_one)) : Rt dot0 [.fz W] (fr 1)) _
    | false =>
      rw [e] at cs1
      have x0 : Ex do0 [.fz W] [.fz W] := ex_ifF cs1 ex_nil
      have c2 : EvT (dB (dOp gEq (dOp gIx (dVar 0) (dC (.int 0))) (dC c_NOUGHT)) [.fz W]) (decide (cs.getD 0 0 = 0)) := evt_b (ev_op (ev_op (ev_var rfl) ev_c (ev_ixV hW (i := 0) h.l1)) ev_nought op_eqfr)
      by_cases h0 : cs.getD 0 0 = 0
      · rw [decide_eq_true h0] at c2
        show _ = (if cs.getD 0 0 = 0 then k (fr 0) else _)
        rw [if_pos h0]
        exact (rt_seq x0 (rt_now (rt_ifT c2 (rt_ret ev_nought))) : Rt dot0 [.fz W] (fr 0)) _
      · rw [decide_eq_false h0] at c2
        have x1 : Ex do1 [.fz W] [.fz W] := ex_ifF c2 ex_nil
        show _ = (if cs.getD 0 0 = 0 then k (fr 0) else _)
        rw [if_neg h0]
        show sSeq do0 (sSeq do1 do2) _ _ = _
        refine (ex_seq x0 x1 : Ex (sSeq do0 do1) [.fz W] [.fz W]) { nx := do2 _, rt := k, bk := _, ct := _ } |>.trans ?_
        show dCallN 1 m_root_between (aCons (dCallN 1 m_whole_quotient (aCons (dVar 0) aNil)) aNil) [.fz W] k = _
        have hq : EvA (aCons (dCallN 1 m_whole_quotient (aCons (dVar 0) aNil)) aNil [.fz W]) [Il (toldI (sfxI (tI (Lc cs) cs)))] := eva_cons (ev_call (eva_cons (ev_var rfl) eva_nil) (s_wq hW h) rfl) eva_nil
        exact hq fun ds => match Nat.beq ds.length 1 with
          | true => m_root_between ds k
          | false => false
  rw [key V hV, key (Fl cs) (.inl rfl)]
theorem s_deathV (h : COk s cs) : ∃ d, (∀ V, (V = Fl cs ∨ V = Ft cs) → Ev (m_death_of [V]) d) ∧ ((∃ x, d = fr x ∧ Death cs x) ∨
    (d = .none ∧ sureB cs = false ∧ cs.getD 0 0 ≠ 0 ∧ ∀ i y, toldI (sfxI (tI (Lc cs) cs)) = i ++ [y] → ∀ m0 : Nat, 0 < m0 → m0 < y.natAbs → nb ((m0 : Rat) / (y.natAbs : Rat)) (Qc cs) ≠ 0)) := by
  rcases s_death (V := Fl cs) (.inl rfl) h with ⟨x, hx, hd⟩ | ⟨hx, hd⟩
  · exact ⟨fr x, death_V h hx, .inl ⟨x, rfl, hd⟩⟩
  · exact ⟨.none, death_V h hx, .inr ⟨rfl, hd⟩⟩
abbrev On (cs : List Rat) (r : Sls) : Sls := .fz (Fl cs) :: .fz (.str (Fl cs).shown) :: r
theorem rep_bb (b : Bool) : reprOk (.list [.bool b, .bool b]) = true := by cases b <;> rfl
theorem eN_5 : ∀ n, n ≤ 4 → eN (n + 1) ≤ 341 := by decide
theorem on1_body (h : COk s cs) {k : Nat} (hk : k ≤ 4) (t4 : Sl) {r : Sls} : ∃ t4', Ex on1_t0 (On cs (.fz (fr (itF cs k)) :: .fz (.int (k : Int)) :: t4 :: r)) (On cs (.fz (fr (itF cs (k + 1))) :: .fz (.int (k : Int)) :: t4' :: r)) := by
  have e1 := eN_le k hk
  have e2 := eN_5 k hk
  have b1 := it_bd h k
  have b2 := it_bd h (k + 1)
  have x0 : Ex on1_0 (On cs (.fz (fr (itF cs k)) :: .fz (.int (k : Int)) :: t4 :: r)) (On cs (.fz (fr (itF cs k)) :: .fz (.int (k : Int)) :: t4 :: r)) :=
    ex_ifF (evt_b (ev_repr2 (ev_lst (eva_cons (ev_call (eva_cons (ev_var rfl) (eva_cons (ev_var rfl) eva_nil)) (s_dead (.inl rfl) h hk) rfl) (eva_cons (ev_callK (eva_cons (ev_var rfl) (eva_cons (ev_cb (eva_cons (ev_var rfl) eva_nil) cb_tupL) eva_nil)) (s_dead (.inr rfl) h hk) rfl) eva_nil)) rfl) (ev_lst (eva_cons (ev_var rfl) (eva_cons (ev_var rfl) eva_nil)) rfl) (rep_xx (b1.mono (by omega))) rfl)) ex_nil
  have x1 : Ex on1_1 (On cs (.fz (fr (itF cs k)) :: .fz (.int (k : Int)) :: t4 :: r)) (On cs (.fz (fr (itF cs k)) :: .fz (.int (k : Int)) :: t4 :: r)) := by
    by_cases h4 : k < 4
    · have d := dz_ok h k (by omega)
      have em : (PyData.int (if (3 : Int) < (k : Int) then 3 else (k : Int))) = .int (k : Int) := by rw [if_neg (by omega)]
      have eh : ((Dz cs k).map fr)[0]? = some (fr (itF cs k)) := by
        have := dz_head h k
        have hl := d.ch.l1
        rw [List.getElem?_map, List.getElem?_eq_getElem (show 0 < (Dz cs k).length by omega), ← this, List.getD_eq_getElem?_getD, List.getElem?_eq_getElem (show 0 < (Dz cs k).length by omega)]
        rfl
      refine ex_ifF (evt_andT (evt_b (ev_toB (ev_op (ev_var rfl) ev_c op_I) (decide_eq_true (by omega)))) (evt_b (ev_toB (ev_op (ev_op (ev_call (eva_cons (ev_var rfl) (eva_cons (ev_to (ev_cb (eva_cons (ev_var rfl) (eva_cons ev_c eva_nil)) fun k => rfl) em) eva_nil)) (s_size (.inl rfl) h (n := k) (by omega)) rfl) ev_c (op_ixL (Dl.atI_nat (i := 0) eh))) (ev_ifT (evt_b (ev_toB (ev_op (ev_var rfl) ev_c op_I) (decide_eq_true (by omega)))) (ev_var rfl)) op_nefr) (by simp)))) ex_nil
    · exact ex_ifF (evt_andF (evt_b (ev_toB (ev_op (ev_var rfl) ev_c op_I) (decide_eq_false (by omega))))) ex_nil
  have x2 : Ex on1_2 (On cs (.fz (fr (itF cs k)) :: .fz (.int (k : Int)) :: t4 :: r)) (On cs (.fz (fr (itF cs k)) :: .fz (.int (k : Int)) :: .fz (fr (itF cs (k + 1))) :: r)) := ex_asg (ev_call (eva_cons (ev_var rfl) (eva_cons (ev_var rfl) eva_nil)) (l_numberS h e1 (it_sz h k)) rfl) evg_n
  have x3 : Ex on1_3 (On cs (.fz (fr (itF cs k)) :: .fz (.int (k : Int)) :: .fz (fr (itF cs (k + 1))) :: r)) (On cs (.fz (fr (itF cs k)) :: .fz (.int (k : Int)) :: .fz (fr (itF cs (k + 1))) :: r)) := ex_ifF (evt_b (ev_toB (ev_call (eva_cons (ev_var rfl) (eva_cons (ev_var rfl) eva_nil)) (ev_below b2 b1 (by omega)) rfl) (decide_eq_false (Rat.not_lt.mpr (it_mono h.chs k))))) ex_nil
  exact ⟨_, ex_seq x0 (ex_seq x1 (ex_seq x2 (ex_seq x3 (ex_asg (ev_var rfl) evg_n))))⟩
theorem on4_body (h : COk s cs) {d : PyData} (hd : (sureB cs = true ∧ d = .none) ∨ (sureB cs = false ∧ ∃ K, K ≤ 11 ∧ liveB cs (lx K) = true ∧ d = fr (lx K))) {t2 t3 t4 : Sl} {r : Sls} : Ex on4_0 (On cs (t2 :: t3 :: t4 :: .fz (.bool (sureB cs)) :: .fz d :: r)) (On cs (t2 :: t3 :: t4 :: .fz (.bool (sureB cs)) :: .fz d :: r)) := by
  rcases hd with ⟨e, rfl⟩ | ⟨e, K, hK, hl, rfl⟩
  · rw [e]
    exact ex_ifF (evt_orF (evt_b (ev_op (ev_op (ev_var rfl) ev_c (z := .bool true) fun k => rfl) (ev_var rfl) op_neB)) (evt_andF (evt_b (ev_op (ev_var rfl) ev_c fun k => rfl)))) ex_nil
  · rw [e]
    have hp := s_live_paper_is (V := Fl cs) (.inl rfl) h (lx_bd K) (by omega) (lx_unit K).1
    rw [hl] at hp
    exact ex_ifF (evt_orF (evt_b (ev_op (ev_op (ev_var rfl) ev_c (z := .bool false) fun k => rfl) (ev_var rfl) op_neB)) (evt_andT (evt_b (ev_op (ev_var rfl) ev_c fun k => rfl)) (evt_orF (evt_notF (evt_b (ev_call (eva_cons (ev_var rfl) (eva_cons (ev_var rfl) eva_nil)) (l_is_live h (lx_bd K) (by omega) (lx_unit K).1 hl) rfl))) (evt_b (ev_op (ev_call (eva_cons (ev_var rfl) (eva_cons (ev_var rfl) eva_nil)) hp rfl) ev_c op_isNT))))) ex_nil
theorem fr_99 : fr (99/100) = .tuple [.int 99, .int 100] := by
  unfold fr
  rw [show (99/100 : Rat).num = 99 by decide +kernel, show (99/100 : Rat).den = 100 by decide +kernel]
  rfl
theorem ev_lit99 {env : Sls} : Ev (dTup (aCons (dC (.int 99)) (aCons (dC (.int 100)) aNil)) env) (fr (99/100)) := fun k => by rw [fr_99]; rfl
theorem bd_99 : Bd 7 (99/100) := ⟨by decide +kernel, by decide +kernel⟩
theorem t_one (h : COk s cs) : Ev (m__law_one_right [Fl cs]) (.bool true) := by
  have h1 := h.l1
  have rp : reprOk (Fl cs) = true := h.rep
  have x0 : Ex on0 [.fz (Fl cs), .no, .no, .no, .no, .no, .no, .no, .no] (On cs [.fz (fr 0), .no, .no, .no, .no, .no, .no]) := ex_par (eva_cons (ev_cb (eva_cons (ev_var rfl) eva_nil) (cb_repr rp)) (eva_cons ev_lit0 eva_nil))
  obtain ⟨e, ⟨t3, t4, rfl⟩, he⟩ := for_inv (g := gN 3) (body := on1_t0) (f := fun i : Nat => .int (i : Int)) (xs := List.range 5)
    (fun pre _ e => ∃ t3 t4, e = On cs [.fz (fr (itF cs pre.length)), t3, t4, .no, .no, .no, .no]) (by
    rintro pre i rest e hq ⟨t3, t4, rfl⟩
    have hl : pre.length < 5 := by have := congrArg List.length hq; simp at this; omega
    have hp : i = pre.length := by
      have e1 : (List.range 5)[pre.length]? = some i := by rw [← hq]; simp
      rw [List.getElem?_range hl] at e1
      exact (Option.some.inj e1).symm
    subst hp
    obtain ⟨t4', x⟩ := on1_body h (k := pre.length) (by omega) t4 (r := [.no, .no, .no, .no])
    refine ⟨_, _, evg_n, x, ⟨.fz (.int (pre.length : Int)), t4', ?_⟩⟩
    rw [List.length_append, List.length_singleton]) (List.range 5) [] (On cs [.fz (fr (itF cs 0)), .no, .no, .no, .no, .no, .no]) rfl ⟨_, _, rfl⟩
  rw [List.length_range] at he
  have x1 : Ex on1 (On cs [.fz (fr 0), .no, .no, .no, .no, .no, .no]) (On cs [.fz (fr (itF cs 5)), t3, t4, .no, .no, .no, .no]) := ex_for (evi_rangeN (n := 5) ev_c (by decide)) he
  have x2 : Ex on2 (On cs [.fz (fr (itF cs 5)), t3, t4, .no, .no, .no, .no]) (On cs [.fz (fr (itF cs 5)), t3, t4, .fz (.bool (sureB cs)), .no, .no, .no]) := ex_asg (ev_call (eva_cons (ev_var rfl) eva_nil) (l_sure h) rfl) evg_n
  have ds := s_dies (V := Fl cs) (.inl rfl) (s_check (.inl rfl) h) (s_sure (.inl rfl) h)
  have x3 : Ex on3 (On cs [.fz (fr (itF cs 5)), t3, t4, .fz (.bool (sureB cs)), .no, .no, .no]) (On cs [.fz (fr (itF cs 5)), t3, t4, .fz (.bool (sureB cs)), .no, .no, .no]) := by
    have r1 : EvT (dB (dRepr2 false (dLst (aCons (dCallN 1 m_dies_surely (aCons (dVar 0) aNil)) (aCons (dCallK 1 1 [0] m_dies_surely (aCons (dVar 0) aNil)) aNil))) (dLst (aCons (dVar 5) (aCons (dVar 5) aNil)))) (On cs [.fz (fr (itF cs 5)), t3, t4, .fz (.bool (sureB cs)), .no, .no, .no])) false := evt_b (ev_repr2 (ev_lst (eva_cons (ev_call (eva_cons (ev_var rfl) eva_nil) ds rfl) (eva_cons (ev_callK (eva_cons (ev_var rfl) eva_nil) ds rfl) eva_nil)) rfl) (ev_lst (eva_cons (ev_var rfl) (eva_cons (ev_var rfl) eva_nil)) rfl) (rep_bb _) rfl)
    have r2 : EvT (dB (dCallN 2 m__law_below (aCons (dTup (aCons (dC (.int 1)) (aCons (dC (.int 1)) aNil))) (aCons (dCallN 1 m_child_mean (aCons (dVar 0) aNil)) aNil))) (On cs [.fz (fr (itF cs 5)), t3, t4, .fz (.bool (sureB cs)), .no, .no, .no])) (decide (1 < mn cs)) := evt_b (ev_call (eva_cons ev_lit1 (eva_cons (ev_call (eva_cons (ev_var rfl) eva_nil) (s_child_mean (.inl rfl) h) rfl) eva_nil)) (ev_below bd_one h.mbd (by decide)) rfl)
    refine ex_ifF (evt_orF r1 ?_) ex_nil
    by_cases hm : 1 < mn cs
    · have es : sureB cs = false := by unfold sureB; rw [decide_eq_true hm, Bool.not_true, Bool.and_false]
      rw [decide_eq_true hm] at r2
      exact evt_andT r2 (evt_b (ev_toB (ev_var rfl) es))
    · rw [decide_eq_false hm] at r2
      exact evt_andF r2
  have hp1 := s_live_paper (V := Fl cs) (.inl rfl) h
  have hp2 := s_live_paper (V := Ft cs) (.inr rfl) h
  obtain ⟨d1, v1, q1⟩ : ∃ d, Ev (m_live_paper [Fl cs]) d ∧ ((sureB cs = true ∧ d = .none) ∨ (sureB cs = false ∧ ∃ K, K ≤ 11 ∧ liveB cs (lx K) = true ∧ d = fr (lx K))) := by
    rcases hp1 with ⟨a, b⟩ | ⟨a, K, b, c, d⟩
    · exact ⟨_, b, .inl ⟨a, rfl⟩⟩
    · exact ⟨_, d, .inr ⟨a, K, b, c, rfl⟩⟩
  obtain ⟨d2, v2, q2⟩ : ∃ d, Ev (m_live_paper [Ft cs]) d ∧ ((sureB cs = true ∧ d = .none) ∨ (sureB cs = false ∧ ∃ K, K ≤ 11 ∧ liveB cs (lx K) = true ∧ d = fr (lx K))) := by
    rcases hp2 with ⟨a, b⟩ | ⟨a, K, b, c, d⟩
    · exact ⟨_, b, .inl ⟨a, rfl⟩⟩
    · exact ⟨_, d, .inr ⟨a, K, b, c, rfl⟩⟩
  have x4 : Ex on4 (On cs [.fz (fr (itF cs 5)), t3, t4, .fz (.bool (sureB cs)), .no, .no, .no]) (On cs [.fz (fr (itF cs 5)), t3, t4, .fz (.bool (sureB cs)), .fz d2, .no, .no]) :=
    ex_for (evi_seqL (ev_lst (eva_cons (ev_call (eva_cons (ev_var rfl) eva_nil) v1 rfl) (eva_cons (ev_callK (eva_cons (ev_cb (eva_cons (ev_var rfl) eva_nil) cb_tupL) eva_nil) v2 rfl) eva_nil)) rfl)) (exf_cons evg_n (on4_body h q1 (t2 := .fz (fr (itF cs 5))) (t3 := t3) (t4 := t4) (r := [.no, .no])) (exf_cons evg_n (on4_body h q2 (t2 := .fz (fr (itF cs 5))) (t3 := t3) (t4 := t4) (r := [.no, .no])) exf_nil))
  obtain ⟨d, vd, hd⟩ := s_deathV h
  have c1 := s_death_chance (V := Fl cs) (.inl rfl) h (vd _ (.inl rfl))
  have c2 := s_death_chance (V := Ft cs) (.inr rfl) h (vd _ (.inr rfl))
  have x5 : Ex on5 (On cs [.fz (fr (itF cs 5)), t3, t4, .fz (.bool (sureB cs)), .fz d2, .no, .no]) (On cs [.fz (fr (itF cs 5)), t3, t4, .fz (.bool (sureB cs)), .fz d2, .fz d, .no]) := ex_asg (ev_call (eva_cons (ev_var rfl) eva_nil) c1 rfl) evg_n
  unfold m__law_one_right
  rw [oneq]
  rcases hd with ⟨x, rfl, hx⟩ | ⟨rfl, hns, hc0, _⟩
  · have bx := hx.bd
    have xx0 := hx.rt.x0
    have tb := t_between h (d := fr x) (.inr ⟨x, rfl, bx, hx.rt⟩)
    have ebt : Ev (dAndV (dCallN 2 m__law_between_right (aCons (dVar 0) (aCons (dVar 7) aNil))) (dOp gEq (dCB gRepr (aCons (dVar 0) aNil)) (dVar 1)) (On cs [.fz (fr (itF cs 5)), t3, t4, .fz (.bool (sureB cs)), .fz d2, .fz (fr x), .no])) (.bool true) := ev_andT (ev_call (eva_cons (ev_var rfl) (eva_cons (ev_var rfl) eva_nil)) tb rfl) (ev_op (ev_cb (eva_cons (ev_var rfl) eva_nil) (cb_repr rp)) (ev_var rfl) (op_eqsh rp))
    have rpx : EvT (dB (dRepr2 false (dCallK 1 1 [0] m_death_chance (aCons (dCB gTuple (aCons (dVar 0) aNil)) aNil)) (dVar 7)) (On cs [.fz (fr (itF cs 5)), t3, t4, .fz (.bool (sureB cs)), .fz d2, .fz (fr x), .no])) false := evt_b (ev_repr2 (ev_callK (eva_cons (ev_cb (eva_cons (ev_var rfl) eva_nil) cb_tupL) eva_nil) c2 rfl) (ev_var rfl) (reprOk_fr (bx.mono (by decide))) rfl)
    have x6 : Ex on6 (On cs [.fz (fr (itF cs 5)), t3, t4, .fz (.bool (sureB cs)), .fz d2, .fz (fr x), .no]) (On cs [.fz (fr (itF cs 5)), t3, t4, .fz (.bool (sureB cs)), .fz d2, .fz (fr x), .no]) := by
      refine ex_ifF (evt_orF rpx (evt_orF ?_ (evt_andF (evt_b (ev_op (ev_var rfl) ev_c fun k => rfl))))) ex_nil
      cases es : sureB cs with
      | true => exact evt_andT (evt_b (ev_var rfl)) (evt_b (ev_toB (ev_op (ev_var rfl) ev_lit1 op_nefr) (by rw [decide_eq_true (hx.su es)]; rfl)))
      | false => exact evt_andF (evt_b (ev_var rfl))
    have x7 : Ex on7 (On cs [.fz (fr (itF cs 5)), t3, t4, .fz (.bool (sureB cs)), .fz d2, .fz (fr x), .no]) (On cs [.fz (fr (itF cs 5)), t3, t4, .fz (.bool (sureB cs)), .fz d2, .fz (fr x), .no]) := by
      have ln := l_num h bx (by decide)
      rw [hx.rt.eq] at ln
      refine ex_ifF (evt_andT (evt_b (ev_op (ev_var rfl) ev_c fun k => rfl)) (evt_orF (evt_b (ev_toB (ev_op (ev_call (eva_cons (ev_var rfl) (eva_cons (ev_var rfl) eva_nil)) ln rfl) (ev_var rfl) op_nefr) (by simp))) ?_)) ex_nil
      cases es : sureB cs with
      | true => exact evt_andF (evt_notF (evt_b (ev_var rfl)))
      | false =>
        have hl : liveB cs x = true := by
          unfold liveB
          rw [decide_eq_true (hx.ns es), hx.rt.eq, decide_eq_false (show ¬ x < x by grind)]
          rfl
        have hp := s_live_paper_is (V := Fl cs) (.inl rfl) h bx (by decide) xx0
        rw [hl] at hp
        exact evt_andT (evt_notT (evt_b (ev_var rfl))) (evt_b (ev_op (ev_call (eva_cons (ev_var rfl) (eva_cons (ev_var rfl) eva_nil)) hp rfl) ev_c op_isNT))
    have e6 : Ex (sSeq on0 (sSeq on1 (sSeq on2 (sSeq on3 (sSeq on4 (sSeq on5 (sSeq on6 on7))))))) [.fz (Fl cs), .no, .no, .no, .no, .no, .no, .no, .no] (On cs [.fz (fr (itF cs 5)), t3, t4, .fz (.bool (sureB cs)), .fz d2, .fz (fr x), .no]) := ex_seq x0 (ex_seq x1 (ex_seq x2 (ex_seq x3 (ex_seq x4 (ex_seq x5 (ex_seq x6 x7))))))
    have hnum : EvT (dB (dOp gGt (dOp gIx (dVar 7) (dC (.int 0))) (dC (.int 0))) (On cs [.fz (fr (itF cs 5)), t3, t4, .fz (.bool (sureB cs)), .fz d2, .fz (fr x), .no])) (decide (0 < x)) := evt_b (ev_toB (ev_op (ev_op (ev_var rfl) ev_c op_num) ev_c op_I) (decide_eq_decide.mpr (rat_num_pos x)))
    have hnn : EvT (dB (dOp gIsNot (dVar 7) (dC .none)) (On cs [.fz (fr (itF cs 5)), t3, t4, .fz (.bool (sureB cs)), .fz d2, .fz (fr x), .no])) true := evt_b (ev_op (ev_var rfl) ev_c fun k => rfl)
    by_cases hpos : 0 < x
    · rw [decide_eq_true hpos] at hnum
      have hb99 := mul_bd bx bd_99
      have y0 : 0 ≤ x * (99/100) := Rat.mul_nonneg xx0 (by decide +kernel)
      have ylt : x * (99/100) < x := by
        have := Rat.mul_lt_mul_of_pos_left (show (99/100 : Rat) < 1 by decide +kernel) hpos
        grind
      have hl : liveB cs (x * (99/100)) = false := by
        unfold liveB
        rw [decide_eq_true (hx.rt.lo _ y0 ylt), Bool.not_true, Bool.and_false]
      have hp := s_live_paper_is (V := Fl cs) (.inl rfl) h hb99 (by decide) y0
      rw [hl] at hp
      have e5 : eN 5 ≤ 341 := by decide
      have x8 : Ex on8 (On cs [.fz (fr (itF cs 5)), t3, t4, .fz (.bool (sureB cs)), .fz d2, .fz (fr x), .no]) (On cs [.fz (fr (itF cs 5)), t3, t4, .fz (.bool (sureB cs)), .fz d2, .fz (fr x), .fz (fr (x * (99/100)))]) := by
        refine ex_ifT (evt_andT hnn hnum) (ex_seq (ex_asg (ev_call (eva_cons (ev_var rfl) (eva_cons ev_lit99 eva_nil)) (mulL _ _ _ _ bx bd_99 (by decide)) rfl) evg_n) (ex_seq (ex_ifF (evt_orF (evt_b (ev_op (ev_call (eva_cons (ev_var rfl) (eva_cons (ev_var rfl) eva_nil)) hp rfl) ev_c (z := .bool false) fun k => rfl)) (evt_b (ev_toB (ev_call (eva_cons (ev_var rfl) (eva_cons (ev_var rfl) eva_nil)) (ev_below bx (it_bd h 5) (by omega)) rfl) (decide_eq_false (Rat.not_lt.mpr (it_root h.chs hx.rt 5)))))) ex_nil) (ex_ifF (evt_notF (evt_b (ev_call (eva_cons (ev_var rfl) (eva_cons (ev_var rfl) eva_nil)) (t_dying h hx hpos vd) rfl))) ex_nil)))
      have ebt2 : Ev (dAndV (dCallN 2 m__law_between_right (aCons (dVar 0) (aCons (dVar 7) aNil))) (dOp gEq (dCB gRepr (aCons (dVar 0) aNil)) (dVar 1)) (On cs [.fz (fr (itF cs 5)), t3, t4, .fz (.bool (sureB cs)), .fz d2, .fz (fr x), .fz (fr (x * (99/100)))])) (.bool true) := ev_andT (ev_call (eva_cons (ev_var rfl) (eva_cons (ev_var rfl) eva_nil)) tb rfl) (ev_op (ev_cb (eva_cons (ev_var rfl) eva_nil) (cb_repr rp)) (ev_var rfl) (op_eqsh rp))
      exact ev_def (rt_seq x0 (rt_seq x1 (rt_seq x2 (rt_seq x3 (rt_seq x4 (rt_seq x5 (rt_seq x6 (rt_seq x7 (rt_seq x8 (rt_ret ebt2))))))))))
    · rw [decide_eq_false hpos] at hnum
      exact ev_def (rt_seq x0 (rt_seq x1 (rt_seq x2 (rt_seq x3 (rt_seq x4 (rt_seq x5 (rt_seq x6 (rt_seq x7 (rt_seq (ex_ifF (evt_andT hnn hnum) ex_nil) (rt_ret ebt))))))))))
  · have tb := t_between h (d := .none) (.inl rfl)
    have x6 : Ex on6 (On cs [.fz (fr (itF cs 5)), t3, t4, .fz (.bool (sureB cs)), .fz d2, .fz .none, .no]) (On cs [.fz (fr (itF cs 5)), t3, t4, .fz (.bool (sureB cs)), .fz d2, .fz .none, .no]) := by
      refine ex_ifF (evt_orF (evt_b (ev_repr2 (x := .none) (ev_callK (eva_cons (ev_cb (eva_cons (ev_var rfl) eva_nil) cb_tupL) eva_nil) c2 rfl) (ev_var rfl) rfl rfl)) (evt_orF (evt_andF (evt_b (ev_toB (ev_var rfl) hns))) (evt_andT (evt_b (ev_op (ev_var rfl) ev_c fun k => rfl)) (evt_b (ev_toB (ev_op (ev_op (ev_var rfl) ev_c (ev_ixV (.inl rfl) (i := 0) h1)) ev_lit0 op_eqfr) (decide_eq_false hc0)))))) ex_nil
    have x7 : Ex on7 (On cs [.fz (fr (itF cs 5)), t3, t4, .fz (.bool (sureB cs)), .fz d2, .fz .none, .no]) (On cs [.fz (fr (itF cs 5)), t3, t4, .fz (.bool (sureB cs)), .fz d2, .fz .none, .no]) := ex_ifF (evt_andF (evt_b (ev_op (ev_var rfl) ev_c fun k => rfl))) ex_nil
    have x8 : Ex on8 (On cs [.fz (fr (itF cs 5)), t3, t4, .fz (.bool (sureB cs)), .fz d2, .fz .none, .no]) (On cs [.fz (fr (itF cs 5)), t3, t4, .fz (.bool (sureB cs)), .fz d2, .fz .none, .no]) := ex_ifF (evt_andF (evt_b (ev_op (ev_var rfl) ev_c fun k => rfl))) ex_nil
    exact ev_def (rt_seq x0 (rt_seq x1 (rt_seq x2 (rt_seq x3 (rt_seq x4 (rt_seq x5 (rt_seq x6 (rt_seq x7 (rt_seq x8 (rt_ret (ev_andT (ev_call (eva_cons (ev_var rfl) (eva_cons (ev_var rfl) eva_nil)) tb rfl) (ev_op (ev_cb (eva_cons (ev_var rfl) eva_nil) (cb_repr rp)) (ev_var rfl) (op_eqsh rp)))))))))))))
end
end Kp

namespace Kp
open PySem PySem.Spec PyProof.Rows L2 Dl
def kn0 : DS := (sAsg (dOp gAdd (dC (.int 2)) (dCallN 2 m__law_draw (aPot 0 (aCons (dC (.int 7)) aNil)))) (gN 1))
def kn1 : DS := (sAsg (dOp gAdd (dC (.int 1)) (dCallN 2 m__law_draw (aPot 0 (aCons (dOp gSub (dVar 1) (dC (.int 1))) aNil)))) (gN 2))
def kn2 : DS := (sAsg (dLst (aCons (dCallN 2 m__law_plain (aCons (dVar 2) (aCons (dOp gAdd (dVar 2) (dVar 1)) aNil))) (aCons (dTup (aCons (dC (.int 0)) (aCons (dC (.int 1)) aNil))) (aCons (dCallN 2 m__law_plain (aCons (dVar 1) (aCons (dOp gAdd (dVar 2) (dVar 1)) aNil))) aNil)))) (gN 3))
def kn3 : DS := (sAsg (dCallN 2 m__law_pick (aPot 0 (aCons (dLst (aCons (dTup (aCons (dC (.int 0)) (aCons (dC (.int 1)) aNil))) (aCons (dTup (aCons (dC (.int 1)) (aCons (dC (.int 2)) aNil))) (aCons (dTup (aCons (dC (.int 2)) (aCons (dC (.int 3)) aNil))) aNil)))) aNil))) (gN 4))
def kn4 : DS := (sOwn 5 (fLc (iSeq (dVar 3)) (gN 8) dYes (dCallN 2 m__law_times (aCons (dVar 8) (aCons (dCallN 2 m__law_less (aCons (dTup (aCons (dC (.int 1)) (aCons (dC (.int 1)) aNil))) (aCons (dVar 4) aNil))) aNil))) [8]))
def kn5 : DS := (sSetIx 5 (dC (.int 1)) (dBor [5] (dCallN 2 m__law_plus (aCons (dOp gIx (dVar 5) (dC (.int 1))) (aCons (dVar 4) aNil)))))
def kn6 : DS := (sAsg (dCallN 2 m__law_plain (aCons (dVar 2) (aCons (dVar 1) aNil))) (gN 6))
def kn7_0_0 : DS := (sIf (dOr (dB (dOp gNe (dCallN 1 m_death_chance (aCons (dVar 7) aNil)) (dVar 6))) (dOr (dB (dOp gIsNot (dCallN 1 m_dies_surely (aCons (dVar 7) aNil)) (dC (.bool false)))) (dOr (dB (dOp gNe (dCallN 2 m_number_at (aCons (dVar 7) (aCons (dVar 6) aNil))) (dVar 6))) (dNot (dB (dCallN 1 m__law_one_right (aCons (dVar 7) aNil))))))) (sRet (dC (.bool false))) sNil)
def kn7_0 : DS := sFor (iSeq (dLst (aCons (dVar 3) (aCons (dVar 5) aNil)))) (gN 7) kn7_0_0
def kn7_1 : DS := (sRet (dAndV (dOp gEq (dCallN 1 m_death_chance (aCons (dUn gRev (dVar 3)) aNil)) (dTup (aCons (dC (.int 1)) (aCons (dC (.int 1)) aNil)))) (dAndV (dOp gIs (dCallN 1 m_dies_surely (aCons (dUn gRev (dVar 3)) aNil)) (dC (.bool true))) (dOp gEq (dCallN 1 m_dying (aCons (dVar 3) aNil)) (dUn gRev (dVar 3))))))
def kn7_t0 : DS := sSeq kn7_0 kn7_1
def kn7 : DS := sFrz 5 kn7_t0
def knt6 : DS := sSeq kn6 kn7
def knt5 : DS := sSeq kn5 knt6
def knt4 : DS := sSeq kn4 knt5
def knt3 : DS := sSeq kn3 knt4
def knt2 : DS := sSeq kn2 knt3
def knt1 : DS := sSeq kn1 knt2
def knt0 : DS := sSeq kn0 knt1
theorem kneq : b__law_known_right = knt0 := rfl
def rq0 : DS := (sRet (dAndV (dCallN 1 m__law_one_right (aCons (dCallN 1 m__law_children (aPot 0 aNil)) aNil)) (dAndV (dCallN 1 m__law_one_right (aCons (dCallN 1 m__law_children (aPot 0 aNil)) aNil)) (dCallN 1 m__law_known_right (aPot 0 aNil)))))
theorem rqeq : b__law_right = rq0 := rfl
/-- three chances with a known root -/
structure K3 (s : Nat) (c0 c1 c2 x : Rat) : Prop where
  ok : COk s [c0, c1, c2]
  p2 : 0 < c2
  x0 : 0 < x
  x1 : x < 1
  eq : c0 = x * c2
section
variable {s : Nat} {c0 c1 c2 x : Rat}
theorem K3.p0 (h : K3 s c0 c1 c2 x) : 0 < c0 := by rw [h.eq]; exact Rat.mul_pos h.x0 h.p2
theorem K3.lt (h : K3 s c0 c1 c2 x) : c0 < c2 := by
  have := Rat.mul_lt_mul_of_pos_right h.x1 h.p2
  rw [h.eq]
  grind
theorem K3.sm (h : K3 s c0 c1 c2 x) : c0 + (c1 + (c2 + 0)) = 1 := h.ok.sm
theorem K3.qc (h : K3 s c0 c1 c2 x) : nb x (Qc [c0, c1, c2]) = 0 := by
  show -c0 + x * ((c2 + 0) + x * 0) = 0
  rw [h.eq]
  grind
theorem K3.root (h : K3 s c0 c1 c2 x) : Root [c0, c1, c2] x := by
  have p0 := h.p0
  exact (root_of h.ok.chs (show c0 ≠ 0 by grind) (Rat.le_of_lt h.x0) h.x1 h.qc).1
theorem mean3 (c0 c1 c2 : Rat) : mn [c0, c1, c2] = c1 + 2 * c2 := by
  show c0 * (((0 : Nat) : Int) : Rat) + (c1 * (((1 : Nat) : Int) : Rat) + (c2 * (((2 : Nat) : Int) : Rat) + 0)) = _
  have e0 : (((0 : Nat) : Int) : Rat) = 0 := rfl
  have e1 : (((1 : Nat) : Int) : Rat) = 1 := rfl
  have e2 : (((2 : Nat) : Int) : Rat) = 2 := rfl
  rw [e0, e1, e2]
  grind
theorem K3.ns (h : K3 s c0 c1 c2 x) : sureB [c0, c1, c2] = false := by
  have a := h.sm
  have b := h.lt
  unfold sureB
  rw [mean3, decide_eq_true (show 1 < c1 + 2 * c2 by grind), Bool.not_true, Bool.and_false]
theorem K3.death (h : K3 s c0 c1 c2 x) : Death [c0, c1, c2] x ∧ ∀ V, (V = Fl [c0, c1, c2] ∨ V = Ft [c0, c1, c2]) → Ev (m_death_of [V]) (fr x) := by
  obtain ⟨d, vd, hd⟩ := s_deathV h.ok
  rcases hd with ⟨y, rfl, hy⟩ | ⟨rfl, _, _, hc⟩
  · have := root_unique hy.rt h.root
    subst this
    exact ⟨hy, vd⟩
  · exfalso
    obtain ⟨d1, d2, d3, d4⟩ := h.ok.lc
    generalize hL : Lc [c0, c1, c2] = L at *
    have hsc := wq_scale (L := L) (cs := [c0, c1, c2]) d2 h.ok.sm
    obtain ⟨A, B, hAB⟩ : ∃ A B, sfxI (tI L [c0, c1, c2]) = [A, B] := ⟨_, _, rfl⟩
    rw [hAB] at hsc hc
    have hsc : [(A : Rat), (B : Rat)] = [(L : Rat) * -c0, (L : Rat) * (c2 + 0)] := hsc
    have eA : (A : Rat) = (L : Rat) * -c0 := by injection hsc
    have eB : (B : Rat) = (L : Rat) * (c2 + 0) := by injection hsc with _ h2; injection h2
    have L0 : (0 : Rat) < (L : Rat) := by
      have : ((0 : Nat) : Rat) < ((L : Nat) : Rat) := Rat.natCast_lt_natCast.mpr d3
      exact this
    have p0 := h.p0
    have p2 := h.p2
    have lt := h.lt
    have m0 := Rat.mul_pos L0 p0
    have m2 := Rat.mul_pos L0 p2
    have ml := Rat.mul_lt_mul_of_pos_left lt L0
    have zA : A < 0 := by
      refine Rat.intCast_lt_intCast.mp ?_
      show (A : Rat) < 0
      grind
    have zB : 0 < B := by
      refine Rat.intCast_lt_intCast.mp ?_
      show (0 : Rat) < (B : Rat)
      grind
    have zAB : -A < B := by
      refine Rat.intCast_lt_intCast.mp ?_
      rw [Rat.intCast_neg]
      grind
    obtain ⟨a, rfl⟩ : ∃ a : Nat, A = -(a : Int) := ⟨A.natAbs, by omega⟩
    obtain ⟨b, rfl⟩ : ∃ b : Nat, B = (b : Int) := ⟨B.natAbs, by omega⟩
    have ht : toldI [-(a : Int), (b : Int)] = [-(a : Int)] ++ [(b : Int)] := by
      have hb : (b : Int) ≠ 0 := by omega
      show (match (if (b : Int) = 0 then [] else [(b : Int)]) with
        | [] => if -(a : Int) = 0 then [] else [-(a : Int)]
        | y :: r => -(a : Int) :: y :: r) = _
      rw [if_neg hb]
      rfl
    refine hc _ _ ht a (by omega) (by rw [Int.natAbs_natCast]; omega) ?_
    rw [Int.natAbs_natCast]
    rw [Rat.intCast_neg, Rat.intCast_natCast] at eA
    rw [Rat.intCast_natCast] at eB
    have hx : (a : Rat) / (b : Rat) = x := by
      have e1 : (a : Rat) = (L : Rat) * (x * c2) := by rw [← h.eq]; grind
      have e2 : (b : Rat) = (L : Rat) * c2 := by rw [eB]; grind
      rw [e1, e2]
      have n1 : (L : Rat) * c2 ≠ 0 := by grind
      have n2 : (L : Rat) ≠ 0 := by grind
      have n3 : c2 ≠ 0 := by grind
      grind
    rw [hx]
    exact h.qc
/-- what is asked of one of both -/
theorem kn_body (h : K3 s c0 c1 c2 x) (hx : Bd 12 x) {e : Sls} (e7 : look e 7 = .fz (Fl [c0, c1, c2])) (e6 : look e 6 = .fz (fr x)) : Ex kn7_0_0 e e := by
  obtain ⟨hd, hv⟩ := h.death
  have c1' := s_death_chance (V := Fl [c0, c1, c2]) (.inl rfl) h.ok (hv _ (.inl rfl))
  have c2' := s_dies (V := Fl [c0, c1, c2]) (.inl rfl) (s_check (.inl rfl) h.ok) (s_sure (.inl rfl) h.ok)
  rw [h.ns] at c2'
  have c3' := s_number_at (V := Fl [c0, c1, c2]) (.inl rfl) h.ok (hx.mono (by decide)) (Rat.le_of_lt h.x0) (Rat.le_of_lt h.x1)
  rw [h.root.eq] at c3'
  exact ex_ifF (evt_orF (evt_b (ev_toB (ev_op (ev_call (eva_cons (ev_var e7) eva_nil) c1' rfl) (ev_var e6) op_nefr) (by simp))) (evt_orF (evt_b (ev_op (ev_call (eva_cons (ev_var e7) eva_nil) c2' rfl) ev_c (z := .bool false) fun k => rfl)) (evt_orF (evt_b (ev_toB (ev_op (ev_call (eva_cons (ev_var e7) (eva_cons (ev_var e6) eva_nil)) c3' rfl) (ev_var e6) op_nefr) (by simp))) (evt_notF (evt_b (ev_call (eva_cons (ev_var e7) eva_nil) (t_one h.ok) rfl)))))) ex_nil
end
theorem nat_pos' {n : Nat} (h : 0 < n) : (0 : Rat) < (n : Rat) := by
  have : ((0 : Nat) : Rat) < ((n : Nat) : Rat) := Rat.natCast_lt_natCast.mpr h
  exact this
theorem zero_div' (a : Rat) : (0 : Rat) / a = 0 := by rw [Rat.div_def]; grind
theorem frac2 (u d T Q : Rat) : u * d / (T * Q) = u / T * (d / Q) := by
  rw [Rat.div_def, Rat.div_def, Rat.div_def, Rat.inv_mul_rev]
  grind
theorem frac3 {a T Q : Rat} (hT : T ≠ 0) : a * T / (T * Q) = a / Q := by
  rw [Rat.div_def, Rat.div_def, Rat.inv_mul_rev]
  grind
theorem frac4 {a d Q : Rat} (hQ : Q ≠ 0) (e : Q = a + d) : 1 - a / Q = d / Q := by
  rw [Rat.div_def, Rat.div_def]
  grind
/-- parts of three -/
theorem cok3 (a b c : Nat) (h0 : 0 < a + b + c) (h1 : a + b + c ≤ 256) : COk (a + b + c) [(a : Rat) / ((a + b + c : Nat) : Rat), (b : Rat) / ((a + b + c : Nat) : Rat), (c : Rat) / ((a + b + c : Nat) : Rat)] := by
  have e : [a, b, c].sum = a + b + c := by simp; omega
  have := cok_of (ps := [a, b, c]) (show 1 ≤ 3 by decide) (show 3 ≤ 5 by decide) (by omega) (by omega)
  rw [e] at this
  exact this
section
variable {t b : Nat}
theorem pair_k3 (h0 : 0 < t) (h1 : t < b) (h2 : b ≤ 8) : K3 (t + 0 + b) ((t : Rat) / ((t + b : Nat) : Rat)) 0 ((b : Rat) / ((t + b : Nat) : Rat)) ((t : Rat) / (b : Rat)) := by
  have hT := nat_pos' (n := t + b) (by omega)
  have hb := nat_pos' (n := b) (by omega)
  have ht := nat_pos' (n := t) h0
  have htb : ((t : Nat) : Rat) < ((b : Nat) : Rat) := Rat.natCast_lt_natCast.mpr h1
  have c := cok3 t 0 b (by omega) (by omega)
  rw [show ((0 : Nat) : Rat) / ((t + 0 + b : Nat) : Rat) = 0 from zero_div' _, show ((t + 0 + b : Nat) : Rat) = ((t + b : Nat) : Rat) by rw [Nat.add_zero]] at c
  generalize ((t + b : Nat) : Rat) = T at *
  generalize (t : Rat) = u at *
  generalize (b : Rat) = v at *
  have d1 : T * (v / T) = v := by grind
  have d2 : v * (u / v) = u := by grind
  refine ⟨c, ?_, ?_, ?_, by grind⟩
  · refine Rat.not_le.mp fun hle => ?_
    have := Rat.mul_le_mul_of_nonneg_left hle (Rat.le_of_lt hT)
    grind
  · refine Rat.not_le.mp fun hle => ?_
    have := Rat.mul_le_mul_of_nonneg_left hle (Rat.le_of_lt hb)
    grind
  · refine Rat.not_le.mp fun hle => ?_
    have := Rat.mul_le_mul_of_nonneg_left hle (Rat.le_of_lt hb)
    grind
theorem slow_k3 (h0 : 0 < t) (h1 : t < b) (h2 : b ≤ 8) {p q : Nat} (hpq : p < q) (hq : q ≤ 3) : K3 (t * (q - p) + p * (t + b) + b * (q - p)) ((t : Rat) / ((t + b : Nat) : Rat) * (1 - (p : Rat) / (q : Rat))) (0 * (1 - (p : Rat) / (q : Rat)) + (p : Rat) / (q : Rat)) ((b : Rat) / ((t + b : Nat) : Rat) * (1 - (p : Rat) / (q : Rat))) ((t : Rat) / (b : Rat)) := by
  have P := pair_k3 h0 h1 h2
  obtain ⟨r, rfl⟩ : ∃ r, q = p + r := ⟨q - p, by omega⟩
  rw [Nat.add_sub_cancel_left]
  have hr : 0 < r := by omega
  have hS : t * r + p * (t + b) + b * r = (t + b) * (p + r) := by
    have q1 : (t + b) * (p + r) = t * p + t * r + (b * p + b * r) := by rw [Nat.add_mul, Nat.mul_add, Nat.mul_add]
    have q2 : p * (t + b) = t * p + b * p := by rw [Nat.mul_add, Nat.mul_comm p t, Nat.mul_comm p b]
    omega
  have hm : (t + b) * (p + r) ≤ 15 * 3 := Nat.mul_le_mul (by omega) hq
  have hm0 : 0 < (t + b) * (p + r) := Nat.mul_pos (by omega) (by omega)
  have c := cok3 (t * r) (p * (t + b)) (b * r) (by omega) (by omega)
  have hT := nat_pos' (n := t + b) (by omega)
  have hq' := nat_pos' (n := p + r) (by omega)
  have hr' := nat_pos' hr
  have eS : ((t * r + p * (t + b) + b * r : Nat) : Rat) = ((t + b : Nat) : Rat) * ((p + r : Nat) : Rat) := by rw [hS, Rat.natCast_mul]
  have e1 : ((t * r : Nat) : Rat) = (t : Rat) * (r : Rat) := Rat.natCast_mul ..
  have e2 : ((p * (t + b) : Nat) : Rat) = (p : Rat) * ((t + b : Nat) : Rat) := Rat.natCast_mul ..
  have e3 : ((b * r : Nat) : Rat) = (b : Rat) * (r : Rat) := Rat.natCast_mul ..
  have e4 : ((p + r : Nat) : Rat) = (p : Rat) + (r : Rat) := Rat.natCast_add ..
  rw [eS, e1, e2, e3] at c
  have p2 := P.p2
  have x0 := P.x0
  have x1 := P.x1
  have eq := P.eq
  generalize ((p + r : Nat) : Rat) = Q at *
  generalize ((t + b : Nat) : Rat) = T at *
  generalize (p : Rat) = a at *
  generalize (r : Rat) = d at *
  generalize (t : Rat) = u at *
  generalize (b : Rat) = v at *
  have hT0 : T ≠ 0 := by grind
  have hQ0 : Q ≠ 0 := by grind
  have hl : 1 - a / Q = d / Q := frac4 hQ0 e4
  have f1 : u * d / (T * Q) = u / T * (1 - a / Q) := by rw [hl]; exact frac2 u d T Q
  have f2 : a * T / (T * Q) = 0 * (1 - a / Q) + a / Q := by rw [frac3 hT0]; grind
  have f3 : v * d / (T * Q) = v / T * (1 - a / Q) := by rw [hl]; exact frac2 v d T Q
  rw [f1, f2, f3] at c
  have dq : 0 < 1 - a / Q := by
    rw [hl]
    refine Rat.not_le.mp fun hle => ?_
    have := Rat.mul_le_mul_of_nonneg_left hle (Rat.le_of_lt hq')
    have : Q * (d / Q) = d := by grind
    grind
  refine ⟨c, Rat.mul_pos p2 dq, x0, x1, ?_⟩
  rw [eq]
  grind
theorem turn_ok (h0 : 0 < t) (h1 : t < b) (h2 : b ≤ 8) : COk (b + 0 + t) [(b : Rat) / ((t + b : Nat) : Rat), 0, (t : Rat) / ((t + b : Nat) : Rat)] ∧ sureB [(b : Rat) / ((t + b : Nat) : Rat), 0, (t : Rat) / ((t + b : Nat) : Rat)] = true := by
  have c := cok3 b 0 t (by omega) (by omega)
  rw [show ((0 : Nat) : Rat) / ((b + 0 + t : Nat) : Rat) = 0 from zero_div' _, show ((b + 0 + t : Nat) : Rat) = ((t + b : Nat) : Rat) by rw [Nat.add_zero, Nat.add_comm]] at c
  refine ⟨c, ?_⟩
  have hs : (b : Rat) / ((t + b : Nat) : Rat) + (0 + ((t : Rat) / ((t + b : Nat) : Rat) + 0)) = 1 := c.sm
  have l := (pair_k3 h0 h1 h2).lt
  unfold sureB
  rw [mean3, decide_eq_false (show ¬ 1 < 0 + 2 * ((t : Rat) / ((t + b : Nat) : Rat)) by grind), decide_eq_false (show ¬ [(b : Rat) / ((t + b : Nat) : Rat), 0, (t : Rat) / ((t + b : Nat) : Rat)].getD 1 0 = 1 from show ¬ (0 : Rat) = 1 by decide)]
  rfl
end
end Kp

namespace Kp
open PySem PySem.Spec PyProof.Rows L2 Dl
theorem k_seqasg {A : DE} {i : Nat} {t : DS} {B : DEnds} {env : Sls} : sSeq (sAsg A (gN i)) t B env = A env fun d => t B (env.set i (.fz d)) := rfl
theorem go_draw {t : DS} {B : DEnds} {env : Sls} {i n : Nat} {lo : Int} {de : DE} (h0 : look env 0 = .pt) (hd : Ev (de env) (.int (Int.ofNat (n + 1)))) (hn : n ≤ 1000) (q : ∀ c : Nat, c < n + 1 → t B (env.set i (.fz (.int (lo + (c : Int))))) = true) : sSeq (sAsg (dOp gAdd (dC (.int lo)) (dCallN 2 mDraw (aPot 0 (aCons de aNil)))) (gN i)) t B env = true := by
  rw [k_seqasg, k_op, k_c]
  exact draw_all' h0 hd (by omega) fun c hc => (op_add' _).trans (q c hc)
theorem k_pot2 {m : Fn} {L : DE} {e : Sls} {K : KF} : dCallN 2 m (aPot 0 (aCons L aNil)) (.pt :: e) K = L (.pt :: e) fun d => m [potD, d] K := rfl
theorem fr_23 : fr (2/3) = .tuple [.int 2, .int 3] := by
  unfold fr
  rw [show (2/3 : Rat).num = 2 by decide +kernel, show (2/3 : Rat).den = 3 by decide +kernel]
  rfl
theorem due_pair {x c2 : Rat} (hx : x ≠ 0) : dueF x 0 [x * c2, 0, c2] = [c2, 0, x * c2] := by
  show [x * c2 * 1 / x, 0 * (1 * x) / x, c2 * (1 * x * x) / x] = [c2, 0, x * c2]
  have e1 : x * c2 * 1 / x = c2 := by grind
  have e2 : 0 * (1 * x) / x = 0 := by grind
  have e3 : c2 * (1 * x * x) / x = x * c2 := by grind
  rw [e1, e2, e3]
abbrev Kn (t b : Nat) (r : Sls) : Sls := .pt :: .fz (.int (b : Int)) :: .fz (.int (t : Int)) :: r
section
variable {t b : Nat}
abbrev pairL (t b : Nat) : List Rat := [(t : Rat) / ((t + b : Nat) : Rat), 0, (b : Rat) / ((t + b : Nat) : Rat)]
abbrev slowL (t b p q : Nat) : List Rat := [(t : Rat) / ((t + b : Nat) : Rat) * (1 - (p : Rat) / (q : Rat)), 0 * (1 - (p : Rat) / (q : Rat)) + (p : Rat) / (q : Rat), (b : Rat) / ((t + b : Nat) : Rat) * (1 - (p : Rat) / (q : Rat))]
theorem plainN {a c : Nat} (ha : a < 2 ^ 10) (hc : c < 2 ^ 10) (h0 : c ≠ 0) : Ev (m__law_plain [.int (a : Int), .int (c : Int)]) (fr ((a : Rat) / (c : Rat))) := by
  have := ev_plain (t := (a : Int)) (b := c) (n := 10) (m := 10) h0 hc (by rw [Int.natAbs_natCast]; exact ha) (by decide) (by decide)
  rw [Rat.intCast_natCast] at this
  exact this
theorem bdN {a c : Nat} (ha : a < 2 ^ 10) (hc : c < 2 ^ 10) (h0 : c ≠ 0) : Bd 10 ((a : Rat) / (c : Rat)) := by
  have e4 : (a : Rat) / (c : Rat) = mkRat (a : Int) c := by rw [Rat.mkRat_eq_div, Rat.intCast_natCast]
  rw [e4]
  exact bd_mk h0 (by rw [Int.natAbs_natCast]; exact ha) hc
theorem kn_tail (h0 : 0 < t) (h1 : t < b) (h2 : b ≤ 8) {p q : Nat} (hpq : p < q) (hq : q ≤ 3) : Rt knt4 (Kn t b [.fz (Fl (pairL t b)), .fz (fr ((p : Rat) / (q : Rat))), .no, .no, .no, .no]) (.bool true) := by
  have k10 : (2 : Nat) ^ 10 = 1024 := by decide
  have P := pair_k3 h0 h1 h2
  have S := slow_k3 h0 h1 h2 hpq hq
  obtain ⟨T1, T2⟩ := turn_ok h0 h1 h2
  have bt := bdN (a := t) (c := t + b) (by omega) (by omega) (by omega)
  have bb := bdN (a := b) (c := t + b) (by omega) (by omega) (by omega)
  have bl := bdN (a := p) (c := q) (by omega) (by omega) (by omega)
  have br := (bdN (a := t) (c := b) (by omega) (by omega) (by omega))
  have hx : Bd 12 ((t : Rat) / (b : Rat)) := br.mono (by decide)
  have b1l : Bd 12 (1 - (p : Rat) / (q : Rat)) := sub_bd bd_one bl
  have x4 : Ex kn4 (Kn t b [.fz (Fl (pairL t b)), .fz (fr ((p : Rat) / (q : Rat))), .no, .no, .no, .no]) (Kn t b [.fz (Fl (pairL t b)), .fz (fr ((p : Rat) / (q : Rat))), .ow (((pairL t b).map fun y => y * (1 - (p : Rat) / (q : Rat))).map fr), .no, .no, .no]) := by
    refine ex_own (eva_to (evf_lc (evi_seqL (ev_var rfl)) (evlc_map (r := fun y : Rat => fr (y * (1 - (p : Rat) / (q : Rat)))) fun y hy => ⟨_, evg_n, ev_call (eva_cons (ev_var rfl) (eva_cons (ev_call (eva_cons ev_lit1 (eva_cons (ev_var rfl) eva_nil)) (l_less bd_one bl (by decide)) rfl) eva_nil)) (mulL y _ 10 12 ?_ b1l (by decide)) rfl⟩) rfl) (by rw [List.map_map]; rfl))
    have hy : y ∈ [(t : Rat) / ((t + b : Nat) : Rat), 0, (b : Rat) / ((t + b : Nat) : Rat)] := hy
    simp only [List.mem_cons, List.not_mem_nil, or_false] at hy
    rcases hy with rfl | rfl | rfl
    · exact bt
    · exact bd_zero.mono (by decide)
    · exact bb
  have b0 : Bd 30 (0 * (1 - (p : Rat) / (q : Rat))) := (mul_bd bd_zero b1l).mono (by decide)
  have x5 : Ex kn5 (Kn t b [.fz (Fl (pairL t b)), .fz (fr ((p : Rat) / (q : Rat))), .ow (((pairL t b).map fun y => y * (1 - (p : Rat) / (q : Rat))).map fr), .no, .no, .no]) (Kn t b [.fz (Fl (pairL t b)), .fz (fr ((p : Rat) / (q : Rat))), .ow ((slowL t b p q).map fr), .no, .no, .no]) :=
    ex_setix (i := 5) (ix := dC (.int 1)) (env := Kn t b [.fz (Fl (pairL t b)), .fz (fr ((p : Rat) / (q : Rat))), .ow (((pairL t b).map fun y => y * (1 - (p : Rat) / (q : Rat))).map fr), .no, .no, .no]) (ds := ((pairL t b).map fun y => y * (1 - (p : Rat) / (q : Rat))).map fr) (z := 1) (n := 1) (d := fr (0 * (1 - (p : Rat) / (q : Rat)) + (p : Rat) / (q : Rat)))
      (ev_bor (env' := Kn t b [.fz (Fl (pairL t b)), .fz (fr ((p : Rat) / (q : Rat))), .fz (Fl ((pairL t b).map fun y => y * (1 - (p : Rat) / (q : Rat)))), .no, .no, .no]) rfl (ev_call (eva_cons (ev_op (ev_var rfl) ev_c (op_ixL (x := fr (0 * (1 - (p : Rat) / (q : Rat)))) (Dl.atI_nat (i := 1) rfl))) (eva_cons (ev_var rfl) eva_nil)) (addL _ _ _ _ b0 bl (by decide)) rfl) rfl) rfl ev_c (ixN_lt (show 1 < 3 by decide))
  have x6 : Ex kn6 (Kn t b [.fz (Fl (pairL t b)), .fz (fr ((p : Rat) / (q : Rat))), .ow ((slowL t b p q).map fr), .no, .no, .no]) (Kn t b [.fz (Fl (pairL t b)), .fz (fr ((p : Rat) / (q : Rat))), .ow ((slowL t b p q).map fr), .fz (fr ((t : Rat) / (b : Rat))), .no, .no]) :=
    ex_asg (ev_call (eva_cons (ev_var rfl) (eva_cons (ev_var rfl) eva_nil)) (plainN (by omega) (by omega) (by omega)) rfl) evg_n
  have x7 : Ex kn7_0 (Kn t b [.fz (Fl (pairL t b)), .fz (fr ((p : Rat) / (q : Rat))), .fz (Fl (slowL t b p q)), .fz (fr ((t : Rat) / (b : Rat))), .no, .no]) (Kn t b [.fz (Fl (pairL t b)), .fz (fr ((p : Rat) / (q : Rat))), .fz (Fl (slowL t b p q)), .fz (fr ((t : Rat) / (b : Rat))), .fz (Fl (slowL t b p q)), .no]) :=
    ex_for (evi_seqL (ev_lst (eva_cons (ev_var rfl) (eva_cons (ev_var rfl) eva_nil)) rfl)) (exf_cons evg_n (kn_body P hx rfl rfl) (exf_cons evg_n (kn_body S hx rfl rfl) exf_nil))
  have rv : ∀ env, look env 3 = .fz (Fl (pairL t b)) → Ev (dUn gRev (dVar 3) env) (Fl [(b : Rat) / ((t + b : Nat) : Rat), 0, (t : Rat) / ((t + b : Nat) : Rat)]) := fun env he => ev_un (ev_var he) op_revL
  obtain ⟨d, vd, hd⟩ := s_deathV T1
  have hd1 : d = fr 1 := by
    rcases hd with ⟨y, rfl, hy⟩ | ⟨rfl, hn, _⟩
    · rw [hy.su T2]
    · rw [T2] at hn; cases hn
  subst hd1
  have g1 := s_death_chance (V := Fl [(b : Rat) / ((t + b : Nat) : Rat), 0, (t : Rat) / ((t + b : Nat) : Rat)]) (.inl rfl) T1 (vd _ (.inl rfl))
  have g2 := s_dies (V := Fl [(b : Rat) / ((t + b : Nat) : Rat), 0, (t : Rat) / ((t + b : Nat) : Rat)]) (.inl rfl) (s_check (.inl rfl) T1) (s_sure (.inl rfl) T1)
  rw [T2] at g2
  have g3 := s_dying (V := Fl (pairL t b)) (.inl rfl) (s_check (.inl rfl) P.ok) (P.death.2 _ (.inl rfl)) hx P.x0 P.ok.bd (by decide) (show 3 ≤ 5 by decide)
  have xn : (t : Rat) / (b : Rat) ≠ 0 := by have := P.x0; grind
  have ed : dueF ((t : Rat) / (b : Rat)) 0 (pairL t b) = [(b : Rat) / ((t + b : Nat) : Rat), 0, (t : Rat) / ((t + b : Nat) : Rat)] := by
    have e := due_pair (x := (t : Rat) / (b : Rat)) (c2 := (b : Rat) / ((t + b : Nat) : Rat)) xn
    rw [← P.eq] at e
    exact e
  rw [ed] at g3
  have x8 : Rt kn7_1 (Kn t b [.fz (Fl (pairL t b)), .fz (fr ((p : Rat) / (q : Rat))), .fz (Fl (slowL t b p q)), .fz (fr ((t : Rat) / (b : Rat))), .fz (Fl (slowL t b p q)), .no]) (.bool true) :=
    rt_ret (ev_andT (ev_toB (ev_op (ev_call (eva_cons (rv _ rfl) eva_nil) g1 rfl) ev_lit1 op_eqfr) (by simp)) (ev_andT (ev_op (ev_call (eva_cons (rv _ rfl) eva_nil) g2 rfl) ev_c op_isT) (ev_toB (ev_op (ev_call (eva_cons (ev_var rfl) eva_nil) g3 rfl) (rv _ rfl) op_eqfrs) (by simp))))
  exact rt_seq x4 (rt_seq x5 (rt_seq x6 (rt_frz rfl (rt_seq x7 x8))))
theorem st9 : startE 9 [potD] = [.pt, .no, .no, .no, .no, .no, .no, .no, .no] := rfl
theorem t_known {k : KF} (q : k (.bool true) = true) : m__law_known_right [potD] k = true := by
  unfold m__law_known_right
  rw [k_mOf, kneq, st9]
  refine go_draw (n := 6) rfl ev_c (by decide) fun c hc => ?_
  refine go_draw (n := c) rfl (ev_to (ev_op (ev_var rfl) ev_c op_sub') (by congr 1; show (2 : Int) + (c : Int) - 1 = ((c + 1 : Nat) : Int); omega)) (by omega) fun d hd => ?_
  have eb : (2 : Int) + (c : Int) = ((2 + c : Nat) : Int) := by omega
  have et : (1 : Int) + (d : Int) = ((1 + d : Nat) : Int) := by omega
  rw [eb, et]
  generalize hb : 2 + c = b
  generalize ht : 1 + d = t
  show knt2 _ (Kn t b [.no, .no, .no, .no, .no, .no]) = true
  have h0 : 0 < t := by omega
  have h1 : t < b := by omega
  have h2 : b ≤ 8 := by omega
  have k10 : (2 : Nat) ^ 10 = 1024 := by decide
  have x2 : Ex kn2 (Kn t b [.no, .no, .no, .no, .no, .no]) (Kn t b [.fz (Fl (pairL t b)), .no, .no, .no, .no, .no]) :=
    ex_asg (ev_lst (eva_cons (ev_call (eva_cons (ev_var rfl) (eva_cons (ev_to (ev_op (ev_var rfl) (ev_var rfl) op_add') (by rw [← Int.natCast_add])) eva_nil)) (plainN (by omega) (by omega) (by omega)) rfl) (eva_cons ev_lit0 (eva_cons (ev_call (eva_cons (ev_var rfl) (eva_cons (ev_to (ev_op (ev_var rfl) (ev_var rfl) op_add') (by rw [← Int.natCast_add])) eva_nil)) (plainN (by omega) (by omega) (by omega)) rfl) eva_nil))) rfl) evg_n
  unfold knt2
  refine go_seq x2 ?_
  unfold knt3 kn3
  rw [k_seqasg, k_pot2]
  have hL : Ev (dLst (aCons (dTup (aCons (dC (.int 0)) (aCons (dC (.int 1)) aNil))) (aCons (dTup (aCons (dC (.int 1)) (aCons (dC (.int 2)) aNil))) (aCons (dTup (aCons (dC (.int 2)) (aCons (dC (.int 3)) aNil))) aNil))) (Kn t b [.fz (Fl (pairL t b)), .no, .no, .no, .no, .no])) (.list [fr 0, fr (1/2), fr (2/3)]) := fun k => by
    rw [fr_half, fr_23]
    rfl
  rw [hL]
  refine pick_all (by simp) (by decide) fun y hy => ?_
  simp only [List.mem_cons, List.not_mem_nil, or_false] at hy
  have fin : ∀ (p q' : Nat), p < q' → q' ≤ 3 → y = fr ((p : Rat) / (q' : Rat)) → knt4 { nx := fun _ => k .none, rt := k, bk := fun _ => false, ct := fun _ => false } ((Kn t b [.fz (Fl (pairL t b)), .no, .no, .no, .no, .no]).set 4 (.fz y)) = true := fun p q' h3 h4 e => by
    rw [e]
    exact (kn_tail h0 h1 h2 h3 h4 _).trans q
  rcases hy with rfl | rfl | rfl
  · exact fin 0 1 (by decide) (by decide) (by congr 1; decide +kernel)
  · exact fin 1 2 (by decide) (by decide) rfl
  · exact fin 2 3 (by decide) (by decide) rfl
theorem and_call {A b : DE} {env : Sls} {k : KF} (hA : ∀ K : KF, K (.bool true) = true → A env K = true) (q : b env k = true) : dAndV A b env k = true := hA _ q
theorem k_ret {A : DE} {B : DEnds} {env : Sls} : sRet A B env = A env B.rt := rfl
theorem k_callpot {m c : Fn} {e : Sls} {K : KF} : dCallN 1 m (aCons (dCallN 1 c (aPot 0 aNil)) aNil) (.pt :: e) K = c [potD] fun d => m [d] K := rfl
theorem k_pot0 {m : Fn} {e : Sls} {k : KF} : dCallN 1 m (aPot 0 aNil) (.pt :: e) k = m [potD] k := rfl
theorem st1 : startE 1 [potD] = [.pt] := rfl
theorem t_right : m__law_right [potD] isT = true := by
  unfold m__law_right
  rw [k_mOf, rqeq, st1]
  unfold rq0
  rw [k_ret]
  refine and_call (fun K q => ?_) ?_
  · rw [k_callpot]
    exact t_kids fun ps hp => (t_one hp.cok K).trans q
  · refine and_call (fun K q => ?_) ?_
    · rw [k_callpot]
      exact t_kids fun ps hp => (t_one hp.cok K).trans q
    · rw [k_pot0]
      exact t_known rfl
end
end Kp

namespace Kp
open PySem PySem.Spec PyProof.Rows L2 Dl
section
variable {P : Program} {w : World} {K : PySem.W.Frag} {mg : Str → Option Value} {base : Heap}
theorem S_is_integer : FnScope N_is_integer ["value"] (defScope (top 11)) := ⟨rfl, rfl, rfl, by decide +kernel, rfl, by decide +kernel, by decide +kernel⟩
theorem h_is_integer {f : Addr} {fd : FuncData} (F : FnP K "is_integer" (top 11) f fd) (hm : mg "is_integer" = some (.ref f)) (bl : ∀ x ∈ blt, mg x = none)  : Has P w K mg base 1 "is_integer" ["value"] m_is_integer :=
  has_of (l := 0) (N := N_is_integer) F S_is_integer hm (F.bindsN fun _ _ _ _ _ _ us hl => match us, hl with | [_], _ => rfl) (fun W hw cdv A outer s H E hr =>
  (ss_one (ss_ret hw (se_and (se_is .int (bl "isinstance" (by decide)) (bl "int" (by decide)) (se_var (i := 0))) (se_one (se_not (se_is .bool (bl "isinstance" (by decide)) (bl "bool" (by decide)) (se_var (i := 0)))))))))
theorem S_is_within : FnScope N_is_within ["value", "least", "most"] (defScope (top 12)) := ⟨rfl, rfl, rfl, by decide +kernel, rfl, by decide +kernel, by decide +kernel⟩
theorem h_is_within {f : Addr} {fd : FuncData} (F : FnP K "is_within" (top 12) f fd) (hm : mg "is_within" = some (.ref f)) (bl : ∀ x ∈ blt, mg x = none) (h_is_integer : Has P w K mg base 1 "is_integer" ["value"] m_is_integer) : Has P w K mg base 2 "is_within" ["value", "least", "most"] m_is_within :=
  has_of (l := 1) (N := N_is_within) F S_is_within hm (F.bindsN fun _ _ _ _ _ _ us hl => match us, hl with | [_, _, _], _ => rfl) (fun W hw cdv A outer s H E hr =>
  (ss_one (ss_ret hw (se_and (se_call (h_is_integer.mono (by decide)) hr (sp_cons (se_var (i := 0)) sp_nil)) (se_one (se_chain op_le ok_I op_le ok_I (se_var (i := 1)) (se_var (i := 0)) (se_var (i := 2))))))))
theorem S_is_list : FnScope N_is_list ["value"] (defScope (top 13)) := ⟨rfl, rfl, rfl, by decide +kernel, rfl, by decide +kernel, by decide +kernel⟩
theorem h_is_list {f : Addr} {fd : FuncData} (F : FnP K "is_list" (top 13) f fd) (hm : mg "is_list" = some (.ref f)) (bl : ∀ x ∈ blt, mg x = none)  : Has P w K mg base 1 "is_list" ["value"] m_is_list :=
  has_of (l := 0) (N := N_is_list) F S_is_list hm (F.bindsN fun _ _ _ _ _ _ us hl => match us, hl with | [_], _ => rfl) (fun W hw cdv A outer s H E hr =>
  (ss_one (ss_ret hw (se_isLT (bl "isinstance" (by decide)) (bl "list" (by decide)) (bl "tuple" (by decide)) (se_var (i := 0))))))
theorem S_check_number : FnScope N_check_number ["value", "least", "most"] (defScope (top 14)) := ⟨rfl, rfl, rfl, by decide +kernel, rfl, by decide +kernel, by decide +kernel⟩
theorem h_check_number {f : Addr} {fd : FuncData} (F : FnP K "check_number" (top 14) f fd) (hm : mg "check_number" = some (.ref f)) (bl : ∀ x ∈ blt, mg x = none) (h_is_within : Has P w K mg base 2 "is_within" ["value", "least", "most"] m_is_within) : Has P w K mg base 3 "check_number" ["value", "least", "most"] m_check_number :=
  has_of (l := 2) (N := N_check_number) F S_check_number hm (F.bindsN fun _ _ _ _ _ _ us hl => match us, hl with | [_, _, _], _ => rfl) (fun W hw cdv A outer s H E hr =>
  (ss_one (ss_if (st_not (st_val (se_call (h_is_within.mono (by decide)) hr (sp_cons (se_var (i := 0)) (sp_cons (se_var (i := 1)) (sp_cons (se_var (i := 2)) sp_nil)))))) (ss_one ss_never) ss_nil)))
theorem S_want_at_most : FnScope N_want_at_most ["what", "limit", "number"] (defScope (top 15)) := ⟨rfl, rfl, rfl, by decide +kernel, rfl, by decide +kernel, by decide +kernel⟩
theorem h_want_at_most {f : Addr} {fd : FuncData} (F : FnP K "want_at_most" (top 15) f fd) (hm : mg "want_at_most" = some (.ref f)) (bl : ∀ x ∈ blt, mg x = none)  : Has P w K mg base 1 "want_at_most" ["what", "limit", "number"] m_want_at_most :=
  has_of (l := 0) (N := N_want_at_most) F S_want_at_most hm (F.bindsN fun _ _ _ _ _ _ us hl => match us, hl with | [_, _, _], _ => rfl) (fun W hw cdv A outer s H E hr =>
  (ss_one (ss_if (st_cmp op_gt ok_I (se_var (i := 2)) (se_var (i := 1))) (ss_one ss_never) ss_nil)))
theorem S_divisor : FnScope N_divisor ["one", "late"] (defScope (top 16)) := ⟨rfl, rfl, rfl, by decide +kernel, rfl, by decide +kernel, by decide +kernel⟩
theorem h0_divisor {f : Addr} {fd : FuncData} (F : FnP K "divisor" (top 16) f fd) (hm : mg "divisor" = some (.ref f)) (bl : ∀ x ∈ blt, mg x = none)  : Has P w K mg base 1 "divisor" ["one", "late"] m0_divisor :=
  has_of (l := 0) (N := N_divisor) F S_divisor hm (F.bindsN fun _ _ _ _ _ _ us hl => match us, hl with | [_, _], _ => rfl) (fun W hw cdv A outer s H E hr =>
  (ss_cons (ss_wh 1000000 PassesOwn.never (st_cmp op_gt ok_I (se_var (i := 1)) se_int) (ss_one (ss_par (i := 0) (j := 1) rfl S_divisor.nd (sa_cons (se_var (i := 1)) (sa_cons (se_bin op_mod ok_mod (se_cty call_int1 ok_int (bl "int" (by decide)) (sa_cons (se_var (i := 0)) sa_nil)) (se_var (i := 1))) sa_nil)))))
  (ss_one (ss_ret hw (se_var (i := 0))))))
theorem h_divisor {f : Addr} {fd : FuncData} (F : FnP K "divisor" (top 16) f fd) (hm : mg "divisor" = some (.ref f)) (bl : ∀ x ∈ blt, mg x = none)  : Has P w K mg base 1 "divisor" ["one", "late"] m_divisor :=
  (h0_divisor F hm bl ).imp fun ds k h => le_divisor 2 ds k h
theorem S_is_fraction_of : FnScope N_is_fraction_of ["value"] (defScope (top 17)) := ⟨rfl, rfl, rfl, by decide +kernel, rfl, by decide +kernel, by decide +kernel⟩
theorem h0_is_fraction_of {f : Addr} {fd : FuncData} (F : FnP K "is_fraction_of" (top 17) f fd) (hm : mg "is_fraction_of" = some (.ref f)) (bl : ∀ x ∈ blt, mg x = none) (h_is_integer : Has P w K mg base 1 "is_integer" ["value"] m_is_integer) (h_divisor : Has P w K mg base 1 "divisor" ["one", "late"] m_divisor) : Has P w K mg base 2 "is_fraction_of" ["value"] m0_is_fraction_of :=
  has_of (l := 1) (N := N_is_fraction_of) F S_is_fraction_of hm (F.bindsN fun _ _ _ _ _ _ us hl => match us, hl with | [_], _ => rfl) (fun W hw cdv A outer s H E hr =>
  (ss_cons (ss_if ((sw_or (st_not (st_val (se_is .tuple (bl "isinstance" (by decide)) (bl "tuple" (by decide)) (se_var (i := 0))))) (sw_or (st_cmp (op_neD hr.r.units) ok_ne (se_cb call_len_seq ok_len (bl "len" (by decide)) (sa_cons (se_var (i := 0)) sa_nil)) se_int) (sw_or (st_not (st_val (se_call (h_is_integer.mono (by decide)) hr (sp_cons (se_ix (se_var (i := 0)) se_int) sp_nil)))) (sw_or1 (st_not (st_val (se_call (h_is_integer.mono (by decide)) hr (sp_cons (se_ix (se_var (i := 0)) se_int) sp_nil))))))))).st (ss_one (ss_ret hw se_bl)) ss_nil)
  (ss_one (ss_ret hw (se_and (se_cmp op_ge ok_I (se_ix (se_var (i := 0)) se_int) se_int) (se_one (se_cmp (op_eqD hr.r.units) ok_eq (se_call (h_divisor.mono (by decide)) hr (sp_cons (se_cb call_abs ok_abs (bl "abs" (by decide)) (sa_cons (se_ix (se_var (i := 0)) se_int) sa_nil)) (sp_cons (se_ix (se_var (i := 0)) se_int) sp_nil))) se_int)))))))
theorem h_is_fraction_of {f : Addr} {fd : FuncData} (F : FnP K "is_fraction_of" (top 17) f fd) (hm : mg "is_fraction_of" = some (.ref f)) (bl : ∀ x ∈ blt, mg x = none) (h_is_integer : Has P w K mg base 1 "is_integer" ["value"] m_is_integer) (h_divisor : Has P w K mg base 1 "divisor" ["one", "late"] m_divisor) : Has P w K mg base 2 "is_fraction_of" ["value"] m_is_fraction_of :=
  (h0_is_fraction_of F hm bl h_is_integer h_divisor).imp fun ds k h => le_isFrQ ds k h
theorem S_is_short : FnScope N_is_short ["value"] (defScope (top 18)) := ⟨rfl, rfl, rfl, by decide +kernel, rfl, by decide +kernel, by decide +kernel⟩
theorem h_is_short {f : Addr} {fd : FuncData} (F : FnP K "is_short" (top 18) f fd) (hm : mg "is_short" = some (.ref f)) (bl : ∀ x ∈ blt, mg x = none) (g_MOST_DIGITS : Glo K mg "MOST_DIGITS" c_MOST_DIGITS) (h_is_fraction_of : Has P w K mg base 2 "is_fraction_of" ["value"] m_is_fraction_of) : Has P w K mg base 3 "is_short" ["value"] m_is_short :=
  has_of (l := 2) (N := N_is_short) F S_is_short hm (F.bindsN fun _ _ _ _ _ _ us hl => match us, hl with | [_], _ => rfl) (fun W hw cdv A outer s H E hr =>
  (ss_one (ss_ret hw (se_and (se_call (h_is_fraction_of.mono (by decide)) hr (sp_cons (se_var (i := 0)) sp_nil)) (se_and (se_cmp op_lt ok_I (se_cb call_abs ok_abs (bl "abs" (by decide)) (sa_cons (se_ix (se_var (i := 0)) se_int) sa_nil)) (se_glob g_MOST_DIGITS)) (se_one (se_cmp op_lt ok_I (se_ix (se_var (i := 0)) se_int) (se_glob g_MOST_DIGITS))))))))
theorem S_check_fraction : FnScope N_check_fraction ["value"] (defScope (top 19)) := ⟨rfl, rfl, rfl, by decide +kernel, rfl, by decide +kernel, by decide +kernel⟩
theorem h_check_fraction {f : Addr} {fd : FuncData} (F : FnP K "check_fraction" (top 19) f fd) (hm : mg "check_fraction" = some (.ref f)) (bl : ∀ x ∈ blt, mg x = none) (h_is_short : Has P w K mg base 3 "is_short" ["value"] m_is_short) : Has P w K mg base 4 "check_fraction" ["value"] m_check_fraction :=
  has_of (l := 3) (N := N_check_fraction) F S_check_fraction hm (F.bindsN fun _ _ _ _ _ _ us hl => match us, hl with | [_], _ => rfl) (fun W hw cdv A outer s H E hr =>
  (ss_one (ss_if (st_not (st_val (se_call (h_is_short.mono (by decide)) hr (sp_cons (se_var (i := 0)) sp_nil)))) (ss_one ss_never) ss_nil)))
theorem S_reduced : FnScope N_reduced ["top", "bottom"] (defScope (top 23)) := ⟨rfl, rfl, rfl, by decide +kernel, rfl, by decide +kernel, by decide +kernel⟩
theorem h0_reduced {f : Addr} {fd : FuncData} (F : FnP K "reduced" (top 23) f fd) (hm : mg "reduced" = some (.ref f)) (bl : ∀ x ∈ blt, mg x = none) (h_divisor : Has P w K mg base 1 "divisor" ["one", "late"] m_divisor) : Has P w K mg base 2 "reduced" ["top", "bottom"] m0_reduced :=
  has_of (l := 1) (N := N_reduced) F S_reduced hm (F.bindsN fun _ _ _ _ _ _ us hl => match us, hl with | [_, _], _ => rfl) (fun W hw cdv A outer s H E hr =>
  (ss_cons (ss_if (st_cmp op_lt ok_I (se_var (i := 1)) se_int) (ss_one (ss_par (i := 0) (j := 1) rfl S_reduced.nd (sa_cons (se_bin op_subs ok_sub se_int (se_var (i := 0))) (sa_cons (se_bin op_subs ok_sub se_int (se_var (i := 1))) sa_nil)))) ss_nil)
  (ss_cons (ss_set (i := 2) S_reduced.nd (se_call (h_divisor.mono (by decide)) hr (sp_cons (se_cb call_abs ok_abs (bl "abs" (by decide)) (sa_cons (se_var (i := 0)) sa_nil)) (sp_cons (se_var (i := 1)) sp_nil))))
  (ss_one (ss_ret hw (se_tup (sa_cons (se_bin op_fdivW ok_fdiv (se_var (i := 0)) (se_var (i := 2))) (sa_cons (se_bin op_fdivW ok_fdiv (se_var (i := 1)) (se_var (i := 2))) sa_nil))))))))
theorem h_reduced {f : Addr} {fd : FuncData} (F : FnP K "reduced" (top 23) f fd) (hm : mg "reduced" = some (.ref f)) (bl : ∀ x ∈ blt, mg x = none) (h_divisor : Has P w K mg base 1 "divisor" ["one", "late"] m_divisor) : Has P w K mg base 2 "reduced" ["top", "bottom"] m_reduced :=
  (h0_reduced F hm bl h_divisor).imp fun ds k h => le_reduced ds k h
theorem S_add : FnScope N_add ["one", "late"] (defScope (top 24)) := ⟨rfl, rfl, rfl, by decide +kernel, rfl, by decide +kernel, by decide +kernel⟩
theorem h0_add {f : Addr} {fd : FuncData} (F : FnP K "add" (top 24) f fd) (hm : mg "add" = some (.ref f)) (bl : ∀ x ∈ blt, mg x = none) (h_reduced : Has P w K mg base 2 "reduced" ["top", "bottom"] m_reduced) : Has P w K mg base 3 "add" ["one", "late"] m0_add :=
  has_of (l := 2) (N := N_add) F S_add hm (F.bindsN fun _ _ _ _ _ _ us hl => match us, hl with | [_, _], _ => rfl) (fun W hw cdv A outer s H E hr =>
  (ss_one (ss_ret hw (se_call (h_reduced.mono (by decide)) hr (sp_cons (se_bin op_adds ok_add (se_bin op_muls ok_mul (se_ix (se_var (i := 0)) se_int) (se_ix (se_var (i := 1)) se_int)) (se_bin op_muls ok_mul (se_ix (se_var (i := 1)) se_int) (se_ix (se_var (i := 0)) se_int))) (sp_cons (se_bin op_muls ok_mul (se_ix (se_var (i := 0)) se_int) (se_ix (se_var (i := 1)) se_int)) sp_nil))))))
theorem h_add {f : Addr} {fd : FuncData} (F : FnP K "add" (top 24) f fd) (hm : mg "add" = some (.ref f)) (bl : ∀ x ∈ blt, mg x = none) (h_reduced : Has P w K mg base 2 "reduced" ["top", "bottom"] m_reduced) : Has P w K mg base 3 "add" ["one", "late"] m_add :=
  (h0_add F hm bl h_reduced).imp fun ds k h => le_add m_reduced ds k h
theorem S_multiply : FnScope N_multiply ["one", "late"] (defScope (top 25)) := ⟨rfl, rfl, rfl, by decide +kernel, rfl, by decide +kernel, by decide +kernel⟩
theorem h0_multiply {f : Addr} {fd : FuncData} (F : FnP K "multiply" (top 25) f fd) (hm : mg "multiply" = some (.ref f)) (bl : ∀ x ∈ blt, mg x = none) (h_reduced : Has P w K mg base 2 "reduced" ["top", "bottom"] m_reduced) : Has P w K mg base 3 "multiply" ["one", "late"] m0_multiply :=
  has_of (l := 2) (N := N_multiply) F S_multiply hm (F.bindsN fun _ _ _ _ _ _ us hl => match us, hl with | [_, _], _ => rfl) (fun W hw cdv A outer s H E hr =>
  (ss_one (ss_ret hw (se_call (h_reduced.mono (by decide)) hr (sp_cons (se_bin op_muls ok_mul (se_ix (se_var (i := 0)) se_int) (se_ix (se_var (i := 1)) se_int)) (sp_cons (se_bin op_muls ok_mul (se_ix (se_var (i := 0)) se_int) (se_ix (se_var (i := 1)) se_int)) sp_nil))))))
theorem h_multiply {f : Addr} {fd : FuncData} (F : FnP K "multiply" (top 25) f fd) (hm : mg "multiply" = some (.ref f)) (bl : ∀ x ∈ blt, mg x = none) (h_reduced : Has P w K mg base 2 "reduced" ["top", "bottom"] m_reduced) : Has P w K mg base 3 "multiply" ["one", "late"] m_multiply :=
  (h0_multiply F hm bl h_reduced).imp fun ds k h => le_mul m_reduced ds k h
theorem S_divide : FnScope N_divide ["one", "late"] (defScope (top 26)) := ⟨rfl, rfl, rfl, by decide +kernel, rfl, by decide +kernel, by decide +kernel⟩
theorem h0_divide {f : Addr} {fd : FuncData} (F : FnP K "divide" (top 26) f fd) (hm : mg "divide" = some (.ref f)) (bl : ∀ x ∈ blt, mg x = none) (h_reduced : Has P w K mg base 2 "reduced" ["top", "bottom"] m_reduced) : Has P w K mg base 3 "divide" ["one", "late"] m0_divide :=
  has_of (l := 2) (N := N_divide) F S_divide hm (F.bindsN fun _ _ _ _ _ _ us hl => match us, hl with | [_, _], _ => rfl) (fun W hw cdv A outer s H E hr =>
  (ss_one (ss_ret hw (se_call (h_reduced.mono (by decide)) hr (sp_cons (se_bin op_muls ok_mul (se_ix (se_var (i := 0)) se_int) (se_ix (se_var (i := 1)) se_int)) (sp_cons (se_bin op_muls ok_mul (se_ix (se_var (i := 0)) se_int) (se_ix (se_var (i := 1)) se_int)) sp_nil))))))
theorem h_divide {f : Addr} {fd : FuncData} (F : FnP K "divide" (top 26) f fd) (hm : mg "divide" = some (.ref f)) (bl : ∀ x ∈ blt, mg x = none) (h_reduced : Has P w K mg base 2 "reduced" ["top", "bottom"] m_reduced) : Has P w K mg base 3 "divide" ["one", "late"] m_divide :=
  (h0_divide F hm bl h_reduced).imp fun ds k h => le_div m_reduced ds k h
theorem S_is_below : FnScope N_is_below ["one", "late"] (defScope (top 27)) := ⟨rfl, rfl, rfl, by decide +kernel, rfl, by decide +kernel, by decide +kernel⟩
theorem h0_is_below {f : Addr} {fd : FuncData} (F : FnP K "is_below" (top 27) f fd) (hm : mg "is_below" = some (.ref f)) (bl : ∀ x ∈ blt, mg x = none)  : Has P w K mg base 1 "is_below" ["one", "late"] m0_is_below :=
  has_of (l := 0) (N := N_is_below) F S_is_below hm (F.bindsN fun _ _ _ _ _ _ us hl => match us, hl with | [_, _], _ => rfl) (fun W hw cdv A outer s H E hr =>
  (ss_one (ss_ret hw (se_cmp op_lt ok_I (se_bin op_muls ok_mul (se_ix (se_var (i := 0)) se_int) (se_ix (se_var (i := 1)) se_int)) (se_bin op_muls ok_mul (se_ix (se_var (i := 1)) se_int) (se_ix (se_var (i := 0)) se_int))))))
theorem h_is_below {f : Addr} {fd : FuncData} (F : FnP K "is_below" (top 27) f fd) (hm : mg "is_below" = some (.ref f)) (bl : ∀ x ∈ blt, mg x = none)  : Has P w K mg base 1 "is_below" ["one", "late"] m_is_below :=
  (h0_is_below F hm bl ).imp fun ds k h => le_below ds k h
theorem S_total : FnScope N_total ["some"] (defScope (top 28)) := ⟨rfl, rfl, rfl, by decide +kernel, rfl, by decide +kernel, by decide +kernel⟩
theorem h_total {f : Addr} {fd : FuncData} (F : FnP K "total" (top 28) f fd) (hm : mg "total" = some (.ref f)) (bl : ∀ x ∈ blt, mg x = none) (g_NOUGHT : Glo K mg "NOUGHT" c_NOUGHT) (h_add : Has P w K mg base 3 "add" ["one", "late"] m_add) : Has P w K mg base 4 "total" ["some"] m_total :=
  has_of (l := 3) (N := N_total) F S_total hm (F.bindsN fun _ _ _ _ _ _ us hl => match us, hl with | [_], _ => rfl) (fun W hw cdv A outer s H E hr =>
  (ss_cons (ss_set (i := 1) S_total.nd (se_glob g_NOUGHT))
  (ss_cons (ss_for PassesOwn.never rfl (si_seq (se_var (i := 0))) (sg_n (i := 2) S_total.nd) (ss_one (ss_set (i := 1) S_total.nd (se_call (h_add.mono (by decide)) hr (sp_cons (se_var (i := 1)) (sp_cons (se_var (i := 2)) sp_nil))))))
  (ss_one (ss_ret hw (se_var (i := 1)))))))
theorem S_are_children_of : FnScope N_are_children_of ["value"] (defScope (top 33)) := ⟨rfl, rfl, rfl, by decide +kernel, rfl, by decide +kernel, by decide +kernel⟩
theorem h_are_children_of {f : Addr} {fd : FuncData} (F : FnP K "are_children_of" (top 33) f fd) (hm : mg "are_children_of" = some (.ref f)) (bl : ∀ x ∈ blt, mg x = none) (g_MOST_CHANCES : Glo K mg "MOST_CHANCES" c_MOST_CHANCES) (g_ONE : Glo K mg "ONE" c_ONE) (h_is_list : Has P w K mg base 1 "is_list" ["value"] m_is_list) (h_is_fraction_of : Has P w K mg base 2 "is_fraction_of" ["value"] m_is_fraction_of) (h_total : Has P w K mg base 4 "total" ["some"] m_total) : Has P w K mg base 5 "are_children_of" ["value"] m_are_children_of :=
  has_of (l := 4) (N := N_are_children_of) F S_are_children_of hm (F.bindsN fun _ _ _ _ _ _ us hl => match us, hl with | [_], _ => rfl) (fun W hw cdv A outer s H E hr =>
  (ss_cons (ss_if ((sw_or (st_not (st_val (se_call (h_is_list.mono (by decide)) hr (sp_cons (se_var (i := 0)) sp_nil)))) (sw_or1 (st_not (st_chain op_le ok_I op_le ok_I se_int (se_cb call_len_seq ok_len (bl "len" (by decide)) (sa_cons (se_var (i := 0)) sa_nil)) (se_glob g_MOST_CHANCES)))))).st (ss_one (ss_ret hw se_bl)) ss_nil)
  (ss_one (ss_ret hw (se_and (se_cb (cr_all rfl) ok_all (bl "all" (by decide)) (sa_cons (se_lc (own := [("one", 1)]) (vs := [1]) rfl S_are_children_of.nd (si_seq (se_var (i := 0))) (blkOk_by (N := N_are_children_of) (sc := defScope (top 33)) (by decide +kernel)) (fun _ _ _ _ _ => (sg_n (i := 1) S_are_children_of.nd)) (fun _ _ _ _ _ => sts_nil) (fun _ _ _ _ _ => (se_and (se_call (h_is_fraction_of.mono (by decide)) hr (sp_cons (se_var (i := 1)) sp_nil)) (se_one (se_cmp op_ge ok_I (se_ix (se_var (i := 1)) se_int) se_int))))) sa_nil)) (se_one (se_cmp (op_eqD hr.r.units) ok_eq (se_call (h_total.mono (by decide)) hr (sp_cons (se_cty call_list_of ok_list (bl "list" (by decide)) (sa_cons (se_var (i := 0)) sa_nil)) sp_nil)) (se_glob g_ONE))))))))
theorem S_check_children : FnScope N_check_children ["value"] (defScope (top 34)) := ⟨rfl, rfl, rfl, by decide +kernel, rfl, by decide +kernel, by decide +kernel⟩
theorem h_check_children {f : Addr} {fd : FuncData} (F : FnP K "check_children" (top 34) f fd) (hm : mg "check_children" = some (.ref f)) (bl : ∀ x ∈ blt, mg x = none) (h_are_children_of : Has P w K mg base 5 "are_children_of" ["value"] m_are_children_of) (h_is_short : Has P w K mg base 3 "is_short" ["value"] m_is_short) : Has P w K mg base 6 "check_children" ["value"] m_check_children :=
  has_of (l := 5) (N := N_check_children) F S_check_children hm (F.bindsN fun _ _ _ _ _ _ us hl => match us, hl with | [_], _ => rfl) (fun W hw cdv A outer s H E hr =>
  (ss_one (ss_if ((sw_or (st_not (st_val (se_call (h_are_children_of.mono (by decide)) hr (sp_cons (se_var (i := 0)) sp_nil)))) (sw_or1 (st_not (st_val (se_cb (cr_all rfl) ok_all (bl "all" (by decide)) (sa_cons (se_lc (own := [("one", 1)]) (vs := [1]) rfl S_check_children.nd (si_seq (se_var (i := 0))) (blkOk_by (N := N_check_children) (sc := defScope (top 34)) (by decide +kernel)) (fun _ _ _ _ _ => (sg_n (i := 1) S_check_children.nd)) (fun _ _ _ _ _ => sts_nil) (fun _ _ _ _ _ => (se_call (h_is_short.mono (by decide)) hr (sp_cons (se_var (i := 1)) sp_nil)))) sa_nil))))))).st (ss_one ss_never) ss_nil)))
theorem S_told_of : FnScope N_told_of ["some"] (defScope (top 35)) := ⟨rfl, rfl, rfl, by decide +kernel, rfl, by decide +kernel, by decide +kernel⟩
theorem hF_told_of {f : Addr} {fd : FuncData} (F : FnP K "told_of" (top 35) f fd) (hm : mg "told_of" = some (.ref f)) (bl : ∀ x ∈ blt, mg x = none) (g_NOUGHT : Glo K mg "NOUGHT" c_NOUGHT) : HasF P w K mg base 1 "told_of" ["some"] m_told_of :=
  hasF_of (l := 0) (N := N_told_of) F S_told_of hm (F.bindsN fun _ _ _ _ _ _ us hl => match us, hl with | [_], _ => rfl) (fun W hw cdv A outer s H E hr =>
  (ss_cons (ss_own (i := 1) S_told_of.nd (sf_list (bl "list" (by decide)) (se_var (i := 0))))
  (ss_cons (ss_wh 1000000 PassesOwn.never (st_bor [1] ((sw_and (st_cmp (op_neD hr.r.units) ok_ne (se_var (i := 1)) (se_lst sa_nil)) (sw_and1 (st_cmp (op_eqD hr.r.units) ok_eq (se_ix (se_var (i := 1)) (se_un un_neg ok_neg se_int)) (se_glob g_NOUGHT))))).st) (ss_one (ss_pop (i := 1))))
  (ss_one (ss_retO (i := 1) hw)))))
theorem S_product_of : FnScope N_product_of ["one", "late"] (defScope (top 36)) := ⟨rfl, rfl, rfl, by decide +kernel, rfl, by decide +kernel, by decide +kernel⟩
theorem h_product_of {f : Addr} {fd : FuncData} (F : FnP K "product_of" (top 36) f fd) (hm : mg "product_of" = some (.ref f)) (bl : ∀ x ∈ blt, mg x = none) (g_NOUGHT : Glo K mg "NOUGHT" c_NOUGHT) (h_multiply : Has P w K mg base 3 "multiply" ["one", "late"] m_multiply) (h_add : Has P w K mg base 3 "add" ["one", "late"] m_add) : Has P w K mg base 4 "product_of" ["one", "late"] m_product_of :=
  has_of (l := 3) (N := N_product_of) F S_product_of hm (F.bindsN fun _ _ _ _ _ _ us hl => match us, hl with | [_, _], _ => rfl) (fun W hw cdv A outer s H E hr =>
  (ss_cons (ss_own (i := 2) S_product_of.nd (sf_rep (se_lst (sa_cons (se_glob g_NOUGHT) sa_nil)) (se_bin op_subs ok_sub (se_bin op_adds ok_add (se_cb call_len_seq ok_len (bl "len" (by decide)) (sa_cons (se_var (i := 0)) sa_nil)) (se_cb call_len_seq ok_len (bl "len" (by decide)) (sa_cons (se_var (i := 1)) sa_nil))) se_int)))
  (ss_cons (ss_for PassesOwn.never rfl (si_enumQ (bl "enumerate" (by decide)) (se_var (i := 0))) (sg_t rfl (sgs_cons (sg_n (i := 3) S_product_of.nd) (sgs_cons (sg_n (i := 4) S_product_of.nd) sgs_nil))) (ss_one (ss_for PassesOwn.never rfl (si_enumQ (bl "enumerate" (by decide)) (se_var (i := 1))) (sg_t rfl (sgs_cons (sg_n (i := 5) S_product_of.nd) (sgs_cons (sg_n (i := 6) S_product_of.nd) sgs_nil))) (ss_one (ss_setix (i := 2) (se_bor [2] (se_call (h_add.mono (by decide)) hr (sp_cons (se_ix (se_var (i := 2)) (se_bin op_adds ok_add (se_var (i := 3)) (se_var (i := 5)))) (sp_cons (se_call (h_multiply.mono (by decide)) hr (sp_cons (se_var (i := 4)) (sp_cons (se_var (i := 6)) sp_nil))) sp_nil)))) (se_bin op_adds ok_add (se_var (i := 3)) (se_var (i := 5))))))))
  (ss_frz (i := 2) (ss_one (ss_ret hw (se_var (i := 2))))))))
theorem S_put_of : FnScope N_put_of ["children", "late"] (defScope (top 37)) := ⟨rfl, rfl, rfl, by decide +kernel, rfl, by decide +kernel, by decide +kernel⟩
theorem hF_put_of {f : Addr} {fd : FuncData} (F : FnP K "put_of" (top 37) f fd) (hm : mg "put_of" = some (.ref f)) (bl : ∀ x ∈ blt, mg x = none) (g_NOUGHT : Glo K mg "NOUGHT" c_NOUGHT) (g_ONE : Glo K mg "ONE" c_ONE) (h_told_of : Has P w K mg base 1 "told_of" ["some"] m_told_of) (h_multiply : Has P w K mg base 3 "multiply" ["one", "late"] m_multiply) (h_add : Has P w K mg base 3 "add" ["one", "late"] m_add) (h_product_of : Has P w K mg base 4 "product_of" ["one", "late"] m_product_of) (hF_told_of : HasF P w K mg base 1 "told_of" ["some"] m_told_of) : HasF P w K mg base 5 "put_of" ["children", "late"] m_put_of :=
  hasF_of (l := 4) (N := N_put_of) F S_put_of hm (F.bindsN fun _ _ _ _ _ _ us hl => match us, hl with | [_, _], _ => rfl) (fun W hw cdv A outer s H E hr =>
  (ss_cons (ss_par (i := 2) (j := 3) rfl S_put_of.nd (sa_cons (se_lst (sa_cons (se_glob g_NOUGHT) sa_nil)) (sa_cons (se_lst (sa_cons (se_glob g_ONE) sa_nil)) sa_nil)))
  (ss_cons (ss_for PassesOwn.never rfl (si_seq (se_call (h_told_of.mono (by decide)) hr (sp_cons (se_var (i := 0)) sp_nil))) (sg_n (i := 4) S_put_of.nd) (ss_cons (ss_set (i := 5) S_put_of.nd (se_bin op_adds ok_add (se_var (i := 2)) (se_bin op_muls ok_mul (se_lst (sa_cons (se_glob g_NOUGHT) sa_nil)) (se_bin op_subs ok_sub (se_cb call_len_seq ok_len (bl "len" (by decide)) (sa_cons (se_var (i := 3)) sa_nil)) (se_cb call_len_seq ok_len (bl "len" (by decide)) (sa_cons (se_var (i := 2)) sa_nil))))))
  (ss_cons (ss_set (i := 6) S_put_of.nd (se_bin op_adds ok_add (se_var (i := 3)) (se_bin op_muls ok_mul (se_lst (sa_cons (se_glob g_NOUGHT) sa_nil)) (se_bin op_subs ok_sub (se_cb call_len_seq ok_len (bl "len" (by decide)) (sa_cons (se_var (i := 5)) sa_nil)) (se_cb call_len_seq ok_len (bl "len" (by decide)) (sa_cons (se_var (i := 3)) sa_nil))))))
  (ss_cons (ss_setlc (se_setlc (i := 2) (own := [("near", 7), ("far", 8)]) (vs := [7, 8]) rfl S_put_of.nd rfl rfl (sw_true rfl rfl rfl (by decide +kernel)) (si_zipQ (bl "zip" (by decide)) (se_var (i := 5)) (se_var (i := 6))) (blkOk_by (N := N_put_of) (sc := defScope (top 37)) (by decide +kernel)) (fun _ _ _ _ _ => (sg_t rfl (sgs_cons (sg_n (i := 7) S_put_of.nd) (sgs_cons (sg_n (i := 8) S_put_of.nd) sgs_nil)))) (fun _ _ _ _ _ => sts_nil) (fun _ _ _ _ _ => (se_call (h_add.mono (by decide)) hr (sp_cons (se_var (i := 7)) (sp_cons (se_call (h_multiply.mono (by decide)) hr (sp_cons (se_var (i := 4)) (sp_cons (se_var (i := 8)) sp_nil))) sp_nil))))))
  (ss_one (ss_set (i := 3) S_put_of.nd (se_call (h_product_of.mono (by decide)) hr (sp_cons (se_var (i := 3)) (sp_cons (se_call (h_told_of.mono (by decide)) hr (sp_cons (se_var (i := 1)) sp_nil)) sp_nil)))))))))
  (ss_one (ss_retF hw (sf_call (hF_told_of.mono (by decide)) hr (sp_cons (se_var (i := 2)) sp_nil)))))))
end
end Kp

namespace Kp
open PySem PySem.Spec PyProof.Rows L2 Dl
section
variable {P : Program} {w : World} {K : PySem.W.Frag} {mg : Str → Option Value} {base : Heap}
theorem S_want_sizes : FnScope N_want_sizes ["children", "late"] (defScope (top 38)) := ⟨rfl, rfl, rfl, by decide +kernel, rfl, by decide +kernel, by decide +kernel⟩
theorem h_want_sizes {f : Addr} {fd : FuncData} (F : FnP K "want_sizes" (top 38) f fd) (hm : mg "want_sizes" = some (.ref f)) (bl : ∀ x ∈ blt, mg x = none) (g_MOST_SIZES : Glo K mg "MOST_SIZES" c_MOST_SIZES) (h_told_of : Has P w K mg base 1 "told_of" ["some"] m_told_of) (h_want_at_most : Has P w K mg base 1 "want_at_most" ["what", "limit", "number"] m_want_at_most) : Has P w K mg base 2 "want_sizes" ["children", "late"] m_want_sizes :=
  has_of (l := 1) (N := N_want_sizes) F S_want_sizes hm (F.bindsN fun _ _ _ _ _ _ us hl => match us, hl with | [_, _], _ => rfl) (fun W hw cdv A outer s H E hr =>
  (ss_one (ss_expr (se_call (h_want_at_most.mono (by decide)) hr (sp_cons se_str (sp_cons (se_glob g_MOST_SIZES) (sp_cons (se_bin op_muls ok_mul (se_bin op_subs ok_sub (se_cb call_len_seq ok_len (bl "len" (by decide)) (sa_cons (se_call (h_told_of.mono (by decide)) hr (sp_cons (se_var (i := 0)) sp_nil)) sa_nil)) se_int) (se_bin op_subs ok_sub (se_cb call_len_seq ok_len (bl "len" (by decide)) (sa_cons (se_call (h_told_of.mono (by decide)) hr (sp_cons (se_var (i := 1)) sp_nil)) sa_nil)) se_int)) sp_nil)))))))
theorem S_mean_by : FnScope N_mean_by ["children"] (defScope (top 39)) := ⟨rfl, rfl, rfl, by decide +kernel, rfl, by decide +kernel, by decide +kernel⟩
theorem h_mean_by {f : Addr} {fd : FuncData} (F : FnP K "mean_by" (top 39) f fd) (hm : mg "mean_by" = some (.ref f)) (bl : ∀ x ∈ blt, mg x = none) (h_multiply : Has P w K mg base 3 "multiply" ["one", "late"] m_multiply) (h_total : Has P w K mg base 4 "total" ["some"] m_total) : Has P w K mg base 5 "mean_by" ["children"] m_mean_by :=
  has_of (l := 4) (N := N_mean_by) F S_mean_by hm (F.bindsN fun _ _ _ _ _ _ us hl => match us, hl with | [_], _ => rfl) (fun W hw cdv A outer s H E hr =>
  (ss_one (ss_ret hw (se_call (h_total.mono (by decide)) hr (sp_cons (se_lc (own := [("at", 1), ("one", 2)]) (vs := [1, 2]) rfl S_mean_by.nd (si_enumQ (bl "enumerate" (by decide)) (se_var (i := 0))) (blkOk_by (N := N_mean_by) (sc := defScope (top 39)) (by decide +kernel)) (fun _ _ _ _ _ => (sg_t rfl (sgs_cons (sg_n (i := 1) S_mean_by.nd) (sgs_cons (sg_n (i := 2) S_mean_by.nd) sgs_nil)))) (fun _ _ _ _ _ => sts_nil) (fun _ _ _ _ _ => (se_call (h_multiply.mono (by decide)) hr (sp_cons (se_var (i := 2)) (sp_cons (se_tup (sa_cons (se_var (i := 1)) (sa_cons se_int sa_nil))) sp_nil))))) sp_nil)))))
theorem S_number_of : FnScope N_number_of ["children", "fraction"] (defScope (top 40)) := ⟨rfl, rfl, rfl, by decide +kernel, rfl, by decide +kernel, by decide +kernel⟩
theorem h_number_of {f : Addr} {fd : FuncData} (F : FnP K "number_of" (top 40) f fd) (hm : mg "number_of" = some (.ref f)) (bl : ∀ x ∈ blt, mg x = none) (g_NOUGHT : Glo K mg "NOUGHT" c_NOUGHT) (h_multiply : Has P w K mg base 3 "multiply" ["one", "late"] m_multiply) (h_add : Has P w K mg base 3 "add" ["one", "late"] m_add) : Has P w K mg base 4 "number_of" ["children", "fraction"] m_number_of :=
  has_of (l := 3) (N := N_number_of) F S_number_of hm (F.bindsN fun _ _ _ _ _ _ us hl => match us, hl with | [_, _], _ => rfl) (fun W hw cdv A outer s H E hr =>
  (ss_cons (ss_set (i := 2) S_number_of.nd (se_glob g_NOUGHT))
  (ss_cons (ss_for PassesOwn.never rfl (si_seq (se_rev (se_cty call_list_of ok_list (bl "list" (by decide)) (sa_cons (se_var (i := 0)) sa_nil)))) (sg_n (i := 3) S_number_of.nd) (ss_one (ss_set (i := 2) S_number_of.nd (se_call (h_add.mono (by decide)) hr (sp_cons (se_call (h_multiply.mono (by decide)) hr (sp_cons (se_var (i := 2)) (sp_cons (se_var (i := 1)) sp_nil))) (sp_cons (se_var (i := 3)) sp_nil))))))
  (ss_one (ss_ret hw (se_var (i := 2)))))))
theorem S_are_children : FnScope N_are_children ["value"] (defScope (top 41)) := ⟨rfl, rfl, rfl, by decide +kernel, rfl, by decide +kernel, by decide +kernel⟩
theorem h_are_children {f : Addr} {fd : FuncData} (F : FnP K "are_children" (top 41) f fd) (hm : mg "are_children" = some (.ref f)) (bl : ∀ x ∈ blt, mg x = none) (h_are_children_of : Has P w K mg base 5 "are_children_of" ["value"] m_are_children_of) : Has P w K mg base 6 "are_children" ["value"] m_are_children :=
  has_of (l := 5) (N := N_are_children) F S_are_children hm (F.bindsN fun _ _ _ _ _ _ us hl => match us, hl with | [_], _ => rfl) (fun W hw cdv A outer s H E hr =>
  (ss_one (ss_ret hw (se_call (h_are_children_of.mono (by decide)) hr (sp_cons (se_var (i := 0)) sp_nil)))))
theorem S_child_mean : FnScope N_child_mean ["children"] (defScope (top 42)) := ⟨rfl, rfl, rfl, by decide +kernel, rfl, by decide +kernel, by decide +kernel⟩
theorem h_child_mean {f : Addr} {fd : FuncData} (F : FnP K "child_mean" (top 42) f fd) (hm : mg "child_mean" = some (.ref f)) (bl : ∀ x ∈ blt, mg x = none) (h_check_children : Has P w K mg base 6 "check_children" ["value"] m_check_children) (h_mean_by : Has P w K mg base 5 "mean_by" ["children"] m_mean_by) : Has P w K mg base 7 "child_mean" ["children"] m_child_mean :=
  has_of (l := 6) (N := N_child_mean) F S_child_mean hm (F.bindsN fun _ _ _ _ _ _ us hl => match us, hl with | [_], _ => rfl) (fun W hw cdv A outer s H E hr =>
  (ss_cons (ss_expr (se_call (h_check_children.mono (by decide)) hr (sp_cons (se_var (i := 0)) sp_nil)))
  (ss_one (ss_ret hw (se_call (h_mean_by.mono (by decide)) hr (sp_cons (se_var (i := 0)) sp_nil))))))
theorem S_number_at : FnScope N_number_at ["children", "fraction"] (defScope (top 43)) := ⟨rfl, rfl, rfl, by decide +kernel, rfl, by decide +kernel, by decide +kernel⟩
theorem h_number_at {f : Addr} {fd : FuncData} (F : FnP K "number_at" (top 43) f fd) (hm : mg "number_at" = some (.ref f)) (bl : ∀ x ∈ blt, mg x = none) (g_ONE : Glo K mg "ONE" c_ONE) (h_check_children : Has P w K mg base 6 "check_children" ["value"] m_check_children) (h_check_fraction : Has P w K mg base 4 "check_fraction" ["value"] m_check_fraction) (h_is_below : Has P w K mg base 1 "is_below" ["one", "late"] m_is_below) (h_number_of : Has P w K mg base 4 "number_of" ["children", "fraction"] m_number_of) : Has P w K mg base 7 "number_at" ["children", "fraction"] m_number_at :=
  has_of (l := 6) (N := N_number_at) F S_number_at hm (F.bindsN fun _ _ _ _ _ _ us hl => match us, hl with | [_, _], _ => rfl) (fun W hw cdv A outer s H E hr =>
  (ss_cons (ss_expr (se_call (h_check_children.mono (by decide)) hr (sp_cons (se_var (i := 0)) sp_nil)))
  (ss_cons (ss_expr (se_call (h_check_fraction.mono (by decide)) hr (sp_cons (se_var (i := 1)) sp_nil)))
  (ss_cons (ss_if ((sw_or (st_cmp op_lt ok_I (se_ix (se_var (i := 1)) se_int) se_int) (sw_or1 (st_val (se_call (h_is_below.mono (by decide)) hr (sp_cons (se_glob g_ONE) (sp_cons (se_var (i := 1)) sp_nil))))))).st (ss_one ss_never) ss_nil)
  (ss_one (ss_ret hw (se_call (h_number_of.mono (by decide)) hr (sp_cons (se_var (i := 0)) (sp_cons (se_var (i := 1)) sp_nil)))))))))
theorem S_size_chances : FnScope N_size_chances ["children", "many"] (defScope (top 44)) := ⟨rfl, rfl, rfl, by decide +kernel, rfl, by decide +kernel, by decide +kernel⟩
theorem hF_size_chances {f : Addr} {fd : FuncData} (F : FnP K "size_chances" (top 44) f fd) (hm : mg "size_chances" = some (.ref f)) (bl : ∀ x ∈ blt, mg x = none) (g_MOST_SIZED : Glo K mg "MOST_SIZED" c_MOST_SIZED) (g_ONE : Glo K mg "ONE" c_ONE) (g_NOUGHT : Glo K mg "NOUGHT" c_NOUGHT) (h_check_children : Has P w K mg base 6 "check_children" ["value"] m_check_children) (h_check_number : Has P w K mg base 3 "check_number" ["value", "least", "most"] m_check_number) (h_want_sizes : Has P w K mg base 2 "want_sizes" ["children", "late"] m_want_sizes) (hF_put_of : HasF P w K mg base 5 "put_of" ["children", "late"] m_put_of) : HasF P w K mg base 7 "size_chances" ["children", "many"] m_size_chances :=
  hasF_of (l := 6) (N := N_size_chances) F S_size_chances hm (F.bindsN fun _ _ _ _ _ _ us hl => match us, hl with | [_, _], _ => rfl) (fun W hw cdv A outer s H E hr =>
  (ss_cons (ss_expr (se_call (h_check_children.mono (by decide)) hr (sp_cons (se_var (i := 0)) sp_nil)))
  (ss_cons (ss_expr (se_call (h_check_number.mono (by decide)) hr (sp_cons (se_var (i := 1)) (sp_cons se_int (sp_cons (se_glob g_MOST_SIZED) sp_nil)))))
  (ss_cons (ss_own (i := 2) S_size_chances.nd (sf_lst (sa_cons (se_glob g_NOUGHT) (sa_cons (se_glob g_ONE) sa_nil))))
  (ss_cons (ss_for PassesOwn.never rfl (si_range1 (bl "range" (by decide)) (se_var (i := 1))) (sg_n (i := 3) S_size_chances.nd) (ss_cons (ss_expr (se_bor [2] (se_call (h_want_sizes.mono (by decide)) hr (sp_cons (se_var (i := 2)) (sp_cons (se_var (i := 0)) sp_nil)))))
  (ss_one (ss_own (i := 2) S_size_chances.nd (sf_bor [2] (sf_call (hF_put_of.mono (by decide)) hr (sp_cons (se_var (i := 2)) (sp_cons (se_var (i := 0)) sp_nil))))))))
  (ss_one (ss_retO (i := 2) hw)))))))
theorem S_is_sure_of : FnScope N_is_sure_of ["children"] (defScope (top 48)) := ⟨rfl, rfl, rfl, by decide +kernel, rfl, by decide +kernel, by decide +kernel⟩
theorem h_is_sure_of {f : Addr} {fd : FuncData} (F : FnP K "is_sure_of" (top 48) f fd) (hm : mg "is_sure_of" = some (.ref f)) (bl : ∀ x ∈ blt, mg x = none) (g_ONE : Glo K mg "ONE" c_ONE) (h_mean_by : Has P w K mg base 5 "mean_by" ["children"] m_mean_by) (h_is_below : Has P w K mg base 1 "is_below" ["one", "late"] m_is_below) : Has P w K mg base 6 "is_sure_of" ["children"] m_is_sure_of :=
  has_of (l := 5) (N := N_is_sure_of) F S_is_sure_of hm (F.bindsN fun _ _ _ _ _ _ us hl => match us, hl with | [_], _ => rfl) (fun W hw cdv A outer s H E hr =>
  (ss_cons (ss_if ((sw_and (st_cmp op_gt ok_I (se_cb call_len_seq ok_len (bl "len" (by decide)) (sa_cons (se_var (i := 0)) sa_nil)) se_int) (sw_and1 (st_cmp (op_eqD hr.r.units) ok_eq (se_ix (se_var (i := 0)) se_int) (se_glob g_ONE))))).st (ss_one (ss_ret hw se_bl)) ss_nil)
  (ss_one (ss_ret hw (se_not (se_call (h_is_below.mono (by decide)) hr (sp_cons (se_glob g_ONE) (sp_cons (se_call (h_mean_by.mono (by decide)) hr (sp_cons (se_var (i := 0)) sp_nil)) sp_nil))))))))
theorem S_is_live_of : FnScope N_is_live_of ["children", "value"] (defScope (top 49)) := ⟨rfl, rfl, rfl, by decide +kernel, rfl, by decide +kernel, by decide +kernel⟩
theorem h_is_live_of {f : Addr} {fd : FuncData} (F : FnP K "is_live_of" (top 49) f fd) (hm : mg "is_live_of" = some (.ref f)) (bl : ∀ x ∈ blt, mg x = none) (g_ONE : Glo K mg "ONE" c_ONE) (h_is_fraction_of : Has P w K mg base 2 "is_fraction_of" ["value"] m_is_fraction_of) (h_is_below : Has P w K mg base 1 "is_below" ["one", "late"] m_is_below) (h_number_of : Has P w K mg base 4 "number_of" ["children", "fraction"] m_number_of) : Has P w K mg base 5 "is_live_of" ["children", "value"] m_is_live_of :=
  has_of (l := 4) (N := N_is_live_of) F S_is_live_of hm (F.bindsN fun _ _ _ _ _ _ us hl => match us, hl with | [_, _], _ => rfl) (fun W hw cdv A outer s H E hr =>
  (ss_cons (ss_if ((sw_or (st_not (st_val (se_call (h_is_fraction_of.mono (by decide)) hr (sp_cons (se_var (i := 1)) sp_nil)))) (sw_or (st_cmp op_lt ok_I (se_ix (se_var (i := 1)) se_int) se_int) (sw_or1 (st_not (st_val (se_call (h_is_below.mono (by decide)) hr (sp_cons (se_var (i := 1)) (sp_cons (se_glob g_ONE) sp_nil))))))))).st (ss_one (ss_ret hw se_bl)) ss_nil)
  (ss_one (ss_ret hw (se_not (se_call (h_is_below.mono (by decide)) hr (sp_cons (se_var (i := 1)) (sp_cons (se_call (h_number_of.mono (by decide)) hr (sp_cons (se_var (i := 0)) (sp_cons (se_var (i := 1)) sp_nil))) sp_nil))))))))
theorem S_middle_of : FnScope N_middle_of ["low", "high"] (defScope (top 50)) := ⟨rfl, rfl, rfl, by decide +kernel, rfl, by decide +kernel, by decide +kernel⟩
theorem h_middle_of {f : Addr} {fd : FuncData} (F : FnP K "middle_of" (top 50) f fd) (hm : mg "middle_of" = some (.ref f)) (bl : ∀ x ∈ blt, mg x = none) (h_add : Has P w K mg base 3 "add" ["one", "late"] m_add) (h_divide : Has P w K mg base 3 "divide" ["one", "late"] m_divide) : Has P w K mg base 4 "middle_of" ["low", "high"] m_middle_of :=
  has_of (l := 3) (N := N_middle_of) F S_middle_of hm (F.bindsN fun _ _ _ _ _ _ us hl => match us, hl with | [_, _], _ => rfl) (fun W hw cdv A outer s H E hr =>
  (ss_one (ss_ret hw (se_call (h_divide.mono (by decide)) hr (sp_cons (se_call (h_add.mono (by decide)) hr (sp_cons (se_var (i := 0)) (sp_cons (se_var (i := 1)) sp_nil))) (sp_cons (se_tup (sa_cons se_int (sa_cons se_int sa_nil))) sp_nil))))))
theorem S_whole_quotient : FnScope N_whole_quotient ["children"] (defScope (top 51)) := ⟨rfl, rfl, rfl, by decide +kernel, rfl, by decide +kernel, by decide +kernel⟩
theorem h_whole_quotient {f : Addr} {fd : FuncData} (F : FnP K "whole_quotient" (top 51) f fd) (hm : mg "whole_quotient" = some (.ref f)) (bl : ∀ x ∈ blt, mg x = none) (h_divisor : Has P w K mg base 1 "divisor" ["one", "late"] m_divisor) : Has P w K mg base 2 "whole_quotient" ["children"] m_whole_quotient :=
  has_of (l := 1) (N := N_whole_quotient) F S_whole_quotient hm (F.bindsN fun _ _ _ _ _ _ us hl => match us, hl with | [_], _ => rfl) (fun W hw cdv A outer s H E hr =>
  (ss_cons (ss_set (i := 1) S_whole_quotient.nd se_int)
  (ss_cons (ss_for PassesOwn.never rfl (si_seq (se_var (i := 0))) (sg_t rfl (sgs_cons (sg_n (i := 2) S_whole_quotient.nd) (sgs_cons (sg_n (i := 3) S_whole_quotient.nd) sgs_nil))) (ss_one (ss_set (i := 1) S_whole_quotient.nd (se_bin op_muls ok_mul (se_bin op_fdivW ok_fdiv (se_var (i := 1)) (se_call (h_divisor.mono (by decide)) hr (sp_cons (se_var (i := 1)) (sp_cons (se_var (i := 3)) sp_nil)))) (se_var (i := 3))))))
  (ss_cons (ss_ownlc (sf_setlc (i := 4) (own := [("top", 2), ("bottom", 3)]) (vs := [2, 3]) rfl S_whole_quotient.nd rfl rfl (sw_true rfl rfl rfl (by decide +kernel)) (si_seq (se_var (i := 0))) (blkOk_by (N := N_whole_quotient) (sc := defScope (top 51)) (by decide +kernel)) (fun _ _ _ _ _ => (sg_t rfl (sgs_cons (sg_n (i := 2) S_whole_quotient.nd) (sgs_cons (sg_n (i := 3) S_whole_quotient.nd) sgs_nil)))) (fun _ _ _ _ _ => sts_nil) (fun _ _ _ _ _ => (se_bin op_muls ok_mul (se_var (i := 2)) (se_bin op_fdivW ok_fdiv (se_var (i := 1)) (se_var (i := 3)))))))
  (ss_frz (i := 4) (ss_cons (ss_own (i := 4) S_whole_quotient.nd (sf_cat (se_var (i := 4)) (se_bin op_muls ok_mul (se_lst (sa_cons se_int sa_nil)) (se_bin op_subs ok_sub se_int (se_cb call_len_seq ok_len (bl "len" (by decide)) (sa_cons (se_var (i := 4)) sa_nil))))))
  (ss_cons (ss_setix (i := 4) (se_bor [4] (se_bin op_subs ok_sub (se_ix (se_var (i := 4)) se_int) (se_var (i := 1)))) se_int)
  (ss_cons (ss_parFE (i := 5) (j := 6) rfl S_whole_quotient.nd (sf_lst sa_nil) se_int)
  (ss_frz (i := 4) (ss_cons (ss_for PassesOwn.never rfl (si_seq (se_revTo (se_var (i := 4)) se_int)) (sg_n (i := 7) S_whole_quotient.nd) (ss_cons (ss_set (i := 6) S_whole_quotient.nd (se_bin op_adds ok_add (se_var (i := 6)) (se_var (i := 7))))
  (ss_frz (i := 5) (ss_one (ss_own (i := 5) S_whole_quotient.nd (sf_cat (se_lst (sa_cons (se_var (i := 6)) sa_nil)) (se_var (i := 5))))))))
  (ss_cons (ss_wh 1000000 PassesOwn.never (st_bor [5] ((sw_and (st_cmp (op_neD hr.r.units) ok_ne (se_var (i := 5)) (se_lst sa_nil)) (sw_and1 (st_cmp (op_eqD hr.r.units) ok_eq (se_ix (se_var (i := 5)) (se_un un_neg ok_neg se_int)) se_int)))).st) (ss_one (ss_pop (i := 5))))
  (ss_frz (i := 5) (ss_one (ss_ret hw (se_var (i := 5))))))))))))))))
theorem S_sign_of : FnScope N_sign_of ["numbers", "top", "bottom"] (defScope (top 52)) := ⟨rfl, rfl, rfl, by decide +kernel, rfl, by decide +kernel, by decide +kernel⟩
theorem h_sign_of {f : Addr} {fd : FuncData} (F : FnP K "sign_of" (top 52) f fd) (hm : mg "sign_of" = some (.ref f)) (bl : ∀ x ∈ blt, mg x = none)  : Has P w K mg base 1 "sign_of" ["numbers", "top", "bottom"] m_sign_of :=
  has_of (l := 0) (N := N_sign_of) F S_sign_of hm (F.bindsN fun _ _ _ _ _ _ us hl => match us, hl with | [_, _, _], _ => rfl) (fun W hw cdv A outer s H E hr =>
  (ss_cons (ss_asg (se_tup (sa_cons se_int (sa_cons se_int sa_nil))) (sg_t rfl (sgs_cons (sg_n (i := 3) S_sign_of.nd) (sgs_cons (sg_n (i := 4) S_sign_of.nd) sgs_nil))))
  (ss_cons (ss_for PassesOwn.never rfl (si_seq (se_rev (se_var (i := 0)))) (sg_n (i := 5) S_sign_of.nd) (ss_one (ss_par (i := 3) (j := 4) rfl S_sign_of.nd (sa_cons (se_bin op_adds ok_add (se_bin op_muls ok_mul (se_var (i := 3)) (se_var (i := 1))) (se_bin op_muls ok_mul (se_var (i := 5)) (se_var (i := 4)))) (sa_cons (se_bin op_muls ok_mul (se_var (i := 4)) (se_var (i := 2))) sa_nil)))))
  (ss_one (ss_ret hw (se_bin op_subs ok_sub (se_cmp op_gt ok_I (se_var (i := 3)) se_int) (se_cmp op_lt ok_I (se_var (i := 3)) se_int)))))))
theorem S_root_between : FnScope N_root_between ["numbers"] (defScope (top 53)) := ⟨rfl, rfl, rfl, by decide +kernel, rfl, by decide +kernel, by decide +kernel⟩
theorem h_root_between {f : Addr} {fd : FuncData} (F : FnP K "root_between" (top 53) f fd) (hm : mg "root_between" = some (.ref f)) (bl : ∀ x ∈ blt, mg x = none) (h_sign_of : Has P w K mg base 1 "sign_of" ["numbers", "top", "bottom"] m_sign_of) (h_reduced : Has P w K mg base 2 "reduced" ["top", "bottom"] m_reduced) : Has P w K mg base 3 "root_between" ["numbers"] m_root_between :=
  has_of (l := 2) (N := N_root_between) F S_root_between hm (F.bindsN fun _ _ _ _ _ _ us hl => match us, hl with | [_], _ => rfl) (fun W hw cdv A outer s H E hr =>
  (ss_cons (ss_set (i := 1) S_root_between.nd (se_cb call_abs ok_abs (bl "abs" (by decide)) (sa_cons (se_ix (se_var (i := 0)) (se_un un_neg ok_neg se_int)) sa_nil)))
  (ss_cons (ss_par (i := 2) (j := 3) rfl S_root_between.nd (sa_cons se_int (sa_cons (se_var (i := 1)) sa_nil)))
  (ss_cons (ss_wh 1000000 PassesOwn.never (st_cmp op_gt ok_I (se_bin op_subs ok_sub (se_var (i := 3)) (se_var (i := 2))) se_int) (ss_cons (ss_set (i := 4) S_root_between.nd (se_bin op_fdivW ok_fdiv (se_bin op_adds ok_add (se_var (i := 2)) (se_var (i := 3))) se_int))
  (ss_cons (ss_set (i := 5) S_root_between.nd (se_call (h_sign_of.mono (by decide)) hr (sp_cons (se_var (i := 0)) (sp_cons (se_var (i := 4)) (sp_cons (se_var (i := 1)) sp_nil)))))
  (ss_cons (ss_if (st_cmp (op_eqD hr.r.units) ok_eq (se_var (i := 5)) se_int) (ss_one (ss_ret hw (se_call (h_reduced.mono (by decide)) hr (sp_cons (se_var (i := 4)) (sp_cons (se_var (i := 1)) sp_nil))))) ss_nil)
  (ss_one (ss_asg (se_if (st_cmp op_lt ok_I (se_var (i := 5)) se_int) (se_tup (sa_cons (se_var (i := 4)) (sa_cons (se_var (i := 3)) sa_nil))) (se_tup (sa_cons (se_var (i := 2)) (sa_cons (se_var (i := 4)) sa_nil)))) (sg_t rfl (sgs_cons (sg_n (i := 2) S_root_between.nd) (sgs_cons (sg_n (i := 3) S_root_between.nd) sgs_nil)))))))))
  (ss_one (ss_ret hw se_non))))))
theorem S_death_of : FnScope N_death_of ["children"] (defScope (top 54)) := ⟨rfl, rfl, rfl, by decide +kernel, rfl, by decide +kernel, by decide +kernel⟩
theorem h_death_of {f : Addr} {fd : FuncData} (F : FnP K "death_of" (top 54) f fd) (hm : mg "death_of" = some (.ref f)) (bl : ∀ x ∈ blt, mg x = none) (g_ONE : Glo K mg "ONE" c_ONE) (g_NOUGHT : Glo K mg "NOUGHT" c_NOUGHT) (h_is_sure_of : Has P w K mg base 6 "is_sure_of" ["children"] m_is_sure_of) (h_whole_quotient : Has P w K mg base 2 "whole_quotient" ["children"] m_whole_quotient) (h_root_between : Has P w K mg base 3 "root_between" ["numbers"] m_root_between) : Has P w K mg base 7 "death_of" ["children"] m_death_of :=
  has_of (l := 6) (N := N_death_of) F S_death_of hm (F.bindsN fun _ _ _ _ _ _ us hl => match us, hl with | [_], _ => rfl) (fun W hw cdv A outer s H E hr =>
  (ss_cons (ss_if (st_val (se_call (h_is_sure_of.mono (by decide)) hr (sp_cons (se_var (i := 0)) sp_nil))) (ss_one (ss_ret hw (se_glob g_ONE))) ss_nil)
  (ss_cons (ss_if (st_cmp (op_eqD hr.r.units) ok_eq (se_ix (se_var (i := 0)) se_int) (se_glob g_NOUGHT)) (ss_one (ss_ret hw (se_glob g_NOUGHT))) ss_nil)
  (ss_one (ss_ret hw (se_call (h_root_between.mono (by decide)) hr (sp_cons (se_call (h_whole_quotient.mono (by decide)) hr (sp_cons (se_var (i := 0)) sp_nil)) sp_nil)))))))
theorem S_dead_by : FnScope N_dead_by ["children", "many"] (defScope (top 55)) := ⟨rfl, rfl, rfl, by decide +kernel, rfl, by decide +kernel, by decide +kernel⟩
theorem h_dead_by {f : Addr} {fd : FuncData} (F : FnP K "dead_by" (top 55) f fd) (hm : mg "dead_by" = some (.ref f)) (bl : ∀ x ∈ blt, mg x = none) (g_MOST_DEAD : Glo K mg "MOST_DEAD" c_MOST_DEAD) (g_NOUGHT : Glo K mg "NOUGHT" c_NOUGHT) (h_check_children : Has P w K mg base 6 "check_children" ["value"] m_check_children) (h_check_number : Has P w K mg base 3 "check_number" ["value", "least", "most"] m_check_number) (h_number_of : Has P w K mg base 4 "number_of" ["children", "fraction"] m_number_of) : Has P w K mg base 7 "dead_by" ["children", "many"] m_dead_by :=
  has_of (l := 6) (N := N_dead_by) F S_dead_by hm (F.bindsN fun _ _ _ _ _ _ us hl => match us, hl with | [_, _], _ => rfl) (fun W hw cdv A outer s H E hr =>
  (ss_cons (ss_expr (se_call (h_check_children.mono (by decide)) hr (sp_cons (se_var (i := 0)) sp_nil)))
  (ss_cons (ss_expr (se_call (h_check_number.mono (by decide)) hr (sp_cons (se_var (i := 1)) (sp_cons se_int (sp_cons (se_glob g_MOST_DEAD) sp_nil)))))
  (ss_cons (ss_set (i := 2) S_dead_by.nd (se_glob g_NOUGHT))
  (ss_cons (ss_for PassesOwn.never rfl (si_range1 (bl "range" (by decide)) (se_var (i := 1))) (sg_n (i := 3) S_dead_by.nd) (ss_one (ss_set (i := 2) S_dead_by.nd (se_call (h_number_of.mono (by decide)) hr (sp_cons (se_var (i := 0)) (sp_cons (se_var (i := 2)) sp_nil))))))
  (ss_one (ss_ret hw (se_var (i := 2)))))))))
theorem S_dies_surely : FnScope N_dies_surely ["children"] (defScope (top 56)) := ⟨rfl, rfl, rfl, by decide +kernel, rfl, by decide +kernel, by decide +kernel⟩
theorem h_dies_surely {f : Addr} {fd : FuncData} (F : FnP K "dies_surely" (top 56) f fd) (hm : mg "dies_surely" = some (.ref f)) (bl : ∀ x ∈ blt, mg x = none) (h_check_children : Has P w K mg base 6 "check_children" ["value"] m_check_children) (h_is_sure_of : Has P w K mg base 6 "is_sure_of" ["children"] m_is_sure_of) : Has P w K mg base 7 "dies_surely" ["children"] m_dies_surely :=
  has_of (l := 6) (N := N_dies_surely) F S_dies_surely hm (F.bindsN fun _ _ _ _ _ _ us hl => match us, hl with | [_], _ => rfl) (fun W hw cdv A outer s H E hr =>
  (ss_cons (ss_expr (se_call (h_check_children.mono (by decide)) hr (sp_cons (se_var (i := 0)) sp_nil)))
  (ss_one (ss_ret hw (se_call (h_is_sure_of.mono (by decide)) hr (sp_cons (se_var (i := 0)) sp_nil))))))
theorem S_live_paper : FnScope N_live_paper ["children"] (defScope (top 57)) := ⟨rfl, rfl, rfl, by decide +kernel, rfl, by decide +kernel, by decide +kernel⟩
theorem h_live_paper {f : Addr} {fd : FuncData} (F : FnP K "live_paper" (top 57) f fd) (hm : mg "live_paper" = some (.ref f)) (bl : ∀ x ∈ blt, mg x = none) (g_NOUGHT : Glo K mg "NOUGHT" c_NOUGHT) (g_ONE : Glo K mg "ONE" c_ONE) (h_check_children : Has P w K mg base 6 "check_children" ["value"] m_check_children) (h_is_sure_of : Has P w K mg base 6 "is_sure_of" ["children"] m_is_sure_of) (h_is_live_of : Has P w K mg base 5 "is_live_of" ["children", "value"] m_is_live_of) (h_middle_of : Has P w K mg base 4 "middle_of" ["low", "high"] m_middle_of) : Has P w K mg base 7 "live_paper" ["children"] m_live_paper :=
  has_of (l := 6) (N := N_live_paper) F S_live_paper hm (F.bindsN fun _ _ _ _ _ _ us hl => match us, hl with | [_], _ => rfl) (fun W hw cdv A outer s H E hr =>
  (ss_cons (ss_expr (se_call (h_check_children.mono (by decide)) hr (sp_cons (se_var (i := 0)) sp_nil)))
  (ss_cons (ss_if (st_val (se_call (h_is_sure_of.mono (by decide)) hr (sp_cons (se_var (i := 0)) sp_nil))) (ss_one (ss_ret hw se_non)) ss_nil)
  (ss_cons (ss_set (i := 1) S_live_paper.nd (se_glob g_NOUGHT))
  (ss_cons (ss_wh 1000000 PassesOwn.never (st_not (st_val (se_call (h_is_live_of.mono (by decide)) hr (sp_cons (se_var (i := 0)) (sp_cons (se_var (i := 1)) sp_nil))))) (ss_one (ss_set (i := 1) S_live_paper.nd (se_call (h_middle_of.mono (by decide)) hr (sp_cons (se_var (i := 1)) (sp_cons (se_glob g_ONE) sp_nil))))))
  (ss_one (ss_ret hw (se_var (i := 1)))))))))
theorem S_is_live_paper : FnScope N_is_live_paper ["children", "value"] (defScope (top 58)) := ⟨rfl, rfl, rfl, by decide +kernel, rfl, by decide +kernel, by decide +kernel⟩
theorem h_is_live_paper {f : Addr} {fd : FuncData} (F : FnP K "is_live_paper" (top 58) f fd) (hm : mg "is_live_paper" = some (.ref f)) (bl : ∀ x ∈ blt, mg x = none) (h_check_children : Has P w K mg base 6 "check_children" ["value"] m_check_children) (h_is_live_of : Has P w K mg base 5 "is_live_of" ["children", "value"] m_is_live_of) : Has P w K mg base 7 "is_live_paper" ["children", "value"] m_is_live_paper :=
  has_of (l := 6) (N := N_is_live_paper) F S_is_live_paper hm (F.bindsN fun _ _ _ _ _ _ us hl => match us, hl with | [_, _], _ => rfl) (fun W hw cdv A outer s H E hr =>
  (ss_cons (ss_expr (se_call (h_check_children.mono (by decide)) hr (sp_cons (se_var (i := 0)) sp_nil)))
  (ss_one (ss_ret hw (se_call (h_is_live_of.mono (by decide)) hr (sp_cons (se_var (i := 0)) (sp_cons (se_var (i := 1)) sp_nil)))))))
theorem S_death_chance : FnScope N_death_chance ["children"] (defScope (top 59)) := ⟨rfl, rfl, rfl, by decide +kernel, rfl, by decide +kernel, by decide +kernel⟩
theorem h_death_chance {f : Addr} {fd : FuncData} (F : FnP K "death_chance" (top 59) f fd) (hm : mg "death_chance" = some (.ref f)) (bl : ∀ x ∈ blt, mg x = none) (h_check_children : Has P w K mg base 6 "check_children" ["value"] m_check_children) (h_death_of : Has P w K mg base 7 "death_of" ["children"] m_death_of) : Has P w K mg base 8 "death_chance" ["children"] m_death_chance :=
  has_of (l := 7) (N := N_death_chance) F S_death_chance hm (F.bindsN fun _ _ _ _ _ _ us hl => match us, hl with | [_], _ => rfl) (fun W hw cdv A outer s H E hr =>
  (ss_cons (ss_expr (se_call (h_check_children.mono (by decide)) hr (sp_cons (se_var (i := 0)) sp_nil)))
  (ss_one (ss_ret hw (se_call (h_death_of.mono (by decide)) hr (sp_cons (se_var (i := 0)) sp_nil))))))
theorem S_death_between : FnScope N_death_between ["children", "many"] (defScope (top 60)) := ⟨rfl, rfl, rfl, by decide +kernel, rfl, by decide +kernel, by decide +kernel⟩
theorem h_death_between {f : Addr} {fd : FuncData} (F : FnP K "death_between" (top 60) f fd) (hm : mg "death_between" = some (.ref f)) (bl : ∀ x ∈ blt, mg x = none) (g_MOST_HALVED : Glo K mg "MOST_HALVED" c_MOST_HALVED) (g_NOUGHT : Glo K mg "NOUGHT" c_NOUGHT) (g_ONE : Glo K mg "ONE" c_ONE) (h_check_children : Has P w K mg base 6 "check_children" ["value"] m_check_children) (h_check_number : Has P w K mg base 3 "check_number" ["value", "least", "most"] m_check_number) (h_middle_of : Has P w K mg base 4 "middle_of" ["low", "high"] m_middle_of) (h_number_of : Has P w K mg base 4 "number_of" ["children", "fraction"] m_number_of) (h_is_below : Has P w K mg base 1 "is_below" ["one", "late"] m_is_below) : Has P w K mg base 7 "death_between" ["children", "many"] m_death_between :=
  has_of (l := 6) (N := N_death_between) F S_death_between hm (F.bindsN fun _ _ _ _ _ _ us hl => match us, hl with | [_, _], _ => rfl) (fun W hw cdv A outer s H E hr =>
  (ss_cons (ss_expr (se_call (h_check_children.mono (by decide)) hr (sp_cons (se_var (i := 0)) sp_nil)))
  (ss_cons (ss_expr (se_call (h_check_number.mono (by decide)) hr (sp_cons (se_var (i := 1)) (sp_cons se_int (sp_cons (se_glob g_MOST_HALVED) sp_nil)))))
  (ss_cons (ss_par (i := 2) (j := 3) rfl S_death_between.nd (sa_cons (se_glob g_NOUGHT) (sa_cons (se_glob g_ONE) sa_nil)))
  (ss_cons (ss_for PassesOwn.never rfl (si_range1 (bl "range" (by decide)) (se_var (i := 1))) (sg_n (i := 4) S_death_between.nd) (ss_cons (ss_set (i := 5) S_death_between.nd (se_call (h_middle_of.mono (by decide)) hr (sp_cons (se_var (i := 2)) (sp_cons (se_var (i := 3)) sp_nil))))
  (ss_one (ss_if (st_val (se_call (h_is_below.mono (by decide)) hr (sp_cons (se_var (i := 5)) (sp_cons (se_call (h_number_of.mono (by decide)) hr (sp_cons (se_var (i := 0)) (sp_cons (se_var (i := 5)) sp_nil))) sp_nil)))) (ss_one (ss_set (i := 2) S_death_between.nd (se_var (i := 5)))) (ss_one (ss_set (i := 3) S_death_between.nd (se_var (i := 5))))))))
  (ss_one (ss_ret hw (se_tup (sa_cons (se_var (i := 2)) (sa_cons (se_var (i := 3)) sa_nil))))))))))
theorem S_dying : FnScope N_dying ["children"] (defScope (top 61)) := ⟨rfl, rfl, rfl, by decide +kernel, rfl, by decide +kernel, by decide +kernel⟩
theorem hF_dying {f : Addr} {fd : FuncData} (F : FnP K "dying" (top 61) f fd) (hm : mg "dying" = some (.ref f)) (bl : ∀ x ∈ blt, mg x = none) (g_ONE : Glo K mg "ONE" c_ONE) (h_check_children : Has P w K mg base 6 "check_children" ["value"] m_check_children) (h_death_of : Has P w K mg base 7 "death_of" ["children"] m_death_of) (h_divide : Has P w K mg base 3 "divide" ["one", "late"] m_divide) (h_multiply : Has P w K mg base 3 "multiply" ["one", "late"] m_multiply) : HasF P w K mg base 8 "dying" ["children"] m_dying :=
  hasF_of (l := 7) (N := N_dying) F S_dying hm (F.bindsN fun _ _ _ _ _ _ us hl => match us, hl with | [_], _ => rfl) (fun W hw cdv A outer s H E hr =>
  (ss_cons (ss_expr (se_call (h_check_children.mono (by decide)) hr (sp_cons (se_var (i := 0)) sp_nil)))
  (ss_cons (ss_set (i := 1) S_dying.nd (se_call (h_death_of.mono (by decide)) hr (sp_cons (se_var (i := 0)) sp_nil)))
  (ss_cons (ss_if ((sw_or (st_cmp op_iss ok_is (se_var (i := 1)) se_non) (sw_or1 (st_cmp (op_eqD hr.r.units) ok_eq (se_ix (se_var (i := 1)) se_int) se_int)))).st (ss_one ss_never) ss_nil)
  (ss_cons (ss_parFE (i := 2) (j := 3) rfl S_dying.nd (sf_lst sa_nil) (se_call (h_divide.mono (by decide)) hr (sp_cons (se_glob g_ONE) (sp_cons (se_var (i := 1)) sp_nil))))
  (ss_cons (ss_for PassesOwn.never rfl (si_seq (se_var (i := 0))) (sg_n (i := 4) S_dying.nd) (ss_cons (ss_app (i := 2) (se_call (h_multiply.mono (by decide)) hr (sp_cons (se_var (i := 4)) (sp_cons (se_var (i := 3)) sp_nil))))
  (ss_one (ss_set (i := 3) S_dying.nd (se_call (h_multiply.mono (by decide)) hr (sp_cons (se_var (i := 3)) (sp_cons (se_var (i := 1)) sp_nil)))))))
  (ss_one (ss_retO (i := 2) hw))))))))
end
end Kp

namespace Kp
open PySem PySem.Spec PyProof.Rows L2 Dl
section
variable {P : Program} {w : World} {K : PySem.W.Frag} {mg : Str → Option Value} {base : Heap}
theorem S__law_pick : FnScope N__law_pick ["pot", "some"] (defScope (top 65)) := ⟨rfl, rfl, rfl, by decide +kernel, rfl, by decide +kernel, by decide +kernel⟩
theorem h__law_pick {f : Addr} {fd : FuncData} (F : FnP K "_law_pick" (top 65) f fd) (hm : mg "_law_pick" = some (.ref f)) (bl : ∀ x ∈ blt, mg x = none) (h__law_draw : Has P w K mg base 1 "_law_draw" ["pot", "many"] m__law_draw) : Has P w K mg base 2 "_law_pick" ["pot", "some"] m__law_pick :=
  has_of (l := 1) (N := N__law_pick) F S__law_pick hm (F.bindsN fun _ _ _ _ _ _ us hl => match us, hl with | [_, _], _ => rfl) (fun W hw cdv A outer s H E hr =>
  (ss_one (ss_ret hw (se_ix (se_var (i := 1)) (se_call (h__law_draw.mono (by decide)) hr (sp_pot (i := 0) (sp_cons (se_cb call_len_seq ok_len (bl "len" (by decide)) (sa_cons (se_var (i := 1)) sa_nil)) sp_nil)))))))
theorem S__law_plain : FnScope N__law_plain ["top", "bottom"] (defScope (top 67)) := ⟨rfl, rfl, rfl, by decide +kernel, rfl, by decide +kernel, by decide +kernel⟩
theorem h0__law_plain {f : Addr} {fd : FuncData} (F : FnP K "_law_plain" (top 67) f fd) (hm : mg "_law_plain" = some (.ref f)) (bl : ∀ x ∈ blt, mg x = none)  : Has P w K mg base 1 "_law_plain" ["top", "bottom"] m0__law_plain :=
  has_of (l := 0) (N := N__law_plain) F S__law_plain hm (F.bindsN fun _ _ _ _ _ _ us hl => match us, hl with | [_, _], _ => rfl) (fun W hw cdv A outer s H E hr =>
  (ss_cons (ss_par (i := 2) (j := 3) rfl S__law_plain.nd (sa_cons (se_cb call_abs ok_abs (bl "abs" (by decide)) (sa_cons (se_var (i := 0)) sa_nil)) (sa_cons (se_cb call_abs ok_abs (bl "abs" (by decide)) (sa_cons (se_var (i := 1)) sa_nil)) sa_nil)))
  (ss_cons (ss_wh 1000000 PassesOwn.never (st_cmp (op_neD hr.r.units) ok_ne (se_var (i := 3)) se_int) (ss_one (ss_par (i := 2) (j := 3) rfl S__law_plain.nd (sa_cons (se_var (i := 3)) (sa_cons (se_bin op_mod ok_mod (se_cty call_int1 ok_int (bl "int" (by decide)) (sa_cons (se_var (i := 2)) sa_nil)) (se_var (i := 3))) sa_nil)))))
  (ss_cons (ss_set (i := 4) S__law_plain.nd (se_if (st_cmp op_gt ok_I (se_var (i := 1)) se_int) se_int (se_un un_neg ok_neg se_int)))
  (ss_one (ss_ret hw (se_tup (sa_cons (se_bin op_fdivW ok_fdiv (se_bin op_muls ok_mul (se_var (i := 4)) (se_var (i := 0))) (se_var (i := 2))) (sa_cons (se_bin op_fdivW ok_fdiv (se_bin op_muls ok_mul (se_var (i := 4)) (se_var (i := 1))) (se_var (i := 2))) sa_nil)))))))))
theorem h__law_plain {f : Addr} {fd : FuncData} (F : FnP K "_law_plain" (top 67) f fd) (hm : mg "_law_plain" = some (.ref f)) (bl : ∀ x ∈ blt, mg x = none)  : Has P w K mg base 1 "_law_plain" ["top", "bottom"] m__law_plain :=
  (h0__law_plain F hm bl ).imp fun ds k h => le_plain ds k h
theorem S__law_plus : FnScope N__law_plus ["one", "late"] (defScope (top 68)) := ⟨rfl, rfl, rfl, by decide +kernel, rfl, by decide +kernel, by decide +kernel⟩
theorem h0__law_plus {f : Addr} {fd : FuncData} (F : FnP K "_law_plus" (top 68) f fd) (hm : mg "_law_plus" = some (.ref f)) (bl : ∀ x ∈ blt, mg x = none) (h__law_plain : Has P w K mg base 1 "_law_plain" ["top", "bottom"] m__law_plain) : Has P w K mg base 2 "_law_plus" ["one", "late"] m0__law_plus :=
  has_of (l := 1) (N := N__law_plus) F S__law_plus hm (F.bindsN fun _ _ _ _ _ _ us hl => match us, hl with | [_, _], _ => rfl) (fun W hw cdv A outer s H E hr =>
  (ss_one (ss_ret hw (se_call (h__law_plain.mono (by decide)) hr (sp_cons (se_bin op_adds ok_add (se_bin op_muls ok_mul (se_ix (se_var (i := 0)) se_int) (se_ix (se_var (i := 1)) se_int)) (se_bin op_muls ok_mul (se_ix (se_var (i := 1)) se_int) (se_ix (se_var (i := 0)) se_int))) (sp_cons (se_bin op_muls ok_mul (se_ix (se_var (i := 0)) se_int) (se_ix (se_var (i := 1)) se_int)) sp_nil))))))
theorem h__law_plus {f : Addr} {fd : FuncData} (F : FnP K "_law_plus" (top 68) f fd) (hm : mg "_law_plus" = some (.ref f)) (bl : ∀ x ∈ blt, mg x = none) (h__law_plain : Has P w K mg base 1 "_law_plain" ["top", "bottom"] m__law_plain) : Has P w K mg base 2 "_law_plus" ["one", "late"] m__law_plus :=
  (h0__law_plus F hm bl h__law_plain).imp fun ds k h => le_add m__law_plain ds k h
theorem S__law_times : FnScope N__law_times ["one", "late"] (defScope (top 69)) := ⟨rfl, rfl, rfl, by decide +kernel, rfl, by decide +kernel, by decide +kernel⟩
theorem h0__law_times {f : Addr} {fd : FuncData} (F : FnP K "_law_times" (top 69) f fd) (hm : mg "_law_times" = some (.ref f)) (bl : ∀ x ∈ blt, mg x = none) (h__law_plain : Has P w K mg base 1 "_law_plain" ["top", "bottom"] m__law_plain) : Has P w K mg base 2 "_law_times" ["one", "late"] m0__law_times :=
  has_of (l := 1) (N := N__law_times) F S__law_times hm (F.bindsN fun _ _ _ _ _ _ us hl => match us, hl with | [_, _], _ => rfl) (fun W hw cdv A outer s H E hr =>
  (ss_one (ss_ret hw (se_call (h__law_plain.mono (by decide)) hr (sp_cons (se_bin op_muls ok_mul (se_ix (se_var (i := 0)) se_int) (se_ix (se_var (i := 1)) se_int)) (sp_cons (se_bin op_muls ok_mul (se_ix (se_var (i := 0)) se_int) (se_ix (se_var (i := 1)) se_int)) sp_nil))))))
theorem h__law_times {f : Addr} {fd : FuncData} (F : FnP K "_law_times" (top 69) f fd) (hm : mg "_law_times" = some (.ref f)) (bl : ∀ x ∈ blt, mg x = none) (h__law_plain : Has P w K mg base 1 "_law_plain" ["top", "bottom"] m__law_plain) : Has P w K mg base 2 "_law_times" ["one", "late"] m__law_times :=
  (h0__law_times F hm bl h__law_plain).imp fun ds k h => le_mul m__law_plain ds k h
theorem S__law_total : FnScope N__law_total ["some"] (defScope (top 70)) := ⟨rfl, rfl, rfl, by decide +kernel, rfl, by decide +kernel, by decide +kernel⟩
theorem h__law_total {f : Addr} {fd : FuncData} (F : FnP K "_law_total" (top 70) f fd) (hm : mg "_law_total" = some (.ref f)) (bl : ∀ x ∈ blt, mg x = none) (h__law_plus : Has P w K mg base 2 "_law_plus" ["one", "late"] m__law_plus) : Has P w K mg base 3 "_law_total" ["some"] m__law_total :=
  has_of (l := 2) (N := N__law_total) F S__law_total hm (F.bindsN fun _ _ _ _ _ _ us hl => match us, hl with | [_], _ => rfl) (fun W hw cdv A outer s H E hr =>
  (ss_cons (ss_set (i := 1) S__law_total.nd (se_tup (sa_cons se_int (sa_cons se_int sa_nil))))
  (ss_cons (ss_for PassesOwn.never rfl (si_seq (se_var (i := 0))) (sg_n (i := 2) S__law_total.nd) (ss_one (ss_set (i := 1) S__law_total.nd (se_call (h__law_plus.mono (by decide)) hr (sp_cons (se_var (i := 1)) (sp_cons (se_var (i := 2)) sp_nil))))))
  (ss_one (ss_ret hw (se_var (i := 1)))))))
theorem S__law_below : FnScope N__law_below ["one", "late"] (defScope (top 73)) := ⟨rfl, rfl, rfl, by decide +kernel, rfl, by decide +kernel, by decide +kernel⟩
theorem h0__law_below {f : Addr} {fd : FuncData} (F : FnP K "_law_below" (top 73) f fd) (hm : mg "_law_below" = some (.ref f)) (bl : ∀ x ∈ blt, mg x = none)  : Has P w K mg base 1 "_law_below" ["one", "late"] m0__law_below :=
  has_of (l := 0) (N := N__law_below) F S__law_below hm (F.bindsN fun _ _ _ _ _ _ us hl => match us, hl with | [_, _], _ => rfl) (fun W hw cdv A outer s H E hr =>
  (ss_one (ss_ret hw (se_cmp op_lt ok_I (se_bin op_muls ok_mul (se_ix (se_var (i := 0)) se_int) (se_ix (se_var (i := 1)) se_int)) (se_bin op_muls ok_mul (se_ix (se_var (i := 1)) se_int) (se_ix (se_var (i := 0)) se_int))))))
theorem h__law_below {f : Addr} {fd : FuncData} (F : FnP K "_law_below" (top 73) f fd) (hm : mg "_law_below" = some (.ref f)) (bl : ∀ x ∈ blt, mg x = none)  : Has P w K mg base 1 "_law_below" ["one", "late"] m__law_below :=
  (h0__law_below F hm bl ).imp fun ds k h => le_below ds k h
theorem S__law_less : FnScope N__law_less ["one", "late"] (defScope (top 74)) := ⟨rfl, rfl, rfl, by decide +kernel, rfl, by decide +kernel, by decide +kernel⟩
theorem h__law_less {f : Addr} {fd : FuncData} (F : FnP K "_law_less" (top 74) f fd) (hm : mg "_law_less" = some (.ref f)) (bl : ∀ x ∈ blt, mg x = none) (h__law_plus : Has P w K mg base 2 "_law_plus" ["one", "late"] m__law_plus) : Has P w K mg base 3 "_law_less" ["one", "late"] m__law_less :=
  has_of (l := 2) (N := N__law_less) F S__law_less hm (F.bindsN fun _ _ _ _ _ _ us hl => match us, hl with | [_, _], _ => rfl) (fun W hw cdv A outer s H E hr =>
  (ss_one (ss_ret hw (se_call (h__law_plus.mono (by decide)) hr (sp_cons (se_var (i := 0)) (sp_cons (se_tup (sa_cons (se_bin op_subs ok_sub se_int (se_ix (se_var (i := 1)) se_int)) (sa_cons (se_ix (se_var (i := 1)) se_int) sa_nil))) sp_nil))))))
theorem S__law_share : FnScope N__law_share ["one", "late"] (defScope (top 75)) := ⟨rfl, rfl, rfl, by decide +kernel, rfl, by decide +kernel, by decide +kernel⟩
theorem h0__law_share {f : Addr} {fd : FuncData} (F : FnP K "_law_share" (top 75) f fd) (hm : mg "_law_share" = some (.ref f)) (bl : ∀ x ∈ blt, mg x = none) (h__law_plain : Has P w K mg base 1 "_law_plain" ["top", "bottom"] m__law_plain) : Has P w K mg base 2 "_law_share" ["one", "late"] m0__law_share :=
  has_of (l := 1) (N := N__law_share) F S__law_share hm (F.bindsN fun _ _ _ _ _ _ us hl => match us, hl with | [_, _], _ => rfl) (fun W hw cdv A outer s H E hr =>
  (ss_one (ss_ret hw (se_call (h__law_plain.mono (by decide)) hr (sp_cons (se_bin op_muls ok_mul (se_ix (se_var (i := 0)) se_int) (se_ix (se_var (i := 1)) se_int)) (sp_cons (se_bin op_muls ok_mul (se_ix (se_var (i := 0)) se_int) (se_ix (se_var (i := 1)) se_int)) sp_nil))))))
theorem h__law_share {f : Addr} {fd : FuncData} (F : FnP K "_law_share" (top 75) f fd) (hm : mg "_law_share" = some (.ref f)) (bl : ∀ x ∈ blt, mg x = none) (h__law_plain : Has P w K mg base 1 "_law_plain" ["top", "bottom"] m__law_plain) : Has P w K mg base 2 "_law_share" ["one", "late"] m__law_share :=
  (h0__law_share F hm bl h__law_plain).imp fun ds k h => le_div m__law_plain ds k h
theorem S__law_children : FnScope N__law_children ["pot"] (defScope (top 76)) := ⟨rfl, rfl, rfl, by decide +kernel, rfl, by decide +kernel, by decide +kernel⟩
theorem h__law_children {f : Addr} {fd : FuncData} (F : FnP K "_law_children" (top 76) f fd) (hm : mg "_law_children" = some (.ref f)) (bl : ∀ x ∈ blt, mg x = none) (h__law_draw : Has P w K mg base 1 "_law_draw" ["pot", "many"] m__law_draw) (h__law_pick : Has P w K mg base 2 "_law_pick" ["pot", "some"] m__law_pick) (h__law_plain : Has P w K mg base 1 "_law_plain" ["top", "bottom"] m__law_plain) : Has P w K mg base 3 "_law_children" ["pot"] m__law_children :=
  has_of (l := 2) (N := N__law_children) F S__law_children hm (F.bindsN fun _ _ _ _ _ _ us hl => match us, hl with | [_], _ => rfl) (fun W hw cdv A outer s H E hr =>
  (ss_cons (ss_own (i := 1) S__law_children.nd (sf_lc (own := [("at", 2)]) (vs := [2]) rfl S__law_children.nd (si_range1 (bl "range" (by decide)) (se_bin op_adds ok_add se_int (se_call (h__law_draw.mono (by decide)) hr (sp_pot (i := 0) (sp_cons se_int sp_nil))))) (blkOk_by (N := N__law_children) (sc := defScope (top 76)) (by decide +kernel)) (fun _ _ _ _ _ => (sg_n (i := 2) S__law_children.nd)) (fun _ _ _ _ _ => sts_nil) (fun _ _ _ _ _ => (se_call (h__law_pick.mono (by decide)) hr (sp_pot (i := 0) (sp_cons (se_lst (sa_cons se_int (sa_cons se_int (sa_cons se_int (sa_cons se_int (sa_cons se_int sa_nil)))))) sp_nil))))))
  (ss_cons (ss_if (st_bor [1] (st_cmp (op_eqD hr.r.units) ok_eq (se_cb (cr_sum2 rfl) ok_sum2 (bl "sum" (by decide)) (sa_cons (se_var (i := 1)) sa_nil)) se_int)) (ss_one (ss_setix (i := 1) se_int (se_bor [1] (se_call (h__law_draw.mono (by decide)) hr (sp_pot (i := 0) (sp_cons (se_cb call_len_seq ok_len (bl "len" (by decide)) (sa_cons (se_var (i := 1)) sa_nil)) sp_nil)))))) ss_nil)
  (ss_frz (i := 1) (ss_one (ss_ret hw (se_lc (own := [("part", 3)]) (vs := [3]) rfl S__law_children.nd (si_seq (se_var (i := 1))) (blkOk_by (N := N__law_children) (sc := defScope (top 76)) (by decide +kernel)) (fun _ _ _ _ _ => (sg_n (i := 3) S__law_children.nd)) (fun _ _ _ _ _ => sts_nil) (fun _ _ _ _ _ => (se_call (h__law_plain.mono (by decide)) hr (sp_cons (se_var (i := 3)) (sp_cons (se_cb (cr_sum2 rfl) ok_sum2 (bl "sum" (by decide)) (sa_cons (se_var (i := 1)) sa_nil)) sp_nil)))))))))))
theorem S__law_number : FnScope N__law_number ["children", "spot"] (defScope (top 77)) := ⟨rfl, rfl, rfl, by decide +kernel, rfl, by decide +kernel, by decide +kernel⟩
theorem h__law_number {f : Addr} {fd : FuncData} (F : FnP K "_law_number" (top 77) f fd) (hm : mg "_law_number" = some (.ref f)) (bl : ∀ x ∈ blt, mg x = none) (h__law_times : Has P w K mg base 2 "_law_times" ["one", "late"] m__law_times) (h__law_plus : Has P w K mg base 2 "_law_plus" ["one", "late"] m__law_plus) : Has P w K mg base 3 "_law_number" ["children", "spot"] m__law_number :=
  has_of (l := 2) (N := N__law_number) F S__law_number hm (F.bindsN fun _ _ _ _ _ _ us hl => match us, hl with | [_, _], _ => rfl) (fun W hw cdv A outer s H E hr =>
  (ss_cons (ss_asg (se_tup (sa_cons (se_tup (sa_cons se_int (sa_cons se_int sa_nil))) (sa_cons (se_tup (sa_cons se_int (sa_cons se_int sa_nil))) sa_nil))) (sg_t rfl (sgs_cons (sg_n (i := 2) S__law_number.nd) (sgs_cons (sg_n (i := 3) S__law_number.nd) sgs_nil))))
  (ss_cons (ss_for PassesOwn.never rfl (si_seq (se_var (i := 0))) (sg_n (i := 4) S__law_number.nd) (ss_cons (ss_set (i := 2) S__law_number.nd (se_call (h__law_plus.mono (by decide)) hr (sp_cons (se_var (i := 2)) (sp_cons (se_call (h__law_times.mono (by decide)) hr (sp_cons (se_var (i := 4)) (sp_cons (se_var (i := 3)) sp_nil))) sp_nil))))
  (ss_one (ss_set (i := 3) S__law_number.nd (se_call (h__law_times.mono (by decide)) hr (sp_cons (se_var (i := 3)) (sp_cons (se_var (i := 1)) sp_nil)))))))
  (ss_one (ss_ret hw (se_var (i := 2)))))))
theorem S__law_mean : FnScope N__law_mean ["children"] (defScope (top 78)) := ⟨rfl, rfl, rfl, by decide +kernel, rfl, by decide +kernel, by decide +kernel⟩
theorem h__law_mean {f : Addr} {fd : FuncData} (F : FnP K "_law_mean" (top 78) f fd) (hm : mg "_law_mean" = some (.ref f)) (bl : ∀ x ∈ blt, mg x = none) (h__law_times : Has P w K mg base 2 "_law_times" ["one", "late"] m__law_times) (h__law_total : Has P w K mg base 3 "_law_total" ["some"] m__law_total) : Has P w K mg base 4 "_law_mean" ["children"] m__law_mean :=
  has_of (l := 3) (N := N__law_mean) F S__law_mean hm (F.bindsN fun _ _ _ _ _ _ us hl => match us, hl with | [_], _ => rfl) (fun W hw cdv A outer s H E hr =>
  (ss_one (ss_ret hw (se_call (h__law_total.mono (by decide)) hr (sp_cons (se_lc (own := [("at", 1), ("one", 2)]) (vs := [1, 2]) rfl S__law_mean.nd (si_enumQ (bl "enumerate" (by decide)) (se_var (i := 0))) (blkOk_by (N := N__law_mean) (sc := defScope (top 78)) (by decide +kernel)) (fun _ _ _ _ _ => (sg_t rfl (sgs_cons (sg_n (i := 1) S__law_mean.nd) (sgs_cons (sg_n (i := 2) S__law_mean.nd) sgs_nil)))) (fun _ _ _ _ _ => sts_nil) (fun _ _ _ _ _ => (se_call (h__law_times.mono (by decide)) hr (sp_cons (se_var (i := 2)) (sp_cons (se_tup (sa_cons (se_var (i := 1)) (sa_cons se_int sa_nil))) sp_nil))))) sp_nil)))))
theorem S__law_is_sure : FnScope N__law_is_sure ["children"] (defScope (top 83)) := ⟨rfl, rfl, rfl, by decide +kernel, rfl, by decide +kernel, by decide +kernel⟩
theorem h__law_is_sure {f : Addr} {fd : FuncData} (F : FnP K "_law_is_sure" (top 83) f fd) (hm : mg "_law_is_sure" = some (.ref f)) (bl : ∀ x ∈ blt, mg x = none) (h__law_mean : Has P w K mg base 4 "_law_mean" ["children"] m__law_mean) (h__law_below : Has P w K mg base 1 "_law_below" ["one", "late"] m__law_below) : Has P w K mg base 5 "_law_is_sure" ["children"] m__law_is_sure :=
  has_of (l := 4) (N := N__law_is_sure) F S__law_is_sure hm (F.bindsN fun _ _ _ _ _ _ us hl => match us, hl with | [_], _ => rfl) (fun W hw cdv A outer s H E hr =>
  (ss_one (ss_ret hw (se_and (se_not (se_call (h__law_below.mono (by decide)) hr (sp_cons (se_tup (sa_cons se_int (sa_cons se_int sa_nil))) (sp_cons (se_call (h__law_mean.mono (by decide)) hr (sp_cons (se_var (i := 0)) sp_nil)) sp_nil)))) (se_one (se_cmp (op_neD hr.r.units) ok_ne (se_sl (se_var (i := 0)) (so_some se_int) (so_some se_int)) (se_lst (sa_cons (se_tup (sa_cons se_int (sa_cons se_int sa_nil))) sa_nil))))))))
theorem S__law_is_frac : FnScope N__law_is_frac ["value"] (defScope (top 84)) := ⟨rfl, rfl, rfl, by decide +kernel, rfl, by decide +kernel, by decide +kernel⟩
theorem h__law_is_frac {f : Addr} {fd : FuncData} (F : FnP K "_law_is_frac" (top 84) f fd) (hm : mg "_law_is_frac" = some (.ref f)) (bl : ∀ x ∈ blt, mg x = none) (h__law_plain : Has P w K mg base 1 "_law_plain" ["top", "bottom"] m__law_plain) : Has P w K mg base 2 "_law_is_frac" ["value"] m__law_is_frac :=
  has_of (l := 1) (N := N__law_is_frac) F S__law_is_frac hm (F.bindsN fun _ _ _ _ _ _ us hl => match us, hl with | [_], _ => rfl) (fun W hw cdv A outer s H E hr =>
  (ss_cons (ss_if ((sw_or (st_not (st_val (se_is .tuple (bl "isinstance" (by decide)) (bl "tuple" (by decide)) (se_var (i := 0))))) (sw_or (st_cmp (op_neD hr.r.units) ok_ne (se_cb call_len_seq ok_len (bl "len" (by decide)) (sa_cons (se_var (i := 0)) sa_nil)) se_int) (sw_or1 (st_not (st_val (se_cb (cr_all rfl) ok_all (bl "all" (by decide)) (sa_cons (se_lc (own := [("one", 1)]) (vs := [1]) rfl S__law_is_frac.nd (si_seq (se_var (i := 0))) (blkOk_by (N := N__law_is_frac) (sc := defScope (top 84)) (by decide +kernel)) (fun _ _ _ _ _ => (sg_n (i := 1) S__law_is_frac.nd)) (fun _ _ _ _ _ => sts_nil) (fun _ _ _ _ _ => (se_and (se_is .int (bl "isinstance" (by decide)) (bl "int" (by decide)) (se_var (i := 1))) (se_one (se_not (se_is .bool (bl "isinstance" (by decide)) (bl "bool" (by decide)) (se_var (i := 1)))))))) sa_nil)))))))).st (ss_one (ss_ret hw se_bl)) ss_nil)
  (ss_one (ss_ret hw (se_and (se_cmp op_gt ok_I (se_ix (se_var (i := 0)) se_int) se_int) (se_one (se_cmp (op_eqD hr.r.units) ok_eq (se_call (h__law_plain.mono (by decide)) hr (sp_cons (se_ix (se_var (i := 0)) se_int) (sp_cons (se_ix (se_var (i := 0)) se_int) sp_nil))) (se_var (i := 0)))))))))
theorem S__law_is_live : FnScope N__law_is_live ["children", "value"] (defScope (top 85)) := ⟨rfl, rfl, rfl, by decide +kernel, rfl, by decide +kernel, by decide +kernel⟩
theorem h__law_is_live {f : Addr} {fd : FuncData} (F : FnP K "_law_is_live" (top 85) f fd) (hm : mg "_law_is_live" = some (.ref f)) (bl : ∀ x ∈ blt, mg x = none) (h__law_is_frac : Has P w K mg base 2 "_law_is_frac" ["value"] m__law_is_frac) (h__law_below : Has P w K mg base 1 "_law_below" ["one", "late"] m__law_below) (h__law_number : Has P w K mg base 3 "_law_number" ["children", "spot"] m__law_number) : Has P w K mg base 4 "_law_is_live" ["children", "value"] m__law_is_live :=
  has_of (l := 3) (N := N__law_is_live) F S__law_is_live hm (F.bindsN fun _ _ _ _ _ _ us hl => match us, hl with | [_, _], _ => rfl) (fun W hw cdv A outer s H E hr =>
  (ss_one (ss_ret hw (se_and (se_call (h__law_is_frac.mono (by decide)) hr (sp_cons (se_var (i := 1)) sp_nil)) (se_and (se_cmp op_ge ok_I (se_ix (se_var (i := 1)) se_int) se_int) (se_and (se_call (h__law_below.mono (by decide)) hr (sp_cons (se_var (i := 1)) (sp_cons (se_tup (sa_cons se_int (sa_cons se_int sa_nil))) sp_nil))) (se_one (se_not (se_call (h__law_below.mono (by decide)) hr (sp_cons (se_var (i := 1)) (sp_cons (se_call (h__law_number.mono (by decide)) hr (sp_cons (se_var (i := 0)) (sp_cons (se_var (i := 1)) sp_nil))) sp_nil)))))))))))
theorem S__law_between_right : FnScope N__law_between_right ["children", "root"] (defScope (top 86)) := ⟨rfl, rfl, rfl, by decide +kernel, rfl, by decide +kernel, by decide +kernel⟩
theorem h__law_between_right {f : Addr} {fd : FuncData} (F : FnP K "_law_between_right" (top 86) f fd) (hm : mg "_law_between_right" = some (.ref f)) (bl : ∀ x ∈ blt, mg x = none) (h_death_between : Has P w K mg base 7 "death_between" ["children", "many"] m_death_between) (h__law_below : Has P w K mg base 1 "_law_below" ["one", "late"] m__law_below) (h__law_plus : Has P w K mg base 2 "_law_plus" ["one", "late"] m__law_plus) (h__law_times : Has P w K mg base 2 "_law_times" ["one", "late"] m__law_times) (h__law_number : Has P w K mg base 3 "_law_number" ["children", "spot"] m__law_number) (h__law_less : Has P w K mg base 3 "_law_less" ["one", "late"] m__law_less) (h_death_between_k10 : HasK P w K mg base 7 "death_between" ["children", "many"] m_death_between ["many", "children"] [1, 0]) : Has P w K mg base 8 "_law_between_right" ["children", "root"] m__law_between_right :=
  has_of (l := 7) (N := N__law_between_right) F S__law_between_right hm (F.bindsN fun _ _ _ _ _ _ us hl => match us, hl with | [_, _], _ => rfl) (fun W hw cdv A outer s H E hr =>
  (ss_cons (ss_asg (se_tup (sa_cons (se_tup (sa_cons se_int (sa_cons se_int sa_nil))) (sa_cons (se_tup (sa_cons se_int (sa_cons se_int sa_nil))) sa_nil))) (sg_t rfl (sgs_cons (sg_n (i := 2) S__law_between_right.nd) (sgs_cons (sg_n (i := 3) S__law_between_right.nd) sgs_nil))))
  (ss_cons (ss_for PassesOwn.never rfl (si_range1 (bl "range" (by decide)) se_int) (sg_n (i := 4) S__law_between_right.nd) (ss_cons (ss_if (st_reprNe hr (bl "repr" (by decide)) (se_lst (sa_cons (se_call (h_death_between.mono (by decide)) hr (sp_cons (se_var (i := 0)) (sp_cons (se_var (i := 4)) sp_nil))) (sa_cons (se_callk (h_death_between_k10.mono (by decide)) hr (sk_cons (se_var (i := 4)) (sk_cons (se_var (i := 0)) sk_nil))) sa_nil))) (se_bin op_muls ok_mul (se_lst (sa_cons (se_tup (sa_cons (se_var (i := 2)) (sa_cons (se_var (i := 3)) sa_nil))) sa_nil)) se_int)) (ss_one (ss_ret hw se_bl)) ss_nil)
  (ss_cons (ss_if ((sw_and (st_cmp op_nots ok_isNot (se_var (i := 1)) se_non) (sw_and1 ((sw_or (st_val (se_call (h__law_below.mono (by decide)) hr (sp_cons (se_var (i := 1)) (sp_cons (se_var (i := 2)) sp_nil)))) (sw_or1 (st_val (se_call (h__law_below.mono (by decide)) hr (sp_cons (se_var (i := 3)) (sp_cons (se_var (i := 1)) sp_nil))))))).st))).st (ss_one (ss_ret hw se_bl)) ss_nil)
  (ss_cons (ss_set (i := 5) S__law_between_right.nd (se_call (h__law_times.mono (by decide)) hr (sp_cons (se_call (h__law_plus.mono (by decide)) hr (sp_cons (se_var (i := 2)) (sp_cons (se_var (i := 3)) sp_nil))) (sp_cons (se_tup (sa_cons se_int (sa_cons se_int sa_nil))) sp_nil))))
  (ss_one (ss_if (st_val (se_call (h__law_below.mono (by decide)) hr (sp_cons (se_var (i := 5)) (sp_cons (se_call (h__law_number.mono (by decide)) hr (sp_cons (se_var (i := 0)) (sp_cons (se_var (i := 5)) sp_nil))) sp_nil)))) (ss_one (ss_set (i := 2) S__law_between_right.nd (se_var (i := 5)))) (ss_one (ss_set (i := 3) S__law_between_right.nd (se_var (i := 5))))))))))
  (ss_cons (ss_asg (se_call (h_death_between.mono (by decide)) hr (sp_cons (se_var (i := 0)) (sp_cons se_int sp_nil))) (sg_t rfl (sgs_cons (sg_n (i := 6) S__law_between_right.nd) (sgs_cons (sg_n (i := 7) S__law_between_right.nd) sgs_nil))))
  (ss_one (ss_ret hw (se_cmp (op_eqD hr.r.units) ok_eq (se_call (h__law_less.mono (by decide)) hr (sp_cons (se_var (i := 7)) (sp_cons (se_var (i := 6)) sp_nil))) (se_tup (sa_cons se_int (sa_cons (se_bin op_pow ok_pow se_int se_int) sa_nil))))))))))
theorem S__law_power : FnScope N__law_power ["one", "many"] (defScope (top 88)) := ⟨rfl, rfl, rfl, by decide +kernel, rfl, by decide +kernel, by decide +kernel⟩
theorem h__law_power {f : Addr} {fd : FuncData} (F : FnP K "_law_power" (top 88) f fd) (hm : mg "_law_power" = some (.ref f)) (bl : ∀ x ∈ blt, mg x = none) (h__law_times : Has P w K mg base 2 "_law_times" ["one", "late"] m__law_times) : Has P w K mg base 3 "_law_power" ["one", "many"] m__law_power :=
  has_of (l := 2) (N := N__law_power) F S__law_power hm (F.bindsN fun _ _ _ _ _ _ us hl => match us, hl with | [_, _], _ => rfl) (fun W hw cdv A outer s H E hr =>
  (ss_cons (ss_set (i := 2) S__law_power.nd (se_tup (sa_cons se_int (sa_cons se_int sa_nil))))
  (ss_cons (ss_for PassesOwn.never rfl (si_range1 (bl "range" (by decide)) (se_var (i := 1))) (sg_n (i := 3) S__law_power.nd) (ss_one (ss_set (i := 2) S__law_power.nd (se_call (h__law_times.mono (by decide)) hr (sp_cons (se_var (i := 2)) (sp_cons (se_var (i := 0)) sp_nil))))))
  (ss_one (ss_ret hw (se_var (i := 2)))))))
theorem S__law_dying_right : FnScope N__law_dying_right ["children", "root"] (defScope (top 87)) := ⟨rfl, rfl, rfl, by decide +kernel, rfl, by decide +kernel, by decide +kernel⟩
theorem h__law_dying_right {f : Addr} {fd : FuncData} (F : FnP K "_law_dying_right" (top 87) f fd) (hm : mg "_law_dying_right" = some (.ref f)) (bl : ∀ x ∈ blt, mg x = none) (h__law_power : Has P w K mg base 3 "_law_power" ["one", "many"] m__law_power) (h__law_times : Has P w K mg base 2 "_law_times" ["one", "late"] m__law_times) (h__law_share : Has P w K mg base 2 "_law_share" ["one", "late"] m__law_share) (h_are_children : Has P w K mg base 6 "are_children" ["value"] m_are_children) (h_dying : Has P w K mg base 8 "dying" ["children"] m_dying) (h_dies_surely : Has P w K mg base 7 "dies_surely" ["children"] m_dies_surely) (hF_dying : HasF P w K mg base 8 "dying" ["children"] m_dying) (h_dying_k0 : HasK P w K mg base 8 "dying" ["children"] m_dying ["children"] [0]) : Has P w K mg base 9 "_law_dying_right" ["children", "root"] m__law_dying_right :=
  has_of (l := 8) (N := N__law_dying_right) F S__law_dying_right hm (F.bindsN fun _ _ _ _ _ _ us hl => match us, hl with | [_, _], _ => rfl) (fun W hw cdv A outer s H E hr =>
  (ss_cons (ss_setlc (se_setlc (i := 2) (own := [("at", 4), ("one", 5)]) (vs := [4, 5]) rfl S__law_dying_right.nd rfl rfl (sw_true rfl rfl rfl (by decide +kernel)) (si_enumQ (bl "enumerate" (by decide)) (se_var (i := 0))) (blkOk_by (N := N__law_dying_right) (sc := defScope (top 87)) (by decide +kernel)) (fun _ _ _ _ _ => (sg_t rfl (sgs_cons (sg_n (i := 4) S__law_dying_right.nd) (sgs_cons (sg_n (i := 5) S__law_dying_right.nd) sgs_nil)))) (fun _ _ _ _ _ => sts_nil) (fun _ _ _ _ _ => (se_call (h__law_times.mono (by decide)) hr (sp_cons (se_var (i := 5)) (sp_cons (se_call (h__law_power.mono (by decide)) hr (sp_cons (se_var (i := 1)) (sp_cons (se_var (i := 4)) sp_nil))) sp_nil))))))
  (ss_cons (ss_setlc (se_setlc (i := 2) (own := [("one", 5)]) (vs := [5]) rfl S__law_dying_right.nd rfl rfl (sw_true rfl rfl rfl (by decide +kernel)) (si_seq (se_var (i := 2))) (blkOk_by (N := N__law_dying_right) (sc := defScope (top 87)) (by decide +kernel)) (fun _ _ _ _ _ => (sg_n (i := 5) S__law_dying_right.nd)) (fun _ _ _ _ _ => sts_nil) (fun _ _ _ _ _ => (se_call (h__law_share.mono (by decide)) hr (sp_cons (se_var (i := 5)) (sp_cons (se_var (i := 1)) sp_nil))))))
  (ss_cons (ss_own (i := 3) S__law_dying_right.nd (sf_call (hF_dying.mono (by decide)) hr (sp_cons (se_var (i := 0)) sp_nil)))
  (ss_cons (ss_if (st_bor [3] ((sw_or (st_reprNe hr (bl "repr" (by decide)) (se_lst (sa_cons (se_var (i := 3)) (sa_cons (se_callk (h_dying_k0.mono (by decide)) hr (sk_cons (se_cty call_tuple_of ok_tuple (bl "tuple" (by decide)) (sa_cons (se_var (i := 0)) sa_nil)) sk_nil)) sa_nil))) (se_lst (sa_cons (se_var (i := 2)) (sa_cons (se_var (i := 2)) sa_nil)))) (sw_or1 (st_cmp op_nots ok_isNot (se_call (h_are_children.mono (by decide)) hr (sp_cons (se_var (i := 3)) sp_nil)) se_bl)))).st) (ss_one (ss_ret hw se_bl)) ss_nil)
  (ss_cons (ss_app (i := 3) se_non)
  (ss_cons (ss_if ((sw_or (st_reprNe hr (bl "repr" (by decide)) (se_call (h_dying.mono (by decide)) hr (sp_cons (se_var (i := 0)) sp_nil)) (se_var (i := 2))) (sw_or1 (st_not (st_val (se_cb (cr_all rfl) ok_all (bl "all" (by decide)) (sa_cons (se_lc (own := [("one", 5)]) (vs := [5]) rfl S__law_dying_right.nd (si_seq (se_var (i := 2))) (blkOk_by (N := N__law_dying_right) (sc := defScope (top 87)) (by decide +kernel)) (fun _ _ _ _ _ => (sg_n (i := 5) S__law_dying_right.nd)) (fun _ _ _ _ _ => sts_nil) (fun _ _ _ _ _ => (se_cmp op_lt ok_I (se_ix (se_var (i := 5)) se_int) (se_bin op_pow ok_pow se_int se_int)))) sa_nil))))))).st (ss_one (ss_ret hw (se_reprEq hr (bl "repr" (by decide)) (se_call (h_dying.mono (by decide)) hr (sp_cons (se_var (i := 0)) sp_nil)) (se_var (i := 2))))) ss_nil)
  (ss_one (ss_ret hw (se_and (se_cmp op_iss ok_is (se_call (h_dies_surely.mono (by decide)) hr (sp_cons (se_var (i := 2)) sp_nil)) se_bl) (se_one (se_cmp (op_eqD hr.r.units) ok_eq (se_call (h_dying.mono (by decide)) hr (sp_cons (se_var (i := 2)) sp_nil)) (se_var (i := 2))))))))))))))
theorem S__law_one_right : FnScope N__law_one_right ["children"] (defScope (top 89)) := ⟨rfl, rfl, rfl, by decide +kernel, rfl, by decide +kernel, by decide +kernel⟩
theorem h__law_one_right {f : Addr} {fd : FuncData} (F : FnP K "_law_one_right" (top 89) f fd) (hm : mg "_law_one_right" = some (.ref f)) (bl : ∀ x ∈ blt, mg x = none) (h_dead_by : Has P w K mg base 7 "dead_by" ["children", "many"] m_dead_by) (h_size_chances : Has P w K mg base 7 "size_chances" ["children", "many"] m_size_chances) (h__law_number : Has P w K mg base 3 "_law_number" ["children", "spot"] m__law_number) (h__law_below : Has P w K mg base 1 "_law_below" ["one", "late"] m__law_below) (h__law_is_sure : Has P w K mg base 5 "_law_is_sure" ["children"] m__law_is_sure) (h_dies_surely : Has P w K mg base 7 "dies_surely" ["children"] m_dies_surely) (h_child_mean : Has P w K mg base 7 "child_mean" ["children"] m_child_mean) (h_live_paper : Has P w K mg base 7 "live_paper" ["children"] m_live_paper) (h__law_is_live : Has P w K mg base 4 "_law_is_live" ["children", "value"] m__law_is_live) (h_is_live_paper : Has P w K mg base 7 "is_live_paper" ["children", "value"] m_is_live_paper) (h_death_chance : Has P w K mg base 8 "death_chance" ["children"] m_death_chance) (h__law_times : Has P w K mg base 2 "_law_times" ["one", "late"] m__law_times) (h__law_dying_right : Has P w K mg base 9 "_law_dying_right" ["children", "root"] m__law_dying_right) (h__law_between_right : Has P w K mg base 8 "_law_between_right" ["children", "root"] m__law_between_right) (h_dead_by_k10 : HasK P w K mg base 7 "dead_by" ["children", "many"] m_dead_by ["many", "children"] [1, 0]) (h_dies_surely_k0 : HasK P w K mg base 7 "dies_surely" ["children"] m_dies_surely ["children"] [0]) (h_live_paper_k0 : HasK P w K mg base 7 "live_paper" ["children"] m_live_paper ["children"] [0]) (h_death_chance_k0 : HasK P w K mg base 8 "death_chance" ["children"] m_death_chance ["children"] [0]) : Has P w K mg base 10 "_law_one_right" ["children"] m__law_one_right :=
  has_of (l := 9) (N := N__law_one_right) F S__law_one_right hm (F.bindsN fun _ _ _ _ _ _ us hl => match us, hl with | [_], _ => rfl) (fun W hw cdv A outer s H E hr =>
  (ss_cons (ss_par (i := 1) (j := 2) rfl S__law_one_right.nd (sa_cons (se_repr hr (bl "repr" (by decide)) (sa_cons (se_var (i := 0)) sa_nil)) (sa_cons (se_tup (sa_cons se_int (sa_cons se_int sa_nil))) sa_nil)))
  (ss_cons (ss_for PassesOwn.never rfl (si_range1 (bl "range" (by decide)) se_int) (sg_n (i := 3) S__law_one_right.nd) (ss_cons (ss_if (st_reprNe hr (bl "repr" (by decide)) (se_lst (sa_cons (se_call (h_dead_by.mono (by decide)) hr (sp_cons (se_var (i := 0)) (sp_cons (se_var (i := 3)) sp_nil))) (sa_cons (se_callk (h_dead_by_k10.mono (by decide)) hr (sk_cons (se_var (i := 3)) (sk_cons (se_cty call_tuple_of ok_tuple (bl "tuple" (by decide)) (sa_cons (se_var (i := 0)) sa_nil)) sk_nil))) sa_nil))) (se_lst (sa_cons (se_var (i := 2)) (sa_cons (se_var (i := 2)) sa_nil)))) (ss_one (ss_ret hw se_bl)) ss_nil)
  (ss_cons (ss_if ((sw_and (st_cmp op_lt ok_I (se_var (i := 3)) se_int) (sw_and1 (st_cmp (op_neD hr.r.units) ok_ne (se_ix (se_call (h_size_chances.mono (by decide)) hr (sp_cons (se_var (i := 0)) (sp_cons (se_cb (call_min2 rfl) ok_min2 (bl "min" (by decide)) (sa_cons (se_var (i := 3)) (sa_cons se_int sa_nil))) sp_nil))) se_int) (se_if (st_cmp op_lt ok_I (se_var (i := 3)) se_int) (se_var (i := 2)) se_non))))).st (ss_one (ss_ret hw se_bl)) ss_nil)
  (ss_cons (ss_set (i := 4) S__law_one_right.nd (se_call (h__law_number.mono (by decide)) hr (sp_cons (se_var (i := 0)) (sp_cons (se_var (i := 2)) sp_nil))))
  (ss_cons (ss_if (st_val (se_call (h__law_below.mono (by decide)) hr (sp_cons (se_var (i := 4)) (sp_cons (se_var (i := 2)) sp_nil)))) (ss_one (ss_ret hw se_bl)) ss_nil)
  (ss_one (ss_set (i := 2) S__law_one_right.nd (se_var (i := 4)))))))))
  (ss_cons (ss_set (i := 5) S__law_one_right.nd (se_call (h__law_is_sure.mono (by decide)) hr (sp_cons (se_var (i := 0)) sp_nil)))
  (ss_cons (ss_if ((sw_or (st_reprNe hr (bl "repr" (by decide)) (se_lst (sa_cons (se_call (h_dies_surely.mono (by decide)) hr (sp_cons (se_var (i := 0)) sp_nil)) (sa_cons (se_callk (h_dies_surely_k0.mono (by decide)) hr (sk_cons (se_var (i := 0)) sk_nil)) sa_nil))) (se_lst (sa_cons (se_var (i := 5)) (sa_cons (se_var (i := 5)) sa_nil)))) (sw_or1 ((sw_and (st_val (se_call (h__law_below.mono (by decide)) hr (sp_cons (se_tup (sa_cons se_int (sa_cons se_int sa_nil))) (sp_cons (se_call (h_child_mean.mono (by decide)) hr (sp_cons (se_var (i := 0)) sp_nil)) sp_nil)))) (sw_and1 (st_val (se_var (i := 5)))))).st))).st (ss_one (ss_ret hw se_bl)) ss_nil)
  (ss_cons (ss_for PassesOwn.never rfl (si_seq (se_lst (sa_cons (se_call (h_live_paper.mono (by decide)) hr (sp_cons (se_var (i := 0)) sp_nil)) (sa_cons (se_callk (h_live_paper_k0.mono (by decide)) hr (sk_cons (se_cty call_tuple_of ok_tuple (bl "tuple" (by decide)) (sa_cons (se_var (i := 0)) sa_nil)) sk_nil)) sa_nil)))) (sg_n (i := 6) S__law_one_right.nd) (ss_one (ss_if ((sw_or (st_cmp (op_neD hr.r.units) ok_ne (se_cmp op_iss ok_is (se_var (i := 6)) se_non) (se_var (i := 5))) (sw_or1 ((sw_and (st_cmp op_nots ok_isNot (se_var (i := 6)) se_non) (sw_and1 ((sw_or (st_not (st_val (se_call (h__law_is_live.mono (by decide)) hr (sp_cons (se_var (i := 0)) (sp_cons (se_var (i := 6)) sp_nil))))) (sw_or1 (st_cmp op_nots ok_isNot (se_call (h_is_live_paper.mono (by decide)) hr (sp_cons (se_var (i := 0)) (sp_cons (se_var (i := 6)) sp_nil))) se_bl)))).st))).st))).st (ss_one (ss_ret hw se_bl)) ss_nil)))
  (ss_cons (ss_set (i := 7) S__law_one_right.nd (se_call (h_death_chance.mono (by decide)) hr (sp_cons (se_var (i := 0)) sp_nil)))
  (ss_cons (ss_if ((sw_or (st_reprNe hr (bl "repr" (by decide)) (se_callk (h_death_chance_k0.mono (by decide)) hr (sk_cons (se_cty call_tuple_of ok_tuple (bl "tuple" (by decide)) (sa_cons (se_var (i := 0)) sa_nil)) sk_nil)) (se_var (i := 7))) (sw_or ((sw_and (st_val (se_var (i := 5))) (sw_and1 (st_cmp (op_neD hr.r.units) ok_ne (se_var (i := 7)) (se_tup (sa_cons se_int (sa_cons se_int sa_nil))))))).st (sw_or1 ((sw_and (st_cmp op_iss ok_is (se_var (i := 7)) se_non) (sw_and1 (st_cmp (op_eqD hr.r.units) ok_eq (se_ix (se_var (i := 0)) se_int) (se_tup (sa_cons se_int (sa_cons se_int sa_nil))))))).st)))).st (ss_one (ss_ret hw se_bl)) ss_nil)
  (ss_cons (ss_if ((sw_and (st_cmp op_nots ok_isNot (se_var (i := 7)) se_non) (sw_and1 ((sw_or (st_cmp (op_neD hr.r.units) ok_ne (se_call (h__law_number.mono (by decide)) hr (sp_cons (se_var (i := 0)) (sp_cons (se_var (i := 7)) sp_nil))) (se_var (i := 7))) (sw_or1 ((sw_and (st_not (st_val (se_var (i := 5)))) (sw_and1 (st_cmp op_nots ok_isNot (se_call (h_is_live_paper.mono (by decide)) hr (sp_cons (se_var (i := 0)) (sp_cons (se_var (i := 7)) sp_nil))) se_bl)))).st))).st))).st (ss_one (ss_ret hw se_bl)) ss_nil)
  (ss_cons (ss_if ((sw_and (st_cmp op_nots ok_isNot (se_var (i := 7)) se_non) (sw_and1 (st_cmp op_gt ok_I (se_ix (se_var (i := 7)) se_int) se_int)))).st (ss_cons (ss_set (i := 8) S__law_one_right.nd (se_call (h__law_times.mono (by decide)) hr (sp_cons (se_var (i := 7)) (sp_cons (se_tup (sa_cons se_int (sa_cons se_int sa_nil))) sp_nil))))
  (ss_cons (ss_if ((sw_or (st_cmp op_nots ok_isNot (se_call (h_is_live_paper.mono (by decide)) hr (sp_cons (se_var (i := 0)) (sp_cons (se_var (i := 8)) sp_nil))) se_bl) (sw_or1 (st_val (se_call (h__law_below.mono (by decide)) hr (sp_cons (se_var (i := 7)) (sp_cons (se_var (i := 2)) sp_nil))))))).st (ss_one (ss_ret hw se_bl)) ss_nil)
  (ss_one (ss_if (st_not (st_val (se_call (h__law_dying_right.mono (by decide)) hr (sp_cons (se_var (i := 0)) (sp_cons (se_var (i := 7)) sp_nil))))) (ss_one (ss_ret hw se_bl)) ss_nil)))) ss_nil)
  (ss_one (ss_ret hw (se_and (se_call (h__law_between_right.mono (by decide)) hr (sp_cons (se_var (i := 0)) (sp_cons (se_var (i := 7)) sp_nil))) (se_one (se_cmp (op_eqD hr.r.units) ok_eq (se_repr hr (bl "repr" (by decide)) (sa_cons (se_var (i := 0)) sa_nil)) (se_var (i := 1)))))))))))))))))
theorem S__law_known_right : FnScope N__law_known_right ["pot"] (defScope (top 90)) := ⟨rfl, rfl, rfl, by decide +kernel, rfl, by decide +kernel, by decide +kernel⟩
theorem h__law_known_right {f : Addr} {fd : FuncData} (F : FnP K "_law_known_right" (top 90) f fd) (hm : mg "_law_known_right" = some (.ref f)) (bl : ∀ x ∈ blt, mg x = none) (h__law_draw : Has P w K mg base 1 "_law_draw" ["pot", "many"] m__law_draw) (h__law_plain : Has P w K mg base 1 "_law_plain" ["top", "bottom"] m__law_plain) (h__law_pick : Has P w K mg base 2 "_law_pick" ["pot", "some"] m__law_pick) (h__law_less : Has P w K mg base 3 "_law_less" ["one", "late"] m__law_less) (h__law_times : Has P w K mg base 2 "_law_times" ["one", "late"] m__law_times) (h__law_plus : Has P w K mg base 2 "_law_plus" ["one", "late"] m__law_plus) (h_death_chance : Has P w K mg base 8 "death_chance" ["children"] m_death_chance) (h_dies_surely : Has P w K mg base 7 "dies_surely" ["children"] m_dies_surely) (h_number_at : Has P w K mg base 7 "number_at" ["children", "fraction"] m_number_at) (h__law_one_right : Has P w K mg base 10 "_law_one_right" ["children"] m__law_one_right) (h_dying : Has P w K mg base 8 "dying" ["children"] m_dying) : Has P w K mg base 11 "_law_known_right" ["pot"] m__law_known_right :=
  has_of (l := 10) (N := N__law_known_right) F S__law_known_right hm (F.bindsN fun _ _ _ _ _ _ us hl => match us, hl with | [_], _ => rfl) (fun W hw cdv A outer s H E hr =>
  (ss_cons (ss_set (i := 1) S__law_known_right.nd (se_bin op_adds ok_add se_int (se_call (h__law_draw.mono (by decide)) hr (sp_pot (i := 0) (sp_cons se_int sp_nil)))))
  (ss_cons (ss_set (i := 2) S__law_known_right.nd (se_bin op_adds ok_add se_int (se_call (h__law_draw.mono (by decide)) hr (sp_pot (i := 0) (sp_cons (se_bin op_subs ok_sub (se_var (i := 1)) se_int) sp_nil)))))
  (ss_cons (ss_set (i := 3) S__law_known_right.nd (se_lst (sa_cons (se_call (h__law_plain.mono (by decide)) hr (sp_cons (se_var (i := 2)) (sp_cons (se_bin op_adds ok_add (se_var (i := 2)) (se_var (i := 1))) sp_nil))) (sa_cons (se_tup (sa_cons se_int (sa_cons se_int sa_nil))) (sa_cons (se_call (h__law_plain.mono (by decide)) hr (sp_cons (se_var (i := 1)) (sp_cons (se_bin op_adds ok_add (se_var (i := 2)) (se_var (i := 1))) sp_nil))) sa_nil)))))
  (ss_cons (ss_set (i := 4) S__law_known_right.nd (se_call (h__law_pick.mono (by decide)) hr (sp_pot (i := 0) (sp_cons (se_lst (sa_cons (se_tup (sa_cons se_int (sa_cons se_int sa_nil))) (sa_cons (se_tup (sa_cons se_int (sa_cons se_int sa_nil))) (sa_cons (se_tup (sa_cons se_int (sa_cons se_int sa_nil))) sa_nil)))) sp_nil))))
  (ss_cons (ss_ownlc (sf_setlc (i := 5) (own := [("one", 8)]) (vs := [8]) rfl S__law_known_right.nd rfl rfl (sw_true rfl rfl rfl (by decide +kernel)) (si_seq (se_var (i := 3))) (blkOk_by (N := N__law_known_right) (sc := defScope (top 90)) (by decide +kernel)) (fun _ _ _ _ _ => (sg_n (i := 8) S__law_known_right.nd)) (fun _ _ _ _ _ => sts_nil) (fun _ _ _ _ _ => (se_call (h__law_times.mono (by decide)) hr (sp_cons (se_var (i := 8)) (sp_cons (se_call (h__law_less.mono (by decide)) hr (sp_cons (se_tup (sa_cons se_int (sa_cons se_int sa_nil))) (sp_cons (se_var (i := 4)) sp_nil))) sp_nil))))))
  (ss_cons (ss_setix (i := 5) (se_bor [5] (se_call (h__law_plus.mono (by decide)) hr (sp_cons (se_ix (se_var (i := 5)) se_int) (sp_cons (se_var (i := 4)) sp_nil)))) se_int)
  (ss_cons (ss_set (i := 6) S__law_known_right.nd (se_call (h__law_plain.mono (by decide)) hr (sp_cons (se_var (i := 2)) (sp_cons (se_var (i := 1)) sp_nil))))
  (ss_frz (i := 5) (ss_cons (ss_for PassesOwn.never rfl (si_seq (se_lst (sa_cons (se_var (i := 3)) (sa_cons (se_var (i := 5)) sa_nil)))) (sg_n (i := 7) S__law_known_right.nd) (ss_one (ss_if ((sw_or (st_cmp (op_neD hr.r.units) ok_ne (se_call (h_death_chance.mono (by decide)) hr (sp_cons (se_var (i := 7)) sp_nil)) (se_var (i := 6))) (sw_or (st_cmp op_nots ok_isNot (se_call (h_dies_surely.mono (by decide)) hr (sp_cons (se_var (i := 7)) sp_nil)) se_bl) (sw_or (st_cmp (op_neD hr.r.units) ok_ne (se_call (h_number_at.mono (by decide)) hr (sp_cons (se_var (i := 7)) (sp_cons (se_var (i := 6)) sp_nil))) (se_var (i := 6))) (sw_or1 (st_not (st_val (se_call (h__law_one_right.mono (by decide)) hr (sp_cons (se_var (i := 7)) sp_nil))))))))).st (ss_one (ss_ret hw se_bl)) ss_nil)))
  (ss_one (ss_ret hw (se_and (se_cmp (op_eqD hr.r.units) ok_eq (se_call (h_death_chance.mono (by decide)) hr (sp_cons (se_rev (se_var (i := 3))) sp_nil)) (se_tup (sa_cons se_int (sa_cons se_int sa_nil)))) (se_and (se_cmp op_iss ok_is (se_call (h_dies_surely.mono (by decide)) hr (sp_cons (se_rev (se_var (i := 3))) sp_nil)) se_bl) (se_one (se_cmp (op_eqD hr.r.units) ok_eq (se_call (h_dying.mono (by decide)) hr (sp_cons (se_var (i := 3)) sp_nil)) (se_rev (se_var (i := 3)))))))))))))))))))
theorem S__law_right : FnScope N__law_right ["pot"] (defScope (top 91)) := ⟨rfl, rfl, rfl, by decide +kernel, rfl, by decide +kernel, by decide +kernel⟩
theorem h__law_right {f : Addr} {fd : FuncData} (F : FnP K "_law_right" (top 91) f fd) (hm : mg "_law_right" = some (.ref f)) (bl : ∀ x ∈ blt, mg x = none) (h__law_children : Has P w K mg base 3 "_law_children" ["pot"] m__law_children) (h__law_one_right : Has P w K mg base 10 "_law_one_right" ["children"] m__law_one_right) (h__law_known_right : Has P w K mg base 11 "_law_known_right" ["pot"] m__law_known_right) : Has P w K mg base 12 "_law_right" ["pot"] m__law_right :=
  has_of (l := 11) (N := N__law_right) F S__law_right hm (F.bindsN fun _ _ _ _ _ _ us hl => match us, hl with | [_], _ => rfl) (fun W hw cdv A outer s H E hr =>
  (ss_one (ss_ret hw (se_and (se_call (h__law_one_right.mono (by decide)) hr (sp_cons (se_call (h__law_children.mono (by decide)) hr (sp_pot (i := 0) sp_nil)) sp_nil)) (se_and (se_call (h__law_one_right.mono (by decide)) hr (sp_cons (se_call (h__law_children.mono (by decide)) hr (sp_pot (i := 0) sp_nil)) sp_nil)) (se_one (se_call (h__law_known_right.mono (by decide)) hr (sp_pot (i := 0) sp_nil))))))))
end
end Kp


namespace Kp
open PySem PySem.Spec PyProof.Rows L2 Dl
section
variable {P : Program} {w : World} {K : PySem.W.Frag} {mg : Str → Option Value} {base : Heap}
abbrev N_law : List Str := ["script", "k"]
theorem S_law : FnScope N_law ["script"] (defScope (top 92)) := ⟨rfl, rfl, rfl, by decide +kernel, rfl, by decide +kernel, by decide +kernel⟩
theorem sql_keep {K : PySem.W.Frag} {H H' : Hp} {a : Addr} {xs : List V} (k : ∀ b o, H b = some o → H' b = some o) (h : SqL K H a xs) : SqL K H' a xs := by
  rcases h with (h | ⟨o, h⟩) | h
  · exact .inl (.inl (k _ _ h))
  · exact .inl (.inr ⟨o, k _ _ h⟩)
  · exact .inr h
theorem all_trues : ∀ n : Nat, (List.replicate n true).all id = true
  | 0 => rfl
  | n + 1 => by rw [List.replicate_succ, List.all_cons, all_trues n]; rfl
theorem ok_law {f fp : Addr} {fd fdp : FuncData} (F : FnP K "law" (top 92) f fd) (bl : ∀ x ∈ blt, mg x = none) (FP : FnP K "_law_pot" (top 63) fp fdp) (gP : mg "_law_pot" = some (.ref fp)) (h__law_right : Has P w K mg base 12 "_law_right" ["pot"] mTrue) :
    FnOkG P w K mg base 13 f fd ["script"] (spLaw K) := by
  have GP := ok_pot (w := w) (P := P) (base := base) FP bl
  have bP : Binds K fdp ["script", "k"] [] := FP.bindsN fun _ _ _ _ _ _ us hl => match us, hl with | [_, _], _ => rfl
  obtain ⟨fr, fdr, GR, gR, kR, bR, _⟩ := h__law_right
  refine okG F S_law (fun vs H Q E h => ?_) (fun cdv A outer s H vs Q E hr hg hs => ?_)
  · obtain ⟨a, ns, rfl, _⟩ := h
    rfl
  refine ⟨_, PSs.nox (pss_one (ps_ret (pe_callB (cr_all rfl) rfl (bl "all" (by decide)) (by decide +kernel) (pa_cons (pe_lc (own := [("k", 1)]) rfl S_law.nd
    (pi_range1 rfl (bl "range" (by decide)) (pa_cons (pe_callB (call_max2 rfl) rfl (bl "max" (by decide)) (by decide +kernel) (pa_cons pe_int (pa_cons (pe_callB (call_min2 rfl) rfl (bl "min" (by decide)) (by decide +kernel) (pa_cons pe_int (pa_cons (pe_callB call_len_seq rfl (bl "len" (by decide)) (by decide +kernel) (pa_cons (pe_var (i := 0) rfl (by first | exact Or.inl rfl | exact Or.inr (Or.inl rfl) | exact Or.inr (Or.inr rfl))) pa_nil)) pa_nil))) pa_nil))) pa_nil))
    (blkOk_by (N := N_law) (sc := defScope (top 92)) (by decide +kernel)) (fun _ _ _ _ _ => pg_name (i := 1) S_law.nd rfl (by first | exact Or.inl rfl | exact Or.inr rfl)) (fun _ _ _ _ _ => pts_nil)
    (fun _ _ _ _ _ => pe_callG (GR.mono (by decide)) hr hg rfl gR kR bR (pa_cons (pe_call (GP.mono (by decide)) hr rfl gP FP.kp bP .nil pass0 (pa_cons (pe_var (i := 0) rfl (by first | exact Or.inl rfl | exact Or.inr (Or.inl rfl) | exact Or.inr (Or.inr rfl))) (pa_cons (pe_var (i := 1) rfl (by first | exact Or.inl rfl | exact Or.inr (Or.inl rfl) | exact Or.inr (Or.inr rfl))) pa_nil))) pa_nil))
    (by intro _; rfl)) pa_nil)))), ?_⟩
  obtain ⟨a, ns, rfl, hS, hQ⟩ := hs
  refine ⟨_, rfl, a, ns.map V.int, rfl, .inl hS, 2, _, rfl, 1, _, rfl, ?_⟩
  generalize hm : (if (if ((ns.map V.int).length : Int) < 2 then ((ns.map V.int).length : Int) else 2) > 1 then (if ((ns.map V.int).length : Int) < 2 then ((ns.map V.int).length : Int) else 2) else 1) = m
  have m1 : 0 ≤ m ∧ m ≤ 2 := by
    rw [← hm]
    constructor
    · split <;> (try split) <;> omega
    · split <;> (try split) <;> omega
  refine ⟨m, rfl, by omega, by omega, fun D hD => ?_⟩
  refine lc_it (walk_range (lo := 0) (n := m.toNat)) (fun i H' => (∀ b o, H b = some o → H' b = some o) ∧ H' D = some (.lst (List.replicate i (.bl true)))) ⟨fun b o h => by rw [upd_ne (ne_of_none h hD)]; exact h, upd_same⟩ (fun _ _ _ _ => trivial) (fun i x H' H'' hi ⟨p1, p2⟩ y => ?_) (fun H' ⟨p1, p2⟩ => ?_)
  · obtain ⟨rfl, rfl⟩ := y
    refine ⟨rfl, ?_⟩
    refine ⟨_, rfl, _, rfl, a, ns, _, rfl, sql_keep p1 hS, by omega, by omega, fun p x y hp hx hy hy2 => ?_⟩
    refine ⟨rfl, p, fun _ => none, [potD], isT, bs_new hx hy hy2, .cons (.inr ⟨rfl, rfl⟩) .nil, rfl, fun d v F' H4 s r h => ?_⟩
    rw [isT_eq h] at r
    cases r
    have nD : D ≠ p := fun z => by rw [z, hp] at p2; cases p2
    have up : ∀ b o, H'' b = some o → H4 b = some o := fun b o hb => s.fr b o (fun z => by rw [z, hp] at hb; cases hb) (by rw [upd_ne (ne_of_none hb hp)]; exact hb)
    refine ⟨_, up _ _ p2, by rw [List.length_replicate]; exact Nat.lt_of_lt_of_le hi (Nat.le_trans (show m.toNat ≤ 10 by omega) (by decide)), fun b o hb => ?_, ?_⟩
    · rw [upd_ne (ne_of_none hb hD)]
      exact up b o (p1 b o hb)
    · rw [upd_same, List.replicate_succ']
  · exact ⟨D, List.replicate m.toNat true, rfl, .inl (.inl (by rw [p2, List.map_replicate])), by rw [all_trues]; exact hQ _⟩
end

end Kp

namespace Kp
open PySem PySem.Spec PyProof.Rows L2 Dl

def dOf (i : Nat) (x : Str) : He.DefD := ⟨(x, none), x, x, defArgs (top i), defBody (top i), defScope (top i), [], []⟩
def fnL : List He.DefD := [dOf 11 "is_integer", dOf 12 "is_within", dOf 13 "is_list", dOf 14 "check_number", dOf 15 "want_at_most", dOf 16 "divisor", dOf 17 "is_fraction_of", dOf 18 "is_short", dOf 19 "check_fraction", dOf 23 "reduced", dOf 24 "add", dOf 25 "multiply", dOf 26 "divide", dOf 27 "is_below", dOf 28 "total", dOf 33 "are_children_of", dOf 34 "check_children", dOf 35 "told_of", dOf 36 "product_of", dOf 37 "put_of", dOf 38 "want_sizes", dOf 39 "mean_by", dOf 40 "number_of", dOf 41 "are_children", dOf 42 "child_mean", dOf 43 "number_at", dOf 44 "size_chances", dOf 48 "is_sure_of", dOf 49 "is_live_of", dOf 50 "middle_of", dOf 51 "whole_quotient", dOf 52 "sign_of", dOf 53 "root_between", dOf 54 "death_of", dOf 55 "dead_by", dOf 56 "dies_surely", dOf 57 "live_paper", dOf 58 "is_live_paper", dOf 59 "death_chance", dOf 60 "death_between", dOf 61 "dying", dOf 63 "_law_pot", dOf 64 "_law_draw", dOf 65 "_law_pick", dOf 67 "_law_plain", dOf 68 "_law_plus", dOf 69 "_law_times", dOf 70 "_law_total", dOf 73 "_law_below", dOf 74 "_law_less", dOf 75 "_law_share", dOf 76 "_law_children", dOf 77 "_law_number", dOf 78 "_law_mean", dOf 83 "_law_is_sure", dOf 84 "_law_is_frac", dOf 85 "_law_is_live", dOf 86 "_law_between_right", dOf 88 "_law_power", dOf 87 "_law_dying_right", dOf 89 "_law_one_right", dOf 90 "_law_known_right", dOf 91 "_law_right", dOf 92 "law"]
def faL : List He.Fa := [.glo "is_integer", .glo "is_within", .glo "is_list", .glo "check_number", .glo "want_at_most", .glo "divisor", .glo "is_fraction_of", .glo "is_short", .glo "check_fraction", .glo "reduced", .glo "add", .glo "multiply", .glo "divide", .glo "is_below", .glo "total", .glo "are_children_of", .glo "check_children", .glo "told_of", .glo "product_of", .glo "put_of", .glo "want_sizes", .glo "mean_by", .glo "number_of", .glo "are_children", .glo "child_mean", .glo "number_at", .glo "size_chances", .glo "is_sure_of", .glo "is_live_of", .glo "middle_of", .glo "whole_quotient", .glo "sign_of", .glo "root_between", .glo "death_of", .glo "dead_by", .glo "dies_surely", .glo "live_paper", .glo "is_live_paper", .glo "death_chance", .glo "death_between", .glo "dying", .glo "_law_pot", .glo "_law_draw", .glo "_law_pick", .glo "_law_plain", .glo "_law_plus", .glo "_law_times", .glo "_law_total", .glo "_law_below", .glo "_law_less", .glo "_law_share", .glo "_law_children", .glo "_law_number", .glo "_law_mean", .glo "_law_is_sure", .glo "_law_is_frac", .glo "_law_is_live", .glo "_law_between_right", .glo "_law_power", .glo "_law_dying_right", .glo "_law_one_right", .glo "_law_known_right", .glo "_law_right", .glo "law", .int "MOST_DIGITS" 1000000000000, .glo "NOUGHT", .glo "ONE", .int "MOST_CHANCES" 5, .int "MOST_SIZED" 3, .int "MOST_SIZES" 64, .int "MOST_DEAD" 4, .int "MOST_HALVED" 60] ++ blt.map He.Fa.free
def exL (K : PySem.W.Frag) : Bool := tupI K "NOUGHT" [0, 1] && tupI K "ONE" [1, 1]
abbrev R : PySem.W.OpenRow := PySem.W.OpenLaw.row PySem.Challenge.rw_betsalong_k86_whole_families_that_die_ou
abbrev hk : PySem.W.Hook := hookE 2 faL fnL exL
def ob (s : PySem.W.SharedT) : He.AlD × Bool := obsE 2 faL fnL exL (HandSHeadRun.getT s)
theorem ob_eq (s : PySem.W.SharedT) : ob s = hk.obs s.abs := obsE_eq (HandSHeadRun.getT_eq s)
def loose : List Str := (["BetError", "StateError", "LimitError", "InvalidFraction", "InvalidNumber", "InvalidChildren", "NoRoot", "TooMany", "MOST_DIGITS", "is_integer", "is_within", "is_list", "check_number", "want_at_most", "divisor", "is_fraction_of", "is_short", "check_fraction", "NOUGHT", "ONE", "reduced", "add", "multiply", "divide", "is_below", "total", "MOST_CHANCES", "MOST_SIZED", "MOST_SIZES", "are_children_of"] : List Str) ++ (["check_children", "told_of", "product_of", "put_of", "want_sizes", "mean_by", "number_of", "are_children", "child_mean", "number_at", "size_chances", "MOST_DEAD", "MOST_HALVED", "is_sure_of", "is_live_of", "middle_of", "whole_quotient", "sign_of", "root_between", "death_of", "dead_by", "dies_surely", "live_paper", "is_live_paper", "death_chance", "death_between", "dying", "_law_pot", "_law_draw", "_law_pick"] : List Str) ++ (["_law_mixed", "_law_plain", "_law_plus", "_law_times", "_law_total", "_law_lot", "_law_fraction", "_law_below", "_law_less", "_law_share", "_law_children", "_law_number", "_law_mean", "_law_spread", "_law_added", "_law_told", "_law_put", "_law_is_sure", "_law_is_frac", "_law_is_live", "_law_between_right", "_law_dying_right", "_law_power", "_law_one_right", "_law_known_right", "_law_right"] : List Str)
theorem run (w : World) : HandSHeadRun.RunEq R (PySem.W.view R.prog [92]) hk ob 30000 loose w := by
  intro os
  kernel_rfl
theorem facts {P : Program} {w : World} {K : PySem.W.Frag} {h : Heap} {mg : Str → Option Value} {f : Addr} (X : K.In h) (G : h.Ns mainGlobals mg) (hfa : mg ("law" : Str) = some (.ref f)) (c0 : SaysE faL fnL exL K) :
    ∃ fd : FuncData, (∀ (s : Shared) (v : Value), BindsTo s fd ⟨[v], []⟩ [("script", v)]) ∧ ∀ base : Heap, K.In base → base.Ns mainGlobals mg → FnOkG P w K mg base 13 f fd ["script"] (spLaw K) := by
  obtain ⟨c, cx⟩ := c0
  have bl : ∀ x ∈ blt, mg x = none := fun x hx => He.free_ok X G (saysD_fact c (List.mem_append_right _ (List.mem_map_of_mem hx)))
  obtain ⟨fd_is_integer, F_is_integer⟩ := c.def_ 0 (d := dOf 11 "is_integer") rfl
  have a_is_integer := He.glo_ok X G (c.fact 0 (f := .glo "is_integer") rfl)
  obtain ⟨fd_is_within, F_is_within⟩ := c.def_ 1 (d := dOf 12 "is_within") rfl
  have a_is_within := He.glo_ok X G (c.fact 1 (f := .glo "is_within") rfl)
  obtain ⟨fd_is_list, F_is_list⟩ := c.def_ 2 (d := dOf 13 "is_list") rfl
  have a_is_list := He.glo_ok X G (c.fact 2 (f := .glo "is_list") rfl)
  obtain ⟨fd_check_number, F_check_number⟩ := c.def_ 3 (d := dOf 14 "check_number") rfl
  have a_check_number := He.glo_ok X G (c.fact 3 (f := .glo "check_number") rfl)
  obtain ⟨fd_want_at_most, F_want_at_most⟩ := c.def_ 4 (d := dOf 15 "want_at_most") rfl
  have a_want_at_most := He.glo_ok X G (c.fact 4 (f := .glo "want_at_most") rfl)
  obtain ⟨fd_divisor, F_divisor⟩ := c.def_ 5 (d := dOf 16 "divisor") rfl
  have a_divisor := He.glo_ok X G (c.fact 5 (f := .glo "divisor") rfl)
  obtain ⟨fd_is_fraction_of, F_is_fraction_of⟩ := c.def_ 6 (d := dOf 17 "is_fraction_of") rfl
  have a_is_fraction_of := He.glo_ok X G (c.fact 6 (f := .glo "is_fraction_of") rfl)
  obtain ⟨fd_is_short, F_is_short⟩ := c.def_ 7 (d := dOf 18 "is_short") rfl
  have a_is_short := He.glo_ok X G (c.fact 7 (f := .glo "is_short") rfl)
  obtain ⟨fd_check_fraction, F_check_fraction⟩ := c.def_ 8 (d := dOf 19 "check_fraction") rfl
  have a_check_fraction := He.glo_ok X G (c.fact 8 (f := .glo "check_fraction") rfl)
  obtain ⟨fd_reduced, F_reduced⟩ := c.def_ 9 (d := dOf 23 "reduced") rfl
  have a_reduced := He.glo_ok X G (c.fact 9 (f := .glo "reduced") rfl)
  obtain ⟨fd_add, F_add⟩ := c.def_ 10 (d := dOf 24 "add") rfl
  have a_add := He.glo_ok X G (c.fact 10 (f := .glo "add") rfl)
  obtain ⟨fd_multiply, F_multiply⟩ := c.def_ 11 (d := dOf 25 "multiply") rfl
  have a_multiply := He.glo_ok X G (c.fact 11 (f := .glo "multiply") rfl)
  obtain ⟨fd_divide, F_divide⟩ := c.def_ 12 (d := dOf 26 "divide") rfl
  have a_divide := He.glo_ok X G (c.fact 12 (f := .glo "divide") rfl)
  obtain ⟨fd_is_below, F_is_below⟩ := c.def_ 13 (d := dOf 27 "is_below") rfl
  have a_is_below := He.glo_ok X G (c.fact 13 (f := .glo "is_below") rfl)
  obtain ⟨fd_total, F_total⟩ := c.def_ 14 (d := dOf 28 "total") rfl
  have a_total := He.glo_ok X G (c.fact 14 (f := .glo "total") rfl)
  obtain ⟨fd_are_children_of, F_are_children_of⟩ := c.def_ 15 (d := dOf 33 "are_children_of") rfl
  have a_are_children_of := He.glo_ok X G (c.fact 15 (f := .glo "are_children_of") rfl)
  obtain ⟨fd_check_children, F_check_children⟩ := c.def_ 16 (d := dOf 34 "check_children") rfl
  have a_check_children := He.glo_ok X G (c.fact 16 (f := .glo "check_children") rfl)
  obtain ⟨fd_told_of, F_told_of⟩ := c.def_ 17 (d := dOf 35 "told_of") rfl
  have a_told_of := He.glo_ok X G (c.fact 17 (f := .glo "told_of") rfl)
  obtain ⟨fd_product_of, F_product_of⟩ := c.def_ 18 (d := dOf 36 "product_of") rfl
  have a_product_of := He.glo_ok X G (c.fact 18 (f := .glo "product_of") rfl)
  obtain ⟨fd_put_of, F_put_of⟩ := c.def_ 19 (d := dOf 37 "put_of") rfl
  have a_put_of := He.glo_ok X G (c.fact 19 (f := .glo "put_of") rfl)
  obtain ⟨fd_want_sizes, F_want_sizes⟩ := c.def_ 20 (d := dOf 38 "want_sizes") rfl
  have a_want_sizes := He.glo_ok X G (c.fact 20 (f := .glo "want_sizes") rfl)
  obtain ⟨fd_mean_by, F_mean_by⟩ := c.def_ 21 (d := dOf 39 "mean_by") rfl
  have a_mean_by := He.glo_ok X G (c.fact 21 (f := .glo "mean_by") rfl)
  obtain ⟨fd_number_of, F_number_of⟩ := c.def_ 22 (d := dOf 40 "number_of") rfl
  have a_number_of := He.glo_ok X G (c.fact 22 (f := .glo "number_of") rfl)
  obtain ⟨fd_are_children, F_are_children⟩ := c.def_ 23 (d := dOf 41 "are_children") rfl
  have a_are_children := He.glo_ok X G (c.fact 23 (f := .glo "are_children") rfl)
  obtain ⟨fd_child_mean, F_child_mean⟩ := c.def_ 24 (d := dOf 42 "child_mean") rfl
  have a_child_mean := He.glo_ok X G (c.fact 24 (f := .glo "child_mean") rfl)
  obtain ⟨fd_number_at, F_number_at⟩ := c.def_ 25 (d := dOf 43 "number_at") rfl
  have a_number_at := He.glo_ok X G (c.fact 25 (f := .glo "number_at") rfl)
  obtain ⟨fd_size_chances, F_size_chances⟩ := c.def_ 26 (d := dOf 44 "size_chances") rfl
  have a_size_chances := He.glo_ok X G (c.fact 26 (f := .glo "size_chances") rfl)
  obtain ⟨fd_is_sure_of, F_is_sure_of⟩ := c.def_ 27 (d := dOf 48 "is_sure_of") rfl
  have a_is_sure_of := He.glo_ok X G (c.fact 27 (f := .glo "is_sure_of") rfl)
  obtain ⟨fd_is_live_of, F_is_live_of⟩ := c.def_ 28 (d := dOf 49 "is_live_of") rfl
  have a_is_live_of := He.glo_ok X G (c.fact 28 (f := .glo "is_live_of") rfl)
  obtain ⟨fd_middle_of, F_middle_of⟩ := c.def_ 29 (d := dOf 50 "middle_of") rfl
  have a_middle_of := He.glo_ok X G (c.fact 29 (f := .glo "middle_of") rfl)
  obtain ⟨fd_whole_quotient, F_whole_quotient⟩ := c.def_ 30 (d := dOf 51 "whole_quotient") rfl
  have a_whole_quotient := He.glo_ok X G (c.fact 30 (f := .glo "whole_quotient") rfl)
  obtain ⟨fd_sign_of, F_sign_of⟩ := c.def_ 31 (d := dOf 52 "sign_of") rfl
  have a_sign_of := He.glo_ok X G (c.fact 31 (f := .glo "sign_of") rfl)
  obtain ⟨fd_root_between, F_root_between⟩ := c.def_ 32 (d := dOf 53 "root_between") rfl
  have a_root_between := He.glo_ok X G (c.fact 32 (f := .glo "root_between") rfl)
  obtain ⟨fd_death_of, F_death_of⟩ := c.def_ 33 (d := dOf 54 "death_of") rfl
  have a_death_of := He.glo_ok X G (c.fact 33 (f := .glo "death_of") rfl)
  obtain ⟨fd_dead_by, F_dead_by⟩ := c.def_ 34 (d := dOf 55 "dead_by") rfl
  have a_dead_by := He.glo_ok X G (c.fact 34 (f := .glo "dead_by") rfl)
  obtain ⟨fd_dies_surely, F_dies_surely⟩ := c.def_ 35 (d := dOf 56 "dies_surely") rfl
  have a_dies_surely := He.glo_ok X G (c.fact 35 (f := .glo "dies_surely") rfl)
  obtain ⟨fd_live_paper, F_live_paper⟩ := c.def_ 36 (d := dOf 57 "live_paper") rfl
  have a_live_paper := He.glo_ok X G (c.fact 36 (f := .glo "live_paper") rfl)
  obtain ⟨fd_is_live_paper, F_is_live_paper⟩ := c.def_ 37 (d := dOf 58 "is_live_paper") rfl
  have a_is_live_paper := He.glo_ok X G (c.fact 37 (f := .glo "is_live_paper") rfl)
  obtain ⟨fd_death_chance, F_death_chance⟩ := c.def_ 38 (d := dOf 59 "death_chance") rfl
  have a_death_chance := He.glo_ok X G (c.fact 38 (f := .glo "death_chance") rfl)
  obtain ⟨fd_death_between, F_death_between⟩ := c.def_ 39 (d := dOf 60 "death_between") rfl
  have a_death_between := He.glo_ok X G (c.fact 39 (f := .glo "death_between") rfl)
  obtain ⟨fd_dying, F_dying⟩ := c.def_ 40 (d := dOf 61 "dying") rfl
  have a_dying := He.glo_ok X G (c.fact 40 (f := .glo "dying") rfl)
  obtain ⟨fd__law_pot, F__law_pot⟩ := c.def_ 41 (d := dOf 63 "_law_pot") rfl
  have a__law_pot := He.glo_ok X G (c.fact 41 (f := .glo "_law_pot") rfl)
  obtain ⟨fd__law_draw, F__law_draw⟩ := c.def_ 42 (d := dOf 64 "_law_draw") rfl
  have a__law_draw := He.glo_ok X G (c.fact 42 (f := .glo "_law_draw") rfl)
  obtain ⟨fd__law_pick, F__law_pick⟩ := c.def_ 43 (d := dOf 65 "_law_pick") rfl
  have a__law_pick := He.glo_ok X G (c.fact 43 (f := .glo "_law_pick") rfl)
  obtain ⟨fd__law_plain, F__law_plain⟩ := c.def_ 44 (d := dOf 67 "_law_plain") rfl
  have a__law_plain := He.glo_ok X G (c.fact 44 (f := .glo "_law_plain") rfl)
  obtain ⟨fd__law_plus, F__law_plus⟩ := c.def_ 45 (d := dOf 68 "_law_plus") rfl
  have a__law_plus := He.glo_ok X G (c.fact 45 (f := .glo "_law_plus") rfl)
  obtain ⟨fd__law_times, F__law_times⟩ := c.def_ 46 (d := dOf 69 "_law_times") rfl
  have a__law_times := He.glo_ok X G (c.fact 46 (f := .glo "_law_times") rfl)
  obtain ⟨fd__law_total, F__law_total⟩ := c.def_ 47 (d := dOf 70 "_law_total") rfl
  have a__law_total := He.glo_ok X G (c.fact 47 (f := .glo "_law_total") rfl)
  obtain ⟨fd__law_below, F__law_below⟩ := c.def_ 48 (d := dOf 73 "_law_below") rfl
  have a__law_below := He.glo_ok X G (c.fact 48 (f := .glo "_law_below") rfl)
  obtain ⟨fd__law_less, F__law_less⟩ := c.def_ 49 (d := dOf 74 "_law_less") rfl
  have a__law_less := He.glo_ok X G (c.fact 49 (f := .glo "_law_less") rfl)
  obtain ⟨fd__law_share, F__law_share⟩ := c.def_ 50 (d := dOf 75 "_law_share") rfl
  have a__law_share := He.glo_ok X G (c.fact 50 (f := .glo "_law_share") rfl)
  obtain ⟨fd__law_children, F__law_children⟩ := c.def_ 51 (d := dOf 76 "_law_children") rfl
  have a__law_children := He.glo_ok X G (c.fact 51 (f := .glo "_law_children") rfl)
  obtain ⟨fd__law_number, F__law_number⟩ := c.def_ 52 (d := dOf 77 "_law_number") rfl
  have a__law_number := He.glo_ok X G (c.fact 52 (f := .glo "_law_number") rfl)
  obtain ⟨fd__law_mean, F__law_mean⟩ := c.def_ 53 (d := dOf 78 "_law_mean") rfl
  have a__law_mean := He.glo_ok X G (c.fact 53 (f := .glo "_law_mean") rfl)
  obtain ⟨fd__law_is_sure, F__law_is_sure⟩ := c.def_ 54 (d := dOf 83 "_law_is_sure") rfl
  have a__law_is_sure := He.glo_ok X G (c.fact 54 (f := .glo "_law_is_sure") rfl)
  obtain ⟨fd__law_is_frac, F__law_is_frac⟩ := c.def_ 55 (d := dOf 84 "_law_is_frac") rfl
  have a__law_is_frac := He.glo_ok X G (c.fact 55 (f := .glo "_law_is_frac") rfl)
  obtain ⟨fd__law_is_live, F__law_is_live⟩ := c.def_ 56 (d := dOf 85 "_law_is_live") rfl
  have a__law_is_live := He.glo_ok X G (c.fact 56 (f := .glo "_law_is_live") rfl)
  obtain ⟨fd__law_between_right, F__law_between_right⟩ := c.def_ 57 (d := dOf 86 "_law_between_right") rfl
  have a__law_between_right := He.glo_ok X G (c.fact 57 (f := .glo "_law_between_right") rfl)
  obtain ⟨fd__law_power, F__law_power⟩ := c.def_ 58 (d := dOf 88 "_law_power") rfl
  have a__law_power := He.glo_ok X G (c.fact 58 (f := .glo "_law_power") rfl)
  obtain ⟨fd__law_dying_right, F__law_dying_right⟩ := c.def_ 59 (d := dOf 87 "_law_dying_right") rfl
  have a__law_dying_right := He.glo_ok X G (c.fact 59 (f := .glo "_law_dying_right") rfl)
  obtain ⟨fd__law_one_right, F__law_one_right⟩ := c.def_ 60 (d := dOf 89 "_law_one_right") rfl
  have a__law_one_right := He.glo_ok X G (c.fact 60 (f := .glo "_law_one_right") rfl)
  obtain ⟨fd__law_known_right, F__law_known_right⟩ := c.def_ 61 (d := dOf 90 "_law_known_right") rfl
  have a__law_known_right := He.glo_ok X G (c.fact 61 (f := .glo "_law_known_right") rfl)
  obtain ⟨fd__law_right, F__law_right⟩ := c.def_ 62 (d := dOf 91 "_law_right") rfl
  have a__law_right := He.glo_ok X G (c.fact 62 (f := .glo "_law_right") rfl)
  obtain ⟨fd_law, F_law⟩ := c.def_ 63 (d := dOf 92 "law") rfl
  have a_law := He.glo_ok X G (c.fact 63 (f := .glo "law") rfl)
  have g_MOST_DIGITS : Glo K mg "MOST_DIGITS" c_MOST_DIGITS := glo_int X G (c.fact 64 (f := .int "MOST_DIGITS" 1000000000000) rfl)
  have g_MOST_CHANCES : Glo K mg "MOST_CHANCES" c_MOST_CHANCES := glo_int X G (c.fact 67 (f := .int "MOST_CHANCES" 5) rfl)
  have g_MOST_SIZED : Glo K mg "MOST_SIZED" c_MOST_SIZED := glo_int X G (c.fact 68 (f := .int "MOST_SIZED" 3) rfl)
  have g_MOST_SIZES : Glo K mg "MOST_SIZES" c_MOST_SIZES := glo_int X G (c.fact 69 (f := .int "MOST_SIZES" 64) rfl)
  have g_MOST_DEAD : Glo K mg "MOST_DEAD" c_MOST_DEAD := glo_int X G (c.fact 70 (f := .int "MOST_DEAD" 4) rfl)
  have g_MOST_HALVED : Glo K mg "MOST_HALVED" c_MOST_HALVED := glo_int X G (c.fact 71 (f := .int "MOST_HALVED" 60) rfl)
  have g_NOUGHT : Glo K mg "NOUGHT" c_NOUGHT := glo_tup X G (c.fact 65 (f := .glo "NOUGHT") rfl) (is := [0, 1]) (He.ba cx).1
  have g_ONE : Glo K mg "ONE" c_ONE := glo_tup X G (c.fact 66 (f := .glo "ONE") rfl) (is := [1, 1]) (He.ba cx).2
  have e := hfa.symm.trans a_law
  cases e
  have b := FunD.bindsA (ps := ["script"]) F_law fun _ _ _ _ _ _ us hl => match us, hl with | [_], _ => rfl
  refine ⟨fd_law, fun s v => b s [v] rfl, fun base _ _ => ?_⟩
  have h_is_integer := Kp.h_is_integer (P := P) (w := w) (base := base) F_is_integer a_is_integer bl 
  have h_is_within := Kp.h_is_within (P := P) (w := w) (base := base) F_is_within a_is_within bl h_is_integer
  have h_is_list := Kp.h_is_list (P := P) (w := w) (base := base) F_is_list a_is_list bl 
  have h_check_number := Kp.h_check_number (P := P) (w := w) (base := base) F_check_number a_check_number bl h_is_within
  have h_want_at_most := Kp.h_want_at_most (P := P) (w := w) (base := base) F_want_at_most a_want_at_most bl 
  have h_divisor := Kp.h_divisor (P := P) (w := w) (base := base) F_divisor a_divisor bl 
  have h_is_fraction_of := Kp.h_is_fraction_of (P := P) (w := w) (base := base) F_is_fraction_of a_is_fraction_of bl h_is_integer h_divisor
  have h_is_short := Kp.h_is_short (P := P) (w := w) (base := base) F_is_short a_is_short bl g_MOST_DIGITS h_is_fraction_of
  have h_check_fraction := Kp.h_check_fraction (P := P) (w := w) (base := base) F_check_fraction a_check_fraction bl h_is_short
  have h_reduced := Kp.h_reduced (P := P) (w := w) (base := base) F_reduced a_reduced bl h_divisor
  have h_add := Kp.h_add (P := P) (w := w) (base := base) F_add a_add bl h_reduced
  have h_multiply := Kp.h_multiply (P := P) (w := w) (base := base) F_multiply a_multiply bl h_reduced
  have h_divide := Kp.h_divide (P := P) (w := w) (base := base) F_divide a_divide bl h_reduced
  have h_is_below := Kp.h_is_below (P := P) (w := w) (base := base) F_is_below a_is_below bl 
  have h_total := Kp.h_total (P := P) (w := w) (base := base) F_total a_total bl g_NOUGHT h_add
  have h_are_children_of := Kp.h_are_children_of (P := P) (w := w) (base := base) F_are_children_of a_are_children_of bl g_MOST_CHANCES g_ONE h_is_list h_is_fraction_of h_total
  have h_check_children := Kp.h_check_children (P := P) (w := w) (base := base) F_check_children a_check_children bl h_are_children_of h_is_short
  have hF_told_of := Kp.hF_told_of (P := P) (w := w) (base := base) F_told_of a_told_of bl g_NOUGHT
  have h_told_of := hF_told_of.has
  have h_product_of := Kp.h_product_of (P := P) (w := w) (base := base) F_product_of a_product_of bl g_NOUGHT h_multiply h_add
  have hF_put_of := Kp.hF_put_of (P := P) (w := w) (base := base) F_put_of a_put_of bl g_NOUGHT g_ONE h_told_of h_multiply h_add h_product_of hF_told_of
  have h_put_of := hF_put_of.has
  have h_want_sizes := Kp.h_want_sizes (P := P) (w := w) (base := base) F_want_sizes a_want_sizes bl g_MOST_SIZES h_told_of h_want_at_most
  have h_mean_by := Kp.h_mean_by (P := P) (w := w) (base := base) F_mean_by a_mean_by bl h_multiply h_total
  have h_number_of := Kp.h_number_of (P := P) (w := w) (base := base) F_number_of a_number_of bl g_NOUGHT h_multiply h_add
  have h_are_children := Kp.h_are_children (P := P) (w := w) (base := base) F_are_children a_are_children bl h_are_children_of
  have h_child_mean := Kp.h_child_mean (P := P) (w := w) (base := base) F_child_mean a_child_mean bl h_check_children h_mean_by
  have h_number_at := Kp.h_number_at (P := P) (w := w) (base := base) F_number_at a_number_at bl g_ONE h_check_children h_check_fraction h_is_below h_number_of
  have hF_size_chances := Kp.hF_size_chances (P := P) (w := w) (base := base) F_size_chances a_size_chances bl g_MOST_SIZED g_ONE g_NOUGHT h_check_children h_check_number h_want_sizes hF_put_of
  have h_size_chances := hF_size_chances.has
  have h_is_sure_of := Kp.h_is_sure_of (P := P) (w := w) (base := base) F_is_sure_of a_is_sure_of bl g_ONE h_mean_by h_is_below
  have h_is_live_of := Kp.h_is_live_of (P := P) (w := w) (base := base) F_is_live_of a_is_live_of bl g_ONE h_is_fraction_of h_is_below h_number_of
  have h_middle_of := Kp.h_middle_of (P := P) (w := w) (base := base) F_middle_of a_middle_of bl h_add h_divide
  have h_whole_quotient := Kp.h_whole_quotient (P := P) (w := w) (base := base) F_whole_quotient a_whole_quotient bl h_divisor
  have h_sign_of := Kp.h_sign_of (P := P) (w := w) (base := base) F_sign_of a_sign_of bl 
  have h_root_between := Kp.h_root_between (P := P) (w := w) (base := base) F_root_between a_root_between bl h_sign_of h_reduced
  have h_death_of := Kp.h_death_of (P := P) (w := w) (base := base) F_death_of a_death_of bl g_ONE g_NOUGHT h_is_sure_of h_whole_quotient h_root_between
  have h_dead_by := Kp.h_dead_by (P := P) (w := w) (base := base) F_dead_by a_dead_by bl g_MOST_DEAD g_NOUGHT h_check_children h_check_number h_number_of
  have h_dies_surely := Kp.h_dies_surely (P := P) (w := w) (base := base) F_dies_surely a_dies_surely bl h_check_children h_is_sure_of
  have h_live_paper := Kp.h_live_paper (P := P) (w := w) (base := base) F_live_paper a_live_paper bl g_NOUGHT g_ONE h_check_children h_is_sure_of h_is_live_of h_middle_of
  have h_is_live_paper := Kp.h_is_live_paper (P := P) (w := w) (base := base) F_is_live_paper a_is_live_paper bl h_check_children h_is_live_of
  have h_death_chance := Kp.h_death_chance (P := P) (w := w) (base := base) F_death_chance a_death_chance bl h_check_children h_death_of
  have h_death_between := Kp.h_death_between (P := P) (w := w) (base := base) F_death_between a_death_between bl g_MOST_HALVED g_NOUGHT g_ONE h_check_children h_check_number h_middle_of h_number_of h_is_below
  have hF_dying := Kp.hF_dying (P := P) (w := w) (base := base) F_dying a_dying bl g_ONE h_check_children h_death_of h_divide h_multiply
  have h_dying := hF_dying.has
  have h__law_draw := Kp.h__law_draw (P := P) (w := w) (base := base) F__law_draw a__law_draw bl
  have h__law_pick := Kp.h__law_pick (P := P) (w := w) (base := base) F__law_pick a__law_pick bl h__law_draw
  have h__law_plain := Kp.h__law_plain (P := P) (w := w) (base := base) F__law_plain a__law_plain bl 
  have h__law_plus := Kp.h__law_plus (P := P) (w := w) (base := base) F__law_plus a__law_plus bl h__law_plain
  have h__law_times := Kp.h__law_times (P := P) (w := w) (base := base) F__law_times a__law_times bl h__law_plain
  have h__law_total := Kp.h__law_total (P := P) (w := w) (base := base) F__law_total a__law_total bl h__law_plus
  have h__law_below := Kp.h__law_below (P := P) (w := w) (base := base) F__law_below a__law_below bl 
  have h__law_less := Kp.h__law_less (P := P) (w := w) (base := base) F__law_less a__law_less bl h__law_plus
  have h__law_share := Kp.h__law_share (P := P) (w := w) (base := base) F__law_share a__law_share bl h__law_plain
  have h__law_children := Kp.h__law_children (P := P) (w := w) (base := base) F__law_children a__law_children bl h__law_draw h__law_pick h__law_plain
  have h__law_number := Kp.h__law_number (P := P) (w := w) (base := base) F__law_number a__law_number bl h__law_times h__law_plus
  have h__law_mean := Kp.h__law_mean (P := P) (w := w) (base := base) F__law_mean a__law_mean bl h__law_times h__law_total
  have h__law_is_sure := Kp.h__law_is_sure (P := P) (w := w) (base := base) F__law_is_sure a__law_is_sure bl h__law_mean h__law_below
  have h__law_is_frac := Kp.h__law_is_frac (P := P) (w := w) (base := base) F__law_is_frac a__law_is_frac bl h__law_plain
  have h__law_is_live := Kp.h__law_is_live (P := P) (w := w) (base := base) F__law_is_live a__law_is_live bl h__law_is_frac h__law_below h__law_number
  have h__law_between_right := Kp.h__law_between_right (P := P) (w := w) (base := base) F__law_between_right a__law_between_right bl h_death_between h__law_below h__law_plus h__law_times h__law_number h__law_less (Has.kb (st := top 60) h_death_between F_death_between a_death_between (ks := ["many", "children"]) (perm := [1, 0]) fun _ _ _ _ _ _ ws hl => match ws, hl with | [_, _], _ => rfl)
  have h__law_power := Kp.h__law_power (P := P) (w := w) (base := base) F__law_power a__law_power bl h__law_times
  have h__law_dying_right := Kp.h__law_dying_right (P := P) (w := w) (base := base) F__law_dying_right a__law_dying_right bl h__law_power h__law_times h__law_share h_are_children h_dying h_dies_surely hF_dying (Has.kb (st := top 61) h_dying F_dying a_dying (ks := ["children"]) (perm := [0]) fun _ _ _ _ _ _ ws hl => match ws, hl with | [_], _ => rfl)
  have h__law_one_right := Kp.h__law_one_right (P := P) (w := w) (base := base) F__law_one_right a__law_one_right bl h_dead_by h_size_chances h__law_number h__law_below h__law_is_sure h_dies_surely h_child_mean h_live_paper h__law_is_live h_is_live_paper h_death_chance h__law_times h__law_dying_right h__law_between_right (Has.kb (st := top 55) h_dead_by F_dead_by a_dead_by (ks := ["many", "children"]) (perm := [1, 0]) fun _ _ _ _ _ _ ws hl => match ws, hl with | [_, _], _ => rfl) (Has.kb (st := top 56) h_dies_surely F_dies_surely a_dies_surely (ks := ["children"]) (perm := [0]) fun _ _ _ _ _ _ ws hl => match ws, hl with | [_], _ => rfl) (Has.kb (st := top 57) h_live_paper F_live_paper a_live_paper (ks := ["children"]) (perm := [0]) fun _ _ _ _ _ _ ws hl => match ws, hl with | [_], _ => rfl) (Has.kb (st := top 59) h_death_chance F_death_chance a_death_chance (ks := ["children"]) (perm := [0]) fun _ _ _ _ _ _ ws hl => match ws, hl with | [_], _ => rfl)
  have h__law_known_right := Kp.h__law_known_right (P := P) (w := w) (base := base) F__law_known_right a__law_known_right bl h__law_draw h__law_plain h__law_pick h__law_less h__law_times h__law_plus h_death_chance h_dies_surely h_number_at h__law_one_right h_dying
  have h__law_right := Kp.h__law_right (P := P) (w := w) (base := base) F__law_right a__law_right bl h__law_children h__law_one_right h__law_known_right
  exact ok_law F_law bl F__law_pot a__law_pot (h__law_right.always t_right)
end Kp
open PySem PySem.W PySem.Calls PyProof.Rows
theorem PySem.Challenge.cw_betsalong_k86_whole_families_that_die_ou_holds : PySem.Challenge.rw_betsalong_k86_whole_families_that_die_ou.Holds := by
  w_on; o_law
  refine HandSHeadRun.head_any (r := OpenLaw.row PySem.Challenge.rw_betsalong_k86_whole_families_that_die_ou) (q := view (OpenLaw.row PySem.Challenge.rw_betsalong_k86_whole_families_that_die_ou).prog [92]) (H := Kp.hk) (ob := Kp.ob) (M := 30000) (loose := Kp.loose) (d := HandSHeadRun.topDef (OpenLaw.row PySem.Challenge.rw_betsalong_k86_whole_families_that_die_ou).prog 92) (kwd := []) Kp.ob_eq
    (by kernel_rfl) (fun s => by kernel_rfl) Kp.run (by kernel_rfl) (by kernel_rfl) (by kernel_rfl) (by rfl) (by first | assumption | decide +kernel) (by decide +kernel) ⟨rfl, rfl, rfl, rfl, rfl, by decide +kernel⟩ ?hw ?hc
  case hw => w_witness2
  case hc =>
    refine Dl.walk_ofG (l := PySem.Challenge.rw_betsalong_k86_whole_families_that_die_ou) (n := 63) (k := 13) (x := "script") rfl (by decide) (by kernel_rfl) ⟨rfl, by decide, by decide⟩ ?F
    intro w mg fa h Y G hmg0
    obtain ⟨K, KX, c⟩ := Y
    have hmg : mg ("law" : PySem.Str) = some (.ref fa) := by
      have e : (HandSHeadRun.topDef (OpenLaw.row PySem.Challenge.rw_betsalong_k86_whole_families_that_die_ou).prog 92).name = ("law" : PySem.Str) := by kernel_rfl
      rw [← e]
      exact hmg0
    obtain ⟨fd, hb, hF⟩ := Kp.facts (P := (PySem.Challenge.rw_betsalong_k86_whole_families_that_die_ou).prog) (w := w) KX G hmg c
    exact ⟨K, fd, Dl.spLaw K, KX, hb, fun H a ns hl _ hS => ⟨a, ns, rfl, hS, fun _ => rfl⟩, hF⟩
