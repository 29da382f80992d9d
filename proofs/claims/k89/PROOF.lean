import PyProof.Rows.All
import Wide.All
import OpenK.AllK
import Wide.FinOn
import KE.KStateDown
import HandS.ForMost
import HandS.Exc
import HandS.Walk
import HandS.Wide
import HandS.Style
import HandS.Flow
import HandS.IsInst
import HandS.Zip
import HandS.Defaults
import HandS.TupAny
import PyProof.Rows.RuleB_bool
import HandS.Head0
import HandS.Head1
import HandS.Head2
import HandS.HeadEnd
import HandS.Ends
import HandS.HeadHook1
import HandS.HeadHook2
import HandS.Iter
import KE.KDictZip
import HandS.Conv
import KE.GoesEnum
import KE.KTupSum
import HandS.Dict
import PyProof.Rows.ReprOcc
import PySem.Challenge.RW_betsalong_k89_whole_urns_and_rows
set_option Elab.async false
set_option linter.all false
set_option maxRecDepth 100000
set_option maxHeartbeats 0
/-! Dl: a data level over the hand layer: what a def does told over plain data, by Bool-valued continuations. -/
namespace Dl
open PySem PySem.Spec PyProof.Rows L2
/-- stands for the pot among arguments -/
abbrev potD : PyData := .dict [(.none, .none)]

/-! ### data at values -/
/-- a tuple of the written part -/
def KT (K : PySem.W.Frag) (a : Addr) (xs : List V) : Prop := ∃ (o : Obj) (its : Array Value) (n : Nat), K.lookup a = some o ∧ o.cls = .type "tuple" ∧ o.data = .seq its n ∧ its.size ≤ sizeLine ∧ Vals xs its.toList
mutual
inductive Rp (K : PySem.W.Frag) (F : Hp) : V → PyData → Prop
  | non : Rp K F .non .none
  | bl (b : Bool) : Rp K F (.bl b) (.bool b)
  | int (i : Int) : Rp K F (.int i) (.int i)
  | str (x : Str) : Rp K F (.str x) (.str x)
  | lst {a : Addr} {xs : List V} {ds : List PyData} : F a = some (.lst xs) → RpAll K F xs ds → Rp K F (.ref a) (.list ds)
  | tup {a : Addr} {xs : List V} {ds : List PyData} : F a = some (.tup xs) → RpAll K F xs ds → Rp K F (.ref a) (.tuple ds)
  | ktup {a : Addr} {xs : List V} {ds : List PyData} : KT K a xs → RpAll K F xs ds → Rp K F (.ref a) (.tuple ds)
  | dct0 {a : Addr} : F a = some (.dK []) → Rp K F (.ref a) (.dict [])
inductive RpAll (K : PySem.W.Frag) (F : Hp) : List V → List PyData → Prop
  | nil : RpAll K F [] []
  | cons {v : V} {vs : List V} {d : PyData} {ds : List PyData} : Rp K F v d → RpAll K F vs ds → RpAll K F (v :: vs) (d :: ds)
end
section
variable {K : PySem.W.Frag} {F F' H : Hp}
mutual
theorem Rp.mono (e : Same F F') : ∀ {v : V} {d : PyData}, Rp K F v d → Rp K F' v d
  | _, _, .non => .non
  | _, _, .bl b => .bl b
  | _, _, .int i => .int i
  | _, _, .str x => .str x
  | _, _, .lst h a => .lst (e _ _ h) (RpAll.mono e a)
  | _, _, .tup h a => .tup (e _ _ h) (RpAll.mono e a)
  | _, _, .ktup h a => .ktup h (RpAll.mono e a)
  | _, _, .dct0 h => .dct0 (e _ _ h)
theorem RpAll.mono (e : Same F F') : ∀ {vs : List V} {ds : List PyData}, RpAll K F vs ds → RpAll K F' vs ds
  | _, _, .nil => .nil
  | _, _, .cons h a => .cons (Rp.mono e h) (RpAll.mono e a)
end
mutual
theorem Rp.dp : ∀ {v : V} {d : PyData}, Rp K F v d → d.canLay0 = true → Dp K F v d
  | _, _, .non, _ => .non
  | _, _, .bl b, _ => .bl b
  | _, _, .int i, _ => .int i
  | _, _, .str x, _ => .str x
  | _, _, .lst h a, c => .lst (.inl (.inl h)) (RpAll.dp a c)
  | _, _, .tup h a, c => .tup (.inl (.inl h)) (RpAll.dp a c)
  | _, _, .ktup h a, c => .tup (.inr h) (RpAll.dp a c)
  | _, _, .dct0 _, c => nomatch c
theorem RpAll.dp : ∀ {vs : List V} {ds : List PyData}, RpAll K F vs ds → PyData.canLayAll0 ds = true → DpAll K F vs ds
  | _, _, .nil, _ => .nil
  | _, _, .cons h a, c => by
    unfold PyData.canLayAll0 at c
    exact .cons (Rp.dp h (Bool.and_eq_true_iff.mp c).1) (RpAll.dp a (Bool.and_eq_true_iff.mp c).2)
end
theorem RpAll.length : ∀ {vs : List V} {ds : List PyData}, RpAll K F vs ds → vs.length = ds.length
  | _, _, .nil => rfl
  | _, _, .cons _ a => by rw [List.length_cons, List.length_cons, RpAll.length a]
theorem RpAll.at : ∀ {vs : List V} {ds : List PyData} {i : Nat} {d : PyData}, RpAll K F vs ds → ds[i]? = some d → ∃ v, vs[i]? = some v ∧ Rp K F v d
  | _, _, _, _, .nil, e => by simp at e
  | _, _, 0, _, .cons h _, e => by simp at e; subst e; exact ⟨_, rfl, h⟩
  | _, _, i + 1, d, .cons _ a, e => by
    obtain ⟨v, h1, h2⟩ := RpAll.at (i := i) (d := d) a (by simpa using e)
    exact ⟨v, by simpa using h1, h2⟩
theorem RpAll.at' {vs : List V} {ds : List PyData} {i : Nat} {v : V} (a : RpAll K F vs ds) (e : vs[i]? = some v) : ∃ d, ds[i]? = some d ∧ Rp K F v d := by
  have hi : i < vs.length := (List.getElem?_eq_some_iff.mp e).1
  rw [a.length] at hi
  obtain ⟨v', h1, h2⟩ := a.at (List.getElem?_eq_getElem hi)
  rw [e] at h1
  cases h1
  exact ⟨_, List.getElem?_eq_getElem hi, h2⟩
theorem RpAll.append : ∀ {vs ws : List V} {ds es : List PyData}, RpAll K F vs ds → RpAll K F ws es → RpAll K F (vs ++ ws) (ds ++ es)
  | _, _, _, _, .nil, b => b
  | _, _, _, _, .cons h a, b => .cons h (RpAll.append a b)
theorem RpAll.take : ∀ (n : Nat) {vs : List V} {ds : List PyData}, RpAll K F vs ds → RpAll K F (vs.take n) (ds.take n)
  | 0, _, _, _ => .nil
  | _ + 1, _, _, .nil => .nil
  | n + 1, _, _, .cons h a => .cons h (RpAll.take n a)
theorem RpAll.drop : ∀ (n : Nat) {vs : List V} {ds : List PyData}, RpAll K F vs ds → RpAll K F (vs.drop n) (ds.drop n)
  | 0, _, _, a => a
  | _ + 1, _, _, .nil => .nil
  | n + 1, _, _, .cons _ a => RpAll.drop n a
theorem RpAll.set {v : V} {d : PyData} (h : Rp K F v d) : ∀ (i : Nat) {vs : List V} {ds : List PyData}, RpAll K F vs ds → RpAll K F (vs.set i v) (ds.set i d)
  | _, _, _, .nil => .nil
  | 0, _, _, .cons _ a => .cons h a
  | i + 1, _, _, .cons g a => .cons g (RpAll.set h i a)
theorem RpAll.reverse {vs : List V} {ds : List PyData} (a : RpAll K F vs ds) : RpAll K F vs.reverse ds.reverse := by
  induction a using RpAll.rec (motive_1 := fun _ _ _ => True) with
  | nil => exact .nil
  | cons h _ _ ih => rw [List.reverse_cons, List.reverse_cons]; exact ih.append (.cons h .nil)
  | _ => trivial
theorem RpAll.erase : ∀ (i : Nat) {vs : List V} {ds : List PyData}, RpAll K F vs ds → RpAll K F (vs.eraseIdx i) (ds.eraseIdx i)
  | _, _, _, .nil => .nil
  | 0, _, _, .cons _ a => a
  | i + 1, _, _, .cons g a => .cons g (RpAll.erase i a)
theorem RpAll.dropLast {vs : List V} {ds : List PyData} (a : RpAll K F vs ds) : RpAll K F vs.dropLast ds.dropLast := by
  rw [List.dropLast_eq_take, List.dropLast_eq_take, a.length]
  exact a.take _
theorem RpAll.rep {vs : List V} {ds : List PyData} (a : RpAll K F vs ds) : ∀ n : Nat, RpAll K F (List.replicate n vs).flatten (List.replicate n ds).flatten
  | 0 => .nil
  | n + 1 => by rw [List.replicate_succ, List.replicate_succ, List.flatten_cons, List.flatten_cons]; exact a.append (RpAll.rep a n)
theorem RpAll.ints : ∀ {vs : List V} {ns : List Int}, RpAll K F vs (ns.map PyData.int) → vs = ns.map V.int
  | [], [], _ => rfl
  | _, _ :: _, .cons h a => by
    cases h
    rw [List.map_cons, ← RpAll.ints a]
theorem RpAll.bools : ∀ {vs : List V} {ns : List Bool}, RpAll K F vs (ns.map PyData.bool) → vs = ns.map V.bl
  | [], [], _ => rfl
  | _, _ :: _, .cons h a => by
    cases h
    rw [List.map_cons, ← RpAll.bools a]
theorem RpAll.of_ints : ∀ (ns : List Int), RpAll K F (ns.map V.int) (ns.map PyData.int)
  | [] => .nil
  | n :: r => .cons (.int n) (RpAll.of_ints r)
end

/-! ### steps of the heap -/
/-- the pot: a list of two numbers, changed by draws alone -/
def PotOk (H : Hp) (pp : Addr) : Prop := ∃ a b : Int, H pp = some (.lst [.int a, .int b]) ∧ 0 ≤ a ∧ 0 ≤ b ∧ b < 4294967296
/-- the base: F is the frozen part of H -/
structure Bs (pp : Addr) (F H : Hp) : Prop where
  fh : Same F H
  fp : F pp = none
  po : PotOk H pp
structure Stp (pp : Addr) (F H F' H' : Hp) : Prop where
  ff : Same F F'
  fh : Same F' H'
  fr : ∀ b o, b ≠ pp → H b = some o → H' b = some o
  nf : ∀ b o, F' b = some o → F b = some o ∨ H b = none
  po : PotOk H' pp
section
variable {pp : Addr} {F H F1 H1 F2 H2 : Hp}
theorem PotOk.some {H : Hp} {pp : Addr} (p : PotOk H pp) : H pp ≠ none := fun e => by
  obtain ⟨a, b, h, _⟩ := p
  rw [e] at h
  cases h
theorem Stp.refl (b : Bs pp F H) : Stp pp F H F H := ⟨Same.refl F, b.fh, fun _ _ _ h => h, fun _ _ h => .inl h, b.po⟩
theorem Stp.bs (b : Bs pp F H) (s : Stp pp F H F1 H1) : Bs pp F1 H1 := ⟨s.fh, by
  cases q : F1 pp with
  | none => rfl
  | some o =>
    rcases s.nf pp o q with e | e
    · rw [b.fp] at e; cases e
    · exact absurd e b.po.some, s.po⟩
theorem Stp.trans (a : Stp pp F H F1 H1) (b : Stp pp F1 H1 F2 H2) : Stp pp F H F2 H2 := by
  refine ⟨a.ff.trans b.ff, b.fh, fun c o n h => b.fr c o n (a.fr c o n h), fun c o h => ?_, b.po⟩
  rcases b.nf c o h with e | e
  · exact a.nf c o e
  · by_cases hc : c = pp
    · subst hc; exact absurd e a.po.some
    · refine .inr ?_
      cases q : H c with
      | none => rfl
      | some u => rw [a.fr c u hc q] at e; cases e
/-- a new object, frozen at once -/
theorem Stp.new {p : Addr} {o : HO} (b : Bs pp F H) (n : H p = none) : Stp pp F H (upd F p o) (upd H p o) := by
  have hp : pp ≠ p := fun e => by subst e; exact b.po.some n
  refine ⟨fun c u h => ?_, fun c u h => ?_, fun c u _ h => ?_, fun c u h => ?_, ?_⟩
  · rw [upd_ne (ne_of_none (b.fh c u h) n)]; exact h
  · by_cases e : c = p
    · subst e; rw [upd_same] at h; rw [upd_same]; exact h
    · rw [upd_ne e] at h; rw [upd_ne e]; exact b.fh c u h
  · rw [upd_ne (ne_of_none h n)]; exact h
  · by_cases e : c = p
    · subst e; exact .inr n
    · rw [upd_ne e] at h; exact .inl h
  · obtain ⟨x, y, e, q⟩ := b.po
    exact ⟨x, y, by rw [upd_ne hp]; exact e, q⟩
/-- a new object, owned -/
theorem Stp.newO {p : Addr} {o : HO} (b : Bs pp F H) (n : H p = none) : Stp pp F H F (upd H p o) := by
  have hp : pp ≠ p := fun e => by subst e; exact b.po.some n
  refine ⟨Same.refl F, fun c u h => ?_, fun c u _ h => ?_, fun c u h => .inl h, ?_⟩
  · rw [upd_ne (ne_of_none (b.fh c u h) n)]; exact b.fh c u h
  · rw [upd_ne (ne_of_none h n)]; exact h
  · obtain ⟨x, y, e, q⟩ := b.po
    exact ⟨x, y, by rw [upd_ne hp]; exact e, q⟩
theorem Bs.keep (b : Bs pp F H) {a : Addr} {o : HO} (h : F a = some o) : H a = some o := b.fh a o h
/-- an owned object is written: seen from a state where it was not -/
theorem Stp.write {p : Addr} {o : HO} (s : Stp pp F H F1 H1) (n : H p = none) (f : F1 p = none) (np : p ≠ pp) : Stp pp F H F1 (upd H1 p o) := by
  refine ⟨s.ff, fun c u h => ?_, fun c u hc h => ?_, s.nf, ?_⟩
  · rw [upd_ne (ne_of_none h f)]; exact s.fh c u h
  · rw [upd_ne (ne_of_none h n)]; exact s.fr c u hc h
  · obtain ⟨x, y, e, q⟩ := s.po
    exact ⟨x, y, by rw [upd_ne (Ne.symm np)]; exact e, q⟩
/-- an owned object is frozen -/
theorem Stp.freeze {p : Addr} {o : HO} (s : Stp pp F H F1 H1) (n : H p = none) (f : F1 p = none) (h : H1 p = some o) : Stp pp F H (upd F1 p o) H1 := by
  refine ⟨fun c u e => ?_, fun c u e => ?_, s.fr, fun c u e => ?_, s.po⟩
  · have e1 := s.ff c u e
    rw [upd_ne (ne_of_none e1 f)]; exact e1
  · by_cases z : c = p
    · subst z; rw [upd_same] at e; cases e; exact h
    · rw [upd_ne z] at e; exact s.fh c u e
  · by_cases z : c = p
    · subst z; exact .inr n
    · rw [upd_ne z] at e; exact s.nf c u e
theorem Stp.own (s : Stp pp F H F1 H1) {p : Addr} (f : F p = none) (h : H p ≠ none) : F1 p = none := by
  cases q : F1 p with
  | none => rfl
  | some o =>
    rcases s.nf p o q with e | e
    · rw [f] at e; cases e
    · exact absurd e h
theorem same_upd {F : Hp} {p : Addr} {o : HO} (f : F p = none) : Same F (upd F p o) := fun c u h => by
  rw [upd_ne (ne_of_none h f)]; exact h
end

/-! ### slots -/
inductive Sl where
  | no | fz (d : PyData) | ow (ds : List PyData) | pt
abbrev Sls := List Sl
structure Wd where
  pp : Addr
  F0 : Hp
  H0 : Hp
  fr : Bool
def SlOk (K : PySem.W.Frag) (W : Wd) (F H : Hp) (o : Option (Option V)) : Sl → Prop
  | .no => True
  | .fz d => ∃ v, o = some (some v) ∧ Rp K F v d
  | .ow ds => ∃ p xs, o = some (some (.ref p)) ∧ H p = some (.lst xs) ∧ F p = none ∧ p ≠ W.pp ∧ W.H0 p = none ∧ RpAll K F xs ds
  | .pt => o = some (some (.ref W.pp))
structure Rel (K : PySem.W.Frag) (W : Wd) (env : Sls) (σ : L2.St) (F H : Hp) : Prop where
  b0 : Bs W.pp W.F0 W.H0
  st : Stp W.pp W.F0 W.H0 F H
  len : σ.length = env.length
  sl : ∀ (i : Nat) (s : Sl), env[i]? = some s → SlOk K W F H (σ[i]?) s
  dis : ∀ (i j : Nat) (p : Addr) (ds es : List PyData), env[i]? = some (.ow ds) → env[j]? = some (.ow es) → σ[i]? = some (some (.ref p)) → σ[j]? = some (some (.ref p)) → i = j
section
variable {K : PySem.W.Frag} {W : Wd} {env : Sls} {σ : L2.St} {F H F' H' : Hp}
theorem Rel.bs (r : Rel K W env σ F H) : Bs W.pp F H := Stp.bs r.b0 r.st
theorem Rel.step (r : Rel K W env σ F H) (s : Stp W.pp F H F' H') : Rel K W env σ F' H' := by
  refine ⟨r.b0, r.st.trans s, r.len, fun i q e => ?_, r.dis⟩
  have h := r.sl i q e
  cases q with
  | no => trivial
  | fz d => obtain ⟨v, h1, h2⟩ := h; exact ⟨v, h1, h2.mono s.ff⟩
  | ow ds =>
    obtain ⟨p, xs, h1, h2, h3, h4, h5, h6⟩ := h
    exact ⟨p, xs, h1, s.fr _ _ h4 h2, s.own h3 (by rw [h2]; exact fun z => nomatch z), h4, h5, h6.mono s.ff⟩
  | pt => exact h
theorem Rel.fz (r : Rel K W env σ F H) {i : Nat} {d : PyData} (e : env[i]? = some (.fz d)) : ∃ v, σ[i]? = some (some v) ∧ Rp K F v d := r.sl i _ e
/-- a slot is set to frozen data -/
theorem Rel.set (r : Rel K W env σ F H) {v : V} {d : PyData} (h : Rp K F v d) (i : Nat) : Rel K W (env.set i (.fz d)) (σ.set i (some v)) F H := by
  refine ⟨r.b0, r.st, by rw [List.length_set, List.length_set]; exact r.len, fun j q e => ?_, fun j l p ds es e1 e2 g1 g2 => ?_⟩
  · rw [List.getElem?_set] at e ⊢
    by_cases hj : i = j
    · subst hj
      rw [if_pos rfl] at e ⊢
      by_cases hl : i < env.length
      · rw [if_pos hl] at e
        cases e
        rw [if_pos (by rw [r.len]; exact hl)]
        exact ⟨v, rfl, h⟩
      · rw [if_neg hl] at e; cases e
    · rw [if_neg hj] at e ⊢
      exact r.sl j q e
  · have n1 : i ≠ j := fun z => by
      subst z
      rw [List.getElem?_set, if_pos rfl] at e1
      split at e1 <;> cases e1
    have n2 : i ≠ l := fun z => by
      subst z
      rw [List.getElem?_set, if_pos rfl] at e2
      split at e2 <;> cases e2
    rw [List.getElem?_set_ne n1] at e1 g1
    rw [List.getElem?_set_ne n2] at e2 g2
    exact r.dis j l p ds es e1 e2 g1 g2
/-- a slot is forgotten -/
theorem Rel.unset (r : Rel K W env σ F H) (o : Option V) (i : Nat) : Rel K W (env.set i .no) (σ.set i o) F H := by
  refine ⟨r.b0, r.st, by rw [List.length_set, List.length_set]; exact r.len, fun j q e => ?_, fun j l p ds es e1 e2 g1 g2 => ?_⟩
  · rw [List.getElem?_set] at e ⊢
    by_cases hj : i = j
    · subst hj
      rw [if_pos rfl] at e
      by_cases hl : i < env.length
      · rw [if_pos hl] at e
        cases e
        trivial
      · rw [if_neg hl] at e; cases e
    · rw [if_neg hj] at e ⊢
      exact r.sl j q e
  · have n1 : i ≠ j := fun z => by
      subst z
      rw [List.getElem?_set, if_pos rfl] at e1
      split at e1 <;> cases e1
    have n2 : i ≠ l := fun z => by
      subst z
      rw [List.getElem?_set, if_pos rfl] at e2
      split at e2 <;> cases e2
    rw [List.getElem?_set_ne n1] at e1 g1
    rw [List.getElem?_set_ne n2] at e2 g2
    exact r.dis j l p ds es e1 e2 g1 g2
/-- a slot gets a new list of its own -/
theorem Rel.setO (r : Rel K W env σ F H) {p : Addr} {xs : List V} {ds : List PyData} (n : H p = none) (h : RpAll K F xs ds) (i : Nat) :
    Rel K W (env.set i (.ow ds)) (σ.set i (some (.ref p))) F (upd H p (.lst xs)) := by
  have B := r.bs
  have r2 := r.step (Stp.newO (o := .lst xs) B n)
  have hf : F p = none := by
    cases q : F p with
    | none => rfl
    | some o => rw [B.fh p o q] at n; cases n
  have np : p ≠ W.pp := fun e => by subst e; exact B.po.some n
  have h0 : W.H0 p = none := by
    cases q : W.H0 p with
    | none => rfl
    | some o => rw [r.st.fr p o np q] at n; cases n
  have apart : ∀ (j : Nat) (q : Addr) (es : List PyData), env[j]? = some (Sl.ow es) → σ[j]? = some (some (V.ref q)) → q ≠ p := fun j q es e g => by
    obtain ⟨p', xs', h1, h2, _⟩ := r.sl j _ e
    rw [g] at h1
    cases h1
    exact ne_of_none h2 n
  refine ⟨r.b0, r2.st, by rw [List.length_set, List.length_set]; exact r.len, fun j q e => ?_, fun j l q ds' es e1 e2 g1 g2 => ?_⟩
  · rw [List.getElem?_set] at e ⊢
    by_cases hj : i = j
    · subst hj
      rw [if_pos rfl] at e ⊢
      by_cases hl : i < env.length
      · rw [if_pos hl] at e
        cases e
        rw [if_pos (by rw [r.len]; exact hl)]
        exact ⟨p, xs, rfl, upd_same, hf, np, h0, h⟩
      · rw [if_neg hl] at e; cases e
    · rw [if_neg hj] at e ⊢
      exact r2.sl j q e
  · by_cases n1 : i = j
    · by_cases n2 : i = l
      · rw [← n1, ← n2]
      · subst n1
        rw [List.getElem?_set_ne n2] at e2 g2
        have hl : i < σ.length := by
          rw [List.getElem?_set, if_pos rfl] at g1
          split at g1
          · assumption
          · cases g1
        rw [List.getElem?_set_self hl] at g1
        cases g1
        exact absurd rfl (apart l p es e2 g2)
    · by_cases n2 : i = l
      · subst n2
        rw [List.getElem?_set_ne n1] at e1 g1
        have hl : i < σ.length := by
          rw [List.getElem?_set, if_pos rfl] at g2
          split at g2
          · assumption
          · cases g2
        rw [List.getElem?_set_self hl] at g2
        cases g2
        exact absurd rfl (apart j p ds' e1 g1)
      · rw [List.getElem?_set_ne n1] at e1 g1
        rw [List.getElem?_set_ne n2] at e2 g2
        exact r.dis j l q ds' es e1 e2 g1 g2
/-- an owned list is written -/
theorem Rel.wr (r : Rel K W env σ F H) {i : Nat} {p : Addr} {ds ds' : List PyData} {xs' : List V} (e : env[i]? = some (.ow ds)) (g : σ[i]? = some (some (.ref p))) (h : RpAll K F xs' ds') :
    Rel K W (env.set i (.ow ds')) σ F (upd H p (.lst xs')) := by
  obtain ⟨p', xs, h1, h2, h3, h4, h5, h6⟩ := r.sl i _ e
  rw [g] at h1
  cases h1
  have hi : i < env.length := (List.getElem?_eq_some_iff.mp e).1
  refine ⟨r.b0, r.st.write h5 h3 h4, by rw [List.length_set]; exact r.len, fun j q e' => ?_, fun j l q ds1 es e1 e2 g1 g2 => ?_⟩
  · by_cases hj : i = j
    · subst hj
      rw [List.getElem?_set_self hi] at e'
      cases e'
      exact ⟨p, xs', g, upd_same, h3, h4, h5, h⟩
    · rw [List.getElem?_set_ne hj] at e'
      have z := r.sl j q e'
      cases q with
      | no => trivial
      | fz d => exact z
      | ow es =>
        obtain ⟨p2, ys, z1, z2, z3, z4, z5, z6⟩ := z
        refine ⟨p2, ys, z1, ?_, z3, z4, z5, z6⟩
        have np : p2 ≠ p := fun ee => by
          subst ee
          exact hj (r.dis i j p2 ds es e e' g z1)
        rw [upd_ne np]; exact z2
      | pt => exact z
  · have back : ∀ (m : Nat) (ds2 : List PyData), (env.set i (Sl.ow ds'))[m]? = some (Sl.ow ds2) → ∃ ds3, env[m]? = some (Sl.ow ds3) := fun m ds2 h => by
      by_cases hm : i = m
      · subst hm; exact ⟨ds, e⟩
      · rw [List.getElem?_set_ne hm] at h; exact ⟨ds2, h⟩
    obtain ⟨d1, f1⟩ := back j ds1 e1
    obtain ⟨d2, f2⟩ := back l es e2
    exact r.dis j l q d1 d2 f1 f2 g1 g2
/-- an owned list is frozen -/
theorem Rel.fzo (r : Rel K W env σ F H) {i : Nat} {ds : List PyData} (e : env[i]? = some (.ow ds)) : ∃ F', Same F F' ∧ Rel K W (env.set i (.fz (.list ds))) σ F' H := by
  obtain ⟨p, xs, h1, h2, h3, h4, h5, h6⟩ := r.sl i _ e
  have hi : i < env.length := (List.getElem?_eq_some_iff.mp e).1
  have sf : Same F (upd F p (.lst xs)) := same_upd h3
  have st : Stp W.pp W.F0 W.H0 (upd F p (.lst xs)) H := r.st.freeze h5 h3 h2
  refine ⟨upd F p (.lst xs), sf, r.b0, st, by rw [List.length_set]; exact r.len, fun j q e' => ?_, fun j l q ds1 es e1 e2 g1 g2 => ?_⟩
  · by_cases hj : i = j
    · subst hj
      rw [List.getElem?_set_self hi] at e'
      cases e'
      exact ⟨.ref p, h1, .lst upd_same (h6.mono sf)⟩
    · rw [List.getElem?_set_ne hj] at e'
      have z := r.sl j q e'
      cases q with
      | no => trivial
      | fz d => obtain ⟨v, z1, z2⟩ := z; exact ⟨v, z1, z2.mono sf⟩
      | ow es =>
        obtain ⟨p2, ys, z1, z2, z3, z4, z5, z6⟩ := z
        refine ⟨p2, ys, z1, z2, ?_, z4, z5, z6.mono sf⟩
        have np : p2 ≠ p := fun ee => by
          subst ee
          exact hj (r.dis i j p2 ds es e e' h1 z1)
        rw [upd_ne np]; exact z3
      | pt => exact z
  · have back : ∀ (m : Nat) (ds2 : List PyData), (env.set i (Sl.fz (.list ds)))[m]? = some (Sl.ow ds2) → env[m]? = some (Sl.ow ds2) := fun m ds2 h => by
      by_cases hm : i = m
      · subst hm; rw [List.getElem?_set_self hi] at h; cases h
      · rw [List.getElem?_set_ne hm] at h; exact h
    exact r.dis j l q ds1 es (back j ds1 e1) (back l es e2) g1 g2
end
end Dl

namespace Dl
open PySem PySem.Spec PyProof.Rows L2

abbrev KF := PyData → Bool
abbrev DE := Sls → KF → Bool
abbrev DT := Sls → (Bool → Bool) → Bool
abbrev DA := Sls → (List PyData → Bool) → Bool
abbrev G2 := PyData → PyData → KF → Bool
abbrev G1 := PyData → KF → Bool

def look : Sls → Nat → Sl
  | [], _ => .no
  | s :: _, 0 => s
  | _ :: r, n + 1 => look r n
theorem look_some : ∀ {env : Sls} {i : Nat} {s : Sl}, look env i = s → s ≠ .no → env[i]? = some s
  | [], _, _, h, n => absurd h.symm n
  | _ :: _, 0, _, h, _ => by rw [← h]; rfl
  | _ :: r, i + 1, s, h, n => by
    rw [List.getElem?_cons_succ]
    exact look_some (env := r) h n

section
variable (K : PySem.W.Frag) (W : Wd)
def OkE (t : TE) (e : DE) : Prop := ∀ (env : Sls) (σ : L2.St) (F H : Hp) (k : KF) (Q : VK), Rel K W env σ F H → e env k = true → (∀ d v F' H', Stp W.pp F H F' H' → Rp K F' v d → k d = true → Q v H') → t σ H Q
def OkT (t : TT) (e : DT) : Prop := ∀ (env : Sls) (σ : L2.St) (F H : Hp) (k : Bool → Bool) (Q : Bool → Hp → Prop), Rel K W env σ F H → e env k = true → (∀ b F' H', Stp W.pp F H F' H' → k b = true → Q b H') → t σ H Q
def OkA (t : TA) (e : DA) : Prop := ∀ (env : Sls) (σ : L2.St) (F H : Hp) (k : List PyData → Bool) (Q : List V → Hp → Prop), Rel K W env σ F H → e env k = true → (∀ ds vs F' H', Stp W.pp F H F' H' → RpAll K F' vs ds → k ds = true → Q vs H') → t σ H Q
def OkR (r : R2) (g : G2) : Prop := ∀ (F H : Hp) (x y : V) (a b : PyData) (k : KF) (Q : VK), Bs W.pp F H → Rp K F x a → Rp K F y b → g a b k = true → (∀ d v F' H', Stp W.pp F H F' H' → Rp K F' v d → k d = true → Q v H') → r x y H Q
def OkU (r : V → Hp → VK → Prop) (g : G1) : Prop := ∀ (F H : Hp) (x : V) (a : PyData) (k : KF) (Q : VK), Bs W.pp F H → Rp K F x a → g a k = true → (∀ d v F' H', Stp W.pp F H F' H' → Rp K F' v d → k d = true → Q v H') → r x H Q
/-- a call of a built-in by its arguments -/
abbrev GC := List PyData → KF → Bool
def OkC (r : List V → Hp → VK → Prop) (g : GC) : Prop := ∀ (F H : Hp) (vs : List V) (ds : List PyData) (k : KF) (Q : VK), Bs W.pp F H → RpAll K F vs ds → g ds k = true → (∀ d v F' H', Stp W.pp F H F' H' → Rp K F' v d → k d = true → Q v H') → r vs H Q
end

structure SE (W : Wd) (X : Cx) (e : Expr) (de : DE) : Prop where
  ex : ∃ t, PE X e t ∧ OkE X.K W t de
structure ST (W : Wd) (X : Cx) (e : Expr) (dt : DT) : Prop where
  ex : ∃ t, PT X e t ∧ OkT X.K W t dt
structure SW (W : Wd) (X : Cx) (e : Expr) (dt : DT) : Prop where
  ex : ∃ t, PW X e t ∧ OkT X.K W t dt
structure SA (W : Wd) (X : Cx) (es : List Expr) (da : DA) : Prop where
  ex : ∃ t, PA X es t ∧ OkA X.K W t da

/-! ### combinators -/
def dVar (i : Nat) : DE := fun env k => match look env i with
  | .fz d => k d
  | _ => false
def dC (d : PyData) : DE := fun _ k => k d
def dOp (g : G2) (a b : DE) : DE := fun env k => a env fun x => b env fun y => g x y k
def dUn (g : G1) (a : DE) : DE := fun env k => a env fun x => g x k
def dB (a : DE) : DT := fun env k => a env fun x => match x with
  | .bool b => k b
  | _ => false
def dAnd (a b : DT) : DT := fun env k => a env fun c => match c with
  | true => b env k
  | false => k false
def dOr (a b : DT) : DT := fun env k => a env fun c => match c with
  | true => k true
  | false => b env k
def dNot (a : DT) : DT := fun env k => a env fun c => k (!c)
def dAndV (a b : DE) : DE := fun env k => a env fun x => match x with
  | .bool true => b env k
  | .bool false => k (.bool false)
  | _ => false
def dOrV (a b : DE) : DE := fun env k => a env fun x => match x with
  | .bool true => k (.bool true)
  | .bool false => b env k
  | _ => false
def dNotV (a : DE) : DE := fun env k => a env fun x => match x with
  | .bool c => k (.bool (!c))
  | _ => false
def dIf (c : DT) (a b : DE) : DE := fun env k => c env fun x => match x with
  | true => a env k
  | false => b env k
def aNil : DA := fun _ k => k []
def aCons (a : DE) (r : DA) : DA := fun env k => a env fun x => r env fun xs => k (x :: xs)
def small (n : Nat) : Bool := Nat.ble n 100000
theorem small_ok {n : Nat} (h : small n = true) : n ≤ sizeLine := Nat.le_trans (Nat.le_of_ble_eq_true h) (by decide)
def dTup (a : DA) : DE := fun env k => a env fun xs => match small xs.length with
  | true => k (.tuple xs)
  | false => false
def dLst (a : DA) : DE := fun env k => a env fun xs => match small xs.length with
  | true => k (.list xs)
  | false => false
def dCB (g : GC) (a : DA) : DE := fun env k => a env fun xs => g xs k

section
variable {W : Wd} {X : Cx} {K : PySem.W.Frag} {ea eb ec : Expr} {da db dc : DE} {ta tb tc : DT} {pos : Pos} {es : List Expr} {dr : DA}

theorem se_var {i : Nat} {x : Str} (hN : X.N[i]? = some x := by rfl) (hv : Vis X.env.scope x := by first | exact Or.inl rfl | exact Or.inr (Or.inl rfl) | exact Or.inr (Or.inr rfl)) (hd : (x == ("__debug__" : Str)) = false := by decide)
    (hcd : (x == ("__classdict__" : Str)) = false := by decide) : SE W X (.Name x pos) (dVar i) := by
  refine ⟨_, pe_var hN hv hd hcd, fun env σ F H k Q R h q => ?_⟩
  unfold dVar at h
  cases e : look env i with
  | fz d =>
    rw [e] at h
    obtain ⟨v, h1, h2⟩ := R.fz (look_some e (fun z => nomatch z))
    exact ⟨v, h1, q d v F H (Stp.refl R.bs) h2 h⟩
  | _ => rw [e] at h; cases h
theorem okE_c {v : V} {d : PyData} (r : ∀ F, Rp K F v d) : OkE K W (tC v) (dC d) := fun env σ F H k Q R h q => q d v F H (Stp.refl R.bs) (r F) h
theorem se_int {i j} : SE W X (.Constant (.int i) j pos) (dC (.int i)) := ⟨_, pe_int, okE_c fun _ => .int i⟩
theorem se_bl {b j} : SE W X (.Constant (.bool b) j pos) (dC (.bool b)) := ⟨_, pe_bl, okE_c fun _ => .bl b⟩
theorem se_non {j} : SE W X (.Constant .none j pos) (dC .none) := ⟨_, pe_non, okE_c fun _ => .non⟩
theorem se_str {x j} : SE W X (.Constant (.str x) j pos) (dC (.str x)) := ⟨_, pe_str, okE_c fun _ => .str x⟩
/-- a constant of the module -/
structure Glo (K : PySem.W.Frag) (mg : Str → Option Value) (x : Str) (d : PyData) : Prop where
  ex : ∃ u v, mg x = some u ∧ RelV v u ∧ ∀ F, Rp K F v d
theorem se_glob {x : Str} {d : PyData} (g : Glo X.K X.mg x d) (hg : Gl X x := by rfl) (hd : (x == ("__debug__" : Str)) = false := by decide) : SE W X (.Name x pos) (dC d) := by
  obtain ⟨u, v, h1, h2, h3⟩ := g
  exact ⟨_, pe_glob hg h1 h2 hd, okE_c h3⟩
theorem okE_op {ta tb : TE} {r : R2} {g : G2} (a : OkE K W ta da) (b : OkE K W tb db) (hr : OkR K W r g) : OkE K W (tOp r ta tb) (dOp g da db) := fun env σ F H k Q R h q =>
  a env σ F H _ _ R h fun d v F1 H1 s1 r1 h1 => b env σ F1 H1 _ _ (R.step s1) h1 fun d2 v2 F2 H2 s2 r2 h2 =>
    hr F2 H2 v v2 d d2 k Q ((R.step s1).step s2).bs (r1.mono s2.ff) r2 h2 fun d3 v3 F3 H3 s3 r3 h3 => q d3 v3 F3 H3 ((s1.trans s2).trans s3) r3 h3
theorem okE_un {ta : TE} {r : V → Hp → VK → Prop} {g : G1} (a : OkE K W ta da) (hr : OkU K W r g) : OkE K W (tUn r ta) (dUn g da) := fun env σ F H k Q R h q =>
  a env σ F H _ _ R h fun d v F1 H1 s1 r1 h1 => hr F1 H1 v d k Q (R.step s1).bs r1 h1 fun d3 v3 F3 H3 s3 r3 h3 => q d3 v3 F3 H3 (s1.trans s3) r3 h3
theorem se_bin {op : Operator} {r : R2} {g : G2} (ho : OpR X (binaryOp op) r) (hr : OkR X.K W r g) (a : SE W X ea da) (b : SE W X eb db) : SE W X (.BinOp ea op eb pos) (dOp g da db) := by
  obtain ⟨t1, p1, o1⟩ := a
  obtain ⟨t2, p2, o2⟩ := b
  exact ⟨_, pe_op ho p1 p2, okE_op o1 o2 hr⟩
theorem se_un {op : UnaryOp} {r : V → Hp → VK → Prop} {g : G1} (ho : UnR X (unaryOp op) r) (hr : OkU X.K W r g) (a : SE W X ea da) : SE W X (.UnaryOp op ea pos) (dUn g da) := by
  obtain ⟨t1, p1, o1⟩ := a
  exact ⟨_, pe_un ho p1, okE_un o1 hr⟩
theorem se_cmp {op : CmpOp} {r : R2} {g : G2} (ho : OpR X (compareOp op) r) (hr : OkR X.K W r g) (a : SE W X ea da) (b : SE W X eb db) (hm : behindInMarks op eb = false := by exact nomark _) : SE W X (.Compare ea [op] [eb] pos) (dOp g da db) := by
  obtain ⟨t1, p1, o1⟩ := a
  obtain ⟨t2, p2, o2⟩ := b
  exact ⟨_, pe_cmpR ho p1 p2 hm, okE_op o1 o2 hr⟩
theorem okT_test {t : TE} (a : OkE K W t da) : OkT K W (tTest t) (dB da) := fun env σ F H k Q R h q =>
  a env σ F H _ _ R h fun d v F1 H1 s1 r1 h1 => by
    cases d with
    | bool b => cases r1; exact ⟨b, rfl, q b F1 H1 s1 h1⟩
    | _ => cases h1
theorem okT_B {t : TE} (a : OkE K W t da) : OkT K W (tB t) (dB da) := okT_test a
theorem st_cmp {op : CmpOp} {r : R2} {g : G2} (ho : OpR X (compareOp op) r) (hr : OkR X.K W r g) (a : SE W X ea da) (b : SE W X eb db) (hm : behindInMarks op eb = false := by exact nomark _) : ST W X (.Compare ea [op] [eb] pos) (dB (dOp g da db)) := by
  obtain ⟨t1, p1, o1⟩ := a
  obtain ⟨t2, p2, o2⟩ := b
  exact ⟨_, pt_cmpR ho p1 p2 hm, okT_test (okE_op o1 o2 hr)⟩
/-- a < b < c -/
def dChain (g g' : G2) (a b c : DE) : DE := fun env k => a env fun x => b env fun y => g x y fun z => match z with
  | .bool true => c env fun w => g' y w k
  | .bool false => k (.bool false)
  | _ => false
theorem okE_chain {t1 t2 t3 : TE} {r r' : R2} {g g' : G2} (a : OkE K W t1 da) (b : OkE K W t2 db) (c : OkE K W t3 dc) (hr : OkR K W r g) (hr' : OkR K W r' g') : OkE K W (tChain r r' t1 t2 t3) (dChain g g' da db dc) := fun env σ F H k Q R h q =>
  a env σ F H _ _ R h fun d v F1 H1 s1 r1 h1 => b env σ F1 H1 _ _ (R.step s1) h1 fun d2 v2 F2 H2 s2 r2 h2 =>
    hr F2 H2 v v2 d d2 _ _ ((R.step s1).step s2).bs (r1.mono s2.ff) r2 h2 fun d3 v3 F3 H3 s3 r3 h3 => by
      cases d3 with
      | bool z =>
        cases r3
        refine ⟨z, rfl, ?_⟩
        cases z with
        | true =>
          rw [if_pos rfl]
          refine c env σ F3 H3 _ _ (((R.step s1).step s2).step s3) h3 fun d4 v4 F4 H4 s4 r4 h4 => ?_
          exact hr' F4 H4 v2 v4 d2 d4 k Q ((((R.step s1).step s2).step s3).step s4).bs (r2.mono (s3.ff.trans s4.ff)) r4 h4 fun d5 v5 F5 H5 s5 r5 h5 => q d5 v5 F5 H5 ((((s1.trans s2).trans s3).trans s4).trans s5) r5 h5
        | false =>
          rw [if_neg Bool.false_ne_true]
          exact q _ _ F3 H3 ((s1.trans s2).trans s3) (.bl false) h3
      | _ => cases h3
theorem se_chain {op op' : CmpOp} {r r' : R2} {g g' : G2} (ho : OpR X (compareOp op) r) (hr : OkR X.K W r g) (ho' : OpR X (compareOp op') r') (hr' : OkR X.K W r' g') (a : SE W X ea da) (b : SE W X eb db) (c : SE W X ec dc)
    (hm : lastMarks [op, op'] [eb, ec] = false := by rfl) : SE W X (.Compare ea [op, op'] [eb, ec] pos) (dChain g g' da db dc) := by
  obtain ⟨t1, p1, o1⟩ := a
  obtain ⟨t2, p2, o2⟩ := b
  obtain ⟨t3, p3, o3⟩ := c
  exact ⟨_, pe_chain ho ho' p1 p2 p3 hm, okE_chain o1 o2 o3 hr hr'⟩
theorem st_chain {op op' : CmpOp} {r r' : R2} {g g' : G2} (ho : OpR X (compareOp op) r) (hr : OkR X.K W r g) (ho' : OpR X (compareOp op') r') (hr' : OkR X.K W r' g') (a : SE W X ea da) (b : SE W X eb db) (c : SE W X ec dc)
    (hm : lastMarks [op, op'] [eb, ec] = false := by rfl) : ST W X (.Compare ea [op, op'] [eb, ec] pos) (dB (dChain g g' da db dc)) := by
  obtain ⟨t1, p1, o1⟩ := a
  obtain ⟨t2, p2, o2⟩ := b
  obtain ⟨t3, p3, o3⟩ := c
  exact ⟨_, pt_chain ho ho' p1 p2 p3 hm, okT_test (okE_chain o1 o2 o3 hr hr')⟩
/-- a value as a test -/
theorem st_val (a : SE W X ea da) (he : ∀ whole, isTrue ea X.env whole = (do let v ← whole; standAt ea.pos; holding [v] (truthy v)) := by intro _; rfl) : ST W X ea (dB da) := by
  obtain ⟨t1, p1, o1⟩ := a
  exact ⟨_, pt_val p1 he, okT_B o1⟩
theorem SW.st (h : SW W X ea ta) : ST W X ea ta := by
  obtain ⟨t, p, o⟩ := h
  exact ⟨t, p.pt, o⟩
theorem sw_and1 (a : ST W X ea ta) : SW W X (.BoolOp .And [ea] pos) ta := by
  obtain ⟨t, p, o⟩ := a
  exact ⟨t, pw_and1 p, o⟩
theorem sw_or1 (a : ST W X ea ta) : SW W X (.BoolOp .Or [ea] pos) ta := by
  obtain ⟨t, p, o⟩ := a
  exact ⟨t, pw_or1 p, o⟩
theorem sw_and (a : ST W X ea ta) (b : SW W X (.BoolOp .And (eb :: es) pos) tb) : SW W X (.BoolOp .And (ea :: eb :: es) pos) (dAnd ta tb) := by
  obtain ⟨t1, p1, o1⟩ := a
  obtain ⟨t2, p2, o2⟩ := b
  refine ⟨_, pw_and p1 p2, fun env σ F H k Q R h q => ?_⟩
  refine o1 env σ F H _ _ R h fun b F1 H1 s1 h1 => ?_
  cases b with
  | true => rw [if_pos rfl]; exact o2 env σ F1 H1 _ _ (R.step s1) h1 fun b F2 H2 s2 h2 => q b F2 H2 (s1.trans s2) h2
  | false => rw [if_neg Bool.false_ne_true]; exact q false F1 H1 s1 h1
theorem sw_or (a : ST W X ea ta) (b : SW W X (.BoolOp .Or (eb :: es) pos) tb) : SW W X (.BoolOp .Or (ea :: eb :: es) pos) (dOr ta tb) := by
  obtain ⟨t1, p1, o1⟩ := a
  obtain ⟨t2, p2, o2⟩ := b
  refine ⟨_, pw_or p1 p2, fun env σ F H k Q R h q => ?_⟩
  refine o1 env σ F H _ _ R h fun b F1 H1 s1 h1 => ?_
  cases b with
  | true => rw [if_pos rfl]; exact q true F1 H1 s1 h1
  | false => rw [if_neg Bool.false_ne_true]; exact o2 env σ F1 H1 _ _ (R.step s1) h1 fun b F2 H2 s2 h2 => q b F2 H2 (s1.trans s2) h2
theorem st_not (a : ST W X ea ta) : ST W X (.UnaryOp .Not ea pos) (dNot ta) := by
  obtain ⟨t, p, o⟩ := a
  exact ⟨_, pt_not p, fun env σ F H k Q R h q => o env σ F H _ _ R h fun b F1 H1 s1 h1 => q _ F1 H1 s1 h1⟩
theorem se_one {op} (a : SE W X ea da) : SE W X (.BoolOp op [ea] pos) da := by
  obtain ⟨t, p, o⟩ := a
  exact ⟨t, pe_one p, o⟩
theorem se_and (a : SE W X ea da) (b : SE W X (.BoolOp .And (eb :: es) pos) db) : SE W X (.BoolOp .And (ea :: eb :: es) pos) (dAndV da db) := by
  obtain ⟨t1, p1, o1⟩ := a
  obtain ⟨t2, p2, o2⟩ := b
  refine ⟨_, pe_and p1 p2, fun env σ F H k Q R h q => ?_⟩
  refine o1 env σ F H _ _ R h fun d v F1 H1 s1 r1 h1 => ?_
  cases d with
  | bool c =>
    cases r1
    refine ⟨c, rfl, ?_⟩
    cases c with
    | true => rw [if_pos rfl]; exact o2 env σ F1 H1 _ _ (R.step s1) h1 fun d2 v2 F2 H2 s2 r2 h2 => q d2 v2 F2 H2 (s1.trans s2) r2 h2
    | false => rw [if_neg Bool.false_ne_true]; exact q _ _ F1 H1 s1 (.bl false) h1
  | _ => cases h1
theorem se_or (a : SE W X ea da) (b : SE W X (.BoolOp .Or (eb :: es) pos) db) : SE W X (.BoolOp .Or (ea :: eb :: es) pos) (dOrV da db) := by
  obtain ⟨t1, p1, o1⟩ := a
  obtain ⟨t2, p2, o2⟩ := b
  refine ⟨_, pe_or p1 p2, fun env σ F H k Q R h q => ?_⟩
  refine o1 env σ F H _ _ R h fun d v F1 H1 s1 r1 h1 => ?_
  cases d with
  | bool c =>
    cases r1
    refine ⟨c, rfl, ?_⟩
    cases c with
    | true => rw [if_pos rfl]; exact q _ _ F1 H1 s1 (.bl true) h1
    | false => rw [if_neg Bool.false_ne_true]; exact o2 env σ F1 H1 _ _ (R.step s1) h1 fun d2 v2 F2 H2 s2 r2 h2 => q d2 v2 F2 H2 (s1.trans s2) r2 h2
  | _ => cases h1
theorem se_not (a : SE W X ea da) : SE W X (.UnaryOp .Not ea pos) (dNotV da) := by
  obtain ⟨t, p, o⟩ := a
  refine ⟨_, pe_not p, fun env σ F H k Q R h q => o env σ F H _ _ R h fun d v F1 H1 s1 r1 h1 => ?_⟩
  cases d with
  | bool c => cases r1; exact ⟨c, rfl, q _ _ F1 H1 s1 (.bl _) h1⟩
  | _ => cases h1
theorem se_if (c : ST W X ec tc) (a : SE W X ea da) (b : SE W X eb db) : SE W X (.IfExp ec ea eb pos) (dIf tc da db) := by
  obtain ⟨t0, p0, o0⟩ := c
  obtain ⟨t1, p1, o1⟩ := a
  obtain ⟨t2, p2, o2⟩ := b
  refine ⟨_, pe_ifExp p0 p1 p2, fun env σ F H k Q R h q => ?_⟩
  refine o0 env σ F H _ _ R h fun b F1 H1 s1 h1 => ?_
  cases b with
  | true => rw [if_pos rfl]; exact o1 env σ F1 H1 _ _ (R.step s1) h1 fun d2 v2 F2 H2 s2 r2 h2 => q d2 v2 F2 H2 (s1.trans s2) r2 h2
  | false => rw [if_neg Bool.false_ne_true]; exact o2 env σ F1 H1 _ _ (R.step s1) h1 fun d2 v2 F2 H2 s2 r2 h2 => q d2 v2 F2 H2 (s1.trans s2) r2 h2
theorem sa_nil : SA W X [] aNil := ⟨_, pa_nil, fun env σ F H k Q R h q => q [] [] F H (Stp.refl R.bs) .nil h⟩
theorem sa_cons (a : SE W X ea da) (r : SA W X es dr) (hs : starEach (ea :: es) X.env = (false, eval ea X.env) :: starEach es X.env := by rfl) : SA W X (ea :: es) (aCons da dr) := by
  obtain ⟨t1, p1, o1⟩ := a
  obtain ⟨t2, p2, o2⟩ := r
  refine ⟨_, pa_cons p1 p2 hs, fun env σ F H k Q R h q => ?_⟩
  exact o1 env σ F H _ _ R h fun d v F1 H1 s1 r1 h1 => o2 env σ F1 H1 _ _ (R.step s1) h1 fun ds vs F2 H2 s2 r2 h2 => q (d :: ds) (v :: vs) F2 H2 (s1.trans s2) (.cons (r1.mono s2.ff) r2) h2
theorem se_tup {x1} (a : SA W X es dr) : SE W X (.Tuple es x1 pos) (dTup dr) := by
  obtain ⟨t, p, o⟩ := a
  refine ⟨_, pe_tup p, fun env σ F H k Q R h q => ?_⟩
  refine o env σ F H _ _ R h fun ds vs F1 H1 s1 r1 h1 => ?_
  cases e : small ds.length with
  | true =>
    rw [e] at h1
    refine ⟨by rw [r1.length]; exact small_ok e, fun a na => ?_⟩
    have B := (R.step s1).bs
    have st := Stp.new (o := .tup vs) B na
    exact q (.tuple ds) (.ref a) _ _ (s1.trans st) (.tup upd_same (r1.mono st.ff)) h1
  | false => rw [e] at h1; cases h1
theorem se_lst (a : SA W X es dr) : SE W X (.List es pos) (dLst dr) := by
  obtain ⟨t, p, o⟩ := a
  refine ⟨_, pe_lst p, fun env σ F H k Q R h q => ?_⟩
  refine o env σ F H _ _ R h fun ds vs F1 H1 s1 r1 h1 => ?_
  cases e : small ds.length with
  | true =>
    rw [e] at h1
    refine ⟨by rw [r1.length]; exact small_ok e, fun a na => ?_⟩
    have B := (R.step s1).bs
    have st := Stp.new (o := .lst vs) B na
    exact q (.list ds) (.ref a) _ _ (s1.trans st) (.lst upd_same (r1.mono st.ff)) h1
  | false => rw [e] at h1; cases h1
theorem okE_cb {t : TA} {r : List V → Hp → VK → Prop} {g : GC} (a : OkA K W t dr) (hr : OkC K W r g) : OkE K W (tCB r t) (dCB g dr) := fun env σ F H k Q R h q =>
  a env σ F H _ _ R h fun ds vs F1 H1 s1 r1 h1 => hr F1 H1 vs ds k Q (R.step s1).bs r1 h1 fun d v F2 H2 s2 r2 h2 => q d v F2 H2 (s1.trans s2) r2 h2
theorem se_cb {x : Str} {p : Pos} {id : String} {r : List V → Hp → VK → Prop} {g : GC} (hc : CallR X (.builtin id) r) (hr : OkC X.K W r g) (hm : X.mg x = none) (a : SA W X (ea :: es) dr) (hg : Gl X x := by rfl) (hv : bootBuiltins x = some (.builtin id) := by decide +kernel) (hn : x ≠ "__name__" := by decide)
    (hdb : (x == ("__debug__" : Str)) = false := by decide) (he : starEach (ea :: es) X.env = (false, eval ea X.env) :: starEach es X.env := by rfl) (hpl : (backTo pos (starEach es X.env)).any (·.1) = false := by rfl) : SE W X (.Call (.Name x p) (ea :: es) [] pos) (dCB g dr) := by
  obtain ⟨t, q, o⟩ := a
  exact ⟨_, pe_callB hc hg hm hv q hn hdb he hpl, okE_cb o hr⟩
theorem se_cty {x : Str} {p : Pos} {T : String} {r : List V → Hp → VK → Prop} {g : GC} (hc : CallR X (.type T) r) (hr : OkC X.K W r g) (hm : X.mg x = none) (a : SA W X (ea :: es) dr) (hg : Gl X x := by rfl) (hv : bootBuiltins x = some (.type T) := by decide +kernel) (hn : x ≠ "__name__" := by decide)
    (hdb : (x == ("__debug__" : Str)) = false := by decide) (he : starEach (ea :: es) X.env = (false, eval ea X.env) :: starEach es X.env := by rfl) (hpl : (backTo pos (starEach es X.env)).any (·.1) = false := by rfl) : SE W X (.Call (.Name x p) (ea :: es) [] pos) (dCB g dr) := by
  obtain ⟨t, q, o⟩ := a
  exact ⟨_, pe_callTy hc hg hm hv q hn hdb he hpl, okE_cb o hr⟩
end
end Dl

namespace Dl
open PySem PySem.Spec PyProof.Rows L2

/-! ### a number worked out at once (for the kernel) -/
def frN (n : Nat) (k : Nat → Bool) : Bool := match n with
  | 0 => k 0
  | m + 1 => k (m + 1)
theorem frN_eq (n : Nat) (k : Nat → Bool) : frN n k = k n := by cases n <;> rfl
def fI (i : Int) (k : Int → Bool) : Bool := match i with
  | .ofNat n => frN n fun n => k (.ofNat n)
  | .negSucc n => frN n fun n => k (.negSucc n)
theorem fI_eq (i : Int) (k : Int → Bool) : fI i k = k i := by
  cases i with
  | ofNat n => exact frN_eq n fun n => k (.ofNat n)
  | negSucc n => exact frN_eq n fun n => k (.negSucc n)
theorem of_fI {i : Int} {k : PyData → Bool} (h : fI i (fun z => k (.int z)) = true) : k (.int i) = true := (fI_eq i fun z => k (.int z)).symm.trans h
section
variable {W : Wd} {X : Cx} {K : PySem.W.Frag}
/-! ### operators on data -/
def rOr (r r' : R2) : R2 := fun x y H Q => r x y H Q ∨ r' x y H Q
theorem rOr_op {f : Value → Value → Sem Value} {r r' : R2} (h : OpR X f r) (h' : OpR X f r') : OpR X f (rOr r r') := h.or h'
def rAdds (K : PySem.W.Frag) : R2 := rOr (rI0 fun i j => .int (i + j)) (rOr rCat (rOr (rCatA K) fun x y H Q => ∃ i j, x = .str i ∧ y = .str j ∧ i.length + j.length ≤ sizeLine ∧ Q (.str (i ++ j)) H))
theorem op_adds : OpR X (binaryOp .Add) (rAdds X.K) := rOr_op op_add (rOr_op op_cat (rOr_op op_catA op_add_str))
def gAdd : G2 := fun a b k => match a with
  | .int i => (match b with
    | .int j => fI (i + j) fun z => k (.int z)
    | _ => false)
  | .list xs => (match b with
    | .list ys => (match small (xs.length + ys.length) with
      | true => k (.list (xs ++ ys))
      | false => false)
    | _ => false)
  | .tuple xs => (match b with
    | .tuple ys => (match small (xs.length + ys.length) with
      | true => k (.tuple (xs ++ ys))
      | false => false)
    | _ => false)
  | .str x => (match b with
    | .str y => (match small (x.length + y.length) with
      | true => k (.str (x ++ y))
      | false => false)
    | _ => false)
  | _ => false
theorem sqT_of {F H : Hp} {a : Addr} {ds : List PyData} (e : Same F H) (h : Rp K F (.ref a) (.tuple ds)) : ∃ xs, SqT K H a xs ∧ RpAll K F xs ds := by
  cases h with
  | tup h r => exact ⟨_, .inl (.inl (e _ _ h)), r⟩
  | ktup h r => exact ⟨_, .inr h, r⟩
theorem ok_add : OkR K W (rAdds K) gAdd := fun F H x y a b k Q B ra rb h q => by
  cases a with
  | int i =>
    cases b with
    | int j => cases ra; cases rb; exact .inl ⟨i, j, rfl, rfl, q _ _ F H (Stp.refl B) (.int _) (of_fI h)⟩
    | _ => cases h
  | list xs =>
    cases b with
    | list ys =>
      cases ra with
      | @lst pa vl _ ha ra =>
        cases rb with
        | @lst pb wl _ hb rb =>
          cases e : small (xs.length + ys.length) with
          | false => simp only [gAdd, e] at h; cases h
          | true =>
            simp only [gAdd, e] at h
            refine .inr (.inl ⟨_, _, _, _, rfl, rfl, B.keep ha, B.keep hb, by rw [ra.length, rb.length]; exact small_ok e, fun p np => ?_⟩)
            have st := Stp.new (o := .lst (vl ++ wl)) B np
            exact q _ _ _ _ st (.lst upd_same ((ra.append rb).mono st.ff)) h
    | _ => cases h
  | tuple xs =>
    cases b with
    | tuple ys =>
      cases x with
      | ref pa =>
        cases y with
        | ref pb =>
          obtain ⟨vs, h1, r1⟩ := sqT_of B.fh ra
          obtain ⟨ws, h2, r2⟩ := sqT_of B.fh rb
          cases e : small (xs.length + ys.length) with
          | false => simp only [gAdd, e] at h; cases h
          | true =>
            simp only [gAdd, e] at h
            refine .inr (.inr (.inl ⟨pa, pb, vs, ws, rfl, rfl, h1, h2, by rw [r1.length, r2.length]; exact small_ok e, fun z => ?_, fun _ z => ?_, fun _ _ p np => ?_⟩))
            · subst z
              cases r1
              exact q _ _ F H (Stp.refl B) rb h
            · subst z
              cases r2
              rw [List.append_nil] at h
              exact q _ _ F H (Stp.refl B) ra h
            · have st := Stp.new (o := .tup (vs ++ ws)) B np
              exact q _ _ _ _ st (.tup upd_same ((r1.append r2).mono st.ff)) h
        | _ => cases rb
      | _ => cases ra
    | _ => cases h
  | str x =>
    cases b with
    | str y =>
      cases ra
      cases rb
      cases e : small (x.length + y.length) with
      | false => simp only [gAdd, e] at h; cases h
      | true =>
        simp only [gAdd, e] at h
        exact .inr (.inr (.inr ⟨x, y, rfl, rfl, small_ok e, q _ _ F H (Stp.refl B) (.str _) h⟩))
    | _ => cases h
  | _ => cases h
theorem op_subB : OpR X (binaryOp .Sub) (fun x y H Q => ∃ a b : Bool, x = .bl a ∧ y = .bl b ∧ Q (.int (b2i a - b2i b)) H) := by
  intro pins s σ H x y v u Q I rx ry h
  obtain ⟨a, b, rfl, rfl, q⟩ := h
  cases rx
  cases ry
  exact PyProof.Rows.sub_bool ⟨.int _, H, I.tok _, ⟨_, rfl⟩, q⟩
def rSubs : R2 := rOr (rI0 fun i j => .int (i - j)) (fun x y H Q => ∃ a b : Bool, x = .bl a ∧ y = .bl b ∧ Q (.int (b2i a - b2i b)) H)
theorem op_subs : OpR X (binaryOp .Sub) rSubs := rOr_op op_sub op_subB
def gSub : G2 := fun a b k => match a with
  | .int i => (match b with
    | .int j => fI (i - j) fun z => k (.int z)
    | _ => false)
  | .bool i => (match b with
    | .bool j => k (.int (b2i i - b2i j))
    | _ => false)
  | _ => false
theorem ok_sub : OkR K W rSubs gSub := fun F H x y a b k Q B ra rb h q => by
  cases a with
  | int i =>
    cases b with
    | int j => cases ra; cases rb; exact .inl ⟨i, j, rfl, rfl, q _ _ F H (Stp.refl B) (.int _) (of_fI h)⟩
    | _ => cases h
  | bool i =>
    cases b with
    | bool j => cases ra; cases rb; exact .inr ⟨i, j, rfl, rfl, q _ _ F H (Stp.refl B) (.int _) h⟩
    | _ => cases h
  | _ => cases h
def mulOk (i j : Int) : Bool := Nat.ble (Nat.add (Nat.log2 i.natAbs) (Nat.log2 j.natAbs)) 999999
theorem mulOk_ok {i j : Int} (h : mulOk i j = true) : CMulW i j := Nat.lt_succ_of_le (Nat.le_of_ble_eq_true h)
def rMuls : R2 := rOr (rI CMulW fun i j => .int (i * j)) rRep
theorem op_muls : OpR X (binaryOp .Mult) rMuls := rOr_op op_mulW op_rep
def repOk (n : Nat) (i : Int) : Bool := match i with
  | .ofNat m => Nat.ble m 100000 && small (n * m)
  | .negSucc m => Nat.ble m 100000
theorem repOk_ok {n : Nat} {i : Int} (h : repOk n i = true) : -(2 ^ 63) ≤ i ∧ i < 2 ^ 63 ∧ n * i.toNat ≤ sizeLine := by
  cases i with
  | negSucc m =>
    have l1 : m ≤ 100000 := Nat.le_of_ble_eq_true h
    refine ⟨by omega, by omega, ?_⟩
    show n * 0 ≤ sizeLine
    rw [Nat.mul_zero]
    exact Nat.zero_le _
  | ofNat m =>
    obtain ⟨e3, e4⟩ := Bool.and_eq_true_iff.mp (show (Nat.ble m 100000 && small (n * m)) = true from h)
    have l1 : m ≤ 100000 := Nat.le_of_ble_eq_true e3
    exact ⟨by rw [Int.ofNat_eq_natCast]; omega, by rw [Int.ofNat_eq_natCast]; omega, small_ok e4⟩
def gMul : G2 := fun a b k => match a with
  | .int i => (match b with
    | .int j => (match mulOk i j with
      | true => fI (i * j) fun z => k (.int z)
      | false => false)
    | _ => false)
  | .list xs => (match b with
    | .int j => (match repOk xs.length j with
      | true => k (.list (List.replicate j.toNat xs).flatten)
      | false => false)
    | _ => false)
  | _ => false
theorem ok_mul : OkR K W rMuls gMul := fun F H x y a b k Q B ra rb h q => by
  cases a with
  | int i =>
    cases b with
    | int j =>
      cases ra
      cases rb
      cases e : mulOk i j with
      | false => simp only [gMul, e] at h; cases h
      | true =>
        simp only [gMul, e] at h
        exact .inl ⟨i, j, rfl, rfl, mulOk_ok e, q _ _ F H (Stp.refl B) (.int _) (of_fI h)⟩
    | _ => cases h
  | list xs =>
    cases b with
    | int j =>
      cases rb
      cases ra with
      | @lst pa vl _ ha ra =>
        cases e : repOk xs.length j with
        | false => simp only [gMul, e] at h; cases h
        | true =>
          simp only [gMul, e] at h
          obtain ⟨l1, l2, l3⟩ := repOk_ok e
          refine .inr ⟨_, _, _, rfl, rfl, B.keep ha, l1, l2, by rw [ra.length]; exact l3, fun p np => ?_⟩
          have st := Stp.new (o := .lst (List.replicate j.toNat vl).flatten) B np
          exact q _ _ _ _ st (.lst upd_same ((ra.rep _).mono st.ff)) h
    | _ => cases h
  | _ => cases h
def divOk (j : Int) : Bool := match j with
  | .ofNat (m + 1) => Nat.ble (Nat.log2 (m + 1)) 8999
  | _ => false
theorem divOk_ok {i j : Int} (h : divOk j = true) : CDivW i j := by
  cases j with
  | negSucc m => cases h
  | ofNat m =>
    cases m with
    | zero => cases h
    | succ m =>
      have h1 : Nat.log2 (m + 1) ≤ 8999 := Nat.le_of_ble_eq_true h
      exact ⟨Int.ofNat_lt.mpr (Nat.succ_pos m), by show Nat.log2 (m + 1) < 9000; omega⟩
def gFdiv : G2 := fun a b k => match a with
  | .int i => (match b with
    | .int j => (match divOk j with
      | true => fI (i / j) fun z => k (.int z)
      | false => false)
    | _ => false)
  | _ => false
theorem ok_fdiv : OkR K W (rI CDivW fun i j => .int (i / j)) gFdiv := fun F H x y a b k Q B ra rb h q => by
  cases a with
  | int i =>
    cases b with
    | int j =>
      cases ra
      cases rb
      cases e : divOk j with
      | false => simp only [gFdiv, e] at h; cases h
      | true =>
        simp only [gFdiv, e] at h
        exact ⟨i, j, rfl, rfl, divOk_ok e, q _ _ F H (Stp.refl B) (.int _) (of_fI h)⟩
    | _ => cases h
  | _ => cases h
def gMod : G2 := fun a b k => match a with
  | .int i => (match b with
    | .int j => (match divOk j with
      | true => fI (i % j) fun z => k (.int z)
      | false => false)
    | _ => false)
  | _ => false
theorem ok_mod : OkR K W (rI (fun _ j => 0 < j) fun i j => .int (i % j)) gMod := fun F H x y a b k Q B ra rb h q => by
  cases a with
  | int i =>
    cases b with
    | int j =>
      cases ra
      cases rb
      cases e : divOk j with
      | false => simp only [gMod, e] at h; cases h
      | true =>
        simp only [gMod, e] at h
        exact ⟨i, j, rfl, rfl, (divOk_ok (i := i) e).1, q _ _ F H (Stp.refl B) (.int _) (of_fI h)⟩
    | _ => cases h
  | _ => cases h
def powOk (i j : Int) : Bool := match j with
  | .ofNat m => Nat.ble m 1000 && Nat.ble i.natAbs 1000000
  | _ => false
def gPow : G2 := fun a b k => match a with
  | .int i => (match b with
    | .int j => (match powOk i j with
      | true => k (.int (i ^ j.toNat))
      | false => false)
    | _ => false)
  | _ => false
theorem ok_pow : OkR K W (rI CPow fun i j => .int (i ^ j.toNat)) gPow := fun F H x y a b k Q B ra rb h q => by
  cases a with
  | int i =>
    cases b with
    | int j =>
      cases ra
      cases rb
      cases e : powOk i j with
      | false => simp only [gPow, e] at h; cases h
      | true =>
        simp only [gPow, e] at h
        refine ⟨i, j, rfl, rfl, ?_, q _ _ F H (Stp.refl B) (.int _) h⟩
        cases j with
        | negSucc m => cases e
        | ofNat m =>
          obtain ⟨e3, e4⟩ := Bool.and_eq_true_iff.mp (show (Nat.ble m 1000 && Nat.ble i.natAbs 1000000) = true from e)
          have l1 : m ≤ 1000 := Nat.le_of_ble_eq_true e3
          have l2 : i.natAbs ≤ 1000000 := Nat.le_of_ble_eq_true e4
          exact ⟨Int.natCast_nonneg m, by show (m : Int) ≤ 1000000; omega, Nat.lt_of_le_of_lt l2 (by decide)⟩
    | _ => cases h
  | _ => cases h
def gNeg : G1 := fun a k => match a with
  | .int i => k (.int (-i))
  | _ => false
theorem ok_neg : OkU K W (rU fun i => .int (-i)) gNeg := fun F H x a k Q B ra h q => by
  cases a with
  | int i => cases ra; exact ⟨i, rfl, q _ _ F H (Stp.refl B) (.int _) h⟩
  | _ => cases h
/-! comparisons -/
def gI (p : Int → Int → Bool) : G2 := fun a b k => match a with
  | .int i => (match b with
    | .int j => k (.bool (p i j))
    | _ => false)
  | _ => false
theorem ok_I {p : Int → Int → Bool} : OkR K W (rI0 fun i j => .bl (p i j)) (gI p) := fun F H x y a b k Q B ra rb h q => by
  cases a with
  | int i =>
    cases b with
    | int j => cases ra; cases rb; exact ⟨i, j, rfl, rfl, q _ _ F H (Stp.refl B) (.bl _) h⟩
    | _ => cases h
  | _ => cases h
abbrev gLt : G2 := gI fun i j => decide (i < j)
abbrev gLe : G2 := gI fun i j => decide (i ≤ j)
abbrev gGt : G2 := gI fun i j => decide (j < i)
abbrev gGe : G2 := gI fun i j => decide (j ≤ i)
/-- ints by hand, the rest as data -/
def gEqS (f : Bool → Bool) : G2 := fun a b k => match SeqAt.shaped a && SeqAt.shaped b with
  | true => k (.bool (f (PyData.eqv a b)))
  | false => false
/-- the commonest kinds at once -/
def eqI (i j : Int) : Bool := match i, j with
  | .ofNat n, .ofNat m => Nat.beq n m
  | .negSucc n, .negSucc m => Nat.beq n m
  | _, _ => false
theorem eqI_eq (i j : Int) : eqI i j = (i == j) := by
  cases i with
  | ofNat n =>
    cases j with
    | ofNat m =>
      show Nat.beq n m = (Int.ofNat n == Int.ofNat m)
      rw [Bool.eq_iff_iff, Nat.beq_eq, beq_iff_eq]
      exact ⟨fun e => by rw [e], fun e => Int.ofNat.inj e⟩
    | negSucc m => rfl
  | negSucc n =>
    cases j with
    | ofNat m => rfl
    | negSucc m =>
      show Nat.beq n m = (Int.negSucc n == Int.negSucc m)
      rw [Bool.eq_iff_iff, Nat.beq_eq, beq_iff_eq]
      exact ⟨fun e => by rw [e], fun e => Int.negSucc.inj e⟩
def eqQ : PyData → PyData → Option Bool
  | .int i, .int j => some (eqI i j)
  | .tuple [.int a, .int b], .tuple [.int c, .int d] => some (eqI a c && eqI b d)
  | _, _ => none
theorem eqQ_ok {a b : PyData} {r : Bool} (h : eqQ a b = some r) : SeqAt.shaped a = true ∧ SeqAt.shaped b = true ∧ PyData.eqv a b = r := by
  unfold eqQ at h
  split at h
  · cases h
    exact ⟨rfl, rfl, (eqI_eq _ _).symm⟩
  · rename_i a b c d
    cases h
    refine ⟨rfl, rfl, ?_⟩
    rw [eqI_eq, eqI_eq]
    show ((a == c) && ((b == d) && true)) = _
    rw [Bool.and_true]
  · cases h
def fEqB (a b : Bool) : Bool := match a, b with
  | true, true => true
  | false, false => true
  | _, _ => false
def b2iD (a : Bool) : Int := match a with
  | true => .ofNat 1
  | false => .ofNat 0
mutual
/-- Python's == worked out at once -/
def fEq : PyData → PyData → Bool
  | .none, .none => true
  | .bool a, .bool b => fEqB a b
  | .bool a, .int j => eqI (b2iD a) j
  | .int i, .bool b => eqI i (b2iD b)
  | .int i, .int j => eqI i j
  | .str x, .str y => decide (x = y)
  | .list xs, .list ys => fEqs xs ys
  | .tuple xs, .tuple ys => fEqs xs ys
  | _, _ => false
def fEqs : List PyData → List PyData → Bool
  | [], [] => true
  | x :: xs, y :: ys => match fEq x y with
    | true => fEqs xs ys
    | false => false
  | _, _ => false
end
mutual
theorem fEq_eqv : ∀ a b : PyData, fEq a b = PyData.eqv a b
  | .none, b => by cases b <;> rfl
  | .bool a, b => by
    cases b with
    | bool b => cases a <;> cases b <;> rfl
    | int j =>
      show eqI (b2iD a) j = ((if a then 1 else 0) == j)
      rw [eqI_eq]
      cases a <;> rfl
    | _ => rfl
  | .int a, b => by
    cases b with
    | bool b =>
      show eqI a (b2iD b) = (a == (if b then 1 else 0))
      rw [eqI_eq]
      cases b <;> rfl
    | int j => exact eqI_eq a j
    | _ => rfl
  | .str a, b => by
    cases b with
    | str b =>
      show decide (a = b) = (a == b)
      rw [Bool.eq_iff_iff, beq_iff_eq, decide_eq_true_iff]
    | _ => rfl
  | .list a, b => by
    cases b with
    | list b => exact fEqs_eqv a b
    | _ => rfl
  | .tuple a, b => by
    cases b with
    | tuple b => exact fEqs_eqv a b
    | _ => rfl
  | .dict a, b => by cases b <;> rfl
theorem fEqs_eqv : ∀ a b : List PyData, fEqs a b = PyData.eqvAll a b
  | [], [] => rfl
  | [], _ :: _ => rfl
  | _ :: _, [] => rfl
  | x :: xs, y :: ys => by
    show (match fEq x y with
      | true => fEqs xs ys
      | false => false) = (PyData.eqv x y && PyData.eqvAll xs ys)
    rw [← fEq_eqv x y, ← fEqs_eqv xs ys]
    cases fEq x y <;> rfl
end
/-! at most n deep, no dict, its texts of plain signs -/
mutual
def plD : Nat → PyData → Bool
  | _, .none => true
  | _, .bool _ => true
  | _, .int _ => true
  | _, .str x => x.cps.all (fun c => Nat.ble c 127)
  | n + 1, .list xs => plDs n xs
  | n + 1, .tuple xs => plDs n xs
  | _, _ => false
def plDs : Nat → List PyData → Bool
  | _, [] => true
  | n, x :: xs => match plD n x with
    | true => plDs n xs
    | false => false
end
mutual
theorem plD_of : ∀ (n : Nat) (d : PyData), plD n d = true → d.canLay0 = true ∧ d.depth ≤ n
  | n, .none, _ => ⟨rfl, Nat.zero_le _⟩
  | n, .bool b, _ => ⟨rfl, Nat.zero_le _⟩
  | n, .int i, _ => ⟨rfl, Nat.zero_le _⟩
  | n, .str x, h => by
    have h : x.cps.all (fun c => Nat.ble c 127) = true := by unfold plD at h; exact h
    refine ⟨?_, Nat.zero_le _⟩
    show x.cps.all (· < 0x110000) = true
    rw [Array.all_eq_true] at h ⊢
    intro i hi
    have := Nat.le_of_ble_eq_true (h i hi)
    exact decide_eq_true (by omega)
  | n + 1, .list xs, h => by
    have s := plDs_of n xs (by unfold plD at h; exact h)
    exact ⟨s.1, Nat.succ_le_succ s.2⟩
  | n + 1, .tuple xs, h => by
    have s := plDs_of n xs (by unfold plD at h; exact h)
    exact ⟨s.1, Nat.succ_le_succ s.2⟩
  | 0, .list _, h => by unfold plD at h; cases h
  | 0, .tuple _, h => by unfold plD at h; cases h
  | n, .dict _, h => by cases n <;> · unfold plD at h; cases h
theorem plDs_of : ∀ (n : Nat) (ds : List PyData), plDs n ds = true → PyData.canLayAll0 ds = true ∧ PyData.depthAll ds ≤ n
  | n, [], _ => ⟨rfl, Nat.zero_le _⟩
  | n, x :: xs, h => by
    unfold plDs at h
    cases e : plD n x with
    | false => rw [e] at h; cases h
    | true =>
      rw [e] at h
      have h1 := plD_of n x e
      have h2 := plDs_of n xs h
      refine ⟨?_, ?_⟩
      · unfold PyData.canLayAll0
        rw [h1.1, h2.1]
        rfl
      · unfold PyData.depthAll
        exact Nat.max_le.mpr ⟨h1.2, h2.2⟩
end
theorem shaped_of {d : PyData} (h : plD 40 d = true) : SeqAt.shaped d = true := by
  obtain ⟨h1, h2⟩ := plD_of 40 d h
  unfold SeqAt.shaped
  rw [h1, decide_eq_true (show d.depth ≤ 64 by omega)]
  rfl
def gEqF (f : Bool → Bool) : G2 := fun a b k => match eqQ a b with
  | some r => k (.bool (f r))
  | none => match plD 40 a with
    | true => (match plD 40 b with
      | true => k (.bool (f (fEq a b)))
      | false => false)
    | false => false
theorem gEqF_ok {f : Bool → Bool} {a b : PyData} {k : KF} (h : gEqF f a b k = true) : SeqAt.shaped a = true ∧ SeqAt.shaped b = true ∧ k (.bool (f (PyData.eqv a b))) = true := by
  unfold gEqF at h
  cases e : eqQ a b with
  | some r =>
    rw [e] at h
    obtain ⟨h1, h2, h3⟩ := eqQ_ok e
    exact ⟨h1, h2, by rw [h3]; exact h⟩
  | none =>
    rw [e] at h
    cases e1 : plD 40 a with
    | false => simp only [e1] at h; cases h
    | true =>
      cases e2 : plD 40 b with
      | false => simp only [e1, e2] at h; cases h
      | true =>
        simp only [e1, e2] at h
        rw [← fEq_eqv]
        exact ⟨shaped_of e1, shaped_of e2, h⟩
/-- == by its data -/
theorem gEqF_pl {f : Bool → Bool} {a b : PyData} {k : KF} (h1 : plD 40 a = true) (h2 : plD 40 b = true) : gEqF f a b k = k (.bool (f (fEq a b))) := by
  unfold gEqF
  cases e : eqQ a b with
  | some r =>
    obtain ⟨_, _, h3⟩ := eqQ_ok e
    rw [fEq_eqv, h3]
  | none => simp only [h1, h2]
def gEq : G2 := gEqF id
def gNe : G2 := gEqF not
theorem dp_h {F H : Hp} {x : V} {a : PyData} (B : Same F H) (r : Rp K F x a) (c : SeqAt.shaped a = true) : Dp K H x a := (r.mono B).dp (by unfold SeqAt.shaped at c; exact (Bool.and_eq_true_iff.mp c).1)
theorem ok_eq : OkR K W (rEqD K) gEq := fun F H x y a b k Q B ra rb h q => by
  obtain ⟨e1, e2, h⟩ := gEqF_ok h
  exact ⟨a, b, dp_h B.fh ra e1, dp_h B.fh rb e2, e1, e2, q _ _ F H (Stp.refl B) (.bl _) h⟩
theorem ok_ne : OkR K W (rNeD K) gNe := fun F H x y a b k Q B ra rb h q => by
  obtain ⟨e1, e2, h⟩ := gEqF_ok h
  exact ⟨a, b, dp_h B.fh ra e1, dp_h B.fh rb e2, e1, e2, q _ _ F H (Stp.refl B) (.bl _) h⟩
def rIss : R2 := rOr (fun x y H Q => y = .non ∧ Q (.bl (decide (x = .non))) H) rIsB
def rNots : R2 := rOr (fun x y H Q => y = .non ∧ Q (.bl (!decide (x = .non))) H) rNotB
theorem op_iss : OpR X (compareOp .Is) rIss := rOr_op op_isN op_isBl
theorem op_nots : OpR X (compareOp .IsNot) rNots := rOr_op op_notN op_notBl
def isNon : PyData → Bool
  | .none => true
  | _ => false
def gIs : G2 := fun a b k => match b with
  | .none => k (.bool (isNon a))
  | .bool c => (match a with
    | .bool d => k (.bool (d == c))
    | _ => false)
  | _ => false
def gIsNot : G2 := fun a b k => match b with
  | .none => k (.bool (!isNon a))
  | .bool c => (match a with
    | .bool d => k (.bool (!(d == c)))
    | _ => false)
  | _ => false
theorem isNon_v {F : Hp} {x : V} {a : PyData} (r : Rp K F x a) : decide (x = .non) = isNon a := by
  cases r <;> rfl
theorem ok_is : OkR K W rIss gIs := fun F H x y a b k Q B ra rb h q => by
  cases b with
  | none => cases rb; exact .inl ⟨rfl, q _ _ F H (Stp.refl B) (by rw [isNon_v ra]; exact .bl _) h⟩
  | bool c =>
    cases a with
    | bool d =>
      cases ra
      cases rb
      refine .inr ⟨d, c, rfl, rfl, q _ _ F H (Stp.refl B) ?_ h⟩
      rw [show decide (d = c) = (d == c) by cases d <;> cases c <;> rfl]
      exact .bl _
    | _ => cases h
  | _ => cases h
theorem ok_isNot : OkR K W rNots gIsNot := fun F H x y a b k Q B ra rb h q => by
  cases b with
  | none => cases rb; exact .inl ⟨rfl, q _ _ F H (Stp.refl B) (by rw [isNon_v ra]; exact .bl _) h⟩
  | bool c =>
    cases a with
    | bool d =>
      cases ra
      cases rb
      refine .inr ⟨d, c, rfl, rfl, q _ _ F H (Stp.refl B) ?_ h⟩
      rw [show decide (d = c) = (d == c) by cases d <;> cases c <;> rfl]
      exact .bl _
    | _ => cases h
  | _ => cases h
/-! subscripts -/
def gIx : G2 := fun a b k => match b with
  | .int i => (match a with
    | .list xs => (match atI xs i with
      | some d => k d
      | none => false)
    | .tuple xs => (match atI xs i with
      | some d => k d
      | none => false)
    | _ => false)
  | _ => false
theorem rp_atI {F : Hp} {vs : List V} {ds : List PyData} {i : Int} {d : PyData} (r : RpAll K F vs ds) (h : atI ds i = some d) : ∃ v, atI vs i = some v ∧ Rp K F v d := by
  unfold atI at h ⊢
  rw [r.length]
  cases e : ixN ds.length i with
  | none => rw [e] at h; cases h
  | some j =>
    rw [e] at h
    obtain ⟨v, h1, h2⟩ := r.at (show ds[j]? = some d from h)
    exact ⟨v, h1, h2⟩
def rIxA (K : PySem.W.Frag) : R2 := fun x y H Q => rIxL K x y H Q ∨ rIxT K x y H Q
theorem ix_seqA : IxR X (rIxA X.K) := ix_list.or ix_tup
theorem ok_ix : OkR K W (rIxA K) gIx := fun F H x y a b k Q B ra rb h q => by
  cases b with
  | int i =>
    cases rb
    cases a with
    | list xs =>
      cases e : atI xs i with
      | none => simp only [gIx, e] at h; cases h
      | some d =>
        simp only [gIx, e] at h
        cases ra with
        | @lst pa vl _ ha ra =>
          obtain ⟨v, h1, h2⟩ := rp_atI ra e
          exact .inl ⟨_, _, i, v, rfl, rfl, .inl (.inl (B.keep ha)), h1, q d v F H (Stp.refl B) h2 h⟩
    | tuple xs =>
      cases e : atI xs i with
      | none => simp only [gIx, e] at h; cases h
      | some d =>
        simp only [gIx, e] at h
        cases x with
        | ref p =>
          obtain ⟨vs, hs, rr⟩ := sqT_of B.fh ra
          obtain ⟨v, h1, h2⟩ := rp_atI rr e
          exact .inr ⟨_, _, i, v, rfl, rfl, hs, h1, q d v F H (Stp.refl B) h2 h⟩
        | _ => cases ra
    | _ => cases h
  | _ => cases h
theorem se_ix {ea eb : Expr} {da db : DE} {pos : Pos} (a : SE W X ea da) (b : SE W X eb db) (hs : PlainIx eb := by exact fun _ _ => rfl) : SE W X (.Subscript ea eb pos) (dOp gIx da db) := by
  obtain ⟨t1, p1, o1⟩ := a
  obtain ⟨t2, p2, o2⟩ := b
  exact ⟨_, pe_ix ix_seqA p1 p2 hs, okE_op o1 o2 ok_ix⟩
/-! slices -/
abbrev DO := Sls → (Option Int → Bool) → Bool
def OkO (K : PySem.W.Frag) (W : Wd) (t : TO) (e : DO) : Prop := ∀ (env : Sls) (σ : L2.St) (F H : Hp) (k : Option Int → Bool) (Q : Option Int → Hp → Prop), Rel K W env σ F H → e env k = true → (∀ o F' H', Stp W.pp F H F' H' → k o = true → Q o H') → t σ H Q
structure SO (W : Wd) (X : Cx) (e : Option Expr) (d : DO) : Prop where
  ex : ∃ t, PO X e t ∧ OkO X.K W t d
def oNone : DO := fun _ k => k none
def oSome (a : DE) : DO := fun env k => a env fun x => match x with
  | .int i => k (some i)
  | _ => false
theorem so_none : SO W X none oNone := ⟨_, po_none, fun env σ F H k Q R h q => q none F H (Stp.refl R.bs) h⟩
theorem so_some {ea : Expr} {da : DE} (a : SE W X ea da) : SO W X (some ea) (oSome da) := by
  obtain ⟨t, p, o⟩ := a
  refine ⟨_, po_some p, fun env σ F H k Q R h q => o env σ F H _ _ R h fun d v F1 H1 s1 r1 h1 => ?_⟩
  cases d with
  | int i => cases r1; exact ⟨i, rfl, q _ F1 H1 s1 h1⟩
  | _ => cases h1
def cutD (xs : List PyData) (lo hi : Option Int) : List PyData := (xs.drop (HT.sIx xs.length 0 lo)).take (HT.sIx xs.length xs.length hi - HT.sIx xs.length 0 lo)
theorem rp_cut {F : Hp} {vs : List V} {ds : List PyData} (r : RpAll K F vs ds) (lo hi : Option Int) : RpAll K F (cutV vs lo hi) (cutD ds lo hi) := by
  unfold cutV cutD
  rw [r.length]
  exact (r.drop _).take _
theorem cutV_whole {vs : List V} {lo hi : Option Int} (h : HT.sIx vs.length 0 lo = 0 ∧ HT.sIx vs.length vs.length hi = vs.length) : cutV vs lo hi = vs := by
  unfold cutV
  rw [h.1, h.2, List.drop_zero, Nat.sub_zero, List.take_length]
def gCut (lo hi : Option Int) : G1 := fun a k => match a with
  | .list xs => k (.list (cutD xs lo hi))
  | .tuple xs => k (.tuple (cutD xs lo hi))
  | _ => false
def dSl (a : DE) (lo hi : DO) : DE := fun env k => a env fun x => lo env fun l => hi env fun u => gCut l u x k
def rSlAll (K : PySem.W.Frag) : V → Option Int → Option Int → Hp → VK → Prop := fun x lo hi H Q => rSlL K x lo hi H Q ∨ rSlA K x lo hi H Q
theorem sl_all : SlR X (rSlAll X.K) := sl_list.or sl_tupA
theorem se_sl {ea : Expr} {lo hi : Option Expr} {da : DE} {dl dh : DO} {p2 pos : Pos} (a : SE W X ea da) (l : SO W X lo dl) (u : SO W X hi dh) : SE W X (.Subscript ea (.Slice lo hi none p2) pos) (dSl da dl dh) := by
  obtain ⟨t1, p1, o1⟩ := a
  obtain ⟨t2, p2, o2⟩ := l
  obtain ⟨t3, p3, o3⟩ := u
  refine ⟨_, pe_slice sl_all p1 p2 p3, fun env σ F H k Q R h q => ?_⟩
  refine o1 env σ F H _ _ R h fun d v F1 H1 s1 r1 h1 => ?_
  refine o2 env σ F1 H1 _ _ (R.step s1) h1 fun l F2 H2 s2 h2 => ?_
  refine o3 env σ F2 H2 _ _ ((R.step s1).step s2) h2 fun u F3 H3 s3 h3 => ?_
  have B := (((R.step s1).step s2).step s3).bs
  have S := (s1.trans s2).trans s3
  have rr := r1.mono (s2.ff.trans s3.ff)
  cases d with
  | list xs =>
    cases rr with
    | @lst pa vl _ ha ra =>
      refine .inl ⟨_, _, rfl, .inl (.inl (B.keep ha)), fun p np => ?_⟩
      have st := Stp.new (o := .lst (cutV vl l u)) B np
      exact q _ _ _ _ (S.trans st) (.lst upd_same ((rp_cut ra l u).mono st.ff)) h3
  | tuple xs =>
    cases v with
    | ref p =>
      obtain ⟨vs, hs, ra⟩ := sqT_of B.fh rr
      refine .inr ⟨_, _, rfl, hs, fun z => ?_, fun _ p np => ?_⟩
      · have e1 := cutV_whole z
        have e2 : cutD xs l u = xs := by
          have z2 := z
          rw [ra.length] at z2
          unfold cutD
          rw [z2.1, z2.2, List.drop_zero, Nat.sub_zero, List.take_length]
        have h4 : k (.tuple (cutD xs l u)) = true := h3
        rw [e2] at h4
        exact q _ _ F3 H3 S rr h4
      · have st := Stp.new (o := .tup (cutV vs l u)) B np
        exact q _ _ _ _ (S.trans st) (.tup upd_same ((rp_cut ra l u).mono st.ff)) h3
    | _ => cases rr
  | _ => cases h3
/-- xs[::-1] of a list -/
def gRev : G1 := fun a k => match a with
  | .list xs => k (.list xs.reverse)
  | _ => false
theorem se_rev {ea : Expr} {da : DE} {k : Nat} {p1 p2 p3 pos : Pos} (a : SE W X ea da) : SE W X (.Subscript ea (.Slice none none (some (.UnaryOp .USub (.Constant (.int 1) k p1) p2)) p3) pos) (dUn gRev da) := by
  obtain ⟨t1, p1, o1⟩ := a
  refine ⟨_, pe_revL p1, fun env σ F H k Q R h q => ?_⟩
  refine o1 env σ F H _ _ R h fun d v F1 H1 s1 r1 h1 => ?_
  cases d with
  | list xs =>
    cases r1 with
    | @lst pa vl _ ha ra =>
      have B := (R.step s1).bs
      refine ⟨_, _, rfl, .inl (.inl (B.keep ha)), fun p np => ?_⟩
      have st := Stp.new (o := .lst vl.reverse) B np
      exact q _ _ _ _ (s1.trans st) (.lst upd_same (ra.reverse.mono st.ff)) h1
  | _ => cases h1
/-! built-ins -/
def gLen : GC := fun ds k => match ds with
  | [.list xs] => k (.int xs.length)
  | [.tuple xs] => k (.int xs.length)
  | _ => false
theorem ok_len : OkC K W (fun xs H Q => ∃ p ys, xs = [.ref p] ∧ (SqL K H p ys ∨ SqT K H p ys) ∧ Q (.int ys.length) H) gLen := fun F H vs ds k Q B r h q => by
  cases r with
  | nil => cases h
  | @cons v vs d ds r1 r =>
    cases r with
    | cons _ _ => cases d <;> cases h
    | nil =>
      cases d with
      | list xs =>
        cases r1 with
        | @lst pa vl _ ha ra => exact ⟨_, _, rfl, .inl (.inl (.inl (B.keep ha))), by rw [ra.length]; exact q _ _ F H (Stp.refl B) (.int _) h⟩
      | tuple xs =>
        cases v with
        | ref p =>
          obtain ⟨vs, hs, ra⟩ := sqT_of B.fh r1
          exact ⟨_, _, rfl, .inr hs, by rw [ra.length]; exact q _ _ F H (Stp.refl B) (.int _) h⟩
        | _ => cases r1
      | _ => cases h
def gAbs : GC := fun ds k => match ds with
  | [.int i] => k (.int (if i < 0 then -i else i))
  | _ => false
theorem ok_abs : OkC K W (fun xs H Q => ∃ i, xs = [.int i] ∧ Q (.int (if i < 0 then -i else i)) H) gAbs := fun F H vs ds k Q B r h q => by
  cases r with
  | nil => cases h
  | @cons v vs d ds r1 r =>
    cases r with
    | cons _ _ => cases d <;> cases h
    | nil =>
      cases d with
      | int i => cases r1; exact ⟨i, rfl, q _ _ F H (Stp.refl B) (.int _) h⟩
      | _ => cases h
def gInt : GC := fun ds k => match ds with
  | [.int i] => k (.int i)
  | [.bool b] => k (.int (if b then 1 else 0))
  | _ => false
theorem ok_int : OkC K W (fun xs H Q => (∃ i, xs = [.int i] ∧ Q (.int i) H) ∨ ∃ k, xs = [.bl k] ∧ Q (.int (if k then 1 else 0)) H) gInt := fun F H vs ds k Q B r h q => by
  cases r with
  | nil => cases h
  | @cons v vs d ds r1 r =>
    cases r with
    | cons _ _ => cases d <;> cases h
    | nil =>
      cases d with
      | int i => cases r1; exact .inl ⟨i, rfl, q _ _ F H (Stp.refl B) (.int _) h⟩
      | bool i => cases r1; exact .inr ⟨i, rfl, q _ _ F H (Stp.refl B) (.int _) h⟩
      | _ => cases h
def gList : GC := fun ds k => match ds with
  | [.list xs] => k (.list xs)
  | [.tuple xs] => k (.list xs)
  | _ => false
theorem ok_list : OkC K W (fun xs H Q => ∃ p ys, xs = [.ref p] ∧ (SqL K H p ys ∨ SqT K H p ys) ∧ ∀ l, H l = none → Q (.ref l) (upd H l (.lst ys))) gList := fun F H vs ds k Q B r h q => by
  cases r with
  | nil => cases h
  | @cons v vs d ds r1 r =>
    cases r with
    | cons _ _ => cases d <;> cases h
    | nil =>
      cases d with
      | list xs =>
        cases r1 with
        | @lst pa vl _ ha ra =>
          refine ⟨_, _, rfl, .inl (.inl (.inl (B.keep ha))), fun p np => ?_⟩
          have st := Stp.new (o := .lst vl) B np
          exact q _ _ _ _ st (.lst upd_same (ra.mono st.ff)) h
      | tuple xs =>
        cases v with
        | ref p =>
          obtain ⟨vs, hs, ra⟩ := sqT_of B.fh r1
          refine ⟨_, _, rfl, .inr hs, fun p np => ?_⟩
          have st := Stp.new (o := .lst vs) B np
          exact q _ _ _ _ st (.lst upd_same (ra.mono st.ff)) h
        | _ => cases r1
      | _ => cases h
def gTuple : GC := fun ds k => match ds with
  | [.list xs] => k (.tuple xs)
  | [.tuple xs] => k (.tuple xs)
  | _ => false
theorem ok_tuple : OkC K W (fun xs H Q => ∃ p ys, xs = [.ref p] ∧ ((SqL K H p ys ∧ ∀ l, H l = none → Q (.ref l) (upd H l (.tup ys))) ∨ (SqT K H p ys ∧ Q (.ref p) H))) gTuple := fun F H vs ds k Q B r h q => by
  cases r with
  | nil => cases h
  | @cons v vs d ds r1 r =>
    cases r with
    | cons _ _ => cases d <;> cases h
    | nil =>
      cases d with
      | list xs =>
        cases r1 with
        | @lst pa vl _ ha ra =>
          refine ⟨_, _, rfl, .inl ⟨.inl (.inl (B.keep ha)), fun p np => ?_⟩⟩
          have st := Stp.new (o := .tup vl) B np
          exact q _ _ _ _ st (.tup upd_same (ra.mono st.ff)) h
      | tuple xs =>
        cases v with
        | ref p =>
          obtain ⟨vs, hs, ra⟩ := sqT_of B.fh r1
          exact ⟨_, _, rfl, .inr ⟨hs, q _ _ F H (Stp.refl B) r1 h⟩⟩
        | _ => cases r1
      | _ => cases h
def intsOf : List PyData → Option (List Int)
  | [] => some []
  | .int i :: r => (match intsOf r with
    | some l => some (i :: l)
    | none => none)
  | _ => none
theorem intsOf_ok : ∀ {ds : List PyData} {ns : List Int}, intsOf ds = some ns → ds = ns.map PyData.int
  | [], ns, h => by cases h; rfl
  | d :: r, ns, h => by
    cases d with
    | int i =>
      unfold intsOf at h
      cases e : intsOf r with
      | none => rw [e] at h; cases h
      | some l =>
        rw [e] at h
        cases h
        rw [List.map_cons, ← intsOf_ok e]
    | _ => cases h
def boolsOf : List PyData → Option (List Bool)
  | [] => some []
  | .bool i :: r => (match boolsOf r with
    | some l => some (i :: l)
    | none => none)
  | _ => none
theorem boolsOf_ok : ∀ {ds : List PyData} {ns : List Bool}, boolsOf ds = some ns → ds = ns.map PyData.bool
  | [], ns, h => by cases h; rfl
  | d :: r, ns, h => by
    cases d with
    | bool i =>
      unfold boolsOf at h
      cases e : boolsOf r with
      | none => rw [e] at h; cases h
      | some l =>
        rw [e] at h
        cases h
        rw [List.map_cons, ← boolsOf_ok e]
    | _ => cases h
def gInts (f : List Int → KF → Bool) : GC := fun ds k => match ds with
  | [.list xs] => (match intsOf xs with
    | some ns => f ns k
    | none => false)
  | _ => false
theorem gInts_ok {f : List Int → KF → Bool} {F : Hp} {vs : List V} {ds : List PyData} {k : KF} (r : RpAll K F vs ds) (h : gInts f ds k = true) : ∃ a ns, vs = [.ref a] ∧ F a = some (.lst (ns.map V.int)) ∧ f ns k = true := by
  cases r with
  | nil => cases h
  | @cons v vs d ds r1 r =>
    cases r with
    | cons _ _ => cases d <;> cases h
    | nil =>
      cases d with
      | list xs =>
        cases e : intsOf xs with
        | none => simp only [gInts, e] at h; cases h
        | some ns =>
          simp only [gInts, e] at h
          cases r1 with
          | @lst pa vl _ ha ra =>
            rw [intsOf_ok e] at ra
            rw [ra.ints] at ha
            exact ⟨_, ns, rfl, ha, h⟩
      | _ => cases h
def gSum : GC := gInts fun ns k => k (.int ns.sum)
theorem ok_sum : OkC K W (rSum K) gSum := fun F H vs ds k Q B r h q => by
  obtain ⟨a, ns, rfl, ha, h⟩ := gInts_ok r h
  exact ⟨a, ns, rfl, .inl (.inl (B.keep ha)), q _ _ F H (Stp.refl B) (.int _) h⟩
def maxI : List Int → Int
  | [] => 0
  | [x] => x
  | x :: y :: r => (match decide (maxI (y :: r) ≤ x) with
    | true => x
    | false => maxI (y :: r))
def minI : List Int → Int
  | [] => 0
  | [x] => x
  | x :: y :: r => (match decide (x ≤ minI (y :: r)) with
    | true => x
    | false => minI (y :: r))
theorem maxI_ge : ∀ (ns : List Int) (y : Int), y ∈ ns → y ≤ maxI ns
  | [], y, h => by cases h
  | [x], y, h => by rw [List.mem_singleton.mp h]; exact Int.le_refl _
  | x :: z :: r, y, h => by
    have ih := maxI_ge (z :: r)
    unfold maxI
    by_cases e : maxI (z :: r) ≤ x
    · rw [decide_eq_true e]
      rcases List.mem_cons.mp h with h | h
      · rw [h]; exact Int.le_refl _
      · exact Int.le_trans (ih y h) e
    · rw [decide_eq_false e]
      rcases List.mem_cons.mp h with h | h
      · rw [h]; show x ≤ maxI (z :: r); omega
      · exact ih y h
theorem maxI_mem : ∀ (ns : List Int), ns ≠ [] → maxI ns ∈ ns
  | [], h => absurd rfl h
  | [x], _ => List.mem_singleton.mpr rfl
  | x :: z :: r, _ => by
    have ih := maxI_mem (z :: r) (List.cons_ne_nil _ _)
    unfold maxI
    by_cases e : maxI (z :: r) ≤ x
    · rw [decide_eq_true e]; exact List.mem_cons_self
    · rw [decide_eq_false e]; exact List.mem_cons_of_mem _ ih
theorem minI_le : ∀ (ns : List Int) (y : Int), y ∈ ns → minI ns ≤ y
  | [], y, h => by cases h
  | [x], y, h => by rw [List.mem_singleton.mp h]; exact Int.le_refl _
  | x :: z :: r, y, h => by
    have ih := minI_le (z :: r)
    unfold minI
    by_cases e : x ≤ minI (z :: r)
    · rw [decide_eq_true e]
      rcases List.mem_cons.mp h with h | h
      · rw [h]; exact Int.le_refl _
      · exact Int.le_trans e (ih y h)
    · rw [decide_eq_false e]
      rcases List.mem_cons.mp h with h | h
      · rw [h]; show minI (z :: r) ≤ x; omega
      · exact ih y h
theorem minI_mem : ∀ (ns : List Int), ns ≠ [] → minI ns ∈ ns
  | [], h => absurd rfl h
  | [x], _ => List.mem_singleton.mpr rfl
  | x :: z :: r, _ => by
    have ih := minI_mem (z :: r) (List.cons_ne_nil _ _)
    unfold minI
    by_cases e : x ≤ minI (z :: r)
    · rw [decide_eq_true e]; exact List.mem_cons_self
    · rw [decide_eq_false e]; exact List.mem_cons_of_mem _ ih
def gMax : GC := gInts fun ns k => match ns with
  | [] => false
  | x :: r => k (.int (maxI (x :: r)))
def gMin : GC := gInts fun ns k => match ns with
  | [] => false
  | x :: r => k (.int (minI (x :: r)))
theorem ok_max : OkC K W (rMax K) gMax := fun F H vs ds k Q B r h q => by
  obtain ⟨a, ns, rfl, ha, h⟩ := gInts_ok r h
  cases ns with
  | nil => cases h
  | cons x r =>
    refine ⟨a, x :: r, rfl, .inl (.inl (B.keep ha)), Nat.succ_pos _, fun m hm hx => ?_⟩
    have e : m = maxI (x :: r) := Int.le_antisymm (maxI_ge _ m hm) (hx _ (maxI_mem _ (List.cons_ne_nil _ _)))
    rw [e]
    exact q _ _ F H (Stp.refl B) (.int _) h
theorem ok_min : OkC K W (rMin K) gMin := fun F H vs ds k Q B r h q => by
  obtain ⟨a, ns, rfl, ha, h⟩ := gInts_ok r h
  cases ns with
  | nil => cases h
  | cons x r =>
    refine ⟨a, x :: r, rfl, .inl (.inl (B.keep ha)), Nat.succ_pos _, fun m hm hx => ?_⟩
    have e : m = minI (x :: r) := Int.le_antisymm (hx _ (minI_mem _ (List.cons_ne_nil _ _))) (minI_le _ m hm)
    rw [e]
    exact q _ _ F H (Stp.refl B) (.int _) h
def gBools (f : List Bool → Bool) : GC := fun ds k => match ds with
  | [.list xs] => (match boolsOf xs with
    | some ns => k (.bool (f ns))
    | none => false)
  | _ => false
theorem gBools_ok {f : List Bool → Bool} {F : Hp} {vs : List V} {ds : List PyData} {k : KF} (r : RpAll K F vs ds) (h : gBools f ds k = true) : ∃ a ns, vs = [.ref a] ∧ F a = some (.lst (ns.map V.bl)) ∧ k (.bool (f ns)) = true := by
  cases r with
  | nil => cases h
  | @cons v vs d ds r1 r =>
    cases r with
    | cons _ _ => cases d <;> cases h
    | nil =>
      cases d with
      | list xs =>
        cases e : boolsOf xs with
        | none => simp only [gBools, e] at h; cases h
        | some ns =>
          simp only [gBools, e] at h
          cases r1 with
          | @lst pa vl _ ha ra =>
            rw [boolsOf_ok e] at ra
            rw [ra.bools] at ha
            exact ⟨_, ns, rfl, ha, h⟩
      | _ => cases h
def gAll : GC := gBools fun bs => bs.all id
def gAny : GC := gBools fun bs => bs.any id
theorem ok_all : OkC K W (rAll K) gAll := fun F H vs ds k Q B r h q => by
  obtain ⟨a, ns, rfl, ha, h⟩ := gBools_ok r h
  exact ⟨a, ns, rfl, .inl (.inl (B.keep ha)), q _ _ F H (Stp.refl B) (.bl _) h⟩
theorem ok_any : OkC K W (rAny K) gAny := fun F H vs ds k Q B r h q => by
  obtain ⟨a, ns, rfl, ha, h⟩ := gBools_ok r h
  exact ⟨a, ns, rfl, .inl (.inl (B.keep ha)), q _ _ F H (Stp.refl B) (.bl _) h⟩
def gMin2 : GC := fun ds k => match ds with
  | [.int i, .int j] => k (.int (if j < i then j else i))
  | _ => false
def gMax2 : GC := fun ds k => match ds with
  | [.int i, .int j] => k (.int (if j > i then j else i))
  | _ => false
theorem two_ints {F : Hp} {vs : List V} {i j : Int} (r : RpAll K F vs [.int i, .int j]) : vs = [.int i, .int j] := RpAll.ints (ns := [i, j]) r
theorem ok_min2 : OkC K W (fun xs H Q => ∃ i j, xs = [.int i, .int j] ∧ Q (.int (if j < i then j else i)) H) gMin2 := fun F H vs ds k Q B r h q => by
  unfold gMin2 at h
  split at h
  · exact ⟨_, _, two_ints r, q _ _ F H (Stp.refl B) (.int _) h⟩
  · cases h
theorem ok_max2 : OkC K W (fun xs H Q => ∃ i j, xs = [.int i, .int j] ∧ Q (.int (if j > i then j else i)) H) gMax2 := fun F H vs ds k Q B r h q => by
  unfold gMax2 at h
  split at h
  · exact ⟨_, _, two_ints r, q _ _ F H (Stp.refl B) (.int _) h⟩
  · cases h
/-! isinstance -/
inductive Tc where
  | int | bool | str | list | tuple
def Tc.name : Tc → String
  | .int => "int" | .bool => "bool" | .str => "str" | .list => "list" | .tuple => "tuple"
def tyN : PyData → String
  | .none => "NoneType" | .bool _ => "bool" | .int _ => "int" | .str _ => "str" | .list _ => "list" | .tuple _ => "tuple" | .dict _ => "dict"
def Tc.has : Tc → PyData → Bool
  | .int, .int _ => true
  | .int, .bool _ => true
  | .bool, .bool _ => true
  | .str, .str _ => true
  | .list, .list _ => true
  | .tuple, .tuple _ => true
  | _, _ => false
def noDict : PyData → Bool
  | .dict (_ :: _) => false
  | _ => true
theorem kit_tab : ∀ c : Tc, kitB "NoneType" c.name = some false ∧ kitB "bool" c.name = some (c.has (.bool true)) ∧ kitB "int" c.name = some (c.has (.int 0)) ∧ kitB "str" c.name = some (c.has (.str Str.empty)) ∧ kitB "list" c.name = some (c.has (.list [])) ∧ kitB "tuple" c.name = some (c.has (.tuple [])) ∧ kitB "dict" c.name = some (c.has (.dict []))
  | .int => by decide +kernel
  | .bool => by decide +kernel
  | .str => by decide +kernel
  | .list => by decide +kernel
  | .tuple => by decide +kernel
theorem kit_has (c : Tc) (d : PyData) (h : noDict d = true) : PySem.W.kitOne K (.type (tyN d)) (.type c.name) = some (c.has d) := by
  obtain ⟨h1, h2, h3, h4, h5, h6, h7⟩ := kit_tab c
  cases d with
  | none => rw [show c.has .none = false by cases c <;> rfl]; exact kit_ty h1
  | bool b => rw [show c.has (.bool b) = c.has (.bool true) by cases c <;> rfl]; exact kit_ty h2
  | int b => rw [show c.has (.int b) = c.has (.int 0) by cases c <;> rfl]; exact kit_ty h3
  | str b => rw [show c.has (.str b) = c.has (.str Str.empty) by cases c <;> rfl]; exact kit_ty h4
  | list b => rw [show c.has (.list b) = c.has (.list []) by cases c <;> rfl]; exact kit_ty h5
  | tuple b => rw [show c.has (.tuple b) = c.has (.tuple []) by cases c <;> rfl]; exact kit_ty h6
  | dict b =>
    cases b with
    | nil => exact kit_ty h7
    | cons _ _ => cases h
theorem tyx_of {F H : Hp} (B : Same F H) {v : V} {d : PyData} (r : Rp K F v d) : TyX K H v (.type (tyN d)) ∧ noDict d = true := by
  cases r with
  | non => exact ⟨.base .non, rfl⟩
  | bl b => exact ⟨.base (.bl b), rfl⟩
  | int i => exact ⟨.base (.int i), rfl⟩
  | str x => exact ⟨.base (.str x), rfl⟩
  | lst h _ => exact ⟨.base (.lst (B _ _ h)), rfl⟩
  | tup h _ => exact ⟨.base (.tup (B _ _ h)), rfl⟩
  | ktup h _ =>
    obtain ⟨o, its, n, h1, h2, _⟩ := h
    exact ⟨.kTuple h1 h2, rfl⟩
  | dct0 h => exact ⟨.base (.dK (B _ _ h)), rfl⟩
def dIs (c : Tc) (a : DE) : DE := fun env k => a env fun x => k (.bool (c.has x))
theorem se_is {x : Str} {p p2 pos : Pos} {ea : Expr} {da : DE} (c : Tc) (hm : X.mg "isinstance" = none) (hmc : X.mg (Str.ofString c.name) = none) (a : SE W X ea da) (hg : Gl X "isinstance" := by rfl) (hgc : Gl X x := by rfl) (hx : x = Str.ofString c.name := by rfl)
    (hn : x ≠ "__name__" := by decide) (hdb : (x == ("__debug__" : Str)) = false := by decide) (hb : bootBuiltins x = some (.type c.name) := by decide +kernel)
    (he : starEach [ea, .Name x p2] X.env = (false, eval ea X.env) :: starEach [.Name x p2] X.env := by rfl) (hs : starEach [.Name x p2] X.env = (false, eval (.Name x p2) X.env) :: starEach [] X.env := by rfl) (hpl : (backTo pos (starEach [.Name x p2] X.env)).any (·.1) = false := by rfl) :
    SE W X (.Call (.Name "isinstance" p) [ea, .Name x p2] [] pos) (dIs c da) := by
  obtain ⟨t, q, o⟩ := a
  subst hx
  refine ⟨_, pe_callB call_isi hg hm (by decide +kernel) (pa_cons q (pa_cons (pe_bltn (v := .ty c.name) hgc hmc hb rfl hn hdb) pa_nil hs) he) (by decide) (by decide) he hpl, fun env σ F H k Q R h q => ?_⟩
  refine o env σ F H _ _ R h fun d v F1 H1 s1 r1 h1 => ?_
  obtain ⟨ty, nd⟩ := tyx_of s1.fh r1
  exact ⟨v, .ty c.name, .type (tyN d), .type c.name, c.has d, rfl, .ty _, ty, kit_has c d nd, q _ _ F1 H1 s1 (.bl _) h1⟩
/-- isinstance(x, (list, tuple)) -/
def dIsLT (a : DE) : DE := fun env k => a env fun x => k (.bool (Tc.list.has x || Tc.tuple.has x))
theorem se_isLT {p p2 p3 p4 pos : Pos} {k0 : Nat} {ea : Expr} {da : DE} (hm : X.mg "isinstance" = none) (hml : X.mg "list" = none) (hmt : X.mg "tuple" = none) (a : SE W X ea da) (hg : Gl X "isinstance" := by rfl) (hgl : Gl X "list" := by rfl) (hgt : Gl X "tuple" := by rfl)
    (he : starEach [ea, .Tuple [.Name "list" p2, .Name "tuple" p3] k0 p4] X.env = (false, eval ea X.env) :: starEach [.Tuple [.Name "list" p2, .Name "tuple" p3] k0 p4] X.env := by rfl) (hpl : (backTo pos (starEach [.Tuple [.Name "list" p2, .Name "tuple" p3] k0 p4] X.env)).any (·.1) = false := by rfl) :
    SE W X (.Call (.Name "isinstance" p) [ea, .Tuple [.Name "list" p2, .Name "tuple" p3] k0 p4] [] pos) (dIsLT da) := by
  obtain ⟨t, q, o⟩ := a
  refine ⟨_, pe_callB call_isiT hg hm (by decide +kernel) (pa_cons q (pa_cons (pe_tup (pa_cons (pe_bltn (v := .ty "list") hgl hml (by decide +kernel) rfl) (pa_cons (pe_bltn (v := .ty "tuple") hgt hmt (by decide +kernel) rfl) pa_nil))) pa_nil) he) (by decide) (by decide) he hpl, fun env σ F H k Q R h q => ?_⟩
  refine o env σ F H _ _ R h fun d v F1 H1 s1 r1 h1 => ⟨by show 2 ≤ sizeLine; decide, fun tp np => ?_⟩
  have B := (R.step s1).bs
  have st := Stp.new (o := .tup [.ty "list", .ty "tuple"]) B np
  obtain ⟨ty, nd⟩ := tyx_of st.fh (r1.mono st.ff)
  refine ⟨v, tp, [.ty "list", .ty "tuple"], .type (tyN d), [.type "list", .type "tuple"], Tc.list.has d || Tc.tuple.has d, rfl, upd_same, .cons (.ty _) (.cons (.ty _) .nil), ty, ?_, q _ _ _ _ (s1.trans st) (.bl _) h1⟩
  have e1 := kit_has (K := X.K) .list d nd
  have e2 := kit_has (K := X.K) .tuple d nd
  unfold PySem.W.kitAny
  rw [show Value.type "list" = Value.type Tc.list.name from rfl, e1]
  cases Tc.list.has d with
  | true => rfl
  | false =>
    unfold PySem.W.kitAny
    rw [show Value.type "tuple" = Value.type Tc.tuple.name from rfl]
    simp only [e2]
    cases Tc.tuple.has d <;> rfl
end
end Dl

namespace Dl
open PySem PySem.Spec PyProof.Rows L2

/-! ### readings by their data -/
def can (K : PySem.W.Frag) (W : Wd) (de : DE) : TE := fun σ H Q => ∃ (env : Sls) (F : Hp) (k : KF), Rel K W env σ F H ∧ de env k = true ∧ ∀ d v F' H', Stp W.pp F H F' H' → Rp K F' v d → k d = true → Q v H'
def canT (K : PySem.W.Frag) (W : Wd) (de : DT) : TT := fun σ H Q => ∃ (env : Sls) (F : Hp) (k : Bool → Bool), Rel K W env σ F H ∧ de env k = true ∧ ∀ b F' H', Stp W.pp F H F' H' → k b = true → Q b H'
section
variable {W : Wd} {X : Cx} {K : PySem.W.Frag} {e : Expr} {de : DE} {dt : DT}
theorem SE.can (h : SE W X e de) : PE X e (can X.K W de) := by
  obtain ⟨t, p, o⟩ := h
  exact ⟨fun pins s σ H Q I ⟨env, F, k, R, h, q⟩ => p.run pins s σ H Q I (o env σ F H k Q R h q)⟩
theorem ST.can (h : ST W X e dt) : PT X e (canT X.K W dt) := by
  obtain ⟨t, p, o⟩ := h
  exact ⟨fun pins s σ H Q I ⟨env, F, k, R, h, q⟩ => p.run pins s σ H Q I (o env σ F H k Q R h q)⟩
theorem okE_can : OkE K W (Dl.can K W de) de := fun env σ F H k Q R h q => ⟨env, F, k, R, h, q⟩
theorem okT_can : OkT K W (canT K W dt) dt := fun env σ F H k Q R h q => ⟨env, F, k, R, h, q⟩
end

/-! ### targets -/
abbrev DG := PyData → Sls → (Sls → Bool) → Bool
abbrev DGs := List PyData → Sls → (Sls → Bool) → Bool
def OkG (K : PySem.W.Frag) (W : Wd) (t : TG) (g : DG) (sl : List Nat) : Prop := ∀ (env : Sls) (σ : L2.St) (F H : Hp) (v : V) (d : PyData) (k : Sls → Bool) (Q : L2.St → Hp → Prop), Rel K W env σ F H → Rp K F v d → g d env k = true →
  (∀ env' σ', Rel K W env' σ' F H → (∀ j, j ∉ sl → σ'[j]? = σ[j]?) → σ'.length = σ.length → k env' = true → Q σ' H) → t v σ H Q
def OkGs (K : PySem.W.Frag) (W : Wd) (t : TGs) (g : DGs) (sl : List Nat) : Prop := ∀ (env : Sls) (σ : L2.St) (F H : Hp) (vs : List V) (ds : List PyData) (k : Sls → Bool) (Q : L2.St → Hp → Prop), Rel K W env σ F H → RpAll K F vs ds → g ds env k = true →
  (∀ env' σ', Rel K W env' σ' F H → (∀ j, j ∉ sl → σ'[j]? = σ[j]?) → σ'.length = σ.length → k env' = true → Q σ' H) → t vs σ H Q
structure SG (W : Wd) (X : Cx) (e : Expr) (g : DG) (sl : List Nat) : Prop where
  ex : ∃ t, PG X e t ∧ OkG X.K W t g sl
structure SGs (W : Wd) (X : Cx) (es : List Expr) (g : DGs) (sl : List Nat) : Prop where
  ex : ∃ t, PGs X es t ∧ OkGs X.K W t g sl
def canG (K : PySem.W.Frag) (W : Wd) (g : DG) (sl : List Nat) : TG := fun v σ H Q => ∃ (env : Sls) (F : Hp) (d : PyData) (k : Sls → Bool), Rel K W env σ F H ∧ Rp K F v d ∧ g d env k = true ∧ ∀ env' σ', Rel K W env' σ' F H → (∀ j, j ∉ sl → σ'[j]? = σ[j]?) → σ'.length = σ.length → k env' = true → Q σ' H
def gN (i : Nat) : DG := fun d env k => k (env.set i (.fz d))
def gsNil : DGs := fun ds env k => match ds with
  | [] => k env
  | _ => false
def gsCons (g : DG) (r : DGs) : DGs := fun ds env k => match ds with
  | d :: ds => g d env fun env' => r ds env' k
  | [] => false
def gT (n : Nat) (r : DGs) : DG := fun d env k => match d with
  | .tuple ds => (match Nat.beq ds.length n with
    | true => r ds env k
    | false => false)
  | _ => false
section
variable {W : Wd} {X : Cx} {K : PySem.W.Frag} {e : Expr} {es : List Expr} {g : DG} {r : DGs} {s1 s2 : List Nat} {pos : Pos}
theorem SG.can (h : SG W X e g s1) : PG X e (canG X.K W g s1) := by
  obtain ⟨t, p, o⟩ := h
  exact ⟨fun pins s σ H v u Q I rv ⟨env, F, d, k, R, rp, h, q⟩ => p.run pins s σ H v u Q I rv (o env σ F H v d k Q R rp h q)⟩
theorem okG_can : OkG K W (canG K W g s1) g s1 := fun env σ F H v d k Q R rp h q => ⟨env, F, d, k, R, rp, h, q⟩
theorem sg_n {i : Nat} {x : Str} (hN : X.N.Nodup) (hi : X.N[i]? = some x := by rfl) (hx : Loc X.env.scope x := by first | exact Or.inl rfl | exact Or.inr rfl) (hf : X.fn x = true ∨ X.env.scope.names.lookup x = some .local := by first | exact .inl rfl | exact .inr rfl) :
    SG W X (.Name x pos) (gN i) [i] := ⟨_, pg_name hN hi hx hf, fun env σ F H v d k Q R rp h q => q _ _ (R.set rp i) (fun j hj => by rw [List.getElem?_set_ne (fun z => hj (by simp [z]))]) (List.length_set ..) h⟩
theorem sgs_nil : SGs W X [] gsNil [] := ⟨_, pgs_nil, fun env σ F H vs ds k Q R rp h q => by
  cases rp with
  | nil => exact ⟨rfl, q _ _ R (fun _ _ => rfl) rfl h⟩
  | cons _ _ => cases h⟩
theorem sgs_cons (h1 : SG W X e g s1) (h2 : SGs W X es r s2) (hs : (assignEach (e :: es) X.env).map (·.2) = assign e X.env :: (assignEach es X.env).map (·.2) := by rfl) : SGs W X (e :: es) (gsCons g r) (s1 ++ s2) := by
  obtain ⟨t1, p1, o1⟩ := h1
  obtain ⟨t2, p2, o2⟩ := h2
  refine ⟨_, pgs_cons p1 p2 hs, fun env σ F H vs ds k Q R rp h q => ?_⟩
  cases rp with
  | nil => cases h
  | cons ra rb =>
    refine ⟨_, _, rfl, o1 env σ F H _ _ _ _ R ra h fun env' σ' R' a1 l1 h' => ?_⟩
    exact o2 env' σ' F H _ _ k Q R' rb h' fun env2 σ2 R2 a2 l2 h2 => q env2 σ2 R2 (fun j hj => by
      rw [a2 j (fun z => hj (List.mem_append_right _ z)), a1 j (fun z => hj (List.mem_append_left _ z))]) (l2.trans l1) h2
theorem sg_t {k : Nat} {n : Nat} (hc : X.calm = true) (h : SGs W X es r s1) (hn : (assignEach es X.env).length = n := by rfl) (hst : (assignEach es X.env).findIdx? (·.1) = none := by rfl) : SG W X (.Tuple es k pos) (gT n r) s1 := by
  obtain ⟨t, p, o⟩ := h
  refine ⟨_, pg_tup hc p hn hst, fun env σ F H v d k Q R rp h q => ?_⟩
  cases d with
  | tuple ds =>
    cases v with
    | ref a =>
      obtain ⟨xs, hs, ra⟩ := sqT_of R.bs.fh rp
      cases e : Nat.beq ds.length n with
      | false => simp only [gT, e] at h; cases h
      | true =>
        simp only [gT, e] at h
        exact ⟨a, xs, rfl, hs, by rw [ra.length]; exact Nat.eq_of_beq_eq_true e, o env σ F H xs ds k Q R ra h q⟩
    | _ => cases rp
  | _ => cases h
end

/-! ### what is walked -/
abbrev DI := Sls → (List PyData → Bool) → Bool
def IsWalk (K : PySem.W.Frag) (W : Wd) (J : It) (ds : List PyData) (F' : Hp) : Prop := ∃ (G : Hp → Prop) (Y : Nat → Hp → V → Hp → Prop), Walk J ds.length G Y ∧ (∀ F H, Same F' F → Same F H → G H) ∧
  ∀ (i : Nat) (H : Hp) (x : V) (H2 F : Hp) (d : PyData), Same F' F → Bs W.pp F H → ds[i]? = some d → Y i H x H2 → ∃ F2, Stp W.pp F H F2 H2 ∧ Rp K F2 x d
theorem IsWalk.mono {K : PySem.W.Frag} {W : Wd} {J : It} {ds : List PyData} {F F' : Hp} (w : IsWalk K W J ds F) (e : Same F F') : IsWalk K W J ds F' := by
  obtain ⟨G, Y, w1, w2, w3⟩ := w
  exact ⟨G, Y, w1, fun F1 H a b => w2 F1 H (e.trans a) b, fun i H x H2 F1 d a => w3 i H x H2 F1 d (e.trans a)⟩
def OkI (K : PySem.W.Frag) (W : Wd) (wi : TI) (it : DI) : Prop := ∀ (env : Sls) (σ : L2.St) (F H : Hp) (k : List PyData → Bool) (R : It → Hp → Prop), Rel K W env σ F H → it env k = true →
  (∀ ds J F' H', Stp W.pp F H F' H' → IsWalk K W J ds F' → k ds = true → R J H') → wi σ H R
structure SI (W : Wd) (X : Cx) (tg e : Expr) (di : DI) : Prop where
  ex : ∃ wi, PI X tg e wi ∧ OkI X.K W wi di
/-- a text's signs -/
def signsD (z : Str) : List PyData := z.cps.toList.map fun c => .str ⟨#[c]⟩
def iSeq (a : DE) : DI := fun env k => a env fun x => match x with
  | .list xs => k xs
  | .tuple xs => k xs
  | .str z => k (signsD z)
  | _ => false
def rangeD : Int → Nat → List PyData
  | _, 0 => []
  | lo, n + 1 => .int lo :: rangeD (lo + 1) n
theorem rangeD_len : ∀ (n : Nat) (lo : Int), (rangeD lo n).length = n
  | 0, _ => rfl
  | n + 1, lo => by unfold rangeD; rw [List.length_cons, rangeD_len n]
theorem rangeD_at : ∀ (n : Nat) (lo : Int) (i : Nat) (d : PyData), (rangeD lo n)[i]? = some d → d = .int (lo + i)
  | 0, _, _, _, h => by simp [rangeD] at h
  | n + 1, lo, 0, d, h => by
    unfold rangeD at h
    simp at h
    rw [← h]; simp
  | n + 1, lo, i + 1, d, h => by
    unfold rangeD at h
    rw [List.getElem?_cons_succ] at h
    rw [rangeD_at n (lo + 1) i d h]
    congr 1
    rw [Int.add_assoc, Int.natCast_add, Int.add_comm 1 (i : Int)]; rfl
def big (i : Int) : Bool := Nat.ble i.natAbs 1000000
theorem big_ok {i : Int} (h : big i = true) : -(2 ^ 62) ≤ i ∧ i < 2 ^ 62 := by
  have h1 : i.natAbs ≤ 1000000 := Nat.le_of_ble_eq_true h
  omega
def iRange1 (a : DE) : DI := fun env k => a env fun x => match x with
  | .int n => (match big n with
    | true => k (rangeD 0 n.toNat)
    | false => false)
  | _ => false
def iRange2 (a b : DE) : DI := fun env k => a env fun x => b env fun y => match x, y with
  | .int lo, .int n => (match big lo && big n with
    | true => k (rangeD lo (n - lo).toNat)
    | false => false)
  | _, _ => false
def enumD : Nat → List PyData → List PyData
  | _, [] => []
  | n, x :: r => .tuple [.int (n : Int), x] :: enumD (n + 1) r
theorem enumD_len : ∀ (xs : List PyData) (n : Nat), (enumD n xs).length = xs.length
  | [], _ => rfl
  | x :: r, n => by unfold enumD; rw [List.length_cons, List.length_cons, enumD_len r]
theorem enumD_at : ∀ (xs : List PyData) (n i : Nat) (d : PyData), (enumD n xs)[i]? = some d → ∃ x, xs[i]? = some x ∧ d = .tuple [.int ((n + i : Nat) : Int), x]
  | [], _, _, _, h => by simp [enumD] at h
  | x :: r, n, 0, d, h => by
    unfold enumD at h
    simp at h
    exact ⟨x, rfl, by rw [← h]; rfl⟩
  | x :: r, n, i + 1, d, h => by
    unfold enumD at h
    rw [List.getElem?_cons_succ] at h
    obtain ⟨y, h1, h2⟩ := enumD_at r (n + 1) i d h
    refine ⟨y, by rw [List.getElem?_cons_succ]; exact h1, ?_⟩
    rw [h2, show n + 1 + i = n + (i + 1) by omega]
def iEnumD (a : DE) : DI := fun env k => a env fun x => match x with
  | .list xs => k (enumD 0 xs)
  | _ => false
def zipD : List PyData → List PyData → List PyData
  | x :: r, y :: q => .tuple [x, y] :: zipD r q
  | _, _ => []
theorem zipD_len : ∀ (xs ys : List PyData), (zipD xs ys).length = min xs.length ys.length
  | [], ys => by simp [zipD]
  | x :: r, [] => by simp [zipD]
  | x :: r, y :: q => by unfold zipD; rw [List.length_cons, List.length_cons, List.length_cons, zipD_len r q]; omega
theorem zipD_at : ∀ (xs ys : List PyData) (i : Nat) (d : PyData), (zipD xs ys)[i]? = some d → ∃ x y, xs[i]? = some x ∧ ys[i]? = some y ∧ d = .tuple [x, y]
  | [], ys, i, d, h => by simp [zipD] at h
  | x :: r, [], i, d, h => by simp [zipD] at h
  | x :: r, y :: q, 0, d, h => by
    unfold zipD at h
    simp at h
    exact ⟨x, y, rfl, rfl, h.symm⟩
  | x :: r, y :: q, i + 1, d, h => by
    unfold zipD at h
    rw [List.getElem?_cons_succ] at h
    exact zipD_at r q i d h
def iZipD (a b : DE) : DI := fun env k => a env fun x => b env fun y => match x, y with
  | .list xs, .list ys => k (zipD xs ys)
  | .tuple xs, .tuple ys => k (zipD xs ys)
  | _, _ => false
section
variable {W : Wd} {X : Cx} {K : PySem.W.Frag} {tg ea eb : Expr} {da db : DE} {pos : Pos}
theorem walkL {a : Addr} {vl : List V} {ds : List PyData} {F' : Hp} (ha : F' a = some (.lst vl)) (r : RpAll K F' vl ds) : IsWalk K W (Itl K a) ds F' := by
  refine ⟨fun H => SqL K H a vl, YAt vl, by rw [← r.length]; exact walk_list, fun F H e1 e2 => .inl (.inl (e2 _ _ (e1 _ _ ha))), fun i H x H2 F d e1 B hd y => ?_⟩
  obtain ⟨rfl, hx⟩ := y
  obtain ⟨v, h1, h2⟩ := r.at hd
  rw [hx] at h1
  cases h1
  exact ⟨F, Stp.refl B, h2.mono e1⟩
theorem walkT {a : Addr} {vl : List V} {ds : List PyData} {F' : Hp} (hs : ∀ F H, Same F' F → Same F H → SqT K H a vl) (r : RpAll K F' vl ds) : IsWalk K W (Itt K a) ds F' := by
  refine ⟨fun H => SqT K H a vl, YAt vl, by rw [← r.length]; exact walk_tup, hs, fun i H x H2 F d e1 B hd y => ?_⟩
  obtain ⟨rfl, hx⟩ := y
  obtain ⟨v, h1, h2⟩ := r.at hd
  rw [hx] at h1
  cases h1
  exact ⟨F, Stp.refl B, h2.mono e1⟩
theorem walkS {z : Str} {F' : Hp} : IsWalk K W (Its z) (signsD z) F' := by
  refine ⟨fun _ => True, _, by rw [show (signsD z).length = z.cps.size by simp [signsD]]; exact walk_str, fun _ _ _ _ => trivial, fun i H x H2 F d e1 B hd y => ?_⟩
  obtain ⟨rfl, c, hc, rfl⟩ := y
  have e : d = .str ⟨#[c]⟩ := by
    unfold signsD at hd
    rw [List.getElem?_map, Array.getElem?_toList, hc] at hd
    exact (Option.some.inj hd).symm
  subst e
  exact ⟨F, Stp.refl B, .str _⟩
theorem walkR {lo : Int} {n : Nat} {F' : Hp} : IsWalk K W (Itr lo n) (rangeD lo n) F' := by
  refine ⟨fun _ => True, _, by rw [rangeD_len]; exact walk_range, fun _ _ _ _ => trivial, fun i H x H2 F d e1 B hd y => ?_⟩
  obtain ⟨rfl, rfl⟩ := y
  rw [rangeD_at n lo i d hd]
  exact ⟨F, Stp.refl B, .int _⟩
theorem walkPair {F H H2 : Hp} {x : V} {f g : Nat → Option V} {i : Nat} {v w : V} {d e : PyData} (B : Bs W.pp F H) (y : YPair f g i H x H2) (h1 : f i = some v) (h2 : g i = some w) (r1 : Rp K F v d) (r2 : Rp K F w e) : ∃ F2, Stp W.pp F H F2 H2 ∧ Rp K F2 x (.tuple [d, e]) := by
  obtain ⟨T, a, b, rfl, nT, rfl, f1, f2⟩ := y
  rw [h1] at f1
  rw [h2] at f2
  cases f1
  cases f2
  have st := Stp.new (o := .tup [v, w]) B nT
  exact ⟨_, st, .tup upd_same (.cons (r1.mono st.ff) (.cons (r2.mono st.ff) .nil))⟩
theorem walkE {a : Addr} {vl : List V} {ds : List PyData} {F' : Hp} (ha : F' a = some (.lst vl)) (r : RpAll K F' vl ds) : IsWalk K W (Ite K a) (enumD 0 ds) F' := by
  refine ⟨fun H => SqL K H a vl, _, by rw [enumD_len, ← r.length]; exact walk_enum, fun F H e1 e2 => .inl (.inl (e2 _ _ (e1 _ _ ha))), fun i H x H2 F d e1 B hd y => ?_⟩
  obtain ⟨z, h1, h2⟩ := enumD_at ds 0 i d hd
  obtain ⟨v, h3, h4⟩ := r.at h1
  subst h2
  rw [Nat.zero_add]
  exact walkPair B y rfl h3 (.int _) (h4.mono e1)
theorem walkZ {a b : Addr} {vl wl : List V} {ds es : List PyData} {F' : Hp} (ha : F' a = some (.lst vl)) (r : RpAll K F' vl ds) (hb : F' b = some (.lst wl)) (r2 : RpAll K F' wl es) : IsWalk K W (Itz K a b) (zipD ds es) F' := by
  refine ⟨fun H => SqL K H a vl ∧ SqL K H b wl, _, walk_zip (by rw [zipD_len, r.length, r2.length]), fun F H e1 e2 => ⟨.inl (.inl (e2 _ _ (e1 _ _ ha))), .inl (.inl (e2 _ _ (e1 _ _ hb)))⟩, fun i H x H2 F d e1 B hd y => ?_⟩
  obtain ⟨z, z2, h1, h2, h3⟩ := zipD_at ds es i d hd
  obtain ⟨v, h4, h5⟩ := r.at h1
  obtain ⟨v2, h6, h7⟩ := r2.at h2
  subst h3
  exact walkPair B y h4 h6 (h5.mono e1) (h7.mono e1)
theorem walk_zipTT {a b : Addr} {xs ys : List V} {n : Nat} (hn : n = min xs.length ys.length) : Walk (RZ.ItzT K a b) n (fun H => SqT K H a xs ∧ SqT K H b ys) (YPair (fun i => xs[i]?) (fun i => ys[i]?)) := by
  subst hn
  refine ⟨fun i _ hi q => ?_, fun _ q => ⟨xs, ys, q.1, q.2, by omega⟩, fun i H v H' _ q y => ?_⟩
  · have h1 : i < xs.length := by omega
    have h2 : i < ys.length := by omega
    exact ⟨xs, ys, xs[i], ys[i], q.1, q.2, by simp [h1], by simp [h2]⟩
  · obtain ⟨T, x, z, h1, h2, h3, h4, h5⟩ := y
    exact ⟨T, x, z, h1, h2, h3, h4 xs q.1, h5 ys q.2⟩
theorem walkZT {a b : Addr} {vl wl : List V} {ds es : List PyData} {F' : Hp} (ha : ∀ F H, Same F' F → Same F H → SqT K H a vl) (r : RpAll K F' vl ds) (hb : ∀ F H, Same F' F → Same F H → SqT K H b wl) (r2 : RpAll K F' wl es) : IsWalk K W (RZ.ItzT K a b) (zipD ds es) F' := by
  refine ⟨fun H => SqT K H a vl ∧ SqT K H b wl, _, walk_zipTT (by rw [zipD_len, r.length, r2.length]), fun F H e1 e2 => ⟨ha F H e1 e2, hb F H e1 e2⟩, fun i H x H2 F d e1 B hd y => ?_⟩
  obtain ⟨z, z2, h1, h2, h3⟩ := zipD_at ds es i d hd
  obtain ⟨v, h4, h5⟩ := r.at h1
  obtain ⟨v2, h6, h7⟩ := r2.at h2
  subst h3
  exact walkPair B y h4 h6 (h5.mono e1) (h7.mono e1)
theorem sqT_all {F' : Hp} {a : Addr} {ds : List PyData} (h : Rp K F' (.ref a) (.tuple ds)) : ∃ vl, (∀ F H, Same F' F → Same F H → SqT K H a vl) ∧ RpAll K F' vl ds := by
  cases h with
  | tup h r => exact ⟨_, fun F H e1 e2 => .inl (.inl (e2 _ _ (e1 _ _ h))), r⟩
  | ktup h r => exact ⟨_, fun F H e1 e2 => .inr h, r⟩
/-- any list, tuple, text -/
def iAnyT (K : PySem.W.Frag) (tl : TE) : TI := fun σ H R => tl σ H fun x H1 => (∃ a, x = .ref a ∧ (∃ xs, SqL K H1 a xs) ∧ R (Itl K a) H1) ∨ (∃ a, x = .ref a ∧ (∃ xs, SqT K H1 a xs) ∧ R (Itt K a) H1) ∨ ∃ z, x = .str z ∧ R (Its z) H1
theorem pi_any {l : Expr} {tl : TE} (hl : PE X l tl) : PI X tg l (iAnyT X.K tl) := by
  refine ⟨fun pins s σ H R I h => ?_⟩
  refine thn (hl.run pins s σ H _ I h) fun v s1 ⟨x, H1, I1, r1, q1⟩ => ?_
  rcases q1 with ⟨a, e, ⟨xs, hq⟩, q⟩ | ⟨a, e, ⟨xs, hq⟩, q⟩ | ⟨z, e, q⟩
  · subst e
    cases r1
    obtain ⟨its, rv, p, hz⟩ := I1.list hq
    refine wpAny_pyIter_list p.isList ?_
    refine ⟨s1.heap.objs.size, [s1.heap.objs.size], _, _, H1, rfl, I1.kept (t' := s1.toks) fun b o e => Heap.get?_push_of_some _ e, turn_list a _, ⟨_, Heap.get?_push_size _ rfl, rfl, rfl⟩, fun b hb => ?_, q⟩
    have e : b = s1.heap.objs.size := by simpa using hb
    subst e
    exact I1.fpOk (Nat.le_refl _) (I1.hok.fresh (Nat.le_refl _))
  · subst e
    cases r1
    obtain ⟨its, rv, p, hz⟩ := I1.tuple hq
    refine wpAny_pyIter_tuple (show s1.heap.IsTuple a its.toArray from p) ?_
    refine ⟨s1.heap.objs.size, [s1.heap.objs.size], _, _, H1, rfl, I1.kept (t' := s1.toks) fun b o e => Heap.get?_push_of_some _ e, turn_tuple a _, ⟨_, Heap.get?_push_size _ rfl, rfl, rfl⟩, fun b hb => ?_, q⟩
    have e : b = s1.heap.objs.size := by simpa using hb
    subst e
    exact I1.fpOk (Nat.le_refl _) (I1.hok.fresh (Nat.le_refl _))
  · subst e
    obtain ⟨t, rfl⟩ := r1
    cases ha : z.cps.all (· < 128)
    · exact wpAny_pyIter_wide ha (pi_one (tk := s1.toks) I1 _ (turn_str _ z t "str_iterator" (.inr rfl)) ⟨_, Heap.get?_push_size _ rfl, rfl, rfl⟩ q)
    · exact wpAny_pyIter_ascii ha (pi_one (tk := s1.toks) I1 _ (turn_str _ z t "str_ascii_iterator" (.inl rfl)) ⟨_, Heap.get?_push_size _ rfl, rfl, rfl⟩ q)
theorem si_seq (a : SE W X ea da) : SI W X tg ea (iSeq da) := by
  obtain ⟨t, p, o⟩ := a
  refine ⟨_, pi_any p, fun env σ F H k R Re h q => o env σ F H _ _ Re h fun d v F1 H1 s1 r1 h1 => ?_⟩
  have B := (Re.step s1).bs
  cases d with
  | list xs =>
    cases r1 with
    | lst ha ra => exact .inl ⟨_, rfl, ⟨_, .inl (.inl (B.keep ha))⟩, q _ _ F1 H1 s1 (walkL ha ra) h1⟩
  | tuple xs =>
    cases v with
    | ref a =>
      obtain ⟨vl, hs, ra⟩ := sqT_all r1
      exact .inr (.inl ⟨_, rfl, ⟨_, hs F1 H1 (Same.refl F1) B.fh⟩, q _ _ F1 H1 s1 (walkT hs ra) h1⟩)
    | _ => cases r1
  | str z => cases r1; exact .inr (.inr ⟨z, rfl, q _ _ F1 H1 s1 walkS h1⟩)
  | _ => cases h1
theorem si_range1 {p : Pos} (hm : X.mg "range" = none) (a : SE W X ea da) (hg : Gl X "range" := by rfl) (hs : starEach [ea] X.env = [(false, eval ea X.env)] := by rfl) (hs2 : starEach [ea] X.env = (false, eval ea X.env) :: starEach [] X.env := by rfl) : SI W X tg (.Call (.Name "range" p) [ea] [] pos) (iRange1 da) := by
  obtain ⟨t, q, o⟩ := a
  refine ⟨_, pi_range1 hg hm (pa_cons q pa_nil hs2) hs, fun env σ F H k R Re h q => o env σ F H _ _ Re h fun d v F1 H1 s1 r1 h1 => ?_⟩
  cases d with
  | int n =>
    cases r1
    cases e : big n with
    | false => simp only [e] at h1; cases h1
    | true =>
      simp only [e] at h1
      obtain ⟨b1, b2⟩ := big_ok e
      exact ⟨n, rfl, b1, b2, q _ _ F1 H1 s1 walkR h1⟩
  | _ => cases h1
theorem si_range2 {p : Pos} (hm : X.mg "range" = none) (a : SE W X ea da) (b : SE W X eb db) (hg : Gl X "range" := by rfl) (hs : starEach [ea, eb] X.env = [(false, eval ea X.env), (false, eval eb X.env)] := by rfl) (hs2 : starEach [eb] X.env = [(false, eval eb X.env)] := by rfl)
    (h1 : starEach [ea, eb] X.env = (false, eval ea X.env) :: starEach [eb] X.env := by rfl) (h2 : starEach [eb] X.env = (false, eval eb X.env) :: starEach [] X.env := by rfl) : SI W X tg (.Call (.Name "range" p) [ea, eb] [] pos) (iRange2 da db) := by
  obtain ⟨t, p1, o⟩ := a
  obtain ⟨t2, p2, o2⟩ := b
  refine ⟨_, pi_range2 hg hm (pa_cons p1 (pa_cons p2 pa_nil h2) h1) hs hs2, fun env σ F H k R Re h q => o env σ F H _ _ Re h fun d v F1 H1 s1 r1 h1 => o2 env σ F1 H1 _ _ (Re.step s1) h1 fun d2 v2 F2 H2 s2 r2 h2 => ?_⟩
  cases d with
  | int lo =>
    cases d2 with
    | int n =>
      cases r1
      cases r2
      cases e : (big lo && big n) with
      | false => simp only [e] at h2; cases h2
      | true =>
        simp only [e] at h2
        obtain ⟨e1, e2⟩ := Bool.and_eq_true_iff.mp e
        obtain ⟨b1, b2⟩ := big_ok e1
        obtain ⟨b3, b4⟩ := big_ok e2
        exact ⟨lo, n, rfl, ⟨b1, b2, b3, b4⟩, q _ _ F2 H2 (s1.trans s2) walkR h2⟩
    | _ => cases h2
  | _ => cases h2
theorem si_enum {p tpos : Pos} {elts : List Expr} {kk : Nat} (hm : X.mg "enumerate" = none) (a : SE W X ea da) (hg : Gl X "enumerate" := by rfl) (hs : starEach [ea] X.env = [(false, eval ea X.env)] := by rfl) (hs2 : starEach [ea] X.env = (false, eval ea X.env) :: starEach [] X.env := by rfl) :
    SI W X (.Tuple elts kk tpos) (.Call (.Name "enumerate" p) [ea] [] pos) (iEnumD da) := by
  obtain ⟨t, q, o⟩ := a
  refine ⟨_, pi_enum hg hm (pa_cons q pa_nil hs2) hs, fun env σ F H k R Re h q => o env σ F H _ _ Re h fun d v F1 H1 s1 r1 h1 => ?_⟩
  have B := (Re.step s1).bs
  cases d with
  | list xs =>
    cases r1 with
    | lst ha ra => exact ⟨_, _, rfl, .inl (.inl (B.keep ha)), q _ _ F1 H1 s1 (walkE ha ra) h1⟩
  | _ => cases h1
theorem si_zip {p tpos : Pos} {elts : List Expr} {kk : Nat} (hm : X.mg "zip" = none) (a : SE W X ea da) (b : SE W X eb db) (hg : Gl X "zip" := by rfl) (hs : starEach [ea, eb] X.env = (false, eval ea X.env) :: starEach [eb] X.env := by rfl) (hpl : (backTo pos (starEach [eb] X.env)).any (·.1) = false := by rfl)
    (h2 : starEach [eb] X.env = (false, eval eb X.env) :: starEach [] X.env := by rfl) : SI W X (.Tuple elts kk tpos) (.Call (.Name "zip" p) [ea, eb] [] pos) (iZipD da db) := by
  obtain ⟨t, p1, o⟩ := a
  obtain ⟨t2, p2, o2⟩ := b
  refine ⟨_, RZ.pi_zipA hg hm (pa_cons p1 (pa_cons p2 pa_nil h2) hs) hs hpl, fun env σ F H k R Re h q => o env σ F H _ _ Re h fun d v F1 H1 s1 r1 h1 => o2 env σ F1 H1 _ _ (Re.step s1) h1 fun d2 v2 F2 H2 s2 r2 h2 => ?_⟩
  have B := ((Re.step s1).step s2).bs
  have r1 := r1.mono s2.ff
  cases d with
  | list xs =>
    cases d2 with
    | list ys =>
      cases r1 with
      | lst ha ra =>
        cases r2 with
        | lst hb rb => exact ⟨_, _, _, _, rfl, .inl ⟨.inl (.inl (B.keep ha)), .inl (.inl (B.keep hb)), q _ _ F2 H2 (s1.trans s2) (walkZ ha ra hb rb) h2⟩⟩
    | _ => cases h2
  | tuple xs =>
    cases d2 with
    | tuple ys =>
      cases v with
      | ref pa =>
        cases v2 with
        | ref pb =>
          obtain ⟨vl, ha, ra⟩ := sqT_all r1
          obtain ⟨wl, hb, rb⟩ := sqT_all r2
          exact ⟨_, _, _, _, rfl, .inr ⟨ha F2 H2 (Same.refl F2) B.fh, hb F2 H2 (Same.refl F2) B.fh, q _ _ F2 H2 (s1.trans s2) (walkZT ha ra hb rb) h2⟩⟩
        | _ => cases r2
      | _ => cases r1
    | _ => cases h2
  | _ => cases h2
end

/-! ### comprehensions -/
def wipeE (env : Sls) : List Nat → Sls
  | [] => env
  | v :: vs => (wipeE env vs).set v .no
theorem Rel.wipe {K : PySem.W.Frag} {W : Wd} {env : Sls} {σ : L2.St} {F H : Hp} (R : Rel K W env σ F H) : ∀ vs : List Nat, Rel K W (wipeE env vs) (L2.wipe σ vs) F H
  | [] => R
  | v :: vs => (Rel.wipe R vs).unset none v
def goLc (tg : DG) (tt : DT) (el : DE) (env : Sls) : List PyData → List PyData → KF → Bool
  | [], acc, k => k (.list acc.reverse)
  | x :: xs, acc, k => tg x env fun env' => tt env' fun b => match b with
    | true => el env' fun y => goLc tg tt el env xs (y :: acc) k
    | false => goLc tg tt el env xs acc k
def dLc (it : DI) (tg : DG) (tt : DT) (el : DE) (vs : List Nat) : DE := fun env k => it env fun xs => match small xs.length with
  | true => goLc tg tt el (wipeE env vs) xs [] k
  | false => false
theorem wipe_at {σ : L2.St} : ∀ {vs : List Nat} {j : Nat}, j ∉ vs → (L2.wipe σ vs)[j]? = σ[j]?
  | [], _, _ => rfl
  | v :: vs, j, h => by
    unfold L2.wipe
    rw [List.getElem?_set_ne (fun z => h (by simp [z]))]
    exact wipe_at (fun z => h (by simp [z]))
theorem wipe_in {σ : L2.St} : ∀ {vs : List Nat} {j : Nat}, j ∈ vs → j < σ.length → (L2.wipe σ vs)[j]? = some none
  | v :: vs, j, h, hl => by
    unfold L2.wipe
    by_cases e : v = j
    · subst e
      rw [List.getElem?_set_self (by rw [L2.wipe_length]; exact hl)]
    · rw [List.getElem?_set_ne e]
      exact wipe_in (by rcases List.mem_cons.mp h with z | z; exact absurd z.symm e; exact z) hl
theorem wipe_same {σ σ2 : L2.St} {vs sl : List Nat} (hl : σ2.length = σ.length) (hs : ∀ j ∈ sl, j ∈ vs) (h : ∀ j, j ∉ sl → σ2[j]? = (L2.wipe σ vs)[j]?) : L2.wipe σ2 vs = L2.wipe σ vs := by
  apply List.ext_getElem?
  intro j
  by_cases hj : j ∈ vs
  · by_cases hb : j < σ.length
    · rw [wipe_in hj hb, wipe_in hj (by rw [hl]; exact hb)]
    · rw [List.getElem?_eq_none (by rw [L2.wipe_length]; omega), List.getElem?_eq_none (by rw [L2.wipe_length]; omega)]
  · rw [wipe_at hj, h j (fun z => hj (hs j z))]
def dYes : DT := fun _ k => k true
structure STs (W : Wd) (X : Cx) (es : List Expr) (dt : DT) : Prop where
  ex : ∃ t, PTs X es t ∧ OkT X.K W t dt
section
variable {W : Wd} {X : Cx} {K : PySem.W.Frag} {e : Expr} {dt : DT}
theorem sts_nil : STs W X [] dYes := ⟨_, pts_nil, fun env σ F H k Q R h q => q true F H (Stp.refl R.bs) h⟩
theorem sts_one (h : ST W X e dt) : STs W X [e] dt := by
  obtain ⟨t, p, o⟩ := h
  exact ⟨t, pts_one p, o⟩
theorem STs.can {es : List Expr} (h : STs W X es dt) : PTs X es (canT X.K W dt) := by
  obtain ⟨t, p, o⟩ := h
  exact ⟨fun pins s σ H Q I ⟨env, F, k, R, h, q⟩ => p.run pins s σ H Q I (o env σ F H k Q R h q)⟩
/-- the state in a comprehension: the new list at D -/
structure InLc (K : PySem.W.Frag) (W : Wd) (F1 H1 : Hp) (D : Addr) (acc : List PyData) (F H : Hp) : Prop where
  st : Stp W.pp F1 H1 F H
  un : F D = none
  at_ : ∃ vl, H D = some (.lst vl) ∧ RpAll K F vl acc.reverse
theorem InLc.step {F1 H1 F H F' H' : Hp} {D : Addr} {acc : List PyData} (np : D ≠ W.pp) (c : InLc K W F1 H1 D acc F H) (s : Stp W.pp F H F' H') : InLc K W F1 H1 D acc F' H' := by
  obtain ⟨vl, h1, h2⟩ := c.at_
  exact ⟨c.st.trans s, s.own c.un (by rw [h1]; exact fun z => nomatch z), vl, s.fr _ _ np h1, h2.mono s.ff⟩
theorem okE_lc {wi : TI} {g : TG} {tt : TT} {te : TE} {it : DI} {tg : DG} {dt : DT} {el : DE} {vs sl : List Nat} (oi : OkI K W wi it) (og : OkG K W g tg sl) (ot : OkT K W tt dt) (oe : OkE K W te el) (hsl : ∀ j ∈ sl, j ∈ vs) :
    OkE K W (tLc wi g tt te vs) (dLc it tg dt el vs) := fun env σ F H k Q R h q => by
  refine oi env σ F H _ _ R h fun ds J F1 H1 s1 wk h1 => ?_
  cases e : small ds.length with
  | false => rw [e] at h1; cases h1
  | true =>
    rw [e] at h1
    have hz := small_ok e
    have hz2 : ds.length ≤ 100000 := Nat.le_of_ble_eq_true e
    have R1 := R.step s1
    have B1 := R1.bs
    obtain ⟨G, Y, w1, w2, w3⟩ := wk
    intro D hD
    have np : D ≠ W.pp := fun z => by subst z; exact B1.po.some hD
    have fD : F1 D = none := by
      cases q : F1 D with
      | none => rfl
      | some o => rw [B1.fh D o q] at hD; cases hD
    have RW := R1.wipe vs
    refine lc_it w1 (fun i H' => ∃ acc F', InLc K W F1 H1 D acc F' H' ∧ acc.length ≤ i ∧ goLc tg dt el (wipeE env vs) (ds.drop i) acc k = true) ⟨[], F1, ⟨Stp.newO B1 hD, fD, [], upd_same, .nil⟩, Nat.le_refl _, h1⟩
      (fun i H' _ ⟨acc, F', c, _⟩ => w2 F' H' c.st.ff c.st.fh) (fun i x H' H'' hi ⟨acc, F', c, la, hg⟩ y => ?_) (fun H' ⟨acc, F', c, la, hg⟩ => ?_)
    · have hd : ds[i]? = some ds[i] := List.getElem?_eq_getElem hi
      have hdr : ds.drop i = ds[i] :: ds.drop (i + 1) := List.drop_eq_getElem_cons hi
      rw [hdr] at hg
      have Bc := Stp.bs B1 c.st
      obtain ⟨F2, s2, r2⟩ := w3 i H' x H'' F' ds[i] c.st.ff Bc hd y
      have c2 := c.step np s2
      have RW2 := (RW.step c2.st)
      unfold goLc at hg
      refine og _ _ F2 H'' x _ _ _ RW2 r2 hg fun env' σ' R' a1 l1 hk => ?_
      have ew : L2.wipe σ' vs = L2.wipe σ vs := wipe_same (l1.trans (L2.wipe_length σ vs)) hsl a1
      refine ⟨ew, ?_⟩
      refine ot env' σ' F2 H'' _ _ R' hk fun b F3 H3 s3 h3 => ?_
      have c3 := c2.step np s3
      cases b with
      | false =>
        rw [if_neg Bool.false_ne_true]
        exact ⟨acc, F3, c3, by omega, h3⟩
      | true =>
        rw [if_pos rfl]
        refine oe env' σ' F3 H3 _ _ (R'.step s3) h3 fun d v F4 H4 s4 r4 h4 => ?_
        have c4 := c3.step np s4
        obtain ⟨vl, h5, h6⟩ := c4.at_
        refine ⟨vl, h5, by rw [h6.length, List.length_reverse]; exact Nat.lt_of_le_of_lt (show acc.length ≤ 100000 by omega) (by decide), d :: acc, F4, ⟨c4.st.write hD c4.un np, c4.un, vl ++ [v], upd_same, ?_⟩, by rw [List.length_cons]; omega, h4⟩
        rw [List.reverse_cons]
        exact h6.append (.cons r4 .nil)
    · rw [List.drop_length] at hg
      unfold goLc at hg
      obtain ⟨vl, h5, h6⟩ := c.at_
      have st := c.st.freeze hD c.un h5
      exact q _ _ (upd F' D (.lst vl)) H' (s1.trans st) (.lst upd_same (h6.mono (same_upd c.un))) hg
end
end Dl

namespace Dl
open PySem PySem.Spec PyProof.Rows L2

section
variable {W : Wd} {X : Cx} {K : PySem.W.Frag}
theorem se_lc {elt tg iter : Expr} {ifs : List Expr} {scope : Scope} {own : List (Str × Nat)} {pos : Pos} {di : DI} {g : DG} {dt : DT} {de : DE} {sl vs : List Nat} (hc : X.calm = true) (hN : X.N.Nodup) (hi : SI W X tg iter di) (ok : BlkOk X.N X.env.scope scope own)
    (hg : ∀ (s : Shared) (H : Hp) (C : Addr) (cl : List (Str × Addr)) (fp : List Addr), SG W (X.blk s H scope (compEnvC scope cl C X.env) fp) tg g sl) (ht : ∀ (s : Shared) (H : Hp) (C : Addr) (cl : List (Str × Addr)) (fp : List Addr), STs W (X.blk s H scope (compEnvC scope cl C X.env) fp) ifs dt)
    (he : ∀ (s : Shared) (H : Hp) (C : Addr) (cl : List (Str × Addr)) (fp : List Addr), SE W (X.blk s H scope (compEnvC scope cl C X.env) fp) elt de) (hsl : ∀ j ∈ sl, j ∈ vs := by decide) (hvs : own.map (·.2) = vs := by rfl) (hs : ∀ x, foldedSetIterable iter X.env x = pure x := by intro _; rfl) :
    SE W X (.ListComp elt [⟨tg, iter, ifs, 0⟩] scope pos) (dLc di g dt de vs) := by
  obtain ⟨wi, p, oi⟩ := hi
  subst hvs
  exact ⟨_, pe_lc hc hN p ok (fun s H C cl fp => (hg s H C cl fp).can) (fun s H C cl fp => (ht s H C cl fp).can) (fun s H C cl fp => (he s H C cl fp).can) hs, okE_lc oi okG_can okT_can okE_can hsl⟩
theorem se_setlc {i : Nat} {y : Str} {py : Pos} {elt tg iter : Expr} {ifs : List Expr} {scope : Scope} {own : List (Str × Nat)} {pos spos : Pos} {di : DI} {g : DG} {dt : DT} {de : DE} {sl vs : List Nat} (hc : X.calm = true) (hN : X.N.Nodup) (hy : X.N[i]? = some y) (hyl : X.env.scope.names.lookup y = some .local)
    (hsw : swapsWith (.ListComp elt [⟨tg, iter, ifs, 0⟩] scope pos) (some (.Name y py)) spos.line X.env = pure true) (hi : SI W X tg iter di) (ok : BlkOk X.N X.env.scope scope own)
    (hg : ∀ (s : Shared) (H : Hp) (C : Addr) (cl : List (Str × Addr)) (fp : List Addr), SG W (X.blk s H scope (compEnvC scope cl C X.env) fp) tg g sl) (ht : ∀ (s : Shared) (H : Hp) (C : Addr) (cl : List (Str × Addr)) (fp : List Addr), STs W (X.blk s H scope (compEnvC scope cl C X.env) fp) ifs dt)
    (he : ∀ (s : Shared) (H : Hp) (C : Addr) (cl : List (Str × Addr)) (fp : List Addr), SE W (X.blk s H scope (compEnvC scope cl C X.env) fp) elt de) (hsl : ∀ j ∈ sl, j ∈ vs := by decide) (hvs : own.map (·.2) = vs := by rfl) (hs : ∀ x, foldedSetIterable iter X.env x = pure x := by intro _; rfl) :
    ∃ te, PS X (.Assign [.Name y py] (.ListComp elt [⟨tg, iter, ifs, 0⟩] scope pos) spos) (tAsg te (gName i)) ∧ OkE X.K W te (dLc di g dt de vs) := by
  obtain ⟨wi, p, oi⟩ := hi
  subst hvs
  exact ⟨_, ps_setLc hc hN hy hyl hsw p ok (fun s H C cl fp => (hg s H C cl fp).can) (fun s H C cl fp => (ht s H C cl fp).can) (fun s H C cl fp => (he s H C cl fp).can) hs, okE_lc oi okG_can okT_can okE_can hsl⟩
end

/-! ### promises where no guard stands around -/
structure FnOkG (P : Program) (w : World) (K : PySem.W.Frag) (mg : Str → Option Value) (base : Heap) (k : Nat) (f : Addr) (fd : FuncData) (ps : List Str) (sp : Sp) : Prop where
  len : ∀ vs H Q E, sp vs H Q E → vs.length = ps.length
  run : ∀ (A : Around) (outer : List Env) (s : Shared) (H : Hp) (args : Args) (us : List Value) (vs : List V) (Q : VK) (E : XK), Room k A → A.guards = some [] → Env0 P w K mg base A outer s H → BindsTo s fd args (ps.zip us) → Vals vs us → sp vs H Q E →
    codeAny (model P w) A (.call (.ref f) args) (CR CX0 outer P w H s Q E) s
theorem FnOkG.of {P : Program} {w : World} {K : PySem.W.Frag} {mg : Str → Option Value} {base : Heap} {k : Nat} {f : Addr} {fd : FuncData} {ps : List Str} {sp : Sp} (F : FnOk P w K mg base CX0 k f fd ps sp) : FnOkG P w K mg base k f fd ps sp :=
  ⟨F.len, fun A outer s H args us vs Q E hr _ => F.run A outer s H args us vs Q E hr⟩
theorem FnOkG.imp {P : Program} {w : World} {K : PySem.W.Frag} {mg : Str → Option Value} {base : Heap} {k : Nat} {f : Addr} {fd : FuncData} {ps : List Str} {sp sp' : Sp} (F : FnOkG P w K mg base k f fd ps sp) (h : ∀ vs H Q E, sp' vs H Q E → sp vs H Q E) : FnOkG P w K mg base k f fd ps sp' :=
  ⟨fun vs H Q E z => F.len vs H Q E (h vs H Q E z), fun A outer s H args us vs Q E hr hg e0 hb r z => F.run A outer s H args us vs Q E hr hg e0 hb r (h vs H Q E z)⟩
theorem FnOkG.mono {P : Program} {w : World} {K : PySem.W.Frag} {mg : Str → Option Value} {base : Heap} {j k : Nat} {f : Addr} {fd : FuncData} {ps : List Str} {sp : Sp} (F : FnOkG P w K mg base j f fd ps sp) (h : j ≤ k) : FnOkG P w K mg base k f fd ps sp :=
  ⟨F.len, fun A outer s H args us vs Q E hr => F.run A outer s H args us vs Q E (hr.mono h)⟩
theorem fn_ofG {P : Program} {w : World} {K : PySem.W.Frag} {mg : Str → Option Value} {base : Heap} {k : Nat} {f : Addr} {name qual : Str} {params : Arguments} {body : List Stmt} {scope : Scope} {dV kV doc pm cdv ct oc : Value} {an od : Option Addr}
    {osl : Array (Option Value)} {N ps : List Str} {sp : Sp} (lk : K.lookup f = some ⟨oc, od, .func (PySem.W.fnOf name qual params body scope dV kV doc pm an cdv ct), osl⟩) (hcd : PySem.W.codeIn K cdv qual = true) (S : FnScope N ps scope)
    (len : ∀ vs H Q E, sp vs H Q E → vs.length = ps.length)
    (hb : ∀ (A : Around) (outer : List Env) (s : Shared) (H : Hp) (vs : List V) (Q : VK) (E : XK), Room k (A.deeper (envOfC qual scope s.heap.objs.size f cdv)) → A.guards = some [] → sp vs H Q E →
      ∃ t, PSs (cxOf CX0 P w K mg base N qual scope f cdv A outer s H E) body t ∧ t { nx := fun _ H' => Q .non H', rt := Q } (start N vs) H) :
    FnOkG P w K mg base (k + 1) f (PySem.W.fnOf name qual params body scope dV kV doc pm an cdv ct) ps sp := by
  refine ⟨len, fun A outer s H args us vs Q E room hg e0 bind r hsp => ?_⟩
  have kin : K.In s.heap := e0.mod.kin.keeps fun b o e => (e0.bs b o e).1
  have nol : s.heap.NoLimit := e0.mod.nolimit.keeps fun b o e => (e0.bs b o e).1
  have kind : ∀ y ∈ ps.zip us, scope.names.lookup y.1 = some .local ∨ (scope.names.lookup y.1 = some .cell ∧ ((cellsFrom (s.heap.objs.size + 1) scope.names []).lookup y.1).isSome = true) := fun ⟨n, v⟩ hy =>
    (S.par n (List.of_mem_zip hy).1).imp id fun q => ⟨q, PySem.W.cellsFrom_some _ _ _ (.inl q)⟩
  refine codeAny_call_function room.depth (kin _ _ lk) rfl S.co S.gen rfl (PySem.W.codeRec_of kin hcd) (bind _ _ _ _ (wpAny_newFunctionEnv_cells S.kind kind fun env he s1 x => ?_))
  subst he
  refine ⟨nol.keeps x.toInCall.keep, codeAny_func ?_⟩
  obtain ⟨t, ht, hq⟩ := hb A outer s H vs Q E (room.deeper _) hg hsp
  have J0 : Inv (cxOf CX0 P w K mg base N qual scope f cdv A outer s H E) [] (start N vs) H s1 := inv_start S room.hd e0 (len _ _ _ _ hsp) r x
  refine wpAny_mono (ht.run [] s1 (start N vs) H _ J0 hq) (fun fl s' hs => ?_) fun e s' hs => hs
  cases fl with
  | ret u =>
    obtain ⟨v, σ', H', J, rv, q⟩ := hs
    exact ⟨v, H', J.os, J.bare, J.base, J.hok, rv, q⟩
  | next =>
    obtain ⟨σ', H', J, q⟩ := hs
    exact ⟨.non, H', J.os, J.bare, J.base, J.hok, rfl, q⟩
  | brk =>
    obtain ⟨_, _, _, q⟩ := hs
    cases q
  | cont =>
    obtain ⟨_, _, _, q⟩ := hs
    cases q
/-! ### calls under promises with guards -/
theorem pe_callG {X : Cx} {k : Nat} {f : Addr} {fd : FuncData} {ps : List Str} {sp : Sp} {x : Str} {p pos : Pos} {e : Expr} {es : List Expr} {t : TA} (F : FnOkG X.prog X.w X.K X.mg X.base k f fd ps sp) (hr : Room k X.A) (gd : X.A.guards = some []) (hg : Gl X x) (hm : X.mg x = some (.ref f)) (hk : PySem.W.keepIn X.K (.ref f) = true) (hb : Binds X.K fd ps [])
    (ha : PA X (e :: es) t) (hdb : (x == ("__debug__" : Str)) = false := by decide) (he : starEach (e :: es) X.env = (false, eval e X.env) :: starEach es X.env := by rfl) (hpl : (backTo pos (starEach es X.env)).any (·.1) = false := by rfl) :
    PE X (.Call (.Name x p) (e :: es) [] pos) (tCall sp [] E0 t) := by
  refine ⟨fun pins s σ H Q I h => wpAny_Call_Name_kw (ld_glob I hg hm ?_ hdb)⟩
  refine PySem.W.callWith_K (h₀ := X.base) I.ok.mod.kin hk (thn (ha.run pos pins s σ H _ I h) fun us s1 ⟨vs, H1, I1, r, q⟩ => ⟨I1.kIn, ?_⟩) he hpl
  have q : sp (vs ++ []) H1 Q E0 := q
  rw [List.append_nil] at q
  have hl : (us ++ []).length = ps.length := by rw [List.append_nil, ← r.length]; exact F.len _ _ _ _ q
  have bd := hb s1 us I1.kIn hl
  rw [List.append_nil] at bd
  refine wpAny_call (codeAny_mono (F.run X.A X.stack s1 H1 ⟨us, []⟩ us vs Q E0 hr gd I1.env0 bd r q) fun o s' hq => ?_)
  cases o with
  | error u => exact (pass0 (X := X)) pins σ H1 s1 u s' I1 hq
  | ok fl =>
    cases fl with
    | ret u => exact I1.after hq
    | next => exact False.elim hq
    | brk => exact False.elim hq
    | cont => exact False.elim hq

theorem okG {P : Program} {w : World} {K : PySem.W.Frag} {mg : Str → Option Value} {base : Heap} {x qual : Str} {params : Arguments} {body : List Stmt} {scope : Scope} {dvs : List V} {kws : List (Str × V)} {f : Addr} {fd : FuncData} {N ps : List Str} {k : Nat} {sp : Sp} (F : FunD K x qual params body scope dvs kws f fd) (S : FnScope N ps scope) (len : ∀ vs H Q E, sp vs H Q E → vs.length = ps.length)
    (hbody : ∀ (cdv : Value) (A : Around) (outer : List Env) (s : Shared) (H : Hp) (vs : List V) (Q : VK) (E : XK), Room k (A.deeper (envOfC qual scope s.heap.objs.size f cdv)) → A.guards = some [] → sp vs H Q E →
      ∃ t, PSs (cxOf CX0 P w K mg base N qual scope f cdv A outer s H E) body t ∧ t { nx := fun _ H' => Q .non H', rt := Q } (start N vs) H) : FnOkG P w K mg base (k + 1) f fd ps sp := by
  obtain ⟨oc, od, dV, kV, doc, pm, an, cdv, ct, osl, rfl, lk, hcd, _, _⟩ := F.ex
  exact fn_ofG lk hcd S len fun A outer s H vs Q E hr hg hsp => hbody cdv A outer s H vs Q E hr hg hsp
/-- room, and no guard around -/
structure RG (k : Nat) (A : Around) : Prop where
  r : Room k A
  g : A.guards = some []
/-! ### calls of defs -/
abbrev Fn := List PyData → KF → Bool
def RA (K : PySem.W.Frag) (pp : Addr) (F : Hp) (v : V) (d : PyData) : Prop := Rp K F v d ∨ (d = potD ∧ v = .ref pp)
theorem RA.mono {K : PySem.W.Frag} {pp : Addr} {F F' : Hp} {v : V} {d : PyData} (e : Same F F') (h : RA K pp F v d) : RA K pp F' v d := h.elim (fun h => .inl (h.mono e)) .inr
abbrev RAs (K : PySem.W.Frag) (pp : Addr) (F : Hp) : List V → List PyData → Prop := Paired (RA K pp F)
def spOf (K : PySem.W.Frag) (m : Fn) (n : Nat) : Sp := fun vs H Q _ => vs.length = n ∧ ∃ (pp : Addr) (F : Hp) (ds : List PyData) (k : KF), Bs pp F H ∧ RAs K pp F vs ds ∧ m ds k = true ∧ ∀ d v F' H', Stp pp F H F' H' → Rp K F' v d → k d = true → Q v H'
def OkP (K : PySem.W.Frag) (W : Wd) (t : TA) (e : DA) : Prop := ∀ (env : Sls) (σ : L2.St) (F H : Hp) (k : List PyData → Bool) (Q : List V → Hp → Prop), Rel K W env σ F H → e env k = true → (∀ ds vs F' H', Stp W.pp F H F' H' → RAs K W.pp F' vs ds → k ds = true → Q vs H') → t σ H Q
structure SAP (W : Wd) (X : Cx) (es : List Expr) (da : DA) : Prop where
  ex : ∃ t, PA X es t ∧ OkP X.K W t da
structure SKP (W : Wd) (X : Cx) (kws : List Keyword) (da : DA) : Prop where
  ex : ∃ t, PK X kws t ∧ OkP X.K W t da
def aPot (i : Nat) (r : DA) : DA := fun env k => match look env i with
  | .pt => r env fun xs => k (potD :: xs)
  | _ => false
def dCall (m : Fn) (a : DA) : DE := fun env k => a env fun ds => m ds k
structure Has (P : Program) (w : World) (K : PySem.W.Frag) (mg : Str → Option Value) (base : Heap) (lev : Nat) (x : Str) (ps : List Str) (m : Fn) : Prop where
  ex : ∃ f fd, FnOkG P w K mg base lev f fd ps (spOf K m ps.length) ∧ mg x = some (.ref f) ∧ PySem.W.keepIn K (.ref f) = true ∧ Binds K fd ps [] ∧ ∃ oc od osl, K.lookup f = some ⟨oc, od, .func fd, osl⟩
theorem Has.mono {P : Program} {w : World} {K : PySem.W.Frag} {mg : Str → Option Value} {base : Heap} {j l : Nat} {x : Str} {ps : List Str} {m : Fn} (h : Has P w K mg base j x ps m) (e : j ≤ l) : Has P w K mg base l x ps m := by
  obtain ⟨f, fd, F, a, b, c, d⟩ := h
  exact ⟨f, fd, F.mono e, a, b, c, d⟩
/-- another function told of the def: told less -/
theorem Has.imp {P : Program} {w : World} {K : PySem.W.Frag} {mg : Str → Option Value} {base : Heap} {l : Nat} {x : Str} {ps : List Str} {m m' : Fn} (h : Has P w K mg base l x ps m) (e : ∀ ds k, m' ds k = true → m ds k = true) : Has P w K mg base l x ps m' := by
  obtain ⟨f, fd, F, a, b, c, d⟩ := h
  exact ⟨f, fd, F.imp fun vs H Q E ⟨hl, pp, F0, ds, k, B, r, hm, q⟩ => ⟨hl, pp, F0, ds, k, B, r, e ds k hm, q⟩, a, b, c, d⟩
section
variable {W : Wd} {X : Cx} {K : PySem.W.Frag} {ea : Expr} {es : List Expr} {da : DE} {dr : DA} {pos : Pos}
theorem sp_nil : SAP W X [] aNil := ⟨_, pa_nil, fun env σ F H k Q R h q => q [] [] F H (Stp.refl R.bs) .nil h⟩
theorem sp_cons (a : SE W X ea da) (r : SAP W X es dr) (hs : starEach (ea :: es) X.env = (false, eval ea X.env) :: starEach es X.env := by rfl) : SAP W X (ea :: es) (aCons da dr) := by
  obtain ⟨t1, p1, o1⟩ := a
  obtain ⟨t2, p2, o2⟩ := r
  refine ⟨_, pa_cons p1 p2 hs, fun env σ F H k Q R h q => ?_⟩
  exact o1 env σ F H _ _ R h fun d v F1 H1 s1 r1 h1 => o2 env σ F1 H1 _ _ (R.step s1) h1 fun ds vs F2 H2 s2 r2 h2 => q (d :: ds) (v :: vs) F2 H2 (s1.trans s2) (.cons (.inl (r1.mono s2.ff)) r2) h2
theorem sp_pot {i : Nat} {x : Str} {pos' : Pos} (r : SAP W X es dr) (hN : X.N[i]? = some x := by rfl) (hv : Vis X.env.scope x := by first | exact Or.inl rfl | exact Or.inr (Or.inl rfl) | exact Or.inr (Or.inr rfl)) (hd : (x == ("__debug__" : Str)) = false := by decide)
    (hcd : (x == ("__classdict__" : Str)) = false := by decide) (hs : starEach (.Name x pos' :: es) X.env = (false, eval (.Name x pos') X.env) :: starEach es X.env := by rfl) : SAP W X (.Name x pos' :: es) (aPot i dr) := by
  obtain ⟨t2, p2, o2⟩ := r
  refine ⟨_, pa_cons (pe_var hN hv hd hcd) p2 hs, fun env σ F H k Q R h q => ?_⟩
  unfold aPot at h
  cases e : look env i with
  | pt =>
    rw [e] at h
    have h0 : σ[i]? = some (some (.ref W.pp)) := R.sl i _ (look_some e (fun z => nomatch z))
    exact ⟨_, h0, o2 env σ F H _ _ R h fun ds vs F2 H2 s2 r2 h2 => q (potD :: ds) (.ref W.pp :: vs) F2 H2 s2 (.cons (.inr ⟨rfl, rfl⟩) r2) h2⟩
  | _ => rw [e] at h; cases h
theorem sk_nil : SKP W X [] aNil := ⟨_, pk_nil, fun env σ F H k Q R h q => q [] [] F H (Stp.refl R.bs) .nil h⟩
theorem sk_cons {kws : List Keyword} {nm : Option Str} {kpos : Pos} (a : SE W X ea da) (r : SKP W X kws dr) : SKP W X (⟨nm, ea, kpos⟩ :: kws) (aCons da dr) := by
  obtain ⟨t1, p1, o1⟩ := a
  obtain ⟨t2, p2, o2⟩ := r
  refine ⟨_, pk_cons p1 p2, fun env σ F H k Q R h q => ?_⟩
  exact o1 env σ F H _ _ R h fun d v F1 H1 s1 r1 h1 => o2 env σ F1 H1 _ _ (R.step s1) h1 fun ds vs F2 H2 s2 r2 h2 => q (d :: ds) (v :: vs) F2 H2 (s1.trans s2) (.cons (.inl (r1.mono s2.ff)) r2) h2
theorem sk_pot {kws : List Keyword} {nm : Option Str} {kpos : Pos} {i : Nat} {x : Str} {pos' : Pos} (r : SKP W X kws dr) (hN : X.N[i]? = some x := by rfl) (hv : Vis X.env.scope x := by first | exact Or.inl rfl | exact Or.inr (Or.inl rfl) | exact Or.inr (Or.inr rfl)) (hd : (x == ("__debug__" : Str)) = false := by decide)
    (hcd : (x == ("__classdict__" : Str)) = false := by decide) : SKP W X (⟨nm, .Name x pos', kpos⟩ :: kws) (aPot i dr) := by
  obtain ⟨t2, p2, o2⟩ := r
  refine ⟨_, pk_cons (pe_var hN hv hd hcd) p2, fun env σ F H k Q R h q => ?_⟩
  unfold aPot at h
  cases e : look env i with
  | pt =>
    rw [e] at h
    have h0 : σ[i]? = some (some (.ref W.pp)) := R.sl i _ (look_some e (fun z => nomatch z))
    exact ⟨_, h0, o2 env σ F H _ _ R h fun ds vs F2 H2 s2 r2 h2 => q (potD :: ds) (.ref W.pp :: vs) F2 H2 s2 (.cons (.inr ⟨rfl, rfl⟩) r2) h2⟩
  | _ => rw [e] at h; cases h
theorem paired_len {K : PySem.W.Frag} {pp : Addr} {F : Hp} {vs : List V} {ds : List PyData} (h : RAs K pp F vs ds) : vs.length = ds.length := Paired.length h
/-- a call needs as many values as there are parameters -/
def dCallN (n : Nat) (m : Fn) (a : DA) : DE := fun env k => a env fun ds => match Nat.beq ds.length n with
  | true => m ds k
  | false => false
theorem okE_call {t : TA} {m : Fn} {n : Nat} {E : XK} (a : OkP K W t dr) : OkE K W (tCall (spOf K m n) [] E t) (dCallN n m dr) := fun env σ F H k Q R h q => by
  refine a env σ F H _ _ R h fun ds vs F1 H1 s1 r1 h1 => ?_
  cases e : Nat.beq ds.length n with
  | false => simp only [e] at h1; cases h1
  | true =>
    simp only [e] at h1
    show spOf K m n (vs ++ []) H1 Q E
    rw [List.append_nil]
    exact ⟨by rw [paired_len r1]; exact Nat.eq_of_beq_eq_true e, W.pp, F1, ds, k, (R.step s1).bs, r1, h1, fun d v F2 H2 s2 r2 h2 => q d v F2 H2 (s1.trans s2) r2 h2⟩
theorem se_call {l n : Nat} {x : Str} {ps : List Str} {m : Fn} {p : Pos} (h : Has X.prog X.w X.K X.mg X.base l x ps m) (hr : RG l X.A) (a : SAP W X (ea :: es) dr) (hg : Gl X x := by rfl) (hdb : (x == ("__debug__" : Str)) = false := by decide)
    (he : starEach (ea :: es) X.env = (false, eval ea X.env) :: starEach es X.env := by rfl) (hpl : (backTo pos (starEach es X.env)).any (·.1) = false := by rfl) (hn : ps.length = n := by rfl) : SE W X (.Call (.Name x p) (ea :: es) [] pos) (dCallN n m dr) := by
  subst hn
  obtain ⟨f, fd, F, h1, h2, h3, _⟩ := h
  obtain ⟨t, pa, o⟩ := a
  exact ⟨_, pe_callG F hr.r hr.g hg h1 h2 h3 pa hdb he hpl, okE_call (E := E0) o⟩
end

/-! ### statements -/
structure DEnds where
  nx : Sls → Bool
  rt : PyData → Bool
  bk : Sls → Bool
  ct : Sls → Bool
abbrev DS := DEnds → Sls → Bool
/-- what may be told at a return: frozen data, or a new list -/
def RtOk (K : PySem.W.Frag) (W : Wd) (F H : Hp) (v : V) (d : PyData) : Prop := match W.fr with
  | false => Rp K F v d
  | true => ∃ p xs ds, v = .ref p ∧ d = .list ds ∧ H p = some (.lst xs) ∧ F p = none ∧ W.H0 p = none ∧ p ≠ W.pp ∧ RpAll K F xs ds
theorem rtOk_fz {K : PySem.W.Frag} {W : Wd} {F H : Hp} {v : V} {d : PyData} (e : W.fr = false) (h : Rp K F v d) : RtOk K W F H v d := by
  unfold RtOk
  rw [e]
  exact h
structure EndsOk (K : PySem.W.Frag) (W : Wd) (F : Hp) (B : DEnds) (D : Ends) : Prop where
  nx : ∀ env σ F' H, Same F F' → Rel K W env σ F' H → B.nx env = true → D.nx σ H
  rt : ∀ d v F' H, Stp W.pp W.F0 W.H0 F' H → RtOk K W F' H v d → B.rt d = true → D.rt v H
  bk : ∀ env σ F' H, Same F F' → Rel K W env σ F' H → B.bk env = true → D.bk σ H
  ct : ∀ env σ F' H, Same F F' → Rel K W env σ F' H → B.ct env = true → D.ct σ H
theorem EndsOk.mono {K : PySem.W.Frag} {W : Wd} {F F1 : Hp} {B : DEnds} {D : Ends} (e : Same F F1) (h : EndsOk K W F B D) : EndsOk K W F1 B D :=
  ⟨fun env σ F' H s => h.nx env σ F' H (e.trans s), h.rt, fun env σ F' H s => h.bk env σ F' H (e.trans s), fun env σ F' H s => h.ct env σ F' H (e.trans s)⟩
def OkS (K : PySem.W.Frag) (W : Wd) (t : TS) (d : DS) : Prop := ∀ (env : Sls) (σ : L2.St) (F H : Hp) (B : DEnds) (D : Ends), Rel K W env σ F H → d B env = true → EndsOk K W F B D → t D σ H
structure SS (W : Wd) (X : Cx) (st : Stmt) (d : DS) : Prop where
  ex : ∃ t, PS X st t ∧ OkS X.K W t d
structure SSs (W : Wd) (X : Cx) (st : List Stmt) (d : DS) : Prop where
  ex : ∃ t, PSs X st t ∧ OkS X.K W t d
def sNil : DS := fun B env => B.nx env
def sSeq (a b : DS) : DS := fun B env => a { B with nx := b B } env
def sRet (a : DE) : DS := fun B env => a env B.rt
def sRetN : DS := fun B _ => B.rt .none
def sAsg (a : DE) (g : DG) : DS := fun B env => a env fun d => g d env B.nx
def sIf (c : DT) (a b : DS) : DS := fun B env => c env fun x => match x with
  | true => a B env
  | false => b B env
def sExpr (a : DE) : DS := fun B env => a env fun _ => B.nx env
def sNever : DS := fun _ _ => false
def sBrk : DS := fun B env => B.bk env
def sCont : DS := fun B env => B.ct env
/-- the slot's list is frozen from here on -/
def freeze (env : Sls) (i : Nat) : Option Sls := match look env i with
  | .ow ds => some (env.set i (.fz (.list ds)))
  | _ => none
def sFrz (i : Nat) (a : DS) : DS := fun B env => match freeze env i with
  | some env' => a B env'
  | none => false
def goFor (g : DG) (body : DS) (B : DEnds) : List PyData → Sls → Bool
  | [], env => B.nx env
  | x :: xs, env => g x env fun env' => body { nx := goFor g body B xs, rt := B.rt, ct := goFor g body B xs, bk := B.nx } env'
def sFor (it : DI) (g : DG) (body : DS) : DS := fun B env => it env fun xs => goFor g body B xs env
def goWh (c : DT) (body : DS) (B : DEnds) : Nat → Sls → Bool
  | 0, _ => false
  | n + 1, env => c env fun x => match x with
    | true => body { nx := goWh c body B n, rt := B.rt, ct := goWh c body B n, bk := B.nx } env
    | false => B.nx env
def sWh (fuel : Nat) (c : DT) (body : DS) : DS := fun B env => goWh c body B fuel env
section
variable {W : Wd} {X : Cx} {K : PySem.W.Frag} {st : Stmt} {rest : List Stmt} {a b : DS} {e : Expr} {de : DE} {pos : Pos}
theorem ss_nil : SSs W X [] sNil := ⟨_, pss_nil, fun env σ F H B D R h q => q.nx env σ F H (Same.refl F) R h⟩
theorem ss_cons (h1 : SS W X st a) (h2 : SSs W X rest b) : SSs W X (st :: rest) (sSeq a b) := by
  obtain ⟨t1, p1, o1⟩ := h1
  obtain ⟨t2, p2, o2⟩ := h2
  refine ⟨_, pss_cons p1 p2, fun env σ F H B D R h q => ?_⟩
  exact o1 env σ F H _ _ R h ⟨fun env' σ' F' H' e R' h' => o2 env' σ' F' H' _ _ R' h' (q.mono e), q.rt, q.bk, q.ct⟩
theorem ss_one (h1 : SS W X st a) : SSs W X [st] a := by
  obtain ⟨t1, p1, o1⟩ := h1
  exact ⟨_, pss_one p1, o1⟩
theorem ss_frz {i : Nat} (h : SSs W X rest a) : SSs W X rest (sFrz i a) := by
  obtain ⟨t, p, o⟩ := h
  refine ⟨t, p, fun env σ F H B D R h q => ?_⟩
  unfold sFrz freeze at h
  cases e : look env i with
  | ow ds =>
    rw [e] at h
    obtain ⟨F', sf, R'⟩ := R.fzo (look_some e (fun z => nomatch z))
    exact o _ σ F' H B D R' h (q.mono sf)
  | _ => rw [e] at h; cases h
theorem ss_ret (hw : W.fr = false) (h : SE W X e de) : SS W X (.Return (some e) pos) (sRet de) := by
  obtain ⟨t, p, o⟩ := h
  exact ⟨_, ps_ret p, fun env σ F H B D R h q => o env σ F H _ _ R h fun d v F' H' s r hk => q.rt d v F' H' (R.st.trans s) (rtOk_fz hw r) hk⟩
theorem ss_retN (hw : W.fr = false) : SS W X (.Return none pos) sRetN := ⟨_, ps_retN, fun env σ F H B D R h q => q.rt _ _ F H R.st (rtOk_fz hw .non) h⟩
theorem okS_asg {t : TE} {tg : TG} {g : DG} {sl : List Nat} (o : OkE K W t de) (og : OkG K W tg g sl) : OkS K W (tAsg t tg) (sAsg de g) := fun env σ F H B D R h q =>
  o env σ F H _ _ R h fun d v F' H' s r hk => og env σ F' H' v d _ _ (R.step s) r hk fun env' σ' R' _ _ h' => q.nx env' σ' F' H' s.ff R' h'
theorem ss_asg {tg : Expr} {g : DG} {sl : List Nat} (h : SE W X e de) (hg : SG W X tg g sl) (hs : swapsWithSole [tg] e pos.line X.env = pure false := by rfl) (hw : swappedStores [tg] e X.env = pure none := by rfl)
    (h1 : (assignEach [tg] X.env).map (·.2) = [assign tg X.env] := by rfl) : SS W X (.Assign [tg] e pos) (sAsg de g) := by
  obtain ⟨t, p, o⟩ := h
  obtain ⟨t2, p2, o2⟩ := hg
  exact ⟨_, ps_asg p p2 hs hw h1, okS_asg o o2⟩
theorem okG_name {i : Nat} : OkG K W (gName i) (gN i) [i] := fun env σ F H v d k Q R rp h q => q _ _ (R.set rp i) (fun j hj => by rw [List.getElem?_set_ne (fun z => hj (by simp [z]))]) (List.length_set ..) h
theorem ss_set {i : Nat} {x : Str} {pos' : Pos} (hN : X.N.Nodup) (h : SE W X e de) (hi : X.N[i]? = some x := by rfl) (hx : Loc X.env.scope x := by first | exact Or.inl rfl | exact Or.inr rfl) (hs : swapsWith e (some (.Name x pos')) pos.line X.env = pure false := by rfl)
    (hf : X.fn x = true ∨ X.env.scope.names.lookup x = some .local := by first | exact .inl rfl | exact .inr rfl) : SS W X (.Assign [.Name x pos'] e pos) (sAsg de (gN i)) := by
  obtain ⟨t, p, o⟩ := h
  exact ⟨_, ps_set hN hi hx p hs hf, okS_asg o okG_name⟩
theorem ss_setlc {i : Nat} (h : ∃ te, PS X st (tAsg te (gName i)) ∧ OkE X.K W te de) : SS W X st (sAsg de (gN i)) := by
  obtain ⟨t, p, o⟩ := h
  exact ⟨_, p, okS_asg o okG_name⟩
/-- x, y = a, b by plain names -/
def sPar (i j : Nat) (a : DA) : DS := fun B env => a env fun ds => match ds with
  | [d, e] => B.nx ((env.set i (.fz d)).set j (.fz e))
  | _ => false
theorem ss_par {i j : Nat} {x y : Str} {ea eb : Expr} {da : DA} {px py pt : Pos} {kt k2 pt2} (hc : X.calm = true) (hN : X.N.Nodup) (ha : SA W X [ea, eb] da) (hi : X.N[i]? = some x := by rfl) (hj : X.N[j]? = some y := by rfl) (hij : i ≠ j := by decide)
    (hx : X.env.scope.names.lookup x = some .local := by rfl) (hy : X.env.scope.names.lookup y = some .local := by rfl)
    (hw : swappedStores [.Tuple [.Name x px, .Name y py] kt pt] (.Tuple [ea, eb] k2 pt2) X.env = pure (some [x, y]) := by rfl)
    (hs : swapsWithSole [.Tuple [.Name x px, .Name y py] kt pt] (.Tuple [ea, eb] k2 pt2) pos.line X.env = pure false := by rfl) :
    SS W X (.Assign [.Tuple [.Name x px, .Name y py] kt pt] (.Tuple [ea, eb] k2 pt2) pos) (sPar i j da) := by
  obtain ⟨t, p, o⟩ := ha
  refine ⟨_, ps_par hc hN hi hj hij hx hy p hw hs, fun env σ F H B D R h q => ?_⟩
  refine o env σ F H _ _ R h fun ds vs F1 H1 s1 r1 h1 => ?_
  cases r1 with
  | nil => cases h1
  | @cons v1 vs d1 ds r1 rr =>
    cases rr with
    | nil => cases h1
    | @cons v2 vs d2 ds r2 rr =>
      cases rr with
      | cons _ _ => cases h1
      | nil => exact ⟨v1, v2, rfl, q.nx _ _ F1 H1 s1.ff (((R.step s1).set r1 i).set r2 j) h1⟩
theorem ss_if {c : Expr} {sa sb : List Stmt} {dc : DT} (hc : ST W X c dc) (ha : SSs W X sa a) (hb : SSs W X sb b) : SS W X (.If c sa sb pos) (sIf dc a b) := by
  obtain ⟨t0, p0, o0⟩ := hc
  obtain ⟨t1, p1, o1⟩ := ha
  obtain ⟨t2, p2, o2⟩ := hb
  refine ⟨_, ps_if p0 p1 p2, fun env σ F H B D R h q => o0 env σ F H _ _ R h fun x F1 H1 s1 h1 => ?_⟩
  cases x with
  | true => rw [if_pos rfl]; exact o1 env σ F1 H1 B D (R.step s1) h1 (q.mono s1.ff)
  | false => rw [if_neg Bool.false_ne_true]; exact o2 env σ F1 H1 B D (R.step s1) h1 (q.mono s1.ff)
theorem ss_expr (h : SE W X e de) (hs : swapsWith e none pos.line X.env = pure false := by rfl) : SS W X (.Expr e pos) (sExpr de) := by
  obtain ⟨t, p, o⟩ := h
  exact ⟨_, ps_expr p hs, fun env σ F H B D R h q => o env σ F H _ _ R h fun d v F1 H1 s1 r1 h1 => q.nx env σ F1 H1 s1.ff (R.step s1) h1⟩
theorem ss_never : SS W X st sNever := ⟨_, ps_never, fun env σ F H B D R h q => nomatch h⟩
theorem ss_neverS : SSs W X rest sNever := ⟨_, pss_never, fun env σ F H B D R h q => nomatch h⟩
theorem ss_brk : SS W X (.Break pos) sBrk := ⟨_, ps_break, fun env σ F H B D R h q => q.bk env σ F H (Same.refl F) R h⟩
theorem ss_cont : SS W X (.Continue pos) sCont := ⟨_, ps_continue, fun env σ F H B D R h q => q.ct env σ F H (Same.refl F) R h⟩
theorem ss_for {tg iter : Expr} {body : List Stmt} {di : DI} {g : DG} {sl : List Nat} (hp : PassesOwn (model X.prog X.w) X.A X.env X.xe) (hc : X.calm = true) (hi : SI W X tg iter di) (hg : SG W X tg g sl) (hb : SSs W X body a)
    (hs : ∀ x, foldedSetIterable iter X.env x = pure x := by intro _; rfl) : SS W X (.For tg iter body [] pos) (sFor di g a) := by
  obtain ⟨wi, p0, o0⟩ := hi
  obtain ⟨t1, p1, o1⟩ := hg
  obtain ⟨t2, p2, o2⟩ := hb
  refine ⟨_, ps_for hp hc p0 p1 p2 hs, fun env σ F H B D R h q => o0 env σ F H _ _ R h fun ds J F1 H1 s1 wk h1 => ?_⟩
  obtain ⟨G, Y, w1, w2, w3⟩ := wk
  have R1 := R.step s1
  refine for_it w1 (fun i σ' H' => ∃ env' F', Same F1 F' ∧ Rel X.K W env' σ' F' H' ∧ goFor g a B (ds.drop i) env' = true) ⟨env, F1, Same.refl F1, R1, h1⟩
    (fun i σ' H' _ ⟨env', F', e, R', _⟩ => w2 F' H' e R'.bs.fh) (fun i x σ' H' H2 hi ⟨env', F', e, R', hg⟩ y => ?_) (fun σ' H' ⟨env', F', e, R', hg⟩ => ?_)
  · have hd : ds[i]? = some ds[i] := List.getElem?_eq_getElem hi
    have hdr : ds.drop i = ds[i] :: ds.drop (i + 1) := List.drop_eq_getElem_cons hi
    rw [hdr] at hg
    obtain ⟨F2, s2, r2⟩ := w3 i H' x H2 F' ds[i] e R'.bs hd y
    unfold goFor at hg
    refine o1 env' σ' F2 H2 x _ _ _ (R'.step s2) r2 hg fun env2 σ2 R2 _ _ h2 => ?_
    refine o2 env2 σ2 F2 H2 _ _ R2 h2 ⟨fun env3 σ3 F3 H3 e3 R3 h3 => ⟨env3, F3, (e.trans s2.ff).trans e3, R3, h3⟩, q.rt, fun env3 σ3 F3 H3 e3 R3 h3 => q.nx env3 σ3 F3 H3 (((s1.ff.trans e).trans s2.ff).trans e3) R3 h3, fun env3 σ3 F3 H3 e3 R3 h3 => ⟨env3, F3, (e.trans s2.ff).trans e3, R3, h3⟩⟩
  · rw [List.drop_length] at hg
    exact q.nx env' σ' F' H' (s1.ff.trans e) R' hg
theorem ss_wh {c : Expr} {body : List Stmt} {dc : DT} (fuel : Nat) (hp : PassesOwn (model X.prog X.w) X.A X.env X.xe) (hc : ST W X c dc) (hb : SSs W X body a) : SS W X (.While c body [] pos) (sWh fuel dc a) := by
  obtain ⟨t0, p0, o0⟩ := hc
  obtain ⟨t1, p1, o1⟩ := hb
  refine ⟨_, ps_while hp p0 p1, fun env σ F H B D R h q => ?_⟩
  refine ⟨fun m σ' H' => ∃ env' F', Same F F' ∧ Rel X.K W env' σ' F' H' ∧ goWh dc a B m env' = true, ⟨fuel, env, F, Same.refl F, R, h⟩, fun m σ' H' ⟨env', F', e, R', hg⟩ => ?_⟩
  cases m with
  | zero => cases hg
  | succ m =>
    unfold goWh at hg
    refine o0 env' σ' F' H' _ _ R' hg fun x F1 H1 s1 h1 => ?_
    cases x with
    | true =>
      rw [if_pos rfl]
      refine ⟨fun σ2 H2 => ∃ env2 F2, Same F F2 ∧ Rel X.K W env2 σ2 F2 H2 ∧ goWh dc a B m env2 = true, fun σ2 H2 z => ⟨m, Nat.lt_succ_self m, z⟩, ?_⟩
      exact o1 env' σ' F1 H1 _ _ (R'.step s1) h1 ⟨fun env3 σ3 F3 H3 e3 R3 h3 => ⟨env3, F3, (e.trans s1.ff).trans e3, R3, h3⟩, q.rt, fun env3 σ3 F3 H3 e3 R3 h3 => q.nx env3 σ3 F3 H3 ((e.trans s1.ff).trans e3) R3 h3, fun env3 σ3 F3 H3 e3 R3 h3 => ⟨env3, F3, (e.trans s1.ff).trans e3, R3, h3⟩⟩
    | false =>
      rw [if_neg Bool.false_ne_true]
      exact q.nx env' σ' F1 H1 (e.trans s1.ff) (R'.step s1) h1
end
/-! ### defs -/
def startE (n : Nat) (ds : List PyData) : Sls := ds.map (fun d => match d with
  | .dict (_ :: _) => Sl.pt
  | d => .fz d) ++ List.replicate (n - ds.length) .no
def mOf (n : Nat) (body : DS) : Fn := fun ds k => body { nx := fun _ => k .none, rt := k, bk := fun _ => false, ct := fun _ => false } (startE n ds)
theorem ras_at {K : PySem.W.Frag} {pp : Addr} {F : Hp} : ∀ {vs : List V} {ds : List PyData} {i : Nat} {d : PyData}, RAs K pp F vs ds → ds[i]? = some d → ∃ v, vs[i]? = some v ∧ RA K pp F v d
  | _, _, _, _, .nil, e => by simp at e
  | _, _, 0, _, .cons h _, e => by simp at e; subst e; exact ⟨_, rfl, h⟩
  | _, _, i + 1, d, .cons _ a, e => by
    obtain ⟨v, h1, h2⟩ := ras_at (i := i) (d := d) a (by simpa using e)
    exact ⟨v, by simpa using h1, h2⟩
theorem rel_start {K : PySem.W.Frag} {pp : Addr} {F H : Hp} {vs : List V} {ds : List PyData} {N : List Str} {b : Bool} (B : Bs pp F H) (r : RAs K pp F vs ds) : Rel K ⟨pp, F, H, b⟩ (startE N.length ds) (L2.start N vs) F H := by
  have hl := paired_len r
  refine ⟨B, Stp.refl B, by unfold startE L2.start; rw [List.length_append, List.length_append, List.length_map, List.length_map, List.length_replicate, List.length_replicate, hl], fun i s e => ?_, fun i j p ds' es e1 _ _ _ => ?_⟩
  · unfold startE at e
    unfold L2.start
    by_cases hi : i < ds.length
    · rw [List.getElem?_append_left (by rw [List.length_map]; exact hi), List.getElem?_map] at e
      rw [List.getElem?_append_left (by rw [List.length_map, hl]; exact hi), List.getElem?_map]
      cases q : ds[i]? with
      | none => rw [q] at e; cases e
      | some d =>
        rw [q] at e
        obtain ⟨v, h1, h2⟩ := ras_at r q
        rw [h1]
        have e := Option.some.inj e
        rcases h2 with h2 | ⟨rfl, rfl⟩
        · have e2 : s = .fz d := by
            rw [← e]
            cases h2 <;> rfl
          subst e2
          exact ⟨v, rfl, h2⟩
        · subst e
          rfl
    · rw [List.getElem?_append_right (by rw [List.length_map]; omega)] at e
      have e2 := List.mem_of_getElem? e
      rw [(List.mem_replicate.mp e2).2]
      trivial
  · exfalso
    unfold startE at e1
    have e2 := List.mem_of_getElem? e1
    rcases List.mem_append.mp e2 with h | h
    · obtain ⟨d, _, hd⟩ := List.mem_map.mp h
      cases d with
      | dict kvs => cases kvs <;> cases hd
      | _ => cases hd
    · cases (List.mem_replicate.mp h).2
abbrev FnP (K : PySem.W.Frag) (x : Str) (st : Stmt) (f : Addr) (fd : FuncData) : Prop := FunD K x x (defArgs st) (defBody st) (defScope st) [] [] f fd
section
variable {P : Program} {w : World} {K : PySem.W.Frag} {mg : Str → Option Value} {base : Heap} {f : Addr} {fd : FuncData} {x : Str} {st : Stmt} {N ps : List Str} {body : DS} {l : Nat}
theorem has_of (F : FnP K x st f fd) (S : FnScope N ps (defScope st)) (hm : mg x = some (.ref f)) (hb : Binds K fd ps [])
    (h : ∀ (W : Wd) (hw : W.fr = false) (cdv : Value) (A : Around) (outer : List Env) (s : Shared) (H : Hp) (E : XK), RG l (A.deeper (envOfC x (defScope st) s.heap.objs.size f cdv)) → SSs W (cxOf CX0 P w K mg base N x (defScope st) f cdv A outer s H E).nox (defBody st) body) :
    Has P w K mg base (l + 1) x ps (mOf N.length body) := by
  have lk : ∃ oc od osl, K.lookup f = some ⟨oc, od, .func fd, osl⟩ := by
    obtain ⟨oc, od, _, _, _, _, _, _, _, osl, _, h2, _⟩ := F.ex
    exact ⟨oc, od, osl, h2⟩
  refine ⟨f, fd, okG F S (fun vs H Q E h => h.1) (fun cdv A outer s H vs Q E hr hg hs => ?_), hm, F.kp, hb, lk⟩
  obtain ⟨hl, pp, F0, ds, k, B, r, hmm, q⟩ := hs
  obtain ⟨t, p, o⟩ := h ⟨pp, F0, H, false⟩ rfl cdv A outer s H E ⟨hr, hg⟩
  refine ⟨t, p.nox, o _ _ F0 H _ _ (rel_start B r) hmm ⟨fun env σ F' H' _ R' hk => ?_, fun d v F' H' s' r' hk => q d v F' H' s' r' hk, (fun _ _ _ _ _ _ z => Bool.noConfusion z), (fun _ _ _ _ _ _ z => Bool.noConfusion z)⟩⟩
  exact q .none .non F' H' R'.st .non hk
/-! calls by keywords alone -/
def permD {α : Type} (z : α) (perm : List Nat) (ws : List α) : List α := perm.map fun i => ws.getD i z
def KBok (fd : FuncData) (ps ks : List Str) (perm : List Nat) : Prop := ∀ (s : Shared) (ws : List Value), ws.length = ks.length → BindsTo s fd ⟨[], ks.zip ws⟩ (ps.zip (permD .none perm ws))
structure HasK (P : Program) (w : World) (K : PySem.W.Frag) (mg : Str → Option Value) (base : Heap) (lev : Nat) (x : Str) (ps : List Str) (m : Fn) (ks : List Str) (perm : List Nat) : Prop where
  ex : ∃ f fd, FnOkG P w K mg base lev f fd ps (spOf K m ps.length) ∧ mg x = some (.ref f) ∧ PySem.W.keepIn K (.ref f) = true ∧ KBok fd ps ks perm
theorem Has.kb {m : Fn} {ks : List Str} {perm : List Nat} (h : Has P w K mg base l x ps m) (F : FnP K x st f fd) (hm : mg x = some (.ref f))
    (kb : ∀ (kV doc pm : Value) (an : Option Addr) (cdv ct : Value) (ws : List Value), ws.length = ks.length → bindArgs (PySem.W.fnOf x x (defArgs st) (defBody st) (defScope st) .none kV doc pm an cdv ct) ⟨[], ks.zip ws⟩ = pure (ps.zip (permD .none perm ws))) : HasK P w K mg base l x ps m ks perm := by
  obtain ⟨f', fd', h1, h2, h3, h4, oc, od, osl, h5⟩ := h
  rw [hm] at h2
  cases h2
  obtain ⟨oc2, od2, dV, kV, doc, pm, an, cdv, ct, osl2, rfl, lk, _, hD, _⟩ := F.ex
  rw [lk] at h5
  cases h5
  rcases hD with ⟨_, rfl⟩ | ⟨e, _⟩
  · exact ⟨_, _, h1, hm, h3, fun s ws hl => .of_eq (kb kV doc pm an cdv ct ws hl)⟩
  · exact absurd rfl e
theorem HasK.mono {j : Nat} {m : Fn} {ks : List Str} {perm : List Nat} (h : HasK P w K mg base j x ps m ks perm) (e : j ≤ l) : HasK P w K mg base l x ps m ks perm := by
  obtain ⟨f, fd, F, a, b, c⟩ := h
  exact ⟨f, fd, F.mono e, a, b, c⟩
end
def dCallK (n j : Nat) (perm : List Nat) (m : Fn) (a : DA) : DE := fun env k => a env fun ds => match Nat.beq ds.length j && Nat.beq perm.length n && perm.all fun i => Nat.blt i j with
  | true => m (permD .none perm ds) k
  | false => false
section
variable {W : Wd} {X : Cx} {dr : DA} {pos : Pos}
theorem ras_perm {K : PySem.W.Frag} {pp : Addr} {F : Hp} {vs : List V} {ds : List PyData} (r : RAs K pp F vs ds) : ∀ {perm : List Nat}, (∀ i ∈ perm, i < ds.length) → RAs K pp F (permD .non perm vs) (permD .none perm ds)
  | [], _ => .nil
  | i :: p, h => by
    have hi := h i List.mem_cons_self
    obtain ⟨v, h1, h2⟩ := ras_at r (List.getElem?_eq_getElem hi)
    refine .cons ?_ (ras_perm r fun j hj => h j (List.mem_cons_of_mem _ hj))
    show RA K pp F (vs.getD i .non) (ds.getD i .none)
    rw [List.getD_eq_getElem?_getD, List.getD_eq_getElem?_getD, h1, List.getElem?_eq_getElem hi]
    exact h2
theorem vals_perm {vs : List V} {us : List Value} (r : Vals vs us) : ∀ {perm : List Nat}, (∀ i ∈ perm, i < vs.length) → Vals (permD .non perm vs) (permD .none perm us)
  | [], _ => .nil
  | i :: p, h => by
    have hi := h i List.mem_cons_self
    obtain ⟨u, h1, h2⟩ := Vals.get r (List.getElem?_eq_getElem hi)
    refine .cons ?_ (vals_perm r fun j hj => h j (List.mem_cons_of_mem _ hj))
    show RelV (vs.getD i .non) (us.getD i .none)
    rw [List.getD_eq_getElem?_getD, List.getD_eq_getElem?_getD, h1, List.getElem?_eq_getElem hi]
    exact h2
def tCallK0 (sp : Sp) (j : Nat) (perm : List Nat) (E : XK) (tk : TA) : TE := fun σ H Q => tk σ H fun zs H2 => zs.length = j ∧ (∀ i ∈ perm, i < zs.length) ∧ sp (permD .non perm zs) H2 Q E
theorem pe_callK0 {l : Nat} {x : Str} {ps ks : List Str} {m : Fn} {perm : List Nat} {p : Pos} {kws : List Keyword} {tk : TA} (h : HasK X.prog X.w X.K X.mg X.base l x ps m ks perm) (hr : RG l X.A) (hkw : PK X kws tk) (hg : Gl X x)
    (hall : (backToKw pos (keywordEach kws X.env)).all (·.1.isSome) = true) (hks : (backToKw pos (keywordEach kws X.env)).filterMap (·.1) = ks) (hdb : (x == ("__debug__" : Str)) = false)
    (hpl : ((backTo pos (starEach [] X.env)).any (·.1) || (backToKw pos (keywordEach kws X.env)).any (·.1.isNone)) = false) : PE X (.Call (.Name x p) [] kws pos) (tCallK0 (spOf X.K m ps.length) ks.length perm E0 tk) := by
  obtain ⟨f, fd, F, hm, hk, hb⟩ := h
  refine ⟨fun pins s σ H Q I h => ?_⟩
  refine wpAny_Call_Name_kw (ld_glob I hg hm ?_ hdb)
  refine PySem.W.callWith_KW0 (h₀ := X.base) I.ok.mod.kin hk hall (thn (hkw.run pos pins s σ H _ I h) fun ws s2 ⟨zs, H2, I2, rz, l2, hp, q2⟩ => ⟨I2.kIn, ?_⟩) hpl
  rw [hks]
  have r2 := vals_perm rz hp
  refine wpAny_call (codeAny_mono (F.run X.A X.stack s2 H2 ⟨[], ks.zip ws⟩ (permD .none perm ws) (permD .non perm zs) Q E0 hr.r hr.g I2.env0 (hb s2 ws (rz.length.symm.trans l2)) r2 q2) fun r s' hq => ?_)
  cases r with
  | error e => exact (pass0 (X := X)) pins σ H2 s2 e s' I2 hq
  | ok fl =>
    cases fl with
    | ret u => exact I2.after hq
    | next => exact False.elim hq
    | brk => exact False.elim hq
    | cont => exact False.elim hq
theorem se_callk {l n j : Nat} {x : Str} {ps ks : List Str} {m : Fn} {perm : List Nat} {p : Pos} {kws : List Keyword} (h : HasK X.prog X.w X.K X.mg X.base l x ps m ks perm) (hr : RG l X.A) (a : SKP W X kws dr) (hg : Gl X x := by rfl)
    (hall : (backToKw pos (keywordEach kws X.env)).all (·.1.isSome) = true := by rfl) (hks : (backToKw pos (keywordEach kws X.env)).filterMap (·.1) = ks := by rfl) (hdb : (x == ("__debug__" : Str)) = false := by decide)
    (hpl : ((backTo pos (starEach [] X.env)).any (·.1) || (backToKw pos (keywordEach kws X.env)).any (·.1.isNone)) = false := by rfl) (hn : ps.length = n := by rfl) (hj : ks.length = j := by rfl) : SE W X (.Call (.Name x p) [] kws pos) (dCallK n j perm m dr) := by
  subst hn hj
  obtain ⟨tk, pk, o⟩ := a
  refine ⟨_, pe_callK0 h hr pk hg hall hks hdb hpl, fun env σ F H k Q R h q => o env σ F H _ _ R h fun ds vs F1 H1 s1 r1 h1 => ?_⟩
  cases e : (Nat.beq ds.length ks.length && Nat.beq perm.length ps.length && perm.all fun i => Nat.blt i ks.length) with
  | false => simp only [e] at h1; cases h1
  | true =>
    simp only [e] at h1
    obtain ⟨e1, e3⟩ := Bool.and_eq_true_iff.mp e
    obtain ⟨e1, e2⟩ := Bool.and_eq_true_iff.mp e1
    have l1 : ds.length = ks.length := Nat.eq_of_beq_eq_true e1
    have l2 : perm.length = ps.length := Nat.eq_of_beq_eq_true e2
    have hp : ∀ i ∈ perm, i < ds.length := fun i hi => by
      have := List.all_eq_true.mp e3 i hi
      rw [l1]
      exact Nat.le_of_ble_eq_true this
    refine ⟨(paired_len r1).trans l1, fun i hi => by rw [paired_len r1]; exact hp i hi, ?_, W.pp, F1, _, k, (R.step s1).bs, ras_perm r1 hp, h1, fun d v F2 H2 s2 r2 h2 => q d v F2 H2 (s1.trans s2) r2 h2⟩
    unfold permD
    rw [List.length_map]
    exact l2
end
end Dl

namespace Dl
open PySem PySem.Spec PyProof.Rows L2 PySem.Builtin PySem.Builtin.Str
/-! ### how long a written value is at most -/
mutual
def capR : PyData → Nat
  | .none => 4
  | .bool _ => 5
  | .int _ => 1921
  | .str x => Nat.add (Nat.mul 10 x.cps.size) 2
  | .list xs => Nat.add (capsR xs) 4
  | .tuple xs => Nat.add (capsR xs) 4
  | .dict _ => 2
def capsR : List PyData → Nat
  | [] => 0
  | x :: xs => Nat.add (Nat.add (capR x) 2) (capsR xs)
end
/-! showable, at most n deep, its texts of plain signs -/
mutual
def okR : Nat → PyData → Bool
  | _, .none => true
  | _, .bool _ => true
  | _, .int i => match i with
    | .ofNat n => Nat.ble (Nat.log2 n) 1919
    | .negSucc n => Nat.ble (Nat.log2 (Nat.succ n)) 1919
  | _, .str x => x.cps.all (fun c => Nat.ble c 127)
  | n + 1, .list xs => oksR n xs
  | n + 1, .tuple xs => oksR n xs
  | _, _ => false
def oksR : Nat → List PyData → Bool
  | _, [] => true
  | n, x :: xs => match okR n x with
    | true => oksR n xs
    | false => false
end
theorem textFrom_le : ∀ (ts : List Str) (k : Nat) (acc : Str), (textFrom k acc ts).length ≤ acc.length + piled ts
  | [], k, acc => by show acc.length ≤ _; omega
  | t :: r, k, acc => by
    have ih := textFrom_le r (k + 1) (acc ++ (if k > 0 then ", " else "" : String) ++ t)
    have e : (acc ++ (if k > 0 then ", " else "" : String) ++ t).length = acc.length + (if k > 0 then 2 else 0) + t.length := by
      rw [strLen_append, strLen_append]
      split <;> rfl
    rw [e] at ih
    show (textFrom (k + 1) _ r).length ≤ _
    rw [piled_cons]
    have h2 : (if k > 0 then 2 else 0 : Nat) ≤ 2 := by split <;> omega
    omega
theorem listText_le (ts : List Str) : (listText ts).length ≤ piled ts + 4 := by
  unfold listText
  have h := textFrom_le ts 0 "["
  rw [strLen_append]
  have e1 : ((("[" : String) : Str)).length = 1 := rfl
  have e2 : ((("]" : String) : Str)).length = 1 := rfl
  rw [e1] at h
  rw [e2]
  omega
theorem tupleText_le (ts : List Str) : (tupleText ts).length ≤ piled ts + 4 := by
  unfold tupleText
  rw [strLen_append, strLen_append]
  have e1 : ((("(" : String) : Str)).length = 1 := rfl
  have e3 : (((if ts.length == 1 then ",)" else ")" : String) : Str)).length ≤ 2 := by split <;> decide
  rw [e1]
  by_cases h : ts = []
  · subst h
    have : (Str.join ", " []).length = 0 := rfl
    rw [this]
    omega
  · have := join_length_add ts h
    omega
theorem quote_or (x : Str) : reprQuote x = 34 ∨ reprQuote x = 39 := by
  unfold reprQuote
  split
  · exact .inl rfl
  · exact .inr rfl
theorem reprChar_le {q c : Nat} (hq : q = 34 ∨ q = 39) (h : c ≤ 127) : (reprChar q c).length ≤ 10 := by
  have key : ∀ c, c < 128 → (reprChar 34 c).length ≤ 10 ∧ (reprChar 39 c).length ≤ 10 := by decide +kernel
  have k := key c (by omega)
  rcases hq with rfl | rfl
  · exact k.1
  · exact k.2
theorem reprFold_le {q : Nat} (hq : q = 34 ∨ q = 39) : ∀ (l : List Nat) (acc : Array Nat), (∀ c ∈ l, c ≤ 127) → (l.foldl (fun out c => out ++ (reprChar q c).toArray) acc).size ≤ acc.size + 10 * l.length
  | [], acc, _ => by simp
  | c :: r, acc, h => by
    have ih := reprFold_le hq r (acc ++ (reprChar q c).toArray) (fun c hc => h c (List.mem_cons_of_mem _ hc))
    have h1 := reprChar_le hq (h c List.mem_cons_self)
    rw [List.foldl_cons]
    have e : (acc ++ (reprChar q c).toArray).size = acc.size + (reprChar q c).length := by simp
    rw [e] at ih
    rw [List.length_cons]
    omega
theorem reprText_le (x : Str) (h : x.cps.all (fun c => Nat.ble c 127) = true) : (reprText x).length ≤ 10 * x.cps.size + 2 := by
  unfold reprText
  show ((x.cps.foldl (fun out c => out ++ (reprChar (reprQuote x) c).toArray) #[reprQuote x]).push (reprQuote x)).size ≤ _
  rw [Array.size_push, ← Array.foldl_toList]
  have := reprFold_le (quote_or x) x.cps.toList #[reprQuote x] (fun c hc => by
    rw [Array.all_eq_true] at h
    obtain ⟨i, hi, e⟩ := List.mem_iff_getElem.mp hc
    have := h i (by simpa using hi)
    rw [Array.getElem_toList] at e
    rw [e] at this
    exact Nat.le_of_ble_eq_true this)
  rw [Array.length_toList] at this
  have e : (#[reprQuote x] : Array Nat).size = 1 := rfl
  rw [e] at this
  omega
theorem okR_int {n : Nat} {i : Int} (h : okR n (.int i) = true) : i.natAbs.log2 < 1920 := by
  unfold okR at h
  cases i with
  | ofNat n => have := Nat.le_of_ble_eq_true h; show Nat.log2 n < 1920; omega
  | negSucc n => have := Nat.le_of_ble_eq_true h; show Nat.log2 (n + 1) < 1920; exact Nat.lt_succ_of_le this
/-- what okR tells of a value -/
structure Shw (n : Nat) (d : PyData) : Prop where
  len : d.shown.length ≤ capR d
  lay : d.canLay0 = true
  sh : d.showable = true
  nod : d.hasDict = false
  dep : d.depth ≤ n
structure Shws (n : Nat) (ds : List PyData) : Prop where
  len : piled (PyData.shownAll ds) ≤ capsR ds
  lay : PyData.canLayAll0 ds = true
  sh : PyData.showableAll ds = true
  nod : PyData.hasDictAll ds = false
  dep : PyData.depthAll ds ≤ n
mutual
theorem shw_of : ∀ (n : Nat) (d : PyData), okR n d = true → Shw n d
  | n, .none, _ => ⟨Nat.le_refl 4, rfl, rfl, rfl, Nat.zero_le _⟩
  | n, .bool b, _ => ⟨by cases b <;> decide, rfl, rfl, rfl, Nat.zero_le _⟩
  | n, .int i, h => ⟨by
      show (Str.ofString (toString i)).length ≤ 1921
      exact int_text_len_1921 (okR_int h), rfl, decide_eq_true (okR_int h), rfl, Nat.zero_le _⟩
  | n, .str x, h => by
    have h : x.cps.all (fun c => Nat.ble c 127) = true := by unfold okR at h; exact h
    refine ⟨reprText_le x h, ?_, rfl, rfl, Nat.zero_le _⟩
    show x.cps.all (· < 0x110000) = true
    rw [Array.all_eq_true] at h ⊢
    intro i hi
    have := Nat.le_of_ble_eq_true (h i hi)
    exact decide_eq_true (by omega)
  | n + 1, .list xs, h => by
    have s := shws_of n xs (by unfold okR at h; exact h)
    exact ⟨Nat.le_trans (listText_le _) (Nat.add_le_add_right s.len 4), s.lay, s.sh, s.nod, Nat.succ_le_succ s.dep⟩
  | n + 1, .tuple xs, h => by
    have s := shws_of n xs (by unfold okR at h; exact h)
    exact ⟨Nat.le_trans (tupleText_le _) (Nat.add_le_add_right s.len 4), s.lay, s.sh, s.nod, Nat.succ_le_succ s.dep⟩
  | 0, .list _, h => by unfold okR at h; cases h
  | 0, .tuple _, h => by unfold okR at h; cases h
  | n, .dict _, h => by cases n <;> · unfold okR at h; cases h
theorem shws_of : ∀ (n : Nat) (ds : List PyData), oksR n ds = true → Shws n ds
  | n, [], _ => ⟨Nat.le_refl 0, rfl, rfl, rfl, Nat.zero_le _⟩
  | n, x :: xs, h => by
    unfold oksR at h
    cases e : okR n x with
    | false => rw [e] at h; cases h
    | true =>
      rw [e] at h
      have h1 := shw_of n x e
      have h2 := shws_of n xs h
      refine ⟨?_, ?_, ?_, ?_, ?_⟩
      · show piled (x.shown :: PyData.shownAll xs) ≤ capR x + 2 + capsR xs
        rw [piled_cons]
        have := h1.len
        have := h2.len
        omega
      · unfold PyData.canLayAll0
        rw [h1.lay, h2.lay]
        rfl
      · unfold PyData.showableAll
        rw [h1.sh, h2.sh]
        rfl
      · unfold PyData.hasDictAll
        rw [h1.nod, h2.nod]
        rfl
      · unfold PyData.depthAll
        exact Nat.max_le.mpr ⟨h1.dep, h2.dep⟩
end
/-- repr(d) may be told -/
def reprOk (d : PyData) : Bool := match okR 40 d with
  | true => Nat.ble (capR d) 16000000
  | false => false
section
variable {X : Cx} {W : Wd}
theorem call_repr {l : Nat} (hr : RG l X.A) : CallR X (.builtin "repr") (fun xs H Q => ∃ v d, xs = [v] ∧ Dp X.K H v d ∧ Shw 40 d ∧ d.shown.length ≤ sizeLine ∧ Q (.str d.shown) H) := by
  intro pins s σ H xs us Q I r h
  obtain ⟨v, d, rfl, hd, S, hz, q⟩ := h
  obtain ⟨u, rfl, rv⟩ := vals1 r
  obtain ⟨as, rd⟩ := Dp.reads I d v u hd rv
  have hk : ∀ (h' : Heap) (u : Tok) (tk : Tok), (∀ b o, s.heap.get? b = some o → h'.get? b = some o) → EP X pins σ Q (.str d.shown u) { s with heap := h', toks := tk } := fun h' u tk hk => ⟨.str d.shown, H, I.kept hk, ⟨u, rfl⟩, q⟩
  have un := hr.r.un
  cases rd with
  | none => exact PySem.P.repr_of_none (hk s.heap _ _ fun _ _ e => e)
  | bool b => exact PySem.P.repr_of_bool (hk s.heap _ _ fun _ _ e => e)
  | int i t => exact PySem.P.repr_of_int (by simpa [PyData.showable] using S.sh) (hk s.heap _ _ fun _ _ e => e)
  | str x t => exact PySem.P.repr_of_str (hk s.heap _ _ fun _ _ e => e) hz
  | list h1 h2 h3 h4 => exact repr_of_reads' (.list h1 h2 h3 h4) S.sh (PyData.noDict_hsm S.nod) hr.g (by have := S.dep; omega) (fun _ _ e => e) (fun h' u tk k => hk h' u tk k) hz
  | tuple h1 h2 h3 h4 => exact repr_of_reads' (.tuple h1 h2 h3 h4) S.sh (PyData.noDict_hsm S.nod) hr.g (by have := S.dep; omega) (fun _ _ e => e) (fun h' u tk k => hk h' u tk k) hz
  | dict _ _ _ _ _ => exact absurd S.nod (by simp [PyData.hasDict])
def gRepr : GC := fun ds k => match ds with
  | [d] => (match reprOk d with
    | true => k (.str d.shown)
    | false => false)
  | _ => false
theorem ok_repr : OkC X.K W (fun xs H Q => ∃ v d, xs = [v] ∧ Dp X.K H v d ∧ Shw 40 d ∧ d.shown.length ≤ sizeLine ∧ Q (.str d.shown) H) gRepr := fun F H vs ds k Q B r h q => by
  unfold gRepr at h
  split at h
  · rename_i d
    cases e : reprOk d with
    | false => rw [e] at h; cases h
    | true =>
      rw [e] at h
      unfold reprOk at e
      cases e2 : okR 40 d with
      | false => rw [e2] at e; cases e
      | true =>
        rw [e2] at e
        have S := shw_of 40 d e2
        cases r with
        | cons r1 rr =>
          cases rr
          exact ⟨_, d, rfl, (r1.mono B.fh).dp S.lay, S, Nat.le_trans S.len (Nat.le_trans (Nat.le_of_ble_eq_true e) (by decide)), q _ _ F H (Stp.refl B) (.str _) h⟩
  · cases h
end
/-! ### repr(a) != repr(b), repr(a) == repr(b), told where a and b are the same -/
mutual
def sameD : PyData → PyData → Bool
  | .none, .none => true
  | .bool a, .bool b => match a, b with
    | true, true => true
    | false, false => true
    | _, _ => false
  | .int a, .int b => eqI a b
  | .str a, .str b => decide (a = b)
  | .list a, .list b => sameDs a b
  | .tuple a, .tuple b => sameDs a b
  | _, _ => false
def sameDs : List PyData → List PyData → Bool
  | [], [] => true
  | x :: xs, y :: ys => match sameD x y with
    | true => sameDs xs ys
    | false => false
  | _, _ => false
end
theorem eqI_refl (i : Int) : eqI i i = true := by rw [eqI_eq]; exact beq_self_eq_true i
mutual
theorem sameD_refl : ∀ (n : Nat) (d : PyData), okR n d = true → sameD d d = true
  | _, .none, _ => rfl
  | _, .bool b, _ => by cases b <;> rfl
  | _, .int i, _ => eqI_refl i
  | _, .str x, _ => decide_eq_true rfl
  | n + 1, .list xs, h => sameDs_refl n xs (by unfold okR at h; exact h)
  | n + 1, .tuple xs, h => sameDs_refl n xs (by unfold okR at h; exact h)
  | 0, .list _, h => by unfold okR at h; cases h
  | 0, .tuple _, h => by unfold okR at h; cases h
  | n, .dict _, h => by cases n <;> · unfold okR at h; cases h
theorem sameDs_refl : ∀ (n : Nat) (ds : List PyData), oksR n ds = true → sameDs ds ds = true
  | _, [], _ => rfl
  | n, x :: xs, h => by
    unfold oksR at h
    cases e : okR n x with
    | false => rw [e] at h; cases h
    | true =>
      rw [e] at h
      unfold sameDs
      rw [sameD_refl n x e]
      exact sameDs_refl n xs h
end
theorem reprOk_same {d : PyData} (h : reprOk d = true) : sameD d d = true := by
  unfold reprOk at h
  cases e2 : okR 40 d with
  | false => rw [e2] at h; cases h
  | true => exact sameD_refl 40 d e2
mutual
theorem sameD_eq : ∀ {d e : PyData}, sameD d e = true → d = e
  | .none, e, h => by cases e <;> first | rfl | cases h
  | .bool a, e, h => by
    cases e with
    | bool b => cases a <;> cases b <;> first | rfl | cases h
    | _ => cases h
  | .int a, e, h => by
    cases e with
    | int b =>
      have h : eqI a b = true := h
      rw [eqI_eq] at h
      rw [eq_of_beq h]
    | _ => cases h
  | .str a, e, h => by
    cases e with
    | str b => rw [of_decide_eq_true (show decide (a = b) = true from h)]
    | _ => cases h
  | .list a, e, h => by
    cases e with
    | list b => rw [sameDs_eq (ds := a) (es := b) h]
    | _ => cases h
  | .tuple a, e, h => by
    cases e with
    | tuple b => rw [sameDs_eq (ds := a) (es := b) h]
    | _ => cases h
  | .dict a, e, h => by cases e <;> cases h
theorem sameDs_eq : ∀ {ds es : List PyData}, sameDs ds es = true → ds = es
  | [], [], _ => rfl
  | x :: xs, y :: ys, h => by
    unfold sameDs at h
    cases e : sameD x y with
    | false => rw [e] at h; cases h
    | true =>
      rw [e] at h
      rw [sameD_eq e, sameDs_eq (ds := xs) (es := ys) h]
  | [], _ :: _, h => nomatch h
  | _ :: _, [], h => nomatch h
end
theorem reprOk_eq {d : PyData} (e : reprOk d = true) : Shw 40 d ∧ d.shown.length ≤ sizeLine := by
  unfold reprOk at e
  cases e2 : okR 40 d with
  | false => rw [e2] at e; cases e
  | true =>
    rw [e2] at e
    have S := shw_of 40 d e2
    exact ⟨S, Nat.le_trans S.len (Nat.le_trans (Nat.le_of_ble_eq_true e) (by decide))⟩
def dRepr2 (r : Bool) (a b : DE) : DE := fun env k => a env fun x => match reprOk x with
  | true => b env fun y => match sameD x y with
    | true => k (.bool r)
    | false => false
  | false => false
section
variable {X : Cx} {W : Wd} {ea eb : Expr} {da db : DE} {dr : DA}
abbrev rReprV (K : PySem.W.Frag) : List V → Hp → VK → Prop := fun xs H Q => ∃ v d, xs = [v] ∧ Dp K H v d ∧ Shw 40 d ∧ d.shown.length ≤ sizeLine ∧ Q (.str d.shown) H
theorem repr_ex {l : Nat} {p pos : Pos} (hr : RG l X.A) (hm : X.mg "repr" = none) (a : SE W X ea da) (hg : Gl X "repr" := by rfl) (he : starEach [ea] X.env = (false, eval ea X.env) :: starEach [] X.env := by rfl) :
    ∃ t, PE X (.Call (.Name "repr" p) [ea] [] pos) (tCB (rReprV X.K) (tCons t tNil)) ∧ OkE X.K W t da := by
  obtain ⟨t, q, o⟩ := a
  exact ⟨t, pe_callB (call_repr hr) hg hm (by decide +kernel) (pa_cons q pa_nil he) (he := he), o⟩
theorem okE_repr2 {t1 t2 : TE} {r2 : R2} {r : Bool} (a : OkE X.K W t1 da) (b : OkE X.K W t2 db) (hr : ∀ (x : Str) (H : Hp) (Q : VK), Q (.bl r) H → r2 (.str x) (.str x) H Q) :
    OkE X.K W (tOp r2 (tCB (rReprV X.K) (tCons t1 tNil)) (tCB (rReprV X.K) (tCons t2 tNil))) (dRepr2 r da db) := fun env σ F H k Q R h q => by
  refine a env σ F H _ _ R h fun d v F1 H1 s1 r1 h1 => ?_
  cases e : reprOk d with
  | false => simp only [e] at h1; cases h1
  | true =>
    simp only [e] at h1
    obtain ⟨S, z⟩ := reprOk_eq e
    refine ⟨v, d, rfl, (r1.mono (R.step s1).bs.fh).dp S.lay, S, z, ?_⟩
    refine b env σ F1 H1 _ _ (R.step s1) h1 fun d2 v2 F2 H2 s2 r2 h2 => ?_
    cases e2 : sameD d d2 with
    | false => simp only [e2] at h2; cases h2
    | true =>
      simp only [e2] at h2
      have ed := sameD_eq e2
      subst ed
      exact ⟨v2, d, rfl, (r2.mono ((R.step s1).step s2).bs.fh).dp S.lay, S, z, hr _ _ _ (q _ _ F2 H2 (s1.trans s2) (.bl _) h2)⟩
theorem se_reprNe {l : Nat} {p p2 q1 q2 pos : Pos} (hr : RG l X.A) (hm : X.mg "repr" = none) (a : SE W X ea da) (b : SE W X eb db) (hg : Gl X "repr" := by rfl) (he : starEach [ea] X.env = (false, eval ea X.env) :: starEach [] X.env := by rfl) (he2 : starEach [eb] X.env = (false, eval eb X.env) :: starEach [] X.env := by rfl)
    (hmk : behindInMarks .NotEq (.Call (.Name "repr" p2) [eb] [] q2) = false := by exact nomark _) : SE W X (.Compare (.Call (.Name "repr" p) [ea] [] q1) [.NotEq] [.Call (.Name "repr" p2) [eb] [] q2] pos) (dRepr2 false da db) := by
  obtain ⟨t1, p1, o1⟩ := repr_ex (p := p) (pos := q1) hr hm a hg he
  obtain ⟨t2, p2', o2⟩ := repr_ex (p := p2) (pos := q2) hr hm b hg he2
  exact ⟨_, pe_cmpR op_ne p1 p2' hmk, okE_repr2 o1 o2 (fun x H Q h => ⟨rfl, by rw [decide_eq_true (rfl : V.str x = V.str x)]; exact h⟩)⟩
theorem se_reprEq {l : Nat} {p p2 q1 q2 pos : Pos} (hr : RG l X.A) (hm : X.mg "repr" = none) (a : SE W X ea da) (b : SE W X eb db) (hg : Gl X "repr" := by rfl) (he : starEach [ea] X.env = (false, eval ea X.env) :: starEach [] X.env := by rfl) (he2 : starEach [eb] X.env = (false, eval eb X.env) :: starEach [] X.env := by rfl)
    (hmk : behindInMarks .Eq (.Call (.Name "repr" p2) [eb] [] q2) = false := by exact nomark _) : SE W X (.Compare (.Call (.Name "repr" p) [ea] [] q1) [.Eq] [.Call (.Name "repr" p2) [eb] [] q2] pos) (dRepr2 true da db) := by
  obtain ⟨t1, p1, o1⟩ := repr_ex (p := p) (pos := q1) hr hm a hg he
  obtain ⟨t2, p2', o2⟩ := repr_ex (p := p2) (pos := q2) hr hm b hg he2
  exact ⟨_, pe_cmpR op_eq p1 p2' hmk, okE_repr2 o1 o2 (fun x H Q h => ⟨rfl, by rw [decide_eq_true (rfl : V.str x = V.str x)]; exact h⟩)⟩
theorem st_reprNe {l : Nat} {p p2 q1 q2 pos : Pos} (hr : RG l X.A) (hm : X.mg "repr" = none) (a : SE W X ea da) (b : SE W X eb db) (hg : Gl X "repr" := by rfl) (he : starEach [ea] X.env = (false, eval ea X.env) :: starEach [] X.env := by rfl) (he2 : starEach [eb] X.env = (false, eval eb X.env) :: starEach [] X.env := by rfl)
    (hmk : behindInMarks .NotEq (.Call (.Name "repr" p2) [eb] [] q2) = false := by exact nomark _) : ST W X (.Compare (.Call (.Name "repr" p) [ea] [] q1) [.NotEq] [.Call (.Name "repr" p2) [eb] [] q2] pos) (dB (dRepr2 false da db)) := by
  obtain ⟨t1, p1, o1⟩ := repr_ex (p := p) (pos := q1) hr hm a hg he
  obtain ⟨t2, p2', o2⟩ := repr_ex (p := p2) (pos := q2) hr hm b hg he2
  exact ⟨_, pt_cmpR op_ne p1 p2' hmk, okT_test (okE_repr2 o1 o2 (fun x H Q h => ⟨rfl, by rw [decide_eq_true (rfl : V.str x = V.str x)]; exact h⟩))⟩
theorem st_reprEq {l : Nat} {p p2 q1 q2 pos : Pos} (hr : RG l X.A) (hm : X.mg "repr" = none) (a : SE W X ea da) (b : SE W X eb db) (hg : Gl X "repr" := by rfl) (he : starEach [ea] X.env = (false, eval ea X.env) :: starEach [] X.env := by rfl) (he2 : starEach [eb] X.env = (false, eval eb X.env) :: starEach [] X.env := by rfl)
    (hmk : behindInMarks .Eq (.Call (.Name "repr" p2) [eb] [] q2) = false := by exact nomark _) : ST W X (.Compare (.Call (.Name "repr" p) [ea] [] q1) [.Eq] [.Call (.Name "repr" p2) [eb] [] q2] pos) (dB (dRepr2 true da db)) := by
  obtain ⟨t1, p1, o1⟩ := repr_ex (p := p) (pos := q1) hr hm a hg he
  obtain ⟨t2, p2', o2⟩ := repr_ex (p := p2) (pos := q2) hr hm b hg he2
  exact ⟨_, pt_cmpR op_eq p1 p2' hmk, okT_test (okE_repr2 o1 o2 (fun x H Q h => ⟨rfl, by rw [decide_eq_true (rfl : V.str x = V.str x)]; exact h⟩))⟩
theorem se_repr {l : Nat} {p pos : Pos} (hr : RG l X.A) (hm : X.mg "repr" = none) (a : SA W X [ea] dr) (hg : Gl X "repr" := by rfl) (he : starEach [ea] X.env = (false, eval ea X.env) :: starEach [] X.env := by rfl) : SE W X (.Call (.Name "repr" p) [ea] [] pos) (dCB gRepr dr) :=
  se_cb (call_repr hr) ok_repr hm a (hg := hg) (he := he)
end
end Dl

namespace Dl
open PySem PySem.Spec PyProof.Rows L2

/-! ### lists of one's own -/
abbrev DF := Sls → (List PyData → Bool) → Bool
def OkF (K : PySem.W.Frag) (W : Wd) (t : TE) (e : DF) : Prop := ∀ (env : Sls) (σ : L2.St) (F H : Hp) (k : List PyData → Bool) (Q : VK), Rel K W env σ F H → e env k = true →
  (∀ ds xs F' H' p, Stp W.pp F H F' H' → H p = none → F' p = none → H' p = some (.lst xs) → RpAll K F' xs ds → k ds = true → Q (.ref p) H') → t σ H Q
structure SF (W : Wd) (X : Cx) (e : Expr) (df : DF) : Prop where
  ex : ∃ t, PE X e t ∧ OkF X.K W t df
theorem none_of {pp : Addr} {F H : Hp} {p : Addr} (B : Bs pp F H) (n : H p = none) : F p = none := by
  cases q : F p with
  | none => rfl
  | some o => rw [B.fh p o q] at n; cases n
theorem ne_pp {pp : Addr} {F H : Hp} {p : Addr} (B : Bs pp F H) (n : H p = none) : p ≠ pp := fun e => by subst e; exact B.po.some n
theorem back_none {pp : Addr} {F H F' H' : Hp} {p : Addr} (B : Bs pp F H) (s : Stp pp F H F' H') (n : H' p = none) : H p = none := by
  cases q : H p with
  | none => rfl
  | some o =>
    by_cases e : p = pp
    · subst e; exact absurd n s.po.some
    · rw [s.fr p o e q] at n; cases n
section
variable {K : PySem.W.Frag} {W : Wd} {env : Sls} {σ : L2.St} {F H F' H' : Hp}
theorem Rel.setO' (r : Rel K W env σ F H) (s : Stp W.pp F H F' H') {p : Addr} {xs : List V} {ds : List PyData} (n : H p = none) (f : F' p = none) (hp : H' p = some (.lst xs)) (h : RpAll K F' xs ds) (i : Nat) :
    Rel K W (env.set i (.ow ds)) (σ.set i (some (.ref p))) F' H' := by
  have B := r.bs
  have r2 := r.step s
  have np := ne_pp B n
  have h0 : W.H0 p = none := by
    cases q : W.H0 p with
    | none => rfl
    | some o => rw [r.st.fr p o np q] at n; cases n
  have apart : ∀ (j : Nat) (q : Addr) (es : List PyData), env[j]? = some (Sl.ow es) → σ[j]? = some (some (V.ref q)) → q ≠ p := fun j q es e g => by
    obtain ⟨p', xs', h1, h2, _⟩ := r.sl j _ e
    rw [g] at h1
    cases h1
    exact ne_of_none h2 n
  refine ⟨r.b0, r2.st, by rw [List.length_set, List.length_set]; exact r.len, fun j q e => ?_, fun j l q ds' es e1 e2 g1 g2 => ?_⟩
  · rw [List.getElem?_set] at e ⊢
    by_cases hj : i = j
    · subst hj
      rw [if_pos rfl] at e ⊢
      by_cases hl : i < env.length
      · rw [if_pos hl] at e
        cases e
        rw [if_pos (by rw [r.len]; exact hl)]
        exact ⟨p, xs, rfl, hp, f, np, h0, h⟩
      · rw [if_neg hl] at e; cases e
    · rw [if_neg hj] at e ⊢
      exact r2.sl j q e
  · by_cases n1 : i = j
    · by_cases n2 : i = l
      · rw [← n1, ← n2]
      · subst n1
        rw [List.getElem?_set_ne n2] at e2 g2
        have hl : i < σ.length := by
          rw [List.getElem?_set, if_pos rfl] at g1
          split at g1
          · assumption
          · cases g1
        rw [List.getElem?_set_self hl] at g1
        cases g1
        exact absurd rfl (apart l p es e2 g2)
    · by_cases n2 : i = l
      · subst n2
        rw [List.getElem?_set_ne n1] at e1 g1
        have hl : i < σ.length := by
          rw [List.getElem?_set, if_pos rfl] at g2
          split at g2
          · assumption
          · cases g2
        rw [List.getElem?_set_self hl] at g2
        cases g2
        exact absurd rfl (apart j p ds' e1 g1)
      · rw [List.getElem?_set_ne n1] at e1 g1
        rw [List.getElem?_set_ne n2] at e2 g2
        exact r.dis j l q ds' es e1 e2 g1 g2
end
def fLst (a : DA) : DF := fun env k => a env fun xs => match small xs.length with
  | true => k xs
  | false => false
def fLc (it : DI) (tg : DG) (tt : DT) (el : DE) (vs : List Nat) : DF := fun env k => dLc it tg tt el vs env fun d => match d with
  | .list ds => k ds
  | _ => false
def fList (a : DE) : DF := fun env k => a env fun x => match x with
  | .list xs => k xs
  | .tuple xs => k xs
  | _ => false
def fCat (a b : DE) : DF := fun env k => a env fun x => b env fun y => match x, y with
  | .list xs, .list ys => (match small (xs.length + ys.length) with
    | true => k (xs ++ ys)
    | false => false)
  | _, _ => false
def fRep (a b : DE) : DF := fun env k => a env fun x => b env fun y => match x, y with
  | .list xs, .int j => (match repOk xs.length j with
    | true => k (List.replicate j.toNat xs).flatten
    | false => false)
  | _, _ => false
section
variable {K : PySem.W.Frag} {W : Wd} {X : Cx} {ea eb : Expr} {da db : DE} {es : List Expr} {dr : DA} {pos : Pos}
/-- a new list at p, made behind the evaluation -/
theorem okF_new {F H F1 H1 : Hp} {p : Addr} {xs : List V} {ds : List PyData} (B : Bs W.pp F H) (s : Stp W.pp F H F1 H1) (n : H1 p = none) (r : RpAll K F1 xs ds) {Q : VK} {k : List PyData → Bool} (h : k ds = true)
    (q : ∀ ds xs F' H' p, Stp W.pp F H F' H' → H p = none → F' p = none → H' p = some (.lst xs) → RpAll K F' xs ds → k ds = true → Q (.ref p) H') : Q (.ref p) (upd H1 p (.lst xs)) := by
  have B1 := Stp.bs B s
  exact q ds xs F1 _ p (s.trans (Stp.newO B1 n)) (back_none B s n) (none_of B1 n) upd_same r h
theorem sf_lst (a : SA W X es dr) : SF W X (.List es pos) (fLst dr) := by
  obtain ⟨t, p, o⟩ := a
  refine ⟨_, pe_lst p, fun env σ F H k Q R h q => o env σ F H _ _ R h fun ds vs F1 H1 s1 r1 h1 => ?_⟩
  cases e : small ds.length with
  | true =>
    rw [e] at h1
    exact ⟨by rw [r1.length]; exact small_ok e, fun a na => okF_new R.bs s1 na r1 h1 q⟩
  | false => rw [e] at h1; cases h1
theorem sf_list {x : Str} {p : Pos} (hm : X.mg x = none) (a : SE W X ea da) (hx : x = "list" := by rfl) (hg : Gl X x := by rfl) (hn : x ≠ "__name__" := by decide)
    (hdb : (x == ("__debug__" : Str)) = false := by decide) (he : starEach [ea] X.env = (false, eval ea X.env) :: starEach [] X.env := by rfl) (hpl : (backTo pos (starEach [] X.env)).any (·.1) = false := by rfl) : SF W X (.Call (.Name x p) [ea] [] pos) (fList da) := by
  obtain ⟨t, q, o⟩ := a
  refine ⟨_, pe_callTy call_list_of hg hm (by rw [hx]; decide +kernel) (pa_cons q pa_nil he) hn hdb he hpl, fun env σ F H k Q R h q => o env σ F H _ _ R h fun d v F1 H1 s1 r1 h1 => ?_⟩
  have B := (R.step s1).bs
  cases d with
  | list xs =>
    cases r1 with
    | @lst pa vl _ ha ra => exact ⟨_, _, rfl, .inl (.inl (.inl (B.keep ha))), fun p np => okF_new R.bs s1 np ra h1 q⟩
  | tuple xs =>
    cases v with
    | ref p =>
      obtain ⟨vs, hs, ra⟩ := sqT_of B.fh r1
      exact ⟨_, _, rfl, .inr hs, fun p np => okF_new R.bs s1 np ra h1 q⟩
    | _ => cases r1
  | _ => cases h1
theorem sf_cat (a : SE W X ea da) (b : SE W X eb db) : SF W X (.BinOp ea .Add eb pos) (fCat da db) := by
  obtain ⟨t1, p1, o1⟩ := a
  obtain ⟨t2, p2, o2⟩ := b
  refine ⟨_, pe_op op_cat p1 p2, fun env σ F H k Q R h q => o1 env σ F H _ _ R h fun d v F1 H1 s1 r1 h1 => o2 env σ F1 H1 _ _ (R.step s1) h1 fun d2 v2 F2 H2 s2 r2 h2 => ?_⟩
  have B := ((R.step s1).step s2).bs
  have r1 := r1.mono s2.ff
  cases d with
  | list xs =>
    cases d2 with
    | list ys =>
      cases r1 with
      | @lst pa vl _ ha ra =>
        cases r2 with
        | @lst pb wl _ hb rb =>
          cases e : small (xs.length + ys.length) with
          | false => simp only [e] at h2; cases h2
          | true =>
            simp only [e] at h2
            exact ⟨_, _, _, _, rfl, rfl, B.keep ha, B.keep hb, by rw [ra.length, rb.length]; exact small_ok e, fun p np => okF_new R.bs (s1.trans s2) np (ra.append rb) h2 q⟩
    | _ => cases h2
  | _ => cases h2
theorem sf_rep (a : SE W X ea da) (b : SE W X eb db) : SF W X (.BinOp ea .Mult eb pos) (fRep da db) := by
  obtain ⟨t1, p1, o1⟩ := a
  obtain ⟨t2, p2, o2⟩ := b
  refine ⟨_, pe_op op_rep p1 p2, fun env σ F H k Q R h q => o1 env σ F H _ _ R h fun d v F1 H1 s1 r1 h1 => o2 env σ F1 H1 _ _ (R.step s1) h1 fun d2 v2 F2 H2 s2 r2 h2 => ?_⟩
  have B := ((R.step s1).step s2).bs
  have r1 := r1.mono s2.ff
  cases d with
  | list xs =>
    cases d2 with
    | int j =>
      cases r2
      cases r1 with
      | @lst pa vl _ ha ra =>
        cases e : repOk xs.length j with
        | false => simp only [e] at h2; cases h2
        | true =>
          simp only [e] at h2
          obtain ⟨l1, l2, l3⟩ := repOk_ok e
          exact ⟨_, _, _, rfl, rfl, B.keep ha, l1, l2, by rw [ra.length]; exact l3, fun p np => okF_new R.bs (s1.trans s2) np (ra.rep _) h2 q⟩
    | _ => cases h2
  | _ => cases h2
theorem okF_lc {wi : TI} {g : TG} {tt : TT} {te : TE} {it : DI} {tg : DG} {dt : DT} {el : DE} {vs sl : List Nat} (oi : OkI K W wi it) (og : OkG K W g tg sl) (ot : OkT K W tt dt) (oe : OkE K W te el) (hsl : ∀ j ∈ sl, j ∈ vs) :
    OkF K W (tLc wi g tt te vs) (fLc it tg dt el vs) := fun env σ F H k Q R h q => by
  refine oi env σ F H _ _ R h fun ds J F1 H1 s1 wk h1 => ?_
  cases e : small ds.length with
  | false => rw [e] at h1; cases h1
  | true =>
    rw [e] at h1
    have hz := small_ok e
    have hz2 : ds.length ≤ 100000 := Nat.le_of_ble_eq_true e
    have R1 := R.step s1
    have B1 := R1.bs
    obtain ⟨G, Y, w1, w2, w3⟩ := wk
    intro D hD
    have np : D ≠ W.pp := ne_pp B1 hD
    have fD : F1 D = none := none_of B1 hD
    have RW := R1.wipe vs
    refine lc_it w1 (fun i H' => ∃ acc F', InLc K W F1 H1 D acc F' H' ∧ acc.length ≤ i ∧ goLc tg dt el (wipeE env vs) (ds.drop i) acc (fun d => match d with
      | .list ds => k ds
      | _ => false) = true) ⟨[], F1, ⟨Stp.newO B1 hD, fD, [], upd_same, .nil⟩, Nat.le_refl _, h1⟩
      (fun i H' _ ⟨acc, F', c, _⟩ => w2 F' H' c.st.ff c.st.fh) (fun i x H' H'' hi ⟨acc, F', c, la, hg⟩ y => ?_) (fun H' ⟨acc, F', c, la, hg⟩ => ?_)
    · have hd : ds[i]? = some ds[i] := List.getElem?_eq_getElem hi
      have hdr : ds.drop i = ds[i] :: ds.drop (i + 1) := List.drop_eq_getElem_cons hi
      rw [hdr] at hg
      have Bc := Stp.bs B1 c.st
      obtain ⟨F2, s2, r2⟩ := w3 i H' x H'' F' ds[i] c.st.ff Bc hd y
      have c2 := c.step np s2
      have RW2 := (RW.step c2.st)
      unfold goLc at hg
      refine og _ _ F2 H'' x _ _ _ RW2 r2 hg fun env' σ' R' a1 l1 hk => ?_
      have ew : L2.wipe σ' vs = L2.wipe σ vs := wipe_same (l1.trans (L2.wipe_length σ vs)) hsl a1
      refine ⟨ew, ?_⟩
      refine ot env' σ' F2 H'' _ _ R' hk fun b F3 H3 s3 h3 => ?_
      have c3 := c2.step np s3
      cases b with
      | false =>
        rw [if_neg Bool.false_ne_true]
        exact ⟨acc, F3, c3, by omega, h3⟩
      | true =>
        rw [if_pos rfl]
        refine oe env' σ' F3 H3 _ _ (R'.step s3) h3 fun d v F4 H4 s4 r4 h4 => ?_
        have c4 := c3.step np s4
        obtain ⟨vl, h5, h6⟩ := c4.at_
        refine ⟨vl, h5, by rw [h6.length, List.length_reverse]; exact Nat.lt_of_le_of_lt (show acc.length ≤ 100000 by omega) (by decide), d :: acc, F4, ⟨c4.st.write hD c4.un np, c4.un, vl ++ [v], upd_same, ?_⟩, by rw [List.length_cons]; omega, h4⟩
        rw [List.reverse_cons]
        exact h6.append (.cons r4 .nil)
    · rw [List.drop_length] at hg
      unfold goLc at hg
      obtain ⟨vl, h5, h6⟩ := c.at_
      exact q _ vl F' H' D (s1.trans c.st) (back_none R.bs s1 hD) c.un h5 h6 hg
theorem sf_lc {elt tg iter : Expr} {ifs : List Expr} {scope : Scope} {own : List (Str × Nat)} {di : DI} {g : DG} {dt : DT} {de : DE} {sl vs : List Nat} (hc : X.calm = true) (hN : X.N.Nodup) (hi : SI W X tg iter di) (ok : BlkOk X.N X.env.scope scope own)
    (hg : ∀ (s : Shared) (H : Hp) (C : Addr) (cl : List (Str × Addr)) (fp : List Addr), SG W (X.blk s H scope (compEnvC scope cl C X.env) fp) tg g sl) (ht : ∀ (s : Shared) (H : Hp) (C : Addr) (cl : List (Str × Addr)) (fp : List Addr), STs W (X.blk s H scope (compEnvC scope cl C X.env) fp) ifs dt)
    (he : ∀ (s : Shared) (H : Hp) (C : Addr) (cl : List (Str × Addr)) (fp : List Addr), SE W (X.blk s H scope (compEnvC scope cl C X.env) fp) elt de) (hsl : ∀ j ∈ sl, j ∈ vs := by decide) (hvs : own.map (·.2) = vs := by rfl) (hs : ∀ x, foldedSetIterable iter X.env x = pure x := by intro _; rfl) :
    SF W X (.ListComp elt [⟨tg, iter, ifs, 0⟩] scope pos) (fLc di g dt de vs) := by
  obtain ⟨wi, p, oi⟩ := hi
  subst hvs
  exact ⟨_, pe_lc hc hN p ok (fun s H C cl fp => (hg s H C cl fp).can) (fun s H C cl fp => (ht s H C cl fp).can) (fun s H C cl fp => (he s H C cl fp).can) hs, okF_lc oi okG_can okT_can okE_can hsl⟩
theorem sf_setlc {i : Nat} {y : Str} {py : Pos} {elt tg iter : Expr} {ifs : List Expr} {scope : Scope} {own : List (Str × Nat)} {spos : Pos} {di : DI} {g : DG} {dt : DT} {de : DE} {sl vs : List Nat} (hc : X.calm = true) (hN : X.N.Nodup) (hy : X.N[i]? = some y) (hyl : X.env.scope.names.lookup y = some .local)
    (hsw : swapsWith (.ListComp elt [⟨tg, iter, ifs, 0⟩] scope pos) (some (.Name y py)) spos.line X.env = pure true) (hi : SI W X tg iter di) (ok : BlkOk X.N X.env.scope scope own)
    (hg : ∀ (s : Shared) (H : Hp) (C : Addr) (cl : List (Str × Addr)) (fp : List Addr), SG W (X.blk s H scope (compEnvC scope cl C X.env) fp) tg g sl) (ht : ∀ (s : Shared) (H : Hp) (C : Addr) (cl : List (Str × Addr)) (fp : List Addr), STs W (X.blk s H scope (compEnvC scope cl C X.env) fp) ifs dt)
    (he : ∀ (s : Shared) (H : Hp) (C : Addr) (cl : List (Str × Addr)) (fp : List Addr), SE W (X.blk s H scope (compEnvC scope cl C X.env) fp) elt de) (hsl : ∀ j ∈ sl, j ∈ vs := by decide) (hvs : own.map (·.2) = vs := by rfl) (hs : ∀ x, foldedSetIterable iter X.env x = pure x := by intro _; rfl) :
    ∃ te, PS X (.Assign [.Name y py] (.ListComp elt [⟨tg, iter, ifs, 0⟩] scope pos) spos) (tAsg te (gName i)) ∧ OkF X.K W te (fLc di g dt de vs) := by
  obtain ⟨wi, p, oi⟩ := hi
  subst hvs
  exact ⟨_, ps_setLc hc hN hy hyl hsw p ok (fun s H C cl fp => (hg s H C cl fp).can) (fun s H C cl fp => (ht s H C cl fp).can) (fun s H C cl fp => (he s H C cl fp).can) hs, okF_lc oi okG_can okT_can okE_can hsl⟩
end
/-! stores of such -/
def sOwn (i : Nat) (a : DF) : DS := fun B env => a env fun ds => B.nx (env.set i (.ow ds))
section
variable {K : PySem.W.Frag} {W : Wd} {X : Cx} {e : Expr} {df : DF} {pos : Pos} {st : Stmt}
theorem okS_own {t : TE} {i : Nat} (o : OkF K W t df) : OkS K W (tAsg t (gName i)) (sOwn i df) := fun env σ F H B D R h q =>
  o env σ F H _ _ R h fun ds xs F' H' p s n f hp r hk => q.nx _ _ F' H' s.ff (R.setO' s n f hp r i) hk
theorem ss_own {i : Nat} {x : Str} {pos' : Pos} (hN : X.N.Nodup) (h : SF W X e df) (hi : X.N[i]? = some x := by rfl) (hx : Loc X.env.scope x := by first | exact Or.inl rfl | exact Or.inr rfl) (hs : swapsWith e (some (.Name x pos')) pos.line X.env = pure false := by rfl)
    (hf : X.fn x = true ∨ X.env.scope.names.lookup x = some .local := by first | exact .inl rfl | exact .inr rfl) : SS W X (.Assign [.Name x pos'] e pos) (sOwn i df) := by
  obtain ⟨t, p, o⟩ := h
  exact ⟨_, ps_set hN hi hx p hs hf, okS_own o⟩
theorem ss_ownlc {i : Nat} (h : ∃ te, PS X st (tAsg te (gName i)) ∧ OkF X.K W te df) : SS W X st (sOwn i df) := by
  obtain ⟨t, p, o⟩ := h
  exact ⟨_, p, okS_own o⟩
end
/-- x, y = new list, value -/
def sParFE (i j : Nat) (a : DF) (b : DE) : DS := fun B env => a env fun ds => b env fun e => B.nx ((env.set i (.ow ds)).set j (.fz e))
def sParEF (i j : Nat) (a : DE) (b : DF) : DS := fun B env => a env fun d => b env fun es => B.nx ((env.set i (.fz d)).set j (.ow es))
def sParFF (i j : Nat) (a b : DF) : DS := fun B env => a env fun ds => b env fun es => B.nx ((env.set i (.ow ds)).set j (.ow es))
section
variable {W : Wd} {X : Cx} {i j : Nat} {x y : Str} {ea eb : Expr} {da db : DE} {fa fb : DF} {px py pt pos : Pos} {kt k2 : Nat} {pt2 : Pos}
theorem ss_parFE (hc : X.calm = true) (hN : X.N.Nodup) (ha : SF W X ea fa) (hb : SE W X eb db) (hi : X.N[i]? = some x := by rfl) (hj : X.N[j]? = some y := by rfl) (hij : i ≠ j := by decide)
    (hx : X.env.scope.names.lookup x = some .local := by rfl) (hy : X.env.scope.names.lookup y = some .local := by rfl) (he : starEach [ea, eb] X.env = (false, eval ea X.env) :: starEach [eb] X.env := by rfl) (he2 : starEach [eb] X.env = (false, eval eb X.env) :: starEach [] X.env := by rfl)
    (hw : swappedStores [.Tuple [.Name x px, .Name y py] kt pt] (.Tuple [ea, eb] k2 pt2) X.env = pure (some [x, y]) := by rfl)
    (hs : swapsWithSole [.Tuple [.Name x px, .Name y py] kt pt] (.Tuple [ea, eb] k2 pt2) pos.line X.env = pure false := by rfl) :
    SS W X (.Assign [.Tuple [.Name x px, .Name y py] kt pt] (.Tuple [ea, eb] k2 pt2) pos) (sParFE i j fa db) := by
  obtain ⟨t1, p1, o1⟩ := ha
  obtain ⟨t2, p2, o2⟩ := hb
  refine ⟨_, ps_par hc hN hi hj hij hx hy (pa_cons p1 (pa_cons p2 pa_nil he2) he) hw hs, fun env σ F H B D R h q => ?_⟩
  refine o1 env σ F H _ _ R h fun ds xs F1 H1 p s1 n f hp r1 h1 => o2 env σ F1 H1 _ _ (R.step s1) h1 fun d v F2 H2 s2 r2 h2 => ?_
  have np := ne_pp R.bs n
  exact ⟨_, _, rfl, q.nx _ _ F2 H2 (s1.ff.trans s2.ff) ((R.setO' (s1.trans s2) n (s2.own f (by rw [hp]; exact fun z => nomatch z)) (s2.fr _ _ np hp) (r1.mono s2.ff) i).set r2 j) h2⟩
theorem ss_parEF (hc : X.calm = true) (hN : X.N.Nodup) (ha : SE W X ea da) (hb : SF W X eb fb) (hi : X.N[i]? = some x := by rfl) (hj : X.N[j]? = some y := by rfl) (hij : i ≠ j := by decide)
    (hx : X.env.scope.names.lookup x = some .local := by rfl) (hy : X.env.scope.names.lookup y = some .local := by rfl) (he : starEach [ea, eb] X.env = (false, eval ea X.env) :: starEach [eb] X.env := by rfl) (he2 : starEach [eb] X.env = (false, eval eb X.env) :: starEach [] X.env := by rfl)
    (hw : swappedStores [.Tuple [.Name x px, .Name y py] kt pt] (.Tuple [ea, eb] k2 pt2) X.env = pure (some [x, y]) := by rfl)
    (hs : swapsWithSole [.Tuple [.Name x px, .Name y py] kt pt] (.Tuple [ea, eb] k2 pt2) pos.line X.env = pure false := by rfl) :
    SS W X (.Assign [.Tuple [.Name x px, .Name y py] kt pt] (.Tuple [ea, eb] k2 pt2) pos) (sParEF i j da fb) := by
  obtain ⟨t1, p1, o1⟩ := ha
  obtain ⟨t2, p2, o2⟩ := hb
  refine ⟨_, ps_par hc hN hi hj hij hx hy (pa_cons p1 (pa_cons p2 pa_nil he2) he) hw hs, fun env σ F H B D R h q => ?_⟩
  refine o1 env σ F H _ _ R h fun d v F1 H1 s1 r1 h1 => o2 env σ F1 H1 _ _ (R.step s1) h1 fun ds xs F2 H2 p s2 n f hp r2 h2 => ?_
  exact ⟨_, _, rfl, q.nx _ _ F2 H2 (s1.ff.trans s2.ff) (((R.step s1).set r1 i).setO' s2 n f hp r2 j) h2⟩
theorem ss_parFF (hc : X.calm = true) (hN : X.N.Nodup) (ha : SF W X ea fa) (hb : SF W X eb fb) (hi : X.N[i]? = some x := by rfl) (hj : X.N[j]? = some y := by rfl) (hij : i ≠ j := by decide)
    (hx : X.env.scope.names.lookup x = some .local := by rfl) (hy : X.env.scope.names.lookup y = some .local := by rfl) (he : starEach [ea, eb] X.env = (false, eval ea X.env) :: starEach [eb] X.env := by rfl) (he2 : starEach [eb] X.env = (false, eval eb X.env) :: starEach [] X.env := by rfl)
    (hw : swappedStores [.Tuple [.Name x px, .Name y py] kt pt] (.Tuple [ea, eb] k2 pt2) X.env = pure (some [x, y]) := by rfl)
    (hs : swapsWithSole [.Tuple [.Name x px, .Name y py] kt pt] (.Tuple [ea, eb] k2 pt2) pos.line X.env = pure false := by rfl) :
    SS W X (.Assign [.Tuple [.Name x px, .Name y py] kt pt] (.Tuple [ea, eb] k2 pt2) pos) (sParFF i j fa fb) := by
  obtain ⟨t1, p1, o1⟩ := ha
  obtain ⟨t2, p2, o2⟩ := hb
  refine ⟨_, ps_par hc hN hi hj hij hx hy (pa_cons p1 (pa_cons p2 pa_nil he2) he) hw hs, fun env σ F H B D R h q => ?_⟩
  refine o1 env σ F H _ _ R h fun ds xs F1 H1 p s1 n f hp r1 h1 => o2 env σ F1 H1 _ _ (R.step s1) h1 fun es ys F2 H2 p2 s2 n2 f2 hp2 r2 h2 => ?_
  have R1 := R.setO' s1 n f hp r1 i
  exact ⟨_, _, rfl, q.nx _ _ F2 H2 (s1.ff.trans s2.ff) (R1.setO' s2 n2 f2 hp2 r2 j) h2⟩
end

/-! ### reading lists of one's own -/
def frzAll : Sls → List Nat → Option Sls
  | env, [] => some env
  | env, i :: r => match freeze env i with
    | some env' => frzAll env' r
    | none => none
mutual
def noList : PyData → Bool
  | .list _ => false
  | .dict _ => false
  | .tuple xs => noLists xs
  | _ => true
def noLists : List PyData → Bool
  | [] => true
  | x :: r => noList x && noLists r
end
theorem Rel.fzo2 {K : PySem.W.Frag} {W : Wd} {env : Sls} {σ : L2.St} {F H : Hp} (r : Rel K W env σ F H) {i : Nat} {ds : List PyData} (e : env[i]? = some (.ow ds)) :
    ∃ F', Same F F' ∧ (∀ b o, F' b = some o → F b = some o ∨ ∃ xs, o = .lst xs) ∧ Rel K W (env.set i (.fz (.list ds))) σ F' H := by
  obtain ⟨p, xs, h1, h2, h3, h4, h5, h6⟩ := r.sl i _ e
  have hi : i < env.length := (List.getElem?_eq_some_iff.mp e).1
  have sf : Same F (upd F p (.lst xs)) := same_upd h3
  have st : Stp W.pp W.F0 W.H0 (upd F p (.lst xs)) H := r.st.freeze h5 h3 h2
  refine ⟨upd F p (.lst xs), sf, fun b o h => ?_, r.b0, st, by rw [List.length_set]; exact r.len, fun j q e' => ?_, fun j l q ds1 es e1 e2 g1 g2 => ?_⟩
  · by_cases z : b = p
    · subst z; rw [upd_same] at h; cases h; exact .inr ⟨xs, rfl⟩
    · rw [upd_ne z] at h; exact .inl h
  · by_cases hj : i = j
    · subst hj
      rw [List.getElem?_set_self hi] at e'
      cases e'
      exact ⟨.ref p, h1, .lst upd_same (h6.mono sf)⟩
    · rw [List.getElem?_set_ne hj] at e'
      have z := r.sl j q e'
      cases q with
      | no => trivial
      | fz d => obtain ⟨v, z1, z2⟩ := z; exact ⟨v, z1, z2.mono sf⟩
      | ow es =>
        obtain ⟨p2, ys, z1, z2, z3, z4, z5, z6⟩ := z
        refine ⟨p2, ys, z1, z2, ?_, z4, z5, z6.mono sf⟩
        have np : p2 ≠ p := fun ee => by
          subst ee
          exact hj (r.dis i j p2 ds es e e' h1 z1)
        rw [upd_ne np]; exact z3
      | pt => exact z
  · have back : ∀ (m : Nat) (ds2 : List PyData), (env.set i (Sl.fz (.list ds)))[m]? = some (Sl.ow ds2) → env[m]? = some (Sl.ow ds2) := fun m ds2 h => by
      by_cases hm : i = m
      · subst hm; rw [List.getElem?_set_self hi] at h; cases h
      · rw [List.getElem?_set_ne hm] at h; exact h
    exact r.dis j l q ds1 es (back j ds1 e1) (back l es e2) g1 g2
theorem Rel.fzAll {K : PySem.W.Frag} {W : Wd} {σ : L2.St} {H : Hp} : ∀ {is : List Nat} {env env' : Sls} {F : Hp}, Rel K W env σ F H → frzAll env is = some env' → ∃ F', Same F F' ∧ (∀ b o, F' b = some o → F b = some o ∨ ∃ xs, o = .lst xs) ∧ Rel K W env' σ F' H
  | [], env, env', F, r, h => by cases h; exact ⟨F, Same.refl F, fun b o h => .inl h, r⟩
  | i :: is, env, env', F, r, h => by
    unfold frzAll freeze at h
    cases e : look env i with
    | ow ds =>
      rw [e] at h
      obtain ⟨F1, s1, n1, r1⟩ := r.fzo2 (look_some e (fun z => nomatch z))
      obtain ⟨F2, s2, n2, r2⟩ := Rel.fzAll r1 h
      exact ⟨F2, s1.trans s2, fun b o h => (n2 b o h).elim (fun z => n1 b o z) .inr, r2⟩
    | _ => rw [e] at h; cases h
def dBor (is : List Nat) (a : DE) : DE := fun env k => match frzAll env is with
  | some env' => a env' fun d => (match noList d with
    | true => k d
    | false => false)
  | none => false
def dBorT (is : List Nat) (a : DT) : DT := fun env k => match frzAll env is with
  | some env' => a env' k
  | none => false
/-- what stays frozen: what was, and new tuples -/
def onlyT (F F' : Hp) : Hp := fun b => match F b with
  | some o => some o
  | none => match F' b with
    | some (.tup xs) => some (.tup xs)
    | _ => none
theorem onlyT_tup {F F' : Hp} (e : Same F F') {a : Addr} {xs : List V} (h : F' a = some (.tup xs)) : onlyT F F' a = some (.tup xs) := by
  unfold onlyT
  cases q : F a with
  | some o => rw [e a o q] at h; cases h; rfl
  | none => simp only [h]
mutual
theorem rp_onlyT {K : PySem.W.Frag} {F F' : Hp} (e : Same F F') : ∀ {v : V} {d : PyData}, Rp K F' v d → noList d = true → Rp K (onlyT F F') v d
  | _, _, .non, _ => .non
  | _, _, .bl b, _ => .bl b
  | _, _, .int i, _ => .int i
  | _, _, .str x, _ => .str x
  | _, _, .lst h a, n => by simp [noList] at n
  | _, _, .tup h a, n => .tup (onlyT_tup e h) (rps_onlyT e a (by simpa [noList] using n))
  | _, _, .ktup h a, n => .ktup h (rps_onlyT e a (by simpa [noList] using n))
theorem rps_onlyT {K : PySem.W.Frag} {F F' : Hp} (e : Same F F') : ∀ {vs : List V} {ds : List PyData}, RpAll K F' vs ds → noLists ds = true → RpAll K (onlyT F F') vs ds
  | _, _, .nil, _ => .nil
  | _, _, @RpAll.cons _ _ v vs d ds h a, n => by
    have n2 : (noList d && noLists ds) = true := n
    obtain ⟨n3, n4⟩ := Bool.and_eq_true_iff.mp n2
    exact .cons (rp_onlyT e h n3) (rps_onlyT e a n4)
end
theorem stp_onlyT {pp : Addr} {F F1 H F' H' : Hp} (B : Bs pp F H) (e : Same F F1) (n : ∀ b o, F1 b = some o → F b = some o ∨ ∃ xs, o = .lst xs) (s : Stp pp F1 H F' H') : Stp pp F H (onlyT F F') H' := by
  refine ⟨fun b o h => ?_, fun b o h => ?_, s.fr, fun b o h => ?_, s.po⟩
  · unfold onlyT; rw [h]
  · unfold onlyT at h
    cases q : F b with
    | some u =>
      rw [q] at h
      cases h
      exact s.fr b _ (fun z => by subst z; rw [B.fp] at q; cases q) (B.fh b _ q)
    | none =>
      rw [q] at h
      cases q2 : F' b with
      | none => rw [q2] at h; cases h
      | some u =>
        rw [q2] at h
        cases u with
        | tup xs => cases h; exact s.fh b _ q2
        | _ => cases h
  · unfold onlyT at h
    cases q : F b with
    | some u => rw [q] at h; exact .inl h
    | none =>
      rw [q] at h
      cases q2 : F' b with
      | none => rw [q2] at h; cases h
      | some u =>
        rw [q2] at h
        cases u with
        | tup xs =>
          rcases s.nf b _ q2 with z | z
          · rcases n b _ z with z | ⟨ys, z⟩
            · rw [q] at z; cases z
            · cases z
          · exact .inr z
        | _ => cases h
section
variable {K : PySem.W.Frag} {W : Wd} {X : Cx} {e : Expr} {de : DE} {dt : DT}
theorem se_bor (is : List Nat) (h : SE W X e de) : SE W X e (dBor is de) := by
  obtain ⟨t, p, o⟩ := h
  refine ⟨t, p, fun env σ F H k Q R h q => ?_⟩
  unfold dBor at h
  cases e : frzAll env is with
  | none => rw [e] at h; cases h
  | some env' =>
    rw [e] at h
    obtain ⟨F1, s1, n1, R1⟩ := R.fzAll e
    refine o env' σ F1 H _ _ R1 h fun d v F' H' s r hk => ?_
    cases e2 : noList d with
    | false => simp only [e2] at hk; cases hk
    | true =>
      simp only [e2] at hk
      exact q d v _ H' (stp_onlyT R.bs s1 n1 s) (rp_onlyT (s1.trans s.ff) r e2) hk
theorem st_bor (is : List Nat) (h : ST W X e dt) : ST W X e (dBorT is dt) := by
  obtain ⟨t, p, o⟩ := h
  refine ⟨t, p, fun env σ F H k Q R h q => ?_⟩
  unfold dBorT at h
  cases e : frzAll env is with
  | none => rw [e] at h; cases h
  | some env' =>
    rw [e] at h
    obtain ⟨F1, s1, n1, R1⟩ := R.fzAll e
    exact o env' σ F1 H _ _ R1 h fun b F' H' s hk => q b _ H' (stp_onlyT R.bs s1 n1 s) hk
end

/-! ### lists of one's own changed -/
theorem small_lt {n : Nat} (h : small n = true) : n < sizeLine := Nat.lt_of_le_of_lt (Nat.le_of_ble_eq_true h) (by decide)
def sApp (i : Nat) (a : DE) : DS := fun B env => match look env i with
  | .ow ds => a env fun d => (match small ds.length with
    | true => B.nx (env.set i (.ow (ds ++ [d])))
    | false => false)
  | _ => false
def sExt (i : Nat) (a : DE) : DS := fun B env => match look env i with
  | .ow ds => a env fun d => (match d with
    | .list es => (match small (ds.length + es.length) with
      | true => B.nx (env.set i (.ow (ds ++ es)))
      | false => false)
    | _ => false)
  | _ => false
def sSetIx (i : Nat) (ix a : DE) : DS := fun B env => a env fun d => match look env i with
  | .ow ds => ix env fun j => (match j with
    | .int z => (match ixN ds.length z with
      | some n => B.nx (env.set i (.ow (ds.set n d)))
      | none => false)
    | _ => false)
  | _ => false
def sPop (i : Nat) : DS := fun B env => match look env i with
  | .ow (d :: ds) => B.nx (env.set i (.ow (d :: ds).dropLast))
  | _ => false
def sPopTo (j i : Nat) : DS := fun B env => match look env i with
  | .ow ds => (match ds[ds.length - 1]? with
    | some d => B.nx ((env.set i (.ow ds.dropLast)).set j (.fz d))
    | none => false)
  | _ => false
section
variable {K : PySem.W.Frag} {W : Wd} {X : Cx} {e eix : Expr} {de dx : DE} {pos p1 p2 p3 : Pos} {i j : Nat} {x y : Str}
theorem Rel.ow {env : Sls} {σ : L2.St} {F H : Hp} (r : Rel K W env σ F H) {ds : List PyData} (e : look env i = .ow ds) : ∃ p xs, σ[i]? = some (some (.ref p)) ∧ H p = some (.lst xs) ∧ F p = none ∧ p ≠ W.pp ∧ W.H0 p = none ∧ RpAll K F xs ds := r.sl i _ (look_some e (fun z => nomatch z))
theorem ss_app (h : SE W X e de) (hN : X.N[i]? = some x := by rfl) (hv : Vis X.env.scope x := by first | exact Or.inl rfl | exact Or.inr (Or.inl rfl) | exact Or.inr (Or.inr rfl)) (hd : (x == ("__debug__" : Str)) = false := by decide) (hcd : (x == ("__classdict__" : Str)) = false := by decide)
    (hsw : swapsWith (.Call (.Attribute (.Name x p1) "append" p2) [e] [] p3) none pos.line X.env = pure false := by rfl) (hbase : attributeBase (.Name x p1) "append" X.env (eval (.Name x p1) X.env) = eval (.Name x p1) X.env := by rfl)
    (hfew : ((backTo p3 (starEach [e] X.env)).all (fun x => !x.1) && (backToKw p3 (keywordEach [] X.env)).all (fun x => x.1.isSome) && decide (([e] : List Expr).length + ([] : List Keyword).length + (if ([] : List Keyword).isEmpty then 0 else 1) < 30)) = true := by rfl)
    (hline : (p2.endLine == p3.line) = true := by rfl) (hs : starEach [e] X.env = (false, eval e X.env) :: starEach [] X.env := by rfl) (hplain : (backTo p3 (starEach [] X.env)).any (·.1) = false := by rfl) :
    SS W X (.Expr (.Call (.Attribute (.Name x p1) "append" p2) [e] [] p3) pos) (sApp i de) := by
  obtain ⟨t, p, o⟩ := h
  refine ⟨_, ps_expr (pe_bm PySem.F.plainAttrs_list PySem.F.slot_list_append PySem.F.type_list_append mt_append (pe_var hN hv hd hcd) (pa_cons p pa_nil hs) hbase hfew hline hs hplain) hsw, fun env σ F H B D R h q => ?_⟩
  unfold sApp at h
  cases e : look env i with
  | ow ds =>
    rw [e] at h
    obtain ⟨pa, xs, g1, g2, g3, g4, g5, g6⟩ := R.ow e
    refine ⟨.ref pa, g1, .inl ⟨rfl, _, .inl (.inl g2)⟩, o env σ F H _ _ R h fun d v F1 H1 s1 r1 h1 => ?_⟩
    cases e2 : small ds.length with
    | false => simp only [e2] at h1; cases h1
    | true =>
      simp only [e2] at h1
      have R1 := R.step s1
      have g6' := g6.mono s1.ff
      refine ⟨pa, xs, v, rfl, rfl, s1.fr _ _ g4 g2, by rw [g6.length]; exact small_lt e2, ?_⟩
      exact q.nx _ _ F1 _ s1.ff (R1.wr (look_some e (fun z => nomatch z)) g1 (g6'.append (.cons r1 .nil))) h1
  | _ => rw [e] at h; cases h
theorem ss_ext (h : SE W X e de) (hN : X.N[i]? = some x := by rfl) (hv : Vis X.env.scope x := by first | exact Or.inl rfl | exact Or.inr (Or.inl rfl) | exact Or.inr (Or.inr rfl)) (hd : (x == ("__debug__" : Str)) = false := by decide) (hcd : (x == ("__classdict__" : Str)) = false := by decide)
    (hsw : swapsWith (.Call (.Attribute (.Name x p1) "extend" p2) [e] [] p3) none pos.line X.env = pure false := by rfl) (hbase : attributeBase (.Name x p1) "extend" X.env (eval (.Name x p1) X.env) = eval (.Name x p1) X.env := by rfl)
    (hfew : ((backTo p3 (starEach [e] X.env)).all (fun x => !x.1) && (backToKw p3 (keywordEach [] X.env)).all (fun x => x.1.isSome) && decide (([e] : List Expr).length + ([] : List Keyword).length + (if ([] : List Keyword).isEmpty then 0 else 1) < 30)) = true := by rfl)
    (hline : (p2.endLine == p3.line) = true := by rfl) (hs : starEach [e] X.env = (false, eval e X.env) :: starEach [] X.env := by rfl) (hplain : (backTo p3 (starEach [] X.env)).any (·.1) = false := by rfl) :
    SS W X (.Expr (.Call (.Attribute (.Name x p1) "extend" p2) [e] [] p3) pos) (sExt i de) := by
  obtain ⟨t, p, o⟩ := h
  refine ⟨_, ps_expr (pe_bm PySem.F.plainAttrs_list PySem.F.slot_list_extend PySem.F.type_list_extend mt_extend (pe_var hN hv hd hcd) (pa_cons p pa_nil hs) hbase hfew hline hs hplain) hsw, fun env σ F H B D R h q => ?_⟩
  unfold sExt at h
  cases e : look env i with
  | ow ds =>
    rw [e] at h
    obtain ⟨pa, xs, g1, g2, g3, g4, g5, g6⟩ := R.ow e
    refine ⟨.ref pa, g1, .inl ⟨rfl, _, .inl (.inl g2)⟩, o env σ F H _ _ R h fun d v F1 H1 s1 r1 h1 => ?_⟩
    have R1 := R.step s1
    have g6' := g6.mono s1.ff
    cases d with
    | list es =>
      cases r1 with
      | @lst pb wl _ hb rb =>
        cases e2 : small (ds.length + es.length) with
        | false => simp only [e2] at h1; cases h1
        | true =>
          simp only [e2] at h1
          refine ⟨pa, pb, xs, wl, rfl, rfl, s1.fr _ _ g4 g2, R1.bs.keep hb, by rw [g6.length, rb.length]; exact small_ok e2, ?_⟩
          exact q.nx _ _ F1 _ s1.ff (R1.wr (look_some e (fun z => nomatch z)) g1 (g6'.append rb)) h1
    | _ => cases h1
  | _ => rw [e] at h; cases h
theorem ss_setix (h : SE W X e de) (hx : SE W X eix dx) (hN : X.N[i]? = some x := by rfl) (hv : Vis X.env.scope x := by first | exact Or.inl rfl | exact Or.inr (Or.inl rfl) | exact Or.inr (Or.inr rfl)) (hd : (x == ("__debug__" : Str)) = false := by decide) (hcd : (x == ("__classdict__" : Str)) = false := by decide)
    (ha : ∀ v, assign (.Subscript (.Name x p1) eix p2) X.env v = (do
      let ov ← holding [v] (eval (.Name x p1) X.env)
      let iv ← holding [v, ov] (eval eix X.env)
      standAt p2
      holding [v, ov, iv] (setItem ov iv v)
      release [v, ov, iv] []) := by intro _; rfl)
    (hs : swapsWithSole [.Subscript (.Name x p1) eix p2] e pos.line X.env = pure false := by rfl) (hw : swappedStores [.Subscript (.Name x p1) eix p2] e X.env = pure none := by rfl)
    (h1 : (assignEach [.Subscript (.Name x p1) eix p2] X.env).map (·.2) = [assign (.Subscript (.Name x p1) eix p2) X.env] := by rfl) :
    SS W X (.Assign [.Subscript (.Name x p1) eix p2] e pos) (sSetIx i dx de) := by
  obtain ⟨t, p, o⟩ := h
  obtain ⟨t2, px, o2⟩ := hx
  refine ⟨_, ps_asg p (pg_sub (pe_var hN hv hd hcd) px set_list ha) hs hw h1, fun env σ F H B D R h q => o env σ F H _ _ R h fun d v F1 H1 s1 r1 h1 => ?_⟩
  have R1 := R.step s1
  cases e : look env i with
  | ow ds =>
    simp only [e] at h1
    obtain ⟨pa, xs, g1, g2, g3, g4, g5, g6⟩ := R1.ow e
    refine ⟨.ref pa, g1, o2 env σ F1 H1 _ _ R1 h1 fun d2 v2 F2 H2 s2 r2 h2 => ?_⟩
    have R2 := R1.step s2
    cases d2 with
    | int z =>
      cases r2
      cases e2 : ixN ds.length z with
      | none => simp only [e2] at h2; cases h2
      | some n =>
        simp only [e2] at h2
        refine ⟨pa, xs, z, n, rfl, rfl, s2.fr _ _ g4 g2, by rw [g6.length]; exact e2, ?_⟩
        exact q.nx _ _ F2 _ (s1.ff.trans s2.ff) (R2.wr (look_some e (fun z => nomatch z)) g1 ((g6.mono s2.ff).set (r1.mono s2.ff) n)) h2
    | _ => cases h2
  | _ => simp only [e] at h1; cases h1
theorem last_of {α : Type} (xs : List α) : xs[xs.length - 1]? = xs.getLast? := by rw [List.getLast?_eq_getElem?]
theorem ss_pop (hN : X.N[i]? = some x := by rfl) (hv : Vis X.env.scope x := by first | exact Or.inl rfl | exact Or.inr (Or.inl rfl) | exact Or.inr (Or.inr rfl)) (hd : (x == ("__debug__" : Str)) = false := by decide) (hcd : (x == ("__classdict__" : Str)) = false := by decide)
    (hsw : swapsWith (.Call (.Attribute (.Name x p1) "pop" p2) [] [] p3) none pos.line X.env = pure false := by rfl) (hbase : attributeBase (.Name x p1) "pop" X.env (eval (.Name x p1) X.env) = eval (.Name x p1) X.env := by rfl)
    (hline : (p2.endLine == p3.line) = true := by rfl) :
    SS W X (.Expr (.Call (.Attribute (.Name x p1) "pop" p2) [] [] p3) pos) (sPop i) := by
  refine ⟨_, ps_expr (pe_bm0 PySem.F.plainAttrs_list PySem.F.slot_list_pop PySem.F.type_list_pop mt_pop (pe_var hN hv hd hcd) hbase hline) hsw, fun env σ F H B D R h q => ?_⟩
  unfold sPop at h
  cases e : look env i with
  | ow ds =>
    rw [e] at h
    obtain ⟨pa, xs, g1, g2, g3, g4, g5, g6⟩ := R.ow e
    cases ds with
    | nil => cases h
    | cons d ds =>
      have hl : (d :: ds)[(d :: ds).length - 1]? = some ((d :: ds).getLast (List.cons_ne_nil _ _)) := by rw [last_of, List.getLast?_eq_getLast (List.cons_ne_nil d ds)]
      obtain ⟨v, h1, _⟩ := g6.at hl
      refine ⟨.ref pa, g1, .inl ⟨rfl, _, .inl (.inl g2)⟩, pa, xs, v, rfl, rfl, g2, by rw [g6.length]; exact h1, ?_⟩
      exact q.nx _ _ F _ (Same.refl F) (R.wr (look_some e (fun z => nomatch z)) g1 g6.dropLast) h
  | _ => rw [e] at h; cases h
theorem ss_popTo {p4 : Pos} {y : Str} (hNd : X.N.Nodup) (hN : X.N[i]? = some x := by rfl) (hv : Vis X.env.scope x := by first | exact Or.inl rfl | exact Or.inr (Or.inl rfl) | exact Or.inr (Or.inr rfl)) (hd : (x == ("__debug__" : Str)) = false := by decide) (hcd : (x == ("__classdict__" : Str)) = false := by decide)
    (hj : X.N[j]? = some y := by rfl) (hy : Loc X.env.scope y := by first | exact Or.inl rfl | exact Or.inr rfl) (hf : X.fn y = true ∨ X.env.scope.names.lookup y = some .local := by first | exact .inl rfl | exact .inr rfl)
    (hsw : swapsWith (.Call (.Attribute (.Name x p1) "pop" p2) [] [] p3) (some (.Name y p4)) pos.line X.env = pure false := by rfl) (hbase : attributeBase (.Name x p1) "pop" X.env (eval (.Name x p1) X.env) = eval (.Name x p1) X.env := by rfl)
    (hline : (p2.endLine == p3.line) = true := by rfl) :
    SS W X (.Assign [.Name y p4] (.Call (.Attribute (.Name x p1) "pop" p2) [] [] p3) pos) (sPopTo j i) := by
  refine ⟨_, ps_set hNd hj hy (pe_bm0 PySem.F.plainAttrs_list PySem.F.slot_list_pop PySem.F.type_list_pop mt_pop (pe_var hN hv hd hcd) hbase hline) hsw hf, fun env σ F H B D R h q => ?_⟩
  unfold sPopTo at h
  cases e : look env i with
  | ow ds =>
    rw [e] at h
    obtain ⟨pa, xs, g1, g2, g3, g4, g5, g6⟩ := R.ow e
    cases e2 : ds[ds.length - 1]? with
    | none => simp only [e2] at h; cases h
    | some d =>
      simp only [e2] at h
      obtain ⟨v, h1, h2⟩ := g6.at e2
      refine ⟨.ref pa, g1, .inl ⟨rfl, _, .inl (.inl g2)⟩, pa, xs, v, rfl, rfl, g2, by rw [g6.length]; exact h1, ?_⟩
      exact q.nx _ _ F _ (Same.refl F) ((R.wr (look_some e (fun z => nomatch z)) g1 g6.dropLast).set h2 j) h
  | _ => rw [e] at h; cases h
end
end Dl

namespace Dl
open PySem PySem.Spec PyProof.Rows L2

/-! ### xs[:e:-1] -/
def idxTo (n : Nat) (hi : Option Int) : List Nat := sliceRange (sliceBounds none hi (some (-1)) n).1 (sliceBounds none hi (some (-1)) n).2.1 (sliceBounds none hi (some (-1)) n).2.2
def pickTo {α : Type} (xs : List α) (hi : Option Int) : List α := (idxTo xs.length hi).filterMap fun i => xs[i]?
theorem vals_pick {xs : List V} {us : List Value} (r : Vals xs us) : ∀ l : List Nat, Vals (l.filterMap fun i => xs[i]?) (l.filterMap fun i => us[i]?)
  | [] => .nil
  | i :: l => by
    rw [List.filterMap_cons, List.filterMap_cons]
    cases e : xs[i]? with
    | none =>
      rw [r.none_of e]
      exact vals_pick r l
    | some x =>
      obtain ⟨u, h1, h2⟩ := r.get e
      rw [h1]
      exact .cons h2 (vals_pick r l)
theorem rp_pick {K : PySem.W.Frag} {F : Hp} {xs : List V} {ds : List PyData} (r : RpAll K F xs ds) : ∀ l : List Nat, RpAll K F (l.filterMap fun i => xs[i]?) (l.filterMap fun i => ds[i]?)
  | [] => .nil
  | i :: l => by
    rw [List.filterMap_cons, List.filterMap_cons]
    cases e : xs[i]? with
    | none =>
      have e2 : ds[i]? = none := by
        have := List.getElem?_eq_none_iff.mp e
        rw [r.length] at this
        exact List.getElem?_eq_none_iff.mpr this
      rw [e2]
      exact rp_pick r l
    | some x =>
      obtain ⟨u, h1, h2⟩ := r.at' e
      rw [h1]
      exact .cons h2 (rp_pick r l)
theorem idxTo_len (n : Nat) (hi : Option Int) : (idxTo n hi).length ≤ n := by
  unfold idxTo
  refine sliceRange_length_le _ _ _ n (fun h => ?_) (fun _ => ?_)
  · exfalso
    simp [sliceBounds] at h
  · simp only [sliceBounds, Option.getD_some]
    constructor
    · simp
    · cases hi with
      | none => simp
      | some i => simp; split <;> omega
theorem pick_len {α : Type} (xs : List α) (hi : Option Int) : (pickTo xs hi).length ≤ xs.length := Nat.le_trans (List.length_filterMap_le _ _) (idxTo_len _ _)
section
variable {X : Cx} {W : Wd}
def tRevTo (K : PySem.W.Frag) (te : TE) (to : TO) : TE := fun σ H Q => te σ H fun x H1 => to σ H1 fun o H2 => ∃ a xs, x = .ref a ∧ SqL K H2 a xs ∧ ∀ p, H2 p = none → Q (.ref p) (upd H2 p (.lst (pickTo xs o)))
theorem pe_revTo {e : Expr} {hi : Option Expr} {te : TE} {to : TO} {k : Nat} {p1 p2 p3 pos : Pos} (he : PE X e te) (ho : PO X hi to) : PE X (.Subscript e (.Slice none hi (some (.UnaryOp .USub (.Constant (.int 1) k p1) p2)) p3) pos) (tRevTo X.K te to) := by
  refine ⟨fun pins s σ H Q I h => ?_⟩
  refine Subscript_ (thn (he.run pins s σ H _ I h) fun v s1 ⟨x, H1, I1, r1, q1⟩ => ?_)
  have hst : PO X (some (.UnaryOp .USub (.Constant (.int 1) k p1) p2)) (tPart (tUn (rU fun i => .int (-i)) (tC (.int 1)))) := po_some (pe_un un_neg pe_int)
  refine wpAny_Slice (thn (po_none.run pins s1 σ H1 (fun o H2 => o = none ∧ H2 = H1) I1 ⟨rfl, rfl⟩) fun vl s2 ⟨l, H2, I2, pl, el, e2⟩ => ?_)
  subst el e2
  refine thn (ho.run pins s2 σ H2 _ I2 q1) fun vu s3 ⟨u, H3, I3, pu, a, xs, ex, hx, q⟩ => ?_
  subst ex
  cases r1
  refine thn (hst.run pins s3 σ H3 (fun o H4 => o = some (-1) ∧ H4 = H3) I3 ⟨1, rfl, -1, rfl, rfl, rfl⟩) fun vs s4 ⟨o, H4, I4, ps, eo, e4⟩ => ?_
  subst eo e4
  have I5 : Inv X pins σ H4 { s4 with heap := s4.heap.push { cls := .type "slice", data := .fields #[vl, vu, vs] } } := I4.kept (t' := s4.toks) fun b ob q => Heap.get?_push_of_some _ q
  obtain ⟨its, r, ht, hz⟩ := I5.list hx
  have hlen := r.length
  show wpAny (model X.prog X.w) X.A (subscriptTail e (.Slice none hi (some (.UnaryOp .USub (.Constant (.int 1) k p1) p2)) p3) (.ref a) (.ref s4.heap.objs.size)) (EP X pins σ Q) X.xe { s4 with heap := s4.heap.push { cls := .type "slice", data := .fields #[vl, vu, vs] } }
  refine tail_any (ops := [.ref a, .ref s4.heap.objs.size]) ht.isList.typeIs (PySem.slot_list_getitem.lookup) ?_ (by with_unfolding_all rfl)
  refine wpAny_getItem_list_slice ht.isList (Heap.IsSliceOf.new _ vl vu vs) pl pu ps (by decide) ?_ (by rw [List.size_toArray]; omega)
  have ep : slicePick its.toArray none u (some (-1)) = (pickTo its u).toArray := by
    unfold slicePick pickTo idxTo
    rw [List.size_toArray]
    congr 1
    try (congr 1; funext i; simp)
  rw [ep]
  refine ⟨.ref _, _, I5.laid (t' := s4.toks) (o := .lst (pickTo xs u)) (fun b ob q => Heap.get?_push_of_some _ q) (Nat.le_refl _) ?_, rfl, q _ (I5.hok.fresh (Nat.le_refl _))⟩
  exact ⟨Nat.le_trans (pick_len xs u) hz, _, 0, by unfold pickTo; rw [hlen]; exact vals_pick r _, Heap.get?_push_size _ rfl⟩
def dRevTo (a b : DE) : DE := fun env k => a env fun x => b env fun y => match x, y with
  | .list xs, .int i => k (.list (pickTo xs (some i)))
  | _, _ => false
theorem se_revTo {ea eb : Expr} {da db : DE} {k : Nat} {p1 p2 p3 pos : Pos} (a : SE W X ea da) (b : SE W X eb db) : SE W X (.Subscript ea (.Slice none (some eb) (some (.UnaryOp .USub (.Constant (.int 1) k p1) p2)) p3) pos) (dRevTo da db) := by
  obtain ⟨t1, p1, o1⟩ := a
  obtain ⟨t2, p2, o2⟩ := b
  refine ⟨_, pe_revTo p1 (po_some p2), fun env σ F H k Q R h q => o1 env σ F H _ _ R h fun d v F1 H1 s1 r1 h1 => o2 env σ F1 H1 _ _ (R.step s1) h1 fun d2 v2 F2 H2 s2 r2 h2 => ?_⟩
  have B := ((R.step s1).step s2).bs
  have r1 := r1.mono s2.ff
  cases d with
  | list xs =>
    cases d2 with
    | int i =>
      cases r2
      cases r1 with
      | @lst pa vl _ ha ra =>
        refine ⟨i, rfl, pa, vl, rfl, .inl (.inl (B.keep ha)), fun p np => ?_⟩
        have st := Stp.new (o := .lst (pickTo vl (some i))) B np
        refine q _ _ _ _ ((s1.trans s2).trans st) (.lst upd_same ?_) h2
        have rp : RpAll X.K F2 (pickTo vl (some i)) (pickTo xs (some i)) := by
          unfold pickTo
          rw [ra.length]
          exact rp_pick ra _
        exact rp.mono st.ff
    | _ => cases h2
  | _ => cases h2
end
/-! ### draws: any number below -/
def allB : Nat → (Nat → Bool) → Bool
  | 0, _ => true
  | n + 1, f => match f n with
    | true => allB n f
    | false => false
def mDraw : Fn := fun ds k => match ds with
  | [.dict (_ :: _), .int (.ofNat (n + 1))] => (match Nat.ble n 1000000000 with
    | true => allB (n + 1) fun c => k (.int (Int.ofNat c))
    | false => false)
  | _ => false
def isT : KF := fun d => match d with
  | .bool true => true
  | _ => false
/-! ### three names at once -/
def sPar3 (i j l : Nat) (a : DA) : DS := fun B env => a env fun ds => match ds with
  | [d, e, f] => B.nx (((env.set i (.fz d)).set j (.fz e)).set l (.fz f))
  | _ => false
section
variable {W : Wd} {X : Cx}
theorem ss_par3 {i j l : Nat} {x y z : Str} {ea eb ec : Expr} {da : DA} {px py pz pt pos : Pos} {kt k2 : Nat} {pt2 : Pos} (hc : X.calm = true) (hN : X.N.Nodup) (ha : SA W X [ea, eb, ec] da) (hi : X.N[i]? = some x := by rfl) (hj : X.N[j]? = some y := by rfl) (hl : X.N[l]? = some z := by rfl)
    (hij : i ≠ j := by decide) (hil : i ≠ l := by decide) (hjl : j ≠ l := by decide) (hx : X.env.scope.names.lookup x = some .local := by rfl) (hy : X.env.scope.names.lookup y = some .local := by rfl) (hz : X.env.scope.names.lookup z = some .local := by rfl)
    (hw : swappedStores [.Tuple [.Name x px, .Name y py, .Name z pz] kt pt] (.Tuple [ea, eb, ec] k2 pt2) X.env = pure (some [x, y, z]) := by rfl)
    (hs : swapsWithSole [.Tuple [.Name x px, .Name y py, .Name z pz] kt pt] (.Tuple [ea, eb, ec] k2 pt2) pos.line X.env = pure false := by rfl) :
    SS W X (.Assign [.Tuple [.Name x px, .Name y py, .Name z pz] kt pt] (.Tuple [ea, eb, ec] k2 pt2) pos) (sPar3 i j l da) := by
  obtain ⟨t, p, o⟩ := ha
  refine ⟨_, ps_par3 hc hN hi hj hl hij hil hjl hx hy hz p hw hs, fun env σ F H B D R h q => o env σ F H _ _ R h fun ds vs F1 H1 s1 r1 h1 => ?_⟩
  cases r1 with
  | nil => cases h1
  | @cons v1 vs d1 ds r1 rr =>
    cases rr with
    | nil => cases h1
    | @cons v2 vs d2 ds r2 rr =>
      cases rr with
      | nil => cases h1
      | @cons v3 vs d3 ds r3 rr =>
        cases rr with
        | cons _ _ => cases h1
        | nil => exact ⟨v1, v2, v3, rfl, q.nx _ _ F1 H1 s1.ff ((((R.step s1).set r1 i).set r2 j).set r3 l) h1⟩
end
end Dl

namespace Dl
open PySem PySem.Spec PyProof.Rows L2
/-! ### fractions worked out at once -/
def logOk (n : Nat) : Bool := Nat.ble (Nat.log2 n) 8999
def mkP (t : Int) (m : Nat) (k : KF) : Bool := match logOk m with
  | true => frN (Nat.gcd t.natAbs m) fun g => fI (t / Int.ofNat g) fun a => frN (m / g) fun c => k (.tuple [.int a, .int (.ofNat c)])
  | false => false
def mkFr (t b : Int) (k : KF) : Bool := match b with
  | .ofNat 0 => false
  | .ofNat (n + 1) => mkP t (n + 1) k
  | .negSucc n => fI (0 - t) fun t => mkP t (n + 1) k
def qDivisor : Fn := fun ds k => match ds with
  | [.int (.ofNat a), .int (.ofNat b)] => (match logOk b with
    | true => frN (Nat.gcd a b) fun g => k (.int (.ofNat g))
    | false => false)
  | _ => false
def qReduced : Fn := fun ds k => match ds with
  | [.int t, .int b] => mkFr t b k
  | _ => false
def qFr2 (f : Int → Int → Int → Int → KF → Bool) : Fn := fun ds k => match ds with
  | [.tuple [.int a, .int b], .tuple [.int c, .int d]] => f a b c d k
  | _ => false
/-- a * b, worked out -/
def mI (a b : Int) (k : Int → Bool) : Bool := match mulOk a b with
  | true => fI (a * b) k
  | false => false
def qAddR (red : Fn) : Fn := qFr2 fun a b c d k => mI a d fun x => mI c b fun y => mI b d fun z => fI (x + y) fun t => red [.int t, .int z] k
def qTakeR (red : Fn) : Fn := qFr2 fun a b c d k => mI a d fun x => mI c b fun y => mI b d fun z => fI (x - y) fun t => red [.int t, .int z] k
def qMulR (red : Fn) : Fn := qFr2 fun a b c d k => mI a c fun x => mI b d fun z => red [.int x, .int z] k
def qDivR (red : Fn) : Fn := qFr2 fun a b c d k => mI a d fun x => mI b c fun z => red [.int x, .int z] k
def qBelow : Fn := qFr2 fun a b c d k => mI a d fun x => mI c b fun y => k (.bool (decide (x < y)))
theorem mI_eq {a b : Int} {k : Int → Bool} (h : mI a b k = true) : mulOk a b = true ∧ k (a * b) = true := by
  unfold mI at h
  cases e : mulOk a b with
  | false => rw [e] at h; cases h
  | true =>
    rw [e] at h
    exact ⟨rfl, (fI_eq _ _).symm.trans h⟩
theorem mkP_eq {t : Int} {m : Nat} {k : KF} (h : mkP t m k = true) : logOk m = true ∧ k (.tuple [.int (t / Int.ofNat (Nat.gcd t.natAbs m)), .int (Int.ofNat (m / Nat.gcd t.natAbs m))]) = true := by
  unfold mkP at h
  cases e : logOk m with
  | false => rw [e] at h; cases h
  | true =>
    rw [e] at h
    refine ⟨rfl, ?_⟩
    have h : frN (Nat.gcd t.natAbs m) (fun g => fI (t / Int.ofNat g) fun a => frN (m / g) fun c => k (.tuple [.int a, .int (.ofNat c)])) = true := h
    rw [frN_eq, fI_eq, frN_eq] at h
    exact h
theorem mkFr_eq {t b : Int} {k : KF} (h : mkFr t b k = true) : ∃ (s : Int) (n : Nat), mkP s (n + 1) k = true ∧ ((b = Int.ofNat (n + 1) ∧ s = t) ∨ (b = Int.negSucc n ∧ s = 0 - t)) := by
  unfold mkFr at h
  split at h
  · cases h
  · exact ⟨t, _, h, .inl ⟨rfl, rfl⟩⟩
  · rename_i n
    rw [fI_eq] at h
    exact ⟨0 - t, n, h, .inr ⟨rfl, rfl⟩⟩
theorem allB_all {n : Nat} {f : Nat → Bool} (h : allB n f = true) : ∀ c, c < n → f c = true := by
  induction n with
  | zero => intro c hc; exact absurd hc (Nat.not_lt_zero c)
  | succ n ih =>
    intro c hc
    unfold allB at h
    cases e : f n with
    | false => rw [e] at h; cases h
    | true =>
      rw [e] at h
      by_cases hn : c = n
      · rw [hn]; exact e
      · exact ih h c (by omega)
theorem allB_of {n : Nat} {f : Nat → Bool} (h : ∀ c, c < n → f c = true) : allB n f = true := by
  induction n with
  | zero => rfl
  | succ n ih =>
    unfold allB
    rw [h n (Nat.lt_succ_self n)]
    exact ih fun c hc => h c (by omega)
theorem qFr2_eq {f : Int → Int → Int → Int → KF → Bool} {ds : List PyData} {k : KF} (h : qFr2 f ds k = true) : ∃ a b c d, ds = [.tuple [.int a, .int b], .tuple [.int c, .int d]] ∧ f a b c d k = true := by
  unfold qFr2 at h
  split at h
  · exact ⟨_, _, _, _, rfl, h⟩
  · cases h
/-! ### the loop of the greatest common divisor -/
def gcdT : DT := dB (dOp gGt (dVar 1) (dC (.int 0)))
def gcdB : DS := sPar 0 1 (aCons (dVar 1) (aCons (dOp gMod (dCB gInt (aCons (dVar 0) aNil)) (dVar 1)) aNil))
theorem gcd_end (B : DEnds) (n a : Nat) (r : Sls) : goWh gcdT gcdB B (n + 1) (.fz (.int (Int.ofNat a)) :: .fz (.int (Int.ofNat 0)) :: r) = B.nx (.fz (.int (Int.ofNat a)) :: .fz (.int (Int.ofNat 0)) :: r) := rfl
theorem gcd_step (B : DEnds) (n a b : Nat) (r : Sls) (h : logOk (b + 1) = true) : goWh gcdT gcdB B (n + 1) (.fz (.int (Int.ofNat a)) :: .fz (.int (Int.ofNat (b + 1))) :: r) = goWh gcdT gcdB B n (.fz (.int (Int.ofNat (b + 1))) :: .fz (.int (Int.ofNat (a % (b + 1)))) :: r) := by
  have e : decide ((0 : Int) < Int.ofNat (b + 1)) = true := decide_eq_true (Int.ofNat_lt.mpr (Nat.succ_pos b))
  show (match decide ((0 : Int) < Int.ofNat (b + 1)) with
    | true => gcdB { nx := goWh gcdT gcdB B n, rt := B.rt, ct := goWh gcdT gcdB B n, bk := B.nx } _
    | false => B.nx _) = _
  rw [e]
  show (match divOk (Int.ofNat (b + 1)) with
    | true => fI (Int.ofNat a % Int.ofNat (b + 1)) fun z => goWh gcdT gcdB B n (.fz (.int (Int.ofNat (b + 1))) :: .fz (.int z) :: r)
    | false => false) = _
  rw [show divOk (Int.ofNat (b + 1)) = true from h]
  show fI _ _ = _
  rw [fI_eq]
  rfl
theorem log_mono {a b : Nat} (h : a ≤ b) (hb : logOk b = true) : logOk a = true := by
  have h1 : Nat.log2 b ≤ 8999 := Nat.le_of_ble_eq_true hb
  refine Nat.ble_eq_true_of_le (Nat.le_trans ?_ h1)
  by_cases ha : a = 0
  · subst ha; simp
  · have hb0 : b ≠ 0 := by omega
    exact (Nat.le_log2 hb0).mpr (Nat.le_trans (Nat.log2_self_le ha) h)
theorem gcd_loop (B : DEnds) (r : Sls) : ∀ (n fuel a b : Nat), b < 2 ^ n → 2 * n + 1 ≤ fuel → logOk b = true → goWh gcdT gcdB B fuel (.fz (.int (Int.ofNat a)) :: .fz (.int (Int.ofNat b)) :: r) = B.nx (.fz (.int (Int.ofNat (Nat.gcd a b))) :: .fz (.int (Int.ofNat 0)) :: r)
  | 0, fuel, a, b, hb, hf, hl => by
    have e : b = 0 := by simpa using hb
    subst e
    obtain ⟨m, rfl⟩ : ∃ m, fuel = m + 1 := ⟨fuel - 1, by omega⟩
    rw [gcd_end, Nat.gcd_zero_right]
  | n + 1, fuel, a, b, hb, hf, hl => by
    obtain ⟨m, rfl⟩ : ∃ m, fuel = m + 2 := ⟨fuel - 2, by omega⟩
    cases b with
    | zero => rw [gcd_end, Nat.gcd_zero_right]
    | succ b =>
      rw [gcd_step _ _ _ _ _ hl]
      have hr : a % (b + 1) < b + 1 := Nat.mod_lt _ (Nat.succ_pos b)
      have e1 : Nat.gcd a (b + 1) = Nat.gcd (b + 1) (a % (b + 1)) := by
        rw [Nat.gcd_comm a, Nat.gcd_rec, Nat.gcd_comm]
      rw [e1]
      generalize a % (b + 1) = c at hr
      cases c with
      | zero => rw [gcd_end, Nat.gcd_zero_right]
      | succ c =>
        rw [gcd_step _ _ _ _ _ (log_mono (by omega) hl)]
        have e2 : Nat.gcd (b + 1) (c + 1) = Nat.gcd (c + 1) ((b + 1) % (c + 1)) := by
          rw [Nat.gcd_comm (b + 1), Nat.gcd_rec, Nat.gcd_comm]
        rw [e2]
        have hh : (b + 1) % (c + 1) < 2 ^ n := by
          have h2 : (b + 1) % (c + 1) < c + 1 := Nat.mod_lt _ (Nat.succ_pos c)
          have h3 : (b + 1) % (c + 1) + (c + 1) ≤ b + 1 := by
            have h4 := Nat.div_add_mod (b + 1) (c + 1)
            have h5 : 1 ≤ (b + 1) / (c + 1) := (Nat.one_le_div_iff (Nat.succ_pos c)).mpr (by omega)
            have h6 : c + 1 ≤ (c + 1) * ((b + 1) / (c + 1)) := Nat.le_mul_of_pos_right _ h5
            omega
          have h7 : b + 1 < 2 * 2 ^ n := by rw [Nat.pow_succ] at hb; omega
          omega
        exact gcd_loop B r n m (c + 1) ((b + 1) % (c + 1)) hh (by omega) (log_mono (Nat.mod_le _ _) hl)
set_option exponentiation.threshold 1000000 in
theorem lt_of_log {b : Nat} (h : logOk b = true) : b < 2 ^ 9000 := by
  have h1 : Nat.log2 b ≤ 8999 := Nat.le_of_ble_eq_true h
  by_cases hb : b = 0
  · subst hb; exact Nat.two_pow_pos _
  · exact (Nat.log2_lt hb).mp (by omega)
theorem le_divisor (n : Nat) (ds : List PyData) (k : KF) (h : qDivisor ds k = true) : mOf n (sSeq (sWh 1000000 gcdT gcdB) (sRet (dVar 0))) ds k = true := by
  unfold qDivisor at h
  split at h
  · rename_i a b
    cases e : logOk b with
    | false => rw [e] at h; cases h
    | true =>
      rw [e] at h
      have h : frN (Nat.gcd a b) (fun g => k (.int (.ofNat g))) = true := h
      rw [frN_eq] at h
      show goWh gcdT gcdB _ 1000000 (.fz (.int (Int.ofNat a)) :: .fz (.int (Int.ofNat b)) :: _) = true
      rw [gcd_loop _ _ 9000 1000000 a b (lt_of_log e) (by decide) e]
      exact h
  · cases h
end Dl

namespace Dl
open PySem PySem.Spec PyProof.Rows L2
/-! ### the bodies of the fractions' defs -/
abbrev x00 : DE := dOp gIx (dVar 0) (dC (.int 0))
abbrev x01 : DE := dOp gIx (dVar 0) (dC (.int 1))
abbrev x10 : DE := dOp gIx (dVar 1) (dC (.int 0))
abbrev x11 : DE := dOp gIx (dVar 1) (dC (.int 1))
def bReduced (dv : Fn) : DS := (sSeq (sIf (dB (dOp gLt (dVar 1) (dC (.int 0)))) (sPar 0 1 (aCons (dOp gSub (dC (.int 0)) (dVar 0)) (aCons (dOp gSub (dC (.int 0)) (dVar 1)) aNil))) sNil)
  (sSeq (sAsg (dCallN 2 dv (aCons (dCB gAbs (aCons (dVar 0) aNil)) (aCons (dVar 1) aNil))) (gN 2))
  (sRet (dTup (aCons (dOp gFdiv (dVar 0) (dVar 2)) (aCons (dOp gFdiv (dVar 1) (dVar 2)) aNil))))))
def bAdd (red : Fn) : DS := sRet (dCallN 2 red (aCons (dOp gAdd (dOp gMul x00 x11) (dOp gMul x10 x01)) (aCons (dOp gMul x01 x11) aNil)))
def bTake (red : Fn) : DS := sRet (dCallN 2 red (aCons (dOp gSub (dOp gMul x00 x11) (dOp gMul x10 x01)) (aCons (dOp gMul x01 x11) aNil)))
def bMul (red : Fn) : DS := sRet (dCallN 2 red (aCons (dOp gMul x00 x10) (aCons (dOp gMul x01 x11) aNil)))
def bDiv (red : Fn) : DS := sRet (dCallN 2 red (aCons (dOp gMul x00 x11) (aCons (dOp gMul x01 x10) aNil)))
def bBelow : DS := sRet (dOp gLt (dOp gMul x00 x11) (dOp gMul x10 x01))
theorem abs_eq (t : Int) : (if t < 0 then -t else t) = Int.ofNat t.natAbs := by
  split
  · rw [Int.ofNat_eq_natCast]; omega
  · rw [Int.ofNat_eq_natCast]; omega
theorem divOk_of {g : Nat} (h : 0 < g) (l : logOk g = true) : divOk (Int.ofNat g) = true := by
  cases g with
  | zero => exact absurd h (Nat.lt_irrefl 0)
  | succ g => exact l
theorem gFdiv_of {i : Int} {g : Nat} (h : 0 < g) (l : logOk g = true) (k : KF) : gFdiv (.int i) (.int (Int.ofNat g)) k = k (.int (i / Int.ofNat g)) := by
  show (match divOk (Int.ofNat g) with
    | true => fI (i / Int.ofNat g) fun z => k (.int z)
    | false => false) = _
  rw [divOk_of h l]
  show fI _ _ = _
  rw [fI_eq]
theorem gMul_of {i j : Int} (h : mulOk i j = true) (k : KF) : gMul (.int i) (.int j) k = k (.int (i * j)) := by
  show (match mulOk i j with
    | true => fI (i * j) fun z => k (.int z)
    | false => false) = _
  rw [h]
  show fI _ _ = _
  rw [fI_eq]
theorem gAdd_of (i j : Int) (k : KF) : gAdd (.int i) (.int j) k = k (.int (i + j)) := fI_eq (i + j) fun z => k (.int z)
theorem gSub_of (i j : Int) (k : KF) : gSub (.int i) (.int j) k = k (.int (i - j)) := fI_eq (i - j) fun z => k (.int z)
theorem qDivisor_of (a b : Nat) (h : logOk b = true) (k : KF) : qDivisor [.int (Int.ofNat a), .int (Int.ofNat b)] k = k (.int (Int.ofNat (Nat.gcd a b))) := by
  show (match logOk b with
    | true => frN (Nat.gcd a b) fun g => k (.int (.ofNat g))
    | false => false) = _
  rw [h]
  show frN _ _ = _
  rw [frN_eq]
def redK (t b : Int) (k : KF) : Bool := qDivisor [.int (if t < 0 then -t else t), .int b] (fun d => gFdiv (.int t) d fun x => gFdiv (.int b) d fun y => k (.tuple [x, y]))
theorem red_tail {t : Int} {m : Nat} {k : KF} (hm : 0 < m) (h : mkP t m k = true) : qDivisor [.int (if t < 0 then -t else t), .int (Int.ofNat m)] (fun d => gFdiv (.int t) d fun x => gFdiv (.int (Int.ofNat m)) d fun y => k (.tuple [x, y])) = true := by
  obtain ⟨h1, h2⟩ := mkP_eq h
  have hg : 0 < Nat.gcd t.natAbs m := Nat.gcd_pos_of_pos_right _ hm
  have hl : logOk (Nat.gcd t.natAbs m) = true := log_mono (Nat.le_of_dvd hm (Nat.gcd_dvd_right _ _)) h1
  rw [abs_eq, qDivisor_of _ _ h1, gFdiv_of hg hl, gFdiv_of hg hl]
  exact h2
theorem le_reduced (ds : List PyData) (k : KF) (h : qReduced ds k = true) : mOf 3 (bReduced qDivisor) ds k = true := by
  unfold qReduced at h
  split at h
  · rename_i t b
    obtain ⟨s, n, h1, h2⟩ := mkFr_eq h
    rcases h2 with ⟨rfl, rfl⟩ | ⟨rfl, rfl⟩
    · have e : decide (Int.ofNat (n + 1) < (0 : Int)) = false := decide_eq_false (by rw [Int.ofNat_eq_natCast]; omega)
      show (match decide (Int.ofNat (n + 1) < (0 : Int)) with
        | true => fI (0 - s) fun z => fI (0 - Int.ofNat (n + 1)) fun y => redK z y k
        | false => redK s (Int.ofNat (n + 1)) k) = true
      rw [e]
      exact red_tail (Nat.succ_pos n) h1
    · have e : decide (Int.negSucc n < (0 : Int)) = true := decide_eq_true (Int.negSucc_lt_zero n)
      show (match decide (Int.negSucc n < (0 : Int)) with
        | true => fI (0 - t) fun z => fI (0 - Int.negSucc n) fun y => redK z y k
        | false => redK t (Int.negSucc n) k) = true
      rw [e]
      show fI (0 - t) (fun z => fI (0 - Int.negSucc n) fun y => redK z y k) = true
      rw [fI_eq, fI_eq]
      have e2 : (0 : Int) - Int.negSucc n = Int.ofNat (n + 1) := by
        rw [Int.ofNat_eq_natCast]; omega
      rw [e2]
      exact red_tail (Nat.succ_pos n) h1
  · cases h
theorem le_add (red : Fn) (ds : List PyData) (k : KF) (h : qAddR red ds k = true) : mOf 2 (bAdd red) ds k = true := by
  obtain ⟨a, b, c, d, rfl, h⟩ := qFr2_eq h
  obtain ⟨m1, h⟩ := mI_eq h
  obtain ⟨m2, h⟩ := mI_eq h
  obtain ⟨m3, h⟩ := mI_eq h
  rw [fI_eq] at h
  show gMul (.int a) (.int d) (fun x => gMul (.int c) (.int b) fun y => gAdd x y fun s => gMul (.int b) (.int d) fun z => red [s, z] k) = true
  rw [gMul_of m1, gMul_of m2, gAdd_of, gMul_of m3]
  exact h
theorem le_take (red : Fn) (ds : List PyData) (k : KF) (h : qTakeR red ds k = true) : mOf 2 (bTake red) ds k = true := by
  obtain ⟨a, b, c, d, rfl, h⟩ := qFr2_eq h
  obtain ⟨m1, h⟩ := mI_eq h
  obtain ⟨m2, h⟩ := mI_eq h
  obtain ⟨m3, h⟩ := mI_eq h
  rw [fI_eq] at h
  show gMul (.int a) (.int d) (fun x => gMul (.int c) (.int b) fun y => gSub x y fun s => gMul (.int b) (.int d) fun z => red [s, z] k) = true
  rw [gMul_of m1, gMul_of m2, gSub_of, gMul_of m3]
  exact h
theorem le_mul (red : Fn) (ds : List PyData) (k : KF) (h : qMulR red ds k = true) : mOf 2 (bMul red) ds k = true := by
  obtain ⟨a, b, c, d, rfl, h⟩ := qFr2_eq h
  obtain ⟨m1, h⟩ := mI_eq h
  obtain ⟨m3, h⟩ := mI_eq h
  show gMul (.int a) (.int c) (fun x => gMul (.int b) (.int d) fun z => red [x, z] k) = true
  rw [gMul_of m1, gMul_of m3]
  exact h
theorem le_div (red : Fn) (ds : List PyData) (k : KF) (h : qDivR red ds k = true) : mOf 2 (bDiv red) ds k = true := by
  obtain ⟨a, b, c, d, rfl, h⟩ := qFr2_eq h
  obtain ⟨m1, h⟩ := mI_eq h
  obtain ⟨m3, h⟩ := mI_eq h
  show gMul (.int a) (.int d) (fun x => gMul (.int b) (.int c) fun z => red [x, z] k) = true
  rw [gMul_of m1, gMul_of m3]
  exact h
theorem le_below (ds : List PyData) (k : KF) (h : qBelow ds k = true) : mOf 2 bBelow ds k = true := by
  obtain ⟨a, b, c, d, rfl, h⟩ := qFr2_eq h
  obtain ⟨m1, h⟩ := mI_eq h
  obtain ⟨m2, h⟩ := mI_eq h
  show gMul (.int a) (.int d) (fun x => gMul (.int c) (.int b) fun y => gLt x y k) = true
  rw [gMul_of m1, gMul_of m2]
  exact h
/-! ### other ways to write it -/
theorem gcd_any {T : DT} {G : DS} {E : Nat → Nat → Sls} {B : DEnds} (hend : ∀ n a, goWh T G B (n + 1) (E a 0) = B.nx (E a 0)) (hstep : ∀ n a b, logOk (b + 1) = true → goWh T G B (n + 1) (E a (b + 1)) = goWh T G B n (E (b + 1) (a % (b + 1)))) :
    ∀ (n fuel a b : Nat), b < 2 ^ n → 2 * n + 1 ≤ fuel → logOk b = true → goWh T G B fuel (E a b) = B.nx (E (Nat.gcd a b) 0)
  | 0, fuel, a, b, hb, hf, hl => by
    have e : b = 0 := by simpa using hb
    subst e
    obtain ⟨m, rfl⟩ : ∃ m, fuel = m + 1 := ⟨fuel - 1, by omega⟩
    rw [hend, Nat.gcd_zero_right]
  | n + 1, fuel, a, b, hb, hf, hl => by
    obtain ⟨m, rfl⟩ : ∃ m, fuel = m + 2 := ⟨fuel - 2, by omega⟩
    cases b with
    | zero => rw [hend, Nat.gcd_zero_right]
    | succ b =>
      rw [hstep _ _ _ hl]
      have hr : a % (b + 1) < b + 1 := Nat.mod_lt _ (Nat.succ_pos b)
      have e1 : Nat.gcd a (b + 1) = Nat.gcd (b + 1) (a % (b + 1)) := by
        rw [Nat.gcd_comm a, Nat.gcd_rec, Nat.gcd_comm]
      rw [e1]
      generalize a % (b + 1) = c at hr
      cases c with
      | zero => rw [hend, Nat.gcd_zero_right]
      | succ c =>
        rw [hstep _ _ _ (log_mono (by omega) hl)]
        have e2 : Nat.gcd (b + 1) (c + 1) = Nat.gcd (c + 1) ((b + 1) % (c + 1)) := by
          rw [Nat.gcd_comm (b + 1), Nat.gcd_rec, Nat.gcd_comm]
        rw [e2]
        have hh : (b + 1) % (c + 1) < 2 ^ n := by
          have h2 : (b + 1) % (c + 1) < c + 1 := Nat.mod_lt _ (Nat.succ_pos c)
          have h3 : (b + 1) % (c + 1) + (c + 1) ≤ b + 1 := by
            have h4 := Nat.div_add_mod (b + 1) (c + 1)
            have h5 : 1 ≤ (b + 1) / (c + 1) := (Nat.one_le_div_iff (Nat.succ_pos c)).mpr (by omega)
            have h6 : c + 1 ≤ (c + 1) * ((b + 1) / (c + 1)) := Nat.le_mul_of_pos_right _ h5
            omega
          have h7 : b + 1 < 2 * 2 ^ n := by rw [Nat.pow_succ] at hb; omega
          omega
        exact gcd_any hend hstep n m (c + 1) ((b + 1) % (c + 1)) hh (by omega) (log_mono (Nat.mod_le _ _) hl)
/-! by a sign and a loop of its own -/
def qPlain : Fn := fun ds k => match ds with
  | [.int t, .int b] => (match Nat.ble (Nat.log2 t.natAbs) 900000 with
    | true => mkFr t b k
    | false => false)
  | _ => false
def plainT : DT := dB (dOp gNe (dVar 3) (dC (.int 0)))
def plainB : DS := sPar 2 3 (aCons (dVar 3) (aCons (dOp gMod (dCB gInt (aCons (dVar 2) aNil)) (dVar 3)) aNil))
def bPlain : DS := (sSeq (sPar 2 3 (aCons (dCB gAbs (aCons (dVar 0) aNil)) (aCons (dCB gAbs (aCons (dVar 1) aNil)) aNil)))
  (sSeq (sWh 1000000 plainT plainB)
  (sSeq (sAsg (dIf (dB (dOp gGt (dVar 1) (dC (.int 0)))) (dC (.int 1)) (dUn gNeg (dC (.int 1)))) (gN 4))
  (sRet (dTup (aCons (dOp gFdiv (dOp gMul (dVar 4) (dVar 0)) (dVar 2)) (aCons (dOp gFdiv (dOp gMul (dVar 4) (dVar 1)) (dVar 2)) aNil)))))))
theorem gMod_of {i : Int} {g : Nat} (h : 0 < g) (l : logOk g = true) (k : KF) : gMod (.int i) (.int (Int.ofNat g)) k = k (.int (i % Int.ofNat g)) := by
  show (match divOk (Int.ofNat g) with
    | true => fI (i % Int.ofNat g) fun z => k (.int z)
    | false => false) = _
  rw [divOk_of h l]
  show fI _ _ = _
  rw [fI_eq]
theorem plain_loop (t b : PyData) (B : DEnds) (fuel a c : Nat) (hf : 18001 ≤ fuel) (hl : logOk c = true) :
    goWh plainT plainB B fuel [.fz t, .fz b, .fz (.int (Int.ofNat a)), .fz (.int (Int.ofNat c)), .no] = B.nx [.fz t, .fz b, .fz (.int (Int.ofNat (Nat.gcd a c))), .fz (.int (Int.ofNat 0)), .no] := by
  refine gcd_any (T := plainT) (G := plainB) (B := B) (E := fun a c => [.fz t, .fz b, .fz (.int (Int.ofNat a)), .fz (.int (Int.ofNat c)), .no]) (fun n a => rfl) (fun n a c h => ?_) 9000 fuel a c (lt_of_log hl) hf hl
  show gMod (.int (Int.ofNat a)) (.int (Int.ofNat (c + 1))) (fun z => goWh plainT plainB B n [.fz t, .fz b, .fz (.int (Int.ofNat (c + 1))), .fz z, .no]) = _
  rw [gMod_of (Nat.succ_pos c) h]
  rfl
def plainK (s t b : Int) (g : PyData) (k : KF) : Bool := gMul (.int s) (.int t) fun x => gFdiv x g fun x => gMul (.int s) (.int b) fun y => gFdiv y g fun y => k (.tuple [x, y])
theorem le_plain (ds : List PyData) (k : KF) (h : qPlain ds k = true) : mOf 5 bPlain ds k = true := by
  unfold qPlain at h
  split at h
  · rename_i t b
    cases e0 : Nat.ble (Nat.log2 t.natAbs) 900000 with
    | false => rw [e0] at h; cases h
    | true =>
      rw [e0] at h
      have l0 : Nat.log2 t.natAbs ≤ 900000 := Nat.le_of_ble_eq_true e0
      obtain ⟨s, n, h1, h2⟩ := mkFr_eq h
      obtain ⟨h3, h4⟩ := mkP_eq h1
      have l3 : Nat.log2 (n + 1) ≤ 8999 := Nat.le_of_ble_eq_true h3
      have eb : (if b < 0 then -b else b) = Int.ofNat (n + 1) := by
        rcases h2 with ⟨rfl, rfl⟩ | ⟨rfl, rfl⟩
        · rw [if_neg (by rw [Int.ofNat_eq_natCast]; omega)]
        · rw [if_pos (Int.negSucc_lt_zero n)]; rfl
      show goWh plainT plainB _ 1000000 [.fz (.int t), .fz (.int b), .fz (.int (if t < 0 then -t else t)), .fz (.int (if b < 0 then -b else b)), .no] = true
      rw [eb, abs_eq, plain_loop _ _ _ _ _ _ (by decide) h3]
      show (match decide ((0 : Int) < b) with
        | true => plainK 1 t b (.int (Int.ofNat (Nat.gcd t.natAbs (n + 1)))) k
        | false => plainK (-1) t b (.int (Int.ofNat (Nat.gcd t.natAbs (n + 1)))) k) = true
      have es : s.natAbs = t.natAbs := by
        rcases h2 with ⟨_, rfl⟩ | ⟨_, rfl⟩
        · rfl
        · omega
      rw [es] at h4
      have hg : 0 < Nat.gcd t.natAbs (n + 1) := Nat.gcd_pos_of_pos_right _ (Nat.succ_pos n)
      have hl : logOk (Nat.gcd t.natAbs (n + 1)) = true := log_mono (Nat.le_of_dvd (Nat.succ_pos n) (Nat.gcd_dvd_right _ _)) h3
      rcases h2 with ⟨rfl, rfl⟩ | ⟨rfl, rfl⟩
      · rw [decide_eq_true (show (0 : Int) < Int.ofNat (n + 1) by rw [Int.ofNat_eq_natCast]; omega)]
        have m1 : mulOk 1 s = true := Nat.ble_eq_true_of_le (by show Nat.log2 1 + Nat.log2 s.natAbs ≤ 999999; rw [show Nat.log2 1 = 0 by decide]; omega)
        have m2 : mulOk 1 (Int.ofNat (n + 1)) = true := Nat.ble_eq_true_of_le (by show Nat.log2 1 + Nat.log2 (n + 1) ≤ 999999; rw [show Nat.log2 1 = 0 by decide]; omega)
        show plainK 1 s (Int.ofNat (n + 1)) (.int (Int.ofNat (Nat.gcd s.natAbs (n + 1)))) k = true
        unfold plainK
        rw [gMul_of m1, gFdiv_of hg hl, gMul_of m2, gFdiv_of hg hl, Int.one_mul, Int.one_mul]
        exact h4
      · rw [decide_eq_false (show ¬ (0 : Int) < Int.negSucc n by have := Int.negSucc_lt_zero n; omega)]
        have m1 : mulOk (-1) t = true := Nat.ble_eq_true_of_le (by show Nat.log2 1 + Nat.log2 t.natAbs ≤ 999999; rw [show Nat.log2 1 = 0 by decide]; omega)
        have m2 : mulOk (-1) (Int.negSucc n) = true := Nat.ble_eq_true_of_le (by show Nat.log2 1 + Nat.log2 (n + 1) ≤ 999999; rw [show Nat.log2 1 = 0 by decide]; omega)
        show plainK (-1) t (Int.negSucc n) (.int (Int.ofNat (Nat.gcd t.natAbs (n + 1)))) k = true
        unfold plainK
        rw [gMul_of m1, gFdiv_of hg hl, gMul_of m2, gFdiv_of hg hl]
        rw [show (-1 : Int) * t = 0 - t by omega, show (-1 : Int) * Int.negSucc n = Int.ofNat (n + 1) by rw [Int.ofNat_eq_natCast]; omega]
        exact h4
  · cases h
end Dl

namespace Dl
open PySem PySem.Spec PyProof.Rows L2
/-! ### a draw ahead, case by case -/
abbrev BT : DEnds := { nx := fun _ => isT .none, rt := isT, bk := fun _ => false, ct := fun _ => false }
theorem draw_asg {d e : Int} {n m i j : Nat} {rest : DS} {B : DEnds} {env : Sls} (hp : look env j = .pt) (hm : Nat.ble m 1000000000 = true) (he : e = Int.ofNat (m + 1)) (h : ∀ c, c < m + 1 → rest B (env.set i (.fz (.int (d + Int.ofNat c)))) = true) :
    sSeq (sAsg (dOp gAdd (dC (.int d)) (dCallN 2 mDraw (aPot j (aCons (dC (.int e)) aNil)))) (gN i)) rest B env = true := by
  subst he
  show (match look env j with
    | .pt => (match Nat.ble m 1000000000 with
      | true => allB (m + 1) fun c => fI (d + Int.ofNat c) fun z => rest B (env.set i (.fz (.int z)))
      | false => false)
    | _ => false) = true
  rw [hp]
  show (match Nat.ble m 1000000000 with
      | true => allB (m + 1) fun c => fI (d + Int.ofNat c) fun z => rest B (env.set i (.fz (.int z)))
      | false => false) = true
  rw [hm]
  refine allB_of fun c hc => ?_
  rw [fI_eq]
  exact h c hc
/-- a fraction drawn -/
theorem draw_fr {pl : Fn} {b d e : Int} {m i l j : Nat} {rest : DS} {B : DEnds} {env : Sls} (hp : look env j = .pt) (hi : look env i = .fz (.int b)) (hm : Nat.ble m 1000000000 = true) (hb : b - e = Int.ofNat (m + 1)) (h : ∀ c, c < m + 1 → pl [.int (d + Int.ofNat c), .int b] (fun v => rest B (env.set l (.fz v))) = true) :
    sSeq (sAsg (dCallN 2 pl (aCons (dOp gAdd (dC (.int d)) (dCallN 2 mDraw (aPot j (aCons (dOp gSub (dVar i) (dC (.int e))) aNil)))) (aCons (dVar i) aNil))) (gN l)) rest B env = true := by
  show (match look env j with
    | .pt => (match look env i with
      | .fz x => gSub x (.int e) fun x => mDraw [potD, x] fun y => gAdd (.int d) y fun z => (match look env i with
        | .fz x => pl [z, x] fun v => rest B (env.set l (.fz v))
        | _ => false)
      | _ => false)
    | _ => false) = true
  rw [hp]
  simp only [hi]
  show (fI (b - e) fun z => mDraw [potD, .int z] fun y => gAdd (.int d) y fun z => pl [z, .int b] fun v => rest B (env.set l (.fz v))) = true
  rw [fI_eq, hb]
  show (match Nat.ble m 1000000000 with
      | true => allB (m + 1) fun c => fI (d + Int.ofNat c) fun z => pl [.int z, .int b] fun v => rest B (env.set l (.fz v))
      | false => false) = true
  rw [hm]
  refine allB_of fun c hc => ?_
  rw [fI_eq]
  exact h c hc
/-- two draws ahead -/
theorem draw_par {d e e2 : Int} {m m2 i l j : Nat} {rest : DS} {B : DEnds} {env : Sls} (hp : look env j = .pt) (hm : Nat.ble m 1000000000 = true) (hm2 : Nat.ble m2 1000000000 = true) (he : e = Int.ofNat (m + 1)) (he2 : e2 = Int.ofNat (m2 + 1))
    (h : ∀ c, c < m + 1 → ∀ c2, c2 < m2 + 1 → rest B ((env.set i (.fz (.int (d + Int.ofNat c)))).set l (.fz (.int (Int.ofNat c2)))) = true) :
    sSeq (sPar i l (aCons (dOp gAdd (dC (.int d)) (dCallN 2 mDraw (aPot j (aCons (dC (.int e)) aNil)))) (aCons (dCallN 2 mDraw (aPot j (aCons (dC (.int e2)) aNil))) aNil))) rest B env = true := by
  subst he he2
  show (match look env j with
    | .pt => (match Nat.ble m 1000000000 with
      | true => allB (m + 1) fun c => fI (d + Int.ofNat c) fun z => (match look env j with
        | .pt => (match Nat.ble m2 1000000000 with
          | true => allB (m2 + 1) fun c2 => rest B ((env.set i (.fz (.int z))).set l (.fz (.int (Int.ofNat c2))))
          | false => false)
        | _ => false)
      | false => false)
    | _ => false) = true
  rw [hp]
  simp only [hm, hm2]
  refine allB_of fun c hc => ?_
  rw [fI_eq]
  exact allB_of fun c2 hc2 => h c hc c2 hc2
end Dl

namespace Dl
open PySem PySem.Spec PyProof.Rows L2
/-! ### the chances of a sum of two -/
def pIn (ad mu : Fn) (x : PyData) : List PyData → List PyData → (List PyData → Bool) → Bool
  | [], fs, k => k fs
  | y :: ys, f :: fs, k => mu [x, y] fun p => ad [f, p] fun z => match noList z with
    | true => pIn ad mu x ys fs fun r => k (z :: r)
    | false => false
  | _ :: _, [], _ => false
def pOut (ad mu : Fn) (ys : List PyData) : List PyData → List PyData → (List PyData → Bool) → Bool
  | [], fs, k => k fs
  | x :: xs, fs, k => pIn ad mu x ys fs fun r => match r with
    | h :: t => pOut ad mu ys xs t fun t => k (h :: t)
    | [] => pOut ad mu ys xs [] k
def prI (ad mu : Fn) : DS := sSetIx 2 (dOp gAdd (dVar 3) (dVar 5)) (dBor [2] (dCallN 2 ad (aCons (dOp gIx (dVar 2) (dOp gAdd (dVar 3) (dVar 5))) (aCons (dCallN 2 mu (aCons (dVar 4) (aCons (dVar 6) aNil))) aNil))))
def prG : DG := gT 2 (gsCons (gN 5) (gsCons (gN 6) gsNil))
def prG0 : DG := gT 2 (gsCons (gN 3) (gsCons (gN 4) gsNil))
def prO (ad mu : Fn) : DS := sFor (iEnumD (dVar 1)) prG (prI ad mu)
def prRest (ad mu : Fn) : DS := sSeq (sFor (iEnumD (dVar 0)) prG0 (prO ad mu)) (sFrz 2 (sRet (dVar 2)))
def prFirst (nt : PyData) : DF := fRep (dLst (aCons (dC nt) aNil)) (dOp gSub (dOp gAdd (dCB gLen (aCons (dVar 0) aNil)) (dCB gLen (aCons (dVar 1) aNil))) (dC (.int 1)))
def bProd (ad mu : Fn) (nt : PyData) : DS := sSeq (sOwn 2 (prFirst nt)) (prRest ad mu)
def prTail (ad mu : Fn) (xs ys : List PyData) : DS := fun B env => match env with
  | [_, _, .ow fd, _, _, _, _] => pOut ad mu ys xs fd fun r => B.rt (.list r)
  | _ => false
def qProd (ad mu : Fn) (nt : PyData) : Fn := fun ds k => match ds with
  | [.list xs, .list ys] => mOf 7 (sSeq (sOwn 2 (prFirst nt)) (prTail ad mu xs ys)) [.list xs, .list ys] k
  | _ => false
abbrev e7 (x y fd a n p q : Sl) : Sls := [x, y, fd, a, n, p, q]
theorem ixN_lt {n m : Nat} (h : n < m) : ixN m (Int.ofNat n) = some n := by
  have h1 : (0 : Int) ≤ Int.ofNat n := Int.ofNat_nonneg n
  have h2 : Int.ofNat n < (m : Int) := Int.ofNat_lt.mpr h
  unfold ixN
  rw [if_pos h1, if_pos h2]
  rfl
theorem ixN_ge {n m : Nat} (h : m ≤ n) : ixN m (Int.ofNat n) = none := by
  have h1 : (0 : Int) ≤ Int.ofNat n := Int.ofNat_nonneg n
  have h2 : ¬ (Int.ofNat n < (m : Int)) := fun z => by
    have := Int.ofNat_lt.mp z
    omega
  unfold ixN
  rw [if_pos h1, if_neg h2]
section
variable {ad mu : Fn} {X Y : Sl}
theorem in_step (B : DEnds) (fd : List PyData) (a j : Nat) (n y : PyData) : prI ad mu B (e7 X Y (.ow fd) (.fz (.int (a : Int))) (.fz n) (.fz (.int (j : Int))) (.fz y)) =
    (match atI fd (Int.ofNat (a + j)) with
      | some f => mu [n, y] fun p => ad [f, p] fun z => (match noList z with
        | true => (match ixN fd.length (Int.ofNat (a + j)) with
          | some i => B.nx (e7 X Y (.ow (fd.set i z)) (.fz (.int (a : Int))) (.fz n) (.fz (.int (j : Int))) (.fz y))
          | none => false)
        | false => false)
      | none => false) := by
  have hf : ∀ k : Int → Bool, fI ((a : Int) + (j : Int)) k = k (Int.ofNat (a + j)) := fun k => by
    rw [fI_eq]
    rfl
  show (fI ((a : Int) + (j : Int)) fun i => (match atI fd i with
      | some f => mu [n, y] fun p => ad [f, p] fun z => (match noList z with
        | true => fI ((a : Int) + (j : Int)) fun i => (match ixN fd.length i with
          | some i => B.nx (e7 X Y (.ow (fd.set i z)) (.fz (.int (a : Int))) (.fz n) (.fz (.int (j : Int))) (.fz y))
          | none => false)
        | false => false)
      | none => false)) = _
  rw [hf]
  simp only [hf]
theorem in_eq (K : List PyData → Bool) (a : Nat) (n : PyData) (B : DEnds) (hB : ∀ fd p q, B.nx (e7 X Y (.ow fd) (.fz (.int (a : Int))) (.fz n) p q) = K fd) :
    ∀ (ys : List PyData) (j : Nat) (pre fs : List PyData) (p q : Sl), (pre.length = a + j ∨ (fs = [] ∧ pre.length ≤ a + j)) →
      goFor prG (prI ad mu) B (enumD j ys) (e7 X Y (.ow (pre ++ fs)) (.fz (.int (a : Int))) (.fz n) p q) = pIn ad mu n ys fs fun r => K (pre ++ r)
  | [], j, pre, fs, p, q, _ => hB _ _ _
  | y :: ys, j, pre, fs, p, q, h => by
    show prI ad mu { nx := goFor prG (prI ad mu) B (enumD (j + 1) ys), rt := B.rt, ct := goFor prG (prI ad mu) B (enumD (j + 1) ys), bk := B.nx } (e7 X Y (.ow (pre ++ fs)) (.fz (.int (a : Int))) (.fz n) (.fz (.int (j : Int))) (.fz y)) = _
    rw [in_step]
    cases fs with
    | nil =>
      have hl : (pre ++ ([] : List PyData)).length ≤ a + j := by
        rw [List.append_nil]
        rcases h with h | ⟨_, h⟩ <;> omega
      have e : atI (pre ++ []) (Int.ofNat (a + j)) = none := by
        unfold atI
        rw [ixN_ge hl]
        rfl
      rw [e]
      rfl
    | cons f fs =>
      have hp : pre.length = a + j := h.elim id fun z => nomatch z.1
      have hl : a + j < (pre ++ f :: fs).length := by rw [List.length_append, List.length_cons]; omega
      have hg : (pre ++ f :: fs)[a + j]? = some f := by
        rw [← hp, List.getElem?_append_right (Nat.le_refl _), Nat.sub_self]
        rfl
      have e : atI (pre ++ f :: fs) (Int.ofNat (a + j)) = some f := by
        unfold atI
        rw [ixN_lt hl]
        exact hg
      have hs : ∀ z, (pre ++ f :: fs).set (a + j) z = (pre ++ [z]) ++ fs := fun z => by
        rw [← hp, List.set_append_right _ _ (Nat.le_refl _), Nat.sub_self, List.append_assoc]
        rfl
      rw [e, ixN_lt hl]
      show (mu [n, y] fun p => ad [f, p] fun z => _) = (mu [n, y] fun p => ad [f, p] fun z => _)
      congr 1
      funext p
      congr 1
      funext z
      cases noList z with
      | false => rfl
      | true =>
        show goFor prG (prI ad mu) B (enumD (j + 1) ys) (e7 X Y (.ow ((pre ++ f :: fs).set (a + j) z)) (.fz (.int (a : Int))) (.fz n) (.fz (.int (j : Int))) (.fz y)) = _
        rw [hs, in_eq K a n B hB ys (j + 1) (pre ++ [z]) fs _ _ (.inl (by rw [List.length_append, hp]; rfl))]
        congr 1
        funext r
        rw [List.append_assoc]
        rfl
theorem out_eq (ys : List PyData) (K : List PyData → Bool) (B : DEnds) (hB : ∀ fd a n p q, B.nx (e7 X (.fz (.list ys)) (.ow fd) a n p q) = K fd) :
    ∀ (xs : List PyData) (a : Nat) (pre fs : List PyData) (s n p q : Sl), (pre.length = a ∨ (fs = [] ∧ pre.length ≤ a)) →
      goFor prG0 (prO ad mu) B (enumD a xs) (e7 X (.fz (.list ys)) (.ow (pre ++ fs)) s n p q) = pOut ad mu ys xs fs fun r => K (pre ++ r)
  | [], a, pre, fs, s, n, p, q, _ => hB _ _ _ _ _
  | x :: xs, a, pre, fs, s, n, p, q, h => by
    show goFor prG (prI ad mu) { nx := goFor prG0 (prO ad mu) B (enumD (a + 1) xs), rt := B.rt, ct := goFor prG0 (prO ad mu) B (enumD (a + 1) xs), bk := B.nx } (enumD 0 ys) (e7 X (.fz (.list ys)) (.ow (pre ++ fs)) (.fz (.int (a : Int))) (.fz x) p q) = _
    have main : ∀ (fd : List PyData) (p q : Sl), goFor prG0 (prO ad mu) B (enumD (a + 1) xs) (e7 X (.fz (.list ys)) (.ow fd) (.fz (.int (a : Int))) (.fz x) p q) = (if a ≤ fd.length then (match fd.drop a with
        | h :: t => pOut ad mu ys xs t fun t => K (fd.take a ++ h :: t)
        | [] => pOut ad mu ys xs [] fun t => K (fd.take a ++ t)) else pOut ad mu ys xs [] fun t => K (fd ++ t)) := fun fd p q => by
      by_cases hl : a ≤ fd.length
      · rw [if_pos hl]
        cases e : fd.drop a with
        | nil =>
          have e2 : fd = fd.take a := by
            have := List.take_append_drop a fd
            rw [e, List.append_nil] at this
            exact this.symm
          have e3 : fd = fd.take a ++ [] := by rw [List.append_nil]; exact e2
          conv => lhs; rw [e3]
          exact out_eq ys K B hB xs (a + 1) (fd.take a) [] _ _ _ _ (.inr ⟨rfl, by rw [List.length_take]; omega⟩)
        | cons h t =>
          have e2 : fd = (fd.take a ++ [h]) ++ t := by
            have := List.take_append_drop a fd
            rw [e] at this
            rw [List.append_assoc]
            exact this.symm
          conv => lhs; rw [e2]
          rw [out_eq ys K B hB xs (a + 1) (fd.take a ++ [h]) t _ _ _ _ (.inl (by rw [List.length_append, List.length_take]; simp; omega))]
          congr 1
          funext t
          rw [List.append_assoc]
          rfl
      · rw [if_neg hl]
        have e3 : fd = fd ++ [] := by rw [List.append_nil]
        conv => lhs; rw [e3]
        exact out_eq ys K B hB xs (a + 1) fd [] _ _ _ _ (.inr ⟨rfl, by omega⟩)
    rcases h with h | ⟨rfl, h⟩
    · rw [in_eq (fun fd => if a ≤ fd.length then (match fd.drop a with
        | h :: t => pOut ad mu ys xs t fun t => K (fd.take a ++ h :: t)
        | [] => pOut ad mu ys xs [] fun t => K (fd.take a ++ t)) else pOut ad mu ys xs [] fun t => K (fd ++ t)) a x _ main ys 0 pre fs p q (.inl h)]
      show _ = pIn ad mu x ys fs fun r => _
      congr 1
      funext r
      have e1 : (pre ++ r).drop a = r := by rw [← h]; simp
      have e2 : (pre ++ r).take a = pre := by rw [← h]; simp
      rw [if_pos (by rw [List.length_append]; omega), e1, e2]
    · cases ys with
      | nil => exact out_eq [] K B hB xs (a + 1) pre [] _ _ _ _ (.inr ⟨rfl, by omega⟩)
      | cons y ys =>
        rw [in_eq (fun fd => if a ≤ fd.length then (match fd.drop a with
          | h :: t => pOut ad mu (y :: ys) xs t fun t => K (fd.take a ++ h :: t)
          | [] => pOut ad mu (y :: ys) xs [] fun t => K (fd.take a ++ t)) else pOut ad mu (y :: ys) xs [] fun t => K (fd ++ t)) a x _ main (y :: ys) 0 pre [] p q (.inr ⟨rfl, h⟩)]
        rfl
theorem rest_eq (xs ys : List PyData) (fd : List PyData) (B : DEnds) (a n p q : Sl) : prRest ad mu B (e7 (.fz (.list xs)) (.fz (.list ys)) (.ow fd) a n p q) = prTail ad mu xs ys B (e7 (.fz (.list xs)) (.fz (.list ys)) (.ow fd) a n p q) := by
  show goFor prG0 (prO ad mu) { B with nx := sFrz 2 (sRet (dVar 2)) B } (enumD 0 xs) (e7 (.fz (.list xs)) (.fz (.list ys)) (.ow ([] ++ fd)) a n p q) = _
  exact out_eq ys (fun r => B.rt (.list r)) _ (fun fd a n p q => rfl) xs 0 [] fd a n p q (.inl rfl)
end
theorem le_prod (ad mu : Fn) (nt : PyData) (ds : List PyData) (k : KF) (h : qProd ad mu nt ds k = true) : mOf 7 (bProd ad mu nt) ds k = true := by
  unfold qProd at h
  split at h
  · rename_i xs ys
    have e : ∀ B : DEnds, (fun fd => prRest ad mu B ((startE 7 [.list xs, .list ys]).set 2 (.ow fd))) = (fun fd => prTail ad mu xs ys B ((startE 7 [.list xs, .list ys]).set 2 (.ow fd))) := fun B => funext fun fd => rest_eq xs ys fd B _ _ _ _
    exact (congrArg (fun g => prFirst nt (startE 7 [.list xs, .list ys]) g) (e { nx := fun _ => k .none, rt := k, bk := fun _ => false, ct := fun _ => false })).trans h
  · cases h
end Dl

namespace Dl
open PySem PySem.Spec PyProof.Rows L2
/-! ### the pot, the end -/
theorem stp_pot {pp : Addr} {F H F1 H1 : Hp} {a b : Int} (B : Bs pp F H) (s : Stp pp F H F1 H1) (ha : 0 ≤ a) (hb : 0 ≤ b) (hc : b < 4294967296) : Stp pp F H F1 (upd H1 pp (.lst [.int a, .int b])) := by
  have f1 := (Stp.bs B s).fp
  refine ⟨s.ff, fun c u h => ?_, fun c u hc h => ?_, s.nf, ⟨a, b, upd_same, ha, hb, hc⟩⟩
  · rw [upd_ne (ne_of_none h f1)]; exact s.fh c u h
  · rw [upd_ne hc]; exact s.fr c u hc h
theorem allB_get : ∀ {n : Nat} {f : Nat → Bool} {c : Nat}, Dl.allB n f = true → c < n → f c = true
  | 0, _, _, _, h => absurd h (Nat.not_lt_zero _)
  | n + 1, f, c, e, h => by
    unfold Dl.allB at e
    cases q : f n with
    | false => rw [q] at e; cases e
    | true =>
      rw [q] at e
      by_cases hc : c = n
      · rw [hc]; exact q
      · exact allB_get e (by omega)
def mTrue : Fn := fun ds k => match ds with
  | [.dict (_ :: _)] => k (.bool true)
  | _ => false
theorem isT_eq {d : PyData} (h : isT d = true) : d = .bool true := by
  cases d with
  | bool b =>
    cases b with
    | true => rfl
    | false => cases h
  | _ => cases h
theorem Has.always {P : Program} {w : World} {K : PySem.W.Frag} {mg : Str → Option Value} {base : Heap} {l : Nat} {x : Str} {ps : List Str} {m : Fn} (h : Has P w K mg base l x ps m) (e : m [potD] isT = true) : Has P w K mg base l x ps mTrue := by
  obtain ⟨f, fd, F, a, b, c, d⟩ := h
  refine ⟨f, fd, F.imp fun vs H Q E ⟨hl, pp, F0, ds, k, B, r, hm, q⟩ => ?_, a, b, c, d⟩
  unfold mTrue at hm
  split at hm
  case h_2 => cases hm
  rename_i l
  cases r with
  | cons r1 r =>
    cases r
    rcases r1 with r1 | ⟨r1, _⟩
    · cases r1
    · cases r1
      exact ⟨hl, pp, F0, _, isT, B, .cons (.inr ⟨rfl, by assumption⟩) .nil, e, fun d v F' H' s z hd => q d v F' H' s z (by rw [isT_eq hd]; exact hm)⟩
/-- a reading for each world -/
theorem se_all {X : Cx} {e : Expr} {d : DE} (h : ∀ W, SE W X e d) : ∃ t, PE X e t ∧ ∀ W, OkE X.K W t d := by
  have h2 : ∀ W, ∃ t, PE X e t ∧ OkE X.K W t d := fun W => (h W).ex
  refine ⟨fun σ H Q => ∃ W, Classical.choose (h2 W) σ H Q, ⟨fun pins s σ H Q I ⟨W, hw⟩ => (Classical.choose_spec (h2 W)).1.run pins s σ H Q I hw⟩, fun W env σ F H k Q R hd q => ⟨W, (Classical.choose_spec (h2 W)).2 env σ F H k Q R hd q⟩⟩
theorem bs_new {H : Hp} {p : Addr} {x y : Int} (hx : 0 ≤ x) (hy : 0 ≤ y) (hy2 : y < 4294967296) : Bs p (fun _ => none) (upd H p (.lst [.int x, .int y])) :=
  ⟨(fun _ _ h => nomatch h), rfl, ⟨x, y, upd_same, hx, hy, hy2⟩⟩
/-- what the pot's def does -/
def spPot (K : PySem.W.Frag) : Sp := fun vs H Q _ => ∃ (a : Addr) (ns : List Int) (k : Int), vs = [.ref a, .int k] ∧ SqL K H a (ns.map V.int) ∧ 0 ≤ k ∧ k < 100 ∧ ∀ p x y, H p = none → 0 ≤ x → 0 ≤ y → y < 4294967296 → Q (.ref p) (upd H p (.lst [.int x, .int y]))
def spLaw (K : PySem.W.Frag) : Sp := fun vs H Q _ => ∃ (a : Addr) (ns : List Int), vs = [.ref a] ∧ SqL K H a (ns.map V.int) ∧ ∀ H', Q (.bl true) H'
end Dl

namespace Dl
open PySem PySem.Spec PyProof.Rows L2
/-! ### the head's Hook, with one more test of the written part -/
def obsE (n : Nat) (fa : List He.Fa) (fn : List He.DefD) (ex : PySem.W.Frag → Bool) (g : Addr → Option Obj) : He.AlD × Bool := (He.obsDG n fa fn g, ex (He.frG g (He.asD g n)))
def SaysE (fa : List He.Fa) (fn : List He.DefD) (ex : PySem.W.Frag → Bool) (K : PySem.W.Frag) : Prop := He.SaysD fa fn K ∧ ex K = true
def hookE (n : Nat) (fa : List He.Fa) (fn : List He.DefD) (ex : PySem.W.Frag → Bool) : PySem.W.Hook where
  α := He.AlD × Bool
  obs := fun s => obsE n fa fn ex s.heap.get?
  val := fun _ => (He.valD fn, true)
  says := fun _ h => ∃ K : PySem.W.Frag, K.In h ∧ SaysE fa fn ex K
  of := fun _ _ e => ⟨_, He.frG_in, congrArg (fun z : He.AlD × Bool => z.1) e, congrArg (fun z : He.AlD × Bool => z.2) e⟩
  keeps := fun _ _ _ ⟨K, hK, c⟩ k => ⟨K, PySem.W.Frag.In.keeps hK k, c⟩
theorem obsE_eq {n : Nat} {fa : List He.Fa} {fn : List He.DefD} {ex : PySem.W.Frag → Bool} {g : Addr → Option Obj} {s : Shared} (h : ∀ a, g a = s.heap.get? a) : obsE n fa fn ex g = (hookE n fa fn ex).obs s := by
  have e : g = s.heap.get? := funext h
  rw [e] <;> rfl
theorem saysD_fact {fa : List He.Fa} {fn : List He.DefD} {K : PySem.W.Frag} (c : He.SaysD fa fn K) {f : He.Fa} (h : f ∈ fa) : f.ok K = true := by
  obtain ⟨i, hi, e⟩ := List.mem_iff_getElem.mp h
  exact c.fact i (f := f) (by rw [List.getElem?_eq_getElem hi, e])
def tupI (K : PySem.W.Frag) (x : Str) (is : List Int) : Bool := He.tupB K x (is.map He.Dv.int)
section
variable {K : PySem.W.Frag} {h : Heap} {mg : Str → Option Value}
theorem glo_int (X : K.In h) (G : h.Ns mainGlobals mg) {x : Str} {i : Int} (c : (He.Fa.int x i).ok K = true) : Glo K mg x (.int i) := by
  obtain ⟨t, e⟩ := He.int_ok X G c
  exact ⟨_, .int i, e, ⟨t, rfl⟩, fun F => .int i⟩
theorem glo_tup (X : K.In h) (G : h.Ns mainGlobals mg) {x : Str} {is : List Int} (c : (He.Fa.glo x).ok K = true) (t : tupI K x is = true) : Glo K mg x (.tuple (is.map PyData.int)) := by
  refine ⟨_, .ref (He.ga K x), He.glo_ok X G c, rfl, fun F => ?_⟩
  have z := He.tupB_ok t (fun _ => none)
  have e : (is.map He.Dv.int).map (He.Dv.v K) = is.map V.int := by rw [List.map_map]; rfl
  rw [e] at z
  rcases z with z | z
  · rcases z with z | ⟨o, z⟩
    · cases z
    · cases z
  · exact .ktup z (RpAll.of_ints is)
end
/-- the call at the outermost place -/
theorem callG {P : Program} {w : World} {K : PySem.W.Frag} {mg mb : Str → Option Value} {k : Nat} {fa a : Addr} {fd : FuncData} {x : Str} {sp : Sp} {s₁ : Shared} {vs : List Value} {ns : List Int}
    (KX : K.In s₁.heap) (hns : s₁.heap.Ns mainGlobals mg) (hb : s₁.heap.Ns builtinsNs mb) (hbb : ∀ x : Str, x ≠ "__name__" → mb x = bootBuiltins x) (hlim : s₁.heap.NoLimit) (hg : s₁.gens = #[])
    (ha : s₁.heap.get? a = some { cls := .type "list", data := .seq vs.toArray }) (hi : IntsAre vs ns) (hl : ns.length ≤ sizeLine) (hr : Room k callerA)
    (F : ∀ base : Heap, K.In base → base.Ns mainGlobals mg → FnOkG P w K mg base k fa fd [x] sp) (hbind : ∀ (s : Shared) (u : Value), BindsTo s fd ⟨[u], []⟩ [(x, u)])
    (hsp : ∀ H : Hp, Only H → SqL K H a (ns.map V.int) → sp [.ref a] H (fun v _ => v = .bl true) fun _ _ _ => False) :
    codeAny (model P w) callerA (.call (.ref fa) ⟨[.ref a], []⟩) (fun r s' => r = .ok (.ret (.bool true)) ∧ OldK s₁.heap s'.heap ∧ s'.os = s₁.os ∧ AllBare s'.gens) s₁ := by
  have big := hi.length
  have main : ∀ H : Hp, Only H → SqL K H a (ns.map V.int) → HOk P w H s₁.heap → (∀ b, H b ≠ none → b = a) → (H a ≠ none → K.lookup a = none) →
      codeAny (model P w) callerA (.call (.ref fa) ⟨[.ref a], []⟩) (fun r s' => r = .ok (.ret (.bool true)) ∧ OldK s₁.heap s'.heap ∧ s'.os = s₁.os ∧ AllBare s'.gens) s₁ := fun H hO hS hok hA hK => by
    have see : ∀ {b : Addr} {o : Obj}, s₁.heap.get? b = some o → H b = none → (hidT s₁.heap H).get? b = some o := fun e n => hidT_get e n
    have dct : ∀ {b : Addr} {m : Str → Option Value}, s₁.heap.Ns b m → (hidT s₁.heap H).Ns b m := fun {b m} ⟨o, es, ep, e, d, r⟩ => ⟨o, es, ep, see e (by
      cases q : H b with
      | none => rfl
      | some u =>
        exfalso
        have z := hA b (by rw [q]; exact fun z => nomatch z)
        rw [z, ha] at e
        cases e
        cases (show Data.seq vs.toArray _ = Data.dict es ep from d)), d, r⟩
    have kin : K.In (hidT s₁.heap H) := fun b o e => see (KX b o e) (by
      cases q : H b with
      | none => rfl
      | some u =>
        exfalso
        have z := hA b (by rw [q]; exact fun z => nomatch z)
        rw [z] at e q
        rw [hK (by rw [q]; exact fun z => nomatch z)] at e
        cases e)
    have md : Mod K mg (hidT s₁.heap H) := ⟨kin, dct hns, ⟨mb, dct hb, hbb⟩, let ⟨mc, h1, h2⟩ := hlim; ⟨mc, dct h1, h2⟩⟩
    have e0 : Env0 P w K mg (hidT s₁.heap H) callerA [] s₁ H := ⟨rfl, md, fun b o e => of_hidT e, Nat.le_of_eq (hidT_size _ _), trivial, (fun b hb => absurd (show b ∈ ([] : List Addr) from hb) List.not_mem_nil), hok, .of_eq hg⟩
    refine codeAny_mono ((F _ kin (dct hns)).run callerA [] s₁ H ⟨[.ref a], []⟩ [.ref a] [.ref a] _ _ hr rfl e0 (hbind s₁ (.ref a)) (.cons rfl .nil) (hsp H hO hS)) fun r s' h => ?_
    cases r with
    | error e => exact False.elim (show False from h)
    | ok fl =>
      cases fl with
      | next => exact False.elim h
      | brk => exact False.elim h
      | cont => exact False.elim h
      | ret u =>
        obtain ⟨v, H', os, bare, un, hok', rv, q⟩ := h
        have q : v = .bl true := q
        rw [q] at rv
        have hu : u = Value.bool true := rv
        rw [hu]
        refine ⟨rfl, OldK.of_keep fun b o e => ?_, os, bare⟩
        cases q : H b with
        | none => exact un.keep b o e q (fun z => absurd (show b ∈ ([] : List Addr) from z) List.not_mem_nil) (by simp)
        | some t =>
          rcases hO b with z | ⟨ob, xs, z⟩
          · rw [q] at z
            cases z
          · obtain ⟨f1, _⟩ := hok b _ z
            obtain ⟨f2, _⟩ := hok' b _ (un.frzs b ob _ z)
            rw [e] at f1
            cases f1
            exact f2
  cases hk : K.lookup a with
  | some o =>
    have e := KX a o hk
    rw [ha] at e
    cases e
    exact main (fun _ => none) (fun _ => .inl rfl) (.inr ⟨_, vs.toArray, _, hk, rfl, rfl, rfl, by rw [List.size_toArray, big]; exact hl, by simpa using vals_ints hi⟩) (fun b u z => nomatch (show (none : Option HO) = some u from z)) (fun b z => absurd rfl z) fun z => absurd rfl z
  | none =>
    have at_ : ∀ b u, (if b = a then some (HO.frz { cls := .type "list", data := .seq vs.toArray } (.lst (ns.map V.int))) else none) = some u → b = a ∧ u = HO.frz { cls := .type "list", data := .seq vs.toArray } (.lst (ns.map V.int)) := fun b u z => by
      by_cases q : b = a
      · rw [if_pos q] at z; exact ⟨q, (Option.some.inj z).symm⟩
      · rw [if_neg q] at z; cases z
    refine main (fun b => if b = a then some (.frz { cls := .type "list", data := .seq vs.toArray } (.lst (ns.map V.int))) else none) (fun b => ?_) (.inl (.inr ⟨_, if_pos rfl⟩)) (fun b u z => ?_) (fun b z => ?_) fun _ => hk
    · by_cases q : b = a
      · exact .inr ⟨_, _, if_pos q⟩
      · exact .inl (if_neg q)
    · obtain ⟨rfl, rfl⟩ := at_ b u z
      exact ⟨ha, by rw [List.length_map]; exact hl, vs, _, vals_ints hi, ha⟩
    · by_cases q : b = a
      · exact q
      · exact absurd (if_neg q) z
/-- a law's end: F gives the written part, the function object, the promise -/
theorem walk_ofG {l : PySem.W.OpenLaw} {n k : Nat} {q : Program} {loose : List Str} {XP : (Str → Option Value) → Heap → Prop} {YP : World → Heap → Prop} {d : DefRec} {x : Str} (hn : l.most = some n) (hn2 : n ≤ sizeLine) (hdf : d.params.defaults = []) (hr : Room k callerA)
    (F : ∀ (w : World) (mg : Str → Option Value) (fa : Addr) (h : Heap), YP w h → h.Ns mainGlobals mg → mg d.name = some (.ref fa) →
      ∃ (K : PySem.W.Frag) (fd : FuncData) (sp : Sp), K.In h ∧ (∀ (s : Shared) (u : Value), BindsTo s fd ⟨[u], []⟩ [(x, u)]) ∧
        (∀ (H : Hp) (a : Addr) (ns : List Int), ns.length ≤ n → Only H → SqL K H a (ns.map V.int) → sp [.ref a] H (fun v _ => v = .bl true) fun _ _ _ => False) ∧
        ∀ base : Heap, K.In base → base.Ns mainGlobals mg → FnOkG l.prog w K mg base k fa fd [x] sp) :
    PySem.W.WalkO q loose XP YP l.row.toRowW d [] (fun f vs => PySem.call f vs) := by
  refine Att.attach_call hn hdf fun w s₀ s₁ mg mb fa o pm cd doc a vs ns G Y ho hd hcd hmg hobj hints hlen hg => ?_
  obtain ⟨K, fd, sp, kin, hb, hsp, ok⟩ := F w mg fa _ Y G.T.g hmg
  exact callG kin G.T.g G.T.b G.T.builtins G.T.nolimit hg hobj hints (Nat.le_trans hlen hn2) hr ok hb fun H hO hS => hsp H a ns hlen hO hS
end Dl

/-! enumerate(zip(a, b)), walked -/
namespace PySem
open Sem (wp)
section
variable {prog : Program} {w : World} {A : Around} {E : Value → Shared → Prop} {s : Shared}
/-- a zip, whatever it says of its tuple -/
abbrev ZipF (h : Heap) (z TI TO : Addr) (v : Value) (f : Bool) : Prop := h.get? z = some { cls := .type "zip", dict := none, data := .fields #[v, .bool f, .bool false, .ref TI, .ref TO], slots := #[] }
theorem ez_gone {z TI TO T : Addr} {f : Bool} {Q : Bool → Shared → Prop} (hz : ZipF s.heap z TI TO (rawInt T) f) (hT : s.heap.get? T = none) (h : Q true s) : wpAny (model prog w) A (Builtin.SmallTypes.ownedTupleIsFree (.ref z)) Q E s := by
  have gone : ∀ {B : Around} {F : Value → Shared → Prop} {Q : Option Obj → Shared → Prop}, Q none s → wpAny (model prog w) B (loadIfAlive T) Q F s := fun {B F Q} q => by
    have q' : Q (s.heap.get? T) s := by rw [hT]; exact q
    exact fun _ _ _ => q'
  unfold Builtin.SmallTypes.ownedTupleIsFree
  refine wpAny_bind (wpAny_field hz rfl (x := rawInt T) rfl (show wpAny _ _ (loadIfAlive ((T : Int).toNat) >>= _) _ _ _ from ?_))
  rw [Int.toNat_natCast]
  refine wpAny_bind (gone ?_)
  simp only [Option.isNone_none, if_true]
  exact wpAny_pure h
/-- a turn of a zip that may lay its tuple anew -/
theorem ez_zip_free {z TI TO i1 i2 l1 l2 : Addr} {k : Nat} {f : Bool} {v : Value} {xs ys : Array Value} {x y a b : Value} {Q : Value → Shared → Prop} (D : ZipApart z TI TO i1 i2 l1 l2)
    (free : ∀ {B : Around} {F : Value → Shared → Prop} {Q : Bool → Shared → Prop}, Q true s → wpAny (model prog w) B (Builtin.SmallTypes.ownedTupleIsFree (.ref z)) Q F s) (hz : ZipF s.heap z TI TO v f) (hTI : IsPair s.heap TI (.ref i1) (.ref i2)) (hTO : IsPair s.heap TO a b)
    (h1 : s.heap.IsListIter i1 l1 k) (h2 : s.heap.IsListIter i2 l2 k) (hl1 : s.heap.IsList l1 xs) (hl2 : s.heap.IsList l2 ys) (hx : xs[k]? = some x) (hy : ys[k]? = some y)
    (hQ : ∀ h', ZipF h' z TI TO (rawInt s.heap.objs.size) false → IsPair h' TO x y → h'.IsListIter i1 l1 (k + 1) → h'.IsListIter i2 l2 (k + 1) → IsPair h' s.heap.objs.size x y → h'.objs.size = s.heap.objs.size + 1 →
      (∀ c o, c ≠ z → c ≠ TO → c ≠ i1 → c ≠ i2 → s.heap.get? c = some o → h'.get? c = some o) → Q (.ref s.heap.objs.size) { s with heap := h' }) :
    wpAny (model prog w) A (Builtin.«zip.__next__» ⟨[.ref z], []⟩) (fun fin s' => ∃ v, fin = .done (.ret v) ∧ Q v s') E s := by
  show wpAny _ _ (field (.ref z) 2 >>= _) _ _ _
  refine wpAny_bind (wpAny_field hz rfl (x := .bool false) rfl (show wpAny _ _ (field (.ref z) 3 >>= _) _ _ _ from wpAny_bind (wpAny_field hz rfl (x := .ref TI) rfl (wpAny_bind (wpAny_seqItems hTI rfl ?_)))))
  refine (show wpAny _ _ (Builtin.SmallTypes.ownedTupleIsFree (.ref z) >>= _) _ _ _ from wpAny_bind (free ?_))
  simp only [if_true]
  refine wpAny_bind (wpAny_rule (wpAny_bind (wpAny_field hz rfl (x := .ref TO) rfl (wpAny_bind (wpAny_setField_rec hz (by simp) fun ga za sa => wpAny_bind ?_)))))
  replace za : ZipF ga z TI TO .ellipsis f := za
  simp only [List.zipIdx_cons, List.zipIdx_nil, List.forIn_cons, List.forIn_nil]
  refine wpAny_bind (wpAny_bind (wpAny_onRaise (show wpAny _ _ (Builtin.SmallTypes.nextOf (.ref i1) >>= _) _ _ _ from wpAny_bind (wpAny_nextOf_list_item (h1.extBut sa.extBut D.i1z) (hl1.extBut sa.extBut D.l1z) hx fun gb ib sb => wpAny_pure ?_))))
  have tb : IsPair gb TO a b := sb.extBut _ _ D.TOi1 (sa.extBut _ _ D.TOz hTO)
  refine wpAny_bind (wpAny_seqItems tb rfl (wpAny_bind (wpAny_updateSeq_pair tb fun gc tc sc => wpAny_bind (wpAny_letGo (wpAny_pure ?_)))))
  replace tc : IsPair gc TO x b := tc
  refine wpAny_bind (wpAny_bind (wpAny_onRaise (show wpAny _ _ (Builtin.SmallTypes.nextOf (.ref i2) >>= _) _ _ _ from wpAny_bind (wpAny_nextOf_list_item (((h2.extBut sa.extBut D.i2z).extBut sb.extBut D.i12.symm).extBut sc.extBut D.TOi2.symm)
    (((hl2.extBut sa.extBut D.l2z).extBut sb.extBut D.l2i1).extBut sc.extBut D.l2TO) hy fun gd id sd => wpAny_pure ?_))))
  have td : IsPair gd TO x b := sd.extBut _ _ D.TOi2 tc
  refine wpAny_bind (wpAny_seqItems td rfl (wpAny_bind (wpAny_updateSeq_pair td fun ge te se => wpAny_bind (wpAny_letGo (wpAny_pure (wpAny_pure ?_))))))
  replace te : IsPair ge TO x y := te
  refine wpAny_bind (wpAny_seqItems te rfl (wpAny_bind (wpAny_newTuple ?_)))
  have sz : ge.objs.size = s.heap.objs.size := by rw [se.1, sd.1, sc.1, sb.1, sa.1]
  have ze : ZipF ge z TI TO .ellipsis f := se.extBut _ _ D.TOz.symm (sd.extBut _ _ D.i2z.symm (sc.extBut _ _ D.TOz.symm (sb.extBut _ _ D.i1z.symm za)))
  have ke : ∀ c o, c ≠ z → c ≠ TO → c ≠ i1 → c ≠ i2 → s.heap.get? c = some o → ge.get? c = some o := fun c o c1 c2 c3 c4 q => se.extBut _ _ c2 (sd.extBut _ _ c4 (sc.extBut _ _ c2 (sb.extBut _ _ c3 (sa.extBut _ _ c1 q))))
  have ie : ge.IsListIter i1 l1 (k + 1) := ((ib.extBut sc.extBut D.TOi1.symm).extBut sd.extBut D.i12).extBut se.extBut D.TOi1.symm
  have je : ge.IsListIter i2 l2 (k + 1) := id.extBut se.extBut D.TOi2.symm
  have lz : z < ge.objs.size := Heap.lt_size ze
  refine (show wpAny _ _ (Builtin.SmallTypes.ownedTupleHandOut (.ref z) (.ref ge.objs.size) >>= _) _ _ _ from wpAny_bind ?_)
  unfold Builtin.SmallTypes.ownedTupleHandOut
  have zp : ZipF (ge.push { cls := .type "tuple", data := .seq #[x, y] }) z TI TO .ellipsis f := Heap.get?_push_of_some _ ze
  refine wpAny_bind (wpAny_setField_rec zp (by simp) fun gp zq sp => ?_)
  replace zq : ZipF gp z TI TO (rawInt ge.objs.size) f := zq
  refine wpAny_setField_rec zq (by simp) fun gr zr sr => ?_
  replace zr : ZipF gr z TI TO (rawInt ge.objs.size) false := zr
  have up : ∀ c o, c ≠ z → ge.get? c = some o → gr.get? c = some o := fun c o c1 q => sr.extBut _ _ c1 (sp.extBut _ _ c1 (Heap.get?_push_of_some _ q))
  have tr : IsPair gr ge.objs.size x y := sr.extBut _ _ (Nat.ne_of_gt lz) (sp.extBut _ _ (Nat.ne_of_gt lz) (Heap.get?_push_size _ rfl))
  have zs : gr.objs.size = ge.objs.size + 1 := by rw [sr.1, sp.1, Heap.size_push]
  rw [sz] at zr tr zs
  refine wpAny_pure ⟨_, rfl, (show Q (.ref ge.objs.size) _ from ?_)⟩
  rw [sz]
  exact hQ gr zr (up _ _ D.TOz te) (ie.at fun o q => up _ o D.i1z q) (je.at fun o q => up _ o D.i2z q) tr zs fun c o c1 c2 c3 c4 q => up c o c1 (ke c o c1 c2 c3 c4 q)
/-- its end -/
theorem ez_zip_freeEnd {z TI TO i1 i2 l1 l2 : Addr} {k : Nat} {f : Bool} {v : Value} {xs ys : Array Value} {a b : Value} {Q : Fin → Shared → Prop} (hh : A.handled = none) (D : ZipApart z TI TO i1 i2 l1 l2)
    (free : ∀ {B : Around} {F : Value → Shared → Prop} {Q : Bool → Shared → Prop}, Q true s → wpAny (model prog w) B (Builtin.SmallTypes.ownedTupleIsFree (.ref z)) Q F s) (hz : ZipF s.heap z TI TO v f) (hTI : IsPair s.heap TI (.ref i1) (.ref i2)) (hTO : IsPair s.heap TO a b)
    (h1 : s.heap.IsListIter i1 l1 k) (h2 : s.heap.IsListIter i2 l2 k) (hl1 : s.heap.IsList l1 xs) (hl2 : s.heap.IsList l2 ys) (hend : xs[k]? = none ∨ ys[k]? = none)
    (hE : ∀ h' e, (∀ c o, c ≠ z → c ≠ TO → c ≠ i1 → c ≠ i2 → s.heap.get? c = some o → h'.get? c = some o) → (∃ o, h'.get? e = some o ∧ o.cls = .type "StopIteration") → E (.ref e) { s with heap := h' }) :
    wpAny (model prog w) A (Builtin.«zip.__next__» ⟨[.ref z], []⟩) Q E s := by
  show wpAny _ _ (field (.ref z) 2 >>= _) _ _ _
  refine wpAny_bind (wpAny_field hz rfl (x := .bool false) rfl (show wpAny _ _ (field (.ref z) 3 >>= _) _ _ _ from wpAny_bind (wpAny_field hz rfl (x := .ref TI) rfl (wpAny_bind (wpAny_seqItems hTI rfl ?_)))))
  refine (show wpAny _ _ (Builtin.SmallTypes.ownedTupleIsFree (.ref z) >>= _) _ _ _ from wpAny_bind (free ?_))
  simp only [if_true]
  refine wpAny_bind (wpAny_rule (wpAny_bind (wpAny_field hz rfl (x := .ref TO) rfl (wpAny_bind (wpAny_setField_rec hz (by simp) fun ga za sa => wpAny_bind ?_)))))
  replace za : ZipF ga z TI TO .ellipsis f := za
  simp only [List.zipIdx_cons, List.zipIdx_nil, List.forIn_cons, List.forIn_nil]
  cases hx : xs[k]? with
  | none =>
    refine wpAny_bind (wpAny_bind (wpAny_onRaise (show wpAny _ _ (Builtin.SmallTypes.nextOf (.ref i1) >>= _) _ _ _ from wpAny_bind (wpAny_nextOf_list_end hh (h1.extBut sa.extBut D.i1z) (hl1.extBut sa.extBut D.l1z) hx fun gb u sb hu => ?_))))
    obtain ⟨ou, hou, hcu⟩ := hu
    have zb : ZipF gb z TI TO .ellipsis f := sb _ _ D.i1z.symm za
    have uz : u ≠ z := fun q => by rw [q, zb] at hou; cases hou; simp at hcu
    exact wpAny_setField_rec zb (by simp) fun gc _ sc => hE gc u (fun c o c1 _ c3 _ q => sc.extBut _ _ c1 (sb _ _ c3 (sa.extBut _ _ c1 q))) ⟨ou, sc.extBut _ _ uz hou, hcu⟩
  | some x =>
    have hy : ys[k]? = none := hend.elim (fun q => by rw [hx] at q; cases q) fun q => q
    refine wpAny_bind (wpAny_bind (wpAny_onRaise (show wpAny _ _ (Builtin.SmallTypes.nextOf (.ref i1) >>= _) _ _ _ from wpAny_bind (wpAny_nextOf_list_item (h1.extBut sa.extBut D.i1z) (hl1.extBut sa.extBut D.l1z) hx fun gb ib sb => wpAny_pure ?_))))
    have tb : IsPair gb TO a b := sb.extBut _ _ D.TOi1 (sa.extBut _ _ D.TOz hTO)
    refine wpAny_bind (wpAny_seqItems tb rfl (wpAny_bind (wpAny_updateSeq_pair tb fun gc tc sc => wpAny_bind (wpAny_letGo (wpAny_pure ?_)))))
    refine wpAny_bind (wpAny_bind (wpAny_onRaise (show wpAny _ _ (Builtin.SmallTypes.nextOf (.ref i2) >>= _) _ _ _ from wpAny_bind (wpAny_nextOf_list_end hh (((h2.extBut sa.extBut D.i2z).extBut sb.extBut D.i12.symm).extBut sc.extBut D.TOi2.symm)
      (((hl2.extBut sa.extBut D.l2z).extBut sb.extBut D.l2i1).extBut sc.extBut D.l2TO) hy fun gd u sd hu => ?_))))
    obtain ⟨ou, hou, hcu⟩ := hu
    have zd : ZipF gd z TI TO .ellipsis f := sd _ _ D.i2z.symm (sc.extBut _ _ D.TOz.symm (sb.extBut _ _ D.i1z.symm za))
    have uz : u ≠ z := fun q => by rw [q, zd] at hou; cases hou; simp at hcu
    exact wpAny_setField_rec zd (by simp) fun ge _ se => hE ge u (fun c o c1 c2 c3 c4 q => se.extBut _ _ c1 (sd _ _ c4 (sc.extBut _ _ c2 (sb.extBut _ _ c3 (sa.extBut _ _ c1 q))))) ⟨ou, se.extBut _ _ uz hou, hcu⟩
/-- a zip of two lists, its tuple out or not -/
structure ZSt (h : Heap) (z TI TO i1 i2 l1 l2 : Addr) (k : Nat) : Prop where
  ti : IsPair h TI (.ref i1) (.ref i2)
  to : ∃ a b, IsPair h TO a b
  h1 : h.IsListIter i1 l1 k
  h2 : h.IsListIter i2 l2 k
  zz : IsZip h z TI TO .none ∨ ∃ (T : Addr) (f : Bool), IsZipHeld h z TI TO T f
theorem ez_zip_item {z TI TO i1 i2 l1 l2 : Addr} {k : Nat} {xs ys : Array Value} {x y : Value} {Q : Value → Shared → Prop} (D : ZipApart z TI TO i1 i2 l1 l2) (Z : ZSt s.heap z TI TO i1 i2 l1 l2 k)
    (hl1 : s.heap.IsList l1 xs) (hl2 : s.heap.IsList l2 ys) (hx : xs[k]? = some x) (hy : ys[k]? = some y)
    (hQ : ∀ h', ZSt h' z TI TO i1 i2 l1 l2 (k + 1) → IsPair h' s.heap.objs.size x y → h'.objs.size = s.heap.objs.size + 1 → (∀ c o, c ∉ [z, TO, i1, i2] → s.heap.get? c = some o → h'.get? c = some o) → Q (.ref s.heap.objs.size) { s with heap := h' }) :
    wpAny (model prog w) A (Builtin.«zip.__next__» ⟨[.ref z], []⟩) (fun fin s' => ∃ v, fin = .done (.ret v) ∧ Q v s') E s := by
  obtain ⟨ti, ⟨a, b, to⟩, h1, h2, zz⟩ := Z
  rcases zz with zz | ⟨T, f, zz⟩
  · refine zip_next_item D zz ti to h1 h2 hl1 hl2 hx hy fun h' a1 a2 a3 a4 a5 a6 a7 => ?_
    exact hQ h' ⟨a7 _ _ D.TIz D.TITO D.TIi1 D.TIi2 ti, ⟨x, y, a2⟩, a3, a4, .inr ⟨_, false, a1⟩⟩ a5 a6 fun c o hc e => by
      simp only [List.mem_cons, List.not_mem_nil, or_false, not_or] at hc
      exact a7 c o hc.1 hc.2.1 hc.2.2.1 hc.2.2.2 e
  · cases hT : s.heap.get? T with
    | some oT =>
      refine zip_next_item_held D zz hT ti h1 h2 hl1 hl2 hx hy fun h' a1 a2 a3 a4 a5 a6 => ?_
      exact hQ h' ⟨a6 _ _ D.TIz D.TIi1 D.TIi2 ti, ⟨a, b, a6 _ _ D.TOz D.TOi1 D.TOi2 to⟩, a2, a3, .inr ⟨T, true, a1⟩⟩ a4 a5 fun c o hc e => by
        simp only [List.mem_cons, List.not_mem_nil, or_false, not_or] at hc
        exact a6 c o hc.1 hc.2.2.1 hc.2.2.2 e
    | none =>
      refine ez_zip_free D (fun {B F Q} q => ez_gone zz hT q) zz ti to h1 h2 hl1 hl2 hx hy fun h' a1 a2 a3 a4 a5 a6 a7 => ?_
      exact hQ h' ⟨a7 _ _ D.TIz D.TITO D.TIi1 D.TIi2 ti, ⟨x, y, a2⟩, a3, a4, .inr ⟨_, false, a1⟩⟩ a5 a6 fun c o hc e => by
        simp only [List.mem_cons, List.not_mem_nil, or_false, not_or] at hc
        exact a7 c o hc.1 hc.2.1 hc.2.2.1 hc.2.2.2 e
theorem ZSt.typ {z TI TO i1 i2 l1 l2 : Addr} {k : Nat} (Z : ZSt s.heap z TI TO i1 i2 l1 l2 k) : s.TypeIs (.ref z) "zip" := by
  rcases Z.zz with q | ⟨_, _, q⟩
  · exact ⟨_, q, rfl⟩
  · exact ⟨_, q, rfl⟩
theorem ez_nextOf_item {z TI TO i1 i2 l1 l2 : Addr} {k : Nat} {xs ys : Array Value} {x y : Value} {Q : Value → Shared → Prop} (D : ZipApart z TI TO i1 i2 l1 l2) (Z : ZSt s.heap z TI TO i1 i2 l1 l2 k)
    (hl1 : s.heap.IsList l1 xs) (hl2 : s.heap.IsList l2 ys) (hx : xs[k]? = some x) (hy : ys[k]? = some y)
    (hQ : ∀ h', ZSt h' z TI TO i1 i2 l1 l2 (k + 1) → IsPair h' s.heap.objs.size x y → h'.objs.size = s.heap.objs.size + 1 → (∀ c o, c ∉ [z, TO, i1, i2] → s.heap.get? c = some o → h'.get? c = some o) → Q (.ref s.heap.objs.size) { s with heap := h' }) :
    wpAny (model prog w) A (Builtin.SmallTypes.nextOf (.ref z)) Q E s := by
  unfold Builtin.SmallTypes.nextOf
  exact wpAny_bind (wpAny_callSpecial?_slot (name := Str.ofString "__next__") Z.typ F.slot_zip_next (wpAny_call_entry F.slot_zip_next Z.typ F.entry_zip_next (ez_zip_item D Z hl1 hl2 hx hy fun h' a b c d => wpAny_pure (hQ h' a b c d)) (F.args_zip_next_1 _)))
theorem ez_nextOf_end {z TI TO i1 i2 l1 l2 : Addr} {k : Nat} {xs ys : Array Value} {Q : Value → Shared → Prop} (hh : A.handled = none) (D : ZipApart z TI TO i1 i2 l1 l2) (Z : ZSt s.heap z TI TO i1 i2 l1 l2 k)
    (hl1 : s.heap.IsList l1 xs) (hl2 : s.heap.IsList l2 ys) (hend : xs[k]? = none ∨ ys[k]? = none)
    (hE : ∀ h' e, (∀ c o, c ∉ [z, TO, i1, i2] → s.heap.get? c = some o → h'.get? c = some o) → (∃ o, h'.get? e = some o ∧ o.cls = .type "StopIteration") → E (.ref e) { s with heap := h' }) :
    wpAny (model prog w) A (Builtin.SmallTypes.nextOf (.ref z)) Q E s := by
  have tp := Z.typ
  obtain ⟨ti, ⟨a, b, to⟩, h1, h2, zz⟩ := Z
  unfold Builtin.SmallTypes.nextOf
  refine wpAny_bind (wpAny_callSpecial?_slot (name := Str.ofString "__next__") tp F.slot_zip_next (wpAny_call_entry F.slot_zip_next tp F.entry_zip_next ?_ (F.args_zip_next_1 _)))
  have wk : ∀ {h' : Heap}, (∀ c o, c ≠ z → c ≠ TO → c ≠ i1 → c ≠ i2 → s.heap.get? c = some o → h'.get? c = some o) → ∀ c o, c ∉ [z, TO, i1, i2] → s.heap.get? c = some o → h'.get? c = some o := fun hk c o hc q => by
    simp only [List.mem_cons, List.not_mem_nil, or_false, not_or] at hc
    exact hk c o hc.1 hc.2.1 hc.2.2.1 hc.2.2.2 q
  rcases zz with zz | ⟨T, f, zz⟩
  · exact zip_next_end hh D zz ti to h1 h2 hl1 hl2 hend fun h' e hk he => hE h' e (wk hk) he
  · cases hT : s.heap.get? T with
    | some oT => exact zip_next_end_held hh D zz hT ti h1 h2 hl1 hl2 hend fun h' e hk he => hE h' e (wk fun c o c1 _ c3 c4 => hk c o c1 c3 c4) he
    | none => exact ez_zip_freeEnd hh D (fun {B F Q} q => ez_gone zz hT q) zz ti to h1 h2 hl1 hl2 hend fun h' e hk he => hE h' e (wk hk) he
/-- one turn of an enumerate, whose inner turn lays one object -/
theorem ez_enum_next {e it : Addr} {i : Nat} {old : Value} {R : Value → Heap → Prop} {wr : List Addr} {Q : Value → Shared → Prop}
    (inner : ∀ Q : Value → Shared → Prop, (∀ x g, R x g → g.objs.size = s.heap.objs.size + 1 → (∀ b o, b ∉ wr → s.heap.get? b = some o → g.get? b = some o) → Q x { s with heap := g }) → wpAny (model prog w) A (Builtin.SmallTypes.nextOf (.ref it)) Q E s)
    (he : IsEnum s.heap e it i old) (hew : e ∉ wr)
    (hQ : ∀ x g h', R x g → g.objs.size = s.heap.objs.size + 1 → (∀ b o, b ∉ wr → s.heap.get? b = some o → g.get? b = some o) → IsEnumOut h' e it ((i : Int) + 1) x (s.heap.objs.size + 1) →
      h'.get? (s.heap.objs.size + 1) = some { cls := .type "tuple", data := .seq #[.int i s.toks, x] } → h'.objs.size = s.heap.objs.size + 2 →
      (∀ b o, b ≠ e → g.get? b = some o → h'.get? b = some o) → Q (.ref (s.heap.objs.size + 1)) { s with heap := h', toks := s.toks + 1 }) :
    wpAny (model prog w) A (Builtin.«enumerate.__next__» ⟨[.ref e], []⟩) (fun fin s' => ∃ v, fin = .done (.ret v) ∧ Q v s') E s := by
  obtain ⟨hp, gs, dr, tk, os⟩ := s
  show wpAny _ _ (field (.ref e) 2 >>= _) _ _ _
  refine wpAny_bind (wpAny_field he rfl (x := .ref it) rfl (wpAny_bind (inner _ fun x ga hR hgs hgk => ?_)))
  replace hgs : ga.objs.size = hp.objs.size + 1 := hgs
  replace hgk : ∀ b o, b ∉ wr → hp.get? b = some o → ga.get? b = some o := hgk
  have ea : IsEnum ga e it i old := hgk e _ hew he
  show wpAny _ _ (field (.ref e) 3 >>= _) _ _ ⟨ga, gs, dr, tk, os⟩
  refine wpAny_bind (wpAny_field ea rfl (x := rawInt i) rfl ?_)
  show wpAny _ _ (field (.ref e) 4 >>= _) _ _ ⟨ga, gs, dr, tk, os⟩
  refine wpAny_bind (wpAny_field ea rfl (x := .none) rfl ?_)
  show wpAny _ _ (mkInt i >>= _) _ _ ⟨ga, gs, dr, tk, os⟩
  refine wpAny_bind (wpAny_mkInt ?_)
  show wpAny _ _ (setField (.ref e) 3 (rawInt ((i : Int) + 1)) >>= _) _ _ ⟨ga, gs, dr, tk + 1, os⟩
  refine wpAny_bind (wpAny_setField_rec ea (by simp) fun gb eb sb => ?_)
  replace sb : Heap.SameBut e ga gb := sb
  replace eb : IsEnum gb e it ((i : Int) + 1) old := eb
  show wpAny _ _ (setField (.ref e) 4 .none >>= _) _ _ ⟨gb, gs, dr, tk + 1, os⟩
  refine wpAny_bind (wpAny_setField_rec eb (by simp) fun gc ec sc => ?_)
  replace sc : Heap.SameBut e gb gc := sc
  replace ec : IsEnum gc e it ((i : Int) + 1) old := ec
  show wpAny _ _ (newTuple [.int i tk, x] >>= _) _ _ ⟨gc, gs, dr, tk + 1, os⟩
  refine wpAny_bind (wpAny_newTuple ?_)
  have ed : IsEnum (gc.push { cls := .type "tuple", data := .seq #[.int i tk, x] }) e it ((i : Int) + 1) old := Heap.get?_push_of_some _ ec
  generalize hgd : gc.push { cls := .type "tuple", data := .seq #[.int i tk, x] } = gd at ed
  have zc : gc.objs.size = hp.objs.size + 1 := by rw [sc.1, sb.1, hgs]
  have le : e < hp.objs.size := Heap.lt_size he
  have td : gd.get? (hp.objs.size + 1) = some { cls := .type "tuple", data := .seq #[.int i tk, x] } := by rw [← hgd, ← zc]; exact Heap.get?_push_size _ rfl
  have zd : gd.objs.size = hp.objs.size + 2 := by rw [← hgd, Heap.size_push, zc]
  have kd : ∀ b o, b ≠ e → ga.get? b = some o → gd.get? b = some o := fun b o hb q => by rw [← hgd]; exact Heap.get?_push_of_some _ (sc.extBut b o hb (sb.extBut b o hb q))
  show wpAny _ _ (Builtin.SmallTypes.ownedTupleIsFree (.ref e) >>= _) _ _ ⟨gd, gs, dr, tk + 1, os⟩
  rw [zc]
  refine wpAny_bind ?_
  unfold Builtin.SmallTypes.ownedTupleIsFree
  refine wpAny_bind (wpAny_field ed rfl (x := .none) rfl (wpAny_pure ?_))
  simp only [if_true]
  refine wpAny_bind (wpAny_rule (wpAny_bind (wpAny_field ed rfl (x := old) rfl ?_)))
  refine wpAny_bind (wpAny_setField_rec ed (by simp) fun gf ef sf => ?_)
  replace sf : Heap.SameBut e gd gf := sf
  replace ef : IsEnum gf e it ((i : Int) + 1) x := ef
  show wpAny _ _ (Builtin.SmallTypes.ownedTupleHandOut (.ref e) (.ref (hp.objs.size + 1)) >>= _) _ _ ⟨gf, gs, dr, tk + 1, os⟩
  refine wpAny_bind ?_
  unfold Builtin.SmallTypes.ownedTupleHandOut
  refine wpAny_bind (wpAny_setField_rec ef (by simp) fun gh eh sh => ?_)
  replace sh : Heap.SameBut e gf gh := sh
  replace eh : IsEnumOut gh e it ((i : Int) + 1) x (hp.objs.size + 1) := eh
  refine wpAny_setField_rec eh (by simp) fun gj ej sj => ?_
  replace sj : Heap.SameBut e gh gj := sj
  replace ej : IsEnumOut gj e it ((i : Int) + 1) x (hp.objs.size + 1) := ej
  have up : ∀ b o, b ≠ e → gd.get? b = some o → gj.get? b = some o := fun b o hb q => sj.extBut b o hb (sh.extBut b o hb (sf.extBut b o hb q))
  have ne : hp.objs.size + 1 ≠ e := Nat.ne_of_gt (Nat.lt_succ_of_lt le)
  refine wpAny_bind (wpAny_letGo (wpAny_pure ⟨_, rfl, hQ x ga gj hR hgs hgk ej (up _ _ ne td) ?_ fun b o hb q => up b o hb (kd b o hb q)⟩))
  show gj.objs.size = _
  rw [sj.1, sh.1, sf.1, zd]
theorem ez_pyNext_item {e z TI TO i1 i2 l1 l2 : Addr} {k : Nat} {old : Value} {xs ys : Array Value} {x y : Value} {Q : Option Value → Shared → Prop} (D : ZipApart z TI TO i1 i2 l1 l2) (Z : ZSt s.heap z TI TO i1 i2 l1 l2 k)
    (hl1 : s.heap.IsList l1 xs) (hl2 : s.heap.IsList l2 ys) (hx : xs[k]? = some x) (hy : ys[k]? = some y) (he : IsEnum s.heap e z k old) (hew : e ∉ [z, TO, i1, i2])
    (hQ : ∀ g h', ZSt g z TI TO i1 i2 l1 l2 (k + 1) → IsPair g s.heap.objs.size x y → g.objs.size = s.heap.objs.size + 1 → (∀ c o, c ∉ [z, TO, i1, i2] → s.heap.get? c = some o → g.get? c = some o) → IsEnumOut h' e z ((k : Int) + 1) (.ref s.heap.objs.size) (s.heap.objs.size + 1) →
      h'.get? (s.heap.objs.size + 1) = some { cls := .type "tuple", data := .seq #[.int k s.toks, .ref s.heap.objs.size] } → h'.objs.size = s.heap.objs.size + 2 →
      (∀ b o, b ≠ e → g.get? b = some o → h'.get? b = some o) → Q (some (.ref (s.heap.objs.size + 1))) { s with heap := h', toks := s.toks + 1 }) : wpAny (model prog w) A (pyNext (.ref e)) Q E s := by
  have hT : s.TypeIs (.ref e) "enumerate" := ⟨_, he, rfl⟩
  unfold pyNext
  refine wpAny_bind (wpAny_attempt (wpAny_callSpecial?_slot (name := Str.ofString "__next__") hT F.slot_enumerate_next (wpAny_call_entry F.slot_enumerate_next hT F.entry_enumerate_next ?_ (F.args_enumerate_next_1 _))))
  refine ez_enum_next (wr := [z, TO, i1, i2]) (R := fun v g => v = .ref s.heap.objs.size ∧ ZSt g z TI TO i1 i2 l1 l2 (k + 1) ∧ IsPair g s.heap.objs.size x y) (fun Q hq => ?_) he hew fun v g h' r a b c d f m => ?_
  · exact ez_nextOf_item D Z hl1 hl2 hx hy fun h' a b c d => hq _ h' ⟨rfl, a, b⟩ c d
  · obtain ⟨rfl, r1, r2⟩ := r
    exact wpAny_pure (hQ g h' r1 r2 a b c d f m)
theorem ez_pyNext_end {e z TI TO i1 i2 l1 l2 : Addr} {k : Nat} {c : Int} {old : Value} {xs ys : Array Value} {Q : Option Value → Shared → Prop} (hh : A.handled = none) (D : ZipApart z TI TO i1 i2 l1 l2) (Z : ZSt s.heap z TI TO i1 i2 l1 l2 k)
    (hl1 : s.heap.IsList l1 xs) (hl2 : s.heap.IsList l2 ys) (hend : xs[k]? = none ∨ ys[k]? = none) (he : IsEnum s.heap e z c old)
    (hQ : ∀ h', (∀ c o, c ∉ [z, TO, i1, i2] → s.heap.get? c = some o → h'.get? c = some o) → Q none { s with heap := h' }) : wpAny (model prog w) A (pyNext (.ref e)) Q E s := by
  have hT : s.TypeIs (.ref e) "enumerate" := ⟨_, he, rfl⟩
  unfold pyNext
  refine wpAny_bind (wpAny_attempt (wpAny_callSpecial?_slot (name := Str.ofString "__next__") hT F.slot_enumerate_next (wpAny_call_entry F.slot_enumerate_next hT F.entry_enumerate_next ?_ (F.args_enumerate_next_1 _))))
  show wpAny _ _ (field (.ref e) 2 >>= _) _ _ _
  refine wpAny_bind (wpAny_field he rfl (x := .ref z) rfl (wpAny_bind (ez_nextOf_end hh D Z hl1 hl2 hend fun g u hk hu => ?_)))
  obtain ⟨o, ho, hc⟩ := hu
  exact wpAny_bind (wpAny_isInstance (T := "StopIteration") (b := true) ⟨o, ho, hc⟩ isSubtype_stop (wpAny_pure (hQ _ hk)))
/-! ### enumerate(z), z a zip -/
theorem meets_enumerate_zip (z TI TO : Addr) :
    Meets (Builtin.«enumerate.__new__» ⟨[.type "enumerate", .ref z], []⟩) (fun _ R s => IsZip s.heap z TI TO .none ∧
      R (.ok (.ret (.ref s.heap.objs.size))) { s with heap := s.heap.push { cls := .type "enumerate", data := .fields #[.none, .bool false, .ref z, rawInt 0, .none, .none] } }) :=
  .of_wp fun prog w A R s h => by
    obtain ⟨hp, g, d, tk, os⟩ := s; obtain ⟨hz, h⟩ := h
    have hsub := sub_enumerate
    have hZ : IsZip (Shared.heap ⟨hp, g, d, tk, os⟩) z TI TO .none := hz
    wp_walk using wpAny_pyIter_zip hZ
    refine wpAny_stack_any fun st => wpAny_pure ?_
    split
    · rename_i c _ _ _ _ _
      cases (c == Value.type "enumerate")
      · wp_walk using wpAny_pyIter_zip hZ
        exact ⟨_, rfl, h⟩
      · wp_walk using wpAny_pyIter_zip hZ
        exact ⟨_, rfl, h⟩
    · wp_walk using wpAny_pyIter_zip hZ
      exact ⟨_, rfl, h⟩
theorem call_enumerate_zip {z TI TO : Addr} {Q : Value → Shared → Prop} (hz : IsZip s.heap z TI TO .none)
    (h : ∀ h', IsEnum h' s.heap.objs.size z 0 .none → h'.objs.size = s.heap.objs.size + 1 → (∀ b o, s.heap.get? b = some o → h'.get? b = some o) → Q (.ref s.heap.objs.size) { s with heap := h' }) :
    wpAny (model prog w) A (call (.type "enumerate") [.ref z]) Q E s := by
  refine callType_new F.called_enumerate (by decide) (F.typeCall_enumerate_1 _) (F.newCall_enumerate_1 _) (fun obj => F.args_object_init_2 obj _) F.entry_enumerate_new (meets_enumerate_zip z TI TO) ⟨hz, ?_⟩
  have he : IsEnum (s.heap.push { cls := .type "enumerate", data := .fields #[.none, .bool false, .ref z, rawInt 0, .none, .none] }) s.heap.objs.size z 0 .none := Heap.get?_push_size _ rfl
  exact ⟨⟨_, he, rfl⟩, h _ he (Heap.size_push ..) fun b o q => Heap.get?_push_of_some _ q⟩
end
end PySem
namespace Dl
open PySem PySem.Spec PyProof.Rows L2
/-! ### the turn -/
def Itez (K : PySem.W.Frag) (a b : Addr) : It :=
  ⟨fun i H => ∃ (xs ys : List V) (x y : V), SqL K H a xs ∧ SqL K H b ys ∧ xs[i]? = some x ∧ ys[i]? = some y,
    fun i H v H' => ∃ T U x y, v = .ref U ∧ H T = none ∧ H U = none ∧ U ≠ T ∧ H' = upd (upd H T (.tup [x, y])) U (.tup [.int (i : Nat), .ref T]) ∧ (∀ xs, SqL K H a xs → xs[i]? = some x) ∧ ∀ ys, SqL K H b ys → ys[i]? = some y,
    fun i H => ∃ xs ys : List V, SqL K H a xs ∧ SqL K H b ys ∧ (xs.length ≤ i ∨ ys.length ≤ i)⟩
theorem fpOk_upd {X : Cx} {pins : List (Addr × Obj)} {H : Hp} {b T : Addr} {o : HO} (h : FpOk X pins H b) (n : b ≠ T) : FpOk X pins (upd H T o) b := ⟨by rw [upd_ne n]; exact h.1, h.2⟩
theorem turn_ez {P : Program} {w : World} {K : PySem.W.Frag} {elts : List Expr} {kk : Nat} {tpos : Pos} {e a b z TI TO i1 i2 : Addr} (D : ZipApart z TI TO i1 i2 a b) (en : e ∉ [z, TI, TO, i1, i2]) :
    Turn P w K (.Tuple elts kk tpos) (Itez K a b) [e, z, TI, TO, i1, i2] e (fun i h => (∃ old, IsEnum h e z ((i : Nat) : Int) old) ∧ ZSt h z TI TO i1 i2 a b i) where
  mem := by simp
  obj := fun i h st c hc => by
    obtain ⟨⟨old, he⟩, hTI, ⟨x, y, hTO⟩, ⟨o1, e1, _, d1⟩, ⟨o2, e2, _, d2⟩, zz⟩ := st
    have e' : c = e ∨ c = z ∨ c = TI ∨ c = TO ∨ c = i1 ∨ c = i2 := by simpa using hc
    rcases e' with q | q | q | q | q | q
    · rw [q]; exact ⟨_, he, fun v q => nomatch q⟩
    · rw [q]
      rcases zz with zz | ⟨T, f, zz⟩
      · exact ⟨_, zz, fun v q => nomatch q⟩
      · exact ⟨_, zz, fun v q => nomatch q⟩
    · rw [q]; exact ⟨_, hTI, fun v q => nomatch q⟩
    · rw [q]; exact ⟨_, hTO, fun v q => nomatch q⟩
    · rw [q]; exact ⟨o1, e1, fun v q => by rw [d1] at q; cases q⟩
    · rw [q]; exact ⟨o2, e2, fun v q => by rw [d2] at q; cases q⟩
  keep := fun i h h' st k => by
    obtain ⟨⟨old, he⟩, hTI, ⟨x, y, hTO⟩, h1, h2, zz⟩ := st
    refine ⟨⟨old, k e (by simp) _ he⟩, k TI (by simp) _ hTI, ⟨x, y, k TO (by simp) _ hTO⟩, h1.at fun o q => k i1 (by simp) o q, h2.at fun o q => k i2 (by simp) o q, ?_⟩
    rcases zz with zz | ⟨T, f, zz⟩
    · exact .inl (k z (by simp) _ zz)
    · exact .inr ⟨T, f, k z (by simp) _ zz⟩
  item := by
    intro X hP hw hK hc i pins s σ H E I hf st hg
    subst hP hw hK
    obtain ⟨⟨old, he⟩, Z⟩ := st
    obtain ⟨xs, ys, x, y, hqx, hqy, hx, hy⟩ := hg
    obtain ⟨its, rv, p, _⟩ := I.list hqx
    obtain ⟨its2, rv2, p2, _⟩ := I.list hqy
    obtain ⟨u, hu, ru⟩ := rv.get hx
    obtain ⟨u2, hu2, ru2⟩ := rv2.get hy
    simp only [List.mem_cons, List.not_mem_nil, or_false, not_or] at en
    obtain ⟨ez, eI, eO, e1, e2⟩ := en
    have lt : ∀ c ∈ [e, z, TI, TO, i1, i2], c < s.heap.objs.size := fun c hc => by
      obtain ⟨hTI, ⟨_, _, hTO⟩, ⟨o1, q1, _⟩, ⟨o2, q2, _⟩, zz⟩ := Z
      have e' : c = e ∨ c = z ∨ c = TI ∨ c = TO ∨ c = i1 ∨ c = i2 := by simpa using hc
      rcases e' with q | q | q | q | q | q
      · rw [q]; exact Heap.lt_size he
      · rw [q]
        rcases zz with zz | ⟨T, f, zz⟩
        · exact Heap.lt_size zz
        · exact Heap.lt_size zz
      · rw [q]; exact Heap.lt_size hTI
      · rw [q]; exact Heap.lt_size hTO
      · rw [q]; exact Heap.lt_size q1
      · rw [q]; exact Heap.lt_size q2
    refine ez_pyNext_item D Z p.isList p2.isList (x := u) (y := u2) (by simpa using hu) (by simpa using hu2) he (by simp [ez, eO, e1, e2]) fun g h' Zg hp hgs hgk he' hU hs hk => ?_
    have le : e < s.heap.objs.size := lt e (by simp)
    refine ⟨_, rfl, wpAny_letOwnedTupleGo_enum (s := { s with heap := h', toks := s.toks + 1 }) he' fun h'' he'' sb => ?_⟩
    have hT : g.get? s.heap.objs.size = some { cls := .type "tuple", data := .seq #[u, u2] } := hp
    have newT : ObjOk X.prog X.w (upd H s.heap.objs.size (.tup [x, y])) g s.heap.objs.size (.tup [x, y]) := ⟨by show 2 ≤ sizeLine; decide, [u, u2], .cons ru (.cons ru2 .nil), ⟨_, hT, rfl, _, rfl⟩⟩
    have I1 : Inv X pins σ (upd H s.heap.objs.size (.tup [x, y])) { s with heap := g } := I.turnedNew (t' := s.toks) (ch := [z, TO, i1, i2]) hgk (fun b hb => hf b (by simp at hb ⊢; rcases hb with q | q | q | q <;> simp [q])) (Nat.le_refl _) newT
    have hU2 : h''.get? (s.heap.objs.size + 1) = some { cls := .type "tuple", data := .seq #[.int i s.toks, .ref s.heap.objs.size] } := (sb.2 _ (Nat.ne_of_gt (Nat.lt_succ_of_lt le))).trans hU
    have newU : ObjOk X.prog X.w (upd (upd H s.heap.objs.size (.tup [x, y])) (s.heap.objs.size + 1) (.tup [.int (i : Nat), .ref s.heap.objs.size])) h'' (s.heap.objs.size + 1) (.tup [.int (i : Nat), .ref s.heap.objs.size]) :=
      ⟨by show 2 ≤ sizeLine; decide, [.int i s.toks, .ref s.heap.objs.size], .cons ⟨_, rfl⟩ (.cons rfl .nil), ⟨_, hU2, rfl, _, rfl⟩⟩
    have ke : ∀ b o, b ≠ e → g.get? b = some o → h''.get? b = some o := fun b o hb q => (sb.2 b hb).trans (hk b o hb q)
    have I2 : Inv X pins σ (upd (upd H s.heap.objs.size (.tup [x, y])) (s.heap.objs.size + 1) (.tup [.int (i : Nat), .ref s.heap.objs.size])) { s with heap := h'', toks := s.toks + 1 } :=
      I1.turnedNew (t' := s.toks + 1) (ch := [e]) (fun b o hb q => ke b o (fun z => hb (by simp [z])) q) (fun b hb => fpOk_upd (hf b (by simp at hb; simp [hb])) (fun q => by
        have hb' : b = e := by simpa using hb
        rw [hb'] at q
        exact absurd le (by rw [q]; exact Nat.lt_irrefl _))) (by show g.objs.size ≤ _; rw [hgs]; exact Nat.le_refl _) newU
    have fresh : ∀ n, s.heap.objs.size ≤ n → H n = none := fun n hn => I.hok.fresh hn
    refine ⟨.ref (s.heap.objs.size + 1), _, I2, rfl, ⟨_, _, x, y, rfl, fresh _ (Nat.le_refl _), fresh _ (Nat.le_succ _), Nat.succ_ne_self _, rfl, fun l hl => by rw [I.list_inj hl hqx]; exact hx, fun l hl => by rw [I.list_inj hl hqy]; exact hy⟩, ⟨⟨.ref s.heap.objs.size, ?_⟩, ?_⟩, fun c hcm => ?_⟩
    · have q1 : ((i + 1 : Nat) : Int) = (i : Int) + 1 := by omega
      rw [q1]; exact he''
    · obtain ⟨hTI, ⟨x', y', hTO⟩, h1, h2, zz⟩ := Zg
      refine ⟨ke _ _ (Ne.symm eI) hTI, ⟨x', y', ke _ _ (Ne.symm eO) hTO⟩, h1.at fun o q => ke _ o (Ne.symm e1) q, h2.at fun o q => ke _ o (Ne.symm e2) q, ?_⟩
      rcases zz with zz | ⟨T, f, zz⟩
      · exact .inl (ke _ _ (Ne.symm ez) zz)
      · exact .inr ⟨T, f, ke _ _ (Ne.symm ez) zz⟩
    · have hlt := lt c hcm
      rw [upd_ne (Nat.ne_of_lt (Nat.lt_succ_of_lt hlt)), upd_ne (Nat.ne_of_lt hlt)]
      exact (hf c hcm).1
  done := by
    intro X hP hw hK hc i pins s σ H E I hf st hg
    subst hP hw hK
    obtain ⟨⟨old, he⟩, Z⟩ := st
    obtain ⟨xs, ys, hqx, hqy, hend⟩ := hg
    obtain ⟨its, rv, p, _⟩ := I.list hqx
    obtain ⟨its2, rv2, p2, _⟩ := I.list hqy
    have m1 := rv.length
    have m2 := rv2.length
    have hn : its.toArray[i]? = none ∨ its2.toArray[i]? = none := hend.elim (fun q => .inl (by simp; omega)) fun q => .inr (by simp; omega)
    exact ez_pyNext_end (I.ok.hd hc) D Z p.isList p2.isList hn he fun h' hk => ⟨rfl, I.turnedL (t' := s.toks) (ch := [z, TO, i1, i2]) hk fun b hb => hf b (by simp at hb ⊢; rcases hb with q | q | q | q <;> simp [q])⟩
  self := fun A i s Q E st h => let ⟨⟨_, he⟩, _⟩ := st; wpAny_pyIter_enum he h
end Dl

namespace Dl
open PySem PySem.Spec PyProof.Rows L2
/-! ### enumerate(zip(a, b)) -/
def iEz (K : PySem.W.Frag) (ta : TA) : TI := fun σ H R => ta σ H fun vs H1 => ∃ a b xs ys, vs = [.ref a, .ref b] ∧ SqL K H1 a xs ∧ SqL K H1 b ys ∧ R (Itez K a b) H1
theorem pi_ez {X : Cx} {e e2 : Expr} {ta : TA} {p p2 pos pos2 tpos : Pos} {elts : List Expr} {kk : Nat} (hg : Gl X "enumerate") (hm : X.mg "enumerate" = none) (hg2 : Gl X "zip") (hm2 : X.mg "zip" = none) (ha : PA X [e, e2] ta)
    (hs0 : starEach [.Call (.Name "zip" p2) [e, e2] [] pos2] X.env = (false, eval (.Call (.Name "zip" p2) [e, e2] [] pos2) X.env) :: starEach [] X.env := by rfl)
    (hs : starEach [e, e2] X.env = (false, eval e X.env) :: starEach [e2] X.env := by rfl) (hpl : (backTo pos2 (starEach [e2] X.env)).any (·.1) = false := by rfl) :
    PI X (.Tuple elts kk tpos) (.Call (.Name "enumerate" p) [.Call (.Name "zip" p2) [e, e2] [] pos2] [] pos) (iEz X.K ta) := by
  refine ⟨fun pins s σ H R I h => ?_⟩
  refine Call_ (ld_blt I hg hm boot_enumerate (PyProof.Rows.callWith_type1 (args_cons (Call_ (ld_blt I hg2 hm2 PyProof.Rows.boot_zip (PyProof.Rows.callWith_type1 (thn (ha.run pos2 pins s σ H _ I h) fun us s1 ⟨vs, H1, I1, r1, q1⟩ => ?_) hs hpl))) hs0) hs0 rfl))
  obtain ⟨a, b, xs, ys, ex, hqx, hqy, q⟩ := q1
  subst ex
  cases r1 with
  | cons r rr =>
    cases rr with
    | cons r' rr =>
      cases rr
      cases r
      cases r'
      obtain ⟨its, rv, pa, _⟩ := I1.list hqx
      obtain ⟨its2, rv2, pb, _⟩ := I1.list hqy
      have la : a < s1.heap.objs.size := pa.lt
      have lb : b < s1.heap.objs.size := pb.lt
      refine call_zip_2 pa.isList pb.isList fun h' hz hTI hTO h1 h2 hsz hk => args_nil (call_enumerate_zip (s := { s1 with heap := h' }) hz fun h'' he hsz' hk' => wpAny_pyIter_enum he ?_)
      have I2 : Inv X pins σ H1 { s1 with heap := h'' } := I1.kept (t' := s1.toks) fun c o e => hk' c o (hk c o e)
      have hN : h'.objs.size = s1.heap.objs.size + 5 := hsz
      have he : IsEnum h'' h'.objs.size (s1.heap.objs.size + 4) 0 .none := he
      rw [hN] at he ⊢
      refine ⟨s1.heap.objs.size + 5, [s1.heap.objs.size + 5, s1.heap.objs.size + 4, s1.heap.objs.size + 2, s1.heap.objs.size + 3, s1.heap.objs.size, s1.heap.objs.size + 1], _, _, H1, rfl, I2, turn_ez (PySem.W.ktu_apart s1.heap.objs.size a b la lb) ?_, ⟨⟨.none, he⟩, hk' _ _ hTI, ⟨_, _, hk' _ _ hTO⟩, h1.at fun o q => hk' _ o q, h2.at fun o q => hk' _ o q, .inl (hk' _ _ hz)⟩, fun c hcm => ?_, q⟩
      · simp
      · have e' : c = s1.heap.objs.size + 5 ∨ c = s1.heap.objs.size + 4 ∨ c = s1.heap.objs.size + 2 ∨ c = s1.heap.objs.size + 3 ∨ c = s1.heap.objs.size ∨ c = s1.heap.objs.size + 1 := by simpa using hcm
        have hle : s1.heap.objs.size ≤ c := by
          rcases e' with z | z | z | z | z | z
          · rw [z]; exact Nat.le_add_right _ _
          · rw [z]; exact Nat.le_add_right _ _
          · rw [z]; exact Nat.le_add_right _ _
          · rw [z]; exact Nat.le_add_right _ _
          · rw [z]; exact Nat.le_refl _
          · rw [z]; exact Nat.le_add_right _ _
        exact I1.fpOk hle (I1.hok.fresh hle)
def YEz (f g : Nat → Option V) : Nat → Hp → V → Hp → Prop := fun i H x H2 => ∃ T U v w, f i = some v ∧ g i = some w ∧ x = .ref U ∧ H T = none ∧ H U = none ∧ U ≠ T ∧ H2 = upd (upd H T (.tup [v, w])) U (.tup [.int (i : Nat), .ref T])
def iEnumZip (a b : DE) : DI := fun env k => a env fun x => b env fun y => match x, y with
  | .list xs, .list ys => k (enumD 0 (zipD xs ys))
  | _, _ => false
section
variable {W : Wd} {X : Cx} {K : PySem.W.Frag} {ea eb : Expr} {da db : DE} {pos : Pos}
theorem walk_ez {a b : Addr} {xs ys : List V} {n : Nat} (hn : n = min xs.length ys.length) : Walk (Itez K a b) n (fun H => SqL K H a xs ∧ SqL K H b ys) (YEz (fun i => xs[i]?) (fun i => ys[i]?)) := by
  subst hn
  refine ⟨fun i _ hi q => ?_, fun _ q => ⟨xs, ys, q.1, q.2, by omega⟩, fun i H v H' _ q y => ?_⟩
  · have h1 : i < xs.length := by omega
    have h2 : i < ys.length := by omega
    exact ⟨xs, ys, xs[i], ys[i], q.1, q.2, by simp [h1], by simp [h2]⟩
  · obtain ⟨T, U, x, z, h1, h2, h3, h4, h5, h6, h7⟩ := y
    exact ⟨T, U, x, z, h6 xs q.1, h7 ys q.2, h1, h2, h3, h4, h5⟩
theorem walkEZ {a b : Addr} {vl wl : List V} {ds es : List PyData} {F' : Hp} (ha : F' a = some (.lst vl)) (r : RpAll K F' vl ds) (hb : F' b = some (.lst wl)) (r2 : RpAll K F' wl es) : IsWalk K W (Itez K a b) (enumD 0 (zipD ds es)) F' := by
  refine ⟨fun H => SqL K H a vl ∧ SqL K H b wl, _, walk_ez (by rw [enumD_len, zipD_len, r.length, r2.length]), fun F H e1 e2 => ⟨.inl (.inl (e2 _ _ (e1 _ _ ha))), .inl (.inl (e2 _ _ (e1 _ _ hb)))⟩, fun i H x H2 F d e1 B hd y => ?_⟩
  obtain ⟨z0, h0, h01⟩ := enumD_at _ 0 i d hd
  obtain ⟨z, z2, h1, h2, h3⟩ := zipD_at ds es i z0 h0
  obtain ⟨v, h4, h5⟩ := r.at h1
  obtain ⟨v2, h6, h7⟩ := r2.at h2
  subst h3 h01
  obtain ⟨T, U, v', w', f1, f2, rfl, nT, nU, nUT, rfl⟩ := y
  have f1 : vl[i]? = some v' := f1
  have f2 : wl[i]? = some w' := f2
  rw [h4] at f1
  rw [h6] at f2
  cases f1
  cases f2
  have st := Stp.new (o := .tup [v, v2]) B nT
  have B2 := Stp.bs B st
  have st2 := Stp.new (o := .tup [.int (i : Nat), .ref T]) B2 (by rw [upd_ne nUT]; exact nU)
  rw [Nat.zero_add]
  exact ⟨_, st.trans st2, .tup upd_same (.cons (.int _) (.cons (.tup (by rw [upd_ne (Ne.symm nUT)]; exact upd_same) (.cons ((h5.mono e1).mono (st.ff.trans st2.ff)) (.cons ((h7.mono e1).mono (st.ff.trans st2.ff)) .nil))) .nil))⟩
theorem si_ez {p p2 pos2 tpos : Pos} {elts : List Expr} {kk : Nat} (hm : X.mg "enumerate" = none) (hm2 : X.mg "zip" = none) (a : SE W X ea da) (b : SE W X eb db) (hg : Gl X "enumerate" := by rfl) (hg2 : Gl X "zip" := by rfl)
    (hs0 : starEach [.Call (.Name "zip" p2) [ea, eb] [] pos2] X.env = (false, eval (.Call (.Name "zip" p2) [ea, eb] [] pos2) X.env) :: starEach [] X.env := by rfl)
    (hs : starEach [ea, eb] X.env = (false, eval ea X.env) :: starEach [eb] X.env := by rfl) (hs2 : starEach [eb] X.env = (false, eval eb X.env) :: starEach [] X.env := by rfl) (hpl : (backTo pos2 (starEach [eb] X.env)).any (·.1) = false := by rfl) :
    SI W X (.Tuple elts kk tpos) (.Call (.Name "enumerate" p) [.Call (.Name "zip" p2) [ea, eb] [] pos2] [] pos) (iEnumZip da db) := by
  obtain ⟨t1, p1, o1⟩ := a
  obtain ⟨t2, p2, o2⟩ := b
  refine ⟨_, pi_ez hg hm hg2 hm2 (pa_cons p1 (pa_cons p2 pa_nil hs2) hs) hs0 hs hpl, fun env σ F H k R Re h q => o1 env σ F H _ _ Re h fun d v F1 H1 s1 r1 h1 => o2 env σ F1 H1 _ _ (Re.step s1) h1 fun d2 v2 F2 H2 s2 r2 h2 => ?_⟩
  have B := ((Re.step s1).step s2).bs
  have r1 := r1.mono s2.ff
  cases d with
  | list xs =>
    cases d2 with
    | list ys =>
      cases r1 with
      | lst ha ra =>
        cases r2 with
        | lst hb rb => exact ⟨_, _, _, _, rfl, .inl (.inl (B.keep ha)), .inl (.inl (B.keep hb)), q _ _ F2 H2 (s1.trans s2) (walkEZ ha ra hb rb) h2⟩
    | _ => cases h2
  | _ => cases h2
end
/-! ### two fors -/
def hideE (env : Sls) : Sls := env.map fun s => match s with
  | .ow _ => .no
  | s => s
theorem Rel.hide {K : PySem.W.Frag} {W : Wd} {env : Sls} {σ : L2.St} {F H F' H' : Hp} (r : Rel K W env σ F H) (e : Same F F') (st : Stp W.pp W.F0 W.H0 F' H') : Rel K W (hideE env) σ F' H' := by
  refine ⟨r.b0, st, by unfold hideE; rw [List.length_map]; exact r.len, fun i s h => ?_, fun i j p ds es h => ?_⟩
  · unfold hideE at h
    rw [List.getElem?_map] at h
    cases q : env[i]? with
    | none => rw [q] at h; cases h
    | some s0 =>
      rw [q] at h
      have h := Option.some.inj h
      have z := r.sl i s0 q
      cases s0 with
      | no => subst h; trivial
      | fz d =>
        subst h
        obtain ⟨v, h1, h2⟩ := z
        exact ⟨v, h1, h2.mono e⟩
      | ow ds => subst h; trivial
      | pt => subst h; exact z
  · exfalso
    unfold hideE at h
    rw [List.getElem?_map] at h
    cases q : env[i]? with
    | none => rw [q] at h; cases h
    | some s0 =>
      rw [q] at h
      have h := Option.some.inj h
      cases s0 <;> cases h
def goIn (tg : DG) (tt : DT) (el : DE) (env : Sls) : List PyData → List PyData → (List PyData → Bool) → Bool
  | [], acc, k => k acc
  | x :: xs, acc, k => tg x env fun env' => tt env' fun b => match b with
    | true => el env' fun y => (match small acc.length with
      | true => goIn tg tt el env xs (y :: acc) k
      | false => false)
    | false => goIn tg tt el env xs acc k
def goLc2 (tg : DG) (tt : DT) (it1 : DI) (tg1 : DG) (tt1 : DT) (el : DE) (env : Sls) (vs1 : List Nat) : List PyData → List PyData → KF → Bool
  | [], acc, k => k (.list acc.reverse)
  | x :: xs, acc, k => tg x env fun env' => tt env' fun b => match b with
    | true => it1 env' fun ys => goIn tg1 tt1 el (wipeE (hideE env') vs1) ys acc fun acc => goLc2 tg tt it1 tg1 tt1 el env vs1 xs acc k
    | false => goLc2 tg tt it1 tg1 tt1 el env vs1 xs acc k
def dLc2 (it : DI) (tg : DG) (tt : DT) (it1 : DI) (tg1 : DG) (tt1 : DT) (el : DE) (vs vs1 : List Nat) : DE := fun env k => it env fun xs => goLc2 tg tt it1 tg1 tt1 el (wipeE env vs) vs1 xs [] k
theorem okE_lc2 {K : PySem.W.Frag} {W : Wd} {wi wi1 : TI} {g g1 : TG} {tt tt1 : TT} {te : TE} {it it1 : DI} {tg tg1 : DG} {dt dt1 : DT} {el : DE} {vs vs1 sl sl1 : List Nat} (oi : OkI K W wi it) (og : OkG K W g tg sl) (ot : OkT K W tt dt) (oi1 : OkI K W wi1 it1) (og1 : OkG K W g1 tg1 sl1) (ot1 : OkT K W tt1 dt1) (oe : OkE K W te el)
    (hsl : ∀ j ∈ sl, j ∈ vs) (hsl1 : ∀ j ∈ sl1, j ∈ vs1) : OkE K W (tLc2 wi g tt wi1 g1 tt1 te vs vs1) (dLc2 it tg dt it1 tg1 dt1 el vs vs1) := fun env σ F H k Q R h q => by
  refine oi env σ F H _ _ R h fun ds J F1 H1 s1 wk h1 => ?_
  have R1 := R.step s1
  have B1 := R1.bs
  obtain ⟨G, Y, w1, w2, w3⟩ := wk
  intro D hD
  have np : D ≠ W.pp := fun z => by subst z; exact B1.po.some hD
  have fD : F1 D = none := none_of B1 hD
  have RW := R1.wipe vs
  have Pd : ∃ Pv : Nat → Hp → Prop, Pv = fun i H' => ∃ acc F', InLc K W F1 H1 D acc F' H' ∧ goLc2 tg dt it1 tg1 dt1 el (wipeE env vs) vs1 (ds.drop i) acc k = true := ⟨_, rfl⟩
  obtain ⟨Pv, hPv⟩ := Pd
  refine ⟨fun i m H' => m = ds.length - i ∧ i ≤ ds.length ∧ Pv i H', ⟨_, rfl, Nat.zero_le _, by rw [hPv]; exact ⟨[], F1, ⟨Stp.newO B1 hD, fD, [], upd_same, .nil⟩, h1⟩⟩, ?_⟩
  rintro i m H' ⟨rfl, hi, hp⟩
  rw [hPv] at hp
  obtain ⟨acc, F', c, hg⟩ := hp
  have gq := w2 F' H' c.st.ff c.st.fh
  by_cases hlt : i < ds.length
  · refine .inr ⟨w1.goes i H' hlt gq, Pv (i + 1), fun H2 p' => ⟨_, by omega, rfl, hlt, p'⟩, fun x H'' y => ?_⟩
    have y := w1.yields i H' x H'' hlt gq y
    have hd : ds[i]? = some ds[i] := List.getElem?_eq_getElem hlt
    have hdr : ds.drop i = ds[i] :: ds.drop (i + 1) := List.drop_eq_getElem_cons hlt
    rw [hdr] at hg
    obtain ⟨F2, s2, r2⟩ := w3 i H' x H'' F' ds[i] c.st.ff (Stp.bs B1 c.st) hd y
    have c2 := c.step np s2
    have RW2 := RW.step c2.st
    unfold goLc2 at hg
    refine og _ _ F2 H'' x _ _ _ RW2 r2 hg fun env' σ' R' a1 l1 hk => ?_
    refine ⟨wipe_same (l1.trans (L2.wipe_length σ vs)) hsl a1, ?_⟩
    refine ot env' σ' F2 H'' _ _ R' hk fun b F3 H3 s3 h3 => ?_
    have c3 := c2.step np s3
    cases b with
    | false =>
      rw [if_neg Bool.false_ne_true, hPv]
      exact ⟨acc, F3, c3, h3⟩
    | true =>
      rw [if_pos rfl]
      refine oi1 env' σ' F3 H3 _ _ (R'.step s3) h3 fun es J1 F4 H4 s4 wk1 h4 => ?_
      have c4 := c3.step np s4
      obtain ⟨G1, Y1, v1, v2, v3⟩ := wk1
      have R4 := (R'.step s3).step s4
      refine ⟨fun j m H' => m = es.length - j ∧ j ≤ es.length ∧ ∃ acc F', InLc K W F1 H1 D acc F' H' ∧ Same F4 F' ∧ goIn tg1 dt1 el (wipeE (hideE env') vs1) (es.drop j) acc (fun acc => goLc2 tg dt it1 tg1 dt1 el (wipeE env vs) vs1 (ds.drop (i + 1)) acc k) = true, ⟨_, rfl, Nat.zero_le _, acc, F4, c4, Same.refl F4, h4⟩, ?_⟩
      rintro j m H5 ⟨rfl, hj, acc5, F5, c5, e5, hg5⟩
      by_cases hjl : j < es.length
      · have B5 := Stp.bs B1 c5.st
        have gq1 := v2 F5 H5 e5 B5.fh
        refine .inr ⟨v1.goes j H5 hjl gq1, fun H' => ∃ acc F', InLc K W F1 H1 D acc F' H' ∧ Same F4 F' ∧ goIn tg1 dt1 el (wipeE (hideE env') vs1) (es.drop (j + 1)) acc (fun acc => goLc2 tg dt it1 tg1 dt1 el (wipeE env vs) vs1 (ds.drop (i + 1)) acc k) = true, fun H2 p' => ⟨_, by omega, rfl, hjl, p'⟩, fun x H6 y => ?_⟩
        have y := v1.yields j H5 x H6 hjl gq1 y
        have hd5 : es[j]? = some es[j] := List.getElem?_eq_getElem hjl
        have hdr5 : es.drop j = es[j] :: es.drop (j + 1) := List.drop_eq_getElem_cons hjl
        rw [hdr5] at hg5
        obtain ⟨F6, s6, r6⟩ := v3 j H5 x H6 F5 es[j] e5 B5 hd5 y
        have c6 := c5.step np s6
        have RH := (R4.hide (e5.trans s6.ff) (R1.st.trans c6.st)).wipe vs1
        unfold goIn at hg5
        refine og1 _ _ F6 H6 x _ _ _ RH r6 hg5 fun env7 σ7 R7 a7 l7 hk7 => ?_
        refine ⟨wipe_same (l7.trans (L2.wipe_length σ' vs1)) hsl1 a7, ?_⟩
        refine ot1 env7 σ7 F6 H6 _ _ R7 hk7 fun b F8 H8 s8 h8 => ?_
        have c8 := c6.step np s8
        cases b with
        | false =>
          rw [if_neg Bool.false_ne_true]
          exact ⟨acc5, F8, c8, (e5.trans s6.ff).trans s8.ff, h8⟩
        | true =>
          rw [if_pos rfl]
          refine oe env7 σ7 F8 H8 _ _ (R7.step s8) h8 fun d v F9 H9 s9 r9 h9 => ?_
          have c9 := c8.step np s9
          obtain ⟨vl, g5, g6⟩ := c9.at_
          cases em : small acc5.length with
          | false => rw [em] at h9; cases h9
          | true =>
            rw [em] at h9
            have hz : acc5.length ≤ 100000 := Nat.le_of_ble_eq_true em
            refine ⟨vl, g5, by rw [g6.length, List.length_reverse]; exact Nat.lt_of_le_of_lt hz (by decide), d :: acc5, F9, ⟨c9.st.write hD c9.un np, c9.un, vl ++ [v], upd_same, ?_⟩, ((e5.trans s6.ff).trans s8.ff).trans s9.ff, h9⟩
            rw [List.reverse_cons]
            exact g6.append (.cons r9 .nil)
      · have e : j = es.length := by omega
        subst e
        rw [List.drop_length] at hg5
        unfold goIn at hg5
        refine .inl ⟨v1.stops H5 (v2 F5 H5 e5 (Stp.bs B1 c5.st).fh), ?_⟩
        rw [hPv]
        exact ⟨acc5, F5, c5, hg5⟩
  · have e : i = ds.length := by omega
    subst e
    rw [List.drop_length] at hg
    unfold goLc2 at hg
    obtain ⟨vl, h5, h6⟩ := c.at_
    have st := c.st.freeze hD c.un h5
    exact .inl ⟨w1.stops H' gq, q _ _ (upd F' D (.lst vl)) H' (s1.trans st) (.lst upd_same (h6.mono (same_upd c.un))) hg⟩
def canI (K : PySem.W.Frag) (W : Wd) (di : DI) : TI := fun σ H R => ∃ (env : Sls) (F : Hp) (k : List PyData → Bool), Rel K W env σ F H ∧ di env k = true ∧ ∀ ds J F' H', Stp W.pp F H F' H' → IsWalk K W J ds F' → k ds = true → R J H'
section
variable {W : Wd} {X : Cx}
theorem SI.can {tg e : Expr} {di : DI} (h : SI W X tg e di) : PI X tg e (canI X.K W di) := by
  obtain ⟨t, p, o⟩ := h
  exact ⟨fun pins s σ H R I ⟨env, F, k, Re, hd, q⟩ => p.run pins s σ H R I (o env σ F H k R Re hd q)⟩
theorem okI_can {K : PySem.W.Frag} {di : DI} : OkI K W (canI K W di) di := fun env σ F H k R Re h q => ⟨env, F, k, Re, h, q⟩
theorem se_lc2 {elt tg iter tg1 iter1 : Expr} {ifs ifs1 : List Expr} {scope : Scope} {own : List (Str × Nat)} {pos : Pos} {di di1 : DI} {g g1 : DG} {dt dt1 : DT} {de : DE} {sl sl1 vs vs1 : List Nat} (hc : X.calm = true) (hN : X.N.Nodup) (hi : SI W X tg iter di) (ok : BlkOk X.N X.env.scope scope own)
    (hg : ∀ (s : Shared) (H : Hp) (C : Addr) (cl : List (Str × Addr)) (fp : List Addr), SG W (X.blk s H scope (compEnvC scope cl C X.env) fp) tg g sl) (ht : ∀ (s : Shared) (H : Hp) (C : Addr) (cl : List (Str × Addr)) (fp : List Addr), STs W (X.blk s H scope (compEnvC scope cl C X.env) fp) ifs dt)
    (hi1 : ∀ (s : Shared) (H : Hp) (C : Addr) (cl : List (Str × Addr)) (fp : List Addr), SI W (X.blk s H scope (compEnvC scope cl C X.env) fp) tg1 iter1 di1)
    (hg1 : ∀ (s : Shared) (H : Hp) (C : Addr) (cl : List (Str × Addr)) (fp : List Addr), SG W (X.blk s H scope (compEnvC scope cl C X.env) fp) tg1 g1 sl1) (ht1 : ∀ (s : Shared) (H : Hp) (C : Addr) (cl : List (Str × Addr)) (fp : List Addr), STs W (X.blk s H scope (compEnvC scope cl C X.env) fp) ifs1 dt1)
    (he : ∀ (s : Shared) (H : Hp) (C : Addr) (cl : List (Str × Addr)) (fp : List Addr), SE W (X.blk s H scope (compEnvC scope cl C X.env) fp) elt de) (hv : ∀ i ∈ vs1, i ∈ vs := by decide) (hsl : ∀ j ∈ sl, j ∈ vs := by decide) (hsl1 : ∀ j ∈ sl1, j ∈ vs1 := by decide) (hvs : own.map (·.2) = vs := by rfl)
    (hs : ∀ x, foldedSetIterable iter X.env x = pure x := by intro _; rfl) (hs1 : ∀ env x, foldedSetIterable iter1 env x = pure x := by intro _ _; rfl) :
    SE W X (.ListComp elt [⟨tg, iter, ifs, 0⟩, ⟨tg1, iter1, ifs1, 0⟩] scope pos) (dLc2 di g dt di1 g1 dt1 de vs vs1) := by
  obtain ⟨wi, p, oi⟩ := hi
  subst hvs
  exact ⟨_, pe_lc2 hc hN p ok hv (fun s H C cl fp => (hg s H C cl fp).can) (fun s H C cl fp => (ht s H C cl fp).can) (fun s H C cl fp => (hi1 s H C cl fp).can) (fun s H C cl fp => (hg1 s H C cl fp).can) (fun s H C cl fp => (ht1 s H C cl fp).can) (fun s H C cl fp => (he s H C cl fp).can) hs hs1,
    okE_lc2 oi okG_can okT_can okI_can okG_can okT_can okE_can hsl hsl1⟩
theorem se_setlc2 {i : Nat} {y : Str} {py : Pos} {elt tg iter tg1 iter1 : Expr} {ifs ifs1 : List Expr} {scope : Scope} {own : List (Str × Nat)} {pos spos : Pos} {di di1 : DI} {g g1 : DG} {dt dt1 : DT} {de : DE} {sl sl1 vs vs1 : List Nat} (hc : X.calm = true) (hN : X.N.Nodup) (hy : X.N[i]? = some y) (hyl : X.env.scope.names.lookup y = some .local)
    (hsw : swapsWith (.ListComp elt [⟨tg, iter, ifs, 0⟩, ⟨tg1, iter1, ifs1, 0⟩] scope pos) (some (.Name y py)) spos.line X.env = pure true) (hi : SI W X tg iter di) (ok : BlkOk X.N X.env.scope scope own)
    (hg : ∀ (s : Shared) (H : Hp) (C : Addr) (cl : List (Str × Addr)) (fp : List Addr), SG W (X.blk s H scope (compEnvC scope cl C X.env) fp) tg g sl) (ht : ∀ (s : Shared) (H : Hp) (C : Addr) (cl : List (Str × Addr)) (fp : List Addr), STs W (X.blk s H scope (compEnvC scope cl C X.env) fp) ifs dt)
    (hi1 : ∀ (s : Shared) (H : Hp) (C : Addr) (cl : List (Str × Addr)) (fp : List Addr), SI W (X.blk s H scope (compEnvC scope cl C X.env) fp) tg1 iter1 di1)
    (hg1 : ∀ (s : Shared) (H : Hp) (C : Addr) (cl : List (Str × Addr)) (fp : List Addr), SG W (X.blk s H scope (compEnvC scope cl C X.env) fp) tg1 g1 sl1) (ht1 : ∀ (s : Shared) (H : Hp) (C : Addr) (cl : List (Str × Addr)) (fp : List Addr), STs W (X.blk s H scope (compEnvC scope cl C X.env) fp) ifs1 dt1)
    (he : ∀ (s : Shared) (H : Hp) (C : Addr) (cl : List (Str × Addr)) (fp : List Addr), SE W (X.blk s H scope (compEnvC scope cl C X.env) fp) elt de) (hv : ∀ i ∈ vs1, i ∈ vs := by decide) (hsl : ∀ j ∈ sl, j ∈ vs := by decide) (hsl1 : ∀ j ∈ sl1, j ∈ vs1 := by decide) (hvs : own.map (·.2) = vs := by rfl)
    (hs : ∀ x, foldedSetIterable iter X.env x = pure x := by intro _; rfl) (hs1 : ∀ env x, foldedSetIterable iter1 env x = pure x := by intro _ _; rfl) :
    ∃ te, PS X (.Assign [.Name y py] (.ListComp elt [⟨tg, iter, ifs, 0⟩, ⟨tg1, iter1, ifs1, 0⟩] scope pos) spos) (tAsg te (gName i)) ∧ OkE X.K W te (dLc2 di g dt di1 g1 dt1 de vs vs1) := by
  obtain ⟨wi, p, oi⟩ := hi
  subst hvs
  exact ⟨_, ps_setLc2 hc hN hy hyl hsw p ok hv (fun s H C cl fp => (hg s H C cl fp).can) (fun s H C cl fp => (ht s H C cl fp).can) (fun s H C cl fp => (hi1 s H C cl fp).can) (fun s H C cl fp => (hg1 s H C cl fp).can) (fun s H C cl fp => (ht1 s H C cl fp).can) (fun s H C cl fp => (he s H C cl fp).can) hs hs1,
    okE_lc2 oi okG_can okT_can okI_can okG_can okT_can okE_can hsl hsl1⟩
end
/-! ### tuple(range(a, b)) -/
def rgOk (i j : Int) : Bool := big i && (big j && Nat.ble (j - i).toNat 100000)
def dTupRg (a b : DE) : DE := fun env k => a env fun x => b env fun y => match x, y with
  | .int i, .int j => (match rgOk i j with
    | true => k (.tuple (rangeD i (j - i).toNat))
    | false => false)
  | _, _ => false
theorem rp_rg {K : PySem.W.Frag} {F : Hp} : ∀ (n : Nat) (lo : Int) (f : Nat → Int), (∀ i, f i = lo + (i : Nat)) → RpAll K F ((List.range n).map fun i => V.int (f i)) (rangeD lo n)
  | 0, _, _, _ => .nil
  | n + 1, lo, f, h => by
    rw [List.range_succ_eq_map, List.map_cons, List.map_map]
    unfold rangeD
    have h0 : f 0 = lo := by rw [h 0]; simp
    refine .cons (by rw [h0]; exact .int lo) (rp_rg n (lo + 1) (f ∘ Nat.succ) fun i => ?_)
    show f (i + 1) = _
    rw [h (i + 1)]
    omega
section
variable {W : Wd} {X : Cx} {ea eb : Expr} {da db : DE} {pos : Pos}
theorem se_tupRg {p pr pos2 : Pos} (hc : X.calm = true) (hm : X.mg "tuple" = none) (hm2 : X.mg "range" = none) (a : SE W X ea da) (b : SE W X eb db) (hg : Gl X "tuple" := by rfl) (hg2 : Gl X "range" := by rfl)
    (na : starEach [.Call (.Name "range" pr) [ea, eb] [] pos2] X.env = (false, eval (.Call (.Name "range" pr) [ea, eb] [] pos2) X.env) :: starEach [] X.env := by rfl)
    (n1 : starEach [ea, eb] X.env = (false, eval ea X.env) :: starEach [eb] X.env := by rfl) (n2 : starEach [eb] X.env = (false, eval eb X.env) :: starEach [] X.env := by rfl) (hp : (backTo pos2 (starEach [eb] X.env)).any (·.1) = false := by rfl) :
    SE W X (.Call (.Name "tuple" p) [.Call (.Name "range" pr) [ea, eb] [] pos2] [] pos) (dTupRg da db) := by
  obtain ⟨t1, p1, o1⟩ := a
  obtain ⟨t2, p2, o2⟩ := b
  refine ⟨_, pe_tupRg hc hg hm (prg_2 hg2 hm2 p1 p2 n1 n2 hp) na, fun env σ F H k Q R h q => o1 env σ F H _ _ R h fun d v F1 H1 s1 r1 h1 => o2 env σ F1 H1 _ _ (R.step s1) h1 fun d2 v2 F2 H2 s2 r2 h2 => ?_⟩
  have B := ((R.step s1).step s2).bs
  cases d with
  | int i =>
    cases d2 with
    | int j =>
      cases r1
      cases r2
      cases e : rgOk i j with
      | false => simp only [e] at h2; cases h2
      | true =>
        simp only [e] at h2
        obtain ⟨e1, e2⟩ := Bool.and_eq_true_iff.mp e
        obtain ⟨e2, e3⟩ := Bool.and_eq_true_iff.mp e2
        obtain ⟨b1, b2⟩ := big_ok e1
        obtain ⟨b3, b4⟩ := big_ok e2
        have e3 := Nat.le_of_ble_eq_true e3
        refine ⟨i, j, rfl, rfl, ⟨b1, b2, b3, b4, by omega⟩, fun p np => ?_⟩
        have st := Stp.new (o := .tup (rgV i j)) B np
        exact q _ _ _ _ ((s1.trans s2).trans st) (.tup upd_same (rp_rg _ i (fun n => i + n) fun _ => rfl)) h2
    | _ => cases h2
  | _ => cases h2
end
/-! ### i in a tuple or list of numbers -/
def asInts : List PyData → Option (List Int)
  | [] => some []
  | .int i :: r => (match asInts r with
    | some l => some (i :: l)
    | none => none)
  | _ => none
theorem asInts_eq : ∀ {ds : List PyData} {l : List Int}, asInts ds = some l → ds = l.map PyData.int
  | [], l, h => by cases h; rfl
  | d :: ds, l, h => by
    cases d with
    | int i =>
      unfold asInts at h
      cases e : asInts ds with
      | none => rw [e] at h; cases h
      | some l' =>
        rw [e] at h
        cases h
        rw [asInts_eq e]
        rfl
    | _ => cases h
def gIn : G2 := fun a b k => match a with
  | .int i => (match b with
    | .list xs => (match asInts xs with
      | some l => k (.bool (l.any fun y => y == i))
      | none => false)
    | .tuple xs => (match asInts xs with
      | some l => k (.bool (l.any fun y => y == i))
      | none => false)
    | _ => false)
  | _ => false
theorem in_ints (i : Int) : ∀ l : List Int, inV (.int i) (l.map V.int) = l.any fun y => y == i
  | [] => rfl
  | y :: l => by
    show (y == i || inV (.int i) (l.map V.int)) = _
    rw [in_ints i l]
    rfl
theorem flat_ints : ∀ l : List Int, (l.map V.int).all flatV = true
  | [] => rfl
  | y :: l => flat_ints l
theorem ok_in {K : PySem.W.Frag} {W : Wd} : OkR K W (rIn K false) gIn := fun F H x y a b k Q B ra rb h q => by
  cases a with
  | int i =>
    cases ra
    cases b with
    | list xs =>
      unfold gIn at h
      cases e : asInts xs with
      | none => simp only [e] at h; cases h
      | some l =>
        simp only [e] at h
        cases rb with
        | @lst p vl _ ha r =>
          rw [asInts_eq e] at r
          have ev := RpAll.ints r
          subst ev
          refine ⟨p, _, rfl, .inl (.inl (.inl (B.keep ha))), rfl, flat_ints l, ?_⟩
          rw [if_neg Bool.false_ne_true, in_ints]
          exact q _ _ F H (Stp.refl B) (.bl _) h
    | tuple xs =>
      unfold gIn at h
      cases e : asInts xs with
      | none => simp only [e] at h; cases h
      | some l =>
        simp only [e] at h
        cases y with
        | ref p =>
          obtain ⟨vl, hs, r⟩ := sqT_of B.fh rb
          rw [asInts_eq e] at r
          have ev := RpAll.ints r
          subst ev
          refine ⟨p, _, rfl, .inr hs, rfl, flat_ints l, ?_⟩
          rw [if_neg Bool.false_ne_true, in_ints]
          exact q _ _ F H (Stp.refl B) (.bl _) h
        | _ => cases rb
    | _ => cases h
  | _ => cases h
/-! ### three names at once, the last a new list -/
def sPar3F (i j l : Nat) (a b : DE) (c : DF) : DS := fun B env => a env fun d => b env fun e => c env fun fs => B.nx (((env.set i (.fz d)).set j (.fz e)).set l (.ow fs))
section
variable {W : Wd} {X : Cx}
theorem ss_par3F {i j l : Nat} {x y z : Str} {ea eb ec : Expr} {da db : DE} {fc : DF} {px py pz pt pos : Pos} {kt k2 : Nat} {pt2 : Pos} (hc : X.calm = true) (hN : X.N.Nodup) (ha : SE W X ea da) (hb : SE W X eb db) (hcc : SF W X ec fc) (hi : X.N[i]? = some x := by rfl) (hj : X.N[j]? = some y := by rfl) (hl : X.N[l]? = some z := by rfl)
    (hij : i ≠ j := by decide) (hil : i ≠ l := by decide) (hjl : j ≠ l := by decide) (hx : X.env.scope.names.lookup x = some .local := by rfl) (hy : X.env.scope.names.lookup y = some .local := by rfl) (hz : X.env.scope.names.lookup z = some .local := by rfl)
    (he : starEach [ea, eb, ec] X.env = (false, eval ea X.env) :: starEach [eb, ec] X.env := by rfl) (he2 : starEach [eb, ec] X.env = (false, eval eb X.env) :: starEach [ec] X.env := by rfl) (he3 : starEach [ec] X.env = (false, eval ec X.env) :: starEach [] X.env := by rfl)
    (hw : swappedStores [.Tuple [.Name x px, .Name y py, .Name z pz] kt pt] (.Tuple [ea, eb, ec] k2 pt2) X.env = pure (some [x, y, z]) := by rfl)
    (hs : swapsWithSole [.Tuple [.Name x px, .Name y py, .Name z pz] kt pt] (.Tuple [ea, eb, ec] k2 pt2) pos.line X.env = pure false := by rfl) :
    SS W X (.Assign [.Tuple [.Name x px, .Name y py, .Name z pz] kt pt] (.Tuple [ea, eb, ec] k2 pt2) pos) (sPar3F i j l da db fc) := by
  obtain ⟨t1, p1, o1⟩ := ha
  obtain ⟨t2, p2, o2⟩ := hb
  obtain ⟨t3, p3, o3⟩ := hcc
  refine ⟨_, ps_par3 hc hN hi hj hl hij hil hjl hx hy hz (pa_cons p1 (pa_cons p2 (pa_cons p3 pa_nil he3) he2) he) hw hs, fun env σ F H B D R h q => ?_⟩
  refine o1 env σ F H _ _ R h fun d v F1 H1 s1 r1 h1 => o2 env σ F1 H1 _ _ (R.step s1) h1 fun e u F2 H2 s2 r2 h2 => o3 env σ F2 H2 _ _ ((R.step s1).step s2) h2 fun ds xs F3 H3 p s3 n f hp r3 h3 => ?_
  have R2 := ((R.step s1).step s2)
  exact ⟨_, _, _, rfl, q.nx _ _ F3 H3 ((s1.ff.trans s2.ff).trans s3.ff) (((R2.set (r1.mono s2.ff) i).set r2 j).setO' s3 n f hp r3 l) h3⟩
end
end Dl

namespace Dl
open PySem PySem.Spec PyProof.Rows L2
/-! ### fractions of whole numbers not below 0, worked out fast -/
abbrev pq (a b : Nat) : PyData := .tuple [.int (Int.ofNat a), .int (Int.ofNat b)]
/-- 2 ^ 900 -/
def bigN : Nat := 8452712498170643941637436558664265704301557216577944354047371344426782440907597751590676094202515006314790319892114058862117560952042968596008623655407033230534186943984081346699704282822823056848387726531379014466368452684024987821414350380272583623832617294363807973376
def frS (n : Nat) (k : Nat → Bool) : Bool := Nat.rec (motive := fun _ => Bool) (k 0) (fun m _ => k (Nat.succ m)) n
theorem frS_eq (n : Nat) (k : Nat → Bool) : frS n k = k n := by cases n <;> rfl
def okN (t m : Nat) : Bool := Nat.ble (Nat.add (Nat.add t m) (Nat.mul (Nat.succ bigN) (Nat.sub 1 m))) bigN
theorem okN_ok {t m : Nat} (h : okN t m = true) : t ≤ bigN ∧ m ≤ bigN ∧ 1 ≤ m := by
  have h1 : (t + m) + (bigN + 1) * (1 - m) ≤ bigN := Nat.le_of_ble_eq_true h
  cases m with
  | zero =>
    rw [Nat.sub_zero, Nat.mul_one] at h1
    omega
  | succ m => exact ⟨by omega, by omega, by omega⟩
def nRed (t m : Nat) (k : Nat → Nat → Bool) : Bool := match okN t m with
  | true => frS (Nat.gcd t m) fun g => frS (Nat.div t g) fun x => frS (Nat.div m g) fun y => k x y
  | false => false
def nAdd (a b c d : Nat) (k : Nat → Nat → Bool) : Bool := nRed (Nat.add (Nat.mul a d) (Nat.mul c b)) (Nat.mul b d) k
def nTake (a b c d : Nat) (k : Nat → Nat → Bool) : Bool := match Nat.ble (Nat.mul c b) (Nat.mul a d) with
  | true => nRed (Nat.sub (Nat.mul a d) (Nat.mul c b)) (Nat.mul b d) k
  | false => false
def nMul (a b c d : Nat) (k : Nat → Nat → Bool) : Bool := nRed (Nat.mul a c) (Nat.mul b d) k
def nDiv (a b c d : Nat) (k : Nat → Nat → Bool) : Bool := nRed (Nat.mul a d) (Nat.mul b c) k
theorem big_log {a : Nat} (h : a ≤ bigN) : Nat.log2 a ≤ 900 := by
  by_cases h0 : a = 0
  · subst h0; decide
  · exact Nat.le_of_lt_succ ((Nat.log2_lt h0).mpr (Nat.lt_of_le_of_lt h (by decide +kernel)))
theorem big_mul {a b : Nat} (ha : a ≤ bigN) (hb : b ≤ bigN) : mulOk (Int.ofNat a) (Int.ofNat b) = true := by
  have h1 := big_log ha
  have h2 := big_log hb
  exact Nat.ble_eq_true_of_le (show Nat.log2 a + Nat.log2 b ≤ 999999 by omega)
theorem mI_nat {a b : Nat} (ha : a ≤ bigN) (hb : b ≤ bigN) (k : Int → Bool) : mI (Int.ofNat a) (Int.ofNat b) k = k (Int.ofNat (a * b)) := by
  unfold mI
  rw [big_mul ha hb]
  exact fI_eq _ _
section
variable {a b c d t m : Nat} {k : Nat → Nat → Bool} {K : KF}
theorem le_nRed (h : nRed t m k = true) (q : ∀ x y, x ≤ bigN → y ≤ bigN → k x y = true → K (pq x y) = true) : qReduced [.int (Int.ofNat t), .int (Int.ofNat m)] K = true := by
  unfold nRed at h
  cases e : okN t m with
  | false => rw [e] at h; cases h
  | true =>
    rw [e] at h
    obtain ⟨h1, h2, h3⟩ := okN_ok e
    simp only [frS_eq] at h
    obtain ⟨n, rfl⟩ : ∃ n, m = n + 1 := ⟨m - 1, by omega⟩
    show mkP (Int.ofNat t) (n + 1) K = true
    unfold mkP
    have hl : logOk (n + 1) = true := Nat.ble_eq_true_of_le (Nat.le_trans (big_log h2) (by decide))
    rw [hl]
    simp only [frN_eq, fI_eq]
    exact q _ _ (Nat.le_trans (Nat.div_le_self _ _) h1) (Nat.le_trans (Nat.div_le_self _ _) h2) h
theorem le_nAdd (ha : a ≤ bigN) (hb : b ≤ bigN) (hc : c ≤ bigN) (hd : d ≤ bigN) (h : nAdd a b c d k = true) (q : ∀ x y, x ≤ bigN → y ≤ bigN → k x y = true → K (pq x y) = true) : qAddR qReduced [pq a b, pq c d] K = true := by
  show (mI (Int.ofNat a) (Int.ofNat d) fun x => mI (Int.ofNat c) (Int.ofNat b) fun y => mI (Int.ofNat b) (Int.ofNat d) fun z => fI (x + y) fun t => qReduced [.int t, .int z] K) = true
  rw [mI_nat ha hd, mI_nat hc hb, mI_nat hb hd, fI_eq]
  exact le_nRed h q
theorem le_nMul (ha : a ≤ bigN) (hb : b ≤ bigN) (hc : c ≤ bigN) (hd : d ≤ bigN) (h : nMul a b c d k = true) (q : ∀ x y, x ≤ bigN → y ≤ bigN → k x y = true → K (pq x y) = true) : qMulR qReduced [pq a b, pq c d] K = true := by
  show (mI (Int.ofNat a) (Int.ofNat c) fun x => mI (Int.ofNat b) (Int.ofNat d) fun z => qReduced [.int x, .int z] K) = true
  rw [mI_nat ha hc, mI_nat hb hd]
  exact le_nRed h q
theorem le_nDiv (ha : a ≤ bigN) (hb : b ≤ bigN) (hc : c ≤ bigN) (hd : d ≤ bigN) (h : nDiv a b c d k = true) (q : ∀ x y, x ≤ bigN → y ≤ bigN → k x y = true → K (pq x y) = true) : qDivR qReduced [pq a b, pq c d] K = true := by
  show (mI (Int.ofNat a) (Int.ofNat d) fun x => mI (Int.ofNat b) (Int.ofNat c) fun z => qReduced [.int x, .int z] K) = true
  rw [mI_nat ha hd, mI_nat hb hc]
  exact le_nRed h q
theorem le_nTake (ha : a ≤ bigN) (hb : b ≤ bigN) (hc : c ≤ bigN) (hd : d ≤ bigN) (h : nTake a b c d k = true) (q : ∀ x y, x ≤ bigN → y ≤ bigN → k x y = true → K (pq x y) = true) : qTakeR qReduced [pq a b, pq c d] K = true := by
  unfold nTake at h
  cases e : Nat.ble (Nat.mul c b) (Nat.mul a d) with
  | false => rw [e] at h; cases h
  | true =>
    rw [e] at h
    have hle : c * b ≤ a * d := Nat.le_of_ble_eq_true e
    show (mI (Int.ofNat a) (Int.ofNat d) fun x => mI (Int.ofNat c) (Int.ofNat b) fun y => mI (Int.ofNat b) (Int.ofNat d) fun z => fI (x - y) fun t => qReduced [.int t, .int z] K) = true
    rw [mI_nat ha hd, mI_nat hc hb, mI_nat hb hd, fI_eq]
    have e2 : Int.ofNat (a * d) - Int.ofNat (c * b) = Int.ofNat (a * d - c * b) := (Int.ofNat_sub hle).symm
    rw [e2]
    exact le_nRed h q
end
/-! ### by a sign and a loop of its own, the bottom kept -/
def fracT : DT := dB (dOp gGt (dVar 3) (dC (.int 0)))
def fracRest (N : Nat) : DS := (sSeq (sPar 2 3 (aCons (dCB gAbs (aCons (dVar 0) aNil)) (aCons (dVar 1) aNil)))
  (sSeq (sWh N fracT plainB)
  (sRet (dTup (aCons (dOp gFdiv (dVar 0) (dVar 2)) (aCons (dOp gFdiv (dVar 1) (dVar 2)) aNil))))))
def bFrac (N : Nat) : DS := (sSeq (sIf (dB (dOp gLt (dVar 1) (dC (.int 0)))) (sPar 0 1 (aCons (dOp gSub (dC (.int 0)) (dVar 0)) (aCons (dOp gSub (dC (.int 0)) (dVar 1)) aNil))) sNil) (fracRest N))
theorem frac_loop (t b : PyData) (B : DEnds) (fuel a c : Nat) (hf : 18001 ≤ fuel) (hl : logOk c = true) :
    goWh fracT plainB B fuel [.fz t, .fz b, .fz (.int (Int.ofNat a)), .fz (.int (Int.ofNat c))] = B.nx [.fz t, .fz b, .fz (.int (Int.ofNat (Nat.gcd a c))), .fz (.int (Int.ofNat 0))] := by
  refine gcd_any (T := fracT) (G := plainB) (B := B) (E := fun a c => [.fz t, .fz b, .fz (.int (Int.ofNat a)), .fz (.int (Int.ofNat c))]) (fun n a => rfl) (fun n a c h => ?_) 9000 fuel a c (lt_of_log hl) hf hl
  have e : decide ((0 : Int) < Int.ofNat (c + 1)) = true := decide_eq_true (Int.ofNat_lt.mpr (Nat.succ_pos c))
  show (match decide ((0 : Int) < Int.ofNat (c + 1)) with
    | true => gMod (.int (Int.ofNat a)) (.int (Int.ofNat (c + 1))) (fun z => goWh fracT plainB B n [.fz t, .fz b, .fz (.int (Int.ofNat (c + 1))), .fz z])
    | false => B.nx _) = _
  rw [e]
  show gMod (.int (Int.ofNat a)) (.int (Int.ofNat (c + 1))) (fun z => goWh fracT plainB B n [.fz t, .fz b, .fz (.int (Int.ofNat (c + 1))), .fz z]) = _
  rw [gMod_of (Nat.succ_pos c) h]
  rfl
theorem frac_tail {N : Nat} (hN : 18001 ≤ N) {t : Int} {m : Nat} {k : KF} {B : DEnds} (hB : B.rt = k) (hm : 0 < m) (h : mkP t m k = true) : fracRest N B [.fz (.int t), .fz (.int (Int.ofNat m)), .no, .no] = true := by
  obtain ⟨h1, h2⟩ := mkP_eq h
  have hg : 0 < Nat.gcd t.natAbs m := Nat.gcd_pos_of_pos_right _ hm
  have hl : logOk (Nat.gcd t.natAbs m) = true := log_mono (Nat.le_of_dvd hm (Nat.gcd_dvd_right _ _)) h1
  show goWh fracT plainB _ N [.fz (.int t), .fz (.int (Int.ofNat m)), .fz (.int (if t < 0 then -t else t)), .fz (.int (Int.ofNat m))] = true
  rw [abs_eq, frac_loop _ _ _ _ _ _ hN h1]
  show gFdiv (.int t) (.int (Int.ofNat (Nat.gcd t.natAbs m))) (fun x => gFdiv (.int (Int.ofNat m)) (.int (Int.ofNat (Nat.gcd t.natAbs m))) fun y => B.rt (.tuple [x, y])) = true
  rw [gFdiv_of hg hl, gFdiv_of hg hl, hB]
  exact h2
def fracB (k : KF) : DEnds := { nx := fun _ => k .none, rt := k, bk := fun _ => false, ct := fun _ => false }
theorem le_frac (N : Nat) (hN : 18001 ≤ N) (ds : List PyData) (k : KF) (h : qReduced ds k = true) : mOf 4 (bFrac N) ds k = true := by
  unfold qReduced at h
  split at h
  · rename_i t b
    obtain ⟨s, n, h1, h2⟩ := mkFr_eq h
    rcases h2 with ⟨rfl, rfl⟩ | ⟨rfl, rfl⟩
    · have e : decide (Int.ofNat (n + 1) < (0 : Int)) = false := decide_eq_false (by rw [Int.ofNat_eq_natCast]; omega)
      show (match decide (Int.ofNat (n + 1) < (0 : Int)) with
        | true => fI (0 - s) fun z => fI (0 - Int.ofNat (n + 1)) fun y => fracRest N (fracB k) [.fz (.int z), .fz (.int y), .no, .no]
        | false => fracRest N (fracB k) [.fz (.int s), .fz (.int (Int.ofNat (n + 1))), .no, .no]) = true
      rw [e]
      exact frac_tail hN rfl (Nat.succ_pos n) h1
    · have e : decide (Int.negSucc n < (0 : Int)) = true := decide_eq_true (Int.negSucc_lt_zero n)
      show (match decide (Int.negSucc n < (0 : Int)) with
        | true => fI (0 - t) fun z => fI (0 - Int.negSucc n) fun y => fracRest N (fracB k) [.fz (.int z), .fz (.int y), .no, .no]
        | false => fracRest N (fracB k) [.fz (.int t), .fz (.int (Int.negSucc n)), .no, .no]) = true
      rw [e]
      show fI (0 - t) (fun z => fI (0 - Int.negSucc n) fun y => fracRest N (fracB k) [.fz (.int z), .fz (.int y), .no, .no]) = true
      rw [fI_eq, fI_eq]
      have e2 : (0 : Int) - Int.negSucc n = Int.ofNat (n + 1) := by
        rw [Int.ofNat_eq_natCast]; omega
      rw [e2]
      exact frac_tail hN rfl (Nat.succ_pos n) h1
  · cases h
/-! ### the four operations, fast where nothing is below 0 -/
def RedOk (red : Fn) : Prop := ∀ (t m : Nat) (k : Nat → Nat → Bool) (K : KF), nRed t m k = true → (∀ x y, x ≤ bigN → y ≤ bigN → k x y = true → K (pq x y) = true) → red [.int (Int.ofNat t), .int (Int.ofNat m)] K = true
theorem redOk_reduced : RedOk qReduced := fun _ _ _ _ h q => le_nRed h q
theorem redOk_plain : RedOk qPlain := fun t m k K h q => by
  have h1 : t ≤ bigN := by
    unfold nRed at h
    cases e : okN t m with
    | false => rw [e] at h; cases h
    | true => exact (okN_ok e).1
  show (match Nat.ble (Nat.log2 t) 900000 with
    | true => qReduced [.int (Int.ofNat t), .int (Int.ofNat m)] K
    | false => false) = true
  rw [show Nat.ble (Nat.log2 t) 900000 = true from Nat.ble_eq_true_of_le (Nat.le_trans (big_log h1) (by decide))]
  exact le_nRed h q
def qFr2F (ok : Nat → Nat → Nat → Nat → Bool) (f : Nat → Nat → Nat → Nat → (Nat → Nat → Bool) → Bool) (slow : Fn) : Fn := fun ds k => match ds with
  | [.tuple [.int (.ofNat a), .int (.ofNat b)], .tuple [.int (.ofNat c), .int (.ofNat d)]] => (match ok a b c d with
    | true => f a b c d fun x y => k (pq x y)
    | false => slow ds k)
  | _ => slow ds k
def ok4 (a b c d : Nat) : Bool := Nat.ble (Nat.add (Nat.add a b) (Nat.add c d)) bigN
def ok4T (a b c d : Nat) : Bool := match ok4 a b c d with
  | true => Nat.ble (Nat.mul c b) (Nat.mul a d)
  | false => false
theorem ok4_ok {a b c d : Nat} (h : ok4 a b c d = true) : a ≤ bigN ∧ b ≤ bigN ∧ c ≤ bigN ∧ d ≤ bigN := by
  have h1 : (a + b) + (c + d) ≤ bigN := Nat.le_of_ble_eq_true h
  omega
def qAddF (red : Fn) : Fn := qFr2F ok4 nAdd (qAddR red)
def qMulF (red : Fn) : Fn := qFr2F ok4 nMul (qMulR red)
def qDivF (red : Fn) : Fn := qFr2F ok4 nDiv (qDivR red)
def qTakeF (red : Fn) : Fn := qFr2F ok4T nTake (qTakeR red)
theorem le_F {ok : Nat → Nat → Nat → Nat → Bool} {f : Nat → Nat → Nat → Nat → (Nat → Nat → Bool) → Bool} {slow : Fn} (e : ∀ a b c d k, ok a b c d = true → f a b c d (fun x y => k (pq x y)) = true → slow [pq a b, pq c d] k = true) (ds : List PyData) (k : KF) (h : qFr2F ok f slow ds k = true) : slow ds k = true := by
  unfold qFr2F at h
  split at h
  · rename_i a b c d
    cases q : ok a b c d with
    | true => rw [q] at h; exact e a b c d k q h
    | false => rw [q] at h; exact h
  · exact h
section
variable {red : Fn} (R : RedOk red)
include R
theorem le_addF (ds : List PyData) (k : KF) (h : qAddF red ds k = true) : mOf 2 (bAdd red) ds k = true := by
  refine le_add red ds k (le_F (fun a b c d k o h => ?_) ds k h)
  obtain ⟨ha, hb, hc, hd⟩ := ok4_ok o
  show (mI (Int.ofNat a) (Int.ofNat d) fun x => mI (Int.ofNat c) (Int.ofNat b) fun y => mI (Int.ofNat b) (Int.ofNat d) fun z => fI (x + y) fun t => red [.int t, .int z] k) = true
  rw [mI_nat ha hd, mI_nat hc hb, mI_nat hb hd, fI_eq]
  exact R _ _ _ _ h fun _ _ _ _ h => h
theorem le_mulF (ds : List PyData) (k : KF) (h : qMulF red ds k = true) : mOf 2 (bMul red) ds k = true := by
  refine le_mul red ds k (le_F (fun a b c d k o h => ?_) ds k h)
  obtain ⟨ha, hb, hc, hd⟩ := ok4_ok o
  show (mI (Int.ofNat a) (Int.ofNat c) fun x => mI (Int.ofNat b) (Int.ofNat d) fun z => red [.int x, .int z] k) = true
  rw [mI_nat ha hc, mI_nat hb hd]
  exact R _ _ _ _ h fun _ _ _ _ h => h
theorem le_divF (ds : List PyData) (k : KF) (h : qDivF red ds k = true) : mOf 2 (bDiv red) ds k = true := by
  refine le_div red ds k (le_F (fun a b c d k o h => ?_) ds k h)
  obtain ⟨ha, hb, hc, hd⟩ := ok4_ok o
  show (mI (Int.ofNat a) (Int.ofNat d) fun x => mI (Int.ofNat b) (Int.ofNat c) fun z => red [.int x, .int z] k) = true
  rw [mI_nat ha hd, mI_nat hb hc]
  exact R _ _ _ _ h fun _ _ _ _ h => h
theorem le_takeF (ds : List PyData) (k : KF) (h : qTakeF red ds k = true) : mOf 2 (bTake red) ds k = true := by
  refine le_take red ds k (le_F (fun a b c d k o h => ?_) ds k h)
  unfold ok4T at o
  cases o4 : ok4 a b c d with
  | false => rw [o4] at o; cases o
  | true =>
    obtain ⟨ha, hb, hc, hd⟩ := ok4_ok o4
    rw [o4] at o
    have hle : c * b ≤ a * d := Nat.le_of_ble_eq_true o
    unfold nTake at h
    rw [show Nat.ble (Nat.mul c b) (Nat.mul a d) = true from o] at h
    show (mI (Int.ofNat a) (Int.ofNat d) fun x => mI (Int.ofNat c) (Int.ofNat b) fun y => mI (Int.ofNat b) (Int.ofNat d) fun z => fI (x - y) fun t => red [.int t, .int z] k) = true
    rw [mI_nat ha hd, mI_nat hc hb, mI_nat hb hd, fI_eq, show Int.ofNat (a * d) - Int.ofNat (c * b) = Int.ofNat (a * d - c * b) from (Int.ofNat_sub hle).symm]
    exact R _ _ _ _ h fun _ _ _ _ h => h
end
end Dl

namespace Dl
open PySem PySem.Spec PyProof.Rows L2
/-! ### along a walk -/
theorem nRed_mono {t m : Nat} {k k' : Nat → Nat → Bool} (h : nRed t m k = true) (q : ∀ x y, x ≤ bigN → y ≤ bigN → k x y = true → k' x y = true) : nRed t m k' = true := by
  unfold nRed at h ⊢
  cases e : okN t m with
  | false => rw [e] at h; cases h
  | true =>
    rw [e] at h
    obtain ⟨h1, h2, _⟩ := okN_ok e
    simp only [frS_eq] at h ⊢
    exact q _ _ (Nat.le_trans (Nat.div_le_self _ _) h1) (Nat.le_trans (Nat.div_le_self _ _) h2) h
section
variable {red : Fn} (R : RedOk red) {a b c d : Nat} {k : Nat → Nat → Bool} {K : KF}
include R
theorem st_add (ha : a ≤ bigN) (hb : b ≤ bigN) (hc : c ≤ bigN) (hd : d ≤ bigN) (h : nAdd a b c d k = true) (q : ∀ x y, x ≤ bigN → y ≤ bigN → k x y = true → K (pq x y) = true) : qAddF red [pq a b, pq c d] K = true := by
  show (match ok4 a b c d with
    | true => nAdd a b c d fun x y => K (pq x y)
    | false => mI (Int.ofNat a) (Int.ofNat d) fun x => mI (Int.ofNat c) (Int.ofNat b) fun y => mI (Int.ofNat b) (Int.ofNat d) fun z => fI (x + y) fun t => red [.int t, .int z] K) = true
  cases ok4 a b c d with
  | true => exact nRed_mono h q
  | false =>
    show (mI (Int.ofNat a) (Int.ofNat d) fun x => mI (Int.ofNat c) (Int.ofNat b) fun y => mI (Int.ofNat b) (Int.ofNat d) fun z => fI (x + y) fun t => red [.int t, .int z] K) = true
    rw [mI_nat ha hd, mI_nat hc hb, mI_nat hb hd, fI_eq]
    exact R _ _ _ _ h q
theorem st_mul (ha : a ≤ bigN) (hb : b ≤ bigN) (hc : c ≤ bigN) (hd : d ≤ bigN) (h : nMul a b c d k = true) (q : ∀ x y, x ≤ bigN → y ≤ bigN → k x y = true → K (pq x y) = true) : qMulF red [pq a b, pq c d] K = true := by
  show (match ok4 a b c d with
    | true => nMul a b c d fun x y => K (pq x y)
    | false => mI (Int.ofNat a) (Int.ofNat c) fun x => mI (Int.ofNat b) (Int.ofNat d) fun z => red [.int x, .int z] K) = true
  cases ok4 a b c d with
  | true => exact nRed_mono h q
  | false =>
    show (mI (Int.ofNat a) (Int.ofNat c) fun x => mI (Int.ofNat b) (Int.ofNat d) fun z => red [.int x, .int z] K) = true
    rw [mI_nat ha hc, mI_nat hb hd]
    exact R _ _ _ _ h q
theorem st_div (ha : a ≤ bigN) (hb : b ≤ bigN) (hc : c ≤ bigN) (hd : d ≤ bigN) (h : nDiv a b c d k = true) (q : ∀ x y, x ≤ bigN → y ≤ bigN → k x y = true → K (pq x y) = true) : qDivF red [pq a b, pq c d] K = true := by
  show (match ok4 a b c d with
    | true => nDiv a b c d fun x y => K (pq x y)
    | false => mI (Int.ofNat a) (Int.ofNat d) fun x => mI (Int.ofNat b) (Int.ofNat c) fun z => red [.int x, .int z] K) = true
  cases ok4 a b c d with
  | true => exact nRed_mono h q
  | false =>
    show (mI (Int.ofNat a) (Int.ofNat d) fun x => mI (Int.ofNat b) (Int.ofNat c) fun z => red [.int x, .int z] K) = true
    rw [mI_nat ha hd, mI_nat hb hc]
    exact R _ _ _ _ h q
theorem st_take (ha : a ≤ bigN) (hb : b ≤ bigN) (hc : c ≤ bigN) (hd : d ≤ bigN) (h : nTake a b c d k = true) (q : ∀ x y, x ≤ bigN → y ≤ bigN → k x y = true → K (pq x y) = true) : qTakeF red [pq a b, pq c d] K = true := by
  unfold nTake at h
  cases e : Nat.ble (Nat.mul c b) (Nat.mul a d) with
  | false => rw [e] at h; cases h
  | true =>
    rw [e] at h
    have hle : c * b ≤ a * d := Nat.le_of_ble_eq_true e
    show (match ok4T a b c d with
      | true => nTake a b c d fun x y => K (pq x y)
      | false => mI (Int.ofNat a) (Int.ofNat d) fun x => mI (Int.ofNat c) (Int.ofNat b) fun y => mI (Int.ofNat b) (Int.ofNat d) fun z => fI (x - y) fun t => red [.int t, .int z] K) = true
    cases ok4T a b c d with
    | true =>
      show nTake a b c d (fun x y => K (pq x y)) = true
      unfold nTake
      rw [e]
      exact nRed_mono h q
    | false =>
      show (mI (Int.ofNat a) (Int.ofNat d) fun x => mI (Int.ofNat c) (Int.ofNat b) fun y => mI (Int.ofNat b) (Int.ofNat d) fun z => fI (x - y) fun t => red [.int t, .int z] K) = true
      rw [mI_nat ha hd, mI_nat hc hb, mI_nat hb hd, fI_eq, show Int.ofNat (a * d) - Int.ofNat (c * b) = Int.ofNat (a * d - c * b) from (Int.ofNat_sub hle).symm]
      exact R _ _ _ _ h q
end
def frOf (d : PyData) (k : Nat → Nat → Bool) : Bool := match d with
  | .tuple [.int (.ofNat a), .int (.ofNat b)] => (match Nat.ble (Nat.add a b) bigN with
    | true => k a b
    | false => false)
  | _ => false
theorem frOf_eq {d : PyData} {k : Nat → Nat → Bool} (h : frOf d k = true) : ∃ a b, d = pq a b ∧ a ≤ bigN ∧ b ≤ bigN ∧ k a b = true := by
  unfold frOf at h
  split at h
  · rename_i a b
    cases e : Nat.ble (Nat.add a b) bigN with
    | false => rw [e] at h; cases h
    | true =>
      rw [e] at h
      have h1 : a + b ≤ bigN := Nat.le_of_ble_eq_true e
      exact ⟨a, b, rfl, by omega, by omega, h⟩
  · cases h
structure QR where
  f : Nat
  g : Nat
  p : Nat
  r : Nat
def QR.enc (q : QR) : PyData := .tuple [pq q.f q.g, pq q.p q.r]
def QR.Ok (q : QR) : Prop := q.f ≤ bigN ∧ q.g ≤ bigN ∧ q.p ≤ bigN ∧ q.r ≤ bigN
def qsFwd : List PyData → List PyData → Nat → Nat → Nat → Nat → List QR → (List QR → Bool) → Bool
  | [], _, _, _, _, _, rows, k => k rows
  | w :: ws, ss, f, g, p, r, rows, k => match ss with
    | [] => k rows
    | s :: ss => (match w with
      | .tuple [x, y] => frOf x fun a b => frOf y fun c d => frOf s fun e h => nAdd a b c d fun x y => nMul a b f g fun u v => nTake x y u v fun bt bm => nDiv c d bt bm fun f' g' => nMul a b p r fun u v => nAdd e h u v fun u v => nDiv u v bt bm fun p' r' => (match small rows.length with
        | true => qsFwd ws ss f' g' p' r' (⟨f', g', p', r'⟩ :: rows) k
        | false => false)
      | _ => false)
def qsBack : List QR → Nat → Nat → List PyData → (List PyData → Bool) → Bool
  | [], _, _, acc, k => k acc
  | q :: rows, z, w, acc, k => nMul q.f q.g z w fun u v => nAdd u v q.p q.r fun z' w' => (match small acc.length with
    | true => qsBack rows z' w' (pq z' w' :: acc) k
    | false => false)
def qSolved : Fn := fun ds k => match ds with
  | [.list walk, first, last, .list sums] => frOf first fun p r => frOf last fun z w => qsFwd walk sums 0 1 p r [] fun rows => qsBack rows z w [pq z w] fun acc => (match small (1 + acc.length) with
    | true => k (.list (pq p r :: acc))
    | false => false)
  | _ => false
section
variable (ad mu tk dv : Fn)
def slG : DG := gT 2 (gsCons (gT 2 (gsCons (gN 7) (gsCons (gN 8) gsNil))) (gsCons (gN 9) gsNil))
def slB : DS := (sSeq (sAsg (dCallN 2 tk (aCons (dCallN 2 ad (aCons (dVar 7) (aCons (dVar 8) aNil))) (aCons (dCallN 2 mu (aCons (dVar 7) (aCons (dVar 4) aNil))) aNil))) (gN 10))
  (sSeq (sPar 4 5 (aCons (dCallN 2 dv (aCons (dVar 8) (aCons (dVar 10) aNil))) (aCons (dCallN 2 dv (aCons (dCallN 2 ad (aCons (dVar 9) (aCons (dCallN 2 mu (aCons (dVar 7) (aCons (dVar 5) aNil))) aNil))) (aCons (dVar 10) aNil))) aNil)))
  (sApp 6 (dTup (aCons (dVar 4) (aCons (dVar 5) aNil))))))
def slG2 : DG := gT 2 (gsCons (gN 12) (gsCons (gN 13) gsNil))
def slB2 : DS := sApp 11 (dBor [11] (dCallN 2 ad (aCons (dCallN 2 mu (aCons (dVar 12) (aCons (dOp gIx (dVar 11) (dUn gNeg (dC (.int 1)))) aNil))) (aCons (dVar 13) aNil))))
def slEnd : DS := sFrz 11 (sRet (dOp gAdd (dLst (aCons (dVar 1) aNil)) (dUn gRev (dVar 11))))
def slTail : DS := (sSeq (sOwn 11 (fLst (aCons (dVar 2) aNil)))
  (sFrz 6 (sSeq (sFor (iSeq (dUn gRev (dVar 6))) slG2 (slB2 ad mu)) slEnd)))
def bSolved (nt : PyData) : DS := (sSeq (sPar3F 4 5 6 (dC nt) (dVar 1) (fLst aNil))
  (sSeq (sFor (iZipD (dVar 0) (dVar 3)) slG (slB ad mu tk dv)) (slTail ad mu)))
end
abbrev sEnv (x0 x1 x2 x3 : PyData) (f g p r : Nat) (s6 a7 a8 a9 a10 a11 a12 a13 : Sl) : Sls := [.fz x0, .fz x1, .fz x2, .fz x3, .fz (pq f g), .fz (pq p r), s6, a7, a8, a9, a10, a11, a12, a13]
theorem fwd_le {red : Fn} (R : RedOk red) {x0 x1 x2 x3 : PyData} {a11 a12 a13 : Sl} {B : DEnds} {k : List QR → Bool} (hB : ∀ (rows : List QR) (f g p r : Nat) (a7 a8 a9 a10 : Sl), (∀ q ∈ rows, q.Ok) → k rows = true → B.nx (sEnv x0 x1 x2 x3 f g p r (.ow (rows.reverse.map QR.enc)) a7 a8 a9 a10 a11 a12 a13) = true) :
    ∀ (ws ss : List PyData) (f g p r : Nat) (rows : List QR) (a7 a8 a9 a10 : Sl), f ≤ bigN → g ≤ bigN → p ≤ bigN → r ≤ bigN → (∀ q ∈ rows, q.Ok) → qsFwd ws ss f g p r rows k = true →
      goFor slG (slB (qAddF red) (qMulF red) (qTakeF red) (qDivF red)) B (zipD ws ss) (sEnv x0 x1 x2 x3 f g p r (.ow (rows.reverse.map QR.enc)) a7 a8 a9 a10 a11 a12 a13) = true
  | [], ss, f, g, p, r, rows, a7, a8, a9, a10, _, _, _, _, hr, h => hB rows f g p r a7 a8 a9 a10 hr h
  | w :: ws, [], f, g, p, r, rows, a7, a8, a9, a10, _, _, _, _, hr, h => hB rows f g p r a7 a8 a9 a10 hr h
  | w :: ws, s :: ss, f, g, p, r, rows, a7, a8, a9, a10, hf, hg, hp, hr0, hr, h => by
    unfold qsFwd at h
    dsimp only at h
    split at h
    case h_2 => cases h
    rename_i x y
    obtain ⟨a, b, rfl, ha, hb, h⟩ := frOf_eq h
    obtain ⟨c, d, rfl, hc, hd, h⟩ := frOf_eq h
    obtain ⟨e, l, rfl, he, hl, h⟩ := frOf_eq h
    show qAddF red [pq a b, pq c d] (fun X => qMulF red [pq a b, pq f g] fun Y => qTakeF red [X, Y] fun T => qDivF red [pq c d, T] fun F => qMulF red [pq a b, pq p r] fun Z => qAddF red [pq e l, Z] fun Z => qDivF red [Z, T] fun P =>
      (match small (rows.reverse.map QR.enc).length with
        | true => goFor slG (slB (qAddF red) (qMulF red) (qTakeF red) (qDivF red)) B (zipD ws ss) [.fz x0, .fz x1, .fz x2, .fz x3, .fz F, .fz P, .ow (rows.reverse.map QR.enc ++ [.tuple [F, P]]), .fz (pq a b), .fz (pq c d), .fz (pq e l), .fz T, a11, a12, a13]
        | false => false)) = true
    refine st_add R ha hb hc hd h fun x y hx hy h => ?_
    refine st_mul R ha hb hf hg h fun u v hu hv h => ?_
    refine st_take R hx hy hu hv h fun bt bm hbt hbm h => ?_
    refine st_div R hc hd hbt hbm h fun f' g' hf' hg' h => ?_
    refine st_mul R ha hb hp hr0 h fun u v hu hv h => ?_
    refine st_add R he hl hu hv h fun u v hu hv h => ?_
    refine st_div R hu hv hbt hbm h fun p' r' hp' hr' h => ?_
    rw [List.length_map, List.length_reverse]
    cases es : small rows.length with
    | false => rw [es] at h; cases h
    | true =>
      rw [es] at h
      have e1 : rows.reverse.map QR.enc ++ [.tuple [pq f' g', pq p' r']] = ((⟨f', g', p', r'⟩ :: rows : List QR).reverse).map QR.enc := by
        rw [List.reverse_cons, List.map_append]
        rfl
      show goFor slG (slB (qAddF red) (qMulF red) (qTakeF red) (qDivF red)) B (zipD ws ss) [.fz x0, .fz x1, .fz x2, .fz x3, .fz (pq f' g'), .fz (pq p' r'), .ow (rows.reverse.map QR.enc ++ [.tuple [pq f' g', pq p' r']]), .fz (pq a b), .fz (pq c d), .fz (pq e l), .fz (pq bt bm), a11, a12, a13] = true
      rw [e1]
      exact fwd_le R hB ws ss f' g' p' r' (⟨f', g', p', r'⟩ :: rows) _ _ _ _ hf' hg' hp' hr' (fun q hq => by
        rcases List.mem_cons.mp hq with rfl | hq
        · exact ⟨hf', hg', hp', hr'⟩
        · exact hr q hq) h
theorem at_last (xs : List PyData) (x : PyData) : atI (xs ++ [x]) (-1) = some x := by
  have hl : (xs ++ [x]).length = xs.length + 1 := by rw [List.length_append]; rfl
  unfold atI ixN
  rw [hl, if_neg (by decide), if_pos (by omega)]
  show (xs ++ [x])[((-1 : Int) + ((xs.length + 1 : Nat) : Int)).toNat]? = some x
  rw [show ((-1 : Int) + ((xs.length + 1 : Nat) : Int)).toNat = xs.length by omega, List.getElem?_append_right (Nat.le_refl _), Nat.sub_self]
  rfl
theorem back_le {red : Fn} (R : RedOk red) {s0 s1 s2 s3 s4 s5 s6 s7 s8 s9 s10 : Sl} {B : DEnds} {k : List PyData → Bool} (hB : ∀ (acc : List PyData) (a12 a13 : Sl), k acc = true → B.nx [s0, s1, s2, s3, s4, s5, s6, s7, s8, s9, s10, .ow acc.reverse, a12, a13] = true) :
    ∀ (rows : List QR) (z w : Nat) (acc : List PyData) (a12 a13 : Sl), (∀ q ∈ rows, q.Ok) → z ≤ bigN → w ≤ bigN → qsBack rows z w (pq z w :: acc) k = true →
      goFor slG2 (slB2 (qAddF red) (qMulF red)) B (rows.map QR.enc) [s0, s1, s2, s3, s4, s5, s6, s7, s8, s9, s10, .ow (pq z w :: acc).reverse, a12, a13] = true
  | [], z, w, acc, a12, a13, _, _, _, h => hB _ a12 a13 h
  | q :: rows, z, w, acc, a12, a13, hr, hz, hw, h => by
    obtain ⟨h1, h2, h3, h4⟩ := hr q List.mem_cons_self
    unfold qsBack at h
    rw [List.reverse_cons]
    show (fI (-1) fun i => (match atI (acc.reverse ++ [pq z w]) i with
      | some l => qMulF red [pq q.f q.g, l] fun X => qAddF red [X, pq q.p q.r] fun Y => (match noList Y with
        | true => (match small (acc.reverse ++ [pq z w]).length with
          | true => goFor slG2 (slB2 (qAddF red) (qMulF red)) B (rows.map QR.enc) [s0, s1, s2, s3, s4, s5, s6, s7, s8, s9, s10, .ow (acc.reverse ++ [pq z w] ++ [Y]), .fz (pq q.f q.g), .fz (pq q.p q.r)]
          | false => false)
        | false => false)
      | none => false)) = true
    rw [fI_eq, at_last]
    refine st_mul R h1 h2 hz hw h fun u v hu hv h => ?_
    refine st_add R hu hv h3 h4 h fun z' w' hz' hw' h => ?_
    have hl : (acc.reverse ++ [pq z w]).length = (pq z w :: acc).length := by rw [List.length_append, List.length_reverse]; rfl
    show (match small (acc.reverse ++ [pq z w]).length with
          | true => goFor slG2 (slB2 (qAddF red) (qMulF red)) B (rows.map QR.enc) [s0, s1, s2, s3, s4, s5, s6, s7, s8, s9, s10, .ow (acc.reverse ++ [pq z w] ++ [pq z' w']), .fz (pq q.f q.g), .fz (pq q.p q.r)]
          | false => false) = true
    rw [hl]
    cases es : small (pq z w :: acc).length with
    | false => rw [es] at h; cases h
    | true =>
      rw [es] at h
      have e1 : acc.reverse ++ [pq z w] ++ [pq z' w'] = (pq z' w' :: (pq z w :: acc)).reverse := by
        rw [List.reverse_cons, List.reverse_cons]
      show goFor slG2 (slB2 (qAddF red) (qMulF red)) B (rows.map QR.enc) [s0, s1, s2, s3, s4, s5, s6, s7, s8, s9, s10, .ow (acc.reverse ++ [pq z w] ++ [pq z' w']), .fz (pq q.f q.g), .fz (pq q.p q.r)] = true
      rw [e1]
      exact back_le R hB rows z' w' (pq z w :: acc) _ _ (fun q hq => hr q (List.mem_cons_of_mem _ hq)) hz' hw' h
theorem le_solved {red : Fn} (R : RedOk red) (ds : List PyData) (k : KF) (h : qSolved ds k = true) : mOf 14 (bSolved (qAddF red) (qMulF red) (qTakeF red) (qDivF red) (.tuple [.int 0, .int 1])) ds k = true := by
  unfold qSolved at h
  split at h
  case h_2 => cases h
  rename_i walk first last sums
  obtain ⟨p, r, rfl, hp, hr, h⟩ := frOf_eq h
  obtain ⟨z, w, rfl, hz, hw, h⟩ := frOf_eq h
  refine fwd_le (B := { nx := slTail (qAddF red) (qMulF red) { nx := fun _ => k .none, rt := k, bk := fun _ => false, ct := fun _ => false }, rt := k, bk := fun _ => false, ct := fun _ => false }) R (x0 := .list walk) (x1 := pq p r) (x2 := pq z w) (x3 := .list sums) (a11 := .no) (a12 := .no) (a13 := .no) (fun rows f g p' r' a7 a8 a9 a10 hrw hk => ?_) walk sums 0 1 p r [] .no .no .no .no (Nat.zero_le _) (by decide +kernel) hp hr (fun q hq => nomatch hq) h
  have hk : qsBack rows z w [pq z w] (fun acc => match small (1 + acc.length) with
    | true => k (.list (pq p r :: acc))
    | false => false) = true := hk
  have e : (rows.reverse.map QR.enc).reverse = rows.map QR.enc := by rw [← List.map_reverse, List.reverse_reverse]
  show goFor slG2 (slB2 (qAddF red) (qMulF red)) _ (rows.reverse.map QR.enc).reverse [.fz (.list walk), .fz (pq p r), .fz (pq z w), .fz (.list sums), .fz (pq f g), .fz (pq p' r'), .fz (.list (rows.reverse.map QR.enc)), a7, a8, a9, a10, .ow [pq z w].reverse, .no, .no] = true
  rw [e]
  refine back_le R (fun acc a12 a13 hacc => ?_) rows z w [] .no .no hrw hz hw hk
  show (match small ([pq p r].length + acc.reverse.reverse.length) with
    | true => k (.list ([pq p r] ++ acc.reverse.reverse))
    | false => false) = true
  rw [List.reverse_reverse]
  exact hacc
end Dl

namespace Dl
open PySem PySem.Spec PyProof.Rows L2
/-! ### whether it is a fraction -/
def bIsInt : DS := (sRet (dAndV (dIs .int (dVar 0)) (dNotV (dIs .bool (dVar 0)))))
def bIsFr (isI dv : Fn) : DS := (sSeq (sIf (dOr (dNot (dB (dIs .tuple (dVar 0)))) (dOr (dB (dOp gNe (dCB gLen (aCons (dVar 0) aNil)) (dC (.int 2)))) (dOr (dNot (dB (dCallN 1 isI (aCons (dOp gIx (dVar 0) (dC (.int 0))) aNil)))) (dNot (dB (dCallN 1 isI (aCons (dOp gIx (dVar 0) (dC (.int 1))) aNil))))))) (sRet (dC (.bool false))) sNil)
  (sRet (dAndV (dOp gGe (dOp gIx (dVar 0) (dC (.int 1))) (dC (.int 1))) (dOp gEq (dCallN 2 dv (aCons (dCB gAbs (aCons (dOp gIx (dVar 0) (dC (.int 0))) aNil)) (aCons (dOp gIx (dVar 0) (dC (.int 1))) aNil))) (dC (.int 1))))))
def qIsFr (slow : Fn) : Fn := fun ds k => match ds with
  | [.tuple [.int (.ofNat a), .int (.ofNat b)]] => (match Nat.beq (Nat.gcd a b) 1 with
    | true => (match Nat.ble 1 b with
      | true => (match logOk b with
        | true => k (.bool true)
        | false => slow ds k)
      | false => slow ds k)
    | false => slow ds k)
  | _ => slow ds k
theorem le_isFr (ds : List PyData) (k : KF) (h : qIsFr (mOf 1 (bIsFr (mOf 1 bIsInt) qDivisor)) ds k = true) : mOf 1 (bIsFr (mOf 1 bIsInt) qDivisor) ds k = true := by
  unfold qIsFr at h
  split at h
  case h_2 => exact h
  rename_i a b
  cases e1 : Nat.beq (Nat.gcd a b) 1 with
  | false => rw [e1] at h; exact h
  | true =>
    rw [e1] at h
    cases e2 : Nat.ble 1 b with
    | false => rw [e2] at h; exact h
    | true =>
      rw [e2] at h
      cases e3 : logOk b with
      | false => rw [e3] at h; exact h
      | true =>
        rw [e3] at h
        have hb : 1 ≤ b := Nat.le_of_ble_eq_true e2
        have hg : Nat.gcd a b = 1 := Nat.eq_of_beq_eq_true e1
        have d1 : decide ((1 : Int) ≤ Int.ofNat b) = true := decide_eq_true (Int.ofNat_le.mpr hb)
        show (match PyData.bool (decide ((1 : Int) ≤ Int.ofNat b)) with
          | .bool true => qDivisor [.int (if Int.ofNat a < 0 then -(Int.ofNat a) else Int.ofNat a), .int (Int.ofNat b)] fun g => gEq g (.int 1) k
          | .bool false => k (.bool false)
          | _ => false) = true
        rw [d1]
        show qDivisor [.int (if Int.ofNat a < 0 then -(Int.ofNat a) else Int.ofNat a), .int (Int.ofNat b)] (fun g => gEq g (.int 1) k) = true
        rw [if_neg (by rw [Int.ofNat_eq_natCast]; omega), qDivisor_of _ _ e3, hg]
        exact h
/-! ### a walk changed at some places -/
def bChg : DS := (sRet (dLc (iEnumZip (dVar 0) (dVar 1)) (gT 2 (gsCons (gN 3) (gsCons (gT 2 (gsCons (gN 4) (gsCons (gN 5) gsNil))) gsNil))) dYes (dIf (dB (dOp gIn (dOp gAdd (dVar 3) (dC (.int 1))) (dVar 2))) (dVar 5) (dVar 4)) [3, 4, 5]))
def memN (n : Nat) : List Int → Bool
  | [] => false
  | i :: r => match i with
    | .ofNat m => (match Nat.beq m n with
      | true => true
      | false => memN n r)
    | _ => memN n r
def chgK (l : List Int) : Nat → List PyData → List PyData → (List PyData → Bool) → Bool
  | _, [], _, k => k []
  | i, w :: ws, os, k => match os with
    | [] => k []
    | o :: os => (match memN (Nat.succ i) l with
      | true => chgK l (Nat.succ i) ws os fun r => k (o :: r)
      | false => chgK l (Nat.succ i) ws os fun r => k (w :: r))
def qChg : Fn := fun ds k => match ds with
  | [.list ws, .list os, .tuple ps] => (match asInts ps with
    | some l => (match small ws.length with
      | true => chgK l 0 ws os fun r => k (.list r)
      | false => false)
    | none => false)
  | _ => false
theorem memN_eq (n : Nat) : ∀ l : List Int, memN n l = l.any fun y => y == Int.ofNat n
  | [] => rfl
  | i :: r => by
    unfold memN
    rw [List.any_cons, ← memN_eq n r]
    cases i with
    | ofNat m =>
      have e : (Int.ofNat m == Int.ofNat n) = Nat.beq m n := by rw [← eqI_eq]; rfl
      rw [e]
      dsimp only
      cases Nat.beq m n <;> rfl
    | negSucc m =>
      have e : (Int.negSucc m == Int.ofNat n) = false := by rw [← eqI_eq]; rfl
      rw [e]
      rfl
def chgT : DG := gT 2 (gsCons (gN 3) (gsCons (gT 2 (gsCons (gN 4) (gsCons (gN 5) gsNil))) gsNil))
def chgE : DE := dIf (dB (dOp gIn (dOp gAdd (dVar 3) (dC (.int 1))) (dVar 2))) (dVar 5) (dVar 4)
theorem chg_eq (x0 x1 : Sl) (l : List Int) (k : KF) : ∀ (i : Nat) (ws os acc : List PyData), goLc chgT dYes chgE [x0, x1, .fz (.tuple (l.map PyData.int)), .no, .no, .no] (enumD i (zipD ws os)) acc k = chgK l i ws os fun r => k (.list (acc.reverse ++ r))
  | i, [], os, acc => by
    show k (.list acc.reverse) = k (.list (acc.reverse ++ []))
    rw [List.append_nil]
  | i, w :: ws, [], acc => by
    show k (.list acc.reverse) = k (.list (acc.reverse ++ []))
    rw [List.append_nil]
  | i, w :: ws, o :: os, acc => by
    have ai : ∀ l : List Int, asInts (l.map PyData.int) = some l := fun l => by
      induction l with
      | nil => rfl
      | cons i r ih =>
        show (match asInts (r.map PyData.int) with
          | some l => some (i :: l)
          | none => none) = _
        rw [ih]
    have step : ∀ d, goLc chgT dYes chgE [x0, x1, .fz (.tuple (l.map PyData.int)), .no, .no, .no] (enumD (i + 1) (zipD ws os)) (d :: acc) k = chgK l (i + 1) ws os fun r => k (.list (acc.reverse ++ d :: r)) := fun d => by
      rw [chg_eq x0 x1 l k (i + 1) ws os (d :: acc), List.reverse_cons]
      congr 1
      funext r
      rw [List.append_assoc]
      rfl
    show (fI ((i : Int) + 1) fun z => (match asInts (l.map PyData.int) with
      | some l' => (match l'.any (fun y => y == z) with
        | true => goLc chgT dYes chgE [x0, x1, .fz (.tuple (l.map PyData.int)), .no, .no, .no] (enumD (i + 1) (zipD ws os)) (o :: acc) k
        | false => goLc chgT dYes chgE [x0, x1, .fz (.tuple (l.map PyData.int)), .no, .no, .no] (enumD (i + 1) (zipD ws os)) (w :: acc) k)
      | none => false)) = (match memN (i + 1) l with
      | true => chgK l (i + 1) ws os fun r => k (.list (acc.reverse ++ o :: r))
      | false => chgK l (i + 1) ws os fun r => k (.list (acc.reverse ++ w :: r)))
    rw [fI_eq, ai, memN_eq, step, step]
    rfl
theorem le_chg (ds : List PyData) (k : KF) (h : qChg ds k = true) : mOf 6 bChg ds k = true := by
  unfold qChg at h
  split at h
  case h_2 => cases h
  rename_i ws os ps
  cases e : asInts ps with
  | none => rw [e] at h; cases h
  | some l =>
    rw [e] at h
    cases es : small ws.length with
    | false => rw [es] at h; cases h
    | true =>
      rw [es] at h
      have ep := asInts_eq e
      subst ep
      have hs : small (enumD 0 (zipD ws os)).length = true := by
        rw [enumD_len, zipD_len]
        exact Nat.ble_eq_true_of_le (Nat.le_trans (Nat.min_le_left _ _) (Nat.le_of_ble_eq_true es))
      show (match small (enumD 0 (zipD ws os)).length with
        | true => goLc chgT dYes chgE [.fz (.list ws), .fz (.list os), .fz (.tuple (l.map PyData.int)), .no, .no, .no] (enumD 0 (zipD ws os)) [] k
        | false => false) = true
      rw [hs]
      exact (chg_eq _ _ l k 0 ws os []).trans h
end Dl

namespace Dl
open PySem PySem.Spec PyProof.Rows L2
/-! ### more draws ahead -/
abbrev drw (j : Nat) (e : Int) : DE := dCallN 2 mDraw (aPot j (aCons (dC (.int e)) aNil))
theorem draw_at {e : Int} {m j : Nat} {env : Sls} {k : KF} (hp : look env j = .pt) (hm : Nat.ble m 1000000000 = true) (he : e = Int.ofNat (m + 1)) (h : ∀ c, c < m + 1 → k (.int (Int.ofNat c)) = true) : drw j e env k = true := by
  subst he
  show (match look env j with
    | .pt => (match Nat.ble m 1000000000 with
      | true => allB (m + 1) fun c => k (.int (Int.ofNat c))
      | false => false)
    | _ => false) = true
  rw [hp]
  simp only [hm]
  exact allB_of h
theorem draw_add {d e : Int} {m j : Nat} {env : Sls} {k : KF} (hp : look env j = .pt) (hm : Nat.ble m 1000000000 = true) (he : e = Int.ofNat (m + 1)) (h : ∀ c, c < m + 1 → k (.int (d + Int.ofNat c)) = true) : dOp gAdd (dC (.int d)) (drw j e) env k = true := by
  show drw j e env (fun y => gAdd (.int d) y k) = true
  refine draw_at hp hm he fun c hc => ?_
  show fI (d + Int.ofNat c) (fun z => k (.int z)) = true
  rw [fI_eq]
  exact h c hc
theorem draw_par_fr {pl : Fn} {x : PyData} {d e d2 e2 : Int} {m m2 i l j : Nat} {rest : DS} {B : DEnds} {env : Sls} (hp : look env j = .pt) (hm : Nat.ble m 1000000000 = true) (hm2 : Nat.ble m2 1000000000 = true) (he : e = Int.ofNat (m + 1)) (he2 : e2 = Int.ofNat (m2 + 1))
    (h : ∀ c, c < m + 1 → ∀ c2, c2 < m2 + 1 → pl [x, .int (d2 + Int.ofNat c2)] (fun v => rest B ((env.set i (.fz (.int (d + Int.ofNat c)))).set l (.fz v))) = true) :
    sSeq (sPar i l (aCons (dOp gAdd (dC (.int d)) (drw j e)) (aCons (dCallN 2 pl (aCons (dC x) (aCons (dOp gAdd (dC (.int d2)) (drw j e2)) aNil))) aNil))) rest B env = true := by
  show dOp gAdd (dC (.int d)) (drw j e) env (fun a => dOp gAdd (dC (.int d2)) (drw j e2) env fun z => pl [x, z] fun v => rest B ((env.set i (.fz a)).set l (.fz v))) = true
  exact draw_add hp hm he fun c hc => draw_add hp hm2 he2 fun c2 hc2 => h c hc c2 hc2
theorem draw_par3 {d e d2 e2 d3 e3 : Int} {m m2 m3 i l n j : Nat} {rest : DS} {B : DEnds} {env : Sls} (hp : look env j = .pt) (hm : Nat.ble m 1000000000 = true) (hm2 : Nat.ble m2 1000000000 = true) (hm3 : Nat.ble m3 1000000000 = true) (he : e = Int.ofNat (m + 1)) (he2 : e2 = Int.ofNat (m2 + 1)) (he3 : e3 = Int.ofNat (m3 + 1))
    (h : ∀ c, c < m + 1 → ∀ c2, c2 < m2 + 1 → ∀ c3, c3 < m3 + 1 → rest B (((env.set i (.fz (.int (d + Int.ofNat c)))).set l (.fz (.int (d2 + Int.ofNat c2)))).set n (.fz (.int (d3 + Int.ofNat c3)))) = true) :
    sSeq (sPar3 i l n (aCons (dOp gAdd (dC (.int d)) (drw j e)) (aCons (dOp gAdd (dC (.int d2)) (drw j e2)) (aCons (dOp gAdd (dC (.int d3)) (drw j e3)) aNil)))) rest B env = true := by
  show dOp gAdd (dC (.int d)) (drw j e) env (fun a => dOp gAdd (dC (.int d2)) (drw j e2) env fun b => dOp gAdd (dC (.int d3)) (drw j e3) env fun c => rest B (((env.set i (.fz a)).set l (.fz b)).set n (.fz c))) = true
  exact draw_add hp hm he fun c hc => draw_add hp hm2 he2 fun c2 hc2 => draw_add hp hm3 he3 fun c3 hc3 => h c hc c2 hc2 c3 hc3
end Dl

namespace Dl
open PySem PySem.Spec PyProof.Rows L2
/-! ### fractions as rational numbers -/
def fr (q : Rat) : PyData := .tuple [.int q.num, .int (Int.ofNat q.den)]
/-- both parts below 2 ^ n -/
def Bd (n : Nat) (q : Rat) : Prop := q.num.natAbs < 2 ^ n ∧ q.den < 2 ^ n
theorem Bd.mono {m n : Nat} {q : Rat} (h : Bd m q) (e : m ≤ n) : Bd n q := ⟨Nat.lt_of_lt_of_le h.1 (Nat.pow_le_pow_right (by decide) e), Nat.lt_of_lt_of_le h.2 (Nat.pow_le_pow_right (by decide) e)⟩
theorem fr_inj {p q : Rat} (h : fr p = fr q) : p = q := by
  unfold fr at h
  simp only [PyData.tuple.injEq, List.cons.injEq, PyData.int.injEq, and_true] at h
  obtain ⟨h1, h2⟩ := h
  exact Rat.ext h1 (Int.ofNat.inj h2)
theorem mkRat_num {t : Int} {m : Nat} (h : m ≠ 0) : (mkRat t m).num = t / (Nat.gcd t.natAbs m : Nat) ∧ (mkRat t m).den = m / Nat.gcd t.natAbs m := by
  rw [Rat.mkRat_def, dif_neg h, Rat.normalize_eq h]
  exact ⟨rfl, rfl⟩
theorem log_lt {a n : Nat} (h : a < 2 ^ n) : Nat.log2 a ≤ n := by
  by_cases h0 : a = 0
  · subst h0; simp
  · exact Nat.le_of_lt ((Nat.log2_lt h0).mpr h)
theorem mul_ok {i j : Int} {m n : Nat} (hi : i.natAbs < 2 ^ m) (hj : j.natAbs < 2 ^ n) (h : m + n ≤ 999999) : mulOk i j = true := by
  have h1 := log_lt hi
  have h2 := log_lt hj
  exact Nat.ble_eq_true_of_le (show Nat.log2 i.natAbs + Nat.log2 j.natAbs ≤ 999999 by omega)
theorem log_ok {a n : Nat} (h : a < 2 ^ n) (hn : n ≤ 8999) : logOk a = true := Nat.ble_eq_true_of_le (Nat.le_trans (log_lt h) hn)
theorem red_pos {t : Int} {m n : Nat} {k : KF} (hm : m ≠ 0) (hl : m < 2 ^ n) (hn : n ≤ 8999) : mkP t m k = k (fr (mkRat t m)) := by
  unfold mkP
  rw [log_ok hl hn]
  simp only [frN_eq, fI_eq]
  obtain ⟨h1, h2⟩ := mkRat_num (t := t) hm
  unfold fr
  rw [h1, h2]
  rfl
theorem red_fr {t : Int} {m n : Nat} {k : KF} (hm : m ≠ 0) (hl : m < 2 ^ n) (hn : n ≤ 8999) : qReduced [.int t, .int (Int.ofNat m)] k = k (fr (mkRat t m)) := by
  obtain ⟨m', rfl⟩ : ∃ m', m = m' + 1 := ⟨m - 1, by omega⟩
  exact red_pos hm hl hn
theorem bd_mk {t : Int} {m n : Nat} (hm : m ≠ 0) (ht : t.natAbs < 2 ^ n) (hl : m < 2 ^ n) : Bd n (mkRat t m) := by
  obtain ⟨h1, h2⟩ := mkRat_num (t := t) hm
  refine ⟨?_, ?_⟩
  · rw [h1]
    refine Nat.lt_of_le_of_lt ?_ ht
    exact Int.natAbs_ediv_le_natAbs _ _
  · rw [h2]
    exact Nat.lt_of_le_of_lt (Nat.div_le_self _ _) hl
theorem pow_mul_lt {a b m n : Nat} (ha : a < 2 ^ m) (hb : b < 2 ^ n) : a * b < 2 ^ (m + n) := by
  rw [Nat.pow_add]
  exact Nat.mul_lt_mul'' ha hb
theorem nat_mul_lt {i : Int} {b m n : Nat} (ha : i.natAbs < 2 ^ m) (hb : b < 2 ^ n) : (i * (b : Int)).natAbs < 2 ^ (m + n) := by
  rw [Int.natAbs_mul, Int.natAbs_natCast]
  exact pow_mul_lt ha hb
section
variable {p q : Rat} {m n : Nat} {k : KF}
theorem den_ne (p q : Rat) : p.den * q.den ≠ 0 := Nat.mul_ne_zero p.den_nz q.den_nz
theorem add_bd (hp : Bd m p) (hq : Bd n q) : Bd (m + n + 1) (p + q) := by
  rw [Rat.add_def']
  have h1 := nat_mul_lt hp.1 hq.2
  have h2 := nat_mul_lt hq.1 hp.2
  have h3 := pow_mul_lt hp.2 hq.2
  have e : 2 ^ (m + n + 1) = 2 ^ (m + n) + 2 ^ (m + n) := by rw [Nat.pow_succ]; omega
  rw [Nat.add_comm n m] at h2
  refine bd_mk (den_ne p q) ?_ (by omega)
  have := Int.natAbs_add_le (p.num * (q.den : Int)) (q.num * (p.den : Int))
  omega
theorem mul_bd (hp : Bd m p) (hq : Bd n q) : Bd (m + n) (p * q) := by
  rw [Rat.mul_def']
  refine bd_mk (den_ne p q) ?_ (pow_mul_lt hp.2 hq.2)
  rw [Int.natAbs_mul]
  exact pow_mul_lt hp.1 hq.1
theorem add_fr (hp : Bd m p) (hq : Bd n q) (h : m + n ≤ 8999) : qAddR qReduced [fr p, fr q] k = k (fr (p + q)) := by
  have e1 := mul_ok (i := p.num) (j := Int.ofNat q.den) hp.1 hq.2 (by omega)
  have e2 := mul_ok (i := q.num) (j := Int.ofNat p.den) hq.1 hp.2 (by omega)
  have e3 := mul_ok (i := Int.ofNat p.den) (j := Int.ofNat q.den) hp.2 hq.2 (by omega)
  show (mI p.num (Int.ofNat q.den) fun x => mI q.num (Int.ofNat p.den) fun y => mI (Int.ofNat p.den) (Int.ofNat q.den) fun z => fI (x + y) fun t => qReduced [.int t, .int z] k) = _
  unfold mI
  simp only [e1, e2, e3, fI_eq]
  rw [Rat.add_def']
  exact red_fr (den_ne p q) (pow_mul_lt hp.2 hq.2) (by omega)
theorem mul_fr (hp : Bd m p) (hq : Bd n q) (h : m + n ≤ 8999) : qMulR qReduced [fr p, fr q] k = k (fr (p * q)) := by
  have e1 := mul_ok (i := p.num) (j := q.num) hp.1 hq.1 (by omega)
  have e3 := mul_ok (i := Int.ofNat p.den) (j := Int.ofNat q.den) hp.2 hq.2 (by omega)
  show (mI p.num q.num fun x => mI (Int.ofNat p.den) (Int.ofNat q.den) fun z => qReduced [.int x, .int z] k) = _
  unfold mI
  simp only [e1, e3, fI_eq]
  rw [Rat.mul_def']
  exact red_fr (den_ne p q) (pow_mul_lt hp.2 hq.2) (by omega)
theorem sub_eq (p q : Rat) : p - q = mkRat (p.num * (q.den : Int) - q.num * (p.den : Int)) (p.den * q.den) := by rw [Rat.sub_def, Rat.normalize_eq_mkRat]
theorem sub_bd (hp : Bd m p) (hq : Bd n q) : Bd (m + n + 1) (p - q) := by
  rw [sub_eq]
  have h1 := nat_mul_lt hp.1 hq.2
  have h2 := nat_mul_lt hq.1 hp.2
  have h3 := pow_mul_lt hp.2 hq.2
  have e : 2 ^ (m + n + 1) = 2 ^ (m + n) + 2 ^ (m + n) := by rw [Nat.pow_succ]; omega
  rw [Nat.add_comm n m] at h2
  refine bd_mk (den_ne p q) ?_ (by omega)
  have := Int.natAbs_sub_le (p.num * (q.den : Int)) (q.num * (p.den : Int))
  omega
theorem sub_fr (hp : Bd m p) (hq : Bd n q) (h : m + n ≤ 8999) : qTakeR qReduced [fr p, fr q] k = k (fr (p - q)) := by
  have e1 := mul_ok (i := p.num) (j := Int.ofNat q.den) hp.1 hq.2 (by omega)
  have e2 := mul_ok (i := q.num) (j := Int.ofNat p.den) hq.1 hp.2 (by omega)
  have e3 := mul_ok (i := Int.ofNat p.den) (j := Int.ofNat q.den) hp.2 hq.2 (by omega)
  show (mI p.num (Int.ofNat q.den) fun x => mI q.num (Int.ofNat p.den) fun y => mI (Int.ofNat p.den) (Int.ofNat q.den) fun z => fI (x - y) fun t => qReduced [.int t, .int z] k) = _
  unfold mI
  simp only [e1, e2, e3, fI_eq]
  rw [sub_eq]
  exact red_fr (den_ne p q) (pow_mul_lt hp.2 hq.2) (by omega)
theorem red_any {t b : Int} (hb : b ≠ 0) (hl : b.natAbs < 2 ^ n) (hn : n ≤ 8999) : qReduced [.int t, .int b] k = k (fr (Rat.divInt t b)) := by
  cases b with
  | ofNat c =>
    have hc : c ≠ 0 := fun z => hb (by rw [z]; rfl)
    rw [red_fr hc hl hn]
    rfl
  | negSucc c =>
    show fI (0 - t) (fun t => mkP t (c + 1) k) = _
    rw [fI_eq, red_pos (Nat.succ_ne_zero c) hl hn]
    have e : Rat.divInt t (Int.negSucc c) = mkRat (0 - t) (c + 1) := by
      show Rat.normalize (-t) (c + 1) (Nat.succ_ne_zero c) = _
      rw [Rat.normalize_eq_mkRat, Int.zero_sub]
    rw [e]
theorem div_eq (p q : Rat) : p / q = Rat.divInt (p.num * (q.den : Int)) ((p.den : Int) * q.num) := by
  rw [Rat.div_def, Rat.inv_def, ← Rat.divInt_mul_divInt, Rat.num_divInt_den]
theorem div_bd (hp : Bd m p) (hq : Bd n q) : Bd (m + n) (p / q) := by
  rw [Rat.div_def]
  refine mul_bd hp ?_
  by_cases h0 : q = 0
  · subst h0
    have e0 : (0 : Rat)⁻¹ = 0 := by grind
    rw [e0]
    exact hq
  · rw [Rat.inv_def]
    have hn : q.num ≠ 0 := fun z => h0 (Rat.num_eq_zero.mp z)
    cases e : q.num with
    | ofNat c =>
      have hc : c ≠ 0 := fun z => hn (by rw [e, z]; rfl)
      have hq1 := hq.1
      rw [e] at hq1
      show Bd n (Rat.divInt (q.den : Int) (Int.ofNat c))
      exact bd_mk (t := (q.den : Int)) (m := c) hc hq.2 hq1
    | negSucc c =>
      have hq1 := hq.1
      rw [e] at hq1
      have e2 : Rat.divInt (q.den : Int) (Int.negSucc c) = mkRat (-(q.den : Int)) (c + 1) := by
        show Rat.normalize (-(q.den : Int)) (c + 1) (Nat.succ_ne_zero c) = _
        rw [Rat.normalize_eq_mkRat]
      rw [e2]
      exact bd_mk (Nat.succ_ne_zero c) (by rw [Int.natAbs_neg]; exact hq.2) hq1
theorem div_fr (hp : Bd m p) (hq : Bd n q) (h : m + n ≤ 8999) (hz : q ≠ 0) : qDivR qReduced [fr p, fr q] k = k (fr (p / q)) := by
  have e1 := mul_ok (i := p.num) (j := Int.ofNat q.den) hp.1 hq.2 (by omega)
  have e3 := mul_ok (i := Int.ofNat p.den) (j := q.num) hp.2 hq.1 (by omega)
  show (mI p.num (Int.ofNat q.den) fun x => mI (Int.ofNat p.den) q.num fun z => qReduced [.int x, .int z] k) = _
  unfold mI
  simp only [e1, e3, fI_eq]
  rw [div_eq]
  have hn : q.num ≠ 0 := fun z => hz (Rat.num_eq_zero.mp z)
  refine red_any (n := m + n) (Int.mul_ne_zero (Int.natCast_ne_zero.mpr p.den_nz) hn) ?_ h
  rw [Int.natAbs_mul]
  exact pow_mul_lt hp.2 hq.1
theorem below_fr (hp : Bd m p) (hq : Bd n q) (h : m + n ≤ 8999) : qBelow [fr p, fr q] k = k (.bool (decide (p < q))) := by
  have e1 := mul_ok (i := p.num) (j := Int.ofNat q.den) hp.1 hq.2 (by omega)
  have e2 := mul_ok (i := q.num) (j := Int.ofNat p.den) hq.1 hp.2 (by omega)
  show (mI p.num (Int.ofNat q.den) fun x => mI q.num (Int.ofNat p.den) fun y => k (.bool (decide (x < y)))) = _
  unfold mI
  simp only [e1, e2, fI_eq]
  congr 2
  exact decide_eq_decide.mpr (Rat.lt_iff p q).symm
theorem eqQ_fr (p q : Rat) : eqQ (fr p) (fr q) = some (decide (p = q)) := by
  show some (eqI p.num q.num && eqI (Int.ofNat p.den) (Int.ofNat q.den)) = _
  congr 1
  rw [eqI_eq, eqI_eq, Bool.eq_iff_iff, Bool.and_eq_true, beq_iff_eq, beq_iff_eq, decide_eq_true_iff]
  exact ⟨fun ⟨a, b⟩ => Rat.ext a (Int.ofNat.inj b), fun e => by rw [e]; exact ⟨rfl, rfl⟩⟩
end
end Dl

namespace Dl
open PySem PySem.Spec PyProof.Rows L2
/-! ### defs that return a new list -/
def spF (K : PySem.W.Frag) (m : Fn) (n : Nat) : Sp := fun vs H Q _ => vs.length = n ∧ ∃ (pp : Addr) (F : Hp) (ds : List PyData) (k : KF), Bs pp F H ∧ RAs K pp F vs ds ∧ m ds k = true ∧
  ∀ es p xs F' H', Stp pp F H F' H' → H p = none → F' p = none → H' p = some (.lst xs) → RpAll K F' xs es → k (.list es) = true → Q (.ref p) H'
def mOfF (n : Nat) (body : DS) : Fn := fun ds k => body { nx := fun _ => false, rt := k, bk := fun _ => false, ct := fun _ => false } (startE n ds)
structure HasF (P : Program) (w : World) (K : PySem.W.Frag) (mg : Str → Option Value) (base : Heap) (lev : Nat) (x : Str) (ps : List Str) (m : Fn) : Prop where
  ex : ∃ f fd, FnOkG P w K mg base lev f fd ps (spF K m ps.length) ∧ mg x = some (.ref f) ∧ PySem.W.keepIn K (.ref f) = true ∧ Binds K fd ps [] ∧ ∃ oc od osl, K.lookup f = some ⟨oc, od, .func fd, osl⟩
section
variable {P : Program} {w : World} {K : PySem.W.Frag} {mg : Str → Option Value} {base : Heap} {f : Addr} {fd : FuncData} {x : Str} {st : Stmt} {N ps : List Str} {body : DS} {l j : Nat} {m m' : Fn}
theorem HasF.mono (h : HasF P w K mg base j x ps m) (e : j ≤ l) : HasF P w K mg base l x ps m := by
  obtain ⟨f, fd, F, a, b, c, d⟩ := h
  exact ⟨f, fd, F.mono e, a, b, c, d⟩
theorem HasF.imp (h : HasF P w K mg base l x ps m) (e : ∀ ds k, m' ds k = true → m ds k = true) : HasF P w K mg base l x ps m' := by
  obtain ⟨f, fd, F, a, b, c, d⟩ := h
  exact ⟨f, fd, F.imp fun vs H Q E ⟨hl, pp, F0, ds, k, B, r, hm, q⟩ => ⟨hl, pp, F0, ds, k, B, r, e ds k hm, q⟩, a, b, c, d⟩
theorem spF_of {vs : List V} {H : Hp} {Q : VK} {E : XK} {n : Nat} (h : spOf K m n vs H Q E) : spF K m n vs H Q E := by
  obtain ⟨hl, pp, F0, ds, k, B, r, hm, q⟩ := h
  exact ⟨hl, pp, F0, ds, k, B, r, hm, fun es p xs F' H' s hn hf hp ra hk => q (.list es) (.ref p) (upd F' p (.lst xs)) H' (s.freeze hn hf hp) (.lst upd_same (ra.mono (same_upd hf))) hk⟩
theorem HasF.has (h : HasF P w K mg base l x ps m) : Has P w K mg base l x ps m := by
  obtain ⟨f, fd, F, a, b, c, d⟩ := h
  exact ⟨f, fd, F.imp fun vs H Q E h => spF_of h, a, b, c, d⟩
theorem hasF_of (F : FnP K x st f fd) (S : FnScope N ps (defScope st)) (hm : mg x = some (.ref f)) (hb : Binds K fd ps [])
    (h : ∀ (W : Wd) (hw : W.fr = true) (cdv : Value) (A : Around) (outer : List Env) (s : Shared) (H : Hp) (E : XK), RG l (A.deeper (envOfC x (defScope st) s.heap.objs.size f cdv)) → SSs W (cxOf CX0 P w K mg base N x (defScope st) f cdv A outer s H E).nox (defBody st) body) :
    HasF P w K mg base (l + 1) x ps (mOfF N.length body) := by
  have lk : ∃ oc od osl, K.lookup f = some ⟨oc, od, .func fd, osl⟩ := by
    obtain ⟨oc, od, _, _, _, _, _, _, _, osl, _, h2, _⟩ := F.ex
    exact ⟨oc, od, osl, h2⟩
  refine ⟨f, fd, okG F S (fun vs H Q E h => h.1) (fun cdv A outer s H vs Q E hr hg hs => ?_), hm, F.kp, hb, lk⟩
  obtain ⟨hl, pp, F0, ds, k, B, r, hmm, q⟩ := hs
  obtain ⟨t, p, o⟩ := h ⟨pp, F0, H, true⟩ rfl cdv A outer s H E ⟨hr, hg⟩
  refine ⟨t, p.nox, o _ _ F0 H _ _ (rel_start B r) hmm ⟨(fun _ _ _ _ _ _ z => Bool.noConfusion z), fun d v F' H' s' r' hk => ?_, (fun _ _ _ _ _ _ z => Bool.noConfusion z), (fun _ _ _ _ _ _ z => Bool.noConfusion z)⟩⟩
  obtain ⟨p', xs, es, rfl, rfl, h1, h2, h3, h4, h5⟩ := (show ∃ p xs ds, v = .ref p ∧ d = .list ds ∧ H' p = some (.lst xs) ∧ F' p = none ∧ H p = none ∧ p ≠ pp ∧ RpAll K F' xs ds from r')
  exact q es p' xs F' H' s' h3 h2 h1 h5 hk
end
def sRetF (a : DF) : DS := fun B env => a env fun ds => B.rt (.list ds)
def sRetO (i : Nat) : DS := fun B env => match look env i with
  | .ow ds => B.rt (.list ds)
  | _ => false
def fCallN (n : Nat) (m : Fn) (a : DA) : DF := fun env k => a env fun ds => match Nat.beq ds.length n with
  | true => m ds fun d => (match d with
    | .list xs => k xs
    | _ => false)
  | false => false
def fIf (c : DT) (a b : DF) : DF := fun env k => c env fun x => match x with
  | true => a env k
  | false => b env k
def fRev (a : DE) : DF := fun env k => a env fun d => match d with
  | .list xs => k xs.reverse
  | _ => false
def sAppX (a : DF) (e : DE) : DS := fun B env => a env fun ds => match small ds.length with
  | true => e env fun _ => B.nx env
  | false => false
section
variable {W : Wd} {X : Cx} {K : PySem.W.Frag} {e ea eb ec : Expr} {es : List Expr} {df da db : DF} {tc : DT} {dr : DA} {de : DE} {pos p1 p2 p3 : Pos}
theorem ss_retF (hw : W.fr = true) (h : SF W X e df) : SS W X (.Return (some e) pos) (sRetF df) := by
  obtain ⟨t, p, o⟩ := h
  refine ⟨_, ps_ret p, fun env σ F H B D R h q => o env σ F H _ _ R h fun ds xs F' H' p s hn hf hp ra hk => q.rt (.list ds) (.ref p) F' H' (R.st.trans s) ?_ hk⟩
  unfold RtOk
  rw [hw]
  have h0 : W.H0 p = none := by
    cases z : W.H0 p with
    | none => rfl
    | some o =>
      have np := ne_pp R.bs hn
      rw [R.st.fr p o np z] at hn
      cases hn
  exact ⟨p, xs, ds, rfl, rfl, hp, hf, h0, ne_pp R.bs hn, ra⟩
theorem ss_retO {i : Nat} {x : Str} (hw : W.fr = true) (hN : X.N[i]? = some x := by rfl) (hv : Vis X.env.scope x := by first | exact Or.inl rfl | exact Or.inr (Or.inl rfl) | exact Or.inr (Or.inr rfl)) (hd : (x == ("__debug__" : Str)) = false := by decide) (hcd : (x == ("__classdict__" : Str)) = false := by decide) :
    SS W X (.Return (some (.Name x p1)) pos) (sRetO i) := by
  refine ⟨_, ps_ret (pe_var hN hv hd hcd), fun env σ F H B D R h q => ?_⟩
  unfold sRetO at h
  cases e : look env i with
  | ow ds =>
    rw [e] at h
    obtain ⟨pa, xs, g1, g2, g3, g4, g5, g6⟩ := R.ow e
    refine ⟨.ref pa, g1, q.rt (.list ds) (.ref pa) F H R.st ?_ h⟩
    unfold RtOk
    rw [hw]
    exact ⟨pa, xs, ds, rfl, rfl, g2, g3, g5, g4, g6⟩
  | _ => rw [e] at h; cases h
theorem sf_call {l n : Nat} {x : Str} {ps : List Str} {m : Fn} {p : Pos} (h : HasF X.prog X.w X.K X.mg X.base l x ps m) (hr : RG l X.A) (a : SAP W X (ea :: es) dr) (hg : Gl X x := by rfl) (hdb : (x == ("__debug__" : Str)) = false := by decide)
    (he : starEach (ea :: es) X.env = (false, eval ea X.env) :: starEach es X.env := by rfl) (hpl : (backTo pos (starEach es X.env)).any (·.1) = false := by rfl) (hn : ps.length = n := by rfl) : SF W X (.Call (.Name x p) (ea :: es) [] pos) (fCallN n m dr) := by
  subst hn
  obtain ⟨f, fd, F, h1, h2, h3, _⟩ := h
  obtain ⟨t, pa, o⟩ := a
  refine ⟨_, pe_callG F hr.r hr.g hg h1 h2 h3 pa hdb he hpl, fun env σ F0 H k Q R h q => o env σ F0 H _ _ R h fun ds vs F1 H1 s1 r1 h1 => ?_⟩
  cases e : Nat.beq ds.length ps.length with
  | false => simp only [e] at h1; cases h1
  | true =>
    simp only [e] at h1
    show spF X.K m ps.length (vs ++ []) H1 Q _
    rw [List.append_nil]
    refine ⟨by rw [paired_len r1]; exact Nat.eq_of_beq_eq_true e, W.pp, F1, ds, _, (R.step s1).bs, r1, h1, fun es p xs F2 H2 s2 hn hf hp ra hk => ?_⟩
    exact q es xs F2 H2 p (s1.trans s2) (back_none R.bs s1 hn) hf hp ra hk
theorem sf_if (c : ST W X ec tc) (a : SF W X ea da) (b : SF W X eb db) : SF W X (.IfExp ec ea eb pos) (fIf tc da db) := by
  obtain ⟨t0, p0, o0⟩ := c
  obtain ⟨t1, p1, o1⟩ := a
  obtain ⟨t2, p2, o2⟩ := b
  refine ⟨_, pe_ifExp p0 p1 p2, fun env σ F H k Q R h q => ?_⟩
  refine o0 env σ F H _ _ R h fun b F1 H1 s1 h1 => ?_
  cases b with
  | true => rw [if_pos rfl]; exact o1 env σ F1 H1 _ _ (R.step s1) h1 fun ds xs F2 H2 p s2 hn hf hp ra hk => q ds xs F2 H2 p (s1.trans s2) (back_none R.bs s1 hn) hf hp ra hk
  | false => rw [if_neg Bool.false_ne_true]; exact o2 env σ F1 H1 _ _ (R.step s1) h1 fun ds xs F2 H2 p s2 hn hf hp ra hk => q ds xs F2 H2 p (s1.trans s2) (back_none R.bs s1 hn) hf hp ra hk
theorem ss_appX (h0 : SF W X ea df) (h : SE W X e de)
    (hsw : swapsWith (.Call (.Attribute ea "append" p2) [e] [] p3) none pos.line X.env = pure false := by rfl) (hbase : attributeBase ea "append" X.env (eval ea X.env) = eval ea X.env := by rfl)
    (hfew : ((backTo p3 (starEach [e] X.env)).all (fun x => !x.1) && (backToKw p3 (keywordEach [] X.env)).all (fun x => x.1.isSome) && decide (([e] : List Expr).length + ([] : List Keyword).length + (if ([] : List Keyword).isEmpty then 0 else 1) < 30)) = true := by rfl)
    (hline : (p2.endLine == p3.line) = true := by rfl) (hs : starEach [e] X.env = (false, eval e X.env) :: starEach [] X.env := by rfl) (hplain : (backTo p3 (starEach [] X.env)).any (·.1) = false := by rfl) :
    SS W X (.Expr (.Call (.Attribute ea "append" p2) [e] [] p3) pos) (sAppX df de) := by
  obtain ⟨t0, p0, o0⟩ := h0
  obtain ⟨t, p, o⟩ := h
  refine ⟨_, ps_expr (pe_bm PySem.F.plainAttrs_list PySem.F.slot_list_append PySem.F.type_list_append mt_append p0 (pa_cons p pa_nil hs) hbase hfew hline hs hplain) hsw, fun env σ F H B D R h q => ?_⟩
  refine o0 env σ F H _ _ R h fun ds xs F1 H1 pa s1 hn hf hp ra hk => ?_
  cases e2 : small ds.length with
  | false => simp only [e2] at hk; cases hk
  | true =>
    simp only [e2] at hk
    have R1 := R.step s1
    have np := ne_pp R.bs hn
    refine .inl ⟨rfl, _, .inl (.inl hp)⟩ |> fun z => ⟨z, o env σ F1 H1 _ _ R1 hk fun d v F2 H2 s2 r2 h2 => ?_⟩
    refine ⟨pa, xs, v, rfl, rfl, s2.fr _ _ np hp, by rw [ra.length]; exact small_lt e2, ?_⟩
    have f2 : F2 pa = none := s2.own hf (by rw [hp]; exact fun z => nomatch z)
    exact q.nx env σ F2 _ (s1.ff.trans s2.ff) (R.step ((s1.trans s2).write hn f2 np)) h2
end
end Dl

namespace Dl
open PySem PySem.Spec PyProof.Rows L2
/-! ### whether it is a fraction, for any two whole numbers -/
def qIsFrQ (slow : Fn) : Fn := fun ds k => match ds with
  | [.tuple [.int a, .int (.ofNat b)]] => (match logOk b with
    | true => k (.bool (Nat.ble 1 b && Nat.beq (Nat.gcd a.natAbs b) 1))
    | false => false)
  | _ => slow ds k
theorem le_isFrQ (ds : List PyData) (k : KF) (h : qIsFrQ (mOf 1 (bIsFr (mOf 1 bIsInt) qDivisor)) ds k = true) : mOf 1 (bIsFr (mOf 1 bIsInt) qDivisor) ds k = true := by
  unfold qIsFrQ at h
  split at h
  case h_2 => exact h
  rename_i a b
  cases e3 : logOk b with
  | false => rw [e3] at h; cases h
  | true =>
    rw [e3] at h
    have h : k (.bool (Nat.ble 1 b && Nat.beq (Nat.gcd a.natAbs b) 1)) = true := h
    show (match PyData.bool (decide ((1 : Int) ≤ Int.ofNat b)) with
      | .bool true => qDivisor [.int (if a < 0 then -a else a), .int (Int.ofNat b)] fun g => gEq g (.int 1) k
      | .bool false => k (.bool false)
      | _ => false) = true
    by_cases hb : 1 ≤ b
    · rw [decide_eq_true (show (1 : Int) ≤ Int.ofNat b by rw [Int.ofNat_eq_natCast]; omega)]
      show qDivisor [.int (if a < 0 then -a else a), .int (Int.ofNat b)] (fun g => gEq g (.int 1) k) = true
      rw [abs_eq, qDivisor_of _ _ e3]
      rw [show Nat.ble 1 b = true from Nat.ble_eq_true_of_le hb, Bool.true_and] at h
      exact h
    · rw [decide_eq_false (show ¬ ((1 : Int) ≤ Int.ofNat b) by rw [Int.ofNat_eq_natCast]; omega)]
      have e : Nat.ble 1 b = false := by
        cases z : Nat.ble 1 b with
        | false => rfl
        | true => exact absurd (Nat.le_of_ble_eq_true z) hb
      rw [e, Bool.false_and] at h
      exact h
end Dl

namespace Dl
open PySem PySem.Spec PyProof.Rows L2
/-! ### several names at once, some of them new lists, by a tuple -/
section
variable {K : PySem.W.Frag} {W : Wd} {env : Sls} {σ : L2.St} {F H F' H' : Hp}
theorem Rel.own1 (r : Rel K W env σ F H) {p : Addr} {xs : List V} {ds : List PyData} (hp : H p = some (.lst xs)) (f : F p = none) (np : p ≠ W.pp) (h0 : W.H0 p = none) (h : RpAll K F xs ds)
    (apart : ∀ (j : Nat) (q : Addr) (es : List PyData), env[j]? = some (Sl.ow es) → σ[j]? = some (some (V.ref q)) → q ≠ p) (i : Nat) :
    Rel K W (env.set i (.ow ds)) (σ.set i (some (.ref p))) F H := by
  refine ⟨r.b0, r.st, by rw [List.length_set, List.length_set]; exact r.len, fun j q e => ?_, fun j l q ds' es e1 e2 g1 g2 => ?_⟩
  · rw [List.getElem?_set] at e ⊢
    by_cases hj : i = j
    · subst hj
      rw [if_pos rfl] at e ⊢
      by_cases hl : i < env.length
      · rw [if_pos hl] at e
        cases e
        rw [if_pos (by rw [r.len]; exact hl)]
        exact ⟨p, xs, rfl, hp, f, np, h0, h⟩
      · rw [if_neg hl] at e; cases e
    · rw [if_neg hj] at e ⊢
      exact r.sl j q e
  · by_cases n1 : i = j
    · by_cases n2 : i = l
      · rw [← n1, ← n2]
      · subst n1
        rw [List.getElem?_set_ne n2] at e2 g2
        have hl : i < σ.length := by
          rw [List.getElem?_set, if_pos rfl] at g1
          split at g1
          · assumption
          · cases g1
        rw [List.getElem?_set_self hl] at g1
        cases g1
        exact absurd rfl (apart l p es e2 g2)
    · by_cases n2 : i = l
      · subst n2
        rw [List.getElem?_set_ne n1] at e1 g1
        have hl : i < σ.length := by
          rw [List.getElem?_set, if_pos rfl] at g2
          split at g2
          · assumption
          · cases g2
        rw [List.getElem?_set_self hl] at g2
        cases g2
        exact absurd rfl (apart j p ds' e1 g1)
      · rw [List.getElem?_set_ne n1] at e1 g1
        rw [List.getElem?_set_ne n2] at e2 g2
        exact r.dis j l q ds' es e1 e2 g1 g2
end
inductive Mxd (K : PySem.W.Frag) (pp : Addr) (H F' H' : Hp) : List Sl → List V → List Addr → Prop
  | nil : Mxd K pp H F' H' [] [] []
  | fz {v : V} {d : PyData} {sls : List Sl} {vs : List V} {ps : List Addr} : Rp K F' v d → Mxd K pp H F' H' sls vs ps → Mxd K pp H F' H' (.fz d :: sls) (v :: vs) ps
  | ow {p : Addr} {xs : List V} {ds : List PyData} {sls : List Sl} {vs : List V} {ps : List Addr} : H p = none → F' p = none → H' p = some (.lst xs) → p ≠ pp → RpAll K F' xs ds → p ∉ ps → Mxd K pp H F' H' sls vs ps → Mxd K pp H F' H' (.ow ds :: sls) (.ref p :: vs) (p :: ps)
section
variable {K : PySem.W.Frag} {pp : Addr} {H F' H' F2 H2 H1 : Hp} {sls : List Sl} {vs : List V} {ps : List Addr}
theorem Mxd.new (m : Mxd K pp H F' H' sls vs ps) : ∀ p ∈ ps, H p = none := by
  induction m with
  | nil => exact fun _ h => nomatch h
  | fz _ _ ih => exact ih
  | ow h1 _ _ _ _ _ _ ih =>
    intro q hq
    rcases List.mem_cons.mp hq with e | hq
    · rw [e]; exact h1
    · exact ih q hq
theorem Mxd.mono (m : Mxd K pp H F' H' sls vs ps) (s : Stp pp F' H' F2 H2) : Mxd K pp H F2 H2 sls vs ps := by
  induction m with
  | nil => exact .nil
  | fz r _ ih => exact .fz (r.mono s.ff) ih
  | ow h1 h2 h3 h4 h5 h6 _ ih => exact .ow h1 (s.own h2 (by rw [h3]; exact fun z => nomatch z)) (s.fr _ _ h4 h3) h4 (h5.mono s.ff) h6 ih
theorem Mxd.back (m : Mxd K pp H1 F' H' sls vs ps) (h : ∀ p, H1 p = none → H p = none) : Mxd K pp H F' H' sls vs ps := by
  induction m with
  | nil => exact .nil
  | fz r _ ih => exact .fz r ih
  | ow h1 h2 h3 h4 h5 h6 _ ih => exact .ow (h _ h1) h2 h3 h4 h5 h6 ih
end
abbrev DM := Sls → (List Sl → Bool) → Bool
def OkM (K : PySem.W.Frag) (W : Wd) (t : TA) (e : DM) : Prop := ∀ (env : Sls) (σ : L2.St) (F H : Hp) (k : List Sl → Bool) (Q : List V → Hp → Prop), Rel K W env σ F H → e env k = true → (∀ sls vs ps F' H', Stp W.pp F H F' H' → Mxd K W.pp H F' H' sls vs ps → k sls = true → Q vs H') → t σ H Q
structure SM (W : Wd) (X : Cx) (es : List Expr) (dm : DM) : Prop where
  ex : ∃ t, PA X es t ∧ OkM X.K W t dm
def mNil : DM := fun _ k => k []
def mE (a : DE) (r : DM) : DM := fun env k => a env fun d => r env fun xs => k (.fz d :: xs)
def mF (a : DF) (r : DM) : DM := fun env k => a env fun ds => r env fun xs => k (.ow ds :: xs)
def setsE : List Nat → List Sl → Sls → Option Sls
  | [], [], env => some env
  | i :: is, s :: ss, env => setsE is ss (env.set i s)
  | _, _, _ => none
def sMix (is : List Nat) (a : DM) : DS := fun B env => a env fun ss => match setsE is ss env with
  | some env' => B.nx env'
  | none => false
structure SN (X : Cx) (es : List Expr) (is : List Nat) : Prop where
  ex : ∃ t, PGs X es t ∧ ∀ (vs : List V) (σ : L2.St) (H : Hp) (Q : L2.St → Hp → Prop), vs.length = is.length → Q ((is.zip vs).foldl (fun σ p => σ.set p.1 (some p.2)) σ) H → t vs σ H Q
section
variable {K : PySem.W.Frag} {W : Wd} {X : Cx} {e : Expr} {es : List Expr} {de : DE} {df : DF} {dm : DM} {pos : Pos} {is : List Nat}
theorem sm_nil : SM W X [] mNil := ⟨_, pa_nil, fun env σ F H k Q R h q => q [] [] [] F H (Stp.refl R.bs) .nil h⟩
theorem sm_e (a : SE W X e de) (r : SM W X es dm) (hs : starEach (e :: es) X.env = (false, eval e X.env) :: starEach es X.env := by rfl) : SM W X (e :: es) (mE de dm) := by
  obtain ⟨t1, p1, o1⟩ := a
  obtain ⟨t2, p2, o2⟩ := r
  refine ⟨_, pa_cons p1 p2 hs, fun env σ F H k Q R h q => ?_⟩
  exact o1 env σ F H _ _ R h fun d v F1 H1 s1 r1 h1 => o2 env σ F1 H1 _ _ (R.step s1) h1 fun ss vs ps F2 H2 s2 m2 h2 =>
    q (.fz d :: ss) (v :: vs) ps F2 H2 (s1.trans s2) (.fz (r1.mono s2.ff) (m2.back fun p n => back_none R.bs s1 n)) h2
theorem sm_f (a : SF W X e df) (r : SM W X es dm) (hs : starEach (e :: es) X.env = (false, eval e X.env) :: starEach es X.env := by rfl) : SM W X (e :: es) (mF df dm) := by
  obtain ⟨t1, p1, o1⟩ := a
  obtain ⟨t2, p2, o2⟩ := r
  refine ⟨_, pa_cons p1 p2 hs, fun env σ F H k Q R h q => ?_⟩
  refine o1 env σ F H _ _ R h fun ds xs F1 H1 p s1 hn hf hp ra h1 => o2 env σ F1 H1 _ _ (R.step s1) h1 fun ss vs ps F2 H2 s2 m2 h2 => ?_
  have np := ne_pp R.bs hn
  refine q (.ow ds :: ss) (.ref p :: vs) (p :: ps) F2 H2 (s1.trans s2) (.ow hn (s2.own hf (by rw [hp]; exact fun z => nomatch z)) (s2.fr _ _ np hp) np (ra.mono s2.ff) (fun hm => ?_) (m2.back fun p n => back_none R.bs s1 n)) h2
  have := m2.new p hm
  rw [hp] at this
  cases this
theorem sn_nil : SN X [] [] := ⟨_, pgs_nil, fun vs σ H Q hl q => by
  cases vs with
  | nil => exact ⟨rfl, q⟩
  | cons _ _ => cases hl⟩
theorem sn_cons {i : Nat} {x : Str} (r : SN X es is) (hN : X.N.Nodup) (hi : X.N[i]? = some x := by rfl) (hx : Loc X.env.scope x := by first | exact Or.inl rfl | exact Or.inr rfl) (hf : X.fn x = true ∨ X.env.scope.names.lookup x = some .local := by first | exact .inl rfl | exact .inr rfl)
    (hs : (assignEach (.Name x pos :: es) X.env).map (·.2) = assign (.Name x pos) X.env :: (assignEach es X.env).map (·.2) := by rfl) : SN X (.Name x pos :: es) (i :: is) := by
  obtain ⟨t, p, o⟩ := r
  refine ⟨_, pgs_cons (pg_name hN hi hx hf) p hs, fun vs σ H Q hl q => ?_⟩
  cases vs with
  | nil => cases hl
  | cons v vs => exact ⟨v, vs, rfl, o vs _ H Q (Nat.succ.inj hl) q⟩
theorem mix_rel {F H H0 : Hp} : ∀ {is : List Nat} {ss : List Sl} {vs : List V} {ps : List Addr} {env env' : Sls} {σ : L2.St}, Mxd K W.pp H0 F H ss vs ps → (∀ p, H0 p = none → W.H0 p = none) → Rel K W env σ F H →
    (∀ (j : Nat) (q : Addr) (es : List PyData), env[j]? = some (Sl.ow es) → σ[j]? = some (some (V.ref q)) → q ∉ ps) → setsE is ss env = some env' → vs.length = is.length ∧ Rel K W env' ((is.zip vs).foldl (fun σ p => σ.set p.1 (some p.2)) σ) F H
  | [], [], vs, ps, env, env', σ, m, h0, R, ap, e => by
    cases m
    cases e
    exact ⟨rfl, R⟩
  | [], _ :: _, vs, ps, env, env', σ, m, h0, R, ap, e => nomatch e
  | _ :: _, [], vs, ps, env, env', σ, m, h0, R, ap, e => nomatch e
  | i :: is, s :: ss, vs, ps, env, env', σ, m, h0, R, ap, e => by
    unfold setsE at e
    cases m with
    | @fz v d _ vs _ r m =>
      obtain ⟨h1, h2⟩ := mix_rel (is := is) m h0 (R.set r i) (fun j q es e1 g1 => by
        have n1 : i ≠ j := fun z => by
          subst z
          rw [List.getElem?_set, if_pos rfl] at e1
          split at e1 <;> cases e1
        rw [List.getElem?_set_ne n1] at e1 g1
        exact ap j q es e1 g1) e
      exact ⟨by rw [List.length_cons, List.length_cons, h1], h2⟩
    | @ow p xs ds _ vs ps n f hp np ra ni m =>
      have ap2 : ∀ (j : Nat) (q : Addr) (es : List PyData), env[j]? = some (Sl.ow es) → σ[j]? = some (some (V.ref q)) → q ≠ p := fun j q es e1 g1 z => ap j q es e1 g1 (by rw [z]; exact List.mem_cons_self)
      obtain ⟨h1, h2⟩ := mix_rel (is := is) m h0 (R.own1 hp f np (h0 _ n) ra ap2 i) (fun j q es e1 g1 => by
        by_cases n1 : i = j
        · subst n1
          have hl : i < σ.length := by
            rw [List.getElem?_set, if_pos rfl] at g1
            split at g1
            · assumption
            · cases g1
          rw [List.getElem?_set_self hl] at g1
          cases g1
          exact ni
        · rw [List.getElem?_set_ne n1] at e1 g1
          exact fun z => ap j q es e1 g1 (List.mem_cons_of_mem _ z)) e
      exact ⟨by rw [List.length_cons, List.length_cons, h1], h2⟩
theorem ss_mix {tes : List Expr} {k k2 : Nat} {pt pt2 : Pos} (hc : X.calm = true) (ha : SM W X es dm) (hg : SN X tes is) (hs : swapsWithSole [.Tuple tes k pt] (.Tuple es k2 pt2) pos.line X.env = pure false := by rfl) (hw : swappedStores [.Tuple tes k pt] (.Tuple es k2 pt2) X.env = pure none := by rfl)
    (h1 : (assignEach [.Tuple tes k pt] X.env).map (·.2) = [assign (.Tuple tes k pt) X.env] := by rfl) (hn : (assignEach tes X.env).length = is.length := by rfl) (hst : (assignEach tes X.env).findIdx? (·.1) = none := by rfl) (hz : is.length ≤ sizeLine := by decide) :
    SS W X (.Assign [.Tuple tes k pt] (.Tuple es k2 pt2) pos) (sMix is dm) := by
  obtain ⟨t, p, o⟩ := ha
  obtain ⟨tg, pg, og⟩ := hg
  refine ⟨_, ps_asg (pe_tup p) (pg_tup hc pg hn hst) hs hw h1, fun env σ F H B D R h q => ?_⟩
  refine o env σ F H _ _ R h fun ss vs ps F1 H1 s1 m h1 => ?_
  cases e : setsE is ss env with
  | none => simp only [e] at h1; cases h1
  | some env' =>
    simp only [e] at h1
    have h0 : ∀ p, H p = none → W.H0 p = none := fun p n => by
      cases z : W.H0 p with
      | none => rfl
      | some o =>
        have np := ne_pp R.bs n
        rw [R.st.fr p o np z] at n
        cases n
    have ap : ∀ (j : Nat) (q : Addr) (es : List PyData), env[j]? = some (Sl.ow es) → σ[j]? = some (some (V.ref q)) → q ∉ ps := fun j q es e1 g1 hm => by
      obtain ⟨p', xs', z1, z2, _⟩ := R.sl j _ e1
      rw [g1] at z1
      cases z1
      have := m.new q hm
      rw [z2] at this
      cases this
    obtain ⟨hl, _⟩ := mix_rel m h0 (R.step s1) ap e
    refine ⟨by rw [hl]; exact hz, fun a na => ⟨a, vs, rfl, .inl (.inl upd_same), hl, og vs σ _ _ hl ?_⟩⟩
    have st := Stp.newO (o := .tup vs) (R.step s1).bs na
    obtain ⟨_, R2⟩ := mix_rel (m.mono st) h0 ((R.step s1).step st) ap e
    exact q.nx env' _ F1 _ s1.ff R2 h1
end
end Dl

/-! zip of lists and tuples mixed, enumerate of a tuple -/
namespace Dl
open PySem PySem.Spec PyProof.Rows L2
open PySem.Sem (wp)
/-- a list or a tuple -/
inductive Sk where
  | l | t
def SqK (K : PySem.W.Frag) (H : Hp) : Sk → Addr → List V → Prop
  | .l, a, xs => SqL K H a xs
  | .t, a, xs => SqT K H a xs
def itH (h : Heap) : Sk → Addr → Addr → Nat → Prop
  | .l, it, a, i => h.IsListIter it a i
  | .t, it, a, i => h.IsTupleIter it a i
def sqH (h : Heap) : Sk → Addr → Array Value → Prop
  | .l, a, its => h.IsList a its
  | .t, a, its => h.IsTuple a its
def itO : Sk → Addr → Obj
  | .l, a => { cls := .type "list_iterator", data := .fields #[.ref a, .int 0 0] }
  | .t, a => { cls := .type "tuple_iterator", data := .fields #[.ref a, .int 0 0] }
theorem drK {prog : Program} {w : World} {A : Around} (hh : A.handled = none) (k : Sk) (it a : Addr) (ne : a ≠ it) (its : Array Value) : Draws prog w A it [it, a] its.size (fun i v => its[i]? = some v) (fun i h => itH h k it a i ∧ sqH h k a its) := by
  cases k with
  | l => exact Draws.list hh it a ne its
  | t => exact Draws.tuple hh it a ne its
theorem beK (k : Sk) (a : Addr) (its : Array Value) : Begins (.ref a) (itO k a) fun h => sqH h k a its := by
  cases k with
  | l => exact begins_list a its
  | t => exact begins_tuple a its
theorem itK_new {h : Heap} {k : Sk} {it a : Addr} (e : h.get? it = some (itO k a)) : itH h k it a 0 := by
  cases k with
  | l => exact ⟨_, e, rfl, rfl⟩
  | t => exact ⟨_, e, rfl, rfl⟩
theorem itK_obj {h : Heap} {k : Sk} {it a : Addr} {i : Nat} (e : itH h k it a i) : ∃ o, h.get? it = some o ∧ ∀ v, o.data ≠ .cell v := by
  cases k with
  | l => obtain ⟨o, h1, _, h3⟩ := e; exact ⟨o, h1, fun v q => by rw [h3] at q; cases q⟩
  | t => obtain ⟨o, h1, _, h3⟩ := e; exact ⟨o, h1, fun v q => by rw [h3] at q; cases q⟩
theorem itK_at {h h' : Heap} {k : Sk} {it a : Addr} {i : Nat} (e : itH h k it a i) (m : ∀ o, h.get? it = some o → h'.get? it = some o) : itH h' k it a i := by
  cases k with
  | l => exact Heap.IsListIter.at e m
  | t => exact Heap.IsTupleIter.at e m
section
variable {X : Cx} {pins : List (Addr × Obj)} {σ : L2.St} {H : Hp} {s : Shared} {k : Sk} {a : Addr} {xs ys : List V}
theorem sqk_its (I : Inv X pins σ H s) (h : SqK X.K H k a xs) : ∃ its : List Value, Vals xs its ∧ sqH s.heap k a its.toArray := by
  cases k with
  | l => obtain ⟨its, r, p, _⟩ := I.list h; exact ⟨its, r, p.isList⟩
  | t => obtain ⟨its, r, p, _⟩ := I.tuple h; exact ⟨its, r, p⟩
theorem sqk_inj (I : Inv X pins σ H s) (h : SqK X.K H k a xs) (h2 : SqK X.K H k a ys) : xs = ys := by
  cases k with
  | l => exact I.list_inj h h2
  | t => exact I.tuple_inj h h2
theorem sqh_lt {h : Heap} {its : Array Value} (e : sqH h k a its) : a < h.objs.size := by
  cases k with
  | l => obtain ⟨o, e, _⟩ := e; exact Heap.lt_size e
  | t => obtain ⟨o, e, _⟩ := e; exact Heap.lt_size e
theorem itH_lt {h : Heap} {it : Addr} {i : Nat} (e : itH h k it a i) : it < h.objs.size := by
  obtain ⟨o, e, _⟩ := itK_obj e; exact Heap.lt_size e
end
/-! ### zip -/
def ItG (K : PySem.W.Frag) (k1 k2 : Sk) (a b : Addr) : It where
  go := fun i H => ∃ (xs ys : List V) (x y : V), SqK K H k1 a xs ∧ SqK K H k2 b ys ∧ xs[i]? = some x ∧ ys[i]? = some y
  yld := fun i H v H' => ∃ T x y, v = .ref T ∧ H T = none ∧ H' = upd H T (.tup [x, y]) ∧ (∀ xs, SqK K H k1 a xs → xs[i]? = some x) ∧ ∀ ys, SqK K H k2 b ys → ys[i]? = some y
  stop := fun i H => ∃ xs ys : List V, SqK K H k1 a xs ∧ SqK K H k2 b ys ∧ i ≤ xs.length ∧ i ≤ ys.length ∧ (i = xs.length ∨ i = ys.length)
structure ZgSt (h : Heap) (k1 k2 : Sk) (a b z TI TO i1 i2 : Addr) (i : Nat) : Prop where
  zz : IsZip h z TI TO .none
  ti : IsTupOf2 h TI (.ref i1) (.ref i2)
  to : ∃ x y, IsTupOf2 h TO x y
  h1 : itH h k1 i1 a i
  h2 : itH h k2 i2 b i
theorem mem5 {c z TI TO i1 i2 : Addr} (h : c ∈ [z, TI, TO, i1, i2]) : c = z ∨ c = TI ∨ c = TO ∨ c = i1 ∨ c = i2 := by simpa using h
theorem turn_zg {P : Program} {w : World} {K : PySem.W.Frag} {elts : List Expr} {kk : Nat} {tpos : Pos} {k1 k2 : Sk} {a b z TI TO i1 i2 : Addr} (D : ZipSep2 z TI TO i1 i2 [i1, a] [i2, b]) (n1 : a ≠ i1) (n2 : b ≠ i2) :
    Turn P w K (.Tuple elts kk tpos) (ItG K k1 k2 a b) [z, TI, TO, i1, i2] z (fun i h => ZgSt h k1 k2 a b z TI TO i1 i2 i) where
  mem := by simp
  obj := fun i h st c hc => by
    obtain ⟨zz, ti, ⟨x, y, to⟩, h1, h2⟩ := st
    rcases mem5 hc with rfl | rfl | rfl | rfl | rfl
    · exact ⟨_, zz, fun v q => nomatch q⟩
    · exact ⟨_, ti, fun v q => nomatch q⟩
    · exact ⟨_, to, fun v q => nomatch q⟩
    · exact itK_obj h1
    · exact itK_obj h2
  keep := fun i h h' st m => by
    obtain ⟨zz, ti, ⟨x, y, to⟩, h1, h2⟩ := st
    exact ⟨m z (by simp) _ zz, m TI (by simp) _ ti, ⟨x, y, m TO (by simp) _ to⟩, itK_at h1 fun o q => m i1 (by simp) o q, itK_at h2 fun o q => m i2 (by simp) o q⟩
  item := by
    intro X eP eW eK hc i pins s σ H E I hf st hg
    subst eP eW eK
    obtain ⟨zz, ti, ⟨x0, y0, to⟩, h1, h2⟩ := st
    obtain ⟨xs, ys, x, y, qx, qy, ex, ey⟩ := hg
    obtain ⟨us, ru, p1⟩ := sqk_its I qx
    obtain ⟨ws, rw_, p2⟩ := sqk_its I qy
    obtain ⟨u, eu, ru1⟩ := ru.get ex
    obtain ⟨u2, eu2, ru2⟩ := rw_.get ey
    have hd := I.ok.hd hc
    have lz : z < s.heap.objs.size := Heap.lt_size zz
    have l1 : i < us.toArray.size := by rw [List.size_toArray]; exact (List.getElem?_eq_some_iff.mp eu).1
    have l2 : i < ws.toArray.size := by rw [List.size_toArray]; exact (List.getElem?_eq_some_iff.mp eu2).1
    refine wpAny_pyNext_zipD2_item D (drK (A := X.A.in1) hd k1 i1 a n1 us.toArray) (drK (A := X.A.in1) hd k2 i2 b n2 ws.toArray) zz ti to ⟨h1, p1⟩ ⟨h2, p2⟩ l1 l2 fun v1 v2 g tk f1 f2 zg tog s1 s2 tg szg kg => ?_
    have e1 : v1 = u := by
      have f1 : us.toArray[i]? = some v1 := f1
      rw [List.getElem?_toArray, eu] at f1
      exact (Option.some.inj f1).symm
    have e2 : v2 = u2 := by
      have f2 : ws.toArray[i]? = some v2 := f2
      rw [List.getElem?_toArray, eu2] at f2
      exact (Option.some.inj f2).symm
    subst e1 e2
    refine ⟨_, rfl, wpAny_letOwnedTupleGo_zip (s := { s with heap := g, toks := tk }) zg fun g2 zg2 sb => ?_⟩
    have t2 : g2.get? s.heap.objs.size = some { cls := .type "tuple", data := .seq #[v1, v2] } := (sb.2 _ (Nat.ne_of_gt lz)).trans tg
    have ok : ObjOk X.prog X.w (upd H s.heap.objs.size (.tup [x, y])) g2 s.heap.objs.size (.tup [x, y]) := ⟨by show 2 ≤ sizeLine; decide, [v1, v2], .cons ru1 (.cons ru2 .nil), ⟨_, t2, rfl, _, rfl⟩⟩
    have I1 : Inv X pins σ (upd H s.heap.objs.size (.tup [x, y])) { s with heap := g2, toks := tk } :=
      I.turnedNew (t' := tk) (ch := [z, TI, TO, i1, i2]) (fun c o hb q => (sb.2 c (fun e => hb (by simp [e]))).trans (kg c o (fun e => hb (by simp [e])) (fun e => hb (by simp [e])) (fun e => hb (by simp [e])) (fun e => hb (by simp [e])) q)) hf (Nat.le_refl _) ok
    have z1 : i1 ≠ z := fun e => D.zf1 (by rw [← e]; exact D.mem1)
    have z2 : i2 ≠ z := fun e => D.zf2 (by rw [← e]; exact D.mem2)
    refine ⟨.ref s.heap.objs.size, _, I1, rfl, ⟨_, x, y, rfl, I.hok.fresh (Nat.le_refl _), rfl, fun l hl => by rw [sqk_inj I hl qx]; exact ex, fun l hl => by rw [sqk_inj I hl qy]; exact ey⟩, ⟨zg2, (sb.2 _ D.TIz).trans (kg _ _ D.TIz D.TITO D.TIi1 D.TIi2 ti), ⟨v1, v2, (sb.2 _ D.TOz).trans tog⟩, itK_at s1.1 fun o q => (sb.2 _ z1).trans q, itK_at s2.1 fun o q => (sb.2 _ z2).trans q⟩, fun c hcm => ?_⟩
    have hlt : c < s.heap.objs.size := by
      rcases mem5 hcm with rfl | rfl | rfl | rfl | rfl
      · exact lz
      · exact Heap.lt_size ti
      · exact Heap.lt_size to
      · exact itH_lt h1
      · exact itH_lt h2
    rw [upd_ne (Nat.ne_of_lt hlt)]
    exact (hf c hcm).1
  done := by
    intro X eP eW eK hc i pins s σ H E I hf st hg
    subst eP eW eK
    obtain ⟨zz, ti, ⟨x0, y0, to⟩, h1, h2⟩ := st
    obtain ⟨xs, ys, qx, qy, l1, l2, he⟩ := hg
    obtain ⟨us, ru, p1⟩ := sqk_its I qx
    obtain ⟨ws, rw_, p2⟩ := sqk_its I qy
    have hd := I.ok.hd hc
    have e1 : us.toArray.size = xs.length := by rw [List.size_toArray, ru.length]
    have e2 : ws.toArray.size = ys.length := by rw [List.size_toArray, rw_.length]
    exact wpAny_pyNext_zipD2_end D (drK (A := X.A.in1) hd k1 i1 a n1 us.toArray) (drK (A := X.A.in1) hd k2 i2 b n2 ws.toArray) zz ti to ⟨h1, p1⟩ ⟨h2, p2⟩ (by rw [e1]; exact l1) (by rw [e2]; exact l2) (by rw [e1, e2]; exact he) fun g tk kg => ⟨rfl, I.turnedL (t' := tk) (ch := [z, TI, TO, i1, i2]) (fun c o hb q => kg c o (fun e => hb (by simp [e])) (fun e => hb (by simp [e])) (fun e => hb (by simp [e])) (fun e => hb (by simp [e])) q) hf⟩
  self := fun A i s Q E st h => wpAny_pyIter_zip st.zz h
def iZipG (K : PySem.W.Frag) (ta : TA) : TI := fun σ H R => ta σ H fun vs H1 => ∃ a b k1 k2 xs ys, vs = [.ref a, .ref b] ∧ SqK K H1 k1 a xs ∧ SqK K H1 k2 b ys ∧ R (ItG K k1 k2 a b) H1
theorem pi_zipG {X : Cx} {e e2 : Expr} {ta : TA} {p pos tpos : Pos} {elts : List Expr} {kk : Nat} (hg : Gl X "zip") (hm : X.mg "zip" = none) (ha : PA X [e, e2] ta)
    (hs : starEach [e, e2] X.env = (false, eval e X.env) :: starEach [e2] X.env := by rfl) (hpl : (backTo pos (starEach [e2] X.env)).any (·.1) = false := by rfl) :
    PI X (.Tuple elts kk tpos) (.Call (.Name "zip" p) [e, e2] [] pos) (iZipG X.K ta) := by
  refine ⟨fun pins s σ H R I h => Call_ (ld_blt I hg hm PyProof.Rows.boot_zip (PyProof.Rows.callWith_type1 (thn (ha.run pos pins s σ H _ I h) fun us s1 ⟨vs, H1, I1, r1, q1⟩ => ?_) hs hpl))⟩
  obtain ⟨a, b, k1, k2, xs, ys, ex, qx, qy, q⟩ := q1
  subst ex
  cases r1 with
  | cons r rr =>
    cases rr with
    | cons r' rr =>
      cases rr
      cases r
      cases r'
      obtain ⟨us, ru, p1⟩ := sqk_its I1 qx
      obtain ⟨ws, rw_, p2⟩ := sqk_its I1 qy
      have la := sqh_lt p1
      have lb := sqh_lt p2
      refine zip_begins2 (beK k1 a us.toArray) (beK k2 b ws.toArray) p1 p2 fun g zz ti to o1 o2 sz kp => wpAny_pyIter_zip zz ?_
      have I2 : Inv X pins σ H1 { s1 with heap := g } := I1.kept (t' := s1.toks) kp
      have D : ZipSep2 (s1.heap.objs.size + 4) (s1.heap.objs.size + 2) (s1.heap.objs.size + 3) s1.heap.objs.size (s1.heap.objs.size + 1) [s1.heap.objs.size, a] [s1.heap.objs.size + 1, b] := zip_sep2 (fun c hc => by simp at hc; rw [hc]; exact la) (fun c hc => by simp at hc; rw [hc]; exact lb)
      refine ⟨s1.heap.objs.size + 4, _, _, _, H1, rfl, I2, turn_zg (k1 := k1) (k2 := k2) D (Nat.ne_of_lt la) (Nat.ne_of_lt (Nat.lt_succ_of_lt lb)), ⟨zz, ti, ⟨_, _, to⟩, itK_new o1, itK_new o2⟩, fun c hc => ?_, q⟩
      have hle : s1.heap.objs.size ≤ c := by
        rcases mem5 hc with rfl | rfl | rfl | rfl | rfl
        · exact Nat.le_add_right _ _
        · exact Nat.le_add_right _ _
        · exact Nat.le_add_right _ _
        · exact Nat.le_refl _
        · exact Nat.le_add_right _ _
      exact I1.fpOk hle (I1.hok.fresh hle)
/-! ### enumerate -/
def ItE (K : PySem.W.Frag) (k : Sk) (a : Addr) : It where
  go := fun i H => ∃ (xs : List V) (x : V), SqK K H k a xs ∧ xs[i]? = some x
  yld := fun i H v H' => ∃ T x, v = .ref T ∧ H T = none ∧ H' = upd H T (.tup [.int (i : Nat), x]) ∧ ∀ xs, SqK K H k a xs → xs[i]? = some x
  stop := fun i H => ∃ xs : List V, SqK K H k a xs ∧ i = xs.length
theorem turn_eg {P : Program} {w : World} {K : PySem.W.Frag} {elts : List Expr} {kk : Nat} {tpos : Pos} {k : Sk} {a e it : Addr} (n1 : a ≠ it) (n2 : e ≠ it) (n3 : e ≠ a) :
    Turn P w K (.Tuple elts kk tpos) (ItE K k a) [e, it] e (fun i h => (∃ old, IsEnum h e it ((i : Nat) : Int) old) ∧ itH h k it a i) where
  mem := by simp
  obj := fun i h st c hc => by
    obtain ⟨⟨old, he⟩, h1⟩ := st
    have hc : c = e ∨ c = it := by simpa using hc
    rcases hc with rfl | rfl
    · exact ⟨_, he, fun v q => nomatch q⟩
    · exact itK_obj h1
  keep := fun i h h' st m => by
    obtain ⟨⟨old, he⟩, h1⟩ := st
    exact ⟨⟨old, m e (by simp) _ he⟩, itK_at h1 fun o q => m it (by simp) o q⟩
  item := by
    intro X eP eW eK hc i pins s σ H E I hf st hg
    subst eP eW eK
    obtain ⟨⟨old, he⟩, h1⟩ := st
    obtain ⟨xs, x, qx, ex⟩ := hg
    obtain ⟨us, ru, p1⟩ := sqk_its I qx
    obtain ⟨u, eu, ru1⟩ := ru.get ex
    have hd := I.ok.hd hc
    have le : e < s.heap.objs.size := Heap.lt_size he
    have l1 : i < us.toArray.size := by rw [List.size_toArray]; exact (List.getElem?_eq_some_iff.mp eu).1
    refine wpAny_pyNext_enum_itemC (drK (A := X.A.in1) hd k it a n1 us.toArray) he ⟨h1, p1⟩ l1 n2 (by simp [n2, n3]) fun v1 g tk f1 eo s1 tg szg kg => ?_
    have e1 : v1 = u := by
      have f1 : us.toArray[i]? = some v1 := f1
      rw [List.getElem?_toArray, eu] at f1
      exact (Option.some.inj f1).symm
    subst e1
    refine ⟨_, rfl, wpAny_letOwnedTupleGo_enum (s := { s with heap := g, toks := tk + 1 }) eo fun g2 eo2 sb => ?_⟩
    have t2 : g2.get? s.heap.objs.size = some { cls := .type "tuple", data := .seq #[.int i tk, v1] } := (sb.2 _ (Nat.ne_of_gt le)).trans tg
    have ok : ObjOk X.prog X.w (upd H s.heap.objs.size (.tup [.int (i : Nat), x])) g2 s.heap.objs.size (.tup [.int (i : Nat), x]) := ⟨by show 2 ≤ sizeLine; decide, [.int i tk, v1], .cons ⟨_, rfl⟩ (.cons ru1 .nil), ⟨_, t2, rfl, _, rfl⟩⟩
    have I1 : Inv X pins σ (upd H s.heap.objs.size (.tup [.int (i : Nat), x])) { s with heap := g2, toks := tk + 1 } :=
      I.turnedNew (t' := tk + 1) (ch := [e, it]) (fun c o hb q => (sb.2 c (fun z => hb (by simp [z]))).trans (kg c o (fun z => hb (by simp [z])) (fun z => hb (by simp [z])) q)) hf (Nat.le_refl _) ok
    refine ⟨.ref s.heap.objs.size, _, I1, rfl, ⟨_, x, rfl, I.hok.fresh (Nat.le_refl _), rfl, fun l hl => by rw [sqk_inj I hl qx]; exact ex⟩, ⟨⟨v1, ?_⟩, itK_at s1.1 fun o q => (sb.2 _ (Ne.symm n2)).trans q⟩, fun c hcm => ?_⟩
    · have z : ((i + 1 : Nat) : Int) = (i : Int) + 1 := by omega
      rw [z]; exact eo2
    · have hlt : c < s.heap.objs.size := by
        have hcm : c = e ∨ c = it := by simpa using hcm
        rcases hcm with rfl | rfl
        · exact le
        · exact itH_lt h1
      rw [upd_ne (Nat.ne_of_lt hlt)]
      exact (hf c hcm).1
  done := by
    intro X eP eW eK hc i pins s σ H E I hf st hg
    subst eP eW eK
    obtain ⟨⟨old, he⟩, h1⟩ := st
    obtain ⟨xs, qx, ei⟩ := hg
    obtain ⟨us, ru, p1⟩ := sqk_its I qx
    obtain ⟨f0, f1, f2, f3, f4, f5⟩ := hf it (by simp)
    have hd := I.ok.hd hc
    have e1 : i = us.toArray.size := by rw [List.size_toArray, ru.length.symm.trans ei.symm]
    subst e1
    exact wpAny_pyNext_enum_endD (drK (A := X.A.in1) hd k it a n1 us.toArray) he ⟨h1, p1⟩ fun g eb => ⟨rfl, I.turned (t' := s.toks) (fun c o hb q => eb c o hb q) f0 f1 f3 f4 f5⟩
  self := fun A i s Q E st h => let ⟨⟨_, he⟩, _⟩ := st; wpAny_pyIter_enum he h
theorem new_eg {v : Value} {ob : Obj} {Hy : Heap → Prop} (B : Begins v ob Hy) :
    Meets (Builtin.«enumerate.__new__» ⟨[.type "enumerate", v], []⟩) (fun _ R s => Hy s.heap ∧ R (.ok (.ret (.ref (s.heap.push ob).objs.size))) { s with heap := (s.heap.push ob).push { cls := .type "enumerate", data := .fields #[.none, .bool false, .ref s.heap.objs.size, rawInt 0, .none, .none] } }) :=
  .of_wp fun prog w A R s h => by
    obtain ⟨hp, gs, dr, tk, os⟩ := s
    obtain ⟨hy, h⟩ := h
    have se := sub_enumerate
    have go : ∀ {A' : Around} {E : Value → Shared → Prop} {Q : Value → Shared → Prop}, Q (.ref hp.objs.size) ⟨hp.push ob, gs, dr, tk, os⟩ → wpAny (model prog w) A' (pyIter v) Q E ⟨hp, gs, dr, tk, os⟩ := fun q => B.iter prog w _ _ ⟨hp, gs, dr, tk, os⟩ _ hy q
    wp_walk using go
    refine wpAny_stack_any fun _ => wpAny_pure ?_
    split
    · rename_i cc _ _ _ _ _
      cases (cc == Value.type "enumerate")
      · wp_walk using go
        exact ⟨_, rfl, h⟩
      · wp_walk using go
        exact ⟨_, rfl, h⟩
    · wp_walk using go
      exact ⟨_, rfl, h⟩
theorem call_eg {prog : Program} {w : World} {A : Around} {E : Value → Shared → Prop} {s : Shared} {v : Value} {ob : Obj} {Hy : Heap → Prop} {Q : Value → Shared → Prop} (B : Begins v ob Hy) (hy : Hy s.heap)
    (h : ∀ g, IsEnum g (s.heap.objs.size + 1) s.heap.objs.size 0 .none → g.get? s.heap.objs.size = some ob → g.objs.size = s.heap.objs.size + 2 → (∀ b o, s.heap.get? b = some o → g.get? b = some o) → Q (.ref (s.heap.objs.size + 1)) { s with heap := g }) :
    wpAny (model prog w) A (call (.type "enumerate") [v]) Q E s := by
  refine callType_new F.called_enumerate (by decide) (F.typeCall_enumerate_1 _) (F.newCall_enumerate_1 _) (fun x => F.args_object_init_2 x _) F.entry_enumerate_new (new_eg B) ⟨hy, ?_⟩
  have z1 : (s.heap.push ob).objs.size = s.heap.objs.size + 1 := Heap.size_push ..
  show _ ∧ _
  rw [z1]
  have en := Heap.get?_push_size (s.heap.push ob) (o := { cls := .type "enumerate", data := .fields #[.none, .bool false, .ref s.heap.objs.size, rawInt 0, .none, .none] }) rfl
  rw [z1] at en
  exact ⟨⟨_, en, rfl⟩, h _ en (Heap.get?_push_of_some _ (Heap.get?_push_size _ B.free)) (by rw [Heap.size_push, z1]) fun b o y => Heap.get?_push_of_some _ (Heap.get?_push_of_some _ y)⟩
def iEnumG (K : PySem.W.Frag) (ta : TA) : TI := fun σ H R => ta σ H fun vs H1 => ∃ a k xs, vs = [.ref a] ∧ SqK K H1 k a xs ∧ R (ItE K k a) H1
theorem pi_enumG {X : Cx} {e : Expr} {ta : TA} {p pos tpos : Pos} {elts : List Expr} {kk : Nat} (hg : Gl X "enumerate") (hm : X.mg "enumerate" = none) (ha : PA X [e] ta) (hs : starEach [e] X.env = [(false, eval e X.env)] := by rfl) :
    PI X (.Tuple elts kk tpos) (.Call (.Name "enumerate" p) [e] [] pos) (iEnumG X.K ta) := by
  refine ⟨fun pins s σ H R I h => Call_ (ld_blt I hg hm boot_enumerate (PyProof.Rows.callWith_type1 (thn (ha.run pos pins s σ H _ I h) fun us s1 ⟨vs, H1, I1, r1, q1⟩ => ?_) hs rfl))⟩
  obtain ⟨a, k, xs, ex, qx, q⟩ := q1
  subst ex
  cases r1 with
  | cons r rr =>
    cases rr
    cases r
    obtain ⟨us, ru, p1⟩ := sqk_its I1 qx
    have la := sqh_lt p1
    refine call_eg (beK k a us.toArray) p1 fun g he o1 sz kp => wpAny_pyIter_enum he ?_
    have I2 : Inv X pins σ H1 { s1 with heap := g } := I1.kept (t' := s1.toks) kp
    refine ⟨s1.heap.objs.size + 1, _, _, _, H1, rfl, I2, turn_eg (k := k) (a := a) (e := s1.heap.objs.size + 1) (it := s1.heap.objs.size) (Nat.ne_of_lt la) (Nat.succ_ne_self _) (Nat.ne_of_gt (Nat.lt_succ_of_lt la)), ⟨⟨.none, he⟩, itK_new o1⟩, fun c hc => ?_, q⟩
    have hc : c = s1.heap.objs.size + 1 ∨ c = s1.heap.objs.size := by simpa using hc
    have hle : s1.heap.objs.size ≤ c := by
      rcases hc with rfl | rfl
      · exact Nat.le_add_right _ _
      · exact Nat.le_refl _
    exact I1.fpOk hle (I1.hok.fresh hle)
/-! ### over data -/
def seqD : PyData → Option (List PyData)
  | .list xs => some xs
  | .tuple xs => some xs
  | _ => none
def iZipQ (a b : DE) : DI := fun env k => a env fun x => b env fun y => match seqD x with
  | some xs => (match seqD y with
    | some ys => k (zipD xs ys)
    | none => false)
  | none => false
def iEnumQ (a : DE) : DI := fun env k => a env fun x => match seqD x with
  | some xs => k (enumD 0 xs)
  | none => false
section
variable {W : Wd} {X : Cx} {K : PySem.W.Frag} {tg ea eb : Expr} {da db : DE} {pos : Pos}
theorem seqD_rp {F : Hp} {v : V} {d : PyData} {ds : List PyData} (e : seqD d = some ds) (r : Rp K F v d) : ∃ a k vl, v = .ref a ∧ (∀ F' H, Same F F' → Same F' H → SqK K H k a vl) ∧ RpAll K F vl ds := by
  cases d with
  | list xs =>
    cases e
    cases r with
    | lst h ra => exact ⟨_, .l, _, rfl, fun F' H s1 s2 => .inl (.inl (s2 _ _ (s1 _ _ h))), ra⟩
  | tuple xs =>
    cases e
    cases v with
    | ref a =>
      obtain ⟨vl, hs, ra⟩ := sqT_all r
      exact ⟨a, .t, vl, rfl, hs, ra⟩
    | _ => cases r
  | _ => cases e
theorem walk_zg {a b : Addr} {k1 k2 : Sk} {xs ys : List V} {n : Nat} (hn : n = min xs.length ys.length) : Walk (ItG K k1 k2 a b) n (fun H => SqK K H k1 a xs ∧ SqK K H k2 b ys) (YPair (fun i => xs[i]?) (fun i => ys[i]?)) := by
  subst hn
  refine ⟨fun i _ hi q => ?_, fun _ q => ⟨xs, ys, q.1, q.2, by omega, by omega, by omega⟩, fun i H v H' _ q y => ?_⟩
  · have h1 : i < xs.length := by omega
    have h2 : i < ys.length := by omega
    exact ⟨xs, ys, xs[i], ys[i], q.1, q.2, by simp [h1], by simp [h2]⟩
  · obtain ⟨T, x, z, h1, h2, h3, h4, h5⟩ := y
    exact ⟨T, x, z, h1, h2, h3, h4 xs q.1, h5 ys q.2⟩
theorem walk_eg {a : Addr} {k : Sk} {xs : List V} : Walk (ItE K k a) xs.length (fun H => SqK K H k a xs) (YPair (fun i => some (.int (i : Nat))) (fun i => xs[i]?)) := by
  refine ⟨fun i _ hi q => ⟨xs, xs[i], q, by simp [hi]⟩, fun _ q => ⟨xs, q, rfl⟩, fun i H v H' _ q y => ?_⟩
  obtain ⟨T, x, h1, h2, h3, h4⟩ := y
  exact ⟨T, _, x, h1, h2, h3, rfl, h4 xs q⟩
theorem si_zipQ {p tpos : Pos} {elts : List Expr} {kk : Nat} (hm : X.mg "zip" = none) (a : SE W X ea da) (b : SE W X eb db) (hg : Gl X "zip" := by rfl) (hs : starEach [ea, eb] X.env = (false, eval ea X.env) :: starEach [eb] X.env := by rfl) (hpl : (backTo pos (starEach [eb] X.env)).any (·.1) = false := by rfl)
    (h2 : starEach [eb] X.env = (false, eval eb X.env) :: starEach [] X.env := by rfl) : SI W X (.Tuple elts kk tpos) (.Call (.Name "zip" p) [ea, eb] [] pos) (iZipQ da db) := by
  obtain ⟨t, p1, o⟩ := a
  obtain ⟨t2, p2, o2⟩ := b
  refine ⟨_, pi_zipG hg hm (pa_cons p1 (pa_cons p2 pa_nil h2) hs) hs hpl, fun env σ F H k Q R h q => o env σ F H _ _ R h fun d v F1 H1 s1 r1 h1 => o2 env σ F1 H1 _ _ (R.step s1) h1 fun d2 v2 F2 H2 s2 r2 h2 => ?_⟩
  have B := ((R.step s1).step s2).bs
  have r1 := r1.mono s2.ff
  cases e : seqD d with
  | none => simp only [e] at h2; cases h2
  | some xs =>
    cases e2 : seqD d2 with
    | none => simp only [e, e2] at h2; cases h2
    | some ys =>
      simp only [e, e2] at h2
      obtain ⟨pa, k1, vl, rfl, ha, ra⟩ := seqD_rp e r1
      obtain ⟨pb, k2, wl, rfl, hb, rb⟩ := seqD_rp e2 r2
      refine ⟨pa, pb, k1, k2, vl, wl, rfl, ha F2 H2 (Same.refl F2) B.fh, hb F2 H2 (Same.refl F2) B.fh, q _ _ F2 H2 (s1.trans s2) ?_ h2⟩
      refine ⟨fun H => SqK X.K H k1 pa vl ∧ SqK X.K H k2 pb wl, _, walk_zg (by rw [zipD_len, ra.length, rb.length]), fun F H e1 e2 => ⟨ha F H e1 e2, hb F H e1 e2⟩, fun i H x H2 F d e1 B hd y => ?_⟩
      obtain ⟨z, z2, h1, h2, h3⟩ := zipD_at xs ys i d hd
      obtain ⟨v, h4, h5⟩ := ra.at h1
      obtain ⟨v2, h6, h7⟩ := rb.at h2
      subst h3
      exact walkPair B y h4 h6 (h5.mono e1) (h7.mono e1)
theorem si_enumQ {p tpos : Pos} {elts : List Expr} {kk : Nat} (hm : X.mg "enumerate" = none) (a : SE W X ea da) (hg : Gl X "enumerate" := by rfl) (hs : starEach [ea] X.env = [(false, eval ea X.env)] := by rfl) (hs2 : starEach [ea] X.env = (false, eval ea X.env) :: starEach [] X.env := by rfl) :
    SI W X (.Tuple elts kk tpos) (.Call (.Name "enumerate" p) [ea] [] pos) (iEnumQ da) := by
  obtain ⟨t, q, o⟩ := a
  refine ⟨_, pi_enumG hg hm (pa_cons q pa_nil hs2) hs, fun env σ F H k Q R h q => o env σ F H _ _ R h fun d v F1 H1 s1 r1 h1 => ?_⟩
  have B := (R.step s1).bs
  cases e : seqD d with
  | none => simp only [e] at h1; cases h1
  | some xs =>
    simp only [e] at h1
    obtain ⟨pa, k1, vl, rfl, ha, ra⟩ := seqD_rp e r1
    refine ⟨pa, k1, vl, rfl, ha F1 H1 (Same.refl F1) B.fh, q _ _ F1 H1 s1 ?_ h1⟩
    refine ⟨fun H => SqK X.K H k1 pa vl, _, by rw [enumD_len, ← ra.length]; exact walk_eg, fun F H e1 e2 => ha F H e1 e2, fun i H x H2 F d e1 B hd y => ?_⟩
    obtain ⟨z, h1, h2⟩ := enumD_at xs 0 i d hd
    obtain ⟨v, h3, h4⟩ := ra.at h1
    subst h2
    rw [Nat.zero_add]
    exact walkPair B y rfl h3 (.int _) (h4.mono e1)
end
end Dl

/-! sum of lists and tuples, sorted lists of whole numbers -/
namespace Dl
open PySem PySem.Spec PyProof.Rows L2
section
variable {W : Wd} {X : Cx} {K : PySem.W.Frag}
def rSum2 (K : PySem.W.Frag) : List V → Hp → VK → Prop := fun vs H Q => ∃ (a : Addr) (ns : List Int), vs = [V.ref a] ∧ (SqL K H a (ns.map V.int) ∨ SqT K H a (ns.map V.int)) ∧ Q (.int ns.sum) H
theorem cr_sum2 (hc : X.calm = true) : CallR X (.builtin "sum") (rSum2 X.K) := by
  intro pins s σ H vs us Q I r h
  obtain ⟨a, ns, rfl, hs, q⟩ := h
  rw [Vals.ref1 r]
  rcases hs with hs | hs
  · obtain ⟨its, rv, hl, _⟩ := I.list hs
    exact sum_raw (I.ok.hd hc) hl.isList rv.ints fun h' tk t' hk => ⟨.int _, H, I.kept hk, ⟨_, rfl⟩, q⟩
  · obtain ⟨its, rv, hl, _⟩ := I.tuple hs
    have hi := rv.ints
    have hl : s.heap.IsTuple a its.toArray := hl
    obtain ⟨xs, hx⟩ := hi.allInts.items
    have hn : numsOf its.toArray.toList = ns := by rw [show its.toArray.toList = its from rfl, hi.numsOf]
    rw [hx] at hl hn
    rw [nums_intItems] at hn
    refine PySem.W.ktm_sumG (I.ok.hd hc) hl fun h' tk t' hk => ⟨.int _, H, I.kept hk, ⟨t', ?_⟩, q⟩
    rw [preSum_eq, List.take_of_length_le (by simp), hn]
def gSum2 : GC := fun ds k => match ds with
  | [.list xs] => (match intsOf xs with
    | some ns => k (.int ns.sum)
    | none => false)
  | [.tuple xs] => (match intsOf xs with
    | some ns => k (.int ns.sum)
    | none => false)
  | _ => false
theorem ok_sum2 : OkC K W (rSum2 K) gSum2 := fun F H vs ds k Q B r h q => by
  cases r with
  | nil => cases h
  | @cons v vs d ds r1 r =>
    cases r with
    | cons _ _ => cases d <;> cases h
    | nil =>
      cases d with
      | list xs =>
        cases e : intsOf xs with
        | none => simp only [gSum2, e] at h; cases h
        | some ns =>
          simp only [gSum2, e] at h
          cases r1 with
          | @lst pa vl _ ha ra =>
            rw [intsOf_ok e] at ra
            rw [ra.ints] at ha
            exact ⟨_, ns, rfl, .inl (.inl (.inl (B.keep ha))), q _ _ F H (Stp.refl B) (.int _) h⟩
      | tuple xs =>
        cases e : intsOf xs with
        | none => simp only [gSum2, e] at h; cases h
        | some ns =>
          simp only [gSum2, e] at h
          cases v with
          | ref p =>
            obtain ⟨vs, hs, ra⟩ := sqT_of B.fh r1
            rw [intsOf_ok e] at ra
            rw [ra.ints] at hs
            exact ⟨_, ns, rfl, .inr hs, q _ _ F H (Stp.refl B) (.int _) h⟩
          | _ => cases r1
      | _ => cases h
def insI2 (x : Int) : List Int → List Int
  | [] => [x]
  | y :: r => match decide (x ≤ y) with
    | true => x :: y :: r
    | false => y :: insI2 x r
def sortI2 : List Int → List Int
  | [] => []
  | x :: r => insI2 x (sortI2 r)
theorem insI2_perm (x : Int) : ∀ l, (insI2 x l).Perm (x :: l)
  | [] => .refl _
  | y :: r => by
    unfold insI2
    split
    · exact .refl _
    · exact ((insI2_perm x r).cons y).trans (.swap x y r)
theorem sortI2_perm : ∀ l, (sortI2 l).Perm l
  | [] => .refl _
  | x :: r => (insI2_perm x _).trans ((sortI2_perm r).cons x)
theorem insI2_rise (x : Int) : ∀ l, l.Pairwise (· ≤ ·) → (insI2 x l).Pairwise (· ≤ ·)
  | [], _ => List.pairwise_singleton _ _
  | y :: r, h => by
    obtain ⟨h1, h2⟩ := List.pairwise_cons.mp h
    unfold insI2
    split
    · rename_i e
      have e := of_decide_eq_true e
      refine List.pairwise_cons.mpr ⟨fun z hz => ?_, h⟩
      rcases List.mem_cons.mp hz with rfl | hz
      · exact e
      · exact Int.le_trans e (h1 z hz)
    · rename_i e
      have e := of_decide_eq_false e
      refine List.pairwise_cons.mpr ⟨fun z hz => ?_, insI2_rise x r h2⟩
      rcases List.mem_cons.mp ((insI2_perm x r).mem_iff.mp hz) with rfl | hz
      · omega
      · exact h1 z hz
theorem sortI2_rise : ∀ l, (sortI2 l).Pairwise (· ≤ ·)
  | [] => .nil
  | x :: r => insI2_rise x _ (sortI2_rise r)
def gSorted : GC := gInts fun ns k => match Nat.blt ns.length 64 with
  | true => k (.list ((sortI2 ns).map .int))
  | false => false
theorem rpAll_ints {F : Hp} : ∀ ns : List Int, RpAll K F (ns.map V.int) (ns.map PyData.int)
  | [] => .nil
  | i :: ns => .cons (.int i) (rpAll_ints ns)
theorem ok_sorted : OkC K W (rSorted K) gSorted := fun F H vs ds k Q B r h q => by
  obtain ⟨a, ns, rfl, ha, h⟩ := gInts_ok r h
  cases e : Nat.blt ns.length 64 with
  | false => rw [e] at h; cases h
  | true =>
    rw [e] at h
    refine ⟨a, ns, rfl, .inl (.inl (B.keep ha)), Nat.le_of_ble_eq_true e, fun ns' p hp hr np => ?_⟩
    have es : ns' = sortI2 ns := (hp.trans (sortI2_perm ns).symm).eq_of_pairwise (fun a b _ _ h1 h2 => Int.le_antisymm h1 h2) hr (sortI2_rise ns)
    subst es
    have st := Stp.new (o := .lst ((sortI2 ns).map V.int)) B np
    exact q _ _ _ _ st (.lst upd_same (rpAll_ints _)) h
theorem se_dict0 {pos : Pos} : SE W X (.Dict [] [] pos) (dC (.dict [])) :=
  ⟨_, pe_dnewK, fun env σ F H k Q R h q => fun p np => q (.dict []) (.ref p) _ _ (Stp.new (o := .dK []) R.bs np) (.dct0 upd_same) h⟩
end
end Dl

namespace Dl
open PySem PySem.Spec PyProof.Rows L2
/-! ### what a reading comes to, as an equation -/
abbrev Ev (f : KF → Bool) (d : PyData) : Prop := ∀ k : KF, f k = k d
abbrev EvT (f : (Bool → Bool) → Bool) (b : Bool) : Prop := ∀ k : Bool → Bool, f k = k b
abbrev EvA (f : (List PyData → Bool) → Bool) (ds : List PyData) : Prop := ∀ k : List PyData → Bool, f k = k ds
abbrev EvO (f : (Option Int → Bool) → Bool) (o : Option Int) : Prop := ∀ k : Option Int → Bool, f k = k o
abbrev EvM (f : (List Sl → Bool) → Bool) (ss : List Sl) : Prop := ∀ k : List Sl → Bool, f k = k ss
abbrev EvG (f : (Sls → Bool) → Bool) (e : Sls) : Prop := ∀ k : Sls → Bool, f k = k e
section
variable {env env' : Sls} {a b c : DE} {g g' : G2} {u : G1} {gc : GC} {x y z r : PyData} {i j : Nat} {dr da : DA} {ds es xs : List PyData} {m : Fn} {n : Nat} {t t1 t2 : DT} {p q : Bool} {o o2 : DO} {l l2 : Option Int} {df df2 : DF} {dm : DM} {ss : List Sl} {it : DI}
theorem ev_var (h : look env i = .fz x) : Ev (dVar i env) x := fun k => by unfold dVar; rw [h]
theorem ev_c : Ev (dC x env) x := fun _ => rfl
theorem ev_op (ha : Ev (a env) x) (hb : Ev (b env) y) (hg : Ev (g x y) z) : Ev (dOp g a b env) z := fun k => by unfold dOp; rw [ha, hb, hg]
theorem ev_un (ha : Ev (a env) x) (hg : Ev (u x) z) : Ev (dUn u a env) z := fun k => by unfold dUn; rw [ha, hg]
theorem eva_nil : EvA (aNil env) [] := fun _ => rfl
theorem eva_cons (ha : Ev (a env) x) (hr : EvA (dr env) xs) : EvA (aCons a dr env) (x :: xs) := fun k => by unfold aCons; rw [ha, hr]
theorem eva_pot (h : look env i = .pt) (hr : EvA (dr env) xs) : EvA (aPot i dr env) (potD :: xs) := fun k => by unfold aPot; rw [h]; exact hr _
theorem ev_tup (ha : EvA (dr env) ds) (hl : small ds.length = true) : Ev (dTup dr env) (.tuple ds) := fun k => by unfold dTup; rw [ha, hl]
theorem ev_lst (ha : EvA (dr env) ds) (hl : small ds.length = true) : Ev (dLst dr env) (.list ds) := fun k => by unfold dLst; rw [ha, hl]
theorem ev_cb (ha : EvA (dr env) ds) (hg : Ev (gc ds) r) : Ev (dCB gc dr env) r := fun k => by unfold dCB; rw [ha, hg]
theorem ev_call (ha : EvA (dr env) ds) (hm : Ev (m ds) r) (hl : Nat.beq ds.length n = true) : Ev (dCallN n m dr env) r := fun k => by unfold dCallN; rw [ha, hl]; exact hm k
theorem ev_callK {perm : List Nat} (ha : EvA (dr env) ds) (hm : Ev (m (permD .none perm ds)) r) (hl : (Nat.beq ds.length j && Nat.beq perm.length n && perm.all fun i => Nat.blt i j) = true) : Ev (dCallK n j perm m dr env) r := fun k => by unfold dCallK; rw [ha, hl]; exact hm k
theorem evf_call (ha : EvA (dr env) ds) (hm : Ev (m ds) (.list es)) (hl : Nat.beq ds.length n = true) : EvA (fCallN n m dr env) es := fun k => by unfold fCallN; rw [ha, hl]; exact hm _
theorem ev_ifT (ht : EvT (t env) true) (ha : Ev (a env) x) : Ev (dIf t a b env) x := fun k => by unfold dIf; rw [ht]; exact ha k
theorem ev_ifF (ht : EvT (t env) false) (ha : Ev (b env) x) : Ev (dIf t a b env) x := fun k => by unfold dIf; rw [ht]; exact ha k
theorem evt_b (ha : Ev (a env) (.bool p)) : EvT (dB a env) p := fun k => by unfold dB; rw [ha]
theorem evt_not (ha : EvT (t env) p) : EvT (dNot t env) (!p) := fun k => by unfold dNot; rw [ha]
theorem evt_andT (ha : EvT (t1 env) true) (hb : EvT (t2 env) p) : EvT (dAnd t1 t2 env) p := fun k => by unfold dAnd; rw [ha]; exact hb k
theorem evt_andF (ha : EvT (t1 env) false) : EvT (dAnd t1 t2 env) false := fun k => by unfold dAnd; rw [ha]
theorem evt_orF (ha : EvT (t1 env) false) (hb : EvT (t2 env) p) : EvT (dOr t1 t2 env) p := fun k => by unfold dOr; rw [ha]; exact hb k
theorem evt_orT (ha : EvT (t1 env) true) : EvT (dOr t1 t2 env) true := fun k => by unfold dOr; rw [ha]
theorem ev_andT (ha : Ev (a env) (.bool true)) (hb : Ev (b env) x) : Ev (dAndV a b env) x := fun k => by unfold dAndV; rw [ha]; exact hb k
theorem ev_andF (ha : Ev (a env) (.bool false)) : Ev (dAndV a b env) (.bool false) := fun k => by unfold dAndV; rw [ha]
theorem ev_orF (ha : Ev (a env) (.bool false)) (hb : Ev (b env) x) : Ev (dOrV a b env) x := fun k => by unfold dOrV; rw [ha]; exact hb k
theorem ev_orT (ha : Ev (a env) (.bool true)) : Ev (dOrV a b env) (.bool true) := fun k => by unfold dOrV; rw [ha]
theorem ev_notV (ha : Ev (a env) (.bool p)) : Ev (dNotV a env) (.bool (!p)) := fun k => by unfold dNotV; rw [ha]
theorem ev_to {f : KF → Bool} (h : Ev f x) (e : x = y) : Ev f y := e ▸ h
theorem ev_toB {f : KF → Bool} (h : Ev f (.bool p)) (e : p = q) : Ev f (.bool q) := e ▸ h
theorem evt_to {f : (Bool → Bool) → Bool} (h : EvT f p) (e : p = q) : EvT f q := e ▸ h
theorem eva_to {f : (List PyData → Bool) → Bool} (h : EvA f ds) (e : ds = xs) : EvA f xs := e ▸ h
theorem ev_notT (ha : Ev (a env) (.bool false)) : Ev (dNotV a env) (.bool true) := ev_notV ha
theorem ev_notF (ha : Ev (a env) (.bool true)) : Ev (dNotV a env) (.bool false) := ev_notV ha
theorem evt_notT (ha : EvT (t env) false) : EvT (dNot t env) true := evt_not ha
theorem evt_notF (ha : EvT (t env) true) : EvT (dNot t env) false := evt_not ha
/-- by cases on the first -/
theorem ev_and (ha : Ev (a env) (.bool p)) (hb : p = true → Ev (b env) (.bool q)) : Ev (dAndV a b env) (.bool (p && q)) := fun k => by
  unfold dAndV; rw [ha]
  cases p with
  | true => exact hb rfl k
  | false => rfl
theorem ev_or (ha : Ev (a env) (.bool p)) (hb : p = false → Ev (b env) (.bool q)) : Ev (dOrV a b env) (.bool (p || q)) := fun k => by
  unfold dOrV; rw [ha]
  cases p with
  | true => rfl
  | false => exact hb rfl k
theorem evt_and (ha : EvT (t1 env) p) (hb : p = true → EvT (t2 env) q) : EvT (dAnd t1 t2 env) (p && q) := fun k => by
  unfold dAnd; rw [ha]
  cases p with
  | true => exact hb rfl k
  | false => rfl
theorem evt_or (ha : EvT (t1 env) p) (hb : p = false → EvT (t2 env) q) : EvT (dOr t1 t2 env) (p || q) := fun k => by
  unfold dOr; rw [ha]
  cases p with
  | true => rfl
  | false => exact hb rfl k
theorem ev_is {cl : Tc} (ha : Ev (a env) x) : Ev (dIs cl a env) (.bool (cl.has x)) := fun k => by unfold dIs; rw [ha]
theorem ev_isLT (ha : Ev (a env) x) : Ev (dIsLT a env) (.bool (Tc.list.has x || Tc.tuple.has x)) := fun k => by unfold dIsLT; rw [ha]
theorem ev_chain (ha : Ev (a env) x) (hb : Ev (b env) y) (hg : Ev (g x y) (.bool p)) (hc : p = true → Ev (c env) z) (hg' : p = true → Ev (g' y z) (.bool q)) : Ev (dChain g g' a b c env) (.bool (p && q)) := fun k => by
  unfold dChain; rw [ha, hb, hg]
  cases p with
  | true => show c env _ = _; rw [hc rfl]; exact hg' rfl k
  | false => rfl
theorem ev_chT (ha : Ev (a env) x) (hb : Ev (b env) y) (hg : Ev (g x y) (.bool true)) (hc : Ev (c env) z) (hg' : Ev (g' y z) (.bool true)) : Ev (dChain g g' a b c env) (.bool true) := ev_chain (p := true) (q := true) ha hb hg (fun _ => hc) (fun _ => hg')
theorem evo_none : EvO (oNone env) none := fun _ => rfl
theorem evo_some {i : Int} (ha : Ev (a env) (.int i)) : EvO (oSome a env) (some i) := fun k => by unfold oSome; rw [ha]
theorem ev_sl (ha : Ev (a env) x) (hl : EvO (o env) l) (hu : EvO (o2 env) l2) (hg : Ev (gCut l l2 x) r) : Ev (dSl a o o2 env) r := fun k => by unfold dSl; rw [ha, hl, hu, hg]
theorem ev_repr2 {f : Bool} (ha : Ev (a env) x) (hb : Ev (b env) y) (h : reprOk x = true) (e : y = x) : Ev (dRepr2 f a b env) (.bool f) := fun k => by
  unfold dRepr2; rw [ha, h]
  show b env _ = _
  rw [hb, e, reprOk_same h]
/-- lists of one's own -/
theorem evf_lst (ha : EvA (dr env) ds) (hl : small ds.length = true) : EvA (fLst dr env) ds := fun k => by unfold fLst; rw [ha, hl]
theorem evf_cat (ha : Ev (a env) (.list xs)) (hb : Ev (b env) (.list ds)) (hl : small (xs.length + ds.length) = true) : EvA (fCat a b env) (xs ++ ds) := fun k => by unfold fCat; rw [ha, hb]; simp only [hl]
theorem evf_listL (ha : Ev (a env) (.list xs)) : EvA (fList a env) xs := fun k => by unfold fList; rw [ha]
theorem evf_listT (ha : Ev (a env) (.tuple xs)) : EvA (fList a env) xs := fun k => by unfold fList; rw [ha]
theorem evm_nil : EvM (mNil env) [] := fun _ => rfl
theorem evm_e (ha : Ev (a env) x) (hr : EvM (dm env) ss) : EvM (mE a dm env) (.fz x :: ss) := fun k => by unfold mE; rw [ha, hr]
theorem evm_f (ha : EvA (df env) xs) (hr : EvM (dm env) ss) : EvM (mF df dm env) (.ow xs :: ss) := fun k => by unfold mF; rw [ha, hr]
/-- reading lists of one's own -/
theorem ev_bor {is : List Nat} (h : frzAll env is = some env') (ha : Ev (a env') x) (hn : noList x = true) : Ev (dBor is a env) x := fun k => by unfold dBor; rw [h]; show a env' _ = _; rw [ha]; simp only [hn]
/-- operators -/
theorem op_add' {i j : Int} : Ev (gAdd (.int i) (.int j)) (.int (i + j)) := fun k => gAdd_of i j k
theorem op_sub' {i j : Int} : Ev (gSub (.int i) (.int j)) (.int (i - j)) := fun k => gSub_of i j k
theorem op_mul' {i j : Int} (h : mulOk i j = true) : Ev (gMul (.int i) (.int j)) (.int (i * j)) := fun k => gMul_of h k
theorem op_I {f : Int → Int → Bool} {i j : Int} : Ev (gI f (.int i) (.int j)) (.bool (f i j)) := fun k => rfl
theorem op_ixL {i : Int} (h : atI xs i = some x) : Ev (gIx (.list xs) (.int i)) x := fun k => by unfold gIx; simp only [h]
theorem op_ixT {i : Int} (h : atI xs i = some x) : Ev (gIx (.tuple xs) (.int i)) x := fun k => by unfold gIx; simp only [h]
theorem op_catL (hl : small (xs.length + ds.length) = true) : Ev (gAdd (.list xs) (.list ds)) (.list (xs ++ ds)) := fun k => by unfold gAdd; simp only [hl]
theorem op_catT (hl : small (xs.length + ds.length) = true) : Ev (gAdd (.tuple xs) (.tuple ds)) (.tuple (xs ++ ds)) := fun k => by unfold gAdd; simp only [hl]
theorem op_eq' (h1 : plD 40 x = true) (h2 : plD 40 y = true) : Ev (gEq x y) (.bool (fEq x y)) := fun k => gEqF_pl h1 h2
theorem op_ne' (h1 : plD 40 x = true) (h2 : plD 40 y = true) : Ev (gNe x y) (.bool (!fEq x y)) := fun k => gEqF_pl h1 h2
theorem op_eqI {i j : Int} : Ev (gEq (.int i) (.int j)) (.bool (eqI i j)) := fun k => rfl
theorem op_neI {i j : Int} : Ev (gNe (.int i) (.int j)) (.bool (!eqI i j)) := fun k => rfl
theorem op_isT {b : Bool} : Ev (gIs (.bool b) (.bool true)) (.bool b) := fun k => by cases b <;> rfl
theorem op_isNT {b : Bool} : Ev (gIsNot (.bool b) (.bool true)) (.bool (!b)) := fun k => by cases b <;> rfl
theorem op_revL : Ev (gRev (.list xs)) (.list xs.reverse) := fun k => rfl
theorem op_cutL : Ev (gCut l l2 (.list xs)) (.list (cutD xs l l2)) := fun k => rfl
theorem op_cutT : Ev (gCut l l2 (.tuple xs)) (.tuple (cutD xs l l2)) := fun k => rfl
theorem op_neg {i : Int} : Ev (gNeg (.int i)) (.int (-i)) := fun k => rfl
theorem cb_lenL : Ev (gLen [.list xs]) (.int xs.length) := fun k => rfl
theorem cb_lenT : Ev (gLen [.tuple xs]) (.int xs.length) := fun k => rfl
theorem cb_tupL : Ev (gTuple [.list xs]) (.tuple xs) := fun k => rfl
theorem cb_tupT : Ev (gTuple [.tuple xs]) (.tuple xs) := fun k => rfl
theorem cb_lstL : Ev (gList [.list xs]) (.list xs) := fun k => rfl
theorem cb_lstT : Ev (gList [.tuple xs]) (.list xs) := fun k => rfl
theorem cb_abs {i : Int} : Ev (gAbs [.int i]) (.int (if i < 0 then -i else i)) := fun k => rfl
theorem cb_repr (h : reprOk x = true) : Ev (gRepr [x]) (.str x.shown) := fun k => by unfold gRepr; simp only [h]
theorem cb_bools {f : List Bool → Bool} {bs : List Bool} (h : ds = bs.map PyData.bool) : Ev (gBools f [.list ds]) (.bool (f bs)) := fun k => by
  subst h
  have e : ∀ bs : List Bool, boolsOf (bs.map PyData.bool) = some bs := fun bs => by
    induction bs with
    | nil => rfl
    | cons b r ih => simp only [List.map_cons, boolsOf, ih]
  unfold gBools
  simp only [e]
end
end Dl

namespace Dl
open PySem PySem.Spec PyProof.Rows L2
/-! ### what statements come to -/
abbrev Ex (s : DS) (env e : Sls) : Prop := ∀ B : DEnds, s B env = B.nx e
abbrev Rt (s : DS) (env : Sls) (d : PyData) : Prop := ∀ B : DEnds, s B env = B.rt d
abbrev ExF (g : DG) (body : DS) (xs : List PyData) (env e : Sls) : Prop := ∀ B : DEnds, goFor g body B xs env = B.nx e
section
variable {env e e1 e2 e3 : Sls} {a b s body : DS} {de dx : DE} {df df2 : DF} {g : DG} {gs : DGs} {x y z d : PyData} {ds es xs : List PyData} {i j l n : Nat} {dr : DA} {dm : DM} {ss : List Sl} {it : DI} {c : DT} {B : DEnds} {k : KF}
theorem evg_n : EvG (gN i d env) (env.set i (.fz d)) := fun _ => rfl
theorem evgs_nil : EvG (gsNil [] env) env := fun _ => rfl
theorem evgs_cons (h1 : EvG (g x env) e1) (h2 : EvG (gs xs e1) e2) : EvG (gsCons g gs (x :: xs) env) e2 := fun k => by
  show g x env (fun env' => gs xs env' k) = _
  rw [h1, h2]
theorem evg_t (h : EvG (gs ds env) e) (hl : Nat.beq ds.length n = true) : EvG (gT n gs (.tuple ds) env) e := fun k => by unfold gT; simp only [hl]; exact h k
theorem ex_nil : Ex sNil env env := fun _ => rfl
theorem ex_seq (h1 : Ex a env e1) (h2 : Ex b e1 e2) : Ex (sSeq a b) env e2 := fun B => by unfold sSeq; rw [h1]; exact h2 B
theorem rt_seq (h1 : Ex a env e1) (h2 : Rt b e1 d) : Rt (sSeq a b) env d := fun B => by unfold sSeq; rw [h1]; exact h2 B
theorem rt_now (h1 : Rt a env d) : Rt (sSeq a b) env d := fun B => by unfold sSeq; rw [h1]
theorem go_seq (h1 : Ex a env e1) (h2 : b B e1 = true) : sSeq a b B env = true := by unfold sSeq; rw [h1]; exact h2
theorem rt_ret (h : Ev (de env) d) : Rt (sRet de) env d := fun B => h B.rt
theorem rt_retF (h : EvA (df env) ds) : Rt (sRetF df) env (.list ds) := fun B => by unfold sRetF; rw [h]
theorem rt_retO (h : look env i = .ow ds) : Rt (sRetO i) env (.list ds) := fun B => by unfold sRetO; rw [h]
theorem rt_retN : Rt sRetN env .none := fun B => rfl
theorem ex_asg (h : Ev (de env) d) (hg : EvG (g d env) e) : Ex (sAsg de g) env e := fun B => by unfold sAsg; rw [h, hg]
theorem ex_own (h : EvA (df env) ds) : Ex (sOwn i df) env (env.set i (.ow ds)) := fun B => by unfold sOwn; rw [h]
theorem ex_par (h : EvA (dr env) [x, y]) : Ex (sPar i j dr) env ((env.set i (.fz x)).set j (.fz y)) := fun B => by unfold sPar; rw [h]
theorem ex_par3 (h : EvA (dr env) [x, y, z]) : Ex (sPar3 i j l dr) env (((env.set i (.fz x)).set j (.fz y)).set l (.fz z)) := fun B => by unfold sPar3; rw [h]
theorem ex_par3F {b : DE} (h1 : Ev (de env) x) (h2 : Ev (b env) y) (h3 : EvA (df env) ds) : Ex (sPar3F i j l de b df) env (((env.set i (.fz x)).set j (.fz y)).set l (.ow ds)) := fun B => by unfold sPar3F; rw [h1, h2, h3]
theorem ex_parFE (h1 : EvA (df env) ds) (h2 : Ev (de env) x) : Ex (sParFE i j df de) env ((env.set i (.ow ds)).set j (.fz x)) := fun B => by unfold sParFE; rw [h1, h2]
theorem ex_parEF (h1 : Ev (de env) x) (h2 : EvA (df env) ds) : Ex (sParEF i j de df) env ((env.set i (.fz x)).set j (.ow ds)) := fun B => by unfold sParEF; rw [h1, h2]
theorem ex_parFF (h1 : EvA (df env) ds) (h2 : EvA (df2 env) es) : Ex (sParFF i j df df2) env ((env.set i (.ow ds)).set j (.ow es)) := fun B => by unfold sParFF; rw [h1, h2]
theorem ex_mix {is : List Nat} (h : EvM (dm env) ss) (hs : setsE is ss env = some e) : Ex (sMix is dm) env e := fun B => by unfold sMix; rw [h]; simp only [hs]
theorem ex_ifT (h : EvT (c env) true) (ha : Ex a env e) : Ex (sIf c a b) env e := fun B => by unfold sIf; rw [h]; exact ha B
theorem ex_ifF (h : EvT (c env) false) (ha : Ex b env e) : Ex (sIf c a b) env e := fun B => by unfold sIf; rw [h]; exact ha B
theorem rt_ifT (h : EvT (c env) true) (ha : Rt a env d) : Rt (sIf c a b) env d := fun B => by unfold sIf; rw [h]; exact ha B
theorem rt_ifF (h : EvT (c env) false) (ha : Rt b env d) : Rt (sIf c a b) env d := fun B => by unfold sIf; rw [h]; exact ha B
theorem ex_expr (h : Ev (de env) d) : Ex (sExpr de) env env := fun B => by unfold sExpr; rw [h]
theorem ex_frz (h : freeze env i = some e1) (ha : Ex a e1 e) : Ex (sFrz i a) env e := fun B => by unfold sFrz; rw [h]; exact ha B
theorem rt_frz (h : freeze env i = some e1) (ha : Rt a e1 d) : Rt (sFrz i a) env d := fun B => by unfold sFrz; rw [h]; exact ha B
theorem ex_app (hl : look env i = .ow ds) (h : Ev (de env) d) (hs : small ds.length = true) : Ex (sApp i de) env (env.set i (.ow (ds ++ [d]))) := fun B => by unfold sApp; rw [hl]; simp only [h, hs]
theorem ex_appX (h : EvA (df env) ds) (h2 : Ev (de env) d) (hs : small ds.length = true) : Ex (sAppX df de) env env := fun B => by unfold sAppX; rw [h]; simp only [hs]; exact h2 _
theorem ex_for (hi : EvA (it env) xs) (h : ExF g body xs env e) : Ex (sFor it g body) env e := fun B => by unfold sFor; rw [hi]; exact h B
theorem exf_nil : ExF g body [] env env := fun _ => rfl
theorem exf_cons (hg : EvG (g x env) e1) (hb : Ex body e1 e2) (ht : ExF g body xs e2 e3) : ExF g body (x :: xs) env e3 := fun B => by unfold goFor; rw [hg, hb]; exact ht B
/-- a loop by what holds at each turn -/
theorem for_inv {α : Type} {f : α → PyData} {xs : List α} (I : List α → List α → Sls → Prop) (hs : ∀ (pre : List α) (w : α) (rest : List α) (e : Sls), pre ++ w :: rest = xs → I pre (w :: rest) e → ∃ e1 e2, EvG (g (f w) e) e1 ∧ Ex body e1 e2 ∧ I (pre ++ [w]) rest e2) :
    ∀ (rest pre : List α) (env : Sls), pre ++ rest = xs → I pre rest env → ∃ e, I xs [] e ∧ ExF g body (rest.map f) env e
  | [], pre, env, hp, h0 => by
    rw [List.append_nil] at hp
    subst hp
    exact ⟨env, h0, exf_nil⟩
  | w :: rest, pre, env, hp, h0 => by
    obtain ⟨e1, e2, hg, hb, h1⟩ := hs pre w rest env hp h0
    obtain ⟨e, h2, h3⟩ := for_inv I hs rest (pre ++ [w]) e2 (by rw [List.append_assoc]; exact hp) h1
    exact ⟨e, h2, exf_cons hg hb h3⟩
/-- a comprehension by what each turn gives -/
theorem lc_go {α : Type} {f : α → PyData} {r : α → PyData} {el : DE} : ∀ (ws : List α) (acc : List PyData), (∀ w ∈ ws, ∃ e, EvG (g (f w) env) e ∧ Ev (el e) (r w)) → ∀ k : KF, goLc g dYes el env (ws.map f) acc k = k (.list (acc.reverse ++ ws.map r))
  | [], acc, h, k => by simp [goLc]
  | w :: ws, acc, h, k => by
    obtain ⟨e, hg, hr⟩ := h w List.mem_cons_self
    show (g (f w) env fun env' => dYes env' fun b => match b with
      | true => el env' fun y => goLc g dYes el env (ws.map f) (y :: acc) k
      | false => goLc g dYes el env (ws.map f) acc k) = _
    rw [hg]
    show el e (fun y => goLc g dYes el env (ws.map f) (y :: acc) k) = _
    rw [hr, lc_go ws (r w :: acc) (fun w hw => h w (List.mem_cons_of_mem _ hw))]
    simp
abbrev EvLc (g : DG) (el : DE) (env : Sls) (xs ys : List PyData) : Prop := ∀ (acc : List PyData) (k : KF), goLc g dYes el env xs acc k = k (.list (acc.reverse ++ ys))
theorem evlc_map {α : Type} {ws : List α} {f r : α → PyData} {el : DE} (h : ∀ w ∈ ws, ∃ e, EvG (g (f w) env) e ∧ Ev (el e) (r w)) : EvLc g el env (ws.map f) (ws.map r) := fun acc k => lc_go ws acc h k
theorem evlc_nil {el : DE} : EvLc g el env [] [] := fun acc k => by simp [goLc]
theorem evlc_cons {el : DE} (hg : EvG (g x env) e) (he : Ev (el e) y) (ht : EvLc g el env xs es) : EvLc g el env (x :: xs) (y :: es) := fun acc k => by
  show (g x env fun env' => dYes env' fun b => match b with
    | true => el env' fun y => goLc g dYes el env xs (y :: acc) k
    | false => goLc g dYes el env xs acc k) = _
  rw [hg]
  show el e (fun y => goLc g dYes el env xs (y :: acc) k) = _
  rw [he, ht]
  simp
theorem ev_lc {el : DE} {vs : List Nat} (hi : EvA (it env) xs) (h : EvLc g el (wipeE env vs) xs ds) (hl : small xs.length = true) : Ev (dLc it g dYes el vs env) (.list ds) := fun k => by
  unfold dLc
  rw [hi]
  simp only [hl]
  rw [h]
  rfl
theorem evf_lc {el : DE} {vs : List Nat} (hi : EvA (it env) xs) (h : EvLc g el (wipeE env vs) xs ds) (hl : small xs.length = true) : EvA (fLc it g dYes el vs env) ds := fun k => by
  unfold fLc
  rw [ev_lc hi h hl]
/-- what is walked -/
theorem evi_seqL (h : Ev (de env) (.list xs)) : EvA (iSeq de env) xs := fun k => by unfold iSeq; rw [h]
theorem evi_seqT (h : Ev (de env) (.tuple xs)) : EvA (iSeq de env) xs := fun k => by unfold iSeq; rw [h]
theorem evi_range {m : Int} (h : Ev (de env) (.int m)) (hb : big m = true) : EvA (iRange1 de env) (rangeD 0 m.toNat) := fun k => by unfold iRange1; rw [h]; simp only [hb]
theorem evi_range2 {m p : Int} (h : Ev (de env) (.int m)) (h2 : Ev (dx env) (.int p)) (hb : (big m && big p) = true) : EvA (iRange2 de dx env) (rangeD m (p - m).toNat) := fun k => by unfold iRange2; rw [h, h2]; simp only [hb]
theorem evi_enum (h : Ev (de env) (.list xs)) : EvA (iEnumD de env) (enumD 0 xs) := fun k => by unfold iEnumD; rw [h]
theorem evi_zipL (h : Ev (de env) (.list xs)) (h2 : Ev (dx env) (.list ds)) : EvA (iZipD de dx env) (zipD xs ds) := fun k => by unfold iZipD; rw [h, h2]
theorem evi_zipT (h : Ev (de env) (.tuple xs)) (h2 : Ev (dx env) (.tuple ds)) : EvA (iZipD de dx env) (zipD xs ds) := fun k => by unfold iZipD; rw [h, h2]
theorem evi_zipQ {es' : List PyData} (h : Ev (de env) x) (h2 : Ev (dx env) y) (e1 : seqD x = some xs) (e2 : seqD y = some es') : EvA (iZipQ de dx env) (zipD xs es') := fun k => by unfold iZipQ; rw [h, h2]; simp only [e1, e2]
theorem evi_enumQ (h : Ev (de env) x) (e1 : seqD x = some xs) : EvA (iEnumQ de env) (enumD 0 xs) := fun k => by unfold iEnumQ; rw [h]; simp only [e1]
/-- defs -/
theorem ev_def (h : Rt body (startE n ds) d) : Ev (mOf n body ds) d := fun k => h _
theorem ev_defN (h : Ex body (startE n ds) e) : Ev (mOf n body ds) .none := fun k => h _
theorem ev_defF (h : Rt body (startE n ds) d) : Ev (mOfF n body ds) d := fun k => h _
theorem zipD_map {α β : Type} (f : α → PyData) (h : β → PyData) : ∀ (as : List α) (bs : List β), zipD (as.map f) (bs.map h) = (as.zip bs).map fun p => .tuple [f p.1, h p.2]
  | [], bs => by simp [zipD]
  | a :: as, [] => by simp [zipD]
  | a :: as, b :: bs => by simp [zipD, zipD_map f h as bs]
theorem enumD_map {α : Type} (f : α → PyData) : ∀ (as : List α) (n : Nat), enumD n (as.map f) = (as.zipIdx n).map fun p => .tuple [.int (p.2 : Int), f p.1]
  | [], n => rfl
  | a :: as, n => by simp [enumD, enumD_map f as (n + 1)]
theorem rangeD_map : ∀ (n : Nat) (lo : Int), rangeD lo n = (List.range n).map fun i : Nat => PyData.int (lo + i)
  | 0, lo => rfl
  | n + 1, lo => by
    rw [List.range_succ_eq_map]
    simp [rangeD, rangeD_map n (lo + 1)]
    intro a _
    omega
end
end Dl

namespace Dl
open PySem PySem.Spec PyProof.Rows L2
/-! ### fractions by rational numbers, as equations -/
section
variable {p q : Rat} {m n : Nat} {env : Sls} {a : DE}
theorem fr_int (i : Int) : fr (i : Rat) = .tuple [.int i, .int 1] := by
  unfold fr
  rw [Rat.num_intCast, Rat.den_intCast]
  rfl
theorem fr_zero : fr 0 = .tuple [.int 0, .int 1] := rfl
theorem fr_one : fr 1 = .tuple [.int 1, .int 1] := rfl
theorem fr_half : fr (1/2) = .tuple [.int 1, .int 2] := by
  unfold fr
  rw [show (1/2 : Rat).num = 1 by decide +kernel, show (1/2 : Rat).den = 2 by decide +kernel]
  rfl
theorem bd_zero : Bd 1 0 := ⟨by decide, by decide⟩
theorem bd_one : Bd 1 1 := ⟨by decide, by decide⟩
theorem bd_half : Bd 2 (1/2) := ⟨by decide +kernel, by decide +kernel⟩
theorem bd_int {i : Int} (h : i.natAbs < 2 ^ n) (hn : 0 < n) : Bd n (i : Rat) := by
  refine ⟨by rw [Rat.num_intCast]; exact h, ?_⟩
  rw [Rat.den_intCast]
  exact Nat.one_lt_two_pow (by omega)
theorem neg_bd (h : Bd n p) : Bd n (-p) := ⟨by rw [Rat.neg_num, Int.natAbs_neg]; exact h.1, by rw [Rat.neg_den]; exact h.2⟩
theorem ev_lit0 : Ev (dTup (aCons (dC (.int 0)) (aCons (dC (.int 1)) aNil)) env) (fr 0) := fun k => rfl
theorem ev_lit1 : Ev (dTup (aCons (dC (.int 1)) (aCons (dC (.int 1)) aNil)) env) (fr 1) := fun k => rfl
theorem ev_lith : Ev (dTup (aCons (dC (.int 1)) (aCons (dC (.int 2)) aNil)) env) (fr (1/2)) := fun k => by rw [fr_half]; rfl
theorem ev_litI {i : Int} (h : Ev (a env) (.int i)) : Ev (dTup (aCons a (aCons (dC (.int 1)) aNil)) env) (fr (i : Rat)) := fun k => by
  rw [fr_int]
  exact ev_tup (eva_cons h (eva_cons ev_c eva_nil)) rfl k
theorem ev_add (hp : Bd m p) (hq : Bd n q) (h : m + n ≤ 8999) : Ev (qAddR qReduced [fr p, fr q]) (fr (p + q)) := fun k => add_fr hp hq h
theorem ev_sub (hp : Bd m p) (hq : Bd n q) (h : m + n ≤ 8999) : Ev (qTakeR qReduced [fr p, fr q]) (fr (p - q)) := fun k => sub_fr hp hq h
theorem ev_mul (hp : Bd m p) (hq : Bd n q) (h : m + n ≤ 8999) : Ev (qMulR qReduced [fr p, fr q]) (fr (p * q)) := fun k => mul_fr hp hq h
theorem ev_div (hp : Bd m p) (hq : Bd n q) (h : m + n ≤ 8999) (hz : q ≠ 0) : Ev (qDivR qReduced [fr p, fr q]) (fr (p / q)) := fun k => div_fr hp hq h hz
theorem ev_below (hp : Bd m p) (hq : Bd n q) (h : m + n ≤ 8999) : Ev (qBelow [fr p, fr q]) (.bool (decide (p < q))) := fun k => below_fr hp hq h
theorem ev_isFr {slow : Fn} (hp : Bd n p) (h : n ≤ 8999) : Ev (qIsFrQ slow [fr p]) (.bool true) := fun k => by
  show (match logOk p.den with
    | true => k (.bool (Nat.ble 1 p.den && Nat.beq (Nat.gcd p.num.natAbs p.den) 1))
    | false => false) = _
  rw [log_ok hp.2 h]
  have h1 : Nat.ble 1 p.den = true := Nat.ble_eq_true_of_le (Nat.pos_of_ne_zero p.den_nz)
  have h2 : Nat.beq (Nat.gcd p.num.natAbs p.den) 1 = true := by
    have := p.reduced
    unfold Nat.Coprime at this
    rw [this]
    rfl
  rw [h1, h2]
  rfl
theorem ev_red {t : Int} {b : Nat} (hm : b ≠ 0) (hl : b < 2 ^ n) (hn : n ≤ 8999) : Ev (qReduced [.int t, .int (b : Int)]) (fr ((t : Rat) / (b : Rat))) := fun k => by
  have e : fr ((t : Rat) / (b : Rat)) = fr (mkRat t b) := by
    congr 1
    rw [div_eq, Rat.num_intCast, Rat.den_intCast, Rat.num_natCast, Rat.den_natCast]
    simp
  rw [e]
  exact red_fr hm hl hn
theorem op_num : Ev (gIx (fr p) (.int 0)) (.int p.num) := fun k => rfl
theorem op_den : Ev (gIx (fr p) (.int 1)) (.int (Int.ofNat p.den)) := fun k => rfl
theorem pl_fr (p : Rat) (n : Nat) : plD (n + 1) (fr p) = true := by unfold fr; simp [plD, plDs]
theorem fEq_fr (p q : Rat) : fEq (fr p) (fr q) = decide (p = q) := by
  unfold fr
  simp only [fEq, fEqs]
  rw [eqI_eq, eqI_eq]
  rw [Bool.eq_iff_iff, decide_eq_true_iff]
  constructor
  · intro h
    have h1 : (p.num == q.num) = true := by
      cases e : (p.num == q.num) with
      | true => rfl
      | false => rw [e] at h; cases h
    rw [h1] at h
    have h2 : (Int.ofNat p.den == Int.ofNat q.den) = true := by
      cases e : (Int.ofNat p.den == Int.ofNat q.den) with
      | true => rfl
      | false => rw [e] at h; cases h
    exact Rat.ext (eq_of_beq h1) (Int.ofNat.inj (eq_of_beq h2))
  · intro h
    subst h
    simp
theorem op_eqfr : Ev (gEq (fr p) (fr q)) (.bool (decide (p = q))) := fun k => by
  rw [op_eq' (pl_fr p 39) (pl_fr q 39), fEq_fr]
theorem op_nefr : Ev (gNe (fr p) (fr q)) (.bool (!decide (p = q))) := fun k => by
  rw [op_ne' (pl_fr p 39) (pl_fr q 39), fEq_fr]
theorem pls_frs (ps : List Rat) (n : Nat) : plDs (n + 1) (ps.map fr) = true := by
  induction ps with
  | nil => rfl
  | cons p ps ih => simp only [List.map_cons, plDs, pl_fr, ih]
theorem fEqs_frs : ∀ (ps qs : List Rat), fEqs (ps.map fr) (qs.map fr) = decide (ps = qs)
  | [], [] => rfl
  | [], _ :: _ => rfl
  | _ :: _, [] => rfl
  | p :: ps, q :: qs => by
    simp only [List.map_cons, fEqs]
    rw [fEq_fr, fEqs_frs ps qs]
    by_cases h1 : p = q
    · by_cases h2 : ps = qs
      · simp [h1, h2]
      · simp [h1, h2]
    · simp [h1]
theorem op_eqfrs {ps qs : List Rat} : Ev (gEq (.list (ps.map fr)) (.list (qs.map fr))) (.bool (decide (ps = qs))) := fun k => by
  rw [op_eq' (by unfold plD; exact pls_frs ps 38) (by unfold plD; exact pls_frs qs 38)]
  simp only [fEq, fEqs_frs]
theorem op_nefrs {ps qs : List Rat} : Ev (gNe (.list (ps.map fr)) (.list (qs.map fr))) (.bool (!decide (ps = qs))) := fun k => by
  rw [op_ne' (by unfold plD; exact pls_frs ps 38) (by unfold plD; exact pls_frs qs 38)]
  simp only [fEq, fEqs_frs]
end
/-! lists read by place -/
theorem atI_nat {α : Type} {xs : List α} {i : Nat} {x : α} (h : xs[i]? = some x) : atI xs (i : Int) = some x := by
  have hi : i < xs.length := (List.getElem?_eq_some_iff.mp h).1
  unfold atI
  rw [show ((i : Int)) = Int.ofNat i from rfl, ixN_lt hi]
  exact h
theorem atI_last {α : Type} {xs : List α} {x : α} : atI (xs ++ [x]) (-1) = some x := by
  unfold atI ixN
  have hl : (xs ++ [x]).length = xs.length + 1 := by simp
  have h : ¬ ((0 : Int) ≤ -1) := by decide
  rw [if_neg h, hl, if_pos (by omega)]
  have e : (-1 + ((xs.length + 1 : Nat) : Int)).toNat = xs.length := by omega
  rw [e]
  simp
/-! text lengths -/
def rp1 (n : Nat) (d : PyData) : Prop := okR n d = true
theorem okR_fr {p : Rat} (h : Bd 1919 p) (n : Nat) : okR (n + 1) (fr p) = true := by
  have h1 := log_lt h.1
  have h2 := log_lt h.2
  unfold fr
  simp only [okR, oksR]
  have e2 : Nat.ble (Nat.log2 p.den) 1919 = true := Nat.ble_eq_true_of_le h2
  cases e : p.num with
  | ofNat k =>
    rw [e] at h1
    have e1 : Nat.ble (Nat.log2 k) 1919 = true := Nat.ble_eq_true_of_le h1
    simp [e1, e2]
  | negSucc k =>
    rw [e] at h1
    have e1 : Nat.ble (Nat.log2 (Nat.succ k)) 1919 = true := Nat.ble_eq_true_of_le h1
    simp [e1, e2]
theorem oksR_frs {ps : List Rat} (h : ∀ p ∈ ps, Bd 1919 p) (n : Nat) : oksR (n + 1) (ps.map fr) = true := by
  induction ps with
  | nil => rfl
  | cons p ps ih => simp only [List.map_cons, oksR, okR_fr (h p List.mem_cons_self), ih fun q hq => h q (List.mem_cons_of_mem _ hq)]
theorem capR_fr (p : Rat) : capR (fr p) = 3850 := rfl
theorem capsR_frs (ps : List Rat) : capsR (ps.map fr) = 3852 * ps.length := by
  induction ps with
  | nil => rfl
  | cons p ps ih =>
    show capR (fr p) + 2 + capsR (ps.map fr) = _
    rw [ih, capR_fr, List.length_cons]
    omega
/-- repr of a list of lists of fractions -/
theorem reprOk_fr {p : Rat} (h : Bd 1919 p) : reprOk (fr p) = true := by
  unfold reprOk
  rw [okR_fr h 39]
  rw [capR_fr]
  rfl
theorem reprOk_of {d : PyData} (h : okR 40 d = true) (hc : capR d ≤ 16000000) : reprOk d = true := by
  unfold reprOk
  rw [h]
  exact Nat.ble_eq_true_of_le hc
theorem op_rep1 {x : PyData} {n : Nat} (h : n ≤ 100000) : Ev (gMul (.list [x]) (.int (n : Int))) (.list (List.replicate n x)) := fun k => by
  have e : (List.replicate n [x]).flatten = List.replicate n x := by
    induction n with
    | zero => rfl
    | succ n ih =>
      rw [List.replicate_succ, List.replicate_succ, List.flatten_cons, ih (by omega)]
      rfl
  have o : repOk 1 (Int.ofNat n) = true := by
    show (Nat.ble n 100000 && small (1 * n)) = true
    rw [Nat.ble_eq_true_of_le h, Nat.one_mul]
    exact Nat.ble_eq_true_of_le h
  show (match repOk 1 (Int.ofNat n) with
    | true => k (.list (List.replicate (Int.toNat (Int.ofNat n)) [x]).flatten)
    | false => false) = _
  rw [o]
  show k (.list (List.replicate n [x]).flatten) = _
  rw [e]
theorem cb_intB {b : Bool} : Ev (gInt [.bool b]) (.int (if b then 1 else 0)) := fun k => by cases b <;> rfl
theorem cb_intI {i : Int} : Ev (gInt [.int i]) (.int i) := fun k => rfl
theorem frs_rep (n : Nat) (p : Rat) : List.replicate n (fr p) = (List.replicate n p).map fr := by simp
/-- a range of whole numbers below n -/
theorem evi_rangeN {env : Sls} {de : DE} {n : Nat} (h : Ev (de env) (.int (n : Int))) (hn : n ≤ 1000000) : EvA (iRange1 de env) ((List.range n).map fun i : Nat => .int (i : Int)) := by
  refine eva_to (evi_range h ?_) ?_
  · show Nat.ble (Int.natAbs (n : Int)) 1000000 = true
    rw [Int.natAbs_natCast]
    exact Nat.ble_eq_true_of_le hn
  · rw [rangeD_map, Int.toNat_natCast]
    simp
/-- range(a, b) -/
theorem evi_rangeN2 {env : Sls} {de dx : DE} {a b : Nat} (h : Ev (de env) (.int (a : Int))) (h2 : Ev (dx env) (.int (b : Int))) (ha : a ≤ 1000000) (hb : b ≤ 1000000) : EvA (iRange2 de dx env) ((List.range (b - a)).map fun i : Nat => .int ((a + i : Nat) : Int)) := by
  refine eva_to (evi_range2 h h2 ?_) ?_
  · show (Nat.ble (Int.natAbs (a : Int)) 1000000 && Nat.ble (Int.natAbs (b : Int)) 1000000) = true
    rw [Int.natAbs_natCast, Int.natAbs_natCast, Nat.ble_eq_true_of_le ha, Nat.ble_eq_true_of_le hb]
    rfl
  · rw [rangeD_map]
    have e : ((b : Int) - (a : Int)).toNat = b - a := by omega
    rw [e]
    apply List.map_congr_left
    intro i _
    simp
/-- what a loop with a test comes to -/
theorem for_check {α : Type} {f : α → PyData} {g : DG} {body : DS} {d : PyData} (P : α → Bool) (I : Sls → Prop) : ∀ (xs : List α) (env : Sls),
    (∀ w ∈ xs, ∀ e, I e → P w = true → ∃ e1 e2, EvG (g (f w) e) e1 ∧ Ex body e1 e2 ∧ I e2) → (∀ w ∈ xs, ∀ e, I e → P w = false → ∃ e1, EvG (g (f w) e) e1 ∧ Rt body e1 d) → I env →
    (xs.all P = true → ∃ e, I e ∧ ExF g body (xs.map f) env e) ∧ (xs.all P = false → ∀ B, goFor g body B (xs.map f) env = B.rt d)
  | [], env, _, _, h => ⟨fun _ => ⟨env, h, exf_nil⟩, fun h => by simp at h⟩
  | w :: xs, env, hT, hF, h => by
    cases e : P w with
    | true =>
      obtain ⟨e1, e2, h1, h2, h3⟩ := hT w List.mem_cons_self env h e
      obtain ⟨a, b⟩ := for_check P I xs e2 (fun w hw => hT w (List.mem_cons_of_mem _ hw)) (fun w hw => hF w (List.mem_cons_of_mem _ hw)) h3
      refine ⟨fun z => ?_, fun z B => ?_⟩
      · rw [List.all_cons, e, Bool.true_and] at z
        obtain ⟨e3, h4, h5⟩ := a z
        exact ⟨e3, h4, exf_cons h1 h2 h5⟩
      · rw [List.all_cons, e, Bool.true_and] at z
        show g (f w) env (fun env' => body { nx := goFor g body B (xs.map f), rt := B.rt, ct := goFor g body B (xs.map f), bk := B.nx } env') = _
        rw [h1, h2]
        exact b z B
    | false =>
      obtain ⟨e1, h1, h2⟩ := hF w List.mem_cons_self env h e
      refine ⟨fun z => (by rw [List.all_cons, e, Bool.false_and] at z; cases z), fun z B => ?_⟩
      show g (f w) env (fun env' => body { nx := goFor g body B (xs.map f), rt := B.rt, ct := goFor g body B (xs.map f), bk := B.nx } env') = _
      rw [h1, h2]
theorem rt_stop {env : Sls} {it : DI} {g : DG} {body : DS} {xs : List PyData} {d : PyData} (hi : EvA (it env) xs) (h : ∀ B, goFor g body B xs env = B.rt d) : Rt (sFor it g body) env d := fun B => by
  unfold sFor
  rw [hi]
  exact h B
end Dl

namespace Dl
open PySem PySem.Spec PyProof.Rows L2
theorem gInt_int {i : Int} {k : KF} : gInt [.int i] k = k (.int i) := rfl
def plainT2 : DT := dB (dOp gNe (dVar 3) (dC (.int 0)))
def plainB2 : DS := sPar 2 3 (aCons (dVar 3) (aCons (dCB gInt (aCons (dOp gMod (dVar 2) (dVar 3)) aNil)) aNil))
def bPlain2 : DS := (sSeq (sPar 2 3 (aCons (dCB gAbs (aCons (dVar 0) aNil)) (aCons (dCB gAbs (aCons (dVar 1) aNil)) aNil)))
  (sSeq (sWh 1000000 plainT2 plainB2)
  (sSeq (sAsg (dIf (dB (dOp gGt (dVar 1) (dC (.int 0)))) (dC (.int 1)) (dUn gNeg (dC (.int 1)))) (gN 4))
  (sRet (dTup (aCons (dCB gInt (aCons (dOp gFdiv (dOp gMul (dVar 4) (dVar 0)) (dVar 2)) aNil)) (aCons (dCB gInt (aCons (dOp gFdiv (dOp gMul (dVar 4) (dVar 1)) (dVar 2)) aNil)) aNil)))))))
theorem plain_loop2 (t b : PyData) (B : DEnds) (fuel a c : Nat) (hf : 18001 ≤ fuel) (hl : logOk c = true) :
    goWh plainT2 plainB2 B fuel [.fz t, .fz b, .fz (.int (Int.ofNat a)), .fz (.int (Int.ofNat c)), .no] = B.nx [.fz t, .fz b, .fz (.int (Int.ofNat (Nat.gcd a c))), .fz (.int (Int.ofNat 0)), .no] := by
  refine gcd_any (T := plainT2) (G := plainB2) (B := B) (E := fun a c => [.fz t, .fz b, .fz (.int (Int.ofNat a)), .fz (.int (Int.ofNat c)), .no]) (fun n a => rfl) (fun n a c h => ?_) 9000 fuel a c (lt_of_log hl) hf hl
  show gMod (.int (Int.ofNat a)) (.int (Int.ofNat (c + 1))) (fun z => gInt [z] fun z => goWh plainT2 plainB2 B n [.fz t, .fz b, .fz (.int (Int.ofNat (c + 1))), .fz z, .no]) = _
  rw [gMod_of (Nat.succ_pos c) h]
  rfl
def plainK2 (s t b : Int) (g : PyData) (k : KF) : Bool := gMul (.int s) (.int t) fun x => gFdiv x g fun x => gInt [x] fun x => gMul (.int s) (.int b) fun y => gFdiv y g fun y => gInt [y] fun y => k (.tuple [x, y])
theorem le_plain2 (ds : List PyData) (k : KF) (h : qPlain ds k = true) : mOf 5 bPlain2 ds k = true := by
  unfold qPlain at h
  split at h
  · rename_i t b
    cases e0 : Nat.ble (Nat.log2 t.natAbs) 900000 with
    | false => rw [e0] at h; cases h
    | true =>
      rw [e0] at h
      have l0 : Nat.log2 t.natAbs ≤ 900000 := Nat.le_of_ble_eq_true e0
      obtain ⟨s, n, h1, h2⟩ := mkFr_eq h
      obtain ⟨h3, h4⟩ := mkP_eq h1
      have l3 : Nat.log2 (n + 1) ≤ 8999 := Nat.le_of_ble_eq_true h3
      have eb : (if b < 0 then -b else b) = Int.ofNat (n + 1) := by
        rcases h2 with ⟨rfl, rfl⟩ | ⟨rfl, rfl⟩
        · rw [if_neg (by rw [Int.ofNat_eq_natCast]; omega)]
        · rw [if_pos (Int.negSucc_lt_zero n)]; rfl
      show goWh plainT2 plainB2 _ 1000000 [.fz (.int t), .fz (.int b), .fz (.int (if t < 0 then -t else t)), .fz (.int (if b < 0 then -b else b)), .no] = true
      rw [eb, abs_eq, plain_loop2 _ _ _ _ _ _ (by decide) h3]
      show (match decide ((0 : Int) < b) with
        | true => plainK2 1 t b (.int (Int.ofNat (Nat.gcd t.natAbs (n + 1)))) k
        | false => plainK2 (-1) t b (.int (Int.ofNat (Nat.gcd t.natAbs (n + 1)))) k) = true
      have es : s.natAbs = t.natAbs := by
        rcases h2 with ⟨_, rfl⟩ | ⟨_, rfl⟩
        · rfl
        · omega
      rw [es] at h4
      have hg : 0 < Nat.gcd t.natAbs (n + 1) := Nat.gcd_pos_of_pos_right _ (Nat.succ_pos n)
      have hl : logOk (Nat.gcd t.natAbs (n + 1)) = true := log_mono (Nat.le_of_dvd (Nat.succ_pos n) (Nat.gcd_dvd_right _ _)) h3
      rcases h2 with ⟨rfl, rfl⟩ | ⟨rfl, rfl⟩
      · rw [decide_eq_true (show (0 : Int) < Int.ofNat (n + 1) by rw [Int.ofNat_eq_natCast]; omega)]
        have m1 : mulOk 1 s = true := Nat.ble_eq_true_of_le (by show Nat.log2 1 + Nat.log2 s.natAbs ≤ 999999; rw [show Nat.log2 1 = 0 by decide]; omega)
        have m2 : mulOk 1 (Int.ofNat (n + 1)) = true := Nat.ble_eq_true_of_le (by show Nat.log2 1 + Nat.log2 (n + 1) ≤ 999999; rw [show Nat.log2 1 = 0 by decide]; omega)
        show plainK2 1 s (Int.ofNat (n + 1)) (.int (Int.ofNat (Nat.gcd s.natAbs (n + 1)))) k = true
        unfold plainK2
        rw [gMul_of m1, gFdiv_of hg hl, gInt_int, gMul_of m2, gFdiv_of hg hl, gInt_int, Int.one_mul, Int.one_mul]
        exact h4
      · rw [decide_eq_false (show ¬ (0 : Int) < Int.negSucc n by have := Int.negSucc_lt_zero n; omega)]
        have m1 : mulOk (-1) t = true := Nat.ble_eq_true_of_le (by show Nat.log2 1 + Nat.log2 t.natAbs ≤ 999999; rw [show Nat.log2 1 = 0 by decide]; omega)
        have m2 : mulOk (-1) (Int.negSucc n) = true := Nat.ble_eq_true_of_le (by show Nat.log2 1 + Nat.log2 (n + 1) ≤ 999999; rw [show Nat.log2 1 = 0 by decide]; omega)
        show plainK2 (-1) t (Int.negSucc n) (.int (Int.ofNat (Nat.gcd t.natAbs (n + 1)))) k = true
        unfold plainK2
        rw [gMul_of m1, gFdiv_of hg hl, gInt_int, gMul_of m2, gFdiv_of hg hl, gInt_int]
        rw [show (-1 : Int) * t = 0 - t by omega, show (-1 : Int) * Int.negSucc n = Int.ofNat (n + 1) by rw [Int.ofNat_eq_natCast]; omega]
        exact h4
  · cases h
theorem plain_red {t b : Int} {k : KF} (h : Nat.log2 t.natAbs ≤ 900000) : qPlain [.int t, .int b] k = qReduced [.int t, .int b] k := by
  show (match Nat.ble (Nat.log2 t.natAbs) 900000 with
    | true => mkFr t b k
    | false => false) = _
  rw [Nat.ble_eq_true_of_le h]
  rfl
theorem ev_plain {t : Int} {b n m : Nat} (hm : b ≠ 0) (hl : b < 2 ^ n) (ht : t.natAbs < 2 ^ m) (hn : n ≤ 8999) (h2 : m ≤ 8999) : Ev (qPlain [.int t, .int (b : Int)]) (fr ((t : Rat) / (b : Rat))) := fun k => by
  rw [plain_red (by have := log_lt ht; omega)]
  exact ev_red hm hl hn k
variable {p q : Rat} {m n : Nat} {k : KF}
theorem mul_frP (hp : Bd m p) (hq : Bd n q) (h : m + n ≤ 8999) : qMulR qPlain [fr p, fr q] k = k (fr (p * q)) := by
  have e1 := mul_ok (i := p.num) (j := q.num) hp.1 hq.1 (by omega)
  have e3 := mul_ok (i := Int.ofNat p.den) (j := Int.ofNat q.den) hp.2 hq.2 (by omega)
  show (mI p.num q.num fun x => mI (Int.ofNat p.den) (Int.ofNat q.den) fun z => qPlain [.int x, .int z] k) = _
  unfold mI
  simp only [e1, e3, fI_eq]
  have hx : (p.num * q.num).natAbs < 2 ^ (m + n) := by rw [Int.natAbs_mul]; exact pow_mul_lt hp.1 hq.1
  rw [plain_red (by have := log_lt hx; omega), Rat.mul_def']
  exact red_fr (den_ne p q) (pow_mul_lt hp.2 hq.2) (by omega)
theorem ev_mulP (hp : Bd m p) (hq : Bd n q) (h : m + n ≤ 8999) : Ev (qMulR qPlain [fr p, fr q]) (fr (p * q)) := fun k => mul_frP hp hq h
end Dl

namespace Kp
open PySem PySem.Spec PyProof.Rows L2 Dl
def top (i : Nat) : Stmt := PySem.Challenge.pw_betsalong_k89_whole_urns_and_rows.main.body.getD i (.Pass ⟨0, 0, 0, 0⟩)
def blt : List Str := ["len", "range", "int", "abs", "list", "tuple", "isinstance", "bool", "str", "sum", "all", "any", "min", "max", "enumerate", "zip", "sorted", "divmod", "repr", "dict", "set", "reversed"]
def c_ONE : PyData := (.tuple [(.int 1), (.int 1)])
def c_MOST_BALLS : PyData := (.int 9)
def c_MOST_MORE : PyData := (.int 4)
def c_MOST_DRAWS : PyData := (.int 8)
abbrev m__law_draw : Fn := mDraw
abbrev N_is_integer : List Str := ["value"]
def b_is_integer : DS := (sRet (dAndV (dIs .int (dVar 0)) (dNotV (dIs .bool (dVar 0)))))
def m_is_integer : Fn := mOf 1 b_is_integer
abbrev N_is_within : List Str := ["value", "least", "most"]
def b_is_within : DS := (sRet (dAndV (dCallN 1 m_is_integer (aCons (dVar 0) aNil)) (dChain gLe gLe (dVar 1) (dVar 0) (dVar 2))))
def m_is_within : Fn := mOf 3 b_is_within
abbrev N_is_list : List Str := ["value"]
def b_is_list : DS := (sRet (dIsLT (dVar 0)))
def m_is_list : Fn := mOf 1 b_is_list
abbrev N_check_number : List Str := ["value", "least", "most"]
def b_check_number : DS := (sIf (dNot (dB (dCallN 3 m_is_within (aCons (dVar 0) (aCons (dVar 1) (aCons (dVar 2) aNil)))))) sNever sNil)
def m_check_number : Fn := mOf 3 b_check_number
abbrev N_divisor : List Str := ["one", "late"]
def b_divisor : DS := (sSeq (sWh 1000000 (dB (dOp gGt (dVar 1) (dC (.int 0)))) (sPar 0 1 (aCons (dVar 1) (aCons (dOp gMod (dCB gInt (aCons (dVar 0) aNil)) (dVar 1)) aNil))))
  (sRet (dVar 0)))
def m0_divisor : Fn := mOf 2 b_divisor
def m_divisor : Fn := qDivisor
abbrev N_reduced : List Str := ["top", "bottom", "common"]
def b_reduced : DS := (sSeq (sIf (dB (dOp gLt (dVar 1) (dC (.int 0)))) (sPar 0 1 (aCons (dOp gSub (dC (.int 0)) (dVar 0)) (aCons (dOp gSub (dC (.int 0)) (dVar 1)) aNil))) sNil)
  (sSeq (sAsg (dCallN 2 m_divisor (aCons (dCB gAbs (aCons (dVar 0) aNil)) (aCons (dVar 1) aNil))) (gN 2))
  (sRet (dTup (aCons (dOp gFdiv (dVar 0) (dVar 2)) (aCons (dOp gFdiv (dVar 1) (dVar 2)) aNil))))))
def m0_reduced : Fn := mOf 3 b_reduced
def m_reduced : Fn := qReduced
abbrev N_multiply : List Str := ["one", "late"]
def b_multiply : DS := (sRet (dCallN 2 m_reduced (aCons (dOp gMul (dOp gIx (dVar 0) (dC (.int 0))) (dOp gIx (dVar 1) (dC (.int 0)))) (aCons (dOp gMul (dOp gIx (dVar 0) (dC (.int 1))) (dOp gIx (dVar 1) (dC (.int 1)))) aNil))))
def m0_multiply : Fn := mOf 2 b_multiply
def m_multiply : Fn := qMulR m_reduced
abbrev N_is_urn_of : List Str := ["value", "one"]
def b_is_urn_of : DS := (sSeq (sIf (dOr (dNot (dB (dIs .tuple (dVar 0)))) (dOr (dB (dOp gNe (dCB gLen (aCons (dVar 0) aNil)) (dC (.int 3)))) (dNot (dB (dCallN 3 m_is_within (aCons (dOp gIx (dVar 0) (dC (.int 2))) (aCons (dUn gNeg (dC (.int 1))) (aCons (dC c_MOST_MORE) aNil)))))))) (sRet (dC (.bool false))) sNil)
  (sRet (dAndV (dCB gAll (aCons (dLc (iSeq (dSl (dVar 0) oNone (oSome (dC (.int 2))))) (gN 1) dYes (dCallN 3 m_is_within (aCons (dVar 1) (aCons (dC (.int 0)) (aCons (dC c_MOST_BALLS) aNil)))) [1]) aNil)) (dOp gGt (dOp gAdd (dOp gIx (dVar 0) (dC (.int 0))) (dOp gIx (dVar 0) (dC (.int 1)))) (dC (.int 0))))))
def m_is_urn_of : Fn := mOf 2 b_is_urn_of
abbrev N_check_urn : List Str := ["value"]
def b_check_urn : DS := (sIf (dNot (dB (dCallN 1 m_is_urn_of (aCons (dVar 0) aNil)))) sNever sNil)
def m_check_urn : Fn := mOf 1 b_check_urn
abbrev N_most_draws : List Str := ["urn"]
def b_most_draws : DS := (sRet (dIf (dB (dOp gLt (dOp gIx (dVar 0) (dC (.int 2))) (dC (.int 0)))) (dCB gMin2 (aCons (dC c_MOST_DRAWS) (aCons (dOp gAdd (dOp gIx (dVar 0) (dC (.int 0))) (dOp gIx (dVar 0) (dC (.int 1)))) aNil))) (dC c_MOST_DRAWS)))
def m_most_draws : Fn := mOf 1 b_most_draws
abbrev N_is_row_to : List Str := ["value", "most", "one"]
def b_is_row_to : DS := (sRet (dAndV (dCallN 1 m_is_list (aCons (dVar 0) aNil)) (dAndV (dOp gLe (dCB gLen (aCons (dVar 0) aNil)) (dVar 1)) (dCB gAll (aCons (dLc (iSeq (dVar 0)) (gN 2) dYes (dCallN 3 m_is_within (aCons (dVar 2) (aCons (dC (.int 0)) (aCons (dC (.int 1)) aNil)))) [2]) aNil)))))
def m_is_row_to : Fn := mOf 3 b_is_row_to
abbrev N_check_row : List Str := ["urn", "row"]
def b_check_row : DS := (sSeq (sExpr (dCallN 1 m_check_urn (aCons (dVar 0) aNil)))
  (sIf (dNot (dB (dCallN 2 m_is_row_to (aCons (dVar 1) (aCons (dCallN 1 m_most_draws (aCons (dVar 0) aNil)) aNil))))) sNever sNil))
def m_check_row : Fn := mOf 2 b_check_row
abbrev N_ways : List Str := ["many", "some", "found", "at"]
def b_ways : DS := (sSeq (sAsg (dC (.int 1)) (gN 2))
  (sSeq (sFor (iRange1 (dVar 1)) (gN 3) (sAsg (dOp gFdiv (dOp gMul (dVar 2) (dOp gSub (dVar 0) (dVar 3))) (dOp gAdd (dVar 3) (dC (.int 1)))) (gN 2)))
  (sRet (dVar 2))))
def m_ways : Fn := mOf 4 b_ways
abbrev N_balls_behind : List Str := ["urn", "row", "white", "black", "more"]
def b_balls_behind : DS := (sSeq (sAsg (dVar 0) (gT 3 (gsCons (gN 2) (gsCons (gN 3) (gsCons (gN 4) gsNil)))))
  (sRet (dTup (aCons (dOp gAdd (dVar 2) (dOp gMul (dVar 4) (dCB gSum2 (aCons (dVar 1) aNil)))) (aCons (dOp gAdd (dVar 3) (dOp gMul (dVar 4) (dOp gSub (dCB gLen (aCons (dVar 1) aNil)) (dCB gSum2 (aCons (dVar 1) aNil))))) aNil)))))
def m_balls_behind : Fn := mOf 5 b_balls_behind
abbrev N_chance_of_row : List Str := ["urn", "row", "found", "at", "one", "white", "black"]
def b_chance_of_row : DS := (sSeq (sAsg (dC c_ONE) (gN 2))
  (sSeq (sFor (iEnumQ (dVar 1)) (gT 2 (gsCons (gN 3) (gsCons (gN 4) gsNil))) (sSeq (sAsg (dCallN 2 m_balls_behind (aCons (dVar 0) (aCons (dSl (dVar 1) oNone (oSome (dVar 3))) aNil))) (gT 2 (gsCons (gN 5) (gsCons (gN 6) gsNil))))
  (sSeq (sAsg (dCallN 2 m_multiply (aCons (dVar 2) (aCons (dCallN 2 m_reduced (aCons (dIf (dB (dOp gEq (dVar 4) (dC (.int 1)))) (dVar 5) (dVar 6)) (aCons (dOp gAdd (dVar 5) (dVar 6)) aNil))) aNil))) (gN 2))
  (sIf (dB (dOp gEq (dOp gIx (dVar 2) (dC (.int 0))) (dC (.int 0)))) (sRet (dVar 2)) sNil))))
  (sRet (dVar 2))))
def m_chance_of_row : Fn := mOf 7 b_chance_of_row
abbrev N_counts_of : List Str := ["urn", "number", "found", "some", "one"]
def b_counts_of : DS := (sSeq (sOwn 2 (fLst aNil))
  (sSeq (sFor (iRange1 (dOp gAdd (dVar 1) (dC (.int 1)))) (gN 3) (sSeq (sAsg (dCallN 2 m_chance_of_row (aCons (dVar 0) (aCons (dOp gAdd (dOp gMul (dLst (aCons (dC (.int 1)) aNil)) (dVar 3)) (dOp gMul (dLst (aCons (dC (.int 0)) aNil)) (dOp gSub (dVar 1) (dVar 3)))) aNil))) (gN 4))
  (sApp 2 (dCallN 2 m_multiply (aCons (dTup (aCons (dCallN 2 m_ways (aCons (dVar 1) (aCons (dVar 3) aNil))) (aCons (dC (.int 1)) aNil))) (aCons (dVar 4) aNil))))))
  (sRetO 2)))
def m_counts_of : Fn := mOfF 5 b_counts_of
abbrev N_is_urn : List Str := ["value"]
def b_is_urn : DS := (sRet (dCallN 1 m_is_urn_of (aCons (dVar 0) aNil)))
def m_is_urn : Fn := mOf 1 b_is_urn
abbrev N_row_chance : List Str := ["urn", "row"]
def b_row_chance : DS := (sSeq (sExpr (dCallN 2 m_check_row (aCons (dVar 0) (aCons (dVar 1) aNil))))
  (sRet (dCallN 2 m_chance_of_row (aCons (dVar 0) (aCons (dCB gList (aCons (dVar 1) aNil)) aNil)))))
def m_row_chance : Fn := mOf 2 b_row_chance
abbrev N_next_white : List Str := ["urn", "row", "white", "black"]
def b_next_white : DS := (sSeq (sExpr (dCallN 2 m_check_row (aCons (dVar 0) (aCons (dVar 1) aNil))))
  (sSeq (sAsg (dCallN 2 m_balls_behind (aCons (dVar 0) (aCons (dVar 1) aNil))) (gT 2 (gsCons (gN 2) (gsCons (gN 3) gsNil))))
  (sSeq (sIf (dOr (dB (dOp gEq (dOp gIx (dCallN 2 m_chance_of_row (aCons (dVar 0) (aCons (dCB gList (aCons (dVar 1) aNil)) aNil))) (dC (.int 0))) (dC (.int 0)))) (dB (dOp gEq (dOp gAdd (dVar 2) (dVar 3)) (dC (.int 0))))) sNever sNil)
  (sRet (dCallN 2 m_reduced (aCons (dVar 2) (aCons (dOp gAdd (dVar 2) (dVar 3)) aNil)))))))
def m_next_white : Fn := mOf 4 b_next_white
abbrev N_count_chances : List Str := ["urn", "number"]
def b_count_chances : DS := (sSeq (sExpr (dCallN 1 m_check_urn (aCons (dVar 0) aNil)))
  (sSeq (sExpr (dCallN 3 m_check_number (aCons (dVar 1) (aCons (dC (.int 0)) (aCons (dCallN 1 m_most_draws (aCons (dVar 0) aNil)) aNil)))))
  (sRetF (fCallN 2 m_counts_of (aCons (dVar 0) (aCons (dVar 1) aNil))))))
def m_count_chances : Fn := mOfF 2 b_count_chances
abbrev N__law_pick : List Str := ["pot", "some"]
def b__law_pick : DS := (sRet (dOp gIx (dVar 1) (dCallN 2 m__law_draw (aPot 0 (aCons (dCB gLen (aCons (dVar 1) aNil)) aNil)))))
def m__law_pick : Fn := mOf 2 b__law_pick
abbrev N__law_plain : List Str := ["top", "bottom", "one", "other", "sign"]
def b__law_plain : DS := (sSeq (sPar 2 3 (aCons (dCB gAbs (aCons (dVar 0) aNil)) (aCons (dCB gAbs (aCons (dVar 1) aNil)) aNil)))
  (sSeq (sWh 1000000 (dB (dOp gNe (dVar 3) (dC (.int 0)))) (sPar 2 3 (aCons (dVar 3) (aCons (dCB gInt (aCons (dOp gMod (dVar 2) (dVar 3)) aNil)) aNil))))
  (sSeq (sAsg (dIf (dB (dOp gGt (dVar 1) (dC (.int 0)))) (dC (.int 1)) (dUn gNeg (dC (.int 1)))) (gN 4))
  (sRet (dTup (aCons (dCB gInt (aCons (dOp gFdiv (dOp gMul (dVar 4) (dVar 0)) (dVar 2)) aNil)) (aCons (dCB gInt (aCons (dOp gFdiv (dOp gMul (dVar 4) (dVar 1)) (dVar 2)) aNil)) aNil)))))))
def m0__law_plain : Fn := mOf 5 b__law_plain
def m__law_plain : Fn := qPlain
abbrev N__law_sum : List Str := ["some", "top", "bottom", "one"]
def b__law_sum : DS := (sSeq (sAsg (dTup (aCons (dC (.int 0)) (aCons (dC (.int 1)) aNil))) (gT 2 (gsCons (gN 1) (gsCons (gN 2) gsNil))))
  (sSeq (sFor (iSeq (dVar 0)) (gN 3) (sAsg (dCallN 2 m__law_plain (aCons (dOp gAdd (dOp gMul (dVar 1) (dOp gIx (dVar 3) (dC (.int 1)))) (dOp gMul (dOp gIx (dVar 3) (dC (.int 0))) (dVar 2))) (aCons (dOp gMul (dVar 2) (dOp gIx (dVar 3) (dC (.int 1)))) aNil))) (gT 2 (gsCons (gN 1) (gsCons (gN 2) gsNil)))))
  (sRet (dTup (aCons (dVar 1) (aCons (dVar 2) aNil))))))
def m__law_sum : Fn := mOf 4 b__law_sum
abbrev N__law_times : List Str := ["one", "other"]
def b__law_times : DS := (sRet (dCallN 2 m__law_plain (aCons (dOp gMul (dOp gIx (dVar 0) (dC (.int 0))) (dOp gIx (dVar 1) (dC (.int 0)))) (aCons (dOp gMul (dOp gIx (dVar 0) (dC (.int 1))) (dOp gIx (dVar 1) (dC (.int 1)))) aNil))))
def m0__law_times : Fn := mOf 2 b__law_times
def m__law_times : Fn := qMulR m__law_plain
abbrev N__law_urn : List Str := ["pot", "more", "white", "black"]
def b__law_urn : DS := (sSeq (sAsg (dCallN 2 m__law_pick (aPot 0 (aCons (dLst (aCons (dUn gNeg (dC (.int 1))) (aCons (dUn gNeg (dC (.int 1))) (aCons (dC (.int 0)) (aCons (dC (.int 1)) (aCons (dC (.int 1)) (aCons (dC (.int 2)) (aCons (dC (.int 3)) (aCons (dC (.int 4)) aNil))))))))) aNil))) (gN 1))
  (sSeq (sPar 2 3 (aCons (dCallN 2 m__law_draw (aPot 0 (aCons (dC (.int 6)) aNil))) (aCons (dCallN 2 m__law_draw (aPot 0 (aCons (dC (.int 6)) aNil))) aNil)))
  (sRet (dTup (aCons (dIf (dB (dOp gGt (dOp gAdd (dVar 2) (dVar 3)) (dC (.int 0)))) (dVar 2) (dC (.int 1))) (aCons (dVar 3) (aCons (dVar 1) aNil)))))))
def m__law_urn : Fn := mOf 4 b__law_urn
abbrev N__law_row_chance : List Str := ["urn", "row", "white", "black", "more", "found", "one"]
def b__law_row_chance : DS := (sSeq (sAsg (dVar 0) (gT 3 (gsCons (gN 2) (gsCons (gN 3) (gsCons (gN 4) gsNil)))))
  (sSeq (sAsg (dTup (aCons (dC (.int 1)) (aCons (dC (.int 1)) aNil))) (gN 5))
  (sSeq (sFor (iSeq (dVar 1)) (gN 6) (sSeq (sAsg (dCallN 2 m__law_times (aCons (dVar 5) (aCons (dCallN 2 m__law_plain (aCons (dIf (dB (dOp gEq (dVar 6) (dC (.int 1)))) (dVar 2) (dVar 3)) (aCons (dOp gAdd (dVar 2) (dVar 3)) aNil))) aNil))) (gN 5))
  (sPar 2 3 (aCons (dOp gAdd (dVar 2) (dOp gMul (dVar 4) (dVar 6))) (aCons (dOp gAdd (dVar 3) (dOp gMul (dVar 4) (dOp gSub (dC (.int 1)) (dVar 6)))) aNil)))))
  (sRet (dVar 5)))))
def m__law_row_chance : Fn := mOf 7 b__law_row_chance
abbrev N__law_ways : List Str := ["many", "some", "found", "at"]
def b__law_ways : DS := (sSeq (sAsg (dC (.int 1)) (gN 2))
  (sSeq (sFor (iRange1 (dVar 1)) (gN 3) (sAsg (dOp gFdiv (dOp gMul (dVar 2) (dOp gSub (dVar 0) (dVar 3))) (dOp gAdd (dVar 3) (dC (.int 1)))) (gN 2)))
  (sRet (dVar 2))))
def m__law_ways : Fn := mOf 4 b__law_ways
abbrev N__law_is_urn : List Str := ["value", "one"]
def b__law_is_urn : DS := (sSeq (sIf (dOr (dNot (dB (dIs .tuple (dVar 0)))) (dB (dOp gNe (dCB gLen (aCons (dVar 0) aNil)) (dC (.int 3))))) (sRet (dC (.bool false))) sNil)
  (sSeq (sIf (dNot (dB (dCB gAll (aCons (dLc (iSeq (dVar 0)) (gN 1) dYes (dAndV (dIs .int (dVar 1)) (dNotV (dIs .bool (dVar 1)))) [1]) aNil)))) (sRet (dC (.bool false))) sNil)
  (sRet (dAndV (dChain gLe gLe (dC (.int 0)) (dOp gIx (dVar 0) (dC (.int 0))) (dC (.int 9))) (dAndV (dChain gLe gLe (dC (.int 0)) (dOp gIx (dVar 0) (dC (.int 1))) (dC (.int 9))) (dAndV (dOp gGt (dOp gAdd (dOp gIx (dVar 0) (dC (.int 0))) (dOp gIx (dVar 0) (dC (.int 1)))) (dC (.int 0))) (dChain gLe gLe (dUn gNeg (dC (.int 1))) (dOp gIx (dVar 0) (dC (.int 2))) (dC (.int 4)))))))))
def m__law_is_urn : Fn := mOf 2 b__law_is_urn
abbrev N__law_right : List Str := ["pot", "urn", "white", "black", "more", "most", "row", "due", "ones", "left", "own", "number", "some", "one", "middle", "alike", "values", "value", "is_due", "turn", "at"]
def b__law_right : DS := (sSeq (sAsg (dCallN 1 m__law_urn (aPot 0 aNil)) (gN 1))
  (sSeq (sAsg (dVar 1) (gT 3 (gsCons (gN 2) (gsCons (gN 3) (gsCons (gN 4) gsNil)))))
  (sSeq (sAsg (dIf (dB (dOp gEq (dVar 4) (dUn gNeg (dC (.int 1))))) (dCB gMin2 (aCons (dC (.int 8)) (aCons (dOp gAdd (dVar 2) (dVar 3)) aNil))) (dC (.int 8))) (gN 5))
  (sSeq (sAsg (dLc (iRange1 (dCallN 2 m__law_draw (aPot 0 (aCons (dOp gAdd (dVar 5) (dC (.int 1))) aNil)))) (gN 19) dYes (dCallN 2 m__law_draw (aPot 0 (aCons (dC (.int 2)) aNil))) [19]) (gN 6))
  (sSeq (sAsg (dCallN 2 m__law_row_chance (aCons (dVar 1) (aCons (dVar 6) aNil))) (gN 7))
  (sSeq (sIf (dB (dRepr2 false (dLst (aCons (dCallN 2 m_row_chance (aCons (dVar 1) (aCons (dVar 6) aNil))) (aCons (dCallK 2 2 [1, 0] m_row_chance (aCons (dCB gTuple (aCons (dVar 6) aNil)) (aCons (dVar 1) aNil))) (aCons (dCallN 2 m_row_chance (aCons (dVar 1) (aCons (dUn gRev (dVar 6)) aNil))) aNil)))) (dOp gMul (dLst (aCons (dVar 7) aNil)) (dC (.int 3))))) (sRet (dC (.bool false))) sNil)
  (sSeq (sIf (dB (dOp gNe (dCallN 2 m_row_chance (aCons (dVar 1) (aCons (dCB gSorted (aCons (dVar 6) aNil)) aNil))) (dVar 7))) (sRet (dC (.bool false))) sNil)
  (sSeq (sAsg (dCB gSum2 (aCons (dVar 6) aNil)) (gN 8))
  (sSeq (sAsg (dTup (aCons (dOp gAdd (dVar 2) (dOp gMul (dVar 4) (dVar 8))) (aCons (dOp gAdd (dVar 3) (dOp gMul (dVar 4) (dOp gSub (dCB gLen (aCons (dVar 6) aNil)) (dVar 8)))) aNil))) (gN 9))
  (sSeq (sIf (dAnd (dB (dOp gGt (dOp gIx (dVar 7) (dC (.int 0))) (dC (.int 0)))) (dB (dOp gGt (dCB gSum2 (aCons (dVar 9) aNil)) (dC (.int 0))))) (sSeq (sAsg (dCallN 2 m__law_plain (aCons (dOp gIx (dVar 9) (dC (.int 0))) (aCons (dCB gSum2 (aCons (dVar 9) aNil)) aNil))) (gN 10))
  (sSeq (sIf (dB (dRepr2 false (dLst (aCons (dCallN 2 m_next_white (aCons (dVar 1) (aCons (dVar 6) aNil))) (aCons (dCallK 2 2 [1, 0] m_next_white (aCons (dCB gTuple (aCons (dVar 6) aNil)) (aCons (dVar 1) aNil))) aNil))) (dLst (aCons (dVar 10) (aCons (dVar 10) aNil))))) (sRet (dC (.bool false))) sNil)
  (sIf (dAnd (dB (dOp gLt (dCB gLen (aCons (dVar 6) aNil)) (dVar 5))) (dB (dOp gNe (dCallN 2 m_row_chance (aCons (dVar 1) (aCons (dOp gAdd (dVar 6) (dLst (aCons (dC (.int 1)) aNil))) aNil))) (dCallN 2 m__law_times (aCons (dVar 7) (aCons (dVar 10) aNil)))))) (sRet (dC (.bool false))) sNil))) sNil)
  (sSeq (sAsg (dCallN 2 m__law_draw (aPot 0 (aCons (dOp gAdd (dVar 5) (dC (.int 1))) aNil))) (gN 11))
  (sSeq (sOwn 12 (fLst aNil))
  (sSeq (sFor (iRange1 (dOp gAdd (dVar 11) (dC (.int 1)))) (gN 13) (sApp 12 (dCallN 2 m__law_times (aCons (dTup (aCons (dCallN 2 m__law_ways (aCons (dVar 11) (aCons (dVar 13) aNil))) (aCons (dC (.int 1)) aNil))) (aCons (dCallN 2 m__law_row_chance (aCons (dVar 1) (aCons (dOp gAdd (dOp gMul (dLst (aCons (dC (.int 1)) aNil)) (dVar 13)) (dOp gMul (dLst (aCons (dC (.int 0)) aNil)) (dOp gSub (dVar 11) (dVar 13)))) aNil))) aNil)))))
  (sSeq (sIf (dBorT [12] (dB (dRepr2 false (dLst (aCons (dCallN 2 m_count_chances (aCons (dVar 1) (aCons (dVar 11) aNil))) (aCons (dCallK 2 2 [1, 0] m_count_chances (aCons (dVar 11) (aCons (dVar 1) aNil))) aNil))) (dLst (aCons (dVar 12) (aCons (dVar 12) aNil)))))) (sRet (dC (.bool false))) sNil)
  (sSeq (sAsg (dBor [12] (dCallN 1 m__law_sum (aCons (dOp gAdd (dLst (aCons (dTup (aCons (dC (.int 0)) (aCons (dC (.int 1)) aNil))) aNil)) (dLc (iEnumQ (dVar 12)) (gT 2 (gsCons (gN 20) (gsCons (gN 13) gsNil))) dYes (dCallN 2 m__law_times (aCons (dVar 13) (aCons (dTup (aCons (dVar 20) (aCons (dC (.int 1)) aNil))) aNil))) [20, 13])) aNil))) (gN 14))
  (sSeq (sIf (dBorT [12] (dOr (dB (dOp gNe (dCallN 1 m__law_sum (aCons (dVar 12) aNil)) (dTup (aCons (dC (.int 1)) (aCons (dC (.int 1)) aNil))))) (dB (dOp gNe (dVar 14) (dCallN 2 m__law_plain (aCons (dOp gMul (dVar 11) (dVar 2)) (aCons (dOp gAdd (dVar 2) (dVar 3)) aNil))))))) (sRet (dC (.bool false))) sNil)
  (sSeq (sIf (dBorT [12] (dB (dOp gNe (dCallN 2 m_count_chances (aCons (dTup (aCons (dVar 3) (aCons (dVar 2) (aCons (dVar 4) aNil)))) (aCons (dVar 11) aNil))) (dUn gRev (dVar 12))))) (sRet (dC (.bool false))) sNil)
  (sSeq (sAsg (dOp gAdd (dC (.int 1)) (dCallN 2 m__law_draw (aPot 0 (aCons (dC (.int 8)) aNil)))) (gN 15))
  (sSeq (sIf (dB (dOp gNe (dCallN 2 m_count_chances (aCons (dTup (aCons (dC (.int 1)) (aCons (dC (.int 1)) (aCons (dC (.int 1)) aNil)))) (aCons (dVar 15) aNil))) (dOp gMul (dLst (aCons (dTup (aCons (dC (.int 1)) (aCons (dOp gAdd (dVar 15) (dC (.int 1))) aNil))) aNil)) (dOp gAdd (dVar 15) (dC (.int 1)))))) (sRet (dC (.bool false))) sNil)
  (sSeq (sOwn 16 (fLst (aCons (dVar 1) (aCons (dCB gList (aCons (dVar 1) aNil)) (aCons (dSl (dVar 1) oNone (oSome (dC (.int 2)))) (aCons (dOp gAdd (dVar 1) (dTup (aCons (dC (.int 0)) aNil))) (aCons (dTup (aCons (dVar 2) (aCons (dVar 3) (aCons (dC (.int 5)) aNil)))) (aCons (dTup (aCons (dVar 2) (aCons (dVar 3) (aCons (dUn gNeg (dC (.int 2))) aNil)))) (aCons (dTup (aCons (dC (.int 10)) (aCons (dVar 3) (aCons (dVar 4) aNil)))) aNil)))))))))
  (sSeq (sApp 16 (dTup (aCons (dC (.bool true)) (aCons (dVar 3) (aCons (dVar 4) aNil)))))
  (sFrz 16 (sSeq (sFor (iSeq (dOp gAdd (dVar 16) (dLst (aCons (dTup (aCons (dC (.int 0)) (aCons (dC (.int 0)) (aCons (dVar 4) aNil)))) (aCons (dC .none) (aCons (dC (.dict [])) (aCons (dC (.str "urn")) (aCons (dTup (aCons (dVar 2) (aCons (dC .none) (aCons (dC (.int 0)) aNil)))) (aCons (dTup (aCons (dUn gNeg (dC (.int 1))) (aCons (dC (.int 3)) (aCons (dC (.int 0)) aNil)))) (aCons (dTup (aCons (dVar 2) (aCons (dVar 3) (aCons (dC (.int 4)) aNil)))) (aCons (dTup (aCons (dC (.int 9)) (aCons (dC (.int 9)) (aCons (dUn gNeg (dC (.int 1))) aNil)))) aNil))))))))))) (gN 17) (sSeq (sAsg (dCallN 1 m__law_is_urn (aCons (dVar 17) aNil)) (gN 18))
  (sIf (dB (dRepr2 false (dLst (aCons (dCallN 1 m_is_urn (aCons (dVar 17) aNil)) (aCons (dCallK 1 1 [0] m_is_urn (aCons (dVar 17) aNil)) aNil))) (dLst (aCons (dVar 18) (aCons (dVar 18) aNil))))) (sRet (dC (.bool false))) sNil)))
  (sSeq (sAppX (fCallN 2 m_count_chances (aCons (dVar 1) (aCons (dVar 11) aNil))) (dC .none))
  (sFrz 12 (sRet (dOp gEq (dCallN 2 m_count_chances (aCons (dVar 1) (aCons (dVar 11) aNil))) (dVar 12))))))))))))))))))))))))))))
def m__law_right : Fn := mOf 21 b__law_right
end Kp

namespace Kp
open PySem PySem.Spec PyProof.Rows L2 Dl
section
variable {P : Program} {w : World} {K : PySem.W.Frag} {mg : Str → Option Value} {base : Heap}
abbrev N__law_draw : List Str := ["pot", "many", "digit"]
theorem S__law_draw : FnScope N__law_draw ["pot", "many"] (defScope (top 36)) := ⟨rfl, rfl, rfl, by decide +kernel, rfl, by decide +kernel, by decide +kernel⟩

theorem h__law_draw {f : Addr} {fd : FuncData} (F : FnP K "_law_draw" (top 36) f fd) (hm : mg "_law_draw" = some (.ref f)) (bl : ∀ x ∈ blt, mg x = none) : Has P w K mg base 1 "_law_draw" ["pot", "many"] mDraw := by
  have lk : ∃ oc od osl, K.lookup f = some ⟨oc, od, .func fd, osl⟩ := by
    obtain ⟨oc, od, _, _, _, _, _, _, _, osl, _, h2, _⟩ := F.ex
    exact ⟨oc, od, osl, h2⟩
  refine ⟨f, fd, FnOkG.of (F.ok S__law_draw (fun vs H Q E h => h.1) (fun cdv A outer s H vs Q E hr hs => ?_)), hm, F.kp, F.bindsN fun _ _ _ _ _ _ us hl => match us, hl with | [_, _], _ => rfl, lk⟩
  refine ⟨_, PSs.nox (pss_cons (ps_if (pt_cmpR op_gt (pe_ix ix_list (pv 0) pe_int (by intro _ _; rfl)) pe_int (nomark _))
      (pss_cons (ps_asg (pe_callB call_divmod rfl (bl "divmod" (by decide)) (by decide +kernel) (pa_cons (pe_ix ix_list (pv 0) pe_int (by intro _ _; rfl)) (pa_cons (pv 1) pa_nil))) (pg_tup rfl (pgs_cons (pg_sub (pv 0) pe_int set_list) (pgs_cons (pg_name (i := 2) S__law_draw.nd rfl (Or.inl rfl)) pgs_nil)))) (pss_one (ps_ret (pv 2)))) pss_nil)
    (pss_cons (ps_asg (pe_op op_mod (pe_callTy call_int1 rfl (bl "int" (by decide)) (by decide +kernel) (pa_cons (pe_op op_add (pe_op op_mul (pe_ix ix_list (pv 0) pe_int (by intro _ _; rfl)) pe_int) pe_int) pa_nil)) pe_int) (pg_sub (pv 0) pe_int set_list))
    (pss_one (ps_ret (pe_op op_mod (pe_callTy call_int1 rfl (bl "int" (by decide)) (by decide +kernel) (pa_cons (pe_op op_fdiv (pe_op op_mod (pe_callTy call_int1 rfl (bl "int" (by decide)) (by decide +kernel) (pa_cons (pe_op op_mul (pe_ix ix_list (pv 0) pe_int (by intro _ _; rfl)) (pe_ix ix_list (pv 0) pe_int (by intro _ _; rfl))) pa_nil)) pe_int) pe_int) pa_nil)) (pv 1)))))), ?_⟩
  obtain ⟨hl, pp, F0, ds, k, B, r, hmm, q⟩ := hs
  unfold mDraw at hmm
  split at hmm
  case h_2 => cases hmm
  rename_i l n
  cases r with
  | @cons v1 vs d1 ds r1 r =>
    cases r with
    | @cons v2 vs d2 ds r2 r =>
      cases r with
      | nil =>
        rcases r1 with r1 | ⟨_, rfl⟩
        · cases r1
        rcases r2 with r2 | ⟨r2, _⟩
        case inr => cases r2
        cases r2
        cases e : Nat.ble n 1000000000 with
        | false => rw [e] at hmm; cases hmm
        | true =>
          rw [e] at hmm
          have hmm : Dl.allB (n + 1) (fun c => k (.int (Int.ofNat c))) = true := hmm
          have hn : n ≤ 1000000000 := Nat.le_of_ble_eq_true e
          have hpos : (0 : Int) < Int.ofNat (n + 1) := Int.ofNat_lt.mpr (Nat.succ_pos n)
          have hbig : Int.ofNat (n + 1) < (1073741824 : Int) := by
            have : ((n + 1 : Nat) : Int) < 1073741824 := by omega
            exact this
          have fin : ∀ (z : Int), 0 ≤ z → z < Int.ofNat (n + 1) → k (.int z) = true := fun z h0 h1 => by
            obtain ⟨c, rfl⟩ := Int.eq_ofNat_of_zero_le h0
            exact allB_get hmm (Int.ofNat_lt.mp h1)
          obtain ⟨a, b, hp, ha, hb, hb2⟩ := B.po
          refine ⟨_, rfl, pp, [.int a, .int b], 0, .int a, rfl, rfl, .inl (.inl hp), rfl, a, 0, rfl, rfl, _, rfl, ?_⟩
          show (if decide ((0 : Int) < a) = true then _ else _)
          by_cases h0 : 0 < a
          · rw [if_pos (decide_eq_true h0)]
            refine ⟨_, rfl, pp, [.int a, .int b], 0, .int a, rfl, rfl, .inl (.inl hp), rfl, _, rfl, a, Int.ofNat (n + 1), rfl, ⟨hpos, hbig⟩, fun p hpn => ?_⟩
            have st := Stp.newO (o := .tup [.int (a / Int.ofNat (n + 1)), .int (a % Int.ofNat (n + 1))]) B hpn
            have np := ne_pp B hpn
            refine ⟨p, [.int (a / Int.ofNat (n + 1)), .int (a % Int.ofNat (n + 1))], rfl, .inl (.inl upd_same), rfl, _, _, rfl, _, rfl, pp, [.int a, .int b], 0, 0, rfl, rfl, ?_, rfl, _, _, rfl, rfl, _, rfl, ?_⟩
            · rw [upd_ne (Ne.symm np)]; exact hp
            · exact q _ _ F0 _ (stp_pot B st (Int.ediv_nonneg ha (Int.le_of_lt hpos)) hb hb2) (.int _) (fin _ (Int.emod_nonneg _ (Int.ne_of_gt hpos)) (Int.emod_lt_of_pos _ hpos))
          · rw [if_neg (fun z => h0 (of_decide_eq_true z))]
            have m1 : (0 : Int) ≤ (b * 44383 + 1269) % 2147483629 := Int.emod_nonneg _ (by decide)
            have m2 : (b * 44383 + 1269) % 2147483629 < 2147483629 := Int.emod_lt_of_pos _ (by decide)
            refine ⟨_, rfl, pp, [.int a, .int b], 1, .int b, rfl, rfl, .inl (.inl hp), rfl, b, 44383, rfl, rfl, .inr (by decide), _, _, rfl, rfl, .inl ⟨_, rfl, _, 2147483629, rfl, rfl, (show (0 : Int) < 2147483629 by decide), ?_⟩⟩
            refine ⟨_, rfl, pp, [.int a, .int b], 1, 1, rfl, rfl, hp, rfl, ?_⟩
            have hz : upd H pp (HO.lst [.int a, .int ((b * 44383 + 1269) % 2147483629)]) pp = some (.lst [.int a, .int ((b * 44383 + 1269) % 2147483629)]) := upd_same
            refine ⟨_, rfl, pp, [.int a, .int ((b * 44383 + 1269) % 2147483629)], 1, .int ((b * 44383 + 1269) % 2147483629), rfl, rfl, .inl (.inl hz), rfl, _, rfl, pp, [.int a, .int ((b * 44383 + 1269) % 2147483629)], 1, .int ((b * 44383 + 1269) % 2147483629), rfl, rfl, .inl (.inl hz), rfl, (b * 44383 + 1269) % 2147483629, (b * 44383 + 1269) % 2147483629, rfl, rfl, .inl ⟨by omega, by omega⟩, .inl ⟨_, rfl, _, 2147483587, rfl, rfl, (show (0 : Int) < 2147483587 by decide), _, 13, rfl, rfl, ⟨by decide, by decide⟩, .inl ⟨_, rfl, _, rfl, _, _, rfl, rfl, hpos, ?_⟩⟩⟩
            exact q _ _ F0 _ (stp_pot B (Stp.refl B) ha m1 (by omega)) (.int _) (fin _ (Int.emod_nonneg _ (Int.ne_of_gt hpos)) (Int.emod_lt_of_pos _ hpos))

abbrev N__law_pot : List Str := ["script", "k", "cell"]
theorem S__law_pot : FnScope N__law_pot ["script", "k"] (defScope (top 35)) := ⟨rfl, rfl, rfl, by decide +kernel, rfl, by decide +kernel, by decide +kernel⟩
def potTail : TS := tRet (tLst (tCons (tCB (fun xs H Q => ∃ i j, xs = [V.int i, .int j] ∧ Q (.int (if j > i then j else i)) H) (tCons (tC (.int 0)) (tCons (tOp (rI0 fun i j => .int (i - j)) (tVar 2) (tOp (rI CPow fun i j => .int (i ^ j.toNat)) (tC (.int 10)) (tC (.int 18)))) tNil)))
  (tCons (tOp (rI0 fun i j => .int (i + j)) (tOp (rI (fun _ j => 0 < j) fun i j => .int (i % j)) (tCB (fun xs H Q => (∃ i, xs = [V.int i] ∧ Q (.int i) H) ∨ ∃ k, xs = [V.bl k] ∧ Q (.int (if k then 1 else 0)) H) (tCons (tOp (rI0 fun i j => .int (i + j)) (tOp (rI0 fun i j => .int (i + j)) (tOp (rI CMul fun i j => .int (i * j)) (tOp (rI (fun _ j => 0 < j) fun i j => .int (i % j)) (tCB (fun xs H Q => (∃ i, xs = [V.int i] ∧ Q (.int i) H) ∨ ∃ k, xs = [V.bl k] ∧ Q (.int (if k then 1 else 0)) H) (tCons (tVar 2) tNil)) (tC (.int 2147483549))) (tC (.int 44383))) (tOp (rI CMul fun i j => .int (i * j)) (tC (.int 1269)) (tVar 1))) (tC (.int 23460))) tNil)) (tC (.int 2147483579))) (tC (.int 1))) tNil)))
theorem pot_tail {a : Addr} {k c : Int} {H : Hp} {D : Ends} (h1 : 0 ≤ k) (h2 : k < 100) (hQ : ∀ p x y, H p = none → 0 ≤ x → 0 ≤ y → y < 4294967296 → D.rt (.ref p) (upd H p (.lst [.int x, .int y]))) : potTail D [some (.ref a), some (.int k), some (.int c)] H := by
  have m1 : (0 : Int) ≤ c % 2147483549 := Int.emod_nonneg _ (by decide)
  have m2 : c % 2147483549 < 2147483549 := Int.emod_lt_of_pos _ (by decide)
  refine ⟨_, rfl, 10, 18, rfl, rfl, ⟨by decide, by decide, by decide⟩, _, _, rfl, rfl, _, _, rfl, ?_⟩
  refine ⟨_, rfl, .inl ⟨_, rfl, _, 2147483549, rfl, rfl, (show (0 : Int) < 2147483549 by decide), c % 2147483549, 44383, rfl, rfl, .inl ⟨by omega, by omega⟩, _, rfl, 1269, k, rfl, rfl, .inl ⟨by decide, by decide⟩, _, _, rfl, rfl, _, 23460, rfl, rfl, .inl ⟨_, rfl, _, 2147483579, rfl, rfl, (show (0 : Int) < 2147483579 by decide), _, 1, rfl, rfl, ?_⟩⟩⟩
  refine ⟨(show (2 : Nat) ≤ sizeLine by decide), fun p hp => ?_⟩
  refine hQ p _ _ hp ?_ ?_ ?_
  · show (0 : Int) ≤ (if c - (10 : Int) ^ (18 : Int).toNat > 0 then c - (10 : Int) ^ (18 : Int).toNat else 0)
    split
    · omega
    · omega
  · show (0 : Int) ≤ (c % 2147483549 * 44383 + 1269 * k + 23460) % 2147483579 + 1
    have : (0 : Int) ≤ (c % 2147483549 * 44383 + 1269 * k + 23460) % 2147483579 := Int.emod_nonneg _ (by decide)
    omega
  · show (c % 2147483549 * 44383 + 1269 * k + 23460) % 2147483579 + 1 < 4294967296
    have : (c % 2147483549 * 44383 + 1269 * k + 23460) % 2147483579 < 2147483579 := Int.emod_lt_of_pos _ (by decide)
    omega
theorem ok_pot {f : Addr} {fd : FuncData} (F : FnP K "_law_pot" (top 35) f fd) (bl : ∀ x ∈ blt, mg x = none) : FnOk P w K mg base CX0 1 f fd ["script", "k"] (spPot K) := by
  refine F.ok S__law_pot (fun vs H Q E h => ?_) (fun cdv A outer s H vs Q E hr hs => ?_)
  · obtain ⟨a, ns, k, rfl, _⟩ := h
    rfl
  refine ⟨_, PSs.nox (pss_cons (ps_set (i := 2) S__law_pot.nd rfl (Or.inl rfl) (pe_ifExp (pt_cmpR op_lt (pv 1) (pe_callB call_len_seq rfl (bl "len" (by decide)) (by decide +kernel) (pa_cons (pv 0) pa_nil)) (nomark _)) (pe_callB call_abs rfl (bl "abs" (by decide)) (by decide +kernel) (pa_cons (pe_ix ix_list (pv 0) (pv 1) (by intro _ _; rfl)) pa_nil)) (pe_op op_add (pe_op op_mul pe_int (pv 1)) pe_int)))
    (pss_one (ps_ret (pe_lst (pa_cons (pe_callB (call_max2 rfl) rfl (bl "max" (by decide)) (by decide +kernel) (pa_cons pe_int (pa_cons (pe_op op_sub (pv 2) (pe_op op_pow pe_int pe_int)) pa_nil))) (pa_cons (pe_op op_add (pe_op op_mod (pe_callTy call_int1 rfl (bl "int" (by decide)) (by decide +kernel) (pa_cons (pe_op op_add (pe_op op_add (pe_op op_mul (pe_op op_mod (pe_callTy call_int1 rfl (bl "int" (by decide)) (by decide +kernel) (pa_cons (pv 2) pa_nil)) pe_int) pe_int) (pe_op op_mul pe_int (pv 1))) pe_int) pa_nil)) pe_int) pe_int) pa_nil)))))), ?_⟩
  obtain ⟨a, ns, k, rfl, hS, h1, h2, hQ⟩ := hs
  refine ⟨_, rfl, _, rfl, a, ns.map V.int, rfl, .inl hS, k, _, rfl, rfl, _, rfl, ?_⟩
  show (if decide (k < ((ns.map V.int).length : Int)) = true then _ else _)
  by_cases h0 : k < ((ns.map V.int).length : Int)
  · rw [if_pos (decide_eq_true h0)]
    obtain ⟨j, rfl⟩ := Int.eq_ofNat_of_zero_le h1
    have hj : j < (ns.map V.int).length := Int.ofNat_lt.mp h0
    have hj2 : j < ns.length := by rw [List.length_map] at hj; exact hj
    have e : atI (ns.map V.int) (Int.ofNat j) = some (.int ns[j]) := by
      unfold atI
      rw [ixN_lt hj]
      show (ns.map V.int)[j]? = _
      rw [List.getElem?_map, List.getElem?_eq_getElem hj2]
      rfl
    exact ⟨_, rfl, _, rfl, a, ns.map V.int, _, _, rfl, rfl, hS, e, _, rfl, pot_tail h1 h2 hQ⟩
  · rw [if_neg (fun z => h0 (of_decide_eq_true z))]
    exact ⟨_, rfl, 2713, k, rfl, rfl, .inl ⟨by decide, by decide⟩, _, 2220, rfl, rfl, pot_tail h1 h2 hQ⟩
end
end Kp

namespace Dl
open PySem PySem.Spec PyProof.Rows L2 PySem.Builtin PySem.Builtin.Str
/-- plain signs alone -/
def Pn (s : Str) : Prop := ∀ c ∈ s.cps.toList, c ≤ 127
theorem pn_append {a b : Str} (ha : Pn a) (hb : Pn b) : Pn (a ++ b) := fun c h => by
  have e : (a ++ b).cps = a.cps ++ b.cps := rfl
  rw [e, Array.toList_append, List.mem_append] at h
  rcases h with h | h
  · exact ha c h
  · exact hb c h
theorem pn_lit {s : String} (h : (s.toList.all fun c => decide (c.toNat ≤ 127)) = true) : Pn (Str.ofString s) := fun c hc => by
  rw [Str.ofString_eq_toList] at hc
  simp only [List.mem_map] at hc
  obtain ⟨ch, h1, rfl⟩ := hc
  exact of_decide_eq_true (List.all_eq_true.mp h ch h1)
theorem pn_int (i : Int) : Pn (PyData.shown (.int i)) := by
  show Pn (Str.ofString (toString i))
  refine pn_lit (List.all_eq_true.mpr fun c hc => decide_eq_true ?_)
  rcases int_sign i c hc with h | rfl
  · have := digit_range h
    omega
  · decide
theorem pn_from : ∀ (ts : List Str) (k : Nat) (acc : Str), Pn acc → (∀ t ∈ ts, Pn t) → Pn (textFrom k acc ts)
  | [], _, acc, h, _ => h
  | t :: ts, k, acc, h, ht => by
    refine pn_from ts (k + 1) _ (pn_append (pn_append h ?_) (ht t List.mem_cons_self)) fun u hu => ht u (List.mem_cons_of_mem _ hu)
    split <;> exact pn_lit (by decide)
theorem pn_list {ts : List Str} (h : ∀ t ∈ ts, Pn t) : Pn (listText ts) := pn_append (pn_from ts 0 _ (pn_lit (by decide)) h) (pn_lit (by decide))
theorem pn_join : ∀ (ts : List Str), (∀ t ∈ ts, Pn t) → Pn (Str.join ", " ts)
  | [], _ => fun c h => by cases h
  | [x], h => h x List.mem_cons_self
  | x :: y :: r, h => pn_append (pn_append (h x List.mem_cons_self) (pn_lit (by decide))) (pn_join (y :: r) fun t ht => h t (List.mem_cons_of_mem _ ht))
theorem pn_tuple {ts : List Str} (h : ∀ t ∈ ts, Pn t) : Pn (tupleText ts) := by
  refine pn_append (pn_append (pn_lit (by decide)) (pn_join ts h)) ?_
  split <;> exact pn_lit (by decide)
theorem reprChar_pn {q c : Nat} (hq : q = 34 ∨ q = 39) (h : c ≤ 127) : ∀ x ∈ reprChar q c, x ≤ 127 := by
  have key : ∀ c, c < 128 → ((reprChar 34 c).all (fun x => decide (x ≤ 127)) && (reprChar 39 c).all (fun x => decide (x ≤ 127))) = true := by decide +kernel
  have k := key c (by omega)
  rw [Bool.and_eq_true, List.all_eq_true, List.all_eq_true] at k
  rcases hq with rfl | rfl
  · exact fun x hx => of_decide_eq_true (k.1 x hx)
  · exact fun x hx => of_decide_eq_true (k.2 x hx)
theorem reprFold_pn {q : Nat} (hq : q = 34 ∨ q = 39) : ∀ (l : List Nat) (acc : Array Nat), (∀ c ∈ l, c ≤ 127) → (∀ c ∈ acc.toList, c ≤ 127) → ∀ c ∈ (l.foldl (fun out c => out ++ (reprChar q c).toArray) acc).toList, c ≤ 127
  | [], acc, _, h => h
  | c :: r, acc, hl, h => by
    rw [List.foldl_cons]
    refine reprFold_pn hq r _ (fun c hc => hl c (List.mem_cons_of_mem _ hc)) fun x hx => ?_
    rw [Array.toList_append, List.mem_append] at hx
    rcases hx with hx | hx
    · exact h x hx
    · exact reprChar_pn hq (hl c List.mem_cons_self) x (by simpa using hx)
theorem pn_str {x : Str} (h : x.cps.all (fun c => Nat.ble c 127) = true) : Pn (reprText x) := fun c hc => by
  have hq := quote_or x
  have q1 : reprQuote x ≤ 127 := by rcases hq with h | h <;> rw [h] <;> decide
  unfold reprText at hc
  simp only at hc
  rw [Array.toList_push, ← Array.foldl_toList, List.mem_append] at hc
  rcases hc with hc | hc
  · refine reprFold_pn hq x.cps.toList #[reprQuote x] (fun c hc => ?_) (fun c hc => ?_) c hc
    · rw [Array.all_eq_true] at h
      obtain ⟨i, hi, e⟩ := List.mem_iff_getElem.mp hc
      have := h i (by simpa using hi)
      rw [Array.getElem_toList] at e
      rw [e] at this
      exact Nat.le_of_ble_eq_true this
    · have : c = reprQuote x := by simpa using hc
      rw [this]; exact q1
  · have : c = reprQuote x := by simpa using hc
    rw [this]; exact q1
mutual
theorem pn_shown : ∀ (n : Nat) (d : PyData), okR n d = true → Pn d.shown
  | n, .none, _ => pn_lit (s := "None") (by decide)
  | n, .bool b, _ => by cases b <;> exact pn_lit (by decide)
  | n, .int i, _ => pn_int i
  | n, .str x, h => pn_str (by unfold okR at h; exact h)
  | n + 1, .list xs, h => by
    show Pn (listText (PyData.shownAll xs))
    exact pn_list (pn_showns n xs (by unfold okR at h; exact h))
  | n + 1, .tuple xs, h => by
    show Pn (tupleText (PyData.shownAll xs))
    exact pn_tuple (pn_showns n xs (by unfold okR at h; exact h))
  | 0, .list _, h => by unfold okR at h; cases h
  | 0, .tuple _, h => by unfold okR at h; cases h
  | n, .dict _, h => by cases n <;> · unfold okR at h; cases h
theorem pn_showns : ∀ (n : Nat) (ds : List PyData), oksR n ds = true → ∀ t ∈ PyData.shownAll ds, Pn t
  | _, [], _ => fun _ h => nomatch h
  | n, x :: xs, h => fun t ht => by
    unfold oksR at h
    cases e : okR n x with
    | false => rw [e] at h; cases h
    | true =>
      rw [e] at h
      rcases List.mem_cons.mp ht with rfl | ht
      · exact pn_shown n x e
      · exact pn_showns n xs h t ht
end
theorem okR_of {d : PyData} (h : reprOk d = true) : okR 40 d = true := by
  unfold reprOk at h
  cases e : okR 40 d with
  | true => rfl
  | false => rw [e] at h; cases h
theorem pl_shown {d : PyData} (h : reprOk d = true) : plD 40 (.str d.shown) = true := by
  show d.shown.cps.all (fun c => Nat.ble c 127) = true
  rw [Array.all_eq_true]
  intro i hi
  exact Nat.ble_eq_true_of_le (pn_shown 40 d (okR_of h) _ (Array.getElem_mem_toList hi))
theorem op_eqsh {d : PyData} (h : reprOk d = true) : Ev (gEq (.str d.shown) (.str d.shown)) (.bool true) := fun k => by
  have := op_eq' (pl_shown h) (pl_shown h) k
  rw [this]
  unfold fEq
  rw [decide_eq_true rfl]
end Dl

namespace Dl
open PySem PySem.Spec PyProof.Rows L2
/-! shared rules for a law's own text: draws, parts, calls opened by hand -/
theorem draw_all {env : Sls} {i n : Nat} {k : KF} (h : look env i = .pt) (hn : n ≤ 1000000000) (q : ∀ c : Nat, c < n + 1 → k (.int (c : Int)) = true) : dCallN 2 mDraw (aPot i (aCons (dC (.int (Int.ofNat (n + 1)))) aNil)) env k = true := by
  show (match look env i with
    | .pt => (match Nat.ble n 1000000000 with
      | true => allB (n + 1) fun c => k (.int (Int.ofNat c))
      | false => false)
    | _ => false) = true
  rw [h]
  simp only [Nat.ble_eq_true_of_le hn]
  exact allB_of q
theorem pick_all {xs : List PyData} {k : KF} (h0 : xs ≠ []) (h1 : xs.length ≤ 1000000000) (q : ∀ x ∈ xs, k x = true) : mOf 2 (sRet (dOp gIx (dVar 1) (dCallN 2 mDraw (aPot 0 (aCons (dCB gLen (aCons (dVar 1) aNil)) aNil))))) [potD, .list xs] k = true := by
  obtain ⟨n, hn⟩ : ∃ n, xs.length = n + 1 := by
    cases xs with
    | nil => exact absurd rfl h0
    | cons x xs => exact ⟨xs.length, rfl⟩
  show mDraw [potD, .int (xs.length : Int)] (fun y => gIx (.list xs) y k) = true
  rw [hn]
  show (match Nat.ble n 1000000000 with
      | true => allB (n + 1) fun c => gIx (.list xs) (.int (Int.ofNat c)) k
      | false => false) = true
  simp only [Nat.ble_eq_true_of_le (show n ≤ 1000000000 by omega)]
  refine allB_of fun c hc => ?_
  have hc : c < xs.length := by omega
  have e := op_ixL (Dl.atI_nat (List.getElem?_eq_getElem hc)) k
  refine Eq.trans e ?_
  exact q _ (List.getElem_mem hc)
theorem k_asg2 {A C : DE} {g : DG} {B : DEnds} {env : Sls} : sAsg (dTup (aCons A (aCons C aNil))) g B env = A env fun a => C env fun c => g (.tuple [a, c]) env B.nx := rfl
theorem k_tup2 {A C : DE} {env : Sls} {k : KF} : dTup (aCons A (aCons C aNil)) env k = A env fun a => C env fun c => k (.tuple [a, c]) := rfl
theorem k_call2 {A C : DE} {m : Fn} {env : Sls} {k : KF} : dCallN 2 m (aCons A (aCons C aNil)) env k = A env fun a => C env fun c => m [a, c] k := rfl
theorem k_op {A C : DE} {g : G2} {env : Sls} {k : KF} : dOp g A C env k = A env fun a => C env fun c => g a c k := rfl
theorem k_c {d : PyData} {env : Sls} {k : KF} : dC d env k = k d := rfl
theorem k_asg {A : DE} {g : DG} {B : DEnds} {env : Sls} : sAsg A g B env = A env fun d => g d env B.nx := rfl
theorem k_seq {a b : DS} {B : DEnds} {env : Sls} : sSeq a b B env = a { B with nx := b B } env := rfl
theorem k_potN {m : Fn} {t : DS} {B : DEnds} {e : Sls} : sSeq (sAsg (dCallN 1 m (aPot 0 aNil)) (gN 1)) t B (.pt :: e) = m [potD] fun d => t B ((.pt :: e).set 1 (.fz d)) := rfl
theorem k_mOf {n : Nat} {b : DS} {ds : List PyData} {k : KF} : mOf n b ds k = b { nx := fun _ => k .none, rt := k, bk := fun _ => false, ct := fun _ => false } (startE n ds) := rfl
theorem draw_arg {env : Sls} {i : Nat} {de : DE} {d : PyData} {k : List PyData → Bool} (h : Ev (de env) d) : aPot i (aCons de aNil) env k = aPot i (aCons (dC d) aNil) env k := by
  unfold aPot
  cases look env i <;> first | rfl | exact h _
theorem draw_all' {env : Sls} {i n : Nat} {de : DE} {k : KF} (h : look env i = .pt) (hd : Ev (de env) (.int (Int.ofNat (n + 1)))) (hn : n ≤ 1000000000) (q : ∀ c : Nat, c < n + 1 → k (.int (c : Int)) = true) : dCallN 2 mDraw (aPot i (aCons de aNil)) env k = true := by
  have := draw_all h hn q
  unfold dCallN at this ⊢
  rw [draw_arg hd]
  exact this
theorem cut_lo {xs : List PyData} {k : Nat} (h : k ≤ xs.length) : Dl.cutD xs none (some (k : Int)) = xs.take k := by
  unfold Dl.cutD
  rw [HT.sIx_none, HT.sIx_nat, List.drop_zero, Nat.sub_zero, Nat.min_eq_left h]
theorem cut_hi {xs : List PyData} {k : Nat} (h : k ≤ xs.length) : Dl.cutD xs (some (k : Int)) none = xs.drop k := by
  unfold Dl.cutD
  rw [HT.sIx_none, HT.sIx_nat, Nat.min_eq_left h]
  exact List.take_of_length_le (by rw [List.length_drop]; omega)
theorem op_neB {b : Bool} : Ev (gNe (.bool b) (.bool b)) (.bool false) := fun k => by cases b <;> rfl
theorem all_tt {α : Type} (ws : List α) : Ev (gAll [.list (ws.map fun _ => .bool true)]) (.bool true) := by
  refine ev_toB (cb_bools (bs := ws.map fun _ => true) (by rw [List.map_map]; rfl)) ?_
  simp
theorem all_map {α : Type} {ws : List α} {f : α → PyData} {env : Sls} {g : DG} {el : DE} {vs : List Nat} {it : DI} (hi : EvA (it env) (ws.map f)) (h : ∀ w ∈ ws, ∃ e, EvG (g (f w) (wipeE env vs)) e ∧ Ev (el e) (.bool true)) (hl : small ws.length = true) : Ev (dCB gAll (aCons (dLc it g dYes el vs) aNil) env) (.bool true) :=
  ev_cb (eva_cons (ev_lc hi (evlc_map (r := fun _ => .bool true) h) (by rw [List.length_map]; exact hl)) eva_nil) (all_tt ws)
theorem small_le {n m : Nat} (h : n ≤ m) (hm : m ≤ 100000 := by decide) : small n = true := Nat.ble_eq_true_of_le (Nat.le_trans h hm)
theorem range_draw {env : Sls} {i n : Nat} {k : List PyData → Bool} (h : look env i = .pt) (hn : n ≤ 100000) (q : ∀ c : Nat, c < n + 1 → k ((List.range (c + 1)).map fun i : Nat => .int (i : Int)) = true) :
    iRange1 (dOp gAdd (dC (.int 1)) (dCallN 2 mDraw (aPot i (aCons (dC (.int (Int.ofNat (n + 1)))) aNil)))) env k = true := by
  refine draw_all h (by omega) fun c hc => ?_
  have e := evi_rangeN (env := env) (de := dOp gAdd (dC (.int 1)) (dC (.int (c : Int)))) (n := c + 1) (ev_to (ev_op ev_c ev_c op_add') (by congr 1; omega)) (by omega) k
  exact e.trans (q c hc)
end Dl

namespace Um
/-! urns: rows by what they hold alone -/
def FW (x m : Int) : Nat → Rat
  | 0 => 1
  | n + 1 => (x : Rat) * FW (x + m) m n
def on : List Bool → Nat
  | [] => 0
  | c :: r => (if c then 1 else 0) + on r
def ze : List Bool → Nat
  | [] => 0
  | c :: r => (if c then 0 else 1) + ze r
def rc (m : Int) : List Bool → Int → Int → Rat → Rat
  | [], _, _, a => a
  | c :: r, w, b, a => rc m r (if c then w + m else w) (if c then b else b + m) (a * (((if c then w else b : Int) : Rat) / ((w + b : Int) : Rat)))
theorem onze : ∀ r : List Bool, on r + ze r = r.length
  | [] => rfl
  | c :: r => by
    have := onze r
    cases c <;> simp only [on, ze, List.length_cons, if_true, Bool.false_eq_true, if_false] <;> omega
theorem div4 (a x s y t : Rat) : a * (x / s) * (y / t) = a * (x * y / (s * t)) := by
  rw [Rat.div_def, Rat.div_def, Rat.div_def, Rat.inv_mul_rev]
  grind
theorem rc_eq (m : Int) : ∀ (r : List Bool) (w b : Int) (a : Rat), rc m r w b a = a * (FW w m (on r) * FW b m (ze r) / FW (w + b) m r.length)
  | [], w, b, a => by
    show a = a * (1 * 1 / 1)
    grind
  | true :: r, w, b, a => by
    show rc m r (w + m) b (a * ((w : Rat) / ((w + b : Int) : Rat))) = _
    rw [rc_eq m r, div4]
    have e1 : on (true :: r) = on r + 1 := by show 1 + on r = _; omega
    have e2 : ze (true :: r) = ze r := by show 0 + ze r = _; omega
    rw [e1, e2, List.length_cons]
    show a * ((w : Rat) * (FW (w + m) m (on r) * FW b m (ze r)) / (((w + b : Int) : Rat) * FW (w + m + b) m r.length)) = a * ((w : Rat) * FW (w + m) m (on r) * FW b m (ze r) / (((w + b : Int) : Rat) * FW (w + b + m) m r.length))
    rw [show w + m + b = w + b + m by omega]
    congr 2
    grind
  | false :: r, w, b, a => by
    show rc m r w (b + m) (a * ((b : Rat) / ((w + b : Int) : Rat))) = _
    rw [rc_eq m r, div4]
    have e1 : on (false :: r) = on r := by show 0 + on r = _; omega
    have e2 : ze (false :: r) = ze r + 1 := by show 1 + ze r = _; omega
    rw [e1, e2, List.length_cons]
    show a * ((b : Rat) * (FW w m (on r) * FW (b + m) m (ze r)) / (((w + b : Int) : Rat) * FW (w + (b + m)) m r.length)) = a * (FW w m (on r) * ((b : Rat) * FW (b + m) m (ze r)) / (((w + b : Int) : Rat) * FW (w + b + m) m r.length))
    rw [show w + (b + m) = w + b + m by omega]
    congr 2
    grind
theorem rc_same {r s : List Bool} (m w b : Int) (a : Rat) (h1 : on r = on s) (h2 : r.length = s.length) : rc m r w b a = rc m s w b a := by
  have := onze r
  have := onze s
  rw [rc_eq, rc_eq, h1, h2, show ze r = ze s by omega]
theorem on_append : ∀ r s : List Bool, on (r ++ s) = on r + on s
  | [], s => by show on s = 0 + on s; omega
  | c :: r, s => by
    show (if c then 1 else 0) + on (r ++ s) = (if c then 1 else 0) + on r + on s
    rw [on_append r s]
    omega
theorem on_reverse : ∀ r : List Bool, on r.reverse = on r
  | [] => rfl
  | c :: r => by
    rw [List.reverse_cons, on_append, on_reverse r]
    show on r + ((if c then 1 else 0) + 0) = (if c then 1 else 0) + on r
    omega
theorem rc_zero (m : Int) : ∀ (r : List Bool) (w b : Int), rc m r w b 0 = 0
  | [], _, _ => rfl
  | c :: r, w, b => by
    show rc m r _ _ (0 * _) = 0
    rw [Rat.zero_mul]
    exact rc_zero m r _ _
theorem rc_one (m : Int) : ∀ (r : List Bool) (w b : Int) (a : Rat), rc m (r ++ [true]) w b a = rc m r w b a * (((w + m * (on r : Int) : Int) : Rat) / ((w + b + m * (r.length : Int) : Int) : Rat))
  | [], w, b, a => by
    show a * ((w : Rat) / ((w + b : Int) : Rat)) = a * (((w + m * 0 : Int) : Rat) / ((w + b + m * 0 : Int) : Rat))
    rw [Int.mul_zero, Int.add_zero, Int.add_zero]
  | true :: r, w, b, a => by
    show rc m (r ++ [true]) (w + m) b _ = rc m r (w + m) b _ * _
    rw [rc_one m r]
    have e1 : w + m + m * (on r : Int) = w + m * (on (true :: r) : Int) := by
      show _ = w + m * ((1 + on r : Nat) : Int)
      grind
    have e2 : w + m + b + m * (r.length : Int) = w + b + m * ((true :: r).length : Int) := by
      rw [List.length_cons]
      grind
    rw [e1, e2]
  | false :: r, w, b, a => by
    show rc m (r ++ [true]) w (b + m) _ = rc m r w (b + m) _ * _
    rw [rc_one m r]
    have e1 : w + m * (on r : Int) = w + m * (on (false :: r) : Int) := by
      show _ = w + m * ((0 + on r : Nat) : Int)
      grind
    have e2 : w + (b + m) + m * (r.length : Int) = w + b + m * ((false :: r).length : Int) := by
      rw [List.length_cons]
      grind
    rw [e1, e2]
end Um

namespace Um
def IW (x m : Int) : Nat → Int
  | 0 => 1
  | n + 1 => x * IW (x + m) m n
theorem FW_eq (m : Int) : ∀ (n : Nat) (x : Int), FW x m n = ((IW x m n : Int) : Rat)
  | 0, _ => rfl
  | n + 1, x => by
    show (x : Rat) * FW (x + m) m n = ((x * IW (x + m) m n : Int) : Rat)
    rw [FW_eq m n, Rat.intCast_mul]
def wyf (n : Int) : Nat → Int → Int → Int
  | 0, _, f => f
  | k + 1, i, f => wyf n k (i + 1) (f * (n - i) / (i + 1))
def wy (n k : Nat) : Int := wyf n k 0 1
def zs (w b m : Int) (n : Nat) : List Int := (List.range (n + 1)).map fun i => wy n i * IW w m i * IW b m (n - i)
def sumI : List Int → Int
  | [] => 0
  | x :: r => x + sumI r
def mulI : Nat → List Int → List Int
  | _, [] => []
  | i, x :: r => (i : Int) * x :: mulI (i + 1) r
def most (w b m : Int) : Nat := if m = -1 then min 8 (w + b).toNat else 8
def chk (w b m : Int) (n : Nat) : Bool := decide (sumI (zs w b m n) = IW (w + b) m n) && (decide (IW (w + b) m n ≠ 0) && decide ((w + b) * sumI (mulI 0 (zs w b m n)) = n * w * IW (w + b) m n))
def ms : List Int := [-1, 0, 1, 2, 3, 4]
def chkAll : Bool := ms.all fun m => (List.range 6).all fun w => (List.range 6).all fun b => Nat.beq (w + b) 0 || (List.range (most w b m + 1)).all fun n => chk w b m n
theorem chk_all : chkAll = true := by decide +kernel
theorem chk_at {m : Int} (hm : m ∈ ms) {w b n : Nat} (hw : w < 6) (hb : b < 6) (h : 0 < w + b) (hn : n ≤ most w b m) : chk w b m n = true := by
  have h1 := List.all_eq_true.mp chk_all m hm
  have h2 := List.all_eq_true.mp h1 w (List.mem_range.mpr hw)
  have h3 := List.all_eq_true.mp h2 b (List.mem_range.mpr hb)
  rw [Bool.or_eq_true] at h3
  rcases h3 with h3 | h3
  · have := Nat.eq_of_beq_eq_true h3
    omega
  · exact List.all_eq_true.mp h3 n (List.mem_range.mpr (by omega))
theorem wy_turn : ∀ n, n < 9 → ∀ i, i < n + 1 → wy n i = wy n (n - i) := by decide +kernel
theorem wy_small : ∀ n, n < 9 → ∀ i, i < n + 1 → (wy n i).natAbs < 2 ^ 7 := by decide +kernel
theorem alike_all : ∀ n, n < 9 → ∀ i, i < n + 1 → wy n i * IW 1 1 i * IW 1 1 (n - i) * ((n : Int) + 1) = IW (1 + 1) 1 n ∧ IW (1 + 1) 1 n ≠ 0 := by decide +kernel
def sumR : List Rat → Rat
  | [] => 0
  | x :: r => x + sumR r
theorem sumR_div (t : Rat) : ∀ l : List Int, sumR (l.map fun z : Int => (z : Rat) / t) = (sumI l : Rat) / t
  | [] => by show (0 : Rat) = 0 / t; rw [Rat.div_def, Rat.zero_mul]
  | z :: l => by
    show (z : Rat) / t + sumR (l.map fun z : Int => (z : Rat) / t) = ((z + sumI l : Int) : Rat) / t
    rw [sumR_div t l, Rat.intCast_add, Rat.div_def, Rat.div_def, Rat.div_def, Rat.add_mul]
end Um

namespace Kp
open PySem PySem.Spec PyProof.Rows L2 Dl Um
abbrev ur (w b m : Int) : PyData := .tuple [.int w, .int b, .int m]
abbrev bi (c : Bool) : PyData := .int (if c then 1 else 0)
def inB (a i z : Int) : Bool := decide (a ≤ i) && decide (i ≤ z)
def uB (x y z : Int) : Bool := inB (-1) z 4 && (inB 0 x 9 && inB 0 y 9 && decide (0 < x + y))
theorem ev_mb {env : Sls} : Ev (dC c_MOST_BALLS env) (.int 9) := fun _ => rfl
theorem ev_mm {env : Sls} : Ev (dC c_MOST_MORE env) (.int 4) := fun _ => rfl
theorem ev_md {env : Sls} : Ev (dC c_MOST_DRAWS env) (.int 8) := fun _ => rfl
theorem ev_m1 {env : Sls} : Ev (dUn gNeg (dC (.int 1)) env) (.int (-1)) := fun _ => rfl
theorem is_f {cl : Tc} {d : PyData} {env : Sls} {i : Nat} (h : look env i = .fz d) (e : Tc.has cl d = true) : EvT (dNot (dB (dIs cl (dVar i))) env) false := evt_to (evt_not (evt_b (ev_is (ev_var h)))) (by rw [e]; rfl)
theorem st1 {d : PyData} {n : Nat} (h : noDict d = true) : look (startE (n + 1) [d]) 0 = .fz d := by
  cases d <;> try rfl
  rename_i kvs
  cases kvs with
  | nil => rfl
  | cons _ _ => cases h
theorem s_is_integer (d : PyData) (hd : noDict d = true) : Ev (m_is_integer [d]) (.bool (Tc.int.has d && !Tc.bool.has d)) :=
  ev_def (rt_ret (ev_and (ev_is (ev_var (st1 hd))) fun _ => ev_notV (ev_is (ev_var (st1 hd)))))
theorem s_is_within (i a z : Int) : Ev (m_is_within [.int i, .int a, .int z]) (.bool (inB a i z)) :=
  ev_def (rt_ret (ev_andT (ev_call (eva_cons (ev_var rfl) eva_nil) (s_is_integer (.int i) rfl) rfl) (ev_chain (ev_var rfl) (ev_var rfl) op_I (fun _ => ev_var rfl) fun _ => op_I)))
theorem s_not_within {d : PyData} (hd : look (startE 3 [d, .int 0, .int 9]) 0 = .fz d) (hn : noDict d = true) (h : (Tc.int.has d && !Tc.bool.has d) = false) : Ev (m_is_within [d, .int 0, .int 9]) (.bool false) :=
  ev_def (rt_ret (ev_andF (ev_toB (ev_call (eva_cons (ev_var hd) eva_nil) (s_is_integer d hn) rfl) h)))
theorem s_urn3 {x y : PyData} {z : Int} {p q : Bool} (hx : Ev (m_is_within [x, .int 0, .int 9]) (.bool p)) (hy : Ev (m_is_within [y, .int 0, .int 9]) (.bool q)) {r : Bool} (hs : (p && q) = true → Ev (dOp gGt (dOp gAdd (dOp gIx (dVar 0) (dC (.int 0))) (dOp gIx (dVar 0) (dC (.int 1)))) (dC (.int 0)) [.fz (.tuple [x, y, .int z]), .no]) (.bool r)) :
    Ev (m_is_urn_of [.tuple [x, y, .int z]]) (.bool (inB (-1) z 4 && (p && q && r))) := by
  have hw : Ev (dCallN 3 m_is_within (aCons (dOp gIx (dVar 0) (dC (.int 2))) (aCons (dUn gNeg (dC (.int 1))) (aCons (dC c_MOST_MORE) aNil))) [.fz (.tuple [x, y, .int z]), .no]) (.bool (inB (-1) z 4)) :=
    ev_call (eva_cons (ev_op (ev_var rfl) ev_c (op_ixT (x := .int z) rfl)) (eva_cons ev_m1 (eva_cons ev_mm eva_nil))) (s_is_within z (-1) 4) rfl
  have hl : EvT (dNot (dB (dIs .tuple (dVar 0))) [.fz (.tuple [x, y, .int z]), .no]) false := is_f rfl rfl
  have hn : EvT (dB (dOp gNe (dCB gLen (aCons (dVar 0) aNil)) (dC (.int 3))) [.fz (.tuple [x, y, .int z]), .no]) false := evt_b (ev_op (ev_cb (eva_cons (ev_var rfl) eva_nil) cb_lenT) ev_c op_neI)
  cases e : inB (-1) z 4 with
  | false =>
    rw [e] at hw
    exact ev_def (rt_now (rt_ifT (evt_orF hl (evt_orF hn (evt_not (evt_b hw)))) (rt_ret ev_c)))
  | true =>
    rw [e] at hw
    have hall : Ev (dCB gAll (aCons (dLc (iSeq (dSl (dVar 0) oNone (oSome (dC (.int 2))))) (gN 1) dYes (dCallN 3 m_is_within (aCons (dVar 1) (aCons (dC (.int 0)) (aCons (dC c_MOST_BALLS) aNil)))) [1]) aNil) [.fz (.tuple [x, y, .int z]), .no]) (.bool (p && q)) :=
      ev_toB (ev_cb (eva_cons (ev_lc (evi_seqT (ev_sl (ev_var rfl) evo_none (evo_some ev_c) op_cutT)) (evlc_cons evg_n (ev_call (eva_cons (ev_var rfl) (eva_cons ev_c (eva_cons ev_mb eva_nil))) hx rfl) (evlc_cons evg_n (ev_call (eva_cons (ev_var rfl) (eva_cons ev_c (eva_cons ev_mb eva_nil))) hy rfl) evlc_nil)) rfl) eva_nil) (cb_bools (bs := [p, q]) rfl)) (by cases p <;> cases q <;> rfl)
    exact ev_def (rt_seq (ex_ifF (evt_orF hl (evt_orF hn (evt_not (evt_b hw)))) ex_nil) (rt_ret (ev_toB (ev_and (p := p && q) (q := r) hall hs) (by rw [Bool.true_and]))))
theorem s_urn_int (x y z : Int) : Ev (m_is_urn_of [ur x y z]) (.bool (uB x y z)) :=
  s_urn3 (s_is_within x 0 9) (s_is_within y 0 9) fun _ => ev_op (ev_op (ev_op (ev_var rfl) ev_c (op_ixT (x := .int x) rfl)) (ev_op (ev_var rfl) ev_c (op_ixT (x := .int y) rfl)) op_add') ev_c op_I
theorem s_urn_not {d : PyData} (hd : noDict d = true) (h : Tc.tuple.has d = false) : Ev (m_is_urn_of [d]) (.bool false) :=
  ev_def (rt_now (rt_ifT (evt_orT (evt_to (evt_not (evt_b (ev_is (ev_var (st1 hd))))) (by rw [h]; rfl))) (rt_ret ev_c)))
theorem s_urn_len {ds : List PyData} (h : ds.length ≠ 3) : Ev (m_is_urn_of [.tuple ds]) (.bool false) := by
  refine ev_def (rt_now (rt_ifT (evt_orF (is_f rfl rfl) (evt_orT (evt_b (ev_toB (ev_op (ev_cb (eva_cons (ev_var rfl) eva_nil) cb_lenT) ev_c op_neI) ?_)))) (rt_ret ev_c)))
  rw [eqI_eq]
  have : ((ds.length : Int) == 3) = false := by rw [beq_eq_false_iff_ne]; omega
  rw [this]
  rfl
/-! the law's own look at an urn -/
theorem l_urn_not {d : PyData} (hd : noDict d = true) (h : Tc.tuple.has d = false) : Ev (m__law_is_urn [d]) (.bool false) :=
  ev_def (rt_now (rt_ifT (evt_orT (evt_to (evt_not (evt_b (ev_is (ev_var (st1 hd))))) (by rw [h]; rfl))) (rt_ret ev_c)))
theorem l_urn_len {ds : List PyData} (h : ds.length ≠ 3) : Ev (m__law_is_urn [.tuple ds]) (.bool false) := by
  refine ev_def (rt_now (rt_ifT (evt_orF (is_f rfl rfl) (evt_b (ev_toB (ev_op (ev_cb (eva_cons (ev_var rfl) eva_nil) cb_lenT) ev_c op_neI) ?_))) (rt_ret ev_c)))
  rw [eqI_eq]
  have : ((ds.length : Int) == 3) = false := by rw [beq_eq_false_iff_ne]; omega
  rw [this]
  rfl
theorem l_int_of (d : PyData) {env : Sls} (h : look env 1 = .fz d) : Ev (dAndV (dIs .int (dVar 1)) (dNotV (dIs .bool (dVar 1))) env) (.bool (Tc.int.has d && !Tc.bool.has d)) :=
  ev_and (ev_is (ev_var h)) fun _ => ev_notV (ev_is (ev_var h))
theorem l_all3 (x y z : PyData) : Ev (dCB gAll (aCons (dLc (iSeq (dVar 0)) (gN 1) dYes (dAndV (dIs .int (dVar 1)) (dNotV (dIs .bool (dVar 1)))) [1]) aNil) [.fz (.tuple [x, y, z]), .no]) (.bool ([Tc.int.has x && !Tc.bool.has x, Tc.int.has y && !Tc.bool.has y, Tc.int.has z && !Tc.bool.has z].all id)) :=
  ev_cb (eva_cons (ev_lc (evi_seqT (ev_var rfl)) (evlc_cons evg_n (l_int_of x rfl) (evlc_cons evg_n (l_int_of y rfl) (evlc_cons evg_n (l_int_of z rfl) evlc_nil))) rfl) eva_nil) (cb_bools (bs := [Tc.int.has x && !Tc.bool.has x, Tc.int.has y && !Tc.bool.has y, Tc.int.has z && !Tc.bool.has z]) rfl)
theorem l_urn_bad {x y z : PyData} (h : [Tc.int.has x && !Tc.bool.has x, Tc.int.has y && !Tc.bool.has y, Tc.int.has z && !Tc.bool.has z].all id = false) : Ev (m__law_is_urn [.tuple [x, y, z]]) (.bool false) := by
  have e := l_all3 x y z
  rw [h] at e
  exact ev_def (rt_seq (ex_ifF (evt_orF (is_f rfl rfl) (evt_b (ev_op (ev_cb (eva_cons (ev_var rfl) eva_nil) cb_lenT) ev_c op_neI))) ex_nil) (rt_now (rt_ifT (evt_not (evt_b e)) (rt_ret ev_c))))
theorem l_urn_int (x y z : Int) : Ev (m__law_is_urn [ur x y z]) (.bool (uB x y z)) := by
  have e := l_all3 (.int x) (.int y) (.int z)
  refine ev_toB (ev_def (rt_seq (ex_ifF (evt_orF (is_f rfl rfl) (evt_b (ev_op (ev_cb (eva_cons (ev_var rfl) eva_nil) cb_lenT) ev_c op_neI))) ex_nil) (rt_seq (ex_ifF (evt_not (evt_b e)) ex_nil) (rt_ret
    (ev_and (ev_chain ev_c (ev_op (ev_var rfl) ev_c (op_ixT (x := .int x) rfl)) op_I (fun _ => ev_c) fun _ => op_I) fun _ =>
      ev_and (ev_chain ev_c (ev_op (ev_var rfl) ev_c (op_ixT (x := .int y) rfl)) op_I (fun _ => ev_c) fun _ => op_I) fun _ =>
      ev_and (ev_op (ev_op (ev_op (ev_var rfl) ev_c (op_ixT (x := .int x) rfl)) (ev_op (ev_var rfl) ev_c (op_ixT (x := .int y) rfl)) op_add') ev_c op_I) fun _ =>
      ev_chain ev_m1 (ev_op (ev_var rfl) ev_c (op_ixT (x := .int z) rfl)) op_I (fun _ => ev_c) fun _ => op_I))))) ?_
  unfold uB inB
  cases decide (-1 ≤ z) <;> cases decide (z ≤ 4) <;> cases decide (0 ≤ x) <;> cases decide (x ≤ 9) <;> cases decide (0 ≤ y) <;> cases decide (y ≤ 9) <;> cases h : decide (0 < x + y) <;> simp_all
theorem s_is_urn {d : PyData} {p : Bool} (hd : noDict d = true) (h : Ev (m_is_urn_of [d]) (.bool p)) : Ev (m_is_urn [d]) (.bool p) := ev_def (rt_ret (ev_call (eva_cons (ev_var (st1 hd)) eva_nil) h rfl))
end Kp

namespace Kp
open PySem PySem.Spec PyProof.Rows L2 Dl Um
structure UOk (w b m : Int) : Prop where
  w0 : 0 ≤ w
  w9 : w ≤ 9
  b0 : 0 ≤ b
  b9 : b ≤ 9
  pos : 0 < w + b
  m1 : -1 ≤ m
  m4 : m ≤ 4
abbrev Rl (r : List Bool) : PyData := .list (r.map bi)
abbrev Rt' (r : List Bool) : PyData := .tuple (r.map bi)
theorem uB_ok {w b m : Int} (h : UOk w b m) : uB w b m = true := by
  unfold uB inB
  rw [decide_eq_true h.m1, decide_eq_true h.m4, decide_eq_true h.w0, decide_eq_true h.w9, decide_eq_true h.b0, decide_eq_true h.b9, decide_eq_true h.pos]
  rfl
theorem ze_append : ∀ r s : List Bool, ze (r ++ s) = ze r + ze s
  | [], s => by show ze s = 0 + ze s; omega
  | c :: r, s => by
    show (if c then 0 else 1) + ze (r ++ s) = (if c then 0 else 1) + ze r + ze s
    rw [ze_append r s]
    omega
section
variable {w b m : Int} {r : List Bool} {V : PyData}
theorem s_check_urn (h : UOk w b m) : Ev (m_check_urn [ur w b m]) .none :=
  ev_defN (ex_ifF (evt_notF (evt_b (ev_toB (ev_call (eva_cons (ev_var rfl) eva_nil) (s_urn_int w b m) rfl) (uB_ok h)))) ex_nil)
theorem s_most (h : UOk w b m) : Ev (m_most_draws [ur w b m]) (.int (most w b m : Int)) := by
  have hp := h.pos
  have h1 := h.m1
  by_cases e : m < 0
  · have e1 : m = -1 := by omega
    refine ev_def (rt_ret (ev_ifT (evt_b (ev_toB (ev_op (ev_op (ev_var rfl) ev_c (op_ixT (x := .int m) rfl)) ev_c op_I) (decide_eq_true e))) (ev_to (ev_cb (eva_cons ev_md (eva_cons (ev_op (ev_op (ev_var rfl) ev_c (op_ixT (x := .int w) rfl)) (ev_op (ev_var rfl) ev_c (op_ixT (x := .int b) rfl)) op_add') eva_nil)) (fun k => rfl)) ?_)))
    unfold most
    rw [if_pos e1]
    congr 1
    split <;> omega
  · have e1 : ¬ m = -1 := by omega
    refine ev_def (rt_ret (ev_ifF (evt_b (ev_toB (ev_op (ev_op (ev_var rfl) ev_c (op_ixT (x := .int m) rfl)) ev_c op_I) (decide_eq_false e))) (ev_to ev_md ?_)))
    unfold most
    rw [if_neg e1]
    rfl
theorem most_le (w b m : Int) : most w b m ≤ 8 := by
  unfold most
  split <;> omega
theorem bit_in (c : Bool) : inB 0 (if c then 1 else 0) 1 = true := by cases c <;> rfl
theorem s_is_row (hV : V = Rl r ∨ V = Rt' r) {n : Nat} (hn : r.length ≤ n) (h8 : n ≤ 8) : Ev (m_is_row_to [V, .int (n : Int)]) (.bool true) := by
  have hs : small (r.map bi).length = true := by rw [List.length_map]; exact small_le (m := 20) (by omega)
  have hl : decide (((r.map bi).length : Int) ≤ (n : Int)) = true := decide_eq_true (by rw [List.length_map]; omega)
  have hw : ∀ c ∈ r, Ev (m_is_within [bi c, .int 0, .int 1]) (.bool true) := fun c _ => ev_toB (s_is_within _ 0 1) (bit_in c)
  rcases hV with rfl | rfl
  · exact ev_def (rt_ret (ev_andT (ev_call (eva_cons (ev_var rfl) eva_nil) (ev_def (rt_ret (ev_toB (ev_isLT (ev_var rfl)) rfl))) rfl) (ev_andT (ev_toB (ev_op (ev_cb (eva_cons (ev_var rfl) eva_nil) cb_lenL) (ev_var rfl) op_I) hl)
      (all_map (ws := r) (f := bi) (evi_seqL (ev_var rfl)) (fun c hc => ⟨_, evg_n, ev_call (eva_cons (ev_var rfl) (eva_cons ev_c (eva_cons ev_c eva_nil))) (hw c hc) rfl⟩) (by rw [List.length_map] at hs; exact hs)))))
  · exact ev_def (rt_ret (ev_andT (ev_call (eva_cons (ev_var rfl) eva_nil) (ev_def (rt_ret (ev_toB (ev_isLT (ev_var rfl)) rfl))) rfl) (ev_andT (ev_toB (ev_op (ev_cb (eva_cons (ev_var rfl) eva_nil) cb_lenT) (ev_var rfl) op_I) hl)
      (all_map (ws := r) (f := bi) (evi_seqT (ev_var rfl)) (fun c hc => ⟨_, evg_n, ev_call (eva_cons (ev_var rfl) (eva_cons ev_c (eva_cons ev_c eva_nil))) (hw c hc) rfl⟩) (by rw [List.length_map] at hs; exact hs)))))
theorem look2 (hV : V = Rl r ∨ V = Rt' r) (U : PyData) (hU : U = ur w b m) (n : Nat) : look (startE (n + 2) [U, V]) 1 = .fz V ∧ look (startE (n + 2) [U, V]) 0 = .fz U := by
  subst hU
  rcases hV with rfl | rfl <;> exact ⟨rfl, rfl⟩
theorem s_check_row (h : UOk w b m) (hV : V = Rl r ∨ V = Rt' r) (hn : r.length ≤ most w b m) : Ev (m_check_row [ur w b m, V]) .none := by
  obtain ⟨l1, l0⟩ := look2 hV (ur w b m) rfl 0
  exact ev_defN (ex_seq (ex_expr (ev_call (eva_cons (ev_var l0) eva_nil) (s_check_urn h) rfl)) (ex_ifF (evt_notF (evt_b (ev_call (eva_cons (ev_var l1) (eva_cons (ev_call (eva_cons (ev_var l0) eva_nil) (s_most h) rfl) eva_nil)) (s_is_row hV hn (most_le w b m)) rfl))) ex_nil))
theorem ints_bits : ∀ r : List Bool, intsOf (r.map bi) = some (r.map fun c => if c then 1 else 0)
  | [] => rfl
  | c :: r => by
    show (match intsOf (r.map bi) with
      | some l => some ((if c then 1 else 0) :: l)
      | none => none) = _
    rw [ints_bits r]
    rfl
theorem sum_bits : ∀ r : List Bool, (r.map fun c => if c then (1 : Int) else 0).sum = (on r : Int)
  | [] => rfl
  | c :: r => by
    rw [List.map_cons, List.sum_cons, sum_bits r]
    show _ = (((if c then 1 else 0) + on r : Nat) : Int)
    cases c <;> simp
theorem ev_sum (hV : V = Rl r ∨ V = Rt' r) : Ev (gSum2 [V]) (.int (on r : Int)) := fun k => by
  rcases hV with rfl | rfl
  · unfold gSum2
    simp only [ints_bits, sum_bits]
  · unfold gSum2
    simp only [ints_bits, sum_bits]
theorem ev_lenV (hV : V = Rl r ∨ V = Rt' r) : Ev (gLen [V]) (.int (r.length : Int)) := by
  rcases hV with rfl | rfl
  · exact ev_to cb_lenL (by rw [List.length_map])
  · exact ev_to cb_lenT (by rw [List.length_map])
theorem mul_sm {i j : Int} (h1 : i.natAbs < 2 ^ 10) (h2 : j.natAbs < 2 ^ 10) : mulOk i j = true := mul_ok h1 h2 (by decide)
theorem k10 : (2 : Nat) ^ 10 = 1024 := by decide
theorem s_balls (h : UOk w b m) (hV : V = Rl r ∨ V = Rt' r) (hn : r.length ≤ 8) : Ev (m_balls_behind [ur w b m, V]) (.tuple [.int (w + m * (on r : Int)), .int (b + m * (ze r : Int))]) := by
  obtain ⟨l1, l0⟩ := look2 hV (ur w b m) rfl 3
  have hz := onze r
  have h1 := h.m1
  have h4 := h.m4
  have l1' : look ((((startE 5 [ur w b m, V]).set 2 (.fz (.int w))).set 3 (.fz (.int b))).set 4 (.fz (.int m))) 1 = .fz V := by rcases hV with rfl | rfl <;> rfl
  have es : ((r.length : Int) - (on r : Int)) = (ze r : Int) := by omega
  refine ev_def (rt_seq (ex_asg (ev_var l0) (evg_t (evgs_cons evg_n (evgs_cons evg_n (evgs_cons evg_n evgs_nil))) rfl)) (rt_ret (ev_tup (eva_cons (ev_op (ev_var ?_) (ev_op (ev_var ?_) (ev_cb (eva_cons (ev_var l1') eva_nil) (ev_sum hV)) (op_mul' ?_)) op_add') (eva_cons (ev_op (ev_var ?_) (ev_op (ev_var ?_) (ev_to (ev_op (ev_cb (eva_cons (ev_var l1') eva_nil) (ev_lenV hV)) (ev_cb (eva_cons (ev_var l1') eva_nil) (ev_sum hV)) op_sub') (by rw [es])) (op_mul' ?_)) op_add') eva_nil)) rfl)))
  · rcases hV with rfl | rfl <;> rfl
  · rcases hV with rfl | rfl <;> rfl
  · exact mul_sm (by rw [k10]; omega) (by rw [k10]; omega)
  · rcases hV with rfl | rfl <;> rfl
  · rcases hV with rfl | rfl <;> rfl
  · exact mul_sm (by rw [k10]; omega) (by rw [k10]; omega)
end
end Kp

namespace Kp
open PySem PySem.Spec PyProof.Rows L2 Dl Um
theorem goFor_cons {g : DG} {body : DS} {B : DEnds} {x : PyData} {xs : List PyData} {env : Sls} : goFor g body B (x :: xs) env = g x env (fun env' => body { nx := goFor g body B xs, rt := B.rt, ct := goFor g body B xs, bk := B.nx } env') := rfl
theorem for_ev {it : DI} {g : DG} {body : DS} {B : DEnds} {xs : List PyData} {env : Sls} (h : EvA (it env) xs) : sFor it g body B env = goFor g body B xs env := by unfold sFor; rw [h]
theorem enumD_cons {n : Nat} {x : PyData} {xs : List PyData} : enumD n (x :: xs) = .tuple [.int (n : Int), x] :: enumD (n + 1) xs := rfl
theorem ex_seq2 {a b : DS} {B : DEnds} {env e1 : Sls} (h : Ex a env e1) : sSeq a b B env = b B e1 := by unfold sSeq; rw [h]
theorem bd_nat {s n : Nat} (h : s < 2 ^ n) (hn : 0 < n := by decide) : Bd n (s : Rat) := by
  refine ⟨by rw [Rat.num_natCast]; exact h, ?_⟩
  rw [Rat.den_natCast]
  exact Nat.lt_of_lt_of_le (by decide : 1 < 2) (by
    cases n with
    | zero => omega
    | succ n => rw [Nat.pow_succ]; have := Nat.two_pow_pos n; omega)
def cr0 : DS := (sAsg (dC c_ONE) (gN 2))
def cr1_0 : DS := (sAsg (dCallN 2 m_balls_behind (aCons (dVar 0) (aCons (dSl (dVar 1) oNone (oSome (dVar 3))) aNil))) (gT 2 (gsCons (gN 5) (gsCons (gN 6) gsNil))))
def cr1_1 : DS := (sAsg (dCallN 2 m_multiply (aCons (dVar 2) (aCons (dCallN 2 m_reduced (aCons (dIf (dB (dOp gEq (dVar 4) (dC (.int 1)))) (dVar 5) (dVar 6)) (aCons (dOp gAdd (dVar 5) (dVar 6)) aNil))) aNil))) (gN 2))
def cr1_2 : DS := (sIf (dB (dOp gEq (dOp gIx (dVar 2) (dC (.int 0))) (dC (.int 0)))) (sRet (dVar 2)) sNil)
def cr1_t1 : DS := sSeq cr1_1 cr1_2
def cr1_t0 : DS := sSeq cr1_0 cr1_t1
def cr1 : DS := sFor (iEnumQ (dVar 1)) (gT 2 (gsCons (gN 3) (gsCons (gN 4) gsNil))) cr1_t0
def cr2 : DS := (sRet (dVar 2))
def crt1 : DS := sSeq cr1 cr2
def crt0 : DS := sSeq cr0 crt1
theorem creq : b_chance_of_row = crt0 := rfl
theorem k7 : (2 : Nat) ^ 7 = 128 := by decide
/-- all that a row's walk leans on -/
structure Pth (w b m : Int) (n : Nat) : Prop where
  u : UOk w b m
  n8 : n ≤ 8
  tot : ∀ t : Nat, t < n → 0 < w + b + m * (t : Int)
theorem tot_of {w b m : Int} (h : UOk w b m) {n : Nat} (hn : n ≤ most w b m) : Pth w b m n := ⟨h, Nat.le_trans hn (most_le w b m), fun t ht => by
  have hp := h.pos
  have h1 := h.m1
  unfold most at hn
  by_cases e : m = -1
  · subst e
    rw [if_pos rfl] at hn
    omega
  · have h0 : 0 ≤ m := by omega
    have : 0 ≤ m * (t : Int) := Int.mul_nonneg h0 (Int.natCast_nonneg t)
    omega⟩
section
variable {w b m : Int} {full : List Bool}
def wT (w m : Int) (pre : List Bool) : Int := w + m * (on pre : Int)
def bT (b m : Int) (pre : List Bool) : Int := b + m * (ze pre : Int)
theorem sT (w b m : Int) (pre : List Bool) : wT w m pre + bT b m pre = w + b + m * (pre.length : Int) := by
  unfold wT bT
  rw [← onze pre, Int.natCast_add, Int.mul_add]
  omega
theorem wT_next (pre : List Bool) (c : Bool) : wT w m (pre ++ [c]) = if c then wT w m pre + m else wT w m pre := by
  unfold wT
  rw [on_append]
  cases c
  · show w + m * ((on pre + 0 : Nat) : Int) = _
    rfl
  · show w + m * ((on pre + 1 : Nat) : Int) = w + m * (on pre : Int) + m
    rw [Int.natCast_add, Int.mul_add]
    omega
theorem bT_next (pre : List Bool) (c : Bool) : bT b m (pre ++ [c]) = if c then bT b m pre else bT b m pre + m := by
  unfold bT
  rw [ze_append]
  cases c
  · show b + m * ((ze pre + 1 : Nat) : Int) = b + m * (ze pre : Int) + m
    rw [Int.natCast_add, Int.mul_add]
    omega
  · show b + m * ((ze pre + 0 : Nat) : Int) = _
    rfl
theorem mul_le8 {m : Int} {k : Nat} (h1 : -1 ≤ m) (h4 : m ≤ 4) (hk : k ≤ 8) : -8 ≤ m * (k : Int) ∧ m * (k : Int) ≤ 32 := by
  obtain rfl | rfl | rfl | rfl | rfl | rfl : m = -1 ∨ m = 0 ∨ m = 1 ∨ m = 2 ∨ m = 3 ∨ m = 4 := by omega
  all_goals omega
theorem sizes (P : Pth w b m full.length) {pre r : List Bool} (e : pre ++ r = full) : (wT w m pre).natAbs < 2 ^ 6 ∧ (bT b m pre).natAbs < 2 ^ 6 := by
  have h := P.u
  have hw0 := h.w0
  have hw9 := h.w9
  have hb0 := h.b0
  have hb9 := h.b9
  have h8 := P.n8
  have hl : pre.length ≤ full.length := by rw [← e, List.length_append]; omega
  have hz := onze pre
  have h1 := mul_le8 (k := on pre) h.m1 h.m4 (by omega)
  have h2 := mul_le8 (k := ze pre) h.m1 h.m4 (by omega)
  have : (2 : Nat) ^ 6 = 64 := by decide
  unfold wT bT
  omega
theorem step_fr {c : Bool} {W Bk : Int} {s : Nat} (hs : W + Bk = (s : Int)) (h0 : s ≠ 0) (hW : W.natAbs < 2 ^ 6) (hB : Bk.natAbs < 2 ^ 6) {a : Rat} {n : Nat} (ha : Bd n a) (hn : n ≤ 200) :
    Ev (qReduced [.int (if c then W else Bk), .int (s : Int)]) (fr (((if c then W else Bk : Int) : Rat) / ((W + Bk : Int) : Rat))) ∧
    Ev (qPlain [.int (if c then W else Bk), .int (s : Int)]) (fr (((if c then W else Bk : Int) : Rat) / ((W + Bk : Int) : Rat))) ∧
    Bd 14 (((if c then W else Bk : Int) : Rat) / ((W + Bk : Int) : Rat)) := by
  have k6 : (2 : Nat) ^ 6 = 64 := by decide
  have hsl : s < 2 ^ 7 := by rw [k7]; omega
  have ht : (if c then W else Bk).natAbs < 2 ^ 7 := by rw [k7]; split <;> omega
  rw [hs, Rat.intCast_natCast]
  exact ⟨ev_red h0 hsl (by decide), ev_plain h0 hsl ht (by decide) (by decide), div_bd (bd_int ht (by decide)) (bd_nat hsl)⟩
theorem bit_eq (c : Bool) : eqI (if c then 1 else 0) 1 = c := by cases c <;> rfl
theorem zero_num {p : Rat} : eqI p.num 0 = decide (p = 0) := by
  rw [eqI_eq]
  by_cases h : p = 0
  · subst h; rfl
  · rw [decide_eq_false h, beq_eq_false_iff_ne]
    exact fun e => h (Rat.num_eq_zero.mp e)
theorem chance_loop (P : Pth w b m full.length) (T : Rat) (B : DEnds) (hB : ∀ e : Sls, look e 2 = .fz (fr T) → B.nx e = B.rt (fr T)) : ∀ (r pre : List Bool) (a : Rat) (j3 j4 j5 j6 : Sl), pre ++ r = full → Bd (14 * pre.length + 1) a → rc m r (wT w m pre) (bT b m pre) a = T →
    goFor (gT 2 (gsCons (gN 3) (gsCons (gN 4) gsNil))) cr1_t0 B (enumD pre.length (r.map bi)) [.fz (ur w b m), .fz (Rl full), .fz (fr a), j3, j4, j5, j6] = B.rt (fr T)
  | [], pre, a, j3, j4, j5, j6, e, ha, hT => hB _ (by rw [← hT]; rfl)
  | c :: r, pre, a, j3, j4, j5, j6, e, ha, hT => by
    have hlen : pre.length < full.length := by rw [← e, List.length_append, List.length_cons]; omega
    have h8 := P.n8
    have ht := P.tot pre.length hlen
    rw [← sT] at ht
    obtain ⟨s, hs⟩ : ∃ s : Nat, wT w m pre + bT b m pre = (s : Int) := ⟨_, (Int.toNat_of_nonneg (Int.le_of_lt ht)).symm⟩
    obtain ⟨hw, hb⟩ := sizes P e
    obtain ⟨q1, _, q3⟩ := step_fr (c := c) hs (by omega) hw hb ha (by omega)
    have hcut : Dl.cutD (full.map bi) none (some (pre.length : Int)) = pre.map bi := by
      rw [cut_lo (by rw [List.length_map]; omega), ← e, List.map_append, List.take_left' (List.length_map ..)]
    have hbal : Ev (m_balls_behind [ur w b m, Rl pre]) (.tuple [.int (wT w m pre), .int (bT b m pre)]) := s_balls P.u (.inl rfl) (by omega)
    have e1 : Ex cr1_0 [.fz (ur w b m), .fz (Rl full), .fz (fr a), .fz (.int (pre.length : Int)), .fz (bi c), j5, j6] [.fz (ur w b m), .fz (Rl full), .fz (fr a), .fz (.int (pre.length : Int)), .fz (bi c), .fz (.int (wT w m pre)), .fz (.int (bT b m pre))] :=
      ex_asg (ev_call (eva_cons (ev_var rfl) (eva_cons (ev_to (ev_sl (ev_var rfl) evo_none (evo_some (ev_var rfl)) op_cutL) (by rw [hcut])) eva_nil)) hbal rfl) (evg_t (evgs_cons evg_n (evgs_cons evg_n evgs_nil)) rfl)
    have hif : Ev (dIf (dB (dOp gEq (dVar 4) (dC (.int 1)))) (dVar 5) (dVar 6) [.fz (ur w b m), .fz (Rl full), .fz (fr a), .fz (.int (pre.length : Int)), .fz (bi c), .fz (.int (wT w m pre)), .fz (.int (bT b m pre))]) (.int (if c then wT w m pre else bT b m pre)) := by
      have hc : EvT (dB (dOp gEq (dVar 4) (dC (.int 1))) [.fz (ur w b m), .fz (Rl full), .fz (fr a), .fz (.int (pre.length : Int)), .fz (bi c), .fz (.int (wT w m pre)), .fz (.int (bT b m pre))]) c := evt_b (ev_toB (ev_op (ev_var rfl) ev_c op_eqI) (bit_eq c))
      cases c
      · exact ev_ifF hc (ev_var rfl)
      · exact ev_ifT hc (ev_var rfl)
    have ha2 := mul_bd ha q3
    have e2 : Ex cr1_1 [.fz (ur w b m), .fz (Rl full), .fz (fr a), .fz (.int (pre.length : Int)), .fz (bi c), .fz (.int (wT w m pre)), .fz (.int (bT b m pre))] [.fz (ur w b m), .fz (Rl full), .fz (fr (a * (((if c then wT w m pre else bT b m pre : Int) : Rat) / ((wT w m pre + bT b m pre : Int) : Rat)))), .fz (.int (pre.length : Int)), .fz (bi c), .fz (.int (wT w m pre)), .fz (.int (bT b m pre))] :=
      ex_asg (ev_call (eva_cons (ev_var rfl) (eva_cons (ev_call (eva_cons hif (eva_cons (ev_to (ev_op (ev_var rfl) (ev_var rfl) op_add') (by rw [hs])) eva_nil)) q1 rfl) eva_nil)) (ev_mul ha q3 (by omega)) rfl) evg_n
    have hnext : rc m (c :: r) (wT w m pre) (bT b m pre) a = rc m r (wT w m (pre ++ [c])) (bT b m (pre ++ [c])) (a * (((if c then wT w m pre else bT b m pre : Int) : Rat) / ((wT w m pre + bT b m pre : Int) : Rat))) := by
      rw [wT_next, bT_next]
      rfl
    rw [hnext] at hT
    generalize a * (((if c then wT w m pre else bT b m pre : Int) : Rat) / ((wT w m pre + bT b m pre : Int) : Rat)) = a2 at ha2 e2 hT
    have hz : EvT (dB (dOp gEq (dOp gIx (dVar 2) (dC (.int 0))) (dC (.int 0))) [.fz (ur w b m), .fz (Rl full), .fz (fr a2), .fz (.int (pre.length : Int)), .fz (bi c), .fz (.int (wT w m pre)), .fz (.int (bT b m pre))]) (decide (a2 = 0)) := evt_b (ev_toB (ev_op (ev_op (ev_var rfl) ev_c op_num) ev_c op_eqI) zero_num)
    rw [List.map_cons, enumD_cons, goFor_cons, (evg_t (evgs_cons evg_n (evgs_cons evg_n evgs_nil)) rfl : EvG (gT 2 (gsCons (gN 3) (gsCons (gN 4) gsNil)) (.tuple [.int (pre.length : Int), bi c]) [.fz (ur w b m), .fz (Rl full), .fz (fr a), j3, j4, j5, j6]) [.fz (ur w b m), .fz (Rl full), .fz (fr a), .fz (.int (pre.length : Int)), .fz (bi c), j5, j6])]
    unfold cr1_t0
    rw [ex_seq2 e1]
    unfold cr1_t1
    rw [ex_seq2 e2]
    by_cases h0 : a2 = 0
    · rw [decide_eq_true h0] at hz
      subst h0
      rw [rc_zero] at hT
      subst hT
      exact rt_ifT hz (rt_ret (ev_var rfl)) _
    · rw [decide_eq_false h0] at hz
      refine (ex_ifF hz ex_nil _).trans ?_
      have := chance_loop P T B hB r (pre ++ [c]) a2 (.fz (.int (pre.length : Int))) (.fz (bi c)) (.fz (.int (wT w m pre))) (.fz (.int (bT b m pre))) (by rw [List.append_assoc]; exact e) (ha2.mono (by rw [List.length_append, List.length_singleton]; omega)) hT
      rw [List.length_append, List.length_singleton] at this
      exact this
def chn (w b m : Int) (r : List Bool) : Rat := rc m r w b 1
theorem s_chance {r : List Bool} (P : Pth w b m r.length) : Ev (m_chance_of_row [ur w b m, Rl r]) (fr (chn w b m r)) := fun k => by
  unfold m_chance_of_row
  rw [k_mOf, creq]
  unfold crt0
  have e0 : Ex cr0 (startE 7 [ur w b m, Rl r]) [.fz (ur w b m), .fz (Rl r), .fz (fr 1), .no, .no, .no, .no] := ex_asg (d := fr 1) (fun _ => rfl) evg_n
  rw [ex_seq2 e0]
  unfold crt1
  rw [k_seq]
  unfold cr1
  rw [for_ev (evi_enumQ (ev_var rfl) rfl : EvA (iEnumQ (dVar 1) _) (enumD 0 (r.map bi)))]
  refine chance_loop (full := r) P (chn w b m r) _ (fun e he => ?_) r [] 1 .no .no .no .no rfl bd_one ?_
  · exact rt_ret (ev_var he) _
  · unfold wT bT chn
    show rc m r (w + m * 0) (b + m * 0) 1 = _
    rw [Int.mul_zero, Int.add_zero, Int.add_zero]
end
end Kp

namespace Kp
open PySem PySem.Spec PyProof.Rows L2 Dl Um
def lr0 : DS := (sAsg (dVar 0) (gT 3 (gsCons (gN 2) (gsCons (gN 3) (gsCons (gN 4) gsNil)))))
def lr1 : DS := (sAsg (dTup (aCons (dC (.int 1)) (aCons (dC (.int 1)) aNil))) (gN 5))
def lr2_0 : DS := (sAsg (dCallN 2 m__law_times (aCons (dVar 5) (aCons (dCallN 2 m__law_plain (aCons (dIf (dB (dOp gEq (dVar 6) (dC (.int 1)))) (dVar 2) (dVar 3)) (aCons (dOp gAdd (dVar 2) (dVar 3)) aNil))) aNil))) (gN 5))
def lr2_1 : DS := (sPar 2 3 (aCons (dOp gAdd (dVar 2) (dOp gMul (dVar 4) (dVar 6))) (aCons (dOp gAdd (dVar 3) (dOp gMul (dVar 4) (dOp gSub (dC (.int 1)) (dVar 6)))) aNil)))
def lr2_t0 : DS := sSeq lr2_0 lr2_1
def lr2 : DS := sFor (iSeq (dVar 1)) (gN 6) lr2_t0
def lr3 : DS := (sRet (dVar 5))
def lrt2 : DS := sSeq lr2 lr3
def lrt1 : DS := sSeq lr1 lrt2
def lrt0 : DS := sSeq lr0 lrt1
theorem lreq : b__law_row_chance = lrt0 := rfl
def co0 : DS := (sOwn 2 (fLst aNil))
def co1_0 : DS := (sAsg (dCallN 2 m_chance_of_row (aCons (dVar 0) (aCons (dOp gAdd (dOp gMul (dLst (aCons (dC (.int 1)) aNil)) (dVar 3)) (dOp gMul (dLst (aCons (dC (.int 0)) aNil)) (dOp gSub (dVar 1) (dVar 3)))) aNil))) (gN 4))
def co1_1 : DS := (sApp 2 (dCallN 2 m_multiply (aCons (dTup (aCons (dCallN 2 m_ways (aCons (dVar 1) (aCons (dVar 3) aNil))) (aCons (dC (.int 1)) aNil))) (aCons (dVar 4) aNil))))
def co1_t0 : DS := sSeq co1_0 co1_1
def co1 : DS := sFor (iRange1 (dOp gAdd (dVar 1) (dC (.int 1)))) (gN 3) co1_t0
def co2 : DS := (sRetO 2)
def cot1 : DS := sSeq co1 co2
def cot0 : DS := sSeq co0 cot1
theorem coeq : b_counts_of = cot0 := rfl
section
variable {w b m : Int} {full : List Bool} {V : PyData}
theorem law_loop (P : Pth w b m full.length) (U : PyData) (V : Sl) : ∀ (r pre : List Bool) (a : Rat) (j6 : Sl), pre ++ r = full → Bd (14 * pre.length + 1) a →
    ∃ w' b' j, ExF (gN 6) lr2_t0 (r.map bi) [.fz U, V, .fz (.int (wT w m pre)), .fz (.int (bT b m pre)), .fz (.int m), .fz (fr a), j6] [.fz U, V, .fz (.int w'), .fz (.int b'), .fz (.int m), .fz (fr (rc m r (wT w m pre) (bT b m pre) a)), j]
  | [], pre, a, j6, e, ha => ⟨_, _, _, exf_nil⟩
  | c :: r, pre, a, j6, e, ha => by
    have hlen : pre.length < full.length := by rw [← e, List.length_append, List.length_cons]; omega
    have h8 := P.n8
    have ht := P.tot pre.length hlen
    have h1 := P.u.m1
    have h4 := P.u.m4
    rw [← sT] at ht
    obtain ⟨s, hs⟩ : ∃ s : Nat, wT w m pre + bT b m pre = (s : Int) := ⟨_, (Int.toNat_of_nonneg (Int.le_of_lt ht)).symm⟩
    obtain ⟨hw, hb⟩ := sizes P e
    obtain ⟨_, q2, q3⟩ := step_fr (c := c) hs (by omega) hw hb ha (by omega)
    have hif : Ev (dIf (dB (dOp gEq (dVar 6) (dC (.int 1)))) (dVar 2) (dVar 3) [.fz U, V, .fz (.int (wT w m pre)), .fz (.int (bT b m pre)), .fz (.int m), .fz (fr a), .fz (bi c)]) (.int (if c then wT w m pre else bT b m pre)) := by
      have hc : EvT (dB (dOp gEq (dVar 6) (dC (.int 1))) [.fz U, V, .fz (.int (wT w m pre)), .fz (.int (bT b m pre)), .fz (.int m), .fz (fr a), .fz (bi c)]) c := evt_b (ev_toB (ev_op (ev_var rfl) ev_c op_eqI) (bit_eq c))
      cases c
      · exact ev_ifF hc (ev_var rfl)
      · exact ev_ifT hc (ev_var rfl)
    obtain ⟨w', b', j, ih⟩ := law_loop P U V r (pre ++ [c]) (a * (((if c then wT w m pre else bT b m pre : Int) : Rat) / ((wT w m pre + bT b m pre : Int) : Rat))) (.fz (bi c)) (by rw [List.append_assoc]; exact e) ((mul_bd ha q3).mono (by rw [List.length_append, List.length_singleton]; omega))
    have hnext : rc m (c :: r) (wT w m pre) (bT b m pre) a = rc m r (wT w m (pre ++ [c])) (bT b m (pre ++ [c])) (a * (((if c then wT w m pre else bT b m pre : Int) : Rat) / ((wT w m pre + bT b m pre : Int) : Rat))) := by
      rw [wT_next, bT_next]
      rfl
    rw [hnext]
    refine ⟨w', b', j, exf_cons evg_n (ex_seq (ex_asg (ev_call (eva_cons (ev_var rfl) (eva_cons (ev_call (eva_cons hif (eva_cons (ev_to (ev_op (ev_var rfl) (ev_var rfl) op_add') (by rw [hs])) eva_nil)) q2 rfl) eva_nil)) (ev_mulP ha q3 (by omega)) rfl) evg_n) (ex_par (x := .int (wT w m (pre ++ [c]))) (y := .int (bT b m (pre ++ [c]))) (eva_cons (ev_to (ev_op (ev_var rfl) (ev_op (ev_var rfl) (ev_var rfl) (op_mul' ?_)) op_add') ?_) (eva_cons (ev_to (ev_op (ev_var rfl) (ev_op (ev_var rfl) (ev_op ev_c (ev_var rfl) op_sub') (op_mul' ?_)) op_add') ?_) eva_nil)))) ih⟩
    · exact mul_sm (by rw [k10]; omega) (by rw [k10]; cases c <;> decide)
    · rw [wT_next]
      cases c
      · exact congrArg PyData.int (show wT w m pre + m * 0 = wT w m pre by omega)
      · exact congrArg PyData.int (show wT w m pre + m * 1 = wT w m pre + m by omega)
    · exact mul_sm (by rw [k10]; omega) (by rw [k10]; cases c <;> decide)
    · rw [bT_next]
      cases c
      · exact congrArg PyData.int (show bT b m pre + m * (1 - 0) = bT b m pre + m by omega)
      · exact congrArg PyData.int (show bT b m pre + m * (1 - 1) = bT b m pre by omega)
theorem wT_nil : wT w m [] = w := by unfold wT; show w + m * 0 = w; omega
theorem bT_nil : bT b m [] = b := by unfold bT; show b + m * 0 = b; omega
theorem l_row {r : List Bool} (P : Pth w b m r.length) : Ev (m__law_row_chance [ur w b m, Rl r]) (fr (chn w b m r)) := by
  obtain ⟨w', b', j, he⟩ := law_loop (full := r) P (ur w b m) (.fz (Rl r)) r [] 1 .no rfl bd_one
  rw [wT_nil, bT_nil] at he
  exact ev_def (rt_seq (ex_asg (ev_var rfl) (evg_t (evgs_cons evg_n (evgs_cons evg_n (evgs_cons evg_n evgs_nil))) rfl)) (rt_seq (ex_asg ev_lit1 evg_n) (rt_seq (ex_for (evi_seqL (ev_var rfl)) he) (rt_ret (ev_var rfl)))))
theorem chn_bd {r : List Bool} (P : Pth w b m r.length) : Bd 113 (chn w b m r) := by
  have key : ∀ (r pre : List Bool) (a : Rat) (full : List Bool), Pth w b m full.length → pre ++ r = full → Bd (14 * pre.length + 1) a → Bd (14 * full.length + 1) (rc m r (wT w m pre) (bT b m pre) a) := by
    intro r
    induction r with
    | nil =>
      intro pre a full P e ha
      rw [List.append_nil] at e
      subst e
      exact ha
    | cons c r ih =>
      intro pre a full P e ha
      have hlen : pre.length < full.length := by rw [← e, List.length_append, List.length_cons]; omega
      have h8 := P.n8
      have ht := P.tot pre.length hlen
      rw [← sT] at ht
      obtain ⟨s, hs⟩ : ∃ s : Nat, wT w m pre + bT b m pre = (s : Int) := ⟨_, (Int.toNat_of_nonneg (Int.le_of_lt ht)).symm⟩
      obtain ⟨hw, hb⟩ := sizes P e
      obtain ⟨_, _, q3⟩ := step_fr (c := c) hs (by omega) hw hb ha (by omega)
      have := ih (pre ++ [c]) (a * (((if c then wT w m pre else bT b m pre : Int) : Rat) / ((wT w m pre + bT b m pre : Int) : Rat))) full P (by rw [List.append_assoc]; exact e) ((mul_bd ha q3).mono (by rw [List.length_append, List.length_singleton]; omega))
      rw [wT_next, bT_next] at this
      exact this
  have := key r [] 1 r P rfl bd_one
  rw [wT_nil, bT_nil] at this
  exact this.mono (by have := P.n8; omega)
theorem s_row {r : List Bool} (h : UOk w b m) (hV : V = Rl r ∨ V = Rt' r) (hn : r.length ≤ most w b m) : Ev (m_row_chance [ur w b m, V]) (fr (chn w b m r)) := by
  obtain ⟨l1, l0⟩ := look2 hV (ur w b m) rfl 0
  refine ev_def (rt_seq (ex_expr (ev_call (eva_cons (ev_var l0) (eva_cons (ev_var l1) eva_nil)) (s_check_row h hV hn) rfl)) (rt_ret (ev_call (eva_cons (ev_var l0) (eva_cons (ev_cb (r := Rl r) (eva_cons (ev_var l1) eva_nil) ?_) eva_nil)) (s_chance (tot_of h hn)) rfl)))
  rcases hV with rfl | rfl
  · exact cb_lstL
  · exact cb_lstT
theorem s_next {r : List Bool} (h : UOk w b m) (hV : V = Rl r ∨ V = Rt' r) (hn : r.length ≤ most w b m) (hc : chn w b m r ≠ 0) (ht : 0 < w + b + m * (r.length : Int)) : Ev (m_next_white [ur w b m, V]) (fr ((wT w m r : Rat) / ((wT w m r + bT b m r : Int) : Rat))) := by
  obtain ⟨l1, l0⟩ := look2 hV (ur w b m) rfl 2
  have P := tot_of h hn
  have h8 := P.n8
  rw [← sT] at ht
  obtain ⟨s, hs⟩ : ∃ s : Nat, wT w m r + bT b m r = (s : Int) := ⟨_, (Int.toNat_of_nonneg (Int.le_of_lt ht)).symm⟩
  obtain ⟨hw, hb⟩ := sizes (full := r) P (pre := r) (r := []) (List.append_nil r)
  obtain ⟨q1, _, _⟩ := step_fr (c := true) hs (by omega) hw hb bd_one (by decide)
  have l1' : look (((startE 4 [ur w b m, V]).set 2 (.fz (.int (wT w m r)))).set 3 (.fz (.int (bT b m r)))) 1 = .fz V := by rcases hV with rfl | rfl <;> rfl
  have l0' : look (((startE 4 [ur w b m, V]).set 2 (.fz (.int (wT w m r)))).set 3 (.fz (.int (bT b m r)))) 0 = .fz (ur w b m) := by rcases hV with rfl | rfl <;> rfl
  have l2' : look (((startE 4 [ur w b m, V]).set 2 (.fz (.int (wT w m r)))).set 3 (.fz (.int (bT b m r)))) 2 = .fz (.int (wT w m r)) := by rcases hV with rfl | rfl <;> rfl
  have l3' : look (((startE 4 [ur w b m, V]).set 2 (.fz (.int (wT w m r)))).set 3 (.fz (.int (bT b m r)))) 3 = .fz (.int (bT b m r)) := by rcases hV with rfl | rfl <;> rfl
  refine ev_def (rt_seq (ex_expr (ev_call (eva_cons (ev_var l0) (eva_cons (ev_var l1) eva_nil)) (s_check_row h hV hn) rfl)) (rt_seq (ex_asg (ev_call (eva_cons (ev_var l0) (eva_cons (ev_var l1) eva_nil)) (s_balls h hV h8) rfl) (evg_t (evgs_cons evg_n (evgs_cons evg_n evgs_nil)) rfl))
    (rt_seq (ex_ifF (evt_orF (evt_b (ev_toB (ev_op (ev_op (ev_call (eva_cons (ev_var l0') (eva_cons (ev_cb (r := Rl r) (eva_cons (ev_var l1') eva_nil) ?_) eva_nil)) (s_chance P) rfl) ev_c op_num) ev_c op_eqI) ?_)) (evt_b (ev_toB (ev_op (ev_op (ev_var l2') (ev_var l3') op_add') ev_c op_eqI) ?_))) ex_nil)
      (rt_ret (ev_call (eva_cons (ev_var l2') (eva_cons (ev_to (ev_op (ev_var l2') (ev_var l3') op_add') (by rw [hs])) eva_nil)) q1 rfl)))))
  · rcases hV with rfl | rfl
    · exact cb_lstL
    · exact cb_lstT
  · rw [zero_num]; exact decide_eq_false hc
  · rw [eqI_eq, beq_eq_false_iff_ne]; omega
end
theorem ways_all : ∀ n : Nat, n < 9 → ∀ i : Nat, i < 9 → Ev (m_ways [.int (n : Int), .int (i : Int)]) (.int (wy n i)) := by
  intro n hn i hi
  obtain rfl | rfl | rfl | rfl | rfl | rfl | rfl | rfl | rfl : n = 0 ∨ n = 1 ∨ n = 2 ∨ n = 3 ∨ n = 4 ∨ n = 5 ∨ n = 6 ∨ n = 7 ∨ n = 8 := by omega
  all_goals
    obtain rfl | rfl | rfl | rfl | rfl | rfl | rfl | rfl | rfl : i = 0 ∨ i = 1 ∨ i = 2 ∨ i = 3 ∨ i = 4 ∨ i = 5 ∨ i = 6 ∨ i = 7 ∨ i = 8 := by omega
    all_goals exact fun k => rfl
theorem l_ways_eq : m__law_ways = m_ways := rfl
end Kp

namespace Kp
open PySem PySem.Spec PyProof.Rows L2 Dl Um
def ls0 : DS := (sAsg (dTup (aCons (dC (.int 0)) (aCons (dC (.int 1)) aNil))) (gT 2 (gsCons (gN 1) (gsCons (gN 2) gsNil))))
def ls1_0 : DS := (sAsg (dCallN 2 m__law_plain (aCons (dOp gAdd (dOp gMul (dVar 1) (dOp gIx (dVar 3) (dC (.int 1)))) (dOp gMul (dOp gIx (dVar 3) (dC (.int 0))) (dVar 2))) (aCons (dOp gMul (dVar 2) (dOp gIx (dVar 3) (dC (.int 1)))) aNil))) (gT 2 (gsCons (gN 1) (gsCons (gN 2) gsNil))))
def ls1 : DS := sFor (iSeq (dVar 0)) (gN 3) ls1_0
def ls2 : DS := (sRet (dTup (aCons (dVar 1) (aCons (dVar 2) aNil))))
def lst1 : DS := sSeq ls1 ls2
def lst0 : DS := sSeq ls0 lst1
theorem lseq : b__law_sum = lst0 := rfl
def rowi (n i : Nat) : List Bool := List.replicate i true ++ List.replicate (n - i) false
theorem on_rep : ∀ i : Nat, on (List.replicate i true) = i ∧ on (List.replicate i false) = 0
  | 0 => ⟨rfl, rfl⟩
  | i + 1 => by
    obtain ⟨h1, h2⟩ := on_rep i
    rw [List.replicate_succ, List.replicate_succ]
    exact ⟨by show 1 + on _ = _; omega, by show 0 + on _ = _; omega⟩
theorem on_rowi {n i : Nat} (h : i ≤ n) : on (rowi n i) = i ∧ (rowi n i).length = n := by
  unfold rowi
  rw [on_append, (on_rep i).1, (on_rep (n - i)).2, List.length_append, List.length_replicate, List.length_replicate]
  omega
def cf (w b m : Int) (n i : Nat) : Rat := (wy n i : Rat) * chn w b m (rowi n i)
def cl (w b m : Int) (n : Nat) : List Rat := (List.range (n + 1)).map (cf w b m n)
section
variable {w b m : Int}
theorem ev_rowi {env : Sls} {a c : Nat} {n i : Nat} (hn : look env a = .fz (.int (n : Int))) (hi : look env c = .fz (.int (i : Int))) (h : i ≤ n) (h8 : n ≤ 8) : Ev (dOp gAdd (dOp gMul (dLst (aCons (dC (.int 1)) aNil)) (dVar c)) (dOp gMul (dLst (aCons (dC (.int 0)) aNil)) (dOp gSub (dVar a) (dVar c))) env) (Rl (rowi n i)) := by
  refine ev_to (ev_op (ev_op (ev_lst (eva_cons ev_c eva_nil) rfl) (ev_var hi) (op_rep1 (by omega))) (ev_op (ev_lst (eva_cons ev_c eva_nil) rfl) (ev_to (ev_op (ev_var hn) (ev_var hi) op_sub') (by rw [show (n : Int) - (i : Int) = ((n - i : Nat) : Int) by omega])) (op_rep1 (by omega))) (op_catL ?_)) ?_
  · rw [List.length_replicate, List.length_replicate]
    exact small_le (m := 40) (by omega)
  · show _ = PyData.list (List.map bi (List.replicate i true ++ List.replicate (n - i) false))
    rw [List.map_append, List.map_replicate, List.map_replicate]
    rfl
theorem path_at (h : UOk w b m) {n i : Nat} (hn : n ≤ most w b m) (hi : i ≤ n) : Pth w b m (rowi n i).length := by
  rw [(on_rowi hi).2]
  exact tot_of h hn
theorem wy_bd {n i : Nat} (hn : n ≤ 8) (hi : i ≤ n) : Bd 7 ((wy n i : Int) : Rat) := bd_int (wy_small n (by omega) i (by omega)) (by decide)
theorem cf_bd (h : UOk w b m) {n i : Nat} (hn : n ≤ most w b m) (hi : i ≤ n) : Bd 120 (cf w b m n i) :=
  mul_bd (wy_bd (Nat.le_trans hn (most_le w b m)) hi) (chn_bd (path_at h hn hi))
theorem s_counts (h : UOk w b m) {n : Nat} (hn : n ≤ most w b m) : Ev (m_counts_of [ur w b m, .int (n : Int)]) (.list ((cl w b m n).map fr)) := by
  have h8 := most_le w b m
  obtain ⟨e, ⟨j3, j4, rfl⟩, he⟩ := for_inv (g := gN 3) (body := co1_t0) (f := fun i : Nat => .int (i : Int)) (xs := List.range (n + 1))
    (fun pre _ e => ∃ j3 j4, e = [.fz (ur w b m), .fz (.int (n : Int)), .ow ((pre.map (cf w b m n)).map fr), j3, j4]) (by
    rintro pre i rest e hq ⟨j3, j4, rfl⟩
    have hm : i ∈ List.range (n + 1) := by rw [← hq]; simp
    have hi := List.mem_range.mp hm
    have hl : pre.length ≤ n := by have := congrArg List.length hq; simp at this; omega
    refine ⟨_, _, evg_n, ex_seq (ex_asg (ev_call (eva_cons (ev_var rfl) (eva_cons (ev_rowi (n := n) (i := i) rfl rfl (by omega) (by omega)) eva_nil)) (s_chance (path_at h hn (by omega))) rfl) evg_n)
      (ex_app (d := fr (cf w b m n i)) rfl (ev_call (eva_cons (ev_litI (ev_call (eva_cons (ev_var rfl) (eva_cons (ev_var rfl) eva_nil)) (ways_all n (by omega) i (by omega)) rfl)) (eva_cons (ev_var rfl) eva_nil)) (ev_mul (wy_bd (by omega) (by omega)) (chn_bd (path_at h hn (by omega))) (by decide)) rfl) ?_), ⟨.fz (.int (i : Int)), .fz (fr (chn w b m (rowi n i))), ?_⟩⟩
    · rw [List.length_map, List.length_map]
      exact small_le (m := 20) (by omega)
    · rw [List.map_append, List.map_append]
      rfl) (List.range (n + 1)) [] [.fz (ur w b m), .fz (.int (n : Int)), .ow [], .no, .no] rfl ⟨_, _, rfl⟩
  exact ev_defF (rt_seq (ex_own (evf_lst eva_nil rfl)) (rt_seq (ex_for (evi_rangeN (n := n + 1) (ev_op (ev_var rfl) ev_c op_add') (by omega)) he) (rt_retO rfl)))
theorem s_check_number {i a z : Int} (h : inB a i z = true) : Ev (m_check_number [.int i, .int a, .int z]) .none :=
  ev_defN (ex_ifF (evt_notF (evt_b (ev_toB (ev_call (eva_cons (ev_var rfl) (eva_cons (ev_var rfl) (eva_cons (ev_var rfl) eva_nil))) (s_is_within i a z) rfl) h))) ex_nil)
theorem s_count (h : UOk w b m) {n : Nat} (hn : n ≤ most w b m) : Ev (m_count_chances [ur w b m, .int (n : Int)]) (.list ((cl w b m n).map fr)) := by
  refine ev_defF (rt_seq (ex_expr (ev_call (eva_cons (ev_var rfl) eva_nil) (s_check_urn h) rfl)) (rt_seq (ex_expr (ev_call (eva_cons (ev_var rfl) (eva_cons ev_c (eva_cons (ev_call (eva_cons (ev_var rfl) eva_nil) (s_most h) rfl) eva_nil))) (s_check_number ?_) rfl)) (rt_retF (evf_call (eva_cons (ev_var rfl) (eva_cons (ev_var rfl) eva_nil)) (s_counts h hn) rfl))))
  unfold inB
  rw [decide_eq_true (Int.natCast_nonneg n), decide_eq_true (show (n : Int) ≤ (most w b m : Int) by omega)]
  rfl
/-! the values -/
theorem cf_eq {n i : Nat} (hi : i ≤ n) : cf w b m n i = ((wy n i * IW w m i * IW b m (n - i) : Int) : Rat) / ((IW (w + b) m n : Int) : Rat) := by
  obtain ⟨h1, h2⟩ := on_rowi hi
  have h3 := onze (rowi n i)
  unfold cf chn
  rw [rc_eq, h1, h2, show ze (rowi n i) = n - i by omega, FW_eq, FW_eq, FW_eq, Rat.one_mul, Rat.intCast_mul, Rat.intCast_mul, Rat.div_def, Rat.div_def]
  grind
theorem cl_eq (n : Nat) : cl w b m n = (zs w b m n).map fun z : Int => (z : Rat) / ((IW (w + b) m n : Int) : Rat) := by
  unfold cl zs
  rw [List.map_map]
  refine List.map_congr_left fun i hi => ?_
  exact cf_eq (by have := List.mem_range.mp hi; omega)
theorem cl_turn {n : Nat} (h8 : n ≤ 8) : cl b w m n = (cl w b m n).reverse := by
  refine List.ext_getElem (by simp [cl]) fun i h1 h2 => ?_
  have hi : i < n + 1 := by simpa [cl] using h1
  rw [List.getElem_reverse]
  have e : (cl w b m n).length - 1 - i = n - i := by simp [cl]
  simp only [e]
  have g1 : (cl b w m n)[i] = cf b w m n i := by simp [cl]
  have g2 : ∀ h, (cl w b m n)[n - i]'h = cf w b m n (n - i) := fun h => by simp [cl]
  rw [g1, g2, cf_eq (by omega), cf_eq (by omega), wy_turn n (by omega) i hi, Int.add_comm b w, show n - (n - i) = i by omega]
  congr 2
  grind
end
/-! sums -/
theorem ev_sumP {p q : Rat} {m n : Nat} (hp : Bd m p) (hq : Bd n q) (h : m + n ≤ 8998) : Ev (qPlain [.int (p.num * (q.den : Int) + q.num * (p.den : Int)), .int ((p.den : Int) * (q.den : Int))]) (fr (p + q)) := fun k => by
  have h1 := nat_mul_lt hp.1 hq.2
  have h2 := nat_mul_lt hq.1 hp.2
  have h3 := pow_mul_lt hp.2 hq.2
  have e : 2 ^ (m + n + 1) = 2 ^ (m + n) + 2 ^ (m + n) := by rw [Nat.pow_succ]; omega
  rw [Nat.add_comm n m] at h2
  have h4 : (p.num * (q.den : Int) + q.num * (p.den : Int)).natAbs < 2 ^ (m + n + 1) := by
    have := Int.natAbs_add_le (p.num * (q.den : Int)) (q.num * (p.den : Int))
    omega
  rw [plain_red (by have := log_lt h4; omega), Rat.add_def']
  exact red_fr (den_ne p q) h3 (by omega)
def sumF : Rat → List Rat → Rat
  | a, [] => a
  | a, x :: l => sumF (a + x) l
theorem sumF_eq : ∀ (l : List Rat) (a : Rat), sumF a l = a + sumR l
  | [], a => by show a = a + 0; grind
  | x :: l, a => by
    show sumF (a + x) l = a + (x + sumR l)
    rw [sumF_eq l]
    grind
theorem sum_loop (V : Sl) : ∀ (l : List Rat) (a : Rat) (n : Nat) (j : Sl), (∀ x ∈ l, Bd 130 x) → Bd n a → n + 131 * l.length ≤ 8000 → ∃ j', ExF (gN 3) ls1_0 (l.map fr) [V, .fz (.int a.num), .fz (.int (a.den : Int)), j] [V, .fz (.int (sumF a l).num), .fz (.int ((sumF a l).den : Int)), j']
  | [], a, n, j, _, _, _ => ⟨_, exf_nil⟩
  | x :: l, a, n, j, hx, ha, hn => by
    rw [List.length_cons] at hn
    have hb := hx x List.mem_cons_self
    obtain ⟨j', ih⟩ := sum_loop V l (a + x) (n + 131) (.fz (fr x)) (fun y hy => hx y (List.mem_cons_of_mem _ hy)) ((add_bd ha hb).mono (by omega)) (by omega)
    refine ⟨j', exf_cons evg_n (ex_asg (d := fr (a + x)) (ev_call (eva_cons (ev_op (ev_op (ev_var rfl) (ev_op (ev_var rfl) ev_c op_den) (op_mul' ?_)) (ev_op (ev_op (ev_var rfl) ev_c op_num) (ev_var rfl) (op_mul' ?_)) op_add') (eva_cons (ev_op (ev_var rfl) (ev_op (ev_var rfl) ev_c op_den) (op_mul' ?_)) eva_nil)) (ev_sumP ha hb (by omega)) rfl) (evg_t (evgs_cons evg_n (evgs_cons evg_n evgs_nil)) rfl)) ih⟩
    · exact mul_ok (m := n) (n := 130) ha.1 hb.2 (by omega)
    · exact mul_ok (m := 130) (n := n) hb.1 ha.2 (by omega)
    · exact mul_ok (m := n) (n := 130) (i := Int.ofNat a.den) (j := Int.ofNat x.den) ha.2 hb.2 (by omega)
theorem l_sum {l : List Rat} (hl : l.length ≤ 20) (hx : ∀ x ∈ l, Bd 130 x) : Ev (m__law_sum [.list (l.map fr)]) (fr (sumR l)) := by
  obtain ⟨j', he⟩ := sum_loop (.fz (.list (l.map fr))) l 0 1 .no hx bd_zero (by omega)
  have e : sumF 0 l = sumR l := by rw [sumF_eq]; grind
  rw [e] at he
  exact ev_def (rt_seq (ex_asg (ev_tup (eva_cons ev_c (eva_cons ev_c eva_nil)) rfl) (evg_t (evgs_cons evg_n (evgs_cons evg_n evgs_nil)) rfl)) (rt_seq (ex_for (evi_seqL (ev_var rfl)) he) (rt_ret (ev_tup (eva_cons (ev_var rfl) (eva_cons (ev_var rfl) eva_nil)) rfl))))
end Kp

namespace Kp
open PySem PySem.Spec PyProof.Rows L2 Dl Um
theorem evt_borT {env env' : Sls} {is : List Nat} {a : DT} {p : Bool} (h : frzAll env is = some env') (ha : EvT (a env') p) : EvT (dBorT is a env) p := fun k => by unfold dBorT; rw [h]; exact ha k
theorem go_frz {env e1 : Sls} {i : Nat} {a : DS} {B : DEnds} (h : freeze env i = some e1) (ha : a B e1 = true) : sFrz i a B env = true := by unfold sFrz; rw [h]; exact ha
theorem k_potA {A : DE} {m : Fn} {e : Sls} {k : KF} : dCallN 2 m (aPot 0 (aCons A aNil)) (.pt :: e) k = A (.pt :: e) fun a => m [potD, a] k := rfl
theorem k_par2 {A C : DE} {i j : Nat} {B : DEnds} {env : Sls} : sPar i j (aCons A (aCons C aNil)) B env = A env fun a => C env fun c => B.nx ((env.set i (.fz a)).set j (.fz c)) := rfl
theorem k_seqasg {A : DE} {i : Nat} {t : DS} {B : DEnds} {env : Sls} : sSeq (sAsg A (gN i)) t B env = A env fun d => t B (env.set i (.fz d)) := rfl
theorem k_seqpar {A C : DE} {i j : Nat} {t : DS} {B : DEnds} {env : Sls} : sSeq (sPar i j (aCons A (aCons C aNil))) t B env = A env fun a => C env fun c => t B ((env.set i (.fz a)).set j (.fz c)) := rfl
theorem goLc_cons {tg : DG} {tt : DT} {el : DE} {env : Sls} {x : PyData} {xs acc : List PyData} {k : KF} : goLc tg tt el env (x :: xs) acc k = tg x env fun env' => tt env' fun b => match b with
  | true => el env' fun d => goLc tg tt el env xs (d :: acc) k
  | false => goLc tg tt el env xs acc k := rfl
theorem k_lc {it : DI} {tg : DG} {tt : DT} {el : DE} {vs : List Nat} {env : Sls} {k : KF} : dLc it tg tt el vs env k = it env fun xs => match small xs.length with
  | true => goLc tg tt el (wipeE env vs) xs [] k
  | false => false := rfl
/-! the urn -/
theorem urn_all {k : KF} (q : ∀ (w b : Nat) (m : Int), m ∈ ms → w < 6 → b < 6 → 0 < w + b → k (ur w b m) = true) : m__law_urn [potD] k = true := by
  unfold m__law_urn
  rw [k_mOf]
  unfold b__law_urn
  rw [k_seqasg]
  show dCallN 2 m__law_pick (aPot 0 (aCons (dLst (aCons (dUn gNeg (dC (.int 1))) (aCons (dUn gNeg (dC (.int 1))) (aCons (dC (.int 0)) (aCons (dC (.int 1)) (aCons (dC (.int 1)) (aCons (dC (.int 2)) (aCons (dC (.int 3)) (aCons (dC (.int 4)) aNil))))))))) aNil)) (.pt :: [.no, .no, .no]) _ = true
  rw [k_potA]
  rw [(ev_lst (eva_cons ev_m1 (eva_cons ev_m1 (eva_cons ev_c (eva_cons ev_c (eva_cons ev_c (eva_cons ev_c (eva_cons ev_c (eva_cons ev_c eva_nil)))))))) rfl : Ev (dLst (aCons (dUn gNeg (dC (.int 1))) (aCons (dUn gNeg (dC (.int 1))) (aCons (dC (.int 0)) (aCons (dC (.int 1)) (aCons (dC (.int 1)) (aCons (dC (.int 2)) (aCons (dC (.int 3)) (aCons (dC (.int 4)) aNil)))))))) (.pt :: [.no, .no, .no])) (.list [.int (-1), .int (-1), .int 0, .int 1, .int 1, .int 2, .int 3, .int 4]))]
  unfold m__law_pick b__law_pick
  refine pick_all (xs := [.int (-1), .int (-1), .int 0, .int 1, .int 1, .int 2, .int 3, .int 4]) (by simp) (by decide) fun x hx => ?_
  obtain ⟨m, hm, rfl⟩ : ∃ m, m ∈ ms ∧ x = .int m := by
    simp only [List.mem_cons, List.not_mem_nil, or_false] at hx
    rcases hx with rfl | rfl | rfl | rfl | rfl | rfl | rfl | rfl
    · exact ⟨-1, by decide, rfl⟩
    · exact ⟨-1, by decide, rfl⟩
    · exact ⟨0, by decide, rfl⟩
    · exact ⟨1, by decide, rfl⟩
    · exact ⟨1, by decide, rfl⟩
    · exact ⟨2, by decide, rfl⟩
    · exact ⟨3, by decide, rfl⟩
    · exact ⟨4, by decide, rfl⟩
  rw [k_seqpar]
  refine draw_all (n := 5) rfl (by decide) fun c1 h1 => ?_
  refine draw_all (n := 5) rfl (by decide) fun c2 h2 => ?_
  by_cases h0 : 0 < c1 + c2
  · have e : Rt (sRet (dTup (aCons (dIf (dB (dOp gGt (dOp gAdd (dVar 2) (dVar 3)) (dC (.int 0)))) (dVar 2) (dC (.int 1))) (aCons (dVar 3) (aCons (dVar 1) aNil))))) [.pt, .fz (.int m), .fz (.int (c1 : Int)), .fz (.int (c2 : Int))] (ur c1 c2 m) :=
      rt_ret (ev_tup (eva_cons (ev_ifT (evt_b (ev_toB (ev_op (ev_op (ev_var rfl) (ev_var rfl) op_add') ev_c op_I) (decide_eq_true (show (0 : Int) < (c1 : Int) + (c2 : Int) by omega)))) (ev_var rfl)) (eva_cons (ev_var rfl) (eva_cons (ev_var rfl) eva_nil))) rfl)
    exact (e _).trans (q c1 c2 m hm (by omega) (by omega) h0)
  · have e : Rt (sRet (dTup (aCons (dIf (dB (dOp gGt (dOp gAdd (dVar 2) (dVar 3)) (dC (.int 0)))) (dVar 2) (dC (.int 1))) (aCons (dVar 3) (aCons (dVar 1) aNil))))) [.pt, .fz (.int m), .fz (.int (c1 : Int)), .fz (.int (c2 : Int))] (ur 1 c2 m) :=
      rt_ret (ev_tup (eva_cons (ev_ifF (evt_b (ev_toB (ev_op (ev_op (ev_var rfl) (ev_var rfl) op_add') ev_c op_I) (decide_eq_false (show ¬ (0 : Int) < (c1 : Int) + (c2 : Int) by omega)))) ev_c) (eva_cons (ev_var rfl) (eva_cons (ev_var rfl) eva_nil))) rfl)
    exact (e _).trans (q 1 c2 m hm (by omega) (by omega) (by omega))
/-! rows -/
theorem rows_go {e : Sls} {k : KF} : ∀ (l : List PyData) (acc : List PyData), (∀ r : List Bool, r.length = l.length → k (.list (acc.reverse ++ r.map bi)) = true) → goLc (gN 19) dYes (dCallN 2 mDraw (aPot 0 (aCons (dC (.int 2)) aNil))) (.pt :: e) l acc k = true
  | [], acc, h => by
    have := h [] rfl
    rw [List.map_nil, List.append_nil] at this
    exact this
  | x :: l, acc, h => by
    rw [goLc_cons]
    show dCallN 2 mDraw (aPot 0 (aCons (dC (.int 2)) aNil)) (.pt :: e.set 18 (.fz x)) (fun d => goLc (gN 19) dYes (dCallN 2 mDraw (aPot 0 (aCons (dC (.int 2)) aNil))) (.pt :: e) l (d :: acc) k) = true
    refine draw_all (n := 1) rfl (by decide) fun c hc => ?_
    refine rows_go l (.int (c : Int) :: acc) fun r hr => ?_
    have := h (decide (c = 1) :: r) (by rw [List.length_cons, List.length_cons, hr])
    have e1 : bi (decide (c = 1)) = .int (c : Int) := by
      obtain rfl | rfl : c = 0 ∨ c = 1 := by omega
      · rfl
      · rfl
    rw [List.map_cons, e1] at this
    rw [List.reverse_cons, List.append_assoc]
    exact this
theorem range_draw0 {env : Sls} {i n : Nat} {de : DE} {k : List PyData → Bool} (h : look env i = .pt) (hd : Ev (de env) (.int (Int.ofNat (n + 1)))) (hn : n ≤ 100000) (q : ∀ c : Nat, c < n + 1 → k ((List.range c).map fun i : Nat => .int (i : Int)) = true) :
    iRange1 (dCallN 2 mDraw (aPot i (aCons de aNil))) env k = true := by
  refine draw_all' h hd (by omega) fun c hc => ?_
  have e := evi_rangeN (env := env) (de := dC (.int (c : Int))) (n := c) ev_c (by omega) k
  exact e.trans (q c hc)
/-! sorted rows -/
theorem bits_of : ∀ ns : List Int, (∀ n ∈ ns, n = 0 ∨ n = 1) → ∃ r : List Bool, ns = r.map fun c => if c then (1 : Int) else 0
  | [], _ => ⟨[], rfl⟩
  | n :: ns, h => by
    obtain ⟨r, hr⟩ := bits_of ns fun x hx => h x (List.mem_cons_of_mem _ hx)
    rcases h n List.mem_cons_self with rfl | rfl
    · exact ⟨false :: r, by rw [List.map_cons, ← hr]; rfl⟩
    · exact ⟨true :: r, by rw [List.map_cons, ← hr]; rfl⟩
theorem perm_sum {a b : List Int} (h : a.Perm b) : a.sum = b.sum := by
  induction h with
  | nil => rfl
  | cons x _ ih => rw [List.sum_cons, List.sum_cons, ih]
  | swap x y l => rw [List.sum_cons, List.sum_cons, List.sum_cons, List.sum_cons]; omega
  | trans _ _ h1 h2 => exact h1.trans h2
theorem ev_sorted {r : List Bool} (h8 : r.length ≤ 8) : ∃ r' : List Bool, Ev (gSorted [Rl r]) (Rl r') ∧ on r' = on r ∧ r'.length = r.length := by
  obtain ⟨r', hr'⟩ := bits_of (sortI2 (r.map fun c => if c then (1 : Int) else 0)) fun n hn => by
    have := (sortI2_perm _).mem_iff.mp hn
    obtain ⟨c, _, rfl⟩ := List.mem_map.mp this
    cases c
    · exact .inl rfl
    · exact .inr rfl
  have hp := sortI2_perm (r.map fun c => if c then (1 : Int) else 0)
  have hl := hp.length_eq
  have hs := perm_sum hp
  rw [hr', List.length_map, List.length_map] at hl
  rw [hr', sum_bits, sum_bits] at hs
  refine ⟨r', fun k => ?_, by omega, hl⟩
  show gInts _ [.list (r.map bi)] k = _
  unfold gInts
  simp only [ints_bits]
  rw [show Nat.blt (r.map fun c => if c then (1 : Int) else 0).length 64 = true by rw [List.length_map]; exact Nat.ble_eq_true_of_le (by omega)]
  simp only [hr', List.map_map]
  rfl
/-! the counts' facts -/
theorem mul_zip (t : Rat) : ∀ (l : List Int) (n : Nat), sumR (((l.map fun z : Int => (z : Rat) / t).zipIdx n).map fun p => p.1 * ((p.2 : Int) : Rat)) = (sumI (mulI n l) : Rat) / t
  | [], n => by show (0 : Rat) = 0 / t; rw [Rat.div_def, Rat.zero_mul]
  | z :: l, n => by
    show (z : Rat) / t * ((n : Int) : Rat) + sumR (((l.map fun z : Int => (z : Rat) / t).zipIdx (n + 1)).map fun p => p.1 * ((p.2 : Int) : Rat)) = (((n : Int) * z + sumI (mulI (n + 1) l) : Int) : Rat) / t
    rw [mul_zip t l (n + 1), Rat.intCast_add, Rat.intCast_mul, Rat.div_def, Rat.div_def, Rat.div_def, Rat.add_mul]
    grind
theorem facts_at {w b n : Nat} {m : Int} (hm : m ∈ ms) (hw : w < 6) (hb : b < 6) (h : 0 < w + b) (hn : n ≤ most w b m) :
    sumR (cl w b m n) = 1 ∧ sumR (((cl w b m n).zipIdx 0).map fun p => p.1 * ((p.2 : Int) : Rat)) = (((n : Int) * (w : Int) : Int) : Rat) / (((w + b : Nat) : Int) : Rat) := by
  have c := chk_at hm hw hb h hn
  unfold chk at c
  rw [Bool.and_eq_true, Bool.and_eq_true] at c
  have c1 := of_decide_eq_true c.1
  have c2 := of_decide_eq_true c.2.1
  have c3 := of_decide_eq_true c.2.2
  rw [cl_eq, sumR_div, mul_zip, c1]
  generalize IW ((w : Int) + (b : Int)) m n = t at c2 c3
  generalize sumI (mulI 0 (zs w b m n)) = s at c3
  have ht : (t : Rat) ≠ 0 := fun e => c2 (by simpa using e)
  have hs : (((w + b : Nat) : Int) : Rat) ≠ 0 := fun e => by
    have e' : (((w + b : Nat) : Int) : Rat) = ((0 : Int) : Rat) := e
    have := Rat.intCast_inj.mp e'
    omega
  have c3 : (((w + b : Nat) : Int) : Rat) * (s : Rat) = (((n : Int) * (w : Int) : Int) : Rat) * (t : Rat) := by
    rw [← Rat.intCast_mul, ← Rat.intCast_mul]
    congr 1
  generalize (((w + b : Nat) : Int) : Rat) = d at hs c3
  generalize (((n : Int) * (w : Int) : Int) : Rat) = x at c3
  generalize (t : Rat) = y at ht c3
  generalize (s : Rat) = z at c3
  refine ⟨?_, ?_⟩
  · grind
  · have h1 : y * (z / y) = z := by grind
    have h2 : d * (x / d) = x := by grind
    grind
theorem alike_cl {a : Nat} (h : a ≤ 8) : cl 1 1 1 a = List.replicate (a + 1) (1 / (((a : Int) + 1 : Int) : Rat)) := by
  rw [List.eq_replicate_iff]
  refine ⟨by simp [cl], fun x hx => ?_⟩
  obtain ⟨i, hi, rfl⟩ := List.mem_map.mp hx
  have hi := List.mem_range.mp hi
  obtain ⟨c1, c2⟩ := alike_all a (by omega) i hi
  rw [cf_eq (by omega)]
  generalize wy a i * IW 1 1 i * IW 1 1 (a - i) = z at c1
  generalize IW (1 + 1) 1 a = t at c1 c2
  have ht : (t : Rat) ≠ 0 := fun e => c2 (by simpa using e)
  have c1 : (z : Rat) * (((a : Int) + 1 : Int) : Rat) = (t : Rat) := by rw [← Rat.intCast_mul, c1]
  generalize (((a : Int) + 1 : Int) : Rat) = d at c1
  generalize (t : Rat) = y at ht c1
  generalize (z : Rat) = z at c1
  have hd : d ≠ 0 := fun e => by subst e; grind
  have h1 : y * (z / y) = z := by grind
  have h2 : d * (1 / d) = 1 := by grind
  grind
theorem part_num : ∀ a : Nat, a < 9 → (1 / (((a : Int) + 1 : Int) : Rat)).num = 1 ∧ (1 / (((a : Int) + 1 : Int) : Rat)).den = a + 1 := by decide +kernel
theorem fr_part (a : Nat) (ha : a < 9) : fr (1 / (((a : Int) + 1 : Int) : Rat)) = .tuple [.int 1, .int ((a : Int) + 1)] := by
  obtain ⟨h1, h2⟩ := part_num a ha
  unfold fr
  rw [h1, h2]
  rfl
end Kp

namespace Kp
open PySem PySem.Spec PyProof.Rows L2 Dl Um
def v0 : DS := (sAsg (dCallN 1 m__law_urn (aPot 0 aNil)) (gN 1))
def v1 : DS := (sAsg (dVar 1) (gT 3 (gsCons (gN 2) (gsCons (gN 3) (gsCons (gN 4) gsNil)))))
def v2 : DS := (sAsg (dIf (dB (dOp gEq (dVar 4) (dUn gNeg (dC (.int 1))))) (dCB gMin2 (aCons (dC (.int 8)) (aCons (dOp gAdd (dVar 2) (dVar 3)) aNil))) (dC (.int 8))) (gN 5))
def v3 : DS := (sAsg (dLc (iRange1 (dCallN 2 m__law_draw (aPot 0 (aCons (dOp gAdd (dVar 5) (dC (.int 1))) aNil)))) (gN 19) dYes (dCallN 2 m__law_draw (aPot 0 (aCons (dC (.int 2)) aNil))) [19]) (gN 6))
def v4 : DS := (sAsg (dCallN 2 m__law_row_chance (aCons (dVar 1) (aCons (dVar 6) aNil))) (gN 7))
def v5 : DS := (sIf (dB (dRepr2 false (dLst (aCons (dCallN 2 m_row_chance (aCons (dVar 1) (aCons (dVar 6) aNil))) (aCons (dCallK 2 2 [1, 0] m_row_chance (aCons (dCB gTuple (aCons (dVar 6) aNil)) (aCons (dVar 1) aNil))) (aCons (dCallN 2 m_row_chance (aCons (dVar 1) (aCons (dUn gRev (dVar 6)) aNil))) aNil)))) (dOp gMul (dLst (aCons (dVar 7) aNil)) (dC (.int 3))))) (sRet (dC (.bool false))) sNil)
def v6 : DS := (sIf (dB (dOp gNe (dCallN 2 m_row_chance (aCons (dVar 1) (aCons (dCB gSorted (aCons (dVar 6) aNil)) aNil))) (dVar 7))) (sRet (dC (.bool false))) sNil)
def v7 : DS := (sAsg (dCB gSum2 (aCons (dVar 6) aNil)) (gN 8))
def v8 : DS := (sAsg (dTup (aCons (dOp gAdd (dVar 2) (dOp gMul (dVar 4) (dVar 8))) (aCons (dOp gAdd (dVar 3) (dOp gMul (dVar 4) (dOp gSub (dCB gLen (aCons (dVar 6) aNil)) (dVar 8)))) aNil))) (gN 9))
def v9_0 : DS := (sAsg (dCallN 2 m__law_plain (aCons (dOp gIx (dVar 9) (dC (.int 0))) (aCons (dCB gSum2 (aCons (dVar 9) aNil)) aNil))) (gN 10))
def v9_1 : DS := (sIf (dB (dRepr2 false (dLst (aCons (dCallN 2 m_next_white (aCons (dVar 1) (aCons (dVar 6) aNil))) (aCons (dCallK 2 2 [1, 0] m_next_white (aCons (dCB gTuple (aCons (dVar 6) aNil)) (aCons (dVar 1) aNil))) aNil))) (dLst (aCons (dVar 10) (aCons (dVar 10) aNil))))) (sRet (dC (.bool false))) sNil)
def v9_2 : DS := (sIf (dAnd (dB (dOp gLt (dCB gLen (aCons (dVar 6) aNil)) (dVar 5))) (dB (dOp gNe (dCallN 2 m_row_chance (aCons (dVar 1) (aCons (dOp gAdd (dVar 6) (dLst (aCons (dC (.int 1)) aNil))) aNil))) (dCallN 2 m__law_times (aCons (dVar 7) (aCons (dVar 10) aNil)))))) (sRet (dC (.bool false))) sNil)
def v9_t1 : DS := sSeq v9_1 v9_2
def v9_t0 : DS := sSeq v9_0 v9_t1
def v9 : DS := sIf (dAnd (dB (dOp gGt (dOp gIx (dVar 7) (dC (.int 0))) (dC (.int 0)))) (dB (dOp gGt (dCB gSum2 (aCons (dVar 9) aNil)) (dC (.int 0))))) v9_t0 sNil
def v10 : DS := (sAsg (dCallN 2 m__law_draw (aPot 0 (aCons (dOp gAdd (dVar 5) (dC (.int 1))) aNil))) (gN 11))
def v11 : DS := (sOwn 12 (fLst aNil))
def v12_0 : DS := (sApp 12 (dCallN 2 m__law_times (aCons (dTup (aCons (dCallN 2 m__law_ways (aCons (dVar 11) (aCons (dVar 13) aNil))) (aCons (dC (.int 1)) aNil))) (aCons (dCallN 2 m__law_row_chance (aCons (dVar 1) (aCons (dOp gAdd (dOp gMul (dLst (aCons (dC (.int 1)) aNil)) (dVar 13)) (dOp gMul (dLst (aCons (dC (.int 0)) aNil)) (dOp gSub (dVar 11) (dVar 13)))) aNil))) aNil))))
def v12 : DS := sFor (iRange1 (dOp gAdd (dVar 11) (dC (.int 1)))) (gN 13) v12_0
def v13 : DS := (sIf (dBorT [12] (dB (dRepr2 false (dLst (aCons (dCallN 2 m_count_chances (aCons (dVar 1) (aCons (dVar 11) aNil))) (aCons (dCallK 2 2 [1, 0] m_count_chances (aCons (dVar 11) (aCons (dVar 1) aNil))) aNil))) (dLst (aCons (dVar 12) (aCons (dVar 12) aNil)))))) (sRet (dC (.bool false))) sNil)
def v14 : DS := (sAsg (dBor [12] (dCallN 1 m__law_sum (aCons (dOp gAdd (dLst (aCons (dTup (aCons (dC (.int 0)) (aCons (dC (.int 1)) aNil))) aNil)) (dLc (iEnumQ (dVar 12)) (gT 2 (gsCons (gN 20) (gsCons (gN 13) gsNil))) dYes (dCallN 2 m__law_times (aCons (dVar 13) (aCons (dTup (aCons (dVar 20) (aCons (dC (.int 1)) aNil))) aNil))) [20, 13])) aNil))) (gN 14))
def v15 : DS := (sIf (dBorT [12] (dOr (dB (dOp gNe (dCallN 1 m__law_sum (aCons (dVar 12) aNil)) (dTup (aCons (dC (.int 1)) (aCons (dC (.int 1)) aNil))))) (dB (dOp gNe (dVar 14) (dCallN 2 m__law_plain (aCons (dOp gMul (dVar 11) (dVar 2)) (aCons (dOp gAdd (dVar 2) (dVar 3)) aNil))))))) (sRet (dC (.bool false))) sNil)
def v16 : DS := (sIf (dBorT [12] (dB (dOp gNe (dCallN 2 m_count_chances (aCons (dTup (aCons (dVar 3) (aCons (dVar 2) (aCons (dVar 4) aNil)))) (aCons (dVar 11) aNil))) (dUn gRev (dVar 12))))) (sRet (dC (.bool false))) sNil)
def v17 : DS := (sAsg (dOp gAdd (dC (.int 1)) (dCallN 2 m__law_draw (aPot 0 (aCons (dC (.int 8)) aNil)))) (gN 15))
def v18 : DS := (sIf (dB (dOp gNe (dCallN 2 m_count_chances (aCons (dTup (aCons (dC (.int 1)) (aCons (dC (.int 1)) (aCons (dC (.int 1)) aNil)))) (aCons (dVar 15) aNil))) (dOp gMul (dLst (aCons (dTup (aCons (dC (.int 1)) (aCons (dOp gAdd (dVar 15) (dC (.int 1))) aNil))) aNil)) (dOp gAdd (dVar 15) (dC (.int 1)))))) (sRet (dC (.bool false))) sNil)
def v19 : DS := (sOwn 16 (fLst (aCons (dVar 1) (aCons (dCB gList (aCons (dVar 1) aNil)) (aCons (dSl (dVar 1) oNone (oSome (dC (.int 2)))) (aCons (dOp gAdd (dVar 1) (dTup (aCons (dC (.int 0)) aNil))) (aCons (dTup (aCons (dVar 2) (aCons (dVar 3) (aCons (dC (.int 5)) aNil)))) (aCons (dTup (aCons (dVar 2) (aCons (dVar 3) (aCons (dUn gNeg (dC (.int 2))) aNil)))) (aCons (dTup (aCons (dC (.int 10)) (aCons (dVar 3) (aCons (dVar 4) aNil)))) aNil)))))))))
def v20 : DS := (sApp 16 (dTup (aCons (dC (.bool true)) (aCons (dVar 3) (aCons (dVar 4) aNil)))))
def v21_0_0 : DS := (sAsg (dCallN 1 m__law_is_urn (aCons (dVar 17) aNil)) (gN 18))
def v21_0_1 : DS := (sIf (dB (dRepr2 false (dLst (aCons (dCallN 1 m_is_urn (aCons (dVar 17) aNil)) (aCons (dCallK 1 1 [0] m_is_urn (aCons (dVar 17) aNil)) aNil))) (dLst (aCons (dVar 18) (aCons (dVar 18) aNil))))) (sRet (dC (.bool false))) sNil)
def v21_0_t0 : DS := sSeq v21_0_0 v21_0_1
def v21_0 : DS := sFor (iSeq (dOp gAdd (dVar 16) (dLst (aCons (dTup (aCons (dC (.int 0)) (aCons (dC (.int 0)) (aCons (dVar 4) aNil)))) (aCons (dC .none) (aCons (dC (.dict [])) (aCons (dC (.str "urn")) (aCons (dTup (aCons (dVar 2) (aCons (dC .none) (aCons (dC (.int 0)) aNil)))) (aCons (dTup (aCons (dUn gNeg (dC (.int 1))) (aCons (dC (.int 3)) (aCons (dC (.int 0)) aNil)))) (aCons (dTup (aCons (dVar 2) (aCons (dVar 3) (aCons (dC (.int 4)) aNil)))) (aCons (dTup (aCons (dC (.int 9)) (aCons (dC (.int 9)) (aCons (dUn gNeg (dC (.int 1))) aNil)))) aNil))))))))))) (gN 17) v21_0_t0
def v21_1 : DS := (sAppX (fCallN 2 m_count_chances (aCons (dVar 1) (aCons (dVar 11) aNil))) (dC .none))
def v21_2_0 : DS := (sRet (dOp gEq (dCallN 2 m_count_chances (aCons (dVar 1) (aCons (dVar 11) aNil))) (dVar 12)))
def v21_2 : DS := sFrz 12 v21_2_0
def v21_t1 : DS := sSeq v21_1 v21_2
def v21_t0 : DS := sSeq v21_0 v21_t1
def v21 : DS := sFrz 16 v21_t0
def vt20 : DS := sSeq v20 v21
def vt19 : DS := sSeq v19 vt20
def vt18 : DS := sSeq v18 vt19
def vt17 : DS := sSeq v17 vt18
def vt16 : DS := sSeq v16 vt17
def vt15 : DS := sSeq v15 vt16
def vt14 : DS := sSeq v14 vt15
def vt13 : DS := sSeq v13 vt14
def vt12 : DS := sSeq v12 vt13
def vt11 : DS := sSeq v11 vt12
def vt10 : DS := sSeq v10 vt11
def vt9 : DS := sSeq v9 vt10
def vt8 : DS := sSeq v8 vt9
def vt7 : DS := sSeq v7 vt8
def vt6 : DS := sSeq v6 vt7
def vt5 : DS := sSeq v5 vt6
def vt4 : DS := sSeq v4 vt5
def vt3 : DS := sSeq v3 vt4
def vt2 : DS := sSeq v2 vt3
def vt1 : DS := sSeq v1 vt2
def vt0 : DS := sSeq v0 vt1
theorem veq : b__law_right = vt0 := rfl
theorem rep_two {xs : List Rat} (hl : xs.length ≤ 100) (hb : ∀ x ∈ xs, Bd 1919 x) : reprOk (.list [.list (xs.map fr), .list (xs.map fr)]) = true := by
  have o : oksR 38 (xs.map fr) = true := oksR_frs hb 37
  refine reprOk_of ?_ ?_
  · simp only [okR, oksR, o]
  · show capsR (xs.map fr) + 4 + 2 + (capsR (xs.map fr) + 4 + 2 + 0) + 4 ≤ _
    rw [capsR_frs]
    omega
theorem rep_frs {xs : List Rat} (hl : xs.length ≤ 100) (hb : ∀ x ∈ xs, Bd 1919 x) : reprOk (.list (xs.map fr)) = true := by
  have o : oksR 39 (xs.map fr) = true := oksR_frs hb 38
  refine reprOk_of (by simp only [okR, o]) ?_
  show capsR (xs.map fr) + 4 ≤ _
  rw [capsR_frs]
  omega
abbrev En (w b : Nat) (m : Int) (r : List Bool) (s : Sls) : Sls := .pt :: .fz (ur w b m) :: .fz (.int (w : Int)) :: .fz (.int (b : Int)) :: .fz (.int m) :: .fz (.int (most w b m : Int)) :: .fz (Rl r) :: .fz (fr (chn w b m r)) :: s
theorem uok {w b : Nat} {m : Int} (hm : m ∈ ms) (hw : w < 6) (hb : b < 6) (h : 0 < w + b) : UOk w b m := by
  have h1 : -1 ≤ m ∧ m ≤ 4 := by
    simp only [ms, List.mem_cons, List.not_mem_nil, or_false] at hm
    omega
  exact ⟨by omega, by omega, by omega, by omega, by omega, h1.1, h1.2⟩
section
variable {w b : Nat} {m : Int} {r : List Bool}
variable {s8 s9 s10 s11 s12 s13 s14 s15 s16 s17 s18 s19 s20 : Sl}
theorem y1 {s2 s3 s4 s5 s6 s7 : Sl} : Ex v1 [.pt, .fz (ur w b m), s2, s3, s4, s5, s6, s7, s8, s9, s10, s11, s12, s13, s14, s15, s16, s17, s18, s19, s20] [.pt, .fz (ur w b m), .fz (.int (w : Int)), .fz (.int (b : Int)), .fz (.int m), s5, s6, s7, s8, s9, s10, s11, s12, s13, s14, s15, s16, s17, s18, s19, s20] :=
  ex_asg (ev_var rfl) (evg_t (evgs_cons evg_n (evgs_cons evg_n (evgs_cons evg_n evgs_nil))) rfl)
theorem y2 {s5 s6 s7 : Sl} : Ex v2 [.pt, .fz (ur w b m), .fz (.int (w : Int)), .fz (.int (b : Int)), .fz (.int m), s5, s6, s7, s8, s9, s10, s11, s12, s13, s14, s15, s16, s17, s18, s19, s20] [.pt, .fz (ur w b m), .fz (.int (w : Int)), .fz (.int (b : Int)), .fz (.int m), .fz (.int (most w b m : Int)), s6, s7, s8, s9, s10, s11, s12, s13, s14, s15, s16, s17, s18, s19, s20] := by
  by_cases e : m = -1
  · refine ex_asg (d := .int (most w b m : Int)) (ev_ifT (evt_b (ev_toB (ev_op (ev_var rfl) ev_m1 op_eqI) (by rw [e]; rfl))) (ev_to (ev_cb (eva_cons ev_c (eva_cons (ev_op (ev_var rfl) (ev_var rfl) op_add') eva_nil)) (fun k => rfl)) ?_)) evg_n
    unfold most
    rw [if_pos e]
    congr 1
    split <;> omega
  · refine ex_asg (d := .int (most w b m : Int)) (ev_ifF (evt_b (ev_toB (ev_op (ev_var rfl) ev_m1 op_eqI) (by rw [eqI_eq, beq_eq_false_iff_ne]; exact e))) (ev_to ev_c ?_)) evg_n
    unfold most
    rw [if_neg e]
    rfl
theorem y3 {s6 s7 : Sl} {t : DS} {B : DEnds} (q : ∀ r : List Bool, r.length ≤ most w b m → t B [.pt, .fz (ur w b m), .fz (.int (w : Int)), .fz (.int (b : Int)), .fz (.int m), .fz (.int (most w b m : Int)), .fz (Rl r), s7, s8, s9, s10, s11, s12, s13, s14, s15, s16, s17, s18, s19, s20] = true) :
    sSeq v3 t B [.pt, .fz (ur w b m), .fz (.int (w : Int)), .fz (.int (b : Int)), .fz (.int m), .fz (.int (most w b m : Int)), s6, s7, s8, s9, s10, s11, s12, s13, s14, s15, s16, s17, s18, s19, s20] = true := by
  have h8 := most_le w b m
  unfold v3
  rw [k_seqasg, k_lc]
  refine range_draw0 (n := most w b m) rfl (ev_op (ev_var rfl) ev_c op_add') (by omega) fun c hc => ?_
  rw [show small ((List.range c).map fun i : Nat => PyData.int (i : Int)).length = true by rw [List.length_map, List.length_range]; exact small_le (m := 20) (by omega)]
  show goLc (gN 19) dYes (dCallN 2 mDraw (aPot 0 (aCons (dC (.int 2)) aNil))) (.pt :: [.fz (ur w b m), .fz (.int (w : Int)), .fz (.int (b : Int)), .fz (.int m), .fz (.int (most w b m : Int)), s6, s7, s8, s9, s10, s11, s12, s13, s14, s15, s16, s17, s18, .no, s20]) _ [] _ = true
  refine rows_go _ [] fun r hr => ?_
  rw [List.length_map, List.length_range] at hr
  exact q r (by omega)
theorem y4 {s7 : Sl} (h : UOk w b m) (hr : r.length ≤ most w b m) : Ex v4 [.pt, .fz (ur w b m), .fz (.int (w : Int)), .fz (.int (b : Int)), .fz (.int m), .fz (.int (most w b m : Int)), .fz (Rl r), s7, s8, s9, s10, s11, s12, s13, s14, s15, s16, s17, s18, s19, s20] (En w b m r [s8, s9, s10, s11, s12, s13, s14, s15, s16, s17, s18, s19, s20]) :=
  ex_asg (ev_call (eva_cons (ev_var rfl) (eva_cons (ev_var rfl) eva_nil)) (l_row (tot_of h hr)) rfl) evg_n
theorem chn_same {r r' : List Bool} (h1 : on r' = on r) (h2 : r'.length = r.length) : chn w b m r' = chn w b m r := rc_same m w b 1 h1 h2
theorem y5 (h : UOk w b m) (hr : r.length ≤ most w b m) {s : Sls} : Ex v5 (En w b m r s) (En w b m r s) := by
  have e3 : chn w b m r.reverse = chn w b m r := chn_same (on_reverse r) (List.length_reverse ..)
  have hb := chn_bd (tot_of h hr)
  have s3 := s_row h (.inl rfl : Rl r.reverse = Rl r.reverse ∨ _) (r := r.reverse) (by rw [List.length_reverse]; exact hr)
  rw [e3] at s3
  refine ex_ifF (evt_b (ev_repr2 (x := .list ([chn w b m r, chn w b m r, chn w b m r].map fr)) (ev_lst (eva_cons (ev_call (eva_cons (ev_var rfl) (eva_cons (ev_var rfl) eva_nil)) (s_row h (.inl rfl) hr) rfl) (eva_cons (ev_callK (eva_cons (ev_cb (eva_cons (ev_var rfl) eva_nil) cb_tupL) (eva_cons (ev_var rfl) eva_nil)) (s_row h (.inr rfl) hr) rfl) (eva_cons (ev_call (eva_cons (ev_var rfl) (eva_cons (ev_to (ev_un (ev_var rfl) op_revL) (by rw [← List.map_reverse])) eva_nil)) s3 rfl) eva_nil))) rfl) (ev_op (ev_lst (eva_cons (ev_var rfl) eva_nil) rfl) ev_c (op_rep1 (n := 3) (by decide))) (rep_frs (by simp) fun x hx => ?_) rfl)) ex_nil
  simp only [List.mem_cons, List.not_mem_nil, or_false, or_self] at hx
  rw [hx]
  exact hb.mono (by decide)
theorem y6 (h : UOk w b m) (hr : r.length ≤ most w b m) {s : Sls} : Ex v6 (En w b m r s) (En w b m r s) := by
  obtain ⟨r', h1, h2, h3⟩ := ev_sorted (r := r) (Nat.le_trans hr (most_le w b m))
  have s3 := s_row h (.inl rfl : Rl r' = Rl r' ∨ _) (r := r') (by rw [h3]; exact hr)
  rw [chn_same h2 h3] at s3
  exact ex_ifF (evt_b (ev_toB (ev_op (ev_call (eva_cons (ev_var rfl) (eva_cons (ev_cb (eva_cons (ev_var rfl) eva_nil) h1) eva_nil)) s3 rfl) (ev_var rfl) op_nefr) (by simp))) ex_nil
theorem y7 : Ex v7 (En w b m r [s8, s9, s10, s11, s12, s13, s14, s15, s16, s17, s18, s19, s20]) (En w b m r [.fz (.int (on r : Int)), s9, s10, s11, s12, s13, s14, s15, s16, s17, s18, s19, s20]) :=
  ex_asg (ev_cb (eva_cons (ev_var rfl) eva_nil) (ev_sum (.inl rfl))) evg_n
theorem y8 (h : UOk w b m) (hr : r.length ≤ most w b m) : Ex v8 (En w b m r [.fz (.int (on r : Int)), s9, s10, s11, s12, s13, s14, s15, s16, s17, s18, s19, s20]) (En w b m r [.fz (.int (on r : Int)), .fz (.tuple [.int (wT w m r), .int (bT b m r)]), s10, s11, s12, s13, s14, s15, s16, s17, s18, s19, s20]) := by
  have hz := onze r
  have h1 := h.m1
  have h4 := h.m4
  have h8 := most_le w b m
  have es : ((r.length : Int) - (on r : Int)) = (ze r : Int) := by omega
  refine ex_asg (ev_tup (eva_cons (ev_op (ev_var rfl) (ev_op (ev_var rfl) (ev_var rfl) (op_mul' ?_)) op_add') (eva_cons (ev_op (ev_var rfl) (ev_op (ev_var rfl) (ev_to (ev_op (ev_cb (eva_cons (ev_var rfl) eva_nil) (ev_lenV (.inl rfl))) (ev_var rfl) op_sub') (by rw [es])) (op_mul' ?_)) op_add') eva_nil)) rfl) evg_n
  · exact mul_sm (by rw [k10]; omega) (by rw [k10]; omega)
  · exact mul_sm (by rw [k10]; omega) (by rw [k10]; omega)
theorem y9 (h : UOk w b m) (hr : r.length ≤ most w b m) : ∃ t10, Ex v9 (En w b m r [s8, .fz (.tuple [.int (wT w m r), .int (bT b m r)]), s10, s11, s12, s13, s14, s15, s16, s17, s18, s19, s20]) (En w b m r [s8, .fz (.tuple [.int (wT w m r), .int (bT b m r)]), t10, s11, s12, s13, s14, s15, s16, s17, s18, s19, s20]) := by
  have P := tot_of h hr
  have h8 := P.n8
  have sm : ∀ env : Sls, look env 9 = .fz (.tuple [.int (wT w m r), .int (bT b m r)]) → Ev (dCB gSum2 (aCons (dVar 9) aNil) env) (.int (wT w m r + bT b m r)) := fun env he =>
    ev_to (y := .int (wT w m r + bT b m r)) (ev_cb (eva_cons (ev_var he) eva_nil) (fun k => rfl : Ev (gSum2 [.tuple [.int (wT w m r), .int (bT b m r)]]) (.int [wT w m r, bT b m r].sum))) (by rw [List.sum_cons, List.sum_cons, List.sum_nil, Int.add_zero])
  have c1 : EvT (dB (dOp gGt (dOp gIx (dVar 7) (dC (.int 0))) (dC (.int 0))) (En w b m r [s8, .fz (.tuple [.int (wT w m r), .int (bT b m r)]), s10, s11, s12, s13, s14, s15, s16, s17, s18, s19, s20])) (decide (0 < (chn w b m r).num)) := evt_b (ev_op (ev_op (ev_var rfl) ev_c op_num) ev_c op_I)
  have c2 : EvT (dB (dOp gGt (dCB gSum2 (aCons (dVar 9) aNil)) (dC (.int 0))) (En w b m r [s8, .fz (.tuple [.int (wT w m r), .int (bT b m r)]), s10, s11, s12, s13, s14, s15, s16, s17, s18, s19, s20])) (decide (0 < wT w m r + bT b m r)) := evt_b (ev_op (sm _ rfl) ev_c op_I)
  by_cases h1 : 0 < (chn w b m r).num
  · rw [decide_eq_true h1] at c1
    by_cases h2 : 0 < wT w m r + bT b m r
    · rw [decide_eq_true h2] at c2
      obtain ⟨s, hs⟩ : ∃ s : Nat, wT w m r + bT b m r = (s : Int) := ⟨_, (Int.toNat_of_nonneg (Int.le_of_lt h2)).symm⟩
      obtain ⟨hw, hb⟩ := sizes (full := r) P (pre := r) (r := []) (List.append_nil r)
      obtain ⟨_, q2, q3⟩ := step_fr (c := true) hs (by omega) hw hb bd_one (by decide)
      have hn : chn w b m r ≠ 0 := fun e => by rw [e] at h1; exact absurd h1 (by decide)
      have ht : 0 < (w : Int) + (b : Int) + m * (r.length : Int) := by rw [← sT]; exact h2
      have q3 : Bd 14 ((wT w m r : Rat) / ((wT w m r + bT b m r : Int) : Rat)) := q3
      have n1 := s_next h (.inl rfl : Rl r = Rl r ∨ _) hr hn ht
      have n2 := s_next h (.inr rfl : Rt' r = Rl r ∨ _) hr hn ht
      have hd := chn_bd P
      have e2 : EvT (dAnd (dB (dOp gLt (dCB gLen (aCons (dVar 6) aNil)) (dVar 5))) (dB (dOp gNe (dCallN 2 m_row_chance (aCons (dVar 1) (aCons (dOp gAdd (dVar 6) (dLst (aCons (dC (.int 1)) aNil))) aNil))) (dCallN 2 m__law_times (aCons (dVar 7) (aCons (dVar 10) aNil)))))
          (En w b m r [s8, .fz (.tuple [.int (wT w m r), .int (bT b m r)]), .fz (fr ((wT w m r : Rat) / ((wT w m r + bT b m r : Int) : Rat))), s11, s12, s13, s14, s15, s16, s17, s18, s19, s20])) false := by
        have c3 : EvT (dB (dOp gLt (dCB gLen (aCons (dVar 6) aNil)) (dVar 5)) (En w b m r [s8, .fz (.tuple [.int (wT w m r), .int (bT b m r)]), .fz (fr ((wT w m r : Rat) / ((wT w m r + bT b m r : Int) : Rat))), s11, s12, s13, s14, s15, s16, s17, s18, s19, s20])) (decide ((r.length : Int) < (most w b m : Int))) := evt_b (ev_op (ev_cb (eva_cons (ev_var rfl) eva_nil) (ev_lenV (.inl rfl))) (ev_var rfl) op_I)
        by_cases h3 : (r.length : Int) < (most w b m : Int)
        · rw [decide_eq_true h3] at c3
          have n3 := s_row h (.inl rfl : Rl (r ++ [true]) = Rl (r ++ [true]) ∨ _) (r := r ++ [true]) (by rw [List.length_append, List.length_singleton]; omega)
          refine evt_andT c3 (evt_b (ev_toB (ev_op (ev_call (eva_cons (ev_var rfl) (eva_cons (ev_to (y := Rl (r ++ [true])) (ev_op (ev_var rfl) (ev_lst (eva_cons ev_c eva_nil) rfl) (op_catL ?_)) ?_) eva_nil)) n3 rfl) (ev_call (eva_cons (ev_var rfl) (eva_cons (ev_var rfl) eva_nil)) (ev_mulP hd q3 (by decide)) rfl) op_nefr) ?_))
          · rw [List.length_map]; exact small_le (m := 20) (by simp; omega)
          · show _ = PyData.list ((r ++ [true]).map bi)
            rw [List.map_append]
            rfl
          · have e : chn w b m (r ++ [true]) = chn w b m r * ((wT w m r : Rat) / ((wT w m r + bT b m r : Int) : Rat)) := by
              unfold chn
              rw [rc_one, sT]
              rfl
            rw [e]
            simp
        · rw [decide_eq_false h3] at c3
          exact evt_andF c3
      have okf : reprOk (.list ([(wT w m r : Rat) / ((wT w m r + bT b m r : Int) : Rat), (wT w m r : Rat) / ((wT w m r + bT b m r : Int) : Rat)].map fr)) = true := rep_frs (by simp) fun x hx => by
        simp only [List.mem_cons, List.not_mem_nil, or_false, or_self] at hx
        rw [hx]
        exact q3.mono (by decide)
      refine ⟨_, ex_ifT (evt_andT c1 c2) (ex_seq (ex_asg (ev_call (eva_cons (ev_op (ev_var rfl) ev_c (op_ixT (x := .int (wT w m r)) rfl)) (eva_cons (ev_to (sm _ rfl) (by rw [hs])) eva_nil)) q2 rfl) evg_n) (ex_seq (ex_ifF (evt_b (ev_repr2 (x := .list ([(wT w m r : Rat) / ((wT w m r + bT b m r : Int) : Rat), (wT w m r : Rat) / ((wT w m r + bT b m r : Int) : Rat)].map fr)) (ev_lst (eva_cons (ev_call (eva_cons (ev_var rfl) (eva_cons (ev_var rfl) eva_nil)) n1 rfl) (eva_cons (ev_callK (eva_cons (ev_cb (eva_cons (ev_var rfl) eva_nil) cb_tupL) (eva_cons (ev_var rfl) eva_nil)) n2 rfl) eva_nil)) rfl) (ev_lst (eva_cons (ev_var rfl) (eva_cons (ev_var rfl) eva_nil)) rfl) okf rfl)) ex_nil) (ex_ifF e2 ex_nil)))⟩
    · rw [decide_eq_false h2] at c2
      exact ⟨_, ex_ifF (evt_andT c1 c2) ex_nil⟩
  · rw [decide_eq_false h1] at c1
    exact ⟨_, ex_ifF (evt_andF c1) ex_nil⟩
theorem y10 {t : DS} {B : DEnds} (q : ∀ n : Nat, n ≤ most w b m → t B (En w b m r [s8, s9, s10, .fz (.int (n : Int)), s12, s13, s14, s15, s16, s17, s18, s19, s20]) = true) : sSeq v10 t B (En w b m r [s8, s9, s10, s11, s12, s13, s14, s15, s16, s17, s18, s19, s20]) = true := by
  have h8 := most_le w b m
  unfold v10
  rw [k_seqasg]
  exact draw_all' (n := most w b m) rfl (ev_op (ev_var rfl) ev_c op_add') (by omega) fun c hc => q c (by omega)
end
end Kp

namespace Kp
open PySem PySem.Spec PyProof.Rows L2 Dl Um
section
variable {w b : Nat} {m : Int} {r : List Bool} {n : Nat}
variable {s8 s9 s10 s11 s12 s13 s14 s15 s16 s17 s18 s19 s20 : Sl}
abbrev Cl (w b : Nat) (m : Int) (n : Nat) : PyData := .list ((cl w b m n).map fr)
theorem cl_len : (cl w b m n).length = n + 1 := by simp [cl]
theorem cl_bd (h : UOk w b m) (hn : n ≤ most w b m) : ∀ x ∈ cl w b m n, Bd 120 x := fun x hx => by
  obtain ⟨i, hi, rfl⟩ := List.mem_map.mp hx
  exact cf_bd h hn (by have := List.mem_range.mp hi; omega)
theorem y12 (h : UOk w b m) (hn : n ≤ most w b m) : ∃ t13, Ex v12 (En w b m r [s8, s9, s10, .fz (.int (n : Int)), .ow [], s13, s14, s15, s16, s17, s18, s19, s20]) (En w b m r [s8, s9, s10, .fz (.int (n : Int)), .ow ((cl w b m n).map fr), t13, s14, s15, s16, s17, s18, s19, s20]) := by
  have h8 := most_le w b m
  obtain ⟨e, ⟨t13, rfl⟩, he⟩ := for_inv (g := gN 13) (body := v12_0) (f := fun i : Nat => .int (i : Int)) (xs := List.range (n + 1))
    (fun pre _ e => ∃ t13, e = En w b m r [s8, s9, s10, .fz (.int (n : Int)), .ow ((pre.map (cf w b m n)).map fr), t13, s14, s15, s16, s17, s18, s19, s20]) (by
    rintro pre i rest e hq ⟨t13, rfl⟩
    have hm : i ∈ List.range (n + 1) := by rw [← hq]; simp
    have hi := List.mem_range.mp hm
    have hl : pre.length ≤ n := by have := congrArg List.length hq; simp at this; omega
    refine ⟨_, _, evg_n, ex_app (d := fr (cf w b m n i)) rfl (ev_call (eva_cons (ev_litI (ev_call (eva_cons (ev_var rfl) (eva_cons (ev_var rfl) eva_nil)) (ways_all n (by omega) i (by omega)) rfl)) (eva_cons (ev_call (eva_cons (ev_var rfl) (eva_cons (ev_rowi (n := n) (i := i) rfl rfl (by omega) (by omega)) eva_nil)) (l_row (path_at h hn (by omega))) rfl) eva_nil)) (ev_mulP (wy_bd (by omega) (by omega)) (chn_bd (path_at h hn (by omega))) (by decide)) rfl) ?_, ⟨.fz (.int (i : Int)), ?_⟩⟩
    · rw [List.length_map, List.length_map]
      exact small_le (m := 20) (by omega)
    · rw [List.map_append, List.map_append]
      rfl) (List.range (n + 1)) [] (En w b m r [s8, s9, s10, .fz (.int (n : Int)), .ow [], s13, s14, s15, s16, s17, s18, s19, s20]) rfl ⟨_, rfl⟩
  exact ⟨t13, ex_for (evi_rangeN (n := n + 1) (ev_op (ev_var rfl) ev_c op_add') (by omega)) he⟩
theorem y13 (h : UOk w b m) (hn : n ≤ most w b m) : Ex v13 (En w b m r [s8, s9, s10, .fz (.int (n : Int)), .ow ((cl w b m n).map fr), s13, s14, s15, s16, s17, s18, s19, s20]) (En w b m r [s8, s9, s10, .fz (.int (n : Int)), .ow ((cl w b m n).map fr), s13, s14, s15, s16, s17, s18, s19, s20]) := by
  have h8 := most_le w b m
  exact ex_ifF (evt_borT (env' := En w b m r [s8, s9, s10, .fz (.int (n : Int)), .fz (Cl w b m n), s13, s14, s15, s16, s17, s18, s19, s20]) rfl (evt_b (ev_repr2 (ev_lst (eva_cons (ev_call (eva_cons (ev_var rfl) (eva_cons (ev_var rfl) eva_nil)) (s_count h hn) rfl) (eva_cons (ev_callK (eva_cons (ev_var rfl) (eva_cons (ev_var rfl) eva_nil)) (s_count h hn) rfl) eva_nil)) rfl) (ev_lst (eva_cons (ev_var rfl) (eva_cons (ev_var rfl) eva_nil)) rfl) (rep_two (by rw [cl_len]; omega) fun x hx => (cl_bd h hn x hx).mono (by decide)) rfl))) ex_nil
theorem y14 (hm : m ∈ ms) (hw : w < 6) (hb : b < 6) (h0 : 0 < w + b) (hn : n ≤ most w b m) : Ex v14 (En w b m r [s8, s9, s10, .fz (.int (n : Int)), .ow ((cl w b m n).map fr), s13, s14, s15, s16, s17, s18, s19, s20]) (En w b m r [s8, s9, s10, .fz (.int (n : Int)), .ow ((cl w b m n).map fr), s13, .fz (fr ((((n : Int) * (w : Int) : Int) : Rat) / (((w + b : Nat) : Int) : Rat))), s15, s16, s17, s18, s19, s20]) := by
  have h := uok hm hw hb h0
  have h8 := most_le w b m
  have f2 := (facts_at hm hw hb h0 hn).2
  have k4 : (2 : Nat) ^ 4 = 16 := by decide
  have hbz : ∀ p ∈ (cl w b m n).zipIdx 0, Bd 120 p.1 ∧ p.2 ≤ n := fun p hp => by
    have := List.mem_zipIdx hp
    simp only [Nat.sub_zero, Nat.zero_add] at this
    rw [cl_len] at this
    refine ⟨?_, by omega⟩
    rw [this.2.2]
    exact cl_bd h hn _ (List.getElem_mem _)
  have hlist : Ev (dLc (iEnumQ (dVar 12)) (gT 2 (gsCons (gN 20) (gsCons (gN 13) gsNil))) dYes (dCallN 2 m__law_times (aCons (dVar 13) (aCons (dTup (aCons (dVar 20) (aCons (dC (.int 1)) aNil))) aNil))) [20, 13] (En w b m r [s8, s9, s10, .fz (.int (n : Int)), .fz (Cl w b m n), s13, s14, s15, s16, s17, s18, s19, s20])) (.list ((((cl w b m n).zipIdx 0).map fun p => p.1 * ((p.2 : Int) : Rat)).map fr)) := by
    refine ev_to (ev_lc (eva_to (evi_enumQ (ev_var rfl) rfl) (enumD_map fr (cl w b m n) 0)) (evlc_map (r := fun p : Rat × Nat => fr (p.1 * ((p.2 : Int) : Rat))) fun p hp => ?_) ?_) ?_
    · obtain ⟨b1, b2⟩ := hbz p hp
      exact ⟨_, evg_t (evgs_cons evg_n (evgs_cons evg_n evgs_nil)) rfl, ev_call (eva_cons (ev_var rfl) (eva_cons (ev_litI (ev_var rfl)) eva_nil)) (ev_mulP b1 (bd_int (n := 4) (by rw [k4]; omega) (by decide)) (by decide)) rfl⟩
    · rw [List.length_map, List.length_zipIdx, cl_len]
      exact small_le (m := 20) (by omega)
    · rw [List.map_map]
      rfl
  have hl : ((((cl w b m n).zipIdx 0).map fun p => p.1 * ((p.2 : Int) : Rat)).map fr).length = n + 1 := by rw [List.length_map, List.length_map, List.length_zipIdx, cl_len]
  refine ex_asg (ev_bor (env' := En w b m r [s8, s9, s10, .fz (.int (n : Int)), .fz (Cl w b m n), s13, s14, s15, s16, s17, s18, s19, s20]) (x := fr ((((n : Int) * (w : Int) : Int) : Rat) / (((w + b : Nat) : Int) : Rat))) rfl (ev_to (ev_call (eva_cons (ev_to (y := .list ((0 :: ((cl w b m n).zipIdx 0).map fun p => p.1 * ((p.2 : Int) : Rat)).map fr)) (ev_op (ev_lst (eva_cons ev_lit0 eva_nil) rfl) hlist (op_catL ?_)) rfl) eva_nil) (l_sum ?_ fun x hx => ?_) rfl) ?_) rfl) evg_n
  · rw [hl]; exact small_le (m := 40) (by simp; omega)
  · rw [List.length_cons, List.length_map, List.length_zipIdx, cl_len]; omega
  · rcases List.mem_cons.mp hx with rfl | hx
    · exact bd_zero.mono (by decide)
    · obtain ⟨p, hp, rfl⟩ := List.mem_map.mp hx
      obtain ⟨b1, b2⟩ := hbz p hp
      exact (mul_bd b1 (bd_int (n := 4) (by rw [k4]; omega) (by decide))).mono (by decide)
  · show fr (0 + sumR _) = _
    rw [f2]
    congr 1
    grind
theorem y15 (hm : m ∈ ms) (hw : w < 6) (hb : b < 6) (h0 : 0 < w + b) (hn : n ≤ most w b m) : Ex v15 (En w b m r [s8, s9, s10, .fz (.int (n : Int)), .ow ((cl w b m n).map fr), s13, .fz (fr ((((n : Int) * (w : Int) : Int) : Rat) / (((w + b : Nat) : Int) : Rat))), s15, s16, s17, s18, s19, s20]) (En w b m r [s8, s9, s10, .fz (.int (n : Int)), .ow ((cl w b m n).map fr), s13, .fz (fr ((((n : Int) * (w : Int) : Int) : Rat) / (((w + b : Nat) : Int) : Rat))), s15, s16, s17, s18, s19, s20]) := by
  have h := uok hm hw hb h0
  have h8 := most_le w b m
  have f1 := (facts_at hm hw hb h0 hn).1
  have s1 := l_sum (l := cl w b m n) (by rw [cl_len]; omega) fun x hx => (cl_bd h hn x hx).mono (by decide)
  rw [f1] at s1
  have hp : ((n : Int) * (w : Int)).natAbs < 2 ^ 10 := by
    have : n * w ≤ 8 * 6 := Nat.mul_le_mul (by omega) (by omega)
    have e : (n : Int) * (w : Int) = ((n * w : Nat) : Int) := by simp
    rw [e, k10]
    omega
  have s2 : Ev (qPlain [.int ((n : Int) * (w : Int)), .int ((w + b : Nat) : Int)]) (fr ((((n : Int) * (w : Int) : Int) : Rat) / (((w + b : Nat) : Int) : Rat))) := by
    rw [Rat.intCast_natCast (w + b)]
    exact ev_plain (n := 10) (by omega) (by rw [k10]; omega) hp (by decide) (by decide)
  refine ex_ifF (evt_borT (env' := En w b m r [s8, s9, s10, .fz (.int (n : Int)), .fz (Cl w b m n), s13, .fz (fr ((((n : Int) * (w : Int) : Int) : Rat) / (((w + b : Nat) : Int) : Rat))), s15, s16, s17, s18, s19, s20]) rfl (evt_orF (evt_b (ev_toB (ev_op (ev_call (eva_cons (ev_var rfl) eva_nil) s1 rfl) ev_lit1 op_nefr) (by simp))) (evt_b (ev_toB (ev_op (ev_var rfl) (ev_call (eva_cons (ev_op (ev_var rfl) (ev_var rfl) (op_mul' ?_)) (eva_cons (ev_op (ev_var rfl) (ev_var rfl) op_add') eva_nil)) s2 rfl) op_nefr) (by simp))))) ex_nil
  exact mul_sm (by rw [k10]; omega) (by rw [k10]; omega)
theorem most_turn : most (b : Int) (w : Int) m = most (w : Int) (b : Int) m := by
  unfold most
  rw [Int.add_comm]
theorem y16 (h : UOk w b m) (hn : n ≤ most w b m) : Ex v16 (En w b m r [s8, s9, s10, .fz (.int (n : Int)), .ow ((cl w b m n).map fr), s13, s14, s15, s16, s17, s18, s19, s20]) (En w b m r [s8, s9, s10, .fz (.int (n : Int)), .ow ((cl w b m n).map fr), s13, s14, s15, s16, s17, s18, s19, s20]) := by
  have h8 := most_le w b m
  have h' : UOk b w m := ⟨h.b0, h.b9, h.w0, h.w9, by have := h.pos; omega, h.m1, h.m4⟩
  refine ex_ifF (evt_borT (env' := En w b m r [s8, s9, s10, .fz (.int (n : Int)), .fz (Cl w b m n), s13, s14, s15, s16, s17, s18, s19, s20]) rfl (evt_b (ev_toB (ev_op (ev_call (eva_cons (ev_tup (eva_cons (ev_var rfl) (eva_cons (ev_var rfl) (eva_cons (ev_var rfl) eva_nil))) rfl) (eva_cons (ev_var rfl) eva_nil)) (s_count h' (n := n) (by rw [most_turn]; exact hn)) rfl) (ev_to (y := .list ((cl w b m n).reverse.map fr)) (ev_un (ev_var rfl) op_revL) (by rw [List.map_reverse])) op_nefrs) ?_))) ex_nil
  rw [cl_turn (by omega)]
  simp
theorem y17 {t : DS} {B : DEnds} (q : ∀ a : Nat, a ≤ 8 → t B (En w b m r [s8, s9, s10, s11, s12, s13, s14, .fz (.int (a : Int)), s16, s17, s18, s19, s20]) = true) : sSeq v17 t B (En w b m r [s8, s9, s10, s11, s12, s13, s14, s15, s16, s17, s18, s19, s20]) = true := by
  unfold v17
  rw [k_seqasg, k_op, k_c]
  refine draw_all (n := 7) rfl (by decide) fun c hc => ?_
  refine (gAdd_of 1 (c : Int) _).trans ?_
  have := q (1 + c) (by omega)
  rw [show ((1 + c : Nat) : Int) = 1 + (c : Int) by omega] at this
  exact this
theorem ok111 : UOk 1 1 1 := ⟨by decide, by decide, by decide, by decide, by decide, by decide, by decide⟩
theorem y18 {a : Nat} (ha : a ≤ 8) : Ex v18 (En w b m r [s8, s9, s10, s11, s12, s13, s14, .fz (.int (a : Int)), s16, s17, s18, s19, s20]) (En w b m r [s8, s9, s10, s11, s12, s13, s14, .fz (.int (a : Int)), s16, s17, s18, s19, s20]) := by
  have e : Ev (dTup (aCons (dC (.int 1)) (aCons (dOp gAdd (dVar 15) (dC (.int 1))) aNil)) (En w b m r [s8, s9, s10, s11, s12, s13, s14, .fz (.int (a : Int)), s16, s17, s18, s19, s20])) (fr (1 / (((a : Int) + 1 : Int) : Rat))) :=
    ev_to (ev_tup (eva_cons ev_c (eva_cons (ev_op (ev_var rfl) ev_c op_add') eva_nil)) rfl) (fr_part a (by omega)).symm
  refine ex_ifF (evt_b (ev_toB (ev_op (ev_call (eva_cons (ev_tup (eva_cons ev_c (eva_cons ev_c (eva_cons ev_c eva_nil))) rfl) (eva_cons (ev_var rfl) eva_nil)) (s_count ok111 (n := a) ha) rfl) (ev_to (y := .list ((List.replicate (a + 1) (1 / (((a : Int) + 1 : Int) : Rat))).map fr)) (ev_op (ev_lst (eva_cons e eva_nil) rfl) (ev_op (ev_var rfl) ev_c op_add') (op_rep1 (n := a + 1) (by omega))) (by rw [frs_rep])) op_nefrs) ?_)) ex_nil
  rw [alike_cl ha]
  simp
/-! values -/
theorem val_step {v : PyData} {p : Bool} (hd : noDict v = true) (h1 : Ev (m_is_urn_of [v]) (.bool p)) (h2 : Ev (m__law_is_urn [v]) (.bool p)) : Ex v21_0_t0 (En w b m r [s8, s9, s10, s11, s12, s13, s14, s15, s16, .fz v, s18, s19, s20]) (En w b m r [s8, s9, s10, s11, s12, s13, s14, s15, s16, .fz v, .fz (.bool p), s19, s20]) := by
  have h3 : Ev (m_is_urn (permD PyData.none [0] [v])) (.bool p) := s_is_urn hd h1
  exact ex_seq (ex_asg (ev_call (eva_cons (ev_var rfl) eva_nil) h2 rfl) evg_n) (ex_ifF (evt_b (ev_repr2 (x := .list [.bool p, .bool p]) (ev_lst (eva_cons (ev_call (eva_cons (ev_var rfl) eva_nil) (s_is_urn hd h1) rfl) (eva_cons (ev_callK (eva_cons (ev_var rfl) eva_nil) h3 rfl) eva_nil)) rfl) (ev_lst (eva_cons (ev_var rfl) (eva_cons (ev_var rfl) eva_nil)) rfl) (by cases p <;> decide) rfl)) ex_nil)
structure Vok (v : PyData) : Prop where
  d : noDict v = true
  e : ∃ p, Ev (m_is_urn_of [v]) (.bool p) ∧ Ev (m__law_is_urn [v]) (.bool p)
theorem vok3 (x y z : Int) : Vok (ur x y z) := ⟨rfl, _, s_urn_int x y z, l_urn_int x y z⟩
theorem vokN {v : PyData} (h : noDict v = true) (h2 : Tc.tuple.has v = false) : Vok v := ⟨h, _, s_urn_not h h2, l_urn_not h h2⟩
theorem vokL {ds : List PyData} (h : ds.length ≠ 3) : Vok (.tuple ds) := ⟨rfl, _, s_urn_len h, l_urn_len h⟩
theorem vokB (y z : Int) : Vok (.tuple [.bool true, .int y, .int z]) :=
  ⟨rfl, false, ev_toB (s_urn3 (p := false) (r := true) (s_not_within rfl rfl rfl) (s_is_within y 0 9) fun h => by simp at h) (by simp), l_urn_bad (by simp [Tc.has])⟩
theorem vokM (x z : Int) : Vok (.tuple [.int x, .none, .int z]) :=
  ⟨rfl, false, ev_toB (s_urn3 (q := false) (r := true) (s_is_within x 0 9) (s_not_within rfl rfl rfl) fun h => by simp at h) (by simp), l_urn_bad (by simp [Tc.has])⟩
def vals (w b : Nat) (m : Int) : List PyData := [ur w b m, .list [.int w, .int b, .int m], .tuple [.int w, .int b], .tuple [.int w, .int b, .int m, .int 0], ur w b 5, ur w b (-2), ur 10 b m, .tuple [.bool true, .int b, .int m]]
def vals2 (w b : Nat) (m : Int) : List PyData := [ur 0 0 m, .none, .dict [], .str "urn", .tuple [.int w, .none, .int 0], ur (-1) 3 0, ur w b 4, ur 9 9 (-1)]
theorem vals_ok : ∀ v ∈ vals w b m ++ vals2 w b m, Vok v := by
  intro v hv
  simp only [vals, vals2, List.cons_append, List.nil_append, List.mem_cons, List.not_mem_nil, or_false] at hv
  rcases hv with rfl | rfl | rfl | rfl | rfl | rfl | rfl | rfl | rfl | rfl | rfl | rfl | rfl | rfl | rfl | rfl
  · exact vok3 _ _ _
  · exact vokN rfl rfl
  · exact vokL (by simp)
  · exact vokL (by simp)
  · exact vok3 _ _ _
  · exact vok3 _ _ _
  · exact vok3 _ _ _
  · exact vokB _ _
  · exact vok3 _ _ _
  · exact vokN rfl rfl
  · exact vokN rfl rfl
  · exact vokN rfl rfl
  · exact vokM _ _
  · exact vok3 _ _ _
  · exact vok3 _ _ _
  · exact vok3 _ _ _
theorem y19 : Ex v19 (En w b m r [s8, s9, s10, s11, s12, s13, s14, s15, s16, s17, s18, s19, s20]) (En w b m r [s8, s9, s10, s11, s12, s13, s14, s15, .ow [ur w b m, .list [.int w, .int b, .int m], .tuple [.int w, .int b], .tuple [.int w, .int b, .int m, .int 0], ur w b 5, ur w b (-2), ur 10 b m], s17, s18, s19, s20]) :=
  ex_own (evf_lst (eva_cons (ev_var rfl) (eva_cons (ev_cb (eva_cons (ev_var rfl) eva_nil) cb_lstT) (eva_cons (ev_sl (ev_var rfl) evo_none (evo_some ev_c) op_cutT) (eva_cons (ev_op (ev_var rfl) (ev_tup (eva_cons ev_c eva_nil) rfl) (op_catT rfl)) (eva_cons (ev_tup (eva_cons (ev_var rfl) (eva_cons (ev_var rfl) (eva_cons ev_c eva_nil))) rfl) (eva_cons (ev_tup (eva_cons (ev_var rfl) (eva_cons (ev_var rfl) (eva_cons (fun _ => rfl) eva_nil))) rfl) (eva_cons (ev_tup (eva_cons ev_c (eva_cons (ev_var rfl) (eva_cons (ev_var rfl) eva_nil))) rfl) eva_nil))))))) rfl)
theorem y20 : Ex v20 (En w b m r [s8, s9, s10, s11, s12, s13, s14, s15, .ow [ur w b m, .list [.int w, .int b, .int m], .tuple [.int w, .int b], .tuple [.int w, .int b, .int m, .int 0], ur w b 5, ur w b (-2), ur 10 b m], s17, s18, s19, s20]) (En w b m r [s8, s9, s10, s11, s12, s13, s14, s15, .ow (vals w b m), s17, s18, s19, s20]) :=
  ex_app (ds := [ur w b m, .list [.int w, .int b, .int m], .tuple [.int w, .int b], .tuple [.int w, .int b, .int m, .int 0], ur w b 5, ur w b (-2), ur 10 b m]) (d := .tuple [.bool true, .int b, .int m]) rfl (ev_tup (eva_cons ev_c (eva_cons (ev_var rfl) (eva_cons (ev_var rfl) eva_nil))) rfl) rfl
theorem y21 : ∃ t17 t18, Ex v21_0 (En w b m r [s8, s9, s10, s11, s12, s13, s14, s15, .fz (.list (vals w b m)), s17, s18, s19, s20]) (En w b m r [s8, s9, s10, s11, s12, s13, s14, s15, .fz (.list (vals w b m)), t17, t18, s19, s20]) := by
  obtain ⟨e, ⟨t17, t18, rfl⟩, he⟩ := for_inv (g := gN 17) (body := v21_0_t0) (f := fun v : PyData => v) (xs := vals w b m ++ vals2 w b m)
    (fun _ _ e => ∃ t17 t18, e = En w b m r [s8, s9, s10, s11, s12, s13, s14, s15, .fz (.list (vals w b m)), t17, t18, s19, s20]) (by
    rintro pre v rest e hq ⟨t17, t18, rfl⟩
    obtain ⟨d, p, h1, h2⟩ := vals_ok (w := w) (b := b) (m := m) v (by rw [← hq]; simp)
    exact ⟨_, _, evg_n, val_step d h1 h2, ⟨_, _, rfl⟩⟩) (vals w b m ++ vals2 w b m) [] (En w b m r [s8, s9, s10, s11, s12, s13, s14, s15, .fz (.list (vals w b m)), s17, s18, s19, s20]) rfl ⟨_, _, rfl⟩
  rw [List.map_id''] at he
  · exact ⟨t17, t18, ex_for (evi_seqL (ev_op (ev_var rfl) (ev_lst (eva_cons (ev_tup (eva_cons ev_c (eva_cons ev_c (eva_cons (ev_var rfl) eva_nil))) rfl) (eva_cons ev_c (eva_cons ev_c (eva_cons ev_c (eva_cons (ev_tup (eva_cons (ev_var rfl) (eva_cons ev_c (eva_cons ev_c eva_nil))) rfl) (eva_cons (ev_tup (eva_cons (fun _ => rfl) (eva_cons ev_c (eva_cons ev_c eva_nil))) rfl) (eva_cons (ev_tup (eva_cons (ev_var rfl) (eva_cons (ev_var rfl) (eva_cons ev_c eva_nil))) rfl) (eva_cons (ev_tup (eva_cons ev_c (eva_cons ev_c (eva_cons (fun _ => rfl) eva_nil))) rfl) eva_nil)))))))) rfl) (op_catL rfl))) he⟩
  · exact fun _ => rfl
theorem y22 (h : UOk w b m) (hn : n ≤ most w b m) {s : Sls} (hs : look (En w b m r s) 11 = .fz (.int (n : Int))) : Ex v21_1 (En w b m r s) (En w b m r s) :=
  ex_appX (evf_call (eva_cons (ev_var rfl) (eva_cons (ev_var hs) eva_nil)) (s_count h hn) rfl) ev_c (by have := most_le w b m; rw [List.length_map, cl_len]; exact small_le (m := 20) (by omega))
theorem y23 (h : UOk w b m) (hn : n ≤ most w b m) {s : Sls} (hs : look (En w b m r s) 11 = .fz (.int (n : Int))) (h12 : look (En w b m r s) 12 = .fz (Cl w b m n)) : Rt v21_2_0 (En w b m r s) (.bool true) :=
  rt_ret (ev_toB (ev_op (ev_call (eva_cons (ev_var rfl) (eva_cons (ev_var hs) eva_nil)) (s_count h hn) rfl) (ev_var h12) op_eqfrs) (by simp))
end
theorem t_right : m__law_right [potD] isT = true := by
  unfold m__law_right
  rw [k_mOf, veq]
  unfold vt0 v0
  show sSeq _ _ _ (.pt :: [.no, .no, .no, .no, .no, .no, .no, .no, .no, .no, .no, .no, .no, .no, .no, .no, .no, .no, .no, .no]) = true
  rw [k_potN]
  refine urn_all fun w b m hm hw hb h0 => ?_
  have h := uok hm hw hb h0
  refine go_seq y1 (go_seq y2 ?_)
  refine y3 fun r hr => ?_
  refine go_seq (y4 h hr) (go_seq (y5 h hr) (go_seq (y6 h hr) (go_seq y7 (go_seq (y8 h hr) ?_))))
  obtain ⟨t10, e9⟩ := y9 h hr (s8 := .fz (.int (on r : Int))) (s10 := .no) (s11 := .no) (s12 := .no) (s13 := .no) (s14 := .no) (s15 := .no) (s16 := .no) (s17 := .no) (s18 := .no) (s19 := .no) (s20 := .no)
  refine go_seq e9 ?_
  refine y10 fun n hn => ?_
  refine go_seq (ex_own (i := 12) (ds := []) (evf_lst eva_nil rfl)) ?_
  obtain ⟨t13, e12⟩ := y12 (r := r) h hn (s8 := .fz (.int (on r : Int))) (s9 := .fz (.tuple [.int (wT w m r), .int (bT b m r)])) (s10 := t10) (s13 := .no) (s14 := .no) (s15 := .no) (s16 := .no) (s17 := .no) (s18 := .no) (s19 := .no) (s20 := .no)
  refine go_seq e12 (go_seq (y13 h hn) (go_seq (y14 hm hw hb h0 hn) (go_seq (y15 hm hw hb h0 hn) (go_seq (y16 h hn) ?_))))
  refine y17 fun a ha => ?_
  refine go_seq (y18 ha) (go_seq y19 (go_seq y20 ?_))
  refine go_frz rfl ?_
  obtain ⟨t17, t18, e21⟩ := y21 (w := w) (b := b) (m := m) (r := r) (s8 := .fz (.int (on r : Int))) (s9 := .fz (.tuple [.int (wT w m r), .int (bT b m r)])) (s10 := t10) (s11 := .fz (.int (n : Int))) (s12 := .ow ((cl w b m n).map fr)) (s13 := t13) (s14 := .fz (fr ((((n : Int) * (w : Int) : Int) : Rat) / (((w + b : Nat) : Int) : Rat)))) (s15 := .fz (.int (a : Int))) (s17 := .no) (s18 := .no) (s19 := .no) (s20 := .no)
  refine go_seq e21 (go_seq (y22 h hn rfl) (go_frz rfl ?_))
  exact (y23 h hn rfl rfl _).trans rfl
end Kp

namespace Kp
open PySem PySem.Spec PyProof.Rows L2 Dl
section
variable {P : Program} {w : World} {K : PySem.W.Frag} {mg : Str → Option Value} {base : Heap}
theorem S_is_integer : FnScope N_is_integer ["value"] (defScope (top 8)) := ⟨rfl, rfl, rfl, by decide +kernel, rfl, by decide +kernel, by decide +kernel⟩
theorem h_is_integer {f : Addr} {fd : FuncData} (F : FnP K "is_integer" (top 8) f fd) (hm : mg "is_integer" = some (.ref f)) (bl : ∀ x ∈ blt, mg x = none)  : Has P w K mg base 1 "is_integer" ["value"] m_is_integer :=
  has_of (l := 0) (N := N_is_integer) F S_is_integer hm (F.bindsN fun _ _ _ _ _ _ us hl => match us, hl with | [_], _ => rfl) (fun W hw cdv A outer s H E hr =>
  (ss_one (ss_ret hw (se_and (se_is .int (bl "isinstance" (by decide)) (bl "int" (by decide)) (se_var (i := 0))) (se_one (se_not (se_is .bool (bl "isinstance" (by decide)) (bl "bool" (by decide)) (se_var (i := 0)))))))))
theorem S_is_within : FnScope N_is_within ["value", "least", "most"] (defScope (top 9)) := ⟨rfl, rfl, rfl, by decide +kernel, rfl, by decide +kernel, by decide +kernel⟩
theorem h_is_within {f : Addr} {fd : FuncData} (F : FnP K "is_within" (top 9) f fd) (hm : mg "is_within" = some (.ref f)) (bl : ∀ x ∈ blt, mg x = none) (h_is_integer : Has P w K mg base 1 "is_integer" ["value"] m_is_integer) : Has P w K mg base 2 "is_within" ["value", "least", "most"] m_is_within :=
  has_of (l := 1) (N := N_is_within) F S_is_within hm (F.bindsN fun _ _ _ _ _ _ us hl => match us, hl with | [_, _, _], _ => rfl) (fun W hw cdv A outer s H E hr =>
  (ss_one (ss_ret hw (se_and (se_call (h_is_integer.mono (by decide)) hr (sp_cons (se_var (i := 0)) sp_nil)) (se_one (se_chain op_le ok_I op_le ok_I (se_var (i := 1)) (se_var (i := 0)) (se_var (i := 2))))))))
theorem S_is_list : FnScope N_is_list ["value"] (defScope (top 10)) := ⟨rfl, rfl, rfl, by decide +kernel, rfl, by decide +kernel, by decide +kernel⟩
theorem h_is_list {f : Addr} {fd : FuncData} (F : FnP K "is_list" (top 10) f fd) (hm : mg "is_list" = some (.ref f)) (bl : ∀ x ∈ blt, mg x = none)  : Has P w K mg base 1 "is_list" ["value"] m_is_list :=
  has_of (l := 0) (N := N_is_list) F S_is_list hm (F.bindsN fun _ _ _ _ _ _ us hl => match us, hl with | [_], _ => rfl) (fun W hw cdv A outer s H E hr =>
  (ss_one (ss_ret hw (se_isLT (bl "isinstance" (by decide)) (bl "list" (by decide)) (bl "tuple" (by decide)) (se_var (i := 0))))))
theorem S_check_number : FnScope N_check_number ["value", "least", "most"] (defScope (top 11)) := ⟨rfl, rfl, rfl, by decide +kernel, rfl, by decide +kernel, by decide +kernel⟩
theorem h_check_number {f : Addr} {fd : FuncData} (F : FnP K "check_number" (top 11) f fd) (hm : mg "check_number" = some (.ref f)) (bl : ∀ x ∈ blt, mg x = none) (h_is_within : Has P w K mg base 2 "is_within" ["value", "least", "most"] m_is_within) : Has P w K mg base 3 "check_number" ["value", "least", "most"] m_check_number :=
  has_of (l := 2) (N := N_check_number) F S_check_number hm (F.bindsN fun _ _ _ _ _ _ us hl => match us, hl with | [_, _, _], _ => rfl) (fun W hw cdv A outer s H E hr =>
  (ss_one (ss_if (st_not (st_val (se_call (h_is_within.mono (by decide)) hr (sp_cons (se_var (i := 0)) (sp_cons (se_var (i := 1)) (sp_cons (se_var (i := 2)) sp_nil)))))) (ss_one ss_never) ss_nil)))
theorem S_divisor : FnScope N_divisor ["one", "late"] (defScope (top 12)) := ⟨rfl, rfl, rfl, by decide +kernel, rfl, by decide +kernel, by decide +kernel⟩
theorem h0_divisor {f : Addr} {fd : FuncData} (F : FnP K "divisor" (top 12) f fd) (hm : mg "divisor" = some (.ref f)) (bl : ∀ x ∈ blt, mg x = none)  : Has P w K mg base 1 "divisor" ["one", "late"] m0_divisor :=
  has_of (l := 0) (N := N_divisor) F S_divisor hm (F.bindsN fun _ _ _ _ _ _ us hl => match us, hl with | [_, _], _ => rfl) (fun W hw cdv A outer s H E hr =>
  (ss_cons (ss_wh 1000000 PassesOwn.never (st_cmp op_gt ok_I (se_var (i := 1)) se_int) (ss_one (ss_par (i := 0) (j := 1) rfl S_divisor.nd (sa_cons (se_var (i := 1)) (sa_cons (se_bin op_mod ok_mod (se_cty call_int1 ok_int (bl "int" (by decide)) (sa_cons (se_var (i := 0)) sa_nil)) (se_var (i := 1))) sa_nil)))))
  (ss_one (ss_ret hw (se_var (i := 0))))))
theorem h_divisor {f : Addr} {fd : FuncData} (F : FnP K "divisor" (top 12) f fd) (hm : mg "divisor" = some (.ref f)) (bl : ∀ x ∈ blt, mg x = none)  : Has P w K mg base 1 "divisor" ["one", "late"] m_divisor :=
  (h0_divisor F hm bl ).imp fun ds k h => le_divisor 2 ds k h
theorem S_reduced : FnScope N_reduced ["top", "bottom"] (defScope (top 15)) := ⟨rfl, rfl, rfl, by decide +kernel, rfl, by decide +kernel, by decide +kernel⟩
theorem h0_reduced {f : Addr} {fd : FuncData} (F : FnP K "reduced" (top 15) f fd) (hm : mg "reduced" = some (.ref f)) (bl : ∀ x ∈ blt, mg x = none) (h_divisor : Has P w K mg base 1 "divisor" ["one", "late"] m_divisor) : Has P w K mg base 2 "reduced" ["top", "bottom"] m0_reduced :=
  has_of (l := 1) (N := N_reduced) F S_reduced hm (F.bindsN fun _ _ _ _ _ _ us hl => match us, hl with | [_, _], _ => rfl) (fun W hw cdv A outer s H E hr =>
  (ss_cons (ss_if (st_cmp op_lt ok_I (se_var (i := 1)) se_int) (ss_one (ss_par (i := 0) (j := 1) rfl S_reduced.nd (sa_cons (se_bin op_subs ok_sub se_int (se_var (i := 0))) (sa_cons (se_bin op_subs ok_sub se_int (se_var (i := 1))) sa_nil)))) ss_nil)
  (ss_cons (ss_set (i := 2) S_reduced.nd (se_call (h_divisor.mono (by decide)) hr (sp_cons (se_cb call_abs ok_abs (bl "abs" (by decide)) (sa_cons (se_var (i := 0)) sa_nil)) (sp_cons (se_var (i := 1)) sp_nil))))
  (ss_one (ss_ret hw (se_tup (sa_cons (se_bin op_fdivW ok_fdiv (se_var (i := 0)) (se_var (i := 2))) (sa_cons (se_bin op_fdivW ok_fdiv (se_var (i := 1)) (se_var (i := 2))) sa_nil))))))))
theorem h_reduced {f : Addr} {fd : FuncData} (F : FnP K "reduced" (top 15) f fd) (hm : mg "reduced" = some (.ref f)) (bl : ∀ x ∈ blt, mg x = none) (h_divisor : Has P w K mg base 1 "divisor" ["one", "late"] m_divisor) : Has P w K mg base 2 "reduced" ["top", "bottom"] m_reduced :=
  (h0_reduced F hm bl h_divisor).imp fun ds k h => le_reduced ds k h
theorem S_multiply : FnScope N_multiply ["one", "late"] (defScope (top 16)) := ⟨rfl, rfl, rfl, by decide +kernel, rfl, by decide +kernel, by decide +kernel⟩
theorem h0_multiply {f : Addr} {fd : FuncData} (F : FnP K "multiply" (top 16) f fd) (hm : mg "multiply" = some (.ref f)) (bl : ∀ x ∈ blt, mg x = none) (h_reduced : Has P w K mg base 2 "reduced" ["top", "bottom"] m_reduced) : Has P w K mg base 3 "multiply" ["one", "late"] m0_multiply :=
  has_of (l := 2) (N := N_multiply) F S_multiply hm (F.bindsN fun _ _ _ _ _ _ us hl => match us, hl with | [_, _], _ => rfl) (fun W hw cdv A outer s H E hr =>
  (ss_one (ss_ret hw (se_call (h_reduced.mono (by decide)) hr (sp_cons (se_bin op_muls ok_mul (se_ix (se_var (i := 0)) se_int) (se_ix (se_var (i := 1)) se_int)) (sp_cons (se_bin op_muls ok_mul (se_ix (se_var (i := 0)) se_int) (se_ix (se_var (i := 1)) se_int)) sp_nil))))))
theorem h_multiply {f : Addr} {fd : FuncData} (F : FnP K "multiply" (top 16) f fd) (hm : mg "multiply" = some (.ref f)) (bl : ∀ x ∈ blt, mg x = none) (h_reduced : Has P w K mg base 2 "reduced" ["top", "bottom"] m_reduced) : Has P w K mg base 3 "multiply" ["one", "late"] m_multiply :=
  (h0_multiply F hm bl h_reduced).imp fun ds k h => le_mul m_reduced ds k h
theorem S_is_urn_of : FnScope N_is_urn_of ["value"] (defScope (top 21)) := ⟨rfl, rfl, rfl, by decide +kernel, rfl, by decide +kernel, by decide +kernel⟩
theorem h_is_urn_of {f : Addr} {fd : FuncData} (F : FnP K "is_urn_of" (top 21) f fd) (hm : mg "is_urn_of" = some (.ref f)) (bl : ∀ x ∈ blt, mg x = none) (g_MOST_MORE : Glo K mg "MOST_MORE" c_MOST_MORE) (g_MOST_BALLS : Glo K mg "MOST_BALLS" c_MOST_BALLS) (h_is_within : Has P w K mg base 2 "is_within" ["value", "least", "most"] m_is_within) : Has P w K mg base 3 "is_urn_of" ["value"] m_is_urn_of :=
  has_of (l := 2) (N := N_is_urn_of) F S_is_urn_of hm (F.bindsN fun _ _ _ _ _ _ us hl => match us, hl with | [_], _ => rfl) (fun W hw cdv A outer s H E hr =>
  (ss_cons (ss_if ((sw_or (st_not (st_val (se_is .tuple (bl "isinstance" (by decide)) (bl "tuple" (by decide)) (se_var (i := 0))))) (sw_or (st_cmp (op_neD hr.r.units) ok_ne (se_cb call_len_seq ok_len (bl "len" (by decide)) (sa_cons (se_var (i := 0)) sa_nil)) se_int) (sw_or1 (st_not (st_val (se_call (h_is_within.mono (by decide)) hr (sp_cons (se_ix (se_var (i := 0)) se_int) (sp_cons (se_un un_neg ok_neg se_int) (sp_cons (se_glob g_MOST_MORE) sp_nil)))))))))).st (ss_one (ss_ret hw se_bl)) ss_nil)
  (ss_one (ss_ret hw (se_and (se_cb (cr_all rfl) ok_all (bl "all" (by decide)) (sa_cons (se_lc (own := [("one", 1)]) (vs := [1]) rfl S_is_urn_of.nd (si_seq (se_sl (se_var (i := 0)) so_none (so_some se_int))) (blkOk_by (N := N_is_urn_of) (sc := defScope (top 21)) (by decide +kernel)) (fun _ _ _ _ _ => (sg_n (i := 1) S_is_urn_of.nd)) (fun _ _ _ _ _ => sts_nil) (fun _ _ _ _ _ => (se_call (h_is_within.mono (by decide)) hr (sp_cons (se_var (i := 1)) (sp_cons se_int (sp_cons (se_glob g_MOST_BALLS) sp_nil)))))) sa_nil)) (se_one (se_cmp op_gt ok_I (se_bin op_adds ok_add (se_ix (se_var (i := 0)) se_int) (se_ix (se_var (i := 0)) se_int)) se_int)))))))
theorem S_check_urn : FnScope N_check_urn ["value"] (defScope (top 22)) := ⟨rfl, rfl, rfl, by decide +kernel, rfl, by decide +kernel, by decide +kernel⟩
theorem h_check_urn {f : Addr} {fd : FuncData} (F : FnP K "check_urn" (top 22) f fd) (hm : mg "check_urn" = some (.ref f)) (bl : ∀ x ∈ blt, mg x = none) (h_is_urn_of : Has P w K mg base 3 "is_urn_of" ["value"] m_is_urn_of) : Has P w K mg base 4 "check_urn" ["value"] m_check_urn :=
  has_of (l := 3) (N := N_check_urn) F S_check_urn hm (F.bindsN fun _ _ _ _ _ _ us hl => match us, hl with | [_], _ => rfl) (fun W hw cdv A outer s H E hr =>
  (ss_one (ss_if (st_not (st_val (se_call (h_is_urn_of.mono (by decide)) hr (sp_cons (se_var (i := 0)) sp_nil)))) (ss_one ss_never) ss_nil)))
theorem S_most_draws : FnScope N_most_draws ["urn"] (defScope (top 23)) := ⟨rfl, rfl, rfl, by decide +kernel, rfl, by decide +kernel, by decide +kernel⟩
theorem h_most_draws {f : Addr} {fd : FuncData} (F : FnP K "most_draws" (top 23) f fd) (hm : mg "most_draws" = some (.ref f)) (bl : ∀ x ∈ blt, mg x = none) (g_MOST_DRAWS : Glo K mg "MOST_DRAWS" c_MOST_DRAWS) : Has P w K mg base 1 "most_draws" ["urn"] m_most_draws :=
  has_of (l := 0) (N := N_most_draws) F S_most_draws hm (F.bindsN fun _ _ _ _ _ _ us hl => match us, hl with | [_], _ => rfl) (fun W hw cdv A outer s H E hr =>
  (ss_one (ss_ret hw (se_if (st_cmp op_lt ok_I (se_ix (se_var (i := 0)) se_int) se_int) (se_cb (call_min2 rfl) ok_min2 (bl "min" (by decide)) (sa_cons (se_glob g_MOST_DRAWS) (sa_cons (se_bin op_adds ok_add (se_ix (se_var (i := 0)) se_int) (se_ix (se_var (i := 0)) se_int)) sa_nil))) (se_glob g_MOST_DRAWS)))))
theorem S_is_row_to : FnScope N_is_row_to ["value", "most"] (defScope (top 24)) := ⟨rfl, rfl, rfl, by decide +kernel, rfl, by decide +kernel, by decide +kernel⟩
theorem h_is_row_to {f : Addr} {fd : FuncData} (F : FnP K "is_row_to" (top 24) f fd) (hm : mg "is_row_to" = some (.ref f)) (bl : ∀ x ∈ blt, mg x = none) (h_is_list : Has P w K mg base 1 "is_list" ["value"] m_is_list) (h_is_within : Has P w K mg base 2 "is_within" ["value", "least", "most"] m_is_within) : Has P w K mg base 3 "is_row_to" ["value", "most"] m_is_row_to :=
  has_of (l := 2) (N := N_is_row_to) F S_is_row_to hm (F.bindsN fun _ _ _ _ _ _ us hl => match us, hl with | [_, _], _ => rfl) (fun W hw cdv A outer s H E hr =>
  (ss_one (ss_ret hw (se_and (se_call (h_is_list.mono (by decide)) hr (sp_cons (se_var (i := 0)) sp_nil)) (se_and (se_cmp op_le ok_I (se_cb call_len_seq ok_len (bl "len" (by decide)) (sa_cons (se_var (i := 0)) sa_nil)) (se_var (i := 1))) (se_one (se_cb (cr_all rfl) ok_all (bl "all" (by decide)) (sa_cons (se_lc (own := [("one", 2)]) (vs := [2]) rfl S_is_row_to.nd (si_seq (se_var (i := 0))) (blkOk_by (N := N_is_row_to) (sc := defScope (top 24)) (by decide +kernel)) (fun _ _ _ _ _ => (sg_n (i := 2) S_is_row_to.nd)) (fun _ _ _ _ _ => sts_nil) (fun _ _ _ _ _ => (se_call (h_is_within.mono (by decide)) hr (sp_cons (se_var (i := 2)) (sp_cons se_int (sp_cons se_int sp_nil)))))) sa_nil))))))))
theorem S_check_row : FnScope N_check_row ["urn", "row"] (defScope (top 25)) := ⟨rfl, rfl, rfl, by decide +kernel, rfl, by decide +kernel, by decide +kernel⟩
theorem h_check_row {f : Addr} {fd : FuncData} (F : FnP K "check_row" (top 25) f fd) (hm : mg "check_row" = some (.ref f)) (bl : ∀ x ∈ blt, mg x = none) (h_check_urn : Has P w K mg base 4 "check_urn" ["value"] m_check_urn) (h_most_draws : Has P w K mg base 1 "most_draws" ["urn"] m_most_draws) (h_is_row_to : Has P w K mg base 3 "is_row_to" ["value", "most"] m_is_row_to) : Has P w K mg base 5 "check_row" ["urn", "row"] m_check_row :=
  has_of (l := 4) (N := N_check_row) F S_check_row hm (F.bindsN fun _ _ _ _ _ _ us hl => match us, hl with | [_, _], _ => rfl) (fun W hw cdv A outer s H E hr =>
  (ss_cons (ss_expr (se_call (h_check_urn.mono (by decide)) hr (sp_cons (se_var (i := 0)) sp_nil)))
  (ss_one (ss_if (st_not (st_val (se_call (h_is_row_to.mono (by decide)) hr (sp_cons (se_var (i := 1)) (sp_cons (se_call (h_most_draws.mono (by decide)) hr (sp_cons (se_var (i := 0)) sp_nil)) sp_nil))))) (ss_one ss_never) ss_nil))))
theorem S_ways : FnScope N_ways ["many", "some"] (defScope (top 26)) := ⟨rfl, rfl, rfl, by decide +kernel, rfl, by decide +kernel, by decide +kernel⟩
theorem h_ways {f : Addr} {fd : FuncData} (F : FnP K "ways" (top 26) f fd) (hm : mg "ways" = some (.ref f)) (bl : ∀ x ∈ blt, mg x = none)  : Has P w K mg base 1 "ways" ["many", "some"] m_ways :=
  has_of (l := 0) (N := N_ways) F S_ways hm (F.bindsN fun _ _ _ _ _ _ us hl => match us, hl with | [_, _], _ => rfl) (fun W hw cdv A outer s H E hr =>
  (ss_cons (ss_set (i := 2) S_ways.nd se_int)
  (ss_cons (ss_for PassesOwn.never rfl (si_range1 (bl "range" (by decide)) (se_var (i := 1))) (sg_n (i := 3) S_ways.nd) (ss_one (ss_set (i := 2) S_ways.nd (se_bin op_fdivW ok_fdiv (se_bin op_muls ok_mul (se_var (i := 2)) (se_bin op_subs ok_sub (se_var (i := 0)) (se_var (i := 3)))) (se_bin op_adds ok_add (se_var (i := 3)) se_int)))))
  (ss_one (ss_ret hw (se_var (i := 2)))))))
theorem S_balls_behind : FnScope N_balls_behind ["urn", "row"] (defScope (top 27)) := ⟨rfl, rfl, rfl, by decide +kernel, rfl, by decide +kernel, by decide +kernel⟩
theorem h_balls_behind {f : Addr} {fd : FuncData} (F : FnP K "balls_behind" (top 27) f fd) (hm : mg "balls_behind" = some (.ref f)) (bl : ∀ x ∈ blt, mg x = none)  : Has P w K mg base 1 "balls_behind" ["urn", "row"] m_balls_behind :=
  has_of (l := 0) (N := N_balls_behind) F S_balls_behind hm (F.bindsN fun _ _ _ _ _ _ us hl => match us, hl with | [_, _], _ => rfl) (fun W hw cdv A outer s H E hr =>
  (ss_cons (ss_asg (se_var (i := 0)) (sg_t rfl (sgs_cons (sg_n (i := 2) S_balls_behind.nd) (sgs_cons (sg_n (i := 3) S_balls_behind.nd) (sgs_cons (sg_n (i := 4) S_balls_behind.nd) sgs_nil)))))
  (ss_one (ss_ret hw (se_tup (sa_cons (se_bin op_adds ok_add (se_var (i := 2)) (se_bin op_muls ok_mul (se_var (i := 4)) (se_cb (cr_sum2 rfl) ok_sum2 (bl "sum" (by decide)) (sa_cons (se_var (i := 1)) sa_nil)))) (sa_cons (se_bin op_adds ok_add (se_var (i := 3)) (se_bin op_muls ok_mul (se_var (i := 4)) (se_bin op_subs ok_sub (se_cb call_len_seq ok_len (bl "len" (by decide)) (sa_cons (se_var (i := 1)) sa_nil)) (se_cb (cr_sum2 rfl) ok_sum2 (bl "sum" (by decide)) (sa_cons (se_var (i := 1)) sa_nil))))) sa_nil)))))))
theorem S_chance_of_row : FnScope N_chance_of_row ["urn", "row"] (defScope (top 28)) := ⟨rfl, rfl, rfl, by decide +kernel, rfl, by decide +kernel, by decide +kernel⟩
theorem h_chance_of_row {f : Addr} {fd : FuncData} (F : FnP K "chance_of_row" (top 28) f fd) (hm : mg "chance_of_row" = some (.ref f)) (bl : ∀ x ∈ blt, mg x = none) (g_ONE : Glo K mg "ONE" c_ONE) (h_balls_behind : Has P w K mg base 1 "balls_behind" ["urn", "row"] m_balls_behind) (h_reduced : Has P w K mg base 2 "reduced" ["top", "bottom"] m_reduced) (h_multiply : Has P w K mg base 3 "multiply" ["one", "late"] m_multiply) : Has P w K mg base 4 "chance_of_row" ["urn", "row"] m_chance_of_row :=
  has_of (l := 3) (N := N_chance_of_row) F S_chance_of_row hm (F.bindsN fun _ _ _ _ _ _ us hl => match us, hl with | [_, _], _ => rfl) (fun W hw cdv A outer s H E hr =>
  (ss_cons (ss_set (i := 2) S_chance_of_row.nd (se_glob g_ONE))
  (ss_cons (ss_for PassesOwn.never rfl (si_enumQ (bl "enumerate" (by decide)) (se_var (i := 1))) (sg_t rfl (sgs_cons (sg_n (i := 3) S_chance_of_row.nd) (sgs_cons (sg_n (i := 4) S_chance_of_row.nd) sgs_nil))) (ss_cons (ss_asg (se_call (h_balls_behind.mono (by decide)) hr (sp_cons (se_var (i := 0)) (sp_cons (se_sl (se_var (i := 1)) so_none (so_some (se_var (i := 3)))) sp_nil))) (sg_t rfl (sgs_cons (sg_n (i := 5) S_chance_of_row.nd) (sgs_cons (sg_n (i := 6) S_chance_of_row.nd) sgs_nil))))
  (ss_cons (ss_set (i := 2) S_chance_of_row.nd (se_call (h_multiply.mono (by decide)) hr (sp_cons (se_var (i := 2)) (sp_cons (se_call (h_reduced.mono (by decide)) hr (sp_cons (se_if (st_cmp (op_eqD hr.r.units) ok_eq (se_var (i := 4)) se_int) (se_var (i := 5)) (se_var (i := 6))) (sp_cons (se_bin op_adds ok_add (se_var (i := 5)) (se_var (i := 6))) sp_nil))) sp_nil))))
  (ss_one (ss_if (st_cmp (op_eqD hr.r.units) ok_eq (se_ix (se_var (i := 2)) se_int) se_int) (ss_one (ss_ret hw (se_var (i := 2)))) ss_nil)))))
  (ss_one (ss_ret hw (se_var (i := 2)))))))
theorem S_counts_of : FnScope N_counts_of ["urn", "number"] (defScope (top 29)) := ⟨rfl, rfl, rfl, by decide +kernel, rfl, by decide +kernel, by decide +kernel⟩
theorem hF_counts_of {f : Addr} {fd : FuncData} (F : FnP K "counts_of" (top 29) f fd) (hm : mg "counts_of" = some (.ref f)) (bl : ∀ x ∈ blt, mg x = none) (h_chance_of_row : Has P w K mg base 4 "chance_of_row" ["urn", "row"] m_chance_of_row) (h_ways : Has P w K mg base 1 "ways" ["many", "some"] m_ways) (h_multiply : Has P w K mg base 3 "multiply" ["one", "late"] m_multiply) : HasF P w K mg base 5 "counts_of" ["urn", "number"] m_counts_of :=
  hasF_of (l := 4) (N := N_counts_of) F S_counts_of hm (F.bindsN fun _ _ _ _ _ _ us hl => match us, hl with | [_, _], _ => rfl) (fun W hw cdv A outer s H E hr =>
  (ss_cons (ss_own (i := 2) S_counts_of.nd (sf_lst sa_nil))
  (ss_cons (ss_for PassesOwn.never rfl (si_range1 (bl "range" (by decide)) (se_bin op_adds ok_add (se_var (i := 1)) se_int)) (sg_n (i := 3) S_counts_of.nd) (ss_cons (ss_set (i := 4) S_counts_of.nd (se_call (h_chance_of_row.mono (by decide)) hr (sp_cons (se_var (i := 0)) (sp_cons (se_bin op_adds ok_add (se_bin op_muls ok_mul (se_lst (sa_cons se_int sa_nil)) (se_var (i := 3))) (se_bin op_muls ok_mul (se_lst (sa_cons se_int sa_nil)) (se_bin op_subs ok_sub (se_var (i := 1)) (se_var (i := 3))))) sp_nil))))
  (ss_one (ss_app (i := 2) (se_call (h_multiply.mono (by decide)) hr (sp_cons (se_tup (sa_cons (se_call (h_ways.mono (by decide)) hr (sp_cons (se_var (i := 1)) (sp_cons (se_var (i := 3)) sp_nil))) (sa_cons se_int sa_nil))) (sp_cons (se_var (i := 4)) sp_nil)))))))
  (ss_one (ss_retO (i := 2) hw)))))
end
end Kp

namespace Kp
open PySem PySem.Spec PyProof.Rows L2 Dl
section
variable {P : Program} {w : World} {K : PySem.W.Frag} {mg : Str → Option Value} {base : Heap}
theorem S_is_urn : FnScope N_is_urn ["value"] (defScope (top 30)) := ⟨rfl, rfl, rfl, by decide +kernel, rfl, by decide +kernel, by decide +kernel⟩
theorem h_is_urn {f : Addr} {fd : FuncData} (F : FnP K "is_urn" (top 30) f fd) (hm : mg "is_urn" = some (.ref f)) (bl : ∀ x ∈ blt, mg x = none) (h_is_urn_of : Has P w K mg base 3 "is_urn_of" ["value"] m_is_urn_of) : Has P w K mg base 4 "is_urn" ["value"] m_is_urn :=
  has_of (l := 3) (N := N_is_urn) F S_is_urn hm (F.bindsN fun _ _ _ _ _ _ us hl => match us, hl with | [_], _ => rfl) (fun W hw cdv A outer s H E hr =>
  (ss_one (ss_ret hw (se_call (h_is_urn_of.mono (by decide)) hr (sp_cons (se_var (i := 0)) sp_nil)))))
theorem S_row_chance : FnScope N_row_chance ["urn", "row"] (defScope (top 31)) := ⟨rfl, rfl, rfl, by decide +kernel, rfl, by decide +kernel, by decide +kernel⟩
theorem h_row_chance {f : Addr} {fd : FuncData} (F : FnP K "row_chance" (top 31) f fd) (hm : mg "row_chance" = some (.ref f)) (bl : ∀ x ∈ blt, mg x = none) (h_check_row : Has P w K mg base 5 "check_row" ["urn", "row"] m_check_row) (h_chance_of_row : Has P w K mg base 4 "chance_of_row" ["urn", "row"] m_chance_of_row) : Has P w K mg base 6 "row_chance" ["urn", "row"] m_row_chance :=
  has_of (l := 5) (N := N_row_chance) F S_row_chance hm (F.bindsN fun _ _ _ _ _ _ us hl => match us, hl with | [_, _], _ => rfl) (fun W hw cdv A outer s H E hr =>
  (ss_cons (ss_expr (se_call (h_check_row.mono (by decide)) hr (sp_cons (se_var (i := 0)) (sp_cons (se_var (i := 1)) sp_nil))))
  (ss_one (ss_ret hw (se_call (h_chance_of_row.mono (by decide)) hr (sp_cons (se_var (i := 0)) (sp_cons (se_cty call_list_of ok_list (bl "list" (by decide)) (sa_cons (se_var (i := 1)) sa_nil)) sp_nil)))))))
theorem S_next_white : FnScope N_next_white ["urn", "row"] (defScope (top 32)) := ⟨rfl, rfl, rfl, by decide +kernel, rfl, by decide +kernel, by decide +kernel⟩
theorem h_next_white {f : Addr} {fd : FuncData} (F : FnP K "next_white" (top 32) f fd) (hm : mg "next_white" = some (.ref f)) (bl : ∀ x ∈ blt, mg x = none) (h_check_row : Has P w K mg base 5 "check_row" ["urn", "row"] m_check_row) (h_balls_behind : Has P w K mg base 1 "balls_behind" ["urn", "row"] m_balls_behind) (h_chance_of_row : Has P w K mg base 4 "chance_of_row" ["urn", "row"] m_chance_of_row) (h_reduced : Has P w K mg base 2 "reduced" ["top", "bottom"] m_reduced) : Has P w K mg base 6 "next_white" ["urn", "row"] m_next_white :=
  has_of (l := 5) (N := N_next_white) F S_next_white hm (F.bindsN fun _ _ _ _ _ _ us hl => match us, hl with | [_, _], _ => rfl) (fun W hw cdv A outer s H E hr =>
  (ss_cons (ss_expr (se_call (h_check_row.mono (by decide)) hr (sp_cons (se_var (i := 0)) (sp_cons (se_var (i := 1)) sp_nil))))
  (ss_cons (ss_asg (se_call (h_balls_behind.mono (by decide)) hr (sp_cons (se_var (i := 0)) (sp_cons (se_var (i := 1)) sp_nil))) (sg_t rfl (sgs_cons (sg_n (i := 2) S_next_white.nd) (sgs_cons (sg_n (i := 3) S_next_white.nd) sgs_nil))))
  (ss_cons (ss_if ((sw_or (st_cmp (op_eqD hr.r.units) ok_eq (se_ix (se_call (h_chance_of_row.mono (by decide)) hr (sp_cons (se_var (i := 0)) (sp_cons (se_cty call_list_of ok_list (bl "list" (by decide)) (sa_cons (se_var (i := 1)) sa_nil)) sp_nil))) se_int) se_int) (sw_or1 (st_cmp (op_eqD hr.r.units) ok_eq (se_bin op_adds ok_add (se_var (i := 2)) (se_var (i := 3))) se_int)))).st (ss_one ss_never) ss_nil)
  (ss_one (ss_ret hw (se_call (h_reduced.mono (by decide)) hr (sp_cons (se_var (i := 2)) (sp_cons (se_bin op_adds ok_add (se_var (i := 2)) (se_var (i := 3))) sp_nil)))))))))
theorem S_count_chances : FnScope N_count_chances ["urn", "number"] (defScope (top 33)) := ⟨rfl, rfl, rfl, by decide +kernel, rfl, by decide +kernel, by decide +kernel⟩
theorem hF_count_chances {f : Addr} {fd : FuncData} (F : FnP K "count_chances" (top 33) f fd) (hm : mg "count_chances" = some (.ref f)) (bl : ∀ x ∈ blt, mg x = none) (h_check_urn : Has P w K mg base 4 "check_urn" ["value"] m_check_urn) (h_most_draws : Has P w K mg base 1 "most_draws" ["urn"] m_most_draws) (h_check_number : Has P w K mg base 3 "check_number" ["value", "least", "most"] m_check_number) (hF_counts_of : HasF P w K mg base 5 "counts_of" ["urn", "number"] m_counts_of) : HasF P w K mg base 6 "count_chances" ["urn", "number"] m_count_chances :=
  hasF_of (l := 5) (N := N_count_chances) F S_count_chances hm (F.bindsN fun _ _ _ _ _ _ us hl => match us, hl with | [_, _], _ => rfl) (fun W hw cdv A outer s H E hr =>
  (ss_cons (ss_expr (se_call (h_check_urn.mono (by decide)) hr (sp_cons (se_var (i := 0)) sp_nil)))
  (ss_cons (ss_expr (se_call (h_check_number.mono (by decide)) hr (sp_cons (se_var (i := 1)) (sp_cons se_int (sp_cons (se_call (h_most_draws.mono (by decide)) hr (sp_cons (se_var (i := 0)) sp_nil)) sp_nil)))))
  (ss_one (ss_retF hw (sf_call (hF_counts_of.mono (by decide)) hr (sp_cons (se_var (i := 0)) (sp_cons (se_var (i := 1)) sp_nil))))))))
theorem S__law_pick : FnScope N__law_pick ["pot", "some"] (defScope (top 37)) := ⟨rfl, rfl, rfl, by decide +kernel, rfl, by decide +kernel, by decide +kernel⟩
theorem h__law_pick {f : Addr} {fd : FuncData} (F : FnP K "_law_pick" (top 37) f fd) (hm : mg "_law_pick" = some (.ref f)) (bl : ∀ x ∈ blt, mg x = none) (h__law_draw : Has P w K mg base 1 "_law_draw" ["pot", "many"] m__law_draw) : Has P w K mg base 2 "_law_pick" ["pot", "some"] m__law_pick :=
  has_of (l := 1) (N := N__law_pick) F S__law_pick hm (F.bindsN fun _ _ _ _ _ _ us hl => match us, hl with | [_, _], _ => rfl) (fun W hw cdv A outer s H E hr =>
  (ss_one (ss_ret hw (se_ix (se_var (i := 1)) (se_call (h__law_draw.mono (by decide)) hr (sp_pot (i := 0) (sp_cons (se_cb call_len_seq ok_len (bl "len" (by decide)) (sa_cons (se_var (i := 1)) sa_nil)) sp_nil)))))))
theorem S__law_plain : FnScope N__law_plain ["top", "bottom"] (defScope (top 38)) := ⟨rfl, rfl, rfl, by decide +kernel, rfl, by decide +kernel, by decide +kernel⟩
theorem h0__law_plain {f : Addr} {fd : FuncData} (F : FnP K "_law_plain" (top 38) f fd) (hm : mg "_law_plain" = some (.ref f)) (bl : ∀ x ∈ blt, mg x = none)  : Has P w K mg base 1 "_law_plain" ["top", "bottom"] m0__law_plain :=
  has_of (l := 0) (N := N__law_plain) F S__law_plain hm (F.bindsN fun _ _ _ _ _ _ us hl => match us, hl with | [_, _], _ => rfl) (fun W hw cdv A outer s H E hr =>
  (ss_cons (ss_par (i := 2) (j := 3) rfl S__law_plain.nd (sa_cons (se_cb call_abs ok_abs (bl "abs" (by decide)) (sa_cons (se_var (i := 0)) sa_nil)) (sa_cons (se_cb call_abs ok_abs (bl "abs" (by decide)) (sa_cons (se_var (i := 1)) sa_nil)) sa_nil)))
  (ss_cons (ss_wh 1000000 PassesOwn.never (st_cmp (op_neD hr.r.units) ok_ne (se_var (i := 3)) se_int) (ss_one (ss_par (i := 2) (j := 3) rfl S__law_plain.nd (sa_cons (se_var (i := 3)) (sa_cons (se_cty call_int1 ok_int (bl "int" (by decide)) (sa_cons (se_bin op_mod ok_mod (se_var (i := 2)) (se_var (i := 3))) sa_nil)) sa_nil)))))
  (ss_cons (ss_set (i := 4) S__law_plain.nd (se_if (st_cmp op_gt ok_I (se_var (i := 1)) se_int) se_int (se_un un_neg ok_neg se_int)))
  (ss_one (ss_ret hw (se_tup (sa_cons (se_cty call_int1 ok_int (bl "int" (by decide)) (sa_cons (se_bin op_fdivW ok_fdiv (se_bin op_muls ok_mul (se_var (i := 4)) (se_var (i := 0))) (se_var (i := 2))) sa_nil)) (sa_cons (se_cty call_int1 ok_int (bl "int" (by decide)) (sa_cons (se_bin op_fdivW ok_fdiv (se_bin op_muls ok_mul (se_var (i := 4)) (se_var (i := 1))) (se_var (i := 2))) sa_nil)) sa_nil)))))))))
theorem h__law_plain {f : Addr} {fd : FuncData} (F : FnP K "_law_plain" (top 38) f fd) (hm : mg "_law_plain" = some (.ref f)) (bl : ∀ x ∈ blt, mg x = none)  : Has P w K mg base 1 "_law_plain" ["top", "bottom"] m__law_plain :=
  (h0__law_plain F hm bl ).imp fun ds k h => le_plain2 ds k h
theorem S__law_sum : FnScope N__law_sum ["some"] (defScope (top 39)) := ⟨rfl, rfl, rfl, by decide +kernel, rfl, by decide +kernel, by decide +kernel⟩
theorem h__law_sum {f : Addr} {fd : FuncData} (F : FnP K "_law_sum" (top 39) f fd) (hm : mg "_law_sum" = some (.ref f)) (bl : ∀ x ∈ blt, mg x = none) (h__law_plain : Has P w K mg base 1 "_law_plain" ["top", "bottom"] m__law_plain) : Has P w K mg base 2 "_law_sum" ["some"] m__law_sum :=
  has_of (l := 1) (N := N__law_sum) F S__law_sum hm (F.bindsN fun _ _ _ _ _ _ us hl => match us, hl with | [_], _ => rfl) (fun W hw cdv A outer s H E hr =>
  (ss_cons (ss_asg (se_tup (sa_cons se_int (sa_cons se_int sa_nil))) (sg_t rfl (sgs_cons (sg_n (i := 1) S__law_sum.nd) (sgs_cons (sg_n (i := 2) S__law_sum.nd) sgs_nil))))
  (ss_cons (ss_for PassesOwn.never rfl (si_seq (se_var (i := 0))) (sg_n (i := 3) S__law_sum.nd) (ss_one (ss_asg (se_call (h__law_plain.mono (by decide)) hr (sp_cons (se_bin op_adds ok_add (se_bin op_muls ok_mul (se_var (i := 1)) (se_ix (se_var (i := 3)) se_int)) (se_bin op_muls ok_mul (se_ix (se_var (i := 3)) se_int) (se_var (i := 2)))) (sp_cons (se_bin op_muls ok_mul (se_var (i := 2)) (se_ix (se_var (i := 3)) se_int)) sp_nil))) (sg_t rfl (sgs_cons (sg_n (i := 1) S__law_sum.nd) (sgs_cons (sg_n (i := 2) S__law_sum.nd) sgs_nil))))))
  (ss_one (ss_ret hw (se_tup (sa_cons (se_var (i := 1)) (sa_cons (se_var (i := 2)) sa_nil))))))))
theorem S__law_times : FnScope N__law_times ["one", "other"] (defScope (top 40)) := ⟨rfl, rfl, rfl, by decide +kernel, rfl, by decide +kernel, by decide +kernel⟩
theorem h0__law_times {f : Addr} {fd : FuncData} (F : FnP K "_law_times" (top 40) f fd) (hm : mg "_law_times" = some (.ref f)) (bl : ∀ x ∈ blt, mg x = none) (h__law_plain : Has P w K mg base 1 "_law_plain" ["top", "bottom"] m__law_plain) : Has P w K mg base 2 "_law_times" ["one", "other"] m0__law_times :=
  has_of (l := 1) (N := N__law_times) F S__law_times hm (F.bindsN fun _ _ _ _ _ _ us hl => match us, hl with | [_, _], _ => rfl) (fun W hw cdv A outer s H E hr =>
  (ss_one (ss_ret hw (se_call (h__law_plain.mono (by decide)) hr (sp_cons (se_bin op_muls ok_mul (se_ix (se_var (i := 0)) se_int) (se_ix (se_var (i := 1)) se_int)) (sp_cons (se_bin op_muls ok_mul (se_ix (se_var (i := 0)) se_int) (se_ix (se_var (i := 1)) se_int)) sp_nil))))))
theorem h__law_times {f : Addr} {fd : FuncData} (F : FnP K "_law_times" (top 40) f fd) (hm : mg "_law_times" = some (.ref f)) (bl : ∀ x ∈ blt, mg x = none) (h__law_plain : Has P w K mg base 1 "_law_plain" ["top", "bottom"] m__law_plain) : Has P w K mg base 2 "_law_times" ["one", "other"] m__law_times :=
  (h0__law_times F hm bl h__law_plain).imp fun ds k h => le_mul m__law_plain ds k h
theorem S__law_urn : FnScope N__law_urn ["pot"] (defScope (top 41)) := ⟨rfl, rfl, rfl, by decide +kernel, rfl, by decide +kernel, by decide +kernel⟩
theorem h__law_urn {f : Addr} {fd : FuncData} (F : FnP K "_law_urn" (top 41) f fd) (hm : mg "_law_urn" = some (.ref f)) (bl : ∀ x ∈ blt, mg x = none) (h__law_pick : Has P w K mg base 2 "_law_pick" ["pot", "some"] m__law_pick) (h__law_draw : Has P w K mg base 1 "_law_draw" ["pot", "many"] m__law_draw) : Has P w K mg base 3 "_law_urn" ["pot"] m__law_urn :=
  has_of (l := 2) (N := N__law_urn) F S__law_urn hm (F.bindsN fun _ _ _ _ _ _ us hl => match us, hl with | [_], _ => rfl) (fun W hw cdv A outer s H E hr =>
  (ss_cons (ss_set (i := 1) S__law_urn.nd (se_call (h__law_pick.mono (by decide)) hr (sp_pot (i := 0) (sp_cons (se_lst (sa_cons (se_un un_neg ok_neg se_int) (sa_cons (se_un un_neg ok_neg se_int) (sa_cons se_int (sa_cons se_int (sa_cons se_int (sa_cons se_int (sa_cons se_int (sa_cons se_int sa_nil))))))))) sp_nil))))
  (ss_cons (ss_par (i := 2) (j := 3) rfl S__law_urn.nd (sa_cons (se_call (h__law_draw.mono (by decide)) hr (sp_pot (i := 0) (sp_cons se_int sp_nil))) (sa_cons (se_call (h__law_draw.mono (by decide)) hr (sp_pot (i := 0) (sp_cons se_int sp_nil))) sa_nil)))
  (ss_one (ss_ret hw (se_tup (sa_cons (se_if (st_cmp op_gt ok_I (se_bin op_adds ok_add (se_var (i := 2)) (se_var (i := 3))) se_int) (se_var (i := 2)) se_int) (sa_cons (se_var (i := 3)) (sa_cons (se_var (i := 1)) sa_nil)))))))))
theorem S__law_row_chance : FnScope N__law_row_chance ["urn", "row"] (defScope (top 42)) := ⟨rfl, rfl, rfl, by decide +kernel, rfl, by decide +kernel, by decide +kernel⟩
theorem h__law_row_chance {f : Addr} {fd : FuncData} (F : FnP K "_law_row_chance" (top 42) f fd) (hm : mg "_law_row_chance" = some (.ref f)) (bl : ∀ x ∈ blt, mg x = none) (h__law_plain : Has P w K mg base 1 "_law_plain" ["top", "bottom"] m__law_plain) (h__law_times : Has P w K mg base 2 "_law_times" ["one", "other"] m__law_times) : Has P w K mg base 3 "_law_row_chance" ["urn", "row"] m__law_row_chance :=
  has_of (l := 2) (N := N__law_row_chance) F S__law_row_chance hm (F.bindsN fun _ _ _ _ _ _ us hl => match us, hl with | [_, _], _ => rfl) (fun W hw cdv A outer s H E hr =>
  (ss_cons (ss_asg (se_var (i := 0)) (sg_t rfl (sgs_cons (sg_n (i := 2) S__law_row_chance.nd) (sgs_cons (sg_n (i := 3) S__law_row_chance.nd) (sgs_cons (sg_n (i := 4) S__law_row_chance.nd) sgs_nil)))))
  (ss_cons (ss_set (i := 5) S__law_row_chance.nd (se_tup (sa_cons se_int (sa_cons se_int sa_nil))))
  (ss_cons (ss_for PassesOwn.never rfl (si_seq (se_var (i := 1))) (sg_n (i := 6) S__law_row_chance.nd) (ss_cons (ss_set (i := 5) S__law_row_chance.nd (se_call (h__law_times.mono (by decide)) hr (sp_cons (se_var (i := 5)) (sp_cons (se_call (h__law_plain.mono (by decide)) hr (sp_cons (se_if (st_cmp (op_eqD hr.r.units) ok_eq (se_var (i := 6)) se_int) (se_var (i := 2)) (se_var (i := 3))) (sp_cons (se_bin op_adds ok_add (se_var (i := 2)) (se_var (i := 3))) sp_nil))) sp_nil))))
  (ss_one (ss_par (i := 2) (j := 3) rfl S__law_row_chance.nd (sa_cons (se_bin op_adds ok_add (se_var (i := 2)) (se_bin op_muls ok_mul (se_var (i := 4)) (se_var (i := 6)))) (sa_cons (se_bin op_adds ok_add (se_var (i := 3)) (se_bin op_muls ok_mul (se_var (i := 4)) (se_bin op_subs ok_sub se_int (se_var (i := 6))))) sa_nil))))))
  (ss_one (ss_ret hw (se_var (i := 5))))))))
theorem S__law_ways : FnScope N__law_ways ["many", "some"] (defScope (top 43)) := ⟨rfl, rfl, rfl, by decide +kernel, rfl, by decide +kernel, by decide +kernel⟩
theorem h__law_ways {f : Addr} {fd : FuncData} (F : FnP K "_law_ways" (top 43) f fd) (hm : mg "_law_ways" = some (.ref f)) (bl : ∀ x ∈ blt, mg x = none)  : Has P w K mg base 1 "_law_ways" ["many", "some"] m__law_ways :=
  has_of (l := 0) (N := N__law_ways) F S__law_ways hm (F.bindsN fun _ _ _ _ _ _ us hl => match us, hl with | [_, _], _ => rfl) (fun W hw cdv A outer s H E hr =>
  (ss_cons (ss_set (i := 2) S__law_ways.nd se_int)
  (ss_cons (ss_for PassesOwn.never rfl (si_range1 (bl "range" (by decide)) (se_var (i := 1))) (sg_n (i := 3) S__law_ways.nd) (ss_one (ss_set (i := 2) S__law_ways.nd (se_bin op_fdivW ok_fdiv (se_bin op_muls ok_mul (se_var (i := 2)) (se_bin op_subs ok_sub (se_var (i := 0)) (se_var (i := 3)))) (se_bin op_adds ok_add (se_var (i := 3)) se_int)))))
  (ss_one (ss_ret hw (se_var (i := 2)))))))
theorem S__law_is_urn : FnScope N__law_is_urn ["value"] (defScope (top 44)) := ⟨rfl, rfl, rfl, by decide +kernel, rfl, by decide +kernel, by decide +kernel⟩
theorem h__law_is_urn {f : Addr} {fd : FuncData} (F : FnP K "_law_is_urn" (top 44) f fd) (hm : mg "_law_is_urn" = some (.ref f)) (bl : ∀ x ∈ blt, mg x = none)  : Has P w K mg base 1 "_law_is_urn" ["value"] m__law_is_urn :=
  has_of (l := 0) (N := N__law_is_urn) F S__law_is_urn hm (F.bindsN fun _ _ _ _ _ _ us hl => match us, hl with | [_], _ => rfl) (fun W hw cdv A outer s H E hr =>
  (ss_cons (ss_if ((sw_or (st_not (st_val (se_is .tuple (bl "isinstance" (by decide)) (bl "tuple" (by decide)) (se_var (i := 0))))) (sw_or1 (st_cmp (op_neD hr.r.units) ok_ne (se_cb call_len_seq ok_len (bl "len" (by decide)) (sa_cons (se_var (i := 0)) sa_nil)) se_int)))).st (ss_one (ss_ret hw se_bl)) ss_nil)
  (ss_cons (ss_if (st_not (st_val (se_cb (cr_all rfl) ok_all (bl "all" (by decide)) (sa_cons (se_lc (own := [("one", 1)]) (vs := [1]) rfl S__law_is_urn.nd (si_seq (se_var (i := 0))) (blkOk_by (N := N__law_is_urn) (sc := defScope (top 44)) (by decide +kernel)) (fun _ _ _ _ _ => (sg_n (i := 1) S__law_is_urn.nd)) (fun _ _ _ _ _ => sts_nil) (fun _ _ _ _ _ => (se_and (se_is .int (bl "isinstance" (by decide)) (bl "int" (by decide)) (se_var (i := 1))) (se_one (se_not (se_is .bool (bl "isinstance" (by decide)) (bl "bool" (by decide)) (se_var (i := 1)))))))) sa_nil)))) (ss_one (ss_ret hw se_bl)) ss_nil)
  (ss_one (ss_ret hw (se_and (se_chain op_le ok_I op_le ok_I se_int (se_ix (se_var (i := 0)) se_int) se_int) (se_and (se_chain op_le ok_I op_le ok_I se_int (se_ix (se_var (i := 0)) se_int) se_int) (se_and (se_cmp op_gt ok_I (se_bin op_adds ok_add (se_ix (se_var (i := 0)) se_int) (se_ix (se_var (i := 0)) se_int)) se_int) (se_one (se_chain op_le ok_I op_le ok_I (se_un un_neg ok_neg se_int) (se_ix (se_var (i := 0)) se_int) se_int))))))))))
theorem S__law_right : FnScope N__law_right ["pot"] (defScope (top 45)) := ⟨rfl, rfl, rfl, by decide +kernel, rfl, by decide +kernel, by decide +kernel⟩
theorem h__law_right {f : Addr} {fd : FuncData} (F : FnP K "_law_right" (top 45) f fd) (hm : mg "_law_right" = some (.ref f)) (bl : ∀ x ∈ blt, mg x = none) (h__law_urn : Has P w K mg base 3 "_law_urn" ["pot"] m__law_urn) (h__law_draw : Has P w K mg base 1 "_law_draw" ["pot", "many"] m__law_draw) (h__law_row_chance : Has P w K mg base 3 "_law_row_chance" ["urn", "row"] m__law_row_chance) (h_row_chance : Has P w K mg base 6 "row_chance" ["urn", "row"] m_row_chance) (h__law_plain : Has P w K mg base 1 "_law_plain" ["top", "bottom"] m__law_plain) (h_next_white : Has P w K mg base 6 "next_white" ["urn", "row"] m_next_white) (h__law_times : Has P w K mg base 2 "_law_times" ["one", "other"] m__law_times) (h__law_ways : Has P w K mg base 1 "_law_ways" ["many", "some"] m__law_ways) (h_count_chances : Has P w K mg base 6 "count_chances" ["urn", "number"] m_count_chances) (h__law_sum : Has P w K mg base 2 "_law_sum" ["some"] m__law_sum) (h__law_is_urn : Has P w K mg base 1 "_law_is_urn" ["value"] m__law_is_urn) (h_is_urn : Has P w K mg base 4 "is_urn" ["value"] m_is_urn) (hF_count_chances : HasF P w K mg base 6 "count_chances" ["urn", "number"] m_count_chances) (h_row_chance_k10 : HasK P w K mg base 6 "row_chance" ["urn", "row"] m_row_chance ["row", "urn"] [1, 0]) (h_next_white_k10 : HasK P w K mg base 6 "next_white" ["urn", "row"] m_next_white ["row", "urn"] [1, 0]) (h_count_chances_k10 : HasK P w K mg base 6 "count_chances" ["urn", "number"] m_count_chances ["number", "urn"] [1, 0]) (h_is_urn_k0 : HasK P w K mg base 4 "is_urn" ["value"] m_is_urn ["value"] [0]) : Has P w K mg base 7 "_law_right" ["pot"] m__law_right :=
  has_of (l := 6) (N := N__law_right) F S__law_right hm (F.bindsN fun _ _ _ _ _ _ us hl => match us, hl with | [_], _ => rfl) (fun W hw cdv A outer s H E hr =>
  (ss_cons (ss_set (i := 1) S__law_right.nd (se_call (h__law_urn.mono (by decide)) hr (sp_pot (i := 0) sp_nil)))
  (ss_cons (ss_asg (se_var (i := 1)) (sg_t rfl (sgs_cons (sg_n (i := 2) S__law_right.nd) (sgs_cons (sg_n (i := 3) S__law_right.nd) (sgs_cons (sg_n (i := 4) S__law_right.nd) sgs_nil)))))
  (ss_cons (ss_set (i := 5) S__law_right.nd (se_if (st_cmp (op_eqD hr.r.units) ok_eq (se_var (i := 4)) (se_un un_neg ok_neg se_int)) (se_cb (call_min2 rfl) ok_min2 (bl "min" (by decide)) (sa_cons se_int (sa_cons (se_bin op_adds ok_add (se_var (i := 2)) (se_var (i := 3))) sa_nil))) se_int))
  (ss_cons (ss_setlc (se_setlc (i := 6) (own := [("turn", 19)]) (vs := [19]) rfl S__law_right.nd rfl rfl (sw_true rfl rfl rfl (by decide +kernel)) (si_range1 (bl "range" (by decide)) (se_call (h__law_draw.mono (by decide)) hr (sp_pot (i := 0) (sp_cons (se_bin op_adds ok_add (se_var (i := 5)) se_int) sp_nil)))) (blkOk_by (N := N__law_right) (sc := defScope (top 45)) (by decide +kernel)) (fun _ _ _ _ _ => (sg_n (i := 19) S__law_right.nd)) (fun _ _ _ _ _ => sts_nil) (fun _ _ _ _ _ => (se_call (h__law_draw.mono (by decide)) hr (sp_pot (i := 0) (sp_cons se_int sp_nil))))))
  (ss_cons (ss_set (i := 7) S__law_right.nd (se_call (h__law_row_chance.mono (by decide)) hr (sp_cons (se_var (i := 1)) (sp_cons (se_var (i := 6)) sp_nil))))
  (ss_cons (ss_if (st_reprNe hr (bl "repr" (by decide)) (se_lst (sa_cons (se_call (h_row_chance.mono (by decide)) hr (sp_cons (se_var (i := 1)) (sp_cons (se_var (i := 6)) sp_nil))) (sa_cons (se_callk (h_row_chance_k10.mono (by decide)) hr (sk_cons (se_cty call_tuple_of ok_tuple (bl "tuple" (by decide)) (sa_cons (se_var (i := 6)) sa_nil)) (sk_cons (se_var (i := 1)) sk_nil))) (sa_cons (se_call (h_row_chance.mono (by decide)) hr (sp_cons (se_var (i := 1)) (sp_cons (se_rev (se_var (i := 6))) sp_nil))) sa_nil)))) (se_bin op_muls ok_mul (se_lst (sa_cons (se_var (i := 7)) sa_nil)) se_int)) (ss_one (ss_ret hw se_bl)) ss_nil)
  (ss_cons (ss_if (st_cmp (op_neD hr.r.units) ok_ne (se_call (h_row_chance.mono (by decide)) hr (sp_cons (se_var (i := 1)) (sp_cons (se_cb cr_sorted ok_sorted (bl "sorted" (by decide)) (sa_cons (se_var (i := 6)) sa_nil)) sp_nil))) (se_var (i := 7))) (ss_one (ss_ret hw se_bl)) ss_nil)
  (ss_cons (ss_set (i := 8) S__law_right.nd (se_cb (cr_sum2 rfl) ok_sum2 (bl "sum" (by decide)) (sa_cons (se_var (i := 6)) sa_nil)))
  (ss_cons (ss_set (i := 9) S__law_right.nd (se_tup (sa_cons (se_bin op_adds ok_add (se_var (i := 2)) (se_bin op_muls ok_mul (se_var (i := 4)) (se_var (i := 8)))) (sa_cons (se_bin op_adds ok_add (se_var (i := 3)) (se_bin op_muls ok_mul (se_var (i := 4)) (se_bin op_subs ok_sub (se_cb call_len_seq ok_len (bl "len" (by decide)) (sa_cons (se_var (i := 6)) sa_nil)) (se_var (i := 8))))) sa_nil))))
  (ss_cons (ss_if ((sw_and (st_cmp op_gt ok_I (se_ix (se_var (i := 7)) se_int) se_int) (sw_and1 (st_cmp op_gt ok_I (se_cb (cr_sum2 rfl) ok_sum2 (bl "sum" (by decide)) (sa_cons (se_var (i := 9)) sa_nil)) se_int)))).st (ss_cons (ss_set (i := 10) S__law_right.nd (se_call (h__law_plain.mono (by decide)) hr (sp_cons (se_ix (se_var (i := 9)) se_int) (sp_cons (se_cb (cr_sum2 rfl) ok_sum2 (bl "sum" (by decide)) (sa_cons (se_var (i := 9)) sa_nil)) sp_nil))))
  (ss_cons (ss_if (st_reprNe hr (bl "repr" (by decide)) (se_lst (sa_cons (se_call (h_next_white.mono (by decide)) hr (sp_cons (se_var (i := 1)) (sp_cons (se_var (i := 6)) sp_nil))) (sa_cons (se_callk (h_next_white_k10.mono (by decide)) hr (sk_cons (se_cty call_tuple_of ok_tuple (bl "tuple" (by decide)) (sa_cons (se_var (i := 6)) sa_nil)) (sk_cons (se_var (i := 1)) sk_nil))) sa_nil))) (se_lst (sa_cons (se_var (i := 10)) (sa_cons (se_var (i := 10)) sa_nil)))) (ss_one (ss_ret hw se_bl)) ss_nil)
  (ss_one (ss_if ((sw_and (st_cmp op_lt ok_I (se_cb call_len_seq ok_len (bl "len" (by decide)) (sa_cons (se_var (i := 6)) sa_nil)) (se_var (i := 5))) (sw_and1 (st_cmp (op_neD hr.r.units) ok_ne (se_call (h_row_chance.mono (by decide)) hr (sp_cons (se_var (i := 1)) (sp_cons (se_bin op_adds ok_add (se_var (i := 6)) (se_lst (sa_cons se_int sa_nil))) sp_nil))) (se_call (h__law_times.mono (by decide)) hr (sp_cons (se_var (i := 7)) (sp_cons (se_var (i := 10)) sp_nil))))))).st (ss_one (ss_ret hw se_bl)) ss_nil)))) ss_nil)
  (ss_cons (ss_set (i := 11) S__law_right.nd (se_call (h__law_draw.mono (by decide)) hr (sp_pot (i := 0) (sp_cons (se_bin op_adds ok_add (se_var (i := 5)) se_int) sp_nil))))
  (ss_cons (ss_own (i := 12) S__law_right.nd (sf_lst sa_nil))
  (ss_cons (ss_for PassesOwn.never rfl (si_range1 (bl "range" (by decide)) (se_bin op_adds ok_add (se_var (i := 11)) se_int)) (sg_n (i := 13) S__law_right.nd) (ss_one (ss_app (i := 12) (se_call (h__law_times.mono (by decide)) hr (sp_cons (se_tup (sa_cons (se_call (h__law_ways.mono (by decide)) hr (sp_cons (se_var (i := 11)) (sp_cons (se_var (i := 13)) sp_nil))) (sa_cons se_int sa_nil))) (sp_cons (se_call (h__law_row_chance.mono (by decide)) hr (sp_cons (se_var (i := 1)) (sp_cons (se_bin op_adds ok_add (se_bin op_muls ok_mul (se_lst (sa_cons se_int sa_nil)) (se_var (i := 13))) (se_bin op_muls ok_mul (se_lst (sa_cons se_int sa_nil)) (se_bin op_subs ok_sub (se_var (i := 11)) (se_var (i := 13))))) sp_nil))) sp_nil))))))
  (ss_cons (ss_if (st_bor [12] (st_reprNe hr (bl "repr" (by decide)) (se_lst (sa_cons (se_call (h_count_chances.mono (by decide)) hr (sp_cons (se_var (i := 1)) (sp_cons (se_var (i := 11)) sp_nil))) (sa_cons (se_callk (h_count_chances_k10.mono (by decide)) hr (sk_cons (se_var (i := 11)) (sk_cons (se_var (i := 1)) sk_nil))) sa_nil))) (se_lst (sa_cons (se_var (i := 12)) (sa_cons (se_var (i := 12)) sa_nil))))) (ss_one (ss_ret hw se_bl)) ss_nil)
  (ss_cons (ss_set (i := 14) S__law_right.nd (se_bor [12] (se_call (h__law_sum.mono (by decide)) hr (sp_cons (se_bin op_adds ok_add (se_lst (sa_cons (se_tup (sa_cons se_int (sa_cons se_int sa_nil))) sa_nil)) (se_lc (own := [("at", 20), ("one", 13)]) (vs := [20, 13]) rfl S__law_right.nd (si_enumQ (bl "enumerate" (by decide)) (se_var (i := 12))) (blkOk_by (N := N__law_right) (sc := defScope (top 45)) (by decide +kernel)) (fun _ _ _ _ _ => (sg_t rfl (sgs_cons (sg_n (i := 20) S__law_right.nd) (sgs_cons (sg_n (i := 13) S__law_right.nd) sgs_nil)))) (fun _ _ _ _ _ => sts_nil) (fun _ _ _ _ _ => (se_call (h__law_times.mono (by decide)) hr (sp_cons (se_var (i := 13)) (sp_cons (se_tup (sa_cons (se_var (i := 20)) (sa_cons se_int sa_nil))) sp_nil)))))) sp_nil))))
  (ss_cons (ss_if (st_bor [12] ((sw_or (st_cmp (op_neD hr.r.units) ok_ne (se_call (h__law_sum.mono (by decide)) hr (sp_cons (se_var (i := 12)) sp_nil)) (se_tup (sa_cons se_int (sa_cons se_int sa_nil)))) (sw_or1 (st_cmp (op_neD hr.r.units) ok_ne (se_var (i := 14)) (se_call (h__law_plain.mono (by decide)) hr (sp_cons (se_bin op_muls ok_mul (se_var (i := 11)) (se_var (i := 2))) (sp_cons (se_bin op_adds ok_add (se_var (i := 2)) (se_var (i := 3))) sp_nil))))))).st) (ss_one (ss_ret hw se_bl)) ss_nil)
  (ss_cons (ss_if (st_bor [12] (st_cmp (op_neD hr.r.units) ok_ne (se_call (h_count_chances.mono (by decide)) hr (sp_cons (se_tup (sa_cons (se_var (i := 3)) (sa_cons (se_var (i := 2)) (sa_cons (se_var (i := 4)) sa_nil)))) (sp_cons (se_var (i := 11)) sp_nil))) (se_rev (se_var (i := 12))))) (ss_one (ss_ret hw se_bl)) ss_nil)
  (ss_cons (ss_set (i := 15) S__law_right.nd (se_bin op_adds ok_add se_int (se_call (h__law_draw.mono (by decide)) hr (sp_pot (i := 0) (sp_cons se_int sp_nil)))))
  (ss_cons (ss_if (st_cmp (op_neD hr.r.units) ok_ne (se_call (h_count_chances.mono (by decide)) hr (sp_cons (se_tup (sa_cons se_int (sa_cons se_int (sa_cons se_int sa_nil)))) (sp_cons (se_var (i := 15)) sp_nil))) (se_bin op_muls ok_mul (se_lst (sa_cons (se_tup (sa_cons se_int (sa_cons (se_bin op_adds ok_add (se_var (i := 15)) se_int) sa_nil))) sa_nil)) (se_bin op_adds ok_add (se_var (i := 15)) se_int))) (ss_one (ss_ret hw se_bl)) ss_nil)
  (ss_cons (ss_own (i := 16) S__law_right.nd (sf_lst (sa_cons (se_var (i := 1)) (sa_cons (se_cty call_list_of ok_list (bl "list" (by decide)) (sa_cons (se_var (i := 1)) sa_nil)) (sa_cons (se_sl (se_var (i := 1)) so_none (so_some se_int)) (sa_cons (se_bin op_adds ok_add (se_var (i := 1)) (se_tup (sa_cons se_int sa_nil))) (sa_cons (se_tup (sa_cons (se_var (i := 2)) (sa_cons (se_var (i := 3)) (sa_cons se_int sa_nil)))) (sa_cons (se_tup (sa_cons (se_var (i := 2)) (sa_cons (se_var (i := 3)) (sa_cons (se_un un_neg ok_neg se_int) sa_nil)))) (sa_cons (se_tup (sa_cons se_int (sa_cons (se_var (i := 3)) (sa_cons (se_var (i := 4)) sa_nil)))) sa_nil)))))))))
  (ss_cons (ss_app (i := 16) (se_tup (sa_cons se_bl (sa_cons (se_var (i := 3)) (sa_cons (se_var (i := 4)) sa_nil)))))
  (ss_frz (i := 16) (ss_cons (ss_for PassesOwn.never rfl (si_seq (se_bin op_adds ok_add (se_var (i := 16)) (se_lst (sa_cons (se_tup (sa_cons se_int (sa_cons se_int (sa_cons (se_var (i := 4)) sa_nil)))) (sa_cons se_non (sa_cons se_dict0 (sa_cons se_str (sa_cons (se_tup (sa_cons (se_var (i := 2)) (sa_cons se_non (sa_cons se_int sa_nil)))) (sa_cons (se_tup (sa_cons (se_un un_neg ok_neg se_int) (sa_cons se_int (sa_cons se_int sa_nil)))) (sa_cons (se_tup (sa_cons (se_var (i := 2)) (sa_cons (se_var (i := 3)) (sa_cons se_int sa_nil)))) (sa_cons (se_tup (sa_cons se_int (sa_cons se_int (sa_cons (se_un un_neg ok_neg se_int) sa_nil)))) sa_nil))))))))))) (sg_n (i := 17) S__law_right.nd) (ss_cons (ss_set (i := 18) S__law_right.nd (se_call (h__law_is_urn.mono (by decide)) hr (sp_cons (se_var (i := 17)) sp_nil)))
  (ss_one (ss_if (st_reprNe hr (bl "repr" (by decide)) (se_lst (sa_cons (se_call (h_is_urn.mono (by decide)) hr (sp_cons (se_var (i := 17)) sp_nil)) (sa_cons (se_callk (h_is_urn_k0.mono (by decide)) hr (sk_cons (se_var (i := 17)) sk_nil)) sa_nil))) (se_lst (sa_cons (se_var (i := 18)) (sa_cons (se_var (i := 18)) sa_nil)))) (ss_one (ss_ret hw se_bl)) ss_nil))))
  (ss_cons (ss_appX (sf_call (hF_count_chances.mono (by decide)) hr (sp_cons (se_var (i := 1)) (sp_cons (se_var (i := 11)) sp_nil))) se_non)
  (ss_frz (i := 12) (ss_one (ss_ret hw (se_cmp (op_eqD hr.r.units) ok_eq (se_call (h_count_chances.mono (by decide)) hr (sp_cons (se_var (i := 1)) (sp_cons (se_var (i := 11)) sp_nil))) (se_var (i := 12)))))))))))))))))))))))))))))))
end
end Kp


namespace Kp
open PySem PySem.Spec PyProof.Rows L2 Dl
section
variable {P : Program} {w : World} {K : PySem.W.Frag} {mg : Str → Option Value} {base : Heap}
abbrev N_law : List Str := ["script", "k", "pot", "turn"]
theorem S_law : FnScope N_law ["script"] (defScope (top 46)) := ⟨rfl, rfl, rfl, by decide +kernel, rfl, by decide +kernel, by decide +kernel⟩
theorem sql_keep {K : PySem.W.Frag} {H H' : Hp} {a : Addr} {xs : List V} (k : ∀ b o, H b = some o → H' b = some o) (h : SqL K H a xs) : SqL K H' a xs := by
  rcases h with (h | ⟨o, h⟩) | h
  · exact .inl (.inl (k _ _ h))
  · exact .inl (.inr ⟨o, k _ _ h⟩)
  · exact .inr h
def allT : Stmt → Expr
  | .If (.UnaryOp _ a _) _ _ _ => a
  | _ => .Tuple [] default default
def allS : Stmt → Expr
  | .For _ _ body _ _ => allT (body.getD 1 (.Pass default))
  | _ => .Tuple [] default default
def allE (st : Stmt) : Expr := allS ((defBody st).getD 0 (.Pass default))
def law_code : DE := (dCB gAll (aCons (dLc (iRange1 (dC (.int 3))) (gN 3) dYes (dCallN 1 mTrue (aPot 2 aNil)) [3]) aNil))
theorem law_end : law_code [.no, .no, .pt, .no] isT = true := by decide +kernel
theorem ok_law {f fp : Addr} {fd fdp : FuncData} (F : FnP K "law" (top 46) f fd) (bl : ∀ x ∈ blt, mg x = none) (FP : FnP K "_law_pot" (top 35) fp fdp) (gP : mg "_law_pot" = some (.ref fp)) (h__law_right : Has P w K mg base 7 "_law_right" ["pot"] mTrue) :
    FnOkG P w K mg base 8 f fd ["script"] (spLaw K) := by
  have GP := ok_pot (w := w) (P := P) (base := base) FP bl
  have bP : Binds K fdp ["script", "k"] [] := FP.bindsN fun _ _ _ _ _ _ us hl => match us, hl with | [_, _], _ => rfl
  refine okG F S_law (fun vs H Q E h => ?_) (fun cdv A outer s H vs Q E hr hg hs => ?_)
  · obtain ⟨a, ns, rfl, _⟩ := h
    rfl
  obtain ⟨t, p, o⟩ := se_all (e := allE (top 46)) (X := (cxOf CX0 P w K mg base N_law "law" (defScope (top 46)) f cdv A outer s H E).nox) (d := law_code) (fun W => (se_cb (cr_all rfl) ok_all (bl "all" (by decide)) (sa_cons (se_lc (own := [("turn", 3)]) (vs := [3]) rfl S_law.nd (si_range1 (bl "range" (by decide)) se_int) (blkOk_by (N := N_law) (sc := defScope (top 46)) (by decide +kernel)) (fun _ _ _ _ _ => (sg_n (i := 3) S_law.nd)) (fun _ _ _ _ _ => sts_nil) (fun _ _ _ _ _ => (se_call (h__law_right.mono (by decide)) ⟨hr, hg⟩ (sp_pot (i := 2) sp_nil)))) sa_nil)))
  refine ⟨_, PSs.nox (pss_cons (ps_for PassesOwn.never rfl (pi_range1 rfl (bl "range" (by decide)) (pa_cons (pe_callB (call_max2 rfl) rfl (bl "max" (by decide)) (by decide +kernel) (pa_cons pe_int (pa_cons (pe_callB (call_min2 rfl) rfl (bl "min" (by decide)) (by decide +kernel) (pa_cons pe_int (pa_cons (pe_callB call_len_seq rfl (bl "len" (by decide)) (by decide +kernel) (pa_cons (pv 0) pa_nil)) pa_nil))) pa_nil))) pa_nil)) (pg_name (i := 1) S_law.nd rfl (by first | exact Or.inl rfl | exact Or.inr rfl))
    (pss_cons (ps_set (i := 2) S_law.nd rfl (by first | exact Or.inl rfl | exact Or.inr rfl) (pe_call (GP.mono (by decide)) hr rfl gP FP.kp bP .nil pass0 (pa_cons (pv 0) (pa_cons (pv 1) pa_nil)))) (pss_one (ps_if (pt_not (pt_val p)) (pss_one (ps_ret pe_bl)) pss_nil)))) (pss_one (ps_ret pe_bl))), ?_⟩
  obtain ⟨a, ns, rfl, hS, hQ⟩ := hs
  refine ⟨_, rfl, a, ns.map V.int, rfl, .inl hS, 3, _, rfl, 1, _, rfl, ?_⟩
  generalize hm : (if (if ((ns.map V.int).length : Int) < 3 then ((ns.map V.int).length : Int) else 3) > 1 then (if ((ns.map V.int).length : Int) < 3 then ((ns.map V.int).length : Int) else 3) else 1) = m
  have m1 : 0 ≤ m ∧ m ≤ 3 := by
    rw [← hm]
    constructor
    · split <;> (try split) <;> omega
    · split <;> (try split) <;> omega
  refine ⟨m, rfl, by omega, by omega, ?_⟩
  refine for_range (lo := 0) (n := m.toNat) (fun i σ H' => (∃ s1 s2 s3, σ = [some (.ref a), s1, s2, s3]) ∧ ∀ b o, H b = some o → H' b = some o) ⟨⟨_, _, _, rfl⟩, fun _ _ h => h⟩ (fun i σ H' hi ⟨⟨s1, s2, s3, e⟩, p1⟩ => ?_) (fun σ H' ⟨_, p1⟩ => ?_)
  · subst e
    refine ⟨_, rfl, _, rfl, a, ns, _, rfl, sql_keep p1 hS, by omega, by omega, fun p x y hp hx hy hy2 => ?_⟩
    have B := bs_new (p := p) (H := H') hx hy hy2
    refine o ⟨p, _, _, false⟩ [.no, .no, .pt, .no] _ _ _ isT _ ⟨B, Stp.refl B, rfl, fun i s e => ?_, fun i j p ds es e => ?_⟩ law_end fun d v F' H4 s r h => ?_
    · match i, e with
      | 0, e => cases e; trivial
      | 1, e => cases e; trivial
      | 2, e => cases e; rfl
      | 3, e => cases e; trivial
      | _ + 4, e => cases e
    · exfalso
      match i, e with
      | 0, e => cases e
      | 1, e => cases e
      | 2, e => cases e
      | 3, e => cases e
      | _ + 4, e => cases e
    · rw [isT_eq h] at r
      cases r
      refine ⟨true, rfl, ⟨_, _, _, rfl⟩, fun b o hb => ?_⟩
      have hb := p1 b o hb
      exact s.fr b o (fun z => by rw [z, hp] at hb; cases hb) (by rw [upd_ne (ne_of_none hb hp)]; exact hb)
  · exact hQ _
end

end Kp

namespace Kp
open PySem PySem.Spec PyProof.Rows L2 Dl

def dOf (i : Nat) (x : Str) : He.DefD := ⟨(x, none), x, x, defArgs (top i), defBody (top i), defScope (top i), [], []⟩
def fnL : List He.DefD := [dOf 8 "is_integer", dOf 9 "is_within", dOf 10 "is_list", dOf 11 "check_number", dOf 12 "divisor", dOf 15 "reduced", dOf 16 "multiply", dOf 21 "is_urn_of", dOf 22 "check_urn", dOf 23 "most_draws", dOf 24 "is_row_to", dOf 25 "check_row", dOf 26 "ways", dOf 27 "balls_behind", dOf 28 "chance_of_row", dOf 29 "counts_of", dOf 30 "is_urn", dOf 31 "row_chance", dOf 32 "next_white", dOf 33 "count_chances", dOf 35 "_law_pot", dOf 36 "_law_draw", dOf 37 "_law_pick", dOf 38 "_law_plain", dOf 39 "_law_sum", dOf 40 "_law_times", dOf 41 "_law_urn", dOf 42 "_law_row_chance", dOf 43 "_law_ways", dOf 44 "_law_is_urn", dOf 45 "_law_right", dOf 46 "law"]
def faL : List He.Fa := [.glo "is_integer", .glo "is_within", .glo "is_list", .glo "check_number", .glo "divisor", .glo "reduced", .glo "multiply", .glo "is_urn_of", .glo "check_urn", .glo "most_draws", .glo "is_row_to", .glo "check_row", .glo "ways", .glo "balls_behind", .glo "chance_of_row", .glo "counts_of", .glo "is_urn", .glo "row_chance", .glo "next_white", .glo "count_chances", .glo "_law_pot", .glo "_law_draw", .glo "_law_pick", .glo "_law_plain", .glo "_law_sum", .glo "_law_times", .glo "_law_urn", .glo "_law_row_chance", .glo "_law_ways", .glo "_law_is_urn", .glo "_law_right", .glo "law", .glo "ONE", .int "MOST_BALLS" 9, .int "MOST_MORE" 4, .int "MOST_DRAWS" 8] ++ blt.map He.Fa.free
def exL (K : PySem.W.Frag) : Bool := tupI K "ONE" [1, 1]
abbrev R : PySem.W.OpenRow := PySem.W.OpenLaw.row PySem.Challenge.rw_betsalong_k89_whole_urns_and_rows
abbrev hk : PySem.W.Hook := hookE 2 faL fnL exL
def ob (s : PySem.W.SharedT) : He.AlD × Bool := obsE 2 faL fnL exL (HandSHeadRun.getT s)
theorem ob_eq (s : PySem.W.SharedT) : ob s = hk.obs s.abs := obsE_eq (HandSHeadRun.getT_eq s)
def loose : List Str := (["BetError", "StateError", "InvalidNumber", "InvalidRow", "InvalidUrn", "Unseen", "is_integer", "is_within", "is_list", "check_number", "divisor", "ONE", "reduced", "multiply", "MOST_BALLS", "MOST_MORE", "MOST_DRAWS", "is_urn_of", "check_urn", "most_draws", "is_row_to", "check_row", "ways", "balls_behind", "chance_of_row", "counts_of", "is_urn", "row_chance", "next_white", "count_chances"] : List Str) ++ (["_law_pot", "_law_draw", "_law_pick", "_law_plain", "_law_sum", "_law_times", "_law_urn", "_law_row_chance", "_law_ways", "_law_is_urn", "_law_right"] : List Str)
theorem run (w : World) : HandSHeadRun.RunEq R (PySem.W.view R.prog [46]) hk ob 30000 loose w := by
  intro os
  kernel_rfl
theorem facts {P : Program} {w : World} {K : PySem.W.Frag} {h : Heap} {mg : Str → Option Value} {f : Addr} (X : K.In h) (G : h.Ns mainGlobals mg) (hfa : mg ("law" : Str) = some (.ref f)) (c0 : SaysE faL fnL exL K) :
    ∃ fd : FuncData, (∀ (s : Shared) (v : Value), BindsTo s fd ⟨[v], []⟩ [("script", v)]) ∧ ∀ base : Heap, K.In base → base.Ns mainGlobals mg → FnOkG P w K mg base 8 f fd ["script"] (spLaw K) := by
  obtain ⟨c, cx⟩ := c0
  have bl : ∀ x ∈ blt, mg x = none := fun x hx => He.free_ok X G (saysD_fact c (List.mem_append_right _ (List.mem_map_of_mem hx)))
  obtain ⟨fd_is_integer, F_is_integer⟩ := c.def_ 0 (d := dOf 8 "is_integer") rfl
  have a_is_integer := He.glo_ok X G (c.fact 0 (f := .glo "is_integer") rfl)
  obtain ⟨fd_is_within, F_is_within⟩ := c.def_ 1 (d := dOf 9 "is_within") rfl
  have a_is_within := He.glo_ok X G (c.fact 1 (f := .glo "is_within") rfl)
  obtain ⟨fd_is_list, F_is_list⟩ := c.def_ 2 (d := dOf 10 "is_list") rfl
  have a_is_list := He.glo_ok X G (c.fact 2 (f := .glo "is_list") rfl)
  obtain ⟨fd_check_number, F_check_number⟩ := c.def_ 3 (d := dOf 11 "check_number") rfl
  have a_check_number := He.glo_ok X G (c.fact 3 (f := .glo "check_number") rfl)
  obtain ⟨fd_divisor, F_divisor⟩ := c.def_ 4 (d := dOf 12 "divisor") rfl
  have a_divisor := He.glo_ok X G (c.fact 4 (f := .glo "divisor") rfl)
  obtain ⟨fd_reduced, F_reduced⟩ := c.def_ 5 (d := dOf 15 "reduced") rfl
  have a_reduced := He.glo_ok X G (c.fact 5 (f := .glo "reduced") rfl)
  obtain ⟨fd_multiply, F_multiply⟩ := c.def_ 6 (d := dOf 16 "multiply") rfl
  have a_multiply := He.glo_ok X G (c.fact 6 (f := .glo "multiply") rfl)
  obtain ⟨fd_is_urn_of, F_is_urn_of⟩ := c.def_ 7 (d := dOf 21 "is_urn_of") rfl
  have a_is_urn_of := He.glo_ok X G (c.fact 7 (f := .glo "is_urn_of") rfl)
  obtain ⟨fd_check_urn, F_check_urn⟩ := c.def_ 8 (d := dOf 22 "check_urn") rfl
  have a_check_urn := He.glo_ok X G (c.fact 8 (f := .glo "check_urn") rfl)
  obtain ⟨fd_most_draws, F_most_draws⟩ := c.def_ 9 (d := dOf 23 "most_draws") rfl
  have a_most_draws := He.glo_ok X G (c.fact 9 (f := .glo "most_draws") rfl)
  obtain ⟨fd_is_row_to, F_is_row_to⟩ := c.def_ 10 (d := dOf 24 "is_row_to") rfl
  have a_is_row_to := He.glo_ok X G (c.fact 10 (f := .glo "is_row_to") rfl)
  obtain ⟨fd_check_row, F_check_row⟩ := c.def_ 11 (d := dOf 25 "check_row") rfl
  have a_check_row := He.glo_ok X G (c.fact 11 (f := .glo "check_row") rfl)
  obtain ⟨fd_ways, F_ways⟩ := c.def_ 12 (d := dOf 26 "ways") rfl
  have a_ways := He.glo_ok X G (c.fact 12 (f := .glo "ways") rfl)
  obtain ⟨fd_balls_behind, F_balls_behind⟩ := c.def_ 13 (d := dOf 27 "balls_behind") rfl
  have a_balls_behind := He.glo_ok X G (c.fact 13 (f := .glo "balls_behind") rfl)
  obtain ⟨fd_chance_of_row, F_chance_of_row⟩ := c.def_ 14 (d := dOf 28 "chance_of_row") rfl
  have a_chance_of_row := He.glo_ok X G (c.fact 14 (f := .glo "chance_of_row") rfl)
  obtain ⟨fd_counts_of, F_counts_of⟩ := c.def_ 15 (d := dOf 29 "counts_of") rfl
  have a_counts_of := He.glo_ok X G (c.fact 15 (f := .glo "counts_of") rfl)
  obtain ⟨fd_is_urn, F_is_urn⟩ := c.def_ 16 (d := dOf 30 "is_urn") rfl
  have a_is_urn := He.glo_ok X G (c.fact 16 (f := .glo "is_urn") rfl)
  obtain ⟨fd_row_chance, F_row_chance⟩ := c.def_ 17 (d := dOf 31 "row_chance") rfl
  have a_row_chance := He.glo_ok X G (c.fact 17 (f := .glo "row_chance") rfl)
  obtain ⟨fd_next_white, F_next_white⟩ := c.def_ 18 (d := dOf 32 "next_white") rfl
  have a_next_white := He.glo_ok X G (c.fact 18 (f := .glo "next_white") rfl)
  obtain ⟨fd_count_chances, F_count_chances⟩ := c.def_ 19 (d := dOf 33 "count_chances") rfl
  have a_count_chances := He.glo_ok X G (c.fact 19 (f := .glo "count_chances") rfl)
  obtain ⟨fd__law_pot, F__law_pot⟩ := c.def_ 20 (d := dOf 35 "_law_pot") rfl
  have a__law_pot := He.glo_ok X G (c.fact 20 (f := .glo "_law_pot") rfl)
  obtain ⟨fd__law_draw, F__law_draw⟩ := c.def_ 21 (d := dOf 36 "_law_draw") rfl
  have a__law_draw := He.glo_ok X G (c.fact 21 (f := .glo "_law_draw") rfl)
  obtain ⟨fd__law_pick, F__law_pick⟩ := c.def_ 22 (d := dOf 37 "_law_pick") rfl
  have a__law_pick := He.glo_ok X G (c.fact 22 (f := .glo "_law_pick") rfl)
  obtain ⟨fd__law_plain, F__law_plain⟩ := c.def_ 23 (d := dOf 38 "_law_plain") rfl
  have a__law_plain := He.glo_ok X G (c.fact 23 (f := .glo "_law_plain") rfl)
  obtain ⟨fd__law_sum, F__law_sum⟩ := c.def_ 24 (d := dOf 39 "_law_sum") rfl
  have a__law_sum := He.glo_ok X G (c.fact 24 (f := .glo "_law_sum") rfl)
  obtain ⟨fd__law_times, F__law_times⟩ := c.def_ 25 (d := dOf 40 "_law_times") rfl
  have a__law_times := He.glo_ok X G (c.fact 25 (f := .glo "_law_times") rfl)
  obtain ⟨fd__law_urn, F__law_urn⟩ := c.def_ 26 (d := dOf 41 "_law_urn") rfl
  have a__law_urn := He.glo_ok X G (c.fact 26 (f := .glo "_law_urn") rfl)
  obtain ⟨fd__law_row_chance, F__law_row_chance⟩ := c.def_ 27 (d := dOf 42 "_law_row_chance") rfl
  have a__law_row_chance := He.glo_ok X G (c.fact 27 (f := .glo "_law_row_chance") rfl)
  obtain ⟨fd__law_ways, F__law_ways⟩ := c.def_ 28 (d := dOf 43 "_law_ways") rfl
  have a__law_ways := He.glo_ok X G (c.fact 28 (f := .glo "_law_ways") rfl)
  obtain ⟨fd__law_is_urn, F__law_is_urn⟩ := c.def_ 29 (d := dOf 44 "_law_is_urn") rfl
  have a__law_is_urn := He.glo_ok X G (c.fact 29 (f := .glo "_law_is_urn") rfl)
  obtain ⟨fd__law_right, F__law_right⟩ := c.def_ 30 (d := dOf 45 "_law_right") rfl
  have a__law_right := He.glo_ok X G (c.fact 30 (f := .glo "_law_right") rfl)
  obtain ⟨fd_law, F_law⟩ := c.def_ 31 (d := dOf 46 "law") rfl
  have a_law := He.glo_ok X G (c.fact 31 (f := .glo "law") rfl)
  have g_MOST_BALLS : Glo K mg "MOST_BALLS" c_MOST_BALLS := glo_int X G (c.fact 33 (f := .int "MOST_BALLS" 9) rfl)
  have g_MOST_MORE : Glo K mg "MOST_MORE" c_MOST_MORE := glo_int X G (c.fact 34 (f := .int "MOST_MORE" 4) rfl)
  have g_MOST_DRAWS : Glo K mg "MOST_DRAWS" c_MOST_DRAWS := glo_int X G (c.fact 35 (f := .int "MOST_DRAWS" 8) rfl)
  have g_ONE : Glo K mg "ONE" c_ONE := glo_tup X G (c.fact 32 (f := .glo "ONE") rfl) (is := [1, 1]) cx
  have e := hfa.symm.trans a_law
  cases e
  have b := FunD.bindsA (ps := ["script"]) F_law fun _ _ _ _ _ _ us hl => match us, hl with | [_], _ => rfl
  refine ⟨fd_law, fun s v => b s [v] rfl, fun base _ _ => ?_⟩
  have h_is_integer := Kp.h_is_integer (P := P) (w := w) (base := base) F_is_integer a_is_integer bl 
  have h_is_within := Kp.h_is_within (P := P) (w := w) (base := base) F_is_within a_is_within bl h_is_integer
  have h_is_list := Kp.h_is_list (P := P) (w := w) (base := base) F_is_list a_is_list bl 
  have h_check_number := Kp.h_check_number (P := P) (w := w) (base := base) F_check_number a_check_number bl h_is_within
  have h_divisor := Kp.h_divisor (P := P) (w := w) (base := base) F_divisor a_divisor bl 
  have h_reduced := Kp.h_reduced (P := P) (w := w) (base := base) F_reduced a_reduced bl h_divisor
  have h_multiply := Kp.h_multiply (P := P) (w := w) (base := base) F_multiply a_multiply bl h_reduced
  have h_is_urn_of := Kp.h_is_urn_of (P := P) (w := w) (base := base) F_is_urn_of a_is_urn_of bl g_MOST_MORE g_MOST_BALLS h_is_within
  have h_check_urn := Kp.h_check_urn (P := P) (w := w) (base := base) F_check_urn a_check_urn bl h_is_urn_of
  have h_most_draws := Kp.h_most_draws (P := P) (w := w) (base := base) F_most_draws a_most_draws bl g_MOST_DRAWS
  have h_is_row_to := Kp.h_is_row_to (P := P) (w := w) (base := base) F_is_row_to a_is_row_to bl h_is_list h_is_within
  have h_check_row := Kp.h_check_row (P := P) (w := w) (base := base) F_check_row a_check_row bl h_check_urn h_most_draws h_is_row_to
  have h_ways := Kp.h_ways (P := P) (w := w) (base := base) F_ways a_ways bl 
  have h_balls_behind := Kp.h_balls_behind (P := P) (w := w) (base := base) F_balls_behind a_balls_behind bl 
  have h_chance_of_row := Kp.h_chance_of_row (P := P) (w := w) (base := base) F_chance_of_row a_chance_of_row bl g_ONE h_balls_behind h_reduced h_multiply
  have hF_counts_of := Kp.hF_counts_of (P := P) (w := w) (base := base) F_counts_of a_counts_of bl h_chance_of_row h_ways h_multiply
  have h_counts_of := hF_counts_of.has
  have h_is_urn := Kp.h_is_urn (P := P) (w := w) (base := base) F_is_urn a_is_urn bl h_is_urn_of
  have h_row_chance := Kp.h_row_chance (P := P) (w := w) (base := base) F_row_chance a_row_chance bl h_check_row h_chance_of_row
  have h_next_white := Kp.h_next_white (P := P) (w := w) (base := base) F_next_white a_next_white bl h_check_row h_balls_behind h_chance_of_row h_reduced
  have hF_count_chances := Kp.hF_count_chances (P := P) (w := w) (base := base) F_count_chances a_count_chances bl h_check_urn h_most_draws h_check_number hF_counts_of
  have h_count_chances := hF_count_chances.has
  have h__law_draw := Kp.h__law_draw (P := P) (w := w) (base := base) F__law_draw a__law_draw bl
  have h__law_pick := Kp.h__law_pick (P := P) (w := w) (base := base) F__law_pick a__law_pick bl h__law_draw
  have h__law_plain := Kp.h__law_plain (P := P) (w := w) (base := base) F__law_plain a__law_plain bl 
  have h__law_sum := Kp.h__law_sum (P := P) (w := w) (base := base) F__law_sum a__law_sum bl h__law_plain
  have h__law_times := Kp.h__law_times (P := P) (w := w) (base := base) F__law_times a__law_times bl h__law_plain
  have h__law_urn := Kp.h__law_urn (P := P) (w := w) (base := base) F__law_urn a__law_urn bl h__law_pick h__law_draw
  have h__law_row_chance := Kp.h__law_row_chance (P := P) (w := w) (base := base) F__law_row_chance a__law_row_chance bl h__law_plain h__law_times
  have h__law_ways := Kp.h__law_ways (P := P) (w := w) (base := base) F__law_ways a__law_ways bl 
  have h__law_is_urn := Kp.h__law_is_urn (P := P) (w := w) (base := base) F__law_is_urn a__law_is_urn bl 
  have h__law_right := Kp.h__law_right (P := P) (w := w) (base := base) F__law_right a__law_right bl h__law_urn h__law_draw h__law_row_chance h_row_chance h__law_plain h_next_white h__law_times h__law_ways h_count_chances h__law_sum h__law_is_urn h_is_urn hF_count_chances (Has.kb (st := top 31) h_row_chance F_row_chance a_row_chance (ks := ["row", "urn"]) (perm := [1, 0]) fun _ _ _ _ _ _ ws hl => match ws, hl with | [_, _], _ => rfl) (Has.kb (st := top 32) h_next_white F_next_white a_next_white (ks := ["row", "urn"]) (perm := [1, 0]) fun _ _ _ _ _ _ ws hl => match ws, hl with | [_, _], _ => rfl) (Has.kb (st := top 33) h_count_chances F_count_chances a_count_chances (ks := ["number", "urn"]) (perm := [1, 0]) fun _ _ _ _ _ _ ws hl => match ws, hl with | [_, _], _ => rfl) (Has.kb (st := top 30) h_is_urn F_is_urn a_is_urn (ks := ["value"]) (perm := [0]) fun _ _ _ _ _ _ ws hl => match ws, hl with | [_], _ => rfl)
  exact ok_law F_law bl F__law_pot a__law_pot (h__law_right.always t_right)
end Kp
open PySem PySem.W PySem.Calls PyProof.Rows
theorem PySem.Challenge.cw_betsalong_k89_whole_urns_and_rows_holds : PySem.Challenge.rw_betsalong_k89_whole_urns_and_rows.Holds := by
  w_on; o_law
  refine HandSHeadRun.head_any (r := OpenLaw.row PySem.Challenge.rw_betsalong_k89_whole_urns_and_rows) (q := view (OpenLaw.row PySem.Challenge.rw_betsalong_k89_whole_urns_and_rows).prog [46]) (H := Kp.hk) (ob := Kp.ob) (M := 30000) (loose := Kp.loose) (d := HandSHeadRun.topDef (OpenLaw.row PySem.Challenge.rw_betsalong_k89_whole_urns_and_rows).prog 46) (kwd := []) Kp.ob_eq
    (by kernel_rfl) (fun s => by kernel_rfl) Kp.run (by kernel_rfl) (by kernel_rfl) (by kernel_rfl) (by rfl) (by first | assumption | decide +kernel) (by decide +kernel) ⟨rfl, rfl, rfl, rfl, rfl, by decide +kernel⟩ ?hw ?hc
  case hw => w_witness2
  case hc =>
    refine Dl.walk_ofG (l := PySem.Challenge.rw_betsalong_k89_whole_urns_and_rows) (n := 63) (k := 8) (x := "script") rfl (by decide) (by kernel_rfl) ⟨rfl, by decide, by decide⟩ ?F
    intro w mg fa h Y G hmg0
    obtain ⟨K, KX, c⟩ := Y
    have hmg : mg ("law" : PySem.Str) = some (.ref fa) := by
      have e : (HandSHeadRun.topDef (OpenLaw.row PySem.Challenge.rw_betsalong_k89_whole_urns_and_rows).prog 46).name = ("law" : PySem.Str) := by kernel_rfl
      rw [← e]
      exact hmg0
    obtain ⟨fd, hb, hF⟩ := Kp.facts (P := (PySem.Challenge.rw_betsalong_k89_whole_urns_and_rows).prog) (w := w) KX G hmg c
    exact ⟨K, fd, Dl.spLaw K, KX, hb, fun H a ns hl _ hS => ⟨a, ns, rfl, hS, fun _ => rfl⟩, hF⟩
