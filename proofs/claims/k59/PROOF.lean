import PyProof.Rows.All
import Wide.All
import OpenK.AllK
import Wide.FinOn
import KE.KExcSuper
import HandS.ForMost
import HandS.Exc
import HandS.ExcInit
import HandS.ExcOwn
import HandS.TryOnly
import HandS.WordsExc
import HandS.Wide
import HandS.WideBits
import HandS.IsInst
import HandS.Evl
import HandS.Flow
import HandS.EndBits
import HandS.Walk
import PySem.Challenge.RW_seriesroads_k59_full_texts
set_option Elab.async false
set_option linter.all false
set_option maxRecDepth 100000
set_option maxHeartbeats 4000000
/-! the state of a walk: what is fixed (B), what is owned and may change (L), over the entry (F) -/
namespace Sr
open PySem PySem.Spec PyProof.Rows L2

def SameM (M : List Addr) (H H' : Hp) : Prop := ∀ a o, a ∉ M → H a = some o → H' a = some o
theorem SameM.of {M : List Addr} {H H' : Hp} (h : Same H H') : SameM M H H' := fun a o _ e => h a o e
theorem SameM.trans {M : List Addr} {H H1 H2 : Hp} (a : SameM M H H1) (b : SameM M H1 H2) : SameM M H H2 := fun x o n e => b x o n (a x o n e)
/-- what a call may hand out: what stood fixed, and what is new -/
def Gb (B H H' : Hp) : Hp := fun a => match B a with | some o => some o | none => match H a with | some _ => none | none => H' a
theorem Gb.same {B H H' : Hp} : Same B (Gb B H H') := fun a o e => by unfold Gb; rw [e]
structure Frm where
  E : Hp
  M : List Addr
  B0 : Hp
structure Hs (F : Frm) (B : Hp) (L : List (Addr × HO)) (H : Hp) : Prop where
  keep : SameM F.M F.E H
  base : Same B H
  ext : Same F.B0 B
  new : ∀ a o, B a = some o → F.B0 a = some o ∨ F.E a = none
  own : ∀ p ∈ L, H p.1 = some p.2
  off : ∀ p ∈ L, B p.1 = none
  out : ∀ p ∈ L, p.1 ∈ F.M ∨ F.E p.1 = none
  nod : (L.map (·.1)).Nodup
  mus : ∀ a ∈ F.M, a ∈ L.map (·.1)
section
variable {F : Frm} {B H H' : Hp} {L : List (Addr × HO)} {p : Addr} {o o' : HO} {i : Nat}
theorem Hs.start {B : Hp} {H : Hp} (h : Same B H) : Hs ⟨H, [], B⟩ B [] H :=
  ⟨fun _ _ _ e => e, h, Same.refl _, fun _ _ e => .inl e, (fun _ z => nomatch z), (fun _ z => nomatch z), (fun _ z => nomatch z), List.nodup_nil, (fun _ z => nomatch z)⟩
/-- one object of the caller's may change -/
theorem Hs.start1 {B : Hp} {H : Hp} (h : Same B H) (e : H p = some o) (n : B p = none) : Hs ⟨H, [p], B⟩ B [(p, o)] H :=
  ⟨fun _ _ _ e => e, h, Same.refl _, fun _ _ e => .inl e, fun q z => by rw [List.mem_singleton.mp z]; exact e, fun q z => by rw [List.mem_singleton.mp z]; exact n,
    fun q z => .inl (by rw [List.mem_singleton.mp z]; exact List.mem_cons_self), by simp, fun a z => by simpa using z⟩
theorem Hs.new0 {E : Hp} {B0 : Hp} (S : Hs ⟨E, [], B0⟩ B L H) (hi : L[i]? = some (p, o)) : E p = none := (S.out _ (List.mem_of_getElem? hi)).resolve_left (by simp)
theorem Hs.there (S : Hs F B L H) (hm : p ∈ F.M) : ∃ o, H p = some o := by
  obtain ⟨q, hq, e⟩ := List.mem_map.mp (S.mus p hm)
  exact ⟨q.2, by rw [← e]; exact S.own q hq⟩
theorem Hs.fresh (S : Hs F B L H) (hp : H p = none) : F.E p = none := by
  cases e : F.E p with
  | none => rfl
  | some o =>
    by_cases hm : p ∈ F.M
    · obtain ⟨o', e'⟩ := S.there hm
      rw [hp] at e'
      cases e'
    · have := S.keep p o hm e
      rw [hp] at this
      cases this
theorem Hs.freshB (S : Hs F B L H) (hp : H p = none) : B p = none := by
  cases e : B p with
  | none => rfl
  | some o =>
    have := S.base p o e
    rw [hp] at this
    cases this
theorem Hs.fin (S : Hs F B L H) : Same B (Gb F.B0 F.E H) := fun a o e => by
  unfold Gb
  cases q : F.B0 a with
  | some o' =>
    have z := S.ext a o' q
    rw [e] at z
    exact z.symm
  | none =>
    rcases S.new a o e with z | z
    · rw [q] at z
      cases z
    · rw [z]
      exact S.base a o e
theorem Hs.alive {M : List Addr} {E : Hp} {B0 : Hp} (S : Hs ⟨E, M, B0⟩ B L H) : SameM M E H := S.keep
theorem Hs.same {E : Hp} {B0 : Hp} (S : Hs ⟨E, [], B0⟩ B L H) : Same E H := fun a o e => S.keep a o (by simp) e
/-- a new fixed object -/
theorem Hs.alloc (S : Hs F B L H) (hp : H p = none) : Hs F (upd B p o) L (upd H p o) where
  keep := fun a u n e => by
    have z := S.keep a u n e
    rw [upd_ne (ne_of_none z hp)]
    exact z
  base := fun a u e => by
    by_cases h : a = p
    · subst h
      rw [upd_same] at e ⊢
      exact e
    · rw [upd_ne h] at e ⊢
      exact S.base a u e
  ext := fun a u e => by
    have z := S.ext a u e
    rw [upd_ne (ne_of_none z (S.freshB hp))]
    exact z
  new := fun a u e => by
    by_cases h : a = p
    · exact .inr (by rw [h]; exact S.fresh hp)
    · rw [upd_ne h] at e
      exact S.new a u e
  own := fun q z => by
    have e := S.own q z
    rw [upd_ne (ne_of_none e hp)]
    exact e
  off := fun q z => by
    have e := S.own q z
    rw [upd_ne (ne_of_none e hp)]
    exact S.off q z
  out := S.out
  nod := S.nod
  mus := S.mus
theorem same_alloc (hp : B p = none) : Same B (upd B p o) := fun a u e => by
  rw [upd_ne (ne_of_none e hp)]
  exact e
/-- a new object of our own -/
theorem Hs.allocL (S : Hs F B L H) (hp : H p = none) : Hs F B ((p, o) :: L) (upd H p o) where
  keep := fun a u n e => by
    have z := S.keep a u n e
    rw [upd_ne (ne_of_none z hp)]
    exact z
  base := fun a u e => by
    have z := S.base a u e
    rw [upd_ne (ne_of_none z hp)]
    exact z
  ext := S.ext
  new := S.new
  own := fun q z => by
    rcases List.mem_cons.mp z with rfl | z
    · exact upd_same
    · have e := S.own q z
      rw [upd_ne (ne_of_none e hp)]
      exact e
  off := fun q z => by
    rcases List.mem_cons.mp z with rfl | z
    · exact S.freshB hp
    · exact S.off q z
  out := fun q z => by
    rcases List.mem_cons.mp z with rfl | z
    · exact .inr (S.fresh hp)
    · exact S.out q z
  nod := by
    show (p :: L.map (·.1)).Nodup
    refine List.nodup_cons.mpr ⟨fun m => ?_, S.nod⟩
    obtain ⟨q, hq, e⟩ := List.mem_map.mp m
    have z := S.own q hq
    rw [e, hp] at z
    cases z
  mus := fun a z => List.mem_cons_of_mem _ (S.mus a z)
theorem mem_set {L : List (Addr × HO)} {i : Nat} {q x : Addr × HO} (h : q ∈ L.set i x) : q = x ∨ q ∈ L := by
  rcases List.mem_or_eq_of_mem_set h with z | z
  · exact .inr z
  · exact .inl z
theorem set_keys : ∀ {L : List (Addr × HO)} {i : Nat} {o o' : HO}, L[i]? = some (p, o) → (L.set i (p, o')).map (·.1) = L.map (·.1)
  | [], i, _, _, h => by simp at h
  | q :: r, 0, o, o', h => by
    have e : q = (p, o) := Option.some.inj h
    subst e
    rfl
  | q :: r, i + 1, o, o', h => by
    show q.1 :: (r.set i (p, o')).map (·.1) = q.1 :: r.map (·.1)
    rw [set_keys (L := r) (i := i) (by simpa using h)]
theorem Hs.only (S : Hs F B L H) (hi : L[i]? = some (p, o)) {q : Addr × HO} (hq : q ∈ L) (e : q.1 = p) : q = (p, o) := by
  have hm : (p, o) ∈ L := List.mem_of_getElem? hi
  have h1 := S.own q hq
  have h2 := S.own _ hm
  rw [e] at h1
  obtain ⟨a, u⟩ := q
  have e' : a = p := e
  subst e'
  have z : u = o := Option.some.inj (h1.symm.trans h2)
  rw [z]
theorem nodup_other : ∀ {L : List (Addr × HO)} {i : Nat} {x : HO}, (L.map (·.1)).Nodup → i < L.length → ∀ q ∈ L.set i (p, x), q = (p, x) ∨ (q ∈ L ∧ ((L.map (·.1))[i]? = some p → q.1 ≠ p))
  | [], i, x, _, h, _, _ => by simp at h
  | y :: r, 0, x, hn, _, q, hq => by
    rcases List.mem_cons.mp (show q ∈ (p, x) :: r from hq) with e | hq
    · exact .inl e
    · refine .inr ⟨List.mem_cons_of_mem _ hq, fun z e => ?_⟩
      have z : y.1 = p := Option.some.inj z
      have hn : (y.1 :: r.map (·.1)).Nodup := hn
      exact (List.nodup_cons.mp hn).1 (by rw [z, ← e]; exact List.mem_map_of_mem hq)
  | y :: r, i + 1, x, hn, hl, q, hq => by
    have hn : (y.1 :: r.map (·.1)).Nodup := hn
    obtain ⟨h1, h2⟩ := List.nodup_cons.mp hn
    rcases List.mem_cons.mp (show q ∈ y :: r.set i (p, x) from hq) with e | hq
    · refine .inr ⟨by rw [e]; exact List.mem_cons_self, fun z e' => ?_⟩
      have z : (r.map (·.1))[i]? = some p := by simpa using z
      exact h1 (by rw [← e, e']; exact List.mem_of_getElem? z)
    · rcases nodup_other h2 (by simpa using hl) q hq with e | ⟨e, f⟩
      · exact .inl e
      · exact .inr ⟨List.mem_cons_of_mem _ e, fun z => f (by simpa using z)⟩
/-- an object of our own changes; what else is tracked stands -/
theorem Hs.put (S : Hs F B L H) (hi : L[i]? = some (p, o)) (hs : SameM [p] H H') (hp : H' p = some o') : Hs F B (L.set i (p, o')) H' := by
  have hm : (p, o) ∈ L := List.mem_of_getElem? hi
  have hl : i < L.length := (List.getElem?_eq_some_iff.mp hi).1
  have hk : (L.map (·.1))[i]? = some p := by rw [List.getElem?_map, hi]; rfl
  have ne : ∀ {a u}, B a = some u → a ≠ p := fun {a u} e z => by
    rw [z, S.off _ hm] at e
    cases e
  refine ⟨fun a u n e => ?_, fun a u e => hs a u (by simpa using ne e) (S.base a u e), S.ext, S.new, fun q hq => ?_, fun q hq => ?_, fun q hq => ?_, by rw [set_keys hi]; exact S.nod, fun a z => by rw [set_keys hi]; exact S.mus a z⟩
  · by_cases h : a = p
    · subst h
      rcases S.out _ hm with z | z
      · exact absurd z n
      · rw [z] at e
        cases e
    · exact hs a u (by simpa using h) (S.keep a u n e)
  · rcases nodup_other S.nod hl q hq with e | ⟨hq, f⟩
    · rw [e]
      exact hp
    · exact hs _ _ (by simpa using f hk) (S.own q hq)
  · rcases mem_set hq with e | hq
    · rw [e]
      exact S.off (p, o) hm
    · exact S.off q hq
  · rcases mem_set hq with e | hq
    · rw [e]
      exact S.out (p, o) hm
    · exact S.out q hq
theorem sameM_upd : SameM [p] H (upd H p o) := fun a u n e => by
  rw [upd_ne (by simpa using n)]
  exact e
theorem Hs.set (S : Hs F B L H) (hi : L[i]? = some (p, o)) : Hs F B (L.set i (p, o')) (upd H p o') := S.put hi sameM_upd upd_same
/-- behind a call -/
theorem Hs.call (S : Hs F B L H) (h : Same H H') : Hs F B L H' where
  keep := fun a u n e => h a u (S.keep a u n e)
  base := S.base.trans h
  ext := S.ext
  new := S.new
  own := fun q z => h _ _ (S.own q z)
  off := S.off
  out := S.out
  nod := S.nod
  mus := S.mus
/-- .. with what it made -/
theorem Hs.grow (S : Hs F B L H) {G : Hp} (hk : ∀ a, H a = none → F.E a = none) (hB : ∀ a u, G a = some u → B a = some u ∨ (B a = none ∧ (∀ q ∈ L, q.1 ≠ a) ∧ F.E a = none ∧ H a = some u)) (hG : Same B G) : Hs F G L H where
  keep := S.keep
  base := fun a u e => by
    rcases hB a u e with z | ⟨_, _, _, z⟩
    · exact S.base a u z
    · exact z
  ext := S.ext.trans hG
  new := fun a u e => by
    rcases hB a u e with z | ⟨_, _, z, _⟩
    · exact S.new a u z
    · exact .inr z
  own := S.own
  off := fun q hq => by
    cases e : G q.1 with
    | none => rfl
    | some u =>
      rcases hB _ u e with z | ⟨_, z, _, _⟩
      · rw [S.off q hq] at z
        cases z
      · exact absurd rfl (z q hq)
  out := S.out
  nod := S.nod
  mus := S.mus
theorem Hs.callG (S : Hs F B L H) (h : Same H H') : Hs F (Gb B H H') L H' := by
  refine (S.call h).grow (fun a e => ?_) (fun a u e => ?_) Gb.same
  · exact (S.call h).fresh e
  · unfold Gb at e
    cases q : B a with
    | some o =>
      rw [q] at e
      exact .inl e
    | none =>
      rw [q] at e
      cases r : H a with
      | some o =>
        rw [r] at e
        cases e
      | none =>
        rw [r] at e
        refine .inr ⟨rfl, fun z hz ez => ?_, S.fresh r, e⟩
        have y := S.own z hz
        rw [ez, r] at y
        cases y
/-- behind a call that changes one of ours -/
theorem Hs.callP (S : Hs F B L H) (hi : L[i]? = some (p, o)) (hs : SameM [p] H H') (hp : H' p = some o') : Hs F (Gb B H H') (L.set i (p, o')) H' := by
  have S2 := S.put hi hs hp
  refine S2.grow (fun a e => S2.fresh e) (fun a u e => ?_) Gb.same
  unfold Gb at e
  cases q : B a with
  | some o =>
    rw [q] at e
    exact .inl e
  | none =>
    rw [q] at e
    cases r : H a with
    | some o =>
      rw [r] at e
      cases e
    | none =>
      rw [r] at e
      refine .inr ⟨rfl, fun z hz ez => ?_, S.fresh r, e⟩
      rcases mem_set hz with y | hz
      · rw [y] at ez
        have z := S.own _ (List.mem_of_getElem? hi)
        rw [ez, r] at z
        cases z
      · have y := S.own z hz
        rw [ez, r] at y
        cases y
/-- one of ours is fixed from now on -/
theorem Hs.fix (S : Hs F B L H) (hi : L[i]? = some (p, o)) (hM : p ∉ F.M) : Hs F (upd B p o) (L.eraseIdx i) H := by
  have hm : (p, o) ∈ L := List.mem_of_getElem? hi
  have hl : i < L.length := (List.getElem?_eq_some_iff.mp hi).1
  have hne : ∀ q ∈ L.eraseIdx i, q.1 ≠ p := fun q hq e => by
    have h1 := List.mem_eraseIdx_iff_getElem?.mp hq
    obtain ⟨j, hj, hq2⟩ := h1
    have e2 : (L.map (·.1))[j]? = (L.map (·.1))[i]? := by rw [List.getElem?_map, List.getElem?_map, hq2, hi]; exact congrArg some e
    have hj2 : j < (L.map (·.1)).length := by rw [List.length_map]; exact (List.getElem?_eq_some_iff.mp hq2).1
    exact hj ((List.getElem?_inj hj2 S.nod).mp e2)
  refine ⟨S.keep, fun a u e => ?_, fun a u e => ?_, fun a u e => ?_, fun q hq => S.own q (List.mem_of_mem_eraseIdx hq), fun q hq => ?_, fun q hq => S.out q (List.mem_of_mem_eraseIdx hq), ?_, fun a z => ?_⟩
  · by_cases h : a = p
    · subst h
      rw [upd_same] at e
      rw [S.own _ hm]
      exact e
    · rw [upd_ne h] at e
      exact S.base a u e
  · have z := S.ext a u e
    rw [upd_ne (ne_of_none z (S.off _ hm))]
    exact z
  · by_cases h : a = p
    · subst h
      rcases S.out _ hm with z | z
      · exact absurd z hM
      · exact .inr z
    · rw [upd_ne h] at e
      exact S.new a u e
  · rw [upd_ne (hne q hq)]
    exact S.off q (List.mem_of_mem_eraseIdx hq)
  · exact S.nod.sublist ((List.eraseIdx_sublist L i).map _)
  · have h1 := S.mus a z
    obtain ⟨q, hq, e⟩ := List.mem_map.mp h1
    obtain ⟨j, hj⟩ := List.mem_iff_getElem?.mp hq
    have hji : j ≠ i := fun e2 => by
      rw [e2, hi] at hj
      have e3 : (p, o) = q := Option.some.inj hj
      rw [← e3] at e
      exact hM (by rw [show p = a from e]; exact z)
    exact List.mem_map.mpr ⟨q, List.mem_eraseIdx_iff_getElem?.mpr ⟨j, hji, hj⟩, e⟩
/-- .. is forgotten -/
theorem Hs.drop (S : Hs F B L H) (hi : L[i]? = some (p, o)) (hM : p ∉ F.M) : Hs F B (L.eraseIdx i) H := by
  have Z := S.fix hi hM
  exact ⟨Z.keep, S.base, S.ext, S.new, Z.own, fun q hq => S.off q (List.mem_of_mem_eraseIdx hq), Z.out, Z.nod, Z.mus⟩
theorem Hs.at (S : Hs F B L H) (hi : L[i]? = some (p, o)) : H p = some o := S.own _ (List.mem_of_getElem? hi)
theorem Hs.seq {K : PySem.W.Frag} {a : Addr} {xs : List V} (S : Hs F B L H) (h : SqL K B a xs) : SqL K H a xs := S.base.seq h
theorem same_sqT {K : PySem.W.Frag} {a : Addr} {xs : List V} (e : Same B H) (h : SqT K B a xs) : SqT K H a xs := by
  rcases h with (h | ⟨o, h⟩) | h
  · exact .inl (.inl (e _ _ h))
  · exact .inl (.inr ⟨o, e _ _ h⟩)
  · exact .inr h
theorem Hs.sqT {K : PySem.W.Frag} {a : Addr} {xs : List V} (S : Hs F B L H) (h : SqT K B a xs) : SqT K H a xs := same_sqT S.base h
end
mutual
theorem dp_mono {K : PySem.W.Frag} {H H' : Hp} (e : Same H H') : ∀ (d : PyData) (v : V), Dp K H v d → Dp K H' v d
  | .none, _, h => by cases h; exact .non
  | .bool b, _, h => by cases h; exact .bl b
  | .int i, _, h => by cases h; exact .int i
  | .str x, _, h => by cases h; exact .str x
  | .list ds, _, h => by cases h with | lst hs ha => exact .lst (e.seq hs) (dpAll_mono e ds _ ha)
  | .tuple ds, _, h => by cases h with | tup hs ha => exact .tup (same_sqT e hs) (dpAll_mono e ds _ ha)
  | .dict _, _, h => by cases h
theorem dpAll_mono {K : PySem.W.Frag} {H H' : Hp} (e : Same H H') : ∀ (ds : List PyData) (vs : List V), DpAll K H vs ds → DpAll K H' vs ds
  | [], _, h => by cases h; exact .nil
  | d :: ds, _, h => by cases h with | cons h1 h2 => exact .cons (dp_mono e d _ h1) (dpAll_mono e ds _ h2)
end
end Sr

namespace Sr
open PySem PySem.Spec PyProof.Rows L2
section
variable {K : PySem.W.Frag} {σ : L2.St} {H : Hp} {D : Ends} {t u w : TS} {te ta tb tc : TE} {tt tt' : TT} {g : TG} {i : Nat} {v x y : V} {Q : VK} {QB : Bool → Hp → Prop} {tl tl' : TA} {QA : List V → Hp → Prop}
/-- a rule at its values, not yet opened -/
def Ap2 (r : V → V → Hp → VK → Prop) (x y : V) (H : Hp) (Q : VK) : Prop := r x y H Q
def Ap1 (r : V → Hp → VK → Prop) (x : V) (H : Hp) (Q : VK) : Prop := r x H Q
def ApC (r : List V → Hp → VK → Prop) (xs : List V) (H : Hp) (Q : VK) : Prop := r xs H Q
def ApM (r : V → List V → Hp → VK → Prop) (x : V) (xs : List V) (H : Hp) (Q : VK) : Prop := r x xs H Q
def RGet (x y : V) (H : Hp) (Q : VK) : Prop := ∃ a v, x = .ref a ∧ DGet H a y (some v) ∧ Q v H
def RIn (x y : V) (H : Hp) (Q : VK) : Prop := ∃ a o, x = .ref a ∧ DGet H a y o ∧ Q (.bl o.isSome) H
def RNin (x y : V) (H : Hp) (Q : VK) : Prop := ∃ a o, x = .ref a ∧ DGet H a y o ∧ Q (.bl (!o.isSome)) H
def RPut (x y v : V) (H : Hp) (Q : Hp → Prop) : Prop := ∃ a H4, x = .ref a ∧ DPut H a y v H4 ∧ Q H4
theorem h_seq (h : t { D with nx := u D } σ H) : tSeq t u D σ H := h
theorem h_next (h : D.nx σ H) : tNext D σ H := h
theorem h_asg (h : te σ H fun x H1 => g x σ H1 D.nx) : tAsg te g D σ H := h
theorem h_name {Q : L2.St → Hp → Prop} (h : Q (σ.set i (some v)) H) : gName i v σ H Q := h
theorem h_drop (h : te σ H fun _ H1 => D.nx σ H1) : tDrop te D σ H := h
theorem h_ret (h : te σ H D.rt) : tRet te D σ H := h
theorem h_retN (h : D.rt .non H) : tRetN D σ H := h
theorem h_ifS (h : tt σ H fun b H1 => if b = true then t D σ H1 else u D σ H1) : tIfS tt t u D σ H := h
theorem h_brk (h : D.bk σ H) : tBreak D σ H := h
theorem h_cont (h : D.ct σ H) : tCont D σ H := h
theorem h_test (h : te σ H fun x H' => ∃ k, x = .bl k ∧ QB k H') : tTest te σ H QB := h
theorem h_B (h : te σ H fun x H' => ∃ k, x = .bl k ∧ QB k H') : tB te σ H QB := h
theorem h_and (h : tt σ H fun c H1 => if c = true then tt' σ H1 QB else QB false H1) : tAnd tt tt' σ H QB := h
theorem h_or (h : tt σ H fun c H1 => if c = true then QB true H1 else tt' σ H1 QB) : tOr tt tt' σ H QB := h
theorem h_not (h : tt σ H fun c H1 => QB (!c) H1) : tNot tt σ H QB := h
theorem h_var (e : σ[i]? = some (some v)) (h : Q v H) : tVar i σ H Q := ⟨v, e, h⟩
theorem h_c (h : Q v H) : tC v σ H Q := h
theorem h_op {r : R2} (h : ta σ H fun x H1 => tb σ H1 fun y H2 => Ap2 r x y H2 Q) : tOp r ta tb σ H Q := h
theorem h_un {r : V → Hp → VK → Prop} (h : ta σ H fun x H1 => Ap1 r x H1 Q) : tUn r ta σ H Q := h
theorem h_if (h : tt σ H fun c H1 => if c = true then ta σ H1 Q else tb σ H1 Q) : tIf tt ta tb σ H Q := h
theorem h_andV (h : ta σ H fun x H1 => ∃ c, x = .bl c ∧ if c = true then tb σ H1 Q else Q (.bl false) H1) : tAndV ta tb σ H Q := h
theorem h_orV (h : ta σ H fun x H1 => ∃ c, x = .bl c ∧ if c = true then Q (.bl true) H1 else tb σ H1 Q) : tOrV ta tb σ H Q := h
theorem h_notV (h : ta σ H fun x H1 => ∃ c, x = .bl c ∧ Q (.bl (!c)) H1) : tNotV ta σ H Q := h
theorem h_cb {r : List V → Hp → VK → Prop} (h : tl σ H fun vs H1 => ApC r vs H1 Q) : tCB r tl σ H Q := h
theorem h_nil (h : QA [] H) : tNil σ H QA := h
theorem h_cons (h : ta σ H fun x H1 => tl σ H1 fun xs H2 => QA (x :: xs) H2) : tCons ta tl σ H QA := h
theorem h_call {sp : Sp} {dvs : List V} {E : XK} (h : tl σ H fun vs H1 => sp (vs ++ dvs) H1 Q E) : tCall sp dvs E tl σ H Q := h
theorem h_callS {sp : Sp} {E : L2.St → XK} (h : tl σ H fun vs H1 => sp vs H1 Q (E σ)) : tCallS sp E tl σ H Q := h
/-- a new object -/
def NewO (o : HO) (H : Hp) (Q : VK) : Prop := ∀ p, H p = none → Q (.ref p) (upd H p o)
theorem h_tup (h : tl σ H fun xs H1 => xs.length ≤ sizeLine ∧ NewO (.tup xs) H1 Q) : tTup tl σ H Q := h
theorem h_lst (h : tl σ H fun xs H1 => xs.length ≤ sizeLine ∧ NewO (.lst xs) H1 Q) : tLst tl σ H Q := h
theorem h_dnewK (h : NewO (.dK []) H Q) : tDNewK σ H Q := h
theorem h_dnewT (h : NewO (.dT []) H Q) : tDNewT σ H Q := h
theorem h_bm0 {T : String} {r : V → List V → Hp → VK → Prop} (h : ta σ H fun x H1 => tyV K T x H1 ∧ ApM r x [] H1 Q) : tBM0 K T r ta σ H Q := h
theorem h_bm {T : String} {r : V → List V → Hp → VK → Prop} (h : ta σ H fun x H1 => tyV K T x H1 ∧ tl σ H1 fun xs H2 => ApM r x xs H2 Q) : tBM K T r ta tl σ H Q := h
theorem h_m0 {r : V → List V → Hp → VK → Prop} (h : ta σ H fun x H1 => (∃ a, x = .str a) ∧ ApM r x [] H1 Q) : tM0 r ta σ H Q := h
theorem h_m1 {r : V → List V → Hp → VK → Prop} (h : ta σ H fun x H1 => (∃ a, x = .str a) ∧ tb σ H1 fun y H2 => ApM r x [y] H2 Q) : tM1 r ta tb σ H Q := h
theorem h_sl {r : V → Option Int → Option Int → Hp → VK → Prop} {to1 to2 : TO} (h : ta σ H fun x H1 => to1 σ H1 fun l H2 => to2 σ H2 fun u H3 => r x l u H3 Q) : tSl r ta to1 to2 σ H Q := h
theorem h_noPart {QO : Option Int → Hp → Prop} (h : QO none H) : tNoPart σ H QO := h
theorem h_part {QO : Option Int → Hp → Prop} (h : ta σ H fun x H1 => ∃ i, x = .int i ∧ QO (some i) H1) : tPart ta σ H QO := h
theorem h_fld {f : Str} (h : ta σ H fun x H1 => ∃ a C dx fs v, x = .ref a ∧ H1 a = some (.ins C dx fs) ∧ Cls K C ∧ NoAttr K C f ∧ fs.lookup f = some v ∧ Q v H1) : tFld K ta f σ H Q := h
theorem h_dget (h : ta σ H fun x H1 => tb σ H1 fun y H2 => RGet x y H2 Q) : tDGet ta tb σ H Q := h
theorem h_din (h : tb σ H fun y H1 => ta σ H1 fun x H2 => RIn x y H2 Q) : tDIn tb ta σ H Q := h
theorem h_dnotin (h : tb σ H fun y H1 => ta σ H1 fun x H2 => RNin x y H2 Q) : tDNotIn tb ta σ H Q := h
theorem h_dput (h : tc σ H fun v H1 => ta σ H1 fun x H2 => tb σ H2 fun y H3 => RPut x y v H3 fun H4 => D.nx σ H4) : sDPut ta tb tc D σ H := h
theorem h_I0 {f : Int → Int → V} {a b : Int} (h : Q (f a b) H) : Ap2 (rI0 f) (.int a) (.int b) H Q := ⟨a, b, rfl, rfl, h⟩
theorem h_I {C : Int → Int → Prop} {f : Int → Int → V} {a b : Int} (c : C a b) (h : Q (f a b) H) : Ap2 (rI C f) (.int a) (.int b) H Q := ⟨a, b, rfl, rfl, c, h⟩
theorem h_eqI {a b : Int} (h : Q (.bl (decide (a = b))) H) : Ap2 (rEq) (.int a) (.int b) H Q := ⟨rfl, by rw [show decide (V.int a = V.int b) = decide (a = b) from by simp]; exact h⟩
theorem h_neI {a b : Int} (h : Q (.bl (!decide (a = b))) H) : Ap2 (rNe) (.int a) (.int b) H Q := ⟨rfl, by rw [show decide (V.int a = V.int b) = decide (a = b) from by simp]; exact h⟩
theorem h_eqS {a b : Str} (h : Q (.bl (decide (a = b))) H) : Ap2 (rEq) (.str a) (.str b) H Q := ⟨rfl, by rw [show decide (V.str a = V.str b) = decide (a = b) from by simp]; exact h⟩
theorem h_neS {a b : Str} (h : Q (.bl (!decide (a = b))) H) : Ap2 (rNe) (.str a) (.str b) H Q := ⟨rfl, by rw [show decide (V.str a = V.str b) = decide (a = b) from by simp]; exact h⟩
theorem h_eqB {a b : Bool} (h : Q (.bl (decide (a = b))) H) : Ap2 (rEq) (.bl a) (.bl b) H Q := ⟨rfl, by rw [show decide (V.bl a = V.bl b) = decide (a = b) from by simp]; exact h⟩
theorem h_neB {a b : Bool} (h : Q (.bl (!decide (a = b))) H) : Ap2 (rNe) (.bl a) (.bl b) H Q := ⟨rfl, by rw [show decide (V.bl a = V.bl b) = decide (a = b) from by simp]; exact h⟩
theorem h_ex {α : Type} {P : α → Prop} {a : α} (h : P a) : ∃ a, P a := ⟨a, h⟩
/-- tests -/
theorem if_d {p : Prop} [Decidable p] {A B : Prop} (h1 : p → A) (h2 : ¬p → B) : if decide p = true then A else B := by
  by_cases h : p
  · rw [if_pos (decide_eq_true h)]; exact h1 h
  · rw [if_neg (by simpa using h)]; exact h2 h
theorem if_nd {p : Prop} [Decidable p] {A B : Prop} (h1 : ¬p → A) (h2 : p → B) : if (!decide p) = true then A else B := by
  by_cases h : p
  · rw [if_neg (by simpa using h)]; exact h2 h
  · rw [if_pos (by simpa using h)]; exact h1 h
theorem if_t {b : Bool} {A B : Prop} (e : b = true) (h : A) : if b = true then A else B := by rw [if_pos e]; exact h
theorem if_f {b : Bool} {A B : Prop} (e : b = false) (h : B) : if b = true then A else B := by rw [if_neg (by rw [e]; decide)]; exact h
theorem if_b {b : Bool} {A B : Prop} (h1 : b = true → A) (h2 : b = false → B) : if b = true then A else B := by
  cases b with
  | true => rw [if_pos rfl]; exact h1 rfl
  | false => rw [if_neg (by decide)]; exact h2 rfl
theorem sz {n : Nat} (h : n ≤ 16777216) : n ≤ sizeLine := by rw [sizeLine_eq]; exact h
theorem szl {n : Nat} (h : n < 16777216) : n < sizeLine := by rw [sizeLine_eq]; exact h
end
/-! ### facts of the top, by tests -/
def codeFile (P : Program) (vs : Array Value) : Bool := match (vs[2]? : Option Value) with | some (Value.str f _) => (P.main.file : Str) == f | _ => false
theorem file_of {P : Program} {K : PySem.W.Frag} {cda : Addr} {ccl : Value} {cdd : Option Addr} {vs : Array Value} {ccs : Array (Option Value)} (h : K.lookup cda = some ⟨ccl, cdd, .fields vs, ccs⟩) (c : codeFile P vs = true) :
    ∃ (ccl : Value) (cdd : Option Addr) (vs : Array Value) (ccs : Array (Option Value)) (file : Str) (tf : Tok), K.lookup cda = some ⟨ccl, cdd, .fields vs, ccs⟩ ∧ vs[2]? = some (.str file tf) ∧ ((P.main.file : Str) == file) = true := by
  unfold codeFile at c
  split at c
  · rename_i f t e
    exact ⟨_, _, _, _, f, t, h, e, c⟩
  · cases c
def relB : V → Value → Bool
  | .int i, .int j _ => i == j
  | .str x, .str y _ => decide (x = y)
  | _, _ => false
theorem rel_of {v : V} {u : Value} (h : relB v u = true) : RelV v u := by
  cases v <;> cases u <;> simp [relB] at h
  · subst h; exact ⟨_, rfl⟩
  · subst h; exact ⟨_, rfl⟩
theorem exm_self {K : PySem.W.Frag} {S : Addr} (h1 : PySem.W.subIn K (.ref S) (.type "BaseException") = some true) (h2 : PySem.W.isClsIn K S = true) (h3 : PySem.W.typeIn K (.ref S) = some (.type "type")) (h4 : PySem.W.subIn K (.ref S) (.ref S) = some true) :
    PySem.W.exmOne K (.ref S) (.ref S) = some true := by
  have e1 : (PySem.W.subIn K (.ref S) (.type "BaseException") == some true) = true := by rw [h1] <;> rfl
  have e2 : ((PySem.W.clsIn K S).isSome && PySem.W.typeIn K (.ref S) == some (.type "type")) = true := by
    have h2' : (PySem.W.clsIn K S).isSome = true := h2
    rw [h2', h3] <;> rfl
  show (if (PySem.W.subIn K (.ref S) (.type "BaseException") == some true) = true then (if ((PySem.W.clsIn K S).isSome && PySem.W.typeIn K (.ref S) == some (.type "type")) = true then PySem.W.subIn K (.ref S) (.ref S) else none) else none) = some true
  rw [if_pos e1, if_pos e2]
  exact h4
theorem exm_no {K : PySem.W.Frag} {C S : Addr} (h1 : PySem.W.subIn K (.ref S) (.type "BaseException") = some true) (h2 : PySem.W.isClsIn K S = true) (h3 : PySem.W.typeIn K (.ref S) = some (.type "type")) (h4 : PySem.W.subIn K (.ref C) (.ref S) = some false) :
    PySem.W.exmOne K (.ref C) (.ref S) = some false := by
  have e1 : (PySem.W.subIn K (.ref S) (.type "BaseException") == some true) = true := by rw [h1] <;> rfl
  have e2 : ((PySem.W.clsIn K S).isSome && PySem.W.typeIn K (.ref S) == some (.type "type")) = true := by
    have h2' : (PySem.W.clsIn K S).isSome = true := h2
    rw [h2', h3] <;> rfl
  show (if (PySem.W.subIn K (.ref S) (.type "BaseException") == some true) = true then (if ((PySem.W.clsIn K S).isSome && PySem.W.typeIn K (.ref S) == some (.type "type")) = true then PySem.W.subIn K (.ref C) (.ref S) else none) else none) = some false
  rw [if_pos e1, if_pos e2]
  exact h4
theorem bindsAll {K : PySem.W.Frag} {x qual : Str} {st : Stmt} {f : Addr} {fd : FuncData} (F : Fun K x qual st f fd) {p : Str}
    (h : ∀ (kV doc pm : Value) (an : Option Addr) (cdv ct : Value) (us : List Value), us.length = [p].length → bindArgs (PySem.W.fnOf x qual (defArgs st) (defBody st) (defScope st) .none kV doc pm an cdv ct) ⟨us, []⟩ = pure ([p].zip us)) (s : Shared) (v : Value) : BindsTo s fd ⟨[v], []⟩ [(p, v)] := by
  obtain ⟨oc, od, kV, doc, pm, an, cdv, ct, osl, rfl, lk, hcd⟩ := F.ex
  exact .of_eq (h kV doc pm an cdv ct [v] rfl)
/-! ### texts as lists of numbers -/
def S (l : List Nat) : Str := ⟨l.toArray⟩
theorem S_len (l : List Nat) : (S l).length = l.length := by simp [S, Str.length]
theorem S_tl (x : Str) : S x.cps.toList = x := TL.mk_tl x
theorem tl_S (l : List Nat) : (S l).cps.toList = l := rfl
theorem S_app (l m : List Nat) : S l ++ S m = S (l ++ m) := TL.ext_tl (by rw [TL.tl_append]; rfl)
theorem S_inj {l m : List Nat} (h : S l = S m) : l = m := by
  have := congrArg (fun x : Str => x.cps.toList) h
  exact this
theorem S_eq (l m : List Nat) : (S l = S m) = (l = m) := propext ⟨S_inj, fun h => by rw [h]⟩
theorem dec_S (l m : List Nat) : decide (S l = S m) = decide (l = m) := by simp [S_eq]
def rep (n : Nat) (l : List Nat) : List Nat := (List.replicate n l).flatten
theorem rep_len (n : Nat) (l : List Nat) : (rep n l).length = n * l.length := by simp [rep]
theorem fold_rep (x : Array Nat) : ∀ (n : Nat) (acc : Array Nat), ((List.replicate n x).foldl (· ++ ·) acc).toList = acc.toList ++ rep n x.toList
  | 0, acc => by simp [rep]
  | n + 1, acc => by
    rw [List.replicate_succ, List.foldl_cons, fold_rep x n, Array.toList_append, List.append_assoc]
    congr 1
section
variable {X : Cx}
theorem op_rep_str : OpR X (binaryOp .Mult) (fun x y H Q => ∃ (z : List Nat) (n : Nat), x = .str (S z) ∧ y = .int (n : Int) ∧ z.length * n ≤ 16777216 ∧ n < 16777216 ∧ Q (.str (S (rep n z))) H) := by
  intro pins s σ H x y v u Q I rx ry h
  obtain ⟨z, n, rfl, rfl, hz, hn, q⟩ := h
  obtain ⟨t, rfl⟩ := rx
  obtain ⟨t', rfl⟩ := ry
  have fin : ∀ (w' : Str) tk t2, w' = S (rep n z) → EP X pins σ Q (.str w' t2) { s with toks := tk } := fun w' tk t2 e => by
    subst e
    exact ⟨.str (S (rep n z)), H, I.tok _, ⟨_, rfl⟩, q⟩
  have hlen : (S z).length = z.length := S_len z
  refine PySem.P.mul_str ?_ (fun h1 h2 => ?_) (fun h1 h2 => ?_) ?_
  · rw [Bool.or_eq_false_iff]
    exact ⟨decide_eq_false (by omega), decide_eq_false (by omega)⟩
  · rw [hlen]
    have hn1 : 1 ≤ n := by omega
    have e : (2 ^ 63 - 1 : Int) / (n : Int) ≥ 16777216 := by
      refine (Int.le_ediv_iff_mul_le (by omega)).mpr ?_
      have : (n : Int) < 16777216 := by omega
      omega
    have hb : z.length ≤ 16777216 := Nat.le_trans (by have := Nat.mul_le_mul_left z.length hn1; omega) hz
    omega
  · rw [hlen]
    show decide (z.length * (n : Int).toNat > sizeLine) = false
    rw [Int.toNat_natCast, sizeLine_eq]
    exact decide_eq_false (by omega)
  · by_cases h1 : (n : Int) < 1
    · rw [if_pos h1]
      have e0 : n = 0 := by omega
      subst e0
      exact ⟨by decide, fin _ _ _ rfl⟩
    · rw [if_neg h1]
      by_cases h2 : ((n : Int) == 1 || (S z).length == 0) = true
      · rw [if_pos h2]
        rw [hlen, Bool.or_eq_true] at h2
        refine fin _ s.toks _ ?_
        congr 1
        rcases h2 with h2 | h2
        · have e1 : n = 1 := by
            have := eq_of_beq h2
            omega
          subst e1
          simp [rep]
        · have e1 : z = [] := by
            have := eq_of_beq h2
            exact List.eq_nil_of_length_eq_zero this
          subst e1
          simp [rep]
      · rw [if_neg h2]
        refine ⟨?_, fin _ _ _ ?_⟩
        · have e : (⟨(List.replicate (n : Int).toNat (S z).cps).foldl (· ++ ·) #[]⟩ : Str) = S (rep n z) := TL.ext_tl (by
            show ((List.replicate (n : Int).toNat (S z).cps).foldl (· ++ ·) #[]).toList = rep n z
            rw [fold_rep, Int.toNat_natCast]
            rfl)
          first
            | (rw [e, S_len, rep_len, sizeLine_eq]; have := Nat.mul_comm z.length n; omega)
            | (rw [e]; show (S (rep n z)).length ≤ _; rw [S_len, rep_len, sizeLine_eq]; have := Nat.mul_comm z.length n; omega)
        · exact TL.ext_tl (by
            show ((List.replicate (n : Int).toNat (S z).cps).foldl (· ++ ·) #[]).toList = rep n z
            rw [fold_rep, Int.toNat_natCast]
            rfl)
end

/-- what a loop keeps: the steps halt at it -/
def Kp (P : Prop) : Prop := P
theorem Kp.mk {P : Prop} (h : P) : Kp P := h
/-! ### loops -/
section
variable {K : PySem.W.Frag} {σ : L2.St} {H : Hp} {D : Ends} {g : TG} {tb : TS} {te : TE} {ta : TA} {tt : TT} {vs : List Nat} {Q : VK} {J : It}
def ForW (J : It) (g : TG) (tb : TS) (D : Ends) (σ : L2.St) (H : Hp) : Prop := ∃ W : Nat → Nat → L2.St → Hp → Prop, (∃ m, W 0 m σ H) ∧ ∀ i m σ H, W i m σ H →
  (J.stop i H ∧ D.nx σ H) ∨ (J.go i H ∧ ∃ N : L2.St → Hp → Prop, (∀ σ' H', N σ' H' → ∃ m', m' < m ∧ W (i + 1) m' σ' H') ∧ ∀ x H', J.yld i H x H' → g x σ H' fun σ2 H2 => tb { D with nx := N, ct := N, bk := D.nx } σ2 H2)
def LcW (J : It) (g : TG) (tt : TT) (te : TE) (vs : List Nat) (σ : L2.St) (H1 : Hp) (Q : VK) : Prop := ∀ D, H1 D = none → ∃ W : Nat → Nat → Hp → Prop, (∃ m, W 0 m (upd H1 D (.lst []))) ∧ ∀ i m H, W i m H →
  (J.stop i H ∧ Q (.ref D) H) ∨ (J.go i H ∧ ∃ Nx : Hp → Prop, (∀ H', Nx H' → ∃ m', m' < m ∧ W (i + 1) m' H') ∧ ∀ x H', J.yld i H x H' → g x (wipe σ vs) H' fun σ2 H2 => wipe σ2 vs = wipe σ vs ∧ tt σ2 H2 fun b H3 =>
    if b = true then te σ2 H3 fun y H4 => ∃ acc, H4 D = some (.lst acc) ∧ acc.length < sizeLine ∧ Nx (upd H4 D (.lst (acc ++ [y]))) else Nx H3)
def WhW (c : TT) (tb : TS) (D : Ends) (σ : L2.St) (H : Hp) : Prop := tWhile c tb D σ H
theorem h_for {wi : TI} (h : wi σ H fun J H1 => ForW J g tb D σ H1) : tFor wi g tb D σ H := h
theorem h_lc {wi : TI} (h : wi σ H fun J H1 => LcW J g tt te vs σ H1 Q) : tLc wi g tt te vs σ H Q := h
theorem h_iList {R : It → Hp → Prop} (h : te σ H fun x H1 => ∃ a, x = .ref a ∧ (∃ xs, SqL K H1 a xs) ∧ R (Itl K a) H1) : iList K te σ H R := h
theorem h_iTup {R : It → Hp → Prop} (h : te σ H fun x H1 => ∃ a, x = .ref a ∧ (∃ xs, SqT K H1 a xs) ∧ R (Itt K a) H1) : iTup K te σ H R := h
theorem h_iRng1 {R : It → Hp → Prop} (h : ta σ H fun vs H1 => ∃ j : Int, vs = [.int j] ∧ -(2 ^ 62) ≤ j ∧ j < 2 ^ 62 ∧ R (Itr 0 j.toNat) H1) : iRng1 ta σ H R := h
theorem h_iRng2 {R : It → Hp → Prop} (h : ta σ H fun vs H1 => ∃ i j : Int, vs = [.int i, .int j] ∧ (-(2 ^ 62) ≤ i ∧ i < 2 ^ 62 ∧ -(2 ^ 62) ≤ j ∧ j < 2 ^ 62) ∧ R (Itr i (j - i).toNat) H1) : iRng2 ta σ H R := h
theorem h_iStr {R : It → Hp → Prop} (h : te σ H fun v H1 => ∃ x, v = .str x ∧ R (Its x) H1) : iStr te σ H R := h
def RKeys (R : It → Hp → Prop) (x : V) (H : Hp) : Prop := ∃ d o, x = .ref d ∧ ((∃ kvs, H d = some (.frz o (.dK kvs)) ∧ R (Itk d o kvs) H) ∨ ∃ kvs, H d = some (.frz o (.dT kvs)) ∧ R (Itkt d o kvs) H)
theorem h_iKeys {R : It → Hp → Prop} (h : te σ H fun x H1 => RKeys R x H1) : iKeys te σ H R := h
theorem h_keysK {R : It → Hp → Prop} {d : Addr} {o : Obj} {kvs : List (Key × V)} (h : H d = some (.frz o (.dK kvs))) (k : R (Itk d o kvs) H) : RKeys R (.ref d) H := ⟨d, o, rfl, .inl ⟨kvs, h, k⟩⟩
theorem h_keysT {R : It → Hp → Prop} {d : Addr} {o : Obj} {kvs : List (List Key × V)} (h : H d = some (.frz o (.dT kvs))) (k : R (Itkt d o kvs) H) : RKeys R (.ref d) H := ⟨d, o, rfl, .inr ⟨kvs, h, k⟩⟩
theorem h_iEnum {R : It → Hp → Prop} (h : ta σ H fun vs H1 => ∃ a xs, vs = [.ref a] ∧ SqL K H1 a xs ∧ R (Ite K a) H1) : iEnum K ta σ H R := h
theorem h_iZip {R : It → Hp → Prop} (h : ta σ H fun vs H1 => ∃ a b xs ys, vs = [.ref a, .ref b] ∧ SqL K H1 a xs ∧ SqL K H1 b ys ∧ R (Itz K a b) H1) : iZip K ta σ H R := h
theorem h_yes {QB : Bool → Hp → Prop} (h : QB true H) : tYes σ H QB := h
/-- over a list, a tuple, a text, a range -/
theorem for_l {a : Addr} {xs : List V} (Pv : Nat → L2.St → Hp → Prop) (h0 : Pv 0 σ H) (hG : ∀ i σ H, Pv i σ H → SqL K H a xs)
    (hs : ∀ i x σ H, xs[i]? = some x → Pv i σ H → g x σ H fun σ2 H2 => tb { D with nx := fun σ H => Kp (Pv (i + 1) σ H), ct := fun σ H => Kp (Pv (i + 1) σ H), bk := D.nx } σ2 H2) (hd : ∀ σ H, Pv xs.length σ H → D.nx σ H) : ForW (Itl K a) g tb D σ H :=
  for_it (walk_list (K := K) (a := a) (xs := xs)) Pv h0 (fun i σ H _ p => hG i σ H p) (fun i x σ H H' hi p y => by
    obtain ⟨rfl, e⟩ := y
    exact hs i x σ _ e p) hd
theorem for_t {a : Addr} {xs : List V} (Pv : Nat → L2.St → Hp → Prop) (h0 : Pv 0 σ H) (hG : ∀ i σ H, Pv i σ H → SqT K H a xs)
    (hs : ∀ i x σ H, xs[i]? = some x → Pv i σ H → g x σ H fun σ2 H2 => tb { D with nx := fun σ H => Kp (Pv (i + 1) σ H), ct := fun σ H => Kp (Pv (i + 1) σ H), bk := D.nx } σ2 H2) (hd : ∀ σ H, Pv xs.length σ H → D.nx σ H) : ForW (Itt K a) g tb D σ H :=
  for_it (walk_tup (K := K) (a := a) (xs := xs)) Pv h0 (fun i σ H _ p => hG i σ H p) (fun i x σ H H' hi p y => by
    obtain ⟨rfl, e⟩ := y
    exact hs i x σ _ e p) hd
theorem for_s {z : List Nat} (Pv : Nat → L2.St → Hp → Prop) (h0 : Pv 0 σ H)
    (hs : ∀ i c σ H, z[i]? = some c → Pv i σ H → g (.str (S [c])) σ H fun σ2 H2 => tb { D with nx := fun σ H => Kp (Pv (i + 1) σ H), ct := fun σ H => Kp (Pv (i + 1) σ H), bk := D.nx } σ2 H2) (hd : ∀ σ H, Pv z.length σ H → D.nx σ H) : ForW (Its (S z)) g tb D σ H :=
  for_it (walk_str (z := S z)) Pv h0 (fun _ _ _ _ _ => True.intro) (fun i x σ H H' hi p y => by
    obtain ⟨rfl, c, e, rfl⟩ := y
    exact hs i c σ _ (by simpa [S] using e) p) (fun σ H p => hd σ H (by simpa [S] using p))
theorem for_r {lo : Int} {n : Nat} (Pv : Nat → L2.St → Hp → Prop) (h0 : Pv 0 σ H)
    (hs : ∀ i σ H, i < n → Pv i σ H → g (.int (lo + (i : Int))) σ H fun σ2 H2 => tb { D with nx := fun σ H => Kp (Pv (i + 1) σ H), ct := fun σ H => Kp (Pv (i + 1) σ H), bk := D.nx } σ2 H2) (hd : ∀ σ H, Pv n σ H → D.nx σ H) : ForW (Itr lo n) g tb D σ H :=
  for_it (walk_range (lo := lo) (n := n)) Pv h0 (fun _ _ _ _ _ => True.intro) (fun i x σ H H' hi p y => by
    obtain ⟨rfl, rfl⟩ := y
    exact hs i σ _ hi p) hd
/-- range(n) -/
theorem for_n {j : Int} (n : Nat) (hn : j = (n : Int)) (Pv : Nat → L2.St → Hp → Prop) (h0 : Pv 0 σ H)
    (hs : ∀ i σ H, i < n → Pv i σ H → g (.int (i : Int)) σ H fun σ2 H2 => tb { D with nx := fun σ H => Kp (Pv (i + 1) σ H), ct := fun σ H => Kp (Pv (i + 1) σ H), bk := D.nx } σ2 H2) (hd : ∀ σ H, Pv n σ H → D.nx σ H) : ForW (Itr 0 j.toNat) g tb D σ H := by
  subst hn
  rw [Int.toNat_natCast]
  exact for_r Pv h0 (fun i σ H hi p => by rw [Int.zero_add]; exact hs i σ H hi p) hd
theorem for_k {d : Addr} {o : Obj} {kvs : List (Key × V)} (Pv : Nat → L2.St → Hp → Prop) (h0 : Pv 0 σ H) (hG : ∀ i σ H, Pv i σ H → H d = some (.frz o (.dK kvs)))
    (hs : ∀ i k v σ H, kvs[i]? = some (k, v) → Pv i σ H → g (kV k) σ H fun σ2 H2 => tb { D with nx := fun σ H => Kp (Pv (i + 1) σ H), ct := fun σ H => Kp (Pv (i + 1) σ H), bk := D.nx } σ2 H2) (hd : ∀ σ H, Pv kvs.length σ H → D.nx σ H) : ForW (Itk d o kvs) g tb D σ H :=
  for_it (walk_keys (d := d) (o := o) (kvs := kvs)) Pv h0 (fun i σ H _ p => hG i σ H p) (fun i x σ H H' hi p y => by
    obtain ⟨rfl, k, v, e, rfl⟩ := y
    exact hs i k v σ _ e p) hd
theorem for_e {a : Addr} {xs : List V} (Pv : Nat → L2.St → Hp → Prop) (h0 : Pv 0 σ H) (hG : ∀ i σ H, Pv i σ H → SqL K H a xs)
    (hs : ∀ i x T σ H, xs[i]? = some x → Pv i σ H → H T = none → g (.ref T) σ (upd H T (.tup [.int (i : Int), x])) fun σ2 H2 => tb { D with nx := fun σ H => Kp (Pv (i + 1) σ H), ct := fun σ H => Kp (Pv (i + 1) σ H), bk := D.nx } σ2 H2) (hd : ∀ σ H, Pv xs.length σ H → D.nx σ H) : ForW (Ite K a) g tb D σ H :=
  for_it (walk_enum (K := K) (a := a) (xs := xs)) Pv h0 (fun i σ H _ p => hG i σ H p) (fun i x σ H H' hi p y => by
    obtain ⟨T, x1, x2, rfl, hT, rfl, e1, e2⟩ := y
    have e1 : V.int (i : Int) = x1 := Option.some.inj e1
    subst e1
    exact hs i x2 T σ _ e2 p hT) hd
/-- comprehensions; D the new list -/
theorem lc_l {a : Addr} {xs : List V} (Pv : Addr → Nat → Hp → Prop) (h0 : ∀ D, H D = none → Pv D 0 (upd H D (.lst []))) (hG : ∀ D i H, Pv D i H → SqL K H a xs)
    (hs : ∀ D i x H, xs[i]? = some x → Pv D i H → g x (wipe σ vs) H fun σ2 H2 => wipe σ2 vs = wipe σ vs ∧ tt σ2 H2 fun b H3 =>
      if b = true then te σ2 H3 fun y H4 => ∃ acc, H4 D = some (.lst acc) ∧ acc.length < sizeLine ∧ Kp (Pv D (i + 1) (upd H4 D (.lst (acc ++ [y])))) else Kp (Pv D (i + 1) H3)) (hd : ∀ D H, Pv D xs.length H → Q (.ref D) H) : LcW (Itl K a) g tt te vs σ H Q := fun D hD =>
  lc_it (walk_list (K := K) (a := a) (xs := xs)) (Pv D) (h0 D hD) (fun i H _ p => hG D i H p) (fun i x H H' hi p y => by
    obtain ⟨rfl, e⟩ := y
    exact hs D i x _ e p) (hd D)
theorem lc_t {a : Addr} {xs : List V} (Pv : Addr → Nat → Hp → Prop) (h0 : ∀ D, H D = none → Pv D 0 (upd H D (.lst []))) (hG : ∀ D i H, Pv D i H → SqT K H a xs)
    (hs : ∀ D i x H, xs[i]? = some x → Pv D i H → g x (wipe σ vs) H fun σ2 H2 => wipe σ2 vs = wipe σ vs ∧ tt σ2 H2 fun b H3 =>
      if b = true then te σ2 H3 fun y H4 => ∃ acc, H4 D = some (.lst acc) ∧ acc.length < sizeLine ∧ Kp (Pv D (i + 1) (upd H4 D (.lst (acc ++ [y])))) else Kp (Pv D (i + 1) H3)) (hd : ∀ D H, Pv D xs.length H → Q (.ref D) H) : LcW (Itt K a) g tt te vs σ H Q := fun D hD =>
  lc_it (walk_tup (K := K) (a := a) (xs := xs)) (Pv D) (h0 D hD) (fun i H _ p => hG D i H p) (fun i x H H' hi p y => by
    obtain ⟨rfl, e⟩ := y
    exact hs D i x _ e p) (hd D)
theorem lc_s {z : List Nat} (Pv : Addr → Nat → Hp → Prop) (h0 : ∀ D, H D = none → Pv D 0 (upd H D (.lst [])))
    (hs : ∀ D i c H, z[i]? = some c → Pv D i H → g (.str (S [c])) (wipe σ vs) H fun σ2 H2 => wipe σ2 vs = wipe σ vs ∧ tt σ2 H2 fun b H3 =>
      if b = true then te σ2 H3 fun y H4 => ∃ acc, H4 D = some (.lst acc) ∧ acc.length < sizeLine ∧ Kp (Pv D (i + 1) (upd H4 D (.lst (acc ++ [y])))) else Kp (Pv D (i + 1) H3)) (hd : ∀ D H, Pv D z.length H → Q (.ref D) H) : LcW (Its (S z)) g tt te vs σ H Q := fun D hD =>
  lc_it (walk_str (z := S z)) (Pv D) (h0 D hD) (fun _ _ _ _ => True.intro) (fun i x H H' hi p y => by
    obtain ⟨rfl, c, e, rfl⟩ := y
    exact hs D i c _ (by simpa [S] using e) p) (fun H p => hd D H (by simpa [S] using p))
theorem lc_r {lo : Int} {n : Nat} (Pv : Addr → Nat → Hp → Prop) (h0 : ∀ D, H D = none → Pv D 0 (upd H D (.lst [])))
    (hs : ∀ D i H, i < n → Pv D i H → g (.int (lo + (i : Int))) (wipe σ vs) H fun σ2 H2 => wipe σ2 vs = wipe σ vs ∧ tt σ2 H2 fun b H3 =>
      if b = true then te σ2 H3 fun y H4 => ∃ acc, H4 D = some (.lst acc) ∧ acc.length < sizeLine ∧ Kp (Pv D (i + 1) (upd H4 D (.lst (acc ++ [y])))) else Kp (Pv D (i + 1) H3)) (hd : ∀ D H, Pv D n H → Q (.ref D) H) : LcW (Itr lo n) g tt te vs σ H Q := fun D hD =>
  lc_it (walk_range (lo := lo) (n := n)) (Pv D) (h0 D hD) (fun _ _ _ _ => True.intro) (fun i x H H' hi p y => by
    obtain ⟨rfl, rfl⟩ := y
    exact hs D i _ hi p) (hd D)
theorem lc_n {j : Int} (n : Nat) (hn : j = (n : Int)) (Pv : Addr → Nat → Hp → Prop) (h0 : ∀ D, H D = none → Pv D 0 (upd H D (.lst [])))
    (hs : ∀ D i H, i < n → Pv D i H → g (.int (i : Int)) (wipe σ vs) H fun σ2 H2 => wipe σ2 vs = wipe σ vs ∧ tt σ2 H2 fun b H3 =>
      if b = true then te σ2 H3 fun y H4 => ∃ acc, H4 D = some (.lst acc) ∧ acc.length < sizeLine ∧ Kp (Pv D (i + 1) (upd H4 D (.lst (acc ++ [y])))) else Kp (Pv D (i + 1) H3)) (hd : ∀ D H, Pv D n H → Q (.ref D) H) : LcW (Itr 0 j.toNat) g tt te vs σ H Q := by
  subst hn
  rw [Int.toNat_natCast]
  exact lc_r Pv h0 (fun D i H hi p => by rw [Int.zero_add]; exact hs D i H hi p) hd
theorem lc_k {d : Addr} {o : Obj} {kvs : List (Key × V)} (Pv : Addr → Nat → Hp → Prop) (h0 : ∀ D, H D = none → Pv D 0 (upd H D (.lst []))) (hG : ∀ D i H, Pv D i H → H d = some (.frz o (.dK kvs)))
    (hs : ∀ D i k v H, kvs[i]? = some (k, v) → Pv D i H → g (kV k) (wipe σ vs) H fun σ2 H2 => wipe σ2 vs = wipe σ vs ∧ tt σ2 H2 fun b H3 =>
      if b = true then te σ2 H3 fun y H4 => ∃ acc, H4 D = some (.lst acc) ∧ acc.length < sizeLine ∧ Kp (Pv D (i + 1) (upd H4 D (.lst (acc ++ [y])))) else Kp (Pv D (i + 1) H3)) (hd : ∀ D H, Pv D kvs.length H → Q (.ref D) H) : LcW (Itk d o kvs) g tt te vs σ H Q := fun D hD =>
  lc_it (walk_keys (d := d) (o := o) (kvs := kvs)) (Pv D) (h0 D hD) (fun i H _ p => hG D i H p) (fun i x H H' hi p y => by
    obtain ⟨rfl, k, v, e, rfl⟩ := y
    exact hs D i k v _ e p) (hd D)
/-- while, by a measure -/
theorem wh {c : TT} (W : Nat → L2.St → Hp → Prop) (m : Nat) (h0 : W m σ H)
    (hs : ∀ m σ H, W m σ H → c σ H fun b H1 => if b = true then ∃ N : L2.St → Hp → Prop, (∀ σ' H', N σ' H' → ∃ m', m' < m ∧ W m' σ' H') ∧ tb { D with nx := N, ct := N, bk := D.nx } σ H1 else D.nx σ H1) : tWhile c tb D σ H := ⟨W, ⟨m, h0⟩, hs⟩
theorem wh_n (W : Nat → L2.St → Hp → Prop) (m : Nat) (h : tb { D with nx := fun σ H => Kp (∃ m', m' < m ∧ W m' σ H), ct := fun σ H => Kp (∃ m', m' < m ∧ W m' σ H), bk := D.nx } σ H) : ∃ N : L2.St → Hp → Prop, (∀ σ' H', N σ' H' → ∃ m', m' < m ∧ W m' σ' H') ∧ tb { D with nx := N, ct := N, bk := D.nx } σ H := ⟨_, fun _ _ h => h, h⟩
/-- items -/
theorem at_int {ns : List Int} {i : Int} (h0 : 0 ≤ i) (h1 : i < ns.length) : atI (ns.map V.int) i = some (.int (ns.getD i.toNat 0)) := by
  obtain ⟨j, rfl⟩ := Int.eq_ofNat_of_zero_le h0
  have h2 : j < ns.length := by omega
  refine atI_nat ?_
  show (ns.map V.int)[j]? = some (.int (ns.getD j 0))
  rw [List.getElem?_map, List.getElem?_eq_getElem h2, List.getD_eq_getElem?_getD, List.getElem?_eq_getElem h2]
  rfl
theorem at_any {α : Type} {xs : List α} {i : Int} (d : α) (h0 : 0 ≤ i) (h1 : i < xs.length) : atI xs i = some (xs.getD i.toNat d) := by
  obtain ⟨j, rfl⟩ := Int.eq_ofNat_of_zero_le h0
  have h2 : j < xs.length := by omega
  refine atI_nat ?_
  show xs[j]? = some (xs.getD j d)
  rw [List.getD_eq_getElem?_getD, List.getElem?_eq_getElem h2]
  rfl
theorem at_txt {z : List Nat} {i : Int} (h0 : 0 ≤ i) (h1 : i < z.length) : atI (S z).cps.toList i = some (z.getD i.toNat 0) := at_any (xs := z) 0 h0 h1
theorem cut_S {z : List Nat} {lo hi : Option Int} : cutS (S z) lo hi = S ((z.drop (HT.sIx z.length 0 lo)).take (HT.sIx z.length z.length hi - HT.sIx z.length 0 lo)) := by
  unfold cutS
  rw [S_len]
  rfl
end

/-! ### named readings of values -/
section
variable {K : PySem.W.Frag} {F : Frm} {B H : Hp} {L : List (Addr × HO)} {Q : VK} {p l : Addr} {i : Nat} {xs ys : List V} {v x y : V} {n : Int}
theorem h_ixL (h : SqL K H p xs) (e : atI xs n = some v) (q : Q v H) : Ap2 (rIxL K) (.ref p) (.int n) H Q := ⟨p, xs, n, v, rfl, rfl, h, e, q⟩
theorem h_ixT (h : SqT K H p xs) (e : atI xs n = some v) (q : Q v H) : Ap2 (rIxT K) (.ref p) (.int n) H Q := ⟨p, xs, n, v, rfl, rfl, h, e, q⟩
theorem h_ixS {z : List Nat} {c : Nat} (h : z.length ≤ 16777216) (e : atI z n = some c) (q : Q (.str (S [c])) H) : Ap2 (rIxS) (.str (S z)) (.int n) H Q := ⟨S z, n, c, rfl, rfl, by rw [S_len]; exact sz h, e, q⟩
theorem h_in (h : SqL K H p xs ∨ SqT K H p xs) (h1 : flatV x = true) (h2 : xs.all flatV = true) (q : Q (.bl (inV x xs)) H) : Ap2 (rIn K false) x (.ref p) H Q := ⟨p, xs, rfl, h, h1, h2, q⟩
theorem h_nin (h : SqL K H p xs ∨ SqT K H p xs) (h1 : flatV x = true) (h2 : xs.all flatV = true) (q : Q (.bl (!inV x xs)) H) : Ap2 (rIn K true) x (.ref p) H Q := ⟨p, xs, rfl, h, h1, h2, q⟩
theorem h_eqD {d e : PyData} (h1 : Dp K H x d) (h2 : Dp K H y e) (s1 : SeqAt.shaped d = true) (s2 : SeqAt.shaped e = true) (q : Q (.bl (PyData.eqv d e)) H) : Ap2 (rEqD K) x y H Q := ⟨d, e, h1, h2, s1, s2, q⟩
theorem h_neD {d e : PyData} (h1 : Dp K H x d) (h2 : Dp K H y e) (s1 : SeqAt.shaped d = true) (s2 : SeqAt.shaped e = true) (q : Q (.bl (!PyData.eqv d e)) H) : Ap2 (rNeD K) x y H Q := ⟨d, e, h1, h2, s1, s2, q⟩
theorem h_slS {z : List Nat} {lo hi : Option Int} (h : z.length ≤ 16777216) (q : Q (.str (S ((z.drop (HT.sIx z.length 0 lo)).take (HT.sIx z.length z.length hi - HT.sIx z.length 0 lo)))) H) : rSlS (.str (S z)) lo hi H Q := ⟨S z, rfl, by rw [S_len]; exact sz h, by rw [cut_S]; exact q⟩
/-- a new object -/
theorem h_newL (S : Hs F B L H) (k : ∀ p H', Hs F B ((p, .lst xs) :: L) H' → Q (.ref p) H') : NewO (.lst xs) H Q := fun p hp => k p _ (S.allocL hp)
theorem h_newD {kvs : List (Key × V)} (S : Hs F B L H) (k : ∀ p H', Hs F B ((p, .dK kvs) :: L) H' → Q (.ref p) H') : NewO (.dK kvs) H Q := fun p hp => k p _ (S.allocL hp)
theorem h_newDT {kvs : List (List Key × V)} (S : Hs F B L H) (k : ∀ p H', Hs F B ((p, .dT kvs) :: L) H' → Q (.ref p) H') : NewO (.dT kvs) H Q := fun p hp => k p _ (S.allocL hp)
theorem h_newT (S : Hs F B L H) (k : ∀ p B' H', Same B B' → B' p = some (.tup xs) → Hs F B' L H' → Q (.ref p) H') : NewO (.tup xs) H Q := fun p hp =>
  k p _ _ (same_alloc (S.freshB hp)) upd_same (S.alloc hp)
theorem h_newB (S : Hs F B L H) (k : ∀ p B' H', Same B B' → B' p = some (.lst xs) → Hs F B' L H' → Q (.ref p) H') : NewO (.lst xs) H Q := fun p hp =>
  k p _ _ (same_alloc (S.freshB hp)) upd_same (S.alloc hp)
theorem h_cat {b : Addr} (h1 : H l = some (.lst xs)) (h2 : H b = some (.lst ys)) (hz : xs.length + ys.length ≤ sizeLine) (k : NewO (.lst (xs ++ ys)) H Q) : Ap2 (rCat) (.ref l) (.ref b) H Q := ⟨l, b, xs, ys, rfl, rfl, h1, h2, hz, k⟩
theorem h_slL {lo hi : Option Int} (h1 : SqL K H l xs) (k : NewO (.lst (cutV xs lo hi)) H Q) : rSlL K (.ref l) lo hi H Q := ⟨l, xs, rfl, h1, k⟩
theorem h_app (S : Hs F B L H) (hi : L[i]? = some (l, .lst xs)) (hz : xs.length < 16777216) (k : ∀ H', Hs F B (L.set i (l, .lst (xs ++ [y]))) H' → Q .non H') : ApM rAppend (.ref l) [y] H Q :=
  ⟨l, xs, y, rfl, rfl, S.at hi, szl hz, k _ (S.set hi)⟩
theorem h_setL {Q : Hp → Prop} {j : Nat} (S : Hs F B L H) (hi : L[i]? = some (l, .lst xs)) (hj : ixN xs.length n = some j) (k : ∀ H', Hs F B (L.set i (l, .lst (xs.set j v))) H' → Q H') : rSetL (.ref l) (.int n) v H Q :=
  ⟨l, xs, n, j, rfl, rfl, S.at hi, hj, k _ (S.set hi)⟩
/-- a new flat object from a call -/
theorem Hs.took {H' : Hp} {o : HO} (S : Hs F B L H) (h : Same H H') (hp : H p = none) (e : H' p = some o) : Hs F B ((p, o) :: L) H' := by
  have S1 := S.call h
  refine ⟨S1.keep, S1.base, S1.ext, S1.new, fun q z => ?_, fun q z => ?_, fun q z => ?_, ?_, fun a z => List.mem_cons_of_mem _ (S1.mus a z)⟩
  · rcases List.mem_cons.mp z with rfl | z
    · exact e
    · exact S1.own q z
  · rcases List.mem_cons.mp z with rfl | z
    · exact S.freshB hp
    · exact S1.off q z
  · rcases List.mem_cons.mp z with rfl | z
    · exact .inr (S.fresh hp)
    · exact S1.out q z
  · show (p :: L.map (·.1)).Nodup
    refine List.nodup_cons.mpr ⟨fun m => ?_, S.nod⟩
    obtain ⟨q, hq, e⟩ := List.mem_map.mp m
    have z := S.own q hq
    rw [e, hp] at z
    cases z
/-- isinstance(x, (c1, c2)): the tuple is forgotten -/
theorem upd_same_of {o : HO} (hp : H p = none) : Same H (upd H p o) := fun a u e => by
  rw [upd_ne (ne_of_none e hp)]
  exact e
end
/-! ### isinstance of plain values against built-in types -/
section
variable {K : PySem.W.Frag} {H : Hp} {Q : VK}
theorem isi_b {x : V} {t n : String} {b : Bool} (ht : TyX K H x (.type t)) (hb : kitB t n = some b) (q : Q (.bl b) H) : ApC (rIsi K) [x, .ty n] H Q := ⟨x, .ty n, _, _, b, rfl, .ty n, ht, kit_ty hb, q⟩
theorem isi_2 {x : V} {t n m : String} {b c : Bool} {tp : Addr} (hT : H tp = some (.tup [.ty n, .ty m])) (ht : TyX K H x (.type t)) (hb : kitB t n = some b) (hc : kitB t m = some c) (q : Q (.bl (b || c)) H) : ApC (rIsiT K) [x, .ref tp] H Q := by
  refine ⟨x, tp, _, _, [.type n, .type m], b || c, rfl, hT, .cons (.ty n) (.cons (.ty m) .nil), ht, ?_, q⟩
  refine kitAny_cons (kit_ty hb) (fun e => ?_) (fun e => by rw [e]; rfl)
  subst e
  refine kitAny_cons (kit_ty hc) (fun e => ?_) (fun e => by rw [e]; rfl)
  subst e
  rfl
end
/-- what is never reached -/
theorem pe_never {X : Cx} {e : Expr} : PE X e (fun _ _ _ => False) := ⟨fun _ _ _ _ _ _ h => h.elim⟩
/-! ### isinstance: what is a kind of what -/
theorem kit_NoneType_bool : kitB "NoneType" "bool" = some false := by decide +kernel
theorem kit_NoneType_int : kitB "NoneType" "int" = some false := by decide +kernel
theorem kit_NoneType_str : kitB "NoneType" "str" = some false := by decide +kernel
theorem kit_NoneType_list : kitB "NoneType" "list" = some false := by decide +kernel
theorem kit_NoneType_tuple : kitB "NoneType" "tuple" = some false := by decide +kernel
theorem kit_bool_bool : kitB "bool" "bool" = some true := by decide +kernel
theorem kit_bool_int : kitB "bool" "int" = some true := by decide +kernel
theorem kit_bool_str : kitB "bool" "str" = some false := by decide +kernel
theorem kit_bool_list : kitB "bool" "list" = some false := by decide +kernel
theorem kit_bool_tuple : kitB "bool" "tuple" = some false := by decide +kernel
theorem kit_int_bool : kitB "int" "bool" = some false := by decide +kernel
theorem kit_int_int : kitB "int" "int" = some true := by decide +kernel
theorem kit_int_str : kitB "int" "str" = some false := by decide +kernel
theorem kit_int_list : kitB "int" "list" = some false := by decide +kernel
theorem kit_int_tuple : kitB "int" "tuple" = some false := by decide +kernel
theorem kit_str_bool : kitB "str" "bool" = some false := by decide +kernel
theorem kit_str_int : kitB "str" "int" = some false := by decide +kernel
theorem kit_str_str : kitB "str" "str" = some true := by decide +kernel
theorem kit_str_list : kitB "str" "list" = some false := by decide +kernel
theorem kit_str_tuple : kitB "str" "tuple" = some false := by decide +kernel
theorem kit_list_bool : kitB "list" "bool" = some false := by decide +kernel
theorem kit_list_int : kitB "list" "int" = some false := by decide +kernel
theorem kit_list_str : kitB "list" "str" = some false := by decide +kernel
theorem kit_list_list : kitB "list" "list" = some true := by decide +kernel
theorem kit_list_tuple : kitB "list" "tuple" = some false := by decide +kernel
theorem kit_tuple_bool : kitB "tuple" "bool" = some false := by decide +kernel
theorem kit_tuple_int : kitB "tuple" "int" = some false := by decide +kernel
theorem kit_tuple_str : kitB "tuple" "str" = some false := by decide +kernel
theorem kit_tuple_list : kitB "tuple" "list" = some false := by decide +kernel
theorem kit_tuple_tuple : kitB "tuple" "tuple" = some true := by decide +kernel
theorem kit_dict_bool : kitB "dict" "bool" = some false := by decide +kernel
theorem kit_dict_int : kitB "dict" "int" = some false := by decide +kernel
theorem kit_dict_str : kitB "dict" "str" = some false := by decide +kernel
theorem kit_dict_list : kitB "dict" "list" = some false := by decide +kernel
theorem kit_dict_tuple : kitB "dict" "tuple" = some false := by decide +kernel
theorem h_isi2 {K : PySem.W.Frag} {F : Frm} {B H : Hp} {L : List (Addr × HO)} {Q : VK} {x : V} {t n m : String} {b c : Bool} {tp : Addr} (S : Hs F B L H) (hT : B tp = some (.tup [.ty n, .ty m])) (ht : TyX K H x (.type t)) (hb : kitB t n = some b) (hc : kitB t m = some c) (q : Q (.bl (b || c)) H) : ApC (rIsiT K) [x, .ref tp] H Q :=
  isi_2 (S.base _ _ hT) ht hb hc q
/-! ### more steps -/
theorem h_int {i : Int} {H : Hp} {Q : VK} (q : Q (.int i) H) : ApC (fun xs H Q => (∃ i, xs = [.int i] ∧ Q (.int i) H) ∨ ∃ k, xs = [.bl k] ∧ Q (.int (if k then 1 else 0)) H) [.int i] H Q := .inl ⟨i, rfl, q⟩
theorem ty_l {K : PySem.W.Frag} {p : Addr} {H : Hp} {xs : List V} (h : SqL K H p xs) : tyV K "list" (.ref p) H := .inl ⟨rfl, xs, h⟩
theorem join_S (y : List Nat) (l : List (List Nat)) : Txt.join (S y) (l.map S) = S (TL.joinL y l) := TL.ext_tl (by
  rw [TL.join_eq, TL.tl_join, List.map_map]
  show TL.joinL y (l.map fun z => z) = TL.joinL y l
  rw [List.map_id'])
theorem joinL_nil : ∀ l : List (List Nat), TL.joinL [] l = l.flatten
  | [] => rfl
  | [p] => by simp [TL.joinL]
  | p :: q :: r => by
    have := joinL_nil (q :: r)
    simp only [TL.joinL, this, List.nil_append, List.flatten_cons]
theorem lens_S (l : List (List Nat)) : ((l.map S).map (·.length)).sum = (l.map List.length).sum := by
  rw [List.map_map]
  exact congrArg List.sum (List.map_congr_left fun z _ => S_len z)
theorem h_join {K : PySem.W.Frag} {H : Hp} {Q : VK} {p : Addr} {y : List Nat} {l : List (List Nat)} (hq : SqL K H p (l.map fun z => V.str (S z))) (hz : (l.map List.length).sum + l.length * y.length ≤ 16777216) (k : Q (.str (S (TL.joinL y l))) H) :
    ApM (fun x xs H Q => ∃ a p, ∃ ys : List Str, x = .str a ∧ xs = [.ref p] ∧ (SqL K H p (ys.map V.str) ∨ SqT K H p (ys.map V.str)) ∧ (ys.map (·.length)).sum + ys.length * a.length ≤ 16777216 ∧ Q (.str (Txt.join a ys)) H) (.str (S y)) [.ref p] H Q :=
  ⟨S y, p, l.map S, rfl, rfl, .inl (by rw [List.map_map]; exact hq), by rw [lens_S, List.length_map, S_len]; exact hz, by rw [join_S]; exact k⟩
theorem h_inC {H : Hp} {Q : VK} {c : Nat} {z : List Nat} (k : Q (.bl (decide (c ∈ z))) H) : Ap2 (fun x y H Q => ∃ (d : Nat) (y' : Str), x = .str ⟨#[d]⟩ ∧ y = .str y' ∧ Q (.bl (decide (d ∈ y'.cps.toList))) H) (.str (S [c])) (.str (S z)) H Q := ⟨c, S z, rfl, rfl, k⟩
theorem h_ninC {H : Hp} {Q : VK} {c : Nat} {z : List Nat} (k : Q (.bl (!decide (c ∈ z))) H) : Ap2 (fun x y H Q => ∃ (d : Nat) (y' : Str), x = .str ⟨#[d]⟩ ∧ y = .str y' ∧ Q (.bl (!decide (d ∈ y'.cps.toList))) H) (.str (S [c])) (.str (S z)) H Q := ⟨c, S z, rfl, rfl, k⟩
theorem pe_strS {X : Cx} (z : List Nat) {x : Str} {j pos} (h : x = S z) : PE X (.Constant (.str x) j pos) (tC (.str (S z))) := by
  subst h
  exact pe_str
theorem pe_gl {X : Cx} {x : Str} {v : V} {pos : Pos} (hg : Gl X x) (h : ∃ u, X.mg x = some u ∧ RelV v u) (hd : (x == "__debug__") = false := by decide +kernel) : PE X (.Name x pos) (tC v) := by
  obtain ⟨u, hu, r⟩ := h
  exact pe_glob hg hu r hd
theorem h_getS {H : Hp} {Q : VK} {a : Addr} {kvs : List (Key × V)} {x : Str} {v : V} (h : H a = some (.dK kvs)) (e : valV kvs (.inr x) = some v) (q : Q v H) : RGet (.ref a) (.str x) H Q :=
  ⟨a, v, rfl, e ▸ DGet.k (k := .inr x) h, q⟩
theorem h_getI {H : Hp} {Q : VK} {a : Addr} {kvs : List (Key × V)} {x : Int} {v : V} (h : H a = some (.dK kvs)) (e : valV kvs (.inl x) = some v) (q : Q v H) : RGet (.ref a) (.int x) H Q :=
  ⟨a, v, rfl, e ▸ DGet.k (k := .inl x) h, q⟩
theorem h_ninS {H : Hp} {Q : VK} {a : Addr} {kvs : List (Key × V)} {x : Str} (h : H a = some (.dK kvs)) (q : Q (.bl (!(valV kvs (.inr x)).isSome)) H) : RNin (.ref a) (.str x) H Q :=
  ⟨a, _, rfl, DGet.k (k := .inr x) h, q⟩
theorem h_ninI {H : Hp} {Q : VK} {a : Addr} {kvs : List (Key × V)} {x : Int} (h : H a = some (.dK kvs)) (q : Q (.bl (!(valV kvs (.inl x)).isSome)) H) : RNin (.ref a) (.int x) H Q :=
  ⟨a, _, rfl, DGet.k (k := .inl x) h, q⟩
theorem h_inS {H : Hp} {Q : VK} {a : Addr} {kvs : List (Key × V)} {x : Str} (h : H a = some (.dK kvs)) (q : Q (.bl (valV kvs (.inr x)).isSome) H) : RIn (.ref a) (.str x) H Q :=
  ⟨a, _, rfl, DGet.k (k := .inr x) h, q⟩
theorem h_inI {H : Hp} {Q : VK} {a : Addr} {kvs : List (Key × V)} {x : Int} (h : H a = some (.dK kvs)) (q : Q (.bl (valV kvs (.inl x)).isSome) H) : RIn (.ref a) (.int x) H Q :=
  ⟨a, _, rfl, DGet.k (k := .inl x) h, q⟩
theorem h_putS {F : Frm} {B H : Hp} {L : List (Addr × HO)} {i : Nat} {Q : Hp → Prop} {a : Addr} {kvs : List (Key × V)} {x : Str} {v : V} (S : Hs F B L H) (hi : L[i]? = some (a, .dK kvs)) (hz : kvs.length < 16777216) (q : ∀ H', Hs F B (L.set i (a, .dK (putK kvs (.inr x) v))) H' → Q H') :
    RPut (.ref a) (.str x) v H Q := ⟨a, _, rfl, DPut.k (k := .inr x) (S.at hi) (szl hz), q _ (S.set hi)⟩
theorem h_putI {F : Frm} {B H : Hp} {L : List (Addr × HO)} {i : Nat} {Q : Hp → Prop} {a : Addr} {kvs : List (Key × V)} {x : Int} {v : V} (S : Hs F B L H) (hi : L[i]? = some (a, .dK kvs)) (hz : kvs.length < 16777216) (q : ∀ H', Hs F B (L.set i (a, .dK (putK kvs (.inl x) v))) H' → Q H') :
    RPut (.ref a) (.int x) v H Q := ⟨a, _, rfl, DPut.k (k := .inl x) (S.at hi) (szl hz), q _ (S.set hi)⟩
theorem h_str {H : Hp} {Q : VK} {z : Str} (h : Q (.str z) H) : ∃ x, V.str z = .str x ∧ Q (.str x) H := ⟨z, rfl, h⟩
theorem h_eqZ {H : Hp} {Q : VK} {a b : List Nat} (h : Q (.bl (decide (a = b))) H) : Ap2 (rEq) (.str (S a)) (.str (S b)) H Q := h_eqS (by rw [dec_S]; exact h)
theorem h_neZ {H : Hp} {Q : VK} {a b : List Nat} (h : Q (.bl (!decide (a = b))) H) : Ap2 (rNe) (.str (S a)) (.str (S b)) H Q := h_neS (by rw [dec_S]; exact h)
theorem h_addS {H : Hp} {Q : VK} {a b : List Nat} (hz : a.length + b.length ≤ 16777216) (h : Q (.str (S (a ++ b))) H) : Ap2 (fun x y H Q => ∃ i j, x = .str i ∧ y = .str j ∧ i.length + j.length ≤ sizeLine ∧ Q (.str (i ++ j)) H) (.str (S a)) (.str (S b)) H Q :=
  ⟨S a, S b, rfl, rfl, by rw [S_len, S_len]; exact sz hz, by rw [S_app]; exact h⟩
theorem h_lenS {H : Hp} {Q : VK} {a : List Nat} (hz : a.length ≤ 16777216) (h : Q (.int a.length) H) : ApC (fun xs H Q => ∃ z, xs = [.str z] ∧ z.length ≤ sizeLine ∧ Q (.int z.length) H) [.str (S a)] H Q :=
  ⟨S a, rfl, by rw [S_len]; exact sz hz, by rw [S_len]; exact h⟩
theorem Hs.get {F : Frm} {B H : Hp} {L : List (Addr × HO)} {a : Addr} {o : HO} (S : Hs F B L H) (h : B a = some o) : H a = some o := S.base _ _ h
theorem h_lenL {K : PySem.W.Frag} {H : Hp} {Q : VK} {p : Addr} {ys : List V} (h : SqL K H p ys) (q : Q (.int ys.length) H) : ApC (fun xs H Q => ∃ p ys, xs = [.ref p] ∧ (SqL K H p ys ∨ SqT K H p ys) ∧ Q (.int ys.length) H) [.ref p] H Q := ⟨p, ys, rfl, .inl h, q⟩
theorem h_lenT {K : PySem.W.Frag} {H : Hp} {Q : VK} {p : Addr} {ys : List V} (h : SqT K H p ys) (q : Q (.int ys.length) H) : ApC (fun xs H Q => ∃ p ys, xs = [.ref p] ∧ (SqL K H p ys ∨ SqT K H p ys) ∧ Q (.int ys.length) H) [.ref p] H Q := ⟨p, ys, rfl, .inr h, q⟩
theorem h_lenD {H : Hp} {Q : VK} {p : Addr} {kvs : List (Key × V)} (h : H p = some (.dK kvs)) (q : Q (.int kvs.length) H) : ApC (fun xs H Q => ∃ a kvs, xs = [V.ref a] ∧ H a = some (.dK kvs) ∧ Q (.int kvs.length) H) [.ref p] H Q := ⟨p, kvs, rfl, h, q⟩
/-! ### own exceptions -/
def RExc (f : Str) (P : V → Prop) (C : Addr) (vs : List V) (H : Hp) (Q : XK) : Prop := ∃ v, vs = [v] ∧ P v ∧ ∀ d, H d = none → Q (.ref C) (some d) (upd H d (.xd [(f, v)]))
def RBy (f : Str) (C a : Addr) (cls : Value) (d : Option Addr) (x : V) (H : Hp) (Q : VK) : Prop := x = .ref a ∧ cls = .ref C ∧ ∃ (dd : Addr) (v : V), d = some dd ∧ H dd = some (.xd [(f, v)]) ∧ Q v H
theorem h_excS {F : Frm} {B H : Hp} {L : List (Addr × HO)} {f : Str} {C : Addr} {x : List Nat} {Q : XK} (S : Hs F B L H) (hz : x.length ≤ 1000)
    (k : ∀ d B' H', Same B B' → B' d = some (.xd [(f, .str (Sr.S x))]) → F.E d = none → Hs F B' L H' → Q (.ref C) (some d) H') : RExc f (fun v => ∃ x : Str, v = .str x ∧ x.length ≤ 1000) C [.str (Sr.S x)] H Q :=
  ⟨_, rfl, ⟨Sr.S x, rfl, by rw [S_len]; exact hz⟩, fun d hd => k d _ _ (same_alloc (S.freshB hd)) upd_same (S.fresh hd) (S.alloc hd)⟩
theorem h_excI {F : Frm} {B H : Hp} {L : List (Addr × HO)} {f : Str} {C : Addr} {x : Int} {Q : XK} (S : Hs F B L H) (hz : x.natAbs.log2 < 1920)
    (k : ∀ d B' H', Same B B' → B' d = some (.xd [(f, .int x)]) → F.E d = none → Hs F B' L H' → Q (.ref C) (some d) H') : RExc f (fun v => ∃ n : Int, v = .int n ∧ n.natAbs.log2 < 1920) C [.int x] H Q :=
  ⟨_, rfl, ⟨x, rfl, hz⟩, fun d hd => k d _ _ (same_alloc (S.freshB hd)) upd_same (S.fresh hd) (S.alloc hd)⟩
theorem h_byv {H : Hp} {f : Str} {C a dd : Addr} {v : V} {Q : VK} (e : H dd = some (.xd [(f, v)])) (q : Q v H) : RBy f C a (.ref C) (some dd) (.ref a) H Q := ⟨rfl, rfl, dd, v, rfl, e, q⟩
theorem h_as {K : PySem.W.Frag} {C : Addr} {i : Nat} {ts : Addr → Value → Option Addr → TS} {Wout : WX} {D : Ends} {σ : L2.St} {dd : Option Addr} {H : Hp} (e : PySem.W.exmOne K (.ref C) (.ref C) = some true)
    (k : ∀ a, H a = none → ts a (.ref C) dd { nx := fun σ' H' => D.nx (σ'.set i none) H', rt := D.rt, bk := fun σ' H' => D.bk (σ'.set i none) H', ct := fun σ' H' => D.ct (σ'.set i none) H' } (σ.set i (some (.ref a))) H) : WE (wAs K (.ref C) i ts Wout D) σ (.ref C) dd H :=
  ⟨true, e, fun _ => k, (fun h => nomatch h)⟩
theorem h_asN {K : PySem.W.Frag} {C : Value} {cls : Value} {i : Nat} {ts : Addr → Value → Option Addr → TS} {Wout : WX} {D : Ends} {σ : L2.St} {dd : Option Addr} {H : Hp} (e : PySem.W.exmOne K cls C = some false)
    (k : Wout cls dd σ H) : WE (wAs K C i ts Wout D) σ cls dd H :=
  ⟨false, e, (fun h => nomatch h), fun _ => k⟩
theorem h_only {K : PySem.W.Frag} {C : Addr} {ts : Addr → Value → Option Addr → TS} {Wout : WX} {D : Ends} {σ : L2.St} {dd : Option Addr} {H : Hp} (e : PySem.W.exmOne K (.ref C) (.ref C) = some true)
    (k : ∀ a, H a = none → ts a (.ref C) dd D σ H) : WE (wOnly K (.ref C) ts Wout D) σ (.ref C) dd H :=
  ⟨true, e, fun _ => k, (fun h => nomatch h)⟩
theorem h_onlyN {K : PySem.W.Frag} {C : Value} {cls : Value} {ts : Addr → Value → Option Addr → TS} {Wout : WX} {D : Ends} {σ : L2.St} {dd : Option Addr} {H : Hp} (e : PySem.W.exmOne K cls C = some false)
    (k : Wout cls dd σ H) : WE (wOnly K C ts Wout D) σ cls dd H :=
  ⟨false, e, (fun h => nomatch h), fun _ => k⟩
theorem at_f {α : Type} (f : α → V) (l : List α) (d : α) {i : Int} (h0 : 0 ≤ i) (h1 : i < l.length) : atI (l.map f) i = some (f (l.getD i.toNat d)) := by
  obtain ⟨j, rfl⟩ := Int.eq_ofNat_of_zero_le h0
  have h2 : j < l.length := by omega
  refine atI_nat ?_
  show (l.map f)[j]? = some (f (l.getD j d))
  rw [List.getElem?_map, List.getElem?_eq_getElem h2, List.getD_eq_getElem?_getD, List.getElem?_eq_getElem h2]
  rfl
theorem getD_mem {α : Type} {l : List α} {d : α} {i : Nat} (h : i < l.length) : l.getD i d ∈ l := by
  rw [List.getD_eq_getElem?_getD, List.getElem?_eq_getElem h]
  exact List.getElem_mem h
theorem at_nat {l : List Nat} {i : Int} (h0 : 0 ≤ i) (h1 : i < l.length) : atI l i = some (l.getD i.toNat 0) := at_any 0 h0 h1
/-- a list of given texts -/
inductive StrL : List V → List (List Nat) → Prop
  | nil : StrL [] []
  | cons {z : List Nat} {xs : List V} {l : List (List Nat)} (h : StrL xs l) : StrL (.str (S z) :: xs) (z :: l)
theorem StrL.eq {xs : List V} {l : List (List Nat)} (h : StrL xs l) : xs = l.map fun z => V.str (S z) := by
  induction h with
  | nil => rfl
  | cons _ ih => rw [ih]; rfl
theorem at_sl {xs : List V} {l : List (List Nat)} {i : Int} (h : StrL xs l) (h0 : 0 ≤ i) (h1 : i < l.length) : atI xs i = some (.str (S (l.getD i.toNat []))) := by
  rw [h.eq]
  exact at_f (fun z => V.str (S z)) l [] h0 h1
theorem h_lockS {F : Frm} {B H : Hp} {L : List (Addr × HO)} {i : Nat} {d : Addr} {kvs : List (Key × V)} {t : TS} {D : Ends} {σ : L2.St} (S : Hs F B L H) (hi : L[i]? = some (d, .dK kvs))
    (k : ∀ od H', Hs F B (L.set i (d, .frz od (.dK kvs))) H' → t ⟨fun σ' H' => H' d = some (.frz od (.dK kvs)) ∧ D.nx σ' (upd H' d (.dK kvs)), fun v H' => H' d = some (.frz od (.dK kvs)) ∧ D.rt v (upd H' d (.dK kvs)), fun σ' H' => H' d = some (.frz od (.dK kvs)) ∧ D.bk σ' (upd H' d (.dK kvs)), fun σ' H' => H' d = some (.frz od (.dK kvs)) ∧ D.ct σ' (upd H' d (.dK kvs))⟩ σ H') : tLock t D σ H :=
  ⟨d, _, S.at hi, by exact True.intro, fun od => k od _ (S.set hi)⟩
theorem h_lockE {F : Frm} {B H : Hp} {L : List (Addr × HO)} {i : Nat} {d : Addr} {kvs : List (Key × V)} {t : TE} {Q : VK} {σ : L2.St} (S : Hs F B L H) (hi : L[i]? = some (d, .dK kvs))
    (k : ∀ od H', Hs F B (L.set i (d, .frz od (.dK kvs))) H' → t σ H' fun v H' => H' d = some (.frz od (.dK kvs)) ∧ Q v (upd H' d (.dK kvs))) : tLockE t σ H Q :=
  ⟨d, _, S.at hi, by exact True.intro, fun od => k od _ (S.set hi)⟩
theorem at_g {α : Type} {f : α → V} {l : List α} {i : Int} (h0 : 0 ≤ i) (h1 : i < l.length) : atI (l.map f) i = some (f (l[i.toNat]'(by omega))) := by
  obtain ⟨j, rfl⟩ := Int.eq_ofNat_of_zero_le h0
  have h2 : j < l.length := by omega
  refine atI_nat ?_
  show (l.map f)[j]? = some (f (l[j]'h2))
  rw [List.getElem?_map, List.getElem?_eq_getElem h2]
  rfl
theorem mod_lt {x : Int} {n : Nat} (h : 0 < n) : (x % (n : Int)).toNat < n := by
  have h1 : 0 ≤ x % (n : Int) := Int.emod_nonneg x (by omega)
  have h2 : x % (n : Int) < n := Int.emod_lt_of_pos x (by omega)
  omega
theorem at_mod {α : Type} {f : α → V} {l : List α} {x : Int} (h : 0 < l.length) : atI (l.map f) (x % ((l.map f).length : Int)) = some (f (l[(x % (l.length : Int)).toNat]'(mod_lt h))) := by
  rw [List.length_map]
  exact at_g (Int.emod_nonneg x (by omega)) (Int.emod_lt_of_pos x (by omega))
/-! ### data that is compared -/
def Lay (n : Nat) (d : PyData) : Prop := d.canLay0 = true ∧ d.depth ≤ n
theorem lay_str {n : Nat} {z : List Nat} (h : ∀ c ∈ z, c < 1114112) : Lay n (.str (S z)) := ⟨by
  show (S z).cps.all (· < 0x110000) = true
  rw [← Array.all_toList]
  exact List.all_eq_true.mpr fun c hc => decide_eq_true (h c hc), Nat.zero_le _⟩
theorem lay_int {n : Nat} {z : Int} : Lay n (.int z) := ⟨rfl, Nat.zero_le _⟩
theorem lay_bl {n : Nat} {z : Bool} : Lay n (.bool z) := ⟨rfl, Nat.zero_le _⟩
theorem lay_non {n : Nat} : Lay n .none := ⟨rfl, Nat.zero_le _⟩
theorem layAll {n : Nat} : ∀ {ds : List PyData}, (∀ d ∈ ds, Lay n d) → PyData.canLayAll0 ds = true ∧ PyData.depthAll ds ≤ n
  | [], _ => ⟨by simp only [PyData.canLayAll0], by simp only [PyData.depthAll]; exact Nat.zero_le _⟩
  | d :: ds, h => by
    have h1 := h d (by simp)
    have h2 := layAll (ds := ds) fun e he => h e (by simp [he])
    exact ⟨by simp only [PyData.canLayAll0, h1.1, h2.1, Bool.and_self], by simp only [PyData.depthAll]; exact Nat.max_le.mpr ⟨h1.2, h2.2⟩⟩
theorem lay_list {n : Nat} {ds : List PyData} (h : ∀ d ∈ ds, Lay n d) : Lay (n + 1) (.list ds) := ⟨by simp only [PyData.canLay0]; exact (layAll h).1, by simp only [PyData.depth]; exact Nat.succ_le_succ (layAll h).2⟩
theorem lay_tup {n : Nat} {ds : List PyData} (h : ∀ d ∈ ds, Lay n d) : Lay (n + 1) (.tuple ds) := ⟨by simp only [PyData.canLay0]; exact (layAll h).1, by simp only [PyData.depth]; exact Nat.succ_le_succ (layAll h).2⟩
theorem Lay.shaped {n : Nat} {d : PyData} (h : Lay n d) (hn : n ≤ 64) : SeqAt.shaped d = true := by
  unfold SeqAt.shaped
  rw [h.1, Bool.true_and]
  exact decide_eq_true (Nat.le_trans h.2 hn)
theorem dpAll_snoc {K : PySem.W.Frag} {H : Hp} {v : V} {d : PyData} (h : Dp K H v d) : ∀ {xs : List V} {ds : List PyData}, DpAll K H xs ds → DpAll K H (xs ++ [v]) (ds ++ [d])
  | _, _, .nil => .cons h .nil
  | _, _, .cons a b => .cons a (dpAll_snoc h b)
theorem dpAll_len {K : PySem.W.Frag} {H : Hp} : ∀ {xs : List V} {ds : List PyData}, DpAll K H xs ds → xs.length = ds.length
  | _, _, .nil => rfl
  | _, _, .cons _ b => congrArg (· + 1) (dpAll_len b)
theorem h_rep1 {H : Hp} {Q : VK} {c : Nat} {m : Int} (h0 : 0 ≤ m) (h1 : m < 16777216) (k : Q (.str (S (List.replicate m.toNat c))) H) :
    Ap2 (fun x y H Q => ∃ (z : List Nat) (n : Nat), x = .str (S z) ∧ y = .int (n : Int) ∧ z.length * n ≤ 16777216 ∧ n < 16777216 ∧ Q (.str (S (rep n z))) H) (.str (S [c])) (.int m) H Q := by
  refine ⟨[c], m.toNat, rfl, by rw [Int.toNat_of_nonneg h0], by simp; omega, by omega, ?_⟩
  rw [show rep m.toNat [c] = List.replicate m.toNat c from by
    unfold rep
    induction m.toNat with
    | zero => rfl
    | succ n ih => rw [List.replicate_succ, List.flatten_cons, ih, List.replicate_succ]; rfl]
  exact k
theorem if_self {α : Type} {a : α} [Decidable (a = a)] {A B : Prop} (h : A) : if decide (a = a) = true then A else B := by rw [if_pos (decide_eq_true rfl)]; exact h
theorem if_nself {α : Type} {a : α} [Decidable (a = a)] {A B : Prop} (h : B) : if (!decide (a = a)) = true then A else B := by rw [if_neg (by simp)]; exact h
theorem h_nameS {i : Nat} {x : Str} {σ : L2.St} {H : Hp} {Q : L2.St → Hp → Prop} (h : Q (σ.set i (some (.str x))) H) : gName i (kV (.inr x)) σ H Q := h
theorem h_nameI {i : Nat} {x : Int} {σ : L2.St} {H : Hp} {Q : L2.St → Hp → Prop} (h : Q (σ.set i (some (.int x))) H) : gName i (kV (.inl x)) σ H Q := h
theorem h_eqDs {K : PySem.W.Frag} {H : Hp} {Q : VK} {x y : V} {d : PyData} {n : Nat} (hn : n ≤ 64) (hl : Lay n d) (h1 : Dp K H x d) (h2 : Dp K H y d) (q : Q (.bl true) H) : Ap2 (rEqD K) x y H Q := h_eqD h1 h2 (hl.shaped hn) (hl.shaped hn) (by rw [SeqAt.eqv_refl d hl.1]; exact q)
theorem h_neDs {K : PySem.W.Frag} {H : Hp} {Q : VK} {x y : V} {d : PyData} {n : Nat} (hn : n ≤ 64) (hl : Lay n d) (h1 : Dp K H x d) (h2 : Dp K H y d) (q : Q (.bl false) H) : Ap2 (rNeD K) x y H Q := h_neD h1 h2 (hl.shaped hn) (hl.shaped hn) (by rw [SeqAt.eqv_refl d hl.1]; exact q)
theorem h_getSf {H : Hp} {Q : VK} {a : Addr} {o : Obj} {kvs : List (Key × V)} {x : Str} {v : V} (h : H a = some (.frz o (.dK kvs))) (e : valV kvs (.inr x) = some v) (q : Q v H) : RGet (.ref a) (.str x) H Q :=
  ⟨a, v, rfl, .inl ⟨kvs, .inr x, .inr ⟨o, h⟩, rfl, e.symm⟩, q⟩
theorem h_inSf {H : Hp} {Q : VK} {a : Addr} {o : Obj} {kvs : List (Key × V)} {x : Str} (h : H a = some (.frz o (.dK kvs))) (q : Q (.bl (valV kvs (.inr x)).isSome) H) : RIn (.ref a) (.str x) H Q :=
  ⟨a, _, rfl, .inl ⟨kvs, .inr x, .inr ⟨o, h⟩, rfl, rfl⟩, q⟩
theorem h_ninSf {H : Hp} {Q : VK} {a : Addr} {o : Obj} {kvs : List (Key × V)} {x : Str} (h : H a = some (.frz o (.dK kvs))) (q : Q (.bl (!(valV kvs (.inr x)).isSome)) H) : RNin (.ref a) (.str x) H Q :=
  ⟨a, _, rfl, .inl ⟨kvs, .inr x, .inr ⟨o, h⟩, rfl, rfl⟩, q⟩
theorem h_getIf {H : Hp} {Q : VK} {a : Addr} {o : Obj} {kvs : List (Key × V)} {x : Int} {v : V} (h : H a = some (.frz o (.dK kvs))) (e : valV kvs (.inl x) = some v) (q : Q v H) : RGet (.ref a) (.int x) H Q :=
  ⟨a, v, rfl, .inl ⟨kvs, .inl x, .inr ⟨o, h⟩, rfl, e.symm⟩, q⟩
theorem h_inIf {H : Hp} {Q : VK} {a : Addr} {o : Obj} {kvs : List (Key × V)} {x : Int} (h : H a = some (.frz o (.dK kvs))) (q : Q (.bl (valV kvs (.inl x)).isSome) H) : RIn (.ref a) (.int x) H Q :=
  ⟨a, _, rfl, .inl ⟨kvs, .inl x, .inr ⟨o, h⟩, rfl, rfl⟩, q⟩
theorem h_ninIf {H : Hp} {Q : VK} {a : Addr} {o : Obj} {kvs : List (Key × V)} {x : Int} (h : H a = some (.frz o (.dK kvs))) (q : Q (.bl (!(valV kvs (.inl x)).isSome)) H) : RNin (.ref a) (.int x) H Q :=
  ⟨a, _, rfl, .inl ⟨kvs, .inl x, .inr ⟨o, h⟩, rfl, rfl⟩, q⟩
end Sr

local macro_rules | `(tactic| wtm_at "h") => `(tactic| (first
  | ((with_reducible refine Sr.h_var (v := ?vv) ?hv ?_); (case hv => exact rfl))
  | with_reducible (first
  | refine Sr.h_c ?_ | refine Sr.h_op ?_   | refine Sr.h_I0 ?_ | refine Sr.h_eqI ?_ | refine Sr.h_neI ?_ | refine Sr.h_eqZ ?_ | refine Sr.h_neZ ?_ | refine Sr.h_eqS ?_ | refine Sr.h_neS ?_ | refine Sr.h_eqB ?_ | refine Sr.h_neB ?_
  | refine Sr.h_I ?_ ?_
  | refine Sr.h_cons ?_ | refine Sr.h_nil ?_ | refine Sr.h_call ?_ | refine Sr.h_callS ?_ | refine Sr.h_cb ?_ | refine Sr.h_seq ?_ | refine Sr.h_asg ?_ | refine Sr.h_nameS ?_ | refine Sr.h_nameI ?_ | refine Sr.h_name ?_ | refine Sr.h_drop ?_ | refine Sr.h_ret ?_ | refine Sr.h_retN ?_
  | refine Sr.h_ifS ?_ | refine Sr.h_test ?_ | refine Sr.h_B ?_ | refine Sr.h_and ?_ | refine Sr.h_or ?_ | refine Sr.h_not ?_ | refine Sr.h_next ?_ | refine Sr.h_brk ?_ | refine Sr.h_cont ?_
  | refine Sr.h_un ?_ | refine Sr.h_if ?_ | refine Sr.h_andV ?_ | refine Sr.h_orV ?_ | refine Sr.h_notV ?_ | refine Sr.h_tup ?_ | refine Sr.h_lst ?_ | refine Sr.h_bm0 ?_ | refine Sr.h_bm ?_ | refine Sr.h_m0 ?_ | refine Sr.h_m1 ?_
  | refine Sr.h_sl ?_ | refine Sr.h_noPart ?_ | refine Sr.h_part ?_ | refine Sr.h_fld ?_ | refine Sr.h_dget ?_ | refine Sr.h_din ?_ | refine Sr.h_dnotin ?_ | refine Sr.h_dput ?_
  | refine Sr.h_for ?_ | refine Sr.h_lc ?_ | refine Sr.h_iList ?_ | refine Sr.h_iTup ?_ | refine Sr.h_iRng1 ?_ | refine Sr.h_iRng2 ?_ | refine Sr.h_iStr ?_ | refine Sr.h_iKeys ?_ | refine Sr.h_iEnum ?_ | refine Sr.h_iZip ?_ | refine Sr.h_yes ?_
  | refine' Sr.h_ixL ?_ ?_ ?_ | refine' Sr.h_ixT ?_ ?_ ?_ | refine' Sr.h_ixS ?_ ?_ ?_ | refine' Sr.h_in ?_ ?_ ?_ ?_ | refine' Sr.h_nin ?_ ?_ ?_ ?_ | refine Sr.h_slS ?_ ?_ | refine Sr.h_dnewK ?_ | refine Sr.h_dnewT ?_ | refine' Sr.h_cat ?_ ?_ ?_ ?_ | refine' Sr.h_slL ?_ ?_ | refine Sr.h_addS ?_ ?_ | refine Sr.h_lenS ?_ ?_ | refine Sr.h_inC ?_ | refine Sr.h_ninC ?_ | refine' Sr.h_join ?_ ?_ ?_ | refine Sr.h_str ?_ | refine Sr.h_int ?_ | refine' Sr.h_lenD ?_ ?_ | refine' Sr.h_byv ?_ ?_ | refine Sr.h_rep1 ?_ ?_ ?_ | refine' Sr.h_keysK ?_ ?_)))
-- new objects, appends
local macro_rules | `(tactic| wtm_at "n") => `(tactic| first
  | ((with_reducible refine' Sr.h_getS ?hd ?_ ?_); (case hd => wtm_at "own"))
  | ((with_reducible refine' Sr.h_inS ?hd ?_); (case hd => wtm_at "own"))
  | ((with_reducible refine' Sr.h_ninS ?hd ?_); (case hd => wtm_at "own"))
  | ((with_reducible refine' Sr.h_getSf ?hd ?_ ?_); (case hd => wtm_at "own"))
  | ((with_reducible refine' Sr.h_inSf ?hd ?_); (case hd => wtm_at "own"))
  | ((with_reducible refine' Sr.h_ninSf ?hd ?_); (case hd => wtm_at "own"))
  | ((with_reducible refine' Sr.h_getI ?hd ?_ ?_); (case hd => wtm_at "own"))
  | ((with_reducible refine' Sr.h_inI ?hd ?_); (case hd => wtm_at "own"))
  | ((with_reducible refine' Sr.h_ninI ?hd ?_); (case hd => wtm_at "own"))
  | ((with_reducible refine' Sr.h_getIf ?hd ?_ ?_); (case hd => wtm_at "own"))
  | ((with_reducible refine' Sr.h_inIf ?hd ?_); (case hd => wtm_at "own"))
  | ((with_reducible refine' Sr.h_ninIf ?hd ?_); (case hd => wtm_at "own"))
  | ((with_reducible refine' Sr.h_lockS (i := 0) ?hS ?hi ?_); (case hS => assumption); (case hi => exact rfl); intro od' H' S')
  | ((with_reducible refine' Sr.h_lockS (i := 1) ?hS ?hi ?_); (case hS => assumption); (case hi => exact rfl); intro od' H' S')
  | ((with_reducible refine' Sr.h_lockS (i := 2) ?hS ?hi ?_); (case hS => assumption); (case hi => exact rfl); intro od' H' S')
  | ((with_reducible refine' Sr.h_lockE (i := 0) ?hS ?hi ?_); (case hS => assumption); (case hi => exact rfl); intro od' H' S')
  | ((with_reducible refine' Sr.h_lockE (i := 1) ?hS ?hi ?_); (case hS => assumption); (case hi => exact rfl); intro od' H' S')
  | ((with_reducible refine' Sr.h_lockE (i := 2) ?hS ?hi ?_); (case hS => assumption); (case hi => exact rfl); intro od' H' S')
  | ((with_reducible refine' Sr.h_excS ?hS ?hz ?_); (case hS => assumption); (case hz => first | decide | wtm_at "om"); intro d' B' H' eB' hd' n' S')
  | ((with_reducible refine' Sr.h_excI ?hS ?hz ?_); (case hS => assumption); (case hz => first | assumption | decide); intro d' B' H' eB' hd' n' S')
  | ((with_reducible refine' Sr.h_lenL ?hq ?_); (case hq => wtm_at "rl"))
  | ((with_reducible refine' Sr.h_lenT ?hq ?_); (case hq => wtm_at "rt"))
  | ((with_reducible refine' Sr.h_putS (i := 0) ?hS ?hi ?hz ?_); (case hS => assumption); (case hi => exact rfl); (case hz => wtm_at "om"); intro H' S')
  | ((with_reducible refine' Sr.h_putS (i := 1) ?hS ?hi ?hz ?_); (case hS => assumption); (case hi => exact rfl); (case hz => wtm_at "om"); intro H' S')
  | ((with_reducible refine' Sr.h_putS (i := 2) ?hS ?hi ?hz ?_); (case hS => assumption); (case hi => exact rfl); (case hz => wtm_at "om"); intro H' S')
  | ((with_reducible refine' Sr.h_putS (i := 3) ?hS ?hi ?hz ?_); (case hS => assumption); (case hi => exact rfl); (case hz => wtm_at "om"); intro H' S')
  | ((with_reducible refine' Sr.h_putS (i := 4) ?hS ?hi ?hz ?_); (case hS => assumption); (case hi => exact rfl); (case hz => wtm_at "om"); intro H' S')
  | ((with_reducible refine' Sr.h_putS (i := 5) ?hS ?hi ?hz ?_); (case hS => assumption); (case hi => exact rfl); (case hz => wtm_at "om"); intro H' S')
  | ((with_reducible refine' Sr.h_putI (i := 0) ?hS ?hi ?hz ?_); (case hS => assumption); (case hi => exact rfl); (case hz => wtm_at "om"); intro H' S')
  | ((with_reducible refine' Sr.h_putI (i := 1) ?hS ?hi ?hz ?_); (case hS => assumption); (case hi => exact rfl); (case hz => wtm_at "om"); intro H' S')
  | ((with_reducible refine' Sr.h_putI (i := 2) ?hS ?hi ?hz ?_); (case hS => assumption); (case hi => exact rfl); (case hz => wtm_at "om"); intro H' S')
  | ((with_reducible refine' Sr.h_putI (i := 3) ?hS ?hi ?hz ?_); (case hS => assumption); (case hi => exact rfl); (case hz => wtm_at "om"); intro H' S')
  | ((with_reducible refine' Sr.h_putI (i := 4) ?hS ?hi ?hz ?_); (case hS => assumption); (case hi => exact rfl); (case hz => wtm_at "om"); intro H' S')
  | ((with_reducible refine' Sr.h_putI (i := 5) ?hS ?hi ?hz ?_); (case hS => assumption); (case hi => exact rfl); (case hz => wtm_at "om"); intro H' S')
  | ((with_reducible refine' Sr.h_newL ?hS ?_); (case hS => assumption); intro p' H' S')
  | ((with_reducible refine' Sr.h_newD ?hS ?_); (case hS => assumption); intro p' H' S')
  | ((with_reducible refine' Sr.h_newDT ?hS ?_); (case hS => assumption); intro p' H' S')
  | ((with_reducible refine' Sr.h_newT ?hS ?_); (case hS => assumption); intro p' B' H' eB' hp' S')
  | ((with_reducible refine' Sr.h_app (i := 0) ?hS ?hi ?hz ?_); (case hS => assumption); (case hi => exact rfl); (case hz => wtm_at "om"); intro H' S')
  | ((with_reducible refine' Sr.h_app (i := 1) ?hS ?hi ?hz ?_); (case hS => assumption); (case hi => exact rfl); (case hz => wtm_at "om"); intro H' S')
  | ((with_reducible refine' Sr.h_app (i := 2) ?hS ?hi ?hz ?_); (case hS => assumption); (case hi => exact rfl); (case hz => wtm_at "om"); intro H' S')
  | ((with_reducible refine' Sr.h_app (i := 3) ?hS ?hi ?hz ?_); (case hS => assumption); (case hi => exact rfl); (case hz => wtm_at "om"); intro H' S')
  | ((with_reducible refine' Sr.h_app (i := 4) ?hS ?hi ?hz ?_); (case hS => assumption); (case hi => exact rfl); (case hz => wtm_at "om"); intro H' S')
  | ((with_reducible refine' Sr.h_app (i := 5) ?hS ?hi ?hz ?_); (case hS => assumption); (case hi => exact rfl); (case hz => wtm_at "om"); intro H' S'))
local macro_rules | `(tactic| wtm_at "om") => `(tactic| first | omega | (simp only [List.length_map, List.length_cons, List.length_nil, List.length_append, List.length_replicate, List.length_take, Sr.S_len]; omega))
-- what stands at an address: by a fact, by what is ours
local macro_rules | `(tactic| wtm_at "own") => `(tactic| first
  | assumption
  | (refine' Sr.Hs.get ?hS ?hb; (case hS => assumption); (case hb => assumption))
  | (refine' Sr.Hs.at (i := 0) ?hS ?he; (case hS => assumption); (case he => exact rfl))
  | (refine' Sr.Hs.at (i := 1) ?hS ?he; (case hS => assumption); (case he => exact rfl))
  | (refine' Sr.Hs.at (i := 2) ?hS ?he; (case hS => assumption); (case he => exact rfl))
  | (refine' Sr.Hs.at (i := 3) ?hS ?he; (case hS => assumption); (case he => exact rfl))
  | (refine' Sr.Hs.at (i := 4) ?hS ?he; (case hS => assumption); (case he => exact rfl))
  | (refine' Sr.Hs.at (i := 5) ?hS ?he; (case hS => assumption); (case he => exact rfl)))
-- a list, a tuple that can be read
local macro_rules | `(tactic| wtm_at "rl") => `(tactic| first
  | assumption
  | (refine' L2.SqL.of ?ho; (case ho => wtm_at "own"))
  | (refine' Sr.Hs.seq ?hS ?hb; (case hS => assumption); (case hb => assumption))
  | (refine' L2.Same.seq ?hS ?hb; (case hS => assumption); (case hb => wtm_at "rl")))
local macro_rules | `(tactic| wtm_at "rt") => `(tactic| first
  | assumption
  | (refine' L2.SqT.of ?ho; (case ho => wtm_at "own"))
  | (refine' Sr.Hs.sqT ?hS ?hb; (case hS => assumption); (case hb => assumption))
  | (refine' Sr.same_sqT ?hS ?hb; (case hS => assumption); (case hb => wtm_at "rt")))
-- what is plain is closed
local macro_rules | `(tactic| wtm_at "lf") => `(tactic| first
  | rfl
  | (refine @id.{0} _ ?_; with_reducible assumption)
  | (refine Sr.sz ?hz; (case hz => first | assumption | decide | wtm_at "om"))
  | (refine Sr.szl ?hz; (case hz => first | assumption | decide | wtm_at "om"))
  | ((with_reducible refine Or.inl ?hq); (case hq => wtm_at "rl"))
  | ((with_reducible refine Or.inr ?hq); (case hq => wtm_at "rt"))
  | ((with_reducible show L2.SqL _ _ _ _); wtm_at "rl")
  | ((with_reducible show L2.SqT _ _ _ _); wtm_at "rt")
  | (refine Sr.at_int ?h1 ?h2; (case h1 => omega); (case h2 => omega))
  | (refine Sr.at_mod ?h1; (case h1 => omega))
  | (refine Sr.at_g ?h1 ?h2; (case h1 => first | omega | exact Int.emod_nonneg _ (by omega)); (case h2 => first | omega | (simp only [List.length_map] at *; first | omega | exact Int.emod_lt_of_pos _ (by omega))))
  | (refine Sr.at_nat ?h1 ?h2; (case h1 => omega); (case h2 => wtm_at "om"))
  | (refine' Sr.at_sl ?h ?h1 ?h2; (case h => repeat' (first | exact Sr.StrL.nil | apply Sr.StrL.cons)); (case h1 => omega); (case h2 => wtm_at "om"))
  | ((with_reducible show (_ : Option L2.HO) = some _); wtm_at "own")
  | ((refine Or.inl ⟨rfl, ?hw, ?hq⟩); (case hq => wtm_at "rl"))
  | ((with_reducible refine' Sr.ty_l ?hq); (case hq => wtm_at "rl"))
  | exact ⟨_, rfl⟩
  | exact L2.Dp.str _ | exact L2.Dp.int _ | exact L2.Dp.bl _ | exact L2.Dp.non
  | ((with_reducible show L2.valV _ _ = some _); assumption)
  | ((with_reducible show L2.CMul _ _); unfold L2.CMul; omega) | ((with_reducible show L2.CDiv _ _); unfold L2.CDiv; omega) | ((with_reducible show L2.CPow _ _); unfold L2.CPow; omega)
  | ((with_reducible show _ < _); wtm_at "om") | ((with_reducible show _ ≤ _); wtm_at "om") | ((with_reducible show _ ∧ _); omega)
  | ((refine ⟨?hw, ?hq⟩); (case hq => wtm_at "rl"))
  | ((refine ⟨?hw, ?hq⟩); (case hq => wtm_at "rt")))
-- one step; all that go by themselves
local macro_rules | `(tactic| wtm_at "s") => `(tactic| first | wtm_at "h" | wtm_at "lf" | wtm_at "n" | wtm_at "isi" | (with_reducible refine Sr.if_self ?_) | (with_reducible refine Sr.if_nself ?_) | ((with_reducible refine Sr.if_f ?hb ?_); (case hb => decide)) | ((with_reducible refine Sr.if_t ?hb ?_); (case hb => decide)) | (with_reducible apply Exists.intro) | (with_reducible apply And.intro))
local macro_rules | `(tactic| wtm_at "g") => `(tactic| repeat' (wtm_at "s"))
local macro_rules | `(tactic| wtm_at "kit") => `(tactic| with_reducible first | exact Sr.kit_NoneType_bool | exact Sr.kit_NoneType_int | exact Sr.kit_NoneType_str | exact Sr.kit_NoneType_list | exact Sr.kit_NoneType_tuple | exact Sr.kit_bool_bool | exact Sr.kit_bool_int | exact Sr.kit_bool_str | exact Sr.kit_bool_list | exact Sr.kit_bool_tuple | exact Sr.kit_int_bool | exact Sr.kit_int_int | exact Sr.kit_int_str | exact Sr.kit_int_list | exact Sr.kit_int_tuple | exact Sr.kit_str_bool | exact Sr.kit_str_int | exact Sr.kit_str_str | exact Sr.kit_str_list | exact Sr.kit_str_tuple | exact Sr.kit_list_bool | exact Sr.kit_list_int | exact Sr.kit_list_str | exact Sr.kit_list_list | exact Sr.kit_list_tuple | exact Sr.kit_tuple_bool | exact Sr.kit_tuple_int | exact Sr.kit_tuple_str | exact Sr.kit_tuple_list | exact Sr.kit_tuple_tuple | exact Sr.kit_dict_bool | exact Sr.kit_dict_int | exact Sr.kit_dict_str | exact Sr.kit_dict_list | exact Sr.kit_dict_tuple)
local macro_rules | `(tactic| wtm_at "ty") => `(tactic| first | exact .base (.str _) | exact .base (.int _) | exact .base (.bl _) | exact .base .non | (refine' L2.TyX.base (L2.TyOf.lst ?ho); (case ho => wtm_at "own")) | (refine' L2.TyX.base (L2.TyOf.tup ?ho); (case ho => wtm_at "own")) | (refine' L2.TyX.base (L2.TyOf.dK ?ho); (case ho => wtm_at "own")))
local macro_rules | `(tactic| wtm_at "isi") => `(tactic| first
  | ((with_reducible refine' Sr.isi_b ?ht ?hb ?_); (case ht => wtm_at "ty"); (case hb => wtm_at "kit"))
  | ((with_reducible refine' Sr.h_isi2 ?hS ?hT ?ht ?hb ?hc ?_); (case hS => assumption); (case hT => assumption); (case ht => wtm_at "ty"); (case hb => wtm_at "kit"); (case hc => wtm_at "kit")))
open PySem PySem.Spec PyProof.Rows L2 Sr

namespace PySem
namespace SrXRefused
open PySem.W PySem.Calls PyProof.Rows PySem.HandSPX
def iA : Arguments := { posonlyargs := [], args := [{ arg := "self", annotation := none, pos := ⟨6, 17, 6, 21⟩ }, { arg := "reason", annotation := none, pos := ⟨6, 23, 6, 29⟩ }], vararg := none, kwonlyargs := [], kw_defaults := [], kwarg := none, defaults := [] }
def iM : Expr := .BinOp (.Constant (.str "refused: ") 0 ⟨7, 25, 7, 36⟩) .Add (.Name "reason" ⟨7, 39, 7, 45⟩) ⟨7, 25, 7, 45⟩
/-- the field's value -/
def VOk (v : Value) : Prop := ∃ (x : Str) (t : Tok), v = .str x t ∧ x.length ≤ 1000
def iB : List Stmt :=
  [.Expr (.Call (.Attribute (.Call (.Name "super" ⟨7, 8, 7, 13⟩) [] [] ⟨7, 8, 7, 15⟩) "__init__" ⟨7, 8, 7, 24⟩) [iM] [] ⟨7, 8, 7, 46⟩) ⟨7, 8, 7, 46⟩, .Assign [.Attribute (.Name "self" ⟨8, 8, 8, 12⟩) "reason" ⟨8, 8, 8, 19⟩] (.Name "reason" ⟨8, 22, 8, 28⟩) ⟨8, 8, 8, 28⟩]
def iS : Scope := { kind := .function, names := [(PySem.Str.ofString "self", .local), (PySem.Str.ofString "reason", .local), (PySem.Str.ofString "__class__", .free), (PySem.Str.ofString "super", .globalImplicit)], isGenerator := false, isCoroutine := false, more := [] }
/-- what the written part says of the class at C and of its __init__, at fI -/
structure ETxt (P : Program) (K : Frag) (mg : Str → Option Value) (C fI : Addr) : Prop where
  gC : mg "Refused" = some (.ref C)
  cls : ∃ nm q N bs bm sn sub ab col dd k0 k1 k2 k3 k5, K.lookup C = some (excClassObj nm q C N bs bm true sn sub ab col dd k0 k1 k2 k3 k5 "ValueError.__new__") ∧ refsVE bm = true
  sa : findIn K (.ref C) "__setattr__" = some (some (.builtin "object.__setattr__"))
  ga : findIn K (.ref C) "__getattribute__" = some (some (.builtin "BaseException.__getattribute__"))
  gg : findIn K (.ref C) "__getattr__" = some none
  noN : findIn K (.ref C) "reason" = some none
  iC : findIn K (.ref C) "__init__" = some (some (.ref fI))
  tC : typeIn K (.ref fI) = some (.type "function")
  kC : keepIn K (.ref C) = true
  exC : subIn K (.ref C) (.type "BaseException") = some true
  veC : subIn K (.ref C) (.type "ValueError") = some true
  tyC : typeIn K (.ref C) = some (.type "type")
  hdC : hasDictIn K C = true
  te : exmOne K (.ref C) (.ref C) = some true
  tp : nsIn K cStatics "thirdparty.any" = some none
  sup : ks_superIn K C C "__init__" = some (some (.builtin "ValueError.__init__"))
  selfC : mroIn K C (.ref C) = some true
  gsup : mg "super" = none

  file : ∃ cc cda : Addr, (∃ (cl : Value) (cld : Option Addr) (csl : Array (Option Value)), K.lookup cc = some ⟨cl, cld, .cell (some (.ref C)), csl⟩) ∧
    (∃ (ccl : Value) (cdd : Option Addr) (vs : Array Value) (ccs : Array (Option Value)) (file : Str) (tf : Tok), K.lookup cda = some ⟨ccl, cdd, .fields vs, ccs⟩ ∧ vs[2]? = some (.str file tf) ∧ ((P.main.file : Str) == file) = true) ∧
    ∃ (oc : Value) (od : Option Addr) (doc pm : Value) (an : Option Addr) (ct : Value) (osl : Array (Option Value)) ,
    K.lookup fI = some ⟨oc, od, .func (ksFn "__init__" "Refused.__init__" iA iB iS .none .none doc pm an (.ref cda) ct cc), osl⟩ ∧ codeIn K (.ref cda) "Refused.__init__" = true
  top : (P.main.scope.names.lookup ("super" : Str)).isSome = false
theorem one_size (v : Value) : [v].length ≤ sizeLine := by
  rw [sizeLine_eq]
  exact (by decide : 1 ≤ 16777216)
/-- what __init__ leaves of a fresh exception at x -/
structure InitEnd (h h' : Heap) (x C dx : Addr) (v : Value) : Prop where
  keep : ∀ b o, b ≠ x → h.get? b = some o → h'.get? b = some o
  obj : ∃ t1 : Addr, h'.get? x = some { cls := .ref C, dict := some dx, data := .fields #[.ref t1, .none, .none, .none, .bool false, .none] }
  dbig : h.objs.size ≤ dx
  dne : dx ≠ x
  ns : h'.Ns1 dx (fun y => if y = "reason" then some v else none)
/-- a made one -/
structure OwnMade (h h' : Heap) (e C d : Addr) (v : Value) : Prop where
  keep : ∀ b o, h.get? b = some o → h'.get? b = some o
  new : h.objs.size ≤ e
  obj : ∃ oe vs, h'.get? e = some oe ∧ oe.cls = .ref C ∧ oe.dict = some d ∧ oe.data = .fields vs ∧ vs[1]? = some .none
  dbig : h.objs.size ≤ d
  dne : d ≠ e
  ns : h'.Ns1 d (fun y => if y = "reason" then some v else none)
/-- the module's and the built-in names stand in the heap -/
structure Glo (mg : Str → Option Value) (h : Heap) : Prop where
  g : h.Ns mainGlobals mg
  b : ∃ mb, h.Ns builtinsNs mb ∧ ∀ x : Str, x ≠ "__name__" → mb x = bootBuiltins x
theorem Glo.keeps {mg : Str → Option Value} {h h' : Heap} (G : Glo mg h) (k : ∀ b o, h.get? b = some o → h'.get? b = some o) : Glo mg h' :=
  ⟨G.g.keeps k, let ⟨mb, h1, h2⟩ := G.b; ⟨mb, h1.keeps k, h2⟩⟩
section
variable {prog : Program} {w : World} {A : Around} {E : Value → Shared → Prop} {R : Result → Shared → Prop} {s : Shared} {K : Frag} {mg : Str → Option Value} {C fI : Addr}
theorem ld_bltK {env : Env} {x : Str} {u : Value} {pos : Pos} {Q : Value → Shared → Prop} (G : Glo mg s.heap) (hk : env.scope.kind = .function) (hg : env.kindOf x = some .globalImplicit) (eg : env.globals = mainGlobals) (eb : env.builtins = builtinsNs)
    (hm : mg x = none) (hv : bootBuiltins x = some u) (h : Q u s) (hn : x ≠ "__name__" := by decide) (hd : (x == ("__debug__" : Str)) = false := by decide) : wpAny (model prog w) A (eval (.Name x pos) env) Q E s := by
  obtain ⟨mb, h1, h2⟩ := G.b
  exact Calls.Name_function_global hk hg (Calls.loadGlobal_builtin (by rw [eg]; exact G.g) hm (by rw [eb]; exact h1) ((h2 x hn).trans hv) h) hd
theorem msg_ok {q : Str} {L a cc : Addr} {cd : Value} {m : Str → Option Value} {Q : Value → Shared → Prop} {v : Value} (hv : VOk v) (hn : s.heap.Ns L m) (hm : m "reason" = some v) (G : Glo mg s.heap) 
    (h : ∀ u tk, Q u { s with toks := tk }) : wpAny (model prog w) A (eval iM (ksEnv q iS L a cd cc)) Q E s := by
  obtain ⟨x, t, rfl, hl⟩ := hv
  refine wpAny_BinOp ?_
  refine Calls.Constant_str ?_
  refine wpAny_Name (wpAny_loadName_local rfl rfl (s := { s with toks := s.toks + 1 }) hn hm ?_) (by decide)
  exact add_str (fun t' tk => h _ tk) (by rw [sizeLine_eq, show (Str.ofString "refused: ").length = 9 from rfl]; omega)
theorem call_mw {h : Heap} {g : Array GenState} {d : Drawn} {t : Nat} {os : OsState} {u e t0 : Addr} {rest : List Value} {Q : Value → Shared → Prop}
    {nm q : Str} {N : Addr} {bs bm : List Value} {hdct : Bool} {sn : List Str} {sub : List Value} {ab : Bool} {col : Option Bool} {dd : Option Addr} {k0 k1 k2 k3 k5 : Option Value}
    (hC : h.get? C = some (excClassObj nm q C N bs bm hdct sn sub ab col dd k0 k1 k2 k3 k5 "ValueError.__new__")) (he : h.get? e = some (excO C t0)) (hu : h.get? u = some (kxs_mw "ValueError.__init__" e)) (hrest : rest.length ≤ sizeLine)
    (hq : ∀ h' t1, (∀ b o, b ≠ e → h.get? b = some o → h'.get? b = some o) → h'.get? e = some (excO C t1) → Q .none ⟨h', g, d, t, os⟩) :
    wpAny (model prog w) A (call (.ref u) rest) Q E ⟨h, g, d, t, os⟩ := by
  refine wpAny_call (codeAny_of_tree ?_)
  show wpAny _ A.in1 (callAny (.ref u) ⟨rest, []⟩) _ _ _
  simp only [callAny]
  refine wpAny_bind (wpAny_load hu ?_)
  simp only [kxs_mw, show (Value.type "method-wrapper" == Value.type "method" || Value.type "method-wrapper" == Value.type "builtin_function_or_method" || Value.type "method-wrapper" == Value.type "method-wrapper") = true by decide, if_true]
  refine KFB.if_so (by decide) ?_
  refine wpAny_bind (check_bound_init F.excBase_ValueError.toExcCallFacts hC he rfl ?_)
  refine wpAny_bind (wpAny_pure (wpAny_pure ?_))
  refine ⟨plainId_quiet F.excBase_ValueError.init.plain _, codeAny_builtin F.excBase_ValueError.initEntry ?_⟩
  exact exc_init_tree (cls := .ref C) (t0 := t0) (dv := none) (c2 := .none) (c3 := .none) (b4 := .bool false) he hrest fun h' k he' _ => hq h' _ k he'
theorem ex_init (T : ETxt prog K mg C fI) {x t0 : Addr} {v : Value} (hv : VOk v) (X : K.In s.heap) (hlim : s.heap.NoLimit) (hx : s.heap.get? x = some (excO C t0)) (hnx : K.lookup x = none) (hroom : A.depth < recursionLimit) (G : Glo mg s.heap)
    (hq : ∀ h' tk dx, InitEnd s.heap h' x C dx v → R (.ok (.ret .none)) { s with heap := h', toks := tk }) :
    codeAny (model prog w) A (.call (.ref fI) ⟨[.ref x, v], []⟩) R s := by
  obtain ⟨cc, cda, ⟨cl, cld, csl, hcc⟩, ⟨ccl, cdd, vs, ccs, file, tf, hcda, hvs, hfile⟩, oc, od, doc, pm, an, ct, osl, ho, hcd⟩ := T.file
  obtain ⟨nm', q, N, bs, bm, sn, sub, ab, col, dd, k0, k1, k2, k3, k5, hC, hbm⟩ := T.cls
  have hcl : clsIn K C = some { name := nm', bases := bs, mro := .ref C :: bm, ns := N, qualname := q, hasDict := true, slotNames := sn, subclasses := sub, abstract := ab, collection := col, hasDel := false } := by unfold clsIn; rw [hC] <;> rfl
  refine ks_codeAny_call_defAt (fd := ksFn "__init__" "Refused.__init__" iA iB iS .none .none doc pm an (.ref cda) ct cc) (body := iB) (binds := [("self", .ref x), ("reason", v)]) hroom (X _ _ ho) rfl hlim (codeRec_of X hcd) rfl
    (BindsTo.of_eq (by first | rfl | with_unfolding_all rfl)) (by show ∀ y ∈ iS.names, y.2 ≠ .cell; decide +kernel) (fun y hy => ?_) (fun h₁ hn k => ?_) rfl rfl rfl
  · rcases List.mem_cons.mp hy with rfl | z
    · rfl
    rcases List.mem_cons.mp z with rfl | z
    · rfl
    · cases z
  have hxL : s.heap.objs.size ≠ x := Nat.ne_of_gt (Heap.lt_size hx)
  have X₁ : K.In h₁ := X.keeps k
  have G₁ : Glo mg h₁ := G.keeps k
  have hx₁ := k _ _ hx
  have hC₁ := X₁ _ _ hC
  have hm1 : (fun y => ([(("self" : Str), Value.ref x), (("reason" : Str), v)] : List (Str × Value)).reverse.lookup y) "reason" = some v := rfl
  have hm2 : (fun y => ([(("self" : Str), Value.ref x), (("reason" : Str), v)] : List (Str × Value)).reverse.lookup y) "self" = some (.ref x) := rfl
  show wpAt _ _ (.func (iB) (ksEnv "Refused.__init__" iS s.heap.objs.size fI (.ref cda) cc)) (execs (iB) (ksEnv "Refused.__init__" iS s.heap.objs.size fI (.ref cda) cc)) _ _ _
  have hfun := X₁ _ _ ho
  have hcdaH := X₁ _ _ hcda
  have hccH := X₁ _ _ hcc
  unfold iB iM at hfun ⊢
  -- super().__init__(message)
  refine ks_wpAt_execs_cons ?_
  refine ks_wpAt_Expr_any ?_
  refine ks_wpAt_MethodCall ?_
  refine ks_wpAt_super_base (f := fI) (cc := cda) rfl rfl rfl rfl hfun rfl rfl rfl hcdaH rfl hvs hfile T.top ?_
  refine ks_loadName_global rfl rfl (loadGlobal_builtin (env := ksEnv "Refused.__init__" iS s.heap.objs.size fI (.ref cda) cc) G₁.g T.gsup (G₁.b.choose_spec.1) ((G₁.b.choose_spec.2 _ (by decide +kernel)).trans (by first | rfl | boot_by_name | kernel_rfl)) ⟨rfl, ?_⟩)
  refine wpAny_loadName_free rfl rfl rfl ⟨_, hccH, rfl⟩ ?_
  refine wpAny_loadName_local rfl rfl hn hm2 ?_
  refine ks_wpAny_isType_cls hC₁ rfl ⟨rfl, ?_⟩
  refine ks_wpAny_call_super hC₁ rfl hx₁ rfl (fun c e => nomatch e) (looks_mroIn X₁ T.selfC) (fun h₂ hso k₂ => ?_)
  have X₂ := X₁.keeps k₂
  have hx₂ := k₂ _ _ hx₁
  have hn₂ := hn.keeps k₂
  have I₂ : W.InstAt h₂ x (excO C t0) C none := ⟨hx₂, rfl, rfl, trivial⟩
  have hI : Looks (model prog w) h₂ (isInstance (.ref x) (.type "ValueError")) true := I₂.type.andThen (looks_subIn X₂ T.veC)
  have hmro : W.Looks (model prog w) h₂ (mroOf (.ref C)) (.ref C :: bm) := (W.looks_clsIn X₂ hcl).andThen .now
  have hal : alongIn K "__init__" (((Value.ref C :: bm).dropWhile (· != .ref C)).drop 1) = some (some (.builtin "ValueError.__init__")) := by
    have z := T.sup
    unfold ks_superIn at z
    rw [hcl] at z
    exact z
  have hxC : x ≠ C := fun z => by
    rw [z, hC₁] at hx₁
    cases hx₁
  refine kxs_getMethod (K := K) kxs_ValueError hso (looks_opaque X₂ T.tp) hmro rfl X₂ hal hI hxC (by decide) ?_
  have k₃ : ∀ b o, h₂.get? b = some o → (h₂.push (kxs_mw "ValueError.__init__" x)).get? b = some o := fun b o e => Heap.get?_push_of_some _ e
  have hu : (h₂.push (kxs_mw "ValueError.__init__" x)).get? h₂.objs.size = some (kxs_mw "ValueError.__init__" x) := Heap.get?_push_at rfl rfl
  refine kxs_callWith (i := "ValueError.__init__") (x := x) (by rfl) ?_
  show wpAny _ _ (evalArgs _ true ((false, eval iM (ksEnv "Refused.__init__" iS s.heap.objs.size fI (.ref cda) cc)) :: []) []) _ _ _
  refine evalArgs_plain (Calls.spliced_cons (msg_ok (mg := mg) hv (hn₂.keeps k₃) hm1 ((G₁.keeps k₂).keeps k₃)  fun u tk => Calls.spliced_nil ⟨hu, ?_⟩))
  refine call_mw (k₃ _ _ (k₂ _ _ hC₁)) (k₃ _ _ hx₂) hu (one_size u) fun h₄ t1 k₄ hx₄ => ?_
  have nL : s.heap.objs.size ≠ x := hxL
  have hn₄ : h₄.Ns s.heap.objs.size (fun y => ([(("self" : Str), Value.ref x), (("reason" : Str), v)] : List (Str × Value)).reverse.lookup y) := by
    obtain ⟨oL, es, ep, hL, r⟩ := hn₂.keeps k₃
    exact ⟨oL, es, ep, k₄ _ _ nL hL, r⟩
  have X₄ : K.In h₄ := fun a o e => k₄ a o (fun z => by rw [z, hnx] at e; cases e) (k₃ _ _ (X₂ a o e))
  -- self.reason = reason
  refine ks_wpAt_execs_cons ?_
  refine ks_wpAt_Assign_Attr ?_
  refine wpAt_of_wpAny (wpAny_Name (wpAny_loadName_local rfl rfl hn₄ hm1 ?_) (by decide))
  refine wpAny_Name (wpAny_loadName_local rfl rfl hn₄ hm2 ?_) (by decide)
  refine set_plain X₄ (ox := excO C t1) (od := none) ⟨hx₄, rfl, rfl, trivial⟩ T.sa ?_
  refine exc_osa X₄ hx₄ hcl (show refsVE (.ref C :: bm) = true from hbm) rfl T.noN (fun h₅ tk₅ dx k₅ dn dne hx₅ hn₅ => ?_)
  refine wpAt_of_wpAny (wpAny_execs_nil ?_)
  have old : ∀ b o, b ≠ x → s.heap.get? b = some o → h₅.get? b = some o := fun b o hb e => k₅ b o hb (k₄ b o hb (k₃ b o (k₂ b o (k b o e))))
  refine hq h₅ tk₅ dx ⟨old, ⟨_, hx₅⟩, ?_, dne, hn₅⟩
  obtain ⟨oL, es, ep, hL, r⟩ := hn₄
  exact Nat.le_of_lt (Nat.lt_of_lt_of_le (Heap.lt_size hL) dn)
theorem ex_made (T : ETxt prog K mg C fI) {v : Value} (hv : VOk v) (X : K.In s.heap) (hlim : s.heap.NoLimit) (hroom : A.depth + 1 < recursionLimit) (G : Glo mg s.heap)
    (hq : ∀ h' tk e d, OwnMade s.heap h' e C d v → R (.ok (.ret (.ref e))) { s with heap := h', toks := tk }) :
    codeAny (model prog w) A (.call (.ref C) ⟨[v], []⟩) R s := by
  obtain ⟨nm, q, N, bs, bm, sn, sub, ab, col, dd, k0, k1, k2, k3, k5, hC, hbm⟩ := T.cls
  obtain ⟨hp, g, dr, tk, os⟩ := s
  have k : ∀ b o, hp.get? b = some o → ((hp.push (kdv_tup [v])).push (excO C hp.objs.size)).get? b = some o := fun b o e => Heap.get?_push_of_some _ (Heap.get?_push_of_some _ e)
  have hget : ((hp.push (kdv_tup [v])).push (excO C hp.objs.size)).get? (hp.objs.size + 1) = some (excO C hp.objs.size) := by heap_get
  have hnx : K.lookup (hp.objs.size + 1) = none := by
    cases e : K.lookup (hp.objs.size + 1) with
    | none => rfl
    | some o =>
      have z : hp.get? (hp.objs.size + 1) = some o := X _ _ e
      exact absurd (Nat.lt_of_succ_lt (Heap.lt_size z)) (Nat.lt_irrefl _)
  refine call_own F.excBase_ValueError (fun X => refsVE_contains X bm hbm) (X _ _ hC) (looks_findIn X T.iC) (fun self => bind_fn X self T.tC) (one_size v) ?_
  refine ex_init (s := ⟨(hp.push (kdv_tup [v])).push (excO C hp.objs.size), g, dr, tk, os⟩) T hv (X.keeps k) (hlim.keeps k) hget hnx ?_ (G.keeps k) fun h' tk' dx ⟨k', ⟨t1, hx⟩, dn, dne, hns⟩ => ?_
  · show A.depth + 1 < recursionLimit
    exact hroom
  · have old : ∀ b o, hp.get? b = some o → h'.get? b = some o := fun b o e => k' b o (Nat.ne_of_lt (Nat.lt_succ_of_lt (Heap.lt_size e))) (k b o e)
    have z : hp.objs.size + 1 + 1 ≤ dx := by
      first
        | (simpa only [Heap.size_push] using dn)
        | exact dn
        | (have q := dn; rw [Heap.size_push, Heap.size_push] at q; exact q)
    exact ⟨rfl, hq h' tk' (hp.objs.size + 1) dx ⟨old, Nat.le_succ _, ⟨_, _, hx, rfl, rfl, rfl, rfl⟩, Nat.le_trans (Nat.le_trans (Nat.le_succ _) (Nat.le_succ _)) z, dne, hns⟩⟩
end
end SrXRefused
end PySem
namespace L2
open PySem PySem.Spec PyProof.Rows
theorem relO_Refused {v : V} {v' : Value} (r : RelV v v') (f : Str) : RelO (List.lookup f [(("reason" : Str), v)]) (if f = "reason" then some v' else none) := by
  by_cases hw : f = "reason"
  · subst hw
    rw [if_pos rfl]
    have q : List.lookup ("reason" : Str) [(("reason" : Str), v)] = some v := by simp [List.lookup]
    rw [q]
    exact r
  · rw [if_neg hw]
    have qw : (f == ("reason" : Str)) = false := by simpa using hw
    have q2 : List.lookup f [(("reason" : Str), v)] = none := by simp [List.lookup, qw]
    rw [q2]
    trivial
section
variable {X : Cx} {C fI : Addr}
/-- Refused(e) -/
def tMkRefused (C : Addr) (ta : TA) : St → Hp → XK → Prop := fun σ H Q => ta σ H fun vs H1 => ∃ v, vs = [v] ∧ (∃ x : Str, v = .str x ∧ x.length ≤ 1000) ∧ ∀ d, H1 d = none → Q (.ref C) (some d) (upd H1 d (.xd [(("reason" : Str), v)]))
theorem pmk_Refused {a : Expr} {ta : TA} {p pos : Pos} {k : Nat} (T : PySem.SrXRefused.ETxt X.prog X.K X.mg C fI) (hr : Room k X.A) (ha : PA X [a] ta) (hg : Gl X "Refused" := by rfl)
    (he : starEach (a :: []) X.env = (false, eval a X.env) :: starEach [] X.env := by rfl) (hpl : (backTo pos (starEach [] X.env)).any (·.1) = false := by rfl) :
    PMk X (.Call (.Name "Refused" p) [a] [] pos) (tMkRefused C ta) := by
  intro pins s σ H Q I h
  refine wpAny_Call_Name_kw (ld_glob I hg T.gC ?_)
  refine PySem.W.callWith_K (h₀ := X.base) I.ok.mod.kin T.kC (thn (ha.run pos pins s σ H _ I h) fun us s1 hh => ?_) he hpl
  obtain ⟨vs, H1, I1, r1, v, ev, vc, q1⟩ := hh
  subst ev
  refine ⟨I1.kIn, ?_⟩
  cases r1 with
  | cons rv rn =>
    rename_i v' us'
    cases rn
    show wpAny _ _ (call (.ref C) [v']) _ _ _
    have hlim := I1.nolimit
    have G : PySem.SrXRefused.Glo X.mg s1.heap := ⟨I1.mod.glob.keeps I1.bk, let ⟨mb, h1, h2⟩ := I1.mod.blt; ⟨mb, h1.keeps I1.bk, h2⟩⟩
    have vk : PySem.SrXRefused.VOk v' := by
      obtain ⟨x, rfl, hl⟩ := vc
      obtain ⟨t, rfl⟩ := rv
      exact ⟨x, t, rfl, hl⟩
    obtain ⟨hp, g, dr, tk, os⟩ := s1
    refine wpAny_call (PySem.SrXRefused.ex_made T vk I1.kIn hlim (by have := hr.dp; omega) G fun h' tk' e d M => ?_)
    show MkP X pins σ Q (.ref e) ⟨h', g, dr, tk', os⟩
    obtain ⟨oe, fv, hoe, hc, hd, hdat, h1⟩ := M.obj
    have hns := M.ns
    obtain ⟨G', g1, g2⟩ := restrict h' fun b => decide (b ≠ e)
    have gk : ∀ b, b ≠ e → G'.get? b = h'.get? b := fun b hb => g1 b (decide_eq_true hb)
    have ge : G'.get? e = none := g2 e (by simp)
    have old : ∀ b o, hp.get? b = some o → G'.get? b = some o := fun b o q => (gk b (Nat.ne_of_lt (Nat.lt_of_lt_of_le (Heap.lt_size q) M.new))).trans (M.keep b o q)
    have ob : ObjOk X.prog X.w (upd H1 d (.xd [(("reason" : Str), v)])) G' d (.xd [(("reason" : Str), v)]) :=
      ⟨_, hns.at (fun o q => (gk d M.dne).trans q), fun f => relO_Refused rv f⟩
    have J : Inv X pins σ (upd H1 d (.xd [(("reason" : Str), v)])) ⟨G', g, dr, tk', os⟩ := I1.laid (t' := tk') old M.dbig ob
    refine ⟨e, oe, fv, ⟨G', g, dr, tk', os⟩, _, .ref C, some d, rfl, J, fun b o q => ?_, ge, hoe, ⟨hc, hd⟩, hdat, h1, ?_, rfl, I1.bare, raises_own T.exC T.tyC, q1 d (I1.hok.fresh M.dbig)⟩
    · by_cases hb : b = e
      · have q' : G'.get? b = some o := q
        rw [hb, ge] at q'; cases q'
      · exact (gk b hb).symm.trans q
    · rw [upd_ne (Ne.symm M.dne)]
      exact I1.hok.fresh M.new
/-- raise Refused(e) -/
def tRaiseRefused (C : Addr) (W : WX) (ta : TA) : TS := fun _ σ H => tMkRefused C ta σ H fun cls d H' => W cls d σ H'
theorem ps_raiseRefused {a : Expr} {ta : TA} {W : WX} {p pos pos2 : Pos} {k : Nat} (hc : X.calm = true) (T : PySem.SrXRefused.ETxt X.prog X.K X.mg C fI) (hr : Room k X.A) (tk : Takes X W) (ha : PA X [a] ta) (hg : Gl X "Refused" := by rfl)
    (he : starEach (a :: []) X.env = (false, eval a X.env) :: starEach [] X.env := by rfl) (hpl : (backTo pos (starEach [] X.env)).any (·.1) = false := by rfl) :
    PS X (.Raise (some (.Call (.Name "Refused" p) [a] [] pos)) none pos2) (tRaiseRefused C W ta) := ps_raise hc tk (pmk_Refused T hr ha hg he hpl)
/-- e.reason, e the exception that the suite holds (at a; its class cls, its dict d) -/
def tByRefused (C : Addr) (a : Addr) (cls : Value) (d : Option Addr) (te : TE) : TE := fun σ H Q => te σ H fun x H1 => x = .ref a ∧ cls = .ref C ∧ ∃ (dd : Addr) (v : V), d = some dd ∧ H1 dd = some (.xd [(("reason" : Str), v)]) ∧ Q v H1
theorem pe_byRefused {a : Addr} {oe : Obj} {cls : Value} {d : Option Addr} {pn : List (Addr × Obj)} {e : Expr} {te : TE} {pos : Pos} (T : PySem.SrXRefused.ETxt X.prog X.K X.mg C fI) (hz : Zc cls d oe) (hf : ∃ vs, oe.data = .fields vs) (he : PE (X.suite a ((a, oe) :: pn)) e te)
    (hb : attributeBase e "reason" X.env (eval e X.env) = eval e X.env := by rfl) :
    PE (X.suite a ((a, oe) :: pn)) (.Attribute e "reason" pos) (tByRefused C a cls d te) := by
  refine ⟨fun pins s σ H Q I h => ?_⟩
  refine attr_of hb (thn (he.run pins s σ H _ I h) fun u s1 hh => ?_)
  obtain ⟨x, H1, I1, rx, ex, ec, dd, v, ed, ea, q⟩ := hh
  subst ex
  obtain rfl : u = Value.ref a := rx
  subst ec
  subst ed
  obtain ⟨ha, _⟩ := I1.pin (a, oe) (List.mem_append_left _ List.mem_cons_self)
  obtain ⟨vs, hd⟩ := hf
  have hx : ObjOk X.prog X.w H1 s1.heap dd (.xd [(("reason" : Str), v)]) := I1.hok dd _ ea
  obtain ⟨mA, hns, hr⟩ := hx
  obtain ⟨od, ho, hl⟩ := lookIn_ns hns
  have l : List.lookup ("reason" : Str) [(("reason" : Str), v)] = some v := by simp [List.lookup]
  obtain ⟨u, hu, ru⟩ := RelO.some_of (v := v) (o := mA "reason") (by rw [← l]; exact hr "reason")
  have J : PySem.W.InstAt s1.heap a oe C (some od) := ⟨ha, hz.1, by unfold PySem.W.notCls; rw [hd] <;> rfl, by rw [hz.2]; exact ho⟩
  exact HandSPX.exc_get I1.kIn J T.ga T.gg T.exC (PySem.W.findObj_own T.hdC T.noN rfl (by rw [hl, hu])) (handed_of ru) ⟨v, H1, I1.tok _, ru, q⟩
end
theorem h_raiseRefused {C : Addr} {W : WX} {ta : TA} {D : Ends} {σ : L2.St} {H : Hp} (h : ta σ H fun vs H1 => Sr.RExc "reason" (fun v => (∃ x : Str, v = .str x ∧ x.length ≤ 1000)) C vs H1 fun cls d H' => W cls d σ H') : tRaiseRefused C W ta D σ H := h
theorem h_byRefused {C a : Addr} {cls : Value} {d : Option Addr} {te : TE} {σ : L2.St} {H : Hp} {Q : VK} (h : te σ H fun x H1 => Sr.RBy "reason" C a cls d x H1 Q) : tByRefused C a cls d te σ H Q := h
end L2

namespace K59
def topS (i : Nat) : Stmt := PySem.Challenge.pw_seriesroads_k59_full_texts.main.body.getD i (.Pass ⟨0, 0, 0, 0⟩)
abbrev s_expand : Stmt := topS 6
theorem sc_expand : FnScope ["names", "text", "out", "sign"] ["names", "text"] (defScope s_expand) := ⟨rfl, rfl, rfl, by decide +kernel, rfl, by decide +kernel, by decide +kernel⟩
abbrev s_full_text : Stmt := topS 7
theorem sc_full_text : FnScope ["names", "text", "out"] ["names", "text"] (defScope s_full_text) := ⟨rfl, rfl, rfl, by decide +kernel, rfl, by decide +kernel, by decide +kernel⟩
abbrev s_law_cell : Stmt := topS 9
theorem sc_law_cell : FnScope ["script", "k"] ["script", "k"] (defScope s_law_cell) := ⟨rfl, rfl, rfl, by decide +kernel, rfl, by decide +kernel, by decide +kernel⟩
abbrev s_law_odd : Stmt := topS 10
theorem sc_law_odd : FnScope ["value", "item"] ["value"] (defScope s_law_odd) := ⟨rfl, rfl, rfl, by decide +kernel, rfl, by decide +kernel, by decide +kernel⟩
abbrev s_law_honest : Stmt := topS 11
theorem sc_law_honest : FnScope ["value"] ["value"] (defScope s_law_honest) := ⟨rfl, rfl, rfl, by decide +kernel, rfl, by decide +kernel, by decide +kernel⟩
abbrev s_law_draws : Stmt := topS 12
theorem sc_law_draws : FnScope ["script", "at", "count", "bound", "cell", "out", "k", "number", "mixed"] ["script", "at", "count", "bound"] (defScope s_law_draws) := ⟨rfl, rfl, rfl, by decide +kernel, rfl, by decide +kernel, by decide +kernel⟩
abbrev s_law_reason : Stmt := topS 13
theorem sc_law_reason : FnScope ["names", "text", "e"] ["names", "text"] (defScope s_law_reason) := ⟨rfl, rfl, rfl, by decide +kernel, rfl, by decide +kernel, by decide +kernel⟩
abbrev s_law : Stmt := topS 14
theorem sc_law : FnScope ["script", "marks", "row", "names", "k", "name", "known", "text", "due", "pick", "mark", "kept", "told"] ["script"] (defScope s_law) := ⟨rfl, rfl, rfl, by decide +kernel, rfl, by decide +kernel, by decide +kernel⟩
structure Ad where
  f__expand : Addr
  fd__expand : FuncData
  f_full_text : Addr
  fd_full_text : FuncData
  f__law_cell : Addr
  fd__law_cell : FuncData
  f__law_odd : Addr
  fd__law_odd : FuncData
  f__law_honest : Addr
  fd__law_honest : FuncData
  f__law_draws : Addr
  fd__law_draws : FuncData
  f__law_reason : Addr
  fd__law_reason : FuncData
  f_law : Addr
  fd_law : FuncData
  C_Refused : Addr
  i_Refused : Addr
structure Txt (P : Program) (K : PySem.W.Frag) (mg : Str → Option Value) (A : Ad) : Prop where
  m__expand : mg "_expand" = some (.ref A.f__expand)
  k__expand : PySem.W.keepIn K (.ref A.f__expand) = true
  F__expand : Fun K "_expand" "_expand" s_expand A.f__expand A.fd__expand
  d__expand : Binds K A.fd__expand ["names", "text"] []
  m_full_text : mg "full_text" = some (.ref A.f_full_text)
  k_full_text : PySem.W.keepIn K (.ref A.f_full_text) = true
  F_full_text : Fun K "full_text" "full_text" s_full_text A.f_full_text A.fd_full_text
  d_full_text : Binds K A.fd_full_text ["names", "text"] []
  m__law_cell : mg "_law_cell" = some (.ref A.f__law_cell)
  k__law_cell : PySem.W.keepIn K (.ref A.f__law_cell) = true
  F__law_cell : Fun K "_law_cell" "_law_cell" s_law_cell A.f__law_cell A.fd__law_cell
  d__law_cell : Binds K A.fd__law_cell ["script", "k"] []
  m__law_odd : mg "_law_odd" = some (.ref A.f__law_odd)
  k__law_odd : PySem.W.keepIn K (.ref A.f__law_odd) = true
  F__law_odd : Fun K "_law_odd" "_law_odd" s_law_odd A.f__law_odd A.fd__law_odd
  d__law_odd : Binds K A.fd__law_odd ["value"] []
  m__law_honest : mg "_law_honest" = some (.ref A.f__law_honest)
  k__law_honest : PySem.W.keepIn K (.ref A.f__law_honest) = true
  F__law_honest : Fun K "_law_honest" "_law_honest" s_law_honest A.f__law_honest A.fd__law_honest
  d__law_honest : Binds K A.fd__law_honest ["value"] []
  m__law_draws : mg "_law_draws" = some (.ref A.f__law_draws)
  k__law_draws : PySem.W.keepIn K (.ref A.f__law_draws) = true
  F__law_draws : Fun K "_law_draws" "_law_draws" s_law_draws A.f__law_draws A.fd__law_draws
  d__law_draws : Binds K A.fd__law_draws ["script", "at", "count", "bound"] []
  m__law_reason : mg "_law_reason" = some (.ref A.f__law_reason)
  k__law_reason : PySem.W.keepIn K (.ref A.f__law_reason) = true
  F__law_reason : Fun K "_law_reason" "_law_reason" s_law_reason A.f__law_reason A.fd__law_reason
  d__law_reason : Binds K A.fd__law_reason ["names", "text"] []
  m_law : mg "law" = some (.ref A.f_law)
  k_law : PySem.W.keepIn K (.ref A.f_law) = true
  F_law : Fun K "law" "law" s_law A.f_law A.fd_law
  d_law : Binds K A.fd_law ["script"] []
  x_Refused : PySem.SrXRefused.ETxt P K mg A.C_Refused A.i_Refused
  c_NAMES : ∃ u, mg "NAMES" = some u ∧ RelV (.str (Sr.S [65, 66, 67, 68, 69, 70, 71, 72, 73, 74, 75, 76, 77, 78, 79, 80, 81, 82, 83, 84, 85, 86, 87, 88, 89, 90])) u
  c_MOST : ∃ u, mg "MOST" = some u ∧ RelV (.int (2000)) u
  b_len : mg "len" = none
  b_int : mg "int" = none
  b_range : mg "range" = none
  b_isinstance : mg "isinstance" = none
  b_tuple : mg "tuple" = none
  b_list : mg "list" = none
  b_str : mg "str" = none
/-- an item of a list of ints, 0 behind it -/
def cellOf (ns : List Int) (k : Nat) : Int := ns.getD k 0
def sp_cell (K : PySem.W.Frag) : Sp := fun vs H Q _ => ∃ (a : Addr) (ns : List Int) (k : Nat), vs = [.ref a, .int (k : Int)] ∧ SqL K H a (ns.map V.int) ∧ Q (.int (cellOf ns k)) H
section
variable {P : Program} {w : World} {K : PySem.W.Frag} {mg : Str → Option Value} {base : Heap} {A : Ad}
theorem ok__law_cell (T : Txt P K mg A) : FnOk P w K mg base CX0 1 A.f__law_cell A.fd__law_cell ["script", "k"] (sp_cell K) := by
  refine FnOk.mono (j := 1) (T.F__law_cell.ok sc_law_cell (fun vs H Q E h => ?_) (fun cdv Ar outer s H vs Q E hr h => ?_)) (by decide)
  · obtain ⟨a, ns, k, rfl, hS, q⟩ := h
    rfl
  obtain ⟨a, ns, k, rfl, hS, q⟩ := h
  refine ⟨_, (pss_cons (ps_if (pt_cmpR op_lt (pv 1) (pe_callB call_len_seq (by rfl) T.b_len (by decide +kernel) (pa_cons (pv 0) pa_nil)) (nomark _)) (pss_one (ps_ret (pe_ix ix_list (pv 0) (pv 1) (fun _ _ => rfl)))) pss_nil)
    (pss_one (ps_ret pe_int))), ?_⟩
  wtm_at "g"
  refine if_d (fun h => ?_) (fun h => ?_)
  · rw [List.length_map] at h
    wtm_at "g"
    exact q
  · rw [List.length_map] at h
    wtm_at "g"
    have e : cellOf ns k = 0 := by
      unfold cellOf
      rw [List.getD_eq_getElem?_getD, List.getElem?_eq_none (by omega)]
      rfl
    rw [e] at q
    exact q
/-! ### a value that is a text -/
def magic : Str := S [97, 32, 119, 111, 114, 100, 32, 116, 104, 97, 116, 32, 110, 111, 116, 104, 105, 110, 103, 32, 101, 108, 115, 101, 32, 105, 115]
def sp_odd : Sp := fun vs H Q _ => ∃ (x : Str), vs = [.str x] ∧ ∀ H', Same H H' → Q (.bl (decide (x = magic))) H'
theorem ok__law_odd (T : Txt P K mg A) : FnOk P w K mg base CX0 2 A.f__law_odd A.fd__law_odd ["value"] (sp_odd) := by
  refine FnOk.mono (j := 2) (T.F__law_odd.ok sc_law_odd (fun vs H Q E h => ?_) (fun cdv Ar outer s H vs Q E hr h => ?_)) (by decide)
  · obtain ⟨x, rfl, q⟩ := h
    rfl
  obtain ⟨x, rfl, q⟩ := h
  refine ⟨_, (pss_cons (ps_if (pt_cmpR op_eq (pv 0) (Sr.pe_strS [97, 32, 119, 111, 114, 100, 32, 116, 104, 97, 116, 32, 110, 111, 116, 104, 105, 110, 103, 32, 101, 108, 115, 101, 32, 105, 115] (by decide +kernel)) (nomark _)) (pss_one (ps_ret pe_bl)) pss_nil)
    (pss_one (ps_ret (pe_and (pe_callB call_isiT (by rfl) T.b_isinstance (by decide +kernel) (pa_cons (pv 0) (pa_cons (pe_tup (pa_cons (pe_bltn (v := .ty "tuple") (by rfl) T.b_tuple (by decide +kernel) rfl) (pa_cons (pe_bltn (v := .ty "list") (by rfl) T.b_list (by decide +kernel) rfl) pa_nil))) pa_nil))) (pe_one (pe_cmpR op_gt (pe_callB call_len_seq (by rfl) T.b_len (by decide +kernel) (pa_cons Sr.pe_never pa_nil)) pe_int (nomark _))))))), ?_⟩
  have S0 := Hs.start (Same.refl H)
  wtm_at "g"
  refine if_d (fun h => ?_) (fun h => ?_)
  · wtm_at "g"
    have e : decide (x = magic) = true := decide_eq_true h
    rw [e] at q
    exact q _ (Same.refl H)
  · wtm_at "g"
    have e : decide (x = magic) = false := decide_eq_false h
    rw [e] at q
    exact q _ (Hs.same (by assumption))
def sp_honest : Sp := fun vs H Q _ => ∃ (x : Str), vs = [.str x] ∧ ∀ H', Same H H' → Q (.str (if x = magic then S [111, 100, 100] else x)) H'
theorem ok__law_honest (T : Txt P K mg A) : FnOk P w K mg base CX0 3 A.f__law_honest A.fd__law_honest ["value"] (sp_honest) := by
  have G__law_odd := ok__law_odd (P := P) (w := w) (base := base) T
  refine FnOk.mono (j := 3) (T.F__law_honest.ok sc_law_honest (fun vs H Q E h => ?_) (fun cdv Ar outer s H vs Q E hr h => ?_)) (by decide)
  · obtain ⟨x, rfl, q⟩ := h
    rfl
  obtain ⟨x, rfl, q⟩ := h
  refine ⟨_, (pss_one (ps_ret (pe_ifExp (pt_val (pe_call G__law_odd (hr.mono (by decide)) rfl T.m__law_odd T.k__law_odd T.d__law_odd .nil pass0 (pa_cons (pv 0) pa_nil))) (Sr.pe_strS [111, 100, 100] (by decide +kernel)) (pv 0)))), ?_⟩
  have S0 := Hs.start (Same.refl H)
  wtm_at "g"
  refine ⟨x, rfl, fun H1 s1 => ?_⟩
  wtm_at "g"
  refine if_d (fun h => ?_) (fun h => ?_)
  · wtm_at "g"
    rw [if_pos h] at q
    exact q _ s1
  · wtm_at "g"
    rw [if_neg h] at q
    exact q _ s1
end
end K59
namespace K59
/-! ### drawn numbers -/
theorem app_bd {m : Int} {vs : List Int} {c : Int} (h : ∀ z ∈ vs, 0 ≤ z ∧ z < m) (h0 : 0 ≤ c) (h1 : c < m) : ∀ z ∈ vs ++ [c], 0 ≤ z ∧ z < m := fun z hz => by
  rcases List.mem_append.mp hz with q | q
  · exact h z q
  · rw [List.mem_singleton.mp q]; exact ⟨h0, h1⟩
def sp_draws (K : PySem.W.Frag) : Sp := fun vs H Q _ => ∃ (a : Addr) (ns : List Int) (k n : Nat) (m : Int), vs = [.ref a, .int (k : Int), .int (n : Int), .int m] ∧ k < 1000 ∧ n < 1000 ∧ 0 < m ∧ m < 10000 ∧ SqL K H a (ns.map V.int) ∧
  ∀ (row : List Int) (p : Addr) (H' : Hp), row.length = n → (∀ z ∈ row, 0 ≤ z ∧ z < m) → Same H H' → H p = none → H' p = some (.lst (row.map V.int)) → Q (.ref p) H'
section
variable {P : Program} {w : World} {K : PySem.W.Frag} {mg : Str → Option Value} {base : Heap} {A : Ad}
theorem ok__law_draws (T : Txt P K mg A) : FnOk P w K mg base CX0 2 A.f__law_draws A.fd__law_draws ["script", "at", "count", "bound"] (sp_draws K) := by
  have G__law_cell := ok__law_cell (P := P) (w := w) (base := base) T
  refine FnOk.mono (j := 2) (T.F__law_draws.ok sc_law_draws (fun vs H Q E h => ?_) (fun cdv Ar outer s H vs Q E hr h => ?_)) (by decide)
  · obtain ⟨a, ns, k, n, m, rfl, hk, hn, hm, hm2, hS, q⟩ := h
    rfl
  obtain ⟨a, ns, k, n, m, rfl, hk, hn, hm, hm2, hS, q⟩ := h
  refine ⟨_, (pss_cons (ps_set (i := 4) sc_law_draws.nd rfl (.inl rfl) (pe_call G__law_cell (hr.mono (by decide)) rfl T.m__law_cell T.k__law_cell T.d__law_cell .nil pass0 (pa_cons (pv 0) (pa_cons (pv 1) pa_nil))))
    (pss_cons (ps_set (i := 5) sc_law_draws.nd rfl (.inl rfl) (pe_lst pa_nil))
    (pss_cons (ps_if (pt_cmpR op_ge (pv 4) (pe_op op_pow pe_int pe_int) (nomark _)) (pss_cons (ps_for PassesOwn.never rfl (pi_range1 rfl T.b_range (pa_cons (pv 2) pa_nil)) (pg_name (i := 6) sc_law_draws.nd rfl (.inl rfl)) (pss_cons (ps_expr (pe_bm PySem.F.plainAttrs_list PySem.F.slot_list_append PySem.F.type_list_append mt_append (pv 5) (pa_cons (pe_op op_mod (pe_callTy call_int1 (by rfl) T.b_int (by decide +kernel) (pa_cons (pv 4) pa_nil)) (pv 3)) pa_nil)))
    (pss_one (ps_set (i := 4) sc_law_draws.nd rfl (.inl rfl) (pe_op op_fdiv (pe_callTy call_int1 (by rfl) T.b_int (by decide +kernel) (pa_cons (pv 4) pa_nil)) (pv 3))))))
    (pss_one (ps_ret (pv 5)))) pss_nil)
    (pss_cons (ps_set (i := 7) sc_law_draws.nd rfl (.inl rfl) (pe_op op_add (pe_op op_add (pe_op op_mod (pe_callTy call_int1 (by rfl) T.b_int (by decide +kernel) (pa_cons (pv 4) pa_nil)) pe_int) (pe_op op_mul pe_int (pv 1))) pe_int))
    (pss_cons (ps_for PassesOwn.never rfl (pi_range1 rfl T.b_range (pa_cons (pv 2) pa_nil)) (pg_name (i := 6) sc_law_draws.nd rfl (.inl rfl)) (pss_cons (ps_set (i := 7) sc_law_draws.nd rfl (.inl rfl) (pe_op op_mod (pe_callTy call_int1 (by rfl) T.b_int (by decide +kernel) (pa_cons (pe_op op_add (pe_op op_add (pe_op op_mul (pv 7) pe_int) (pe_op op_mul pe_int (pv 6))) (pv 1)) pa_nil)) pe_int))
    (pss_cons (ps_set (i := 8) sc_law_draws.nd rfl (.inl rfl) (pe_op op_mod (pe_callTy call_int1 (by rfl) T.b_int (by decide +kernel) (pa_cons (pe_op op_add (pe_op op_add (pe_op op_mul (pv 7) pe_int) (pe_op op_mul pe_int (pv 6))) pe_int) pa_nil)) pe_int))
    (pss_one (ps_expr (pe_bm PySem.F.plainAttrs_list PySem.F.slot_list_append PySem.F.type_list_append mt_append (pv 5) (pa_cons (pe_op op_mod (pe_callTy call_int1 (by rfl) T.b_int (by decide +kernel) (pa_cons (pv 8) pa_nil)) (pv 3)) pa_nil)))))))
    (pss_one (ps_ret (pv 5)))))))), ?_⟩
  have S0 := Hs.start (Same.refl H)
  wtm_at "g"
  refine ⟨a, ns, k, rfl, hS, ?_⟩
  wtm_at "g"
  rename_i p H1 S1
  refine if_d (fun h => ?_) (fun h => ?_) <;> clear h
  · wtm_at "g"
    refine for_n n rfl (fun i σ H' => ∃ (vs : List Int) (c : Int) (kk : Option V), σ = [some (.ref a), some (.int k), some (.int n), some (.int m), some (.int c), some (.ref p), kk, none, none] ∧ vs.length = i ∧ (∀ z ∈ vs, 0 ≤ z ∧ z < m) ∧ Hs ⟨H, [], H⟩ H [(p, .lst (vs.map V.int))] H') ?_ ?_ ?_
    · exact ⟨[], _, _, rfl, rfl, by simp, S1⟩
    · rintro i σ H2 hi ⟨vs, c, kk, rfl, hl, hv, S2⟩
      wtm_at "g"
      rename_i H3 S3
      refine .mk ⟨vs ++ [c % m], _, _, rfl, by simp [hl], app_bd hv (Int.emod_nonneg _ (by omega)) (Int.emod_lt_of_pos _ hm), ?_⟩
      rw [List.map_append]
      exact S3
    · rintro σ H2 ⟨vs, c, kk, rfl, hl, hv, S2⟩
      wtm_at "g"
      exact q vs p H2 hl hv (S2.same) (S1.new0 (i := 0) rfl) (S2.at (i := 0) rfl)
  wtm_at "g"
  refine for_n n rfl (fun i σ H' => ∃ (vs : List Int) (c : Int) (kk k2 : Option V), σ = [some (.ref a), some (.int k), some (.int n), some (.int m), some (.int (cellOf ns k)), some (.ref p), kk, some (.int c), k2] ∧ 0 ≤ c ∧ c < 4294967296 ∧ vs.length = i ∧ (∀ z ∈ vs, 0 ≤ z ∧ z < m) ∧ Hs ⟨H, [], H⟩ H [(p, .lst (vs.map V.int))] H') ?_ ?_ ?_
  · exact ⟨[], _, _, _, rfl, by omega, by omega, rfl, by simp, S1⟩
  · rintro i σ H2 hi ⟨vs, c, kk, k2, rfl, hc, hc2, hl, hv, S2⟩
    wtm_at "g"
    rename_i H3 S3
    refine' .mk ⟨vs ++ [?x], _, _, _, rfl, ?c1, ?c2, by simp [hl], app_bd hv ?x1 ?x2, ?s⟩
    (case s => rw [List.map_append]; exact S3)
    · omega
    · omega
    · exact Int.emod_nonneg _ (by omega)
    · exact Int.emod_lt_of_pos _ hm
  · rintro σ H2 ⟨vs, c, kk, k2, rfl, _, _, hl, hv, S2⟩
    wtm_at "g"
    exact q vs p H2 hl hv (S2.same) (S1.new0 (i := 0) rfl) (S2.at (i := 0) rfl)
end
end K59
namespace K59
/-! ### names put in -/
abbrev Nm := List (Nat × List Nat)
def kvN (nm : Nm) : List (Key × V) := nm.map fun p => (.inr (S [p.1]), .str (S p.2))
def look (nm : Nm) (c : Nat) : Option (List Nat) := (nm.find? fun p => decide (p.1 = c)).map (·.2)
theorem look_v (nm : Nm) (c : Nat) : valV (kvN nm) (.inr (S [c])) = (look nm c).map fun z => V.str (S z) := by
  induction nm with
  | nil => rfl
  | cons p r ih =>
    by_cases h : p.1 = c
    · rw [show kvN (p :: r) = (.inr (S [p.1]), .str (S p.2)) :: kvN r from rfl, valV_pos (by rw [h])]
      simp [look, List.find?_cons, h]
    · rw [show kvN (p :: r) = (.inr (S [p.1]), .str (S p.2)) :: kvN r from rfl, valV_neg (fun e => h (by simpa using S_inj (Sum.inr.inj e))), ih]
      simp [look, List.find?_cons, h]
def caps : List Nat := [65, 66, 67, 68, 69, 70, 71, 72, 73, 74, 75, 76, 77, 78, 79, 80, 81, 82, 83, 84, 85, 86, 87, 88, 89, 90]
def one (nm : Nm) (c : Nat) : Option (List Nat) := if c ∈ caps then (look nm c).map (fun z => [40] ++ z ++ [41]) else some [c]
theorem look_in {nm : Nm} {c : Nat} {z : List Nat} (h : look nm c = some z) : (c, z) ∈ nm := by
  unfold look at h
  obtain ⟨p, h1, rfl⟩ := Option.map_eq_some_iff.mp h
  have := List.find?_some h1
  have h2 := List.mem_of_find?_eq_some h1
  rw [show (c, p.2) = p from by rw [← of_decide_eq_true this]]
  exact h2
theorem flat_le {n : Nat} : ∀ {l : List (List Nat)}, (∀ p ∈ l, p.length ≤ n) → (l.map List.length).sum ≤ l.length * n
  | [], _ => by simp
  | p :: r, h => by
    have h1 := h p (by simp)
    have h2 := flat_le (l := r) fun q hq => h q (by simp [hq])
    simp only [List.map_cons, List.sum_cons, List.length_cons, Nat.add_mul]
    omega
abbrev xName : Str := S [110, 97, 109, 101]
abbrev xLong : Str := S [108, 111, 110, 103]
def Out (E : XK) (C : Addr) (H : Hp) (x : Str) : Prop := ∀ dd H', Same H H' → H dd = none → H' dd = some (.xd [(("reason" : Str), .str x)]) → E (.ref C) (some dd) H'
def sp_expand (C : Addr) : Sp := fun vs H Q E => ∃ (d : Addr) (nm : Nm) (t : List Nat), vs = [.ref d, .str (S t)] ∧ H d = some (.dK (kvN nm)) ∧ t.length ≤ 2300 ∧ (∀ p ∈ nm, p.2.length ≤ 2000) ∧
  (∀ out : List (List Nat), t.map (one nm) = out.map some → ∀ H', Same H H' → Q (.str (S out.flatten)) H') ∧ ((∃ c ∈ t, one nm c = none) → Out E C H xName)
section
variable {P : Program} {w : World} {K : PySem.W.Frag} {mg : Str → Option Value} {base : Heap} {A : Ad}
theorem ok__expand (T : Txt P K mg A) : FnOk P w K mg base (L2.CX P w) 4 A.f__expand A.fd__expand ["names", "text"] (sp_expand A.C_Refused) := by
  refine FnOk.mono (j := 4) (T.F__expand.okX sc_expand (fun vs H Q E h => ?_) (fun cdv Ar outer s H vs Q E hr h => ?_)) (by decide)
  · obtain ⟨d, nm, t, rfl, hd, ht, hn, q, qe⟩ := h
    rfl
  obtain ⟨d, nm, t, rfl, hd, ht, hn, q, qe⟩ := h
  refine ⟨_, (pss_cons (ps_set (i := 2) sc_expand.nd rfl (.inl rfl) (pe_lst pa_nil))
    (pss_cons (ps_for (passes_of rfl) rfl (pi_str (pv 1)) (pg_name (i := 3) sc_expand.nd rfl (.inl rfl)) (pss_one (ps_if (pt_cmpR op_notIn_sign (pv 3) (Sr.pe_gl rfl T.c_NAMES) rfl) (pss_one (ps_expr (pe_bm PySem.F.plainAttrs_list PySem.F.slot_list_append PySem.F.type_list_append mt_append (pv 2) (pa_cons (pv 3) pa_nil)))) (pss_one (ps_if (pt_cmp (pc_din (hu_of hr) (pv 3) (pv 0))) (pss_one (ps_expr (pe_bm PySem.F.plainAttrs_list PySem.F.slot_list_append PySem.F.type_list_append mt_append (pv 2) (pa_cons (pe_op op_add_str (pe_op op_add_str (Sr.pe_strS [40] (by decide +kernel)) (pe_dget (hu_of hr) (pv 0) (pv 3) (fun _ _ => rfl))) (Sr.pe_strS [41] (by decide +kernel))) pa_nil)))) (pss_one (ps_raiseRefused rfl T.x_Refused (hr.mono (by decide) : Room 3 _) (takes_of rfl rfl rfl rfl) (pa_cons (Sr.pe_strS [110, 97, 109, 101] (by decide +kernel)) pa_nil))))))))
    (pss_one (ps_ret (pe_join (Sr.pe_strS [] (by decide +kernel)) (pv 2)))))), ?_⟩
  have S0 := Hs.start (Same.refl H)
  wtm_at "g"
  rename_i p H1 S1
  refine for_s (fun i σ H' => ∃ (out : List (List Nat)) (sg : Option V), σ = [some (.ref d), some (.str (S t)), some (.ref p), sg] ∧ (t.take i).map (one nm) = out.map some ∧ out.length = i ∧ (∀ p ∈ out, p.length ≤ 2002) ∧ Hs ⟨H, [], H⟩ H [(p, .lst (out.map fun z => V.str (S z)))] H') ?_ ?_ ?_
  · exact ⟨[], _, rfl, rfl, rfl, by simp, S1⟩
  · rintro i c σ H2 hc ⟨out, sg, rfl, ho, hl, hb, S2⟩
    wtm_at "g"
    have tk : t.take (i + 1) = t.take i ++ [c] := by rw [List.take_succ, hc]; rfl
    have cm : c ∈ t := List.mem_of_getElem? hc
    have hi : i < t.length := (List.getElem?_eq_some_iff.mp hc).1
    refine if_nd (fun h => ?_) (fun h => ?_)
    · wtm_at "g"
      rename_i H3 S3
      have o1 : one nm c = some [c] := if_neg h
      refine .mk ⟨out ++ [[c]], _, rfl, by rw [tk, List.map_append, ho, List.map_append, List.map_singleton, o1]; rfl, by simp [hl], ?_, by rw [List.map_append]; exact S3⟩
      intro z hz
      rcases List.mem_append.mp hz with z1 | z1
      · exact hb z z1
      · rw [List.mem_singleton.mp z1]; simp
    · have o1 : one nm c = (look nm c).map (fun z => [40] ++ z ++ [41]) := if_pos h
      wtm_at "g"
      rw [look_v]
      cases hk : look nm c with
      | none =>
        refine if_f rfl ?_
        refine h_raiseRefused ?_
        wtm_at "g"
        rename_i dd B3 H3 _ e3 n3 S3
        exact qe ⟨c, cm, by rw [o1, hk]; rfl⟩ dd H3 S3.same n3 (S3.get e3)
      | some z =>
        have hz : z.length ≤ 2000 := hn _ (look_in hk)
        refine if_t rfl ?_
        have lv := look_v nm c
        rw [hk, Option.map_some] at lv
        rw [hk, Option.map_some] at o1
        wtm_at "g"
        rename_i H3 S3
        refine .mk ⟨out ++ [[40] ++ z ++ [41]], _, rfl, by rw [tk, List.map_append, ho, List.map_append, List.map_singleton, o1]; rfl, by simp [hl], ?_, by rw [List.map_append]; exact S3⟩
        intro y hy
        rcases List.mem_append.mp hy with z1 | z1
        · exact hb y z1
        · rw [List.mem_singleton.mp z1]; simp; omega
  · rintro σ H2 ⟨out, sg, rfl, ho, hl, hb, S2⟩
    have := flat_le hb
    wtm_at "g"
    rw [joinL_nil]
    rw [List.take_length] at ho
    exact q out ho _ S2.same
end
end K59
namespace K59
/-! ### the bound, the reason -/
def sp_full (C : Addr) : Sp := fun vs H Q E => ∃ (d : Addr) (nm : Nm) (t : List Nat), vs = [.ref d, .str (S t)] ∧ H d = some (.dK (kvN nm)) ∧ t.length ≤ 2300 ∧ (∀ p ∈ nm, p.2.length ≤ 2000) ∧
  (∀ out : List (List Nat), t.map (one nm) = out.map some → (out.flatten.length ≤ 2000 → ∀ H', Same H H' → Q (.str (S out.flatten)) H') ∧ (2000 < out.flatten.length → Out E C H xLong)) ∧ ((∃ c ∈ t, one nm c = none) → Out E C H xName)
theorem one_le {nm : Nm} (hn : ∀ p ∈ nm, p.2.length ≤ 2000) : ∀ {t : List Nat} {out : List (List Nat)}, t.map (one nm) = out.map some → out.flatten.length ≤ t.length * 2002
  | [], [], _ => by simp
  | [], o :: r, h => by simp at h
  | c :: t, [], h => by simp at h
  | c :: t, o :: r, h => by
    simp only [List.map_cons, List.cons.injEq] at h
    have := one_le hn h.2
    have h1 : o.length ≤ 2002 := by
      have h1 := h.1
      unfold one at h1
      split at h1
      · obtain ⟨z, hz, rfl⟩ := Option.map_eq_some_iff.mp h1
        have := hn _ (look_in hz)
        simp at this ⊢
        omega
      · rw [← Option.some.inj h1]; simp
    simp only [List.flatten_cons, List.length_append, List.length_cons, Nat.add_mul]
    omega
section
variable {P : Program} {w : World} {K : PySem.W.Frag} {mg : Str → Option Value} {base : Heap} {A : Ad}
theorem ok_full_text (T : Txt P K mg A) : FnOk P w K mg base (L2.CX P w) 5 A.f_full_text A.fd_full_text ["names", "text"] (sp_full A.C_Refused) := by
  have G__expand := ok__expand (P := P) (w := w) (base := base) T
  refine FnOk.mono (j := 5) (T.F_full_text.okX sc_full_text (fun vs H Q E h => ?_) (fun cdv Ar outer s H vs Q E hr h => ?_)) (by decide)
  · obtain ⟨d, nm, t, rfl, hd, ht, hn, q, qe⟩ := h
    rfl
  obtain ⟨d, nm, t, rfl, hd, ht, hn, q, qe⟩ := h
  refine ⟨_, (pss_cons (ps_set (i := 2) sc_full_text.nd rfl (.inl rfl) (pe_callS G__expand (hr.mono (by decide)) rfl T.m__expand T.k__expand T.d__expand (fun σ => passAt (takes_of rfl rfl rfl rfl) σ) (pa_cons (pv 0) (pa_cons (pv 1) pa_nil))))
    (pss_cons (ps_if (pt_cmpR op_gt (pe_callB call_len_str (by rfl) T.b_len (by decide +kernel) (pa_cons (pv 2) pa_nil)) (Sr.pe_gl rfl T.c_MOST) (nomark _)) (pss_one (ps_raiseRefused rfl T.x_Refused (hr.mono (by decide) : Room 3 _) (takes_of rfl rfl rfl rfl) (pa_cons (Sr.pe_strS [108, 111, 110, 103] (by decide +kernel)) pa_nil))) pss_nil)
    (pss_one (ps_ret (pv 2))))), ?_⟩
  have S0 := Hs.start (Same.refl H)
  wtm_at "g"
  refine ⟨d, nm, t, rfl, hd, ht, hn, fun out ho H1 s1 => ?_, fun he => qe he⟩
  have S1 := S0.call s1
  have h3 := one_le hn ho
  wtm_at "g"
  refine if_d (fun h => ?_) (fun h => ?_)
  · wtm_at "g"
    refine h_raiseRefused ?_
    wtm_at "g"
    rename_i dd B3 H3 _ e3 n3 S3
    exact (q out ho).2 (by omega) dd H3 S3.same n3 (S3.get e3)
  · wtm_at "g"
    exact (q out ho).1 (by omega) _ s1
def sp_reason : Sp := fun vs H Q _ => ∃ (d : Addr) (nm : Nm) (t : List Nat), vs = [.ref d, .str (S t)] ∧ H d = some (.dK (kvN nm)) ∧ t.length ≤ 2300 ∧ (∀ p ∈ nm, p.2.length ≤ 2000) ∧
  (∀ out : List (List Nat), t.map (one nm) = out.map some → 2000 < out.flatten.length → ∀ H', Same H H' → Q (.str xLong) H') ∧ (∀ out : List (List Nat), t.map (one nm) = out.map some → 2000 < out.flatten.length) ∧ ((∃ c ∈ t, one nm c = none) → ∀ H', Same H H' → Q (.str xName) H')
theorem ok__law_reason (T : Txt P K mg A) : FnOk P w K mg base CX0 6 A.f__law_reason A.fd__law_reason ["names", "text"] (sp_reason) := by
  have G__law_honest := ok__law_honest (P := P) (w := w) (base := base) T
  have G_full_text := ok_full_text (P := P) (w := w) (base := base) T
  refine FnOk.mono (j := 6) (T.F__law_reason.ok sc_law_reason (fun vs H Q E h => ?_) (fun cdv Ar outer s H vs Q E hr h => ?_)) (by decide)
  · obtain ⟨d, nm, t, rfl, hd, ht, hn, q, q2, qe⟩ := h
    rfl
  obtain ⟨d, nm, t, rfl, hd, ht, hn, q, q2, qe⟩ := h
  refine ⟨_, (pss_cons (ps_try_as (i := 2) rfl rfl sc_law_reason.nd rfl rfl ⟨rfl, by decide, .inl T.x_Refused.gC⟩ takes0 (fun W pn xe tk hpo => (pss_one (ps_expr (pe_call G__law_honest (hr.mono (by decide)) rfl T.m__law_honest T.k__law_honest T.d__law_honest .nil pass0 (pa_cons (pe_callS G_full_text (hr.mono (by decide)) rfl T.m_full_text T.k_full_text T.d_full_text (fun σ => passAt tk σ) (pa_cons (pv 0) (pa_cons (pv 1) pa_nil))) pa_nil))))) (fun a oe cls d pn hz hf => (pss_one (ps_ret (pe_byRefused T.x_Refused hz hf (pv 2))))))
    (pss_one (ps_ret (Sr.pe_strS [110, 111, 110, 101] (by decide +kernel))))), ?_⟩
  have S0 := Hs.start (Same.refl H)
  wtm_at "g"
  refine ⟨d, nm, t, rfl, hd, ht, hn, fun out ho => ⟨fun hz => absurd (q2 out ho) (by omega), fun hz dd H1 s1 hdn hd1 => ?_⟩, fun he dd H1 s1 hdn hd1 => ?_⟩
  · have S1 := S0.call s1
    refine h_as T.x_Refused.te fun a ha => ?_
    wtm_at "g"
    refine h_byRefused ?_
    wtm_at "g"
    exact q out ho hz _ s1
  · have S1 := S0.call s1
    refine h_as T.x_Refused.te fun a ha => ?_
    wtm_at "g"
    refine h_byRefused ?_
    wtm_at "g"
    exact qe he _ s1
end
end K59
namespace K59
def putN (nm : Nm) (c : Nat) (z : List Nat) : Nm := if nm.any (fun p => decide (p.1 = c)) = true then nm.map (fun p => if p.1 = c then (p.1, z) else p) else nm ++ [(c, z)]
theorem any_kv (nm : Nm) (c : Nat) : ((kvN nm).any fun kv => decide (kv.1 = (.inr (S [c]) : Key))) = nm.any fun p => decide (p.1 = c) := by
  unfold kvN
  rw [List.any_map]
  congr 1
  funext p
  show decide ((Sum.inr (S [p.1]) : Key) = Sum.inr (S [c])) = decide (p.1 = c)
  simp [S_eq]
theorem put_kv (nm : Nm) (c : Nat) (z : List Nat) : putK (kvN nm) (.inr (S [c])) (.str (S z)) = kvN (putN nm c z) := by
  unfold putK putN
  rw [any_kv]
  split
  · unfold kvN
    rw [List.map_map, List.map_map]
    refine List.map_congr_left fun p _ => ?_
    show (if (Sum.inr (S [p.1]) : Key) = Sum.inr (S [c]) then _ else _) = _
    by_cases h : p.1 = c
    · simp [h]
    · simp [h, S_eq]
  · simp [kvN]
structure NmOk (n : Nat) (nm : Nm) : Prop where
  len : nm.length ≤ n
  ok : ∀ p ∈ nm, p.1 ∈ caps ∧ p.1 ≠ 90 ∧ p.2.length ≤ 5
  ch : ∀ p ∈ nm, ∀ c ∈ p.2, c < 1114112
theorem NmOk.put {n : Nat} {nm : Nm} (h : NmOk n nm) {c : Nat} {z : List Nat} (h1 : c ∈ caps) (h2 : c ≠ 90) (h3 : z.length ≤ 5) (h4 : ∀ c ∈ z, c < 1114112) : NmOk (n + 1) (putN nm c z) := by
  unfold putN
  split
  · refine ⟨by rw [List.length_map]; exact Nat.le_succ_of_le h.len, fun p hp => ?_, fun p hp => ?_⟩
    · obtain ⟨q, hq, rfl⟩ := List.mem_map.mp hp
      split
      · exact ⟨(h.ok q hq).1, (h.ok q hq).2.1, h3⟩
      · exact h.ok q hq
    · obtain ⟨q, hq, rfl⟩ := List.mem_map.mp hp
      split
      · exact h4
      · exact h.ch q hq
  · refine ⟨by rw [List.length_append]; exact Nat.succ_le_succ h.len, fun p hp => ?_, fun p hp => ?_⟩
    · rcases List.mem_append.mp hp with q | q
      · exact h.ok p q
      · rw [List.mem_singleton.mp q]; exact ⟨h1, h2, h3⟩
    · rcases List.mem_append.mp hp with q | q
      · exact h.ch p q
      · rw [List.mem_singleton.mp q]; exact h4
theorem NmOk.look {n : Nat} {nm : Nm} (h : NmOk n nm) {p : Nat × List Nat} (hp : p ∈ nm) : ∃ z, look nm p.1 = some z ∧ z.length ≤ 5 ∧ one nm p.1 = some ([40] ++ z ++ [41]) := by
  have h1 : (nm.find? fun q => decide (q.1 = p.1)).isSome := List.find?_isSome.mpr ⟨p, hp, decide_eq_true rfl⟩
  obtain ⟨q, hq⟩ := Option.isSome_iff_exists.mp h1
  have e : K59.look nm p.1 = some q.2 := by unfold K59.look; rw [hq]; rfl
  exact ⟨q.2, e, (h.ok q (List.mem_of_find?_eq_some hq)).2.2, by unfold one; rw [if_pos (h.ok p hp).1, e]; rfl⟩
def lk (nm : Nm) (c : Nat) : List Nat := (K59.look nm c).getD []
theorem NmOk.lk {n : Nat} {nm : Nm} (h : NmOk n nm) {p : Nat × List Nat} (hp : p ∈ nm) : (lk nm p.1).length ≤ 5 ∧ one nm p.1 = some ([40] ++ lk nm p.1 ++ [41]) := by
  obtain ⟨z, h1, h2, h3⟩ := h.look hp
  have e : K59.lk nm p.1 = z := by unfold K59.lk; rw [h1]; rfl
  rw [e]
  exact ⟨h2, h3⟩
theorem NmOk.z {n : Nat} {nm : Nm} (h : NmOk n nm) : one nm 90 = none := by
  have h1 : nm.find? (fun q => decide (q.1 = 90)) = none := List.find?_eq_none.mpr fun q hq => by simp [(h.ok q hq).2.1]
  unfold one
  rw [if_pos (by decide)]
  unfold K59.look
  rw [h1]
  rfl
theorem one_plain (nm : Nm) {m : List Nat} (h : ∀ c ∈ m, c ∉ caps) : m.map (one nm) = (m.map fun c => [c]).map some := by
  rw [List.map_map]
  exact List.map_congr_left fun c hc => if_neg (h c hc)
/-- a text and what it becomes -/
def TxOk (nm : Nm) (k : Nat) (t d : List Nat) : Prop := t.length ≤ 4 * k ∧ d.length ≤ 20 * k ∧ (d = [] ∨ ∃ r, d = 40 :: r ∨ d = 98 :: r) ∧ ∃ out : List (List Nat), t.map (one nm) = out.map some ∧ out.flatten = d
theorem flat_one (m : List Nat) : (m.map fun c => [c]).flatten = m := by
  induction m with
  | nil => rfl
  | cons c r ih => simp [ih]
theorem TxOk.add {nm : Nm} {k : Nat} {t d : List Nat} (h : TxOk nm k t d) {c : Nat} {y m : List Nat} (h1 : one nm c = some y) (h2 : y.length ≤ 17) (h3 : ∃ r, y = 40 :: r ∨ y = 98 :: r) (h4 : m.length ≤ 3) (h5 : ∀ c ∈ m, c ∉ caps) : TxOk nm (k + 1) (t ++ [c] ++ m) (d ++ y ++ m) := by
  obtain ⟨a1, a2, a3, out, a4, a5⟩ := h
  refine ⟨by simp; omega, by simp; omega, ?_, out ++ [y] ++ m.map fun c => [c], ?_, ?_⟩
  · right
    rcases a3 with rfl | ⟨r, rfl | rfl⟩
    · obtain ⟨r, rfl | rfl⟩ := h3
      · exact ⟨r ++ m, .inl rfl⟩
      · exact ⟨r ++ m, .inr rfl⟩
    · exact ⟨r ++ y ++ m, .inl (by simp)⟩
    · exact ⟨r ++ y ++ m, .inr (by simp)⟩
  · rw [List.map_append, List.map_append, a4, one_plain nm h5]
    simp [h1]
  · simp only [List.flatten_append, a5, flat_one]
    simp
theorem marks_ok : ∀ m ∈ ([[32, 43, 32], [42], [40], [41], [32], [126], [55], [45], [97], [122]] : List (List Nat)), m.length ≤ 3 ∧ ∀ c ∈ m, c ∉ caps := by decide
theorem texts_ok : ∀ z ∈ ([[97, 32, 43, 32, 98], [97, 42], [50], [97, 32, 98], []] : List (List Nat)), z.length ≤ 5 ∧ ∀ c ∈ z, c < 1114112 := by decide
theorem caps_ok : ∀ i < 25, caps.getD i 0 ∈ caps ∧ caps.getD i 0 ≠ 90 := by decide
/-- a pair as data -/
def pairD (nm : Nm) (p : Nat × List Nat) : PyData := .tuple [.str (S [p.1]), .str (S (lk nm p.1))]
theorem caps_lt : ∀ c ∈ caps, c < 1114112 := by decide
theorem pairs_lay {n : Nat} {nm : Nm} (h : NmOk n nm) : Lay 2 (.list (nm.map (pairD nm))) := by
  refine lay_list fun d hd => ?_
  obtain ⟨p, hp, rfl⟩ := List.mem_map.mp hd
  refine lay_tup fun e he => ?_
  rcases List.mem_cons.mp he with rfl | he
  · exact lay_str fun c hc => by rw [List.mem_singleton.mp hc]; exact caps_lt _ (h.ok p hp).1
  · rw [List.mem_singleton.mp he]
    obtain ⟨z, h1, _⟩ := h.look hp
    refine lay_str fun c hc => ?_
    unfold lk at hc
    rw [h1] at hc
    exact h.ch _ (look_in h1) c hc
theorem NmOk.any90 {n : Nat} {nm : Nm} (h : NmOk n nm) : (nm.any fun p => decide (p.1 = 90)) = false := by
  rw [Bool.eq_false_iff]
  intro e
  obtain ⟨p, hp, h1⟩ := List.any_eq_true.mp e
  exact (h.ok p hp).2.1 (of_decide_eq_true h1)
theorem NmOk.put90 {n : Nat} {nm : Nm} (h : NmOk n nm) (z : List Nat) : putN nm 90 z = nm ++ [(90, z)] := by
  unfold putN
  rw [h.any90]
  rfl
theorem NmOk.one90 {n : Nat} {nm : Nm} (h : NmOk n nm) (z : List Nat) : one (putN nm 90 z) 90 = some ([40] ++ z ++ [41]) := by
  have h1 : nm.find? (fun q => decide (q.1 = 90)) = none := List.find?_eq_none.mpr fun q hq => by simp [(h.ok q hq).2.1]
  have e : K59.look (nm ++ [(90, z)]) 90 = some z := by
    unfold K59.look
    rw [List.find?_append, h1]
    rfl
  rw [h.put90]
  unfold one
  rw [if_pos (by decide), e]
  rfl
theorem rep_map (nm : Nm) (k : Nat) : (List.replicate k 55).map (one nm) = ((List.replicate k 55).map fun c => [c]).map some := one_plain nm fun c hc => by
  rw [(List.mem_replicate.mp hc).2]
  decide
theorem no_out {nm : Nm} {t : List Nat} {c : Nat} (hc : c ∈ t) (h : one nm c = none) {out : List (List Nat)} (e : t.map (one nm) = out.map some) : False := by
  have h1 : one nm c ∈ t.map (one nm) := List.mem_map.mpr ⟨c, hc, rfl⟩
  rw [e, h] at h1
  obtain ⟨x, _, h2⟩ := List.mem_map.mp h1
  cases h2
theorem out_eq {nm : Nm} {t : List Nat} {o1 o2 : List (List Nat)} (h1 : t.map (one nm) = o1.map some) (h2 : t.map (one nm) = o2.map some) : o1 = o2 := by
  rw [h1] at h2
  exact List.map_inj_right (fun _ _ e => Option.some.inj e) |>.mp h2
theorem not_magic {z : List Nat} (h : z = [] ∨ ∃ r, z = 40 :: r ∨ z = 98 :: r ∨ z = 55 :: r) : ¬ S z = magic := fun e => by
  have e2 := S_inj e
  rcases h with rfl | ⟨r, rfl | rfl | rfl⟩ <;> cases e2
def sp_law (K : PySem.W.Frag) : Sp := fun vs H Q _ => ∃ (a : Addr) (ns : List Int), vs = [.ref a] ∧ SqL K H a (ns.map V.int) ∧ ns.length ≤ 63 ∧ (∀ z ∈ ns, PySem.Builtin.Int.intBits z ≤ 1048576) ∧ ∀ H', Q (.bl true) H'
section
variable {P : Program} {w : World} {K : PySem.W.Frag} {mg : Str → Option Value} {base : Heap} {A : Ad}
theorem ok_law (T : Txt P K mg A) : FnOk P w K mg base CX0 7 A.f_law A.fd_law ["script"] (sp_law K) := by
  have G__law_draws := ok__law_draws (P := P) (w := w) (base := base) T
  have G__law_honest := ok__law_honest (P := P) (w := w) (base := base) T
  have G_full_text := ok_full_text (P := P) (w := w) (base := base) T
  have G__law_reason := ok__law_reason (P := P) (w := w) (base := base) T
  refine FnOk.mono (j := 7) (T.F_law.ok sc_law (fun vs H Q E h => ?_) (fun cdv Ar outer s H vs Q E hr h => ?_)) (by decide)
  · obtain ⟨a, ns, rfl, hS, hl, hb, q⟩ := h
    rfl
  obtain ⟨a, ns, rfl, hS, hl, hb, q⟩ := h
  refine ⟨_, (pss_cons (ps_set (i := 1) sc_law.nd rfl (.inl rfl) (Sr.pe_strS [65, 66, 67, 68, 69, 70, 71, 72, 73, 74, 75, 76, 77, 78, 79, 80, 81, 82, 83, 84, 85, 86, 87, 88, 89, 90] (by decide +kernel)))
    (pss_cons (ps_set (i := 2) sc_law.nd rfl (.inl rfl) (pe_call G__law_draws (hr.mono (by decide)) rfl T.m__law_draws T.k__law_draws T.d__law_draws .nil pass0 (pa_cons (pv 0) (pa_cons pe_int (pa_cons pe_int (pa_cons pe_int pa_nil))))))
    (pss_cons (ps_set (i := 3) sc_law.nd rfl (.inr rfl) pe_dnewK)
    (pss_cons (ps_for PassesOwn.never rfl (pi_range1 rfl T.b_range (pa_cons (pe_op op_mod (pe_ix ix_list (pv 2) pe_int (fun _ _ => rfl)) pe_int) pa_nil)) (pg_name (i := 4) sc_law.nd rfl (.inl rfl)) (pss_one (ps_dput (hu_of hr) (pv 3) (pe_ix ix_str (pv 1) (pe_op op_mod (pe_ix ix_list (pv 2) (pe_op op_add pe_int (pv 4)) (fun _ _ => rfl)) pe_int) (fun _ _ => rfl)) (pe_ix ix_list (pe_lst (pa_cons (Sr.pe_strS [97, 32, 43, 32, 98] (by decide +kernel)) (pa_cons (Sr.pe_strS [97, 42] (by decide +kernel)) (pa_cons (Sr.pe_strS [50] (by decide +kernel)) (pa_cons (Sr.pe_strS [97, 32, 98] (by decide +kernel)) (pa_cons (Sr.pe_strS [] (by decide +kernel)) pa_nil)))))) (pe_op op_mod (pe_ix ix_list (pv 2) (pe_op op_add pe_int (pv 4)) (fun _ _ => rfl)) pe_int) (fun _ _ => rfl)) rfl)))
    (pss_cons (ps_lock (ps_setLc (i := 6) (own := [("name", 5)]) (g := gName 5) (by rfl) sc_law.nd rfl rfl (sw_true rfl rfl rfl (by decide +kernel)) (pi_keys (pv 3)) (blkOk_by (own := [("name", 5)]) (N := ["script", "marks", "row", "names", "k", "name", "known", "text", "due", "pick", "mark", "kept", "told"]) (sc := defScope s_law) (by decide +kernel)) (fun _ _ _ _ _ => pg_name (i := 5) sc_law.nd rfl (Or.inl rfl)) (fun _ _ _ _ _ => pts_nil) (fun _ _ _ _ _ => (pv 5))))
    (pss_cons (ps_set (i := 7) sc_law.nd rfl (.inl rfl) (Sr.pe_strS [] (by decide +kernel)))
    (pss_cons (ps_set (i := 8) sc_law.nd rfl (.inl rfl) (Sr.pe_strS [] (by decide +kernel)))
    (pss_cons (ps_for PassesOwn.never rfl (pi_range1 rfl T.b_range (pa_cons (pe_op op_mod (pe_ix ix_list (pv 2) pe_int (fun _ _ => rfl)) pe_int) pa_nil)) (pg_name (i := 4) sc_law.nd rfl (.inl rfl)) (pss_cons (ps_set (i := 9) sc_law.nd rfl (.inl rfl) (pe_ix ix_list (pv 2) (pe_op op_add pe_int (pe_op op_mul pe_int (pv 4))) (fun _ _ => rfl)))
    (pss_cons (ps_set (i := 10) sc_law.nd rfl (.inl rfl) (pe_ix ix_list (pe_lst (pa_cons (Sr.pe_strS [32, 43, 32] (by decide +kernel)) (pa_cons (Sr.pe_strS [42] (by decide +kernel)) (pa_cons (Sr.pe_strS [40] (by decide +kernel)) (pa_cons (Sr.pe_strS [41] (by decide +kernel)) (pa_cons (Sr.pe_strS [32] (by decide +kernel)) (pa_cons (Sr.pe_strS [126] (by decide +kernel)) (pa_cons (Sr.pe_strS [55] (by decide +kernel)) (pa_cons (Sr.pe_strS [45] (by decide +kernel)) (pa_cons (Sr.pe_strS [97] (by decide +kernel)) (pa_cons (Sr.pe_strS [122] (by decide +kernel)) pa_nil))))))))))) (pe_op op_mod (pe_ix ix_list (pv 2) (pe_op op_add pe_int (pe_op op_mul pe_int (pv 4))) (fun _ _ => rfl)) pe_int) (fun _ _ => rfl)))
    (pss_one (ps_if (PW.pt (pw_and (pt_cmpR op_eq (pe_op op_mod (pv 9) pe_int) pe_int (nomark _)) (pw_and1 (pt_cmpR op_gt (pe_callB call_len_seq (by rfl) T.b_len (by decide +kernel) (pa_cons (pv 6) pa_nil)) pe_int (nomark _))))) (pss_cons (ps_set (i := 5) sc_law.nd rfl (.inl rfl) (pe_ix ix_list (pv 6) (pe_op op_mod (pv 9) (pe_callB call_len_seq (by rfl) T.b_len (by decide +kernel) (pa_cons (pv 6) pa_nil))) (fun _ _ => rfl)))
    (pss_cons (ps_set (i := 7) sc_law.nd rfl (.inl rfl) (pe_op op_add_str (pe_op op_add_str (pv 7) (pv 5)) (pv 10)))
    (pss_one (ps_set (i := 8) sc_law.nd rfl (.inl rfl) (pe_op op_add_str (pe_op op_add_str (pe_op op_add_str (pe_op op_add_str (pv 8) (Sr.pe_strS [40] (by decide +kernel))) (pe_dget (hu_of hr) (pv 3) (pv 5) (fun _ _ => rfl))) (Sr.pe_strS [41] (by decide +kernel))) (pv 10)))))) (pss_cons (ps_set (i := 7) sc_law.nd rfl (.inl rfl) (pe_op op_add_str (pe_op op_add_str (pv 7) (Sr.pe_strS [98] (by decide +kernel))) (pv 10)))
    (pss_one (ps_set (i := 8) sc_law.nd rfl (.inl rfl) (pe_op op_add_str (pe_op op_add_str (pv 8) (Sr.pe_strS [98] (by decide +kernel))) (pv 10))))))))))
    (pss_cons (ps_setLc (i := 11) (own := [("name", 5)]) (g := gName 5) (by rfl) sc_law.nd rfl rfl (sw_true rfl rfl rfl (by decide +kernel)) (pi_list (pv 6)) (blkOk_by (own := [("name", 5)]) (N := ["script", "marks", "row", "names", "k", "name", "known", "text", "due", "pick", "mark", "kept", "told"]) (sc := defScope s_law) (by decide +kernel)) (fun _ _ _ _ _ => pg_name (i := 5) sc_law.nd rfl (Or.inl rfl)) (fun _ _ _ _ _ => pts_nil) (fun _ _ _ _ _ => (pe_tup (pa_cons (pv 5) (pa_cons (pe_dget (hu_of hr) (pv 3) (pv 5) (fun _ _ => rfl)) pa_nil)))))
    (pss_cons (ps_set (i := 12) sc_law.nd rfl (.inl rfl) (pe_call G__law_honest (hr.mono (by decide)) rfl T.m__law_honest T.k__law_honest T.d__law_honest .nil pass0 (pa_cons (pe_callS G_full_text (hr.mono (by decide)) rfl T.m_full_text T.k_full_text T.d_full_text (fun σ => passAt takes0 σ) (pa_cons (pv 3) (pa_cons (pv 7) pa_nil))) pa_nil)))
    (pss_cons (ps_if (PW.pt (pw_or (pt_not (pt_val (pe_callB call_isi (by rfl) T.b_isinstance (by decide +kernel) (pa_cons (pv 12) (pa_cons (pe_bltn (v := .ty "str") (by rfl) T.b_str (by decide +kernel) rfl) pa_nil))))) (pw_or (pt_cmpR op_ne (pv 12) (pv 8) (nomark _)) (pw_or1 (pt_cmpR (op_neD hr.units) (pe_lock (pe_lc (own := [("name", 5)]) (g := gName 5) (by rfl) sc_law.nd (pi_keys (pv 3)) (blkOk_by (own := [("name", 5)]) (N := ["script", "marks", "row", "names", "k", "name", "known", "text", "due", "pick", "mark", "kept", "told"]) (sc := defScope s_law) (by decide +kernel)) (fun _ _ _ _ _ => pg_name (i := 5) sc_law.nd rfl (Or.inl rfl)) (fun _ _ _ _ _ => pts_nil) (fun _ _ _ _ _ => (pe_tup (pa_cons (pv 5) (pa_cons (pe_dget (hu_of hr) (pv 3) (pv 5) (fun _ _ => rfl)) pa_nil)))))) (pv 11) (nomark _)))))) (pss_one (ps_ret pe_bl)) pss_nil)
    (pss_cons (ps_if (PW.pt (pw_or (pt_cmpR op_ne (pe_call G__law_reason (hr.mono (by decide)) rfl T.m__law_reason T.k__law_reason T.d__law_reason .nil pass0 (pa_cons (pv 3) (pa_cons (pe_op op_add_str (pv 7) (Sr.pe_strS [90] (by decide +kernel))) pa_nil))) (Sr.pe_strS [110, 97, 109, 101] (by decide +kernel)) (nomark _)) (pw_or1 (pt_cmpR op_ne (pe_call G__law_reason (hr.mono (by decide)) rfl T.m__law_reason T.k__law_reason T.d__law_reason .nil pass0 (pa_cons (pv 3) (pa_cons (pe_op op_add_str (pe_op Sr.op_rep_str (Sr.pe_strS [55] (by decide +kernel)) pe_int) (Sr.pe_strS [90] (by decide +kernel))) pa_nil))) (Sr.pe_strS [110, 97, 109, 101] (by decide +kernel)) (nomark _))))) (pss_one (ps_ret pe_bl)) pss_nil)
    (pss_cons (ps_dput (hu_of hr) (pv 3) (Sr.pe_strS [90] (by decide +kernel)) (pe_op Sr.op_rep_str (Sr.pe_strS [97] (by decide +kernel)) pe_int) rfl)
    (pss_cons (ps_if (PW.pt (pw_or (pt_cmpR op_ne (pe_call G__law_honest (hr.mono (by decide)) rfl T.m__law_honest T.k__law_honest T.d__law_honest .nil pass0 (pa_cons (pe_callS G_full_text (hr.mono (by decide)) rfl T.m_full_text T.k_full_text T.d_full_text (fun σ => passAt takes0 σ) (pa_cons (pv 3) (pa_cons (Sr.pe_strS [90] (by decide +kernel)) pa_nil))) pa_nil)) (pe_op op_add_str (pe_op op_add_str (Sr.pe_strS [40] (by decide +kernel)) (pe_op Sr.op_rep_str (Sr.pe_strS [97] (by decide +kernel)) pe_int)) (Sr.pe_strS [41] (by decide +kernel))) (nomark _)) (pw_or1 (pt_cmpR op_ne (pe_call G__law_reason (hr.mono (by decide)) rfl T.m__law_reason T.k__law_reason T.d__law_reason .nil pass0 (pa_cons (pv 3) (pa_cons (Sr.pe_strS [90, 43] (by decide +kernel)) pa_nil))) (Sr.pe_strS [108, 111, 110, 103] (by decide +kernel)) (nomark _))))) (pss_one (ps_ret pe_bl)) pss_nil)
    (pss_one (ps_ret (pe_and (pe_cmpR op_eq (pe_call G__law_honest (hr.mono (by decide)) rfl T.m__law_honest T.k__law_honest T.d__law_honest .nil pass0 (pa_cons (pe_callS G_full_text (hr.mono (by decide)) rfl T.m_full_text T.k_full_text T.d_full_text (fun σ => passAt takes0 σ) (pa_cons pe_dnewK (pa_cons (Sr.pe_strS [] (by decide +kernel)) pa_nil))) pa_nil)) (Sr.pe_strS [] (by decide +kernel)) (nomark _)) (pe_and (pe_cmpR op_eq (pe_call G__law_reason (hr.mono (by decide)) rfl T.m__law_reason T.k__law_reason T.d__law_reason .nil pass0 (pa_cons (pv 3) (pa_cons (pe_op Sr.op_rep_str (Sr.pe_strS [55] (by decide +kernel)) pe_int) pa_nil))) (Sr.pe_strS [108, 111, 110, 103] (by decide +kernel)) (nomark _)) (pe_one (pe_cmpR op_eq (pe_call G__law_honest (hr.mono (by decide)) rfl T.m__law_honest T.k__law_honest T.d__law_honest .nil pass0 (pa_cons (pe_callS G_full_text (hr.mono (by decide)) rfl T.m_full_text T.k_full_text T.d_full_text (fun σ => passAt takes0 σ) (pa_cons (pv 3) (pa_cons (pe_op Sr.op_rep_str (Sr.pe_strS [55] (by decide +kernel)) pe_int) pa_nil))) pa_nil)) (pe_op Sr.op_rep_str (Sr.pe_strS [55] (by decide +kernel)) pe_int) (nomark _))))))))))))))))))))), ?_⟩
  have S0 := Hs.start (Same.refl H)
  wtm_at "g"
  refine ⟨a, ns, 0, 50, 104, rfl, by decide, by decide, by decide, by decide, hS, fun row rp H1 hrl hrb s1 hr1 hr2 => ?_⟩
  have S1 := (S0.took s1 hr1 hr2).fix (i := 0) rfl (by simp)
  have hrow : SqL K (upd H rp (.lst (row.map V.int))) rp (row.map V.int) := SqL.of upd_same
  clear hr1 hr2 s1
  generalize upd H rp (.lst (row.map V.int)) = B1 at S1 hrow
  wtm_at "g"
  rename_i dn H2 S2
  refine for_n (row.getD (Int.toNat 0) 0 % 4).toNat (by omega) (fun i σ H' => ∃ (nm : Nm) (kk : Option V), σ = [some (.ref a), some (.str (S caps)), some (.ref rp), some (.ref dn), kk, none, none, none, none, none, none, none, none] ∧ NmOk i nm ∧ Hs ⟨H, [], H⟩ B1 [(dn, .dK (kvN nm))] H') ?_ ?_ ?_
  · exact ⟨[], _, rfl, ⟨by simp, by simp, by simp⟩, S2⟩
  · rintro i σ H3 hi ⟨nm, kk, rfl, hnm, S3⟩
    have hcl : caps.length = 26 := rfl
    have hkl : (kvN nm).length < 1000 := by have := hnm.len; unfold kvN; rw [List.length_map]; omega
    wtm_at "g"
    rename_i H4 S4
    rw [put_kv] at S4
    have hx := texts_ok _ (getD_mem (l := [[97, 32, 43, 32, 98], [97, 42], [50], [97, 32, 98], []]) (d := []) (i := (row.getD (4 + (i : Int)).toNat 0 % 5).toNat) (by simp; omega))
    have hc := caps_ok (row.getD (1 + (i : Int)).toNat 0 % 25).toNat (by omega)
    exact .mk ⟨_, _, rfl, hnm.put hc.1 hc.2 hx.1 hx.2, S4.drop (i := 0) rfl (by simp)⟩
  · rintro σ H3 ⟨nm, kk, rfl, hnm, S3⟩
    have hcl : caps.length = 26 := rfl
    have hkl : (kvN nm).length < 1000 := by have := hnm.len; unfold kvN; rw [List.length_map]; omega
    wtm_at "g"
    rename_i od H4 S4
    refine lc_k (fun Dn i H' => Hs ⟨H, [], H⟩ B1 [(Dn, .lst ((nm.take i).map fun p => V.str (S [p.1]))), (dn, .frz od (.dK (kvN nm)))] H') (fun Dn hDn => S4.allocL hDn) (fun Dn i H' S' => S'.at (i := 1) rfl) ?_ ?_
    · intro Dn i k v H5 hk S5
      have hnl : nm.length < 1000 := by have := hnm.len; omega
      wtm_at "g"
      obtain ⟨p, hp, e⟩ := List.getElem?_map .. ▸ hk |> Option.map_eq_some_iff.mp
      refine .mk ?_
      rw [List.take_succ, hp, List.map_append]
      cases e
      exact S5.set (i := 0) rfl
    · intro Dn H5 S5
      have hget : ∀ p ∈ nm, valV (kvN nm) (.inr (S [p.1])) = some (.str (S (lk nm p.1))) := fun p hp => by
        obtain ⟨z, hz, _⟩ := hnm.look hp
        rw [look_v]
        unfold lk
        rw [hz]
        rfl
      have S6 := S5.set (i := 1) (o' := .dK (kvN nm)) rfl
      rw [show (kvN nm).length = nm.length from by simp [kvN], List.take_length] at S6
      wtm_at "g"
      refine for_n (row.getD (Int.toNat 8) 0 % 14).toNat (by omega) (fun i σ H' => ∃ (t d : List Nat) (kk s9 s10 : Option V) (s5 : Option V), σ = [some (.ref a), some (.str (S caps)), some (.ref rp), some (.ref dn), kk, s5, some (.ref Dn), some (.str (S t)), some (.str (S d)), s9, s10, none, none] ∧ TxOk nm i t d ∧ Hs ⟨H, [], H⟩ B1 [(Dn, .lst (nm.map fun p => V.str (S [p.1]))), (dn, .dK (kvN nm))] H') ?_ ?_ ?_
      · exact ⟨[], [], _, _, _, _, rfl, ⟨by simp, by simp, .inl rfl, [], rfl, rfl⟩, S6⟩
      · rintro i σ H7 hi ⟨t, d, kk, s9, s10, s5, rfl, ht, S7⟩
        have ht1 := ht.1
        have ht2 := ht.2.1
        have hmk := marks_ok _ (getD_mem (l := [[32, 43, 32], [42], [40], [41], [32], [126], [55], [45], [97], [122]]) (d := []) (i := (row.getD (11 + 2 * (i : Int)).toNat 0 % 10).toNat) (by simp; omega))
        have hmk1 := hmk.1
        wtm_at "g"
        rename_i mp H8 S8
        refine if_d (fun h1 => ?_) (fun h1 => ?_)
        · wtm_at "g"
          refine if_d (fun h2 => ?_) (fun h2 => ?_)
          · rw [List.length_map] at h2
            have h2 : 0 < nm.length := by omega
            have hp := hnm.lk (List.getElem_mem (mod_lt (x := row.getD (10 + 2 * (i : Int)).toNat 0) h2))
            have hp1 := hp.1
            wtm_at "g"
            all_goals (try exact hget _ (List.getElem_mem _))
            wtm_at "g"
            have hA := ht.add hp.2 (by wtm_at "om") ⟨_, .inl rfl⟩ hmk.1 hmk.2
            refine .mk ⟨_, _, _, _, _, _, rfl, ?_, S8.drop (i := 0) rfl (by simp)⟩
            simpa only [List.append_assoc] using hA
          · wtm_at "g"
            refine .mk ⟨_, _, _, _, _, _, rfl, ht.add (c := 98) (y := [98]) (m := _) (by unfold one; rw [if_neg (by decide)]) (by simp) ⟨[], .inr rfl⟩ hmk.1 hmk.2, S8.drop (i := 0) rfl (by simp)⟩
        · wtm_at "g"
          refine .mk ⟨_, _, _, _, _, _, rfl, ht.add (c := 98) (y := [98]) (m := _) (by unfold one; rw [if_neg (by decide)]) (by simp) ⟨[], .inr rfl⟩ hmk.1 hmk.2, S8.drop (i := 0) rfl (by simp)⟩
      · rintro σ H7 ⟨t, d, kk, s9, s10, s5, rfl, ht, S7⟩
        have hnl : nm.length < 1000 := by have := hnm.len; omega
        wtm_at "g"
        refine lc_l (xs := nm.map fun p => V.str (S [p.1])) (fun Tn i H' => ∃ (B2 : Hp) (ts : List V), Same B1 B2 ∧ DpAll K B2 ts ((nm.take i).map (pairD nm)) ∧ Hs ⟨H, [], H⟩ B2 [(Tn, .lst ts), (Dn, .lst (nm.map fun p => V.str (S [p.1]))), (dn, .dK (kvN nm))] H') (fun Tn hTn => ⟨B1, [], Same.refl _, .nil, S7.allocL hTn⟩) (fun Tn i H' ⟨B2, ts, _, _, S'⟩ => .of (S'.at (i := 1) rfl)) ?_ ?_
        · rintro Tn i x H8 hx ⟨B2, ts, hB, hD, S8⟩
          have hl := dpAll_len hD
          rw [List.length_map] at hl
          rw [List.getElem?_map] at hx
          obtain ⟨p, hp, rfl⟩ := Option.map_eq_some_iff.mp hx
          have hget1 := hget p (List.mem_of_getElem? hp)
          have hi : i < nm.length := (List.getElem?_eq_some_iff.mp hp).1
          rw [List.length_take] at hl
          wtm_at "g"
          rename_i q B3 H9 hB3 hq S9
          refine .mk ⟨B3, _, hB.trans hB3, ?_, S9.set (i := 0) rfl⟩
          rw [List.take_succ, hp, List.map_append]
          exact dpAll_snoc (.tup (.of hq) (.cons (.str _) (.cons (.str _) .nil))) (dpAll_mono hB3 _ _ hD)
        · rintro Tn H8 ⟨B2, ts, hB, hD, S8⟩
          rw [List.length_map, List.take_length] at hD
          obtain ⟨ht1, ht2, ht3, out0, ho0, rfl⟩ := ht
          have hm : ¬ S out0.flatten = magic := not_magic (by
            rcases ht3 with h | ⟨r, h | h⟩
            · exact .inl h
            · exact .inr ⟨r, .inl h⟩
            · exact .inr ⟨r, .inr (.inl h)⟩)
          have hn5 : ∀ p ∈ nm, p.2.length ≤ 2000 := fun p hp => by have := (hnm.ok p hp).2.2; omega
          have hd8 : H8 dn = some (.dK (kvN nm)) := S8.at (i := 2) rfl
          wtm_at "g"
          refine ⟨dn, nm, t, rfl, hd8, by omega, hn5, fun out ho => ?_, ?_⟩
          · cases out_eq ho ho0
            refine ⟨fun hz H9 s9 => ?_, fun hz => by omega⟩
            have S9 := S8.call s9
            wtm_at "g"
            refine ⟨_, rfl, fun H10 s10 => ?_⟩
            have S10 := S9.call s10
            rw [if_neg hm]
            wtm_at "g"
            rename_i od2 H11 S11
            refine lc_k (fun Un i H' => ∃ (B3 : Hp) (us : List V), Same B2 B3 ∧ DpAll K B3 us ((nm.take i).map (pairD nm)) ∧ Hs ⟨H, [], H⟩ B3 [(Un, .lst us), (Tn, .lst ts), (Dn, .lst (nm.map fun p => V.str (S [p.1]))), (dn, .frz od2 (.dK (kvN nm)))] H') (fun Un hUn => ⟨B2, [], Same.refl _, .nil, S11.allocL hUn⟩) (fun Un i H' ⟨B3, us, _, _, S'⟩ => S'.at (i := 3) rfl) ?_ ?_
            · rintro Un i k v H12 hk ⟨B3, us, hB3, hD3, S12⟩
              have hl3 := dpAll_len hD3
              rw [List.length_map] at hl3
              rw [kvN, List.getElem?_map] at hk
              obtain ⟨p, hp, e⟩ := Option.map_eq_some_iff.mp hk
              cases e
              have hget1 := hget p (List.mem_of_getElem? hp)
              have hi : i < nm.length := (List.getElem?_eq_some_iff.mp hp).1
              rw [List.length_take] at hl3
              wtm_at "g"
              rename_i q B4 H13 hB4 hq S13
              refine .mk ⟨B4, _, hB3.trans hB4, ?_, S13.set (i := 0) rfl⟩
              rw [List.take_succ, hp, List.map_append]
              exact dpAll_snoc (.tup (.of hq) (.cons (.str _) (.cons (.str _) .nil))) (dpAll_mono hB4 _ _ hD3)
            · rintro Un H12 ⟨B3, us, hB3, hD3, S12⟩
              rw [show (kvN nm).length = nm.length from by simp [kvN], List.take_length] at hD3
              have S13 := S12.set (i := 3) (o' := .dK (kvN nm)) rfl
              wtm_at "g"
              refine h_neDs (by decide) (pairs_lay hnm) (.lst (.of (S13.at (i := 0) rfl)) (dpAll_mono S13.base _ _ hD3)) (.lst (.of (S13.at (i := 1) rfl)) (dpAll_mono (hB3.trans S13.base) _ _ hD)) ?_
              have hd13 := S13.at (i := 3) rfl
              wtm_at "g"
              refine ⟨dn, nm, t ++ [90], rfl, hd13, by wtm_at "om", hn5, fun out ho => (no_out (by simp) hnm.z ho).elim, fun out ho => (no_out (by simp) hnm.z ho).elim, fun _ H14 s14 => ?_⟩
              have S14 := S13.call s14
              wtm_at "g"
              have hd14 := S14.at (i := 3) rfl
              refine ⟨dn, nm, _, rfl, hd14, by wtm_at "om", hn5, fun out ho => (no_out (List.mem_append_right _ (by simp)) hnm.z ho).elim, fun out ho => (no_out (List.mem_append_right _ (by simp)) hnm.z ho).elim, fun _ H15 s15 => ?_⟩
              have S15 := S14.call s15
              wtm_at "g"
              rename_i H16 S16
              rw [put_kv] at S16
              have hd16 := S16.at (i := 3) rfl
              generalize hzz : List.replicate (Int.toNat 1998) 97 = zz at *
              have hzl : zz.length = 1998 := by rw [← hzz]; rfl
              have hn6 : ∀ p ∈ putN nm 90 zz, p.2.length ≤ 2000 := fun p hp => by
                rw [hnm.put90] at hp
                rcases List.mem_append.mp hp with hp | hp
                · exact hn5 p hp
                · rw [List.mem_singleton.mp hp, hzl]; decide
              have hz1 := hnm.one90 zz
              have ho1 : [90].map (one (putN nm 90 zz)) = [[40] ++ zz ++ [41]].map some := by simp only [List.map_cons, List.map_nil, hz1]
              have ho2 : [90, 43].map (one (putN nm 90 zz)) = [[40] ++ zz ++ [41], [43]].map some := by
                simp only [List.map_cons, List.map_nil, hz1]
                rfl
              refine ⟨dn, _, [90], rfl, hd16, by decide, hn6, fun out ho => ?_, fun ⟨c, hc, he⟩ => (no_out hc he ho1).elim⟩
              cases out_eq ho ho1
              refine ⟨fun _ H17 s17 => ?_, fun hz => by simp [hzl] at hz⟩
              have S17 := S16.call s17
              wtm_at "g"
              refine ⟨_, rfl, fun H18 s18 => ?_⟩
              have S18 := S17.call s18
              have hm2 : ¬ S ([[40] ++ zz ++ [41]].flatten) = magic := not_magic (.inr ⟨_, .inl rfl⟩)
              rw [if_neg hm2]
              wtm_at "g"
              rw [hzz, show [[40] ++ zz ++ [41]].flatten = [40] ++ zz ++ [41] from by simp only [List.flatten_cons, List.flatten_nil, List.append_nil]]
              have hd18 := S18.at (i := 3) rfl
              have hl2 : 2000 < [[40] ++ zz ++ [41], [43]].flatten.length := by simp [hzl]
              wtm_at "g"
              refine ⟨dn, _, [90, 43], rfl, hd18, by decide, hn6, fun out ho => ?_, fun out ho => ?_, fun ⟨c, hc, he⟩ => (no_out hc he ho2).elim⟩
              · cases out_eq ho ho2
                intro _ H19 s19
                have S19 := S18.call s19
                wtm_at "g"
                rename_i en H20 S20
                have hd20 := S20.at (i := 0) rfl
                refine ⟨en, [], [], rfl, hd20, by decide, by simp, fun out ho => ?_, fun ⟨c, hc, he⟩ => by cases hc⟩
                cases out with
                | cons x r => cases ho
                | nil =>
                  refine ⟨fun _ H21 s21 => ?_, fun hz => by simp at hz⟩
                  have S21 := S20.call s21
                  wtm_at "g"
                  refine ⟨_, rfl, fun H22 s22 => ?_⟩
                  have S22 := S21.call s22
                  have hm3 : ¬ S (([] : List (List Nat)).flatten) = magic := not_magic (.inl rfl)
                  rw [if_neg hm3]
                  wtm_at "g"
                  have hd22 := S22.at (i := 4) rfl
                  have h01 := rep_map (putN nm 90 zz) (Int.toNat 2001)
                  have hl3 : 2000 < ((List.replicate (Int.toNat 2001) 55).map fun c => [c]).flatten.length := by rw [flat_one]; simp only [List.length_replicate]; decide
                  refine ⟨dn, _, _, rfl, hd22, by wtm_at "om", hn6, fun out ho => ?_, fun out ho => ?_, fun ⟨c, hc, he⟩ => (no_out hc he h01).elim⟩
                  · cases out_eq ho h01
                    intro _ H23 s23
                    have S23 := S22.call s23
                    have hd23 := S23.at (i := 4) rfl
                    wtm_at "g"
                    have h02 := rep_map (putN nm 90 zz) (Int.toNat 2000)
                    refine ⟨dn, _, _, rfl, hd23, by wtm_at "om", hn6, fun out ho => ?_, fun ⟨c, hc, he⟩ => (no_out hc he h02).elim⟩
                    cases out_eq ho h02
                    rw [flat_one]
                    refine ⟨fun _ H24 s24 => ?_, fun hz => by simp only [List.length_replicate] at hz; exact absurd hz (by decide)⟩
                    have S24 := S23.call s24
                    wtm_at "g"
                    refine ⟨_, rfl, fun H25 s25 => ?_⟩
                    have hm4 : ¬ S (List.replicate (Int.toNat 2000) 55) = magic := not_magic (.inr ⟨List.replicate 1999 55, .inr (.inr rfl)⟩)
                    rw [if_neg hm4]
                    wtm_at "g"
                    rw [decide_eq_true rfl]
                    exact q _
                  · cases out_eq ho h01
                    exact hl3
              · cases out_eq ho ho2
                exact hl2
          · rintro ⟨c, hc, he⟩
            exact (no_out hc he ho0).elim
end
theorem all_mk {w : World} {K : PySem.W.Frag} {h : Heap} {mg : Str → Option Value} {fa : Addr} (X : K.In h) (G : h.Ns mainGlobals mg) (hfa : mg "law" = some (.ref fa))
    {od1 an1 : Option Addr} {sl1 : Array (Option Value)} {oc1 kV1 dc1 pm1 cd1 ct1 : Value} {f1 : Addr}
    {od2 an2 : Option Addr} {sl2 : Array (Option Value)} {oc2 kV2 dc2 pm2 cd2 ct2 : Value} {f2 : Addr}
    {od3 an3 : Option Addr} {sl3 : Array (Option Value)} {oc3 kV3 dc3 pm3 cd3 ct3 : Value} {f3 : Addr}
    {od4 an4 : Option Addr} {sl4 : Array (Option Value)} {oc4 kV4 dc4 pm4 cd4 ct4 : Value} {f4 : Addr}
    {od5 an5 : Option Addr} {sl5 : Array (Option Value)} {oc5 kV5 dc5 pm5 cd5 ct5 : Value} {f5 : Addr}
    {od6 an6 : Option Addr} {sl6 : Array (Option Value)} {oc6 kV6 dc6 pm6 cd6 ct6 : Value} {f6 : Addr}
    {od7 an7 : Option Addr} {sl7 : Array (Option Value)} {oc7 kV7 dc7 pm7 cd7 ct7 : Value} {f7 : Addr}
    {od8 an8 : Option Addr} {sl8 : Array (Option Value)} {oc8 kV8 dc8 pm8 cd8 ct8 : Value} {f8 : Addr}
    {C_Refused i_Refused : Addr} {nm_Refused q_Refused : Str} {N_Refused : Addr} {bs_Refused : List Value} {sn_Refused : List Str} {sub_Refused : List Value} {ab_Refused : Bool} {col_Refused : Option Bool} {dd_Refused : Option Addr} {m0_Refused m1_Refused m2_Refused m3_Refused m5_Refused : Option Value} {bm_Refused : List Value}
    {cc_Refused cda_Refused : Addr} {cl_Refused : Value} {cld_Refused : Option Addr} {csl_Refused : Array (Option Value)} {ccl_Refused : Value} {cdd_Refused : Option Addr} {vs_Refused : Array Value} {ccs_Refused : Array (Option Value)} {ocx_Refused : Value} {odx_Refused : Option Addr} {dcx_Refused pmx_Refused : Value} {anx_Refused : Option Addr} {ctx_Refused : Value} {slx_Refused : Array (Option Value)}
    {u_NAMES : Value}
    {u_MOST : Value}
    (a1 : PySem.W.nsIn K mainGlobals "_expand" = some (some (.ref f1)))
    (l1 : K.lookup f1 = some ⟨oc1, od1, .func (PySem.W.fnOf "_expand" "_expand" (defArgs s_expand) (defBody s_expand) (defScope s_expand) .none kV1 dc1 pm1 an1 cd1 ct1), sl1⟩)
    (c1 : PySem.W.codeIn K cd1 "_expand" = true)
    (k1 : PySem.W.keepIn K (.ref f1) = true)
    (a2 : PySem.W.nsIn K mainGlobals "full_text" = some (some (.ref f2)))
    (l2 : K.lookup f2 = some ⟨oc2, od2, .func (PySem.W.fnOf "full_text" "full_text" (defArgs s_full_text) (defBody s_full_text) (defScope s_full_text) .none kV2 dc2 pm2 an2 cd2 ct2), sl2⟩)
    (c2 : PySem.W.codeIn K cd2 "full_text" = true)
    (k2 : PySem.W.keepIn K (.ref f2) = true)
    (a3 : PySem.W.nsIn K mainGlobals "_law_cell" = some (some (.ref f3)))
    (l3 : K.lookup f3 = some ⟨oc3, od3, .func (PySem.W.fnOf "_law_cell" "_law_cell" (defArgs s_law_cell) (defBody s_law_cell) (defScope s_law_cell) .none kV3 dc3 pm3 an3 cd3 ct3), sl3⟩)
    (c3 : PySem.W.codeIn K cd3 "_law_cell" = true)
    (k3 : PySem.W.keepIn K (.ref f3) = true)
    (a4 : PySem.W.nsIn K mainGlobals "_law_odd" = some (some (.ref f4)))
    (l4 : K.lookup f4 = some ⟨oc4, od4, .func (PySem.W.fnOf "_law_odd" "_law_odd" (defArgs s_law_odd) (defBody s_law_odd) (defScope s_law_odd) .none kV4 dc4 pm4 an4 cd4 ct4), sl4⟩)
    (c4 : PySem.W.codeIn K cd4 "_law_odd" = true)
    (k4 : PySem.W.keepIn K (.ref f4) = true)
    (a5 : PySem.W.nsIn K mainGlobals "_law_honest" = some (some (.ref f5)))
    (l5 : K.lookup f5 = some ⟨oc5, od5, .func (PySem.W.fnOf "_law_honest" "_law_honest" (defArgs s_law_honest) (defBody s_law_honest) (defScope s_law_honest) .none kV5 dc5 pm5 an5 cd5 ct5), sl5⟩)
    (c5 : PySem.W.codeIn K cd5 "_law_honest" = true)
    (k5 : PySem.W.keepIn K (.ref f5) = true)
    (a6 : PySem.W.nsIn K mainGlobals "_law_draws" = some (some (.ref f6)))
    (l6 : K.lookup f6 = some ⟨oc6, od6, .func (PySem.W.fnOf "_law_draws" "_law_draws" (defArgs s_law_draws) (defBody s_law_draws) (defScope s_law_draws) .none kV6 dc6 pm6 an6 cd6 ct6), sl6⟩)
    (c6 : PySem.W.codeIn K cd6 "_law_draws" = true)
    (k6 : PySem.W.keepIn K (.ref f6) = true)
    (a7 : PySem.W.nsIn K mainGlobals "_law_reason" = some (some (.ref f7)))
    (l7 : K.lookup f7 = some ⟨oc7, od7, .func (PySem.W.fnOf "_law_reason" "_law_reason" (defArgs s_law_reason) (defBody s_law_reason) (defScope s_law_reason) .none kV7 dc7 pm7 an7 cd7 ct7), sl7⟩)
    (c7 : PySem.W.codeIn K cd7 "_law_reason" = true)
    (k7 : PySem.W.keepIn K (.ref f7) = true)
    (a8 : PySem.W.nsIn K mainGlobals "law" = some (some (.ref f8)))
    (l8 : K.lookup f8 = some ⟨oc8, od8, .func (PySem.W.fnOf "law" "law" (defArgs s_law) (defBody s_law) (defScope s_law) .none kV8 dc8 pm8 an8 cd8 ct8), sl8⟩)
    (c8 : PySem.W.codeIn K cd8 "law" = true)
    (k8 : PySem.W.keepIn K (.ref f8) = true)
    (x1_Refused : PySem.W.nsIn K mainGlobals "Refused" = some (some (.ref C_Refused)))
    (x2_Refused : K.lookup C_Refused = some (excClassObj nm_Refused q_Refused C_Refused N_Refused bs_Refused bm_Refused true sn_Refused sub_Refused ab_Refused col_Refused dd_Refused m0_Refused m1_Refused m2_Refused m3_Refused m5_Refused "ValueError.__new__"))
    (x2b_Refused : PySem.HandSPX.refsVE bm_Refused = true)
    (x3_Refused : PySem.W.findIn K (.ref C_Refused) "__setattr__" = some (some (.builtin "object.__setattr__")))
    (x4_Refused : PySem.W.findIn K (.ref C_Refused) "__getattribute__" = some (some (.builtin "BaseException.__getattribute__")))
    (x5_Refused : PySem.W.findIn K (.ref C_Refused) "__getattr__" = some none)
    (x6_Refused : PySem.W.findIn K (.ref C_Refused) "reason" = some none)
    (x7_Refused : PySem.W.findIn K (.ref C_Refused) "__init__" = some (some (.ref i_Refused)))
    (x8_Refused : PySem.W.typeIn K (.ref i_Refused) = some (.type "function"))
    (x9_Refused : PySem.W.keepIn K (.ref C_Refused) = true)
    (x10_Refused : PySem.W.subIn K (.ref C_Refused) (.type "BaseException") = some true)
    (x11_Refused : PySem.W.subIn K (.ref C_Refused) (.type "ValueError") = some true)
    (x12_Refused : PySem.W.typeIn K (.ref C_Refused) = some (.type "type"))
    (x13_Refused : PySem.W.hasDictIn K C_Refused = true)
    (x14_Refused : PySem.W.isClsIn K C_Refused = true)
    (x15_Refused : PySem.W.subIn K (.ref C_Refused) (.ref C_Refused) = some true)
    (x16_Refused : PySem.W.nsIn K PySem.cStatics "thirdparty.any" = some none)
    (x17_Refused : PySem.W.ks_superIn K C_Refused C_Refused "__init__" = some (some (.builtin "ValueError.__init__")))
    (x18_Refused : PySem.W.mroIn K C_Refused (.ref C_Refused) = some true)
    (x19_Refused : PySem.W.nsIn K mainGlobals "super" = some none)
    (x21_Refused : K.lookup i_Refused = some ⟨ocx_Refused, odx_Refused, .func (PySem.W.ksFn "__init__" "Refused.__init__" PySem.SrXRefused.iA PySem.SrXRefused.iB PySem.SrXRefused.iS .none .none dcx_Refused pmx_Refused anx_Refused (.ref cda_Refused) ctx_Refused cc_Refused), slx_Refused⟩)
    (x22_Refused : PySem.W.codeIn K (.ref cda_Refused) "Refused.__init__" = true)
    (x23_Refused : K.lookup cc_Refused = some ⟨cl_Refused, cld_Refused, .cell (some (.ref C_Refused)), csl_Refused⟩)
    (x24_Refused : K.lookup cda_Refused = some ⟨ccl_Refused, cdd_Refused, .fields vs_Refused, ccs_Refused⟩)
    (x25_Refused : Sr.codeFile PySem.Challenge.pw_seriesroads_k59_full_texts vs_Refused = true)
    (g_NAMES : PySem.W.nsIn K mainGlobals "NAMES" = some (some u_NAMES))
    (gr_NAMES : Sr.relB (.str (Sr.S [65, 66, 67, 68, 69, 70, 71, 72, 73, 74, 75, 76, 77, 78, 79, 80, 81, 82, 83, 84, 85, 86, 87, 88, 89, 90])) u_NAMES = true)
    (g_MOST : PySem.W.nsIn K mainGlobals "MOST" = some (some u_MOST))
    (gr_MOST : Sr.relB (.int (2000)) u_MOST = true)
    (z_len : PySem.W.nsIn K mainGlobals "len" = some none)
    (z_int : PySem.W.nsIn K mainGlobals "int" = some none)
    (z_range : PySem.W.nsIn K mainGlobals "range" = some none)
    (z_isinstance : PySem.W.nsIn K mainGlobals "isinstance" = some none)
    (z_tuple : PySem.W.nsIn K mainGlobals "tuple" = some none)
    (z_list : PySem.W.nsIn K mainGlobals "list" = some none)
    (z_str : PySem.W.nsIn K mainGlobals "str" = some none)
    : ∃ fd : FuncData, (∀ (s : Shared) (v : Value), BindsTo s fd ⟨[v], []⟩ [("script", v)]) ∧ ∀ base : Heap, K.In base → base.Ns mainGlobals mg → FnOk PySem.Challenge.pw_seriesroads_k59_full_texts w K mg base CX0 7 fa fd ["script"] (sp_law K) := by
  have e := hfa.symm.trans (PySem.W.mg_of X G a8)
  cases e
  have F1 := fun_mk (x := "_expand") (qual := "_expand") (st := s_expand) l1 c1 k1
  have b1 := F1.binds (ps := ["names", "text"]) fun _ _ _ _ _ _ us hl => match us, hl with | [_, _], _ => rfl
  have F2 := fun_mk (x := "full_text") (qual := "full_text") (st := s_full_text) l2 c2 k2
  have b2 := F2.binds (ps := ["names", "text"]) fun _ _ _ _ _ _ us hl => match us, hl with | [_, _], _ => rfl
  have F3 := fun_mk (x := "_law_cell") (qual := "_law_cell") (st := s_law_cell) l3 c3 k3
  have b3 := F3.binds (ps := ["script", "k"]) fun _ _ _ _ _ _ us hl => match us, hl with | [_, _], _ => rfl
  have F4 := fun_mk (x := "_law_odd") (qual := "_law_odd") (st := s_law_odd) l4 c4 k4
  have b4 := F4.binds (ps := ["value"]) fun _ _ _ _ _ _ us hl => match us, hl with | [_], _ => rfl
  have F5 := fun_mk (x := "_law_honest") (qual := "_law_honest") (st := s_law_honest) l5 c5 k5
  have b5 := F5.binds (ps := ["value"]) fun _ _ _ _ _ _ us hl => match us, hl with | [_], _ => rfl
  have F6 := fun_mk (x := "_law_draws") (qual := "_law_draws") (st := s_law_draws) l6 c6 k6
  have b6 := F6.binds (ps := ["script", "at", "count", "bound"]) fun _ _ _ _ _ _ us hl => match us, hl with | [_, _, _, _], _ => rfl
  have F7 := fun_mk (x := "_law_reason") (qual := "_law_reason") (st := s_law_reason) l7 c7 k7
  have b7 := F7.binds (ps := ["names", "text"]) fun _ _ _ _ _ _ us hl => match us, hl with | [_, _], _ => rfl
  have F8 := fun_mk (x := "law") (qual := "law") (st := s_law) l8 c8 k8
  have b8 := F8.binds (ps := ["script"]) fun _ _ _ _ _ _ us hl => match us, hl with | [_], _ => rfl
  have E_Refused : PySem.SrXRefused.ETxt PySem.Challenge.pw_seriesroads_k59_full_texts K mg C_Refused i_Refused := { gC := PySem.W.mg_of X G x1_Refused, cls := ⟨_, _, _, _, _, _, _, _, _, _, _, _, _, _, _, x2_Refused, x2b_Refused⟩, sa := x3_Refused, ga := x4_Refused, gg := x5_Refused, noN := x6_Refused, iC := x7_Refused, tC := x8_Refused, kC := x9_Refused, exC := x10_Refused, veC := x11_Refused, tyC := x12_Refused, hdC := x13_Refused, te := Sr.exm_self x10_Refused x14_Refused x12_Refused x15_Refused, tp := x16_Refused, sup := x17_Refused, selfC := x18_Refused, gsup := PySem.W.mg_none_of X G x19_Refused, file := ⟨cc_Refused, cda_Refused, ⟨_, _, _, x23_Refused⟩, Sr.file_of x24_Refused x25_Refused, _, _, _, _, _, _, _, x21_Refused, x22_Refused⟩, top := by decide +kernel }
  have T : Txt PySem.Challenge.pw_seriesroads_k59_full_texts K mg { f__expand := f1, fd__expand := _, f_full_text := f2, fd_full_text := _, f__law_cell := f3, fd__law_cell := _, f__law_odd := f4, fd__law_odd := _, f__law_honest := f5, fd__law_honest := _, f__law_draws := f6, fd__law_draws := _, f__law_reason := f7, fd__law_reason := _, f_law := fa, fd_law := _, C_Refused := C_Refused, i_Refused := i_Refused } := { m__expand := PySem.W.mg_of X G a1, k__expand := k1, F__expand := F1, d__expand := b1, m_full_text := PySem.W.mg_of X G a2, k_full_text := k2, F_full_text := F2, d_full_text := b2, m__law_cell := PySem.W.mg_of X G a3, k__law_cell := k3, F__law_cell := F3, d__law_cell := b3, m__law_odd := PySem.W.mg_of X G a4, k__law_odd := k4, F__law_odd := F4, d__law_odd := b4, m__law_honest := PySem.W.mg_of X G a5, k__law_honest := k5, F__law_honest := F5, d__law_honest := b5, m__law_draws := PySem.W.mg_of X G a6, k__law_draws := k6, F__law_draws := F6, d__law_draws := b6, m__law_reason := PySem.W.mg_of X G a7, k__law_reason := k7, F__law_reason := F7, d__law_reason := b7, m_law := PySem.W.mg_of X G a8, k_law := k8, F_law := F8, d_law := b8, x_Refused := E_Refused, c_NAMES := ⟨_, PySem.W.mg_of X G g_NAMES, Sr.rel_of gr_NAMES⟩, c_MOST := ⟨_, PySem.W.mg_of X G g_MOST, Sr.rel_of gr_MOST⟩, b_len := PySem.W.mg_none_of X G z_len, b_int := PySem.W.mg_none_of X G z_int, b_range := PySem.W.mg_none_of X G z_range, b_isinstance := PySem.W.mg_none_of X G z_isinstance, b_tuple := PySem.W.mg_none_of X G z_tuple, b_list := PySem.W.mg_none_of X G z_list, b_str := PySem.W.mg_none_of X G z_str }
  exact ⟨_, fun s v => Sr.bindsAll F8 (fun _ _ _ _ _ _ us hl => match us, hl with | [_], _ => rfl) s v, fun base _ _ => ok_law (P := PySem.Challenge.pw_seriesroads_k59_full_texts) (w := w) (base := base) T⟩
end K59
open PySem PySem.W PyProof.Rows
set_option maxHeartbeats 0 in
theorem PySem.Challenge.cw_seriesroads_k59_full_texts_holds : PySem.Challenge.rw_seriesroads_k59_full_texts.Holds := by
  w_on; o_law; k_head; (case hw => w_witness2)
  k_fill
  refine L2.walk_ofB (l := PySem.Challenge.rw_seriesroads_k59_full_texts) (n := 63) (k := 7) (x := "script") (CX := fun _ => L2.CX0) (sp := fun w => K59.sp_law _) rfl (by decide) rfl ⟨rfl, by decide, by decide⟩ (fun w h Y => PySem.W.kIn_of Y) ?F (fun _ _ a ns hl hb _ hS => ⟨a, ns, rfl, hS, hl, hb, fun _ => rfl⟩) (fun _ _ _ _ _ h => h)
  case F =>
    intro w mg fa h KX G hmg
    refine' K59.all_mk KX G hmg ?a1 ?l1 ?c1 ?k1 ?a2 ?l2 ?c2 ?k2 ?a3 ?l3 ?c3 ?k3 ?a4 ?l4 ?c4 ?k4 ?a5 ?l5 ?c5 ?k5 ?a6 ?l6 ?c6 ?k6 ?a7 ?l7 ?c7 ?k7 ?a8 ?l8 ?c8 ?k8 ?x1_Refused ?x2_Refused ?x2b_Refused ?x3_Refused ?x4_Refused ?x5_Refused ?x6_Refused ?x7_Refused ?x8_Refused ?x9_Refused ?x10_Refused ?x11_Refused ?x12_Refused ?x13_Refused ?x14_Refused ?x15_Refused ?x16_Refused ?x17_Refused ?x18_Refused ?x19_Refused ?x21_Refused ?x22_Refused ?x23_Refused ?x24_Refused ?x25_Refused ?g_NAMES ?gr_NAMES ?g_MOST ?gr_MOST ?z_len ?z_int ?z_range ?z_isinstance ?z_tuple ?z_list ?z_str
    (case a1 => k_is)
    (case l1 => k_is)
    (case c1 => k_is)
    (case k1 => k_is)
    (case a2 => k_is)
    (case l2 => k_is)
    (case c2 => k_is)
    (case k2 => k_is)
    (case a3 => k_is)
    (case l3 => k_is)
    (case c3 => k_is)
    (case k3 => k_is)
    (case a4 => k_is)
    (case l4 => k_is)
    (case c4 => k_is)
    (case k4 => k_is)
    (case a5 => k_is)
    (case l5 => k_is)
    (case c5 => k_is)
    (case k5 => k_is)
    (case a6 => k_is)
    (case l6 => k_is)
    (case c6 => k_is)
    (case k6 => k_is)
    (case a7 => k_is)
    (case l7 => k_is)
    (case c7 => k_is)
    (case k7 => k_is)
    (case a8 => k_is)
    (case l8 => k_is)
    (case c8 => k_is)
    (case k8 => k_is)
    (case x1_Refused => k_is)
    (case x2_Refused => k_is)
    (case x2b_Refused => decide +kernel)
    (case x3_Refused => k_is)
    (case x4_Refused => k_is)
    (case x5_Refused => k_is)
    (case x6_Refused => k_is)
    (case x7_Refused => k_is)
    (case x8_Refused => k_is)
    (case x9_Refused => k_is)
    (case x10_Refused => k_is)
    (case x11_Refused => k_is)
    (case x12_Refused => k_is)
    (case x13_Refused => k_is)
    (case x14_Refused => k_is)
    (case x15_Refused => first | rfl | k_is)
    (case x16_Refused => k_is)
    (case x17_Refused => ks_is)
    (case x18_Refused => k_is)
    (case x19_Refused => k_is)
    (case x21_Refused => k_is)
    (case x22_Refused => k_is)
    (case x23_Refused => k_is)
    (case x24_Refused => k_is)
    (case x25_Refused => decide +kernel)
    (case g_NAMES => k_is)
    (case gr_NAMES => decide +kernel)
    (case g_MOST => k_is)
    (case gr_MOST => decide +kernel)
    (case z_len => k_is)
    (case z_int => k_is)
    (case z_range => k_is)
    (case z_isinstance => k_is)
    (case z_tuple => k_is)
    (case z_list => k_is)
    (case z_str => k_is)

