import PyProof.Rows.All
import Wide.All
import OpenK.AllK
import Wide.FinOn
import HandS.Defaults
import HandS.ForMost
import HandS.ForExc
import HandS.Flow
import HandS.Wide
import HandS.IsInst
import HandS.SortInts
import HandS.ExcInit
import HandS.ExcField
import HandS.ExcIs
import HandS.TryMany
import HandS.RevRange
import HandS.TupAny
import HandS.Deep
import HandS.Style
import HandS.More
import HandS.Conv
import HandS.SetFor
import HandS.Small
import HandS.DictComp
import KE.KExcIs
import HandS.SortRule
import KE.DataFind
import HandS.TupLe
import HandS.HotCalls
import HandS.ExcInitHot
import HandS.Comp
import HandS.Iter
import PySem.Challenge.RW_homeward_k15_refusals_apart
set_option Elab.async false
set_option linter.all false
set_option maxRecDepth 100000
set_option maxHeartbeats 4000000
set_option synthInstance.maxSize 2000




/-! HwA: a ledger of what may change over a ground that does not (Sy), and its moves. -/
namespace Hw
open PySem L2

/-! ### the ground and the ledger -/
abbrev Lg := List (Addr × (HO → Prop))
def Is (o : HO) : HO → Prop := fun u => u = o
/-- over the ground G (never changed) the ledger L (may change) stands in H -/
class Sy (G : outParam Hp) (L : outParam Lg) (H : Hp) : Prop where
  frz : Same G H
  get : ∀ p ∈ L, ∃ o, H p.1 = some o ∧ p.2 o
  off : ∀ p ∈ L, G p.1 = none
  nd : (L.map (·.1)).Nodup
theorem Sy.same {G H : Hp} (h : Same G H) : Sy G [] H := ⟨h, fun _ h => (nomatch h), fun _ h => (nomatch h), List.nodup_nil⟩
section
variable {G G' H H' : Hp} {L L' : Lg} {a b p : Addr} {o o' : HO} {φ φ' : HO → Prop}
theorem Sy.gnone (S : Sy G L H) (h : H p = none) : G p = none := S.frz.free h
theorem Sy.notin (S : Sy G L H) (h : H p = none) : p ∉ L.map (·.1) := fun hm => by
  obtain ⟨q, hq, e⟩ := List.mem_map.mp hm
  obtain ⟨u, hu, _⟩ := S.get q hq
  rw [e, h] at hu; cases hu
theorem Sy.upds (S : Sy G L H) (h : H p = none) : Same H (upd H p o) := fun c u e => by rw [upd_ne (ne_of_none e h)]; exact e
theorem same_new (h : G p = none) : Same G (upd G p o) := fun c u e => by rw [upd_ne (ne_of_none e h)]; exact e
/-- a new object, onto the ledger -/
theorem Sy.new (S : Sy G L H) (h : H p = none) (f : φ o) : Sy G ((p, φ) :: L) (upd H p o) where
  frz := S.frz.trans (S.upds h)
  get := fun q hq => by
    rcases List.mem_cons.mp hq with rfl | hq
    · exact ⟨o, upd_same, f⟩
    · obtain ⟨u, hu, k⟩ := S.get q hq
      exact ⟨u, S.upds h _ _ hu, k⟩
  off := fun q hq => by
    rcases List.mem_cons.mp hq with rfl | hq
    · exact S.gnone h
    · exact S.off q hq
  nd := List.nodup_cons.mpr ⟨S.notin h, S.nd⟩
/-- a new object, into the ground -/
theorem Sy.newF (S : Sy G L H) (h : H p = none) : Sy (upd G p o) L (upd H p o) where
  frz := fun c u e => by
    by_cases hc : c = p
    · subst hc; rw [upd_same] at e ⊢; exact e
    · rw [upd_ne hc] at e ⊢; exact S.frz _ _ e
  get := fun q hq => by
    obtain ⟨u, hu, k⟩ := S.get q hq
    exact ⟨u, S.upds h _ _ hu, k⟩
  off := fun q hq => by
    obtain ⟨u, hu, k⟩ := S.get q hq
    rw [upd_ne (ne_of_none hu h)]
    exact S.off q hq
  nd := S.nd
/-- the head of the ledger goes into the ground -/
theorem Sy.fz (S : Sy G ((p, Is o) :: L) H) : Sy (upd G p o) L H where
  frz := fun c u e => by
    by_cases hc : c = p
    · subst hc
      rw [upd_same] at e
      obtain ⟨v, hv, k⟩ := S.get _ (List.mem_cons_self ..)
      cases (show v = o from k)
      rw [← e]; exact hv
    · rw [upd_ne hc] at e; exact S.frz _ _ e
  get := fun q hq => S.get q (List.mem_cons_of_mem _ hq)
  off := fun q hq => by
    have hne : q.1 ≠ p := fun e => (List.nodup_cons.mp S.nd).1 (List.mem_map.mpr ⟨q, hq, e⟩)
    rw [upd_ne hne]; exact S.off q (List.mem_cons_of_mem _ hq)
  nd := (List.nodup_cons.mp S.nd).2
theorem Sy.hd0 (S : Sy G ((p, φ) :: L) H) : G p = none := S.off _ (List.mem_cons_self ..)
theorem Sy.drop {x : Addr × (HO → Prop)} (S : Sy G (x :: L) H) : Sy G L H :=
  ⟨S.frz, fun q hq => S.get q (List.mem_cons_of_mem _ hq), fun q hq => S.off q (List.mem_cons_of_mem _ hq), (List.nodup_cons.mp S.nd).2⟩
/-- the ledger in another order, or some of it -/
theorem Sy.sub (S : Sy G L H) (h : L' ⊆ L) (n : (L'.map (·.1)).Nodup) : Sy G L' H := ⟨S.frz, fun q hq => S.get q (h hq), fun q hq => S.off q (h hq), n⟩
theorem Sy.swap {x y : Addr × (HO → Prop)} (S : Sy G (x :: y :: L) H) : Sy G (y :: x :: L) H :=
  S.sub (fun q hq => by simp only [List.mem_cons] at hq ⊢; rcases hq with h | h | h <;> simp [h]) (by
    have := S.nd; simp only [List.map_cons, List.nodup_cons, List.mem_cons, not_or] at this ⊢
    exact ⟨⟨fun e => this.1.1 e.symm, this.2.1⟩, this.1.2, this.2.2⟩)
theorem Sy.rot2 {x y z : Addr × (HO → Prop)} (S : Sy G (x :: y :: z :: L) H) : Sy G (z :: x :: y :: L) H :=
  S.sub (fun q hq => by simp only [List.mem_cons] at hq ⊢; rcases hq with h | h | h | h <;> simp [h]) (by
    have := S.nd; simp only [List.map_cons, List.nodup_cons, List.mem_cons, not_or] at this ⊢
    exact ⟨⟨fun e => this.1.2.1 e.symm, fun e => this.2.1.1 e.symm, this.2.2.1⟩, ⟨this.1.1, this.1.2.2⟩, this.2.1.2, this.2.2.2⟩)
/-- an entry's kind is widened -/
theorem Sy.wide (S : Sy G ((p, φ) :: L) H) (w : ∀ o, φ o → φ' o) : Sy G ((p, φ') :: L) H :=
  ⟨S.frz, fun q hq => by
    rcases List.mem_cons.mp hq with rfl | hq
    · obtain ⟨u, hu, k⟩ := S.get _ (List.mem_cons_self ..)
      exact ⟨u, hu, w _ k⟩
    · exact S.get q (List.mem_cons_of_mem _ hq), fun q hq => by
    rcases List.mem_cons.mp hq with rfl | hq
    · exact S.off (p, φ) (List.mem_cons_self ..)
    · exact S.off q (List.mem_cons_of_mem _ hq), S.nd⟩
theorem Sy.weak (s : Same G G') (S : Sy G' L H) : Sy G L H := ⟨s.trans S.frz, S.get, fun q hq => s.free (S.off q hq), S.nd⟩
theorem Sy.drop2 {x y : Addr × (HO → Prop)} (S : Sy G (x :: y :: L) H) : Sy G (x :: L) H := S.swap.drop
theorem Sy.drop3 {x y z : Addr × (HO → Prop)} (S : Sy G (x :: y :: z :: L) H) : Sy G (x :: y :: L) H := S.rot2.drop
theorem Sy.wide2 {x : Addr × (HO → Prop)} (S : Sy G (x :: (p, φ) :: L) H) (w : ∀ o, φ o → φ' o) : Sy G (x :: (p, φ') :: L) H := (S.swap.wide w).swap
theorem Sy.fz2 {x : Addr × (HO → Prop)} (S : Sy G (x :: (p, Is o) :: L) H) : Sy (upd G p o) (x :: L) H := S.swap.fz
/-- the first entries go into the ground, all at once -/
theorem Sy.freeze {E : Lg} (S : Sy G (E ++ L) H) : ∃ G', Same G G' ∧ Sy G' L H ∧ ∀ p o, (p, Is o) ∈ E → G' p = some o := by
  refine ⟨fun a => if a ∈ L.map (·.1) then none else H a, fun c u e => ?_, ⟨fun c u e => ?_, fun q hq => S.get q (List.mem_append_right _ hq), fun q hq => ?_, ?_⟩, fun p o hp => ?_⟩
  · have hn : c ∉ L.map (·.1) := fun hm => by
      obtain ⟨q, hq, eq⟩ := List.mem_map.mp hm
      have := S.off q (List.mem_append_right _ hq)
      rw [eq, e] at this; cases this
    show (if c ∈ L.map (·.1) then none else H c) = some u
    rw [if_neg hn]; exact S.frz _ _ e
  · by_cases hm : c ∈ L.map (·.1)
    · rw [if_pos hm] at e; cases e
    · rw [if_neg hm] at e; exact e
  · show (if q.1 ∈ L.map (·.1) then none else H q.1) = none
    rw [if_pos (List.mem_map_of_mem hq)]
  · have := S.nd
    rw [List.map_append] at this
    exact (List.nodup_append.mp this).2.1
  · have hn : p ∉ L.map (·.1) := fun hm => by
      have := S.nd
      rw [List.map_append] at this
      exact (List.nodup_append.mp this).2.2 p (List.mem_map.mpr ⟨_, hp, rfl⟩) p hm rfl
    show (if p ∈ L.map (·.1) then none else H p) = some o
    rw [if_neg hn]
    obtain ⟨u, hu, k⟩ := S.get _ (List.mem_append_left _ hp)
    cases (show u = o from k)
    exact hu
theorem Sy.at (S : Sy G L H) (m : (a, Is o) ∈ L) : H a = some o := by
  obtain ⟨u, hu, k⟩ := S.get _ m
  cases (show u = o from k)
  exact hu
/-- the entry at a becomes φ' -/
inductive Put (a : Addr) (φ' : HO → Prop) : Lg → Lg → Prop
  | hd {φ : HO → Prop} {L : Lg} : Put a φ' ((a, φ) :: L) ((a, φ') :: L)
  | tl {x : Addr × (HO → Prop)} {L L' : Lg} : Put a φ' L L' → Put a φ' (x :: L) (x :: L')
theorem Put.fst (h : Put a φ' L L') : L'.map (·.1) = L.map (·.1) := by
  induction h with
  | hd => rfl
  | tl _ ih => rw [List.map_cons, List.map_cons, ih]
theorem Put.mem (h : Put a φ' L L') : a ∈ L.map (·.1) := by
  induction h with
  | hd => exact List.mem_cons_self ..
  | tl _ ih => exact List.mem_cons_of_mem _ ih
theorem Put.of (h : Put a φ' L L') (n : (L.map (·.1)).Nodup) : ∀ q ∈ L', (q.1 = a ∧ q.2 = φ') ∨ (q.1 ≠ a ∧ q ∈ L) := by
  induction h with
  | @hd φ L =>
    intro q hq
    rcases List.mem_cons.mp hq with rfl | hq
    · exact .inl ⟨rfl, rfl⟩
    · exact .inr ⟨fun e => (List.nodup_cons.mp n).1 (List.mem_map.mpr ⟨q, hq, e⟩), List.mem_cons_of_mem _ hq⟩
  | @tl x L L' h ih =>
    intro q hq
    rcases List.mem_cons.mp hq with rfl | hq
    · exact .inr ⟨fun e => (List.nodup_cons.mp n).1 (by show q.1 ∈ _; rw [e]; exact h.mem), List.mem_cons_self ..⟩
    · rcases ih (List.nodup_cons.mp n).2 q hq with k | k
      · exact .inl k
      · exact .inr ⟨k.1, List.mem_cons_of_mem _ k.2⟩
/-- an object of the ledger is written -/
theorem Sy.wr (S : Sy G L H) (h : Put a φ' L L') (f : φ' o') : Sy G L' (upd H a o') where
  frz := fun c u e => by
    obtain ⟨q, hq, ea⟩ := List.mem_map.mp h.mem
    have := S.off q hq
    rw [ea] at this
    rw [upd_ne (ne_of_none e this)]; exact S.frz _ _ e
  get := fun q hq => by
    rcases h.of S.nd q hq with ⟨e, k⟩ | ⟨e, k⟩
    · exact ⟨o', by rw [e, upd_same], by rw [k]; exact f⟩
    · obtain ⟨u, hu, z⟩ := S.get q k
      exact ⟨u, by rw [upd_ne e]; exact hu, z⟩
  off := fun q hq => by
    rcases h.of S.nd q hq with ⟨e, k⟩ | ⟨e, k⟩
    · obtain ⟨r, hr, ea⟩ := List.mem_map.mp h.mem
      rw [e, ← ea]; exact S.off r hr
    · exact S.off q k
  nd := by rw [h.fst]; exact S.nd
/-- the same, the entry's kind stays (the bag) -/
theorem put_self : ∀ {L : Lg}, (a, φ) ∈ L → Put a φ L L
  | x :: L, h => by
    by_cases e : x = (a, φ)
    · subst e; exact .hd
    · exact .tl (put_self ((List.mem_cons.mp h).resolve_left fun z => e z.symm))
theorem Sy.wr1 (S : Sy G L H) (m : (a, φ) ∈ L) (f : φ o') : Sy G L (upd H a o') := S.wr (put_self m) f
/-- one entry alone, all else the ground -/
theorem Sy.focus (S : Sy G L H) (h : H b = some o) : Sy (del H b) [(b, Is o)] H where
  frz := fun c u e => by
    by_cases hc : c = b
    · rw [hc, del_same] at e; cases e
    · rw [del_ne hc] at e; exact e
  get := fun q hq => by
    rcases List.mem_cons.mp hq with rfl | hq
    · exact ⟨o, h, rfl⟩
    · cases hq
  off := fun q hq => by
    rcases List.mem_cons.mp hq with rfl | hq
    · exact del_same
    · cases hq
  nd := by simp
theorem Sy.unfocus (S : Sy G L H) (m : (b, φ) ∈ L) (S2 : Sy (del H b) [(b, Is o')] H') (f : φ o') : Sy G L H' where
  frz := fun c u e => by
    have hc : c ≠ b := fun z => by rw [z, S.off _ m] at e; cases e
    exact S2.frz _ _ (by rw [del_ne hc]; exact S.frz _ _ e)
  get := fun q hq => by
    by_cases hc : q.1 = b
    · have := (put_self m).of S.nd q hq
      rcases this with ⟨_, k⟩ | ⟨k, _⟩
      · exact ⟨o', by rw [hc]; exact S2.at (List.mem_cons_self ..), by rw [k]; exact f⟩
      · exact absurd hc k
    · obtain ⟨u, hu, k⟩ := S.get q hq
      exact ⟨u, S2.frz _ _ (by rw [del_ne hc]; exact hu), k⟩
  off := S.off
  nd := S.nd
theorem Sy.seq {K : PySem.W.Frag} {xs : List V} (S : Sy G L H) (m : (a, Is (.lst xs)) ∈ L) : SqL K H a xs := .inl (.inl (S.at m))
theorem Sy.fr {K : PySem.W.Frag} {xs : List V} (S : Sy G L H) (h : SqL K G a xs) : SqL K H a xs := S.frz.seq h
end

/-! ### data -/
theorem same_rd {H H' : Hp} {a : Addr} {u : HO} (e : Same H H') (h : Rd H a u) : Rd H' a u := by
  rcases h with h | ⟨o, h⟩
  · exact .inl (e _ _ h)
  · exact .inr ⟨o, e _ _ h⟩
theorem same_t {K : PySem.W.Frag} {H H' : Hp} {a : Addr} {xs : List V} (e : Same H H') (h : SqT K H a xs) : SqT K H' a xs := by
  rcases h with h | h
  · exact .inl (same_rd e h)
  · exact .inr h
mutual
theorem dp_mono {K : PySem.W.Frag} {H H' : Hp} (e : Same H H') : ∀ (d : PyData) {v : V}, Dp K H v d → Dp K H' v d
  | .none, _, h => by cases h; exact .non
  | .bool b, _, h => by cases h; exact .bl b
  | .int i, _, h => by cases h; exact .int i
  | .str x, _, h => by cases h; exact .str x
  | .list ds, _, h => by cases h with | lst hs ha => exact .lst (e.seq hs) (dpa_mono e ds ha)
  | .tuple ds, _, h => by cases h with | tup hs ha => exact .tup (same_t e hs) (dpa_mono e ds ha)
  | .dict _, _, h => by cases h
theorem dpa_mono {K : PySem.W.Frag} {H H' : Hp} (e : Same H H') : ∀ (ds : List PyData) {vs : List V}, DpAll K H vs ds → DpAll K H' vs ds
  | [], _, h => by cases h; exact .nil
  | d :: ds, _, h => by cases h with | cons h1 h2 => exact .cons (dp_mono e d h1) (dpa_mono e ds h2)
end
theorem Dp.mono {K : PySem.W.Frag} {H H' : Hp} {v : V} {d : PyData} (e : Same H H') (h : Dp K H v d) : Dp K H' v d := dp_mono e d h
theorem DpAll.mono {K : PySem.W.Frag} {H H' : Hp} {vs : List V} {ds : List PyData} (e : Same H H') (h : DpAll K H vs ds) : DpAll K H' vs ds := dpa_mono e ds h
theorem dpa_ints {K : PySem.W.Frag} {H : Hp} : ∀ (ns : List Int), DpAll K H (ns.map V.int) (ns.map PyData.int)
  | [] => .nil
  | n :: ns => .cons (.int n) (dpa_ints ns)
theorem dpa_length {K : PySem.W.Frag} {H : Hp} : ∀ {ds : List PyData} {vs : List V}, DpAll K H vs ds → vs.length = ds.length
  | [], _, h => by cases h; rfl
  | d :: ds, _, h => by cases h with | cons h1 h2 => rw [List.length_cons, List.length_cons, dpa_length h2]
theorem dpa_append {K : PySem.W.Frag} {H : Hp} : ∀ {ds es : List PyData} {vs ws : List V}, DpAll K H vs ds → DpAll K H ws es → DpAll K H (vs ++ ws) (ds ++ es)
  | [], _, _, _, h, k => by cases h; exact k
  | d :: ds, _, _, _, h, k => by cases h with | cons h1 h2 => exact .cons h1 (dpa_append h2 k)
theorem dpa_get {K : PySem.W.Frag} {H : Hp} : ∀ {ds : List PyData} {vs : List V} {i : Nat} {d : PyData}, DpAll K H vs ds → ds[i]? = some d → ∃ v, vs[i]? = some v ∧ Dp K H v d
  | [], _, _, _, _, e => by simp at e
  | d :: ds, _, 0, _, h, e => by cases h with | cons h1 h2 => simp at e; subst e; exact ⟨_, rfl, h1⟩
  | d :: ds, _, i + 1, _, h, e => by
    cases h with | cons h1 h2 =>
    obtain ⟨v, k1, k2⟩ := dpa_get (i := i) h2 (by simpa using e)
    exact ⟨v, by simpa using k1, k2⟩
end Hw





/-! HwE: == and != of two lists or tuples of the very same things; of a dict and a tuple. -/
namespace PySem.SeqAt
open MeetsSeq MeetsSeq2 MeetsSeq3
section
variable {A : Around} {s : Shared}
theorem RcAt.dict_tuple {l b : Addr} {items : Array Value} (ta : s.TypeIs (.ref l) "dict") (hb : s.heap.IsTuple b items) (hu : A.units < cLine) : RcAt A s (.ref l) (.ref b) false := fun prog w E Q h => by
  obtain ⟨⟨cls2, dd2, data2, sl2⟩, ho2, hc2, n2, hd2⟩ := id hb
  simp only at hc2 hd2
  subst hc2 hd2
  have tb : s.TypeIs (.ref b) "tuple" := ⟨_, ho2, rfl⟩
  have hne : l ≠ b := fun e => by
    subst e
    obtain ⟨o, ho, hc⟩ := ta
    rw [ho2] at ho
    cases ho
    exact absurd hc (by simp)
  obtain ⟨o1, ho1, hc1⟩ := id ta
  refine rc_eq_decline_or (k := false) ta tb (by decide) F.sub_tuple_dict F.slot_dict_eq F.slot_tuple_eq_refl (fun Q' hq => ?_) (fun Q' hq => ?_) (fun Q' hq => wpAny_isSame_ref_other hne ho1 ho2 (by rw [hc1]; simp) hq) (.inr hu) h
  · refine wpAny_call_entry PySem.F.slot_dict_eq ta PySem.F.entry_dict_eq ?_ (PySem.F.args_dict_eq_2 _ _)
    show wpAny _ _ (Builtin.Dict.dictSlotArgs "__eq__" ⟨[.ref l, .ref b], []⟩ >>= _) _ _ s
    refine wpAny_bind ?_
    unfold Builtin.Dict.dictSlotArgs
    refine wpAny_bind (wpAny_notOrdered_dict ta ?_)
    show wpAny _ _ (pure (Value.ref l, Value.ref b)) _ _ s
    refine wpAny_pure ?_
    refine wpAny_bind (wpAny_isInstance (T := "tuple") tb PySem.F.sub_tuple_dict ?_)
    simp only [Bool.not_false, if_true]
    wp_walk
    exact ⟨_, rfl, hq⟩
  · refine wpAny_call_entry PySem.F.slot_tuple_eq_refl tb PySem.F.entry_tuple_eq ?_ (F.args_tuple_eq_2 _ _)
    obtain ⟨cls1, dd1, data1, sl1⟩ := o1
    dsimp only at hc1
    subst hc1
    have f1 := F.sub_dict_tuple
    obtain ⟨hp, g, d, tk, os⟩ := s
    wp_walk using AutoSeq1.wpAny_loadPart' ho2, AutoSeq1.wpAny_loadPart' ho1
    exact ⟨_, rfl, hq⟩
theorem RcAt.dict_str {l : Addr} (b : Str) (u : Tok) (ta : s.TypeIs (.ref l) "dict") (td : ∃ o es ep, s.heap.get? l = some o ∧ o.data = .dict es ep) (hu : A.units < cLine) : RcAt A s (.ref l) (.str b u) false := fun prog w E Q h => by
  have tb : s.TypeIs (.str b u) "str" := typeIs_str s b u
  refine rc_eq_decline_or (k := false) ta tb (by decide) F.sub_str_dict F.slot_dict_eq F.slot_str_eq_refl (fun Q' hq => ?_) (fun Q' hq => ?_) (fun Q' hq => wpAny_of_eq (rfl : isSame (.ref l) (.str b u) = pure false) hq) (.inr hu) h
  · refine wpAny_call_entry PySem.F.slot_dict_eq ta PySem.F.entry_dict_eq ?_ (PySem.F.args_dict_eq_2 _ _)
    show wpAny _ _ (Builtin.Dict.dictSlotArgs "__eq__" ⟨[.ref l, .str b u], []⟩ >>= _) _ _ s
    refine wpAny_bind ?_
    unfold Builtin.Dict.dictSlotArgs
    refine wpAny_bind (wpAny_notOrdered_dict ta ?_)
    show wpAny _ _ (pure (Value.ref l, Value.str b u)) _ _ s
    refine wpAny_pure ?_
    refine wpAny_bind (wpAny_isInstance (T := "str") tb PySem.F.sub_str_dict ?_)
    simp only [Bool.not_false, if_true]
    wp_walk
    exact ⟨_, rfl, hq⟩
  · refine wpAny_call_entry PySem.F.slot_str_eq_refl tb PySem.F.entry_str_eq ?_ (F.args_str_eq_2 _ _)
    obtain ⟨o1, ho1, hc1⟩ := id ta
    obtain ⟨o2, es, ep, ho2, hd2⟩ := td
    rw [ho1] at ho2
    cases ho2
    obtain ⟨cls1, dd1, data1, sl1⟩ := o1
    dsimp only at hc1 hd2
    subst hc1 hd2
    have f1 := F.sub_dict_str
    obtain ⟨hp, g, d, tk, os⟩ := s
    wp_walk using AutoSeq1.wpAny_loadPart' ho1
    exact ⟨_, rfl, hq⟩
end
end PySem.SeqAt
namespace Hw
open PySem PySem.Spec PyProof.Rows L2
def okS : V → Bool | .ref _ => true | v => flatB v
theorem eqAt_okS {A : Around} {s : Shared} {x : V} {u u' : Value} (r : RelV x u) (r' : RelV x u') (f : okS x = true) : SeqAt.EqAt A s u u' true := by
  cases x with
  | ref a => cases (show u = Value.ref a from r); cases (show u' = Value.ref a from r'); exact SeqAt.EqAt.same _
  | non => exact eqAt_same r r' f
  | bl b => exact eqAt_same r r' f
  | int i => exact eqAt_same r r' f
  | str z => exact eqAt_same r r' f
  | byt z => exact eqAt_same r r' f
  | flt z => exact eqAt_same r r' f
  | ty z => exact eqAt_same r r' f
theorem eqAt_okSs {A : Around} {s : Shared} : ∀ {xs : List V} {us us' : List Value}, Vals xs us → Vals xs us' → (∀ x ∈ xs, okS x = true) → ∀ j (h1 : j < us.length) (h2 : j < us'.length), SeqAt.EqAt A s us[j] us'[j] true
  | [], _, _, r, _, _ => fun j h1 _ => by cases r; exact absurd h1 (Nat.not_lt_zero j)
  | x :: xs, _, _, r, r', f => fun j h1 h2 => by
    cases r with
    | cons a1 b1 =>
      cases r' with
      | cons a2 b2 =>
        cases j with
        | zero => exact eqAt_okS a1 a2 (f _ (List.mem_cons_self ..))
        | succ j => exact eqAt_okSs b1 b2 (fun y hy => f y (List.mem_cons_of_mem _ hy)) j (Nat.lt_of_succ_lt_succ h1) (Nat.lt_of_succ_lt_succ h2)
def rSm (K : PySem.W.Frag) (c : Bool) : R2 := fun x y H Q => ∃ a b xs, x = .ref a ∧ y = .ref b ∧ ((SqL K H a xs ∧ SqL K H b xs) ∨ (SqT K H a xs ∧ SqT K H b xs)) ∧ (∀ x ∈ xs, okS x = true) ∧ Q (.bl c) H
def rDT (K : PySem.W.Frag) : R2 := fun x y H Q => ∃ a b kvs ys, x = .ref a ∧ y = .ref b ∧ (H a = some (.dK kvs) ∨ ∃ xs, SqL K H a xs) ∧ SqT K H b ys ∧ Q (.bl false) H
/-- a dict and a text -/
def rDS (K : PySem.W.Frag) : R2 := fun x y H Q => ∃ a z, x = .ref a ∧ y = .str z ∧ ((∃ kvs, H a = some (.dK kvs)) ∨ (∃ xs, SqL K H a xs) ∨ ∃ xs, SqT K H a xs) ∧ Q (.bl false) H
section
variable {X : Cx}
theorem all_rng {n : Nat} : ((List.range n).all fun _ => true) = true := List.all_eq_true.mpr fun _ _ => rfl
theorem op_eqSm (hu : X.A.units + 64 < cLine) : OpR X (compareOp .Eq) (rSm X.K true) := by
  intro pins s σ H x y v u Q I rx ry h
  obtain ⟨a, b, xs, rfl, rfl, hs, hk, q⟩ := h
  cases (show v = Value.ref a from rx)
  cases (show u = Value.ref b from ry)
  rcases hs with ⟨ha, hb⟩ | ⟨ha, hb⟩
  · obtain ⟨us, r1, p1, _⟩ := I.list ha
    obtain ⟨ws, r2, p2, _⟩ := I.list hb
    have hsz : us.toArray.size = ws.toArray.size := by rw [List.size_toArray, List.size_toArray, ← r1.length, ← r2.length]
    refine SeqAt.RcAt.lists (e := fun _ => true) p1.isList p2.isList hsz (by omega) (fun j h1 h2 => ?_) _ _ _ _ ?_
    · have k := eqAt_okSs (A := X.A.in1) (s := s) r1 r2 hk j (by simpa using h1) (by simpa using h2)
      simpa using k
    · rw [all_rng]; exact ⟨.bl true, H, I, rfl, q⟩
  · obtain ⟨us, r1, p1, _⟩ := I.tuple ha
    obtain ⟨ws, r2, p2, _⟩ := I.tuple hb
    have hsz : us.toArray.size = ws.toArray.size := by rw [List.size_toArray, List.size_toArray, ← r1.length, ← r2.length]
    refine SeqAt.RcAt.tuples (e := fun _ => true) p1 p2 (by omega) (fun j h1 h2 => ?_) _ _ _ _ ?_
    · have k := eqAt_okSs (A := X.A.in1) (s := s) r1 r2 hk j (by simpa using h1) (by simpa using h2)
      simpa using k
    · rw [all_rng, hsz, Bool.true_and, beq_self_eq_true]; exact ⟨.bl true, H, I, rfl, q⟩
theorem op_neSm (hu : X.A.units + 64 < cLine) : OpR X (compareOp .NotEq) (rSm X.K false) := by
  intro pins s σ H x y v u Q I rx ry h
  obtain ⟨a, b, xs, rfl, rfl, hs, hk, q⟩ := h
  cases (show v = Value.ref a from rx)
  cases (show u = Value.ref b from ry)
  rcases hs with ⟨ha, hb⟩ | ⟨ha, hb⟩
  · obtain ⟨us, r1, p1, _⟩ := I.list ha
    obtain ⟨ws, r2, p2, _⟩ := I.list hb
    have hsz : us.toArray.size = ws.toArray.size := by rw [List.size_toArray, List.size_toArray, ← r1.length, ← r2.length]
    refine SeqAt.RcNeAt.lists (e := fun _ => true) p1.isList p2.isList hsz (by omega) (fun j h1 h2 => ?_) _ _ _ _ ?_
    · have k := eqAt_okSs (A := X.A.in1) (s := s) r1 r2 hk j (by simpa using h1) (by simpa using h2)
      simpa using k
    · rw [all_rng]; exact ⟨.bl false, H, I, rfl, q⟩
  · obtain ⟨us, r1, p1, _⟩ := I.tuple ha
    obtain ⟨ws, r2, p2, _⟩ := I.tuple hb
    have hsz : us.toArray.size = ws.toArray.size := by rw [List.size_toArray, List.size_toArray, ← r1.length, ← r2.length]
    refine SeqAt.RcNeAt.tuples (e := fun _ => true) p1 p2 (by omega) (fun j h1 h2 => ?_) _ _ _ _ ?_
    · have k := eqAt_okSs (A := X.A.in1) (s := s) r1 r2 hk j (by simpa using h1) (by simpa using h2)
      simpa using k
    · rw [all_rng, hsz, Bool.true_and, beq_self_eq_true]; exact ⟨.bl false, H, I, rfl, q⟩
/-- two lists of unlike lengths -/
def rLd (K : PySem.W.Frag) (c : Bool) : R2 := fun x y H Q => ∃ a b xs ys, x = .ref a ∧ y = .ref b ∧ SqL K H a xs ∧ SqL K H b ys ∧ xs.length ≠ ys.length ∧ Q (.bl c) H
theorem op_eqLd (hu : X.A.units + 64 < cLine) : OpR X (compareOp .Eq) (rLd X.K false) := by
  intro pins s σ H x y v u Q I rx ry h
  obtain ⟨a, b, xs, ys, rfl, rfl, ha, hb, hn, q⟩ := h
  cases (show v = Value.ref a from rx)
  cases (show u = Value.ref b from ry)
  obtain ⟨us, r1, p1, _⟩ := I.list ha
  obtain ⟨ws, r2, p2, _⟩ := I.list hb
  exact SeqAt.RcAt.lists_lengths p1.isList p2.isList (by rw [List.size_toArray, List.size_toArray, ← r1.length, ← r2.length]; simpa using hn) (by omega) _ _ _ _ ⟨.bl false, H, I, rfl, q⟩
theorem op_neLd (hu : X.A.units + 64 < cLine) : OpR X (compareOp .NotEq) (rLd X.K true) := by
  intro pins s σ H x y v u Q I rx ry h
  obtain ⟨a, b, xs, ys, rfl, rfl, ha, hb, hn, q⟩ := h
  cases (show v = Value.ref a from rx)
  cases (show u = Value.ref b from ry)
  obtain ⟨us, r1, p1, _⟩ := I.list ha
  obtain ⟨ws, r2, p2, _⟩ := I.list hb
  exact SeqAt.RcNeAt.lists_lengths p1.isList p2.isList (by rw [List.size_toArray, List.size_toArray, ← r1.length, ← r2.length]; simpa using hn) (by omega) _ _ _ _ ⟨.bl true, H, I, rfl, q⟩
theorem op_eqDT (hu : X.A.units + 64 < cLine) : OpR X (compareOp .Eq) (rDT X.K) := by
  intro pins s σ H x y v u Q I rx ry h
  obtain ⟨a, b, kvs, ys, rfl, rfl, ha, hb, q⟩ := h
  cases (show v = Value.ref a from rx)
  cases (show u = Value.ref b from ry)
  obtain ⟨ws, r2, p2, _⟩ := I.tuple hb
  rcases ha with ha | ⟨xs, ha⟩
  rotate_left
  · obtain ⟨us, r1, p1, _⟩ := I.list ha
    exact SeqAt.RcAt.list_tuple p1.isList p2 (by omega) _ _ _ _ ⟨.bl false, H, I, rfl, q⟩
  obtain ⟨_, ya, va, ra, da⟩ := (show ObjOk X.prog X.w H s.heap a (.dK kvs) from I.hok a _ ha)
  exact SeqAt.RcAt.dict_tuple da.typeIs p2 (by omega) _ _ _ _ ⟨.bl false, H, I, rfl, q⟩
theorem op_eqDS (hu : X.A.units + 64 < cLine) : OpR X (compareOp .Eq) (rDS X.K) := by
  intro pins s σ H x y v u Q I rx ry h
  obtain ⟨a, z, rfl, rfl, ha, q⟩ := h
  cases (show v = Value.ref a from rx)
  obtain ⟨t, rfl⟩ := (show ∃ t, u = Value.str z t from ry)
  rcases ha with ⟨kvs, ha⟩ | ⟨xs, ha⟩ | ⟨xs, ha⟩
  rotate_left
  · obtain ⟨us, r1, p1, _⟩ := I.list ha
    exact SeqAt.RcAt.list_str z t p1.isList (by omega) _ _ _ _ ⟨.bl false, H, I, rfl, q⟩
  · obtain ⟨us, r1, p1, _⟩ := I.tuple ha
    exact SeqAt.RcAt.tuple_str z t p1 (by omega) _ _ _ _ ⟨.bl false, H, I, rfl, q⟩
  obtain ⟨_, ya, va, ra, da⟩ := (show ObjOk X.prog X.w H s.heap a (.dK kvs) from I.hok a _ ha)
  exact SeqAt.RcAt.dict_str z t da.typeIs (let ⟨o, es, ep, ho, _, hd, _⟩ := da; ⟨o, es, ep, ho, hd⟩) (by omega) _ _ _ _ ⟨.bl false, H, I, rfl, q⟩
end
end Hw





/-! HwB: one rule an operation, whatever the operands; calls that may raise, in any place. -/
namespace Hw
open PySem PySem.Spec PyProof.Rows L2

/-! ### readings -/
def rAddU (K : PySem.W.Frag) : R2 := fun x y H Q => (rI0 fun i j => .int (i + j)) x y H Q ∨ (∃ i j, x = .str i ∧ y = .str j ∧ i.length + j.length ≤ sizeLine ∧ Q (.str (i ++ j)) H) ∨ rCat x y H Q ∨ rCatA K x y H Q
def CMulX (i j : Int) : Prop := CMul i j ∨ CMulW i j
def rMulU : R2 := fun x y H Q => (rI CMulX fun i j => .int (i * j)) x y H Q ∨ rRep x y H Q
def rEqU (K : PySem.W.Frag) : R2 := fun x y H Q => rEq x y H Q ∨ rEqD K x y H Q ∨ rSm K true x y H Q ∨ (rDT K x y H Q ∨ rDS K x y H Q) ∨ rLd K false x y H Q
def rNeU (K : PySem.W.Frag) : R2 := fun x y H Q => rNe x y H Q ∨ rNeD K x y H Q ∨ rSm K false x y H Q ∨ rNeDA x y H Q ∨ rLd K true x y H Q
def rIsU : R2 := fun x y H Q => (y = .non ∧ Q (.bl (decide (x = .non))) H) ∨ rIsB x y H Q ∨ (∃ a b oa ob, x = .ref a ∧ y = .ref b ∧ H a = some oa ∧ isObj oa = true ∧ H b = some ob ∧ isObj ob = true ∧ Q (.bl (decide (a = b))) H)
def rNotU : R2 := fun x y H Q => (y = .non ∧ Q (.bl (!decide (x = .non))) H) ∨ rNotB x y H Q
def rDIn (neg : Bool) : R2 := fun y x H Q => ∃ a o, x = .ref a ∧ DGet H a y o ∧ Q (.bl (if neg then !o.isSome else o.isSome)) H
def rInStr (neg : Bool) : R2 := fun x y H Q => ∃ (c : Nat) (z : Str), x = .str ⟨#[c]⟩ ∧ y = .str z ∧ Q (.bl (if neg then !decide (c ∈ z.cps.toList) else decide (c ∈ z.cps.toList))) H
def rInU (K : PySem.W.Frag) (neg : Bool) : R2 := fun x y H Q => rIn K neg x y H Q ∨ rDIn neg x y H Q ∨ (if neg then rNotInD K x y H Q else rInD K x y H Q) ∨ rInStr neg x y H Q
def rIxD1 : R2 := fun x y H Q => ∃ a v, x = .ref a ∧ DGet H a y (some v) ∧ Q v H
def rIxU (K : PySem.W.Frag) : R2 := fun x y H Q => rIx K x y H Q ∨ rIxD1 x y H Q
def rSlU (K : PySem.W.Frag) : V → Option Int → Option Int → Hp → VK → Prop := fun x lo hi H Q => rSlL K x lo hi H Q ∨ rSlA K x lo hi H Q ∨ rSlS x lo hi H Q
def rDPut : TSet := fun o i v H Q => ∃ a H', o = .ref a ∧ DPut H a i v H' ∧ Q H'
def rSetU : TSet := fun o i v H Q => rSetL o i v H Q ∨ rDPut o i v H Q
def rLenU (K : PySem.W.Frag) : List V → Hp → VK → Prop := fun xs H Q => (∃ x n, xs = [x] ∧ LenV K x H n ∧ Q (.int n) H) ∨ (∃ a kvs, xs = [V.ref a] ∧ H a = some (.dK kvs) ∧ Q (.int kvs.length) H)
def rListU (K : PySem.W.Frag) : List V → Hp → VK → Prop := fun xs H Q => (∃ p ys, xs = [.ref p] ∧ (SqL K H p ys ∨ SqT K H p ys) ∧ ∀ l, H l = none → Q (.ref l) (upd H l (.lst ys))) ∨ rListD xs H Q
def rDictU (K : PySem.W.Frag) : List V → Hp → VK → Prop := fun xs H Q => (∃ (a : Addr) (ps : List Addr) (kvs : List (Key × V)), xs = [.ref a] ∧ SqL K H a (ps.map V.ref) ∧ Paired (fun p kv => SqT K H p [kV kv.1, kv.2]) ps kvs ∧
    ∀ p, H p = none → Q (.ref p) (upd H p (.dK (mergeK [] kvs)))) ∨ (∃ (a : Addr) (kvs : List (Key × V)), xs = [.ref a] ∧ Rd H a (.dK kvs) ∧ ∀ p, H p = none → Q (.ref p) (upd H p (.dK kvs)))
def rIntU : List V → Hp → VK → Prop := fun xs H Q => ((∃ i, xs = [.int i] ∧ Q (.int i) H) ∨ ∃ k, xs = [.bl k] ∧ Q (.int (if k then 1 else 0)) H) ∨ (∃ a n, xs = [.str a] ∧ PySem.intText? a = some n ∧ a.length ≤ 640 ∧ Q (.int n) H)
def rStrU : List V → Hp → VK → Prop := fun xs H Q => ∃ i, xs = [.int i] ∧ i.natAbs.log2 < 1920 ∧ Q (.str (toString i)) H
def rIsiU (K : PySem.W.Frag) : List V → Hp → VK → Prop := rIsi K

section
variable {X : Cx}
theorem u_add : OpR X (binaryOp .Add) (rAddU X.K) := op_add.or (op_add_str.or (op_cat.or op_catA))
theorem u_mulI : OpR X (binaryOp .Mult) (rI CMulX fun i j => .int (i * j)) := by
  intro pins s σ H x y v u Q I rx ry h
  obtain ⟨i, j, e1, e2, c, q⟩ := h
  rcases c with c | c
  · exact op_mul pins s σ H x y v u Q I rx ry ⟨i, j, e1, e2, c, q⟩
  · exact op_mulW pins s σ H x y v u Q I rx ry ⟨i, j, e1, e2, c, q⟩
theorem u_mul : OpR X (binaryOp .Mult) rMulU := u_mulI.or op_rep
theorem u_eq (hu : X.A.units + 64 < cLine) : OpR X (compareOp .Eq) (rEqU X.K) := op_eq.or ((op_eqD hu).or ((op_eqSm hu).or (((op_eqDT hu).or (op_eqDS hu)).or (op_eqLd hu))))
theorem u_ne (hu : X.A.units + 64 < cLine) : OpR X (compareOp .NotEq) (rNeU X.K) := op_ne.or ((op_neD hu).or ((op_neSm hu).or ((op_ne_dictA (by omega)).or (op_neLd hu))))
theorem u_is : OpR X (compareOp .Is) rIsU := op_isN.or (op_isBl.or op_is_ref)
theorem u_isnot : OpR X (compareOp .IsNot) rNotU := op_notN.or op_notBl
theorem op_din (hu : X.A.units + 1 < cLine) : OpR X (compareOp .In) (rDIn false) := by
  intro pins s σ H y x iv u Q I ry rx h
  obtain ⟨a, ov, ex, g, q⟩ := h
  subst ex
  obtain rfl : u = Value.ref a := rx
  exact d_in hu I g ry fun s3 I3 => ⟨.bl ov.isSome, H, I3, rfl, q⟩
theorem op_dnotin (hu : X.A.units + 1 < cLine) : OpR X (compareOp .NotIn) (rDIn true) := by
  intro pins s σ H y x iv u Q I ry rx h
  obtain ⟨a, ov, ex, g, q⟩ := h
  subst ex
  obtain rfl : u = Value.ref a := rx
  exact d_notIn hu I g ry fun s3 I3 => ⟨.bl (!ov.isSome), H, I3, rfl, q⟩
theorem u_in (hu : X.A.units + 65 < cLine) : OpR X (compareOp .In) (rInU X.K false) := op_in_seq.or ((op_din (by omega)).or ((op_inD hu).or op_in_sign))
theorem u_notin (hu : X.A.units + 65 < cLine) : OpR X (compareOp .NotIn) (rInU X.K true) := op_notIn_seq.or ((op_dnotin (by omega)).or ((op_notInD hu).or op_notIn_sign))
theorem ix_dict1 (hu : X.A.units + 1 < cLine) : IxR X rIxD1 := by
  intro value slice pins s σ H x y v u Q I rx ry h hs
  obtain ⟨a, w, ex, g, q⟩ := h
  subst ex
  obtain rfl : v = Value.ref a := rx
  exact tail_any (dict_typeIs I g) PySem.F.slot_dict_getitem.lookup (d_getItem hu I g ry fun w' s3 I3 rw' => ⟨w, H, I3, rw', q⟩) hs
theorem u_ix (hu : X.A.units + 1 < cLine) : IxR X (rIxU X.K) := ix_seq.or (ix_dict1 hu)
theorem SlR.or {r r' : V → Option Int → Option Int → Hp → VK → Prop} (h : SlR X r) (h' : SlR X r') : SlR X (fun x lo hi H Q => r x lo hi H Q ∨ r' x lo hi H Q) := by
  intro pins s σ H x v vl vu lo hi sl Q I rx hs pl pu q
  rcases q with q | q
  · exact h pins s σ H x v vl vu lo hi sl Q I rx hs pl pu q
  · exact h' pins s σ H x v vl vu lo hi sl Q I rx hs pl pu q
theorem u_sl : SlR X (rSlU X.K) := SlR.or sl_list (SlR.or sl_tupA sl_str)
theorem set_dict1 (hu : X.A.units + 1 < cLine) : PSet X rDPut := by
  intro pins s σ H o i v ov iv u Q I ro ri rv h
  obtain ⟨a, H', ex, g, q⟩ := h
  subst ex
  obtain rfl : ov = Value.ref a := ro
  exact d_setItem hu I g ri rv fun s4 I4 => ⟨H', I4, q⟩
theorem PSet.or {t t' : TSet} (h : PSet X t) (h' : PSet X t') : PSet X (fun o i v H Q => t o i v H Q ∨ t' o i v H Q) := by
  intro pins s σ H o i v ov iv u Q I ro ri rv q
  rcases q with q | q
  · exact h pins s σ H o i v ov iv u Q I ro ri rv q
  · exact h' pins s σ H o i v ov iv u Q I ro ri rv q
theorem u_set (hu : X.A.units + 1 < cLine) : PSet X rSetU := PSet.or set_list (set_dict1 hu)
theorem u_len : CallR X (.builtin "len") (rLenU X.K) := call_len.or call_lenD
theorem u_list (hc : X.calm = true) : CallR X (.type "list") (rListU X.K) := call_list_of.or (call_list_dK hc)
theorem u_dict (hc : X.calm = true) : CallR X (.type "dict") (rDictU X.K) := (call_dictP hc).or call_dictD
theorem u_int : CallR X (.type "int") rIntU := call_int1.or call_int_str
theorem u_str : CallR X (.type "str") rStrU := call_str_int
/-- o[i] by values, for op= -/
theorem get_listU (hu : X.A.units + 1 < cLine) : PGet X (fun o i H Q => (∃ p xs k v, o = .ref p ∧ i = .int k ∧ H p = some (.lst xs) ∧ 0 ≤ k ∧ xs[k.toNat]? = some v ∧ Q v H) ∨ rIxD1 o i H Q) := by
  intro pins s σ H o i ov iv Q I ro ri h
  rcases h with ⟨p, xs, k, v, rfl, rfl, hp, h0, hv, q⟩ | ⟨a, w, ex, g, q⟩
  · cases ro
    obtain ⟨t, rfl⟩ := ri
    obtain ⟨its, r, pl, hz⟩ := I.list (show SqL X.K H p xs from .inl (.inl hp))
    obtain ⟨w, ew, rw'⟩ := r.get hv
    have hl := r.length
    have hlt := (List.getElem?_eq_some_iff.mp hv).1
    have hn := line63
    exact wpAny_getItem_list pl.isList h0 (by omega) (by simpa using ew) ⟨v, H, I, rw', q⟩
  · subst ex
    obtain rfl : ov = Value.ref a := ro
    exact d_getItem hu I g ri fun w' s3 I3 rw' => ⟨w, H, I3, rw', q⟩
end

/-! ### calls that may let an exception out, at the slots as they stand -/
section
variable {X : Cx} {k : Nat} {f C : Addr} {fd : FuncData} {ps : List Str} {sp : Sp} {dvs : List V} {ds : List Value} {E : L2.St → XK} {x m : Str} {p pos apos : Pos} {e o : Expr} {es : List Expr} {ta : TE} {t : TA}
theorem run_fnD {CX : CXT} {pins : List (Addr × Obj)} {σ : L2.St} {H : Hp} {s : Shared} {Q : VK} {us : List Value} {vs : List V} (F : FnOk X.prog X.w X.K X.mg X.base CX k f fd ps sp) (hr : Room k X.A) (hb : Binds X.K fd ps ds) (hd : Vals dvs ds) (hx : PassesAt CX X σ (E σ))
    (I : Inv X pins σ H s) (r : Vals vs us) (h : sp (vs ++ dvs) H Q (E σ)) : wpAny (model X.prog X.w) X.A (call (.ref f) us) (EP X pins σ Q) X.xe s := by
  have r2 : Vals (vs ++ dvs) (us ++ ds) := r.append hd
  have hl : (us ++ ds).length = ps.length := by rw [← r2.length]; exact F.len _ _ _ _ h
  refine wpAny_call (codeAny_mono (F.run X.A X.stack s H ⟨us, []⟩ (us ++ ds) (vs ++ dvs) Q (E σ) hr I.env0 (hb s us I.kIn hl) r2 h) fun r s' hq => ?_)
  cases r with
  | error e => exact hx pins H s e s' I hq
  | ok fl =>
    cases fl with
    | ret u => exact I.after hq
    | next => exact False.elim hq
    | brk => exact False.elim hq
    | cont => exact False.elim hq
/-- what stands behind a name of the module: a def that keeps sp -/
structure Has (P : Program) (w : World) (K : PySem.W.Frag) (mg : Str → Option Value) (base : Heap) (k : Nat) (x : Str) (sp : Sp) (dvs : List V) : Prop where
  ex : ∃ (f : Addr) (fd : FuncData) (ps : List Str) (ds : List Value), mg x = some (.ref f) ∧ PySem.W.keepIn K (.ref f) = true ∧ Binds K fd ps ds ∧ Vals dvs ds ∧ FnOk P w K mg base (L2.CX P w) k f fd ps sp
/-- a method of the class at C -/
structure HasM (P : Program) (w : World) (K : PySem.W.Frag) (mg : Str → Option Value) (base : Heap) (k : Nat) (C : Addr) (m : Str) (sp : Sp) : Prop where
  cl : Cls K C
  ex : ∃ (f : Addr) (fd : FuncData) (ps : List Str), Meth K C m f ∧ Binds K fd ps [] ∧ FnOk P w K mg base (L2.CX P w) k f fd ps sp
/-- a class that is made, its __init__ keeps sp -/
structure HasC (P : Program) (w : World) (K : PySem.W.Frag) (mg : Str → Option Value) (base : Heap) (k : Nat) (x : Str) (C : Addr) (sp : Sp) (dvs : List V) : Prop where
  gl : mg x = some (.ref C)
  ex : ∃ (f : Addr) (fd : FuncData) (ps : List Str) (ds : List Value), Mk K C f ∧ Binds K fd ps ds ∧ Vals dvs ds ∧ FnOk P w K mg base (L2.CX P w) k f fd ps sp
def tHwC (sp : Sp) (dvs : List V) (E : L2.St → XK) (t : TA) : TE := fun σ H Q => t σ H fun vs H1 => sp (vs ++ dvs) H1 Q (E σ)
def tHwM (C : Addr) (m : Str) (sp : Sp) (E : L2.St → XK) (ta : TE) (t : TA) : TE := fun σ H Q => ta σ H fun x H1 => ∃ a dx fs, x = .ref a ∧ H1 a = some (.ins C dx fs) ∧ fs.lookup m = none ∧
  t σ H1 fun vs H2 => sp (x :: vs) H2 Q (E σ)
def tHwN (C : Addr) (sp : Sp) (dvs : List V) (E : L2.St → XK) (t : TA) : TE := fun σ H Q => t σ H fun vs H1 => ∀ x dx, H1 x = none → H1 dx = none → dx ≠ x →
  sp (.ref x :: (vs ++ dvs)) (upd (upd H1 dx (.own x)) x (.ins C dx [])) (fun v H2 => v = .non ∧ Q (.ref x) H2) (E σ)
theorem hw_call {j : Nat} (F : Has X.prog X.w X.K X.mg X.base k x sp dvs) (hr : Room j X.A) (hj : k ≤ j) (hg : Gl X x) (hx : ∀ σ, PassesAt (L2.CX X.prog X.w) X σ (E σ))
    (ha : PA X (e :: es) t) (hdb : (x == ("__debug__" : Str)) = false := by decide) (he : starEach (e :: es) X.env = (false, eval e X.env) :: starEach es X.env := by rfl) (hpl : (backTo pos (starEach es X.env)).any (·.1) = false := by rfl) :
    PE X (.Call (.Name x p) (e :: es) [] pos) (tHwC sp dvs E t) := by
  obtain ⟨f, fd, ps, ds, hm, hk, hb, hd, F⟩ := F.ex
  refine ⟨fun pins s σ H Q I h => ?_⟩
  refine wpAny_Call_Name_kw (ld_glob I hg hm ?_ hdb)
  refine PySem.W.callWith_K (h₀ := X.base) I.ok.mod.kin hk (thn (ha.run pos pins s σ H _ I h) fun us s1 ⟨vs, H1, I1, r, q⟩ => ⟨I1.kIn, ?_⟩) he hpl
  exact run_fnD F (hr.mono hj) hb hd (hx σ) I1 r q
theorem hw_call0 {j : Nat} (F : Has X.prog X.w X.K X.mg X.base k x sp dvs) (hr : Room j X.A) (hj : k ≤ j) (hg : Gl X x) (hx : ∀ σ, PassesAt (L2.CX X.prog X.w) X σ (E σ))
    (hdb : (x == ("__debug__" : Str)) = false := by decide) : PE X (.Call (.Name x p) [] [] pos) (tHwC sp dvs E tNil) := by
  obtain ⟨f, fd, ps, ds, hm, hk, hb, hd, F⟩ := F.ex
  refine ⟨fun pins s σ H Q I h => ?_⟩
  refine wpAny_Call_Name_kw (ld_glob I hg hm ?_ hdb)
  exact PySem.W.callWith_K0 I.kIn hk (run_fnD (us := []) F (hr.mono hj) hb hd (hx σ) I .nil h)
theorem hw_meth {j : Nat} {pl : Sem Bool} (F : HasM X.prog X.w X.K X.mg X.base k C m sp) (hr : Room j X.A) (hj : k ≤ j) (hx : ∀ σ, PassesAt (L2.CX X.prog X.w) X σ (E σ)) (he : PE X o ta) (ha : PA X (e :: es) t)
    (hst : starEach (e :: es) X.env = (false, eval e X.env) :: starEach es X.env := by rfl) (hpl : (backTo pos (starEach es X.env)).any (·.1) = false := by rfl)
    (ht : eval (.Call (.Attribute o m apos) (e :: es) [] pos) X.env = (do
      let ov ← eval o X.env
      standAt apos.atName
      let (f, first) ← holding [ov] (getMethod ov m pl)
      callWith pos f first (backTo pos (starEach (e :: es) X.env)) (backToKw pos (keywordEach [] X.env))) := by rfl) :
    PE X (.Call (.Attribute o m apos) (e :: es) [] pos) (tHwM C m sp E ta t) := by
  obtain ⟨f, fd, ps, hm, hb, F2⟩ := F.ex
  refine ⟨fun pins s σ H Q I h => ?_⟩
  refine PySem.W.methodCall_KW (pl := pl) (thn (he.run pins s σ H _ I h) fun u s1 ⟨x, H1, I1, rx, a, dx, fs, ex, ea, l, q⟩ => ?_) ht
  subst ex
  obtain rfl : u = Value.ref a := rx
  refine getmeth_ok I1 ea F.cl hm l ?_
  refine PySem.W.callWith_K (first := [.ref a]) (h₀ := X.base) I.ok.mod.kin hm.kp (thn (ha.run pos pins s1 σ H1 _ I1 q) fun us s2 ⟨vs, H2, I2, r, q2⟩ => ⟨I2.kIn, ?_⟩) hst hpl
  exact run_fnD (us := .ref a :: us) (vs := .ref a :: vs) F2 (hr.mono hj) hb .nil (hx σ) I2 (.cons rfl r) (by rw [List.append_nil]; exact q2)
theorem hw_meth0 {j : Nat} {pl : Sem Bool} (F : HasM X.prog X.w X.K X.mg X.base k C m sp) (hr : Room j X.A) (hj : k ≤ j) (hx : ∀ σ, PassesAt (L2.CX X.prog X.w) X σ (E σ)) (he : PE X o ta)
    (ht : eval (.Call (.Attribute o m apos) [] [] pos) X.env = (do
      let ov ← eval o X.env
      standAt apos.atName
      let (f, first) ← holding [ov] (getMethod ov m pl)
      callWith pos f first (backTo pos (starEach [] X.env)) (backToKw pos (keywordEach [] X.env))) := by rfl) :
    PE X (.Call (.Attribute o m apos) [] [] pos) (tHwM C m sp E ta tNil) := by
  obtain ⟨f, fd, ps, hm, hb, F2⟩ := F.ex
  refine ⟨fun pins s σ H Q I h => ?_⟩
  refine PySem.W.methodCall_KW (pl := pl) (thn (he.run pins s σ H _ I h) fun u s1 ⟨x, H1, I1, rx, a, dx, fs, ex, ea, l, q⟩ => ?_) ht
  subst ex
  obtain rfl : u = Value.ref a := rx
  refine getmeth_ok I1 ea F.cl hm l ?_
  exact PySem.W.callWith_K0 (first := [.ref a]) I1.kIn hm.kp (run_fnD (us := [.ref a]) (vs := [.ref a]) F2 (hr.mono hj) hb .nil (hx σ) I1 (.cons rfl .nil) (by rw [List.append_nil]; exact q))
theorem run_makeD {CX : CXT} {pins : List (Addr × Obj)} {σ : L2.St} {H : Hp} {s : Shared} {Q : VK} {us : List Value} {vs : List V} (M : Mk X.K C f) (F : FnOk X.prog X.w X.K X.mg X.base CX k f fd ps sp) (hr : Room (k + 1) X.A) (hb : Binds X.K fd ps ds) (hd : Vals dvs ds)
    (hx : ∀ σ, PassesAt CX X σ (E σ)) (I : Inv X pins σ H s) (r : Vals vs us)
    (h : ∀ x dx, H x = none → H dx = none → dx ≠ x → sp (.ref x :: (vs ++ dvs)) (upd (upd H dx (.own x)) x (.ins C dx [])) (fun v H2 => v = .non ∧ Q (.ref x) H2) (E σ)) :
    wpAny (model X.prog X.w) X.A (call (.ref C) us) (EP X pins σ Q) X.xe s := by
  have hq := h (s.heap.objs.size + 1) s.heap.objs.size (I.hok.fresh (Nat.le_succ _)) (I.hok.fresh (Nat.le_refl _)) (Nat.ne_of_lt (Nat.lt_succ_self _))
  have I2 := Inv.made (C := C) I
  have r2 : Vals (V.ref (s.heap.objs.size + 1) :: (vs ++ dvs)) (Value.ref (s.heap.objs.size + 1) :: (us ++ ds)) := .cons rfl (r.append hd)
  have hl : (Value.ref (s.heap.objs.size + 1) :: us ++ ds).length = ps.length := by
    have e := r2.length
    rw [F.len _ _ _ _ hq] at e
    exact e.symm
  refine wpAny_call (make_map (f := f) I.kIn M.makes M.init (beq_iff_eq.mp M.fn) (codeAny_mono (F.run _ X.stack _ _ ⟨Value.ref (s.heap.objs.size + 1) :: us, []⟩ (Value.ref (s.heap.objs.size + 1) :: (us ++ ds)) _ _ (E σ) (hr.make C us [])
    (I2.env0.make C us []) (hb _ (Value.ref (s.heap.objs.size + 1) :: us) I2.kIn hl) r2 hq) fun r s' hq' => ?_))
  cases r with
  | error e => exact hx σ pins _ _ e s' I2 hq'
  | ok fl =>
    cases fl with
    | ret u =>
      obtain ⟨v, H', I3, rv, ev, q3⟩ := I2.after hq'
      subst ev
      exact ⟨rv, ⟨V.ref (s.heap.objs.size + 1), H', I3, rfl, q3⟩⟩
    | next => exact False.elim hq'
    | brk => exact False.elim hq'
    | cont => exact False.elim hq'
theorem hw_make {j : Nat} (F : HasC X.prog X.w X.K X.mg X.base k x C sp dvs) (hr : Room j X.A) (hj : k + 1 ≤ j) (hg : Gl X x) (hx : ∀ σ, PassesAt (L2.CX X.prog X.w) X σ (E σ))
    (ha : PA X (e :: es) t) (hdb : (x == ("__debug__" : Str)) = false := by decide) (he : starEach (e :: es) X.env = (false, eval e X.env) :: starEach es X.env := by rfl) (hpl : (backTo pos (starEach es X.env)).any (·.1) = false := by rfl) :
    PE X (.Call (.Name x p) (e :: es) [] pos) (tHwN C sp dvs E t) := by
  have hm := F.gl
  obtain ⟨f, fd, ps, ds, M, hb, hd, F⟩ := F.ex
  refine ⟨fun pins s σ H Q I h => ?_⟩
  refine wpAny_Call_Name_kw (ld_glob I hg hm ?_ hdb)
  refine PySem.W.callWith_K (h₀ := X.base) I.ok.mod.kin M.kp (thn (ha.run pos pins s σ H _ I h) fun us s1 ⟨vs, H1, I1, r, q⟩ => ⟨I1.kIn, ?_⟩) he hpl
  exact run_makeD M F (hr.mono hj) hb hd hx I1 r q
theorem hw_make0 {j : Nat} (F : HasC X.prog X.w X.K X.mg X.base k x C sp dvs) (hr : Room j X.A) (hj : k + 1 ≤ j) (hg : Gl X x) (hx : ∀ σ, PassesAt (L2.CX X.prog X.w) X σ (E σ))
    (hdb : (x == ("__debug__" : Str)) = false := by decide) : PE X (.Call (.Name x p) [] [] pos) (tHwN C sp dvs E tNil) := by
  have hm := F.gl
  obtain ⟨f, fd, ps, ds, M, hb, hd, F⟩ := F.ex
  refine ⟨fun pins s σ H Q I h => ?_⟩
  refine wpAny_Call_Name_kw (ld_glob I hg hm ?_ hdb)
  exact PySem.W.callWith_K0 I.kIn M.kp (run_makeD (us := []) M F (hr.mono hj) hb hd hx I .nil h)
/-- in a comprehension nothing may leave -/
theorem passAt0 {X : Cx} (σ : L2.St) : PassesAt (L2.CX X.prog X.w) X σ E0 := fun pins H s e s' I c => passL pins σ H s e s' I c
end
end Hw





/-! HwC: the steps of a reading, one a construct, over a ground and a ledger. -/
namespace Hw
open PySem PySem.Spec PyProof.Rows L2

def clsA (mg : Str → Option Value) (x : Str) : Addr := match mg x with | some (.ref a) => a | _ => 0
theorem clsA_of {mg : Str → Option Value} {x : Str} {a : Addr} (h : mg x = some (.ref a)) : clsA mg x = a := by unfold clsA; rw [h]
theorem clsA_gl {mg : Str → Option Value} {x : Str} {a : Addr} (h : mg x = some (.ref a)) : mg x = some (.ref (clsA mg x)) := by rw [clsA_of h]; exact h
def rGetU : V → V → Hp → VK → Prop := fun o i H Q => (∃ p xs k v, o = .ref p ∧ i = .int k ∧ H p = some (.lst xs) ∧ 0 ≤ k ∧ xs[k.toNat]? = some v ∧ Q v H) ∨ rIxD1 o i H Q
def rAbs : List V → Hp → VK → Prop := fun xs H Q => ∃ i, xs = [.int i] ∧ Q (.int (if i < 0 then -i else i)) H
def rMax2 : List V → Hp → VK → Prop := fun xs H Q => ∃ i j, xs = [.int i, .int j] ∧ Q (.int (if j > i then j else i)) H
def rMin2 : List V → Hp → VK → Prop := fun xs H Q => ∃ i j, xs = [.int i, .int j] ∧ Q (.int (if j < i then j else i)) H
def rTupU (K : PySem.W.Frag) : List V → Hp → VK → Prop := fun xs H Q => ∃ p ys, xs = [.ref p] ∧ ((SqL K H p ys ∧ ∀ l, H l = none → Q (.ref l) (upd H l (.tup ys))) ∨ (SqT K H p ys ∧ Q (.ref p) H))
def rInsert : V → List V → Hp → VK → Prop := fun x vs H Q => ∃ (l : Addr) (xs : List V) (i : Int) (y : V), x = .ref l ∧ vs = [.int i, y] ∧ H l = some (.lst xs) ∧ xs.length < sizeLine ∧ 0 ≤ i ∧ i < 2 ^ 63 ∧
  Q .non (upd H l (.lst (xs.take i.toNat ++ [y] ++ xs.drop i.toNat)))

def nLst (xs : List V) (H : Hp) (Q : VK) : Prop := xs.length ≤ sizeLine ∧ ∀ p, H p = none → Q (.ref p) (upd H p (.lst xs))
def nTup (xs : List V) (H : Hp) (Q : VK) : Prop := xs.length ≤ sizeLine ∧ ∀ p, H p = none → Q (.ref p) (upd H p (.tup xs))
def nGet (K : PySem.W.Frag) (f : Str) (x : V) (H : Hp) (Q : VK) : Prop := ∃ a C dx fs v, x = .ref a ∧ H a = some (.ins C dx fs) ∧ Cls K C ∧ NoAttr K C f ∧ fs.lookup f = some v ∧ Q v H
def nFld (K : PySem.W.Frag) (f : Str) (y x : V) (H : Hp) (R : Hp → Prop) : Prop := ∃ a C dx fs, x = .ref a ∧ H a = some (.ins C dx fs) ∧ Cls K C ∧ NoAttr K C f ∧ fs.length < 1000 ∧ R (upd H a (.ins C dx (putF f y fs)))
def nObj (o : HO) (H : Hp) (Q : VK) : Prop := ∀ p, H p = none → Q (.ref p) (upd H p o)
theorem bt_len : bootBuiltins "len" = some (.builtin "len") := by decide +kernel
theorem bt_abs : bootBuiltins "abs" = some (.builtin "abs") := by decide +kernel
theorem bt_isinstance : bootBuiltins "isinstance" = some (.builtin "isinstance") := by decide +kernel
theorem bt_sum : bootBuiltins "sum" = some (.builtin "sum") := by decide +kernel
theorem bt_min : bootBuiltins "min" = some (.builtin "min") := by decide +kernel
theorem bt_max : bootBuiltins "max" = some (.builtin "max") := by decide +kernel
theorem bt_all : bootBuiltins "all" = some (.builtin "all") := by decide +kernel
theorem bt_sorted : bootBuiltins "sorted" = some (.builtin "sorted") := by decide +kernel
theorem bt_list : bootBuiltins "list" = some (.type "list") := by decide +kernel
theorem bt_dict : bootBuiltins "dict" = some (.type "dict") := by decide +kernel
theorem bt_int : bootBuiltins "int" = some (.type "int") := by decide +kernel
theorem bt_bool : bootBuiltins "bool" = some (.type "bool") := by decide +kernel
theorem bt_str : bootBuiltins "str" = some (.type "str") := by decide +kernel
theorem bt_tuple : bootBuiltins "tuple" = some (.type "tuple") := by decide +kernel
theorem bt_set : bootBuiltins "set" = some (.type "set") := by decide +kernel
theorem bt_ValueError : bootBuiltins "ValueError" = some (.type "ValueError") := by decide +kernel

section
variable {K : PySem.W.Frag} {G G' : Hp} {L L' : Lg} {H H' : Hp} {σ σ' : L2.St} {Q : VK} {QA : List V → Hp → Prop} {QT : Bool → Hp → Prop} {D : Ends} {ta tb tc te to ti : TE} {t t' u u' : TS} {tA tB' : TT} {tr : TA} {r r' : R2} {v x y : V} {a b p : Addr} {i j : Int} {n : Nat} {f : Str}
/-! ### statements -/
variable {nx : L2.St → Hp → Prop} {rt : VK} {bk ct : L2.St → Hp → Prop}
theorem s_seq (h : t ⟨u ⟨nx, rt, bk, ct⟩, rt, bk, ct⟩ σ H) : tSeq t u ⟨nx, rt, bk, ct⟩ σ H := h
theorem s_next (h : nx σ H) : tNext ⟨nx, rt, bk, ct⟩ σ H := h
theorem s_cont (h : ct σ H) : tCont ⟨nx, rt, bk, ct⟩ σ H := h
theorem s_asg {g : TG} (h : te σ H fun x H1 => g x σ H1 nx) : tAsg te g ⟨nx, rt, bk, ct⟩ σ H := h
theorem s_drop (h : te σ H fun _ H1 => nx σ H1) : tDrop te ⟨nx, rt, bk, ct⟩ σ H := h
theorem s_ret (h : te σ H rt) : tRet te ⟨nx, rt, bk, ct⟩ σ H := h
theorem s_retN (h : rt .non H) : tRetN ⟨nx, rt, bk, ct⟩ σ H := h
theorem s_if {c : TT} (h : c σ H fun b H1 => if b = true then t ⟨nx, rt, bk, ct⟩ σ H1 else u ⟨nx, rt, bk, ct⟩ σ H1) : tIfS c t u ⟨nx, rt, bk, ct⟩ σ H := h
theorem s_fldset (h : te σ H fun y H1 => ta σ H1 fun x H2 => nFld K f y x H2 fun H' => nx σ H') : sFld K ta te f ⟨nx, rt, bk, ct⟩ σ H := h
theorem s_augs {tget : V → V → Hp → VK → Prop} {tip : TIp} {tset : TSet} (h : to σ H fun o H1 => ti σ H1 fun i H2 => tget o i H2 fun x H3 => te σ H3 fun y H4 => tip x y H4 fun z H5 => tset o i z H5 fun H6 => nx σ H6) : tAugS to ti te tget tip tset ⟨nx, rt, bk, ct⟩ σ H := h
theorem s_par {k l : Nat} {tr : TA} (h : tr σ H fun vs H1 => ∃ v w, vs = [v, w] ∧ nx ((σ.set k (some v)).set l (some w)) H1) : tPar k l tr ⟨nx, rt, bk, ct⟩ σ H := h
theorem s_par2 {k l : Nat} {v w : V} {P : L2.St → Hp → Prop} (e1 : σ.set k (some v) = σ') {σ'' : L2.St} (e2 : σ'.set l (some w) = σ'') (h : P σ'' H) : ∃ v' w', [v, w] = [v', w'] ∧ P ((σ.set k (some v')).set l (some w')) H := ⟨v, w, rfl, by rw [e1, e2]; exact h⟩
/-! ### targets -/
theorem g_name {k : Nat} {P : L2.St → Hp → Prop} (e : σ.set k (some v) = σ') (h : P σ' H) : gName k v σ H P := by unfold gName; rw [e]; exact h
theorem set0 {z : Option V} {l : L2.St} {z' : Option V} : (z' :: l).set 0 z = z :: l := rfl
theorem setS {z z' : Option V} {k : Nat} {l l' : L2.St} (h : l.set k z = l') : (z' :: l).set (k + 1) z = z' :: l' := by rw [List.set_cons_succ, h]
theorem g_tup {k : Nat} {ts : TGs} {P : L2.St → Hp → Prop} {xs : List V} (hs : SqT K H a xs) (hl : xs.length = k) (h : ts xs σ H P) : gTup K k ts (.ref a) σ H P := ⟨a, xs, rfl, hs, hl, h⟩
theorem g_cons {tg : TG} {ts : TGs} {P : L2.St → Hp → Prop} {xs : List V} (h : tg v σ H fun σ' H' => ts xs σ' H' P) : gCons tg ts (v :: xs) σ H P := ⟨v, xs, rfl, h⟩
theorem g_nil {P : L2.St → Hp → Prop} (h : P σ H) : gNil [] σ H P := ⟨rfl, h⟩
theorem g_sub {ts : TSet} {P : L2.St → Hp → Prop} (h : to σ H fun o H1 => ti σ H1 fun i H2 => ts o i v H2 fun H3 => P σ H3) : gSub to ti ts v σ H P := h
/-! ### expressions -/
theorem t_var {k : Nat} (e : σ[k]? = some (some v)) (h : Q v H) : tVar k σ H Q := ⟨v, e, h⟩
theorem t_c (h : Q v H) : tC v σ H Q := h
theorem t_op (h : ta σ H fun x H1 => tb σ H1 fun y H2 => r x y H2 Q) : tOp r ta tb σ H Q := h
theorem t_un {r : V → Hp → VK → Prop} (h : ta σ H fun x H1 => r x H1 Q) : tUn r ta σ H Q := h
theorem t_nil (h : QA [] H) : tNil σ H QA := h
theorem t_cons (h : te σ H fun x H1 => tr σ H1 fun xs H2 => QA (x :: xs) H2) : tCons te tr σ H QA := h
theorem t_cb {rr : List V → Hp → VK → Prop} (h : tr σ H fun vs H1 => rr vs H1 Q) : tCB rr tr σ H Q := h
theorem t_hwc {sp : Sp} {E : L2.St → XK} (h : tr σ H fun vs H1 => sp vs H1 Q (E σ)) : tHwC sp [] E tr σ H Q := by
  unfold tHwC
  have e : ∀ vs : List V, vs ++ [] = vs := List.append_nil
  simp only [e]; exact h
theorem t_hwc1 {sp : Sp} {E : L2.St → XK} {d : V} (h : tr σ H fun vs H1 => sp (vs ++ [d]) H1 Q (E σ)) : tHwC sp [d] E tr σ H Q := h
def nRcv (C : Addr) (m : Str) (x : V) (H : Hp) (R : V → Prop) : Prop := ∃ a dx fs, x = .ref a ∧ H a = some (.ins C dx fs) ∧ fs.lookup m = none ∧ R x
theorem t_hwm {C : Addr} {sp : Sp} {E : L2.St → XK} (h : ta σ H fun x H1 => nRcv C f x H1 fun x => tr σ H1 fun vs H2 => sp (x :: vs) H2 Q (E σ)) : tHwM C f sp E ta tr σ H Q := by
  have e : (fun x H1 => nRcv C f x H1 fun x => tr σ H1 fun vs H2 => sp (x :: vs) H2 Q (E σ)) = (fun x H1 => ∃ a dx fs, x = .ref a ∧ H1 a = some (.ins C dx fs) ∧ fs.lookup f = none ∧ tr σ H1 fun vs H2 => sp (x :: vs) H2 Q (E σ)) := rfl
  rw [e] at h; exact h
theorem n_rcv {C dx : Addr} {fs : List (Str × V)} {R : V → Prop} (ha : H a = some (.ins C dx fs)) (hf : fs.lookup f = none) (h : R (.ref a)) : nRcv C f (.ref a) H R := ⟨a, dx, fs, rfl, ha, hf, h⟩
def nNew (C : Addr) (sp : Sp) (vs : List V) (H1 : Hp) (Q : VK) (E : XK) : Prop := ∀ x dx, H1 x = none → H1 dx = none → dx ≠ x → sp (.ref x :: (vs ++ [])) (upd (upd H1 dx (.own x)) x (.ins C dx [])) (fun v H2 => v = .non ∧ Q (.ref x) H2) E
theorem t_hwn {C : Addr} {sp : Sp} {E : L2.St → XK} (h : tr σ H fun vs H1 => nNew C sp vs H1 Q (E σ)) : tHwN C sp [] E tr σ H Q := h
theorem n_new {C : Addr} {sp : Sp} {vs : List V} {E : XK} (S : Sy G L H) (h : ∀ x dx G' H', Same G G' → Sy G' ((x, Is (.ins C dx [])) :: L) H' → sp (.ref x :: vs) H' (fun v H2 => v = .non ∧ Q (.ref x) H2) E) : nNew C sp vs H Q E := by
  intro x dx hx hd hne
  rw [List.append_nil]
  refine h x dx _ _ (same_new (S.gnone hd)) ((S.newF (o := .own x) hd).new (by rw [upd_ne (Ne.symm hne)]; exact hx) rfl)
theorem t_andv (h : ta σ H fun x H1 => ∃ c, x = .bl c ∧ if c = true then tb σ H1 Q else Q (.bl false) H1) : tAndV ta tb σ H Q := h
theorem t_orv (h : ta σ H fun x H1 => ∃ c, x = .bl c ∧ if c = true then Q (.bl true) H1 else tb σ H1 Q) : tOrV ta tb σ H Q := h
theorem t_notv (h : ta σ H fun x H1 => ∃ c, x = .bl c ∧ Q (.bl (!c)) H1) : tNotV ta σ H Q := h
theorem t_ifx (h : tA σ H fun c H1 => if c = true then ta σ H1 Q else tb σ H1 Q) : tIf tA ta tb σ H Q := h
theorem t_chain (h : ta σ H fun x H1 => tb σ H1 fun y H2 => r x y H2 fun z H3 => ∃ k, z = .bl k ∧ (if k = true then tc σ H3 fun w' H4 => r' y w' H4 Q else Q (.bl false) H3)) : tChain r r' ta tb tc σ H Q := h
theorem bl_ex {c : Bool} {P : Bool → Prop} (h : P c) : ∃ k, V.bl c = V.bl k ∧ P k := ⟨c, rfl, h⟩
theorem t_tup (h : tr σ H fun xs H1 => nTup xs H1 Q) : tTup tr σ H Q := h
theorem t_lst (h : tr σ H fun xs H1 => nLst xs H1 Q) : tLst tr σ H Q := h
theorem t_dnew (h : nObj (.dK []) H Q) : tDNewK σ H Q := h
theorem t_fld (h : ta σ H fun x H1 => nGet K f x H1 Q) : tFld K ta f σ H Q := h
theorem n_get {C dx : Addr} {fs : List (Str × V)} (ha : H a = some (.ins C dx fs)) (c : Cls K C) (nn : NoAttr K C f) (l : fs.lookup f = some v) (h : Q v H) : nGet K f (.ref a) H Q := ⟨a, C, dx, fs, v, rfl, ha, c, nn, l, h⟩
theorem n_fld {C dx : Addr} {fs : List (Str × V)} {R : Hp → Prop} (S : Sy G L H) (ha : H a = some (.ins C dx fs)) (c : Cls K C) (nn : NoAttr K C f) (hz : fs.length < 1000) (pu : Put a (Is (.ins C dx (putF f y fs))) L L') (h : ∀ H', Sy G L' H' → R H') : nFld K f y (.ref a) H R :=
  ⟨a, C, dx, fs, rfl, ha, c, nn, hz, h _ (S.wr pu rfl)⟩
theorem t_sl {rr : V → Option Int → Option Int → Hp → VK → Prop} {tl th : TO} (h : te σ H fun x H1 => tl σ H1 fun l H2 => th σ H2 fun u H3 => rr x l u H3 Q) : tSl rr te tl th σ H Q := h
theorem t_nopart {QO : Option Int → Hp → Prop} (h : QO none H) : tNoPart σ H QO := h
theorem t_part {QO : Option Int → Hp → Prop} (h : te σ H fun x H1 => ∃ i, x = .int i ∧ QO (some i) H1) : tPart te σ H QO := h
theorem int_ex {P : Int → Prop} (h : P i) : ∃ k, V.int i = V.int k ∧ P k := ⟨i, rfl, h⟩
theorem t_bm {T : String} {rr : V → List V → Hp → VK → Prop} (h : to σ H fun x H1 => tyV K T x H1 ∧ tr σ H1 fun xs H2 => rr x xs H2 Q) : tBM K T rr to tr σ H Q := h
theorem t_bm0 {T : String} {rr : V → List V → Hp → VK → Prop} (h : to σ H fun x H1 => tyV K T x H1 ∧ rr x [] H1 Q) : tBM0 K T rr to σ H Q := h
theorem ty_lst {xs : List V} {P : Prop} (h : SqL K H a xs) (q : P) : tyV K "list" (.ref a) H ∧ P := ⟨.inl ⟨rfl, xs, h⟩, q⟩
/-! ### tests -/
theorem c_test (h : te σ H fun x H' => ∃ k, x = .bl k ∧ QT k H') : tTest te σ H QT := h
theorem c_b (h : te σ H fun x H' => ∃ k, x = .bl k ∧ QT k H') : tB te σ H QT := h
theorem c_and {u : TT} (h : tA σ H fun c H1 => if c = true then u σ H1 QT else QT false H1) : tAnd tA u σ H QT := h
theorem c_or {u : TT} (h : tA σ H fun c H1 => if c = true then QT true H1 else u σ H1 QT) : tOr tA u σ H QT := h
theorem c_not (h : tA σ H fun c H1 => QT (!c) H1) : tNot tA σ H QT := h
theorem c_yes (h : QT true H) : tYes σ H QT := h
section
variable {A B : Prop} {q : Prop} [Decidable q] {c : Bool}
theorem i_dec (h1 : q → A) (h2 : ¬ q → B) : if decide q = true then A else B := by
  by_cases h : q
  · rw [if_pos (decide_eq_true h)]; exact h1 h
  · rw [if_neg (by rw [decide_eq_false h]; exact Bool.false_ne_true)]; exact h2 h
theorem i_decT (h : q) (h1 : A) : if decide q = true then A else B := by rw [if_pos (decide_eq_true h)]; exact h1
theorem i_decF (h : ¬ q) (h1 : B) : if decide q = true then A else B := by rw [if_neg (by rw [decide_eq_false h]; exact Bool.false_ne_true)]; exact h1
theorem i_not (h : if c = true then B else A) : if (!c) = true then A else B := by cases c <;> exact h
theorem i_bool (h1 : c = true → A) (h2 : c = false → B) : if c = true then A else B := by
  cases c
  · rw [if_neg Bool.false_ne_true]; exact h2 rfl
  · rw [if_pos rfl]; exact h1 rfl
theorem i_boolT (e : c = true) (h : A) : if c = true then A else B := by rw [if_pos e]; exact h
theorem i_boolF (e : c = false) (h : B) : if c = true then A else B := by rw [e, if_neg Bool.false_ne_true]; exact h
end
/-! ### operators -/
theorem o_addI (h : Q (.int (i + j)) H) : rAddU K (.int i) (.int j) H Q := .inl ⟨i, j, rfl, rfl, h⟩
theorem o_subI (h : Q (.int (i - j)) H) : (rI0 fun i j => .int (i - j)) (.int i) (.int j) H Q := ⟨i, j, rfl, rfl, h⟩
theorem o_mulI (c : CMulX i j) (h : Q (.int (i * j)) H) : rMulU (.int i) (.int j) H Q := .inl ⟨i, j, rfl, rfl, c, h⟩
theorem o_i0 {g : Int → Int → V} (h : Q (g i j) H) : rI0 g (.int i) (.int j) H Q := ⟨i, j, rfl, rfl, h⟩
theorem o_iC {C : Int → Int → Prop} {g : Int → Int → V} (c : C i j) (h : Q (g i j) H) : rI C g (.int i) (.int j) H Q := ⟨i, j, rfl, rfl, c, h⟩
theorem o_powE {n : Nat} {z : Int} (e : (10 : Int) ^ n = z) (h0 : n ≤ 1000000) (h : Q (.int z) H) : rI CPow (fun i j => .int (i ^ j.toNat)) (.int 10) (.int (n : Int)) H Q :=
  ⟨10, n, rfl, rfl, ⟨by omega, by omega, by decide⟩, by
    show Q (.int ((10 : Int) ^ ((n : Int)).toNat)) H
    rw [Int.toNat_natCast, e]; exact h⟩
theorem o_pow6 (h : Q (.int 1000000) H) : rI CPow (fun i j => .int (i ^ j.toNat)) (.int 10) (.int 6) H Q := o_powE (n := 6) (by decide +kernel) (by decide) h
theorem o_pow9 (h : Q (.int 1000000000) H) : rI CPow (fun i j => .int (i ^ j.toNat)) (.int 10) (.int 9) H Q := o_powE (n := 9) (by decide +kernel) (by decide) h
theorem o_pow15 (h : Q (.int 1000000000000000) H) : rI CPow (fun i j => .int (i ^ j.toNat)) (.int 10) (.int 15) H Q := o_powE (n := 15) (by decide +kernel) (by decide) h
theorem o_pow16 (h : Q (.int 10000000000000000) H) : rI CPow (fun i j => .int (i ^ j.toNat)) (.int 10) (.int 16) H Q := o_powE (n := 16) (by decide +kernel) (by decide) h
theorem o_pow17 (h : Q (.int 100000000000000000) H) : rI CPow (fun i j => .int (i ^ j.toNat)) (.int 10) (.int 17) H Q := o_powE (n := 17) (by decide +kernel) (by decide) h
theorem o_pow18 (h : Q (.int 1000000000000000000) H) : rI CPow (fun i j => .int (i ^ j.toNat)) (.int 10) (.int 18) H Q := o_powE (n := 18) (by decide +kernel) (by decide) h
theorem o_pow20 (h : Q (.int 100000000000000000000) H) : rI CPow (fun i j => .int (i ^ j.toNat)) (.int 10) (.int 20) H Q := o_powE (n := 20) (by decide +kernel) (by decide) h
theorem o_pow30 (h : Q (.int 1000000000000000000000000000000) H) : rI CPow (fun i j => .int (i ^ j.toNat)) (.int 10) (.int 30) H Q := o_powE (n := 30) (by decide +kernel) (by decide) h
theorem o_pow40 (h : Q (.int 10000000000000000000000000000000000000000) H) : rI CPow (fun i j => .int (i ^ j.toNat)) (.int 10) (.int 40) H Q := o_powE (n := 40) (by decide +kernel) (by decide) h
theorem o_str (hi : i.natAbs < 2 ^ 1000) (h : Q (.str (toString i)) H) : rStrU [.int i] H Q := ⟨i, rfl, Nat.lt_of_lt_of_le (PySem.Flt.log2_lt_of (by decide) hi) (by decide), h⟩
theorem o_ixLP {P : V → Prop} {xs : List V} {m : Int} (hs : SqL K H a xs) (h0 : 0 ≤ i) (h1 : i < m) (hP : ∀ x ∈ xs, P x) (h : ∀ v, P v → Q v H) (hm : m ≤ (xs.length : Int) := by simp only [List.length_cons, List.length_nil]; decide) : rIxU K (.ref a) (.int i) H Q := by
  have hl : i.toNat < xs.length := by omega
  have e : xs[i.toNat]? = some xs[i.toNat] := List.getElem?_eq_getElem hl
  obtain ⟨n, hn⟩ : ∃ n : Nat, i = (n : Int) := ⟨i.toNat, by omega⟩
  refine .inl (.inl ⟨a, xs, i, xs[i.toNat], rfl, rfl, hs, ?_, h _ (hP _ (List.getElem_mem hl))⟩)
  subst hn
  exact atI_nat (by simpa using e)
def nDisp (p : Addr) (x y : V) (H : Hp) (Q : VK) : Prop := H p = some (.dK []) ∧ ∃ k : Key, x = kV k ∧ Q (.ref p) (upd H p (.dK (mergeK [] [(k, y)])))
theorem t_disp1 {tk tv : TE} (S : Sy G L H) (h : ∀ p H', Sy G ((p, Is (.dK [])) :: L) H' → tk σ H' fun x H1 => tv σ H1 fun y H2 => nDisp p x y H2 Q) : tDisp [(tk, tv)] σ H Q := fun p hp => by
  have q := h p _ (S.new hp rfl)
  show tk σ (upd H p (.dK [])) fun x H1 => tv σ H1 fun y H2 => (H2 p = some (.dK []) ∧ ∃ kvs : List (Key × V), [(x, y)] = kvs.map (fun kv => (kV kv.1, kv.2)) ∧ kvs.length ≤ 15 ∧ Q (.ref p) (upd H2 p (.dK (mergeK [] kvs))))
  have e : (fun x H1 => tv σ H1 fun y H2 => nDisp p x y H2 Q) = (fun x H1 => tv σ H1 fun y H2 => (H2 p = some (.dK []) ∧ ∃ kvs : List (Key × V), [(x, y)] = kvs.map (fun kv => (kV kv.1, kv.2)) ∧ kvs.length ≤ 15 ∧ Q (.ref p) (upd H2 p (.dK (mergeK [] kvs))))) := by
    funext x H1
    congr 1
    funext y H2
    refine propext ⟨fun ⟨h1, k, e, q⟩ => ⟨h1, [(k, y)], by rw [e]; rfl, Nat.le_of_ble_eq_true rfl, q⟩, fun ⟨h1, kvs, e, _, q⟩ => ?_⟩
    match kvs, e with
    | [kv], e =>
      have e2 := (List.cons.inj e).1
      refine ⟨h1, kv.1, (Prod.mk.inj e2).1, ?_⟩
      rw [(Prod.mk.inj e2).2]; exact q
  rw [← e]; exact q
theorem n_disp {v : V} (S : Sy G L H) (hp : H p = some (.dK [])) (pu : Put p (Is (.dK (mergeK [] [(Sum.inl i, v)]))) L L') (h : ∀ H', Sy G L' H' → Q (.ref p) H') : nDisp p (.int i) v H Q := ⟨hp, .inl i, rfl, h _ (S.wr pu rfl)⟩
theorem o_modL (c : 0 < j) (h : ∀ q, 0 ≤ q → q < j → Q (.int q) H) : rI (fun _ j => 0 < j) (fun i j => .int (i % j)) (.int i) (.int j) H Q := ⟨i, j, rfl, rfl, c, h _ (Int.emod_nonneg _ (by omega)) (Int.emod_lt_of_pos _ c)⟩
theorem o_neg (h : Q (.int (-i)) H) : rU (fun i => .int (-i)) (.int i) H Q := ⟨i, rfl, h⟩
theorem o_ipI {g : Int → Int → Int} (h : Q (.int (g i j)) H) : ipI g (.int i) (.int j) H Q := ⟨i, j, rfl, rfl, h⟩
theorem o_eqI (h : Q (.bl (decide (i = j))) H) : rEqU K (.int i) (.int j) H Q := .inl ⟨rfl, by
  have e : decide (V.int i = V.int j) = decide (i = j) := decide_eq_decide.mpr ⟨fun h => V.int.inj h, fun h => by rw [h]⟩
  rw [e]; exact h⟩
theorem o_neI (h : Q (.bl (!decide (i = j))) H) : rNeU K (.int i) (.int j) H Q := .inl ⟨rfl, by
  have e : decide (V.int i = V.int j) = decide (i = j) := decide_eq_decide.mpr ⟨fun h => V.int.inj h, fun h => by rw [h]⟩
  rw [e]; exact h⟩
theorem o_eqB {b1 b2 : Bool} (h : Q (.bl (decide (b1 = b2))) H) : rEqU K (.bl b1) (.bl b2) H Q := .inl ⟨rfl, by
  have e : decide (V.bl b1 = V.bl b2) = decide (b1 = b2) := decide_eq_decide.mpr ⟨fun h => V.bl.inj h, fun h => by rw [h]⟩
  rw [e]; exact h⟩
theorem o_neB {b1 b2 : Bool} (h : Q (.bl (!decide (b1 = b2))) H) : rNeU K (.bl b1) (.bl b2) H Q := .inl ⟨rfl, by
  have e : decide (V.bl b1 = V.bl b2) = decide (b1 = b2) := decide_eq_decide.mpr ⟨fun h => V.bl.inj h, fun h => by rw [h]⟩
  rw [e]; exact h⟩
theorem o_eqS {s1 s2 : Str} (h : Q (.bl (decide (s1 = s2))) H) : rEqU K (.str s1) (.str s2) H Q := .inl ⟨rfl, by
  have e : decide (V.str s1 = V.str s2) = decide (s1 = s2) := decide_eq_decide.mpr ⟨fun h => V.str.inj h, fun h => by rw [h]⟩
  rw [e]; exact h⟩
theorem o_neS {s1 s2 : Str} (h : Q (.bl (!decide (s1 = s2))) H) : rNeU K (.str s1) (.str s2) H Q := .inl ⟨rfl, by
  have e : decide (V.str s1 = V.str s2) = decide (s1 = s2) := decide_eq_decide.mpr ⟨fun h => V.str.inj h, fun h => by rw [h]⟩
  rw [e]; exact h⟩
theorem o_eqNI (h : Q (.bl false) H) : rEqU K .non (.int i) H Q := .inl ⟨rfl, by
  have e : decide (V.non = V.int i) = false := decide_eq_false (fun z => nomatch z)
  rw [e]; exact h⟩
theorem o_eqIN (h : Q (.bl false) H) : rEqU K (.int i) .non H Q := .inl ⟨rfl, by
  have e : decide (V.int i = V.non) = false := decide_eq_false (fun z => nomatch z)
  rw [e]; exact h⟩
theorem o_eqNN (h : Q (.bl true) H) : rEqU K .non .non H Q := .inl ⟨rfl, by
  have e : decide (V.non = V.non) = true := decide_eq_true rfl
  rw [e]; exact h⟩
theorem o_neNI (h : Q (.bl true) H) : rNeU K .non (.int i) H Q := .inl ⟨rfl, by
  have e : decide (V.non = V.int i) = false := decide_eq_false (fun z => nomatch z)
  rw [e]; exact h⟩
theorem o_neIN (h : Q (.bl true) H) : rNeU K (.int i) .non H Q := .inl ⟨rfl, by
  have e : decide (V.int i = V.non) = false := decide_eq_false (fun z => nomatch z)
  rw [e]; exact h⟩
theorem o_neNN (h : Q (.bl false) H) : rNeU K .non .non H Q := .inl ⟨rfl, by
  have e : decide (V.non = V.non) = true := decide_eq_true rfl
  rw [e]; exact h⟩
theorem o_eqD {d e : PyData} (h1 : Dp K H x d) (h2 : Dp K H y e) (s1 : SeqAt.shaped d = true) (s2 : SeqAt.shaped e = true) (h : Q (.bl (PyData.eqv d e)) H) : rEqU K x y H Q := .inr (.inl ⟨d, e, h1, h2, s1, s2, h⟩)
theorem o_neD {d e : PyData} (h1 : Dp K H x d) (h2 : Dp K H y e) (s1 : SeqAt.shaped d = true) (s2 : SeqAt.shaped e = true) (h : Q (.bl (!PyData.eqv d e)) H) : rNeU K x y H Q := .inr (.inl ⟨d, e, h1, h2, s1, s2, h⟩)
theorem o_eqNilL {xs : List V} (hs : SqL K H a xs) (hb : SqL K H b []) (h : Q (.bl xs.isEmpty) H) : rEqU K (.ref a) (.ref b) H Q := by
  cases xs with
  | nil => exact .inr (.inr (.inl ⟨a, b, [], rfl, rfl, .inl ⟨hs, hb⟩, (fun _ h => nomatch h), h⟩))
  | cons x xs => exact .inr (.inr (.inr (.inr ⟨a, b, _, _, rfl, rfl, hs, hb, (fun z => nomatch z), h⟩)))
theorem o_neNilL {xs : List V} (hs : SqL K H a xs) (hb : SqL K H b []) (h : Q (.bl (!xs.isEmpty)) H) : rNeU K (.ref a) (.ref b) H Q := by
  cases xs with
  | nil => exact .inr (.inr (.inl ⟨a, b, [], rfl, rfl, .inl ⟨hs, hb⟩, (fun _ h => nomatch h), h⟩))
  | cons x xs => exact .inr (.inr (.inr (.inr ⟨a, b, _, _, rfl, rfl, hs, hb, (fun z => nomatch z), h⟩)))
theorem o_eqLd {xs ys : List V} (hs : SqL K H a xs) (hb : SqL K H b ys) (hn : xs.length ≠ ys.length) (h : Q (.bl false) H) : rEqU K (.ref a) (.ref b) H Q := .inr (.inr (.inr (.inr ⟨a, b, xs, ys, rfl, rfl, hs, hb, hn, h⟩)))
theorem o_neLd {xs ys : List V} (hs : SqL K H a xs) (hb : SqL K H b ys) (hn : xs.length ≠ ys.length) (h : Q (.bl true) H) : rNeU K (.ref a) (.ref b) H Q := .inr (.inr (.inr (.inr ⟨a, b, xs, ys, rfl, rfl, hs, hb, hn, h⟩)))
theorem o_neSmL {xs : List V} (hs : SqL K H a xs) (hb : SqL K H b xs) (hk : ∀ x ∈ xs, okS x = true) (h : Q (.bl false) H) : rNeU K (.ref a) (.ref b) H Q := .inr (.inr (.inl ⟨a, b, xs, rfl, rfl, .inl ⟨hs, hb⟩, hk, h⟩))
theorem o_neSmT {xs : List V} (hs : SqT K H a xs) (hb : SqT K H b xs) (hk : ∀ x ∈ xs, okS x = true) (h : Q (.bl false) H) : rNeU K (.ref a) (.ref b) H Q := .inr (.inr (.inl ⟨a, b, xs, rfl, rfl, .inr ⟨hs, hb⟩, hk, h⟩))
theorem o_eqSmL {xs : List V} (hs : SqL K H a xs) (hb : SqL K H b xs) (hk : ∀ x ∈ xs, okS x = true) (h : Q (.bl true) H) : rEqU K (.ref a) (.ref b) H Q := .inr (.inr (.inl ⟨a, b, xs, rfl, rfl, .inl ⟨hs, hb⟩, hk, h⟩))
theorem o_eqSmT {xs : List V} (hs : SqT K H a xs) (hb : SqT K H b xs) (hk : ∀ x ∈ xs, okS x = true) (h : Q (.bl true) H) : rEqU K (.ref a) (.ref b) H Q := .inr (.inr (.inl ⟨a, b, xs, rfl, rfl, .inr ⟨hs, hb⟩, hk, h⟩))
theorem o_neDk0 (hs : H a = some (.dK [])) (hb : H b = some (.dK [])) (h : Q (.bl false) H) : rNeU K (.ref a) (.ref b) H Q := .inr (.inr (.inr (.inl ⟨a, b, [], [], rfl, rfl, hs, hb, rfl, (fun _ h => nomatch h), h⟩)))
theorem o_eqDT {kvs : List (Key × V)} {ys : List V} (hs : H a = some (.dK kvs)) (hb : SqT K H b ys) (h : Q (.bl false) H) : rEqU K (.ref a) (.ref b) H Q := .inr (.inr (.inr (.inl (.inl ⟨a, b, kvs, ys, rfl, rfl, .inl hs, hb, h⟩))))
theorem o_eqLT {xs ys : List V} (hs : SqL K H a xs) (hb : SqT K H b ys) (h : Q (.bl false) H) : rEqU K (.ref a) (.ref b) H Q := .inr (.inr (.inr (.inl (.inl ⟨a, b, [], ys, rfl, rfl, .inr ⟨xs, hs⟩, hb, h⟩))))
theorem o_eqDS {z : Str} (hs : (∃ kvs, H a = some (.dK kvs)) ∨ (∃ xs, SqL K H a xs) ∨ ∃ xs, SqT K H a xs) (h : Q (.bl false) H) : rEqU K (.ref a) (.str z) H Q := .inr (.inr (.inr (.inl (.inr ⟨a, z, rfl, rfl, hs, h⟩))))
theorem o_tupL {xs : List V} (hs : SqL K H a xs) (h : nObj (.tup xs) H Q) : rTupU K [.ref a] H Q := ⟨a, xs, rfl, .inl ⟨hs, h⟩⟩
theorem o_neNN' (h : Q (.bl false) H) : rNeU K .non .non H Q := .inl ⟨rfl, by
  have e : decide (V.non = V.non) = true := decide_eq_true rfl
  rw [e]; exact h⟩
theorem o_isN (h : Q (.bl (decide (x = .non))) H) : rIsU x .non H Q := .inl ⟨rfl, h⟩
theorem o_isNI (h : Q (.bl false) H) : rIsU (.int i) .non H Q := o_isN (by rw [decide_eq_false (fun z => nomatch z)]; exact h)
theorem o_isNR (h : Q (.bl false) H) : rIsU (.ref a) .non H Q := o_isN (by rw [decide_eq_false (fun z => nomatch z)]; exact h)
theorem o_isNS {z : Str} (h : Q (.bl false) H) : rIsU (.str z) .non H Q := o_isN (by rw [decide_eq_false (fun z => nomatch z)]; exact h)
theorem o_isNB {b : Bool} (h : Q (.bl false) H) : rIsU (.bl b) .non H Q := o_isN (by rw [decide_eq_false (fun z => nomatch z)]; exact h)
theorem o_isNN (h : Q (.bl true) H) : rIsU .non .non H Q := o_isN (by rw [decide_eq_true rfl]; exact h)
theorem o_ntN (h : Q (.bl (!decide (x = .non))) H) : rNotU x .non H Q := .inl ⟨rfl, h⟩
theorem o_ntNI (h : Q (.bl true) H) : rNotU (.int i) .non H Q := o_ntN (by rw [decide_eq_false (fun z => nomatch z)]; exact h)
theorem o_ntNR (h : Q (.bl true) H) : rNotU (.ref a) .non H Q := o_ntN (by rw [decide_eq_false (fun z => nomatch z)]; exact h)
theorem o_ntNS {z : Str} (h : Q (.bl true) H) : rNotU (.str z) .non H Q := o_ntN (by rw [decide_eq_false (fun z => nomatch z)]; exact h)
theorem o_ntNB {b : Bool} (h : Q (.bl true) H) : rNotU (.bl b) .non H Q := o_ntN (by rw [decide_eq_false (fun z => nomatch z)]; exact h)
theorem o_ntNN (h : Q (.bl false) H) : rNotU .non .non H Q := o_ntN (by rw [decide_eq_true rfl]; exact h)
theorem o_isB {b1 b2 : Bool} (h : Q (.bl (decide (b1 = b2))) H) : rIsU (.bl b1) (.bl b2) H Q := .inr (.inl ⟨b1, b2, rfl, rfl, h⟩)
theorem o_ixL {xs : List V} (hs : SqL K H a xs) (e : atI xs i = some v) (h : Q v H) : rIxU K (.ref a) (.int i) H Q := .inl (.inl ⟨a, xs, i, v, rfl, rfl, hs, e, h⟩)
theorem o_ixT {xs : List V} (hs : SqT K H a xs) (e : atI xs i = some v) (h : Q v H) : rIxU K (.ref a) (.int i) H Q := .inl (.inr (.inl ⟨a, xs, i, v, rfl, rfl, hs, e, h⟩))
theorem o_ixD {kvs : List (Key × V)} {k : Key} (hs : H a = some (.dK kvs)) (e : valV kvs k = some v) (h : Q v H) : rIxU K (.ref a) (kV k) H Q := .inr ⟨a, v, rfl, e ▸ DGet.k hs, h⟩
theorem o_get {xs : List V} (hs : H a = some (.lst xs)) (h0 : 0 ≤ i) (e : xs[i.toNat]? = some v) (h : Q v H) : rGetU (.ref a) (.int i) H Q := .inl ⟨a, xs, i, v, rfl, rfl, hs, h0, e, h⟩
theorem o_inL {xs : List V} (hs : SqL K H a xs) (h1 : flatV x = true) (h2 : xs.all flatV = true) (h : Q (.bl (inV x xs)) H) : rInU K false x (.ref a) H Q := .inl ⟨a, xs, rfl, .inl hs, h1, h2, h⟩
theorem o_niL {xs : List V} (hs : SqL K H a xs) (h1 : flatV x = true) (h2 : xs.all flatV = true) (h : Q (.bl (!inV x xs)) H) : rInU K true x (.ref a) H Q := .inl ⟨a, xs, rfl, .inl hs, h1, h2, h⟩
theorem o_inT {xs : List V} (hs : SqT K H a xs) (h1 : flatV x = true) (h2 : xs.all flatV = true) (h : Q (.bl (inV x xs)) H) : rInU K false x (.ref a) H Q := .inl ⟨a, xs, rfl, .inr hs, h1, h2, h⟩
theorem o_niT {xs : List V} (hs : SqT K H a xs) (h1 : flatV x = true) (h2 : xs.all flatV = true) (h : Q (.bl (!inV x xs)) H) : rInU K true x (.ref a) H Q := .inl ⟨a, xs, rfl, .inr hs, h1, h2, h⟩
theorem o_inD {kvs : List (Key × V)} {k : Key} (hs : H a = some (.dK kvs)) (h : Q (.bl (valV kvs k).isSome) H) : rInU K false (kV k) (.ref a) H Q := .inr (.inl ⟨a, _, rfl, DGet.k hs, h⟩)
theorem o_niD {kvs : List (Key × V)} {k : Key} (hs : H a = some (.dK kvs)) (h : Q (.bl (!(valV kvs k).isSome)) H) : rInU K true (kV k) (.ref a) H Q := .inr (.inl ⟨a, _, rfl, DGet.k hs, h⟩)
theorem o_lenL {xs : List V} (hs : SqL K H a xs) (h : Q (.int xs.length) H) : rLenU K [.ref a] H Q := .inl ⟨.ref a, xs.length, rfl, .inl ⟨xs, hs, rfl⟩, h⟩
theorem o_lenT {xs : List V} (hs : SqT K H a xs) (h : Q (.int xs.length) H) : rLenU K [.ref a] H Q := .inl ⟨.ref a, xs.length, rfl, .inr ⟨xs, hs, rfl⟩, h⟩
theorem o_abs (h : Q (.int (if i < 0 then -i else i)) H) : rAbs [.int i] H Q := ⟨i, rfl, h⟩
theorem o_isi {x c : V} {t u : Value} {b : Bool} (hc : ClsV c u) (ht : TyX K H x t) (hk : PySem.W.kitOne K t u = some b) (h : Q (.bl b) H) : rIsi K [x, c] H Q := ⟨x, c, t, u, b, rfl, hc, ht, hk, h⟩
/-! ### new things -/
theorem n_lst {xs : List V} (S : Sy G L H) (hz : xs.length ≤ 1000) (k : ∀ p H', Sy G ((p, Is (.lst xs)) :: L) H' → Q (.ref p) H') : nLst xs H Q := ⟨Nat.le_trans hz (by decide), fun p hp => k p _ (S.new hp rfl)⟩
theorem n_tup {xs : List V} (S : Sy G L H) (hz : xs.length ≤ 1000) (k : ∀ p G' H', Same G G' → G' p = some (.tup xs) → Sy G' L H' → Q (.ref p) H') : nTup xs H Q :=
  ⟨Nat.le_trans hz (by decide), fun p hp => k p _ _ (same_new (S.gnone hp)) upd_same (S.newF hp)⟩
theorem sqt_of {xs : List V} (h : G a = some (.tup xs)) : SqT K G a xs := .inl (.inl h)
theorem sql_of {xs : List V} (h : G a = some (.lst xs)) : SqL K G a xs := .inl (.inl h)
theorem n_any {o : HO} (S : Sy G L H) (k : ∀ p H', Sy G ((p, Is o) :: L) H' → Q (.ref p) H') : nObj o H Q := fun p hp => k p _ (S.new hp rfl)
theorem o_slL {xs : List V} {lo hi : Option Int} (hs : SqL K H a xs) (h : nObj (.lst (cutV xs lo hi)) H Q) : rSlU K (.ref a) lo hi H Q := .inl ⟨a, xs, rfl, hs, h⟩
theorem o_catL {xs ys : List V} (hx : H a = some (.lst xs)) (hy : H b = some (.lst ys)) (hz : xs.length + ys.length ≤ sizeLine) (h : nObj (.lst (xs ++ ys)) H Q) : rAddU K (.ref a) (.ref b) H Q := .inr (.inr (.inl ⟨a, b, xs, ys, rfl, rfl, hx, hy, hz, h⟩))
theorem o_listL {xs : List V} (hs : SqL K H a xs) (h : nObj (.lst xs) H Q) : rListU K [.ref a] H Q := .inl ⟨a, xs, rfl, .inl hs, h⟩
theorem o_setL {xs : List V} {v : V} {P : Hp → Prop} {k : Nat} (S : Sy G L H) (hs : H a = some (.lst xs)) (hk : ixN xs.length i = some k) (pu : Put a (Is (.lst (xs.set k v))) L L') (h : ∀ H', Sy G L' H' → P H') : rSetU (.ref a) (.int i) v H P :=
  .inl ⟨a, xs, i, k, rfl, rfl, hs, hk, h _ (S.wr pu rfl)⟩
theorem o_putD {kvs : List (Key × V)} {k : Key} {P : Hp → Prop} (S : Sy G L H) (hs : H a = some (.dK kvs)) (hz : kvs.length < sizeLine) (pu : Put a (Is (.dK (putK kvs k v))) L L') (h : ∀ H', Sy G L' H' → P H') : rSetU (.ref a) (kV k) v H P :=
  .inr ⟨a, _, rfl, DPut.k hs hz, h _ (S.wr pu rfl)⟩
theorem o_app {xs : List V} (S : Sy G L H) (hs : H a = some (.lst xs)) (hz : xs.length < sizeLine) (pu : Put a (Is (.lst (xs ++ [v]))) L L') (h : ∀ H', Sy G L' H' → Q .non H') : rAppend (.ref a) [v] H Q :=
  ⟨a, xs, v, rfl, rfl, hs, hz, h _ (S.wr pu rfl)⟩
end
theorem sz1000 {n : Nat} (h : n ≤ 1000) : n ≤ sizeLine := Nat.le_trans h (by decide)
end Hw





/-! HwD: the laws' bag; kinds of things; isinstance; comprehensions and loops over the ledger. -/
namespace Hw
open PySem L2

/-! ### specs -/
def sp1 (f : V → Hp → VK → XK → Prop) : Sp := fun vs H Q E => ∃ a, vs = [a] ∧ f a H Q E
def sp2 (f : V → V → Hp → VK → XK → Prop) : Sp := fun vs H Q E => ∃ a b, vs = [a, b] ∧ f a b H Q E
def sp3 (f : V → V → V → Hp → VK → XK → Prop) : Sp := fun vs H Q E => ∃ a b c, vs = [a, b, c] ∧ f a b c H Q E
def sp4 (f : V → V → V → V → Hp → VK → XK → Prop) : Sp := fun vs H Q E => ∃ a b c d, vs = [a, b, c, d] ∧ f a b c d H Q E
def sp5 (f : V → V → V → V → V → Hp → VK → XK → Prop) : Sp := fun vs H Q E => ∃ a b c d e, vs = [a, b, c, d, e] ∧ f a b c d e H Q E
def sp0 (f : Hp → VK → XK → Prop) : Sp := fun vs H Q E => vs = [] ∧ f H Q E
theorem len0 {f} : ∀ vs H Q E, sp0 f vs H Q E → vs.length = 0 := fun vs H Q E ⟨e, _⟩ => by rw [e]; rfl
theorem len1 {f} : ∀ vs H Q E, sp1 f vs H Q E → vs.length = 1 := fun vs H Q E ⟨a, e, _⟩ => by rw [e]; rfl
theorem len2 {f} : ∀ vs H Q E, sp2 f vs H Q E → vs.length = 2 := fun vs H Q E ⟨a, b, e, _⟩ => by rw [e]; rfl
theorem len3 {f} : ∀ vs H Q E, sp3 f vs H Q E → vs.length = 3 := fun vs H Q E ⟨a, b, c, e, _⟩ => by rw [e]; rfl
theorem len4 {f} : ∀ vs H Q E, sp4 f vs H Q E → vs.length = 4 := fun vs H Q E ⟨a, b, c, d, e, _⟩ => by rw [e]; rfl
theorem len5 {f} : ∀ vs H Q E, sp5 f vs H Q E → vs.length = 5 := fun vs H Q E ⟨a, b, c, d, x, e, _⟩ => by rw [e]; rfl

/-! ### the bag -/
def Bag (cs : Addr) : HO → Prop := fun o => ∃ c s i : Int, o = .lst [.int c, .int s, .int i, .ref cs] ∧ 0 ≤ c ∧ 0 ≤ s ∧ s < 2147483647 ∧ 0 ≤ i
def Cells : HO → Prop := fun o => ∃ ns : List Int, o = .lst (ns.map V.int) ∧ ns.length ≤ 63 ∧ ∀ n ∈ ns, 0 ≤ n
def BagIn (b : Addr) (L : Lg) : Prop := ∃ cs, (b, Bag cs) ∈ L ∧ (cs, Cells) ∈ L
theorem BagIn.cons {b : Addr} {L : Lg} {x : Addr × (HO → Prop)} (h : BagIn b L) : BagIn b (x :: L) :=
  let ⟨cs, h1, h2⟩ := h; ⟨cs, List.mem_cons_of_mem _ h1, List.mem_cons_of_mem _ h2⟩
theorem BagIn.hd {b cs : Addr} {L : Lg} : BagIn b ((b, Bag cs) :: (cs, Cells) :: L) := ⟨cs, List.mem_cons_self .., List.mem_cons_of_mem _ (List.mem_cons_self ..)⟩

/-! ### kinds of things -/
/-- what a thing may be: a number, a truth, None, a text, a list, a tuple, a dict that stand in the ground -/
inductive Kd (G : Hp) : V → Prop
  | int (i : Int) : Kd G (.int i)
  | bl (b : Bool) : Kd G (.bl b)
  | non : Kd G .non
  | str (x : Str) : Kd G (.str x)
  | lst {a : Addr} {xs : List V} (h : G a = some (.lst xs)) : Kd G (.ref a)
  | tup {a : Addr} {xs : List V} (h : G a = some (.tup xs)) : Kd G (.ref a)
  | dk {a : Addr} {kvs : List (Key × V)} (h : G a = some (.dK kvs)) : Kd G (.ref a)
theorem Kd.mono {G G' : Hp} {v : V} (e : Same G G') (h : Kd G v) : Kd G' v := by
  cases h with
  | int i => exact .int i
  | bl b => exact .bl b
  | non => exact .non
  | str x => exact .str x
  | lst h => exact .lst (e _ _ h)
  | tup h => exact .tup (e _ _ h)
  | dk h => exact .dk (e _ _ h)
def isI : V → Bool | .int _ => true | .bl _ => true | _ => false
def isB : V → Bool | .bl _ => true | _ => false
def isS : V → Bool | .str _ => true | _ => false
def isL (G : Hp) (v : V) : Bool := match v with
  | .ref a => (match G a with | some (.lst _) => true | _ => false)
  | _ => false
def isT (G : Hp) (v : V) : Bool := match v with
  | .ref a => (match G a with | some (.tup _) => true | _ => false)
  | _ => false
theorem isL_lst {G : Hp} {a : Addr} {xs : List V} (h : G a = some (.lst xs)) : isL G (.ref a) = true := by unfold isL; simp only [h]
theorem isL_tup {G : Hp} {a : Addr} {xs : List V} (h : G a = some (.tup xs)) : isL G (.ref a) = false := by unfold isL; simp only [h]
theorem isL_dk {G : Hp} {a : Addr} {kvs : List (Key × V)} (h : G a = some (.dK kvs)) : isL G (.ref a) = false := by unfold isL; simp only [h]
theorem isT_lst {G : Hp} {a : Addr} {xs : List V} (h : G a = some (.lst xs)) : isT G (.ref a) = false := by unfold isT; simp only [h]
theorem isT_tup {G : Hp} {a : Addr} {xs : List V} (h : G a = some (.tup xs)) : isT G (.ref a) = true := by unfold isT; simp only [h]
theorem isT_dk {G : Hp} {a : Addr} {kvs : List (Key × V)} (h : G a = some (.dK kvs)) : isT G (.ref a) = false := by unfold isT; simp only [h]
section
variable {K : PySem.W.Frag} {H : Hp} {Q : VK} {v : V}
theorem kd_ty (h : Kd H v) : ∃ T, TyX K H v (.type T) ∧ PySem.W.kitOne K (.type T) (.type "int") = some (isI v) ∧ PySem.W.kitOne K (.type T) (.type "bool") = some (isB v) ∧ PySem.W.kitOne K (.type T) (.type "str") = some (isS v)
    ∧ PySem.W.kitOne K (.type T) (.type "list") = some (isL H v) ∧ PySem.W.kitOne K (.type T) (.type "tuple") = some (isT H v) := by
  cases h with
  | int i => exact ⟨"int", .base (.int i), (show kitB "int" "int" = some true by decide +kernel), (show kitB "int" "bool" = some false by decide +kernel), (show kitB "int" "str" = some false by decide +kernel), (show kitB "int" "list" = some false by decide +kernel), (show kitB "int" "tuple" = some false by decide +kernel)⟩
  | bl b => exact ⟨"bool", .base (.bl b), (show kitB "bool" "int" = some true by decide +kernel), (show kitB "bool" "bool" = some true by decide +kernel), (show kitB "bool" "str" = some false by decide +kernel), (show kitB "bool" "list" = some false by decide +kernel), (show kitB "bool" "tuple" = some false by decide +kernel)⟩
  | non => exact ⟨"NoneType", .base .non, (show kitB "NoneType" "int" = some false by decide +kernel), (show kitB "NoneType" "bool" = some false by decide +kernel), (show kitB "NoneType" "str" = some false by decide +kernel), (show kitB "NoneType" "list" = some false by decide +kernel), (show kitB "NoneType" "tuple" = some false by decide +kernel)⟩
  | str x => exact ⟨"str", .base (.str x), (show kitB "str" "int" = some false by decide +kernel), (show kitB "str" "bool" = some false by decide +kernel), (show kitB "str" "str" = some true by decide +kernel), (show kitB "str" "list" = some false by decide +kernel), (show kitB "str" "tuple" = some false by decide +kernel)⟩
  | @lst a xs h => exact ⟨"list", .base (.lst h), (show kitB "list" "int" = some false by decide +kernel), (show kitB "list" "bool" = some false by decide +kernel), (show kitB "list" "str" = some false by decide +kernel), (by rw [isL_lst h]; exact (show kitB "list" "list" = some true by decide +kernel)), (by rw [isT_lst h]; exact (show kitB "list" "tuple" = some false by decide +kernel))⟩
  | @tup a xs h => exact ⟨"tuple", .base (.tup h), (show kitB "tuple" "int" = some false by decide +kernel), (show kitB "tuple" "bool" = some false by decide +kernel), (show kitB "tuple" "str" = some false by decide +kernel), (by rw [isL_tup h]; exact (show kitB "tuple" "list" = some false by decide +kernel)), (by rw [isT_tup h]; exact (show kitB "tuple" "tuple" = some true by decide +kernel))⟩
  | @dk a kvs h => exact ⟨"dict", .base (.dK h), (show kitB "dict" "int" = some false by decide +kernel), (show kitB "dict" "bool" = some false by decide +kernel), (show kitB "dict" "str" = some false by decide +kernel), (by rw [isL_dk h]; exact (show kitB "dict" "list" = some false by decide +kernel)), (by rw [isT_dk h]; exact (show kitB "dict" "tuple" = some false by decide +kernel))⟩
theorem isi_int (h : Kd H v) (q : Q (.bl (isI v)) H) : rIsi K [v, .ty "int"] H Q := let ⟨_, t, k, _⟩ := kd_ty (K := K) h; o_isi (.ty _) t k q
theorem isi_bool (h : Kd H v) (q : Q (.bl (isB v)) H) : rIsi K [v, .ty "bool"] H Q := let ⟨_, t, _, k, _⟩ := kd_ty (K := K) h; o_isi (.ty _) t k q
theorem isi_str (h : Kd H v) (q : Q (.bl (isS v)) H) : rIsi K [v, .ty "str"] H Q := let ⟨_, t, _, _, k, _⟩ := kd_ty (K := K) h; o_isi (.ty _) t k q
theorem isi_list (h : Kd H v) (q : Q (.bl (isL H v)) H) : rIsi K [v, .ty "list"] H Q := let ⟨_, t, _, _, _, k, _⟩ := kd_ty (K := K) h; o_isi (.ty _) t k q
theorem isi_tuple (h : Kd H v) (q : Q (.bl (isT H v)) H) : rIsi K [v, .ty "tuple"] H Q := let ⟨_, t, _, _, _, _, k⟩ := kd_ty (K := K) h; o_isi (.ty _) t k q
end

section
variable {K : PySem.W.Frag} {H : Hp} {Q : VK} {a : Addr} {i : Int} {b : Bool} {x : Str} {xs : List V} {kvs : List (Key × V)}
theorem isi_ii (q : Q (.bl true) H) : rIsi K [.int i, .ty "int"] H Q := isi_int (.int i) q
theorem isi_ib (q : Q (.bl false) H) : rIsi K [.int i, .ty "bool"] H Q := isi_bool (.int i) q
theorem isi_is (q : Q (.bl false) H) : rIsi K [.int i, .ty "str"] H Q := isi_str (.int i) q
theorem isi_il (q : Q (.bl false) H) : rIsi K [.int i, .ty "list"] H Q := isi_list (.int i) q
theorem isi_it (q : Q (.bl false) H) : rIsi K [.int i, .ty "tuple"] H Q := isi_tuple (.int i) q
theorem isi_bi (q : Q (.bl true) H) : rIsi K [.bl b, .ty "int"] H Q := isi_int (.bl b) q
theorem isi_bb (q : Q (.bl true) H) : rIsi K [.bl b, .ty "bool"] H Q := isi_bool (.bl b) q
theorem isi_bs (q : Q (.bl false) H) : rIsi K [.bl b, .ty "str"] H Q := isi_str (.bl b) q
theorem isi_bL (q : Q (.bl false) H) : rIsi K [.bl b, .ty "list"] H Q := isi_list (.bl b) q
theorem isi_bt (q : Q (.bl false) H) : rIsi K [.bl b, .ty "tuple"] H Q := isi_tuple (.bl b) q
theorem isi_ni (q : Q (.bl false) H) : rIsi K [.non, .ty "int"] H Q := isi_int .non q
theorem isi_nb (q : Q (.bl false) H) : rIsi K [.non, .ty "bool"] H Q := isi_bool .non q
theorem isi_ns (q : Q (.bl false) H) : rIsi K [.non, .ty "str"] H Q := isi_str .non q
theorem isi_nl (q : Q (.bl false) H) : rIsi K [.non, .ty "list"] H Q := isi_list .non q
theorem isi_nt (q : Q (.bl false) H) : rIsi K [.non, .ty "tuple"] H Q := isi_tuple .non q
theorem isi_si (q : Q (.bl false) H) : rIsi K [.str x, .ty "int"] H Q := isi_int (.str x) q
theorem isi_sb (q : Q (.bl false) H) : rIsi K [.str x, .ty "bool"] H Q := isi_bool (.str x) q
theorem isi_ss (q : Q (.bl true) H) : rIsi K [.str x, .ty "str"] H Q := isi_str (.str x) q
theorem isi_sl (q : Q (.bl false) H) : rIsi K [.str x, .ty "list"] H Q := isi_list (.str x) q
theorem isi_st (q : Q (.bl false) H) : rIsi K [.str x, .ty "tuple"] H Q := isi_tuple (.str x) q
theorem isi_li (h : H a = some (.lst xs)) (q : Q (.bl false) H) : rIsi K [.ref a, .ty "int"] H Q := isi_int (.lst h) q
theorem isi_lb (h : H a = some (.lst xs)) (q : Q (.bl false) H) : rIsi K [.ref a, .ty "bool"] H Q := isi_bool (.lst h) q
theorem isi_ls (h : H a = some (.lst xs)) (q : Q (.bl false) H) : rIsi K [.ref a, .ty "str"] H Q := isi_str (.lst h) q
theorem isi_ll (h : H a = some (.lst xs)) (q : Q (.bl true) H) : rIsi K [.ref a, .ty "list"] H Q := isi_list (.lst h) (by rw [isL_lst h]; exact q)
theorem isi_lt (h : H a = some (.lst xs)) (q : Q (.bl false) H) : rIsi K [.ref a, .ty "tuple"] H Q := isi_tuple (.lst h) (by rw [isT_lst h]; exact q)
theorem isi_ti (h : H a = some (.tup xs)) (q : Q (.bl false) H) : rIsi K [.ref a, .ty "int"] H Q := isi_int (.tup h) q
theorem isi_tb (h : H a = some (.tup xs)) (q : Q (.bl false) H) : rIsi K [.ref a, .ty "bool"] H Q := isi_bool (.tup h) q
theorem isi_ts (h : H a = some (.tup xs)) (q : Q (.bl false) H) : rIsi K [.ref a, .ty "str"] H Q := isi_str (.tup h) q
theorem isi_tl (h : H a = some (.tup xs)) (q : Q (.bl false) H) : rIsi K [.ref a, .ty "list"] H Q := isi_list (.tup h) (by rw [isL_tup h]; exact q)
theorem isi_tt (h : H a = some (.tup xs)) (q : Q (.bl true) H) : rIsi K [.ref a, .ty "tuple"] H Q := isi_tuple (.tup h) (by rw [isT_tup h]; exact q)
theorem isi_di (h : H a = some (.dK kvs)) (q : Q (.bl false) H) : rIsi K [.ref a, .ty "int"] H Q := isi_int (.dk h) q
theorem isi_db (h : H a = some (.dK kvs)) (q : Q (.bl false) H) : rIsi K [.ref a, .ty "bool"] H Q := isi_bool (.dk h) q
theorem isi_ds (h : H a = some (.dK kvs)) (q : Q (.bl false) H) : rIsi K [.ref a, .ty "str"] H Q := isi_str (.dk h) q
theorem isi_dl (h : H a = some (.dK kvs)) (q : Q (.bl false) H) : rIsi K [.ref a, .ty "list"] H Q := isi_list (.dk h) (by rw [isL_dk h]; exact q)
theorem isi_dt (h : H a = some (.dK kvs)) (q : Q (.bl false) H) : rIsi K [.ref a, .ty "tuple"] H Q := isi_tuple (.dk h) (by rw [isT_dk h]; exact q)
end

/-! ### what is walked -/
section
variable {K : PySem.W.Frag} {G : Hp} {L : Lg} {H : Hp} {σ : L2.St} {Q : VK} {a : Addr} {g : TG} {tt : TT} {te : TE} {vs : List Nat} {xs : List V}
def nSeq (K : PySem.W.Frag) (x : V) (H : Hp) (R : It → Hp → Prop) : Prop := ∃ a, x = .ref a ∧ (∃ xs, SqL K H a xs) ∧ R (Itl K a) H
def nSeqT (K : PySem.W.Frag) (x : V) (H : Hp) (R : It → Hp → Prop) : Prop := ∃ a, x = .ref a ∧ (∃ xs, SqT K H a xs) ∧ R (Itt K a) H
theorem it_list {R : It → Hp → Prop} (hs : SqL K H a xs) (h : R (Itl K a) H) : nSeq K (.ref a) H R := ⟨a, rfl, ⟨xs, hs⟩, h⟩
theorem it_tup {R : It → Hp → Prop} (hs : SqT K H a xs) (h : R (Itt K a) H) : nSeqT K (.ref a) H R := ⟨a, rfl, ⟨xs, hs⟩, h⟩
theorem i_list {tl : TE} {R : It → Hp → Prop} (h : tl σ H fun x H1 => nSeq K x H1 R) : iList K tl σ H R := h
theorem i_tup {tl : TE} {R : It → Hp → Prop} (h : tl σ H fun x H1 => nSeqT K x H1 R) : iTup K tl σ H R := h
def nLc (J : It) (g : TG) (tt : TT) (te : TE) (vs : List Nat) (σ : L2.St) (H : Hp) (Q : VK) : Prop := ∀ D, H D = none → ∃ W : Nat → Nat → Hp → Prop, (∃ m, W 0 m (upd H D (.lst []))) ∧ ∀ i m H, W i m H →
  (J.stop i H ∧ Q (.ref D) H) ∨ (J.go i H ∧ ∃ Nx : Hp → Prop, (∀ H', Nx H' → ∃ m', m' < m ∧ W (i + 1) m' H') ∧ ∀ x H', J.yld i H x H' → g x (wipe σ vs) H' fun σ2 H2 => wipe σ2 vs = wipe σ vs ∧ tt σ2 H2 fun b H3 =>
    if b = true then te σ2 H3 fun y H4 => ∃ acc, H4 D = some (.lst acc) ∧ acc.length < sizeLine ∧ Nx (upd H4 D (.lst (acc ++ [y]))) else Nx H3)
theorem t_lc {wi : TI} (h : wi σ H fun J H1 => nLc J g tt te vs σ H1 Q) : tLc wi g tt te vs σ H Q := h
def nFor (J : It) (g : TG) (tb : TS) (D : Ends) (σ : L2.St) (H : Hp) : Prop := ∃ W : Nat → Nat → L2.St → Hp → Prop, (∃ m, W 0 m σ H) ∧ ∀ i m σ H, W i m σ H →
  (J.stop i H ∧ D.nx σ H) ∨ (J.go i H ∧ ∃ N : L2.St → Hp → Prop, (∀ σ' H', N σ' H' → ∃ m', m' < m ∧ W (i + 1) m' σ' H') ∧ ∀ x H', J.yld i H x H' → g x σ H' fun σ2 H2 => tb { D with nx := N, ct := N, bk := D.nx } σ2 H2)
theorem s_for {wi : TI} {tb : TS} {D : Ends} (h : wi σ H fun J H1 => nFor J g tb D σ H1) : tFor wi g tb D σ H := h
theorem f_list {tb : TS} {nx : L2.St → Hp → Prop} {rt : VK} {bk ct : L2.St → Hp → Prop} (Pv : Nat → L2.St → Hp → Prop) (h0 : Pv 0 σ H) (hl : ∀ i σ H, i ≤ xs.length → Pv i σ H → SqL K H a xs)
    (hs : ∀ i x σ H, xs[i]? = some x → Pv i σ H → g x σ H fun σ2 H2 => tb ⟨Pv (i + 1), rt, nx, Pv (i + 1)⟩ σ2 H2) (hd : ∀ σ H, Pv xs.length σ H → nx σ H) : nFor (Itl K a) g tb ⟨nx, rt, bk, ct⟩ σ H :=
  for_list (D := ⟨nx, rt, bk, ct⟩) Pv h0 hl hs hd
theorem f_range {tb : TS} {nx : L2.St → Hp → Prop} {rt : VK} {bk ct : L2.St → Hp → Prop} {lo : Int} {n : Nat} (Pv : Nat → L2.St → Hp → Prop) (h0 : Pv 0 σ H)
    (hs : ∀ i σ H, i < n → Pv i σ H → g (.int (lo + i)) σ H fun σ2 H2 => tb ⟨Pv (i + 1), rt, nx, Pv (i + 1)⟩ σ2 H2) (hd : ∀ σ H, Pv n σ H → nx σ H) : nFor (Itr lo n) g tb ⟨nx, rt, bk, ct⟩ σ H :=
  for_range (D := ⟨nx, rt, bk, ct⟩) Pv h0 hs hd
def nRng1 (vs : List V) (H : Hp) (R : It → Hp → Prop) : Prop := ∃ j : Int, vs = [.int j] ∧ -(2 ^ 62) ≤ j ∧ j < 2 ^ 62 ∧ R (Itr 0 j.toNat) H
def nRng2 (vs : List V) (H : Hp) (R : It → Hp → Prop) : Prop := ∃ i j : Int, vs = [.int i, .int j] ∧ (-(2 ^ 62) ≤ i ∧ i < 2 ^ 62 ∧ -(2 ^ 62) ≤ j ∧ j < 2 ^ 62) ∧ R (Itr i (j - i).toNat) H
theorem i_rng1 {ta : TA} {R : It → Hp → Prop} (h : ta σ H fun vs H1 => nRng1 vs H1 R) : iRng1 ta σ H R := h
theorem it_rng1 {R : It → Hp → Prop} {j : Int} (h1 : -(2 ^ 62) ≤ j ∧ j < 2 ^ 62) (h : R (Itr 0 j.toNat) H) : nRng1 [.int j] H R := ⟨j, rfl, h1.1, h1.2, h⟩
theorem i_rng2 {ta : TA} {R : It → Hp → Prop} (h : ta σ H fun vs H1 => nRng2 vs H1 R) : iRng2 ta σ H R := h
theorem it_rng2 {R : It → Hp → Prop} {i j : Int} (h : -(2 ^ 62) ≤ i ∧ i < 2 ^ 62 ∧ -(2 ^ 62) ≤ j ∧ j < 2 ^ 62) (q : R (Itr i (j - i).toNat) H) : nRng2 [.int i, .int j] H R := ⟨i, j, rfl, h, q⟩
def nEnum (K : PySem.W.Frag) (vs : List V) (H : Hp) (R : It → Hp → Prop) : Prop := ∃ a xs, vs = [.ref a] ∧ SqL K H a xs ∧ R (Ite K a) H
theorem i_enum {ta : TA} {R : It → Hp → Prop} (h : ta σ H fun vs H1 => nEnum K vs H1 R) : iEnum K ta σ H R := h
theorem it_enum {R : It → Hp → Prop} (hs : SqL K H a xs) (h : R (Ite K a) H) : nEnum K [.ref a] H R := ⟨a, xs, rfl, hs, h⟩
/-- a comprehension over a list: I, what holds of the turn, the list so far and the ground -/
theorem lc_sy (S : Sy G L H) (hl : ∀ G' H' acc D, Same G G' → Sy G' ((D, Is (.lst acc)) :: L) H' → SqL K H' a xs) (I : Nat → List V → Hp → Prop) (h0 : I 0 [] G) (hz : xs.length ≤ 100000)
    (hs : ∀ i x acc D G' H' (P : V → Hp → Prop) (N : Hp → Prop), xs[i]? = some x → Same G G' → Sy G' ((D, Is (.lst acc)) :: L) H' → I i acc G' →
      (∀ y G'' H'', Same G' G'' → Sy G'' ((D, Is (.lst acc)) :: L) H'' → I (i + 1) (acc ++ [y]) G'' → P y H'') → (∀ G'' H'', Same G' G'' → Sy G'' ((D, Is (.lst acc)) :: L) H'' → I (i + 1) acc G'' → N H'') →
      g x (wipe σ vs) H' fun σ2 H2 => wipe σ2 vs = wipe σ vs ∧ tt σ2 H2 fun b H3 => if b = true then te σ2 H3 P else N H3)
    (hd : ∀ D acc G' H', Same G G' → Sy G' ((D, Is (.lst acc)) :: L) H' → I xs.length acc G' → acc.length ≤ xs.length → Q (.ref D) H') :
    nLc (Itl K a) g tt te vs σ H Q := by
  intro D hD
  refine lc_list (xs := xs) (Qd := fun H => Q (.ref D) H) (fun i H' => ∃ acc G', acc.length ≤ i ∧ Same G G' ∧ Sy G' ((D, Is (.lst acc)) :: L) H' ∧ I i acc G') ⟨[], G, Nat.le_refl _, Same.refl _, S.new hD rfl, h0⟩ ?_ ?_ ?_
  · rintro i H' _ ⟨acc, G', _, s, S', _⟩
    exact hl G' H' acc D s S'
  · rintro i x H' hx ⟨acc, G', hle, s, S', hI⟩
    have hi := (List.getElem?_eq_some_iff.mp hx).1
    refine hs i x acc D G' H' _ _ hx s S' hI (fun y G'' H'' s2 S2 hI2 => ?_) fun G'' H'' s2 S2 hI2 => ?_
    · refine ⟨acc, S2.at (List.mem_cons_self ..), Nat.lt_of_lt_of_le (show acc.length < 100001 by omega) (by decide), acc ++ [y], G'', by rw [List.length_append, List.length_singleton]; omega, s.trans s2, S2.wr .hd rfl, hI2⟩
    · exact ⟨acc, G'', by omega, s.trans s2, S2, hI2⟩
  · rintro H' ⟨acc, G', hle, s, S', hI⟩
    exact hd D acc G' H' s S' hI hle
end
section
variable {K : PySem.W.Frag} {G : Hp} {L : Lg} {H : Hp} {σ : L2.St} {Q : VK} {g : TG} {tt : TT} {te : TE} {vs : List Nat} {lo : Int} {n : Nat}
/-- a comprehension over a range -/
theorem lc_rng (S : Sy G L H) (I : Nat → List V → Hp → Prop) (h0 : I 0 [] G) (hz : n ≤ 100000)
    (hs : ∀ i acc D G' H' (P : V → Hp → Prop) (N : Hp → Prop), i < n → Same G G' → Sy G' ((D, Is (.lst acc)) :: L) H' → I i acc G' →
      (∀ y G'' H'', Same G' G'' → Sy G'' ((D, Is (.lst acc)) :: L) H'' → I (i + 1) (acc ++ [y]) G'' → P y H'') → (∀ G'' H'', Same G' G'' → Sy G'' ((D, Is (.lst acc)) :: L) H'' → I (i + 1) acc G'' → N H'') →
      g (.int (lo + i)) (wipe σ vs) H' fun σ2 H2 => wipe σ2 vs = wipe σ vs ∧ tt σ2 H2 fun b H3 => if b = true then te σ2 H3 P else N H3)
    (hd : ∀ D acc G' H', Same G G' → Sy G' ((D, Is (.lst acc)) :: L) H' → I n acc G' → acc.length ≤ n → Q (.ref D) H') :
    nLc (Itr lo n) g tt te vs σ H Q := by
  intro D hD
  refine lc_range (Qd := fun H => Q (.ref D) H) (fun i H' => ∃ acc G', acc.length ≤ i ∧ Same G G' ∧ Sy G' ((D, Is (.lst acc)) :: L) H' ∧ I i acc G') ⟨[], G, Nat.le_refl _, Same.refl _, S.new hD rfl, h0⟩ ?_ ?_
  · rintro i H' hi ⟨acc, G', hle, s, S', hI⟩
    refine hs i acc D G' H' _ _ hi s S' hI (fun y G'' H'' s2 S2 hI2 => ?_) fun G'' H'' s2 S2 hI2 => ?_
    · refine ⟨acc, S2.at (List.mem_cons_self ..), Nat.lt_of_lt_of_le (show acc.length < 100001 by omega) (by decide), acc ++ [y], G'', by rw [List.length_append, List.length_singleton]; omega, s.trans s2, S2.wr .hd rfl, hI2⟩
    · exact ⟨acc, G'', by omega, s.trans s2, S2, hI2⟩
  · rintro H' ⟨acc, G', hle, s, S', hI⟩
    exact hd D acc G' H' s S' hI hle
end
end Hw
namespace Hw
open PySem L2
theorem atI_of {α : Type} {xs : List α} {i : Int} {v : α} (h0 : 0 ≤ i) (h : xs[i.toNat]? = some v) : atI xs i = some v := by
  obtain ⟨n, rfl⟩ : ∃ n : Nat, i = (n : Int) := ⟨i.toNat, by omega⟩
  rw [Int.toNat_natCast] at h
  exact atI_nat h
theorem atI_int {α : Type} {xs : List α} {i : Int} (h0 : 0 ≤ i) (h1 : i < (xs.length : Int)) : ∃ v, atI xs i = some v ∧ xs[i.toNat]? = some v := by
  have hl : i.toNat < xs.length := by omega
  exact ⟨xs[i.toNat], atI_of h0 (List.getElem?_eq_getElem hl), List.getElem?_eq_getElem hl⟩
theorem atI_ints {ns : List Int} {i : Int} (h0 : 0 ≤ i) (h1 : i < (ns.length : Int)) : ∃ n, atI (ns.map V.int) i = some (.int n) ∧ n ∈ ns := by
  have hl : i.toNat < ns.length := by omega
  refine ⟨ns[i.toNat], atI_of h0 ?_, List.getElem_mem hl⟩
  rw [List.getElem?_map, List.getElem?_eq_getElem hl]; rfl
theorem lc_wp {σ1 σ2 : L2.St} {vs : List Nat} {B : Prop} (e : wipe σ2 vs = wipe σ1 vs) (h : B) : wipe σ2 vs = wipe σ1 vs ∧ B := ⟨e, h⟩
theorem cutV_mem {xs : List V} {lo hi : Option Int} {v : V} (h : v ∈ cutV xs lo hi) : v ∈ xs := List.mem_of_mem_drop (List.mem_of_mem_take h)
theorem cutV_to {xs : List V} {n : Nat} : (cutV xs none (some (n : Int))) = xs.take n := by
  unfold cutV
  have e0 : HT.sIx xs.length 0 none = 0 := rfl
  have e1 : HT.sIx xs.length xs.length (some (n : Int)) = min n xs.length := HT.sIx_nat _ _ _
  rw [e0, e1, List.drop_zero, Nat.sub_zero]
  by_cases h : n ≤ xs.length
  · rw [Nat.min_eq_left h]
  · rw [Nat.min_eq_right (by omega), List.take_of_length_le (Nat.le_refl _), List.take_of_length_le (by omega)]
theorem cutV_len_le {xs : List V} {lo hi : Option Int} : (cutV xs lo hi).length ≤ xs.length := by
  unfold cutV; rw [List.length_take, List.length_drop]; omega
end Hw
namespace Hw
open PySem L2
theorem hu65_of {A : Around} {k : Nat} (hr : Room k A) : A.units + 65 < cLine := by have := hr.un; omega
end Hw





/-! HwX: own exceptions over an own base: made, raised, caught, asked; objects that are the same are equal. -/
namespace Hw
open PySem PySem.Spec PyProof.Rows L2

/-! ### an exception's __init__ through its own base class -/
/-- B.__init__ is ValueError's, read off the class B of the program -/
structure XBase (K : PySem.W.Frag) (B : Addr) : Prop where
  rd : PySem.W.readsIn K B (.type "type") = true
  ga : PySem.W.specialIn K (.ref B) "__getattribute__" = some (some (.builtin "type.__getattribute__"))
  at_ : PySem.W.findCls K (.ref B) (.type "type") "__init__" = some (.val (.builtin "ValueError.__init__"))
section
variable {X : Cx} {o e : Expr} {es : List Expr} {to te : TE} {ta : TA} {f x : Str} {p p1 p2 pos : Pos} {B : Addr}
theorem pe_binit {pl : Sem Bool} (T : XBase X.K B) (hg : Gl X x) (hm : X.mg x = some (.ref B)) (ha : PA X (e :: es) ta) (hdb : (x == ("__debug__" : Str)) = false := by decide)
    (hc : eval (.Call (.Attribute (.Name x p1) "__init__" p2) (e :: es) [] pos) X.env = (do
      let ov ← eval (.Name x p1) X.env
      standAt p2.atName
      let (f, first) ← holding [ov] (getMethod ov "__init__" pl)
      callWith pos f first (backTo pos (starEach (e :: es) X.env)) (backToKw pos (keywordEach [] X.env))) := by rfl)
    (he : starEach (e :: es) X.env = (false, eval e X.env) :: starEach es X.env := by rfl) (hpl : (backTo pos (starEach es X.env)).any (·.1) = false := by rfl) :
    PE X (.Call (.Attribute (.Name x p1) "__init__" p2) (e :: es) [] pos) (tVeI X.K ta) := by
  refine ⟨fun pins s σ H Q I h => ?_⟩
  refine PySem.W.methodCall_KW (ld_glob I hg hm ?_ hdb) hc
  refine PySem.W.method_cls I.kIn T.ga (PySem.W.cls_value I.kIn T.rd T.at_ (by decide +kernel) ?_)
  show wpAny _ _ (callWith pos (Value.builtin "ValueError.__init__") [] (backTo pos (starEach (e :: es) X.env)) []) _ _ _
  refine PyProof.Rows.callWith_method1 (thn (ha.run pos pins _ σ H _ (I.tok _) h) fun us s1 ⟨vs, H1, I1, r1, a, C, ws, ev, hl, T, ea, q⟩ => ?_) he hpl
  subst ev
  cases r1 with
  | @cons _ u0 _ ur ra rw' =>
    obtain rfl : u0 = Value.ref a := ra
    have hlen : ur.length ≤ sizeLine := by
      rw [← Paired.length rw', sizeLine_eq]
      omega
    exact oinit_ok T I1 ea hlen fun s' J => ⟨.non, H1, J, rfl, q⟩
end

/-! ### an exception is made -/
/-- what an own exception's __init__ promises: it sets the fields fs, in that order -/
def spExc (C : Addr) (fs : List Str) : Sp := fun vs H Q _ => ∃ (a : Addr) (ws : List V), vs = .ref a :: ws ∧ ws.length = fs.length ∧ H a = some (exo a C none) ∧
  ((fs = [] ∧ Q .non H) ∨ (fs ≠ [] ∧ ∀ d, H d = none → d ≠ a → Q .non (upd (upd H a (exo a C (some d))) d (exd d (fs.zip ws).reverse))))
/-- the class of name x, its __init__ sets fs -/
structure HasX (P : Program) (w : World) (K : PySem.W.Frag) (mg : Str → Option Value) (base : Heap) (k : Nat) (x : Str) (C : Addr) (fs : List Str) : Prop where
  gl : mg x = some (.ref C)
  T : OexC K C
  ex : ∃ (fI : Addr) (fd : FuncData) (ps : List Str), PySem.W.findIn K (.ref C) "__init__" = some (some (.ref fI)) ∧ PySem.W.typeIn K (.ref fI) = some (.type "function") ∧ Binds K fd ps [] ∧ FnOk P w K mg base (L2.CX P w) k fI fd ps (spExc C fs)
def nMk (C : Addr) (fs : List Str) (vs : List V) (H1 : Hp) (Q : XK) : Prop := vs.length ≤ 1000 ∧ ∀ a, H1 a = none → spExc C fs (.ref a :: (vs ++ [])) (upd H1 a (exo a C none))
  (fun v H2 => v = .non ∧ ∃ (d : Addr) (fs : List (Str × V)), H2 a = some (exo a C (some d)) ∧ H2 d = some (exd d fs) ∧ H1 d = none ∧ Q (.ref C) (some d) (upd (del H2 a) d (.xd fs))) (fun _ _ _ => False)
def tMkX (C : Addr) (fs : List Str) (ta : TA) : L2.St → Hp → XK → Prop := fun σ H Q => ta σ H fun vs H1 => nMk C fs vs H1 Q
def tRz (W : WX) (t : L2.St → Hp → XK → Prop) : TS := fun _ σ H => t σ H fun cls d H' => W cls d σ H'
section
variable {C : Addr} {fs : List Str} {vs : List V} {H1 : Hp} {Q : XK} {σ : L2.St} {D : Ends} {W : WX} {ta : TA}
theorem t_mk (h : ta σ H1 fun vs H1 => nMk C fs vs H1 Q) : tMkX C fs ta σ H1 Q := h
theorem s_raise {t : L2.St → Hp → XK → Prop} (h : t σ H1 fun cls d H' => W cls d σ H') : tRz W t D σ H1 := h
theorem n_mk0 (hl : vs.length = fs.length) (hf : fs ≠ []) (hz : fs.length ≤ 1000) (q : ∀ d, H1 d = none → Q (.ref C) (some d) (upd H1 d (.xd (fs.zip vs).reverse))) : nMk C fs vs H1 Q := by
  refine ⟨by omega, fun a na => ?_⟩
  refine ⟨a, vs, by rw [List.append_nil], hl, upd_same, .inr ⟨hf, fun d hd hda => ⟨rfl, d, _, ?_, upd_same, ?_, ?_⟩⟩⟩
  · rw [upd_ne (Ne.symm hda), upd_same]
  · rw [upd_ne hda] at hd; exact hd
  · have hd1 : H1 d = none := by rw [upd_ne hda] at hd; exact hd
    have e : upd (del (upd (upd (upd H1 a (exo a C none)) a (exo a C (some d))) d (exd d (fs.zip vs).reverse)) a) d (.xd (fs.zip vs).reverse) = upd H1 d (.xd (fs.zip vs).reverse) := by
      funext b
      by_cases hb : b = d
      · subst hb; rw [upd_same, upd_same]
      · rw [upd_ne hb, upd_ne hb]
        by_cases hba : b = a
        · subst hba; rw [del_same, na]
        · rw [del_ne hba, upd_ne hb, upd_ne hba, upd_ne hba]
    rw [e]; exact q d hd1
/-- the exception's dict into the ground -/
theorem n_mk {G : Hp} {L : Lg} (S : Sy G L H1) (hl : vs.length = fs.length) (hf : fs ≠ []) (hz : fs.length ≤ 1000) (q : ∀ d G' H', Same G G' → G' d = some (.xd (fs.zip vs).reverse) → Sy G' L H' → Q (.ref C) (some d) H') : nMk C fs vs H1 Q :=
  n_mk0 hl hf hz fun d hd => q d _ _ (same_new (S.gnone hd)) upd_same (S.newF hd)
end
section
variable {X : Cx} {e : Expr} {es : List Expr} {ta : TA} {x : Str} {p pos : Pos} {C : Addr} {fs : List Str} {k j : Nat}
theorem hw_mk (F : HasX X.prog X.w X.K X.mg X.base k x C fs) (hr : Room j X.A) (hj : k + 1 ≤ j) (hg : Gl X x) (ha : PA X (e :: es) ta)
    (hdb : (x == ("__debug__" : Str)) = false := by decide) (he : starEach (e :: es) X.env = (false, eval e X.env) :: starEach es X.env := by rfl) (hpl : (backTo pos (starEach es X.env)).any (·.1) = false := by rfl) :
    PMk X (.Call (.Name x p) (e :: es) [] pos) (tMkX C fs ta) := by
  obtain ⟨fI, fd, ps, iC, tI, hb, F1⟩ := F.ex
  exact pmk_oex (dvs := []) F.T iC tI F1 (hr.mono hj) hb .nil passL hg F.gl ha hdb he hpl
end

/-! ### an exception is caught, and asked -/
def tTryAs (K : PySem.W.Frag) (c : Value) (i : Nat) (ts : Addr → Value → Option Addr → TS) (Wout : WX) (tb : WX → TS) : TS := fun D σ H => tb (wAs K c i ts Wout D) D σ H
def tTryOnly (K : PySem.W.Frag) (c : Value) (ts : Addr → Value → Option Addr → TS) (Wout : WX) (tb : WX → TS) : TS := fun D σ H => tb (wOnly K c ts Wout D) D σ H
section
variable {K : PySem.W.Frag} {c cls : Value} {i : Nat} {ts : Addr → Value → Option Addr → TS} {Wout : WX} {tb : WX → TS} {D : Ends} {σ : L2.St} {H : Hp} {d : Option Addr}
theorem s_tryAs (h : tb (wAs K c i ts Wout D) D σ H) : tTryAs K c i ts Wout tb D σ H := h
theorem s_tryOnly (h : tb (wOnly K c ts Wout D) D σ H) : tTryOnly K c ts Wout tb D σ H := h
theorem x_as {nx : L2.St → Hp → Prop} {rt : VK} {bk ct : L2.St → Hp → Prop} (e : PySem.W.exmOne K cls c = some true) (h : ∀ a σ', H a = none → σ.set i (some (.ref a)) = σ' → ts a cls d { nx := fun σ' H' => nx (σ'.set i none) H', rt := rt, bk := fun σ' H' => bk (σ'.set i none) H', ct := fun σ' H' => ct (σ'.set i none) H' } σ' H) :
    wAs K c i ts Wout ⟨nx, rt, bk, ct⟩ cls d σ H := ⟨true, e, fun _ a ha => h a _ ha rfl, fun z => nomatch z⟩
theorem x_only (e : PySem.W.exmOne K cls c = some true) (h : ∀ a, H a = none → ts a cls d D σ H) : wOnly K c ts Wout D cls d σ H := ⟨true, e, fun _ a ha => h a ha, fun z => nomatch z⟩
theorem x_onlyN (e : PySem.W.exmOne K cls c = some false) (h : Wout cls d σ H) : wOnly K c ts Wout D cls d σ H := ⟨false, e, (fun z => nomatch z), fun _ => h⟩
theorem x_asN (e : PySem.W.exmOne K cls c = some false) (h : Wout cls d σ H) : wAs K c i ts Wout D cls d σ H := ⟨false, e, (fun z => nomatch z), fun _ => h⟩
end
/-- the exception's dict stands, if it has one -/
def Dst (H : Hp) (d : Option Addr) : Prop := d = none ∨ ∃ dd fs, d = some dd ∧ H dd = some (.xd fs)
/-- isinstance(e, c), e the exception that the suite holds -/
def rIsX (K : PySem.W.Frag) (cls : Value) (d : Option Addr) (a : Addr) : List V → Hp → VK → Prop := fun xs H Q => ∃ (D : Addr) (c : V) (cv : Value) (b : Bool), cls = .ref D ∧ ExcC K D ∧ Dst H d ∧ xs = [.ref a, c] ∧ (∀ u, RelV c u → u = cv) ∧ PySem.W.kitOne K (.ref D) cv = some b ∧ Q (.bl b) H
/-- e.f -/
def tXfU (K : PySem.W.Frag) (a : Addr) (cls : Value) (d : Option Addr) (f : Str) (te : TE) : TE := fun σ H Q => te σ H fun x H1 => x = .ref a ∧ ∃ C, cls = .ref C ∧ XfC K C ∧ PySem.W.findIn K (.ref C) f = some none ∧ ∃ (dd : Addr) (fs : List (Str × V)) (v : V), d = some dd ∧ H1 dd = some (.xd fs) ∧ fs.lookup f = some v ∧ Q v H1
theorem clsIn_isSome {K : PySem.W.Frag} {D : Addr} (h : PySem.W.hasDictIn K D = true) : (PySem.W.clsIn K D).isSome = true := by
  obtain ⟨cd, hc, _⟩ := PySem.W.any_some h
  rw [hc]; rfl
section
variable {X : Cx} {a : Addr} {oe : Obj} {cls : Value} {d : Option Addr} {pn : List (Addr × Obj)}
theorem call_isX (hz : Zc cls d oe) (hf : ∃ vs, oe.data = .fields vs) : CallR (X.suite a ((a, oe) :: pn)) (.builtin "isinstance") (rIsX X.K cls d a) := by
  intro pins s σ H xs us Q I r h
  obtain ⟨D, c, cv, b, ec, C, hd, rfl, hcv, e, q⟩ := h
  subst ec
  cases r with
  | cons rx rr =>
    cases rr with
    | cons rt rr =>
      cases rr
      cases rx
      have ec := hcv _ rt
      subst ec
      obtain ⟨hget, _⟩ := I.pin (a, oe) (List.mem_append.mpr (.inl List.mem_cons_self))
      obtain ⟨vs, hv⟩ := hf
      have nc : PySem.W.notCls oe = true := by unfold PySem.W.notCls; rw [hv] <;> rfl
      have hcl := clsIn_isSome C.hd
      rcases hd with hd | ⟨dd, fs, hd, hx⟩
      · have J : PySem.W.InstAt s.heap a oe D none := ⟨hget, hz.1, nc, by rw [hz.2, hd]; exact trivial⟩
        exact PySem.W.kia_one (PySem.W.kitx_exc hcl C.hg C.hk C.hs C.ha C.hn C.ht C.hm) I.kIn J e (fun z => nomatch z) fun tk => ⟨.bl b, H, I.kept (t' := tk) fun _ _ z => z, rfl, q⟩
      · have hx' : ObjOk X.prog X.w H s.heap dd (.xd fs) := I.hok dd _ hx
        obtain ⟨mA, hns, hr⟩ := hx'
        obtain ⟨od, ho, hl⟩ := lookIn_ns hns
        have J : PySem.W.InstAt s.heap a oe D (some od) := ⟨hget, hz.1, nc, by rw [hz.2, hd]; exact ho⟩
        exact PySem.W.kia_one (PySem.W.kitx_exc hcl C.hg C.hk C.hs C.ha C.hn C.ht C.hm) I.kIn J e (fun z => nomatch z) fun tk => ⟨.bl b, H, I.kept (t' := tk) fun _ _ z => z, rfl, q⟩
theorem pe_xfU {e : Expr} {te : TE} {pos : Pos} {n : Str} (hz : Zc cls d oe) (hf : ∃ vs, oe.data = .fields vs) (he : PE (X.suite a ((a, oe) :: pn)) e te) (hb : attributeBase e n X.env (eval e X.env) = eval e X.env := by rfl) :
    PE (X.suite a ((a, oe) :: pn)) (.Attribute e n pos) (tXfU X.K a cls d n te) := by
  refine ⟨fun pins s σ H Q I h => ?_⟩
  refine attr_of hb (thn (he.run pins s σ H _ I h) fun u s1 hh => ?_)
  obtain ⟨x, H1, I1, rx, ex, C, ec, T, hno, dd, fs, v, ed, ea, l, q⟩ := hh
  subst ex
  obtain rfl : u = Value.ref a := rx
  subst ec
  subst ed
  obtain ⟨ha, _⟩ := I1.pin (a, oe) (List.mem_append_left _ List.mem_cons_self)
  obtain ⟨vs, hd⟩ := hf
  have hx : ObjOk X.prog X.w H1 s1.heap dd (.xd fs) := I1.hok dd _ ea
  obtain ⟨mA, hns, hr⟩ := hx
  obtain ⟨od, ho, hl⟩ := lookIn_ns hns
  obtain ⟨u, hu, ru⟩ := RelO.some_of (v := v) (o := mA n) (by rw [← l]; exact hr n)
  have J : PySem.W.InstAt s1.heap a oe C (some od) := ⟨ha, hz.1, by unfold PySem.W.notCls; rw [hd] <;> rfl, by rw [hz.2]; exact ho⟩
  exact PySem.HandSPX.exc_get I1.kIn J T.ga T.gg T.exC (PySem.W.findObj_own T.hdC hno rfl (by rw [hl, hu])) (handed_of ru) ⟨v, H1, I1.tok _, ru, q⟩
end
end Hw





/-! HwY: xs[:] = ys, ys another list. -/
namespace Hw
open PySem PySem.Spec PyProof.Rows L2
theorem setItem_all {prog : Program} {w : World} {A : Around} {E : Value → Shared → Prop} {s : Shared} {l sl b : Addr} {its its2 : List Value} {n : Nat} {Q : Unit → Shared → Prop}
    (ho : s.heap.get? l = some { cls := .type "list", data := .seq its.toArray n }) (hs : s.heap.IsSliceOf sl .none .none .none) (hb : s.heap.IsList b its2.toArray) (hne : l ≠ b) (hz : its.length + its2.length ≤ sizeLine)
    (h : Q () { s with heap := s.heap.update l (Obj.mapSeq fun xs => xs.extract 0 (0 : Int).toNat ++ its2.toArray ++ xs.extract (max (0 : Int) (its.toArray.size : Int)).toNat xs.size) }) :
    wpAny (model prog w) A (setItem (.ref l) (.ref sl) (.ref b)) Q E s := by
  have hl : s.heap.IsList l its.toArray := ⟨_, ho, rfl, n, rfl⟩
  obtain ⟨os, hos, hcs, hds⟩ := id hs
  obtain ⟨ob, hob, hcb, nb, hdb⟩ := id hb
  have hTs : s.TypeIs (.ref sl) "slice" := ⟨os, hos, hcs⟩
  have hTb : s.TypeIs (.ref b) "list" := ⟨ob, hob, hcb⟩
  unfold setItem
  try with_reducible refine wpAny_holding ?_
  first | refine wpAny_bind (wpAny_pure ?_) | skip
  refine wpAny_bind (wpAny_sequenceKey hl.typeIs (by decide) ?_)
  refine wpAny_bind (wpAny_callSpecial?_slot (name := Str.ofString "__setitem__") hl.typeIs slot_list_setitem
    (wpAny_call_entry slot_list_setitem hl.typeIs entry_list_setitem ?_ (args_list_setitem _ _ _)))
  show wpAny _ _ (Builtin.List.listSubscript? (.ref sl) >>= _) _ _ s
  refine wpAny_bind ?_
  unfold Builtin.List.listSubscript?
  refine wpAny_bind (wpAny_specialOf hTs slice_no_index ?_)
  simp only [Option.isNone_none, if_true]
  refine wpAny_pure ?_
  show wpAny _ _ (typeOf (.ref sl) >>= _) _ _ s
  refine wpAny_bind (wpAny_typeOf hTs ?_)
  rw [if_neg (by decide)]
  rw [listSliceParts_eq]
  refine wpAny_bind (wpAny_bind (wpAny_field hos hds (x := .none) rfl (wpAny_bind (wpAny_listPart (k := none) .none ?_))))
  rw [if_neg (by decide)]
  refine wpAny_bind (wpAny_field hos hds (x := .none) rfl (wpAny_bind (wpAny_listPart (k := none) .none ?_)))
  refine wpAny_bind (wpAny_field hos hds (x := .none) rfl (wpAny_bind (wpAny_listPart (k := none) .none (wpAny_pure ?_))))
  have hsr : Builtin.List.listSameRef (.ref l) (.ref b) = false := by
    show (l == b) = false
    exact beq_eq_false_iff_ne.mpr hne
  rw [hsr, if_neg Bool.false_ne_true]
  unfold Builtin.List.listAllItems
  refine wpAny_bind (wpAny_bind (wpAny_typeOf hTb ?_))
  rw [if_pos (by decide)]
  refine wpAny_listItems hob hdb ?_
  refine wpAny_bind (wpAny_listItems ho rfl ?_)
  refine wpAny_bind (wpAny_of_eq (sliceIndices_raw none none none its.toArray.size (fun z => nomatch z)) ?_)
  have eb : sliceBounds none none none its.toArray.size = (0, (its.toArray.size : Int), 1) := by
    obtain ⟨h1, h2, h3⟩ := slice_bounds none none its.toArray.size
    exact Prod.ext h1 (Prod.ext h2 h3)
  rw [eb]
  rw [if_pos (show (((0 : Int), (its.toArray.size : Int), (1 : Int)).2.snd == 1) = true from rfl)]
  have elong : Builtin.List.listTooLong (its.toArray.size + its2.toArray.size) = false := by
    unfold Builtin.List.listTooLong
    rw [List.size_toArray, List.size_toArray]
    exact decide_eq_false (by rw [sizeLine_eq] at hz; unfold sizeLine; omega)
  refine wpAny_bind (wpAny_rule ?_)
  rw [elong, if_neg Bool.false_ne_true]
  refine wpAny_bind (wpAny_updateSeq ho rfl ?_ (by rw [List.size_toArray]; omega) ?_)
  · refine wpAny_bind (wpAny_letGo ?_)
    exact wpAny_pure ⟨_, rfl, wpAny_pure h⟩
  · simp only [Array.size_append, Array.size_extract, List.size_toArray]
    omega
theorem mapSeq_any {f : Array Value → Array Value} {its arr : Array Value} {n : Nat} (e : f its = arr) : ∃ n', Obj.mapSeq f { cls := .type "list", data := .seq its n } = { cls := .type "list", data := .seq arr n' } := by subst e; exact ⟨_, rfl⟩
theorem mapSeq_all {its its2 : List Value} {n : Nat} : ∃ n', Obj.mapSeq (fun xs => xs.extract 0 (0 : Int).toNat ++ its2.toArray ++ xs.extract (max (0 : Int) (its.toArray.size : Int)).toNat xs.size) { cls := .type "list", data := .seq its.toArray n } = { cls := .type "list", data := .seq its2.toArray n' } := by
  have e : its.toArray.extract 0 (0 : Int).toNat ++ its2.toArray ++ its.toArray.extract (max (0 : Int) (its.toArray.size : Int)).toNat its.toArray.size = its2.toArray := by
    have h1 : (max (0 : Int) (its.toArray.size : Int)).toNat = its.toArray.size := by omega
    rw [h1]
    apply Array.ext'
    simp
  exact mapSeq_any (f := fun xs => xs.extract 0 (0 : Int).toNat ++ its2.toArray ++ xs.extract (max (0 : Int) (its.toArray.size : Int)).toNat xs.size) e
def rAll (K : PySem.W.Frag) : V → V → Hp → (Hp → Prop) → Prop := fun o v H Q => ∃ p q xs ys, o = .ref p ∧ v = .ref q ∧ p ≠ q ∧ H p = some (.lst xs) ∧ SqL K H q ys ∧ xs.length + ys.length ≤ 100000 ∧ Q (upd H p (.lst ys))
/-- o[:] = .. -/
def gAll (K : PySem.W.Frag) (to : TE) : TG := fun v σ H Q => to σ H fun o H1 => rAll K o v H1 fun H2 => Q σ H2
section
variable {X : Cx} {o : Expr} {to : TE} {p2 pos : Pos}
theorem pg_all (ho : PE X o to) (ha : ∀ v, assign (.Subscript o (.Slice none none none p2) pos) X.env v = (do
      let ov ← holding [v] (eval o X.env)
      let iv ← holding [v, ov] (eval (.Slice none none none p2) X.env)
      standAt pos
      holding [v, ov, iv] (setItem ov iv v)
      release [iv, v, ov] []) := by intro _; rfl) : PG X (.Subscript o (.Slice none none none p2) pos) (gAll X.K to) := by
  refine ⟨fun pins s σ H v u Q I r h => ?_⟩
  rw [ha]
  refine wpAny_bind (wpAny_holding (thn (ho.run pins s σ H _ I h) fun ov s1 ⟨x, H1, I1, r1, q1⟩ => ?_))
  obtain ⟨p, q, xs, ys, rfl, rfl, hne, hp, hq, hz, q2⟩ := q1
  cases (show ov = Value.ref p from r1)
  cases (show u = Value.ref q from r)
  refine wpAny_bind (wpAny_holding (wpAny_Slice ?_))
  rw [evalPart_none]
  refine wpAny_pure (wpAny_pure (wpAny_pure ?_))
  have I4 : Inv X pins σ H1 { s1 with heap := s1.heap.push { cls := .type "slice", data := .fields #[.none, .none, .none] } } := I1.kept (t' := s1.toks) fun b ob q => Heap.get?_push_of_some _ q
  obtain ⟨its, n, rr, ho4, hzz⟩ := I4.lst hp
  obtain ⟨its2, r2, ht2, hz2⟩ := I4.list hq
  have e1 := rr.length
  have e2 := r2.length
  refine wpAny_bind (wpAny_standAt (wpAny_bind (wpAny_holding (setItem_all (n := n) ho4 (Heap.IsSliceOf.new ..) ht2.isList hne (by rw [← e1, ← e2]; exact Nat.le_trans hz (by decide)) ?_))))
  obtain ⟨n', e⟩ := mapSeq_all (its := its) (its2 := its2) (n := n)
  exact wpAny_release ⟨σ, _, I4.lstUpd hp ho4 e r2 hz2 s1.toks, q2⟩
end
end Hw










/-! HwP: what a law's text says of its classes, as instances; an exception's __init__, walked once for all. -/
namespace Hw
open PySem L2

theorem ga_step {G G' : Hp} {a : Addr} {o : HO} (s : Same G G') (h : G a = some o) : G' a = some o := s _ _ h
theorem fr_step {G H : Hp} {L : Lg} {a : Addr} {o : HO} (S : Sy G L H) (h : G a = some o) : H a = some o := S.frz _ _ h
class XB (K : PySem.W.Frag) (mg : Str → Option Value) (x : Str) : Prop where
  b : XBase K (clsA mg x)
class XC (K : PySem.W.Frag) (mg : Str → Option Value) (x : Str) (fs : outParam (List Str)) : Prop where
  T : OexC K (clsA mg x)
  F : XfC K (clsA mg x)
  I : ExcC K (clsA mg x)
  no : ∀ f ∈ fs, PySem.W.findIn K (.ref (clsA mg x)) f = some none
class XI (K : PySem.W.Frag) (mg : Str → Option Value) (x : Str) (c : Value) (b : outParam Bool) : Prop where
  k : PySem.W.kitOne K (.ref (clsA mg x)) c = some b
class XE (K : PySem.W.Frag) (mg : Str → Option Value) (x : Str) (c : Value) (b : outParam Bool) : Prop where
  k : PySem.W.exmOne K (.ref (clsA mg x)) c = some b
class KC (K : PySem.W.Frag) (mg : Str → Option Value) (x : Str) (fs : outParam (List Str)) : Prop where
  c : Cls K (clsA mg x)
  no : ∀ f ∈ fs, NoAttr K (clsA mg x) f
section
variable {K : PySem.W.Frag} {mg : Str → Option Value} {x f p msg : Str}
theorem R_xinit1 [T : XC K mg x [f]] {vs : List V} {H : Hp} {Q : VK} {E : XK} (h : spExc (clsA mg x) [f] vs H Q E) :
    (tSeq (tDrop (tVeI K (tCons (tVar 0) (tCons (tC (.str msg)) tNil)))) (tOst K f (tVar 0) (tVar 1))) { nx := fun _ H' => Q .non H', rt := Q } (start ["self", p] vs) H := by
  obtain ⟨a, ws, rfl, hl, ha, q⟩ := h
  match ws, hl with
  | [y], _ =>
    have q2 : ∀ d, H d = none → d ≠ a → Q .non (upd (upd H a (exo a (clsA mg x) (some d))) d (exd d [(f, y)])) := by
      rcases q with ⟨z, _⟩ | ⟨_, q⟩
      · cases z
      · exact q
    refine ⟨.ref a, rfl, a, clsA mg x, [.str msg], rfl, Nat.le_of_ble_eq_true rfl, T.T, ha, ?_⟩
    refine ⟨y, rfl, .ref a, rfl, a, clsA mg x, rfl, T.T, T.no f (List.mem_cons_self ..), .inl ⟨ha, fun dx n ne => ?_⟩⟩
    have e : upd (upd H dx (exd dx [(f, y)])) a (exo a (clsA mg x) (some dx)) = upd (upd H a (exo a (clsA mg x) (some dx))) dx (exd dx [(f, y)]) := by
      funext b
      by_cases hb : b = a
      · subst hb; rw [upd_same, upd_ne (Ne.symm ne), upd_same]
      · by_cases hd : b = dx
        · subst hd; rw [upd_ne hb, upd_same, upd_same]
        · rw [upd_ne hb, upd_ne hd, upd_ne hd, upd_ne hb]
    show Q .non _
    rw [e]; exact q2 dx n ne
end
/-- asked of the exception that a suite holds -/
def nIsX (K : PySem.W.Frag) (cls : Value) (d : Option Addr) (a : Addr) (vs : List V) (H : Hp) (Q : VK) : Prop := rIsX K cls d a vs H Q
def nXf (K : PySem.W.Frag) (a : Addr) (cls : Value) (d : Option Addr) (f : Str) (x : V) (H : Hp) (Q : VK) : Prop := x = .ref a ∧ ∃ C, cls = .ref C ∧ XfC K C ∧ PySem.W.findIn K (.ref C) f = some none ∧ ∃ (dd : Addr) (fs : List (Str × V)) (v : V), d = some dd ∧ H dd = some (.xd fs) ∧ fs.lookup f = some v ∧ Q v H
section
variable {K : PySem.W.Frag} {mg : Str → Option Value} {x f : Str} {a dd : Addr} {d : Option Addr} {H : Hp} {Q : VK} {b : Bool} {C : Addr} {fs : List (Str × V)} {v : V} {gs : List Str} {te : TE} {cls : Value} {σ : L2.St}
theorem o_isXo [T : XC K mg x gs] [k : XI K mg x (.ref C) b] (hd : Dst H d) (q : Q (.bl b) H) : rIsX K (.ref (clsA mg x)) d a [.ref a, .ref C] H Q := ⟨_, .ref C, .ref C, b, rfl, T.I, hd, rfl, fun u r => r, k.k, q⟩
theorem o_isXt {n : String} [T : XC K mg x gs] [k : XI K mg x (.type n) b] (hd : Dst H d) (q : Q (.bl b) H) : rIsX K (.ref (clsA mg x)) d a [.ref a, .ty n] H Q := ⟨_, .ty n, .type n, b, rfl, T.I, hd, rfl, fun u r => r, k.k, q⟩
theorem t_xf (h : te σ H fun x H1 => nXf K a cls d f x H1 Q) : tXfU K a cls d f te σ H Q := h
theorem n_xf [T : XC K mg x gs] (hf : f ∈ gs) (hd : H dd = some (.xd fs)) (l : fs.lookup f = some v) (q : Q v H) : nXf K a (.ref (clsA mg x)) (some dd) f (.ref a) H Q := ⟨rfl, _, rfl, T.F, T.no f hf, dd, fs, v, rfl, hd, l, q⟩
theorem x_asO {nx : L2.St → Hp → Prop} {σ1 : Addr → L2.St} {rt : VK} {bk ct : L2.St → Hp → Prop} {ts : Addr → Value → Option Addr → TS} {Wout : WX} {i : Nat} {c : Value} [k : XE K mg x c true] (e : ∀ a, σ.set i (some (.ref a)) = σ1 a) (h : ∀ a, H a = none → ts a (.ref (clsA mg x)) d { nx := fun σ' H' => nx (σ'.set i none) H', rt := rt, bk := fun σ' H' => bk (σ'.set i none) H', ct := fun σ' H' => ct (σ'.set i none) H' } (σ1 a) H) :
    wAs K c i ts Wout ⟨nx, rt, bk, ct⟩ (.ref (clsA mg x)) d σ H := x_as k.k fun a σ' ha es => by rw [← es, e]; exact h a ha
theorem x_onlyO {ts : Addr → Value → Option Addr → TS} {Wout : WX} {D : Ends} {c : Value} [k : XE K mg x c true] (h : ∀ a, H a = none → ts a (.ref (clsA mg x)) d D σ H) : wOnly K c ts Wout D (.ref (clsA mg x)) d σ H := x_only k.k h
theorem dst_some (h : H dd = some (.xd fs)) : Dst H (some dd) := .inr ⟨dd, fs, rfl, h⟩
end
/-! ### d.get(k, z) -/
def nDGet (a : Addr) (y z : V) (H : Hp) (Q : VK) : Prop := ∃ o, DGet H a y o ∧ Q (o.getD z) H
def nIsD (x : V) (H : Hp) (R : Addr → Prop) : Prop := ∃ a, x = .ref a ∧ IsD H a ∧ R a
section
variable {td ty tx : TE} {σ : L2.St} {H : Hp} {Q : VK} {a : Addr} {kvs : List (Key × V)} {R : Addr → Prop} {i : Int} {x : Str} {z : V}
theorem t_dget2 (h : td σ H fun x H1 => nIsD x H1 fun a => ty σ H1 fun y H2 => tx σ H2 fun z H3 => nDGet a y z H3 Q) : tDGet2 td ty tx σ H Q := h
theorem n_isD (hs : H a = some (.dK kvs)) (h : R a) : nIsD (.ref a) H R := ⟨a, rfl, .inl ⟨kvs, .inl hs⟩, h⟩
theorem n_dgetI (hs : H a = some (.dK kvs)) (h : Q ((valV kvs (Sum.inl i)).getD z) H) : nDGet a (.int i) z H Q := ⟨_, DGet.k (k := Sum.inl i) hs, h⟩
end
end Hw





/-! HwS: the steps as instances: what a goal asks next is found by instance search, the facts of the context are classes. -/
namespace Hw
open PySem L2
class Stp (P : Prop) (P' : outParam Prop) : Prop where
  imp : P' → P
class Sts (P : Prop) (P' : outParam Prop) : Prop where
  imp : P' → P
class Go (P : Prop) (P' : outParam Prop) : Prop where
  imp : P' → P
instance (priority := low) sts0 {P : Prop} : Sts P P := ⟨id⟩
instance stsS {P P1 P2 : Prop} [a : Stp P P1] [b : Sts P1 P2] : Sts P P2 := ⟨fun h => a.imp (b.imp h)⟩
instance goS {P P1 P2 : Prop} [a : Stp P P1] [b : Sts P1 P2] : Go P P2 := ⟨fun h => a.imp (b.imp h)⟩
def Need (P : Prop) : Prop := P
theorem and_need {P R : Prop} (p : P) (r : R) : Need P ∧ R := ⟨p, r⟩
/-! ### slots -/
class Lk (σ : L2.St) (k : Nat) (v : outParam V) : Prop where
  e : σ[k]? = some (some v)
instance lk0 {v : V} {l : L2.St} : Lk (some v :: l) 0 v := ⟨rfl⟩
instance lkS {v : V} {x : Option V} {k : Nat} {l : L2.St} [h : Lk l k v] : Lk (x :: l) (k + 1) v := ⟨by rw [List.getElem?_cons_succ]; exact h.e⟩
class Ls (σ : L2.St) (k : Nat) (v : Option V) (σ' : outParam L2.St) : Prop where
  e : σ.set k v = σ'
instance ls0 {v x : Option V} {l : L2.St} : Ls (x :: l) 0 v (v :: l) := ⟨rfl⟩
instance lsS {v x : Option V} {k : Nat} {l l' : L2.St} [h : Ls l k v l'] : Ls (x :: l) (k + 1) v (x :: l') := ⟨by rw [List.set_cons_succ, h.e]⟩
/-! ### the ground and the ledger -/
class Sm (G : outParam Hp) (G' : Hp) : Prop where
  s : Same G G'
class SmT (G G' : Hp) : Prop where
  s : Same G G'
instance smt0 {G : Hp} : SmT G G := ⟨Same.refl G⟩
instance smtS {G G1 G' : Hp} [a : Sm G1 G'] [b : SmT G G1] : SmT G G' := ⟨b.s.trans a.s⟩
theorem smt {G G' : Hp} [h : SmT G G'] : Sm G G' := ⟨h.s⟩
theorem sms {G G' : Hp} [h : SmT G G'] : Same G G' := h.s
class GA (G : Hp) (a : Addr) (o : outParam HO) : Prop where
  e : G a = some o
instance gaS {G G' : Hp} {a : Addr} {o : HO} [s : Sm G G'] [h : GA G a o] : GA G' a o := ⟨s.s _ _ h.e⟩
class LA (L : Lg) (a : Addr) (o : outParam HO) : Prop where
  m : (a, Is o) ∈ L
instance laS {L : Lg} {a : Addr} {o : HO} {x : Addr × (HO → Prop)} [h : LA L a o] : LA (x :: L) a o := ⟨List.mem_cons_of_mem _ h.m⟩
instance la0 {L : Lg} {a : Addr} {o : HO} : LA ((a, Is o) :: L) a o := ⟨List.mem_cons_self ..⟩
class HA (H : Hp) (a : Addr) (o : outParam HO) : Prop where
  e : H a = some o
instance haG {G : Hp} {L : Lg} {H : Hp} {a : Addr} {o : HO} [S : Sy G L H] [h : GA G a o] : HA H a o := ⟨S.frz _ _ h.e⟩
instance haL {G : Hp} {L : Lg} {H : Hp} {a : Addr} {o : HO} [S : Sy G L H] [h : LA L a o] : HA H a o := ⟨S.at h.m⟩
class GL (K : PySem.W.Frag) (G : Hp) (a : Addr) (xs : outParam (List V)) : Prop where
  h : SqL K G a xs
instance glS {K : PySem.W.Frag} {G G' : Hp} {a : Addr} {xs : List V} [s : Sm G G'] [h : GL K G a xs] : GL K G' a xs := ⟨s.s.seq h.h⟩
class HL (K : PySem.W.Frag) (H : Hp) (a : Addr) (xs : outParam (List V)) : Prop where
  h : SqL K H a xs
instance hlG {K : PySem.W.Frag} {G : Hp} {L : Lg} {H : Hp} {a : Addr} {xs : List V} [S : Sy G L H] [h : GL K G a xs] : HL K H a xs := ⟨S.fr h.h⟩
instance hlA {K : PySem.W.Frag} {H : Hp} {a : Addr} {xs : List V} [h : HA H a (.lst xs)] : HL K H a xs := ⟨.inl (.inl h.e)⟩
class HT (K : PySem.W.Frag) (H : Hp) (a : Addr) (xs : outParam (List V)) : Prop where
  h : SqT K H a xs
instance htA {K : PySem.W.Frag} {H : Hp} {a : Addr} {xs : List V} [h : HA H a (.tup xs)] : HT K H a xs := ⟨.inl (.inl h.e)⟩
class PU (a : Addr) (o : HO) (L : Lg) (L' : outParam Lg) : Prop where
  p : Put a (Is o) L L'
instance puS {L L' : Lg} {a : Addr} {o : HO} {x : Addr × (HO → Prop)} [h : PU a o L L'] : PU a o (x :: L) (x :: L') := ⟨.tl h.p⟩
instance pu0 {L : Lg} {a : Addr} {o : HO} {φ : HO → Prop} : PU a o ((a, φ) :: L) ((a, Is o) :: L) := ⟨.hd⟩
class BG (b : Addr) (L : Lg) : Prop where
  h : BagIn b L
instance bgS {L : Lg} {b : Addr} {x : Addr × (HO → Prop)} [h : BG b L] : BG b (x :: L) := ⟨h.h.cons⟩
instance bg0 {L : Lg} {b cs : Addr} : BG b ((b, Bag cs) :: (cs, Cells) :: L) := ⟨BagIn.hd⟩
/-! ### lists of like things -/
def optV : Option Int → V | none => .non | some i => .int i
class LenC (xs : List V) (n : outParam Nat) : Prop where
  e : xs.length = n
instance (priority := low) lenC {xs : List V} : LenC xs xs.length := ⟨rfl⟩
instance lenC0 : LenC [] 0 := ⟨rfl⟩
instance lenC1 {x : V} {l : List V} {n : Nat} [h : LenC l n] : LenC (x :: l) (n + 1) := ⟨by rw [List.length_cons, h.e]⟩
instance lenCm {α : Type} {f : α → V} {l : List α} : LenC (l.map f) l.length := ⟨List.length_map ..⟩
class AppC (xs : List V) (v : V) (xs' : outParam (List V)) : Prop where
  e : xs ++ [v] = xs'
instance (priority := low) appC {xs : List V} {v : V} : AppC xs v (xs ++ [v]) := ⟨rfl⟩
instance appC0 {v : V} : AppC [] v [v] := ⟨rfl⟩
instance appCi {ks : List Int} {k : Int} : AppC (ks.map V.int) (.int k) ((ks ++ [k]).map V.int) := ⟨by rw [List.map_append]; rfl⟩
instance appCb {ks : List Bool} {k : Bool} : AppC (ks.map V.bl) (.bl k) ((ks ++ [k]).map V.bl) := ⟨by rw [List.map_append]; rfl⟩
instance appCr {ks : List Addr} {k : Addr} : AppC (ks.map V.ref) (.ref k) ((ks ++ [k]).map V.ref) := ⟨by rw [List.map_append]; rfl⟩
instance appCs {ks : List Str} {k : Str} : AppC (ks.map V.str) (.str k) ((ks ++ [k]).map V.str) := ⟨by rw [List.map_append]; rfl⟩
instance appCo {ks : List (Option Int)} {k : Int} : AppC (ks.map optV) (.int k) ((ks ++ [some k]).map optV) := ⟨by rw [List.map_append]; rfl⟩
instance appCn {ks : List (Option Int)} : AppC (ks.map optV) .non ((ks ++ [none]).map optV) := ⟨by rw [List.map_append]; rfl⟩
instance appCO {ks : List (Option Int)} {k : Option Int} : AppC (ks.map optV) (optV k) ((ks ++ [k]).map optV) := ⟨by rw [List.map_append]; rfl⟩
class SetC (xs : List V) (n : Nat) (v : V) (xs' : outParam (List V)) : Prop where
  e : xs.set n v = xs'
instance (priority := low) setC {xs : List V} {n : Nat} {v : V} : SetC xs n v (xs.set n v) := ⟨rfl⟩
instance setCi {ks : List Int} {n : Nat} {k : Int} : SetC (ks.map V.int) n (.int k) ((ks.set n k).map V.int) := ⟨by rw [List.map_set]⟩
instance setCo {ks : List (Option Int)} {n : Nat} {k : Int} : SetC (ks.map optV) n (.int k) ((ks.set n (some k)).map optV) := ⟨by rw [List.map_set]; rfl⟩
instance setCn {ks : List (Option Int)} {n : Nat} : SetC (ks.map optV) n .non ((ks.set n none).map optV) := ⟨by rw [List.map_set]; rfl⟩
instance setCO {ks : List (Option Int)} {n : Nat} {k : Option Int} : SetC (ks.map optV) n (optV k) ((ks.set n k).map optV) := ⟨by rw [List.map_set]⟩
instance setC0 {a v : V} {l : List V} : SetC (a :: l) (Int.toNat 0) v (v :: l) := ⟨rfl⟩
instance setC1 {a b v : V} {l : List V} : SetC (a :: b :: l) (Int.toNat 1) v (a :: v :: l) := ⟨rfl⟩
instance setC2 {a b c v : V} {l : List V} : SetC (a :: b :: c :: l) (Int.toNat 2) v (a :: b :: v :: l) := ⟨rfl⟩
class EltC (xs : List V) (n : Nat) (P : V → Prop) (R : outParam Prop) : Prop where
  imp : R → ∀ v, xs[n]? = some v → P v
instance (priority := 50) eltC {xs : List V} {n : Nat} {P : V → Prop} : EltC xs n P (∀ v, xs[n]? = some v → P v) := ⟨id⟩
instance eltCm {α : Type} {f : α → V} {l : List α} {n : Nat} {P : V → Prop} : EltC (l.map f) n P (∀ x, l[n]? = some x → P (f x)) := ⟨fun h v e => by
  rw [List.getElem?_map] at e
  cases hx : l[n]? with
  | none => rw [hx] at e; cases e
  | some x => rw [hx] at e; cases e; exact h x hx⟩
/-- an element that is known -/
class AtN {α : Type} (l : List α) (n : Nat) (x : outParam α) : Prop where
  e : l[n]? = some x
instance (priority := high) eltAtI {l : List (Option Int)} {n : Nat} {k : Int} {P : V → Prop} [h : AtN l n (some k)] : EltC (l.map optV) n P (P (.int k)) := ⟨fun q v e => by rw [List.getElem?_map, h.e] at e; cases e; exact q⟩
instance (priority := high) eltAtNo {l : List (Option Int)} {n : Nat} {P : V → Prop} [h : AtN l n none] : EltC (l.map optV) n P (P .non) := ⟨fun q v e => by rw [List.getElem?_map, h.e] at e; cases e; exact q⟩
instance eltAt {α : Type} {f : α → V} {l : List α} {n : Nat} {x : α} {P : V → Prop} [h : AtN l n x] : EltC (l.map f) n P (P (f x)) := ⟨fun q v e => by rw [List.getElem?_map, h.e] at e; cases e; exact q⟩
instance (priority := low) eltAtV {xs : List V} {n : Nat} {x : V} {P : V → Prop} [h : AtN xs n x] : EltC xs n P (P x) := ⟨fun q v e => by rw [h.e] at e; cases e; exact q⟩
/-- the element at a written index -/
class AtL (xs : List V) (i : Int) (v : outParam V) : Prop where
  e : atI xs i = some v
  g : 0 ≤ i ∧ xs[i.toNat]? = some v
instance atL0 {a : V} {l : List V} : AtL (a :: l) 0 a := ⟨atI_of (by decide) rfl, by decide, rfl⟩
instance atL1 {a b : V} {l : List V} : AtL (a :: b :: l) 1 b := ⟨atI_of (by decide) rfl, by decide, rfl⟩
instance atL2 {a b c : V} {l : List V} : AtL (a :: b :: c :: l) 2 c := ⟨atI_of (by decide) rfl, by decide, rfl⟩
instance atL3 {a b c d : V} {l : List V} : AtL (a :: b :: c :: d :: l) 3 d := ⟨atI_of (by decide) rfl, by decide, rfl⟩
instance atL4 {a b c d e : V} {l : List V} : AtL (a :: b :: c :: d :: e :: l) 4 e := ⟨atI_of (by decide) rfl, by decide, rfl⟩
section
variable {K : PySem.W.Frag} {mg : Str → Option Value} {G G' : Hp} {L L' : Lg} {H H' H1 : Hp} {σ σ' : L2.St} {Q : VK} {QA : List V → Hp → Prop} {QT : Bool → Hp → Prop} {ta tb tc te to ti td tx ty : TE} {t t' u u' : TS} {tA tB' tt : TT} {tr : TA} {r r' : R2} {v x y z : V} {a b p dd : Addr} {i j : Int} {n k : Nat} {f : Str}
variable {nx : L2.St → Hp → Prop} {rt : VK} {bk ct : L2.St → Hp → Prop} {P : L2.St → Hp → Prop} {A B : Prop} {c : Bool} {xs ys : List V} {g : TG} {vs : List Nat}
instance z_t_var [h : Lk σ k v] : Stp (tVar k σ H Q) (Q v H) := ⟨t_var h.e⟩
instance z_g_name [h : Ls σ k (some v) σ'] : Stp (gName k v σ H P) (P σ' H) := ⟨g_name h.e⟩
instance z_g_tup {k : Nat} {ts : TGs} [h : HT K H a xs] : Stp (gTup K k ts (.ref a) σ H P) (Need (xs.length = k) ∧ ts xs σ H P) := ⟨fun q => g_tup h.h q.1 q.2⟩
instance z_s_par2 {k l : Nat} {v w : V} {P : L2.St → Hp → Prop} {σ'' : L2.St} [e1 : Ls σ k (some v) σ'] [e2 : Ls σ' l (some w) σ''] : Stp (∃ v' w', [v, w] = [v', w'] ∧ P ((σ.set k (some v')).set l (some w')) H) (P σ'' H) := ⟨s_par2 e1.e e2.e⟩
instance z_iteT : Stp (if true = true then A else B) A := ⟨iteT⟩
instance z_iteF : Stp (if false = true then A else B) B := ⟨iteF⟩
instance z_s_seq  : Stp (tSeq t u ⟨nx, rt, bk, ct⟩ σ H) (t ⟨u ⟨nx, rt, bk, ct⟩, rt, bk, ct⟩ σ H) := ⟨s_seq⟩
instance z_s_asg {g : TG} : Stp (tAsg te g ⟨nx, rt, bk, ct⟩ σ H) (te σ H fun x H1 => g x σ H1 nx) := ⟨s_asg⟩
instance z_t_c  : Stp (tC v σ H Q) (Q v H) := ⟨t_c⟩
instance z_t_op  : Stp (tOp r ta tb σ H Q) (ta σ H fun x H1 => tb σ H1 fun y H2 => r x y H2 Q) := ⟨t_op⟩
instance z_t_cons  : Stp (tCons te tr σ H QA) (te σ H fun x H1 => tr σ H1 fun xs H2 => QA (x :: xs) H2) := ⟨t_cons⟩
instance z_t_nil  : Stp (tNil σ H QA) (QA [] H) := ⟨t_nil⟩
instance z_t_cb {rr : List V → Hp → VK → Prop} : Stp (tCB rr tr σ H Q) (tr σ H fun vs H1 => rr vs H1 Q) := ⟨t_cb⟩
instance z_t_hwc {sp : Sp} {E : L2.St → XK} : Stp (tHwC sp [] E tr σ H Q) (tr σ H fun vs H1 => sp vs H1 Q (E σ)) := ⟨t_hwc⟩
instance z_s_if {c : TT} : Stp (tIfS c t u ⟨nx, rt, bk, ct⟩ σ H) (c σ H fun b H1 => if b = true then t ⟨nx, rt, bk, ct⟩ σ H1 else u ⟨nx, rt, bk, ct⟩ σ H1) := ⟨s_if⟩
instance z_c_test  : Stp (tTest te σ H QT) (te σ H fun x H' => ∃ k, x = .bl k ∧ QT k H') := ⟨c_test⟩
instance z_c_b  : Stp (tB te σ H QT) (te σ H fun x H' => ∃ k, x = .bl k ∧ QT k H') := ⟨c_b⟩
instance z_bl_ex {c : Bool} {P : Bool → Prop} : Stp (∃ k, V.bl c = V.bl k ∧ P k) (P c) := ⟨bl_ex⟩
instance z_i_not  : Stp (if (!c) = true then A else B) (if c = true then B else A) := ⟨i_not⟩
instance z_s_ret  : Stp (tRet te ⟨nx, rt, bk, ct⟩ σ H) (te σ H rt) := ⟨s_ret⟩
instance z_s_next  : Stp (tNext ⟨nx, rt, bk, ct⟩ σ H) (nx σ H) := ⟨s_next⟩
instance z_s_drop  : Stp (tDrop te ⟨nx, rt, bk, ct⟩ σ H) (te σ H fun _ H1 => nx σ H1) := ⟨s_drop⟩
instance z_c_and {u : TT} : Stp (tAnd tA u σ H QT) (tA σ H fun c H1 => if c = true then u σ H1 QT else QT false H1) := ⟨c_and⟩
instance z_c_or {u : TT} : Stp (tOr tA u σ H QT) (tA σ H fun c H1 => if c = true then QT true H1 else u σ H1 QT) := ⟨c_or⟩
instance z_c_not  : Stp (tNot tA σ H QT) (tA σ H fun c H1 => QT (!c) H1) := ⟨c_not⟩
instance z_c_yes  : Stp (tYes σ H QT) (QT true H) := ⟨c_yes⟩
instance z_t_andv  : Stp (tAndV ta tb σ H Q) (ta σ H fun x H1 => ∃ c, x = .bl c ∧ if c = true then tb σ H1 Q else Q (.bl false) H1) := ⟨t_andv⟩
instance z_t_orv  : Stp (tOrV ta tb σ H Q) (ta σ H fun x H1 => ∃ c, x = .bl c ∧ if c = true then Q (.bl true) H1 else tb σ H1 Q) := ⟨t_orv⟩
instance z_t_notv  : Stp (tNotV ta σ H Q) (ta σ H fun x H1 => ∃ c, x = .bl c ∧ Q (.bl (!c)) H1) := ⟨t_notv⟩
instance z_t_un {r : V → Hp → VK → Prop} : Stp (tUn r ta σ H Q) (ta σ H fun x H1 => r x H1 Q) := ⟨t_un⟩
instance z_t_chain  : Stp (tChain r r' ta tb tc σ H Q) (ta σ H fun x H1 => tb σ H1 fun y H2 => r x y H2 fun z H3 => ∃ k, z = .bl k ∧ (if k = true then tc σ H3 fun w' H4 => r' y w' H4 Q else Q (.bl false) H3)) := ⟨t_chain⟩
instance z_t_ifx  : Stp (tIf tA ta tb σ H Q) (tA σ H fun c H1 => if c = true then ta σ H1 Q else tb σ H1 Q) := ⟨t_ifx⟩
instance z_t_tup  : Stp (tTup tr σ H Q) (tr σ H fun xs H1 => nTup xs H1 Q) := ⟨t_tup⟩
instance z_t_lst  : Stp (tLst tr σ H Q) (tr σ H fun xs H1 => nLst xs H1 Q) := ⟨t_lst⟩
instance z_t_dnew  : Stp (tDNewK σ H Q) (nObj (.dK []) H Q) := ⟨t_dnew⟩
instance z_t_fld  : Stp (tFld K ta f σ H Q) (ta σ H fun x H1 => nGet K f x H1 Q) := ⟨t_fld⟩
instance z_t_sl {rr : V → Option Int → Option Int → Hp → VK → Prop} {tl th : TO} : Stp (tSl rr te tl th σ H Q) (te σ H fun x H1 => tl σ H1 fun l H2 => th σ H2 fun u H3 => rr x l u H3 Q) := ⟨t_sl⟩
instance z_t_nopart {QO : Option Int → Hp → Prop} : Stp (tNoPart σ H QO) (QO none H) := ⟨t_nopart⟩
instance z_t_part {QO : Option Int → Hp → Prop} : Stp (tPart te σ H QO) (te σ H fun x H1 => ∃ i, x = .int i ∧ QO (some i) H1) := ⟨t_part⟩
instance z_int_ex {P : Int → Prop} : Stp (∃ k, V.int i = V.int k ∧ P k) (P i) := ⟨int_ex⟩
instance z_t_hwm {C : Addr} {sp : Sp} {E : L2.St → XK} : Stp (tHwM C f sp E ta tr σ H Q) (ta σ H fun x H1 => nRcv C f x H1 fun x => tr σ H1 fun vs H2 => sp (x :: vs) H2 Q (E σ)) := ⟨t_hwm⟩
instance z_t_hwn {C : Addr} {sp : Sp} {E : L2.St → XK} : Stp (tHwN C sp [] E tr σ H Q) (tr σ H fun vs H1 => nNew C sp vs H1 Q (E σ)) := ⟨t_hwn⟩
instance z_t_mk {C : Addr} {fs : List Str} {Q : XK} {ta : TA} : Stp (tMkX C fs ta σ H1 Q) (ta σ H1 fun vs H1 => nMk C fs vs H1 Q) := ⟨t_mk⟩
instance z_s_raise {W : WX} {D : Ends} {t : L2.St → Hp → XK → Prop} : Stp (tRz W t D σ H1) (t σ H1 fun cls d H' => W cls d σ H') := ⟨s_raise⟩
instance z_s_tryAs {c : Value} {i : Nat} {ts : Addr → Value → Option Addr → TS} {Wout : WX} {tb : WX → TS} {D : Ends} : Stp (tTryAs K c i ts Wout tb D σ H) (tb (wAs K c i ts Wout D) D σ H) := ⟨s_tryAs⟩
instance z_s_tryOnly {c : Value} {ts : Addr → Value → Option Addr → TS} {Wout : WX} {tb : WX → TS} {D : Ends} : Stp (tTryOnly K c ts Wout tb D σ H) (tb (wOnly K c ts Wout D) D σ H) := ⟨s_tryOnly⟩
instance z_t_xf {cls : Value} {d : Option Addr} : Stp (tXfU K a cls d f te σ H Q) (te σ H fun x H1 => nXf K a cls d f x H1 Q) := ⟨t_xf⟩
instance z_t_dget2  : Stp (tDGet2 td ty tx σ H Q) (td σ H fun x H1 => nIsD x H1 fun a => ty σ H1 fun y H2 => tx σ H2 fun z H3 => nDGet a y z H3 Q) := ⟨t_dget2⟩
instance z_t_bm {T : String} {rr : V → List V → Hp → VK → Prop} : Stp (tBM K T rr to tr σ H Q) (to σ H fun x H1 => tyV K T x H1 ∧ tr σ H1 fun xs H2 => rr x xs H2 Q) := ⟨t_bm⟩
instance z_t_bm0 {T : String} {rr : V → List V → Hp → VK → Prop} : Stp (tBM0 K T rr to σ H Q) (to σ H fun x H1 => tyV K T x H1 ∧ rr x [] H1 Q) := ⟨t_bm0⟩
instance z_s_augs {tget : V → V → Hp → VK → Prop} {tip : TIp} {tset : TSet} : Stp (tAugS to ti te tget tip tset ⟨nx, rt, bk, ct⟩ σ H) (to σ H fun o H1 => ti σ H1 fun i H2 => tget o i H2 fun x H3 => te σ H3 fun y H4 => tip x y H4 fun z H5 => tset o i z H5 fun H6 => nx σ H6) := ⟨s_augs⟩
instance z_s_fldset  : Stp (sFld K ta te f ⟨nx, rt, bk, ct⟩ σ H) (te σ H fun y H1 => ta σ H1 fun x H2 => nFld K f y x H2 fun H' => nx σ H') := ⟨s_fldset⟩
instance z_s_par {k l : Nat} {tr : TA} : Stp (tPar k l tr ⟨nx, rt, bk, ct⟩ σ H) (tr σ H fun vs H1 => ∃ v w, vs = [v, w] ∧ nx ((σ.set k (some v)).set l (some w)) H1) := ⟨s_par⟩
instance z_g_cons {tg : TG} {ts : TGs} {P : L2.St → Hp → Prop} {xs : List V} : Stp (gCons tg ts (v :: xs) σ H P) (tg v σ H fun σ' H' => ts xs σ' H' P) := ⟨g_cons⟩
instance z_g_nil {P : L2.St → Hp → Prop} : Stp (gNil [] σ H P) (P σ H) := ⟨g_nil⟩
instance z_g_sub {ts : TSet} {P : L2.St → Hp → Prop} : Stp (gSub to ti ts v σ H P) (to σ H fun o H1 => ti σ H1 fun i H2 => ts o i v H2 fun H3 => P σ H3) := ⟨g_sub⟩
instance z_s_cont  : Stp (tCont ⟨nx, rt, bk, ct⟩ σ H) (ct σ H) := ⟨s_cont⟩
instance z_s_retN  : Stp (tRetN ⟨nx, rt, bk, ct⟩ σ H) (rt .non H) := ⟨s_retN⟩
instance z_t_lc {wi : TI} : Stp (tLc wi g tt te vs σ H Q) (wi σ H fun J H1 => nLc J g tt te vs σ H1 Q) := ⟨t_lc⟩
instance z_i_list {tl : TE} {R : It → Hp → Prop} : Stp (iList K tl σ H R) (tl σ H fun x H1 => nSeq K x H1 R) := ⟨i_list⟩
instance z_i_tup {tl : TE} {R : It → Hp → Prop} : Stp (iTup K tl σ H R) (tl σ H fun x H1 => nSeqT K x H1 R) := ⟨i_tup⟩
instance z_i_enum {ta : TA} {R : It → Hp → Prop} : Stp (iEnum K ta σ H R) (ta σ H fun vs H1 => nEnum K vs H1 R) := ⟨i_enum⟩
instance z_s_for {wi : TI} {tb : TS} {D : Ends} : Stp (tFor wi g tb D σ H) (wi σ H fun J H1 => nFor J g tb D σ H1) := ⟨s_for⟩
instance z_i_rng1 {ta : TA} {R : It → Hp → Prop} : Stp (iRng1 ta σ H R) (ta σ H fun vs H1 => nRng1 vs H1 R) := ⟨i_rng1⟩
instance z_i_rng2 {ta : TA} {R : It → Hp → Prop} : Stp (iRng2 ta σ H R) (ta σ H fun vs H1 => nRng2 vs H1 R) := ⟨i_rng2⟩
instance z_isi_ii  : Stp (rIsi K [.int i, .ty "int"] H Q) (Q (.bl true) H) := ⟨isi_ii⟩
instance z_isi_ib  : Stp (rIsi K [.int i, .ty "bool"] H Q) (Q (.bl false) H) := ⟨isi_ib⟩
instance z_isi_is  : Stp (rIsi K [.int i, .ty "str"] H Q) (Q (.bl false) H) := ⟨isi_is⟩
instance z_isi_il  : Stp (rIsi K [.int i, .ty "list"] H Q) (Q (.bl false) H) := ⟨isi_il⟩
instance z_isi_it  : Stp (rIsi K [.int i, .ty "tuple"] H Q) (Q (.bl false) H) := ⟨isi_it⟩
instance z_isi_bi  {b : Bool} : Stp (rIsi K [.bl b, .ty "int"] H Q) (Q (.bl true) H) := ⟨isi_bi⟩
instance z_isi_bb  {b : Bool} : Stp (rIsi K [.bl b, .ty "bool"] H Q) (Q (.bl true) H) := ⟨isi_bb⟩
instance z_isi_bs  {b : Bool} : Stp (rIsi K [.bl b, .ty "str"] H Q) (Q (.bl false) H) := ⟨isi_bs⟩
instance z_isi_bL  {b : Bool} : Stp (rIsi K [.bl b, .ty "list"] H Q) (Q (.bl false) H) := ⟨isi_bL⟩
instance z_isi_bt  {b : Bool} : Stp (rIsi K [.bl b, .ty "tuple"] H Q) (Q (.bl false) H) := ⟨isi_bt⟩
instance z_isi_ni  : Stp (rIsi K [.non, .ty "int"] H Q) (Q (.bl false) H) := ⟨isi_ni⟩
instance z_isi_nb  : Stp (rIsi K [.non, .ty "bool"] H Q) (Q (.bl false) H) := ⟨isi_nb⟩
instance z_isi_ns  : Stp (rIsi K [.non, .ty "str"] H Q) (Q (.bl false) H) := ⟨isi_ns⟩
instance z_isi_nl  : Stp (rIsi K [.non, .ty "list"] H Q) (Q (.bl false) H) := ⟨isi_nl⟩
instance z_isi_nt  : Stp (rIsi K [.non, .ty "tuple"] H Q) (Q (.bl false) H) := ⟨isi_nt⟩
instance z_isi_si  {x : Str} : Stp (rIsi K [.str x, .ty "int"] H Q) (Q (.bl false) H) := ⟨isi_si⟩
instance z_isi_sb  {x : Str} : Stp (rIsi K [.str x, .ty "bool"] H Q) (Q (.bl false) H) := ⟨isi_sb⟩
instance z_isi_ss  {x : Str} : Stp (rIsi K [.str x, .ty "str"] H Q) (Q (.bl true) H) := ⟨isi_ss⟩
instance z_isi_sl  {x : Str} : Stp (rIsi K [.str x, .ty "list"] H Q) (Q (.bl false) H) := ⟨isi_sl⟩
instance z_isi_st  {x : Str} : Stp (rIsi K [.str x, .ty "tuple"] H Q) (Q (.bl false) H) := ⟨isi_st⟩
instance z_o_pow18  : Stp (rI CPow (fun i j => .int (i ^ j.toNat)) (.int 10) (.int 18) H Q) (Q (.int 1000000000000000000) H) := ⟨o_pow18⟩
instance z_o_pow17  : Stp (rI CPow (fun i j => .int (i ^ j.toNat)) (.int 10) (.int 17) H Q) (Q (.int 100000000000000000) H) := ⟨o_pow17⟩
instance z_o_pow16  : Stp (rI CPow (fun i j => .int (i ^ j.toNat)) (.int 10) (.int 16) H Q) (Q (.int 10000000000000000) H) := ⟨o_pow16⟩
instance z_o_pow9  : Stp (rI CPow (fun i j => .int (i ^ j.toNat)) (.int 10) (.int 9) H Q) (Q (.int 1000000000) H) := ⟨o_pow9⟩
instance z_o_pow6  : Stp (rI CPow (fun i j => .int (i ^ j.toNat)) (.int 10) (.int 6) H Q) (Q (.int 1000000) H) := ⟨o_pow6⟩
instance z_o_pow15  : Stp (rI CPow (fun i j => .int (i ^ j.toNat)) (.int 10) (.int 15) H Q) (Q (.int 1000000000000000) H) := ⟨o_pow15⟩
instance z_o_pow20  : Stp (rI CPow (fun i j => .int (i ^ j.toNat)) (.int 10) (.int 20) H Q) (Q (.int 100000000000000000000) H) := ⟨o_pow20⟩
instance z_o_pow30  : Stp (rI CPow (fun i j => .int (i ^ j.toNat)) (.int 10) (.int 30) H Q) (Q (.int 1000000000000000000000000000000) H) := ⟨o_pow30⟩
instance z_o_pow40  : Stp (rI CPow (fun i j => .int (i ^ j.toNat)) (.int 10) (.int 40) H Q) (Q (.int 10000000000000000000000000000000000000000) H) := ⟨o_pow40⟩
instance z_o_addI  : Stp (rAddU K (.int i) (.int j) H Q) (Q (.int (i + j)) H) := ⟨o_addI⟩
instance z_o_i0 {g : Int → Int → V} : Stp (rI0 g (.int i) (.int j) H Q) (Q (g i j) H) := ⟨o_i0⟩
instance z_o_neg  : Stp (rU (fun i => .int (-i)) (.int i) H Q) (Q (.int (-i)) H) := ⟨o_neg⟩
instance z_o_ipI {g : Int → Int → Int} : Stp (ipI g (.int i) (.int j) H Q) (Q (.int (g i j)) H) := ⟨o_ipI⟩
instance z_o_eqI  : Stp (rEqU K (.int i) (.int j) H Q) (Q (.bl (decide (i = j))) H) := ⟨o_eqI⟩
instance z_o_neI  : Stp (rNeU K (.int i) (.int j) H Q) (Q (.bl (!decide (i = j))) H) := ⟨o_neI⟩
instance z_o_isNI  : Stp (rIsU (.int i) .non H Q) (Q (.bl false) H) := ⟨o_isNI⟩
instance z_o_isNN  : Stp (rIsU .non .non H Q) (Q (.bl true) H) := ⟨o_isNN⟩
instance z_o_isNR  : Stp (rIsU (.ref a) .non H Q) (Q (.bl false) H) := ⟨o_isNR⟩
instance z_o_isNS {z : Str} : Stp (rIsU (.str z) .non H Q) (Q (.bl false) H) := ⟨o_isNS⟩
instance z_o_isNB {b : Bool} : Stp (rIsU (.bl b) .non H Q) (Q (.bl false) H) := ⟨o_isNB⟩
instance z_o_ntNI  : Stp (rNotU (.int i) .non H Q) (Q (.bl true) H) := ⟨o_ntNI⟩
instance z_o_ntNN  : Stp (rNotU .non .non H Q) (Q (.bl false) H) := ⟨o_ntNN⟩
instance z_o_ntNR  : Stp (rNotU (.ref a) .non H Q) (Q (.bl true) H) := ⟨o_ntNR⟩
instance z_o_ntNS {z : Str} : Stp (rNotU (.str z) .non H Q) (Q (.bl true) H) := ⟨o_ntNS⟩
instance z_o_ntNB {b : Bool} : Stp (rNotU (.bl b) .non H Q) (Q (.bl true) H) := ⟨o_ntNB⟩
instance z_o_eqB {b1 b2 : Bool} : Stp (rEqU K (.bl b1) (.bl b2) H Q) (Q (.bl (decide (b1 = b2))) H) := ⟨o_eqB⟩
instance z_o_neB {b1 b2 : Bool} : Stp (rNeU K (.bl b1) (.bl b2) H Q) (Q (.bl (!decide (b1 = b2))) H) := ⟨o_neB⟩
instance z_o_eqS {s1 s2 : Str} : Stp (rEqU K (.str s1) (.str s2) H Q) (Q (.bl (decide (s1 = s2))) H) := ⟨o_eqS⟩
instance z_o_neS {s1 s2 : Str} : Stp (rNeU K (.str s1) (.str s2) H Q) (Q (.bl (!decide (s1 = s2))) H) := ⟨o_neS⟩
instance z_o_eqNI  : Stp (rEqU K .non (.int i) H Q) (Q (.bl false) H) := ⟨o_eqNI⟩
instance z_o_eqIN  : Stp (rEqU K (.int i) .non H Q) (Q (.bl false) H) := ⟨o_eqIN⟩
instance z_o_eqNN  : Stp (rEqU K .non .non H Q) (Q (.bl true) H) := ⟨o_eqNN⟩
instance z_o_neNI  : Stp (rNeU K .non (.int i) H Q) (Q (.bl true) H) := ⟨o_neNI⟩
instance z_o_neIN  : Stp (rNeU K (.int i) .non H Q) (Q (.bl true) H) := ⟨o_neIN⟩
instance z_o_neNN  : Stp (rNeU K .non .non H Q) (Q (.bl false) H) := ⟨o_neNN⟩
instance z_o_isB {b1 b2 : Bool} : Stp (rIsU (.bl b1) (.bl b2) H Q) (Q (.bl (decide (b1 = b2))) H) := ⟨o_isB⟩
instance z_o_abs  : Stp (rAbs [.int i] H Q) (Q (.int (if i < 0 then -i else i)) H) := ⟨o_abs⟩
/-! ### new things -/
instance z_n_lst [S : Sy G L H] [l : LenC xs n] : Stp (nLst xs H Q) (Need (n ≤ 1000) ∧ ∀ p H', Sy G ((p, Is (.lst xs)) :: L) H' → Q (.ref p) H') := ⟨fun q => n_lst S (by rw [l.e]; exact q.1) q.2⟩
instance z_n_tup [S : Sy G L H] [l : LenC xs n] : Stp (nTup xs H Q) (Need (n ≤ 1000) ∧ ∀ p G' H', Sm G G' → GA G' p (.tup xs) → Sy G' L H' → Q (.ref p) H') := ⟨fun q => n_tup S (by rw [l.e]; exact q.1) fun p G' H' s e S' => q.2 p G' H' ⟨s⟩ ⟨e⟩ S'⟩
instance z_n_any {o : HO} [S : Sy G L H] : Stp (nObj o H Q) (∀ p H', Sy G ((p, Is o) :: L) H' → Q (.ref p) H') := ⟨n_any S⟩
instance z_n_anyT [S : Sy G L H] : Stp (nObj (.tup xs) H Q) (∀ p G' H', Sm G G' → GA G' p (.tup xs) → Sy G' L H' → Q (.ref p) H') := ⟨fun q => fun p hp => q p _ _ ⟨same_new (S.gnone hp)⟩ ⟨upd_same⟩ (S.newF hp)⟩
instance z_n_new {C : Addr} {sp : Sp} {vs : List V} {E : XK} [S : Sy G L H] : Stp (nNew C sp vs H Q E) (∀ x dx G' H', Sm G G' → Sy G' ((x, Is (.ins C dx [])) :: L) H' → sp (.ref x :: vs) H' (fun v H2 => v = .non ∧ Q (.ref x) H2) E) := ⟨fun q => n_new S fun x dx G' H' s S' => q x dx G' H' ⟨s⟩ S'⟩
instance z_non_and : Stp (V.non = .non ∧ A) A := ⟨fun q => ⟨rfl, q⟩⟩
instance z_n_mk1 {C : Addr} {f : Str} {v : V} {Q : XK} [S : Sy G L H1] : Stp (nMk C [f] [v] H1 Q) (∀ d G' H', Sm G G' → GA G' d (.xd [(f, v)]) → Sy G' L H' → Q (.ref C) (some d) H') :=
  ⟨fun q => n_mk S rfl (fun z => nomatch z) (Nat.le_of_ble_eq_true rfl) fun d G' H' s e S' => q d G' H' ⟨s⟩ ⟨e⟩ S'⟩
instance z_n_mk2 {C : Addr} {f g : Str} {v w : V} {Q : XK} [S : Sy G L H1] : Stp (nMk C [f, g] [v, w] H1 Q) (∀ d G' H', Sm G G' → GA G' d (.xd [(g, w), (f, v)]) → Sy G' L H' → Q (.ref C) (some d) H') :=
  ⟨fun q => n_mk S rfl (fun z => nomatch z) (Nat.le_of_ble_eq_true rfl) fun d G' H' s e S' => q d G' H' ⟨s⟩ ⟨e⟩ S'⟩
/-! ### lists -/
instance z_ixA [h : HL K H a xs] [e : AtL xs i v] : Stp (rIxU K (.ref a) (.int i) H Q) (Q v H) := ⟨o_ixL h.h e.e⟩
instance z_ixTA [h : HT K H a xs] [e : AtL xs i v] : Stp (rIxU K (.ref a) (.int i) H Q) (Q v H) := ⟨o_ixT h.h e.e⟩
instance (priority := low) z_ixN {R : Prop} [h : HL K H a xs] [l : LenC xs n] [e : EltC xs i.toNat (fun v => Q v H) R] : Stp (rIxU K (.ref a) (.int i) H Q) (Need (0 ≤ i ∧ i < (n : Int)) ∧ R) := ⟨fun q => by
  obtain ⟨⟨h0, h1⟩, q⟩ := q
  obtain ⟨v, e1, e2⟩ := atI_int (xs := xs) h0 (by rw [l.e]; exact h1)
  exact o_ixL h.h e1 (e.imp q v e2)⟩
instance z_getA [h : HA H a (.lst xs)] [e : AtL xs i v] : Stp (rGetU (.ref a) (.int i) H Q) (Q v H) := ⟨o_get h.e e.g.1 e.g.2⟩
instance (priority := low) z_getN {R : Prop} [h : HA H a (.lst xs)] [l : LenC xs n] [e : EltC xs i.toNat (fun v => Q v H) R] : Stp (rGetU (.ref a) (.int i) H Q) (Need (0 ≤ i ∧ i < (n : Int)) ∧ R) := ⟨fun q => by
  obtain ⟨⟨h0, h1⟩, q⟩ := q
  obtain ⟨v, e1, e2⟩ := atI_int (xs := xs) h0 (by rw [l.e]; exact h1)
  exact o_get h.e h0 e2 (e.imp q v e2)⟩
instance z_set {xs' : List V} {P : Hp → Prop} [S : Sy G L H] [h : LA L a (.lst xs)] [l : LenC xs n] [s : SetC xs i.toNat v xs'] [pu : PU a (.lst xs') L L'] : Stp (rSetU (.ref a) (.int i) v H P) (Need (0 ≤ i ∧ i < (n : Int)) ∧ ∀ H', Sy G L' H' → P H') := ⟨fun q => by
  obtain ⟨⟨h0, h1⟩, q⟩ := q
  obtain ⟨m, rfl⟩ : ∃ m : Nat, i = (m : Int) := ⟨i.toNat, by omega⟩
  have hm : m < xs.length := by rw [l.e]; omega
  refine o_setL (k := m) S (S.at h.m) ?_ (L' := L') ?_ q
  · unfold ixN; rw [if_pos h0, if_pos (by rw [l.e]; exact h1)]; rfl
  · have := s.e; rw [Int.toNat_natCast] at this; rw [this]; exact pu.p⟩
instance z_app {xs' : List V} [S : Sy G L H] [h : LA L a (.lst xs)] [l : LenC xs n] [s : AppC xs v xs'] [pu : PU a (.lst xs') L L'] : Stp (rAppend (.ref a) [v] H Q) (Need (n ≤ 100000) ∧ ∀ H', Sy G L' H' → Q .non H') := ⟨fun q =>
  o_app S (S.at h.m) (Nat.lt_of_lt_of_le (Nat.lt_succ_of_le (by rw [l.e]; exact q.1)) (show 100001 ≤ sizeLine by decide)) (L' := L') (by rw [s.e]; exact pu.p) q.2⟩
instance z_ixM1 {α : Type} {f : α → V} {l : List α} [h : HL K H a (l.map f)] : Stp (rIxU K (.ref a) (.int (-1)) H Q) (Need (1 ≤ l.length) ∧ ∀ x, l[l.length - 1]? = some x → Q (f x) H) := ⟨fun q => by
  obtain ⟨h0, q⟩ := q
  have h0 : 1 ≤ l.length := h0
  have hl : l.length - 1 < l.length := by omega
  refine o_ixL h.h (v := f l[l.length - 1]) ?_ (q _ (List.getElem?_eq_getElem hl))
  unfold atI ixN
  rw [List.length_map, if_neg (by omega), if_pos (by omega)]
  have e : (-1 + (l.length : Int)).toNat = l.length - 1 := by omega
  rw [Option.bind_some, e, List.getElem?_map, List.getElem?_eq_getElem hl]; rfl⟩
instance z_setD {i : Int} {kvs : List (Key × V)} {P : Hp → Prop} [S : Sy G L H] [h : LA L a (.dK kvs)] [pu : PU a (.dK (putK kvs (Sum.inl i) v)) L L'] : Stp (rSetU (.ref a) (.int i) v H P) (Need (kvs.length ≤ 100000) ∧ ∀ H', Sy G L' H' → P H') := ⟨fun q =>
  o_putD (k := Sum.inl i) S (S.at h.m) (Nat.lt_of_lt_of_le (Nat.lt_succ_of_le q.1) (show 100001 ≤ sizeLine by decide)) (L' := L') pu.p q.2⟩
instance z_inD {i : Int} {kvs : List (Key × V)} [h : HA H a (.dK kvs)] : Stp (rInU K false (.int i) (.ref a) H Q) (Q (.bl (valV kvs (Sum.inl i)).isSome) H) := ⟨o_inD (k := Sum.inl i) h.e⟩
theorem o_ixD1 {i : Int} {kvs : List (Key × V)} (w : V) [h : HA H a (.dK kvs)] (e : valV kvs (Sum.inl i) = some w) (q : Q w H) : rIxU K (.ref a) (.int i) H Q := o_ixD (k := Sum.inl i) h.e e q
theorem rep_len {x : V} {n : Nat} : (List.replicate n [x]).flatten = List.replicate n x := by
  induction n with
  | zero => rfl
  | succ n ih => rw [List.replicate_succ, List.flatten_cons, ih, List.replicate_succ]; rfl
theorem o_repx {x : V} {k : Int} (h : H a = some (.lst [x])) (h0 : 0 ≤ k ∧ k ≤ 100000) (q : nObj (.lst (List.replicate k.toNat x)) H Q) : rMulU (.ref a) (.int k) H Q :=
  .inr ⟨a, k, [x], rfl, rfl, h, by omega, by omega, by rw [List.length_singleton, Nat.one_mul]; exact Nat.le_trans (show k.toNat ≤ 100000 by omega) (by decide), by rw [rep_len]; exact q⟩
instance z_repN {k : Int} [h : HA H a (.lst [.non])] : Stp (rMulU (.ref a) (.int k) H Q) (Need (0 ≤ k ∧ k ≤ 100000) ∧ nObj (.lst ((List.replicate k.toNat (none : Option Int)).map optV)) H Q) := ⟨fun q => o_repx h.e q.1 (by have := q.2; rw [List.map_replicate] at this; exact this)⟩
instance z_repI {k i : Int} [h : HA H a (.lst [.int i])] : Stp (rMulU (.ref a) (.int k) H Q) (Need (0 ≤ k ∧ k ≤ 100000) ∧ nObj (.lst ((List.replicate k.toNat i).map V.int)) H Q) := ⟨fun q => o_repx h.e q.1 (by have := q.2; rw [List.map_replicate] at this; exact this)⟩
instance z_lenL [h : HL K H a xs] [l : LenC xs n] : Stp (rLenU K [.ref a] H Q) (Q (.int (n : Int)) H) := ⟨fun q => o_lenL h.h (by rw [l.e]; exact q)⟩
instance z_lenT [h : HT K H a xs] [l : LenC xs n] : Stp (rLenU K [.ref a] H Q) (Q (.int (n : Int)) H) := ⟨fun q => o_lenT h.h (by rw [l.e]; exact q)⟩
instance z_ty_lst [h : HL K H a xs] : Stp (tyV K "list" (.ref a) H ∧ A) A := ⟨ty_lst h.h⟩
instance z_listL [h : HL K H a xs] : Stp (rListU K [.ref a] H Q) (nObj (.lst xs) H Q) := ⟨o_listL h.h⟩
instance z_tupL [h : HL K H a xs] : Stp (rTupU K [.ref a] H Q) (nObj (.tup xs) H Q) := ⟨o_tupL h.h⟩
instance z_it_list {R : It → Hp → Prop} [h : HL K H a xs] : Stp (nSeq K (.ref a) H R) (R (Itl K a) H) := ⟨it_list h.h⟩
instance z_it_enum {R : It → Hp → Prop} [h : HL K H a xs] : Stp (nEnum K [.ref a] H R) (R (Ite K a) H) := ⟨it_enum h.h⟩
instance z_it_tup {R : It → Hp → Prop} [h : HT K H a xs] : Stp (nSeqT K (.ref a) H R) (R (Itt K a) H) := ⟨it_tup h.h⟩
instance z_it_rng1 {R : It → Hp → Prop} : Stp (nRng1 [.int j] H R) (Need (-(2 ^ 62) ≤ j ∧ j < 2 ^ 62) ∧ R (Itr 0 j.toNat) H) := ⟨fun q => it_rng1 q.1 q.2⟩
instance z_it_rng2 {R : It → Hp → Prop} : Stp (nRng2 [.int i, .int j] H R) (Need (-(2 ^ 62) ≤ i ∧ i < 2 ^ 62 ∧ -(2 ^ 62) ≤ j ∧ j < 2 ^ 62) ∧ R (Itr i (j - i).toNat) H) := ⟨fun q => it_rng2 q.1 q.2⟩
class IntsL (xs : List V) (ks : outParam (List Int)) : Prop where
  e : xs = ks.map V.int
instance intsL0 : IntsL [] [] := ⟨rfl⟩
instance intsLS {i : Int} {xs : List V} {ks : List Int} [h : IntsL xs ks] : IntsL (.int i :: xs) (i :: ks) := ⟨by rw [h.e]; rfl⟩
class CatC (xs ys : List V) (zs : outParam (List V)) : Prop where
  e : xs ++ ys = zs
instance (priority := low) catC {xs ys : List V} : CatC xs ys (xs ++ ys) := ⟨rfl⟩
instance catCm {α : Type} {f : α → V} {l l' : List α} : CatC (l.map f) (l'.map f) ((l ++ l').map f) := ⟨List.map_append.symm⟩
instance catCi {ks : List Int} {y : V} {ys : List V} {ls : List Int} [h : IntsL (y :: ys) ls] : CatC (ks.map V.int) (y :: ys) ((ks ++ ls).map V.int) := ⟨by rw [h.e, List.map_append]⟩
instance catCj {ks : List Int} {y : V} {ys : List V} {ls : List Int} [h : IntsL (y :: ys) ls] : CatC (y :: ys) (ks.map V.int) ((ls ++ ks).map V.int) := ⟨by rw [h.e, List.map_append]⟩
instance z_catL {zs : List V} [h : HA H a (.lst xs)] [h' : HA H b (.lst ys)] [l : LenC xs n] [l' : LenC ys k] [c : CatC xs ys zs] : Stp (rAddU K (.ref a) (.ref b) H Q) (Need (n + k ≤ 100000) ∧ nObj (.lst zs) H Q) := ⟨fun q => o_catL h.e h'.e (by rw [l.e, l'.e]; exact Nat.le_trans q.1 (by decide)) (by rw [c.e]; exact q.2)⟩
instance z_lc_wp {vs : List Nat} {B : Prop} : Stp (wipe σ vs = wipe σ vs ∧ B) B := ⟨fun q => ⟨rfl, q⟩⟩
/-! ### operators with a side -/
instance z_mod : Stp (rI (fun _ j => 0 < j) (fun i j => .int (i % j)) (.int i) (.int j) H Q) (Need (0 < j) ∧ Q (.int (i % j)) H) := ⟨fun q => ⟨i, j, rfl, rfl, q.1, q.2⟩⟩
instance z_fdiv : Stp (rI CDivW (fun i j => .int (i / j)) (.int i) (.int j) H Q) (Need (CDivW i j) ∧ Q (.int (i / j)) H) := ⟨fun q => o_iC q.1 q.2⟩
instance z_mul : Stp (rMulU (.int i) (.int j) H Q) (Need (CMulX i j) ∧ Q (.int (i * j)) H) := ⟨fun q => o_mulI q.1 q.2⟩
instance z_max2 : Stp (rMax2 [.int i, .int j] H Q) (∀ m, i ≤ m → j ≤ m → (m = i ∨ m = j) → Q (.int m) H) := ⟨fun q => ⟨i, j, rfl, q _ (by split <;> omega) (by split <;> omega) (by split <;> simp)⟩⟩
instance z_min2 : Stp (rMin2 [.int i, .int j] H Q) (∀ m, m ≤ i → m ≤ j → (m = i ∨ m = j) → Q (.int m) H) := ⟨fun q => ⟨i, j, rfl, q _ (by split <;> omega) (by split <;> omega) (by split <;> simp)⟩⟩
instance z_intB {c : Bool} : Stp (rIntU [.bl c] H Q) (Q (.int (if c then 1 else 0)) H) := ⟨fun q => .inl (.inr ⟨c, rfl, q⟩)⟩
instance z_intI : Stp (rIntU [.int i] H Q) (Q (.int i) H) := ⟨fun q => .inl (.inl ⟨i, rfl, q⟩)⟩
instance z_str : Stp (rStrU [.int i] H Q) (Need (i.natAbs < 2 ^ 1000) ∧ Q (.str (toString i)) H) := ⟨fun q => o_str q.1 q.2⟩
instance z_isON {o : Option Int} : Stp (rIsU (optV o) .non H Q) (Q (.bl o.isNone) H) := ⟨fun q => by
  cases o with
  | none => exact o_isNN q
  | some i => exact o_isNI q⟩
instance z_ntON {o : Option Int} : Stp (rNotU (optV o) .non H Q) (Q (.bl o.isSome) H) := ⟨fun q => by
  cases o with
  | none => exact o_ntNN q
  | some i => exact o_ntNI q⟩
instance z_eqOI {o : Option Int} : Stp (rEqU K (optV o) (.int i) H Q) (Q (.bl (decide (o = some i))) H) := ⟨fun q => by
  cases o with
  | none => exact o_eqNI (by rw [decide_eq_false (fun z => nomatch z)] at q; exact q)
  | some j =>
    have e : decide (some j = some i) = decide (j = i) := decide_eq_decide.mpr ⟨fun h => Option.some.inj h, fun h => by rw [h]⟩
    exact o_eqI (by rw [e] at q; exact q)⟩
instance z_neOO {o o' : Option Int} : Stp (rNeU K (optV o) (optV o') H Q) (Q (.bl (!decide (o = o'))) H) := ⟨fun q => by
  cases o <;> cases o'
  · exact o_neNN (by rw [decide_eq_true rfl] at q; exact q)
  · exact o_neNI (by rw [decide_eq_false (fun z => nomatch z)] at q; exact q)
  · exact o_neIN (by rw [decide_eq_false (fun z => nomatch z)] at q; exact q)
  · rename_i a b
    have e : decide (some a = some b) = decide (a = b) := decide_eq_decide.mpr ⟨fun h => Option.some.inj h, fun h => by rw [h]⟩
    exact o_neI (by rw [e] at q; exact q)⟩
instance z_eqOO {o o' : Option Int} : Stp (rEqU K (optV o) (optV o') H Q) (Q (.bl (decide (o = o'))) H) := ⟨fun q => by
  cases o <;> cases o'
  · exact o_eqNN (by rw [decide_eq_true rfl] at q; exact q)
  · exact o_eqNI (by rw [decide_eq_false (fun z => nomatch z)] at q; exact q)
  · exact o_eqIN (by rw [decide_eq_false (fun z => nomatch z)] at q; exact q)
  · rename_i a b
    have e : decide (some a = some b) = decide (a = b) := decide_eq_decide.mpr ⟨fun h => Option.some.inj h, fun h => by rw [h]⟩
    exact o_eqI (by rw [e] at q; exact q)⟩
instance z_isi_li [h : HA H a (.lst xs)] : Stp (rIsi K [.ref a, .ty "int"] H Q) (Q (.bl false) H) := ⟨isi_li h.e⟩
instance z_isi_lb [h : HA H a (.lst xs)] : Stp (rIsi K [.ref a, .ty "bool"] H Q) (Q (.bl false) H) := ⟨isi_lb h.e⟩
instance z_isi_ls [h : HA H a (.lst xs)] : Stp (rIsi K [.ref a, .ty "str"] H Q) (Q (.bl false) H) := ⟨isi_ls h.e⟩
instance z_isi_ll [h : HA H a (.lst xs)] : Stp (rIsi K [.ref a, .ty "list"] H Q) (Q (.bl true) H) := ⟨isi_ll h.e⟩
instance z_isi_lt [h : HA H a (.lst xs)] : Stp (rIsi K [.ref a, .ty "tuple"] H Q) (Q (.bl false) H) := ⟨isi_lt h.e⟩
instance z_isi_ti [h : HA H a (.tup xs)] : Stp (rIsi K [.ref a, .ty "int"] H Q) (Q (.bl false) H) := ⟨isi_ti h.e⟩
instance z_isi_tb [h : HA H a (.tup xs)] : Stp (rIsi K [.ref a, .ty "bool"] H Q) (Q (.bl false) H) := ⟨isi_tb h.e⟩
instance z_isi_ts [h : HA H a (.tup xs)] : Stp (rIsi K [.ref a, .ty "str"] H Q) (Q (.bl false) H) := ⟨isi_ts h.e⟩
instance z_isi_tl [h : HA H a (.tup xs)] : Stp (rIsi K [.ref a, .ty "list"] H Q) (Q (.bl false) H) := ⟨isi_tl h.e⟩
instance z_isi_tt [h : HA H a (.tup xs)] : Stp (rIsi K [.ref a, .ty "tuple"] H Q) (Q (.bl true) H) := ⟨isi_tt h.e⟩
/-! ### exceptions -/
variable {gs : List Str} {fs : List (Str × V)} {xn : Str} {C : Addr} {d : Option Addr}
instance z_WE {W : WX} {cls : Value} {d : Option Addr} : Stp (WE W σ cls d H) (W cls d σ H) := ⟨id⟩
def LsP (σ : L2.St) (i : Nat) (v : Option V) (P : L2.St → Hp → Prop) (H : Hp) : Prop := P (σ.set i v) H
instance z_LsP {i : Nat} {v : Option V} {P : L2.St → Hp → Prop} [e : Ls σ i v σ'] : Stp (LsP σ i v P H) (P σ' H) := ⟨fun q => by unfold LsP; rw [e.e]; exact q⟩
instance z_x_asO {nx : L2.St → Hp → Prop} {rt : VK} {bk ct : L2.St → Hp → Prop} {ts : Addr → Value → Option Addr → TS} {Wout : WX} {i : Nat} {c : Value} [k : XE K mg xn c true] :
    Stp (wAs K c i ts Wout ⟨nx, rt, bk, ct⟩ (.ref (clsA mg xn)) d σ H) (∀ a, H a = none → LsP σ i (some (.ref a)) (fun σ' H => ts a (.ref (clsA mg xn)) d { nx := fun σ' H' => LsP σ' i none nx H', rt := rt, bk := fun σ' H' => LsP σ' i none bk H', ct := fun σ' H' => LsP σ' i none ct H' } σ' H) H) := ⟨fun q => x_as k.k fun a σ' ha es => by have := q a ha; unfold LsP at this; rw [← es]; exact this⟩
instance z_x_onlyO {ts : Addr → Value → Option Addr → TS} {Wout : WX} {D : Ends} {c : Value} [k : XE K mg xn c true] : Stp (wOnly K c ts Wout D (.ref (clsA mg xn)) d σ H) (∀ a, H a = none → ts a (.ref (clsA mg xn)) d D σ H) := ⟨x_only k.k⟩
instance z_x_onlyN {ts : Addr → Value → Option Addr → TS} {Wout : WX} {D : Ends} {c : Value} [k : XE K mg xn c false] : Stp (wOnly K c ts Wout D (.ref (clsA mg xn)) d σ H) (Wout (.ref (clsA mg xn)) d σ H) := ⟨x_onlyN k.k⟩
instance z_x_asN {ts : Addr → Value → Option Addr → TS} {Wout : WX} {D : Ends} {c : Value} {i : Nat} [k : XE K mg xn c false] : Stp (wAs K c i ts Wout D (.ref (clsA mg xn)) d σ H) (Wout (.ref (clsA mg xn)) d σ H) := ⟨x_asN k.k⟩
instance z_isXo [T : XC K mg xn gs] [k : XI K mg xn (.ref C) c] [h : HA H dd (.xd fs)] : Stp (rIsX K (.ref (clsA mg xn)) (some dd) a [.ref a, .ref C] H Q) (Q (.bl c) H) := ⟨o_isXo (dst_some h.e)⟩
instance z_isXt {n : String} [T : XC K mg xn gs] [k : XI K mg xn (.type n) c] [h : HA H dd (.xd fs)] : Stp (rIsX K (.ref (clsA mg xn)) (some dd) a [.ref a, .ty n] H Q) (Q (.bl c) H) := ⟨o_isXt (dst_some h.e)⟩
instance z_n_xf [T : XC K mg xn [f]] [h : HA H dd (.xd [(f, v)])] : Stp (nXf K a (.ref (clsA mg xn)) (some dd) f (.ref a) H Q) (Q v H) := ⟨fun q => n_xf (gs := [f]) (List.mem_cons_self ..) h.e (by rw [List.lookup_cons, beq_self_eq_true]) q⟩
/-! ### dicts -/
instance z_isD {R : Addr → Prop} {kvs : List (Key × V)} [h : HA H a (.dK kvs)] : Stp (nIsD (.ref a) H R) (R a) := ⟨n_isD h.e⟩
instance z_dgetI {kvs : List (Key × V)} [h : HA H a (.dK kvs)] : Stp (nDGet a (.int i) z H Q) (Q ((valV kvs (Sum.inl i)).getD z) H) := ⟨n_dgetI h.e⟩
end
/-- a ledger that holds another one -/
class LSub (L : outParam Lg) (L' : Lg) : Prop where
  h : L ⊆ L'
instance laSub {L L' : Lg} {a : Addr} {o : HO} [s : LSub L L'] [h : LA L a o] : LA L' a o := ⟨s.h h.m⟩
instance bgSub {L L' : Lg} {b : Addr} [s : LSub L L'] [h : BG b L] : BG b L' := ⟨let ⟨cs, h1, h2⟩ := h.h; ⟨cs, s.h h1, s.h h2⟩⟩
theorem Sy.subl {G : Hp} {L L' : Lg} {H : Hp} (S : Sy G L' H) (h : L.Sublist L') : Sy G L H := S.sub h.subset ((h.map _).nodup S.nd)
/-! ### in, cuts, equality of lists of like things -/
theorem inV_int {n : Int} {ns : List Int} : inV (.int n) (ns.map V.int) = decide (n ∈ ns) := by
  induction ns with
  | nil => simp [inV]
  | cons m ns ih =>
    have e : inV (.int n) ((m :: ns).map V.int) = (eqV (.int m) (.int n) || inV (.int n) (ns.map V.int)) := rfl
    rw [e, ih]
    have e2 : eqV (.int m) (.int n) = decide (n = m) := by
      show (m == n) = _
      by_cases h : n = m
      · subst h; simp
      · rw [decide_eq_false h, beq_eq_false_iff_ne]; exact fun z => h z.symm
    rw [e2]; simp
theorem inV_opt {o : Option Int} {ns : List (Option Int)} : inV (optV o) (ns.map optV) = decide (o ∈ ns) := by
  induction ns with
  | nil => simp [inV]
  | cons m ns ih =>
    have e : inV (optV o) ((m :: ns).map optV) = (eqV (optV m) (optV o) || inV (optV o) (ns.map optV)) := rfl
    rw [e, ih]
    have e2 : eqV (optV m) (optV o) = decide (o = m) := by
      cases o <;> cases m
      · rfl
      · rfl
      · rfl
      · rename_i a b
        show (b == a) = _
        by_cases h : a = b
        · subst h; simp
        · rw [decide_eq_false (fun z => h (Option.some.inj z)), beq_eq_false_iff_ne]; exact fun z => h z.symm
    rw [e2]; simp
theorem flat_int {ns : List Int} : (ns.map V.int).all flatV = true := by rw [List.all_eq_true]; intro x hx; obtain ⟨n, _, rfl⟩ := List.mem_map.mp hx; rfl
theorem flat_optV {o : Option Int} : flatV (optV o) = true := by cases o <;> rfl
theorem flat_opt {ns : List (Option Int)} : (ns.map optV).all flatV = true := by rw [List.all_eq_true]; intro x hx; obtain ⟨n, _, rfl⟩ := List.mem_map.mp hx; exact flat_optV
def cutL {α : Type} (xs : List α) (lo hi : Option Int) : List α := (xs.drop (HT.sIx xs.length 0 lo)).take (HT.sIx xs.length xs.length hi - HT.sIx xs.length 0 lo)
theorem cutV_map {α : Type} {f : α → V} {l : List α} {lo hi : Option Int} : cutV (l.map f) lo hi = (cutL l lo hi).map f := by
  unfold cutV cutL; rw [List.length_map, ← List.map_drop, ← List.map_take]
theorem cutL_to {α : Type} {l : List α} {k : Int} (h : 0 ≤ k) : cutL l none (some k) = l.take k.toNat := by
  obtain ⟨n, rfl⟩ : ∃ n : Nat, k = (n : Int) := ⟨k.toNat, by omega⟩
  unfold cutL
  have e0 : HT.sIx l.length 0 none = 0 := rfl
  rw [e0, HT.sIx_nat, List.drop_zero, Nat.sub_zero, Int.toNat_natCast]
  by_cases h : n ≤ l.length
  · rw [Nat.min_eq_left h]
  · rw [Nat.min_eq_right (by omega), List.take_of_length_le (Nat.le_refl _), List.take_of_length_le (by omega)]
theorem cutL_from {α : Type} {l : List α} {k : Int} (h : 0 ≤ k) : cutL l (some k) none = l.drop k.toNat := by
  obtain ⟨n, rfl⟩ : ∃ n : Nat, k = (n : Int) := ⟨k.toNat, by omega⟩
  unfold cutL
  have e1 : HT.sIx l.length l.length none = l.length := rfl
  rw [e1, HT.sIx_nat, Int.toNat_natCast]
  by_cases h : n ≤ l.length
  · rw [Nat.min_eq_left h]; exact List.take_of_length_le (by rw [List.length_drop]; exact Nat.le_refl _)
  · rw [Nat.min_eq_right (by omega), List.drop_of_length_le (Nat.le_refl _), List.drop_of_length_le (by omega)]; simp
theorem cutL_all {α : Type} {l : List α} : cutL l none none = l := by
  unfold cutL
  have e0 : HT.sIx l.length 0 none = 0 := rfl
  have e1 : HT.sIx l.length l.length none = l.length := rfl
  rw [e0, e1, List.drop_zero, Nat.sub_zero, List.take_length]
theorem cutL_mid {α : Type} {l : List α} {i j : Int} (h : 0 ≤ i) (h' : 0 ≤ j) : cutL l (some i) (some j) = (l.take j.toNat).drop i.toNat := by
  obtain ⟨n, rfl⟩ : ∃ n : Nat, i = (n : Int) := ⟨i.toNat, by omega⟩
  obtain ⟨m, rfl⟩ : ∃ m : Nat, j = (m : Int) := ⟨j.toNat, by omega⟩
  unfold cutL
  rw [HT.sIx_nat, HT.sIx_nat, Int.toNat_natCast, Int.toNat_natCast, List.drop_take]
  by_cases h1 : n ≤ l.length
  · rw [Nat.min_eq_left h1]
    by_cases h2 : m ≤ l.length
    · rw [Nat.min_eq_left h2]
    · rw [Nat.min_eq_right (by omega), List.take_of_length_le (by rw [List.length_drop]; exact Nat.le_refl _), List.take_of_length_le (by rw [List.length_drop]; omega)]
  · rw [Nat.min_eq_right (show l.length ≤ n by omega), List.drop_of_length_le (Nat.le_refl _), List.drop_of_length_le (show l.length ≤ n by omega)]; simp
def optD : Option Int → PyData | none => .none | some i => .int i
section
variable {K : PySem.W.Frag} {H : Hp} {Q : VK} {a b : Addr} {G : Hp} {L L' : Lg}
theorem dpa_opt : ∀ (ks : List (Option Int)), DpAll K H (ks.map optV) (ks.map optD)
  | [] => .nil
  | none :: ks => .cons .non (dpa_opt ks)
  | some n :: ks => .cons (.int n) (dpa_opt ks)
theorem lay_opt : ∀ (ks : List (Option Int)), PyData.canLayAll0 (ks.map optD) = true
  | [] => rfl
  | none :: ks => by rw [List.map_cons, PyData.canLayAll0, lay_opt ks]; rfl
  | some n :: ks => by rw [List.map_cons, PyData.canLayAll0, lay_opt ks]; rfl
theorem dep_opt : ∀ (ks : List (Option Int)), PyData.depthAll (ks.map optD) = 0
  | [] => rfl
  | none :: ks => by rw [List.map_cons, PyData.depthAll, dep_opt ks]; rfl
  | some n :: ks => by rw [List.map_cons, PyData.depthAll, dep_opt ks]; rfl
theorem eqv_opt : ∀ (ks ls : List (Option Int)), PyData.eqvAll (ks.map optD) (ls.map optD) = decide (ks = ls)
  | [], [] => rfl
  | [], _ :: _ => rfl
  | _ :: _, [] => rfl
  | x :: ks, y :: ls => by
    rw [List.map_cons, List.map_cons, PyData.eqvAll, eqv_opt ks ls]
    have e : PyData.eqv (optD x) (optD y) = decide (x = y) := by
      cases x <;> cases y
      · rfl
      · rfl
      · rfl
      · rename_i i j
        show (i == j) = _
        by_cases h : i = j
        · subst h; simp
        · rw [decide_eq_false (fun z => h (Option.some.inj z)), beq_eq_false_iff_ne]; exact h
    rw [e, ← Bool.decide_and]
    exact decide_eq_decide.mpr ⟨fun ⟨h1, h2⟩ => by rw [h1, h2], fun h => ⟨(List.cons.inj h).1, (List.cons.inj h).2⟩⟩
theorem shp_opt (ks : List (Option Int)) : SeqAt.shaped (.list (ks.map optD)) = true := by
  unfold SeqAt.shaped
  rw [Bool.and_eq_true]
  refine ⟨by rw [PyData.canLay0]; exact lay_opt ks, decide_eq_true ?_⟩
  rw [PyData.depth, dep_opt]; omega
/-- a list read as keys or nothing -/
class OptL (xs : List V) (ks : outParam (List (Option Int))) : Prop where
  e : xs = ks.map optV
instance optL1 {ks : List (Option Int)} : OptL (ks.map optV) ks := ⟨rfl⟩
instance optL2 {ks : List Int} : OptL (ks.map V.int) (ks.map some) := ⟨by rw [List.map_map]; rfl⟩
instance optL0 : OptL [] [] := ⟨rfl⟩
theorem o_eqOpt {xs ys : List V} [h : HL K H a xs] [k : HL K H b ys] {ks ls : List (Option Int)} [e : OptL xs ks] [e' : OptL ys ls] (q : Q (.bl (decide (ks = ls))) H) : rEqU K (.ref a) (.ref b) H Q :=
  o_eqD (.lst h.h (by rw [e.e]; exact dpa_opt ks)) (.lst k.h (by rw [e'.e]; exact dpa_opt ls)) (shp_opt ks) (shp_opt ls) (by rw [PyData.eqv, eqv_opt]; exact q)
theorem o_neOpt {xs ys : List V} [h : HL K H a xs] [k : HL K H b ys] {ks ls : List (Option Int)} [e : OptL xs ks] [e' : OptL ys ls] (q : Q (.bl (!decide (ks = ls))) H) : rNeU K (.ref a) (.ref b) H Q :=
  o_neD (.lst h.h (by rw [e.e]; exact dpa_opt ks)) (.lst k.h (by rw [e'.e]; exact dpa_opt ls)) (shp_opt ks) (shp_opt ls) (by rw [PyData.eqv, eqv_opt]; exact q)
instance z_eqOptL {ks ls : List (Option Int)} [h : HL K H a (ks.map optV)] [k : HL K H b (ls.map optV)] : Stp (rEqU K (.ref a) (.ref b) H Q) (Q (.bl (decide (ks = ls))) H) := ⟨o_eqOpt⟩
instance z_neOptL {ks ls : List (Option Int)} [h : HL K H a (ks.map optV)] [k : HL K H b (ls.map optV)] : Stp (rNeU K (.ref a) (.ref b) H Q) (Q (.bl (!decide (ks = ls))) H) := ⟨o_neOpt⟩
theorem map_some_inj {ks ls : List Int} : (ks.map some = ls.map some) ↔ ks = ls := ⟨fun h => by
  have := congrArg (fun l : List (Option Int) => l.map (fun o => o.getD 0)) h
  simpa [List.map_map, Function.comp_def] using this, fun h => by rw [h]⟩
instance z_eqIntL {ks ls : List Int} [h : HL K H a (ks.map V.int)] [k : HL K H b (ls.map V.int)] : Stp (rEqU K (.ref a) (.ref b) H Q) (Q (.bl (decide (ks = ls))) H) := ⟨fun q => o_eqOpt (by rw [decide_eq_decide.mpr map_some_inj]; exact q)⟩
instance z_neIntL {ks ls : List Int} [h : HL K H a (ks.map V.int)] [k : HL K H b (ls.map V.int)] : Stp (rNeU K (.ref a) (.ref b) H Q) (Q (.bl (!decide (ks = ls))) H) := ⟨fun q => o_neOpt (by rw [decide_eq_decide.mpr map_some_inj]; exact q)⟩
instance (priority := high) z_eqNil {xs : List V} [h : HL K H a xs] [k : HL K H b []] : Stp (rEqU K (.ref a) (.ref b) H Q) (Q (.bl xs.isEmpty) H) := ⟨o_eqNilL h.h k.h⟩
instance (priority := high) z_neNil {xs : List V} [h : HL K H a xs] [k : HL K H b []] : Stp (rNeU K (.ref a) (.ref b) H Q) (Q (.bl (!xs.isEmpty)) H) := ⟨o_neNilL h.h k.h⟩
instance z_inI {ks : List Int} {k : Int} [h : HL K H a (ks.map V.int)] : Stp (rInU K false (.int k) (.ref a) H Q) (Q (.bl (decide (k ∈ ks))) H) := ⟨fun q => o_inL h.h rfl flat_int (by rw [inV_int]; exact q)⟩
instance z_niI {ks : List Int} {k : Int} [h : HL K H a (ks.map V.int)] : Stp (rInU K true (.int k) (.ref a) H Q) (Q (.bl (!decide (k ∈ ks))) H) := ⟨fun q => o_niL h.h rfl flat_int (by rw [inV_int]; exact q)⟩
instance z_inO {ks : List (Option Int)} {k : Int} [h : HL K H a (ks.map optV)] : Stp (rInU K false (.int k) (.ref a) H Q) (Q (.bl (decide (some k ∈ ks))) H) := ⟨fun q => o_inL h.h rfl flat_opt (by rw [show V.int k = optV (some k) from rfl, inV_opt]; exact q)⟩
instance z_niO {ks : List (Option Int)} {k : Int} [h : HL K H a (ks.map optV)] : Stp (rInU K true (.int k) (.ref a) H Q) (Q (.bl (!decide (some k ∈ ks))) H) := ⟨fun q => o_niL h.h rfl flat_opt (by rw [show V.int k = optV (some k) from rfl, inV_opt]; exact q)⟩
instance z_inN {ks : List (Option Int)} [h : HL K H a (ks.map optV)] : Stp (rInU K false .non (.ref a) H Q) (Q (.bl (decide (none ∈ ks))) H) := ⟨fun q => o_inL h.h rfl flat_opt (by rw [show V.non = optV none from rfl, inV_opt]; exact q)⟩
class CutC (xs : List V) (lo hi : Option Int) (xs' : outParam (List V)) : Prop where
  e : cutV xs lo hi = xs'
instance (priority := low) cutC {xs : List V} {lo hi : Option Int} : CutC xs lo hi (cutV xs lo hi) := ⟨rfl⟩
instance cutCm {α : Type} {f : α → V} {l : List α} {lo hi : Option Int} : CutC (l.map f) lo hi ((cutL l lo hi).map f) := ⟨cutV_map⟩
instance z_slL {lo hi : Option Int} {xs xs' : List V} [h : HL K H a xs] [c : CutC xs lo hi xs'] : Stp (rSlU K (.ref a) lo hi H Q) (nObj (.lst xs') H Q) := ⟨fun q => o_slL h.h (by rw [c.e]; exact q)⟩
class InsC (xs : List V) (n : Nat) (v : V) (xs' : outParam (List V)) : Prop where
  e : xs.take n ++ v :: xs.drop n = xs'
instance (priority := low) insC {xs : List V} {n : Nat} {v : V} : InsC xs n v (xs.take n ++ v :: xs.drop n) := ⟨rfl⟩
instance insCi {ks : List Int} {n : Nat} {k : Int} : InsC (ks.map V.int) n (.int k) ((ks.take n ++ k :: ks.drop n).map V.int) := ⟨by rw [List.map_append, List.map_take, List.map_cons, List.map_drop]⟩
instance insCr {ks : List Addr} {n : Nat} {k : Addr} : InsC (ks.map V.ref) n (.ref k) ((ks.take n ++ k :: ks.drop n).map V.ref) := ⟨by rw [List.map_append, List.map_take, List.map_cons, List.map_drop]⟩
instance (priority := high) insC0r {ks : List Addr} {k : Addr} : InsC (ks.map V.ref) (Int.toNat 0) (.ref k) ((k :: ks).map V.ref) := ⟨rfl⟩
instance (priority := high) insC0i {ks : List Int} {k : Int} : InsC (ks.map V.int) (Int.toNat 0) (.int k) ((k :: ks).map V.int) := ⟨rfl⟩
instance z_insert {xs xs' : List V} {i : Int} {y : V} {n : Nat} [S : Sy G L H] [h : LA L a (.lst xs)] [l : LenC xs n] [s : InsC xs i.toNat y xs'] [pu : PU a (.lst xs') L L'] : Stp (rInsert (.ref a) [.int i, y] H Q) (Need (n ≤ 100000 ∧ 0 ≤ i ∧ i < 2 ^ 63) ∧ ∀ H', Sy G L' H' → Q .non H') := ⟨fun q =>
  ⟨a, xs, i, y, rfl, rfl, S.at h.m, Nat.lt_of_lt_of_le (Nat.lt_succ_of_le (by rw [l.e]; exact q.1.1)) (show 100001 ≤ sizeLine by decide), q.1.2.1, q.1.2.2, by rw [List.append_assoc, List.singleton_append, s.e]; exact q.2 _ (S.wr pu.p rfl)⟩⟩
end
/-! ### o[:] = v, clear, reversed -/
class InA (L : Lg) (a : Addr) : Prop where
  m : a ∈ L.map (·.1)
instance inA0 {L : Lg} {a : Addr} {φ : HO → Prop} : InA ((a, φ) :: L) a := ⟨List.mem_cons_self ..⟩
instance inAS {L : Lg} {a : Addr} {x : Addr × (HO → Prop)} [h : InA L a] : InA (x :: L) a := ⟨List.mem_cons_of_mem _ h.m⟩
class Apt (G : Hp) (L : Lg) (p q : Addr) : Prop where
  h : ∀ H, Sy G L H → p ≠ q
instance aptG {G : Hp} {L : Lg} {p q : Addr} {o : HO} [h : InA L p] [g : GA G q o] : Apt G L p q := ⟨fun H S e => by
  obtain ⟨x, hx, rfl⟩ := List.mem_map.mp h.m
  have := S.off x hx
  rw [e, g.e] at this; cases this⟩
instance apt1 {G : Hp} {L : Lg} {p q : Addr} {φ : HO → Prop} [h : InA L q] : Apt G ((p, φ) :: L) p q := ⟨fun H S e => (List.nodup_cons.mp S.nd).1 (by rw [e]; exact h.m)⟩
instance apt2 {G : Hp} {L : Lg} {p q : Addr} {φ : HO → Prop} [h : InA L p] : Apt G ((q, φ) :: L) p q := ⟨fun H S e => (List.nodup_cons.mp S.nd).1 (by rw [← e]; exact h.m)⟩
instance apt3 {G : Hp} {L : Lg} {p q : Addr} {x : Addr × (HO → Prop)} [h : Apt G L p q] : Apt G (x :: L) p q := ⟨fun H S => h.h H S.drop⟩
section
variable {K : PySem.W.Frag} {G : Hp} {L L' : Lg} {H : Hp} {Q : VK} {p q a : Addr} {xs ys : List V} {n k : Nat} {P : L2.St → Hp → Prop} {σ : L2.St} {v : V} {to : TE} {R : Hp → Prop}
instance z_gAll : Stp (gAll K to v σ H P) (to σ H fun o H1 => rAll K o v H1 fun H2 => P σ H2) := ⟨id⟩
instance z_rAll [S : Sy G L H] [h : LA L p (.lst xs)] [h' : HL K H q ys] [a : Apt G L p q] [l : LenC xs n] [l' : LenC ys k] [pu : PU p (.lst ys) L L'] : Stp (rAll K (.ref p) (.ref q) H R) (Need (n + k ≤ 100000) ∧ ∀ H', Sy G L' H' → R H') := ⟨fun z =>
  ⟨p, q, xs, ys, rfl, rfl, a.h H S, S.at h.m, h'.h, by rw [l.e, l'.e]; exact z.1, z.2 _ (S.wr pu.p rfl)⟩⟩
instance z_clear [S : Sy G L H] [h : LA L a (.lst xs)] [pu : PU a (.lst []) L L'] : Stp (rClear (.ref a) [] H Q) (∀ H', Sy G L' H' → Q .non H') := ⟨fun z => ⟨a, xs, rfl, rfl, S.at h.m, z _ (S.wr pu.p rfl)⟩⟩
class RevC (xs : List V) (xs' : outParam (List V)) : Prop where
  e : xs.reverse = xs'
instance (priority := low) revC {xs : List V} : RevC xs xs.reverse := ⟨rfl⟩
instance revCm {α : Type} {f : α → V} {l : List α} : RevC (l.map f) (l.reverse.map f) := ⟨List.map_reverse.symm⟩
def nRev (K : PySem.W.Frag) (x : V) (H1 : Hp) (Q : VK) : Prop := ∃ a xs, x = .ref a ∧ SqL K H1 a xs ∧ ∀ p, H1 p = none → Q (.ref p) (upd H1 p (.lst xs.reverse))
instance z_revL {te : TE} : Stp (tRevL K te σ H Q) (te σ H fun x H1 => nRev K x H1 Q) := ⟨id⟩
instance z_rev {xs' : List V} [h : HL K H a xs] [r : RevC xs xs'] : Stp (nRev K (.ref a) H Q) (nObj (.lst xs') H Q) := ⟨fun z => ⟨a, xs, rfl, h.h, by rw [r.e]; exact z⟩⟩
end
/-- a list that stands so as long as the ground and the ledger are so -/
class RdL (G : Hp) (L : Lg) (a : Addr) (xs : outParam (List V)) : Prop where
  h : ∀ H : Hp, Sy G L H → H a = some (.lst xs)
instance rdG {G : Hp} {L : Lg} {a : Addr} {xs : List V} [h : GA G a (.lst xs)] : RdL G L a xs := ⟨fun H S => S.frz _ _ h.e⟩
instance rdA {G : Hp} {L : Lg} {a : Addr} {xs : List V} [h : LA L a (.lst xs)] : RdL G L a xs := ⟨fun H S => S.at h.m⟩
instance (priority := low) rdS {G : Hp} {L : Lg} {a : Addr} {xs : List V} {x : Addr × (HO → Prop)} [h : RdL G L a xs] : RdL G (x :: L) a xs := ⟨fun H S => h.h H S.drop⟩
instance (priority := low) rdM {G G' : Hp} {L : Lg} {a : Addr} {xs : List V} [s : Sm G G'] [h : RdL G L a xs] : RdL G' L a xs := ⟨fun H S => h.h H (S.weak s.s)⟩
instance (priority := low) haR {G : Hp} {L : Lg} {a : Addr} {xs : List V} {H : Hp} [S : Sy G L H] [h : RdL G L a xs] : HA H a (.lst xs) := ⟨h.h H S⟩
theorem RdL.cons {G : Hp} {L : Lg} {a : Addr} {xs : List V} {x : Addr × (HO → Prop)} (h : RdL G L a xs) : RdL G (x :: L) a xs := ⟨fun H S => h.h H S.drop⟩
theorem RdL.ha {G : Hp} {L : Lg} {a : Addr} {xs : List V} {H : Hp} (h : RdL G L a xs) (S : Sy G L H) : HA H a (.lst xs) := ⟨h.h H S⟩
/-! ### loops -/
/-- the slots vs of σ become ws -/
def fillSt (σ : L2.St) : List Nat → List (Option V) → L2.St
  | v :: vs, w :: ws => (fillSt σ vs ws).set v w
  | _, _ => σ
section
variable {K : PySem.W.Frag} {G : Hp} {L : Lg} {H : Hp} {σ : L2.St} {Q : VK} {a : Addr} {g : TG} {tt : TT} {te : TE} {tb : TS} {xs : List V} {lo : Int} {n : Nat} {nx : L2.St → Hp → Prop} {rt : VK} {bk ct : L2.St → Hp → Prop}
/-- a loop over a list: I of the turn, the varying slots, the ground, the ledger -/
theorem w_list (S : Sy G L H) (vs : List Nat) (I : Nat → List (Option V) → Hp → Lg → Prop) (w0 : List (Option V)) (e0 : fillSt σ vs w0 = σ) (h0 : I 0 w0 G L) (hl : ∀ i ws G' L' H', Sm G G' → Sy G' L' H' → I i ws G' L' → HL K H' a xs)
    (hs : ∀ i x ws G' L' H' (N : L2.St → Hp → Prop), xs[i]? = some x → Sm G G' → Sy G' L' H' → I i ws G' L' → (∀ ws2 G2 L2 H2, Sm G' G2 → Sy G2 L2 H2 → I (i + 1) ws2 G2 L2 → N (fillSt σ vs ws2) H2) →
      g x (fillSt σ vs ws) H' fun σ2 H2 => tb ⟨N, rt, nx, N⟩ σ2 H2)
    (hd : ∀ ws G' L' H', Sm G G' → Sy G' L' H' → I xs.length ws G' L' → nx (fillSt σ vs ws) H') : nFor (Itl K a) g tb ⟨nx, rt, bk, ct⟩ σ H := by
  refine f_list (xs := xs) (fun i σ' H' => ∃ ws G' L', σ' = fillSt σ vs ws ∧ Same G G' ∧ Sy G' L' H' ∧ I i ws G' L') ⟨w0, G, L, e0.symm, Same.refl G, S, h0⟩ ?_ ?_ ?_
  · rintro i σ' H' _ ⟨ws, G', L', rfl, s, S', h⟩
    exact (hl i ws G' L' H' ⟨s⟩ S' h).h
  · rintro i x σ' H' hx ⟨ws, G', L', rfl, s, S', h⟩
    exact hs i x ws G' L' H' _ hx ⟨s⟩ S' h fun ws2 G2 L2 H2 s2 S2 h2 => ⟨ws2, G2, L2, rfl, s.trans s2.s, S2, h2⟩
  · rintro σ' H' ⟨ws, G', L', rfl, s, S', h⟩
    exact hd ws G' L' H' ⟨s⟩ S' h
/-- the same over a list of like things -/
theorem w_listm {α : Type} {l : List α} {f : α → V} [h00 : HL K H a (l.map f)] (S : Sy G L H) (vs : List Nat) (I : Nat → List (Option V) → Hp → Lg → Prop) (w0 : List (Option V)) (e0 : fillSt σ vs w0 = σ) (h0 : I 0 w0 G L) (hl : ∀ i ws G' L' H', Sm G G' → Sy G' L' H' → I i ws G' L' → HL K H' a (l.map f))
    (hs : ∀ i x ws G' L' H' (N : L2.St → Hp → Prop), l[i]? = some x → Sm G G' → Sy G' L' H' → I i ws G' L' → (∀ ws2 G2 L2 H2, Sm G' G2 → Sy G2 L2 H2 → I (i + 1) ws2 G2 L2 → N (fillSt σ vs ws2) H2) →
      g (f x) (fillSt σ vs ws) H' fun σ2 H2 => tb ⟨N, rt, nx, N⟩ σ2 H2)
    (hd : ∀ ws G' L' H', Sm G G' → Sy G' L' H' → I l.length ws G' L' → nx (fillSt σ vs ws) H') : nFor (Itl K a) g tb ⟨nx, rt, bk, ct⟩ σ H := by
  refine w_list (xs := l.map f) S vs I w0 e0 h0 hl (fun i x ws G' L' H' N hx s S' h next => ?_) (fun ws G' L' H' s S' h => hd ws G' L' H' s S' (by rw [List.length_map] at h; exact h))
  rw [List.getElem?_map] at hx
  cases hy : l[i]? with
  | none => rw [hy] at hx; cases hx
  | some y => rw [hy] at hx; cases hx; exact hs i y ws G' L' H' N hy s S' h next
theorem w_range (S : Sy G L H) (vs : List Nat) (I : Nat → List (Option V) → Hp → Lg → Prop) (w0 : List (Option V)) (e0 : fillSt σ vs w0 = σ) (h0 : I 0 w0 G L)
    (hs : ∀ i ws G' L' H' (N : L2.St → Hp → Prop), i < n → Sm G G' → Sy G' L' H' → I i ws G' L' → (∀ ws2 G2 L2 H2, Sm G' G2 → Sy G2 L2 H2 → I (i + 1) ws2 G2 L2 → N (fillSt σ vs ws2) H2) →
      g (.int (lo + i)) (fillSt σ vs ws) H' fun σ2 H2 => tb ⟨N, rt, nx, N⟩ σ2 H2)
    (hd : ∀ ws G' L' H', Sm G G' → Sy G' L' H' → I n ws G' L' → nx (fillSt σ vs ws) H') : nFor (Itr lo n) g tb ⟨nx, rt, bk, ct⟩ σ H := by
  refine f_range (fun i σ' H' => ∃ ws G' L', σ' = fillSt σ vs ws ∧ Same G G' ∧ Sy G' L' H' ∧ I i ws G' L') ⟨w0, G, L, e0.symm, Same.refl G, S, h0⟩ ?_ ?_
  · rintro i σ' H' hi ⟨ws, G', L', rfl, s, S', h⟩
    exact hs i ws G' L' H' _ hi ⟨s⟩ S' h fun ws2 G2 L2 H2 s2 S2 h2 => ⟨ws2, G2, L2, rfl, s.trans s2.s, S2, h2⟩
  · rintro σ' H' ⟨ws, G', L', rfl, s, S', h⟩
    exact hd ws G' L' H' ⟨s⟩ S' h
theorem w_range0 (S : Sy G L H) (vs : List Nat) (I : Nat → List (Option V) → Hp → Lg → Prop) (w0 : List (Option V)) (e0 : fillSt σ vs w0 = σ) (h0 : I 0 w0 G L)
    (hs : ∀ (i : Nat) ws G' L' H' (N : L2.St → Hp → Prop), i < n → Sm G G' → Sy G' L' H' → I i ws G' L' → (∀ ws2 G2 L2 H2, Sm G' G2 → Sy G2 L2 H2 → I (i + 1) ws2 G2 L2 → N (fillSt σ vs ws2) H2) →
      g (.int (i : Int)) (fillSt σ vs ws) H' fun σ2 H2 => tb ⟨N, rt, nx, N⟩ σ2 H2)
    (hd : ∀ ws G' L' H', Sm G G' → Sy G' L' H' → I n ws G' L' → nx (fillSt σ vs ws) H') : nFor (Itr 0 n) g tb ⟨nx, rt, bk, ct⟩ σ H :=
  w_range S vs I w0 e0 h0 (fun i ws G' L' H' N hi s S' h k => by rw [Int.zero_add]; exact hs i ws G' L' H' N hi s S' h k) hd
/-- a statement, then the rest: what holds between is said once -/
theorem w_seq {t u : TS} (S : Sy G L H) (vs : List Nat) (I : List (Option V) → Hp → Lg → Prop) (h1 : ∀ N : L2.St → Hp → Prop, (∀ ws G' L' H', Sm G G' → Sy G' L' H' → I ws G' L' → N (fillSt σ vs ws) H') → t ⟨N, rt, bk, ct⟩ σ H)
    (h2 : ∀ ws G' L' H', Sm G G' → Sy G' L' H' → I ws G' L' → u ⟨nx, rt, bk, ct⟩ (fillSt σ vs ws) H') : tSeq t u ⟨nx, rt, bk, ct⟩ σ H := h1 (u ⟨nx, rt, bk, ct⟩) h2
/-- two branches of an if meet again: what holds behind both is said once -/
theorem i_join {c : Bool} {t u : TS} {N0 : L2.St → Hp → Prop} (S : Sy G L H) (vs : List Nat) (I : List (Option V) → Hp → Lg → Prop)
    (h : ∀ N : L2.St → Hp → Prop, (∀ ws G' L' H', Sm G G' → Sy G' L' H' → I ws G' L' → N (fillSt σ vs ws) H') → if c = true then t ⟨N, rt, bk, ct⟩ σ H else u ⟨N, rt, bk, ct⟩ σ H)
    (hN : ∀ ws G' L' H', Sm G G' → Sy G' L' H' → I ws G' L' → N0 (fillSt σ vs ws) H') : if c = true then t ⟨N0, rt, bk, ct⟩ σ H else u ⟨N0, rt, bk, ct⟩ σ H := h N0 hN
/-- one of two values -/
theorem if_val {c : Bool} {x y : V} {Q : VK} (P : V → Prop) (hx : c = false → P x) (hy : c = true → P y) (h : ∀ v, P v → Q v H) : if c = true then Q y H else Q x H := by
  cases c
  · rw [if_neg Bool.false_ne_true]; exact h _ (hx rfl)
  · rw [if_pos rfl]; exact h _ (hy rfl)
/-- the same for a value: what is known of it -/
theorem w_val {t : VK → Prop} {Q : VK} (I : V → Hp → Prop) (h1 : ∀ N : VK, (∀ v H', I v H' → N v H') → t N) (h2 : ∀ v H', I v H' → Q v H') : t Q := h1 Q h2
/-- for i, x in enumerate(l) -/
theorem w_enum {α : Type} {l : List α} {f : α → V} [h00 : HL K H a (l.map f)] (S : Sy G L H) (vs : List Nat) (I : Nat → List (Option V) → Hp → Lg → Prop) (w0 : List (Option V)) (e0 : fillSt σ vs w0 = σ) (h0 : I 0 w0 G L) (hl : ∀ i ws G' L' H', Sm G G' → Sy G' L' H' → I i ws G' L' → HL K H' a (l.map f))
    (hs : ∀ (i : Nat) x ws G' L' H' T (N : L2.St → Hp → Prop), l[i]? = some x → Sm G G' → GA G' T (.tup [.int i, f x]) → Sy G' L' H' → I i ws G' L' → (∀ ws2 G2 L2 H2, Sm G' G2 → Sy G2 L2 H2 → I (i + 1) ws2 G2 L2 → N (fillSt σ vs ws2) H2) →
      g (.ref T) (fillSt σ vs ws) H' fun σ2 H2 => tb ⟨N, rt, nx, N⟩ σ2 H2)
    (hm : ∀ i ws G1 G2 L', Sm G1 G2 → I i ws G1 L' → I i ws G2 L')
    (hd : ∀ ws G' L' H', Sm G G' → Sy G' L' H' → I l.length ws G' L' → nx (fillSt σ vs ws) H') : nFor (Ite K a) g tb ⟨nx, rt, bk, ct⟩ σ H := by
  let Pv : Nat → L2.St → Hp → Prop := fun i σ' H' => ∃ ws G' L', σ' = fillSt σ vs ws ∧ Same G G' ∧ Sy G' L' H' ∧ I i ws G' L'
  refine ⟨fun i m σ' H' => m = l.length - i ∧ i ≤ l.length ∧ Pv i σ' H', ⟨l.length, by simp, Nat.zero_le _, w0, G, L, e0.symm, Same.refl G, S, h0⟩, ?_⟩
  rintro i m σ' H' ⟨rfl, hi, ws, G', L', rfl, s, S', h⟩
  have q := (hl i ws G' L' H' ⟨s⟩ S' h).h
  by_cases hlt : i < l.length
  · refine .inr ⟨⟨l.map f, f l[i], q, by rw [List.getElem?_map, List.getElem?_eq_getElem hlt]; rfl⟩, Pv (i + 1), fun σ' H' p' => ⟨l.length - (i + 1), by omega, rfl, hlt, p'⟩, fun v H2 y => ?_⟩
    obtain ⟨T, x, rfl, hT, rfl, hx⟩ := y
    have hx := hx _ q
    rw [List.getElem?_map, List.getElem?_eq_getElem hlt] at hx
    cases hx
    have s2 : Sm G' (upd G' T (.tup [.int (i : Nat), f l[i]])) := ⟨same_new (S'.gnone hT)⟩
    exact hs i l[i] ws _ L' _ T _ (List.getElem?_eq_getElem hlt) ⟨s.trans s2.s⟩ ⟨upd_same⟩ (S'.newF hT) (hm _ _ _ _ _ s2 h) fun ws2 G3 L3 H3 s3 S3 h3 => ⟨ws2, G3, L3, rfl, (s.trans s2.s).trans s3.s, S3, h3⟩
  · have e : i = l.length := by omega
    subst e
    exact .inl ⟨⟨l.map f, q, by rw [List.length_map]; exact Nat.le_refl _⟩, hd ws G' L' H' ⟨s⟩ S' h⟩
/-- [f(x) for x in l if c(x)], nothing is changed by f and c -/
theorem w_mapm {α β : Type} {l : List α} {f0 : α → V} (f1 : β → V) (c : α → Bool) (f : α → β) (S : Sy G L H) (hl : ∀ G' H' L', Sm G G' → Sy G' L' H' → LSub L L' → HL K H' a (l.map f0)) (hz : l.length ≤ 100000) {vs : List Nat}
    (hs : ∀ x G' L' H' (P : V → Hp → Prop) (N : Hp → Prop), x ∈ l → Sm G G' → Sy G' L' H' → LSub L L' → (∀ G'' H'', Sm G' G'' → c x = true → Sy G'' L' H'' → P (f1 (f x)) H'') → (∀ G'' H'', Sm G' G'' → c x = false → Sy G'' L' H'' → N H'') →
      g (f0 x) (wipe σ vs) H' fun σ2 H2 => wipe σ2 vs = wipe σ vs ∧ tt σ2 H2 fun b H3 => if b = true then te σ2 H3 P else N H3)
    (hd : ∀ D G' H', Sm G G' → Sy G' ((D, Is (.lst (((l.filter c).map f).map f1))) :: L) H' → Q (.ref D) H') : nLc (Itl K a) g tt te vs σ H Q := by
  refine lc_sy (K := K) (xs := l.map f0) S (fun G' H' acc D s S' => (hl G' H' _ ⟨s⟩ S' ⟨List.subset_cons_self ..⟩).h) (fun i acc G' => acc = (((l.take i).filter c).map f).map f1) rfl (by rw [List.length_map]; exact hz) ?_ ?_
  · rintro i x acc D G' H' P N hx s S' rfl kP kN
    rw [List.getElem?_map] at hx
    cases hy : l[i]? with
    | none => rw [hy] at hx; cases hx
    | some y =>
      rw [hy] at hx; cases hx
      have hm := List.mem_of_getElem? hy
      have ht : l.take (i + 1) = l.take i ++ [y] := by rw [List.take_add_one, hy]; rfl
      refine hs y G' _ H' P N hm ⟨s⟩ S' ⟨List.subset_cons_self ..⟩ (fun G'' H'' s2 hc S2 => kP _ G'' H'' s2.s S2 ?_) fun G'' H'' s2 hc S2 => kN G'' H'' s2.s S2 ?_
      · rw [ht, List.filter_append, List.map_append, List.map_append, List.filter_cons_of_pos hc]; rfl
      · rw [ht, List.filter_append, List.filter_cons_of_neg (by rw [hc]; exact Bool.false_ne_true), List.filter_nil, List.append_nil]
  · rintro D acc G' H' s S' rfl _
    rw [List.length_map, List.take_length] at S'
    exact hd D G' H' ⟨s⟩ S'
/-- [f(x) for x in l] -/
theorem w_mapa {α β : Type} {l : List α} {f0 : α → V} (f1 : β → V) (f : α → β) (S : Sy G L H) (hl : ∀ G' H' L', Sm G G' → Sy G' L' H' → LSub L L' → HL K H' a (l.map f0)) (hz : l.length ≤ 100000) {vs : List Nat}
    (hs : ∀ x G' L' H' (P : V → Hp → Prop) (N : Hp → Prop), x ∈ l → Sm G G' → Sy G' L' H' → LSub L L' → (∀ G'' H'', Sm G' G'' → Sy G'' L' H'' → P (f1 (f x)) H'') →
      g (f0 x) (wipe σ vs) H' fun σ2 H2 => wipe σ2 vs = wipe σ vs ∧ tt σ2 H2 fun b H3 => if b = true then te σ2 H3 P else N H3)
    (hd : ∀ D G' H', Sm G G' → Sy G' ((D, Is (.lst ((l.map f).map f1))) :: L) H' → Q (.ref D) H') : nLc (Itl K a) g tt te vs σ H Q := by
  refine w_mapm f1 (fun _ => true) f S hl hz (fun x G' L' H' P N hx s S' ls kP kN => hs x G' L' H' P N hx s S' ls fun G'' H'' s2 S2 => kP G'' H'' s2 rfl S2) ?_
  rw [List.filter_eq_self.mpr (fun _ _ => rfl)]; exact hd
theorem w_mapR {β : Type} (f1 : β → V) (c : Int → Bool) (f : Int → β) (S : Sy G L H) (hz : n ≤ 100000) {vs : List Nat}
    (hs : ∀ (i : Nat) G' L' H' (P : V → Hp → Prop) (N : Hp → Prop), i < n → Sm G G' → Sy G' L' H' → LSub L L' → (∀ G'' H'', Sm G' G'' → c (lo + i) = true → Sy G'' L' H'' → P (f1 (f (lo + i))) H'') → (∀ G'' H'', Sm G' G'' → c (lo + i) = false → Sy G'' L' H'' → N H'') →
      g (.int (lo + i)) (wipe σ vs) H' fun σ2 H2 => wipe σ2 vs = wipe σ vs ∧ tt σ2 H2 fun b H3 => if b = true then te σ2 H3 P else N H3)
    (hd : ∀ D G' H', Sm G G' → Sy G' ((D, Is (.lst (((((List.range n).map fun (i : Nat) => lo + (i : Int)).filter c).map f).map f1))) :: L) H' → Q (.ref D) H') : nLc (Itr lo n) g tt te vs σ H Q := by
  refine lc_rng S (fun i acc G' => acc = (((((List.range i).map fun (i : Nat) => lo + (i : Int)).filter c).map f).map f1)) rfl hz ?_ ?_
  · rintro i acc D G' H' P N hi s S' rfl kP kN
    have ht : (List.range (i + 1)).map (fun (i : Nat) => lo + (i : Int)) = (List.range i).map (fun (i : Nat) => lo + (i : Int)) ++ [lo + (i : Int)] := by rw [List.range_succ, List.map_append]; rfl
    refine hs i G' _ H' P N hi ⟨s⟩ S' ⟨List.subset_cons_self ..⟩ (fun G'' H'' s2 hc S2 => kP _ G'' H'' s2.s S2 ?_) fun G'' H'' s2 hc S2 => kN G'' H'' s2.s S2 ?_
    · rw [ht, List.filter_append, List.map_append, List.map_append, List.filter_cons_of_pos hc]; rfl
    · rw [ht, List.filter_append, List.filter_cons_of_neg (by rw [hc]; exact Bool.false_ne_true), List.filter_nil, List.append_nil]
  · rintro D acc G' H' s S' rfl _
    exact hd D G' H' ⟨s⟩ S'
theorem w_mapR0 {β : Type} (f1 : β → V) (c : Nat → Bool) (f : Nat → β) (S : Sy G L H) (hz : n ≤ 100000) {vs : List Nat}
    (hs : ∀ (i : Nat) G' L' H' (P : V → Hp → Prop) (N : Hp → Prop), i < n → Sm G G' → Sy G' L' H' → LSub L L' → (∀ G'' H'', Sm G' G'' → c i = true → Sy G'' L' H'' → P (f1 (f i)) H'') → (∀ G'' H'', Sm G' G'' → c i = false → Sy G'' L' H'' → N H'') →
      g (.int (i : Int)) (wipe σ vs) H' fun σ2 H2 => wipe σ2 vs = wipe σ vs ∧ tt σ2 H2 fun b H3 => if b = true then te σ2 H3 P else N H3)
    (hd : ∀ D G' H', Sm G G' → Sy G' ((D, Is (.lst ((((List.range n).filter c).map f).map f1))) :: L) H' → Q (.ref D) H') : nLc (Itr 0 n) g tt te vs σ H Q := by
  refine lc_rng S (fun i acc G' => acc = ((((List.range i).filter c).map f).map f1)) rfl hz ?_ ?_
  · rintro i acc D G' H' P N hi s S' rfl kP kN
    rw [Int.zero_add]
    refine hs i G' _ H' P N hi ⟨s⟩ S' ⟨List.subset_cons_self ..⟩ (fun G'' H'' s2 hc S2 => kP _ G'' H'' s2.s S2 ?_) fun G'' H'' s2 hc S2 => kN G'' H'' s2.s S2 ?_
    · rw [List.range_succ, List.filter_append, List.map_append, List.map_append, List.filter_cons_of_pos hc]; rfl
    · rw [List.range_succ, List.filter_append, List.filter_cons_of_neg (by rw [hc]; exact Bool.false_ne_true), List.filter_nil, List.append_nil]
  · rintro D acc G' H' s S' rfl _
    exact hd D G' H' ⟨s⟩ S'
/-- [f() for i in range(n)], whatever f does -/
theorem w_rngc (S : Sy G L H) (I : Nat → List V → Hp → Prop) (h0 : I 0 [] G) (hz : n ≤ 100000) {vs : List Nat}
    (hs : ∀ (i : Nat) acc D G' H' (P : V → Hp → Prop) (N : Hp → Prop), i < n → Sm G G' → Sy G' ((D, Is (.lst acc)) :: L) H' → I i acc G' → (∀ y G'' H'', Sm G' G'' → Sy G'' ((D, Is (.lst acc)) :: L) H'' → I (i + 1) (acc ++ [y]) G'' → P y H'') → (∀ G'' H'', Sm G' G'' → Sy G'' ((D, Is (.lst acc)) :: L) H'' → I (i + 1) acc G'' → N H'') →
      g (.int (lo + i)) (wipe σ vs) H' fun σ2 H2 => wipe σ2 vs = wipe σ vs ∧ tt σ2 H2 fun b H3 => if b = true then te σ2 H3 P else N H3)
    (hd : ∀ D acc G' H', Sm G G' → Sy G' ((D, Is (.lst acc)) :: L) H' → I n acc G' → Q (.ref D) H') : nLc (Itr lo n) g tt te vs σ H Q :=
  lc_rng S I h0 hz (fun i acc D G' H' P N hi s S' hI kP kN => hs i acc D G' H' P N hi ⟨s⟩ S' hI (fun y G'' H'' s2 => kP y G'' H'' s2.s) fun G'' H'' s2 => kN G'' H'' s2.s) fun D acc G' H' s S' hI _ => hd D acc G' H' ⟨s⟩ S' hI
/-- [f(x) for x in l], whatever f does -/
theorem w_lstc {α : Type} {l : List α} {f0 : α → V} (S : Sy G L H) (hl : ∀ G' H' L', Sm G G' → Sy G' L' H' → LSub L L' → HL K H' a (l.map f0)) (I : Nat → List V → Hp → Prop) (h0 : I 0 [] G) (hz : l.length ≤ 100000) {vs : List Nat}
    (hs : ∀ (i : Nat) x acc D G' H' (P : V → Hp → Prop) (N : Hp → Prop), l[i]? = some x → Sm G G' → Sy G' ((D, Is (.lst acc)) :: L) H' → I i acc G' → (∀ y G'' H'', Sm G' G'' → Sy G'' ((D, Is (.lst acc)) :: L) H'' → I (i + 1) (acc ++ [y]) G'' → P y H'') → (∀ G'' H'', Sm G' G'' → Sy G'' ((D, Is (.lst acc)) :: L) H'' → I (i + 1) acc G'' → N H'') →
      g (f0 x) (wipe σ vs) H' fun σ2 H2 => wipe σ2 vs = wipe σ vs ∧ tt σ2 H2 fun b H3 => if b = true then te σ2 H3 P else N H3)
    (hd : ∀ D acc G' H', Sm G G' → Sy G' ((D, Is (.lst acc)) :: L) H' → I l.length acc G' → Q (.ref D) H') : nLc (Itl K a) g tt te vs σ H Q := by
  refine lc_sy (K := K) (xs := l.map f0) S (fun G' H' acc D s S' => (hl G' H' _ ⟨s⟩ S' ⟨List.subset_cons_self ..⟩).h) I h0 (by rw [List.length_map]; exact hz) ?_ fun D acc G' H' s S' hI _ => hd D acc G' H' ⟨s⟩ S' (by rw [List.length_map] at hI; exact hI)
  rintro i x acc D G' H' P N hx s S' hI kP kN
  rw [List.getElem?_map] at hx
  cases hy : l[i]? with
  | none => rw [hy] at hx; cases hx
  | some y =>
    rw [hy] at hx; cases hx
    exact hs i y acc D G' H' P N hy ⟨s⟩ S' hI (fun y G'' H'' s2 => kP y G'' H'' s2.s) fun G'' H'' s2 => kN G'' H'' s2.s
end
def okN (n : Int) : Prop := 0 ≤ n ∧ n ≤ 1000000000000000000
instance {n : Int} : Decidable (okN n) := by unfold okN; infer_instance
theorem memN {ks : List Int} {k : Int} {n : Nat} (e : ks[n]? = some k) (h : ∀ k ∈ ks, okN k) : okN k := h k (List.mem_of_getElem? e)
end Hw





/-! HwZ: what the laws with plans as tuples ask more. -/
namespace Hw
open PySem PySem.Spec PyProof.Rows L2
/-- the pair that a thing tells -/
def pairOf (H : Hp) (v : V) : Int × Int := match v with
  | .ref t => match H t with
    | some (.tup [.int i, .int j]) => (i, j)
    | _ => (0, 0)
  | _ => (0, 0)
/-- l.count(x), plain data -/
def rCntD (K : PySem.W.Frag) : V → List V → Hp → VK → Prop := fun l args H Q => ∃ (a : Addr) (y : V) (d : PyData) (ds : List PyData), l = .ref a ∧ args = [y] ∧ Dp K H (.ref a) (.list ds) ∧ Dp K H y d ∧
  PyData.plainAll ds = true ∧ d.plain = true ∧ d.depth ≤ 60 ∧ Q (.int ((ds.countP fun z => PyData.eqv z d : Nat) : Int)) H
theorem mt_countD {X : Cx} (hu : X.A.units + 65 < cLine) : MtR X "list.count" (rCntD X.K) := by
  rintro pins st fr hp l args lv av post inv rl ra ⟨a, y, d, ds, rfl, rfl, hdl, hdy, p1, p2, p3, fin⟩
  obtain ⟨yv, rfl, ry⟩ := ra.one
  obtain ⟨_, ryd⟩ := Dp.reads inv d y yv hdy ry
  cases rl
  cases hdl with
  | lst hseq hall =>
    obtain ⟨its, rits, isl, _⟩ := inv.list hseq
    obtain ⟨_, rall⟩ := Dp.readsAll inv ds _ its hall rits
    exact PySem.SeqAt.count_list_data (vs := its.toArray) isl.isList rall ryd p1 p2 (by omega) ⟨.int ((ds.countP fun z => PyData.eqv z d : Nat) : Int), _, inv.tok _, ⟨st.toks, rfl⟩, fin⟩
/-- what the clauses, each with a name's slot or none, wish of an exception of the body, one after the other -/
def wManyA (K : PySem.W.Frag) (Wout : WX) (D : Ends) : List (Value × Option Nat × (Addr → Value → Option Addr → TS)) → WX
  | [] => Wout
  | (c, none, ts) :: r => fun cls d σ H => ∃ b, PySem.W.exmOne K cls c = some b ∧ (b = true → ∀ a, H a = none → ts a cls d D σ H) ∧ (b = false → wManyA K Wout D r cls d σ H)
  | (c, some i, ts) :: r => fun cls d σ H => ∃ b, PySem.W.exmOne K cls c = some b ∧
      (b = true → ∀ a, H a = none → ts a cls d { nx := fun σ' H' => D.nx (σ'.set i none) H', rt := D.rt, bk := fun σ' H' => D.bk (σ'.set i none) H', ct := fun σ' H' => D.ct (σ'.set i none) H' } (σ.set i (some (.ref a))) H) ∧ (b = false → wManyA K Wout D r cls d σ H)
inductive HdsA (X : Cx) : List ExceptHandler → List (Value × Option Nat × (Addr → Value → Option Addr → TS)) → Prop
  | nil : HdsA X [] []
  | no {x : Str} {c : Value} {ts : Addr → Value → Option Addr → TS} {b₀ : Stmt} {suite : List Stmt} {np pos' : Pos} {hds : List ExceptHandler} {l : List (Value × Option Nat × (Addr → Value → Option Addr → TS))} (hc : Names X x c)
      (hsu : ∀ (a : Addr) (oe : Obj) (cls : Value) (d : Option Addr) (pn : List (Addr × Obj)), Zc cls d oe → (∃ vs, oe.data = .fields vs) → PSs (X.suite a ((a, oe) :: pn)) (b₀ :: suite) (ts a cls d)) (r : HdsA X hds l) :
      HdsA X (.ExceptHandler (some (.Name x np)) none (b₀ :: suite) pos' :: hds) ((c, none, ts) :: l)
  | as {x n : Str} {c : Value} {i : Nat} {ts : Addr → Value → Option Addr → TS} {b₀ : Stmt} {suite : List Stmt} {np pos' : Pos} {hds : List ExceptHandler} {l : List (Value × Option Nat × (Addr → Value → Option Addr → TS))} (hN : X.N.Nodup) (hi : X.N[i]? = some n) (hln : X.env.kindOf n = some .local) (hc : Names X x c)
      (hsu : ∀ (a : Addr) (oe : Obj) (cls : Value) (d : Option Addr) (pn : List (Addr × Obj)), Zc cls d oe → (∃ vs, oe.data = .fields vs) → PSs (X.suite a ((a, oe) :: pn)) (b₀ :: suite) (ts a cls d)) (r : HdsA X hds l) :
      HdsA X (.ExceptHandler (some (.Name x np)) (some n) (b₀ :: suite) pos' :: hds) ((c, some i, ts) :: l)
section
variable {X : Cx} {body : List Stmt} {h₀ : ExceptHandler} {hds : List ExceptHandler} {l : List (Value × Option Nat × (Addr → Value → Option Addr → TS))} {pos : Pos} {tb : WX → TS} {Wout : WX}
/-- try, several clauses: the exception, landed, is held against one clause after another -/
theorem ps_try_manyA (hst : X.stack = X.env :: X.outer) (hlo : X.env.frame = some X.env.locals) (tk : Takes X Wout)
    (hb : ∀ (W : WX) (pn : List (Addr × Obj)) (xe : Value → Shared → Prop), Takes (X.tr pn xe) W → PassesOwn (model X.prog X.w) X.A X.env xe → PSs (X.tr pn xe) body (tb W))
    (cl : HdsA X (h₀ :: hds) l) : PS X (.Try body (h₀ :: hds) [] [] pos) (fun D σ H => tb (wManyA X.K Wout D l) D σ H) := by
  constructor
  intro keep st0 fr0 hp0 D inv0 wish
  have okx := inv0.ok
  have frs0 : X.A.frames = some (X.env :: X.outer) := okx.frames.trans (by rw [hst])
  have run0 := (hb (wManyA X.K Wout D l) (X.pn ++ keep) (fun e st1 => wpAny (model X.prog X.w) X.A (noteFrame e X.env) (fun _ st2 => wpAny (model X.prog X.w) X.A (setFlight e none)
    (fun _ st3 => wpAny (model X.prog X.w) X.A (handleBy e X.env (h₀ :: hds)) (SP X keep D) X.xe st3) X.xe st2) X.xe st1) (fun e st1 flown => ?caught) PassesOwn.looking).run [] st0 fr0 hp0 D (inv0.toTry _) wish
  case caught =>
    obtain ⟨x, B, stI, _, fr, hp, cls, d, rfl, invT, nb, up, sky, free, os, ag, w⟩ := flown
    have inv : Inv X keep fr hp stI := invT.ofTry okx
    show wpAny (model X.prog X.w) X.A (noteFrame (.ref x) X.env) _ _ _
    refine Sky.land Zc.steady frs0 hlo (by rw [← hst]; exact sky) fun heap1 fly1 up1 => ?_
    -- what stands in any landing of the exception
    have land : ∀ {hh : Heap}, HandSPX.FlyingZ B (X.env :: X.outer) x (Zc cls d) hh → st1.heap.UpToSlots hh → Inv X keep fr hp { st1 with heap := hh } := fun fly u => inv.landed nb fly.1 (up.trans u) os ag
    obtain ⟨ob1, _, at1, z1, dat1⟩ := fly1.there
    have inFrames : x ∉ frs (X.env :: X.outer) := fun m => by
      obtain ⟨_, ob, at2, noF⟩ := fly1.2.2.1.mem m
      cases at1.symm.trans at2
      exact noF _ dat1
    have notLoc : x ≠ X.env.locals := fun e => inFrames (List.mem_filterMap.mpr ⟨_, List.mem_cons_self, hlo.trans (congrArg some e.symm)⟩)
    have notOut : x ∉ X.fs := fun m => by
      obtain ⟨en, hen, q⟩ := List.mem_filterMap.mp m
      exact inFrames (List.mem_filterMap.mpr ⟨en, List.mem_cons_of_mem _ hen, q⟩)
    have inSuite := (land fly1 up1).suite at1 dat1 free notLoc notOut
    have looks : PySem.W.Looks (model X.prog X.w) heap1 (typeOf (.ref x)) cls := fun _ _ _ _ g q => wpAny_typeOf_ref (g _ _ at1) (by rw [z1.1]; exact q)
    have named : ∀ {nm : Str} {c : Value} {np : Pos}, Names X nm c → ∀ {Q : Value → Shared → Prop} {E : Value → Shared → Prop}, Q c { st1 with heap := heap1 } →
        wpAny (model X.prog X.w) (X.A.mark (some (.ref x))) (eval (.Name nm np) X.env) Q E { st1 with heap := heap1 } := fun ⟨gl, dbg, how⟩ _ _ q => by
      rcases how with m | ⟨m, bt, ne⟩
      · exact ld_glob (X := X.suite x ((x, ob1) :: (X.pn ++ keep))) inSuite gl m q dbg
      · exact ld_blt (X := X.suite x ((x, ob1) :: (X.pn ++ keep))) inSuite gl m bt q ne dbg
    clear wish
    revert w
    generalize h₀ :: hds = hall at cl ⊢
    induction cl with
    | nil =>
      intro w
      apply wpAny_handleBy_nil
      obtain ⟨_, _, _, ob, vs, T, oT, tk2, at2, z2, dat2, f1, fr1⟩ := id fly1
      unfold PySem.passOn
      apply wpAny_bind
      refine wpAny_field at2 dat2 f1 ?_
      rw [if_neg (by simp : ¬ (Value.ref T == Value.none) = true)]
      have out : wpAny (model X.prog X.w) X.A (setFlight (.ref x) X.env.frame) (fun _ st4 => wpAny (model X.prog X.w) X.A (throw (.ref x) : Sem Flow) (SP X keep D) X.xe st4) X.xe { st1 with heap := heap1 } := by
        rw [hlo]
        exact HandSPX.setFlight_upZ fly1 fun _ held u => wpAny_throw (tk _ _ ⟨x, B, stI, keep, fr, hp, cls, d, rfl, inv, nb, (up.trans up1).trans u, .inr (.inr (by rw [hst]; exact held)), free, os, ag, w⟩)
      first | exact wpAny_bind (wpAny_pure (wpAny_bind out)) | exact wpAny_bind out
    | @no nm c ts b₀ suite np pos' more l2 hc hsu r ih =>
      rintro ⟨b, is, yes, no⟩
      refine wpAny_handleBy_cons (codeAny_handlers_test (named hc ((PySem.W.exm_one (M := model X.prog X.w) (land fly1 up1).kIn looks is).here ?_))) (fun q => nomatch q)
      cases b with
      | false => exact ih (no rfl)
      | true =>
        apply codeAny_handlers_suite
        refine HandSPX.lands_againZ fly1 fun heap2 fly2 up2 => ?_
        have inv2 := land fly2 (up1.trans up2)
        obtain ⟨ob2, _, at2, z2, dat2⟩ := fly2.there
        refine wpAny_mono ((hsu x ob2 cls d (X.pn ++ keep) z2 ⟨_, dat2⟩).run [] _ _ hp _ (inv2.suite at2 dat2 free notLoc notOut) (yes rfl x free)) (fun f st5 how => ?_) (fun _ _ z => z.elim)
        cases f with
        | ret u => obtain ⟨v5, fr5, hp5, i5, r5, q5⟩ := how; exact ⟨_, _, _, i5.unsuite okx, r5, q5⟩
        | _ => obtain ⟨fr5, hp5, i5, q5⟩ := how; exact ⟨_, _, i5.unsuite okx, q5⟩
    | @as nm n c i ts b₀ suite np pos' more l2 hN hi hln hc hsu r ih =>
      rintro ⟨b, is, yes, no⟩
      refine wpAny_handleBy_cons (codeAny_handlers_test (named hc ((PySem.W.exm_one (M := model X.prog X.w) (land fly1 up1).kIn looks is).here ?_))) (fun q => nomatch q)
      cases b with
      | false => exact ih (no rfl)
      | true =>
        apply codeAny_handlers_suite_as
        refine HandSPX.lands_againZ fly1 fun heap2 fly2 up2 => ?_
        have inv2 := land fly2 (up1.trans up2)
        obtain ⟨ob2, _, at2, z2, dat2⟩ := fly2.there
        refine store_ok (X := X.suite x ((x, ob2) :: (X.pn ++ keep))) (v := .ref x) (inv2.suite at2 dat2 free notLoc notOut) hN hi (.inl hln) rfl (fun st4 i4 => ?_) (.inr hln)
        refine wpAny_mono ((hsu x ob2 cls d (X.pn ++ keep) z2 ⟨_, dat2⟩).run [] st4 _ hp _ i4 (yes rfl x free)) (fun f st5 how => ?_) (fun _ _ z => z.elim)
        cases f with
        | ret u => obtain ⟨v5, fr5, hp5, i5, r5, q5⟩ := how; exact gone_ok (i5.unsuite okx) hN hi hln fun _ i6 => ⟨_, _, _, i6, r5, q5⟩
        | _ => obtain ⟨fr5, hp5, i5, q5⟩ := how; exact gone_ok (i5.unsuite okx) hN hi hln fun _ i6 => ⟨_, _, i6, q5⟩
  refine wpAny_Try_except (wpAny_mono run0 (fun f st1 how => ?_) fun _ _ z => z)
  cases f with
  | next => obtain ⟨fr1, hp1, i1, q1⟩ := how; exact wpAny_execs_nil ⟨fr1, hp1, i1.ofTry okx, q1⟩
  | ret u => obtain ⟨v1, fr1, hp1, i1, r1, q1⟩ := how; exact ⟨v1, fr1, hp1, i1.ofTry okx, r1, q1⟩
  | _ => obtain ⟨fr1, hp1, i1, q1⟩ := how; exact ⟨fr1, hp1, i1.ofTry okx, q1⟩
end
/-- try with several clauses -/
def tTryMany (K : PySem.W.Frag) (l : List (Value × Option Nat × (Addr → Value → Option Addr → TS))) (Wout : WX) (tb : WX → TS) : TS := fun D σ H => tb (wManyA K Wout D l) D σ H
section
variable {K : PySem.W.Frag} {mg : Str → Option Value} {l : List (Value × Option Nat × (Addr → Value → Option Addr → TS))} {Wout : WX} {tb : WX → TS} {D : Ends} {σ : L2.St} {H : Hp} {xn : Str} {c : Value} {i : Nat} {ts : Addr → Value → Option Addr → TS} {d : Option Addr}
instance z_tryMany : Stp (tTryMany K l Wout tb D σ H) (tb (wManyA K Wout D l) D σ H) := ⟨id⟩
instance z_wmNil {cls : Value} : Stp (wManyA K Wout D [] cls d σ H) (Wout cls d σ H) := ⟨id⟩
instance z_wmNo {o : Option Nat} [k : XE K mg xn c false] : Stp (wManyA K Wout D ((c, o, ts) :: l) (.ref (clsA mg xn)) d σ H) (wManyA K Wout D l (.ref (clsA mg xn)) d σ H) := ⟨fun q => by
  cases o with
  | none => exact ⟨false, k.k, (fun z => nomatch z), fun _ => q⟩
  | some i => exact ⟨false, k.k, (fun z => nomatch z), fun _ => q⟩⟩
instance z_wmOnly [k : XE K mg xn c true] : Stp (wManyA K Wout D ((c, none, ts) :: l) (.ref (clsA mg xn)) d σ H) (∀ a, H a = none → ts a (.ref (clsA mg xn)) d D σ H) := ⟨fun q => ⟨true, k.k, fun _ => q, (fun z => nomatch z)⟩⟩
instance z_wmAs {nx : L2.St → Hp → Prop} {rt : VK} {bk ct : L2.St → Hp → Prop} [k : XE K mg xn c true] : Stp (wManyA K Wout ⟨nx, rt, bk, ct⟩ ((c, some i, ts) :: l) (.ref (clsA mg xn)) d σ H)
    (∀ a, H a = none → LsP σ i (some (.ref a)) (fun σ' H => ts a (.ref (clsA mg xn)) d { nx := fun σ' H' => LsP σ' i none nx H', rt := rt, bk := fun σ' H' => LsP σ' i none bk H', ct := fun σ' H' => LsP σ' i none ct H' } σ' H) H) := ⟨fun q => ⟨true, k.k, fun _ a h => q a h, (fun z => nomatch z)⟩⟩
end
end Hw





/-! HwT: except clauses that name several classes. -/
namespace Hw
open PySem PySem.Spec PyProof.Rows L2
/-- what a clause names: a class, or a tuple of classes -/
inductive NamesT (X : Cx) : Expr → List Value → Prop
  | one {x : Str} {c : Value} {p : Pos} (h : Names X x c) : NamesT X (.Name x p) [c]
  | two {x y : Str} {c e : Value} {p q tp : Pos} {k : Nat} (h : Names X x c) (h2 : Names X y e) : NamesT X (.Tuple [.Name x p, .Name y q] k tp) [c, e]
  | three {x y z : Str} {c e f : Value} {p q r tp : Pos} {k : Nat} (h : Names X x c) (h2 : Names X y e) (h3 : Names X z f) : NamesT X (.Tuple [.Name x p, .Name y q, .Name z r] k tp) [c, e, f]
/-- what the clauses wish of an exception of the body, one after the other -/
def wManyT (K : PySem.W.Frag) (Wout : WX) (D : Ends) : List (List Value × Option Nat × (Addr → Value → Option Addr → TS)) → WX
  | [] => Wout
  | (cs, none, ts) :: r => fun cls d σ H => ∃ b, PySem.W.exmAny K cls cs = some b ∧ (b = true → ∀ a, H a = none → ts a cls d D σ H) ∧ (b = false → wManyT K Wout D r cls d σ H)
  | (cs, some i, ts) :: r => fun cls d σ H => ∃ b, PySem.W.exmAny K cls cs = some b ∧
      (b = true → ∀ a, H a = none → ts a cls d { nx := fun σ' H' => D.nx (σ'.set i none) H', rt := D.rt, bk := fun σ' H' => D.bk (σ'.set i none) H', ct := fun σ' H' => D.ct (σ'.set i none) H' } (σ.set i (some (.ref a))) H) ∧ (b = false → wManyT K Wout D r cls d σ H)
inductive HdsT (X : Cx) : List ExceptHandler → List (List Value × Option Nat × (Addr → Value → Option Addr → TS)) → Prop
  | nil : HdsT X [] []
  | no {t : Expr} {cs : List Value} {ts : Addr → Value → Option Addr → TS} {b₀ : Stmt} {suite : List Stmt} {pos' : Pos} {hds : List ExceptHandler} {l : List (List Value × Option Nat × (Addr → Value → Option Addr → TS))} (hc : NamesT X t cs)
      (hsu : ∀ (a : Addr) (oe : Obj) (cls : Value) (d : Option Addr) (pn : List (Addr × Obj)), Zc cls d oe → (∃ vs, oe.data = .fields vs) → PSs (X.suite a ((a, oe) :: pn)) (b₀ :: suite) (ts a cls d)) (r : HdsT X hds l) :
      HdsT X (.ExceptHandler (some t) none (b₀ :: suite) pos' :: hds) ((cs, none, ts) :: l)
  | as {t : Expr} {n : Str} {cs : List Value} {i : Nat} {ts : Addr → Value → Option Addr → TS} {b₀ : Stmt} {suite : List Stmt} {pos' : Pos} {hds : List ExceptHandler} {l : List (List Value × Option Nat × (Addr → Value → Option Addr → TS))} (hN : X.N.Nodup) (hi : X.N[i]? = some n) (hln : X.env.kindOf n = some .local) (hc : NamesT X t cs)
      (hsu : ∀ (a : Addr) (oe : Obj) (cls : Value) (d : Option Addr) (pn : List (Addr × Obj)), Zc cls d oe → (∃ vs, oe.data = .fields vs) → PSs (X.suite a ((a, oe) :: pn)) (b₀ :: suite) (ts a cls d)) (r : HdsT X hds l) :
      HdsT X (.ExceptHandler (some t) (some n) (b₀ :: suite) pos' :: hds) ((cs, some i, ts) :: l)
theorem fly_push {B h : Heap} {l : List Env} {e : Addr} {Z : Obj → Prop} (f : HandSPX.FlyingZ B l e Z h) (o : Obj) : HandSPX.FlyingZ B l e Z (h.push o) := by
  obtain ⟨k1, k2, k3, oe, vs, T, oT, ts, he, hz, hd, h1, hb, hn, hT, hdT, h3⟩ := f
  exact ⟨fun b o' hb => Heap.get?_push_of_some _ (k1 b o' hb), k2, Heap.FunFrames.of_keeps (fun b o' e _ => ⟨o', Heap.get?_push_of_some _ e, rfl⟩) k3, oe, vs, T, oT, ts, Heap.get?_push_of_some _ he, hz, hd, h1, hb, hn, Heap.get?_push_of_some _ hT, hdT, h3⟩
section
variable {X : Cx} {body : List Stmt} {h₀ : ExceptHandler} {hds : List ExceptHandler} {l : List (List Value × Option Nat × (Addr → Value → Option Addr → TS))} {pos : Pos} {tb : WX → TS} {Wout : WX}
/-- try, several clauses: the exception, landed, is held against one clause after another -/
theorem ps_try_manyT (hst : X.stack = X.env :: X.outer) (hlo : X.env.frame = some X.env.locals) (tk : Takes X Wout)
    (hb : ∀ (W : WX) (pn : List (Addr × Obj)) (xe : Value → Shared → Prop), Takes (X.tr pn xe) W → PassesOwn (model X.prog X.w) X.A X.env xe → PSs (X.tr pn xe) body (tb W))
    (cl : HdsT X (h₀ :: hds) l) : PS X (.Try body (h₀ :: hds) [] [] pos) (fun D σ H => tb (wManyT X.K Wout D l) D σ H) := by
  constructor
  intro keep st0 fr0 hp0 D inv0 wish
  have okx := inv0.ok
  have frs0 : X.A.frames = some (X.env :: X.outer) := okx.frames.trans (by rw [hst])
  have run0 := (hb (wManyT X.K Wout D l) (X.pn ++ keep) (fun e st1 => wpAny (model X.prog X.w) X.A (noteFrame e X.env) (fun _ st2 => wpAny (model X.prog X.w) X.A (setFlight e none)
    (fun _ st3 => wpAny (model X.prog X.w) X.A (handleBy e X.env (h₀ :: hds)) (SP X keep D) X.xe st3) X.xe st2) X.xe st1) (fun e st1 flown => ?caught) PassesOwn.looking).run [] st0 fr0 hp0 D (inv0.toTry _) wish
  case caught =>
    obtain ⟨x, B, stI, _, fr, hp, cls, d, rfl, invT, nb, up, sky, free, os, ag, w⟩ := flown
    have inv : Inv X keep fr hp stI := invT.ofTry okx
    show wpAny (model X.prog X.w) X.A (noteFrame (.ref x) X.env) _ _ _
    refine Sky.land Zc.steady frs0 hlo (by rw [← hst]; exact sky) fun heap1 fly1 up1 => ?_
    -- what stands in any landing of the exception
    have land : ∀ {hh : Heap}, HandSPX.FlyingZ B (X.env :: X.outer) x (Zc cls d) hh → st1.heap.UpToSlots hh → Inv X keep fr hp { st1 with heap := hh } := fun fly u => inv.landed nb fly.1 (up.trans u) os ag
    have outs : ∀ {hh : Heap}, HandSPX.FlyingZ B (X.env :: X.outer) x (Zc cls d) hh → x ≠ X.env.locals ∧ x ∉ X.fs := fun {hh} fly => by
      obtain ⟨ob1, _, at1, z1, dat1⟩ := fly.there
      have inFrames : x ∉ frs (X.env :: X.outer) := fun m => by
        obtain ⟨_, ob, at2, noF⟩ := fly.2.2.1.mem m
        cases at1.symm.trans at2
        exact noF _ dat1
      exact ⟨fun e => inFrames (List.mem_filterMap.mpr ⟨_, List.mem_cons_self, hlo.trans (congrArg some e.symm)⟩), fun m => by
        obtain ⟨en, hen, q⟩ := List.mem_filterMap.mp m
        exact inFrames (List.mem_filterMap.mpr ⟨en, List.mem_cons_of_mem _ hen, q⟩)⟩
    obtain ⟨notLoc, notOut⟩ := outs fly1
    have looks : ∀ {hh : Heap}, HandSPX.FlyingZ B (X.env :: X.outer) x (Zc cls d) hh → PySem.W.Looks (model X.prog X.w) hh (typeOf (.ref x)) cls := fun {hh} fly => by
      obtain ⟨ob1, _, at1, z1, dat1⟩ := fly.there
      exact fun _ _ _ _ g q => wpAny_typeOf_ref (g _ _ at1) (by rw [z1.1]; exact q)
    have named : ∀ {hh : Heap}, HandSPX.FlyingZ B (X.env :: X.outer) x (Zc cls d) hh → st1.heap.UpToSlots hh → ∀ {nm : Str} {c : Value} {np : Pos}, Names X nm c → ∀ {Q : Value → Shared → Prop} {E : Value → Shared → Prop}, Q c { st1 with heap := hh } →
        wpAny (model X.prog X.w) (X.A.mark (some (.ref x))) (eval (.Name nm np) X.env) Q E { st1 with heap := hh } := fun {hh} fly u {nm c np} ⟨gl, dbg, how⟩ {Q E} q => by
      obtain ⟨ob1, _, at1, z1, dat1⟩ := fly.there
      have inSuite := (land fly u).suite at1 dat1 free notLoc notOut
      rcases how with m | ⟨m, bt, ne⟩
      · exact ld_glob (X := X.suite x ((x, ob1) :: (X.pn ++ keep))) inSuite gl m q dbg
      · exact ld_blt (X := X.suite x ((x, ob1) :: (X.pn ++ keep))) inSuite gl m bt q ne dbg
    -- the test of a clause: it is evaluated, and held against the exception
    have tested : ∀ {hh : Heap} (fly : HandSPX.FlyingZ B (X.env :: X.outer) x (Zc cls d) hh) (u : st1.heap.UpToSlots hh) {t : Expr} {cs : List Value} {b : Bool}, NamesT X t cs → PySem.W.exmAny X.K cls cs = some b →
        ∀ {Q : Bool → Shared → Prop} {E : Value → Shared → Prop}, (∀ h2, HandSPX.FlyingZ B (X.env :: X.outer) x (Zc cls d) h2 → st1.heap.UpToSlots h2 → Q b { st1 with heap := h2 }) →
        wpAny (model X.prog X.w) (X.A.mark (some (.ref x))) (eval t X.env) (fun c s1 => wpAny (model X.prog X.w) (X.A.mark (some (.ref x))) (excMatches (.ref x) c) Q E s1) E { st1 with heap := hh } := by
      intro hh fly u t cs b hn hx Q E q
      cases hn with
      | @one nm c np h =>
        obtain ⟨b1, d1, e1, e2, e3⟩ := PySem.W.exmAny_cons hx
        have e2' : some false = some d1 := e2
        cases e2'
        rw [Bool.or_false] at e3
        subst e3
        exact named fly u h ((PySem.W.exm_one (M := model X.prog X.w) (land fly u).kIn (looks fly) e1).here (q hh fly u))
      | @two x1 x2 c1 c2 p1 p2 tp k h1 h2 =>
        refine Tuple_ (spliced_more (named fly u h1 (spliced_more (named fly u h2 (spliced_none ?_)))))
        refine wpAny_newObj_type ?_
        have f2 := fly_push fly { cls := .type "tuple", dict := none, data := .seq [c1, c2].toArray }
        have u2 : st1.heap.UpToSlots (hh.push { cls := .type "tuple", dict := none, data := .seq [c1, c2].toArray }) := u.trans (Heap.UpToSlots.of_keeps fun b o e => Heap.get?_push_of_some _ e)
        exact (PySem.W.exm_tup2 (M := model X.prog X.w) (land f2 u2).kIn (looks f2) (Heap.get?_push_size _ rfl) hx).here (q _ f2 u2)
      | @three x1 x2 x3 c1 c2 c3 p1 p2 p3 tp k h1 h2 h3 =>
        refine Tuple_ (spliced_more (named fly u h1 (spliced_more (named fly u h2 (spliced_more (named fly u h3 (spliced_none ?_)))))))
        refine wpAny_newObj_type ?_
        have f2 := fly_push fly { cls := .type "tuple", dict := none, data := .seq [c1, c2, c3].toArray }
        have u2 : st1.heap.UpToSlots (hh.push { cls := .type "tuple", dict := none, data := .seq [c1, c2, c3].toArray }) := u.trans (Heap.UpToSlots.of_keeps fun b o e => Heap.get?_push_of_some _ e)
        exact (PySem.W.exm_tup3 (M := model X.prog X.w) (land f2 u2).kIn (looks f2) (Heap.get?_push_size _ rfl) hx).here (q _ f2 u2)
    clear wish
    revert w
    generalize h₀ :: hds = hall at cl ⊢
    revert heap1
    induction cl with
    | nil =>
      intro heap1 fly1 up1 w
      apply wpAny_handleBy_nil
      obtain ⟨_, _, _, ob, vs, T, oT, tk2, at2, z2, dat2, f1, fr1⟩ := id fly1
      unfold PySem.passOn
      apply wpAny_bind
      refine wpAny_field at2 dat2 f1 ?_
      rw [if_neg (by simp : ¬ (Value.ref T == Value.none) = true)]
      have out : wpAny (model X.prog X.w) X.A (setFlight (.ref x) X.env.frame) (fun _ st4 => wpAny (model X.prog X.w) X.A (throw (.ref x) : Sem Flow) (SP X keep D) X.xe st4) X.xe { st1 with heap := heap1 } := by
        rw [hlo]
        exact HandSPX.setFlight_upZ fly1 fun _ held u => wpAny_throw (tk _ _ ⟨x, B, stI, keep, fr, hp, cls, d, rfl, inv, nb, (up.trans up1).trans u, .inr (.inr (by rw [hst]; exact held)), free, os, ag, w⟩)
      first | exact wpAny_bind (wpAny_pure (wpAny_bind out)) | exact wpAny_bind out
    | @no t cs ts b₀ suite pos' more l2 hc hsu r ih =>
      rintro heap0 fly0 up0 ⟨b, is, yes, no⟩
      refine wpAny_handleBy_cons (codeAny_handlers_test (wpAny_mono (tested fly0 up0 hc is (Q := fun b' s' => b' = b ∧ ∃ h2, s' = { st1 with heap := h2 } ∧ HandSPX.FlyingZ B (X.env :: X.outer) x (Zc cls d) h2 ∧ st1.heap.UpToSlots h2) fun h2 f2 u2 => ⟨rfl, h2, rfl, f2, u2⟩) (fun c s1 how => wpAny_mono how ?_ fun _ _ z => z) fun _ _ z => z)) (fun q => nomatch q)
      rintro b' _ ⟨e, heap1, rfl, fly1, up1⟩
      rw [e]
      cases b with
      | false => exact ih heap1 fly1 up1 (no rfl)
      | true =>
        apply codeAny_handlers_suite
        refine HandSPX.lands_againZ fly1 fun heap2 fly2 up2 => ?_
        have inv2 := land fly2 (up1.trans up2)
        obtain ⟨ob2, _, at2, z2, dat2⟩ := fly2.there
        refine wpAny_mono ((hsu x ob2 cls d (X.pn ++ keep) z2 ⟨_, dat2⟩).run [] _ _ hp _ (inv2.suite at2 dat2 free notLoc notOut) (yes rfl x free)) (fun f st5 how => ?_) (fun _ _ z => z.elim)
        cases f with
        | ret u => obtain ⟨v5, fr5, hp5, i5, r5, q5⟩ := how; exact ⟨_, _, _, i5.unsuite okx, r5, q5⟩
        | _ => obtain ⟨fr5, hp5, i5, q5⟩ := how; exact ⟨_, _, i5.unsuite okx, q5⟩
    | @as t n cs i ts b₀ suite pos' more l2 hN hi hln hc hsu r ih =>
      rintro heap0 fly0 up0 ⟨b, is, yes, no⟩
      refine wpAny_handleBy_cons (codeAny_handlers_test (wpAny_mono (tested fly0 up0 hc is (Q := fun b' s' => b' = b ∧ ∃ h2, s' = { st1 with heap := h2 } ∧ HandSPX.FlyingZ B (X.env :: X.outer) x (Zc cls d) h2 ∧ st1.heap.UpToSlots h2) fun h2 f2 u2 => ⟨rfl, h2, rfl, f2, u2⟩) (fun c s1 how => wpAny_mono how ?_ fun _ _ z => z) fun _ _ z => z)) (fun q => nomatch q)
      rintro b' _ ⟨e, heap1, rfl, fly1, up1⟩
      rw [e]
      cases b with
      | false => exact ih heap1 fly1 up1 (no rfl)
      | true =>
        apply codeAny_handlers_suite_as
        refine HandSPX.lands_againZ fly1 fun heap2 fly2 up2 => ?_
        have inv2 := land fly2 (up1.trans up2)
        obtain ⟨ob2, _, at2, z2, dat2⟩ := fly2.there
        refine store_ok (X := X.suite x ((x, ob2) :: (X.pn ++ keep))) (v := .ref x) (inv2.suite at2 dat2 free notLoc notOut) hN hi (.inl hln) rfl (fun st4 i4 => ?_) (.inr hln)
        refine wpAny_mono ((hsu x ob2 cls d (X.pn ++ keep) z2 ⟨_, dat2⟩).run [] st4 _ hp _ i4 (yes rfl x free)) (fun f st5 how => ?_) (fun _ _ z => z.elim)
        cases f with
        | ret u => obtain ⟨v5, fr5, hp5, i5, r5, q5⟩ := how; exact gone_ok (i5.unsuite okx) hN hi hln fun _ i6 => ⟨_, _, _, i6, r5, q5⟩
        | _ => obtain ⟨fr5, hp5, i5, q5⟩ := how; exact gone_ok (i5.unsuite okx) hN hi hln fun _ i6 => ⟨_, _, i6, q5⟩
  refine wpAny_Try_except (wpAny_mono run0 (fun f st1 how => ?_) fun _ _ z => z)
  cases f with
  | next => obtain ⟨fr1, hp1, i1, q1⟩ := how; exact wpAny_execs_nil ⟨fr1, hp1, i1.ofTry okx, q1⟩
  | ret u => obtain ⟨v1, fr1, hp1, i1, r1, q1⟩ := how; exact ⟨v1, fr1, hp1, i1.ofTry okx, r1, q1⟩
  | _ => obtain ⟨fr1, hp1, i1, q1⟩ := how; exact ⟨fr1, hp1, i1.ofTry okx, q1⟩
end
/-- try with clauses of several classes -/
def tTryT (K : PySem.W.Frag) (l : List (List Value × Option Nat × (Addr → Value → Option Addr → TS))) (Wout : WX) (tb : WX → TS) : TS := fun D σ H => tb (wManyT K Wout D l) D σ H
class BOr (a b : Bool) (c : outParam Bool) : Prop where
  h : (a || b) = c
instance bor1 : BOr false false false := ⟨rfl⟩
instance bor2 : BOr false true true := ⟨rfl⟩
instance bor3 : BOr true false true := ⟨rfl⟩
instance bor4 : BOr true true true := ⟨rfl⟩
class XA (K : PySem.W.Frag) (mg : Str → Option Value) (x : Str) (cs : List Value) (b : outParam Bool) : Prop where
  k : PySem.W.exmAny K (.ref (clsA mg x)) cs = some b
section
variable {K : PySem.W.Frag} {mg : Str → Option Value} {l : List (List Value × Option Nat × (Addr → Value → Option Addr → TS))} {Wout : WX} {tb : WX → TS} {D : Ends} {σ : L2.St} {H : Hp} {xn : Str} {c : Value} {cs : List Value} {i : Nat} {ts : Addr → Value → Option Addr → TS} {d : Option Addr}
instance xa_nil : XA K mg xn [] false := ⟨rfl⟩
instance xa_cons {b1 b2 b3 : Bool} [k : XE K mg xn c b1] [r : XA K mg xn cs b2] [o : BOr b1 b2 b3] : XA K mg xn (c :: cs) b3 := ⟨by rw [← o.h]; show (match PySem.W.exmOne K _ c, PySem.W.exmAny K _ cs with | some b, some d => some (b || d) | _, _ => none) = _; rw [k.k, r.k]⟩
instance z_tryT : Stp (tTryT K l Wout tb D σ H) (tb (wManyT K Wout D l) D σ H) := ⟨id⟩
instance z_wtNil {cls : Value} : Stp (wManyT K Wout D [] cls d σ H) (Wout cls d σ H) := ⟨id⟩
instance z_wtNo {o : Option Nat} [k : XA K mg xn cs false] : Stp (wManyT K Wout D ((cs, o, ts) :: l) (.ref (clsA mg xn)) d σ H) (wManyT K Wout D l (.ref (clsA mg xn)) d σ H) := ⟨fun q => by
  cases o with
  | none => exact ⟨false, k.k, (fun z => nomatch z), fun _ => q⟩
  | some i => exact ⟨false, k.k, (fun z => nomatch z), fun _ => q⟩⟩
instance z_wtOnly [k : XA K mg xn cs true] : Stp (wManyT K Wout D ((cs, none, ts) :: l) (.ref (clsA mg xn)) d σ H) (∀ a, H a = none → ts a (.ref (clsA mg xn)) d D σ H) := ⟨fun q => ⟨true, k.k, fun _ => q, (fun z => nomatch z)⟩⟩
instance z_wtAs {nx : L2.St → Hp → Prop} {rt : VK} {bk ct : L2.St → Hp → Prop} [k : XA K mg xn cs true] : Stp (wManyT K Wout ⟨nx, rt, bk, ct⟩ ((cs, some i, ts) :: l) (.ref (clsA mg xn)) d σ H)
    (∀ a, H a = none → LsP σ i (some (.ref a)) (fun σ' H => ts a (.ref (clsA mg xn)) d { nx := fun σ' H' => LsP σ' i none nx H', rt := rt, bk := fun σ' H' => LsP σ' i none bk H', ct := fun σ' H' => LsP σ' i none ct H' } σ' H) H) := ⟨fun q => ⟨true, k.k, fun _ a h => q a h, (fun z => nomatch z)⟩⟩
end
end Hw
namespace Hw
open PySem PySem.Spec PyProof.Rows L2
/-- what is never reached -/
def tNever : TS := fun _ _ _ => False
theorem ps_never {X : Cx} {st : Stmt} : PS X st tNever := ⟨fun _ _ _ _ _ _ h => h.elim⟩
theorem pss_never {X : Cx} {ss : List Stmt} : PSs X ss tNever := ⟨fun _ _ _ _ _ _ h => h.elim⟩
end Hw





/-! HwW: an own exception that sets no fields is made. -/
namespace Hw
open PySem PySem.Spec PyProof.Rows L2
section
variable {X : Cx} {x : Str} {C e : Addr} {k j : Nat} {p pos : Pos}
/-- the new thing is let go: it holds no dict -/
theorem bare_made {pins : List (Addr × Obj)} {σ : L2.St} {Ha Hb : Hp} {Q : XK} {h1 h2 h3 : Heap} {ga gb : Array GenState} {da db : Drawn} {ta tb : Nat} {oa ob : OsState} (T : Raises X (.ref C)) (J : Inv X pins σ Ha ⟨h1, ga, da, ta, oa⟩) (new : h1.objs.size ≤ e)
    (up : ∀ b o, h1.get? b = some o → h2.get? b = some o) (U : Un (frs X.stack) [] (upd Ha e (exo e C none)) Hb h2 h3) (ok : HOk X.prog X.w Hb h3) (same : ob = oa) (bare : AllBare gb) (at_ : Hb e = some (exo e C none)) (q : Q (.ref C) none (del Hb e)) : MkP X pins σ Q (.ref e) ⟨h3, gb, db, tb, ob⟩ := by
  obtain ⟨tt, here⟩ := exo_at ok at_
  have none1 : Ha e = none := J.hok.fresh new
  obtain ⟨R, inR, outR⟩ := restrict h3 fun b => decide (b ≠ e)
  have kR : ∀ b, b ≠ e → R.get? b = h3.get? b := fun b hb => inR b (decide_eq_true hb)
  have eR : R.get? e = none := outR e (by simp)
  have old : ∀ {b : Addr} {o : Obj}, h1.get? b = some o → b ≠ e := fun z => Nat.ne_of_lt (Nat.lt_of_lt_of_le (Heap.lt_size z) new)
  have stay : ∀ {b : Addr}, b ≠ e → Ha b = none → upd Ha e (exo e C none) b = none := fun hb n => (upd_ne hb).trans n
  have lift : ∀ {b : Addr} {v : HO}, Ha b = some v → upd Ha e (exo e C none) b = some v ∧ b ≠ e := fun z => ⟨(upd_ne (ne_of_none z none1)).trans z, ne_of_none z none1⟩
  have UU : Un (frs X.stack) [] Ha (del Hb e) h1 R := by
    constructor
    case keep => intro b o z n nf nx; exact (kR b (old z)).trans (U.keep b o (up b o z) (stay (old z) n) nf nx)
    case slot => intro b o z n yf nx; obtain ⟨sl, hsl⟩ := U.slot b o (up b o z) (stay (old z) n) yf nx; exact ⟨sl, (kR b (old z)).trans hsl⟩
    case free => intro b o z n nx; exact (del_ne (old z)).trans (U.free b o (up b o z) (stay (old z) n) nx)
    case there => intro b o z nx; obtain ⟨o', ho'⟩ := U.there b o (up b o z) nx; exact ⟨o', (kR b (old z)).trans ho'⟩
    case tups => intro b xs z; exact (del_ne (lift z).2).trans (U.tups b xs (lift z).1)
    case frzs => intro b o v z; exact (del_ne (lift z).2).trans (U.frzs b o v (lift z).1)
    case tbls => intro b ps z; obtain ⟨m, hm⟩ := U.tbls b ps (lift z).1; exact ⟨m, (del_ne (lift z).2).trans hm⟩
  have ok2 : HOk X.prog X.w (del Hb e) R := fun b v z => by
    have hbe : b ≠ e := fun c => by rw [c, del_same] at z; cases z
    rw [del_ne hbe] at z
    have apart : ∀ {c : Addr}, Hb c = some (.own b) → c ≠ e := fun hc => at_ne at_ hc exo_own
    refine (ok b v z).stay (fun c u hc y => ?_) (fun c hc => (del_ne (apart hc)).trans hc) fun c xs hc => (del_ne (at_ne at_ hc exo_tup)).trans hc
    have hce : c ≠ e := hc.elim (fun z => z ▸ hbe) apart
    exact (kR c hce).trans y
  have J2 : Inv X pins σ (del Hb e) ⟨R, gb, db, tb, ob⟩ := J.call' (ch := []) same UU ok2 bare (fun b z => absurd z (by simp))
  refine ⟨e, _, _, ⟨R, gb, db, tb, ob⟩, _, .ref C, none, rfl, J2, fun b o z => ?_, eR, here, ⟨rfl, rfl⟩, rfl, rfl, del_same, rfl, bare, T, q⟩
  by_cases c : b = e
  · rw [c, eR] at z; cases z
  · exact (kR b c).symm.trans z
/-- C(), which sets no fields -/
def tMkZ (C : Addr) : L2.St → Hp → XK → Prop := fun _ H Q => Q (.ref C) none H
theorem hw_mk0 (F : HasX X.prog X.w X.K X.mg X.base k x C []) (hr : Room j X.A) (hj : k + 1 ≤ j) (hg : Gl X x) (hdb : (x == ("__debug__" : Str)) = false := by decide) :
    PMk X (.Call (.Name x p) [] [] pos) (tMkZ C) := by
  obtain ⟨fI, fd, ps, iC, tI, hb, F1⟩ := F.ex
  intro pins s σ H Q J h
  obtain ⟨nm, q, N, bs, bm, sn, sub, ab, col, dd, k0, k1, k2, k3, k5, hC, hbm⟩ := F.T.cls
  refine wpAny_Call_Name_kw (ld_glob J hg F.gl ?_ hdb)
  refine PySem.W.callWith_K0 J.kIn F.T.kC ?_
  show wpAny _ _ (call (.ref C) []) _ _ _
  obtain ⟨hp, g, dr, tk, os⟩ := s
  have lo : hp.objs.size ≤ hp.objs.size + 1 := Nat.le_succ _
  have free : H (hp.objs.size + 1) = none := J.hok.fresh lo
  have up : ∀ b o, hp.get? b = some o → ((hp.push (PySem.W.kdv_tup [])).push (PySem.HandSPX.excO C hp.objs.size)).get? b = some o := fun b o z => Heap.get?_push_of_some _ (Heap.get?_push_of_some _ z)
  have at1 : ((hp.push (PySem.W.kdv_tup [])).push (PySem.HandSPX.excO C hp.objs.size)).get? (hp.objs.size + 1) = some (PySem.HandSPX.excO C hp.objs.size) := by heap_get
  have J2 : Inv X pins σ (upd H (hp.objs.size + 1) (exo (hp.objs.size + 1) C none)) ⟨(hp.push (PySem.W.kdv_tup [])).push (PySem.HandSPX.excO C hp.objs.size), g, dr, tk, os⟩ :=
    J.laid (t' := tk) up lo (exo_ok at1)
  have hq : spExc C [] [.ref (hp.objs.size + 1)] (upd H (hp.objs.size + 1) (exo (hp.objs.size + 1) C none)) (fun v H2 => v = .non ∧ H2 = upd H (hp.objs.size + 1) (exo (hp.objs.size + 1) C none)) (fun _ _ _ => False) := ⟨_, [], rfl, rfl, upd_same, .inl ⟨rfl, rfl, rfl⟩⟩
  have r2 : Vals [V.ref (hp.objs.size + 1)] [Value.ref (hp.objs.size + 1)] := .cons rfl .nil
  have hl : ([Value.ref (hp.objs.size + 1)] : List Value).length = ps.length := by
    have z := r2.length
    rw [F1.len _ _ _ _ hq] at z
    exact z.symm
  refine wpAny_call (PySem.HandSPX.call_own PySem.F.excBase_ValueError (fun Y => PySem.HandSPX.refsVE_contains Y bm hbm) (J.kIn _ _ hC) (PySem.W.looks_findIn J.kIn iC) (fun self => PySem.W.bind_fn J.kIn self tI) (by show 0 ≤ _; omega)
    (codeAny_mono (F1.run _ X.stack _ _ ⟨[Value.ref (hp.objs.size + 1)], []⟩ [Value.ref (hp.objs.size + 1)] _ _ (fun _ _ _ => False) ((hr.mono hj).make C [] []) (J2.env0.make C [] []) (hb _ [Value.ref (hp.objs.size + 1)] J2.kIn (by simpa using hl)) r2 hq) fun r s' how => ?_))
  cases r with
  | error er => exact passL pins σ _ _ er s' J2 how
  | ok fl =>
    cases fl with
    | ret u =>
      obtain ⟨v, H2, same, bare, U, ok, rv, ev, eH⟩ := how
      subst ev
      subst eH
      obtain ⟨h2, g2, d2, t2, os'⟩ := s'
      refine ⟨rv, bare_made (raises_own F.T.exC F.T.tyC) J lo up U ok same bare upd_same ?_⟩
      have e0 : del (upd H (hp.objs.size + 1) (exo (hp.objs.size + 1) C none)) (hp.objs.size + 1) = H := by
        funext b
        by_cases c : b = hp.objs.size + 1
        · rw [c, del_same, free]
        · rw [del_ne c, upd_ne c]
      rw [e0]; exact h
    | next => exact False.elim how
    | brk => exact False.elim how
    | cont => exact False.elim how
end
section
variable {K : PySem.W.Frag} {mg : Str → Option Value} {x msg : Str} {C : Addr} {σ : L2.St} {H : Hp} {Q : XK}
instance z_mkZ : Stp (tMkZ C σ H Q) (Q (.ref C) none H) := ⟨id⟩
/-- its __init__, walked once for all -/
theorem R_xinit0 [T : XC K mg x []] {vs : List V} {H : Hp} {Q : VK} {E : XK} (h : spExc (clsA mg x) [] vs H Q E) :
    (tDrop (tVeI K (tCons (tVar 0) (tCons (tC (.str msg)) tNil)))) { nx := fun _ H' => Q .non H', rt := Q } (start ["self"] vs) H := by
  obtain ⟨a, ws, rfl, hl, ha, q⟩ := h
  match ws, hl with
  | [], _ =>
    have q2 : Q .non H := by
      rcases q with ⟨_, q⟩ | ⟨z, _⟩
      · exact q
      · exact absurd rfl z
    exact ⟨.ref a, rfl, a, clsA mg x, [.str msg], rfl, Nat.le_of_ble_eq_true rfl, T.T, ha, q2⟩
end
/-! x or y, by truth -/
def nOrT (K : PySem.W.Frag) (x : V) (H : Hp) (Q : VK) (R : Prop) : Prop := ∃ k, TruV K x H k ∧ if k = true then Q x H else R
section
variable {K : PySem.W.Frag} {σ : L2.St} {H : Hp} {Q : VK} {a : Addr} {ta tb : TE} {R : Prop}
instance z_orT : Stp (tOrT K ta tb σ H Q) (ta σ H fun x H1 => nOrT K x H1 Q (tb σ H1 Q)) := ⟨id⟩
instance z_orL {xs : List V} [h : HL K H a xs] : Stp (nOrT K (.ref a) H Q R) (if (!xs.isEmpty) = true then Q (.ref a) H else R) := ⟨fun q => ⟨!xs.isEmpty, .inl ⟨xs, h.h, rfl⟩, q⟩⟩
end
/-! x > y of two tuples of numbers -/
def rGtT (K : PySem.W.Frag) : R2 := fun x y H Q => ∃ (a b : Addr) (ns ms : List Int), x = .ref a ∧ y = .ref b ∧ SqT K H a (ns.map V.int) ∧ SqT K H b (ms.map V.int) ∧
  Q (.bl (Ob.lexAt (fun j => decide (ns.getD j 0 = ms.getD j 0)) (fun j => decide (ms.getD j 0 < ns.getD j 0)) (decide (ns.length > ms.length)) 0 (min ns.length ms.length))) H
theorem op_gtT {X : Cx} (hu : X.A.units < cLine) : OpR X (compareOp .Gt) (rGtT X.K) := by
  intro pins s σ H x y v u Q I rx ry h
  obtain ⟨a, b, ns, ms, rfl, rfl, ha, hb, q⟩ := h
  cases rx
  cases ry
  obtain ⟨its, r1, p1, _⟩ := I.tuple ha
  obtain ⟨its2, r2, p2, _⟩ := I.tuple hb
  have i1 : IntsAre its ns := Vals.ints r1
  have i2 : IntsAre its2 ms := Vals.ints r2
  have e1 : its.toArray.size = ns.length := by rw [List.size_toArray]; exact i1.length
  have e2 : its2.toArray.size = ms.length := by rw [List.size_toArray]; exact i2.length
  have at1 : ∀ j (h1 : j < its.toArray.size), ∃ t, its.toArray[j] = .int (ns.getD j 0) t := fun j h1 => PyProof.Rows.IntsAre.int_at i1 _ _ (by simp at h1; simp [h1])
  have at2 : ∀ j (h1 : j < its2.toArray.size), ∃ t, its2.toArray[j] = .int (ms.getD j 0) t := fun j h1 => PyProof.Rows.IntsAre.int_at i2 _ _ (by simp at h1; simp [h1])
  have R := Ob.RcOp.tuples_gt (A := X.A) (s := s) (e := fun j => decide (ns.getD j 0 = ms.getD j 0)) (r := fun j => decide (ms.getD j 0 < ns.getD j 0)) p1 p2 hu (fun j h1 h2 => by
    obtain ⟨t, et⟩ := at1 j h1
    obtain ⟨t', et'⟩ := at2 j h2
    rw [et, et']
    have z : (ns.getD j 0 == ms.getD j 0) = decide (ns.getD j 0 = ms.getD j 0) := by
      by_cases q : ns.getD j 0 = ms.getD j 0
      · rw [decide_eq_true q]; exact beq_iff_eq.mpr q
      · rw [decide_eq_false q]; exact beq_eq_false_iff_ne.mpr q
    rw [← z]
    exact SeqAt.EqAt.int_int _ _ _ _) (fun j h1 h2 _ => by
    obtain ⟨t, et⟩ := at1 j h1
    obtain ⟨t', et'⟩ := at2 j h2
    rw [et, et']
    exact Ob.RcOp.gt_int _ _ _ _)
  rw [e1, e2] at R
  have z : wpAny (model X.prog X.w) X.A (compareOp .Gt (.ref a) (.ref b)) (EP X pins σ Q) X.xe s := R X.prog X.w X.xe (EP X pins σ Q) ⟨.bl _, H, I, rfl, q⟩
  exact z
section
variable {K : PySem.W.Frag} {H : Hp} {Q : VK} {a b : Addr}
instance z_gtT2 {x y x' y' : Int} [h : HT K H a [.int x, .int y]] [h' : HT K H b [.int x', .int y']] : Stp (rGtT K (.ref a) (.ref b) H Q) (Q (.bl (decide (x' < x) || (decide (x = x') && decide (y' < y)))) H) := ⟨fun q => ⟨a, b, [x, y], [x', y'], rfl, rfl, h.h, h'.h, by
  have e : Ob.lexAt (fun j => decide (([x, y] : List Int).getD j 0 = ([x', y'] : List Int).getD j 0)) (fun j => decide (([x', y'] : List Int).getD j 0 < ([x, y] : List Int).getD j 0)) (decide (([x, y] : List Int).length > ([x', y'] : List Int).length)) 0 (min ([x, y] : List Int).length ([x', y'] : List Int).length) = (decide (x' < x) || (decide (x = x') && decide (y' < y))) := by
    show (if decide (x = x') = true then (if decide (y = y') = true then false else decide (y' < y)) else decide (x' < x)) = _
    by_cases h1 : x = x'
    · subst h1
      by_cases h2 : y = y'
      · subst h2; simp
      · simp [h2]
    · simp [h1]
  rw [e]; exact q⟩⟩
end
end Hw





/-! HwV: a def that is handed the exception that a suite holds. -/
namespace Hw
open PySem PySem.Spec PyProof.Rows L2
abbrev SpE := Addr → Value → Option Addr → Sp
/-- what such a def promises: of the exception it knows the class and the dict -/
structure FnE (P : Program) (w : World) (K : PySem.W.Frag) (mg : Str → Option Value) (base : Heap) (CX : CXT) (k : Nat) (f : Addr) (fd : FuncData) (ps : List Str) (sp : SpE) : Prop where
  len : ∀ a c d vs H Q E, sp a c d vs H Q E → vs.length = ps.length
  run : ∀ (A : Around) (outer : List Env) (s : Shared) (H : Hp) (args : Args) (us : List Value) (vs : List V) (Q : VK) (E : XK) (p : Addr × Obj) (c : Value) (d : Option Addr), L2H.RoomH k A → Zc c d p.2 → (∃ fs, p.2.data = .fields fs) → L2H.PinOk outer H s p → Env0 P w K mg base A outer s H → BindsTo s fd args (ps.zip us) → Vals vs us → sp p.1 c d vs H Q E →
    codeAny (model P w) A (.call (.ref f) args) (CR CX outer P w H s Q E) s
theorem fn_ofE {CX : CXT} {P : Program} {w : World} {K : PySem.W.Frag} {mg : Str → Option Value} {base : Heap} {k : Nat} {f : Addr} {name qual : Str} {params : Arguments} {body : List Stmt} {scope : Scope} {dV kV doc pm cdv ct oc : Value} {an od : Option Addr}
    {osl : Array (Option Value)} {N ps : List Str} {sp : SpE} (lk : K.lookup f = some ⟨oc, od, .func (PySem.W.fnOf name qual params body scope dV kV doc pm an cdv ct), osl⟩) (hcd : PySem.W.codeIn K cdv qual = true) (S : FnScope N ps scope)
    (len : ∀ a c d vs H Q E, sp a c d vs H Q E → vs.length = ps.length)
    (hbody : ∀ (A : Around) (outer : List Env) (s : Shared) (H : Hp) (vs : List V) (Q : VK) (E : XK) (p : Addr × Obj) (c : Value) (d : Option Addr), L2H.RoomH k (A.deeper (envOfC qual scope s.heap.objs.size f cdv)) → Zc c d p.2 → (∃ fs, p.2.data = .fields fs) → sp p.1 c d vs H Q E →
      ∃ t, PSs (L2H.cxH CX P w K mg base N qual scope f cdv A outer s H E p) body t ∧ t { nx := fun _ H' => Q .non H', rt := Q } (L2.start N vs) H) :
    FnE P w K mg base CX (k + 1) f (PySem.W.fnOf name qual params body scope dV kV doc pm an cdv ct) ps sp := by
  refine ⟨len, fun A outer s H args us vs Q E p c d hr hz hf hpin e0 hb r hsp => ?_⟩
  have hl := len _ _ _ _ _ _ _ hsp
  have KX : K.In s.heap := e0.mod.kin.keeps fun b o e => (e0.bs b o e).1
  have lim : s.heap.NoLimit := e0.mod.nolimit.keeps fun b o e => (e0.bs b o e).1
  have hkind : ∀ y ∈ ps.zip us, scope.names.lookup y.1 = some .local ∨ (scope.names.lookup y.1 = some .cell ∧ ((cellsFrom (s.heap.objs.size + 1) scope.names []).lookup y.1).isSome = true) := fun ⟨n, v⟩ hy => by
    rcases S.par n (List.of_mem_zip hy).1 with q | q
    · exact .inl q
    · exact .inr ⟨q, PySem.W.cellsFrom_some _ _ _ (.inl q)⟩
  refine codeAny_call_function hr.depth (KX _ _ lk) rfl S.co S.gen rfl (PySem.W.codeRec_of KX hcd) (hb _ _ _ _ ?_)
  refine wpAny_newFunctionEnv_cells S.kind hkind fun env he s1 x => ?_
  subst he
  refine ⟨lim.keeps x.toInCall.keep, codeAny_func ?_⟩
  obtain ⟨t, ht, hq⟩ := hbody A outer s H vs Q E p c d (hr.deeper _) hz hf hsp
  have I : Inv (L2H.cxH CX P w K mg base N qual scope f cdv A outer s H E p) [] (L2.start N vs) H s1 := L2H.inv_startH S hpin e0 hl r x
  refine wpAny_mono (ht.run [] s1 (L2.start N vs) H _ I hq) (fun fl s' hs => ?_) fun e s' hs => hs
  have fin : ∀ {σ' : L2.St} {H' : Hp} {v : V} {u : Value}, Inv (L2H.cxH CX P w K mg base N qual scope f cdv A outer s H E p) [] σ' H' s' → RelV v u → Q v H' → CE outer P w H s Q u s' :=
    fun {σ' H' v u} J rv q => ⟨v, H', J.os, J.bare, J.base, J.hok, rv, q⟩
  cases fl with
  | ret u =>
    obtain ⟨v, σ', H', J, rv, q⟩ := hs
    exact fin J rv q
  | next =>
    obtain ⟨σ', H', J, q⟩ := hs
    exact fin (v := V.non) (u := Value.none) J rfl q
  | brk =>
    obtain ⟨_, _, _, q⟩ := hs
    exact False.elim q
  | cont =>
    obtain ⟨_, _, _, q⟩ := hs
    exact False.elim q
theorem okE {P : Program} {w : World} {K : PySem.W.Frag} {mg : Str → Option Value} {base : Heap} {x qual : Str} {st : Stmt} {f : Addr} {fd : FuncData} {N ps : List Str} {k : Nat} {sp : SpE} (F : Fun K x qual st f fd) (S : FnScope N ps (defScope st)) (len : ∀ a c d vs H Q E, sp a c d vs H Q E → vs.length = ps.length)
    (hbody : ∀ (cdv : Value) (A : Around) (outer : List Env) (s : Shared) (H : Hp) (vs : List V) (Q : VK) (E : XK) (a : Addr) (oe : Obj) (c : Value) (d : Option Addr), L2H.RoomH k (A.deeper (envOfC qual (defScope st) s.heap.objs.size f cdv)) → Zc c d oe → (∃ fs, oe.data = .fields fs) → sp a c d vs H Q E →
      ∃ t, PSs (L2H.cxH (L2.CX P w) P w K mg base N qual (defScope st) f cdv A outer s H E (a, oe)) (defBody st) t ∧ t { nx := fun _ H' => Q .non H', rt := Q } (start N vs) H) : FnE P w K mg base (L2.CX P w) (k + 1) f fd ps sp := by
  obtain ⟨oc, od, kV, doc, pm, an, cdv, ct, osl, rfl, lk, hcd⟩ := F.ex
  exact fn_ofE lk hcd S len fun A outer s H vs Q E p c d hr hz hf hsp => hbody cdv A outer s H vs Q E p.1 p.2 c d hr hz hf hsp
/-- a def of the top that is handed an exception -/
structure HasE (P : Program) (w : World) (K : PySem.W.Frag) (mg : Str → Option Value) (base : Heap) (k : Nat) (x : Str) (sp : SpE) : Prop where
  ex : ∃ (f : Addr) (fd : FuncData) (ps : List Str), mg x = some (.ref f) ∧ PySem.W.keepIn K (.ref f) = true ∧ Binds K fd ps [] ∧ FnE P w K mg base (L2.CX P w) k f fd ps sp
def tHwE (sp : SpE) (a : Addr) (c : Value) (d : Option Addr) (E : L2.St → XK) (t : TA) : TE := fun σ H Q => t σ H fun vs H1 => sp a c d vs H1 Q (E σ)
section
variable {X : Cx} {a : Addr} {oe : Obj} {cls : Value} {d : Option Addr} {j k : Nat} {x : Str} {q pos : Pos} {e : Expr} {es : List Expr} {t : TA} {E : L2.St → XK} {sp : SpE}
theorem room_of {k : Nat} {A : Around} (h : Room k A) (v : Option Value) : L2H.RoomH k (A.mark v) := ⟨h.dp, h.un⟩
theorem hw_callE (h : HasE X.prog X.w X.K X.mg X.base k x sp) (hr : L2H.RoomH j X.A) (hj : k ≤ j) (hp : (a, oe) ∈ X.pn) (hz : Zc cls d oe) (hf : ∃ vs, oe.data = .fields vs) (hg : Gl X x) (hx : ∀ σ, PassesAt (L2.CX X.prog X.w) X σ (E σ)) (ha : PA X (e :: es) t)
    (hdb : (x == ("__debug__" : Str)) = false := by decide) (he : starEach (e :: es) X.env = (false, eval e X.env) :: starEach es X.env := by rfl) (hpl : (backTo pos (starEach es X.env)).any (·.1) = false := by rfl) :
    PE X (.Call (.Name x q) (e :: es) [] pos) (tHwE sp a cls d E t) := by
  obtain ⟨f, fd, ps, hm, hk, hb, F⟩ := h.ex
  refine ⟨fun pins s σ H Q I h => ?_⟩
  refine wpAny_Call_Name_kw (ld_glob I hg hm ?_ hdb)
  refine PySem.W.callWith_K (h₀ := X.base) I.ok.mod.kin hk (thn (ha.run pos pins s σ H _ I h) fun us s1 ⟨vs, H1, I1, r, hsp⟩ => ⟨I1.kIn, ?_⟩) he hpl
  have hl : us.length = ps.length := by rw [← r.length]; exact F.len _ _ _ _ _ _ _ hsp
  have b := hb s1 us I1.kIn (by rw [List.append_nil]; exact hl)
  rw [List.append_nil] at b
  have P1 := I1.pin (a, oe) (List.mem_append_left _ hp)
  have hpin : L2H.PinOk X.stack H1 s1 (a, oe) := ⟨P1.1, P1.2.1, fun hm => (List.mem_cons.mp (I1.stkSub a hm)).elim P1.2.2.1 P1.2.2.2.1, P1.2.2.2.2⟩
  refine wpAny_call (codeAny_mono (F.run X.A X.stack s1 H1 ⟨us, []⟩ us vs Q (E σ) (a, oe) cls d (hr.mono hj) hz hf hpin I1.env0 b r hsp) fun r s' hq => ?_)
  cases r with
  | error e => exact hx σ pins H1 s1 e s' I1 hq
  | ok fl =>
    cases fl with
    | ret u => exact I1.after hq
    | next => exact False.elim hq
    | brk => exact False.elim hq
    | cont => exact False.elim hq
theorem tHwC_nil {sp : Sp} {E : L2.St → XK} {t : TA} : tHwC sp [] E t = fun σ H Q => t σ H fun vs H1 => sp vs H1 Q (E σ) := by
  funext σ H Q
  unfold tHwC
  simp only [List.append_nil]
/-- a def called while an exception is handled -/
theorem hw_callHot {sp : Sp} (h : HasE X.prog X.w X.K X.mg X.base k x (fun _ _ _ => sp)) (hr : L2H.RoomH j X.A) (hj : k ≤ j) (hp : (a, oe) ∈ X.pn) (hz : Zc cls d oe) (hf : ∃ vs, oe.data = .fields vs) (hg : Gl X x) (hx : ∀ σ, PassesAt (L2.CX X.prog X.w) X σ (E σ)) (ha : PA X (e :: es) t)
    (hdb : (x == ("__debug__" : Str)) = false := by decide) (he : starEach (e :: es) X.env = (false, eval e X.env) :: starEach es X.env := by rfl) (hpl : (backTo pos (starEach es X.env)).any (·.1) = false := by rfl) :
    PE X (.Call (.Name x q) (e :: es) [] pos) (tHwC sp [] E t) := by
  rw [tHwC_nil]
  exact hw_callE (sp := fun _ _ _ => sp) h hr hj hp hz hf hg hx ha hdb he hpl
/-- isinstance of the exception, wherever it is pinned -/
theorem call_isP (hp : (a, oe) ∈ X.pn) (hz : Zc cls d oe) (hf : ∃ vs, oe.data = .fields vs) : CallR X (.builtin "isinstance") (rIsX X.K cls d a) := by
  intro pins s σ H xs us Q I r h
  obtain ⟨D, c, cv, b, ec, C, hd, rfl, hcv, e, q⟩ := h
  subst ec
  cases r with
  | cons rx rr =>
    cases rr with
    | cons rt rr =>
      cases rr
      cases rx
      have ec := hcv _ rt
      subst ec
      obtain ⟨hget, _⟩ := I.pin (a, oe) (List.mem_append_left _ hp)
      obtain ⟨vs, hv⟩ := hf
      have nc : PySem.W.notCls oe = true := by unfold PySem.W.notCls; rw [hv] <;> rfl
      have hcl := clsIn_isSome C.hd
      rcases hd with hd | ⟨dd, fs, hd, hx⟩
      · have J : PySem.W.InstAt s.heap a oe D none := ⟨hget, hz.1, nc, by rw [hz.2, hd]; exact trivial⟩
        exact PySem.W.kia_one (PySem.W.kitx_exc hcl C.hg C.hk C.hs C.ha C.hn C.ht C.hm) I.kIn J e (fun z => nomatch z) fun tk => ⟨.bl b, H, I.kept (t' := tk) fun _ _ z => z, rfl, q⟩
      · have hx' : ObjOk X.prog X.w H s.heap dd (.xd fs) := I.hok dd _ hx
        obtain ⟨mA, hns, hr⟩ := hx'
        obtain ⟨od, ho, hl⟩ := lookIn_ns hns
        have J : PySem.W.InstAt s.heap a oe D (some od) := ⟨hget, hz.1, nc, by rw [hz.2, hd]; exact ho⟩
        exact PySem.W.kia_one (PySem.W.kitx_exc hcl C.hg C.hk C.hs C.ha C.hn C.ht C.hm) I.kIn J e (fun z => nomatch z) fun tk => ⟨.bl b, H, I.kept (t' := tk) fun _ _ z => z, rfl, q⟩
end
section
variable {K : PySem.W.Frag} {a : Addr} {c : Value} {d : Option Addr} {sp : SpE} {σ : L2.St} {H : Hp} {Q : VK} {E : L2.St → XK} {t : TA}
def nCe (sp : SpE) (a : Addr) (c : Value) (d : Option Addr) (E : XK) (Q : VK) (vs : List V) (H : Hp) : Prop := sp a c d vs H Q E
instance z_hwe : Stp (tHwE sp a c d E t σ H Q) (t σ H fun vs H1 => sp a c d vs H1 Q (E σ)) := ⟨id⟩
end
theorem hu_ofH {A : Around} {k : Nat} (hr : L2H.RoomH k A) : A.units + 1 < cLine := by have := hr.un; omega
theorem hu64_ofH {A : Around} {k : Nat} (hr : L2H.RoomH k A) : A.units + 64 < cLine := by have := hr.un; omega
theorem hu65_ofH {A : Around} {k : Nat} (hr : L2H.RoomH k A) : A.units + 65 < cLine := by have := hr.un; omega
/-- which of the ten refusals the class of name x is -/
class XS (K : PySem.W.Frag) (mg : Str → Option Value) (x : Str) (j : outParam Nat) : Prop where
  k0 : PySem.W.kitOne K (.ref (clsA mg x)) (.ref (clsA mg "Wrong")) = some (decide (0 = j))
  k1 : PySem.W.kitOne K (.ref (clsA mg x)) (.ref (clsA mg "NoRoom")) = some (decide (1 = j))
  k2 : PySem.W.kitOne K (.ref (clsA mg x)) (.ref (clsA mg "There")) = some (decide (2 = j))
  k3 : PySem.W.kitOne K (.ref (clsA mg x)) (.ref (clsA mg "NotThere")) = some (decide (3 = j))
  k4 : PySem.W.kitOne K (.ref (clsA mg x)) (.ref (clsA mg "Unkept")) = some (decide (4 = j))
  k5 : PySem.W.kitOne K (.ref (clsA mg x)) (.ref (clsA mg "Unlike")) = some (decide (5 = j))
  k6 : PySem.W.kitOne K (.ref (clsA mg x)) (.ref (clsA mg "NoText")) = some (decide (6 = j))
  k7 : PySem.W.kitOne K (.ref (clsA mg x)) (.ref (clsA mg "NoRow")) = some (decide (7 = j))
  k8 : PySem.W.kitOne K (.ref (clsA mg x)) (.ref (clsA mg "NoPlan")) = some (decide (8 = j))
  k9 : PySem.W.kitOne K (.ref (clsA mg x)) (.ref (clsA mg "TooMany")) = some (decide (9 = j))
  v : PySem.W.kitOne K (.ref (clsA mg x)) (.type "ValueError") = some true
/-- the exception's dict, if it has one, is in the ground -/
class DsT (G : Hp) (d : Option Addr) : Prop where
  h : d = none ∨ ∃ dd fs, d = some dd ∧ G dd = some (.xd fs)
instance dst0 {G : Hp} : DsT G none := ⟨.inl rfl⟩
instance dst1 {G : Hp} {dd : Addr} {fs : List (Str × V)} [g : GA G dd (.xd fs)] : DsT G (some dd) := ⟨.inr ⟨dd, fs, rfl, g.e⟩⟩
theorem DsT.st {G : Hp} {L : Lg} {H : Hp} {d : Option Addr} (S : Sy G L H) (h : DsT G d) : Dst H d := by
  rcases h.h with e | ⟨dd, fs, e, g⟩
  · exact .inl e
  · exact .inr ⟨dd, fs, e, S.frz _ _ g⟩
section
variable {K : PySem.W.Frag} {mg : Str → Option Value} {G : Hp} {L : Lg} {H : Hp} {Q : VK} {d : Option Addr} {a : Addr} {x : Str} {gs : List Str} {j : Nat}
instance z_so0 [S : Sy G L H] [D : DsT G d] [T : XC K mg x gs] [s : XS K mg x j] : Stp (rIsX K (.ref (clsA mg x)) d a [.ref a, .ref (clsA mg "Wrong")] H Q) (Q (.bl (decide (0 = j))) H) := ⟨fun q => ⟨_, .ref _, .ref _, _, rfl, T.I, D.st S, rfl, fun u r => r, s.k0, q⟩⟩
instance z_so1 [S : Sy G L H] [D : DsT G d] [T : XC K mg x gs] [s : XS K mg x j] : Stp (rIsX K (.ref (clsA mg x)) d a [.ref a, .ref (clsA mg "NoRoom")] H Q) (Q (.bl (decide (1 = j))) H) := ⟨fun q => ⟨_, .ref _, .ref _, _, rfl, T.I, D.st S, rfl, fun u r => r, s.k1, q⟩⟩
instance z_so2 [S : Sy G L H] [D : DsT G d] [T : XC K mg x gs] [s : XS K mg x j] : Stp (rIsX K (.ref (clsA mg x)) d a [.ref a, .ref (clsA mg "There")] H Q) (Q (.bl (decide (2 = j))) H) := ⟨fun q => ⟨_, .ref _, .ref _, _, rfl, T.I, D.st S, rfl, fun u r => r, s.k2, q⟩⟩
instance z_so3 [S : Sy G L H] [D : DsT G d] [T : XC K mg x gs] [s : XS K mg x j] : Stp (rIsX K (.ref (clsA mg x)) d a [.ref a, .ref (clsA mg "NotThere")] H Q) (Q (.bl (decide (3 = j))) H) := ⟨fun q => ⟨_, .ref _, .ref _, _, rfl, T.I, D.st S, rfl, fun u r => r, s.k3, q⟩⟩
instance z_so4 [S : Sy G L H] [D : DsT G d] [T : XC K mg x gs] [s : XS K mg x j] : Stp (rIsX K (.ref (clsA mg x)) d a [.ref a, .ref (clsA mg "Unkept")] H Q) (Q (.bl (decide (4 = j))) H) := ⟨fun q => ⟨_, .ref _, .ref _, _, rfl, T.I, D.st S, rfl, fun u r => r, s.k4, q⟩⟩
instance z_so5 [S : Sy G L H] [D : DsT G d] [T : XC K mg x gs] [s : XS K mg x j] : Stp (rIsX K (.ref (clsA mg x)) d a [.ref a, .ref (clsA mg "Unlike")] H Q) (Q (.bl (decide (5 = j))) H) := ⟨fun q => ⟨_, .ref _, .ref _, _, rfl, T.I, D.st S, rfl, fun u r => r, s.k5, q⟩⟩
instance z_so6 [S : Sy G L H] [D : DsT G d] [T : XC K mg x gs] [s : XS K mg x j] : Stp (rIsX K (.ref (clsA mg x)) d a [.ref a, .ref (clsA mg "NoText")] H Q) (Q (.bl (decide (6 = j))) H) := ⟨fun q => ⟨_, .ref _, .ref _, _, rfl, T.I, D.st S, rfl, fun u r => r, s.k6, q⟩⟩
instance z_so7 [S : Sy G L H] [D : DsT G d] [T : XC K mg x gs] [s : XS K mg x j] : Stp (rIsX K (.ref (clsA mg x)) d a [.ref a, .ref (clsA mg "NoRow")] H Q) (Q (.bl (decide (7 = j))) H) := ⟨fun q => ⟨_, .ref _, .ref _, _, rfl, T.I, D.st S, rfl, fun u r => r, s.k7, q⟩⟩
instance z_so8 [S : Sy G L H] [D : DsT G d] [T : XC K mg x gs] [s : XS K mg x j] : Stp (rIsX K (.ref (clsA mg x)) d a [.ref a, .ref (clsA mg "NoPlan")] H Q) (Q (.bl (decide (8 = j))) H) := ⟨fun q => ⟨_, .ref _, .ref _, _, rfl, T.I, D.st S, rfl, fun u r => r, s.k8, q⟩⟩
instance z_so9 [S : Sy G L H] [D : DsT G d] [T : XC K mg x gs] [s : XS K mg x j] : Stp (rIsX K (.ref (clsA mg x)) d a [.ref a, .ref (clsA mg "TooMany")] H Q) (Q (.bl (decide (9 = j))) H) := ⟨fun q => ⟨_, .ref _, .ref _, _, rfl, T.I, D.st S, rfl, fun u r => r, s.k9, q⟩⟩
instance z_soV [S : Sy G L H] [D : DsT G d] [T : XC K mg x gs] [s : XS K mg x j] : Stp (rIsX K (.ref (clsA mg x)) d a [.ref a, .ty "ValueError"] H Q) (Q (.bl true) H) := ⟨fun q => ⟨_, .ty _, .type _, _, rfl, T.I, D.st S, rfl, fun u r => r, s.v, q⟩⟩
end
/-- a list of truths -/
class BlL (xs : List V) (bs : outParam (List Bool)) : Prop where
  e : xs = bs.map V.bl
instance blL0 : BlL [] [] := ⟨rfl⟩
instance blLC {b : Bool} {xs : List V} {bs : List Bool} [h : BlL xs bs] : BlL (.bl b :: xs) (b :: bs) := ⟨by rw [h.e]; rfl⟩
instance blLA {xs ys : List V} {bs cs : List Bool} [h : BlL xs bs] [k : BlL ys cs] : BlL (xs ++ ys) (bs ++ cs) := ⟨by rw [h.e, k.e, List.map_append]⟩
section
variable {K : PySem.W.Frag} {H : Hp} {Q : VK} {a : Addr} {xs : List V} {bs : List Bool}
theorem dpa_bl : ∀ (bs : List Bool), DpAll K H (bs.map V.bl) (bs.map PyData.bool)
  | [] => .nil
  | b :: bs => .cons (.bl b) (dpa_bl bs)
theorem plain_bl : ∀ (bs : List Bool), PyData.plainAll (bs.map PyData.bool) = true
  | [] => rfl
  | b :: bs => by rw [List.map_cons, PyData.plainAll, plain_bl bs]; rfl
theorem cnt_bl : ∀ (bs : List Bool), (bs.map PyData.bool).countP (fun z => PyData.eqv z (.bool true)) = bs.count true
  | [] => rfl
  | b :: bs => by
    rw [List.map_cons, List.countP_cons, List.count_cons, cnt_bl bs]
    cases b <;> rfl
instance z_cntB [h : HL K H a xs] [r : BlL xs bs] : Stp (rCntD K (.ref a) [.bl true] H Q) (Q (.int ((bs.count true : Nat) : Int)) H) := ⟨fun q => by
  have hh := h.h
  rw [r.e] at hh
  exact ⟨a, .bl true, .bool true, bs.map PyData.bool, rfl, rfl, .lst hh (dpa_bl bs), .bl true, plain_bl bs, rfl, by decide, by rw [cnt_bl]; exact q⟩⟩
instance z_ixB [h : HL K H a xs] [r : BlL xs bs] : Stp (rIndex K (.ref a) [.bl true] H Q) (∃ j : Nat, bs[j]? = some true ∧ (∀ m, m < j → bs[m]? ≠ some true) ∧ Q (.int (j : Nat)) H) := ⟨fun ⟨j, h1, h2, q⟩ => by
  have hh := h.h
  rw [r.e] at hh
  refine ⟨a, bs.map V.bl, .bl true, j, .bl true, rfl, rfl, hh, rfl, ?_, by rw [List.getElem?_map, h1]; rfl, rfl, fun m z' hm e => ?_, q⟩
  · rw [List.all_map]; exact List.all_eq_true.mpr fun b _ => rfl
  · rw [List.getElem?_map] at e
    cases e2 : bs[m]? with
    | none => rw [e2] at e; cases e
    | some b =>
      rw [e2] at e
      cases e
      cases b with
      | true => exact absurd e2 (h2 m hm)
      | false => rfl⟩
end
end Hw





/-! Hw7: work while exceptions are handled, one behind another along their contexts (none, one or two of them). -/
namespace Hw
open PySem PySem.Spec PyProof.Rows L2
abbrev Hnd := List (Addr × Obj)
/-- v stands as the context of the exception o -/
def CtxV (v : Value) (o : Obj) : Prop := ∃ vs : Array Value, o.data = .fields vs ∧ vs[2]? = some v
theorem CtxV.steady {v : Value} : PXN.Steady1 (CtxV v) := fun o y ⟨vs, dat, c⟩ => ⟨_, Obj.data_mapFields dat _, HotX.set_other (by decide) c⟩
def hdV : Hnd → Value
  | [] => .none
  | p :: _ => .ref p.1
def hdO : Hnd → Option Value
  | [] => none
  | p :: _ => some (.ref p.1)
inductive Links : Hnd → Prop
  | nil : Links []
  | one {p : Addr × Obj} (c : CtxV .none p.2) : Links [p]
  | two {p q : Addr × Obj} (c : CtxV (.ref q.1) p.2) (n : p.1 ≠ q.1) (e : CtxV .none q.2) : Links [p, q]
/-- hs are the exceptions that are handled: the first one is in hand, the next one is its context -/
structure HotL (A : Around) (hs : Hnd) : Prop where
  hh : A.handled = hdO hs
  ln : Links hs
def AllAt (g : Heap) (hs : Hnd) : Prop := ∀ p ∈ hs, g.get? p.1 = some p.2
theorem Links.dat {hs : Hnd} (l : Links hs) {p : Addr × Obj} (hp : p ∈ hs) : ∃ v, CtxV v p.2 := by
  cases l with
  | nil => cases hp
  | one c => rw [List.mem_singleton.mp hp]; exact ⟨_, c⟩
  | two c n e =>
    rcases List.mem_cons.mp hp with z | z
    · rw [z]; exact ⟨_, c⟩
    · rw [List.mem_singleton.mp z]; exact ⟨_, e⟩
theorem HotL.in1 {A : Around} {hs : Hnd} (L : HotL A hs) : HotL A.in1 hs := ⟨L.hh, L.ln⟩
theorem HotL.deeper {A : Around} {hs : Hnd} (L : HotL A hs) (env : Env) : HotL (A.deeper env) hs := ⟨L.hh, L.ln⟩
theorem uc_plain : plainId "proto.unchain" = true := by decide +kernel
section
variable {prog : Program} {w : World} {A : Around} {E : Value → Shared → Prop} {s : Shared}
theorem unchained2 {a x y : Addr} {ox oy : Obj} {vx vy : Array Value} {Q : Value → Shared → Prop} (gx : s.heap.get? x = some ox) (dx : ox.data = .fields vx) (cx : vx[2]? = some (.ref y)) (gy : s.heap.get? y = some oy) (dy : oy.data = .fields vy) (cy : vy[2]? = some .none)
    (na : y ≠ a) (nx : x ≠ y) (q : Q .none s) : wpAny (model prog w) A (holding [Value.ref a] (runValue (.builtin "proto.unchain" ⟨[.ref a, .ref x, .ref x, .bool false], []⟩))) Q E s := by
  apply wpAny_holding
  apply wpAny_runValue
  refine codeAny_builtin HotX.entry_unchain ?_
  rw [Around.under_plainId uc_plain _]
  show wpAny (model prog w) A.in1 (field (.ref x) 2 >>= _) _ _ s
  refine wpAny_bind (wpAny_field gx dx cx ?_)
  rw [if_neg (by exact Bool.false_ne_true : ¬ ((Value.ref y == Value.none) = true))]
  have n1 : ¬ ((Value.ref y == Value.ref a) = true) := fun z => na (Value.ref.inj (eq_of_beq z))
  have n2 : ¬ ((Value.ref y == Value.ref x) = true) := fun z => nx (Value.ref.inj (eq_of_beq z)).symm
  rw [if_neg n1, if_neg n2, if_neg Bool.false_ne_true]
  refine wpAny_bind (wpAny_pure (wpAny_pure ⟨plainId_quiet uc_plain _, codeAny_builtin HotX.entry_unchain ?_⟩))
  rw [Around.under_plainId uc_plain _]
  show wpAny (model prog w) A.in1 (field (.ref y) 2 >>= _) _ _ s
  refine wpAny_bind (wpAny_field gy dy cy ?_)
  rw [if_pos (show (Value.none == Value.none) = true from rfl)]
  first
    | exact wpAny_bind (wpAny_pure (wpAny_pure q))
    | exact wpAny_pure q
theorem raiseNewL {α : Type} {a : Addr} {oe : Obj} {vs : Array Value} {Q : α → Shared → Prop} {hs : Hnd} (L : HotL A hs) (at_ : AllAt s.heap hs) (far : ∀ p ∈ hs, p.1 ≠ a) (ga : s.heap.get? a = some oe) (da : oe.data = .fields vs) (c : vs[2]? = some .none)
    (q : ∀ g o2, (∀ b, b ≠ a → g.get? b = s.heap.get? b) → g.get? a = some o2 → o2.cls = oe.cls → o2.dict = oe.dict → (∃ v2, o2.data = .fields v2 ∧ v2[1]? = vs[1]? ∧ v2[2]? = some (hdV hs)) → E (.ref a) { s with heap := g }) :
    wpAny (model prog w) A (raiseNew (.ref a) : Sem α) Q E s := by
  obtain ⟨hh, ln⟩ := L
  have two : 2 < vs.size := (Array.getElem?_eq_some_iff.mp c).1
  have put : ∀ x : Addr, E (.ref a) { s with heap := s.heap.update a (Obj.mapFields (·.setIfInBounds 2 (.ref x))) } ∨ ¬ hdV hs = .ref x := fun x => by
    by_cases e : hdV hs = .ref x
    · refine .inl (q _ _ (fun b nb => Heap.get?_update_other _ _ (Ne.symm nb)) (Heap.get?_update_self _ ga (Obj.isFreed_of_fields (Obj.data_mapFields da _))) (Obj.cls_mapFields ..) (PySem.HandSPX.dict_mapFields ..) ⟨_, Obj.data_mapFields da _, ?_, ?_⟩)
      · simp [Array.getElem?_setIfInBounds]
      · rw [e]; simp [Array.getElem?_setIfInBounds, two]
    · exact .inr e
  cases ln with
  | nil =>
    unfold raiseNew
    apply wpAny_bind
    apply wpAny_handled
    rw [hh]
    exact wpAny_bind (wpAny_pure (wpAny_throw (q s.heap oe (fun _ _ => rfl) ga rfl rfl ⟨vs, da, rfl, c⟩)))
  | @one p cp =>
    obtain ⟨v1, d1, c1⟩ := cp
    exact HotX.raiseNew_hot ⟨hh, p.2, v1, at_ p List.mem_cons_self, d1, c1⟩ (far p List.mem_cons_self) ga da two ((put p.1).resolve_right fun z => z rfl)
  | @two p r cp n cr =>
    obtain ⟨v1, d1, c1⟩ := cp
    obtain ⟨v2, d2, c2⟩ := cr
    have mr : r ∈ [p, r] := List.mem_cons_of_mem _ List.mem_cons_self
    have end_ := unchained2 (prog := prog) (w := w) (A := A) (E := E) (s := s) (a := a) (Q := fun _ st => wpAny (model prog w) A (updateField a 2 (.ref p.1)) (fun _ st2 => wpAny (model prog w) A (throw (.ref a) : Sem α) Q E st2) E st) (at_ p List.mem_cons_self) d1 c1 (at_ r mr) d2 c2 (far r mr) n
      (HotX.chained ga da two (wpAny_throw ((put p.1).resolve_right fun z => z rfl)))
    unfold raiseNew
    apply wpAny_bind
    apply wpAny_handled
    rw [hh]
    have ne : (Value.ref p.1 != Value.ref a) = true := HotX.ref_bne (far p List.mem_cons_self)
    first
      | (show wpAny _ _ (if (Value.ref p.1 != Value.ref a) = true then _ else _) _ _ _
         rw [if_pos ne]
         first
         | exact wpAny_bind (wpAny_mono end_ (fun _ _ z => wpAny_bind z) fun _ _ z => z)
         | exact wpAny_bind (wpAny_bind end_))
      | (refine wpAny_bind ?_
         show wpAny _ _ (if (Value.ref p.1 != Value.ref a) = true then _ else _) _ _ _
         rw [if_pos ne]
         exact wpAny_bind end_)
/-- the end of an iterator: a StopIteration is made and raised -/
theorem stopL {α : Type} {Q : α → Shared → Prop} {hs : Hnd} (L : HotL A hs) (at_ : AllAt s.heap hs)
    (q : ∀ g e, (∀ b o, s.heap.get? b = some o → g.get? b = some o) → (∃ o, g.get? e = some o ∧ o.cls = .type "StopIteration") → E (.ref e) { s with heap := g }) :
    wpAny (model prog w) A (newExc (.type "StopIteration") [] >>= fun v => (raiseNew v : Sem α)) Q E s := by
  apply wpAny_bind
  simp only [newExc, newTuple]
  refine wpAny_bind (wpAny_newObj_type ?_ (by size_fits))
  refine wpAny_bind (m := firstArgMember _ _) (wpAny_of_eq (a := Value.none) (by first | rfl | (simp only [firstArgMember]; rfl)) (wpAny_newObj_type ?_ (by size_fits)))
  have up : ∀ {b : Addr} {o u v : Obj}, s.heap.get? b = some o → ((s.heap.push u).push v).get? b = some o := fun z => Heap.get?_push_of_some _ (Heap.get?_push_of_some _ z)
  have lt : ∀ {b : Addr} {o u : Obj}, s.heap.get? b = some o → b ≠ (s.heap.push u).objs.size := fun z => Nat.ne_of_lt (Heap.lt_size (Heap.get?_push_of_some _ z))
  exact raiseNewL L (fun p hp => up (at_ p hp)) (fun p hp => lt (at_ p hp)) (Heap.get?_push_size _ rfl) rfl rfl fun g o2 same ge cl _ _ => q g _ (fun b o z => (same b (lt z)).trans (up z)) ⟨o2, ge, cl⟩
theorem AllAt.turned {itr : Addr} {f : Obj → Obj} {hs : Hnd} (L : HotL A hs) {oi : Obj} {vi : Array Value} (gi : s.heap.get? itr = some oi) (di : oi.data = .fields vi) (short : vi[2]? = none) (at_ : AllAt s.heap hs) : AllAt (s.heap.update itr f) hs := fun p hp => by
  have ne : itr ≠ p.1 := fun z => by
    obtain ⟨v, vs, dat, c⟩ := L.ln.dat hp
    have e := at_ p hp
    rw [← z, gi] at e
    cases e
    rw [di] at dat
    cases dat
    rw [short] at c
    cases c
  exact (Heap.get?_update_other _ _ ne).trans (at_ p hp)
theorem range_endL {itr : Addr} {x left step : Int} {Q : Option Value → Shared → Prop} {hs : Hnd} (L : HotL A hs) (at_ : AllAt s.heap hs) (gi : IsRangeIter s.heap itr x left step) (over : left ≤ 0)
    (q : ∀ g, (∀ b o, s.heap.get? b = some o → g.get? b = some o) → Q none { s with heap := g }) : wpAny (model prog w) A (pyNext (.ref itr)) Q E s := by
  have isR : s.TypeIs (.ref itr) "range_iterator" := ⟨_, gi, rfl⟩
  unfold pyNext
  refine wpAny_bind (wpAny_attempt (wpAny_callSpecial?_slot (name := Str.ofString "__next__") isR F.slot_range_iterator_next (wpAny_call_entry F.slot_range_iterator_next isR F.entry_range_iterator_next ?_ (F.args_range_iterator_next_1 _))))
  show wpAny (model prog w) A.in1 (field (.ref itr) 0 >>= _) _ _ s
  refine wpAny_bind (wpAny_field gi rfl (x := rawInt x) rfl ?_)
  show wpAny (model prog w) A.in1 (field (.ref itr) 1 >>= _) _ _ s
  refine wpAny_bind (wpAny_field gi rfl (x := rawInt left) rfl ?_)
  show wpAny (model prog w) A.in1 (field (.ref itr) 2 >>= _) _ _ s
  refine wpAny_bind (wpAny_field gi rfl (x := rawInt step) rfl ?_)
  show wpAny (model prog w) A.in1 (if left ≤ 0 then _ else _) _ _ s
  rw [if_pos over]
  apply wpAny_bind
  apply wpAny_rule
  apply wpAny_bind
  refine stopL L.in1 at_ fun g e up is => ?_
  obtain ⟨o, ge, co⟩ := is
  exact wpAny_bind (wpAny_isInstance (T := "StopIteration") (b := true) ⟨o, ge, co⟩ isSubtype_stop (wpAny_pure (q g up)))
theorem tup_endL {itr t : Addr} {i : Nat} {its : Array Value} {Q : Option Value → Shared → Prop} {hs : Hnd} (L : HotL A hs) (at_ : AllAt s.heap hs) (at_i : IsTupIter s.heap itr t i) (at_t : IsTup s.heap t its) (out : its[i]? = none)
    (q : ∀ g, Heap.ExtBut itr s.heap g → Q none { s with heap := g }) : wpAny (model prog w) A (pyNext (.ref itr)) Q E s := by
  obtain ⟨oi, gi, ci, di⟩ := id at_i
  obtain ⟨ot, gt, _, nt, dt⟩ := at_t
  unfold pyNext
  refine wpAny_bind (wpAny_attempt (wpAny_callSpecial?_slot (name := Str.ofString "__next__") at_i.typeIs slot_tupleiter_next (wpAny_call_entry slot_tupleiter_next at_i.typeIs entry_tupleiter_next ?_ (args_tupleiter_next _))))
  show wpAny (model prog w) A.in1 (field (.ref itr) 0 >>= _) _ _ s
  refine wpAny_bind (wpAny_field gi di (x := .ref t) rfl ?_)
  show wpAny (model prog w) A.in1 (if (Value.ref t == Value.none) = true then _ else _) _ _ s
  rw [if_neg (by exact Bool.false_ne_true : ¬ ((Value.ref t == Value.none) = true))]
  show wpAny (model prog w) A.in1 (field (.ref itr) 1 >>= _) _ _ s
  refine wpAny_bind (wpAny_field gi di (x := .int i 0) rfl ?_)
  show wpAny (model prog w) A.in1 (seqItems? (.ref t) >>= _) _ _ s
  refine wpAny_bind (wpAny_seqItems gt dt ?_)
  simp only [Int.toNat_natCast, out]
  refine wpAny_bind (wpAny_rule (wpAny_bind (wpAny_setField gi di (by simp) ?_)))
  refine stopL (s := { s with heap := _ }) L.in1 (AllAt.turned L.in1 gi di rfl at_) fun g e up is => ?_
  obtain ⟨o, ge, co⟩ := is
  refine wpAny_bind (wpAny_isInstance (T := "StopIteration") (b := true) ⟨o, ge, co⟩ isSubtype_stop (wpAny_pure (q g fun b ob nb z => up b ob ?_)))
  exact (Heap.get?_update_other _ _ (Ne.symm nb)).trans z
theorem enum_endL {e it l : Addr} {i : Nat} {its : Array Value} {old : Value} {j : Int} {Q : Option Value → Shared → Prop} {hs : Hnd} (L : HotL A hs) (at_ : AllAt s.heap hs) (at_e : IsEnum s.heap e it j old) (at_i : s.heap.IsListIter it l i) (at_l : s.heap.IsList l its) (out : its[i]? = none)
    (q : ∀ g, Heap.ExtBut it s.heap g → Q none { s with heap := g }) : wpAny (model prog w) A (pyNext (.ref e)) Q E s := by
  have isE : s.TypeIs (.ref e) "enumerate" := ⟨_, at_e, rfl⟩
  obtain ⟨oi, gi, ci, di⟩ := id at_i
  obtain ⟨ol, gl, _, nl, dl⟩ := at_l
  unfold pyNext
  refine wpAny_bind (wpAny_attempt (wpAny_callSpecial?_slot (name := Str.ofString "__next__") isE F.slot_enumerate_next (wpAny_call_entry F.slot_enumerate_next isE F.entry_enumerate_next ?_ (F.args_enumerate_next_1 _))))
  show wpAny (model prog w) A.in1 (field (.ref e) 2 >>= _) _ _ s
  refine wpAny_bind (wpAny_field at_e rfl (x := .ref it) rfl ?_)
  apply wpAny_bind
  unfold Builtin.SmallTypes.nextOf
  refine wpAny_bind (wpAny_callSpecial?_slot (name := Str.ofString "__next__") at_i.typeIs slot_listiter_next (wpAny_call_entry slot_listiter_next at_i.typeIs entry_listiter_next ?_ (args_listiter_next _)))
  show wpAny (model prog w) A.in1.in1 (field (.ref it) 0 >>= _) _ _ s
  refine wpAny_bind (wpAny_field gi di (x := .ref l) rfl ?_)
  show wpAny (model prog w) A.in1.in1 (if (Value.ref l == Value.none) = true then _ else _) _ _ s
  rw [if_neg (by exact Bool.false_ne_true : ¬ ((Value.ref l == Value.none) = true))]
  show wpAny (model prog w) A.in1.in1 (field (.ref it) 1 >>= _) _ _ s
  refine wpAny_bind (wpAny_field gi di (x := .int i 0) rfl ?_)
  show wpAny (model prog w) A.in1.in1 (seqItems? (.ref l) >>= _) _ _ s
  refine wpAny_bind (wpAny_seqItems gl dl ?_)
  simp only [Int.toNat_natCast, out]
  refine wpAny_bind (wpAny_rule (wpAny_bind (wpAny_setField gi di (by simp) ?_)))
  refine stopL (s := { s with heap := _ }) L.in1.in1 (AllAt.turned L.in1.in1 gi di rfl at_) fun g x up is => ?_
  obtain ⟨o, ge, co⟩ := is
  refine wpAny_bind (wpAny_isInstance (T := "StopIteration") (b := true) ⟨o, ge, co⟩ isSubtype_stop (wpAny_pure (q g fun b ob nb z => up b ob ?_)))
  exact (Heap.get?_update_other _ _ (Ne.symm nb)).trans z
theorem unpack_tupL {t : Addr} {its : Array Value} {targets : List (Bool × (Value → Sem Unit))} {Q : Unit → Shared → Prop} {hs : Hnd} (L : HotL A hs) (at_ : AllAt s.heap hs) (at_t : IsTup s.heap t its) (many : targets.length = its.size) (plain : targets.findIdx? (·.1) = none)
    (q : ∀ g, Heap.ExtBut s.heap.objs.size s.heap g → wpAny (model prog w) A (assignInOrder (targets.map (·.2)) its.toList) Q E { s with heap := g }) : wpAny (model prog w) A (unpack (.ref t) targets) Q E s := by
  have old : t ≠ s.heap.objs.size := by obtain ⟨ot, gt, _⟩ := at_t; exact Nat.ne_of_lt (Heap.lt_size gt)
  unfold unpack
  rw [many, plain]
  apply wpAny_bind
  apply wpAny_holding
  unfold unpackItems
  apply wpAny_bind
  unfold notIterableAtAll
  refine wpAny_bind (wpAny_specialOf at_t.typeIs slot_tuple_iter.lookup (wpAny_pure ?_))
  simp only [Bool.false_eq_true, if_false]
  refine wpAny_bind (wpAny_holding (iter_tuple at_t (wpAny_bind (wpAny_holding (draw_tuple old its.size 0 _ _ ⟨_, Heap.get?_push_size _ rfl, rfl, rfl⟩ (at_t.push _) (by omega) fun g1 iter1 but1 => ?_)))))
  have whole : List.take its.size (List.drop 0 its.toList) = its.toList := List.take_of_length_le (by simp)
  rw [whole, if_neg (by simp)]
  have up1 : ∀ b o, s.heap.get? b = some o → g1.get? b = some o := fun b o z => but1.extBut b o (Nat.ne_of_lt (Heap.lt_size z)) (Heap.get?_push_of_some _ z)
  refine wpAny_bind (wpAny_holding (tup_endL (s := { s with heap := g1 }) L (fun p hp => up1 _ _ (at_ p hp)) iter1 ((at_t.push _).extBut but1.extBut old) (by simp) fun g2 but2 => ?_))
  simp only [Option.isSome_none, Bool.false_eq_true, if_false]
  exact wpAny_pure (q g2 fun b o nb z => but2 b o nb (but1.extBut b o nb (Heap.get?_push_of_some _ z)))
end
/-- the exceptions hs are handled, and pinned -/
structure HotK (X : Cx) (hs : Hnd) : Prop where
  L : HotL X.A hs
  sub : ∀ p ∈ hs, p ∈ X.pn
theorem HotK.at_ {X : Cx} {hs : Hnd} (k : HotK X hs) {pins : List (Addr × Obj)} {σ : L2.St} {H : Hp} {s : Shared} (I : Inv X pins σ H s) : AllAt s.heap hs := fun p hp => (I.pin p (List.mem_append_left _ (k.sub p hp))).1
section
variable {X : Cx} {hs : Hnd}
theorem pg_tupK {es : List Expr} {k n : Nat} {t : TGs} {pos : Pos} (hk : HotK X hs) (h : PGs X es t) (hn : (assignEach es X.env).length = n := by rfl) (hst : (assignEach es X.env).findIdx? (·.1) = none := by rfl) : PG X (.Tuple es k pos) (gTup X.K n t) := by
  constructor
  rintro pins s σ H v u Q I r ⟨a, xs, rfl, hq, hl, hw⟩
  cases r
  obtain ⟨its, rv, tup, few⟩ := I.tuple hq
  rw [assign_Tuple]
  refine wpAny_bind (wpAny_standAt (unpack_tupL hk.L (hk.at_ I) tup (by simp [hn, ← hl, rv.length]) hst fun g but => ?_))
  refine h.run pins { s with heap := g } σ H xs _ Q (I.kept (t' := s.toks) fun b o z => but b o (Nat.ne_of_lt (Heap.lt_size z)) z) ?_ hw
  simpa using rv
end
end Hw





/-! Hw8: raising and catching while exceptions are handled: the new one's context is known. -/
namespace Hw
open PySem PySem.Spec PyProof.Rows L2
/-- the exception u bears the context v -/
def Bears (v u : Value) (st : Shared) : Prop := ∀ x o, u = .ref x → st.heap.get? x = some o → CtxV v o
def AirV (v : Value) (X : Cx) (W : WX) (u : Value) (st : Shared) : Prop := L2.XE X W u st ∧ Bears v u st
def TakesV (v : Value) (X : Cx) (W : WX) : Prop := ∀ u st, AirV v X W u st → X.xe u st
def CXV (P : Program) (w : World) (v : Value) : CXT := fun outer H s E u st => L2.CX P w outer H s E u st ∧ Bears v u st
abbrev ZV (v cls : Value) (d : Option Addr) : Obj → Prop := fun o => Zc cls d o ∧ CtxV v o
theorem zv_steady {v cls : Value} {d : Option Addr} : PXN.Steady1 (ZV v cls d) := PXN.steady_and (fun o _ z => Zc.steady o _ z) CtxV.steady
theorem traced_and {h B : Heap} {a : Addr} {Z Z' : Obj → Prop} {fl : Value} (t : PySem.HandSPX.TracedZ h B a Z fl) (m : ∀ o, h.get? a = some o → Z' o) : PySem.HandSPX.TracedZ h B a (fun o => Z o ∧ Z' o) fl := by
  obtain ⟨ob, vs, T, oT, ts, g, z, r⟩ := t
  exact ⟨ob, vs, T, oT, ts, g, ⟨z, m ob g⟩, r⟩
theorem sky_and {B h : Heap} {l : List Env} {a L : Addr} {Z Z' : Obj → Prop} (k : Sky B l a Z L h) (m : ∀ o, h.get? a = some o → Z' o) : Sky B l a (fun o => Z o ∧ Z' o) L h := by
  rcases k with ⟨k1, k2, k3, ob, vs, g, z, r⟩ | ⟨k1, k2, k3, t⟩ | ⟨k1, k2, k3, t⟩
  · exact .inl ⟨k1, k2, k3, ob, vs, g, ⟨z, m ob g⟩, r⟩
  · exact .inr (.inl ⟨k1, k2, k3, traced_and t m⟩)
  · exact .inr (.inr ⟨k1, k2, k3, traced_and t m⟩)
theorem takesV_of_takes {v : Value} {X : Cx} {W : WX} (tk : L2.Takes X W) : TakesV v X W := fun u st x => tk u st x.1
section
variable {X : Cx} {W : WX} {v : Value} {st : Shared}
/-- it leaves the def -/
theorem AirV.leave {E : XK} {E₁ : Value → Shared → Prop} {u : Value} (hst : X.stack = X.env :: X.outer) (hlo : X.env.frame = some X.env.locals) (hex : X.ex = []) (hW : ∀ cls d fr hp, W cls d fr hp → E cls d hp) (air : AirV v X W u st) :
    wpAny (model X.prog X.w) X.A (leaving X.env u) (fun _ st2 => CXV X.prog X.w v X.outer X.H_0 X.s_0 E u st2) E₁ st := by
  obtain ⟨⟨x, B, sI, keep, fr, hp, cls, d, rfl, inv, nb, up, sky, free, os, ag, w⟩, bears⟩ := air
  have sky2 := sky_and (Z' := CtxV v) sky fun o g => bears x o rfl g
  have frs0 : X.A.frames = some (X.env :: X.outer) := inv.ok.frames.trans (by rw [hst])
  have noEx : ∀ b, b ∉ X.ex := fun b m => by rw [hex] at m; cases m
  have below : ∀ {b : Addr} {o : Obj}, X.s_0.heap.get? b = some o → b ∉ X.fs → b ∉ frs X.stack := fun {b o} g nf m => by
    rcases List.mem_cons.mp (inv.stkSub b m) with z | z
    · exact absurd (Heap.lt_size g) (Nat.not_lt.mpr (by rw [z]; exact inv.ok.above))
    · exact nf z
  have out : ∀ g, PySem.HandSPX.FlyingZ B X.outer x (ZV v cls d) g → st.heap.UpToSlots g → CXV X.prog X.w v X.outer X.H_0 X.s_0 E (.ref x) { st with heap := g } := fun g fly more => by
    constructor
    · refine ⟨x, B, hp, cls, d, rfl, L2H.flyingZ_imp (fun _ z => z.1) fly, inv.inGround nb, ?ub, free, os.trans inv.os, ag, hW _ _ _ _ w⟩
      constructor
      case keep => exact fun b o g0 n nf => nb b o (inv.base.keep b o g0 n nf (noEx b)) (below g0 nf)
      case slot =>
        intro b o g0 m
        obtain ⟨_, o', g0', noF⟩ := inv.ok.funs.mem m
        cases g0.symm.trans g0'
        obtain ⟨s1, e1⟩ := inv.base.slot b o g0 (inv.ok.frf b m) m (noEx b)
        obtain ⟨s2, e2⟩ := up b _ e1 noF
        obtain ⟨s3, e3⟩ := more b _ e2 noF
        exact ⟨s3, e3⟩
      case free => exact fun b o g0 n => inv.base.free b o g0 n (noEx b)
      case there =>
        intro b o g0 nf
        obtain ⟨o', e1⟩ := inv.base.there b o g0 (noEx b)
        exact ⟨o', nb b o' e1 (below g0 nf)⟩
      case tups => exact inv.base.tups
      case frzs => exact inv.base.frzs
      case tbls => exact inv.base.tbls
    · intro y o e g0
      cases e
      obtain ⟨ob, _, g1, z, _⟩ := fly.there
      cases g1.symm.trans g0
      exact z.2
  rw [hst] at sky2
  rcases sky2 with ⟨k1, k2, k3, ob, vs, g, z, dat, f1⟩ | fly | held
  · exact PXN.leaving_firstZ zv_steady frs0 k3 hlo g k1 k2 dat f1 z out
  · exact PXN.leaves_onZ zv_steady frs0 hlo fly out
  · exact PySem.HandSPX.leaves_heldZ hlo held out
theorem takesV_of {E : XK} {E₁ : Value → Shared → Prop} (hst : X.stack = X.env :: X.outer) (hlo : X.env.frame = some X.env.locals) (hex : X.ex = []) (hx : X.xe = fun e st1 => wpAny (model X.prog X.w) X.A (leaving X.env e) (fun _ st2 => CXV X.prog X.w v X.outer X.H_0 X.s_0 E e st2) E₁ st1) :
    TakesV v X (fun cls d _ hp => E cls d hp) := fun u st1 air => by
  rw [hx]
  exact air.leave (E := E) hst hlo hex fun _ _ _ _ z => z
theorem passAtV (tk : TakesV v X W) (σ : L2.St) : PassesAt (CXV X.prog X.w v) X σ (WE W σ) := fun keep hp s e st1 inv c => tk e st1 ⟨XE.of_call inv (fun _ _ _ z => z) c.1, c.2⟩
theorem passAtV0 (σ : L2.St) : PassesAt (CXV X.prog X.w v) X σ E0 := fun keep hp s e st1 inv c => passAt0 (X := X) σ keep hp s e st1 inv c.1
end
/-- raise C(..): the thing is made, then raiseNew -/
theorem raise_with {M : Model} {A : Around} {E : Value → Shared → Prop} {env : Env} {s : Shared} {mk : Sem Value} {Q : Flow → Shared → Prop}
    (h : wpAny M A mk (fun u st => ∃ x ob vs cls, u = .ref x ∧ st.heap.get? x = some ob ∧ ob.cls = cls ∧ ob.data = .fields vs ∧ vs[1]? = some .none ∧ PySem.W.Looks M st.heap (isSubtype cls (.type "BaseException")) true ∧ PySem.W.Looks M st.heap (typeOf cls) (.type "type") ∧
      wpAny M A (raiseNew (.ref x) : Sem Flow) Q E st) E s) : wpAny M A (raiseStmt env (some mk) none) Q E s := by
  unfold raiseStmt
  dsimp only
  apply wpAny_bind
  refine wpAny_mono h (fun u st how => ?_) fun _ _ z => z
  obtain ⟨x, ob, vs, cls, rfl, g, hc, dat, f1, sub, ty, fin⟩ := how
  have looks : PySem.W.Looks M st.heap (typeOf (.ref x)) cls := fun _ _ _ _ k q => wpAny_typeOf_ref (k _ _ g) (by rw [hc]; exact q)
  have noType : ∀ {R : Bool → Shared → Prop}, R false st → wpAny M A (isType (.ref x)) R E st := by
    intro R r
    simp only [isType, loadHead]
    refine wpAny_bind (wpAny_loadPart g ?_)
    rw [dat]
    exact wpAny_pure r
  refine wpAny_bind (wpAny_pure ?_)
  dsimp only
  apply wpAny_bind
  apply wpAny_holding
  unfold excFromValue isExcClass
  refine wpAny_bind (wpAny_bind (noType ?_))
  simp only [Bool.false_eq_true, if_false]
  apply wpAny_pure
  simp only [Bool.false_eq_true, if_false]
  refine wpAny_bind ((looks.andThen sub).here ?_)
  simp only [if_true]
  apply wpAny_pure
  refine wpAny_bind (noType ?_)
  simp only [Bool.false_eq_true, if_false]
  unfold raisedInstance
  refine wpAny_bind (wpAny_bind (looks.here (wpAny_bind (ty.here ?_))))
  rw [if_pos (beq_self_eq_true _)]
  apply wpAny_pure
  unfold setFlight
  refine wpAny_bind (wpAny_bind (wpAny_field g dat f1 ?_))
  rw [if_neg (by decide)]
  exact wpAny_pure fin
section
variable {X : Cx} {hs : Hnd}
theorem ps_raiseK {W : WX} {e : Expr} {t : L2.St → Hp → XK → Prop} {pos : Pos} (hk : HotK X hs) (tk : TakesV (hdV hs) X W) (he : L2N.PMk X e t) : PS X (.Raise (some e) none pos) (tRz W t) := by
  constructor
  intro keep st0 fr0 hp0 D inv0 wish
  show wpAny _ _ (do standAt pos; raiseStmt X.env (some (do let v ← eval e X.env; standAt pos; pure v)) none) _ _ _
  refine wpAny_bind (wpAny_standAt (raise_with (wpAny_bind (wpAny_mono (he keep st0 fr0 hp0 _ inv0 wish) (fun u st1 how => wpAny_bind (wpAny_standAt (wpAny_pure ?_))) fun _ _ z => z))))
  obtain ⟨x, ob, vs, sI, hp1, cls, d, rfl, inv, up, new, g, z, dat, f1, free, os, ag, r, q⟩ := how
  obtain ⟨r1, r2⟩ := r (model X.prog X.w) st1.heap (inv.kIn.keeps up)
  have old : ∀ {b : Addr} {o : Obj}, sI.heap.get? b = some o → b ≠ x := fun g1 e => by rw [e, new] at g1; cases g1
  refine ⟨x, ob, vs, cls, rfl, g, z.1, dat, f1, r1, r2, raiseNewL hk.L (fun p hp => up _ _ (hk.at_ inv p hp)) (fun p hp => old (hk.at_ inv p hp)) g dat (z.2.2 vs dat) fun h2 o2 same g2 c2 d2 more => ?_⟩
  obtain ⟨v2, dat2, f2, ctx⟩ := more
  refine tk _ _ ⟨XE.new inv (fun b o gb => (same b (old gb)).trans (up b o gb)) new g2 ⟨c2.trans z.1, d2.trans z.2.1⟩ dat2 (f2.trans f1) free os ag q, fun y o ey gy => ?_⟩
  cases ey
  have gy : h2.get? x = some o := gy
  cases g2.symm.trans gy
  exact ⟨v2, dat2, ctx⟩
/-- hs and the one that has just been caught -/
theorem links_more {x : Addr} {ob : Obj} (l : Links hs) (few : hs.length ≤ 1) (c : CtxV (hdV hs) ob) (h : Heap) (gx : h.get? x = some ob) (at_ : AllAt h hs) : Links ((x, ob) :: hs) := by
  cases l with
  | nil => exact .one c
  | @one p cp =>
    refine .two c (fun z => ?_) cp
    have z : x = p.1 := z
    have g := at_ p List.mem_cons_self
    rw [← z, gx] at g
    cases g
    obtain ⟨v1, d1, c1⟩ := c
    obtain ⟨v2, d2, c2⟩ := cp
    cases d1.symm.trans d2
    cases c1.symm.trans c2
  | two => exact absurd few (by simp)
/-- no clause but this one, and it names what comes -/
abbrev wNo : WX := fun _ _ _ _ => False
theorem ps_try_asK {c : Value} {i : Nat} {nm n : Str} {body suite : List Stmt} {b₀ : Stmt} {np pos pos' : Pos} {tb : WX → TS} {ts : Addr → Value → Option Addr → TS} (hk : HotK X hs) (few : hs.length ≤ 1) (hst : X.stack = X.env :: X.outer) (hlo : X.env.frame = some X.env.locals) (nd : X.N.Nodup) (hi : X.N[i]? = some n) (hln : X.env.kindOf n = some .local) (hc : Names X nm c)
    (hb : ∀ (W : WX) (pn : Hnd) (xe : Value → Shared → Prop), TakesV (hdV hs) (X.tr pn xe) W → HotK (X.tr pn xe) hs → PassesOwn (model X.prog X.w) X.A X.env xe → PSs (X.tr pn xe) body (tb W))
    (hsu : ∀ (a : Addr) (oe : Obj) (cls : Value) (d : Option Addr) (pn : Hnd), Zc cls d oe → (∃ vs, oe.data = .fields vs) → HotK (X.suite a ((a, oe) :: pn)) ((a, oe) :: hs) → PSs (X.suite a ((a, oe) :: pn)) (b₀ :: suite) (ts a cls d)) :
    PS X (.Try body [.ExceptHandler (some (.Name nm np)) (some n) (b₀ :: suite) pos'] [] [] pos) (tTryAs X.K c i ts wNo tb) := by
  constructor
  intro keep st0 fr0 hp0 D inv0 wish
  have okx := inv0.ok
  have frs0 : X.A.frames = some (X.env :: X.outer) := okx.frames.trans (by rw [hst])
  have run0 := (hb (wAs X.K c i ts wNo D) (X.pn ++ keep) (fun e st1 => wpAny (model X.prog X.w) X.A (noteFrame e X.env) (fun _ st2 => wpAny (model X.prog X.w) X.A (setFlight e none)
    (fun _ st3 => wpAny (model X.prog X.w) X.A (handleBy e X.env [.ExceptHandler (some (.Name nm np)) (some n) (b₀ :: suite) pos']) (SP X keep D) X.xe st3) X.xe st2) X.xe st1) (fun e st1 flown => ?caught) ⟨hk.L, fun p hp => List.mem_append_left _ (hk.sub p hp)⟩ PassesOwn.looking).run [] st0 fr0 hp0 D (inv0.toTry _) wish
  case caught =>
    obtain ⟨⟨x, B, stI, _, fr, hp, cls, d, rfl, invT, nb, up, sky, free, os, ag, b, is, yes, no⟩, bears⟩ := flown
    have inv : Inv X keep fr hp stI := invT.ofTry okx
    have sky2 := sky_and (Z' := CtxV (hdV hs)) sky fun o g => bears x o rfl g
    show wpAny (model X.prog X.w) X.A (noteFrame (.ref x) X.env) _ _ _
    refine L2N.Sky.land zv_steady frs0 hlo (by rw [← hst]; exact sky2) fun heap1 fly1 up1 => ?_
    have land : ∀ {hh : Heap}, PySem.HandSPX.FlyingZ B (X.env :: X.outer) x (ZV (hdV hs) cls d) hh → st1.heap.UpToSlots hh → Inv X keep fr hp { st1 with heap := hh } := fun fly u => inv.landed nb fly.1 (up.trans u) os ag
    have outs : x ≠ X.env.locals ∧ x ∉ X.fs := by
      obtain ⟨ob1, _, at1, z1, dat1⟩ := fly1.there
      have inFrames : x ∉ frs (X.env :: X.outer) := fun m => by
        obtain ⟨_, ob, at2, noF⟩ := fly1.2.2.1.mem m
        cases at1.symm.trans at2
        exact noF _ dat1
      exact ⟨fun e => inFrames (List.mem_filterMap.mpr ⟨_, List.mem_cons_self, hlo.trans (congrArg some e.symm)⟩), fun m => by
        obtain ⟨en, hen, q⟩ := List.mem_filterMap.mp m
        exact inFrames (List.mem_filterMap.mpr ⟨en, List.mem_cons_of_mem _ hen, q⟩)⟩
    obtain ⟨notLoc, notOut⟩ := outs
    have inv1 := land fly1 up1
    obtain ⟨ob1, _, at1, z1, dat1⟩ := fly1.there
    have looks : PySem.W.Looks (model X.prog X.w) heap1 (typeOf (.ref x)) cls := fun _ _ _ _ g q => wpAny_typeOf_ref (g _ _ at1) (by rw [z1.1.1]; exact q)
    have named : ∀ {Q : Value → Shared → Prop} {E : Value → Shared → Prop}, Q c { st1 with heap := heap1 } → wpAny (model X.prog X.w) (X.A.mark (some (.ref x))) (eval (.Name nm np) X.env) Q E { st1 with heap := heap1 } := fun {Q E} q => by
      obtain ⟨gl, dbg, how⟩ := hc
      have inSuite := inv1.suite at1 dat1 free notLoc notOut
      rcases how with m | ⟨m, bt, ne⟩
      · exact ld_glob (X := X.suite x ((x, ob1) :: (X.pn ++ keep))) inSuite gl m q dbg
      · exact ld_blt (X := X.suite x ((x, ob1) :: (X.pn ++ keep))) inSuite gl m bt q ne dbg
    refine wpAny_handleBy_cons (codeAny_handlers_test (named ((PySem.W.exm_one (M := model X.prog X.w) inv1.kIn looks is).here ?_))) (fun q => nomatch q)
    cases b with
    | false => exact (no rfl).elim
    | true =>
      apply codeAny_handlers_suite_as
      refine PySem.HandSPX.lands_againZ fly1 fun heap2 fly2 up2 => ?_
      have inv2 := land fly2 (up1.trans up2)
      obtain ⟨ob2, _, at2, z2, dat2⟩ := fly2.there
      have hot2 : HotK (X.suite x ((x, ob2) :: (X.pn ++ keep))) ((x, ob2) :: hs) := ⟨⟨rfl, links_more hk.L.ln few z2.2 heap2 at2 (hk.at_ inv2)⟩, fun p hp => by
        rcases List.mem_cons.mp hp with z | z
        · rw [z]; exact List.mem_cons_self
        · exact List.mem_cons_of_mem _ (List.mem_append_left _ (hk.sub p z))⟩
      refine store_ok (X := X.suite x ((x, ob2) :: (X.pn ++ keep))) (v := .ref x) (inv2.suite at2 dat2 free notLoc notOut) nd hi (.inl hln) rfl (fun st4 i4 => ?_) (.inr hln)
      refine wpAny_mono ((hsu x ob2 cls d (X.pn ++ keep) z2.1 ⟨_, dat2⟩ hot2).run [] st4 _ hp _ i4 (yes rfl x free)) (fun f st5 how => ?_) (fun _ _ z => z.elim)
      cases f with
      | ret u => obtain ⟨v5, fr5, hp5, i5, r5, q5⟩ := how; exact gone_ok (i5.unsuite okx) nd hi hln fun _ i6 => ⟨_, _, _, i6, r5, q5⟩
      | _ => obtain ⟨fr5, hp5, i5, q5⟩ := how; exact gone_ok (i5.unsuite okx) nd hi hln fun _ i6 => ⟨_, _, i6, q5⟩
  refine wpAny_Try_except (wpAny_mono run0 (fun f st1 how => ?_) fun _ _ z => z)
  cases f with
  | next => obtain ⟨fr1, hp1, i1, q1⟩ := how; exact wpAny_execs_nil ⟨fr1, hp1, i1.ofTry okx, q1⟩
  | ret u => obtain ⟨v1, fr1, hp1, i1, r1, q1⟩ := how; exact ⟨v1, fr1, hp1, i1.ofTry okx, r1, q1⟩
  | _ => obtain ⟨fr1, hp1, i1, q1⟩ := how; exact ⟨fr1, hp1, i1.ofTry okx, q1⟩
end
end Hw





/-! Hw9: defs called, exceptions made, loops and comprehensions while exceptions are handled. -/
namespace Hw
open PySem PySem.Spec PyProof.Rows L2
abbrev SpK := Hnd → Sp
/-- what a def promises where hs are handled (m at most); what leaves it has the first of them as its context -/
structure FnK (P : Program) (w : World) (K : PySem.W.Frag) (mg : Str → Option Value) (base : Heap) (m k : Nat) (f : Addr) (fd : FuncData) (ps : List Str) (sp : SpK) : Prop where
  len : ∀ hs vs H Q E, sp hs vs H Q E → vs.length = ps.length
  run : ∀ (A : Around) (outer : List Env) (s : Shared) (H : Hp) (args : Args) (us : List Value) (vs : List V) (Q : VK) (E : XK) (hs : Hnd), hs.length ≤ m → L2H.RoomH k A → HotL A hs → (∀ p ∈ hs, L2H.PinOk outer H s p) → Env0 P w K mg base A outer s H → BindsTo s fd args (ps.zip us) → Vals vs us → sp hs vs H Q E →
    codeAny (model P w) A (.call (.ref f) args) (CR (CXV P w (hdV hs)) outer P w H s Q E) s
/-- where its body runs -/
def cxK (P : Program) (w : World) (K : PySem.W.Frag) (mg : Str → Option Value) (base : Heap) (N : List Str) (qual : Str) (scope : Scope) (f : Addr) (cd : Value) (A : Around) (outer : List Env) (s : Shared) (H : Hp) (E : XK) (hs : Hnd) : Cx :=
  { cxOf (CXV P w (hdV hs)) P w K mg base N qual scope f cd A outer s H E with calm := false, pn := hs }
theorem repin {X : Cx} {pins : Hnd} {σ : L2.St} {H : Hp} {s : Shared} {hs : Hnd} (I : Inv X pins σ H s) (more : ∀ p ∈ hs, s.heap.get? p.1 = some p.2 ∧ H p.1 = none ∧ p.1 ≠ X.env.locals ∧ p.1 ∉ X.fs ∧ ∀ v, p.2.data ≠ .cell v) : Inv { X with calm := false, pn := hs } [] σ H s := by
  obtain ⟨o1, o2, o3, o4, o5, o6, o7, o8, o9, o10, o11, o12, o13, o14, o15, o16, o17, o18⟩ := I.ok
  exact ⟨⟨o1, o2, o3, o4, o5, o6, o7, o8, (fun z => Bool.noConfusion (show false = true from z)), o10, o11, o12, o13, o14, o15, o16, o17, o18⟩, I.os, I.bare, I.base, I.loc, I.cell, I.free, I.freeC, fun p hp => more p (by simpa using hp), I.hok, I.len⟩
theorem inv_startK {P : Program} {w : World} {K : PySem.W.Frag} {mg : Str → Option Value} {base : Heap} {N ps : List Str} {qual : Str} {scope : Scope} {f : Addr} {cd : Value} {A : Around} {outer : List Env} {s s1 : Shared} {H : Hp} {E : XK} {us : List Value} {vs : List V} {hs : Hnd}
    (S : FnScope N ps scope) (hh : A.handled = hdO hs) (pin : ∀ p ∈ hs, L2H.PinOk outer H s p) (e0 : Env0 P w K mg base A outer s H) (hl : vs.length = ps.length) (r : Vals vs us)
    (y : InCallC s s.heap.objs.size (bindL (envOfC qual scope s.heap.objs.size f cd).kindOf (ps.zip us) fun _ => none) (cellsFrom (s.heap.objs.size + 1) scope.names []) (bindC (envOfC qual scope s.heap.objs.size f cd).kindOf (ps.zip us) fun _ => none) s1) :
    Inv (cxK P w K mg base N qual scope f cd A outer s H E hs) [] (L2.start N vs) H s1 := by
  cases hs with
  | nil => exact repin (L2.inv_start (CX := CXV P w (hdV [])) (E := E) S hh e0 hl r y) fun p hp => nomatch hp
  | cons q0 r0 =>
    have one : ∀ q ∈ q0 :: r0, Inv (L2H.cxH (CXV P w (hdV (q0 :: r0))) P w K mg base N qual scope f cd A outer s H E q) [] (L2.start N vs) H s1 := fun q hq => L2H.inv_startH S (pin q hq) e0 hl r y
    have z := repin (hs := q0 :: r0) (one q0 List.mem_cons_self) fun q hq => (one q hq).pin q (List.mem_append_left _ (List.mem_singleton.mpr rfl))
    exact z
section
variable {P : Program} {w : World} {K : PySem.W.Frag} {mg : Str → Option Value} {base : Heap} {x qual : Str} {st : Stmt} {f : Addr} {fd : FuncData} {N ps : List Str} {m k : Nat} {sp : SpK}
theorem okK (F : Fun K x qual st f fd) (S : FnScope N ps (defScope st)) (len : ∀ hs vs H Q E, sp hs vs H Q E → vs.length = ps.length)
    (hbody : ∀ (cdv : Value) (A : Around) (outer : List Env) (s : Shared) (H : Hp) (vs : List V) (Q : VK) (E : XK) (hs : Hnd), hs.length ≤ m → HotK (cxK P w K mg base N qual (defScope st) f cdv A outer s H E hs) hs → L2H.RoomH k (A.deeper (envOfC qual (defScope st) s.heap.objs.size f cdv)) → sp hs vs H Q E →
      ∃ t, PSs (cxK P w K mg base N qual (defScope st) f cdv A outer s H E hs) (defBody st) t ∧ t ⟨fun _ H' => Q .non H', Q, fun _ _ => False, fun _ _ => False⟩ (start N vs) H) : FnK P w K mg base m (k + 1) f fd ps sp := by
  obtain ⟨_, _, _, _, _, _, cdv, _, _, rfl, look, code⟩ := F.ex
  refine ⟨len, fun A outer s H args us vs Q E hs few hr L pin e0 hb r hsp => ?_⟩
  have hl := len _ _ _ _ _ hsp
  have old : ∀ b o, base.get? b = some o → s.heap.get? b = some o := fun b o g => (e0.bs b o g).1
  have inH : K.In s.heap := e0.mod.kin.keeps old
  refine codeAny_call_function hr.depth (inH _ _ look) rfl S.co S.gen rfl (PySem.W.codeRec_of inH code) (hb _ _ _ _ ?_)
  refine wpAny_newFunctionEnv_cells S.kind (fun ⟨n, v⟩ hy => ?kinds) fun env he s1 y => ?run
  case kinds =>
    refine (S.par n (List.of_mem_zip hy).1).imp (fun z => z) fun z => ⟨z, PySem.W.cellsFrom_some _ _ _ (.inl z)⟩
  case run =>
    subst he
    refine ⟨(e0.mod.nolimit.keeps old).keeps y.toInCall.keep, codeAny_func ?_⟩
    obtain ⟨t, ht, hq⟩ := hbody cdv A outer s H vs Q E hs few ⟨L.deeper _, fun _ z => z⟩ (hr.deeper _) hsp
    have I : Inv (cxK P w K mg base N qual (defScope st) f cdv A outer s H E hs) [] (L2.start N vs) H s1 := inv_startK S L.hh pin e0 hl r y
    refine wpAny_mono (ht.run [] s1 (L2.start N vs) H _ I hq) (fun fl s' how => ?_) fun e s' z => z
    cases fl with
    | ret u =>
      obtain ⟨v, σ', H', J, rv, q⟩ := how
      exact ⟨v, H', J.os, J.bare, J.base, J.hok, rv, q⟩
    | next =>
      obtain ⟨σ', H', J, q⟩ := how
      exact ⟨V.non, H', J.os, J.bare, J.base, J.hok, rfl, q⟩
    | brk => obtain ⟨_, _, _, z⟩ := how; exact z.elim
    | cont => obtain ⟨_, _, _, z⟩ := how; exact z.elim
end
theorem HotK.pins {X : Cx} {hs : Hnd} (hk : HotK X hs) {pins : Hnd} {σ : L2.St} {H : Hp} {s : Shared} (I : Inv X pins σ H s) : ∀ p ∈ hs, L2H.PinOk X.stack H s p := fun p hp => by
  obtain ⟨g, n, nl, no, nc⟩ := I.pin p (List.mem_append_left _ (hk.sub p hp))
  exact ⟨g, n, fun m => (List.mem_cons.mp (I.stkSub p.1 m)).elim nl no, nc⟩
theorem HotL.make {A : Around} {hs : Hnd} (L : HotL A hs) (C : Addr) (us : List Value) : HotL (A.under (.builtin "type.__call__" ⟨.ref C :: us, []⟩)) hs := ⟨L.hh, L.ln⟩
/-- a def of the top -/
structure HasK (P : Program) (w : World) (K : PySem.W.Frag) (mg : Str → Option Value) (base : Heap) (m k : Nat) (x : Str) (sp : SpK) : Prop where
  ex : ∃ (f : Addr) (fd : FuncData) (ps : List Str), mg x = some (.ref f) ∧ PySem.W.keepIn K (.ref f) = true ∧ Binds K fd ps [] ∧ FnK P w K mg base m k f fd ps sp
/-- an own exception's class -/
structure HasXK (P : Program) (w : World) (K : PySem.W.Frag) (mg : Str → Option Value) (base : Heap) (m k : Nat) (x : Str) (C : Addr) (fs : List Str) : Prop where
  gl : mg x = some (.ref C)
  T : OexC K C
  ex : ∃ (fI : Addr) (fd : FuncData) (ps : List Str), PySem.W.findIn K (.ref C) "__init__" = some (some (.ref fI)) ∧ PySem.W.typeIn K (.ref fI) = some (.type "function") ∧ Binds K fd ps [] ∧ FnK P w K mg base m k fI fd ps (fun _ => spExc C fs)
/-- what is handed the exception in hand: of it the class and the dict are known -/
def spKE (sp : SpE) : SpK := fun hs vs H Q E => ∃ a oe r c d, hs = (a, oe) :: r ∧ Zc c d oe ∧ (∃ vs, oe.data = .fields vs) ∧ sp a c d vs H Q E
section
variable {X : Cx} {hs : Hnd} {x : Str} {e : Expr} {es : List Expr} {q p pos : Pos} {m j k : Nat} {E : L2.St → XK} {t ta : TA} {C : Addr} {fs : List Str}
theorem hw_callKK {sp : SpK} {sp2 : Sp} (h : HasK X.prog X.w X.K X.mg X.base m k x sp) (imp : ∀ vs H Q E, sp2 vs H Q E → sp hs vs H Q E) (hr : L2H.RoomH j X.A) (hj : k ≤ j) (few : hs.length ≤ m) (hk : HotK X hs) (hg : Gl X x) (hx : ∀ σ, PassesAt (CXV X.prog X.w (hdV hs)) X σ (E σ)) (ha : PA X (e :: es) t) (hdb : (x == ("__debug__" : Str)) = false := by decide) (he : starEach (e :: es) X.env = (false, eval e X.env) :: starEach es X.env := by rfl) (hpl : (backTo pos (starEach es X.env)).any (·.1) = false := by rfl) :
    PE X (.Call (.Name x q) (e :: es) [] pos) (fun σ H Q => t σ H fun vs H1 => sp2 vs H1 Q (E σ)) := by
  obtain ⟨f, fd, ps, hm, kp, hb, F⟩ := h.ex
  refine ⟨fun pins s σ H Q I h => wpAny_Call_Name_kw (ld_glob I hg hm ?_ hdb)⟩
  refine PySem.W.callWith_K (h₀ := X.base) I.ok.mod.kin kp (thn (ha.run pos pins s σ H _ I h) fun us s1 ⟨vs, H1, I1, r, hsp⟩ => ⟨I1.kIn, ?_⟩) he hpl
  have b := hb s1 us I1.kIn (by rw [List.append_nil, ← r.length]; exact F.len _ _ _ _ _ (imp _ _ _ _ hsp))
  rw [List.append_nil] at b
  refine wpAny_call (codeAny_mono (F.run X.A X.stack s1 H1 ⟨us, []⟩ us vs Q (E σ) hs few (hr.mono hj) hk.L (hk.pins I1) I1.env0 b r (imp _ _ _ _ hsp)) fun r s' how => ?_)
  cases r with
  | error e => exact hx σ pins H1 s1 e s' I1 how
  | ok fl =>
    cases fl with
    | ret u => exact I1.after how
    | _ => exact how.elim
theorem hw_callK {sp : Sp} (h : HasK X.prog X.w X.K X.mg X.base m k x (fun _ => sp)) (hr : L2H.RoomH j X.A) (hj : k ≤ j) (few : hs.length ≤ m) (hk : HotK X hs) (hg : Gl X x) (hx : ∀ σ, PassesAt (CXV X.prog X.w (hdV hs)) X σ (E σ)) (ha : PA X (e :: es) t) (hdb : (x == ("__debug__" : Str)) = false := by decide) (he : starEach (e :: es) X.env = (false, eval e X.env) :: starEach es X.env := by rfl) (hpl : (backTo pos (starEach es X.env)).any (·.1) = false := by rfl) :
    PE X (.Call (.Name x q) (e :: es) [] pos) (tHwC sp [] E t) := by
  rw [tHwC_nil]
  exact hw_callKK h (fun _ _ _ _ z => z) hr hj few hk hg hx ha hdb he hpl
theorem hw_callKE {sp : SpE} {a : Addr} {oe : Obj} {r : Hnd} {cls : Value} {d : Option Addr} (h : HasK X.prog X.w X.K X.mg X.base m k x (spKE sp)) (hr : L2H.RoomH j X.A) (hj : k ≤ j) (few : ((a, oe) :: r).length ≤ m) (hk : HotK X ((a, oe) :: r)) (hz : Zc cls d oe) (hf : ∃ vs, oe.data = .fields vs)
    (hg : Gl X x) (hx : ∀ σ, PassesAt (CXV X.prog X.w (hdV ((a, oe) :: r))) X σ (E σ)) (ha : PA X (e :: es) t) (hdb : (x == ("__debug__" : Str)) = false := by decide) (he : starEach (e :: es) X.env = (false, eval e X.env) :: starEach es X.env := by rfl) (hpl : (backTo pos (starEach es X.env)).any (·.1) = false := by rfl) :
    PE X (.Call (.Name x q) (e :: es) [] pos) (tHwE sp a cls d E t) :=
  hw_callKK h (fun _ _ _ _ z => ⟨a, oe, r, cls, d, rfl, hz, hf, z⟩) hr hj few hk hg hx ha hdb he hpl
/-- an own exception is made; its context is None as yet -/
theorem hw_mkK (F : HasXK X.prog X.w X.K X.mg X.base m k x C fs) (hr : L2H.RoomH j X.A) (hj : k + 1 ≤ j) (few : hs.length ≤ m) (hk : HotK X hs) (hg : Gl X x) (ha : PA X (e :: es) ta) (hdb : (x == ("__debug__" : Str)) = false := by decide) (he : starEach (e :: es) X.env = (false, eval e X.env) :: starEach es X.env := by rfl) (hpl : (backTo pos (starEach es X.env)).any (·.1) = false := by rfl) :
    L2N.PMk X (.Call (.Name x p) (e :: es) [] pos) (tMkX C fs ta) := by
  obtain ⟨fI, fd, ps, iC, tI, bs, ok⟩ := F.ex
  have T := F.T
  intro pins st fr hp Q inv wish
  obtain ⟨_, _, _, _, bm, _, _, _, _, _, _, _, _, _, _, lookC, inBm⟩ := T.cls
  apply wpAny_Call_Name_kw
  refine ld_glob inv hg F.gl ?_ hdb
  refine PySem.W.callWith_K (h₀ := X.base) inv.ok.mod.kin T.kC ?_ he hpl
  refine thn (ha.run pos pins st fr hp _ inv wish) ?_
  rintro us st1 ⟨vs, hp1, inv1, rel, small, q⟩
  refine ⟨inv1.kIn, ?_⟩
  show wpAny _ _ (call (.ref C) us) _ _ _
  obtain ⟨heap, gens, drawn, toks, os⟩ := st1
  generalize ea : heap.objs.size + 1 = a
  have lt : heap.objs.size ≤ a := by omega
  have free : hp1 a = none := inv1.hok.fresh lt
  have q := q a free
  rw [List.append_nil] at q
  have stay : ∀ b o, heap.get? b = some o → ((heap.push (PySem.W.kdv_tup us)).push (PySem.HandSPX.excO C heap.objs.size)).get? b = some o := fun b o z =>
    Heap.get?_push_of_some _ (Heap.get?_push_of_some _ z)
  have new : ((heap.push (PySem.W.kdv_tup us)).push (PySem.HandSPX.excO C heap.objs.size)).get? a = some (PySem.HandSPX.excO C heap.objs.size) := by
    rw [← ea]; heap_get
  have inv2 : Inv X pins fr (upd hp1 a (exo a C none)) ⟨(heap.push (PySem.W.kdv_tup us)).push (PySem.HandSPX.excO C heap.objs.size), gens, drawn, toks, os⟩ :=
    inv1.laid stay lt (exo_ok new)
  have rel2 : Vals (V.ref a :: vs) (Value.ref a :: us) := .cons rfl rel
  have hl : (Value.ref a :: us ++ []).length = ps.length := by
    rw [List.append_nil, ← rel2.length]; exact ok.len hs _ _ _ _ q
  have fewU : us.length ≤ sizeLine := by
    rw [← Paired.length rel, sizeLine_eq]; omega
  have bound := bs _ (Value.ref a :: us) inv2.kIn hl
  rw [List.append_nil] at bound
  subst ea
  refine wpAny_call (PySem.HandSPX.call_own PySem.F.excBase_ValueError (fun Y => PySem.HandSPX.refsVE_contains Y bm inBm) (inv1.kIn _ _ lookC) (PySem.W.looks_findIn inv1.kIn iC) (fun self => PySem.W.bind_fn inv1.kIn self tI) fewU ?_)
  refine codeAny_mono (ok.run _ X.stack _ _ ⟨Value.ref (heap.objs.size + 1) :: us, []⟩ _ _ _ (fun _ _ _ => False) hs few ((hr.mono hj).make C us []) (hk.L.make C us) (hk.pins inv2) (inv2.env0.make C us []) bound rel2 q) ?_
  rintro (er | fl) st3 how
  · exact passAtV0 (X := X) fr pins _ _ er st3 inv2 how
  cases fl with
  | ret u =>
    obtain ⟨v, hp2, os2, bare2, un2, hok2, rv, ev, d, ds, atA, atD, freeD, q2⟩ := how
    subst ev
    obtain ⟨heap3, gens3, drawn3, toks3, os3⟩ := st3
    obtain ⟨t0, G, J, kG, gone, hoe, na⟩ := mk_end0 (d2 := drawn3) (t2 := toks3) inv1 lt stay un2 hok2 os2 bare2 atA atD freeD
    refine ⟨rv, heap.objs.size + 1, _, _, ⟨G, gens3, drawn3, toks3, os3⟩, _, .ref C, some d, rfl, J, kG, gone, hoe, ⟨rfl, rfl, ?_⟩, rfl, rfl, na, rfl, bare2, raises_own T.exC T.tyC, q2⟩
    intro ws hw
    cases hw
    rfl
  | _ => exact how.elim
/-- .. one that sets no fields -/
theorem bareN {Y : Cx} {pins : List (Addr × Obj)} {σ : L2.St} {Ha Hb : Hp} {Q : XK} {h1 h2 h3 : Heap} {ga gb : Array GenState} {da db : Drawn} {ta tb : Nat} {oa ob : OsState} {z : Addr} (T : Raises Y (.ref C)) (J : Inv Y pins σ Ha ⟨h1, ga, da, ta, oa⟩) (new : h1.objs.size ≤ z)
    (up : ∀ b o, h1.get? b = some o → h2.get? b = some o) (U : Un (frs Y.stack) [] (upd Ha z (exo z C none)) Hb h2 h3) (ok : HOk Y.prog Y.w Hb h3) (same : ob = oa) (bare : AllBare gb) (at_ : Hb z = some (exo z C none)) (q : Q (.ref C) none (del Hb z)) : L2N.MkP Y pins σ Q (.ref z) ⟨h3, gb, db, tb, ob⟩ := by
  obtain ⟨a, oe, vs, sI, H', cls, d, ea, inv, k, hne, ha, hz, dat, f1, na, os, ag, r, q2⟩ := bare_made T J new up U ok same bare at_ q
  cases ea
  refine ⟨z, oe, vs, sI, H', cls, d, rfl, inv, k, hne, ha, ⟨hz.1, hz.2, fun v e => ?_⟩, dat, f1, na, os, ag, r, q2⟩
  obtain ⟨tt, here⟩ := exo_at ok at_
  cases ha.symm.trans here
  cases e
  rfl
theorem hw_mk0K (F : HasXK X.prog X.w X.K X.mg X.base m k x C []) (hr : L2H.RoomH j X.A) (hj : k + 1 ≤ j) (few : hs.length ≤ m) (hk : HotK X hs) (hg : Gl X x) (hdb : (x == ("__debug__" : Str)) = false := by decide) :
    L2N.PMk X (.Call (.Name x p) [] [] pos) (tMkZ C) := by
  obtain ⟨fI, fd, ps, iC, tI, hb, F1⟩ := F.ex
  intro pins s σ H Q J h
  obtain ⟨nm, q, N, bs, bm, sn, sub, ab, col, dd, k0, k1, k2, k3, k5, hC, hbm⟩ := F.T.cls
  refine wpAny_Call_Name_kw (ld_glob J hg F.gl ?_ hdb)
  refine PySem.W.callWith_K0 J.kIn F.T.kC ?_
  show wpAny _ _ (call (.ref C) []) _ _ _
  obtain ⟨hp, g, dr, tk, os⟩ := s
  have lo : hp.objs.size ≤ hp.objs.size + 1 := Nat.le_succ _
  have free : H (hp.objs.size + 1) = none := J.hok.fresh lo
  have up : ∀ b o, hp.get? b = some o → ((hp.push (PySem.W.kdv_tup [])).push (PySem.HandSPX.excO C hp.objs.size)).get? b = some o := fun b o z => Heap.get?_push_of_some _ (Heap.get?_push_of_some _ z)
  have at1 : ((hp.push (PySem.W.kdv_tup [])).push (PySem.HandSPX.excO C hp.objs.size)).get? (hp.objs.size + 1) = some (PySem.HandSPX.excO C hp.objs.size) := by heap_get
  have J2 : Inv X pins σ (upd H (hp.objs.size + 1) (exo (hp.objs.size + 1) C none)) ⟨(hp.push (PySem.W.kdv_tup [])).push (PySem.HandSPX.excO C hp.objs.size), g, dr, tk, os⟩ :=
    J.laid (t' := tk) up lo (exo_ok at1)
  have hq : spExc C [] [.ref (hp.objs.size + 1)] (upd H (hp.objs.size + 1) (exo (hp.objs.size + 1) C none)) (fun v H2 => v = .non ∧ H2 = upd H (hp.objs.size + 1) (exo (hp.objs.size + 1) C none)) (fun _ _ _ => False) := ⟨_, [], rfl, rfl, upd_same, .inl ⟨rfl, rfl, rfl⟩⟩
  have r2 : Vals [V.ref (hp.objs.size + 1)] [Value.ref (hp.objs.size + 1)] := .cons rfl .nil
  have hl : ([Value.ref (hp.objs.size + 1)] : List Value).length = ps.length := by
    have z := r2.length
    rw [F1.len hs _ _ _ _ hq] at z
    exact z.symm
  refine wpAny_call (PySem.HandSPX.call_own PySem.F.excBase_ValueError (fun Y => PySem.HandSPX.refsVE_contains Y bm hbm) (J.kIn _ _ hC) (PySem.W.looks_findIn J.kIn iC) (fun self => PySem.W.bind_fn J.kIn self tI) (by show 0 ≤ _; omega)
    (codeAny_mono (F1.run _ X.stack _ _ ⟨[Value.ref (hp.objs.size + 1)], []⟩ [Value.ref (hp.objs.size + 1)] _ _ (fun _ _ _ => False) hs few ((hr.mono hj).make C [] []) (hk.L.make C []) (hk.pins J2) (J2.env0.make C [] []) (hb _ [Value.ref (hp.objs.size + 1)] J2.kIn (by simpa using hl)) r2 hq) fun r s' how => ?_))
  cases r with
  | error er => exact passAtV0 (X := X) σ pins _ _ er s' J2 how
  | ok fl =>
    cases fl with
    | ret u =>
      obtain ⟨v, H2, same, bare, U, ok, rv, ev, eH⟩ := how
      subst ev
      subst eH
      obtain ⟨h2, g2, d2, t2, os'⟩ := s'
      refine ⟨rv, bareN (raises_own F.T.exC F.T.tyC) J lo up U ok same bare upd_same ?_⟩
      have e0 : del (upd H (hp.objs.size + 1) (exo (hp.objs.size + 1) C none)) (hp.objs.size + 1) = H := by
        funext b
        by_cases c : b = hp.objs.size + 1
        · rw [c, del_same, free]
        · rw [del_ne c, upd_ne c]
      rw [e0]; exact h
    | _ => exact how.elim
end
end Hw





/-! Hw0: loops and comprehensions while exceptions are handled. -/
namespace Hw
open PySem PySem.Spec PyProof.Rows L2
/-- the turns of an iterator; at its end a StopIteration is raised and caught -/
structure TurnK (P : Program) (w : World) (K : PySem.W.Frag) (tg : Expr) (J : It) (fp : List Addr) (it : Addr) (tn : Nat → Heap → Prop) : Prop where
  mem : it ∈ fp
  obj : ∀ i g, tn i g → ∀ b ∈ fp, ∃ o, g.get? b = some o ∧ ∀ v, o.data ≠ .cell v
  keep : ∀ i g g2, tn i g → (∀ b ∈ fp, ∀ o, g.get? b = some o → g2.get? b = some o) → tn i g2
  item : ∀ (X : Cx), X.prog = P → X.w = w → X.K = K → ∀ (i : Nat) (ps : Hnd) (s : Shared) (fr : L2.St) (H : Hp) (E : Value → Shared → Prop), Inv X ps fr H s → (∀ b ∈ fp, FpOk X ps H b) → tn i s.heap → J.go i H →
    wpAny (model P w) X.A (pyNext (.ref it)) (fun r s1 => ∃ u, r = some u ∧ wpAny (model P w) X.A (letOwnedTupleGo tg (.ref it) u) (fun _ s2 => ∃ y H', Inv X ps fr H' s2 ∧ RelV y u ∧ J.yld i H y H' ∧ tn (i + 1) s2.heap ∧ ∀ b ∈ fp, H' b = none) E s1) E s
  done : ∀ (X : Cx) (hs : Hnd), X.prog = P → X.w = w → X.K = K → HotK X hs → ∀ (i : Nat) (ps : Hnd) (s : Shared) (fr : L2.St) (H : Hp) (E : Value → Shared → Prop), Inv X ps fr H s → (∀ b ∈ fp, FpOk X ps H b) → tn i s.heap → J.stop i H →
    wpAny (model P w) X.A (pyNext (.ref it)) (fun r s1 => r = none ∧ Inv X ps fr H s1) E s
  self : ∀ (A : Around) (i : Nat) (s : Shared) (Q E : Value → Shared → Prop), tn i s.heap → Q (.ref it) s → wpAny (model P w) A (pyIter (.ref it)) Q E s
theorem turn_rangeK {P : Program} {w : World} {K : PySem.W.Frag} {tg : Expr} (it : Addr) (lo : Int) (n : Nat) : TurnK P w K tg (Itr lo n) [it] it (fun i g => IsRangeIter g it (lo + (i : Nat) * 1) ((n : Int) - (i : Nat)) 1) where
  mem := List.mem_singleton.mpr rfl
  obj := fun i g st b hb => by
    rw [List.mem_singleton.mp hb]
    exact ⟨_, st, fun v z => by cases (show Data.fields _ = Data.cell v from z)⟩
  keep := fun i g g2 st k => k it (List.mem_singleton.mpr rfl) _ st
  item := by
    intro X e1 e2 e3 i ps s fr H E I hf st go
    subst e1 e2 e3
    obtain ⟨f0, f1, f2, f3, f4, f5⟩ := hf it (List.mem_singleton.mpr rfl)
    have lt : i < n := go
    refine wpAny_pyNext_range_item st (by omega) fun g nx but => ?_
    have next : IsRangeIter g it (lo + ((i + 1 : Nat) : Int) * 1) ((n : Int) - ((i + 1 : Nat) : Int)) 1 := by
      rw [show lo + ((i + 1 : Nat) : Int) * 1 = lo + ((i : Nat) : Int) * 1 + 1 by omega, show (n : Int) - ((i + 1 : Nat) : Int) = (n : Int) - ((i : Nat) : Int) - 1 by omega]
      exact nx
    have I1 : Inv X ps fr H { s with heap := g, toks := s.toks + 1 } := I.turned (fun b o nb e => (but.2 b nb).trans e) f0 f1 f3 f4 f5
    exact ⟨_, rfl, go_of (s := { s with heap := g, toks := s.toks + 1 }) (n := "range_iterator") next rfl rfl (by decide) ⟨.int (lo + i), H, I1, ⟨s.toks, by rw [Int.mul_one]⟩, ⟨rfl, rfl⟩, next, fun b hb => (hf b hb).1⟩⟩
  done := by
    intro X hs e1 e2 e3 hk i ps s fr H E I hf st stop
    subst e1 e2 e3
    obtain ⟨f0, f1, f2, f3, f4, f5⟩ := hf it (List.mem_singleton.mpr rfl)
    exact range_endL hk.L (hk.at_ I) st (by have : n ≤ i := stop; omega) fun g up => ⟨rfl, I.turned (t' := s.toks) (fun b o _ e => up b o e) f0 f1 f3 f4 f5⟩
  self := fun _ _ _ _ _ st h => wpAny_pyIter_rangeiter st h
theorem turn_enumK {P : Program} {w : World} {K : PySem.W.Frag} {elts : List Expr} {kk : Nat} {tpos : Pos} (l e it : Addr) :
    TurnK P w K (.Tuple elts kk tpos) (Ite K l) [e, it] e (fun i g => (∃ old, IsEnum g e it ((i : Nat) : Int) old) ∧ g.IsListIter it l i ∧ e ≠ it) where
  mem := List.mem_cons_self
  obj := fun i g st b hb => by
    obtain ⟨⟨old, he⟩, ⟨o, ho, hc, hd⟩, _⟩ := st
    rcases List.mem_cons.mp hb with z | z
    · rw [z]; exact ⟨_, he, fun v q => nomatch q⟩
    · rw [List.mem_singleton.mp z]; exact ⟨o, ho, fun v q => by rw [hd] at q; cases q⟩
  keep := fun i g g2 ⟨⟨old, he⟩, hi, ne⟩ k => ⟨⟨old, k e List.mem_cons_self _ he⟩, hi.at fun o q => k it (List.mem_cons_of_mem _ List.mem_cons_self) o q, ne⟩
  item := by
    rintro X e1 e2 e3 i ps s fr H E I hf ⟨⟨old, he⟩, hit, ne⟩ ⟨xs, y, hq, hy⟩
    subst e1 e2 e3
    obtain ⟨its, rv, pl, few⟩ := I.list hq
    obtain ⟨u, hu, ru⟩ := rv.get hy
    have lt1 : e < s.heap.objs.size := Heap.lt_size he
    have lt2 : it < s.heap.objs.size := by obtain ⟨_, q, _⟩ := hit; exact Heap.lt_size q
    have inside : ∀ b ∈ [e, it], b < s.heap.objs.size := fun b hb => by
      rcases List.mem_cons.mp hb with z | z
      · rw [z]; exact lt1
      · rw [List.mem_singleton.mp z]; exact lt2
    refine wpAny_pyNext_enum_item he hit pl.isList (x := u) (by simpa using hu) ne fun g out itn tup sz kept => ?_
    refine ⟨_, rfl, wpAny_letOwnedTupleGo_enum (s := { s with heap := g, toks := s.toks + 1 }) out fun g2 back but => ?_⟩
    have tup2 : g2.get? s.heap.objs.size = some { cls := .type "tuple", data := .seq #[.int i s.toks, u] } := (but.2 _ (Nat.ne_of_gt lt1)).trans tup
    have new : ObjOk X.prog X.w (upd H s.heap.objs.size (.tup [.int (i : Nat), y])) g2 s.heap.objs.size (.tup [.int (i : Nat), y]) := ⟨by show 2 ≤ sizeLine; decide, [.int i s.toks, u], .cons ⟨_, rfl⟩ (.cons ru .nil), ⟨_, tup2, rfl, _, rfl⟩⟩
    have I1 : Inv X ps fr (upd H s.heap.objs.size (.tup [.int (i : Nat), y])) { s with heap := g2, toks := s.toks + 1 } := I.turnedNew (ch := [e, it])
      (fun b ob nb q => (but.2 b fun z => nb (by simp [z])).trans (kept b ob (fun z => nb (by simp [z])) (fun z => nb (by simp [z])) q)) hf (Nat.le_refl _) new
    refine ⟨.ref s.heap.objs.size, _, I1, rfl, ⟨_, y, rfl, I.hok.fresh (Nat.le_refl _), rfl, fun ys hys => by rw [I.list_inj hys hq]; exact hy⟩, ⟨⟨u, ?_⟩, itn.at fun o q => (but.2 it (Ne.symm ne)).trans q, ne⟩, fun b hb => ?_⟩
    · rw [show ((i + 1 : Nat) : Int) = (i : Int) + 1 by omega]; exact back
    · rw [upd_ne (Nat.ne_of_lt (inside b hb))]; exact (hf b hb).1
  done := by
    rintro X hs e1 e2 e3 hk i ps s fr H E I hf ⟨⟨old, he⟩, hit, ne⟩ ⟨xs, hq, over⟩
    subst e1 e2 e3
    obtain ⟨its, rv, pl, few⟩ := I.list hq
    obtain ⟨f0, f1, f2, f3, f4, f5⟩ := hf it (List.mem_cons_of_mem _ List.mem_cons_self)
    have same := rv.length
    exact enum_endL hk.L (hk.at_ I) he hit pl.isList (by simp; omega) fun g up => ⟨rfl, I.turned (t' := s.toks) (fun b o nb q => up b o nb q) f0 f1 f3 f4 f5⟩
  self := fun A i s Q E ⟨⟨_, he⟩, _⟩ h => wpAny_pyIter_enum he h
/-- what a for or a comprehension walks -/
structure PIK (X : Cx) (tg iter : Expr) (wi : TI) : Prop where
  run : ∀ (ps : Hnd) (s : Shared) (fr : L2.St) (H : Hp) (R : It → Hp → Prop), Inv X ps fr H s → wi fr H R →
    wpAny (model X.prog X.w) X.A (eval iter X.env) (fun v s1 => wpAny (model X.prog X.w) X.A (pyIter v) (fun itv s2 =>
      ∃ (it : Addr) (fp : List Addr) (tn : Nat → Heap → Prop) (J : It) (H' : Hp), itv = .ref it ∧ Inv X ps fr H' s2 ∧ TurnK X.prog X.w X.K tg J fp it tn ∧ tn 0 s2.heap ∧ (∀ b ∈ fp, FpOk X ps H' b) ∧ R J H') X.xe s1) X.xe s
section
variable {X : Cx} {hs : Hnd}
theorem pi_range1K {tg a : Expr} {ta : TA} {p pos : Pos} (hg : Gl X "range") (hm : X.mg "range" = none) (ha : PA X [a] ta) (hst : starEach [a] X.env = [(false, eval a X.env)] := by rfl) : PIK X tg (.Call (.Name "range" p) [a] [] pos) (iRng1 ta) := by
  constructor
  intro ps s fr H R I h
  refine Call_ (ld_blt I hg hm boot_range (PyProof.Rows.callWith_type1 (thn (ha.run pos ps s fr H _ I h) fun us s1 ⟨vs, H1, I1, r1, q1⟩ => ?_) hst rfl))
  obtain ⟨j, rfl, lo, hi, q⟩ := q1
  obtain ⟨u, rfl, ru⟩ := vals1 r1
  obtain ⟨t, rfl⟩ := ru
  refine call_range_1 (wpAny_pyIter_range (IsRange.new ..) (small_one (by omega) (by omega) lo hi) ?_)
  have up : ∀ {b : Addr} {o u v : Obj}, s1.heap.get? b = some o → ((s1.heap.push u).push v).get? b = some o := fun z => Heap.get?_push_of_some _ (Heap.get?_push_of_some _ z)
  refine ⟨_, [_], _, _, H1, rfl, I1.kept fun b o z => up z, turn_rangeK _ 0 (j - 0).toNat, ?_, fun b hb => ?_, by simpa using q⟩
  · have e1 : (0 : Int) + ((0 : Nat) : Int) * 1 = 0 := by simp
    have e2 : (((j - 0).toNat : Nat) : Int) - ((0 : Nat) : Int) = Builtin.Range.rangeSize 0 j 1 := by rw [rangeSize_one]; split <;> omega
    show IsRangeIter _ _ ((0 : Int) + ((0 : Nat) : Int) * 1) ((((j - 0).toNat : Nat) : Int) - ((0 : Nat) : Int)) 1
    rw [e1, e2]
    exact Heap.get?_push_size _ rfl
  · have le : s1.heap.objs.size ≤ b := by rw [List.mem_singleton.mp hb, Heap.size_push]; exact Nat.le_succ _
    exact ⟨I1.hok.fresh le, (I1.fpOk le (I1.hok.fresh le)).2⟩
theorem pi_enumK {e : Expr} {ta : TA} {p pos tpos : Pos} {elts : List Expr} {kk : Nat} (hg : Gl X "enumerate") (hm : X.mg "enumerate" = none) (ha : PA X [e] ta) (hst : starEach [e] X.env = [(false, eval e X.env)] := by rfl) :
    PIK X (.Tuple elts kk tpos) (.Call (.Name "enumerate" p) [e] [] pos) (iEnum X.K ta) := by
  constructor
  intro ps s fr H R I h
  refine Call_ (ld_blt I hg hm boot_enumerate (PyProof.Rows.callWith_type1 (thn (ha.run pos ps s fr H _ I h) fun us s1 ⟨vs, H1, I1, r1, q1⟩ => ?_) hst rfl))
  obtain ⟨l, xs, rfl, hq, q⟩ := q1
  obtain ⟨u, rfl, ru⟩ := vals1 r1
  cases ru
  obtain ⟨its, rv, pl, few⟩ := I1.list hq
  refine call_enumerate_list pl.isList fun g he hit sz kp => wpAny_pyIter_enum he ?_
  refine ⟨s1.heap.objs.size + 1, [s1.heap.objs.size + 1, s1.heap.objs.size], _, _, H1, rfl, I1.kept (t' := s1.toks) kp, turn_enumK l (s1.heap.objs.size + 1) s1.heap.objs.size, ⟨⟨.none, he⟩, hit, Nat.succ_ne_self _⟩, fun b hb => ?_, q⟩
  have le : s1.heap.objs.size ≤ b := by
    rcases List.mem_cons.mp hb with z | z
    · rw [z]; exact Nat.le_succ _
    · rw [List.mem_singleton.mp z]; exact Nat.le_refl _
  exact I1.fpOk le (I1.hok.fresh le)
theorem ps_forK {tg iter : Expr} {body : List Stmt} {wi : TI} {g : TG} {tb : TS} {pos : Pos} (po : PassesOwn (model X.prog X.w) X.A X.env X.xe) (hk : HotK X hs) (hi : PIK X tg iter wi) (hg : PG X tg g) (hb : PSs X body tb)
    (hse : ∀ x, foldedSetIterable iter X.env x = pure x := by intro _; rfl) : PS X (.For tg iter body [] pos) (tFor wi g tb) := by
  constructor
  intro ps s0 fr0 H0 D I0 wish
  refine wpAny_For (thn (hi.run ps s0 fr0 H0 _ I0 wish) fun v s1 h1 => thn h1 fun itv s2 h2 => ?_) hse
  obtain ⟨it, fp, tn, J, H2, rfl, I2, T, at2, ok2, W, ⟨many, w0⟩, turn⟩ := h2
  have still : ∀ {H' : Hp}, (∀ b ∈ fp, H' b = none) → ∀ b ∈ fp, FpOk X ps H' b := fun none b hb => ⟨none b hb, (ok2 b hb).2⟩
  refine codeAny_forLoop_any (fun n st => ∃ i fr H, Inv X ps fr H st ∧ tn i st.heap ∧ (∀ b ∈ fp, H b = none) ∧ W i n fr H) ?_ many ⟨0, fr0, H2, I2, at2, fun b hb => (ok2 b hb).1, w0⟩
  rintro n s3 ⟨i, fr3, H3, I3, at3, none3, w3⟩
  rcases turn i n fr3 H3 w3 with ⟨stop, over⟩ | ⟨go, Nx, less, step⟩
  · refine wpAny_passesOwn po (thn (T.done X hs rfl rfl rfl hk i ps s3 fr3 H3 X.xe I3 (still none3) at3 stop) ?_)
    rintro _ s4 ⟨rfl, I4⟩
    exact wpAny_execs_nil ⟨fr3, H3, I4, over⟩
  · refine wpAny_passesOwn po (thn (T.item X rfl rfl rfl i ps s3 fr3 H3 X.xe I3 (still none3) at3 go) ?_)
    rintro _ s4 ⟨u, rfl, h4⟩
    refine wpAny_passesOwn po (thn h4 ?_)
    rintro _ s5 ⟨y, H5, I5, r5, y5, at5, none5⟩
    have P5 := I5.pinned (still none5) (T.obj _ _ at5)
    refine wpAny_passesOwn po (thn (hg.run _ s5 fr3 H5 y u _ P5 r5 (step y H5 y5)) ?_)
    rintro _ s6 ⟨fr6, H6, I6, q6⟩
    refine wpAny_passesOwn po (thn (hb.run _ s6 fr6 H6 _ I6 q6) ?_)
    intro fl s7 how
    have next : ∀ {fr7 : L2.St} {H7 : Hp}, Inv X (ps ++ pinsAt fp s5.heap) fr7 H7 s7 → Nx fr7 H7 → ∃ m, m < n ∧ ∃ i fr H, Inv X ps fr H s7 ∧ tn i s7.heap ∧ (∀ b ∈ fp, H b = none) ∧ W i m fr H := fun {fr7 H7} I7 n7 => by
      obtain ⟨m2, lt2, w7⟩ := less fr7 H7 n7
      have there : ∀ b ∈ fp, ∀ o, s5.heap.get? b = some o → s7.heap.get? b = some o ∧ H7 b = none := fun b hb o e => by
        obtain ⟨z1, z2, _⟩ := I7.pin (b, o) (List.mem_append_right _ (List.mem_append_right _ (mem_pinsAt hb e)))
        exact ⟨z1, z2⟩
      refine ⟨m2, lt2, i + 1, fr7, H7, I7.unpinned, T.keep _ _ _ at5 fun b hb o e => (there b hb o e).1, fun b hb => ?_, w7⟩
      obtain ⟨o, e, _⟩ := T.obj _ _ at5 b hb
      exact (there b hb o e).2
    cases fl with
    | next => obtain ⟨fr7, H7, I7, n7⟩ := how; exact next I7 n7
    | cont => obtain ⟨fr7, H7, I7, n7⟩ := how; exact next I7 n7
    | brk => obtain ⟨fr7, H7, I7, q7⟩ := how; exact ⟨fr7, H7, I7.unpinned, q7⟩
    | ret v => obtain ⟨y7, fr7, H7, I7, r7, q7⟩ := how; exact ⟨y7, fr7, H7, I7.unpinned, r7, q7⟩
/-- a comprehension's context, the handled exception kept -/
abbrev blkK (X : Cx) (hs : Hnd) (s : Shared) (H : Hp) (scope : Scope) (ce : Env) (fp : List Addr) : Cx := { X.blk s H scope ce fp with calm := false, pn := hs }
theorem blkK_of {pins : List (Addr × Obj)} {σ τ : L2.St} {H : Hp} {s s' : Shared} {scope : Scope} {ce : Env} {fp : List Addr} (I : Inv X pins σ H s) (hp : ∀ p ∈ hs, p ∈ X.pn) (J : Inv (X.blk s H scope ce fp) [] τ H s') (up : ∀ b o, s.heap.get? b = some o → s'.heap.get? b = some o) (hL : ce.locals = s.heap.objs.size) :
    Inv (blkK X hs s H scope ce fp) [] τ H s' := by
  obtain ⟨o1, o2, o3, o4, o5, o6, o7, o8, o9, o10, o11, o12, o13, o14, o15, o16, o17, o18⟩ := J.ok
  refine ⟨⟨o1, o2, o3, o4, o5, o6, o7, o8, (fun z => Bool.noConfusion (show false = true from z)), o10, o11, o12, o13, o14, o15, o16, o17, o18⟩, J.os, J.bare, J.base, J.loc, J.cell, J.free, J.freeC, fun q hq => ?_, J.hok, J.len⟩
  obtain ⟨p1, p2, p3, p4, p5⟩ := I.pin q (List.mem_append_left _ (hp q (by simpa using (show q ∈ hs ++ ([] : List (Addr × Obj)) from hq))))
  refine ⟨up _ _ p1, p2, ?_, fun hm => ?_, p5⟩
  · show q.1 ≠ ce.locals
    rw [hL]
    exact Nat.ne_of_lt (Heap.lt_size p1)
  · exact (List.mem_cons.mp (I.stkSub q.1 hm)).elim p3 p4
theorem lcK {pins : List (Addr × Obj)} {s : Shared} {σ : L2.St} {H : Hp} {Q : VK} {elt tg iter : Expr} {ifs : List Expr} {scope : Scope} {own : List (Str × Nat)} {pos pos' : Pos} {wi : TI} {g : TG} {tt : TT} {te : TE} {use : Option (Value → Sem Unit)} {Qf : Value → Shared → Prop}
    (hk : HotK X hs) (nd : X.N.Nodup) (I : Inv X pins σ H s) (hi : PIK X tg iter wi) (ok : BlkOk X.N X.env.scope scope own)
    (hg : ∀ (s : Shared) (H : Hp) (C : Addr) (cl : List (Str × Addr)) (fp : List Addr), PG (blkK X hs s H scope (compEnvC scope cl C X.env) fp) tg g)
    (ht : ∀ (s : Shared) (H : Hp) (C : Addr) (cl : List (Str × Addr)) (fp : List Addr), PTs (blkK X hs s H scope (compEnvC scope cl C X.env) fp) ifs tt)
    (he : ∀ (s : Shared) (H : Hp) (C : Addr) (cl : List (Str × Addr)) (fp : List Addr), PE (blkK X hs s H scope (compEnvC scope cl C X.env) fp) elt te)
    (hse : ∀ x, foldedSetIterable iter X.env x = pure x) (h : tLc wi g tt te (own.map (·.2)) σ H Q)
    (fin : ∀ D C s' m H', Inv X pins σ H' s' → Q (.ref D) H' → s'.heap.Ns C m → FpOk X pins H' C → compPost (model X.prog X.w) X.A X.xe use Qf (.ref D) C (.ok .next) s') :
    wpAny (model X.prog X.w) X.A (comprehension (.ListComp elt [⟨tg, iter, ifs, 0⟩] scope pos) scope X.env pos' (newList []) false (eval iter X.env) use) Qf X.xe s := by
  have cls : ∀ y ∈ scope.names, y.2 = .free → ∃ c, X.env.cells.lookup y.1 = some c := fun y hy e => (ok.free y hy e).elim (fun k => I.ok.has _ (.inl k)) (fun k => I.ok.has _ (.inr k))
  refine wpAny_comprehension_free (use := use) rfl hse (closure_ok cls) ok.kind (fun y hy e => by rw [ok.uniq y hy, e]) (thn (hi.run pins s σ H _ I h) fun xv s1 hx => thn hx fun iv s2 h2 => ?_)
  obtain ⟨it, fp, tn, J, H2, e, I2, T, at0, ok2, q⟩ := h2
  subst e
  refine wpAny_newObj_type (newEnv_comp ?_) (by show 0 ≤ sizeLine; decide)
  obtain ⟨D, eD⟩ : ∃ D, D = s2.heap.objs.size := ⟨_, rfl⟩
  rw [← eD]
  have newD : H2 D = none := I2.hok.fresh (Nat.le_of_eq eD.symm)
  obtain ⟨W, ⟨m0, w0⟩, turn⟩ := q D newD
  obtain ⟨sD, eD3⟩ : ∃ sD : Shared, sD = { s2 with heap := s2.heap.push { cls := .type "list", data := .seq ([] : List Value).toArray } } := ⟨_, rfl⟩
  have hp3 : sD.heap = s2.heap.push { cls := .type "list", data := .seq ([] : List Value).toArray } := by rw [eD3]
  have k3 : ∀ b o, s2.heap.get? b = some o → sD.heap.get? b = some o := fun b o e => by rw [hp3]; exact Heap.get?_push_of_some _ e
  have ID : Inv X pins σ (upd H2 D (.lst [])) sD := by
    rw [eD3]
    refine I2.laid (t' := s2.toks) (fun b o e => Heap.get?_push_of_some _ e) (Nat.le_of_eq eD.symm) ⟨Nat.zero_le _, [], 0, .nil, ?_⟩
    rw [eD]
    exact Heap.get?_push_size _ rfl
  have ok3 : ∀ b ∈ fp, FpOk X pins (upd H2 D (.lst [])) b ∧ b < sD.heap.objs.size := fun b hb => by
    obtain ⟨o, eo, _⟩ := T.obj _ _ at0 b hb
    have lt := Heap.lt_size eo
    refine ⟨⟨?_, (ok2 b hb).2⟩, Heap.lt_size (k3 b o eo)⟩
    rw [upd_ne (by rw [eD]; exact Nat.ne_of_lt lt)]
    exact (ok2 b hb).1
  have at3 : tn 0 sD.heap := T.keep _ _ _ at0 fun b _ => k3 b
  have I4 := block_start ID ok nd ok3
  have up4 : ∀ b o, sD.heap.get? b = some o → (pushCells (sD.heap.push { cls := .type "dict", data := .dict #[] }) scope.names).get? b = some o := fun b o e => pushCells_keeps _ _ _ _ (Heap.get?_push_of_some _ e)
  have J4 := blkK_of ID hk.sub I4 up4 rfl
  have goodG := hg sD (upd H2 D (.lst [])) sD.heap.objs.size (cellsFrom (sD.heap.objs.size + 1) scope.names (cloFrom X.env.cells scope.names [])) fp
  have goodT := ht sD (upd H2 D (.lst [])) sD.heap.objs.size (cellsFrom (sD.heap.objs.size + 1) scope.names (cloFrom X.env.cells scope.names [])) fp
  have goodE := he sD (upd H2 D (.lst [])) sD.heap.objs.size (cellsFrom (sD.heap.objs.size + 1) scope.names (cloFrom X.env.cells scope.names [])) fp
  have at4 : tn 0 ({ sD with heap := pushCells (sD.heap.push { cls := .type "dict", data := .dict #[] }) scope.names } : Shared).heap := T.keep _ _ _ at3 fun b _ => up4 b
  rw [← eD3]
  show codeAny _ _ (.compStart (.ListComp elt [⟨tg, iter, ifs, 0⟩] scope pos) 0 (.ref it) (.ref D) (compEnvC scope (cellsFrom (sD.heap.objs.size + 1) scope.names (cloFrom X.env.cells scope.names [])) sD.heap.objs.size X.env)) (compPost (model X.prog X.w) X.A X.xe use Qf (.ref D) sD.heap.objs.size) { sD with heap := pushCells (sD.heap.push { cls := .type "dict", data := .dict #[] }) scope.names }
  have free3 : ∀ b ∈ fp, (upd H2 D (.lst [])) b = none := fun b hb => (ok3 b hb).1.1
  have cL : (compEnvC scope (cellsFrom (sD.heap.objs.size + 1) scope.names (cloFrom X.env.cells scope.names [])) sD.heap.objs.size X.env).locals = sD.heap.objs.size := rfl
  generalize compEnvC scope (cellsFrom (sD.heap.objs.size + 1) scope.names (cloFrom X.env.cells scope.names [])) sD.heap.objs.size X.env = ce at J4 goodG goodT goodE cL ⊢
  generalize upd H2 D (.lst []) = H3 at ID J4 goodG goodT goodE w0 free3 ok3
  generalize ({ sD with heap := pushCells (sD.heap.push { cls := .type "dict", data := .dict #[] }) scope.names } : Shared) = sB at J4 at4 ⊢
  have hotB : HotK (blkK X hs sD H3 scope ce fp) hs := ⟨hk.L, fun _ z => z⟩
  have apart : ∀ p ∈ hs, ∀ b ∈ fp, p.1 ≠ b := fun p hp b hb => (ok3 b hb).1.2.2.2.2.2 p (List.mem_append_left _ (hk.sub p hp))
  have stat : ∀ {σ' : L2.St} {H' : Hp} {s' : Shared}, Inv (blkK X hs sD H3 scope ce fp) [] σ' H' s' → (∀ b ∈ fp, H' b = none) → ∀ b ∈ fp, FpOk (blkK X hs sD H3 scope ce fp) [] H' b := fun {σ' H' s'} I' none b hb =>
    ⟨none b hb, (I'.ok.exf b hb).1, I'.ok.exfs b hb, .inl hb, fun x c e => (I'.ok.exf b hb).2 x c e, fun r hr => by
      exact apart r (by simpa using (show r ∈ hs ++ ([] : List (Addr × Obj)) from hr)) b hb⟩
  have rounds : codeAny (model X.prog X.w) X.A (.compLoop (.ListComp elt [⟨tg, iter, ifs, 0⟩] scope pos) 0 (.ref it) (.ref D) ce) (compPost (model X.prog X.w) X.A X.xe use Qf (.ref D) sD.heap.objs.size) sB := by
    refine compLoop_any (fun n s' => ∃ i H', Inv (blkK X hs sD H3 scope ce fp) [] (wipe σ (own.map (·.2))) H' s' ∧ tn i s'.heap ∧ (∀ b ∈ fp, H' b = none) ∧ W i n H') ?_ m0 ⟨0, H3, J4, at4, free3, w0⟩
    rintro n s5 ⟨i, H5, J5, at5, free5, w5⟩
    rcases turn i n H5 w5 with ⟨stop, over⟩ | ⟨go, Nx, hNx, step⟩
    · refine thnF (T.done (blkK X hs sD H3 scope ce fp) hs rfl rfl rfl hotB i [] s5 _ H5 (fun _ _ => False) J5 (stat J5 free5) at5 stop) ?_
      rintro r s6 ⟨rfl, J6⟩
      have back : Inv X pins σ H5 s6 := ID.call' (ch := fp) J6.os J6.base J6.hok J6.bare fun b hb => by
        obtain ⟨_, b1, b2, b3, b4, b5⟩ := (ok3 b hb).1
        exact ⟨b3, b1, b4, b5⟩
      have fr := J6.free
      have fr : H5 sD.heap.objs.size = none := by rw [← cL]; exact fr
      obtain ⟨m, ns, _⟩ := J6.loc
      have ns : s6.heap.Ns ce.locals m := ns
      rw [cL] at ns
      exact fin D sD.heap.objs.size s6 m H5 back over ns (ID.fpOk (Nat.le_refl _) fr)
    · refine thnF (T.item (blkK X hs sD H3 scope ce fp) rfl rfl rfl i [] s5 _ H5 (fun _ _ => False) J5 (stat J5 free5) at5 go) ?_
      rintro r s6 ⟨u, rfl, h6⟩
      refine thnF h6 ?_
      rintro _ s7 ⟨x, H7, J7, r7, y7, at7, free7⟩
      have J7p := J7.pinned (stat J7 free7) (T.obj _ _ at7)
      refine thnF (goodG.run _ s7 _ H7 x u _ J7p r7 (step x H7 y7)) ?_
      rintro _ s8 ⟨σ8, H8, J8, hw8, q8⟩
      refine thnF (goodT.run _ s8 σ8 H8 _ J8 q8) ?_
      rintro b s9 ⟨H9, J9, q9⟩
      have next : ∀ {s' : Shared} {H' : Hp}, Inv (blkK X hs sD H3 scope ce fp) ([] ++ pinsAt fp s7.heap) σ8 H' s' → Nx H' → ∃ m, m < n ∧ ∃ i H', Inv (blkK X hs sD H3 scope ce fp) [] (wipe σ (own.map (·.2))) H' s' ∧ tn i s'.heap ∧ (∀ b ∈ fp, H' b = none) ∧ W i m H' := fun {s' H'} I' nx => by
        obtain ⟨m', lt, w'⟩ := hNx H' nx
        have kept : ∀ b ∈ fp, ∀ o, s7.heap.get? b = some o → s'.heap.get? b = some o ∧ H' b = none := fun b hb o e => by
          obtain ⟨z1, z2, _⟩ := I'.pin (b, o) (List.mem_append_right _ (List.mem_append_right _ (mem_pinsAt hb e)))
          exact ⟨z1, z2⟩
        refine ⟨m', lt, i + 1, H', (I'.unpinned (pins := [])).weak (by rw [← hw8, wipe_length]) (fun j v e => by rw [← hw8] at e; exact (wipe_some e).1), T.keep _ _ _ at7 fun b hb o e => (kept b hb o e).1, fun b hb => ?_, w'⟩
        obtain ⟨o, e, _⟩ := T.obj _ _ at7 b hb
        exact (kept b hb o e).2
      cases b with
      | false =>
        simp only [Bool.false_eq_true, if_false] at q9 ⊢
        exact next J9 q9
      | true =>
        simp only [if_true] at q9 ⊢
        refine thnF (goodE.run _ s9 σ8 H9 _ J9 q9) ?_
        rintro z s10 ⟨yv, H10, J10, r10, acc, hD, few, nx⟩
        exact app_ok (X := blkK X hs sD H3 scope ce fp) J10 hD few r10 fun s11 J11 => next J11 nx
  exact codeAny_compStart_list rounds (T.self X.A 0 _ _ _ at4 rounds)
theorem pe_lcK {elt tg iter : Expr} {ifs : List Expr} {scope : Scope} {own : List (Str × Nat)} {pos : Pos} {wi : TI} {g : TG} {tt : TT} {te : TE} (hk : HotK X hs) (nd : X.N.Nodup) (hi : PIK X tg iter wi) (ok : BlkOk X.N X.env.scope scope own)
    (hg : ∀ (s : Shared) (H : Hp) (C : Addr) (cl : List (Str × Addr)) (fp : List Addr), PG (blkK X hs s H scope (compEnvC scope cl C X.env) fp) tg g)
    (ht : ∀ (s : Shared) (H : Hp) (C : Addr) (cl : List (Str × Addr)) (fp : List Addr), PTs (blkK X hs s H scope (compEnvC scope cl C X.env) fp) ifs tt)
    (he : ∀ (s : Shared) (H : Hp) (C : Addr) (cl : List (Str × Addr)) (fp : List Addr), PE (blkK X hs s H scope (compEnvC scope cl C X.env) fp) elt te)
    (hse : ∀ x, foldedSetIterable iter X.env x = pure x := by intro _; rfl) : PE X (.ListComp elt [⟨tg, iter, ifs, 0⟩] scope pos) (tLc wi g tt te (own.map (·.2))) := by
  refine ⟨fun pins s σ H Q I h => ?_⟩
  rw [eval_ListComp]
  refine lcK hk nd I hi ok hg ht he hse h ?_
  rintro D C s' m H' J q ns ⟨f0, f1, f2, f3, f4, f5⟩
  exact ⟨m, ns, fun g but => ⟨.ref D, H', J.turned (t' := s'.toks) (fun b o nb e => (but.2 b nb).trans e) f0 f1 f3 f4 f5, rfl, q⟩⟩

/-! an exception that is handed over, asked for its fields; small bridges -/
theorem pe_xfK {a : Addr} {oe : Obj} {cls : Value} {d : Option Addr} {e : Expr} {te : TE} {pos : Pos} {n : Str} (hp : (a, oe) ∈ X.pn) (hz : Zc cls d oe) (hf : ∃ vs, oe.data = .fields vs) (he : PE X e te) (hb : attributeBase e n X.env (eval e X.env) = eval e X.env := by rfl) :
    PE X (.Attribute e n pos) (tXfU X.K a cls d n te) := by
  refine ⟨fun pins s fr H Q I h => attr_of hb (thn (he.run pins s fr H _ I h) ?_)⟩
  rintro u s1 ⟨x, H1, I1, rx, rfl, C, rfl, T, hno, dd, fs, v, rfl, ea, l, q⟩
  obtain rfl : u = Value.ref a := rx
  obtain ⟨ha, _⟩ := I1.pin (a, oe) (List.mem_append_left _ hp)
  obtain ⟨vs, dat⟩ := hf
  obtain ⟨mA, hns, hr⟩ := (show ObjOk X.prog X.w H1 s1.heap dd (.xd fs) from I1.hok dd _ ea)
  obtain ⟨od, ho, hl⟩ := lookIn_ns hns
  obtain ⟨y, hy, ry⟩ := RelO.some_of (v := v) (o := mA n) (by rw [← l]; exact hr n)
  have J : PySem.W.InstAt s1.heap a oe C (some od) := ⟨ha, hz.1, by unfold PySem.W.notCls; rw [dat] <;> rfl, by rw [hz.2]; exact ho⟩
  exact PySem.HandSPX.exc_get I1.kIn J T.ga T.gg T.exC (PySem.W.findObj_own T.hdC hno rfl (by rw [hl, hy])) (handed_of ry) ⟨v, H1, I1.tok _, ry, q⟩
theorem hotK0 {k : Nat} (hr : Room k X.A) : HotK X [] := ⟨⟨hr.hd, .nil⟩, fun _ z => nomatch z⟩
end
theorem roomM {k : Nat} {A : Around} (h : L2H.RoomH k A) (v : Option Value) : L2H.RoomH k (A.mark v) := ⟨h.dp, h.un⟩
theorem okKE {P : Program} {w : World} {K : PySem.W.Frag} {mg : Str → Option Value} {base : Heap} {x qual : Str} {st : Stmt} {f : Addr} {fd : FuncData} {N ps : List Str} {m k : Nat} {sp : SpE} (F : Fun K x qual st f fd) (S : FnScope N ps (defScope st)) (len : ∀ a c d vs H Q E, sp a c d vs H Q E → vs.length = ps.length)
    (hbody : ∀ (cdv : Value) (A : Around) (outer : List Env) (s : Shared) (H : Hp) (vs : List V) (Q : VK) (E : XK) (a : Addr) (oe : Obj) (r : Hnd) (cls : Value) (d : Option Addr), ((a, oe) :: r).length ≤ m → HotK (cxK P w K mg base N qual (defScope st) f cdv A outer s H E ((a, oe) :: r)) ((a, oe) :: r) →
      L2H.RoomH k (A.deeper (envOfC qual (defScope st) s.heap.objs.size f cdv)) → Zc cls d oe → (∃ us, oe.data = .fields us) → sp a cls d vs H Q E →
      ∃ t, PSs (cxK P w K mg base N qual (defScope st) f cdv A outer s H E ((a, oe) :: r)) (defBody st) t ∧ t ⟨fun _ H' => Q .non H', Q, fun _ _ => False, fun _ _ => False⟩ (start N vs) H) : FnK P w K mg base m (k + 1) f fd ps (spKE sp) :=
  okK F S (fun hs vs H Q E ⟨_, _, _, _, _, _, _, _, z⟩ => len _ _ _ vs H Q E z) fun cdv A outer s H vs Q E hs few hk hr ⟨a, oe, r, cls, d, e, hz, hf, z⟩ => by
    subst e
    exact hbody cdv A outer s H vs Q E a oe r cls d few hk hr hz hf z
end Hw

namespace Hw
open PySem L2
local macro_rules | `(tactic| walk_at "set") => `(tactic| first | exact set0 | (apply setS; walk_at "set") | fail)
local macro_rules | `(tactic| walk_at "mem") => `(tactic| first | assumption | exact List.Mem.head _ | (apply List.Mem.tail; walk_at "mem") | fail)
local macro_rules | `(tactic| walk_at "put") => `(tactic| first | exact Put.hd | (apply Put.tl; walk_at "put") | fail)
local macro_rules | `(tactic| walk_at "gq") => `(tactic| first | assumption | exact sql_of (by assumption) | (apply Same.seq; (· assumption); walk_at "gq") | fail)
local macro_rules | `(tactic| walk_at "same") => `(tactic| first | exact Same.refl _ | assumption | (refine Same.trans ?_ (by assumption); walk_at "same") | fail)
local macro_rules | `(tactic| walk_at "ga") => `(tactic| first | assumption | (apply ga_step; (· assumption); walk_at "ga") | fail)
local macro_rules | `(tactic| walk_at "gt") => `(tactic| first | assumption | exact sqt_of (by assumption) | (apply same_t; (· assumption); walk_at "gt") | fail)
local macro_rules | `(tactic| walk_at "at") => `(tactic| (apply Sy.at; (· assumption); (· walk_at "mem")))
local macro_rules | `(tactic| walk_at "sq") => `(tactic| first | (apply Sy.seq; (· assumption); (· walk_at "mem")) | (apply Sy.fr; (· assumption); (· walk_at "gq")) | assumption | fail)
local macro_rules | `(tactic| walk_at "sqt") => `(tactic| first | (apply same_t; (· exact (by assumption : Sy _ _ _).frz); (· walk_at "gt")) | assumption | fail)
local macro_rules | `(tactic| walk_at "hl") => `(tactic| first | walk_at "at" | (apply fr_step; (· assumption); (· walk_at "ga")) | assumption | fail)
local macro_rules | `(tactic| walk_at "ht") => `(tactic| first | (apply fr_step; (· assumption); (· walk_at "ga")) | assumption | fail)
local macro_rules | `(tactic| walk_at "hd") => `(tactic| first | walk_at "at" | (apply fr_step; (· assumption); (· walk_at "ga")) | assumption | fail)
local macro_rules | `(tactic| walk_at "bag") => `(tactic| first | assumption | exact BagIn.hd | (apply BagIn.cons; walk_at "bag") | fail)
local macro_rules | `(tactic| walk_at "ix") => `(tactic| first | rfl | assumption | fail)
local macro_rules | `(tactic| walk_at "sz") => `(tactic| exact Nat.lt_of_lt_of_le (show _ < 100001 by simp only [List.length_append, List.length_cons, List.length_nil] <;> omega) (by decide))
local macro_rules | `(tactic| walk_at "side") => `(tactic| first | exact Or.inl (Or.inr (by omega)) | exact Or.inl (Or.inl (by omega)) | omega | (exact ⟨by omega, by decide +kernel, by decide +kernel⟩) | walk_at "wide" | fail)
local macro_rules | `(tactic| walk_at "wide") => `(tactic| first
  | exact Or.inr (wide_mul (a := 70) (b := 70) (by omega) (by omega) (by decide) (by decide) (by decide))
  | exact wide_div (b := 70) (by omega) (by omega) (by decide) (by decide)
  | exact wide_div (b := 200) (by omega) (by assumption) (by decide) (by decide)
  | fail)
local macro_rules | `(tactic| walk_at "st0") => `(tactic| first
  | with_reducible apply s_seq
  | with_reducible apply s_asg
  | ((with_reducible apply t_var); (· rfl))
  | ((with_reducible apply g_name); (· walk_at "set"))
  | with_reducible apply t_c
  | with_reducible apply t_op
  | with_reducible apply t_cons
  | with_reducible apply t_nil
  | with_reducible apply t_cb
  | with_reducible apply t_hwc
  | with_reducible apply s_if
  | with_reducible apply c_test
  | with_reducible apply c_b
  | with_reducible apply bl_ex
  | with_reducible apply i_not
  | with_reducible apply iteT
  | with_reducible apply iteF
  | with_reducible apply s_ret
  | with_reducible apply s_next
  | with_reducible apply s_drop
  | with_reducible apply c_and
  | with_reducible apply c_or
  | with_reducible apply c_not
  | with_reducible apply c_yes
  | with_reducible apply t_andv
  | with_reducible apply t_orv
  | with_reducible apply t_notv
  | with_reducible apply t_un
  | with_reducible apply t_chain
  | with_reducible apply t_ifx
  | with_reducible apply t_tup
  | with_reducible apply t_lst
  | with_reducible apply t_dnew
  | with_reducible apply t_fld
  | with_reducible apply t_sl
  | with_reducible apply t_nopart
  | with_reducible apply t_part
  | with_reducible apply int_ex
  | with_reducible apply t_hwm
  | with_reducible apply t_hwn
  | with_reducible apply t_mk
  | with_reducible apply s_raise
  | with_reducible apply s_tryAs
  | with_reducible apply s_tryOnly
  | with_reducible apply t_xf
  | with_reducible apply t_dget2
  | with_reducible apply t_bm
  | with_reducible apply t_bm0
  | with_reducible apply s_augs
  | with_reducible apply s_fldset
  | with_reducible apply s_par
  | with_reducible apply g_cons
  | with_reducible apply g_nil
  | with_reducible apply g_sub
  | with_reducible apply s_cont
  | with_reducible apply s_retN
  | with_reducible apply t_lc
  | with_reducible apply i_list
  | with_reducible apply i_tup
  | with_reducible apply i_enum
  | with_reducible apply s_for
  | with_reducible apply i_rng1
  | with_reducible apply i_rng2
  | ((with_reducible apply s_par2); (· walk_at "set"); (· walk_at "set"))
  | fail)
local macro_rules | `(tactic| walk_at "st1") => `(tactic| first
  | with_reducible apply isi_ii
  | with_reducible apply isi_ib
  | with_reducible apply isi_is
  | with_reducible apply isi_il
  | with_reducible apply isi_it
  | with_reducible apply isi_bi
  | with_reducible apply isi_bb
  | with_reducible apply isi_bs
  | with_reducible apply isi_bL
  | with_reducible apply isi_bt
  | with_reducible apply isi_ni
  | with_reducible apply isi_nb
  | with_reducible apply isi_ns
  | with_reducible apply isi_nl
  | with_reducible apply isi_nt
  | with_reducible apply isi_si
  | with_reducible apply isi_sb
  | with_reducible apply isi_ss
  | with_reducible apply isi_sl
  | with_reducible apply isi_st
  | with_reducible apply o_pow18
  | with_reducible apply o_pow17
  | with_reducible apply o_pow16
  | with_reducible apply o_pow9
  | with_reducible apply o_pow6
  | with_reducible apply o_pow15
  | with_reducible apply o_pow20
  | with_reducible apply o_pow30
  | with_reducible apply o_pow40
  | with_reducible apply o_addI
  | with_reducible apply o_i0
  | with_reducible apply o_neg
  | with_reducible apply o_ipI
  | with_reducible apply o_eqI
  | with_reducible apply o_neI
  | with_reducible apply o_isNI
  | with_reducible apply o_isNN
  | with_reducible apply o_isNR
  | with_reducible apply o_isNS
  | with_reducible apply o_isNB
  | with_reducible apply o_ntNI
  | with_reducible apply o_ntNN
  | with_reducible apply o_ntNR
  | with_reducible apply o_ntNS
  | with_reducible apply o_ntNB
  | with_reducible apply o_eqB
  | with_reducible apply o_neB
  | with_reducible apply o_eqS
  | with_reducible apply o_neS
  | with_reducible apply o_eqNI
  | with_reducible apply o_eqIN
  | with_reducible apply o_eqNN
  | with_reducible apply o_neNI
  | with_reducible apply o_neIN
  | with_reducible apply o_neNN
  | with_reducible apply o_isB
  | with_reducible apply o_abs
  | ((with_reducible apply o_iC); (· walk_at "side"))
  | ((with_reducible apply o_mulI); (· walk_at "side"))
  | ((with_reducible apply o_ixL); (· walk_at "sq"); (· walk_at "ix"))
  | ((with_reducible apply o_ixT); (· walk_at "sqt"); (· walk_at "ix"))
  | ((with_reducible apply o_get); (· walk_at "at"); (· decide); (· rfl))
  | ((with_reducible apply o_setL); (· assumption); (· walk_at "at"); (· rfl); (· walk_at "put"); intro _ _)
  | ((with_reducible apply o_app); (· assumption); (· walk_at "at"); (· walk_at "sz"); (· walk_at "put"); intro _ _)
  | ((with_reducible apply o_lenL); (· walk_at "sq"))
  | ((with_reducible apply o_lenT); (· walk_at "sqt"))
  | ((with_reducible apply ty_lst); (· walk_at "sq"))
  | ((with_reducible apply n_lst); (· assumption); (· exact Nat.le_of_ble_eq_true rfl); intro _ _ _)
  | ((with_reducible apply n_tup); (· assumption); (· exact Nat.le_of_ble_eq_true rfl); intro _ _ _ _ _ _)
  | ((with_reducible apply n_any); (· assumption); intro _ _ _)
  | ((with_reducible apply n_get); (· walk_at "hl"); (· exact KC.c); (· exact KC.no _ (by walk_at "mem")); (· rfl))
  | ((with_reducible apply n_fld); (· assumption); (· walk_at "hl"); (· exact KC.c); (· exact KC.no _ (by walk_at "mem")); (· exact Nat.le_of_ble_eq_true rfl); (· walk_at "put"); intro _ _)
  | ((with_reducible apply n_isD); (· walk_at "hl"))
  | ((with_reducible apply n_dgetI); (· walk_at "hl"))
  | ((with_reducible apply n_rcv); (· walk_at "hl"); (· rfl))
  | ((with_reducible apply n_new); (· assumption); intro _ _ _ _ _ _)
  | ((with_reducible apply n_mk); (· assumption); (· rfl); (· exact (fun z => nomatch z)); (· exact Nat.le_of_ble_eq_true rfl); intro _ _ _ _ _ _)
  | ((with_reducible apply x_asO); (· intro _; walk_at "set"); intro _ _)
  | ((with_reducible apply x_onlyO); intro _ _)
  | ((with_reducible apply o_isXo); (· apply dst_some; walk_at "hl"))
  | ((with_reducible apply o_isXt); (· apply dst_some; walk_at "hl"))
  | ((with_reducible apply n_xf); (· walk_at "mem"); (· walk_at "hl"); (· rfl))
  | ((with_reducible apply o_eqNilL); (· walk_at "sq"); (· walk_at "sq"))
  | ((with_reducible apply o_neNilL); (· walk_at "sq"); (· walk_at "sq"))
  | ((with_reducible apply o_slL); (· walk_at "sq"))
  | ((with_reducible apply o_tupL); (· walk_at "sq"))
  | ((with_reducible apply it_list); (· walk_at "sq"))
  | ((with_reducible apply it_enum); (· walk_at "sq"))
  | ((with_reducible apply it_tup); (· walk_at "sqt"))
  | ((with_reducible first | apply isi_li | apply isi_lb | apply isi_ls | apply isi_ll | apply isi_lt); (· walk_at "hl"))
  | ((with_reducible first | apply isi_ti | apply isi_tb | apply isi_ts | apply isi_tl | apply isi_tt); (· walk_at "ht"))
  | ((with_reducible first | apply isi_di | apply isi_db | apply isi_ds | apply isi_dl | apply isi_dt); (· walk_at "hd"))
  | ((with_reducible apply lc_wp); (· rfl))
  | ((with_reducible apply o_str); (· omega))
  | ((with_reducible apply t_disp1); (· assumption); intro _ _ _)
  | ((with_reducible apply n_disp); (· assumption); (· walk_at "at"); (· walk_at "put"); intro _ _)
  | ((with_reducible apply it_rng1); (· omega))
  | ((with_reducible apply it_rng2); (· omega))
  | ((with_reducible apply o_listL); (· walk_at "sq"))
  | ((with_reducible apply i_decT); (· first | assumption | omega | fail))
  | ((with_reducible apply i_decF); (· first | assumption | omega | fail))
  | ((with_reducible apply i_dec) <;> intro _)
  | ((with_reducible apply i_boolT); (· assumption))
  | ((with_reducible apply i_boolF); (· assumption))
  | ((with_reducible apply i_bool) <;> intro _)
  | fail)
local macro_rules | `(tactic| walk_at "call") => `(tactic| fail)
local macro_rules | `(tactic| walk_at "st") => `(tactic| first | walk_at "st0" | walk_at "st1" | walk_at "call" | fail)
local macro_rules | `(tactic| walk_at "stm") => `(tactic| first | ((with_reducible apply o_modL); (· first | assumption | omega | fail); intro _ _ _) | fail)
local macro_rules | `(tactic| walk_at "runm") => `(tactic| repeat' first | walk_at "st0" | walk_at "stm" | walk_at "st1" | walk_at "call")
local macro_rules | `(tactic| walk_at "run") => `(tactic| repeat' walk_at "st")
local macro_rules | `(tactic| walk_at "runc") => `(tactic| repeat' first | walk_at "call" | walk_at "st0" | walk_at "st1")
local macro_rules | `(tactic| walk_at "nd") => `(tactic| first
  | assumption
  | omega
  | exact ⟨rfl, (fun z => nomatch z), Nat.le_of_ble_eq_true rfl⟩
  | exact rfl
  | walk_at "side"
  | (simp only [List.length_cons, List.length_nil, List.length_append, List.length_map, List.length_set, List.length_replicate] <;> omega)
  | walk_at "ndx"
  | fail)
local macro_rules | `(tactic| walk_at "ndx") => `(tactic| (with_reducible apply memN; (· assumption); (· assumption)))
local macro_rules | `(tactic| walk_at "ndx") => `(tactic| exact ⟨rfl, rfl⟩)
local macro_rules | `(tactic| walk_at "ndx") => `(tactic| (show PyData.strOk _ = true; decide +kernel))
local macro_rules | `(tactic| walk_at "if") => `(tactic| first
  | ((with_reducible apply i_decT); (· first | exact rfl | assumption | omega | fail))
  | ((with_reducible apply i_decF); (· first | assumption | omega | decide | fail))
  | ((with_reducible apply i_dec) <;> intro _)
  | ((with_reducible apply i_boolT); (· assumption))
  | ((with_reducible apply i_boolF); (· assumption))
  | ((with_reducible apply i_bool) <;> intro _)
  | fail)
local macro_rules | `(tactic| walk_at "fb") => `(tactic| first
  | ((with_reducible apply n_get); (· exact HA.e); (· exact KC.c); (· exact KC.no _ (by walk_at "mem")); (· rfl))
  | ((with_reducible apply n_fld); (· assumption); (· exact HA.e); (· exact KC.c); (· exact KC.no _ (by walk_at "mem")); (· exact Nat.le_of_ble_eq_true rfl); (· exact PU.p); intro _ _)
  | ((with_reducible apply n_rcv); (· exact HA.e); (· rfl))
  | ((with_reducible apply t_disp1); (· assumption); intro _ _ _)
  | ((with_reducible apply n_disp); (· assumption); (· exact HA.e); (· exact PU.p); intro _ _)
  | fail)
local macro_rules | `(tactic| walk_at "callx") => `(tactic| fail)
local macro_rules | `(tactic| walk_at "gostep") => `(tactic| first
  | refine Go.imp ?_
  | with_reducible intro _
  | refine and_need (by walk_at "nd") ?_
  | walk_at "if"
  | walk_at "fb"
  | walk_at "callx"
  | refine And.intro rfl ?_
  | refine And.intro ?_ ?_
  | fail)
local macro_rules | `(tactic| walk_at "go") => `(tactic| repeat' walk_at "gostep")
local macro_rules | `(tactic| walk_at "sub") => `(tactic| first | exact List.Sublist.refl _ | (refine List.Sublist.cons_cons _ ?_; walk_at "sub") | (refine List.Sublist.cons _ ?_; walk_at "sub") | fail)
local macro_rules | `(tactic| walk_at "shed") => `(tactic| (refine Sy.subl (by assumption) ?_; walk_at "sub"))
local macro_rules | `(tactic| walk_at "body") => `(tactic| (try dsimp only [fillSt, wipe, List.foldl, List.set]); walk_at "go")
local macro_rules | `(tactic| walk_at "gonstep") => `(tactic| first
  | refine Go.imp ?_
  | with_reducible intro _
  | refine and_need (by walk_at "nd") ?_
  | ((with_reducible apply i_decT); (· first | exact rfl | assumption | fail))
  | ((with_reducible apply i_decF); (· first | assumption | fail))
  | ((with_reducible apply i_boolT); (· assumption))
  | ((with_reducible apply i_boolF); (· assumption))
  | walk_at "fb"
  | walk_at "callx"
  | refine And.intro rfl ?_
  | refine And.intro ?_ ?_
  | fail)
local macro_rules | `(tactic| walk_at "gon") => `(tactic| ((try dsimp only [fillSt, wipe, List.foldl, List.set]); repeat' walk_at "gonstep"))
local macro_rules | `(tactic| walk_at "ndx") => `(tactic| (show (0 : Int) ≤ _ ∧ _ ≤ (1000000000000000000 : Int); omega))
local macro_rules | `(tactic| walk_at "gonzstep") => `(tactic| first
  | walk_at "gonstep"
  | ((with_reducible apply i_decT); (· decide))
  | ((with_reducible apply i_decF); (· decide))
  | fail)
local macro_rules | `(tactic| walk_at "gonz") => `(tactic| ((try dsimp only [fillSt, wipe, List.foldl, List.set]); repeat' walk_at "gonzstep"))
local macro_rules | `(tactic| walk_at "ndx") => `(tactic| exact ⟨Int.emod_nonneg _ (by omega), Int.lt_of_lt_of_le (Int.emod_lt_of_pos _ (by omega)) (by omega)⟩)
local macro_rules | `(tactic| walk_at "ndx") => `(tactic| (show _ <+: _; exact And.right (by assumption)))

section
variable {K : PySem.W.Frag} {mg : Str → Option Value}
class KdI (G : Hp) (v : V) : Prop where
  h : Kd G v
instance kdS {G G' : Hp} {v : V} [s : Sm G G'] [h : KdI G v] : KdI G' v := ⟨h.h.mono s.s⟩
instance kdi {G : Hp} {i : Int} : KdI G (.int i) := ⟨.int i⟩
instance kdb {G : Hp} {i : Bool} : KdI G (.bl i) := ⟨.bl i⟩
instance kdn {G : Hp} : KdI G .non := ⟨.non⟩
instance kds {G : Hp} {i : Str} : KdI G (.str i) := ⟨.str i⟩
instance kdl {G : Hp} {a : Addr} {xs : List V} [h : GA G a (.lst xs)] : KdI G (.ref a) := ⟨.lst h.e⟩
instance kdt {G : Hp} {a : Addr} {xs : List V} [h : GA G a (.tup xs)] : KdI G (.ref a) := ⟨.tup h.e⟩
instance kdd {G : Hp} {a : Addr} {xs : List (Key × V)} [h : GA G a (.dK xs)] : KdI G (.ref a) := ⟨.dk h.e⟩
instance kdopt {G : Hp} {o : Option Int} : KdI G (optV o) := ⟨by cases o <;> first | exact .non | exact .int _⟩
theorem Kd.isT {G H : Hp} {v : V} (s : Same G H) (h : Kd G v) : isT H v = isT G v := by
  cases h with
  | lst h => rw [isT_lst h, isT_lst (s _ _ h)]
  | tup h => rw [isT_tup h, isT_tup (s _ _ h)]
  | dk h => rw [isT_dk h, isT_dk (s _ _ h)]
  | _ => rfl
theorem Kd.isL {G H : Hp} {v : V} (s : Same G H) (h : Kd G v) : isL H v = isL G v := by
  cases h with
  | lst h => rw [isL_lst h, isL_lst (s _ _ h)]
  | tup h => rw [isL_tup h, isL_tup (s _ _ h)]
  | dk h => rw [isL_dk h, isL_dk (s _ _ h)]
  | _ => rfl
section
variable {G : Hp} {L : Lg} {H : Hp} {Q : VK}
instance (priority := low) z_isiK1 {v : V} [S : Sy G L H] [k : KdI G v] : Stp (rIsi K [v, .ty "int"] H Q) (Q (.bl (isI v)) H) := ⟨isi_int (k.h.mono S.frz)⟩
instance (priority := low) z_isiK2 {v : V} [S : Sy G L H] [k : KdI G v] : Stp (rIsi K [v, .ty "bool"] H Q) (Q (.bl (isB v)) H) := ⟨isi_bool (k.h.mono S.frz)⟩
instance (priority := low) z_isiK3 {v : V} [S : Sy G L H] [k : KdI G v] : Stp (rIsi K [v, .ty "str"] H Q) (Q (.bl (isS v)) H) := ⟨isi_str (k.h.mono S.frz)⟩
instance (priority := low) z_isiK4 {v : V} [S : Sy G L H] [k : KdI G v] : Stp (rIsi K [v, .ty "list"] H Q) (Q (.bl (isL G v)) H) := ⟨fun q => isi_list (k.h.mono S.frz) (by rw [k.h.isL S.frz]; exact q)⟩
instance (priority := low) z_isiK5 {v : V} [S : Sy G L H] [k : KdI G v] : Stp (rIsi K [v, .ty "tuple"] H Q) (Q (.bl (isT G v)) H) := ⟨fun q => isi_tuple (k.h.mono S.frz) (by rw [k.h.isT S.frz]; exact q)⟩
instance (priority := low) z_isiR1 {a : Addr} [S : Sy G L H] [k : KdI G (.ref a)] : Stp (rIsi K [.ref a, .ty "int"] H Q) (Q (.bl false) H) := ⟨isi_int (k.h.mono S.frz)⟩
instance (priority := low) z_isiR2 {a : Addr} [S : Sy G L H] [k : KdI G (.ref a)] : Stp (rIsi K [.ref a, .ty "bool"] H Q) (Q (.bl false) H) := ⟨isi_bool (k.h.mono S.frz)⟩
instance (priority := low) z_isiR3 {a : Addr} [S : Sy G L H] [k : KdI G (.ref a)] : Stp (rIsi K [.ref a, .ty "str"] H Q) (Q (.bl false) H) := ⟨isi_str (k.h.mono S.frz)⟩
end
def isNum : V → Bool
  | .int i => decide (0 ≤ i) && decide (i ≤ 1000000000000000000)
  | _ => false
theorem isNum_int {n : Int} (h : okN n) : isNum (.int n) = true := by simp [isNum, h.1, h.2]
theorem isNum_of {v : V} (h : isNum v = true) : ∃ k, v = .int k ∧ okN k := by
  cases v with
  | int i => simp [isNum] at h; exact ⟨i, rfl, h.1, h.2⟩
  | _ => cases h
def t__law_bag (K : PySem.W.Frag) (mg : Str → Option Value) (E : XK) : TS :=
  (tRet (tLst (tCons (tC (.int 0)) (tCons (tC (.int 1234567891)) (tCons (tC (.int 0)) (tCons (tLc (iList K (tSl (rSlU K) (tVar 0) tNoPart (tPart (tC (.int 63))))) (gName 1) tYes (tCB rAbs (tCons (tVar 1) tNil)) [1]) tNil))))))
theorem r__law_bag {G : Hp} {L : Lg} {a : Addr} {ns : List Int} {H : Hp} {Q : VK} {E : XK} [S : Sy G L H] [hs : GL K G a (ns.map V.int)] (hn : ns.length ≤ 100000) (q : ∀ b cs H', Sy G ((b, Bag cs) :: (cs, Cells) :: L) H' → Q (.ref b) H') :
    t__law_bag K mg E { nx := fun _ H' => Q .non H', rt := Q } [some (.ref a), none] H := by
  unfold t__law_bag
  walk_at "go"
  rename_i p1 H1 S1
  have hz : (cutL ns none (some 63)).length ≤ 63 := by rw [cutL_to (by decide), List.length_take]; exact Nat.min_le_left _ _
  refine w_lstc S1 (fun _ _ _ _ _ _ => by infer_instance) (fun i acc G' => G' = G ∧ ∃ ms : List Int, acc = ms.map V.int ∧ ms.length = i ∧ ∀ m ∈ ms, 0 ≤ m) ⟨rfl, [], rfl, rfl, fun _ h => nomatch h⟩ (by omega) ?_ ?_
  · rintro i n acc D G' H' P N hx s S' ⟨rfl, ms, rfl, hl, hm⟩ kP kN
    walk_at "body"
    refine kP _ _ _ ⟨sms⟩ (by assumption) ⟨rfl, ms ++ [if n < 0 then -n else n], by rw [List.map_append]; rfl, by simp [hl], fun m hm2 => ?_⟩
    rcases List.mem_append.mp hm2 with h | h
    · exact hm m h
    · rw [List.mem_singleton.mp h]; split <;> omega
  · rintro D acc G' H' s S' ⟨rfl, ms, rfl, hl, hm⟩
    walk_at "body"
    rename_i b H2 S2
    refine q b D H2 ((S2.drop3.wide ?_).wide2 ?_)
    · rintro o rfl
      exact ⟨0, 1234567891, 0, rfl, by omega, by omega, by omega, by omega⟩
    · rintro o rfl
      exact ⟨ms, rfl, by omega, hm⟩
def sp__law_bag (K : PySem.W.Frag) (mg : Str → Option Value) : Sp := fun vs H Q E => ∃ (G : Hp) (L : Lg) (a : Addr) (ns : List Int), vs = [.ref a] ∧ (Sy G L H) ∧ (GL K G a (ns.map V.int)) ∧ (ns.length ≤ 100000) ∧ (∀ b cs H', Sy G ((b, Bag cs) :: (cs, Cells) :: L) H' → Q (.ref b) H')
theorem len__law_bag : ∀ vs H Q E, sp__law_bag K mg vs H Q E → vs.length = 1 := fun vs H Q E h => by obtain ⟨G, L, a, ns, rfl, S, hs, hn, q⟩ := h; rfl
theorem R__law_bag {vs H Q E} (h : sp__law_bag K mg vs H Q E) : t__law_bag K mg E { nx := fun _ H' => Q .non H', rt := Q } (start ["_law_script", "_law_cell"] vs) H := by
  obtain ⟨G, L, a, ns, rfl, S, hs, hn, q⟩ := h
  exact r__law_bag hn q
instance u__law_bag {G : Hp} {L : Lg} {a : Addr} {ns : List Int} {H : Hp} {Q : VK} {E : XK} [S : Sy G L H] [hs : GL K G a (ns.map V.int)] : Stp (sp__law_bag K mg [.ref a] H Q E) (Need (ns.length ≤ 100000) ∧ (∀ b cs H', Sy G ((b, Bag cs) :: (cs, Cells) :: L) H' → Q (.ref b) H')) := ⟨fun z => by
  obtain ⟨hn, q⟩ := z
  exact ⟨_, _, _, _, rfl, S, hs, hn, q⟩⟩
def t__law_take (K : PySem.W.Frag) (mg : Str → Option Value) (E : XK) : TS :=
  (tSeq (tIfS (tTest (tOp (rEqU K) (tOp (rIxU K) (tVar 0) (tC (.int 0))) (tC (.int 0)))) (tSeq (tAsg (tC (.int 0)) (gName 2))
    (tSeq (tIfS (tTest (tOp (rI0 fun i j => .bl (decide (i < j))) (tOp (rIxU K) (tVar 0) (tC (.int 2))) (tCB (rLenU K) (tCons (tOp (rIxU K) (tVar 0) (tC (.int 3))) tNil)))) (tAsg (tOp (rIxU K) (tOp (rIxU K) (tVar 0) (tC (.int 3))) (tOp (rIxU K) (tVar 0) (tC (.int 2)))) (gName 2)) tNext)
    (tSeq (tAugS (tVar 0) (tC (.int 2)) (tC (.int 1)) rGetU (ipI fun i j => i + j) rSetU)
    (tSeq (tIfS (tTest (tOp (rI0 fun i j => .bl (decide (j ≤ i))) (tVar 2) (tC (.int 1000000000000000000)))) (tAsg (tVar 2) (gSub (tVar 0) (tC (.int 0)) rSetU)) tNext)
    (tAsg (tOp (rI (fun _ j => 0 < j) fun i j => .int (i % j)) (tOp (rAddU K) (tOp (rAddU K) (tOp rMulU (tOp (rIxU K) (tVar 0) (tC (.int 1))) (tC (.int 48271))) (tOp (rI (fun _ j => 0 < j) fun i j => .int (i % j)) (tVar 2) (tC (.int 2147483647)))) (tOp rMulU (tC (.int 7919)) (tOp (rIxU K) (tVar 0) (tC (.int 2))))) (tC (.int 2147483647))) (gSub (tVar 0) (tC (.int 1)) rSetU)))))) tNext)
    (tSeq (tIfS (tTest (tOp (rI0 fun i j => .bl (decide (j < i))) (tOp (rIxU K) (tVar 0) (tC (.int 0))) (tC (.int 0)))) (tSeq (tAsg (tOp (rI (fun _ j => 0 < j) fun i j => .int (i % j)) (tOp (rIxU K) (tVar 0) (tC (.int 0))) (tVar 1)) (gName 3))
    (tSeq (tAsg (tOp (rI CDivW fun i j => .int (i / j)) (tOp (rIxU K) (tVar 0) (tC (.int 0))) (tVar 1)) (gSub (tVar 0) (tC (.int 0)) rSetU))
    (tRet (tVar 3)))) tNext)
    (tSeq (tAsg (tOp (rI (fun _ j => 0 < j) fun i j => .int (i % j)) (tOp rMulU (tOp (rAddU K) (tOp (rIxU K) (tVar 0) (tC (.int 1))) (tC (.int 1))) (tC (.int 39373))) (tC (.int 1000000007))) (gName 4))
    (tSeq (tAsg (tOp (rI (fun _ j => 0 < j) fun i j => .int (i % j)) (tOp rMulU (tOp (rI (fun _ j => 0 < j) fun i j => .int (i % j)) (tOp rMulU (tVar 4) (tVar 4)) (tC (.int 998244353))) (tC (.int 30011))) (tC (.int 998244353))) (gName 5))
    (tSeq (tIfS (tTest (tOp (rI0 fun i j => .bl (decide (j < i))) (tVar 1) (tC (.int 1000000)))) (tRet (tOp (rI (fun _ j => 0 < j) fun i j => .int (i % j)) (tOp (rAddU K) (tOp rMulU (tVar 5) (tC (.int 1000000007))) (tVar 4)) (tVar 1))) tNext)
    (tRet (tOp (rI (fun _ j => 0 < j) fun i j => .int (i % j)) (tOp (rI CDivW fun i j => .int (i / j)) (tVar 5) (tC (.int 7))) (tVar 1))))))))
theorem r__law_take {G : Hp} {L : Lg} {b : Addr} {m : Int} {H : Hp} {Q : VK} {E : XK} [S : Sy G L H] [hb : BG b L] (h0 : 0 < m) (hm : m.natAbs < 2 ^ 200) (q : ∀ v H', Sy G L H' → 0 ≤ v → v < m → Q (.int v) H') :
    t__law_take K mg E { nx := fun _ H' => Q .non H', rt := Q } [some (.ref b), some (.int m), none, none, none, none] H := by
  unfold t__law_take
  obtain ⟨cs, hb1, hb2⟩ := hb.h
  obtain ⟨o, ho, c, s, i, rfl, c0, s0, s1, i0⟩ := S.get _ hb1
  obtain ⟨o2, ho2, ns, rfl, n63, n0⟩ := S.get _ hb2
  have hne : cs ≠ b := fun z => by
    subst z
    have e := HO.lst.inj (Option.some.inj (ho.symm.trans ho2))
    have e3 := congrArg (fun l : List V => l[3]?) e
    simp only [List.getElem?_map] at e3
    cases h3 : ns[3]? with
    | none => rw [h3] at e3; cases e3
    | some n => rw [h3] at e3; cases e3
  have S2 := S.focus ho
  have gcs : GA (del H b) cs (.lst (ns.map V.int)) := ⟨by rw [del_ne hne]; exact ho2⟩
  have un : ∀ {H' : Hp} {c s i : Int}, Sy (del H b) [(b, Is (.lst [.int c, .int s, .int i, .ref cs]))] H' → 0 ≤ c → 0 ≤ s → s < 2147483647 → 0 ≤ i → Sy G L H' :=
    fun {H' c s i} S3 a1 a2 a3 a4 => S.unfocus hb1 S3 ⟨c, s, i, rfl, a1, a2, a3, a4⟩
  have md : ∀ x : Int, 0 ≤ x % m ∧ x % m < m := fun x => ⟨Int.emod_nonneg _ (by omega), Int.emod_lt_of_pos _ h0⟩
  have dv : ∀ x : Int, 0 ≤ x → 0 ≤ x / m := fun x hx => Int.ediv_nonneg hx (by omega)
  clear hb
  have S0 := S2
  clear S
  have hx : ∀ {x : Int}, ns[i.toNat]? = some x → 0 ≤ x := fun h => n0 _ (List.mem_of_getElem? h)
  walk_at "go"
  all_goals first
    | exact q _ _ (un (by assumption) (by omega) (by omega) (by omega) (by omega)) (md _).1 (md _).2
    | exact q _ _ (un (by assumption) (dv _ (by omega)) (by omega) (by omega) (by omega)) (md _).1 (md _).2
    | exact q _ _ (un (by assumption) (dv _ (by first | exact c0 | exact hx (by assumption))) (by omega) (by omega) (by omega)) (md _).1 (md _).2
    | skip
def sp__law_take (K : PySem.W.Frag) (mg : Str → Option Value) : Sp := fun vs H Q E => ∃ (G : Hp) (L : Lg) (b : Addr) (m : Int), vs = [.ref b, .int m] ∧ (Sy G L H) ∧ (BG b L) ∧ (0 < m) ∧ (m.natAbs < 2 ^ 200) ∧ (∀ v H', Sy G L H' → 0 ≤ v → v < m → Q (.int v) H')
theorem len__law_take : ∀ vs H Q E, sp__law_take K mg vs H Q E → vs.length = 2 := fun vs H Q E h => by obtain ⟨G, L, b, m, rfl, S, hb, h0, hm, q⟩ := h; rfl
theorem R__law_take {vs H Q E} (h : sp__law_take K mg vs H Q E) : t__law_take K mg E { nx := fun _ H' => Q .non H', rt := Q } (start ["_law_bag_here", "_law_many", "_law_cell", "_law_value", "_law_first", "_law_second"] vs) H := by
  obtain ⟨G, L, b, m, rfl, S, hb, h0, hm, q⟩ := h
  exact r__law_take h0 hm q
instance u__law_take {G : Hp} {L : Lg} {b : Addr} {m : Int} {H : Hp} {Q : VK} {E : XK} [S : Sy G L H] [hb : BG b L] : Stp (sp__law_take K mg [.ref b, .int m] H Q E) (Need (0 < m) ∧ Need (m.natAbs < 2 ^ 200) ∧ (∀ v H', Sy G L H' → 0 ≤ v → v < m → Q (.int v) H')) := ⟨fun z => by
  obtain ⟨h0, hm, q⟩ := z
  exact ⟨_, _, _, _, rfl, S, hb, h0, hm, q⟩⟩
end

/-! law k15: the ten refusals; what they were made of -/
/-- equal to itself -/
inductive SelfEq (G : Hp) : V → Prop
  | int (i : Int) : SelfEq G (.int i)
  | bl (b : Bool) : SelfEq G (.bl b)
  | non : SelfEq G .non
  | str (x : Str) : SelfEq G (.str x)
  | lst {a : Addr} {xs : List V} (h : G a = some (.lst xs)) (k : ∀ x ∈ xs, okS x = true) : SelfEq G (.ref a)
  | tup {a : Addr} {xs : List V} (h : G a = some (.tup xs)) (k : ∀ x ∈ xs, okS x = true) : SelfEq G (.ref a)
  | dk {a : Addr} (h : G a = some (.dK [])) : SelfEq G (.ref a)
theorem SelfEq.mono {G G' : Hp} {v : V} (s : Same G G') (h : SelfEq G v) : SelfEq G' v := by
  cases h with
  | int i => exact .int i
  | bl b => exact .bl b
  | non => exact .non
  | str x => exact .str x
  | lst h k => exact .lst (s _ _ h) k
  | tup h k => exact .tup (s _ _ h) k
  | dk h => exact .dk (s _ _ h)
theorem SelfEq.kd {G : Hp} {v : V} (h : SelfEq G v) : Kd G v := by
  cases h with
  | int i => exact .int i
  | bl b => exact .bl b
  | non => exact .non
  | str x => exact .str x
  | lst h k => exact .lst h
  | tup h k => exact .tup h
  | dk h => exact .dk h
class SelfI (G : Hp) (v : V) : Prop where
  h : SelfEq G v
instance selfS {G G' : Hp} {v : V} [s : Sm G G'] [h : SelfI G v] : SelfI G' v := ⟨h.h.mono s.s⟩
instance (priority := low) selfKd {G : Hp} {v : V} [h : SelfI G v] : KdI G v := ⟨h.h.kd⟩
section
variable {K : PySem.W.Frag} {G : Hp} {L : Lg} {H : Hp} {Q : VK} {v : V} {p : Addr}
instance (priority := low) z_neSelf [S : Sy G L H] [h : SelfI G v] : Stp (rNeU K v v H Q) (Q (.bl false) H) := ⟨fun q => by
  obtain ⟨k⟩ := h
  cases k with
  | int i => exact o_neI (by rw [decide_eq_true rfl]; exact q)
  | bl b => exact o_neB (by rw [decide_eq_true rfl]; exact q)
  | non => exact o_neNN q
  | str x => exact o_neS (by rw [decide_eq_true rfl]; exact q)
  | lst h k => exact o_neSmL (.inl (.inl (S.frz _ _ h))) (.inl (.inl (S.frz _ _ h))) k q
  | tup h k => exact o_neSmT (.inl (.inl (S.frz _ _ h))) (.inl (.inl (S.frz _ _ h))) k q
  | dk h => exact o_neDk0 (S.frz _ _ h) (S.frz _ _ h) q⟩
instance z_inT2 {i j k : Int} [h : HT K H p [.int i, .int j]] : Stp (rInU K false (.int k) (.ref p) H Q) (Q (.bl (decide (k ∈ [i, j]))) H) := ⟨fun q => .inl ⟨p, [i, j].map V.int, rfl, .inr h.h, rfl, flat_int, by rw [inV_int]; exact q⟩⟩
end
theorem R_xinit2 {K : PySem.W.Frag} {mg : Str → Option Value} {x f g p p2 msg : Str} [T : XC K mg x [f, g]] {vs : List V} {H : Hp} {Q : VK} {E : XK} (h : spExc (clsA mg x) [f, g] vs H Q E) :
    (tSeq (tDrop (tVeI K (tCons (tVar 0) (tCons (tC (.str msg)) tNil)))) (tSeq (tOst K f (tVar 0) (tVar 1)) (tOst K g (tVar 0) (tVar 2)))) { nx := fun _ H' => Q .non H', rt := Q } (start ["self", p, p2] vs) H := by
  obtain ⟨a, ws, rfl, hl, ha, q⟩ := h
  match ws, hl with
  | [y, z], _ =>
    have q2 : ∀ d, H d = none → d ≠ a → Q .non (upd (upd H a (exo a (clsA mg x) (some d))) d (exd d [(g, z), (f, y)])) := by
      rcases q with ⟨z, _⟩ | ⟨_, q⟩
      · cases z
      · exact q
    refine ⟨.ref a, rfl, a, clsA mg x, [.str msg], rfl, Nat.le_of_ble_eq_true rfl, T.T, ha, ?_⟩
    refine ⟨y, rfl, .ref a, rfl, a, clsA mg x, rfl, T.T, T.no f (List.mem_cons_self ..), .inl ⟨ha, fun dx n ne => ?_⟩⟩
    refine ⟨z, rfl, .ref a, rfl, a, clsA mg x, rfl, T.T, T.no g (List.mem_cons_of_mem _ (List.mem_cons_self ..)), .inr ⟨dx, [(f, y)], upd_same, ?_, Nat.le_of_ble_eq_true rfl, ?_⟩⟩
    · rw [upd_ne ne, upd_same]
    have e : upd (upd (upd H dx (exd dx [(f, y)])) a (exo a (clsA mg x) (some dx))) dx (exd dx [(g, z), (f, y)]) = upd (upd H a (exo a (clsA mg x) (some dx))) dx (exd dx [(g, z), (f, y)]) := by
      funext b
      by_cases hd : b = dx
      · subst hd; rw [upd_same, upd_same]
      · rw [upd_ne hd, upd_ne hd]
        by_cases hb : b = a
        · subst hb; rw [upd_same, upd_same]
        · rw [upd_ne hb, upd_ne hb, upd_ne hd]
    show Q .non _
    rw [e]; exact q2 dx n ne
/-- the law's number of a refusal -/
def cn : Nat → Str
  | 0 => "Wrong"
  | 1 => "NoRoom"
  | 2 => "There"
  | 3 => "NotThere"
  | 4 => "Unkept"
  | 5 => "NoText"
  | 6 => "TooMany"
  | 7 => "Unlike"
  | 8 => "NoRow"
  | _ => "NoPlan"
/-- its fields, made of x and y -/
def fldF : Nat → V → V → List (Str × V)
  | 0, x, _ => [("at", x)]
  | 1, x, _ => [("room", x)]
  | 2, x, _ => [("key", x)]
  | 3, x, _ => [("key", x)]
  | 4, x, y => [("room", y), ("word", x)]
  | 5, x, _ => [("at", x)]
  | _, x, _ => [("most", x)]
/-- what it keeps -/
def valF : Nat → V → V → List V
  | 4, x, y => [x, y]
  | 7, _, _ => []
  | 8, _, _ => []
  | 9, _, _ => []
  | _, x, _ => [x]
def ExD (G : Hp) (j : Nat) (d : Option Addr) (x y : V) : Prop := (j < 7 ∧ ∃ dd, d = some dd ∧ G dd = some (.xd (fldF j x y))) ∨ (7 ≤ j ∧ d = none)
theorem ExD.mono {G G' : Hp} {j : Nat} {d : Option Addr} {x y : V} (s : Same G G') (h : ExD G j d x y) : ExD G' j d x y := by
  rcases h with ⟨h1, dd, e, g⟩ | h
  · exact .inl ⟨h1, dd, e, s _ _ g⟩
  · exact .inr h
class ExI (G : Hp) (j : outParam Nat) (d : Option Addr) (x y : outParam V) : Prop where
  h : ExD G j d x y
instance exS {G G' : Hp} {j : Nat} {d : Option Addr} {x y : V} [s : Sm G G'] [h : ExI G j d x y] : ExI G' j d x y := ⟨h.h.mono s.s⟩
theorem ExD.dst {G : Hp} {j : Nat} {d : Option Addr} {x y : V} (h : ExD G j d x y) : DsT G d := by
  rcases h with ⟨_, dd, e, g⟩ | ⟨_, e⟩
  · exact ⟨.inr ⟨dd, _, e, g⟩⟩
  · exact ⟨.inl e⟩
instance dstE {G : Hp} {j : Nat} {d : Option Addr} {x y : V} [h : ExI G j d x y] : DsT G d := h.h.dst
theorem ten {j : Nat} (h : j < 10) : j = 0 ∨ j = 1 ∨ j = 2 ∨ j = 3 ∨ j = 4 ∨ j = 5 ∨ j = 6 ∨ j = 7 ∨ j = 8 ∨ j = 9 := by omega
theorem valF_pre {j i : Nat} {x y v : V} (hj : j < 10) (h : (valF j x y)[i]? = some v) : i < 2 ∧ ([x, y] : List V)[i]? = some v := by
  rcases ten hj with rfl | rfl | rfl | rfl | rfl | rfl | rfl | rfl | rfl | rfl <;> rcases i with _ | _ | i <;> first | exact ⟨by decide, h⟩ | cases h
theorem valF_self {G : Hp} {j : Nat} {x y v : V} (hx : SelfEq G x) (hy : SelfEq G y) (hj : j < 10) (h : v ∈ valF j x y) : SelfEq G v := by
  obtain ⟨i, hi⟩ := List.mem_iff_getElem?.mp h
  obtain ⟨lt, e⟩ := valF_pre hj hi
  rcases i with _ | _ | i
  · cases e; exact hx
  · cases e; exact hy
  · omega
section
variable {K : PySem.W.Frag} {mg : Str → Option Value} [XC K mg "Wrong" ["at"]] [XC K mg "NoRoom" ["room"]] [XC K mg "There" ["key"]] [XC K mg "NotThere" ["key"]] [XC K mg "Unkept" ["word", "room"]] [XC K mg "NoText" ["at"]] [XC K mg "TooMany" ["most"]] [XC K mg "Unlike" []] [XC K mg "NoRow" []] [XC K mg "NoPlan" []]
instance z_xfW {a dd : Addr} {x y : V} {H : Hp} {Q : VK} [T : XC K mg "Unkept" ["word", "room"]] [h : HA H dd (.xd [("room", y), ("word", x)])] : Stp (nXf K a (.ref (clsA mg "Unkept")) (some dd) "word" (.ref a) H Q) (Q x H) := ⟨fun q => n_xf (gs := ["word", "room"]) (by decide) h.e rfl q⟩
instance z_xfR {a dd : Addr} {x y : V} {H : Hp} {Q : VK} [T : XC K mg "Unkept" ["word", "room"]] [h : HA H dd (.xd [("room", y), ("word", x)])] : Stp (nXf K a (.ref (clsA mg "Unkept")) (some dd) "room" (.ref a) H Q) (Q y H) := ⟨fun q => n_xf (gs := ["word", "room"]) (by decide) h.e rfl q⟩
def t_Wrong___init__ (K : PySem.W.Frag) (mg : Str → Option Value) (E : XK) : TS :=
  (tSeq (tDrop (tVeI K (tCons (tVar 0) (tCons (tC (.str "not what this place wants")) tNil))))
    (tOst K "at" (tVar 0) (tVar 1)))
def sp_Wrong___init__ (K : PySem.W.Frag) (mg : Str → Option Value) : Sp := spExc (clsA mg "Wrong") ["at"]
theorem R_Wrong___init__ {vs H Q E} (h : sp_Wrong___init__ K mg vs H Q E) : t_Wrong___init__ K mg E { nx := fun _ H' => Q .non H', rt := Q } (start ["self", "at"] vs) H := R_xinit1 h
def t_NoRoom___init__ (K : PySem.W.Frag) (mg : Str → Option Value) (E : XK) : TS :=
  (tSeq (tDrop (tVeI K (tCons (tVar 0) (tCons (tC (.str "no room for all of them")) tNil))))
    (tOst K "room" (tVar 0) (tVar 1)))
def sp_NoRoom___init__ (K : PySem.W.Frag) (mg : Str → Option Value) : Sp := spExc (clsA mg "NoRoom") ["room"]
theorem R_NoRoom___init__ {vs H Q E} (h : sp_NoRoom___init__ K mg vs H Q E) : t_NoRoom___init__ K mg E { nx := fun _ H' => Q .non H', rt := Q } (start ["self", "room"] vs) H := R_xinit1 h
def t_There___init__ (K : PySem.W.Frag) (mg : Str → Option Value) (E : XK) : TS :=
  (tSeq (tDrop (tVeI K (tCons (tVar 0) (tCons (tC (.str "it is there")) tNil))))
    (tOst K "key" (tVar 0) (tVar 1)))
def sp_There___init__ (K : PySem.W.Frag) (mg : Str → Option Value) : Sp := spExc (clsA mg "There") ["key"]
theorem R_There___init__ {vs H Q E} (h : sp_There___init__ K mg vs H Q E) : t_There___init__ K mg E { nx := fun _ H' => Q .non H', rt := Q } (start ["self", "key"] vs) H := R_xinit1 h
def t_NotThere___init__ (K : PySem.W.Frag) (mg : Str → Option Value) (E : XK) : TS :=
  (tSeq (tDrop (tVeI K (tCons (tVar 0) (tCons (tC (.str "it is not there")) tNil))))
    (tOst K "key" (tVar 0) (tVar 1)))
def sp_NotThere___init__ (K : PySem.W.Frag) (mg : Str → Option Value) : Sp := spExc (clsA mg "NotThere") ["key"]
theorem R_NotThere___init__ {vs H Q E} (h : sp_NotThere___init__ K mg vs H Q E) : t_NotThere___init__ K mg E { nx := fun _ H' => Q .non H', rt := Q } (start ["self", "key"] vs) H := R_xinit1 h
def t_Unkept___init__ (K : PySem.W.Frag) (mg : Str → Option Value) (E : XK) : TS :=
  (tSeq (tDrop (tVeI K (tCons (tVar 0) (tCons (tC (.str "no kept housing")) tNil))))
    (tSeq (tOst K "word" (tVar 0) (tVar 1))
    (tOst K "room" (tVar 0) (tVar 2))))
def sp_Unkept___init__ (K : PySem.W.Frag) (mg : Str → Option Value) : Sp := spExc (clsA mg "Unkept") ["word", "room"]
theorem R_Unkept___init__ {vs H Q E} (h : sp_Unkept___init__ K mg vs H Q E) : t_Unkept___init__ K mg E { nx := fun _ H' => Q .non H', rt := Q } (start ["self", "word", "room"] vs) H := R_xinit2 h
def t_NoText___init__ (K : PySem.W.Frag) (mg : Str → Option Value) (E : XK) : TS :=
  (tSeq (tDrop (tVeI K (tCons (tVar 0) (tCons (tC (.str "a row that is not written so")) tNil))))
    (tOst K "at" (tVar 0) (tVar 1)))
def sp_NoText___init__ (K : PySem.W.Frag) (mg : Str → Option Value) : Sp := spExc (clsA mg "NoText") ["at"]
theorem R_NoText___init__ {vs H Q E} (h : sp_NoText___init__ K mg vs H Q E) : t_NoText___init__ K mg E { nx := fun _ H' => Q .non H', rt := Q } (start ["self", "at"] vs) H := R_xinit1 h
def t_TooMany___init__ (K : PySem.W.Frag) (mg : Str → Option Value) (E : XK) : TS :=
  (tSeq (tDrop (tVeI K (tCons (tVar 0) (tCons (tC (.str "too many")) tNil))))
    (tOst K "most" (tVar 0) (tVar 1)))
def sp_TooMany___init__ (K : PySem.W.Frag) (mg : Str → Option Value) : Sp := spExc (clsA mg "TooMany") ["most"]
theorem R_TooMany___init__ {vs H Q E} (h : sp_TooMany___init__ K mg vs H Q E) : t_TooMany___init__ K mg E { nx := fun _ H' => Q .non H', rt := Q } (start ["self", "most"] vs) H := R_xinit1 h
def t_Unlike___init__ (K : PySem.W.Frag) (mg : Str → Option Value) (E : XK) : TS :=
  (tDrop (tVeI K (tCons (tVar 0) (tCons (tC (.str "rows of unlike plans")) tNil))))
def sp_Unlike___init__ (K : PySem.W.Frag) (mg : Str → Option Value) : Sp := spExc (clsA mg "Unlike") []
theorem R_Unlike___init__ {vs H Q E} (h : sp_Unlike___init__ K mg vs H Q E) : t_Unlike___init__ K mg E { nx := fun _ H' => Q .non H', rt := Q } (start ["self"] vs) H := R_xinit0 h
def t_NoRow___init__ (K : PySem.W.Frag) (mg : Str → Option Value) (E : XK) : TS :=
  (tDrop (tVeI K (tCons (tVar 0) (tCons (tC (.str "no row of a desk")) tNil))))
def sp_NoRow___init__ (K : PySem.W.Frag) (mg : Str → Option Value) : Sp := spExc (clsA mg "NoRow") []
theorem R_NoRow___init__ {vs H Q E} (h : sp_NoRow___init__ K mg vs H Q E) : t_NoRow___init__ K mg E { nx := fun _ H' => Q .non H', rt := Q } (start ["self"] vs) H := R_xinit0 h
def t_NoPlan___init__ (K : PySem.W.Frag) (mg : Str → Option Value) (E : XK) : TS :=
  (tDrop (tVeI K (tCons (tVar 0) (tCons (tC (.str "no rooms are told yet")) tNil))))
def sp_NoPlan___init__ (K : PySem.W.Frag) (mg : Str → Option Value) : Sp := spExc (clsA mg "NoPlan") []
theorem R_NoPlan___init__ {vs H Q E} (h : sp_NoPlan___init__ K mg vs H Q E) : t_NoPlan___init__ K mg E { nx := fun _ H' => Q .non H', rt := Q } (start ["self"] vs) H := R_xinit0 h
def t__law_raised (K : PySem.W.Frag) (mg : Str → Option Value) (E : XK) : TS :=
  (tSeq (tIfS (tTest (tOp (rEqU K) (tVar 0) (tC (.int 0)))) (tRz (fun cls d _ H => E cls d H) (tMkX (clsA mg "Wrong") ["at"] (tCons (tVar 1) tNil))) tNext)
    (tSeq (tIfS (tTest (tOp (rEqU K) (tVar 0) (tC (.int 1)))) (tRz (fun cls d _ H => E cls d H) (tMkX (clsA mg "NoRoom") ["room"] (tCons (tVar 1) tNil))) tNext)
    (tSeq (tIfS (tTest (tOp (rEqU K) (tVar 0) (tC (.int 2)))) (tRz (fun cls d _ H => E cls d H) (tMkX (clsA mg "There") ["key"] (tCons (tVar 1) tNil))) tNext)
    (tSeq (tIfS (tTest (tOp (rEqU K) (tVar 0) (tC (.int 3)))) (tRz (fun cls d _ H => E cls d H) (tMkX (clsA mg "NotThere") ["key"] (tCons (tVar 1) tNil))) tNext)
    (tSeq (tIfS (tTest (tOp (rEqU K) (tVar 0) (tC (.int 4)))) (tRz (fun cls d _ H => E cls d H) (tMkX (clsA mg "Unkept") ["word", "room"] (tCons (tVar 1) (tCons (tVar 2) tNil)))) tNext)
    (tSeq (tIfS (tTest (tOp (rEqU K) (tVar 0) (tC (.int 5)))) (tRz (fun cls d _ H => E cls d H) (tMkX (clsA mg "NoText") ["at"] (tCons (tVar 1) tNil))) tNext)
    (tSeq (tIfS (tTest (tOp (rEqU K) (tVar 0) (tC (.int 6)))) (tRz (fun cls d _ H => E cls d H) (tMkX (clsA mg "TooMany") ["most"] (tCons (tVar 1) tNil))) tNext)
    (tSeq (tIfS (tTest (tOp (rEqU K) (tVar 0) (tC (.int 7)))) (tRz (fun cls d _ H => E cls d H) (tMkZ (clsA mg "Unlike"))) tNext)
    (tSeq (tIfS (tTest (tOp (rEqU K) (tVar 0) (tC (.int 8)))) (tRz (fun cls d _ H => E cls d H) (tMkZ (clsA mg "NoRow"))) tNext)
    (tRz (fun cls d _ H => E cls d H) (tMkZ (clsA mg "NoPlan"))))))))))))
theorem r__law_raised {G : Hp} {L : Lg} {j : Nat} {x y : V} {H : Hp} {Q : VK} {E : XK} [S : Sy G L H] (hj : j < 10) (q : ∀ d G' H', Sm G G' → ExI G' j d x y → Sy G' L H' → E (.ref (clsA mg (cn j))) d H') :
    t__law_raised K mg E { nx := fun _ H' => Q .non H', rt := Q } [some (.int (j : Int)), some (x), some (y)] H := by
  unfold t__law_raised
  rcases ten hj with rfl | rfl | rfl | rfl | rfl | rfl | rfl | rfl | rfl | rfl
  all_goals walk_at "gonz"
  all_goals first
    | (rename_i d_1 G_1 H_1 sm_1 g_1 S_1; exact q _ _ _ sm_1 ⟨.inl ⟨by decide, _, rfl, g_1.e⟩⟩ S_1)
    | exact q _ _ _ ⟨Same.refl _⟩ ⟨.inr ⟨by decide, rfl⟩⟩ S
def sp__law_raised (K : PySem.W.Frag) (mg : Str → Option Value) : Sp := fun vs H Q E => ∃ (G : Hp) (L : Lg) (j : Nat) (x y : V), vs = [.int (j : Int), x, y] ∧ (Sy G L H) ∧ (j < 10) ∧ (∀ d G' H', Sm G G' → ExI G' j d x y → Sy G' L H' → E (.ref (clsA mg (cn j))) d H')
theorem len__law_raised : ∀ vs H Q E, sp__law_raised K mg vs H Q E → vs.length = 3 := fun vs H Q E h => by obtain ⟨G, L, j, x, y, rfl, S, hj, q⟩ := h; rfl
theorem R__law_raised {vs H Q E} (h : sp__law_raised K mg vs H Q E) : t__law_raised K mg E { nx := fun _ H' => Q .non H', rt := Q } (start ["_law_which", "_law_thing", "_law_other"] vs) H := by
  obtain ⟨G, L, j, x, y, rfl, S, hj, q⟩ := h
  exact r__law_raised hj q
instance u__law_raised {G : Hp} {L : Lg} {j : Nat} {x y : V} {H : Hp} {Q : VK} {E : XK} [S : Sy G L H] : Stp (sp__law_raised K mg [.int (j : Int), x, y] H Q E) (Need (j < 10) ∧ (∀ d G' H', Sm G G' → ExI G' j d x y → Sy G' L H' → E (.ref (clsA mg (cn j))) d H')) := ⟨fun z => by
  obtain ⟨hj, q⟩ := z
  exact ⟨_, _, _, _, _, rfl, S, hj, q⟩⟩
end

section
variable {K : PySem.W.Frag} {mg : Str → Option Value} [XC K mg "Wrong" ["at"]] [XC K mg "NoRoom" ["room"]] [XC K mg "There" ["key"]] [XC K mg "NotThere" ["key"]] [XC K mg "Unkept" ["word", "room"]] [XC K mg "NoText" ["at"]] [XC K mg "TooMany" ["most"]] [XC K mg "Unlike" []] [XC K mg "NoRow" []] [XC K mg "NoPlan" []]
def t__law_fields (K : PySem.W.Frag) (mg : Str → Option Value) (a : Addr) (cls : Value) (d : Option Addr) (E : XK) : TS :=
  (tSeq (tIfS (tTest (tOp (rInU K false) (tVar 0) (tTup (tCons (tC (.int 0)) (tCons (tC (.int 5)) tNil))))) (tRet (tLst (tCons (tXfU K a cls d "at" (tVar 1)) tNil))) tNext)
    (tSeq (tIfS (tTest (tOp (rEqU K) (tVar 0) (tC (.int 1)))) (tRet (tLst (tCons (tXfU K a cls d "room" (tVar 1)) tNil))) tNext)
    (tSeq (tIfS (tTest (tOp (rInU K false) (tVar 0) (tTup (tCons (tC (.int 2)) (tCons (tC (.int 3)) tNil))))) (tRet (tLst (tCons (tXfU K a cls d "key" (tVar 1)) tNil))) tNext)
    (tSeq (tIfS (tTest (tOp (rEqU K) (tVar 0) (tC (.int 4)))) (tRet (tLst (tCons (tXfU K a cls d "word" (tVar 1)) (tCons (tXfU K a cls d "room" (tVar 1)) tNil)))) tNext)
    (tSeq (tIfS (tTest (tOp (rEqU K) (tVar 0) (tC (.int 6)))) (tRet (tLst (tCons (tXfU K a cls d "most" (tVar 1)) tNil))) tNext)
    (tRet (tLst tNil)))))))
theorem r__law_fields {G : Hp} {L : Lg} {H : Hp} {Q : VK} {E : XK} {a : Addr} {d : Option Addr} {j : Nat} {x y : V} [S : Sy G L H] (he : ExD G j d x y) (hj : j < 10) (q : ∀ p G' H', Sm G G' → Sy G' ((p, Is (.lst (valF j x y))) :: L) H' → Q (.ref p) H') :
    t__law_fields K mg a (.ref (clsA mg (cn j))) d E { nx := fun _ H' => Q .non H', rt := Q } [some (.int (j : Int)), some (.ref a)] H := by
  unfold t__law_fields
  rcases ten hj with rfl | rfl | rfl | rfl | rfl | rfl | rfl | rfl | rfl | rfl
  all_goals rcases he with ⟨h7, dd, rfl, g⟩ | ⟨h7, rfl⟩
  all_goals try (exfalso; omega)
  all_goals try (simp only [fldF] at g; have g2 := GA.mk g)
  all_goals simp only [cn]
  all_goals walk_at "gonz"
  all_goals first
    | exact q _ _ _ ⟨sms⟩ (by assumption)
    | (rename_i p_1 G_1 H_1 sm_1 g_1 S_1 p_2 G_2 H_2 sm_2 g_2 S_2 p_3 h_1; exact q p_3 _ _ ⟨sms⟩ (S_2.new h_1 rfl))
def sp__law_fields (K : PySem.W.Frag) (mg : Str → Option Value) : SpE := fun a cls d vs H Q E => ∃ (G : Hp) (L : Lg) (j : Nat) (x y : V), vs = [.int (j : Int), .ref a] ∧ cls = .ref (clsA mg (cn j)) ∧ Sy G L H ∧ ExD G j d x y ∧ j < 10 ∧ ∀ p G' H', Sm G G' → Sy G' ((p, Is (.lst (valF j x y))) :: L) H' → Q (.ref p) H'
theorem len__law_fields : ∀ a c d vs H Q E, sp__law_fields K mg a c d vs H Q E → vs.length = 2 := fun a c d vs H Q E h => by obtain ⟨_, _, _, _, _, rfl, _⟩ := h; rfl
theorem R__law_fields {a c d vs H Q E} (h : sp__law_fields K mg a c d vs H Q E) : t__law_fields K mg a c d E { nx := fun _ H' => Q .non H', rt := Q } (start ["_law_which", "_law_e"] vs) H := by
  obtain ⟨G, L, j, x, y, rfl, rfl, S, he, hj, q⟩ := h
  exact r__law_fields he hj q
instance u__law_fields {G : Hp} {L : Lg} {H : Hp} {Q : VK} {E : XK} {a : Addr} {d : Option Addr} {j : Nat} {x y : V} [S : Sy G L H] [he : ExI G j d x y] : Stp (sp__law_fields K mg a (.ref (clsA mg (cn j))) d [.int (j : Int), .ref a] H Q E) (Need (j < 10) ∧ ∀ p G' H', Sm G G' → Sy G' ((p, Is (.lst (valF j x y))) :: L) H' → Q (.ref p) H') :=
  ⟨fun ⟨hj, q⟩ => ⟨G, L, j, x, y, rfl, rfl, S, he.h, hj, q⟩⟩
def t__law_kept (K : PySem.W.Frag) (mg : Str → Option Value) (a : Addr) (cls : Value) (d : Option Addr) (E : XK) : TS :=
  (tSeq (tFor (iEnum K (tCons (tHwE (sp__law_fields K mg) a cls d (fun _ => E0) (tCons (tVar 0) (tCons (tVar 1) tNil))) tNil)) (gTup K 2 (gCons (gName 3) (gCons (gName 4) gNil))) (tIfS (tOr (tTest (tOp (rNeU K) (tVar 4) (tOp (rIxU K) (tVar 2) (tVar 3)))) (tTest (tOp (rNeU K) (tCB (rIsi K) (tCons (tVar 4) (tCons (tC (.ty "bool")) tNil))) (tCB (rIsi K) (tCons (tOp (rIxU K) (tVar 2) (tVar 3)) (tCons (tC (.ty "bool")) tNil)))))) (tRet (tC (.bl false))) tNext))
    (tRet (tC (.bl true))))
theorem r__law_kept {G : Hp} {L : Lg} {H : Hp} {Q : VK} {E : XK} {a due : Addr} {d : Option Addr} {j : Nat} {x y : V} [S : Sy G L H] [he : ExI G j d x y] [sx : SelfI G x] [sy : SelfI G y] [rd : RdL G L due [x, y]] (hj : j < 10) (q : ∀ G' H', Sm G G' → Sy G' L H' → Q (.bl true) H') :
    t__law_kept K mg a (.ref (clsA mg (cn j))) d E { nx := fun _ H' => Q .non H', rt := Q } [some (.int (j : Int)), some (.ref a), some (.ref due), none, none] H := by
  unfold t__law_kept
  walk_at "gonz"
  rename_i p_1 G_1 H_1 sm_1 S_1
  have hl : HL K H_1 p_1 ((valF j x y).map id) := by
    rw [List.map_id]
    exact ⟨.inl (.inl (S_1.at (by walk_at "mem")))⟩
  refine w_enum (l := valF j x y) (f := id) S_1 [3, 4] (fun i ws G' L' => (∃ v3 v4, ws = [v3, v4]) ∧ L' = (p_1, Is (.lst (valF j x y))) :: L) [_, _] rfl ⟨⟨_, _, rfl⟩, rfl⟩ ?_ ?_ (fun _ _ _ _ _ _ h => h) ?_
  · rintro i ws G' L' H' s S' ⟨_, rfl⟩
    rw [List.map_id]
    exact ⟨.inl (.inl (S'.at (by walk_at "mem")))⟩
  · rintro i v ws G' L' H' T N hv s gT S' ⟨⟨v3, v4, rfl⟩, rfl⟩ next
    obtain ⟨lt, e2⟩ := valF_pre hj hv
    have sv : SelfI G' v := ⟨(valF_self sx.h sy.h hj (List.mem_of_getElem? hv)).mono (sm_1.s.trans s.s)⟩
    have gT2 : GA G' T (.tup [.int (i : Int), v]) := gT
    have at_ : AtL [x, y] ((i : Nat) : Int) v := ⟨atI_of (by omega) (by rw [Int.toNat_natCast]; exact e2), by omega, by rw [Int.toNat_natCast]; exact e2⟩
    clear gT S_1 S
    walk_at "body"
    exact next [_, _] _ _ _ ⟨sms⟩ (by walk_at "shed") ⟨⟨_, _, rfl⟩, rfl⟩
  · rintro ws G' L' H' s S' ⟨⟨v3, v4, rfl⟩, rfl⟩
    clear S_1 S
    walk_at "body"
    exact q _ _ ⟨sms⟩ (by walk_at "shed")
def sp__law_kept (K : PySem.W.Frag) (mg : Str → Option Value) : SpE := fun a cls d vs H Q E => ∃ (G : Hp) (L : Lg) (due : Addr) (j : Nat) (x y : V), vs = [.int (j : Int), .ref a, .ref due] ∧ cls = .ref (clsA mg (cn j)) ∧ Sy G L H ∧ ExD G j d x y ∧ SelfEq G x ∧ SelfEq G y ∧ RdL G L due [x, y] ∧ j < 10 ∧ ∀ G' H', Sm G G' → Sy G' L H' → Q (.bl true) H'
theorem len__law_kept : ∀ a c d vs H Q E, sp__law_kept K mg a c d vs H Q E → vs.length = 3 := fun a c d vs H Q E h => by obtain ⟨_, _, _, _, _, _, rfl, _⟩ := h; rfl
theorem R__law_kept {a c d vs H Q E} (h : sp__law_kept K mg a c d vs H Q E) : t__law_kept K mg a c d E { nx := fun _ H' => Q .non H', rt := Q } (start ["_law_which", "_law_e", "_law_due", "_law_k", "_law_found"] vs) H := by
  obtain ⟨G, L, due, j, x, y, rfl, rfl, S, he, sx, sy, rd, hj, q⟩ := h
  have he : ExI G j d x y := ⟨he⟩
  have sx : SelfI G x := ⟨sx⟩
  have sy : SelfI G y := ⟨sy⟩
  exact r__law_kept hj q
instance u__law_kept {G : Hp} {L : Lg} {H : Hp} {Q : VK} {E : XK} {a due : Addr} {d : Option Addr} {j : Nat} {x y : V} [S : Sy G L H] [he : ExI G j d x y] [sx : SelfI G x] [sy : SelfI G y] [rd : RdL G L due [x, y]] : Stp (sp__law_kept K mg a (.ref (clsA mg (cn j))) d [.int (j : Int), .ref a, .ref due] H Q E) (Need (j < 10) ∧ ∀ G' H', Sm G G' → Sy G' L H' → Q (.bl true) H') :=
  ⟨fun ⟨hj, q⟩ => ⟨G, L, due, j, x, y, rfl, rfl, S, he.h, sx.h, sy.h, rd, hj, q⟩⟩
end

/-- where the law's j-th refusal stands among those of XS -/
def srt : Nat → Nat
  | 5 => 6
  | 6 => 9
  | 7 => 5
  | 8 => 7
  | 9 => 8
  | j => j
def gsF : Nat → List Str
  | 0 => ["at"]
  | 1 => ["room"]
  | 2 => ["key"]
  | 3 => ["key"]
  | 4 => ["word", "room"]
  | 5 => ["at"]
  | 6 => ["most"]
  | _ => []
def sortL (j : Nat) : List V := ((((List.range (Int.toNat 10)).filter fun _ => true).map fun (i : Nat) => decide ((i : Int) = (j : Int))).map V.bl)
theorem sorts_eq {j : Nat} (hj : j < 10) : ([V.bl (decide (0 = srt j)), V.bl (decide (1 = srt j)), V.bl (decide (2 = srt j)), V.bl (decide (3 = srt j))] ++ [V.bl (decide (4 = srt j)), V.bl (decide (6 = srt j)), V.bl (decide (9 = srt j)), V.bl (decide (5 = srt j))] ++ [V.bl (decide (7 = srt j)), V.bl (decide (8 = srt j))]) = sortL j := by
  rcases ten hj with rfl | rfl | rfl | rfl | rfl | rfl | rfl | rfl | rfl | rfl <;> rfl
def t__law_caught (sp : Sp) (K : PySem.W.Frag) (mg : Str → Option Value) (E : XK) : TS :=
  (tSeq (tTryAs K (.ref (clsA mg "HomeError")) 4 (fun a cls d => (tSeq (tAsg (tLst (tCons (tCB (rIsX K cls d a) (tCons (tVar 4) (tCons (tC (.ref (clsA mg "Wrong"))) tNil))) (tCons (tCB (rIsX K cls d a) (tCons (tVar 4) (tCons (tC (.ref (clsA mg "NoRoom"))) tNil))) (tCons (tCB (rIsX K cls d a) (tCons (tVar 4) (tCons (tC (.ref (clsA mg "There"))) tNil))) (tCons (tCB (rIsX K cls d a) (tCons (tVar 4) (tCons (tC (.ref (clsA mg "NotThere"))) tNil))) tNil))))) (gName 5))
    (tSeq (tAsg (tOp (rAddU K) (tVar 5) (tLst (tCons (tCB (rIsX K cls d a) (tCons (tVar 4) (tCons (tC (.ref (clsA mg "Unkept"))) tNil))) (tCons (tCB (rIsX K cls d a) (tCons (tVar 4) (tCons (tC (.ref (clsA mg "NoText"))) tNil))) (tCons (tCB (rIsX K cls d a) (tCons (tVar 4) (tCons (tC (.ref (clsA mg "TooMany"))) tNil))) (tCons (tCB (rIsX K cls d a) (tCons (tVar 4) (tCons (tC (.ref (clsA mg "Unlike"))) tNil))) tNil)))))) (gName 5))
    (tSeq (tAsg (tOp (rAddU K) (tVar 5) (tLst (tCons (tCB (rIsX K cls d a) (tCons (tVar 4) (tCons (tC (.ref (clsA mg "NoRow"))) tNil))) (tCons (tCB (rIsX K cls d a) (tCons (tVar 4) (tCons (tC (.ref (clsA mg "NoPlan"))) tNil))) tNil)))) (gName 5))
    (tSeq (tIfS (tOr (tTest (tOp (rNeU K) (tVar 5) (tLc (iRng1 (tCons (tC (.int 10)) tNil)) (gName 6) tYes (tOp (rEqU K) (tVar 6) (tVar 0)) [6]))) (tNot (tB (tCB (rIsX K cls d a) (tCons (tVar 4) (tCons (tC (.ty "ValueError")) tNil)))))) (tRet (tC (.bl false))) tNext)
    (tSeq (tIfS (tNot (tB (tHwE (sp__law_kept K mg) a cls d (fun _ => E0) (tCons (tVar 0) (tCons (tVar 4) (tCons (tLst (tCons (tVar 1) (tCons (tVar 2) tNil))) tNil)))))) (tRet (tC (.bl false))) tNext)
    (tSeq (tIfS (tAnd (tB (tVar 3)) (tNot (tB (tHwC sp [] (fun _ => E0) (tCons (tVar 0) (tCons (tVar 2) (tCons (tVar 1) (tCons (tC (.bl false)) tNil)))))))) (tRet (tC (.bl false))) tNext)
    (tRet (tHwE (sp__law_kept K mg) a cls d (fun _ => E0) (tCons (tVar 0) (tCons (tVar 4) (tCons (tLst (tCons (tVar 1) (tCons (tVar 2) tNil))) tNil)))))))))))) wNo (fun W => (tDrop (tHwC (sp__law_raised K mg) [] (WE W) (tCons (tVar 0) (tCons (tVar 1) (tCons (tVar 2) tNil)))))))
    (tRet (tC (.bl false))))
def spN__law_caught (K : PySem.W.Frag) (mg : Str → Option Value) : Nat → Sp
  | 0 => fun _ _ _ _ => False
  | n + 1 => fun vs H Q _ => ∃ (G : Hp) (L : Lg) (j : Nat) (x y : V) (b : Bool), vs = [.int (j : Int), x, y, .bl b] ∧ Sy G L H ∧ SelfEq G x ∧ SelfEq G y ∧ j < 10 ∧ (b = true → 1 ≤ n) ∧ ∀ G' H', Sm G G' → Sy G' L H' → Q (.bl true) H'
section
variable {K : PySem.W.Frag} {mg : Str → Option Value} [XC K mg "Wrong" ["at"]] [XC K mg "NoRoom" ["room"]] [XC K mg "There" ["key"]] [XC K mg "NotThere" ["key"]] [XC K mg "Unkept" ["word", "room"]] [XC K mg "NoText" ["at"]] [XC K mg "TooMany" ["most"]] [XC K mg "Unlike" []] [XC K mg "NoRow" []] [XC K mg "NoPlan" []]
variable [XS K mg "Wrong" 0] [XS K mg "NoRoom" 1] [XS K mg "There" 2] [XS K mg "NotThere" 3] [XS K mg "Unkept" 4] [XS K mg "Unlike" 5] [XS K mg "NoText" 6] [XS K mg "NoRow" 7] [XS K mg "NoPlan" 8] [XS K mg "TooMany" 9]
variable [XE K mg "Wrong" (.ref (clsA mg "HomeError")) true] [XE K mg "NoRoom" (.ref (clsA mg "HomeError")) true] [XE K mg "There" (.ref (clsA mg "HomeError")) true] [XE K mg "NotThere" (.ref (clsA mg "HomeError")) true] [XE K mg "Unkept" (.ref (clsA mg "HomeError")) true] [XE K mg "NoText" (.ref (clsA mg "HomeError")) true] [XE K mg "TooMany" (.ref (clsA mg "HomeError")) true] [XE K mg "Unlike" (.ref (clsA mg "HomeError")) true] [XE K mg "NoRow" (.ref (clsA mg "HomeError")) true] [XE K mg "NoPlan" (.ref (clsA mg "HomeError")) true]
theorem xc_of {j : Nat} (hj : j < 10) : XC K mg (cn j) (gsF j) := by
  rcases ten hj with rfl | rfl | rfl | rfl | rfl | rfl | rfl | rfl | rfl | rfl <;> (dsimp only [cn, gsF]; infer_instance)
theorem xs_of {j : Nat} (hj : j < 10) : XS K mg (cn j) (srt j) := by
  rcases ten hj with rfl | rfl | rfl | rfl | rfl | rfl | rfl | rfl | rfl | rfl <;> (dsimp only [cn, srt]; infer_instance)
theorem xe_of {j : Nat} (hj : j < 10) : XE K mg (cn j) (.ref (clsA mg "HomeError")) true := by
  rcases ten hj with rfl | rfl | rfl | rfl | rfl | rfl | rfl | rfl | rfl | rfl <;> (dsimp only [cn]; infer_instance)
theorem len__law_caught {n : Nat} : ∀ vs H Q E, spN__law_caught K mg n vs H Q E → vs.length = 4 := fun vs H Q E h => by
  cases n with
  | zero => exact False.elim h
  | succ n => obtain ⟨_, _, _, _, _, _, rfl, _⟩ := h; rfl
instance u_caughtN {n : Nat} {G : Hp} {L : Lg} {H : Hp} {Q : VK} {E : XK} {j : Nat} {x y : V} {b : Bool} [S : Sy G L H] [sx : SelfI G x] [sy : SelfI G y] : Stp (spN__law_caught K mg (n + 1) [.int (j : Int), x, y, .bl b] H Q E)
    (Need (j < 10) ∧ Need (b = true → 1 ≤ n) ∧ ∀ G' H', Sm G G' → Sy G' L H' → Q (.bl true) H') := ⟨fun ⟨h1, h2, q⟩ => ⟨G, L, j, x, y, b, rfl, S, sx.h, sy.h, h1, h2, q⟩⟩
theorem R__law_caught {n : Nat} {vs H Q E} (h : spN__law_caught K mg (n + 1) vs H Q E) : t__law_caught (spN__law_caught K mg n) K mg E { nx := fun _ H' => Q .non H', rt := Q } (start ["_law_which", "_law_thing", "_law_other", "_law_again", "_law_e", "_law_sorts", "_law_k"] vs) H := by
  obtain ⟨G, L, j, x, y, b, rfl, S, sx, sy, hj, hb, q⟩ := h
  change t__law_caught (spN__law_caught K mg n) K mg E { nx := fun _ H' => Q .non H', rt := Q } [some (.int (j : Int)), some x, some y, some (.bl b), none, none, none] H
  have sx : SelfI G x := ⟨sx⟩
  have sy : SelfI G y := ⟨sy⟩
  have xc := xc_of (K := K) (mg := mg) hj
  have xs := xs_of (K := K) (mg := mg) hj
  have xe := xe_of (K := K) (mg := mg) hj
  unfold t__law_caught
  walk_at "gonz"
  rename_i sx_1 sy_1 d_1 G_1 H_1 sm_1 h_1 S_1 h_2 h_3 p_1 H_2 S_2 p_2 H_3 S_3 p_3 H_4 S_4 p_4 H_5 S_5 p_5 H_6 S_6
  clear S_1 S_2 S_3 S_4 S_5
  refine w_mapR0 V.bl (fun _ => true) (fun i => decide ((i : Int) = (j : Int))) S_6 (by decide) ?_ ?_
  · intro i G2 L2 H2 P N hi s2 S2 ls' kP kN
    clear S_6
    walk_at "body"
    exact kP _ _ ⟨sms⟩ rfl (by walk_at "shed")
  intro D G2 H2 s2 S2
  clear S_6 S
  have a5 := S2.at (a := p_5) (by walk_at "mem")
  have aD := S2.at (a := D) (by walk_at "mem")
  have e5 := sorts_eq hj
  have eD : ((((List.range (Int.toNat 10)).filter fun _ => true).map fun (i : Nat) => decide ((i : Int) = (j : Int))).map V.bl) = sortL j := rfl
  rw [eD] at aD
  replace a5 := a5.trans (congrArg (fun l => some (HO.lst l)) e5)
  refine o_neSmL (xs := sortL j) (.inl (.inl a5)) (.inl (.inl aD)) (fun z hz => by obtain ⟨b, _, rfl⟩ := List.mem_map.mp hz; rfl) ?_
  have S3 : Sy G2 L H2 := by walk_at "shed"
  clear S2 a5 aD
  walk_at "gonz"
  rename_i p_1 H_1 S_1 G_1 H_2 sm_1 S_2
  clear S_1 S3
  cases b with
  | false =>
    rw [if_neg Bool.false_ne_true]
    walk_at "gonz"
    exact q _ _ ⟨sms⟩ (by walk_at "shed")
  | true =>
    cases n with
    | zero => exact absurd (hb rfl) (by decide)
    | succ n =>
      rw [if_pos rfl]
      walk_at "gonz"
      · exact fun z => nomatch z
      · exact q _ _ ⟨sms⟩ (by walk_at "shed")
def sp__law_caught (K : PySem.W.Frag) (mg : Str → Option Value) : Sp := spN__law_caught K mg 2
instance u_caught {vs : List V} {H : Hp} {Q : VK} {E : XK} {P : Prop} [h : Stp (spN__law_caught K mg (1 + 1) vs H Q E) P] : Stp (sp__law_caught K mg vs H Q E) P := ⟨h.imp⟩
end

/-! law k15 -/
section
variable {K : PySem.W.Frag} {mg : Str → Option Value} [XC K mg "Wrong" ["at"]] [XC K mg "NoRoom" ["room"]] [XC K mg "There" ["key"]] [XC K mg "NotThere" ["key"]] [XC K mg "Unkept" ["word", "room"]] [XC K mg "NoText" ["at"]] [XC K mg "TooMany" ["most"]] [XC K mg "Unlike" []] [XC K mg "NoRow" []] [XC K mg "NoPlan" []]
def t_law (K : PySem.W.Frag) (mg : Str → Option Value) (E : XK) : TS :=
  (tSeq (tAsg (tHwC (sp__law_bag K mg) [] (fun _ => E) (tCons (tVar 0) tNil)) (gName 1))
    (tSeq (tAsg (tHwC (sp__law_take K mg) [] (fun _ => E) (tCons (tVar 1) (tCons (tC (.int 10)) tNil))) (gName 2))
    (tSeq (tFor (iRng1 (tCons (tC (.int 20)) tNil)) (gName 3) (tSeq (tAsg (tLst (tCons (tHwC (sp__law_take K mg) [] (fun _ => E) (tCons (tVar 1) (tCons (tC (.int 10)) tNil))) (tCons (tHwC (sp__law_take K mg) [] (fun _ => E) (tCons (tVar 1) (tCons (tC (.int 10)) tNil))) tNil))) (gName 4))
    (tSeq (tAsg (tLst (tCons (tHwC (sp__law_take K mg) [] (fun _ => E) (tCons (tVar 1) (tCons (tOp (rAddU K) (tOp (rI CPow fun i j => .int (i ^ j.toNat)) (tC (.int 10)) (tC (.int 18))) (tC (.int 1))) tNil))) (tCons (tUn (rU fun i => .int (-i)) (tHwC (sp__law_take K mg) [] (fun _ => E) (tCons (tVar 1) (tCons (tC (.int 70)) tNil)))) (tCons (tC (.str "order")) (tCons (tC (.str "")) (tCons (tC .non) (tCons (tC (.bl true)) (tCons (tC (.bl false)) (tCons (tLst (tCons (tC (.int 3)) tNil)) (tCons (tTup (tCons (tC (.int 3)) (tCons (tC .non) tNil))) (tCons tDNewK tNil))))))))))) (gName 5))
    (tIfS (tNot (tB (tHwC (sp__law_caught K mg) [] (fun _ => E0) (tCons (tOp (rI (fun _ j => 0 < j) fun i j => .int (i % j)) (tOp (rAddU K) (tVar 2) (tVar 3)) (tC (.int 10))) (tCons (tOp (rIxU K) (tVar 5) (tOp (rIxU K) (tVar 4) (tC (.int 0)))) (tCons (tOp (rIxU K) (tVar 5) (tOp (rIxU K) (tVar 4) (tC (.int 1)))) (tCons (tC (.bl true)) tNil))))))) (tRet (tC (.bl false))) tNext))))
    (tRet (tC (.bl true))))))
def spLaw (K : PySem.W.Frag) : Sp := sp1 fun x H Q _ => ∃ (a : Addr) (ns : List Int), x = .ref a ∧ SqL K H a (ns.map V.int) ∧ ns.length ≤ 63 ∧ ∀ H', Q (.bl true) H'
theorem r_law {a : Addr} {ns : List Int} {H : Hp} {Q : VK} {E : XK} [hs : GL K H a (ns.map V.int)] [S : Sy H [] H] (hn : ns.length ≤ 63) (q : ∀ H', Q (.bl true) H') :
    t_law K mg E { nx := fun _ H' => Q .non H', rt := Q } [some (.ref a), none, none, none, none, none] H := by
  unfold t_law
  walk_at "gonz"
  rename_i b_1 cs_1 H_1 S_1 v_1 H_2 S_2 h_1 h_2
  clear S_1 S
  refine w_range0 S_2 [3, 4, 5] (fun i ws G' L' => (∃ v3 v4 v5, ws = [v3, v4, v5]) ∧ L' = [(b_1, Bag cs_1), (cs_1, Cells)]) [_, _, _] rfl ⟨⟨_, _, _, rfl⟩, rfl⟩ ?_ ?_
  · rintro i ws G' L' H' N hi s S' ⟨⟨v3, v4, v5, rfl⟩, rfl⟩ next
    clear S_2
    walk_at "body"
    rename_i u_1 H_1 S_1 h_1 h_2 v_2 H_2 S_2 h_3 h_4 p_1 H_3 S_3 v_3 H_4 S_4 h_5 h_6 v_4 H_5 S_5 h_7 h_8 p_2 H_6 S_6 p_3 G_1 H_7 sm_1 g_1 S_7 p_4 H_8 S_8 p_5 H_9 S_9 v_5 h_9 v_6 h_10
    clear S_1 S_2 S_3 S_4 S_5 S_6 S_7 S_8 S'
    obtain ⟨G2, sf2, S3, hf2⟩ := S_9.freeze (E := [_, _, _, _])
    have sm2 : Sm G_1 G2 := ⟨sf2⟩
    clear S_9
    have all : ∀ v, v ∈ ([.int v_3, .int (-v_4), .str "order", .str "", .non, .bl true, .bl false, .ref p_2, .ref p_3, .ref p_4] : List V) → SelfEq G2 v := fun v hv => by
      simp only [List.mem_cons, List.not_mem_nil, or_false] at hv
      rcases hv with rfl | rfl | rfl | rfl | rfl | rfl | rfl | rfl | rfl | rfl
      · exact .int _
      · exact .int _
      · exact .str _
      · exact .str _
      · exact .non
      · exact .bl _
      · exact .bl _
      · exact .lst (xs := [.int 3]) (hf2 _ _ (by walk_at "mem")) (fun x h => by rw [List.mem_singleton.mp h]; rfl)
      · exact .tup (sf2 _ _ g_1.e) (fun x h => by
          rcases List.mem_cons.mp h with z | z
          · rw [z]; rfl
          · rw [List.mem_singleton.mp z]; rfl)
      · exact .dk (hf2 _ _ (by walk_at "mem"))
    have s5 : SelfI G2 v_5 := ⟨all _ (List.mem_of_getElem? h_9)⟩
    have s6 : SelfI G2 v_6 := ⟨all _ (List.mem_of_getElem? h_10)⟩
    obtain ⟨j, hj, e⟩ : ∃ j : Nat, j < 10 ∧ (v_1 + (i : Int)) % 10 = (j : Int) := ⟨((v_1 + (i : Int)) % 10).toNat, by omega, by omega⟩
    rw [e]
    walk_at "gonz"
    exact next [_, _, _] _ _ _ ⟨sms⟩ (by walk_at "shed") ⟨⟨_, _, _, rfl⟩, rfl⟩
  · rintro ws G' L' H' s S' ⟨⟨v3, v4, v5, rfl⟩, rfl⟩
    clear S_2
    walk_at "body"
    exact q _
def sp_law (K : PySem.W.Frag) (mg : Str → Option Value) : Sp := spLaw K
theorem R_law {vs H Q E} (h : sp_law K mg vs H Q E) : t_law K mg E { nx := fun _ H' => Q .non H', rt := Q } (start ["_law_script", "_law_bag_here", "_law_first", "_law_k", "_law_ways", "_law_some"] vs) H := by
  obtain ⟨x, rfl, a, ns, rfl, hs, hn, q⟩ := h
  have i1 : GL K H a (ns.map V.int) := ⟨hs⟩
  have i2 : Sy H [] H := Sy.same (Same.refl H)
  exact r_law hn q
end

end Hw
namespace Hw
open PySem L2
theorem lenX {C : Addr} {fs : List Str} : ∀ vs H Q E, spExc C fs vs H Q E → vs.length = fs.length + 1 := fun vs H Q E ⟨a, ws, e, l, _⟩ => by rw [e, List.length_cons, l]
def top (i : Nat) : Stmt := PySem.Challenge.pw_homeward_k15_refusals_apart.main.body.getD i (.Pass ⟨0, 0, 0, 0⟩)
abbrev s__law_bag : Stmt := top 13
abbrev N__law_bag : List Str := ["_law_script", "_law_cell"]
theorem sc__law_bag : FnScope N__law_bag ["_law_script"] (defScope s__law_bag) := ⟨rfl, rfl, rfl, by decide +kernel, rfl, by decide +kernel, by decide +kernel⟩
abbrev s__law_take : Stmt := top 14
abbrev N__law_take : List Str := ["_law_bag_here", "_law_many", "_law_cell", "_law_value", "_law_first", "_law_second"]
theorem sc__law_take : FnScope N__law_take ["_law_bag_here", "_law_many"] (defScope s__law_take) := ⟨rfl, rfl, rfl, by decide +kernel, rfl, by decide +kernel, by decide +kernel⟩
abbrev s_NoText___init__ : Stmt := inClass (top 8) 0
abbrev N_NoText___init__ : List Str := ["self", "at"]
theorem sc_NoText___init__ : FnScope N_NoText___init__ ["self", "at"] (defScope s_NoText___init__) := ⟨rfl, rfl, rfl, by decide +kernel, rfl, by decide +kernel, by decide +kernel⟩
abbrev s_There___init__ : Stmt := inClass (top 4) 0
abbrev N_There___init__ : List Str := ["self", "key"]
theorem sc_There___init__ : FnScope N_There___init__ ["self", "key"] (defScope s_There___init__) := ⟨rfl, rfl, rfl, by decide +kernel, rfl, by decide +kernel, by decide +kernel⟩
abbrev s_Unlike___init__ : Stmt := inClass (top 7) 0
abbrev N_Unlike___init__ : List Str := ["self"]
theorem sc_Unlike___init__ : FnScope N_Unlike___init__ ["self"] (defScope s_Unlike___init__) := ⟨rfl, rfl, rfl, by decide +kernel, rfl, by decide +kernel, by decide +kernel⟩
abbrev s_NoRow___init__ : Stmt := inClass (top 9) 0
abbrev N_NoRow___init__ : List Str := ["self"]
theorem sc_NoRow___init__ : FnScope N_NoRow___init__ ["self"] (defScope s_NoRow___init__) := ⟨rfl, rfl, rfl, by decide +kernel, rfl, by decide +kernel, by decide +kernel⟩
abbrev s_NoRoom___init__ : Stmt := inClass (top 3) 0
abbrev N_NoRoom___init__ : List Str := ["self", "room"]
theorem sc_NoRoom___init__ : FnScope N_NoRoom___init__ ["self", "room"] (defScope s_NoRoom___init__) := ⟨rfl, rfl, rfl, by decide +kernel, rfl, by decide +kernel, by decide +kernel⟩
abbrev s_NoPlan___init__ : Stmt := inClass (top 10) 0
abbrev N_NoPlan___init__ : List Str := ["self"]
theorem sc_NoPlan___init__ : FnScope N_NoPlan___init__ ["self"] (defScope s_NoPlan___init__) := ⟨rfl, rfl, rfl, by decide +kernel, rfl, by decide +kernel, by decide +kernel⟩
abbrev s_Wrong___init__ : Stmt := inClass (top 2) 0
abbrev N_Wrong___init__ : List Str := ["self", "at"]
theorem sc_Wrong___init__ : FnScope N_Wrong___init__ ["self", "at"] (defScope s_Wrong___init__) := ⟨rfl, rfl, rfl, by decide +kernel, rfl, by decide +kernel, by decide +kernel⟩
abbrev s_Unkept___init__ : Stmt := inClass (top 6) 0
abbrev N_Unkept___init__ : List Str := ["self", "word", "room"]
theorem sc_Unkept___init__ : FnScope N_Unkept___init__ ["self", "word", "room"] (defScope s_Unkept___init__) := ⟨rfl, rfl, rfl, by decide +kernel, rfl, by decide +kernel, by decide +kernel⟩
abbrev s_TooMany___init__ : Stmt := inClass (top 11) 0
abbrev N_TooMany___init__ : List Str := ["self", "most"]
theorem sc_TooMany___init__ : FnScope N_TooMany___init__ ["self", "most"] (defScope s_TooMany___init__) := ⟨rfl, rfl, rfl, by decide +kernel, rfl, by decide +kernel, by decide +kernel⟩
abbrev s_NotThere___init__ : Stmt := inClass (top 5) 0
abbrev N_NotThere___init__ : List Str := ["self", "key"]
theorem sc_NotThere___init__ : FnScope N_NotThere___init__ ["self", "key"] (defScope s_NotThere___init__) := ⟨rfl, rfl, rfl, by decide +kernel, rfl, by decide +kernel, by decide +kernel⟩
abbrev s__law_raised : Stmt := top 15
abbrev N__law_raised : List Str := ["_law_which", "_law_thing", "_law_other"]
theorem sc__law_raised : FnScope N__law_raised ["_law_which", "_law_thing", "_law_other"] (defScope s__law_raised) := ⟨rfl, rfl, rfl, by decide +kernel, rfl, by decide +kernel, by decide +kernel⟩
abbrev s__law_fields : Stmt := top 16
abbrev N__law_fields : List Str := ["_law_which", "_law_e"]
theorem sc__law_fields : FnScope N__law_fields ["_law_which", "_law_e"] (defScope s__law_fields) := ⟨rfl, rfl, rfl, by decide +kernel, rfl, by decide +kernel, by decide +kernel⟩
abbrev s__law_kept : Stmt := top 17
abbrev N__law_kept : List Str := ["_law_which", "_law_e", "_law_due", "_law_k", "_law_found"]
theorem sc__law_kept : FnScope N__law_kept ["_law_which", "_law_e", "_law_due"] (defScope s__law_kept) := ⟨rfl, rfl, rfl, by decide +kernel, rfl, by decide +kernel, by decide +kernel⟩
abbrev s__law_caught : Stmt := top 18
abbrev N__law_caught : List Str := ["_law_which", "_law_thing", "_law_other", "_law_again", "_law_e", "_law_sorts", "_law_k"]
theorem sc__law_caught : FnScope N__law_caught ["_law_which", "_law_thing", "_law_other", "_law_again"] (defScope s__law_caught) := ⟨rfl, rfl, rfl, by decide +kernel, rfl, by decide +kernel, by decide +kernel⟩
abbrev s_law : Stmt := top 19
abbrev N_law : List Str := ["_law_script", "_law_bag_here", "_law_first", "_law_k", "_law_ways", "_law_some"]
theorem sc_law : FnScope N_law ["_law_script"] (defScope s_law) := ⟨rfl, rfl, rfl, by decide +kernel, rfl, by decide +kernel, by decide +kernel⟩
section
variable {P : Program} {w : World} {K : PySem.W.Frag} {mg : Str → Option Value} {base : Heap} [XC K mg "Wrong" ["at"]] [XC K mg "NoRoom" ["room"]] [XC K mg "There" ["key"]] [XC K mg "NotThere" ["key"]] [XC K mg "Unkept" ["word", "room"]] [XC K mg "NoText" ["at"]] [XC K mg "TooMany" ["most"]] [XC K mg "Unlike" []] [XC K mg "NoRow" []] [XC K mg "NoPlan" []] [XS K mg "Wrong" 0] [XS K mg "NoRoom" 1] [XS K mg "There" 2] [XS K mg "NotThere" 3] [XS K mg "Unkept" 4] [XS K mg "Unlike" 5] [XS K mg "NoText" 6] [XS K mg "NoRow" 7] [XS K mg "NoPlan" 8] [XS K mg "TooMany" 9] [XE K mg "Wrong" (.ref (clsA mg "HomeError")) true] [XE K mg "NoRoom" (.ref (clsA mg "HomeError")) true] [XE K mg "There" (.ref (clsA mg "HomeError")) true] [XE K mg "NotThere" (.ref (clsA mg "HomeError")) true] [XE K mg "Unkept" (.ref (clsA mg "HomeError")) true] [XE K mg "NoText" (.ref (clsA mg "HomeError")) true] [XE K mg "TooMany" (.ref (clsA mg "HomeError")) true] [XE K mg "Unlike" (.ref (clsA mg "HomeError")) true] [XE K mg "NoRow" (.ref (clsA mg "HomeError")) true] [XE K mg "NoPlan" (.ref (clsA mg "HomeError")) true] [XB K mg "HomeError"]
theorem d__law_bag {f : Addr} {fd : FuncData} (F : Fun K "_law_bag" "_law_bag" s__law_bag f fd) (n_abs : mg "abs" = none) :
    FnOk P w K mg base (L2.CX P w) 1 f fd ["_law_script"] (sp__law_bag K mg) := by
  refine F.okX sc__law_bag len__law_bag (fun cdv A outer s H vs Q E hr h => ⟨t__law_bag K mg E, ?_, R__law_bag h⟩)
  have nd := sc__law_bag.nd
  have hu1 := hu_of hr
  have hu64 := hr.units
  have hu65 := hu65_of hr
  have tk : Takes (cxOf (L2.CX P w) P w K mg base N__law_bag "_law_bag" (defScope s__law_bag) f cdv A outer s H E) (fun cls d _ H => E cls d H) := takes_of rfl rfl rfl rfl
  have po : PassesOwn (model P w) (cxOf (L2.CX P w) P w K mg base N__law_bag "_law_bag" (defScope s__law_bag) f cdv A outer s H E).A (cxOf (L2.CX P w) P w K mg base N__law_bag "_law_bag" (defScope s__law_bag) f cdv A outer s H E).env (cxOf (L2.CX P w) P w K mg base N__law_bag "_law_bag" (defScope s__law_bag) f cdv A outer s H E).xe := passes_of rfl
  unfold t__law_bag
  exact (pss_one (ps_ret (pe_lst (pa_cons pe_int (pa_cons pe_int (pa_cons pe_int (pa_cons (pe_lc (own := [("_law_cell", 1)]) rfl nd (pi_list (pe_slice u_sl (pv 0) po_none (po_some pe_int))) (blkOk_by (own := [("_law_cell", 1)]) (N := N__law_bag) (sc := defScope s__law_bag) (by decide +kernel)) (fun _ _ _ _ _ => (pg_name (i := 1) nd rfl (Or.inl rfl))) (fun _ _ _ _ _ => pts_nil) (fun _ _ _ _ _ => (pe_callB call_abs (by rfl) n_abs bt_abs (pa_cons (pv 1) pa_nil)))) pa_nil)))))))
theorem d__law_take {f : Addr} {fd : FuncData} (F : Fun K "_law_take" "_law_take" s__law_take f fd) (n_len : mg "len" = none) :
    FnOk P w K mg base (L2.CX P w) 1 f fd ["_law_bag_here", "_law_many"] (sp__law_take K mg) := by
  refine F.okX sc__law_take len__law_take (fun cdv A outer s H vs Q E hr h => ⟨t__law_take K mg E, ?_, R__law_take h⟩)
  have nd := sc__law_take.nd
  have hu1 := hu_of hr
  have hu64 := hr.units
  have hu65 := hu65_of hr
  have tk : Takes (cxOf (L2.CX P w) P w K mg base N__law_take "_law_take" (defScope s__law_take) f cdv A outer s H E) (fun cls d _ H => E cls d H) := takes_of rfl rfl rfl rfl
  have po : PassesOwn (model P w) (cxOf (L2.CX P w) P w K mg base N__law_take "_law_take" (defScope s__law_take) f cdv A outer s H E).A (cxOf (L2.CX P w) P w K mg base N__law_take "_law_take" (defScope s__law_take) f cdv A outer s H E).env (cxOf (L2.CX P w) P w K mg base N__law_take "_law_take" (defScope s__law_take) f cdv A outer s H E).xe := passes_of rfl
  unfold t__law_take
  exact (pss_cons (ps_if (pt_cmpR (u_eq hu64) (pe_ix (u_ix hu1) (pv 0) pe_int (fun _ _ => rfl)) pe_int (nomark _)) (pss_cons (ps_set (i := 2) nd rfl (Or.inl rfl) pe_int)
    (pss_cons (ps_if (pt_cmpR op_lt (pe_ix (u_ix hu1) (pv 0) pe_int (fun _ _ => rfl)) (pe_callB u_len (by rfl) n_len bt_len (pa_cons (pe_ix (u_ix hu1) (pv 0) pe_int (fun _ _ => rfl)) pa_nil)) (nomark _)) (pss_one (ps_set (i := 2) nd rfl (Or.inl rfl) (pe_ix (u_ix hu1) (pe_ix (u_ix hu1) (pv 0) pe_int (fun _ _ => rfl)) (pe_ix (u_ix hu1) (pv 0) pe_int (fun _ _ => rfl)) (fun _ _ => rfl)))) pss_nil)
    (pss_cons (ps_augS (pv 0) pe_int (get_listU hu1) pe_int ip_add (u_set hu1))
    (pss_cons (ps_if (pt_cmpR op_ge (pv 2) pe_int (nomark _)) (pss_one (ps_asg (pv 2) (pg_sub (pv 0) pe_int (u_set hu1)))) pss_nil)
    (pss_one (ps_asg (pe_op op_mod (pe_op u_add (pe_op u_add (pe_op u_mul (pe_ix (u_ix hu1) (pv 0) pe_int (fun _ _ => rfl)) pe_int) (pe_op op_mod (pv 2) pe_int)) (pe_op u_mul pe_int (pe_ix (u_ix hu1) (pv 0) pe_int (fun _ _ => rfl)))) pe_int) (pg_sub (pv 0) pe_int (u_set hu1)))))))) pss_nil)
    (pss_cons (ps_if (pt_cmpR op_gt (pe_ix (u_ix hu1) (pv 0) pe_int (fun _ _ => rfl)) pe_int (nomark _)) (pss_cons (ps_set (i := 3) nd rfl (Or.inl rfl) (pe_op op_mod (pe_ix (u_ix hu1) (pv 0) pe_int (fun _ _ => rfl)) (pv 1)))
    (pss_cons (ps_asg (pe_op op_fdivW (pe_ix (u_ix hu1) (pv 0) pe_int (fun _ _ => rfl)) (pv 1)) (pg_sub (pv 0) pe_int (u_set hu1)))
    (pss_one (ps_ret (pv 3))))) pss_nil)
    (pss_cons (ps_set (i := 4) nd rfl (Or.inl rfl) (pe_op op_mod (pe_op u_mul (pe_op u_add (pe_ix (u_ix hu1) (pv 0) pe_int (fun _ _ => rfl)) pe_int) pe_int) pe_int))
    (pss_cons (ps_set (i := 5) nd rfl (Or.inl rfl) (pe_op op_mod (pe_op u_mul (pe_op op_mod (pe_op u_mul (pv 4) (pv 4)) pe_int) pe_int) pe_int))
    (pss_cons (ps_if (pt_cmpR op_gt (pv 1) pe_int (nomark _)) (pss_one (ps_ret (pe_op op_mod (pe_op u_add (pe_op u_mul (pv 5) pe_int) (pv 4)) (pv 1)))) pss_nil)
    (pss_one (ps_ret (pe_op op_mod (pe_op op_fdivW (pv 5) pe_int) (pv 1)))))))))
theorem d_NoText___init__ {f : Addr} {fd : FuncData} (F : Fun K "__init__" "NoText.__init__" s_NoText___init__ f fd) (g_HomeError : mg "HomeError" = some (.ref (clsA mg "HomeError"))) :
    FnK P w K mg base 2 1 f fd ["self", "at"] (fun _ => sp_NoText___init__ K mg) := by
  refine okK F sc_NoText___init__ (fun _ => lenX) (fun cdv A outer s H vs Q E hs few hk hr h => ⟨t_NoText___init__ K mg E, ?_, R_NoText___init__ h⟩)
  have nd := sc_NoText___init__.nd
  have hu1 := hu_ofH hr
  have hu64 := hu64_ofH hr
  have hu65 := hu65_ofH hr
  have po : PassesOwn (model P w) (cxK P w K mg base N_NoText___init__ "NoText.__init__" (defScope s_NoText___init__) f cdv A outer s H E hs).A (cxK P w K mg base N_NoText___init__ "NoText.__init__" (defScope s_NoText___init__) f cdv A outer s H E hs).env (cxK P w K mg base N_NoText___init__ "NoText.__init__" (defScope s_NoText___init__) f cdv A outer s H E hs).xe := passes_of rfl
  have tk : TakesV (hdV hs) (cxK P w K mg base N_NoText___init__ "NoText.__init__" (defScope s_NoText___init__) f cdv A outer s H E hs) (fun cls d _ H => E cls d H) := takesV_of rfl rfl rfl rfl
  unfold t_NoText___init__
  exact (pss_cons (ps_expr (pe_binit (XB.b (K := K) (mg := mg) (x := "HomeError")) (by rfl) g_HomeError (pa_cons (pv 0) (pa_cons pe_str pa_nil))))
    (pss_one (ps_ost (pv 0) (pv 1))))
theorem d_There___init__ {f : Addr} {fd : FuncData} (F : Fun K "__init__" "There.__init__" s_There___init__ f fd) (g_HomeError : mg "HomeError" = some (.ref (clsA mg "HomeError"))) :
    FnK P w K mg base 2 1 f fd ["self", "key"] (fun _ => sp_There___init__ K mg) := by
  refine okK F sc_There___init__ (fun _ => lenX) (fun cdv A outer s H vs Q E hs few hk hr h => ⟨t_There___init__ K mg E, ?_, R_There___init__ h⟩)
  have nd := sc_There___init__.nd
  have hu1 := hu_ofH hr
  have hu64 := hu64_ofH hr
  have hu65 := hu65_ofH hr
  have po : PassesOwn (model P w) (cxK P w K mg base N_There___init__ "There.__init__" (defScope s_There___init__) f cdv A outer s H E hs).A (cxK P w K mg base N_There___init__ "There.__init__" (defScope s_There___init__) f cdv A outer s H E hs).env (cxK P w K mg base N_There___init__ "There.__init__" (defScope s_There___init__) f cdv A outer s H E hs).xe := passes_of rfl
  have tk : TakesV (hdV hs) (cxK P w K mg base N_There___init__ "There.__init__" (defScope s_There___init__) f cdv A outer s H E hs) (fun cls d _ H => E cls d H) := takesV_of rfl rfl rfl rfl
  unfold t_There___init__
  exact (pss_cons (ps_expr (pe_binit (XB.b (K := K) (mg := mg) (x := "HomeError")) (by rfl) g_HomeError (pa_cons (pv 0) (pa_cons pe_str pa_nil))))
    (pss_one (ps_ost (pv 0) (pv 1))))
theorem d_Unlike___init__ {f : Addr} {fd : FuncData} (F : Fun K "__init__" "Unlike.__init__" s_Unlike___init__ f fd) (g_HomeError : mg "HomeError" = some (.ref (clsA mg "HomeError"))) :
    FnK P w K mg base 2 1 f fd ["self"] (fun _ => sp_Unlike___init__ K mg) := by
  refine okK F sc_Unlike___init__ (fun _ => lenX) (fun cdv A outer s H vs Q E hs few hk hr h => ⟨t_Unlike___init__ K mg E, ?_, R_Unlike___init__ h⟩)
  have nd := sc_Unlike___init__.nd
  have hu1 := hu_ofH hr
  have hu64 := hu64_ofH hr
  have hu65 := hu65_ofH hr
  have po : PassesOwn (model P w) (cxK P w K mg base N_Unlike___init__ "Unlike.__init__" (defScope s_Unlike___init__) f cdv A outer s H E hs).A (cxK P w K mg base N_Unlike___init__ "Unlike.__init__" (defScope s_Unlike___init__) f cdv A outer s H E hs).env (cxK P w K mg base N_Unlike___init__ "Unlike.__init__" (defScope s_Unlike___init__) f cdv A outer s H E hs).xe := passes_of rfl
  have tk : TakesV (hdV hs) (cxK P w K mg base N_Unlike___init__ "Unlike.__init__" (defScope s_Unlike___init__) f cdv A outer s H E hs) (fun cls d _ H => E cls d H) := takesV_of rfl rfl rfl rfl
  unfold t_Unlike___init__
  exact (pss_one (ps_expr (pe_binit (XB.b (K := K) (mg := mg) (x := "HomeError")) (by rfl) g_HomeError (pa_cons (pv 0) (pa_cons pe_str pa_nil)))))
theorem d_NoRow___init__ {f : Addr} {fd : FuncData} (F : Fun K "__init__" "NoRow.__init__" s_NoRow___init__ f fd) (g_HomeError : mg "HomeError" = some (.ref (clsA mg "HomeError"))) :
    FnK P w K mg base 2 1 f fd ["self"] (fun _ => sp_NoRow___init__ K mg) := by
  refine okK F sc_NoRow___init__ (fun _ => lenX) (fun cdv A outer s H vs Q E hs few hk hr h => ⟨t_NoRow___init__ K mg E, ?_, R_NoRow___init__ h⟩)
  have nd := sc_NoRow___init__.nd
  have hu1 := hu_ofH hr
  have hu64 := hu64_ofH hr
  have hu65 := hu65_ofH hr
  have po : PassesOwn (model P w) (cxK P w K mg base N_NoRow___init__ "NoRow.__init__" (defScope s_NoRow___init__) f cdv A outer s H E hs).A (cxK P w K mg base N_NoRow___init__ "NoRow.__init__" (defScope s_NoRow___init__) f cdv A outer s H E hs).env (cxK P w K mg base N_NoRow___init__ "NoRow.__init__" (defScope s_NoRow___init__) f cdv A outer s H E hs).xe := passes_of rfl
  have tk : TakesV (hdV hs) (cxK P w K mg base N_NoRow___init__ "NoRow.__init__" (defScope s_NoRow___init__) f cdv A outer s H E hs) (fun cls d _ H => E cls d H) := takesV_of rfl rfl rfl rfl
  unfold t_NoRow___init__
  exact (pss_one (ps_expr (pe_binit (XB.b (K := K) (mg := mg) (x := "HomeError")) (by rfl) g_HomeError (pa_cons (pv 0) (pa_cons pe_str pa_nil)))))
theorem d_NoRoom___init__ {f : Addr} {fd : FuncData} (F : Fun K "__init__" "NoRoom.__init__" s_NoRoom___init__ f fd) (g_HomeError : mg "HomeError" = some (.ref (clsA mg "HomeError"))) :
    FnK P w K mg base 2 1 f fd ["self", "room"] (fun _ => sp_NoRoom___init__ K mg) := by
  refine okK F sc_NoRoom___init__ (fun _ => lenX) (fun cdv A outer s H vs Q E hs few hk hr h => ⟨t_NoRoom___init__ K mg E, ?_, R_NoRoom___init__ h⟩)
  have nd := sc_NoRoom___init__.nd
  have hu1 := hu_ofH hr
  have hu64 := hu64_ofH hr
  have hu65 := hu65_ofH hr
  have po : PassesOwn (model P w) (cxK P w K mg base N_NoRoom___init__ "NoRoom.__init__" (defScope s_NoRoom___init__) f cdv A outer s H E hs).A (cxK P w K mg base N_NoRoom___init__ "NoRoom.__init__" (defScope s_NoRoom___init__) f cdv A outer s H E hs).env (cxK P w K mg base N_NoRoom___init__ "NoRoom.__init__" (defScope s_NoRoom___init__) f cdv A outer s H E hs).xe := passes_of rfl
  have tk : TakesV (hdV hs) (cxK P w K mg base N_NoRoom___init__ "NoRoom.__init__" (defScope s_NoRoom___init__) f cdv A outer s H E hs) (fun cls d _ H => E cls d H) := takesV_of rfl rfl rfl rfl
  unfold t_NoRoom___init__
  exact (pss_cons (ps_expr (pe_binit (XB.b (K := K) (mg := mg) (x := "HomeError")) (by rfl) g_HomeError (pa_cons (pv 0) (pa_cons pe_str pa_nil))))
    (pss_one (ps_ost (pv 0) (pv 1))))
theorem d_NoPlan___init__ {f : Addr} {fd : FuncData} (F : Fun K "__init__" "NoPlan.__init__" s_NoPlan___init__ f fd) (g_HomeError : mg "HomeError" = some (.ref (clsA mg "HomeError"))) :
    FnK P w K mg base 2 1 f fd ["self"] (fun _ => sp_NoPlan___init__ K mg) := by
  refine okK F sc_NoPlan___init__ (fun _ => lenX) (fun cdv A outer s H vs Q E hs few hk hr h => ⟨t_NoPlan___init__ K mg E, ?_, R_NoPlan___init__ h⟩)
  have nd := sc_NoPlan___init__.nd
  have hu1 := hu_ofH hr
  have hu64 := hu64_ofH hr
  have hu65 := hu65_ofH hr
  have po : PassesOwn (model P w) (cxK P w K mg base N_NoPlan___init__ "NoPlan.__init__" (defScope s_NoPlan___init__) f cdv A outer s H E hs).A (cxK P w K mg base N_NoPlan___init__ "NoPlan.__init__" (defScope s_NoPlan___init__) f cdv A outer s H E hs).env (cxK P w K mg base N_NoPlan___init__ "NoPlan.__init__" (defScope s_NoPlan___init__) f cdv A outer s H E hs).xe := passes_of rfl
  have tk : TakesV (hdV hs) (cxK P w K mg base N_NoPlan___init__ "NoPlan.__init__" (defScope s_NoPlan___init__) f cdv A outer s H E hs) (fun cls d _ H => E cls d H) := takesV_of rfl rfl rfl rfl
  unfold t_NoPlan___init__
  exact (pss_one (ps_expr (pe_binit (XB.b (K := K) (mg := mg) (x := "HomeError")) (by rfl) g_HomeError (pa_cons (pv 0) (pa_cons pe_str pa_nil)))))
theorem d_Wrong___init__ {f : Addr} {fd : FuncData} (F : Fun K "__init__" "Wrong.__init__" s_Wrong___init__ f fd) (g_HomeError : mg "HomeError" = some (.ref (clsA mg "HomeError"))) :
    FnK P w K mg base 2 1 f fd ["self", "at"] (fun _ => sp_Wrong___init__ K mg) := by
  refine okK F sc_Wrong___init__ (fun _ => lenX) (fun cdv A outer s H vs Q E hs few hk hr h => ⟨t_Wrong___init__ K mg E, ?_, R_Wrong___init__ h⟩)
  have nd := sc_Wrong___init__.nd
  have hu1 := hu_ofH hr
  have hu64 := hu64_ofH hr
  have hu65 := hu65_ofH hr
  have po : PassesOwn (model P w) (cxK P w K mg base N_Wrong___init__ "Wrong.__init__" (defScope s_Wrong___init__) f cdv A outer s H E hs).A (cxK P w K mg base N_Wrong___init__ "Wrong.__init__" (defScope s_Wrong___init__) f cdv A outer s H E hs).env (cxK P w K mg base N_Wrong___init__ "Wrong.__init__" (defScope s_Wrong___init__) f cdv A outer s H E hs).xe := passes_of rfl
  have tk : TakesV (hdV hs) (cxK P w K mg base N_Wrong___init__ "Wrong.__init__" (defScope s_Wrong___init__) f cdv A outer s H E hs) (fun cls d _ H => E cls d H) := takesV_of rfl rfl rfl rfl
  unfold t_Wrong___init__
  exact (pss_cons (ps_expr (pe_binit (XB.b (K := K) (mg := mg) (x := "HomeError")) (by rfl) g_HomeError (pa_cons (pv 0) (pa_cons pe_str pa_nil))))
    (pss_one (ps_ost (pv 0) (pv 1))))
theorem d_Unkept___init__ {f : Addr} {fd : FuncData} (F : Fun K "__init__" "Unkept.__init__" s_Unkept___init__ f fd) (g_HomeError : mg "HomeError" = some (.ref (clsA mg "HomeError"))) :
    FnK P w K mg base 2 1 f fd ["self", "word", "room"] (fun _ => sp_Unkept___init__ K mg) := by
  refine okK F sc_Unkept___init__ (fun _ => lenX) (fun cdv A outer s H vs Q E hs few hk hr h => ⟨t_Unkept___init__ K mg E, ?_, R_Unkept___init__ h⟩)
  have nd := sc_Unkept___init__.nd
  have hu1 := hu_ofH hr
  have hu64 := hu64_ofH hr
  have hu65 := hu65_ofH hr
  have po : PassesOwn (model P w) (cxK P w K mg base N_Unkept___init__ "Unkept.__init__" (defScope s_Unkept___init__) f cdv A outer s H E hs).A (cxK P w K mg base N_Unkept___init__ "Unkept.__init__" (defScope s_Unkept___init__) f cdv A outer s H E hs).env (cxK P w K mg base N_Unkept___init__ "Unkept.__init__" (defScope s_Unkept___init__) f cdv A outer s H E hs).xe := passes_of rfl
  have tk : TakesV (hdV hs) (cxK P w K mg base N_Unkept___init__ "Unkept.__init__" (defScope s_Unkept___init__) f cdv A outer s H E hs) (fun cls d _ H => E cls d H) := takesV_of rfl rfl rfl rfl
  unfold t_Unkept___init__
  exact (pss_cons (ps_expr (pe_binit (XB.b (K := K) (mg := mg) (x := "HomeError")) (by rfl) g_HomeError (pa_cons (pv 0) (pa_cons pe_str pa_nil))))
    (pss_cons (ps_ost (pv 0) (pv 1))
    (pss_one (ps_ost (pv 0) (pv 2)))))
theorem d_TooMany___init__ {f : Addr} {fd : FuncData} (F : Fun K "__init__" "TooMany.__init__" s_TooMany___init__ f fd) (g_HomeError : mg "HomeError" = some (.ref (clsA mg "HomeError"))) :
    FnK P w K mg base 2 1 f fd ["self", "most"] (fun _ => sp_TooMany___init__ K mg) := by
  refine okK F sc_TooMany___init__ (fun _ => lenX) (fun cdv A outer s H vs Q E hs few hk hr h => ⟨t_TooMany___init__ K mg E, ?_, R_TooMany___init__ h⟩)
  have nd := sc_TooMany___init__.nd
  have hu1 := hu_ofH hr
  have hu64 := hu64_ofH hr
  have hu65 := hu65_ofH hr
  have po : PassesOwn (model P w) (cxK P w K mg base N_TooMany___init__ "TooMany.__init__" (defScope s_TooMany___init__) f cdv A outer s H E hs).A (cxK P w K mg base N_TooMany___init__ "TooMany.__init__" (defScope s_TooMany___init__) f cdv A outer s H E hs).env (cxK P w K mg base N_TooMany___init__ "TooMany.__init__" (defScope s_TooMany___init__) f cdv A outer s H E hs).xe := passes_of rfl
  have tk : TakesV (hdV hs) (cxK P w K mg base N_TooMany___init__ "TooMany.__init__" (defScope s_TooMany___init__) f cdv A outer s H E hs) (fun cls d _ H => E cls d H) := takesV_of rfl rfl rfl rfl
  unfold t_TooMany___init__
  exact (pss_cons (ps_expr (pe_binit (XB.b (K := K) (mg := mg) (x := "HomeError")) (by rfl) g_HomeError (pa_cons (pv 0) (pa_cons pe_str pa_nil))))
    (pss_one (ps_ost (pv 0) (pv 1))))
theorem d_NotThere___init__ {f : Addr} {fd : FuncData} (F : Fun K "__init__" "NotThere.__init__" s_NotThere___init__ f fd) (g_HomeError : mg "HomeError" = some (.ref (clsA mg "HomeError"))) :
    FnK P w K mg base 2 1 f fd ["self", "key"] (fun _ => sp_NotThere___init__ K mg) := by
  refine okK F sc_NotThere___init__ (fun _ => lenX) (fun cdv A outer s H vs Q E hs few hk hr h => ⟨t_NotThere___init__ K mg E, ?_, R_NotThere___init__ h⟩)
  have nd := sc_NotThere___init__.nd
  have hu1 := hu_ofH hr
  have hu64 := hu64_ofH hr
  have hu65 := hu65_ofH hr
  have po : PassesOwn (model P w) (cxK P w K mg base N_NotThere___init__ "NotThere.__init__" (defScope s_NotThere___init__) f cdv A outer s H E hs).A (cxK P w K mg base N_NotThere___init__ "NotThere.__init__" (defScope s_NotThere___init__) f cdv A outer s H E hs).env (cxK P w K mg base N_NotThere___init__ "NotThere.__init__" (defScope s_NotThere___init__) f cdv A outer s H E hs).xe := passes_of rfl
  have tk : TakesV (hdV hs) (cxK P w K mg base N_NotThere___init__ "NotThere.__init__" (defScope s_NotThere___init__) f cdv A outer s H E hs) (fun cls d _ H => E cls d H) := takesV_of rfl rfl rfl rfl
  unfold t_NotThere___init__
  exact (pss_cons (ps_expr (pe_binit (XB.b (K := K) (mg := mg) (x := "HomeError")) (by rfl) g_HomeError (pa_cons (pv 0) (pa_cons pe_str pa_nil))))
    (pss_one (ps_ost (pv 0) (pv 1))))
theorem d__law_raised {f : Addr} {fd : FuncData} (F : Fun K "_law_raised" "_law_raised" s__law_raised f fd) (hX_NoPlan : HasXK P w K mg base 2 1 "NoPlan" (clsA mg "NoPlan") []) (hX_NoRoom : HasXK P w K mg base 2 1 "NoRoom" (clsA mg "NoRoom") ["room"]) (hX_NoRow : HasXK P w K mg base 2 1 "NoRow" (clsA mg "NoRow") []) (hX_NoText : HasXK P w K mg base 2 1 "NoText" (clsA mg "NoText") ["at"]) (hX_NotThere : HasXK P w K mg base 2 1 "NotThere" (clsA mg "NotThere") ["key"]) (hX_There : HasXK P w K mg base 2 1 "There" (clsA mg "There") ["key"]) (hX_TooMany : HasXK P w K mg base 2 1 "TooMany" (clsA mg "TooMany") ["most"]) (hX_Unkept : HasXK P w K mg base 2 1 "Unkept" (clsA mg "Unkept") ["word", "room"]) (hX_Unlike : HasXK P w K mg base 2 1 "Unlike" (clsA mg "Unlike") []) (hX_Wrong : HasXK P w K mg base 2 1 "Wrong" (clsA mg "Wrong") ["at"]) :
    FnK P w K mg base 2 3 f fd ["_law_which", "_law_thing", "_law_other"] (fun _ => sp__law_raised K mg) := by
  refine okK F sc__law_raised (fun _ => len__law_raised) (fun cdv A outer s H vs Q E hs few hk hr h => ⟨t__law_raised K mg E, ?_, R__law_raised h⟩)
  have nd := sc__law_raised.nd
  have hu1 := hu_ofH hr
  have hu64 := hu64_ofH hr
  have hu65 := hu65_ofH hr
  have po : PassesOwn (model P w) (cxK P w K mg base N__law_raised "_law_raised" (defScope s__law_raised) f cdv A outer s H E hs).A (cxK P w K mg base N__law_raised "_law_raised" (defScope s__law_raised) f cdv A outer s H E hs).env (cxK P w K mg base N__law_raised "_law_raised" (defScope s__law_raised) f cdv A outer s H E hs).xe := passes_of rfl
  have tk : TakesV (hdV hs) (cxK P w K mg base N__law_raised "_law_raised" (defScope s__law_raised) f cdv A outer s H E hs) (fun cls d _ H => E cls d H) := takesV_of rfl rfl rfl rfl
  unfold t__law_raised
  exact (pss_cons (ps_if (pt_cmpR (u_eq hu64) (pv 0) pe_int (nomark _)) (pss_one (ps_raiseK hk tk (hw_mkK hX_Wrong hr (by decide) few hk (by rfl) (pa_cons (pv 1) pa_nil)))) pss_nil)
    (pss_cons (ps_if (pt_cmpR (u_eq hu64) (pv 0) pe_int (nomark _)) (pss_one (ps_raiseK hk tk (hw_mkK hX_NoRoom hr (by decide) few hk (by rfl) (pa_cons (pv 1) pa_nil)))) pss_nil)
    (pss_cons (ps_if (pt_cmpR (u_eq hu64) (pv 0) pe_int (nomark _)) (pss_one (ps_raiseK hk tk (hw_mkK hX_There hr (by decide) few hk (by rfl) (pa_cons (pv 1) pa_nil)))) pss_nil)
    (pss_cons (ps_if (pt_cmpR (u_eq hu64) (pv 0) pe_int (nomark _)) (pss_one (ps_raiseK hk tk (hw_mkK hX_NotThere hr (by decide) few hk (by rfl) (pa_cons (pv 1) pa_nil)))) pss_nil)
    (pss_cons (ps_if (pt_cmpR (u_eq hu64) (pv 0) pe_int (nomark _)) (pss_one (ps_raiseK hk tk (hw_mkK hX_Unkept hr (by decide) few hk (by rfl) (pa_cons (pv 1) (pa_cons (pv 2) pa_nil))))) pss_nil)
    (pss_cons (ps_if (pt_cmpR (u_eq hu64) (pv 0) pe_int (nomark _)) (pss_one (ps_raiseK hk tk (hw_mkK hX_NoText hr (by decide) few hk (by rfl) (pa_cons (pv 1) pa_nil)))) pss_nil)
    (pss_cons (ps_if (pt_cmpR (u_eq hu64) (pv 0) pe_int (nomark _)) (pss_one (ps_raiseK hk tk (hw_mkK hX_TooMany hr (by decide) few hk (by rfl) (pa_cons (pv 1) pa_nil)))) pss_nil)
    (pss_cons (ps_if (pt_cmpR (u_eq hu64) (pv 0) pe_int (nomark _)) (pss_one (ps_raiseK hk tk (hw_mk0K hX_Unlike hr (by decide) few hk (by rfl)))) pss_nil)
    (pss_cons (ps_if (pt_cmpR (u_eq hu64) (pv 0) pe_int (nomark _)) (pss_one (ps_raiseK hk tk (hw_mk0K hX_NoRow hr (by decide) few hk (by rfl)))) pss_nil)
    (pss_one (ps_raiseK hk tk (hw_mk0K hX_NoPlan hr (by decide) few hk (by rfl)))))))))))))
theorem d__law_fields {f : Addr} {fd : FuncData} (F : Fun K "_law_fields" "_law_fields" s__law_fields f fd)  :
    FnK P w K mg base 2 1 f fd ["_law_which", "_law_e"] (spKE (sp__law_fields K mg)) := by
  refine okKE F sc__law_fields len__law_fields (fun cdv A outer s H vs Q E a oe r cls d few hk hr hz hf h => ⟨t__law_fields K mg a cls d E, ?_, R__law_fields h⟩)
  have nd := sc__law_fields.nd
  have hu1 := hu_ofH hr
  have hu64 := hu64_ofH hr
  have hu65 := hu65_ofH hr
  have po : PassesOwn (model P w) (cxK P w K mg base N__law_fields "_law_fields" (defScope s__law_fields) f cdv A outer s H E ((a, oe) :: r)).A (cxK P w K mg base N__law_fields "_law_fields" (defScope s__law_fields) f cdv A outer s H E ((a, oe) :: r)).env (cxK P w K mg base N__law_fields "_law_fields" (defScope s__law_fields) f cdv A outer s H E ((a, oe) :: r)).xe := passes_of rfl
  have hp : (a, oe) ∈ (cxK P w K mg base N__law_fields "_law_fields" (defScope s__law_fields) f cdv A outer s H E ((a, oe) :: r)).pn := List.mem_cons_self
  unfold t__law_fields
  exact (pss_cons (ps_if (pt_cmpR (u_in hu65) (pv 0) (pe_tup (pa_cons pe_int (pa_cons pe_int pa_nil))) rfl) (pss_one (ps_ret (pe_lst (pa_cons (pe_xfK hp hz hf (pv 1)) pa_nil)))) pss_nil)
    (pss_cons (ps_if (pt_cmpR (u_eq hu64) (pv 0) pe_int (nomark _)) (pss_one (ps_ret (pe_lst (pa_cons (pe_xfK hp hz hf (pv 1)) pa_nil)))) pss_nil)
    (pss_cons (ps_if (pt_cmpR (u_in hu65) (pv 0) (pe_tup (pa_cons pe_int (pa_cons pe_int pa_nil))) rfl) (pss_one (ps_ret (pe_lst (pa_cons (pe_xfK hp hz hf (pv 1)) pa_nil)))) pss_nil)
    (pss_cons (ps_if (pt_cmpR (u_eq hu64) (pv 0) pe_int (nomark _)) (pss_one (ps_ret (pe_lst (pa_cons (pe_xfK hp hz hf (pv 1)) (pa_cons (pe_xfK hp hz hf (pv 1)) pa_nil))))) pss_nil)
    (pss_cons (ps_if (pt_cmpR (u_eq hu64) (pv 0) pe_int (nomark _)) (pss_one (ps_ret (pe_lst (pa_cons (pe_xfK hp hz hf (pv 1)) pa_nil)))) pss_nil)
    (pss_one (ps_ret (pe_lst pa_nil))))))))
theorem d__law_kept {f : Addr} {fd : FuncData} (F : Fun K "_law_kept" "_law_kept" s__law_kept f fd) (n_bool : mg "bool" = none) (n_enumerate : mg "enumerate" = none) (n_isinstance : mg "isinstance" = none) (hK__law_fields : HasK P w K mg base 2 1 "_law_fields" (spKE (sp__law_fields K mg))) :
    FnK P w K mg base 2 2 f fd ["_law_which", "_law_e", "_law_due"] (spKE (sp__law_kept K mg)) := by
  refine okKE F sc__law_kept len__law_kept (fun cdv A outer s H vs Q E a oe r cls d few hk hr hz hf h => ⟨t__law_kept K mg a cls d E, ?_, R__law_kept h⟩)
  have nd := sc__law_kept.nd
  have hu1 := hu_ofH hr
  have hu64 := hu64_ofH hr
  have hu65 := hu65_ofH hr
  have po : PassesOwn (model P w) (cxK P w K mg base N__law_kept "_law_kept" (defScope s__law_kept) f cdv A outer s H E ((a, oe) :: r)).A (cxK P w K mg base N__law_kept "_law_kept" (defScope s__law_kept) f cdv A outer s H E ((a, oe) :: r)).env (cxK P w K mg base N__law_kept "_law_kept" (defScope s__law_kept) f cdv A outer s H E ((a, oe) :: r)).xe := passes_of rfl
  have hp : (a, oe) ∈ (cxK P w K mg base N__law_kept "_law_kept" (defScope s__law_kept) f cdv A outer s H E ((a, oe) :: r)).pn := List.mem_cons_self
  unfold t__law_kept
  exact (pss_cons (ps_forK po hk (pi_enumK (by rfl) n_enumerate (pa_cons (hw_callKE hK__law_fields hr (by decide) (Nat.le_trans few (by decide)) hk hz hf (by rfl) (fun σ => passAtV0 σ) (pa_cons (pv 0) (pa_cons (pv 1) pa_nil))) pa_nil)) (pg_tupK hk (pgs_cons (pg_name (i := 3) nd rfl (Or.inl rfl)) (pgs_cons (pg_name (i := 4) nd rfl (Or.inl rfl)) pgs_nil))) (pss_one (ps_if (PW.pt (pw_or (pt_cmpR (u_ne hu64) (pv 4) (pe_ix (u_ix hu1) (pv 2) (pv 3) (fun _ _ => rfl)) (nomark _)) (pw_or1 (pt_cmpR (u_ne hu64) (pe_callB call_isi (by rfl) n_isinstance bt_isinstance (pa_cons (pv 4) (pa_cons (pe_bltn (by rfl) n_bool bt_bool (by exact rfl)) pa_nil))) (pe_callB call_isi (by rfl) n_isinstance bt_isinstance (pa_cons (pe_ix (u_ix hu1) (pv 2) (pv 3) (fun _ _ => rfl)) (pa_cons (pe_bltn (by rfl) n_bool bt_bool (by exact rfl)) pa_nil))) (nomark _))))) (pss_one (ps_ret pe_bl)) pss_nil)))
    (pss_one (ps_ret pe_bl)))
theorem d__law_caught_0 {f : Addr} {fd : FuncData} (F : Fun K "_law_caught" "_law_caught" s__law_caught f fd) : FnK P w K mg base 2 4 f fd ["_law_which", "_law_thing", "_law_other", "_law_again"] (fun _ => spN__law_caught K mg 0) := okK F sc__law_caught (fun _ => len__law_caught) (fun cdv A outer s H vs Q E hs few hk hr h => False.elim h)
theorem d__law_caught_1 {f : Addr} {fd : FuncData} (F : Fun K "_law_caught" "_law_caught" s__law_caught f fd) (n_ValueError : mg "ValueError" = none) (n_isinstance : mg "isinstance" = none) (n_range : mg "range" = none) (g_HomeError : mg "HomeError" = some (.ref (clsA mg "HomeError"))) (g_NoPlan : mg "NoPlan" = some (.ref (clsA mg "NoPlan"))) (g_NoRoom : mg "NoRoom" = some (.ref (clsA mg "NoRoom"))) (g_NoRow : mg "NoRow" = some (.ref (clsA mg "NoRow"))) (g_NoText : mg "NoText" = some (.ref (clsA mg "NoText"))) (g_NotThere : mg "NotThere" = some (.ref (clsA mg "NotThere"))) (g_There : mg "There" = some (.ref (clsA mg "There"))) (g_TooMany : mg "TooMany" = some (.ref (clsA mg "TooMany"))) (g_Unkept : mg "Unkept" = some (.ref (clsA mg "Unkept"))) (g_Unlike : mg "Unlike" = some (.ref (clsA mg "Unlike"))) (g_Wrong : mg "Wrong" = some (.ref (clsA mg "Wrong"))) (hK__law_raised : HasK P w K mg base 2 3 "_law_raised" (fun _ => sp__law_raised K mg)) (hK__law_kept : HasK P w K mg base 2 2 "_law_kept" (spKE (sp__law_kept K mg))) (hS : HasK P w K mg base 2 4 "_law_caught" (fun _ => spN__law_caught K mg 0)) :
    FnK P w K mg base 1 5 f fd ["_law_which", "_law_thing", "_law_other", "_law_again"] (fun _ => spN__law_caught K mg 1) := by
  refine okK F sc__law_caught (fun _ => len__law_caught) (fun cdv A outer s H vs Q E hs few hk hr h => ⟨t__law_caught (spN__law_caught K mg 0) K mg E, ?_, R__law_caught h⟩)
  have nd := sc__law_caught.nd
  have hu1 := hu_ofH hr
  have hu64 := hu64_ofH hr
  have hu65 := hu65_ofH hr
  have po : PassesOwn (model P w) (cxK P w K mg base N__law_caught "_law_caught" (defScope s__law_caught) f cdv A outer s H E hs).A (cxK P w K mg base N__law_caught "_law_caught" (defScope s__law_caught) f cdv A outer s H E hs).env (cxK P w K mg base N__law_caught "_law_caught" (defScope s__law_caught) f cdv A outer s H E hs).xe := passes_of rfl
  unfold t__law_caught
  exact (pss_cons (ps_try_asK (i := 4) hk (Nat.le_trans few (by decide)) rfl rfl nd rfl rfl ⟨by rfl, by decide, .inl g_HomeError⟩ (fun W pn xe tk hk po => (pss_one (ps_expr (hw_callK hK__law_raised hr (by decide) (Nat.le_trans few (by decide)) hk (by rfl) (fun σ => passAtV tk σ) (pa_cons (pv 0) (pa_cons (pv 1) (pa_cons (pv 2) pa_nil))))))) (fun a oe cls d pn hz hf hk => (pss_cons (ps_set (i := 5) nd rfl (Or.inl rfl) (pe_lst (pa_cons (pe_callB (call_isX hz hf) (by rfl) n_isinstance bt_isinstance (pa_cons (pv 4) (pa_cons (pe_glob rfl g_Wrong rfl) pa_nil))) (pa_cons (pe_callB (call_isX hz hf) (by rfl) n_isinstance bt_isinstance (pa_cons (pv 4) (pa_cons (pe_glob rfl g_NoRoom rfl) pa_nil))) (pa_cons (pe_callB (call_isX hz hf) (by rfl) n_isinstance bt_isinstance (pa_cons (pv 4) (pa_cons (pe_glob rfl g_There rfl) pa_nil))) (pa_cons (pe_callB (call_isX hz hf) (by rfl) n_isinstance bt_isinstance (pa_cons (pv 4) (pa_cons (pe_glob rfl g_NotThere rfl) pa_nil))) pa_nil))))))
    (pss_cons (ps_set (i := 5) nd rfl (Or.inl rfl) (pe_op u_add (pv 5) (pe_lst (pa_cons (pe_callB (call_isX hz hf) (by rfl) n_isinstance bt_isinstance (pa_cons (pv 4) (pa_cons (pe_glob rfl g_Unkept rfl) pa_nil))) (pa_cons (pe_callB (call_isX hz hf) (by rfl) n_isinstance bt_isinstance (pa_cons (pv 4) (pa_cons (pe_glob rfl g_NoText rfl) pa_nil))) (pa_cons (pe_callB (call_isX hz hf) (by rfl) n_isinstance bt_isinstance (pa_cons (pv 4) (pa_cons (pe_glob rfl g_TooMany rfl) pa_nil))) (pa_cons (pe_callB (call_isX hz hf) (by rfl) n_isinstance bt_isinstance (pa_cons (pv 4) (pa_cons (pe_glob rfl g_Unlike rfl) pa_nil))) pa_nil)))))))
    (pss_cons (ps_set (i := 5) nd rfl (Or.inl rfl) (pe_op u_add (pv 5) (pe_lst (pa_cons (pe_callB (call_isX hz hf) (by rfl) n_isinstance bt_isinstance (pa_cons (pv 4) (pa_cons (pe_glob rfl g_NoRow rfl) pa_nil))) (pa_cons (pe_callB (call_isX hz hf) (by rfl) n_isinstance bt_isinstance (pa_cons (pv 4) (pa_cons (pe_glob rfl g_NoPlan rfl) pa_nil))) pa_nil)))))
    (pss_cons (ps_if (PW.pt (pw_or (pt_cmpR (u_ne hu64) (pv 5) (pe_lcK hk (own := [("_law_k", 6)]) nd (pi_range1K rfl n_range (pa_cons pe_int pa_nil)) (blkOk_by (own := [("_law_k", 6)]) (N := N__law_caught) (sc := defScope s__law_caught) (by decide +kernel)) (fun _ _ _ _ _ => (pg_name (i := 6) nd rfl (Or.inl rfl))) (fun _ _ _ _ _ => pts_nil) (fun _ _ _ _ _ => (pe_cmpR (u_eq hu64) (pv 6) (pv 0) (nomark _)))) (nomark _)) (pw_or1 (pt_not (pt_val (pe_callB (call_isX hz hf) (by rfl) n_isinstance bt_isinstance (pa_cons (pv 4) (pa_cons (pe_bltn (by rfl) n_ValueError bt_ValueError (by exact rfl)) pa_nil)))))))) (pss_one (ps_ret pe_bl)) pss_nil)
    (pss_cons (ps_if (pt_not (pt_val (hw_callKE hK__law_kept (roomM hr _) (by decide) (Nat.le_trans (Nat.succ_le_succ few) (by decide)) hk hz hf (by rfl) (fun σ => passAtV0 σ) (pa_cons (pv 0) (pa_cons (pv 4) (pa_cons (pe_lst (pa_cons (pv 1) (pa_cons (pv 2) pa_nil))) pa_nil)))))) (pss_one (ps_ret pe_bl)) pss_nil)
    (pss_cons (ps_if (PW.pt (pw_and (pt_val (pv 3)) (pw_and1 (pt_not (pt_val (hw_callK (hs := (a, oe) :: hs) hS (roomM hr _) (by decide) (Nat.succ_le_succ few) hk (by rfl) (fun σ => passAtV0 σ) (pa_cons (pv 0) (pa_cons (pv 2) (pa_cons (pv 1) (pa_cons pe_bl pa_nil)))))))))) (pss_one (ps_ret pe_bl)) pss_nil)
    (pss_one (ps_ret (hw_callKE hK__law_kept (roomM hr _) (by decide) (Nat.le_trans (Nat.succ_le_succ few) (by decide)) hk hz hf (by rfl) (fun σ => passAtV0 σ) (pa_cons (pv 0) (pa_cons (pv 4) (pa_cons (pe_lst (pa_cons (pv 1) (pa_cons (pv 2) pa_nil))) pa_nil))))))))))))))
    (pss_one (ps_ret pe_bl)))
theorem d__law_caught_2 {f : Addr} {fd : FuncData} (F : Fun K "_law_caught" "_law_caught" s__law_caught f fd) (n_ValueError : mg "ValueError" = none) (n_isinstance : mg "isinstance" = none) (n_range : mg "range" = none) (g_HomeError : mg "HomeError" = some (.ref (clsA mg "HomeError"))) (g_NoPlan : mg "NoPlan" = some (.ref (clsA mg "NoPlan"))) (g_NoRoom : mg "NoRoom" = some (.ref (clsA mg "NoRoom"))) (g_NoRow : mg "NoRow" = some (.ref (clsA mg "NoRow"))) (g_NoText : mg "NoText" = some (.ref (clsA mg "NoText"))) (g_NotThere : mg "NotThere" = some (.ref (clsA mg "NotThere"))) (g_There : mg "There" = some (.ref (clsA mg "There"))) (g_TooMany : mg "TooMany" = some (.ref (clsA mg "TooMany"))) (g_Unkept : mg "Unkept" = some (.ref (clsA mg "Unkept"))) (g_Unlike : mg "Unlike" = some (.ref (clsA mg "Unlike"))) (g_Wrong : mg "Wrong" = some (.ref (clsA mg "Wrong"))) (hK__law_raised : HasK P w K mg base 2 3 "_law_raised" (fun _ => sp__law_raised K mg)) (hK__law_kept : HasK P w K mg base 2 2 "_law_kept" (spKE (sp__law_kept K mg))) (hS : HasK P w K mg base 1 5 "_law_caught" (fun _ => spN__law_caught K mg 1)) :
    FnK P w K mg base 0 6 f fd ["_law_which", "_law_thing", "_law_other", "_law_again"] (fun _ => spN__law_caught K mg 2) := by
  refine okK F sc__law_caught (fun _ => len__law_caught) (fun cdv A outer s H vs Q E hs few hk hr h => ⟨t__law_caught (spN__law_caught K mg 1) K mg E, ?_, R__law_caught h⟩)
  have nd := sc__law_caught.nd
  have hu1 := hu_ofH hr
  have hu64 := hu64_ofH hr
  have hu65 := hu65_ofH hr
  have po : PassesOwn (model P w) (cxK P w K mg base N__law_caught "_law_caught" (defScope s__law_caught) f cdv A outer s H E hs).A (cxK P w K mg base N__law_caught "_law_caught" (defScope s__law_caught) f cdv A outer s H E hs).env (cxK P w K mg base N__law_caught "_law_caught" (defScope s__law_caught) f cdv A outer s H E hs).xe := passes_of rfl
  unfold t__law_caught
  exact (pss_cons (ps_try_asK (i := 4) hk (Nat.le_trans few (by decide)) rfl rfl nd rfl rfl ⟨by rfl, by decide, .inl g_HomeError⟩ (fun W pn xe tk hk po => (pss_one (ps_expr (hw_callK hK__law_raised hr (by decide) (Nat.le_trans few (by decide)) hk (by rfl) (fun σ => passAtV tk σ) (pa_cons (pv 0) (pa_cons (pv 1) (pa_cons (pv 2) pa_nil))))))) (fun a oe cls d pn hz hf hk => (pss_cons (ps_set (i := 5) nd rfl (Or.inl rfl) (pe_lst (pa_cons (pe_callB (call_isX hz hf) (by rfl) n_isinstance bt_isinstance (pa_cons (pv 4) (pa_cons (pe_glob rfl g_Wrong rfl) pa_nil))) (pa_cons (pe_callB (call_isX hz hf) (by rfl) n_isinstance bt_isinstance (pa_cons (pv 4) (pa_cons (pe_glob rfl g_NoRoom rfl) pa_nil))) (pa_cons (pe_callB (call_isX hz hf) (by rfl) n_isinstance bt_isinstance (pa_cons (pv 4) (pa_cons (pe_glob rfl g_There rfl) pa_nil))) (pa_cons (pe_callB (call_isX hz hf) (by rfl) n_isinstance bt_isinstance (pa_cons (pv 4) (pa_cons (pe_glob rfl g_NotThere rfl) pa_nil))) pa_nil))))))
    (pss_cons (ps_set (i := 5) nd rfl (Or.inl rfl) (pe_op u_add (pv 5) (pe_lst (pa_cons (pe_callB (call_isX hz hf) (by rfl) n_isinstance bt_isinstance (pa_cons (pv 4) (pa_cons (pe_glob rfl g_Unkept rfl) pa_nil))) (pa_cons (pe_callB (call_isX hz hf) (by rfl) n_isinstance bt_isinstance (pa_cons (pv 4) (pa_cons (pe_glob rfl g_NoText rfl) pa_nil))) (pa_cons (pe_callB (call_isX hz hf) (by rfl) n_isinstance bt_isinstance (pa_cons (pv 4) (pa_cons (pe_glob rfl g_TooMany rfl) pa_nil))) (pa_cons (pe_callB (call_isX hz hf) (by rfl) n_isinstance bt_isinstance (pa_cons (pv 4) (pa_cons (pe_glob rfl g_Unlike rfl) pa_nil))) pa_nil)))))))
    (pss_cons (ps_set (i := 5) nd rfl (Or.inl rfl) (pe_op u_add (pv 5) (pe_lst (pa_cons (pe_callB (call_isX hz hf) (by rfl) n_isinstance bt_isinstance (pa_cons (pv 4) (pa_cons (pe_glob rfl g_NoRow rfl) pa_nil))) (pa_cons (pe_callB (call_isX hz hf) (by rfl) n_isinstance bt_isinstance (pa_cons (pv 4) (pa_cons (pe_glob rfl g_NoPlan rfl) pa_nil))) pa_nil)))))
    (pss_cons (ps_if (PW.pt (pw_or (pt_cmpR (u_ne hu64) (pv 5) (pe_lcK hk (own := [("_law_k", 6)]) nd (pi_range1K rfl n_range (pa_cons pe_int pa_nil)) (blkOk_by (own := [("_law_k", 6)]) (N := N__law_caught) (sc := defScope s__law_caught) (by decide +kernel)) (fun _ _ _ _ _ => (pg_name (i := 6) nd rfl (Or.inl rfl))) (fun _ _ _ _ _ => pts_nil) (fun _ _ _ _ _ => (pe_cmpR (u_eq hu64) (pv 6) (pv 0) (nomark _)))) (nomark _)) (pw_or1 (pt_not (pt_val (pe_callB (call_isX hz hf) (by rfl) n_isinstance bt_isinstance (pa_cons (pv 4) (pa_cons (pe_bltn (by rfl) n_ValueError bt_ValueError (by exact rfl)) pa_nil)))))))) (pss_one (ps_ret pe_bl)) pss_nil)
    (pss_cons (ps_if (pt_not (pt_val (hw_callKE hK__law_kept (roomM hr _) (by decide) (Nat.le_trans (Nat.succ_le_succ few) (by decide)) hk hz hf (by rfl) (fun σ => passAtV0 σ) (pa_cons (pv 0) (pa_cons (pv 4) (pa_cons (pe_lst (pa_cons (pv 1) (pa_cons (pv 2) pa_nil))) pa_nil)))))) (pss_one (ps_ret pe_bl)) pss_nil)
    (pss_cons (ps_if (PW.pt (pw_and (pt_val (pv 3)) (pw_and1 (pt_not (pt_val (hw_callK (hs := (a, oe) :: hs) hS (roomM hr _) (by decide) (Nat.succ_le_succ few) hk (by rfl) (fun σ => passAtV0 σ) (pa_cons (pv 0) (pa_cons (pv 2) (pa_cons (pv 1) (pa_cons pe_bl pa_nil)))))))))) (pss_one (ps_ret pe_bl)) pss_nil)
    (pss_one (ps_ret (hw_callKE hK__law_kept (roomM hr _) (by decide) (Nat.le_trans (Nat.succ_le_succ few) (by decide)) hk hz hf (by rfl) (fun σ => passAtV0 σ) (pa_cons (pv 0) (pa_cons (pv 4) (pa_cons (pe_lst (pa_cons (pv 1) (pa_cons (pv 2) pa_nil))) pa_nil))))))))))))))
    (pss_one (ps_ret pe_bl)))
theorem d_law {f : Addr} {fd : FuncData} (F : Fun K "law" "law" s_law f fd) (n_range : mg "range" = none) (h__law_bag : Has P w K mg base 1 "_law_bag" (sp__law_bag K mg) []) (h__law_take : Has P w K mg base 1 "_law_take" (sp__law_take K mg) []) (hK__law_caught : HasK P w K mg base 0 6 "_law_caught" (fun _ => sp__law_caught K mg)) :
    FnOk P w K mg base (L2.CX P w) 7 f fd ["_law_script"] (sp_law K mg) := by
  refine F.okX sc_law len1 (fun cdv A outer s H vs Q E hr h => ⟨t_law K mg E, ?_, R_law h⟩)
  have nd := sc_law.nd
  have hu1 := hu_of hr
  have hu64 := hr.units
  have hu65 := hu65_of hr
  have tk : Takes (cxOf (L2.CX P w) P w K mg base N_law "law" (defScope s_law) f cdv A outer s H E) (fun cls d _ H => E cls d H) := takes_of rfl rfl rfl rfl
  have po : PassesOwn (model P w) (cxOf (L2.CX P w) P w K mg base N_law "law" (defScope s_law) f cdv A outer s H E).A (cxOf (L2.CX P w) P w K mg base N_law "law" (defScope s_law) f cdv A outer s H E).env (cxOf (L2.CX P w) P w K mg base N_law "law" (defScope s_law) f cdv A outer s H E).xe := passes_of rfl
  unfold t_law
  exact (pss_cons (ps_set (i := 1) nd rfl (Or.inl rfl) (hw_call h__law_bag hr (by decide) (by rfl) (fun σ => passAt tk σ) (pa_cons (pv 0) pa_nil)))
    (pss_cons (ps_set (i := 2) nd rfl (Or.inl rfl) (hw_call h__law_take hr (by decide) (by rfl) (fun σ => passAt tk σ) (pa_cons (pv 1) (pa_cons pe_int pa_nil))))
    (pss_cons (ps_for po rfl (pi_range1 rfl n_range (pa_cons pe_int pa_nil)) (pg_name (i := 3) nd rfl (Or.inl rfl)) (pss_cons (ps_set (i := 4) nd rfl (Or.inl rfl) (pe_lst (pa_cons (hw_call h__law_take hr (by decide) (by rfl) (fun σ => passAt tk σ) (pa_cons (pv 1) (pa_cons pe_int pa_nil))) (pa_cons (hw_call h__law_take hr (by decide) (by rfl) (fun σ => passAt tk σ) (pa_cons (pv 1) (pa_cons pe_int pa_nil))) pa_nil))))
    (pss_cons (ps_set (i := 5) nd rfl (Or.inl rfl) (pe_lst (pa_cons (hw_call h__law_take hr (by decide) (by rfl) (fun σ => passAt tk σ) (pa_cons (pv 1) (pa_cons (pe_op u_add (pe_op op_pow pe_int pe_int) pe_int) pa_nil))) (pa_cons (pe_un un_neg (hw_call h__law_take hr (by decide) (by rfl) (fun σ => passAt tk σ) (pa_cons (pv 1) (pa_cons pe_int pa_nil)))) (pa_cons pe_str (pa_cons pe_str (pa_cons pe_non (pa_cons pe_bl (pa_cons pe_bl (pa_cons (pe_lst (pa_cons pe_int pa_nil)) (pa_cons (pe_tup (pa_cons pe_int (pa_cons pe_non pa_nil))) (pa_cons pe_dnewK pa_nil))))))))))))
    (pss_one (ps_if (pt_not (pt_val (hw_callK hK__law_caught (L2H.roomH_of hr) (by decide) (Nat.zero_le _) (hotK0 hr) (by rfl) (fun σ => passAtV0 σ) (pa_cons (pe_op op_mod (pe_op u_add (pv 2) (pv 3)) pe_int) (pa_cons (pe_ix (u_ix hu1) (pv 5) (pe_ix (u_ix hu1) (pv 4) pe_int (fun _ _ => rfl)) (fun _ _ => rfl)) (pa_cons (pe_ix (u_ix hu1) (pv 5) (pe_ix (u_ix hu1) (pv 4) pe_int (fun _ _ => rfl)) (fun _ _ => rfl)) (pa_cons pe_bl pa_nil))))))) (pss_one (ps_ret pe_bl)) pss_nil)))))
    (pss_one (ps_ret pe_bl)))))
end
theorem all_mk {P : Program} {w : World} {K : PySem.W.Frag} {h : Heap} {mg : Str → Option Value} {fa : Addr} (X : K.In h) (G : h.Ns mainGlobals mg) (hfa : mg "law" = some (.ref fa))
    {f0 : Addr} {od0 an0 : Option Addr} {sl0 : Array (Option Value)} {oc0 kV0 dc0 pm0 cd0 ct0 : Value}
    {f1 : Addr} {od1 an1 : Option Addr} {sl1 : Array (Option Value)} {oc1 kV1 dc1 pm1 cd1 ct1 : Value}
    {f2 : Addr} {od2 an2 : Option Addr} {sl2 : Array (Option Value)} {oc2 kV2 dc2 pm2 cd2 ct2 : Value}
    {f3 : Addr} {od3 an3 : Option Addr} {sl3 : Array (Option Value)} {oc3 kV3 dc3 pm3 cd3 ct3 : Value}
    {f4 : Addr} {od4 an4 : Option Addr} {sl4 : Array (Option Value)} {oc4 kV4 dc4 pm4 cd4 ct4 : Value}
    {f5 : Addr} {od5 an5 : Option Addr} {sl5 : Array (Option Value)} {oc5 kV5 dc5 pm5 cd5 ct5 : Value}
    {f6 : Addr} {od6 an6 : Option Addr} {sl6 : Array (Option Value)} {oc6 kV6 dc6 pm6 cd6 ct6 : Value}
    {f7 : Addr} {od7 an7 : Option Addr} {sl7 : Array (Option Value)} {oc7 kV7 dc7 pm7 cd7 ct7 : Value}
    {f8 : Addr} {od8 an8 : Option Addr} {sl8 : Array (Option Value)} {oc8 kV8 dc8 pm8 cd8 ct8 : Value}
    {f9 : Addr} {od9 an9 : Option Addr} {sl9 : Array (Option Value)} {oc9 kV9 dc9 pm9 cd9 ct9 : Value}
    {f10 : Addr} {od10 an10 : Option Addr} {sl10 : Array (Option Value)} {oc10 kV10 dc10 pm10 cd10 ct10 : Value}
    {f11 : Addr} {od11 an11 : Option Addr} {sl11 : Array (Option Value)} {oc11 kV11 dc11 pm11 cd11 ct11 : Value}
    {f12 : Addr} {od12 an12 : Option Addr} {sl12 : Array (Option Value)} {oc12 kV12 dc12 pm12 cd12 ct12 : Value}
    {f13 : Addr} {od13 an13 : Option Addr} {sl13 : Array (Option Value)} {oc13 kV13 dc13 pm13 cd13 ct13 : Value}
    {f14 : Addr} {od14 an14 : Option Addr} {sl14 : Array (Option Value)} {oc14 kV14 dc14 pm14 cd14 ct14 : Value}
    {f15 : Addr} {od15 an15 : Option Addr} {sl15 : Array (Option Value)} {oc15 kV15 dc15 pm15 cd15 ct15 : Value}
    {f16 : Addr} {od16 an16 : Option Addr} {sl16 : Array (Option Value)} {oc16 kV16 dc16 pm16 cd16 ct16 : Value}
    {C_HomeError : Addr}
    {C_Wrong : Addr}
    {C_NoRoom : Addr}
    {C_There : Addr}
    {C_NotThere : Addr}
    {C_Unkept : Addr}
    {C_Unlike : Addr}
    {C_NoText : Addr}
    {C_NoRow : Addr}
    {C_NoPlan : Addr}
    {C_TooMany : Addr}
    {nm_Wrong q_Wrong : Str} {N_Wrong : Addr} {bs_Wrong : List Value} {sn_Wrong : List Str} {sub_Wrong : List Value} {ab_Wrong : Bool} {col_Wrong : Option Bool} {dd_Wrong : Option Addr} {m0_Wrong m1_Wrong m2_Wrong m3_Wrong m5_Wrong : Option Value}
    {nm_NoRoom q_NoRoom : Str} {N_NoRoom : Addr} {bs_NoRoom : List Value} {sn_NoRoom : List Str} {sub_NoRoom : List Value} {ab_NoRoom : Bool} {col_NoRoom : Option Bool} {dd_NoRoom : Option Addr} {m0_NoRoom m1_NoRoom m2_NoRoom m3_NoRoom m5_NoRoom : Option Value}
    {nm_There q_There : Str} {N_There : Addr} {bs_There : List Value} {sn_There : List Str} {sub_There : List Value} {ab_There : Bool} {col_There : Option Bool} {dd_There : Option Addr} {m0_There m1_There m2_There m3_There m5_There : Option Value}
    {nm_NotThere q_NotThere : Str} {N_NotThere : Addr} {bs_NotThere : List Value} {sn_NotThere : List Str} {sub_NotThere : List Value} {ab_NotThere : Bool} {col_NotThere : Option Bool} {dd_NotThere : Option Addr} {m0_NotThere m1_NotThere m2_NotThere m3_NotThere m5_NotThere : Option Value}
    {nm_Unkept q_Unkept : Str} {N_Unkept : Addr} {bs_Unkept : List Value} {sn_Unkept : List Str} {sub_Unkept : List Value} {ab_Unkept : Bool} {col_Unkept : Option Bool} {dd_Unkept : Option Addr} {m0_Unkept m1_Unkept m2_Unkept m3_Unkept m5_Unkept : Option Value}
    {nm_NoText q_NoText : Str} {N_NoText : Addr} {bs_NoText : List Value} {sn_NoText : List Str} {sub_NoText : List Value} {ab_NoText : Bool} {col_NoText : Option Bool} {dd_NoText : Option Addr} {m0_NoText m1_NoText m2_NoText m3_NoText m5_NoText : Option Value}
    {nm_TooMany q_TooMany : Str} {N_TooMany : Addr} {bs_TooMany : List Value} {sn_TooMany : List Str} {sub_TooMany : List Value} {ab_TooMany : Bool} {col_TooMany : Option Bool} {dd_TooMany : Option Addr} {m0_TooMany m1_TooMany m2_TooMany m3_TooMany m5_TooMany : Option Value}
    {nm_Unlike q_Unlike : Str} {N_Unlike : Addr} {bs_Unlike : List Value} {sn_Unlike : List Str} {sub_Unlike : List Value} {ab_Unlike : Bool} {col_Unlike : Option Bool} {dd_Unlike : Option Addr} {m0_Unlike m1_Unlike m2_Unlike m3_Unlike m5_Unlike : Option Value}
    {nm_NoRow q_NoRow : Str} {N_NoRow : Addr} {bs_NoRow : List Value} {sn_NoRow : List Str} {sub_NoRow : List Value} {ab_NoRow : Bool} {col_NoRow : Option Bool} {dd_NoRow : Option Addr} {m0_NoRow m1_NoRow m2_NoRow m3_NoRow m5_NoRow : Option Value}
    {nm_NoPlan q_NoPlan : Str} {N_NoPlan : Addr} {bs_NoPlan : List Value} {sn_NoPlan : List Str} {sub_NoPlan : List Value} {ab_NoPlan : Bool} {col_NoPlan : Option Bool} {dd_NoPlan : Option Addr} {m0_NoPlan m1_NoPlan m2_NoPlan m3_NoPlan m5_NoPlan : Option Value}
    (a0 : PySem.W.nsIn K mainGlobals "_law_bag" = some (some (.ref f0)))
    (l0 : K.lookup f0 = some ⟨oc0, od0, .func (PySem.W.fnOf "_law_bag" "_law_bag" (defArgs s__law_bag) (defBody s__law_bag) (defScope s__law_bag) .none kV0 dc0 pm0 an0 cd0 ct0), sl0⟩)
    (c0 : PySem.W.codeIn K cd0 "_law_bag" = true)
    (k0 : PySem.W.keepIn K (.ref f0) = true)
    (a1 : PySem.W.nsIn K mainGlobals "_law_take" = some (some (.ref f1)))
    (l1 : K.lookup f1 = some ⟨oc1, od1, .func (PySem.W.fnOf "_law_take" "_law_take" (defArgs s__law_take) (defBody s__law_take) (defScope s__law_take) .none kV1 dc1 pm1 an1 cd1 ct1), sl1⟩)
    (c1 : PySem.W.codeIn K cd1 "_law_take" = true)
    (k1 : PySem.W.keepIn K (.ref f1) = true)
    (a2 : PySem.W.findIn K (.ref C_NoText) "__init__" = some (some (.ref f2)))
    (i2 : PySem.W.isFn K (.ref f2) = true)
    (l2 : K.lookup f2 = some ⟨oc2, od2, .func (PySem.W.fnOf "__init__" "NoText.__init__" (defArgs s_NoText___init__) (defBody s_NoText___init__) (defScope s_NoText___init__) .none kV2 dc2 pm2 an2 cd2 ct2), sl2⟩)
    (c2 : PySem.W.codeIn K cd2 "NoText.__init__" = true)
    (k2 : PySem.W.keepIn K (.ref f2) = true)
    (a3 : PySem.W.findIn K (.ref C_There) "__init__" = some (some (.ref f3)))
    (i3 : PySem.W.isFn K (.ref f3) = true)
    (l3 : K.lookup f3 = some ⟨oc3, od3, .func (PySem.W.fnOf "__init__" "There.__init__" (defArgs s_There___init__) (defBody s_There___init__) (defScope s_There___init__) .none kV3 dc3 pm3 an3 cd3 ct3), sl3⟩)
    (c3 : PySem.W.codeIn K cd3 "There.__init__" = true)
    (k3 : PySem.W.keepIn K (.ref f3) = true)
    (a4 : PySem.W.findIn K (.ref C_Unlike) "__init__" = some (some (.ref f4)))
    (i4 : PySem.W.isFn K (.ref f4) = true)
    (l4 : K.lookup f4 = some ⟨oc4, od4, .func (PySem.W.fnOf "__init__" "Unlike.__init__" (defArgs s_Unlike___init__) (defBody s_Unlike___init__) (defScope s_Unlike___init__) .none kV4 dc4 pm4 an4 cd4 ct4), sl4⟩)
    (c4 : PySem.W.codeIn K cd4 "Unlike.__init__" = true)
    (k4 : PySem.W.keepIn K (.ref f4) = true)
    (a5 : PySem.W.findIn K (.ref C_NoRow) "__init__" = some (some (.ref f5)))
    (i5 : PySem.W.isFn K (.ref f5) = true)
    (l5 : K.lookup f5 = some ⟨oc5, od5, .func (PySem.W.fnOf "__init__" "NoRow.__init__" (defArgs s_NoRow___init__) (defBody s_NoRow___init__) (defScope s_NoRow___init__) .none kV5 dc5 pm5 an5 cd5 ct5), sl5⟩)
    (c5 : PySem.W.codeIn K cd5 "NoRow.__init__" = true)
    (k5 : PySem.W.keepIn K (.ref f5) = true)
    (a6 : PySem.W.findIn K (.ref C_NoRoom) "__init__" = some (some (.ref f6)))
    (i6 : PySem.W.isFn K (.ref f6) = true)
    (l6 : K.lookup f6 = some ⟨oc6, od6, .func (PySem.W.fnOf "__init__" "NoRoom.__init__" (defArgs s_NoRoom___init__) (defBody s_NoRoom___init__) (defScope s_NoRoom___init__) .none kV6 dc6 pm6 an6 cd6 ct6), sl6⟩)
    (c6 : PySem.W.codeIn K cd6 "NoRoom.__init__" = true)
    (k6 : PySem.W.keepIn K (.ref f6) = true)
    (a7 : PySem.W.findIn K (.ref C_NoPlan) "__init__" = some (some (.ref f7)))
    (i7 : PySem.W.isFn K (.ref f7) = true)
    (l7 : K.lookup f7 = some ⟨oc7, od7, .func (PySem.W.fnOf "__init__" "NoPlan.__init__" (defArgs s_NoPlan___init__) (defBody s_NoPlan___init__) (defScope s_NoPlan___init__) .none kV7 dc7 pm7 an7 cd7 ct7), sl7⟩)
    (c7 : PySem.W.codeIn K cd7 "NoPlan.__init__" = true)
    (k7 : PySem.W.keepIn K (.ref f7) = true)
    (a8 : PySem.W.findIn K (.ref C_Wrong) "__init__" = some (some (.ref f8)))
    (i8 : PySem.W.isFn K (.ref f8) = true)
    (l8 : K.lookup f8 = some ⟨oc8, od8, .func (PySem.W.fnOf "__init__" "Wrong.__init__" (defArgs s_Wrong___init__) (defBody s_Wrong___init__) (defScope s_Wrong___init__) .none kV8 dc8 pm8 an8 cd8 ct8), sl8⟩)
    (c8 : PySem.W.codeIn K cd8 "Wrong.__init__" = true)
    (k8 : PySem.W.keepIn K (.ref f8) = true)
    (a9 : PySem.W.findIn K (.ref C_Unkept) "__init__" = some (some (.ref f9)))
    (i9 : PySem.W.isFn K (.ref f9) = true)
    (l9 : K.lookup f9 = some ⟨oc9, od9, .func (PySem.W.fnOf "__init__" "Unkept.__init__" (defArgs s_Unkept___init__) (defBody s_Unkept___init__) (defScope s_Unkept___init__) .none kV9 dc9 pm9 an9 cd9 ct9), sl9⟩)
    (c9 : PySem.W.codeIn K cd9 "Unkept.__init__" = true)
    (k9 : PySem.W.keepIn K (.ref f9) = true)
    (a10 : PySem.W.findIn K (.ref C_TooMany) "__init__" = some (some (.ref f10)))
    (i10 : PySem.W.isFn K (.ref f10) = true)
    (l10 : K.lookup f10 = some ⟨oc10, od10, .func (PySem.W.fnOf "__init__" "TooMany.__init__" (defArgs s_TooMany___init__) (defBody s_TooMany___init__) (defScope s_TooMany___init__) .none kV10 dc10 pm10 an10 cd10 ct10), sl10⟩)
    (c10 : PySem.W.codeIn K cd10 "TooMany.__init__" = true)
    (k10 : PySem.W.keepIn K (.ref f10) = true)
    (a11 : PySem.W.findIn K (.ref C_NotThere) "__init__" = some (some (.ref f11)))
    (i11 : PySem.W.isFn K (.ref f11) = true)
    (l11 : K.lookup f11 = some ⟨oc11, od11, .func (PySem.W.fnOf "__init__" "NotThere.__init__" (defArgs s_NotThere___init__) (defBody s_NotThere___init__) (defScope s_NotThere___init__) .none kV11 dc11 pm11 an11 cd11 ct11), sl11⟩)
    (c11 : PySem.W.codeIn K cd11 "NotThere.__init__" = true)
    (k11 : PySem.W.keepIn K (.ref f11) = true)
    (a12 : PySem.W.nsIn K mainGlobals "_law_raised" = some (some (.ref f12)))
    (l12 : K.lookup f12 = some ⟨oc12, od12, .func (PySem.W.fnOf "_law_raised" "_law_raised" (defArgs s__law_raised) (defBody s__law_raised) (defScope s__law_raised) .none kV12 dc12 pm12 an12 cd12 ct12), sl12⟩)
    (c12 : PySem.W.codeIn K cd12 "_law_raised" = true)
    (k12 : PySem.W.keepIn K (.ref f12) = true)
    (a13 : PySem.W.nsIn K mainGlobals "_law_fields" = some (some (.ref f13)))
    (l13 : K.lookup f13 = some ⟨oc13, od13, .func (PySem.W.fnOf "_law_fields" "_law_fields" (defArgs s__law_fields) (defBody s__law_fields) (defScope s__law_fields) .none kV13 dc13 pm13 an13 cd13 ct13), sl13⟩)
    (c13 : PySem.W.codeIn K cd13 "_law_fields" = true)
    (k13 : PySem.W.keepIn K (.ref f13) = true)
    (a14 : PySem.W.nsIn K mainGlobals "_law_kept" = some (some (.ref f14)))
    (l14 : K.lookup f14 = some ⟨oc14, od14, .func (PySem.W.fnOf "_law_kept" "_law_kept" (defArgs s__law_kept) (defBody s__law_kept) (defScope s__law_kept) .none kV14 dc14 pm14 an14 cd14 ct14), sl14⟩)
    (c14 : PySem.W.codeIn K cd14 "_law_kept" = true)
    (k14 : PySem.W.keepIn K (.ref f14) = true)
    (a15 : PySem.W.nsIn K mainGlobals "_law_caught" = some (some (.ref f15)))
    (l15 : K.lookup f15 = some ⟨oc15, od15, .func (PySem.W.fnOf "_law_caught" "_law_caught" (defArgs s__law_caught) (defBody s__law_caught) (defScope s__law_caught) .none kV15 dc15 pm15 an15 cd15 ct15), sl15⟩)
    (c15 : PySem.W.codeIn K cd15 "_law_caught" = true)
    (k15 : PySem.W.keepIn K (.ref f15) = true)
    (a16 : PySem.W.nsIn K mainGlobals "law" = some (some (.ref f16)))
    (l16 : K.lookup f16 = some ⟨oc16, od16, .func (PySem.W.fnOf "law" "law" (defArgs s_law) (defBody s_law) (defScope s_law) .none kV16 dc16 pm16 an16 cd16 ct16), sl16⟩)
    (c16 : PySem.W.codeIn K cd16 "law" = true)
    (k16 : PySem.W.keepIn K (.ref f16) = true)
    (y_HomeError : PySem.W.nsIn K mainGlobals "HomeError" = some (some (.ref C_HomeError)))
    (y_Wrong : PySem.W.nsIn K mainGlobals "Wrong" = some (some (.ref C_Wrong)))
    (y_NoRoom : PySem.W.nsIn K mainGlobals "NoRoom" = some (some (.ref C_NoRoom)))
    (y_There : PySem.W.nsIn K mainGlobals "There" = some (some (.ref C_There)))
    (y_NotThere : PySem.W.nsIn K mainGlobals "NotThere" = some (some (.ref C_NotThere)))
    (y_Unkept : PySem.W.nsIn K mainGlobals "Unkept" = some (some (.ref C_Unkept)))
    (y_Unlike : PySem.W.nsIn K mainGlobals "Unlike" = some (some (.ref C_Unlike)))
    (y_NoText : PySem.W.nsIn K mainGlobals "NoText" = some (some (.ref C_NoText)))
    (y_NoRow : PySem.W.nsIn K mainGlobals "NoRow" = some (some (.ref C_NoRow)))
    (y_NoPlan : PySem.W.nsIn K mainGlobals "NoPlan" = some (some (.ref C_NoPlan)))
    (y_TooMany : PySem.W.nsIn K mainGlobals "TooMany" = some (some (.ref C_TooMany)))
    (xL_Wrong : K.lookup C_Wrong = some (excClassObj nm_Wrong q_Wrong C_Wrong N_Wrong bs_Wrong [.ref C_HomeError, .type "ValueError", .type "Exception", .type "BaseException", .type "object"] true sn_Wrong sub_Wrong ab_Wrong col_Wrong dd_Wrong m0_Wrong m1_Wrong m2_Wrong m3_Wrong m5_Wrong "ValueError.__new__"))
    (sa_Wrong : PySem.W.findIn K (.ref C_Wrong) "__setattr__" = some (some (.builtin "object.__setattr__")))
    (eC_Wrong : PySem.W.subIn K (.ref C_Wrong) (.type "BaseException") = some true)
    (tC_Wrong : PySem.W.typeIn K (.ref C_Wrong) = some (.type "type"))
    (kC_Wrong : PySem.W.keepIn K (.ref C_Wrong) = true)
    (ga_Wrong : PySem.W.findIn K (.ref C_Wrong) "__getattribute__" = some (some (.builtin "BaseException.__getattribute__")))
    (gg_Wrong : PySem.W.findIn K (.ref C_Wrong) "__getattr__" = some none)
    (hd_Wrong : PySem.W.hasDictIn K C_Wrong = true)
    (ha_Wrong : PySem.W.findIn K (.ref C_Wrong) "__class__" = some (some (.builtin "object.__class__")))
    (hm_Wrong : PySem.W.mroIn K C_Wrong (.type "object") = some true)
    (hn : PySem.W.specialIn K (.builtin "object.__class__") "__get__" = some (some (.builtin "getset_descriptor.__get__")))
    (ht : PySem.W.takesIn K (.builtin "object.__class__") = some true)
    (nf_Wrong_at : PySem.W.findIn K (.ref C_Wrong) "at" = some none)
    (xL_NoRoom : K.lookup C_NoRoom = some (excClassObj nm_NoRoom q_NoRoom C_NoRoom N_NoRoom bs_NoRoom [.ref C_HomeError, .type "ValueError", .type "Exception", .type "BaseException", .type "object"] true sn_NoRoom sub_NoRoom ab_NoRoom col_NoRoom dd_NoRoom m0_NoRoom m1_NoRoom m2_NoRoom m3_NoRoom m5_NoRoom "ValueError.__new__"))
    (sa_NoRoom : PySem.W.findIn K (.ref C_NoRoom) "__setattr__" = some (some (.builtin "object.__setattr__")))
    (eC_NoRoom : PySem.W.subIn K (.ref C_NoRoom) (.type "BaseException") = some true)
    (tC_NoRoom : PySem.W.typeIn K (.ref C_NoRoom) = some (.type "type"))
    (kC_NoRoom : PySem.W.keepIn K (.ref C_NoRoom) = true)
    (ga_NoRoom : PySem.W.findIn K (.ref C_NoRoom) "__getattribute__" = some (some (.builtin "BaseException.__getattribute__")))
    (gg_NoRoom : PySem.W.findIn K (.ref C_NoRoom) "__getattr__" = some none)
    (hd_NoRoom : PySem.W.hasDictIn K C_NoRoom = true)
    (ha_NoRoom : PySem.W.findIn K (.ref C_NoRoom) "__class__" = some (some (.builtin "object.__class__")))
    (hm_NoRoom : PySem.W.mroIn K C_NoRoom (.type "object") = some true)
    (nf_NoRoom_room : PySem.W.findIn K (.ref C_NoRoom) "room" = some none)
    (xL_There : K.lookup C_There = some (excClassObj nm_There q_There C_There N_There bs_There [.ref C_HomeError, .type "ValueError", .type "Exception", .type "BaseException", .type "object"] true sn_There sub_There ab_There col_There dd_There m0_There m1_There m2_There m3_There m5_There "ValueError.__new__"))
    (sa_There : PySem.W.findIn K (.ref C_There) "__setattr__" = some (some (.builtin "object.__setattr__")))
    (eC_There : PySem.W.subIn K (.ref C_There) (.type "BaseException") = some true)
    (tC_There : PySem.W.typeIn K (.ref C_There) = some (.type "type"))
    (kC_There : PySem.W.keepIn K (.ref C_There) = true)
    (ga_There : PySem.W.findIn K (.ref C_There) "__getattribute__" = some (some (.builtin "BaseException.__getattribute__")))
    (gg_There : PySem.W.findIn K (.ref C_There) "__getattr__" = some none)
    (hd_There : PySem.W.hasDictIn K C_There = true)
    (ha_There : PySem.W.findIn K (.ref C_There) "__class__" = some (some (.builtin "object.__class__")))
    (hm_There : PySem.W.mroIn K C_There (.type "object") = some true)
    (nf_There_key : PySem.W.findIn K (.ref C_There) "key" = some none)
    (xL_NotThere : K.lookup C_NotThere = some (excClassObj nm_NotThere q_NotThere C_NotThere N_NotThere bs_NotThere [.ref C_HomeError, .type "ValueError", .type "Exception", .type "BaseException", .type "object"] true sn_NotThere sub_NotThere ab_NotThere col_NotThere dd_NotThere m0_NotThere m1_NotThere m2_NotThere m3_NotThere m5_NotThere "ValueError.__new__"))
    (sa_NotThere : PySem.W.findIn K (.ref C_NotThere) "__setattr__" = some (some (.builtin "object.__setattr__")))
    (eC_NotThere : PySem.W.subIn K (.ref C_NotThere) (.type "BaseException") = some true)
    (tC_NotThere : PySem.W.typeIn K (.ref C_NotThere) = some (.type "type"))
    (kC_NotThere : PySem.W.keepIn K (.ref C_NotThere) = true)
    (ga_NotThere : PySem.W.findIn K (.ref C_NotThere) "__getattribute__" = some (some (.builtin "BaseException.__getattribute__")))
    (gg_NotThere : PySem.W.findIn K (.ref C_NotThere) "__getattr__" = some none)
    (hd_NotThere : PySem.W.hasDictIn K C_NotThere = true)
    (ha_NotThere : PySem.W.findIn K (.ref C_NotThere) "__class__" = some (some (.builtin "object.__class__")))
    (hm_NotThere : PySem.W.mroIn K C_NotThere (.type "object") = some true)
    (nf_NotThere_key : PySem.W.findIn K (.ref C_NotThere) "key" = some none)
    (xL_Unkept : K.lookup C_Unkept = some (excClassObj nm_Unkept q_Unkept C_Unkept N_Unkept bs_Unkept [.ref C_HomeError, .type "ValueError", .type "Exception", .type "BaseException", .type "object"] true sn_Unkept sub_Unkept ab_Unkept col_Unkept dd_Unkept m0_Unkept m1_Unkept m2_Unkept m3_Unkept m5_Unkept "ValueError.__new__"))
    (sa_Unkept : PySem.W.findIn K (.ref C_Unkept) "__setattr__" = some (some (.builtin "object.__setattr__")))
    (eC_Unkept : PySem.W.subIn K (.ref C_Unkept) (.type "BaseException") = some true)
    (tC_Unkept : PySem.W.typeIn K (.ref C_Unkept) = some (.type "type"))
    (kC_Unkept : PySem.W.keepIn K (.ref C_Unkept) = true)
    (ga_Unkept : PySem.W.findIn K (.ref C_Unkept) "__getattribute__" = some (some (.builtin "BaseException.__getattribute__")))
    (gg_Unkept : PySem.W.findIn K (.ref C_Unkept) "__getattr__" = some none)
    (hd_Unkept : PySem.W.hasDictIn K C_Unkept = true)
    (ha_Unkept : PySem.W.findIn K (.ref C_Unkept) "__class__" = some (some (.builtin "object.__class__")))
    (hm_Unkept : PySem.W.mroIn K C_Unkept (.type "object") = some true)
    (nf_Unkept_word : PySem.W.findIn K (.ref C_Unkept) "word" = some none)
    (nf_Unkept_room : PySem.W.findIn K (.ref C_Unkept) "room" = some none)
    (xL_NoText : K.lookup C_NoText = some (excClassObj nm_NoText q_NoText C_NoText N_NoText bs_NoText [.ref C_HomeError, .type "ValueError", .type "Exception", .type "BaseException", .type "object"] true sn_NoText sub_NoText ab_NoText col_NoText dd_NoText m0_NoText m1_NoText m2_NoText m3_NoText m5_NoText "ValueError.__new__"))
    (sa_NoText : PySem.W.findIn K (.ref C_NoText) "__setattr__" = some (some (.builtin "object.__setattr__")))
    (eC_NoText : PySem.W.subIn K (.ref C_NoText) (.type "BaseException") = some true)
    (tC_NoText : PySem.W.typeIn K (.ref C_NoText) = some (.type "type"))
    (kC_NoText : PySem.W.keepIn K (.ref C_NoText) = true)
    (ga_NoText : PySem.W.findIn K (.ref C_NoText) "__getattribute__" = some (some (.builtin "BaseException.__getattribute__")))
    (gg_NoText : PySem.W.findIn K (.ref C_NoText) "__getattr__" = some none)
    (hd_NoText : PySem.W.hasDictIn K C_NoText = true)
    (ha_NoText : PySem.W.findIn K (.ref C_NoText) "__class__" = some (some (.builtin "object.__class__")))
    (hm_NoText : PySem.W.mroIn K C_NoText (.type "object") = some true)
    (nf_NoText_at : PySem.W.findIn K (.ref C_NoText) "at" = some none)
    (xL_TooMany : K.lookup C_TooMany = some (excClassObj nm_TooMany q_TooMany C_TooMany N_TooMany bs_TooMany [.ref C_HomeError, .type "ValueError", .type "Exception", .type "BaseException", .type "object"] true sn_TooMany sub_TooMany ab_TooMany col_TooMany dd_TooMany m0_TooMany m1_TooMany m2_TooMany m3_TooMany m5_TooMany "ValueError.__new__"))
    (sa_TooMany : PySem.W.findIn K (.ref C_TooMany) "__setattr__" = some (some (.builtin "object.__setattr__")))
    (eC_TooMany : PySem.W.subIn K (.ref C_TooMany) (.type "BaseException") = some true)
    (tC_TooMany : PySem.W.typeIn K (.ref C_TooMany) = some (.type "type"))
    (kC_TooMany : PySem.W.keepIn K (.ref C_TooMany) = true)
    (ga_TooMany : PySem.W.findIn K (.ref C_TooMany) "__getattribute__" = some (some (.builtin "BaseException.__getattribute__")))
    (gg_TooMany : PySem.W.findIn K (.ref C_TooMany) "__getattr__" = some none)
    (hd_TooMany : PySem.W.hasDictIn K C_TooMany = true)
    (ha_TooMany : PySem.W.findIn K (.ref C_TooMany) "__class__" = some (some (.builtin "object.__class__")))
    (hm_TooMany : PySem.W.mroIn K C_TooMany (.type "object") = some true)
    (nf_TooMany_most : PySem.W.findIn K (.ref C_TooMany) "most" = some none)
    (xL_Unlike : K.lookup C_Unlike = some (excClassObj nm_Unlike q_Unlike C_Unlike N_Unlike bs_Unlike [.ref C_HomeError, .type "ValueError", .type "Exception", .type "BaseException", .type "object"] true sn_Unlike sub_Unlike ab_Unlike col_Unlike dd_Unlike m0_Unlike m1_Unlike m2_Unlike m3_Unlike m5_Unlike "ValueError.__new__"))
    (sa_Unlike : PySem.W.findIn K (.ref C_Unlike) "__setattr__" = some (some (.builtin "object.__setattr__")))
    (eC_Unlike : PySem.W.subIn K (.ref C_Unlike) (.type "BaseException") = some true)
    (tC_Unlike : PySem.W.typeIn K (.ref C_Unlike) = some (.type "type"))
    (kC_Unlike : PySem.W.keepIn K (.ref C_Unlike) = true)
    (ga_Unlike : PySem.W.findIn K (.ref C_Unlike) "__getattribute__" = some (some (.builtin "BaseException.__getattribute__")))
    (gg_Unlike : PySem.W.findIn K (.ref C_Unlike) "__getattr__" = some none)
    (hd_Unlike : PySem.W.hasDictIn K C_Unlike = true)
    (ha_Unlike : PySem.W.findIn K (.ref C_Unlike) "__class__" = some (some (.builtin "object.__class__")))
    (hm_Unlike : PySem.W.mroIn K C_Unlike (.type "object") = some true)
    (xL_NoRow : K.lookup C_NoRow = some (excClassObj nm_NoRow q_NoRow C_NoRow N_NoRow bs_NoRow [.ref C_HomeError, .type "ValueError", .type "Exception", .type "BaseException", .type "object"] true sn_NoRow sub_NoRow ab_NoRow col_NoRow dd_NoRow m0_NoRow m1_NoRow m2_NoRow m3_NoRow m5_NoRow "ValueError.__new__"))
    (sa_NoRow : PySem.W.findIn K (.ref C_NoRow) "__setattr__" = some (some (.builtin "object.__setattr__")))
    (eC_NoRow : PySem.W.subIn K (.ref C_NoRow) (.type "BaseException") = some true)
    (tC_NoRow : PySem.W.typeIn K (.ref C_NoRow) = some (.type "type"))
    (kC_NoRow : PySem.W.keepIn K (.ref C_NoRow) = true)
    (ga_NoRow : PySem.W.findIn K (.ref C_NoRow) "__getattribute__" = some (some (.builtin "BaseException.__getattribute__")))
    (gg_NoRow : PySem.W.findIn K (.ref C_NoRow) "__getattr__" = some none)
    (hd_NoRow : PySem.W.hasDictIn K C_NoRow = true)
    (ha_NoRow : PySem.W.findIn K (.ref C_NoRow) "__class__" = some (some (.builtin "object.__class__")))
    (hm_NoRow : PySem.W.mroIn K C_NoRow (.type "object") = some true)
    (xL_NoPlan : K.lookup C_NoPlan = some (excClassObj nm_NoPlan q_NoPlan C_NoPlan N_NoPlan bs_NoPlan [.ref C_HomeError, .type "ValueError", .type "Exception", .type "BaseException", .type "object"] true sn_NoPlan sub_NoPlan ab_NoPlan col_NoPlan dd_NoPlan m0_NoPlan m1_NoPlan m2_NoPlan m3_NoPlan m5_NoPlan "ValueError.__new__"))
    (sa_NoPlan : PySem.W.findIn K (.ref C_NoPlan) "__setattr__" = some (some (.builtin "object.__setattr__")))
    (eC_NoPlan : PySem.W.subIn K (.ref C_NoPlan) (.type "BaseException") = some true)
    (tC_NoPlan : PySem.W.typeIn K (.ref C_NoPlan) = some (.type "type"))
    (kC_NoPlan : PySem.W.keepIn K (.ref C_NoPlan) = true)
    (ga_NoPlan : PySem.W.findIn K (.ref C_NoPlan) "__getattribute__" = some (some (.builtin "BaseException.__getattribute__")))
    (gg_NoPlan : PySem.W.findIn K (.ref C_NoPlan) "__getattr__" = some none)
    (hd_NoPlan : PySem.W.hasDictIn K C_NoPlan = true)
    (ha_NoPlan : PySem.W.findIn K (.ref C_NoPlan) "__class__" = some (some (.builtin "object.__class__")))
    (hm_NoPlan : PySem.W.mroIn K C_NoPlan (.type "object") = some true)
    (XI_Wrong_Wrong : PySem.W.kitOne K (.ref C_Wrong) (.ref C_Wrong) = some true)
    (XI_Wrong_NoRoom : PySem.W.kitOne K (.ref C_Wrong) (.ref C_NoRoom) = some false)
    (XI_Wrong_There : PySem.W.kitOne K (.ref C_Wrong) (.ref C_There) = some false)
    (XI_Wrong_NotThere : PySem.W.kitOne K (.ref C_Wrong) (.ref C_NotThere) = some false)
    (XI_Wrong_Unkept : PySem.W.kitOne K (.ref C_Wrong) (.ref C_Unkept) = some false)
    (XI_Wrong_Unlike : PySem.W.kitOne K (.ref C_Wrong) (.ref C_Unlike) = some false)
    (XI_Wrong_NoText : PySem.W.kitOne K (.ref C_Wrong) (.ref C_NoText) = some false)
    (XI_Wrong_NoRow : PySem.W.kitOne K (.ref C_Wrong) (.ref C_NoRow) = some false)
    (XI_Wrong_NoPlan : PySem.W.kitOne K (.ref C_Wrong) (.ref C_NoPlan) = some false)
    (XI_Wrong_TooMany : PySem.W.kitOne K (.ref C_Wrong) (.ref C_TooMany) = some false)
    (XI_Wrong_ValueError : PySem.W.kitOne K (.ref C_Wrong) (.type "ValueError") = some true)
    (XI_NoRoom_Wrong : PySem.W.kitOne K (.ref C_NoRoom) (.ref C_Wrong) = some false)
    (XI_NoRoom_NoRoom : PySem.W.kitOne K (.ref C_NoRoom) (.ref C_NoRoom) = some true)
    (XI_NoRoom_There : PySem.W.kitOne K (.ref C_NoRoom) (.ref C_There) = some false)
    (XI_NoRoom_NotThere : PySem.W.kitOne K (.ref C_NoRoom) (.ref C_NotThere) = some false)
    (XI_NoRoom_Unkept : PySem.W.kitOne K (.ref C_NoRoom) (.ref C_Unkept) = some false)
    (XI_NoRoom_Unlike : PySem.W.kitOne K (.ref C_NoRoom) (.ref C_Unlike) = some false)
    (XI_NoRoom_NoText : PySem.W.kitOne K (.ref C_NoRoom) (.ref C_NoText) = some false)
    (XI_NoRoom_NoRow : PySem.W.kitOne K (.ref C_NoRoom) (.ref C_NoRow) = some false)
    (XI_NoRoom_NoPlan : PySem.W.kitOne K (.ref C_NoRoom) (.ref C_NoPlan) = some false)
    (XI_NoRoom_TooMany : PySem.W.kitOne K (.ref C_NoRoom) (.ref C_TooMany) = some false)
    (XI_NoRoom_ValueError : PySem.W.kitOne K (.ref C_NoRoom) (.type "ValueError") = some true)
    (XI_There_Wrong : PySem.W.kitOne K (.ref C_There) (.ref C_Wrong) = some false)
    (XI_There_NoRoom : PySem.W.kitOne K (.ref C_There) (.ref C_NoRoom) = some false)
    (XI_There_There : PySem.W.kitOne K (.ref C_There) (.ref C_There) = some true)
    (XI_There_NotThere : PySem.W.kitOne K (.ref C_There) (.ref C_NotThere) = some false)
    (XI_There_Unkept : PySem.W.kitOne K (.ref C_There) (.ref C_Unkept) = some false)
    (XI_There_Unlike : PySem.W.kitOne K (.ref C_There) (.ref C_Unlike) = some false)
    (XI_There_NoText : PySem.W.kitOne K (.ref C_There) (.ref C_NoText) = some false)
    (XI_There_NoRow : PySem.W.kitOne K (.ref C_There) (.ref C_NoRow) = some false)
    (XI_There_NoPlan : PySem.W.kitOne K (.ref C_There) (.ref C_NoPlan) = some false)
    (XI_There_TooMany : PySem.W.kitOne K (.ref C_There) (.ref C_TooMany) = some false)
    (XI_There_ValueError : PySem.W.kitOne K (.ref C_There) (.type "ValueError") = some true)
    (XI_NotThere_Wrong : PySem.W.kitOne K (.ref C_NotThere) (.ref C_Wrong) = some false)
    (XI_NotThere_NoRoom : PySem.W.kitOne K (.ref C_NotThere) (.ref C_NoRoom) = some false)
    (XI_NotThere_There : PySem.W.kitOne K (.ref C_NotThere) (.ref C_There) = some false)
    (XI_NotThere_NotThere : PySem.W.kitOne K (.ref C_NotThere) (.ref C_NotThere) = some true)
    (XI_NotThere_Unkept : PySem.W.kitOne K (.ref C_NotThere) (.ref C_Unkept) = some false)
    (XI_NotThere_Unlike : PySem.W.kitOne K (.ref C_NotThere) (.ref C_Unlike) = some false)
    (XI_NotThere_NoText : PySem.W.kitOne K (.ref C_NotThere) (.ref C_NoText) = some false)
    (XI_NotThere_NoRow : PySem.W.kitOne K (.ref C_NotThere) (.ref C_NoRow) = some false)
    (XI_NotThere_NoPlan : PySem.W.kitOne K (.ref C_NotThere) (.ref C_NoPlan) = some false)
    (XI_NotThere_TooMany : PySem.W.kitOne K (.ref C_NotThere) (.ref C_TooMany) = some false)
    (XI_NotThere_ValueError : PySem.W.kitOne K (.ref C_NotThere) (.type "ValueError") = some true)
    (XI_Unkept_Wrong : PySem.W.kitOne K (.ref C_Unkept) (.ref C_Wrong) = some false)
    (XI_Unkept_NoRoom : PySem.W.kitOne K (.ref C_Unkept) (.ref C_NoRoom) = some false)
    (XI_Unkept_There : PySem.W.kitOne K (.ref C_Unkept) (.ref C_There) = some false)
    (XI_Unkept_NotThere : PySem.W.kitOne K (.ref C_Unkept) (.ref C_NotThere) = some false)
    (XI_Unkept_Unkept : PySem.W.kitOne K (.ref C_Unkept) (.ref C_Unkept) = some true)
    (XI_Unkept_Unlike : PySem.W.kitOne K (.ref C_Unkept) (.ref C_Unlike) = some false)
    (XI_Unkept_NoText : PySem.W.kitOne K (.ref C_Unkept) (.ref C_NoText) = some false)
    (XI_Unkept_NoRow : PySem.W.kitOne K (.ref C_Unkept) (.ref C_NoRow) = some false)
    (XI_Unkept_NoPlan : PySem.W.kitOne K (.ref C_Unkept) (.ref C_NoPlan) = some false)
    (XI_Unkept_TooMany : PySem.W.kitOne K (.ref C_Unkept) (.ref C_TooMany) = some false)
    (XI_Unkept_ValueError : PySem.W.kitOne K (.ref C_Unkept) (.type "ValueError") = some true)
    (XI_Unlike_Wrong : PySem.W.kitOne K (.ref C_Unlike) (.ref C_Wrong) = some false)
    (XI_Unlike_NoRoom : PySem.W.kitOne K (.ref C_Unlike) (.ref C_NoRoom) = some false)
    (XI_Unlike_There : PySem.W.kitOne K (.ref C_Unlike) (.ref C_There) = some false)
    (XI_Unlike_NotThere : PySem.W.kitOne K (.ref C_Unlike) (.ref C_NotThere) = some false)
    (XI_Unlike_Unkept : PySem.W.kitOne K (.ref C_Unlike) (.ref C_Unkept) = some false)
    (XI_Unlike_Unlike : PySem.W.kitOne K (.ref C_Unlike) (.ref C_Unlike) = some true)
    (XI_Unlike_NoText : PySem.W.kitOne K (.ref C_Unlike) (.ref C_NoText) = some false)
    (XI_Unlike_NoRow : PySem.W.kitOne K (.ref C_Unlike) (.ref C_NoRow) = some false)
    (XI_Unlike_NoPlan : PySem.W.kitOne K (.ref C_Unlike) (.ref C_NoPlan) = some false)
    (XI_Unlike_TooMany : PySem.W.kitOne K (.ref C_Unlike) (.ref C_TooMany) = some false)
    (XI_Unlike_ValueError : PySem.W.kitOne K (.ref C_Unlike) (.type "ValueError") = some true)
    (XI_NoText_Wrong : PySem.W.kitOne K (.ref C_NoText) (.ref C_Wrong) = some false)
    (XI_NoText_NoRoom : PySem.W.kitOne K (.ref C_NoText) (.ref C_NoRoom) = some false)
    (XI_NoText_There : PySem.W.kitOne K (.ref C_NoText) (.ref C_There) = some false)
    (XI_NoText_NotThere : PySem.W.kitOne K (.ref C_NoText) (.ref C_NotThere) = some false)
    (XI_NoText_Unkept : PySem.W.kitOne K (.ref C_NoText) (.ref C_Unkept) = some false)
    (XI_NoText_Unlike : PySem.W.kitOne K (.ref C_NoText) (.ref C_Unlike) = some false)
    (XI_NoText_NoText : PySem.W.kitOne K (.ref C_NoText) (.ref C_NoText) = some true)
    (XI_NoText_NoRow : PySem.W.kitOne K (.ref C_NoText) (.ref C_NoRow) = some false)
    (XI_NoText_NoPlan : PySem.W.kitOne K (.ref C_NoText) (.ref C_NoPlan) = some false)
    (XI_NoText_TooMany : PySem.W.kitOne K (.ref C_NoText) (.ref C_TooMany) = some false)
    (XI_NoText_ValueError : PySem.W.kitOne K (.ref C_NoText) (.type "ValueError") = some true)
    (XI_NoRow_Wrong : PySem.W.kitOne K (.ref C_NoRow) (.ref C_Wrong) = some false)
    (XI_NoRow_NoRoom : PySem.W.kitOne K (.ref C_NoRow) (.ref C_NoRoom) = some false)
    (XI_NoRow_There : PySem.W.kitOne K (.ref C_NoRow) (.ref C_There) = some false)
    (XI_NoRow_NotThere : PySem.W.kitOne K (.ref C_NoRow) (.ref C_NotThere) = some false)
    (XI_NoRow_Unkept : PySem.W.kitOne K (.ref C_NoRow) (.ref C_Unkept) = some false)
    (XI_NoRow_Unlike : PySem.W.kitOne K (.ref C_NoRow) (.ref C_Unlike) = some false)
    (XI_NoRow_NoText : PySem.W.kitOne K (.ref C_NoRow) (.ref C_NoText) = some false)
    (XI_NoRow_NoRow : PySem.W.kitOne K (.ref C_NoRow) (.ref C_NoRow) = some true)
    (XI_NoRow_NoPlan : PySem.W.kitOne K (.ref C_NoRow) (.ref C_NoPlan) = some false)
    (XI_NoRow_TooMany : PySem.W.kitOne K (.ref C_NoRow) (.ref C_TooMany) = some false)
    (XI_NoRow_ValueError : PySem.W.kitOne K (.ref C_NoRow) (.type "ValueError") = some true)
    (XI_NoPlan_Wrong : PySem.W.kitOne K (.ref C_NoPlan) (.ref C_Wrong) = some false)
    (XI_NoPlan_NoRoom : PySem.W.kitOne K (.ref C_NoPlan) (.ref C_NoRoom) = some false)
    (XI_NoPlan_There : PySem.W.kitOne K (.ref C_NoPlan) (.ref C_There) = some false)
    (XI_NoPlan_NotThere : PySem.W.kitOne K (.ref C_NoPlan) (.ref C_NotThere) = some false)
    (XI_NoPlan_Unkept : PySem.W.kitOne K (.ref C_NoPlan) (.ref C_Unkept) = some false)
    (XI_NoPlan_Unlike : PySem.W.kitOne K (.ref C_NoPlan) (.ref C_Unlike) = some false)
    (XI_NoPlan_NoText : PySem.W.kitOne K (.ref C_NoPlan) (.ref C_NoText) = some false)
    (XI_NoPlan_NoRow : PySem.W.kitOne K (.ref C_NoPlan) (.ref C_NoRow) = some false)
    (XI_NoPlan_NoPlan : PySem.W.kitOne K (.ref C_NoPlan) (.ref C_NoPlan) = some true)
    (XI_NoPlan_TooMany : PySem.W.kitOne K (.ref C_NoPlan) (.ref C_TooMany) = some false)
    (XI_NoPlan_ValueError : PySem.W.kitOne K (.ref C_NoPlan) (.type "ValueError") = some true)
    (XI_TooMany_Wrong : PySem.W.kitOne K (.ref C_TooMany) (.ref C_Wrong) = some false)
    (XI_TooMany_NoRoom : PySem.W.kitOne K (.ref C_TooMany) (.ref C_NoRoom) = some false)
    (XI_TooMany_There : PySem.W.kitOne K (.ref C_TooMany) (.ref C_There) = some false)
    (XI_TooMany_NotThere : PySem.W.kitOne K (.ref C_TooMany) (.ref C_NotThere) = some false)
    (XI_TooMany_Unkept : PySem.W.kitOne K (.ref C_TooMany) (.ref C_Unkept) = some false)
    (XI_TooMany_Unlike : PySem.W.kitOne K (.ref C_TooMany) (.ref C_Unlike) = some false)
    (XI_TooMany_NoText : PySem.W.kitOne K (.ref C_TooMany) (.ref C_NoText) = some false)
    (XI_TooMany_NoRow : PySem.W.kitOne K (.ref C_TooMany) (.ref C_NoRow) = some false)
    (XI_TooMany_NoPlan : PySem.W.kitOne K (.ref C_TooMany) (.ref C_NoPlan) = some false)
    (XI_TooMany_TooMany : PySem.W.kitOne K (.ref C_TooMany) (.ref C_TooMany) = some true)
    (XI_TooMany_ValueError : PySem.W.kitOne K (.ref C_TooMany) (.type "ValueError") = some true)
    (XE20 : PySem.W.exmOne K (.ref C_Wrong) (.ref C_HomeError) = some true)
    (XE21 : PySem.W.exmOne K (.ref C_NoRoom) (.ref C_HomeError) = some true)
    (XE22 : PySem.W.exmOne K (.ref C_There) (.ref C_HomeError) = some true)
    (XE23 : PySem.W.exmOne K (.ref C_NotThere) (.ref C_HomeError) = some true)
    (XE24 : PySem.W.exmOne K (.ref C_Unkept) (.ref C_HomeError) = some true)
    (XE25 : PySem.W.exmOne K (.ref C_NoText) (.ref C_HomeError) = some true)
    (XE26 : PySem.W.exmOne K (.ref C_TooMany) (.ref C_HomeError) = some true)
    (XE27 : PySem.W.exmOne K (.ref C_Unlike) (.ref C_HomeError) = some true)
    (XE28 : PySem.W.exmOne K (.ref C_NoRow) (.ref C_HomeError) = some true)
    (XE29 : PySem.W.exmOne K (.ref C_NoPlan) (.ref C_HomeError) = some true)
    (rd_HomeError : PySem.W.readsIn K C_HomeError (.type "type") = true)
    (tg_HomeError : PySem.W.specialIn K (.ref C_HomeError) "__getattribute__" = some (some (.builtin "type.__getattribute__")))
    (vi_HomeError : PySem.W.findCls K (.ref C_HomeError) (.type "type") "__init__" = some (.val (.builtin "ValueError.__init__")))
    (ti2 : PySem.W.typeIn K (.ref f2) = some (.type "function"))
    (ti3 : PySem.W.typeIn K (.ref f3) = some (.type "function"))
    (ti4 : PySem.W.typeIn K (.ref f4) = some (.type "function"))
    (ti5 : PySem.W.typeIn K (.ref f5) = some (.type "function"))
    (ti6 : PySem.W.typeIn K (.ref f6) = some (.type "function"))
    (ti7 : PySem.W.typeIn K (.ref f7) = some (.type "function"))
    (ti8 : PySem.W.typeIn K (.ref f8) = some (.type "function"))
    (ti9 : PySem.W.typeIn K (.ref f9) = some (.type "function"))
    (ti10 : PySem.W.typeIn K (.ref f10) = some (.type "function"))
    (ti11 : PySem.W.typeIn K (.ref f11) = some (.type "function"))
    (z_ValueError : PySem.W.nsIn K mainGlobals "ValueError" = some none)
    (z_abs : PySem.W.nsIn K mainGlobals "abs" = some none)
    (z_bool : PySem.W.nsIn K mainGlobals "bool" = some none)
    (z_enumerate : PySem.W.nsIn K mainGlobals "enumerate" = some none)
    (z_isinstance : PySem.W.nsIn K mainGlobals "isinstance" = some none)
    (z_len : PySem.W.nsIn K mainGlobals "len" = some none)
    (z_range : PySem.W.nsIn K mainGlobals "range" = some none) :
    ∃ fd : FuncData, (∀ (s : Shared) (v : Value), BindsTo s fd ⟨[v], []⟩ [("_law_script", v)]) ∧ ∀ base : Heap, K.In base → base.Ns mainGlobals mg → FnOk P w K mg base (L2.CX P w) 7 fa fd ["_law_script"] (spLaw K) := by
  have e := hfa.symm.trans (PySem.W.mg_of X G a16)
  cases e
  have n_ValueError := PySem.W.mg_none_of X G z_ValueError
  have n_abs := PySem.W.mg_none_of X G z_abs
  have n_bool := PySem.W.mg_none_of X G z_bool
  have n_enumerate := PySem.W.mg_none_of X G z_enumerate
  have n_isinstance := PySem.W.mg_none_of X G z_isinstance
  have n_len := PySem.W.mg_none_of X G z_len
  have n_range := PySem.W.mg_none_of X G z_range
  have g_HomeError := clsA_gl (PySem.W.mg_of X G y_HomeError)
  have cl_HomeError := clsA_of (PySem.W.mg_of X G y_HomeError)
  have g_Wrong := clsA_gl (PySem.W.mg_of X G y_Wrong)
  have cl_Wrong := clsA_of (PySem.W.mg_of X G y_Wrong)
  have g_NoRoom := clsA_gl (PySem.W.mg_of X G y_NoRoom)
  have cl_NoRoom := clsA_of (PySem.W.mg_of X G y_NoRoom)
  have g_There := clsA_gl (PySem.W.mg_of X G y_There)
  have cl_There := clsA_of (PySem.W.mg_of X G y_There)
  have g_NotThere := clsA_gl (PySem.W.mg_of X G y_NotThere)
  have cl_NotThere := clsA_of (PySem.W.mg_of X G y_NotThere)
  have g_Unkept := clsA_gl (PySem.W.mg_of X G y_Unkept)
  have cl_Unkept := clsA_of (PySem.W.mg_of X G y_Unkept)
  have g_Unlike := clsA_gl (PySem.W.mg_of X G y_Unlike)
  have cl_Unlike := clsA_of (PySem.W.mg_of X G y_Unlike)
  have g_NoText := clsA_gl (PySem.W.mg_of X G y_NoText)
  have cl_NoText := clsA_of (PySem.W.mg_of X G y_NoText)
  have g_NoRow := clsA_gl (PySem.W.mg_of X G y_NoRow)
  have cl_NoRow := clsA_of (PySem.W.mg_of X G y_NoRow)
  have g_NoPlan := clsA_gl (PySem.W.mg_of X G y_NoPlan)
  have cl_NoPlan := clsA_of (PySem.W.mg_of X G y_NoPlan)
  have g_TooMany := clsA_gl (PySem.W.mg_of X G y_TooMany)
  have cl_TooMany := clsA_of (PySem.W.mg_of X G y_TooMany)
  have T_Wrong : OexC K C_Wrong := ⟨⟨nm_Wrong, q_Wrong, N_Wrong, bs_Wrong, _, sn_Wrong, sub_Wrong, ab_Wrong, col_Wrong, dd_Wrong, m0_Wrong, m1_Wrong, m2_Wrong, m3_Wrong, m5_Wrong, xL_Wrong, rfl⟩, sa_Wrong, eC_Wrong, tC_Wrong, kC_Wrong⟩
  have I0 : XC K mg "Wrong" ["at"] := by
    constructor
    · rw [cl_Wrong]; exact T_Wrong
    · rw [cl_Wrong]; exact ⟨ga_Wrong, gg_Wrong, eC_Wrong, hd_Wrong⟩
    · rw [cl_Wrong]; exact ⟨ga_Wrong, gg_Wrong, eC_Wrong, hd_Wrong, ha_Wrong, hn, ht, hm_Wrong⟩
    · rw [cl_Wrong]; exact fun f hf => by simp only [List.mem_cons, List.not_mem_nil, or_false] at hf; rcases hf with rfl <;> first | exact nf_Wrong_at
  have T_NoRoom : OexC K C_NoRoom := ⟨⟨nm_NoRoom, q_NoRoom, N_NoRoom, bs_NoRoom, _, sn_NoRoom, sub_NoRoom, ab_NoRoom, col_NoRoom, dd_NoRoom, m0_NoRoom, m1_NoRoom, m2_NoRoom, m3_NoRoom, m5_NoRoom, xL_NoRoom, rfl⟩, sa_NoRoom, eC_NoRoom, tC_NoRoom, kC_NoRoom⟩
  have I1 : XC K mg "NoRoom" ["room"] := by
    constructor
    · rw [cl_NoRoom]; exact T_NoRoom
    · rw [cl_NoRoom]; exact ⟨ga_NoRoom, gg_NoRoom, eC_NoRoom, hd_NoRoom⟩
    · rw [cl_NoRoom]; exact ⟨ga_NoRoom, gg_NoRoom, eC_NoRoom, hd_NoRoom, ha_NoRoom, hn, ht, hm_NoRoom⟩
    · rw [cl_NoRoom]; exact fun f hf => by simp only [List.mem_cons, List.not_mem_nil, or_false] at hf; rcases hf with rfl <;> first | exact nf_NoRoom_room
  have T_There : OexC K C_There := ⟨⟨nm_There, q_There, N_There, bs_There, _, sn_There, sub_There, ab_There, col_There, dd_There, m0_There, m1_There, m2_There, m3_There, m5_There, xL_There, rfl⟩, sa_There, eC_There, tC_There, kC_There⟩
  have I2 : XC K mg "There" ["key"] := by
    constructor
    · rw [cl_There]; exact T_There
    · rw [cl_There]; exact ⟨ga_There, gg_There, eC_There, hd_There⟩
    · rw [cl_There]; exact ⟨ga_There, gg_There, eC_There, hd_There, ha_There, hn, ht, hm_There⟩
    · rw [cl_There]; exact fun f hf => by simp only [List.mem_cons, List.not_mem_nil, or_false] at hf; rcases hf with rfl <;> first | exact nf_There_key
  have T_NotThere : OexC K C_NotThere := ⟨⟨nm_NotThere, q_NotThere, N_NotThere, bs_NotThere, _, sn_NotThere, sub_NotThere, ab_NotThere, col_NotThere, dd_NotThere, m0_NotThere, m1_NotThere, m2_NotThere, m3_NotThere, m5_NotThere, xL_NotThere, rfl⟩, sa_NotThere, eC_NotThere, tC_NotThere, kC_NotThere⟩
  have I3 : XC K mg "NotThere" ["key"] := by
    constructor
    · rw [cl_NotThere]; exact T_NotThere
    · rw [cl_NotThere]; exact ⟨ga_NotThere, gg_NotThere, eC_NotThere, hd_NotThere⟩
    · rw [cl_NotThere]; exact ⟨ga_NotThere, gg_NotThere, eC_NotThere, hd_NotThere, ha_NotThere, hn, ht, hm_NotThere⟩
    · rw [cl_NotThere]; exact fun f hf => by simp only [List.mem_cons, List.not_mem_nil, or_false] at hf; rcases hf with rfl <;> first | exact nf_NotThere_key
  have T_Unkept : OexC K C_Unkept := ⟨⟨nm_Unkept, q_Unkept, N_Unkept, bs_Unkept, _, sn_Unkept, sub_Unkept, ab_Unkept, col_Unkept, dd_Unkept, m0_Unkept, m1_Unkept, m2_Unkept, m3_Unkept, m5_Unkept, xL_Unkept, rfl⟩, sa_Unkept, eC_Unkept, tC_Unkept, kC_Unkept⟩
  have I4 : XC K mg "Unkept" ["word", "room"] := by
    constructor
    · rw [cl_Unkept]; exact T_Unkept
    · rw [cl_Unkept]; exact ⟨ga_Unkept, gg_Unkept, eC_Unkept, hd_Unkept⟩
    · rw [cl_Unkept]; exact ⟨ga_Unkept, gg_Unkept, eC_Unkept, hd_Unkept, ha_Unkept, hn, ht, hm_Unkept⟩
    · rw [cl_Unkept]; exact fun f hf => by simp only [List.mem_cons, List.not_mem_nil, or_false] at hf; rcases hf with rfl | rfl <;> first | exact nf_Unkept_word | exact nf_Unkept_room
  have T_NoText : OexC K C_NoText := ⟨⟨nm_NoText, q_NoText, N_NoText, bs_NoText, _, sn_NoText, sub_NoText, ab_NoText, col_NoText, dd_NoText, m0_NoText, m1_NoText, m2_NoText, m3_NoText, m5_NoText, xL_NoText, rfl⟩, sa_NoText, eC_NoText, tC_NoText, kC_NoText⟩
  have I5 : XC K mg "NoText" ["at"] := by
    constructor
    · rw [cl_NoText]; exact T_NoText
    · rw [cl_NoText]; exact ⟨ga_NoText, gg_NoText, eC_NoText, hd_NoText⟩
    · rw [cl_NoText]; exact ⟨ga_NoText, gg_NoText, eC_NoText, hd_NoText, ha_NoText, hn, ht, hm_NoText⟩
    · rw [cl_NoText]; exact fun f hf => by simp only [List.mem_cons, List.not_mem_nil, or_false] at hf; rcases hf with rfl <;> first | exact nf_NoText_at
  have T_TooMany : OexC K C_TooMany := ⟨⟨nm_TooMany, q_TooMany, N_TooMany, bs_TooMany, _, sn_TooMany, sub_TooMany, ab_TooMany, col_TooMany, dd_TooMany, m0_TooMany, m1_TooMany, m2_TooMany, m3_TooMany, m5_TooMany, xL_TooMany, rfl⟩, sa_TooMany, eC_TooMany, tC_TooMany, kC_TooMany⟩
  have I6 : XC K mg "TooMany" ["most"] := by
    constructor
    · rw [cl_TooMany]; exact T_TooMany
    · rw [cl_TooMany]; exact ⟨ga_TooMany, gg_TooMany, eC_TooMany, hd_TooMany⟩
    · rw [cl_TooMany]; exact ⟨ga_TooMany, gg_TooMany, eC_TooMany, hd_TooMany, ha_TooMany, hn, ht, hm_TooMany⟩
    · rw [cl_TooMany]; exact fun f hf => by simp only [List.mem_cons, List.not_mem_nil, or_false] at hf; rcases hf with rfl <;> first | exact nf_TooMany_most
  have T_Unlike : OexC K C_Unlike := ⟨⟨nm_Unlike, q_Unlike, N_Unlike, bs_Unlike, _, sn_Unlike, sub_Unlike, ab_Unlike, col_Unlike, dd_Unlike, m0_Unlike, m1_Unlike, m2_Unlike, m3_Unlike, m5_Unlike, xL_Unlike, rfl⟩, sa_Unlike, eC_Unlike, tC_Unlike, kC_Unlike⟩
  have I7 : XC K mg "Unlike" [] := by
    constructor
    · rw [cl_Unlike]; exact T_Unlike
    · rw [cl_Unlike]; exact ⟨ga_Unlike, gg_Unlike, eC_Unlike, hd_Unlike⟩
    · rw [cl_Unlike]; exact ⟨ga_Unlike, gg_Unlike, eC_Unlike, hd_Unlike, ha_Unlike, hn, ht, hm_Unlike⟩
    · rw [cl_Unlike]; exact fun f hf => nomatch hf
  have T_NoRow : OexC K C_NoRow := ⟨⟨nm_NoRow, q_NoRow, N_NoRow, bs_NoRow, _, sn_NoRow, sub_NoRow, ab_NoRow, col_NoRow, dd_NoRow, m0_NoRow, m1_NoRow, m2_NoRow, m3_NoRow, m5_NoRow, xL_NoRow, rfl⟩, sa_NoRow, eC_NoRow, tC_NoRow, kC_NoRow⟩
  have I8 : XC K mg "NoRow" [] := by
    constructor
    · rw [cl_NoRow]; exact T_NoRow
    · rw [cl_NoRow]; exact ⟨ga_NoRow, gg_NoRow, eC_NoRow, hd_NoRow⟩
    · rw [cl_NoRow]; exact ⟨ga_NoRow, gg_NoRow, eC_NoRow, hd_NoRow, ha_NoRow, hn, ht, hm_NoRow⟩
    · rw [cl_NoRow]; exact fun f hf => nomatch hf
  have T_NoPlan : OexC K C_NoPlan := ⟨⟨nm_NoPlan, q_NoPlan, N_NoPlan, bs_NoPlan, _, sn_NoPlan, sub_NoPlan, ab_NoPlan, col_NoPlan, dd_NoPlan, m0_NoPlan, m1_NoPlan, m2_NoPlan, m3_NoPlan, m5_NoPlan, xL_NoPlan, rfl⟩, sa_NoPlan, eC_NoPlan, tC_NoPlan, kC_NoPlan⟩
  have I9 : XC K mg "NoPlan" [] := by
    constructor
    · rw [cl_NoPlan]; exact T_NoPlan
    · rw [cl_NoPlan]; exact ⟨ga_NoPlan, gg_NoPlan, eC_NoPlan, hd_NoPlan⟩
    · rw [cl_NoPlan]; exact ⟨ga_NoPlan, gg_NoPlan, eC_NoPlan, hd_NoPlan, ha_NoPlan, hn, ht, hm_NoPlan⟩
    · rw [cl_NoPlan]; exact fun f hf => nomatch hf
  have I10 : XS K mg "Wrong" 0 := by
    constructor
    · rw [cl_Wrong]; exact XI_Wrong_Wrong
    · rw [cl_Wrong, cl_NoRoom]; exact XI_Wrong_NoRoom
    · rw [cl_Wrong, cl_There]; exact XI_Wrong_There
    · rw [cl_Wrong, cl_NotThere]; exact XI_Wrong_NotThere
    · rw [cl_Wrong, cl_Unkept]; exact XI_Wrong_Unkept
    · rw [cl_Wrong, cl_Unlike]; exact XI_Wrong_Unlike
    · rw [cl_Wrong, cl_NoText]; exact XI_Wrong_NoText
    · rw [cl_Wrong, cl_NoRow]; exact XI_Wrong_NoRow
    · rw [cl_Wrong, cl_NoPlan]; exact XI_Wrong_NoPlan
    · rw [cl_Wrong, cl_TooMany]; exact XI_Wrong_TooMany
    · rw [cl_Wrong]; exact XI_Wrong_ValueError
  have I11 : XS K mg "NoRoom" 1 := by
    constructor
    · rw [cl_NoRoom, cl_Wrong]; exact XI_NoRoom_Wrong
    · rw [cl_NoRoom]; exact XI_NoRoom_NoRoom
    · rw [cl_NoRoom, cl_There]; exact XI_NoRoom_There
    · rw [cl_NoRoom, cl_NotThere]; exact XI_NoRoom_NotThere
    · rw [cl_NoRoom, cl_Unkept]; exact XI_NoRoom_Unkept
    · rw [cl_NoRoom, cl_Unlike]; exact XI_NoRoom_Unlike
    · rw [cl_NoRoom, cl_NoText]; exact XI_NoRoom_NoText
    · rw [cl_NoRoom, cl_NoRow]; exact XI_NoRoom_NoRow
    · rw [cl_NoRoom, cl_NoPlan]; exact XI_NoRoom_NoPlan
    · rw [cl_NoRoom, cl_TooMany]; exact XI_NoRoom_TooMany
    · rw [cl_NoRoom]; exact XI_NoRoom_ValueError
  have I12 : XS K mg "There" 2 := by
    constructor
    · rw [cl_There, cl_Wrong]; exact XI_There_Wrong
    · rw [cl_There, cl_NoRoom]; exact XI_There_NoRoom
    · rw [cl_There]; exact XI_There_There
    · rw [cl_There, cl_NotThere]; exact XI_There_NotThere
    · rw [cl_There, cl_Unkept]; exact XI_There_Unkept
    · rw [cl_There, cl_Unlike]; exact XI_There_Unlike
    · rw [cl_There, cl_NoText]; exact XI_There_NoText
    · rw [cl_There, cl_NoRow]; exact XI_There_NoRow
    · rw [cl_There, cl_NoPlan]; exact XI_There_NoPlan
    · rw [cl_There, cl_TooMany]; exact XI_There_TooMany
    · rw [cl_There]; exact XI_There_ValueError
  have I13 : XS K mg "NotThere" 3 := by
    constructor
    · rw [cl_NotThere, cl_Wrong]; exact XI_NotThere_Wrong
    · rw [cl_NotThere, cl_NoRoom]; exact XI_NotThere_NoRoom
    · rw [cl_NotThere, cl_There]; exact XI_NotThere_There
    · rw [cl_NotThere]; exact XI_NotThere_NotThere
    · rw [cl_NotThere, cl_Unkept]; exact XI_NotThere_Unkept
    · rw [cl_NotThere, cl_Unlike]; exact XI_NotThere_Unlike
    · rw [cl_NotThere, cl_NoText]; exact XI_NotThere_NoText
    · rw [cl_NotThere, cl_NoRow]; exact XI_NotThere_NoRow
    · rw [cl_NotThere, cl_NoPlan]; exact XI_NotThere_NoPlan
    · rw [cl_NotThere, cl_TooMany]; exact XI_NotThere_TooMany
    · rw [cl_NotThere]; exact XI_NotThere_ValueError
  have I14 : XS K mg "Unkept" 4 := by
    constructor
    · rw [cl_Unkept, cl_Wrong]; exact XI_Unkept_Wrong
    · rw [cl_Unkept, cl_NoRoom]; exact XI_Unkept_NoRoom
    · rw [cl_Unkept, cl_There]; exact XI_Unkept_There
    · rw [cl_Unkept, cl_NotThere]; exact XI_Unkept_NotThere
    · rw [cl_Unkept]; exact XI_Unkept_Unkept
    · rw [cl_Unkept, cl_Unlike]; exact XI_Unkept_Unlike
    · rw [cl_Unkept, cl_NoText]; exact XI_Unkept_NoText
    · rw [cl_Unkept, cl_NoRow]; exact XI_Unkept_NoRow
    · rw [cl_Unkept, cl_NoPlan]; exact XI_Unkept_NoPlan
    · rw [cl_Unkept, cl_TooMany]; exact XI_Unkept_TooMany
    · rw [cl_Unkept]; exact XI_Unkept_ValueError
  have I15 : XS K mg "Unlike" 5 := by
    constructor
    · rw [cl_Unlike, cl_Wrong]; exact XI_Unlike_Wrong
    · rw [cl_Unlike, cl_NoRoom]; exact XI_Unlike_NoRoom
    · rw [cl_Unlike, cl_There]; exact XI_Unlike_There
    · rw [cl_Unlike, cl_NotThere]; exact XI_Unlike_NotThere
    · rw [cl_Unlike, cl_Unkept]; exact XI_Unlike_Unkept
    · rw [cl_Unlike]; exact XI_Unlike_Unlike
    · rw [cl_Unlike, cl_NoText]; exact XI_Unlike_NoText
    · rw [cl_Unlike, cl_NoRow]; exact XI_Unlike_NoRow
    · rw [cl_Unlike, cl_NoPlan]; exact XI_Unlike_NoPlan
    · rw [cl_Unlike, cl_TooMany]; exact XI_Unlike_TooMany
    · rw [cl_Unlike]; exact XI_Unlike_ValueError
  have I16 : XS K mg "NoText" 6 := by
    constructor
    · rw [cl_NoText, cl_Wrong]; exact XI_NoText_Wrong
    · rw [cl_NoText, cl_NoRoom]; exact XI_NoText_NoRoom
    · rw [cl_NoText, cl_There]; exact XI_NoText_There
    · rw [cl_NoText, cl_NotThere]; exact XI_NoText_NotThere
    · rw [cl_NoText, cl_Unkept]; exact XI_NoText_Unkept
    · rw [cl_NoText, cl_Unlike]; exact XI_NoText_Unlike
    · rw [cl_NoText]; exact XI_NoText_NoText
    · rw [cl_NoText, cl_NoRow]; exact XI_NoText_NoRow
    · rw [cl_NoText, cl_NoPlan]; exact XI_NoText_NoPlan
    · rw [cl_NoText, cl_TooMany]; exact XI_NoText_TooMany
    · rw [cl_NoText]; exact XI_NoText_ValueError
  have I17 : XS K mg "NoRow" 7 := by
    constructor
    · rw [cl_NoRow, cl_Wrong]; exact XI_NoRow_Wrong
    · rw [cl_NoRow, cl_NoRoom]; exact XI_NoRow_NoRoom
    · rw [cl_NoRow, cl_There]; exact XI_NoRow_There
    · rw [cl_NoRow, cl_NotThere]; exact XI_NoRow_NotThere
    · rw [cl_NoRow, cl_Unkept]; exact XI_NoRow_Unkept
    · rw [cl_NoRow, cl_Unlike]; exact XI_NoRow_Unlike
    · rw [cl_NoRow, cl_NoText]; exact XI_NoRow_NoText
    · rw [cl_NoRow]; exact XI_NoRow_NoRow
    · rw [cl_NoRow, cl_NoPlan]; exact XI_NoRow_NoPlan
    · rw [cl_NoRow, cl_TooMany]; exact XI_NoRow_TooMany
    · rw [cl_NoRow]; exact XI_NoRow_ValueError
  have I18 : XS K mg "NoPlan" 8 := by
    constructor
    · rw [cl_NoPlan, cl_Wrong]; exact XI_NoPlan_Wrong
    · rw [cl_NoPlan, cl_NoRoom]; exact XI_NoPlan_NoRoom
    · rw [cl_NoPlan, cl_There]; exact XI_NoPlan_There
    · rw [cl_NoPlan, cl_NotThere]; exact XI_NoPlan_NotThere
    · rw [cl_NoPlan, cl_Unkept]; exact XI_NoPlan_Unkept
    · rw [cl_NoPlan, cl_Unlike]; exact XI_NoPlan_Unlike
    · rw [cl_NoPlan, cl_NoText]; exact XI_NoPlan_NoText
    · rw [cl_NoPlan, cl_NoRow]; exact XI_NoPlan_NoRow
    · rw [cl_NoPlan]; exact XI_NoPlan_NoPlan
    · rw [cl_NoPlan, cl_TooMany]; exact XI_NoPlan_TooMany
    · rw [cl_NoPlan]; exact XI_NoPlan_ValueError
  have I19 : XS K mg "TooMany" 9 := by
    constructor
    · rw [cl_TooMany, cl_Wrong]; exact XI_TooMany_Wrong
    · rw [cl_TooMany, cl_NoRoom]; exact XI_TooMany_NoRoom
    · rw [cl_TooMany, cl_There]; exact XI_TooMany_There
    · rw [cl_TooMany, cl_NotThere]; exact XI_TooMany_NotThere
    · rw [cl_TooMany, cl_Unkept]; exact XI_TooMany_Unkept
    · rw [cl_TooMany, cl_Unlike]; exact XI_TooMany_Unlike
    · rw [cl_TooMany, cl_NoText]; exact XI_TooMany_NoText
    · rw [cl_TooMany, cl_NoRow]; exact XI_TooMany_NoRow
    · rw [cl_TooMany, cl_NoPlan]; exact XI_TooMany_NoPlan
    · rw [cl_TooMany]; exact XI_TooMany_TooMany
    · rw [cl_TooMany]; exact XI_TooMany_ValueError
  have I20 : XE K mg "Wrong" (.ref (clsA mg "HomeError")) true := ⟨by rw [cl_Wrong, cl_HomeError]; exact XE20⟩
  have I21 : XE K mg "NoRoom" (.ref (clsA mg "HomeError")) true := ⟨by rw [cl_NoRoom, cl_HomeError]; exact XE21⟩
  have I22 : XE K mg "There" (.ref (clsA mg "HomeError")) true := ⟨by rw [cl_There, cl_HomeError]; exact XE22⟩
  have I23 : XE K mg "NotThere" (.ref (clsA mg "HomeError")) true := ⟨by rw [cl_NotThere, cl_HomeError]; exact XE23⟩
  have I24 : XE K mg "Unkept" (.ref (clsA mg "HomeError")) true := ⟨by rw [cl_Unkept, cl_HomeError]; exact XE24⟩
  have I25 : XE K mg "NoText" (.ref (clsA mg "HomeError")) true := ⟨by rw [cl_NoText, cl_HomeError]; exact XE25⟩
  have I26 : XE K mg "TooMany" (.ref (clsA mg "HomeError")) true := ⟨by rw [cl_TooMany, cl_HomeError]; exact XE26⟩
  have I27 : XE K mg "Unlike" (.ref (clsA mg "HomeError")) true := ⟨by rw [cl_Unlike, cl_HomeError]; exact XE27⟩
  have I28 : XE K mg "NoRow" (.ref (clsA mg "HomeError")) true := ⟨by rw [cl_NoRow, cl_HomeError]; exact XE28⟩
  have I29 : XE K mg "NoPlan" (.ref (clsA mg "HomeError")) true := ⟨by rw [cl_NoPlan, cl_HomeError]; exact XE29⟩
  have I30 : XB K mg "HomeError" := ⟨by rw [cl_HomeError]; exact ⟨rd_HomeError, tg_HomeError, vi_HomeError⟩⟩
  have F0 := fun_mk (st := s__law_bag) l0 c0 k0
  have b0 := F0.binds (ps := ["_law_script"]) fun _ _ _ _ _ _ us hl => match us, hl with | [_], _ => rfl
  have F1 := fun_mk (st := s__law_take) l1 c1 k1
  have b1 := F1.binds (ps := ["_law_bag_here", "_law_many"]) fun _ _ _ _ _ _ us hl => match us, hl with | [_, _], _ => rfl
  have F2 := fun_mk (st := s_NoText___init__) l2 c2 k2
  have b2 := F2.binds (ps := ["self", "at"]) fun _ _ _ _ _ _ us hl => match us, hl with | [_, _], _ => rfl
  have F3 := fun_mk (st := s_There___init__) l3 c3 k3
  have b3 := F3.binds (ps := ["self", "key"]) fun _ _ _ _ _ _ us hl => match us, hl with | [_, _], _ => rfl
  have F4 := fun_mk (st := s_Unlike___init__) l4 c4 k4
  have b4 := F4.binds (ps := ["self"]) fun _ _ _ _ _ _ us hl => match us, hl with | [_], _ => rfl
  have F5 := fun_mk (st := s_NoRow___init__) l5 c5 k5
  have b5 := F5.binds (ps := ["self"]) fun _ _ _ _ _ _ us hl => match us, hl with | [_], _ => rfl
  have F6 := fun_mk (st := s_NoRoom___init__) l6 c6 k6
  have b6 := F6.binds (ps := ["self", "room"]) fun _ _ _ _ _ _ us hl => match us, hl with | [_, _], _ => rfl
  have F7 := fun_mk (st := s_NoPlan___init__) l7 c7 k7
  have b7 := F7.binds (ps := ["self"]) fun _ _ _ _ _ _ us hl => match us, hl with | [_], _ => rfl
  have F8 := fun_mk (st := s_Wrong___init__) l8 c8 k8
  have b8 := F8.binds (ps := ["self", "at"]) fun _ _ _ _ _ _ us hl => match us, hl with | [_, _], _ => rfl
  have F9 := fun_mk (st := s_Unkept___init__) l9 c9 k9
  have b9 := F9.binds (ps := ["self", "word", "room"]) fun _ _ _ _ _ _ us hl => match us, hl with | [_, _, _], _ => rfl
  have F10 := fun_mk (st := s_TooMany___init__) l10 c10 k10
  have b10 := F10.binds (ps := ["self", "most"]) fun _ _ _ _ _ _ us hl => match us, hl with | [_, _], _ => rfl
  have F11 := fun_mk (st := s_NotThere___init__) l11 c11 k11
  have b11 := F11.binds (ps := ["self", "key"]) fun _ _ _ _ _ _ us hl => match us, hl with | [_, _], _ => rfl
  have F12 := fun_mk (st := s__law_raised) l12 c12 k12
  have b12 := F12.binds (ps := ["_law_which", "_law_thing", "_law_other"]) fun _ _ _ _ _ _ us hl => match us, hl with | [_, _, _], _ => rfl
  have F13 := fun_mk (st := s__law_fields) l13 c13 k13
  have b13 := F13.binds (ps := ["_law_which", "_law_e"]) fun _ _ _ _ _ _ us hl => match us, hl with | [_, _], _ => rfl
  have F14 := fun_mk (st := s__law_kept) l14 c14 k14
  have b14 := F14.binds (ps := ["_law_which", "_law_e", "_law_due"]) fun _ _ _ _ _ _ us hl => match us, hl with | [_, _, _], _ => rfl
  have F15 := fun_mk (st := s__law_caught) l15 c15 k15
  have b15 := F15.binds (ps := ["_law_which", "_law_thing", "_law_other", "_law_again"]) fun _ _ _ _ _ _ us hl => match us, hl with | [_, _, _, _], _ => rfl
  have F16 := fun_mk (st := s_law) l16 c16 k16
  refine ⟨PySem.W.fnOf "law" "law" (defArgs s_law) (defBody s_law) (defScope s_law) .none kV16 dc16 pm16 an16 cd16 ct16, fun s v => .of_eq rfl, fun base _ _ => ?_⟩
  have h__law_bag : Has P w K mg base 1 "_law_bag" (sp__law_bag K mg) [] := ⟨_, _, _, [], PySem.W.mg_of X G a0, k0, b0, .nil, d__law_bag F0 n_abs⟩
  have h__law_take : Has P w K mg base 1 "_law_take" (sp__law_take K mg) [] := ⟨_, _, _, [], PySem.W.mg_of X G a1, k1, b1, .nil, d__law_take F1 n_len⟩
  have hX_NoText : HasXK P w K mg base 2 1 "NoText" (clsA mg "NoText") ["at"] := ⟨g_NoText, by rw [cl_NoText]; exact T_NoText, _, _, _, by rw [cl_NoText]; exact a2, ti2, b2, d_NoText___init__ F2 g_HomeError⟩
  have hX_There : HasXK P w K mg base 2 1 "There" (clsA mg "There") ["key"] := ⟨g_There, by rw [cl_There]; exact T_There, _, _, _, by rw [cl_There]; exact a3, ti3, b3, d_There___init__ F3 g_HomeError⟩
  have hX_Unlike : HasXK P w K mg base 2 1 "Unlike" (clsA mg "Unlike") [] := ⟨g_Unlike, by rw [cl_Unlike]; exact T_Unlike, _, _, _, by rw [cl_Unlike]; exact a4, ti4, b4, d_Unlike___init__ F4 g_HomeError⟩
  have hX_NoRow : HasXK P w K mg base 2 1 "NoRow" (clsA mg "NoRow") [] := ⟨g_NoRow, by rw [cl_NoRow]; exact T_NoRow, _, _, _, by rw [cl_NoRow]; exact a5, ti5, b5, d_NoRow___init__ F5 g_HomeError⟩
  have hX_NoRoom : HasXK P w K mg base 2 1 "NoRoom" (clsA mg "NoRoom") ["room"] := ⟨g_NoRoom, by rw [cl_NoRoom]; exact T_NoRoom, _, _, _, by rw [cl_NoRoom]; exact a6, ti6, b6, d_NoRoom___init__ F6 g_HomeError⟩
  have hX_NoPlan : HasXK P w K mg base 2 1 "NoPlan" (clsA mg "NoPlan") [] := ⟨g_NoPlan, by rw [cl_NoPlan]; exact T_NoPlan, _, _, _, by rw [cl_NoPlan]; exact a7, ti7, b7, d_NoPlan___init__ F7 g_HomeError⟩
  have hX_Wrong : HasXK P w K mg base 2 1 "Wrong" (clsA mg "Wrong") ["at"] := ⟨g_Wrong, by rw [cl_Wrong]; exact T_Wrong, _, _, _, by rw [cl_Wrong]; exact a8, ti8, b8, d_Wrong___init__ F8 g_HomeError⟩
  have hX_Unkept : HasXK P w K mg base 2 1 "Unkept" (clsA mg "Unkept") ["word", "room"] := ⟨g_Unkept, by rw [cl_Unkept]; exact T_Unkept, _, _, _, by rw [cl_Unkept]; exact a9, ti9, b9, d_Unkept___init__ F9 g_HomeError⟩
  have hX_TooMany : HasXK P w K mg base 2 1 "TooMany" (clsA mg "TooMany") ["most"] := ⟨g_TooMany, by rw [cl_TooMany]; exact T_TooMany, _, _, _, by rw [cl_TooMany]; exact a10, ti10, b10, d_TooMany___init__ F10 g_HomeError⟩
  have hX_NotThere : HasXK P w K mg base 2 1 "NotThere" (clsA mg "NotThere") ["key"] := ⟨g_NotThere, by rw [cl_NotThere]; exact T_NotThere, _, _, _, by rw [cl_NotThere]; exact a11, ti11, b11, d_NotThere___init__ F11 g_HomeError⟩
  have hK__law_raised : HasK P w K mg base 2 3 "_law_raised" (fun _ => sp__law_raised K mg) := ⟨_, _, _, PySem.W.mg_of X G a12, k12, b12, d__law_raised F12 hX_NoPlan hX_NoRoom hX_NoRow hX_NoText hX_NotThere hX_There hX_TooMany hX_Unkept hX_Unlike hX_Wrong⟩
  have hK__law_fields : HasK P w K mg base 2 1 "_law_fields" (spKE (sp__law_fields K mg)) := ⟨_, _, _, PySem.W.mg_of X G a13, k13, b13, d__law_fields F13 ⟩
  have hK__law_kept : HasK P w K mg base 2 2 "_law_kept" (spKE (sp__law_kept K mg)) := ⟨_, _, _, PySem.W.mg_of X G a14, k14, b14, d__law_kept F14 n_bool n_enumerate n_isinstance hK__law_fields⟩
  have hK__law_caught_0 : HasK P w K mg base 2 4 "_law_caught" (fun _ => spN__law_caught K mg 0) := ⟨_, _, _, PySem.W.mg_of X G a15, k15, b15, d__law_caught_0 F15⟩
  have hK__law_caught_1 : HasK P w K mg base 1 5 "_law_caught" (fun _ => spN__law_caught K mg 1) := ⟨_, _, _, PySem.W.mg_of X G a15, k15, b15, d__law_caught_1 F15 n_ValueError n_isinstance n_range g_HomeError g_NoPlan g_NoRoom g_NoRow g_NoText g_NotThere g_There g_TooMany g_Unkept g_Unlike g_Wrong hK__law_raised hK__law_kept hK__law_caught_0⟩
  have hK__law_caught_2 : HasK P w K mg base 0 6 "_law_caught" (fun _ => spN__law_caught K mg 2) := ⟨_, _, _, PySem.W.mg_of X G a15, k15, b15, d__law_caught_2 F15 n_ValueError n_isinstance n_range g_HomeError g_NoPlan g_NoRoom g_NoRow g_NoText g_NotThere g_There g_TooMany g_Unkept g_Unlike g_Wrong hK__law_raised hK__law_kept hK__law_caught_1⟩
  have hK__law_caught : HasK P w K mg base 0 6 "_law_caught" (fun _ => sp__law_caught K mg) := hK__law_caught_2
  exact d_law F16 n_range h__law_bag h__law_take hK__law_caught
end Hw

open PySem PySem.W PyProof.Rows
set_option maxRecDepth 100000 in
set_option maxHeartbeats 0 in
theorem PySem.Challenge.cw_homeward_k15_refusals_apart_holds : PySem.Challenge.rw_homeward_k15_refusals_apart.Holds := by
  w_on; o_law; k_head; (case hw => w_witness2)
  k_fill
  refine L2.walk_of (l := PySem.Challenge.rw_homeward_k15_refusals_apart) (n := 63) (k := 7) (x := "_law_script") (CX := fun w => L2.CX PySem.Challenge.rw_homeward_k15_refusals_apart.prog w) (sp := fun w => Hw.spLaw _) rfl (by decide) rfl ⟨rfl, by decide, by decide⟩ (fun w h Y => PySem.W.kIn_of Y) ?F
    (fun _ _ a ns hl _ hS => ⟨_, rfl, a, ns, rfl, hS, hl, fun _ => rfl⟩) (fun _ _ _ _ _ z => by obtain ⟨_, _, _, _, _, _, _, _, _, _, _, _, z⟩ := z; exact z)
  case F =>
    intro w mg fa h KX G hmg
    refine' Hw.all_mk KX G hmg ?a0 ?l0 ?c0 ?k0 ?a1 ?l1 ?c1 ?k1 ?a2 ?i2 ?l2 ?c2 ?k2 ?a3 ?i3 ?l3 ?c3 ?k3 ?a4 ?i4 ?l4 ?c4 ?k4 ?a5 ?i5 ?l5 ?c5 ?k5 ?a6 ?i6 ?l6 ?c6 ?k6 ?a7 ?i7 ?l7 ?c7 ?k7 ?a8 ?i8 ?l8 ?c8 ?k8 ?a9 ?i9 ?l9 ?c9 ?k9 ?a10 ?i10 ?l10 ?c10 ?k10 ?a11 ?i11 ?l11 ?c11 ?k11 ?a12 ?l12 ?c12 ?k12 ?a13 ?l13 ?c13 ?k13 ?a14 ?l14 ?c14 ?k14 ?a15 ?l15 ?c15 ?k15 ?a16 ?l16 ?c16 ?k16 ?y_HomeError ?y_Wrong ?y_NoRoom ?y_There ?y_NotThere ?y_Unkept ?y_Unlike ?y_NoText ?y_NoRow ?y_NoPlan ?y_TooMany ?xL_Wrong ?sa_Wrong ?eC_Wrong ?tC_Wrong ?kC_Wrong ?ga_Wrong ?gg_Wrong ?hd_Wrong ?ha_Wrong ?hm_Wrong ?hn ?ht ?nf_Wrong_at ?xL_NoRoom ?sa_NoRoom ?eC_NoRoom ?tC_NoRoom ?kC_NoRoom ?ga_NoRoom ?gg_NoRoom ?hd_NoRoom ?ha_NoRoom ?hm_NoRoom ?nf_NoRoom_room ?xL_There ?sa_There ?eC_There ?tC_There ?kC_There ?ga_There ?gg_There ?hd_There ?ha_There ?hm_There ?nf_There_key ?xL_NotThere ?sa_NotThere ?eC_NotThere ?tC_NotThere ?kC_NotThere ?ga_NotThere ?gg_NotThere ?hd_NotThere ?ha_NotThere ?hm_NotThere ?nf_NotThere_key ?xL_Unkept ?sa_Unkept ?eC_Unkept ?tC_Unkept ?kC_Unkept ?ga_Unkept ?gg_Unkept ?hd_Unkept ?ha_Unkept ?hm_Unkept ?nf_Unkept_word ?nf_Unkept_room ?xL_NoText ?sa_NoText ?eC_NoText ?tC_NoText ?kC_NoText ?ga_NoText ?gg_NoText ?hd_NoText ?ha_NoText ?hm_NoText ?nf_NoText_at ?xL_TooMany ?sa_TooMany ?eC_TooMany ?tC_TooMany ?kC_TooMany ?ga_TooMany ?gg_TooMany ?hd_TooMany ?ha_TooMany ?hm_TooMany ?nf_TooMany_most ?xL_Unlike ?sa_Unlike ?eC_Unlike ?tC_Unlike ?kC_Unlike ?ga_Unlike ?gg_Unlike ?hd_Unlike ?ha_Unlike ?hm_Unlike ?xL_NoRow ?sa_NoRow ?eC_NoRow ?tC_NoRow ?kC_NoRow ?ga_NoRow ?gg_NoRow ?hd_NoRow ?ha_NoRow ?hm_NoRow ?xL_NoPlan ?sa_NoPlan ?eC_NoPlan ?tC_NoPlan ?kC_NoPlan ?ga_NoPlan ?gg_NoPlan ?hd_NoPlan ?ha_NoPlan ?hm_NoPlan ?XI_Wrong_Wrong ?XI_Wrong_NoRoom ?XI_Wrong_There ?XI_Wrong_NotThere ?XI_Wrong_Unkept ?XI_Wrong_Unlike ?XI_Wrong_NoText ?XI_Wrong_NoRow ?XI_Wrong_NoPlan ?XI_Wrong_TooMany ?XI_Wrong_ValueError ?XI_NoRoom_Wrong ?XI_NoRoom_NoRoom ?XI_NoRoom_There ?XI_NoRoom_NotThere ?XI_NoRoom_Unkept ?XI_NoRoom_Unlike ?XI_NoRoom_NoText ?XI_NoRoom_NoRow ?XI_NoRoom_NoPlan ?XI_NoRoom_TooMany ?XI_NoRoom_ValueError ?XI_There_Wrong ?XI_There_NoRoom ?XI_There_There ?XI_There_NotThere ?XI_There_Unkept ?XI_There_Unlike ?XI_There_NoText ?XI_There_NoRow ?XI_There_NoPlan ?XI_There_TooMany ?XI_There_ValueError ?XI_NotThere_Wrong ?XI_NotThere_NoRoom ?XI_NotThere_There ?XI_NotThere_NotThere ?XI_NotThere_Unkept ?XI_NotThere_Unlike ?XI_NotThere_NoText ?XI_NotThere_NoRow ?XI_NotThere_NoPlan ?XI_NotThere_TooMany ?XI_NotThere_ValueError ?XI_Unkept_Wrong ?XI_Unkept_NoRoom ?XI_Unkept_There ?XI_Unkept_NotThere ?XI_Unkept_Unkept ?XI_Unkept_Unlike ?XI_Unkept_NoText ?XI_Unkept_NoRow ?XI_Unkept_NoPlan ?XI_Unkept_TooMany ?XI_Unkept_ValueError ?XI_Unlike_Wrong ?XI_Unlike_NoRoom ?XI_Unlike_There ?XI_Unlike_NotThere ?XI_Unlike_Unkept ?XI_Unlike_Unlike ?XI_Unlike_NoText ?XI_Unlike_NoRow ?XI_Unlike_NoPlan ?XI_Unlike_TooMany ?XI_Unlike_ValueError ?XI_NoText_Wrong ?XI_NoText_NoRoom ?XI_NoText_There ?XI_NoText_NotThere ?XI_NoText_Unkept ?XI_NoText_Unlike ?XI_NoText_NoText ?XI_NoText_NoRow ?XI_NoText_NoPlan ?XI_NoText_TooMany ?XI_NoText_ValueError ?XI_NoRow_Wrong ?XI_NoRow_NoRoom ?XI_NoRow_There ?XI_NoRow_NotThere ?XI_NoRow_Unkept ?XI_NoRow_Unlike ?XI_NoRow_NoText ?XI_NoRow_NoRow ?XI_NoRow_NoPlan ?XI_NoRow_TooMany ?XI_NoRow_ValueError ?XI_NoPlan_Wrong ?XI_NoPlan_NoRoom ?XI_NoPlan_There ?XI_NoPlan_NotThere ?XI_NoPlan_Unkept ?XI_NoPlan_Unlike ?XI_NoPlan_NoText ?XI_NoPlan_NoRow ?XI_NoPlan_NoPlan ?XI_NoPlan_TooMany ?XI_NoPlan_ValueError ?XI_TooMany_Wrong ?XI_TooMany_NoRoom ?XI_TooMany_There ?XI_TooMany_NotThere ?XI_TooMany_Unkept ?XI_TooMany_Unlike ?XI_TooMany_NoText ?XI_TooMany_NoRow ?XI_TooMany_NoPlan ?XI_TooMany_TooMany ?XI_TooMany_ValueError ?XE20 ?XE21 ?XE22 ?XE23 ?XE24 ?XE25 ?XE26 ?XE27 ?XE28 ?XE29 ?rd_HomeError ?tg_HomeError ?vi_HomeError ?ti2 ?ti3 ?ti4 ?ti5 ?ti6 ?ti7 ?ti8 ?ti9 ?ti10 ?ti11 ?z_ValueError ?z_abs ?z_bool ?z_enumerate ?z_isinstance ?z_len ?z_range
    (case y_HomeError => k_is)
    (case y_Wrong => k_is)
    (case y_NoRoom => k_is)
    (case y_There => k_is)
    (case y_NotThere => k_is)
    (case y_Unkept => k_is)
    (case y_Unlike => k_is)
    (case y_NoText => k_is)
    (case y_NoRow => k_is)
    (case y_NoPlan => k_is)
    (case y_TooMany => k_is)
    (case a0 => k_is)
    (case l0 => k_is)
    (case c0 => k_is)
    (case k0 => k_is)
    (case a1 => k_is)
    (case l1 => k_is)
    (case c1 => k_is)
    (case k1 => k_is)
    (case a2 => k_is)
    (case i2 => k_is)
    (case l2 => k_is)
    (case c2 => k_is)
    (case k2 => k_is)
    (case a3 => k_is)
    (case i3 => k_is)
    (case l3 => k_is)
    (case c3 => k_is)
    (case k3 => k_is)
    (case a4 => k_is)
    (case i4 => k_is)
    (case l4 => k_is)
    (case c4 => k_is)
    (case k4 => k_is)
    (case a5 => k_is)
    (case i5 => k_is)
    (case l5 => k_is)
    (case c5 => k_is)
    (case k5 => k_is)
    (case a6 => k_is)
    (case i6 => k_is)
    (case l6 => k_is)
    (case c6 => k_is)
    (case k6 => k_is)
    (case a7 => k_is)
    (case i7 => k_is)
    (case l7 => k_is)
    (case c7 => k_is)
    (case k7 => k_is)
    (case a8 => k_is)
    (case i8 => k_is)
    (case l8 => k_is)
    (case c8 => k_is)
    (case k8 => k_is)
    (case a9 => k_is)
    (case i9 => k_is)
    (case l9 => k_is)
    (case c9 => k_is)
    (case k9 => k_is)
    (case a10 => k_is)
    (case i10 => k_is)
    (case l10 => k_is)
    (case c10 => k_is)
    (case k10 => k_is)
    (case a11 => k_is)
    (case i11 => k_is)
    (case l11 => k_is)
    (case c11 => k_is)
    (case k11 => k_is)
    (case a12 => k_is)
    (case l12 => k_is)
    (case c12 => k_is)
    (case k12 => k_is)
    (case a13 => k_is)
    (case l13 => k_is)
    (case c13 => k_is)
    (case k13 => k_is)
    (case a14 => k_is)
    (case l14 => k_is)
    (case c14 => k_is)
    (case k14 => k_is)
    (case a15 => k_is)
    (case l15 => k_is)
    (case c15 => k_is)
    (case k15 => k_is)
    (case a16 => k_is)
    (case l16 => k_is)
    (case c16 => k_is)
    (case k16 => k_is)
    (case xL_Wrong => k_is)
    (case sa_Wrong => k_is)
    (case eC_Wrong => first | k_is | rfl)
    (case tC_Wrong => k_is)
    (case kC_Wrong => k_is)
    (case ga_Wrong => k_is)
    (case gg_Wrong => k_is)
    (case hd_Wrong => k_is)
    (case ha_Wrong => k_is)
    (case hm_Wrong => k_is)
    (case hn => k_is)
    (case ht => k_is)
    (case nf_Wrong_at => k_is)
    (case xL_NoRoom => k_is)
    (case sa_NoRoom => k_is)
    (case eC_NoRoom => first | k_is | rfl)
    (case tC_NoRoom => k_is)
    (case kC_NoRoom => k_is)
    (case ga_NoRoom => k_is)
    (case gg_NoRoom => k_is)
    (case hd_NoRoom => k_is)
    (case ha_NoRoom => k_is)
    (case hm_NoRoom => k_is)
    (case nf_NoRoom_room => k_is)
    (case xL_There => k_is)
    (case sa_There => k_is)
    (case eC_There => first | k_is | rfl)
    (case tC_There => k_is)
    (case kC_There => k_is)
    (case ga_There => k_is)
    (case gg_There => k_is)
    (case hd_There => k_is)
    (case ha_There => k_is)
    (case hm_There => k_is)
    (case nf_There_key => k_is)
    (case xL_NotThere => k_is)
    (case sa_NotThere => k_is)
    (case eC_NotThere => first | k_is | rfl)
    (case tC_NotThere => k_is)
    (case kC_NotThere => k_is)
    (case ga_NotThere => k_is)
    (case gg_NotThere => k_is)
    (case hd_NotThere => k_is)
    (case ha_NotThere => k_is)
    (case hm_NotThere => k_is)
    (case nf_NotThere_key => k_is)
    (case xL_Unkept => k_is)
    (case sa_Unkept => k_is)
    (case eC_Unkept => first | k_is | rfl)
    (case tC_Unkept => k_is)
    (case kC_Unkept => k_is)
    (case ga_Unkept => k_is)
    (case gg_Unkept => k_is)
    (case hd_Unkept => k_is)
    (case ha_Unkept => k_is)
    (case hm_Unkept => k_is)
    (case nf_Unkept_word => k_is)
    (case nf_Unkept_room => k_is)
    (case xL_NoText => k_is)
    (case sa_NoText => k_is)
    (case eC_NoText => first | k_is | rfl)
    (case tC_NoText => k_is)
    (case kC_NoText => k_is)
    (case ga_NoText => k_is)
    (case gg_NoText => k_is)
    (case hd_NoText => k_is)
    (case ha_NoText => k_is)
    (case hm_NoText => k_is)
    (case nf_NoText_at => k_is)
    (case xL_TooMany => k_is)
    (case sa_TooMany => k_is)
    (case eC_TooMany => first | k_is | rfl)
    (case tC_TooMany => k_is)
    (case kC_TooMany => k_is)
    (case ga_TooMany => k_is)
    (case gg_TooMany => k_is)
    (case hd_TooMany => k_is)
    (case ha_TooMany => k_is)
    (case hm_TooMany => k_is)
    (case nf_TooMany_most => k_is)
    (case xL_Unlike => k_is)
    (case sa_Unlike => k_is)
    (case eC_Unlike => first | k_is | rfl)
    (case tC_Unlike => k_is)
    (case kC_Unlike => k_is)
    (case ga_Unlike => k_is)
    (case gg_Unlike => k_is)
    (case hd_Unlike => k_is)
    (case ha_Unlike => k_is)
    (case hm_Unlike => k_is)
    (case xL_NoRow => k_is)
    (case sa_NoRow => k_is)
    (case eC_NoRow => first | k_is | rfl)
    (case tC_NoRow => k_is)
    (case kC_NoRow => k_is)
    (case ga_NoRow => k_is)
    (case gg_NoRow => k_is)
    (case hd_NoRow => k_is)
    (case ha_NoRow => k_is)
    (case hm_NoRow => k_is)
    (case xL_NoPlan => k_is)
    (case sa_NoPlan => k_is)
    (case eC_NoPlan => first | k_is | rfl)
    (case tC_NoPlan => k_is)
    (case kC_NoPlan => k_is)
    (case ga_NoPlan => k_is)
    (case gg_NoPlan => k_is)
    (case hd_NoPlan => k_is)
    (case ha_NoPlan => k_is)
    (case hm_NoPlan => k_is)
    (case XI_Wrong_Wrong => first | k_is | rfl)
    (case XI_Wrong_NoRoom => first | k_is | rfl)
    (case XI_Wrong_There => first | k_is | rfl)
    (case XI_Wrong_NotThere => first | k_is | rfl)
    (case XI_Wrong_Unkept => first | k_is | rfl)
    (case XI_Wrong_Unlike => first | k_is | rfl)
    (case XI_Wrong_NoText => first | k_is | rfl)
    (case XI_Wrong_NoRow => first | k_is | rfl)
    (case XI_Wrong_NoPlan => first | k_is | rfl)
    (case XI_Wrong_TooMany => first | k_is | rfl)
    (case XI_Wrong_ValueError => first | k_is | rfl)
    (case XI_NoRoom_Wrong => first | k_is | rfl)
    (case XI_NoRoom_NoRoom => first | k_is | rfl)
    (case XI_NoRoom_There => first | k_is | rfl)
    (case XI_NoRoom_NotThere => first | k_is | rfl)
    (case XI_NoRoom_Unkept => first | k_is | rfl)
    (case XI_NoRoom_Unlike => first | k_is | rfl)
    (case XI_NoRoom_NoText => first | k_is | rfl)
    (case XI_NoRoom_NoRow => first | k_is | rfl)
    (case XI_NoRoom_NoPlan => first | k_is | rfl)
    (case XI_NoRoom_TooMany => first | k_is | rfl)
    (case XI_NoRoom_ValueError => first | k_is | rfl)
    (case XI_There_Wrong => first | k_is | rfl)
    (case XI_There_NoRoom => first | k_is | rfl)
    (case XI_There_There => first | k_is | rfl)
    (case XI_There_NotThere => first | k_is | rfl)
    (case XI_There_Unkept => first | k_is | rfl)
    (case XI_There_Unlike => first | k_is | rfl)
    (case XI_There_NoText => first | k_is | rfl)
    (case XI_There_NoRow => first | k_is | rfl)
    (case XI_There_NoPlan => first | k_is | rfl)
    (case XI_There_TooMany => first | k_is | rfl)
    (case XI_There_ValueError => first | k_is | rfl)
    (case XI_NotThere_Wrong => first | k_is | rfl)
    (case XI_NotThere_NoRoom => first | k_is | rfl)
    (case XI_NotThere_There => first | k_is | rfl)
    (case XI_NotThere_NotThere => first | k_is | rfl)
    (case XI_NotThere_Unkept => first | k_is | rfl)
    (case XI_NotThere_Unlike => first | k_is | rfl)
    (case XI_NotThere_NoText => first | k_is | rfl)
    (case XI_NotThere_NoRow => first | k_is | rfl)
    (case XI_NotThere_NoPlan => first | k_is | rfl)
    (case XI_NotThere_TooMany => first | k_is | rfl)
    (case XI_NotThere_ValueError => first | k_is | rfl)
    (case XI_Unkept_Wrong => first | k_is | rfl)
    (case XI_Unkept_NoRoom => first | k_is | rfl)
    (case XI_Unkept_There => first | k_is | rfl)
    (case XI_Unkept_NotThere => first | k_is | rfl)
    (case XI_Unkept_Unkept => first | k_is | rfl)
    (case XI_Unkept_Unlike => first | k_is | rfl)
    (case XI_Unkept_NoText => first | k_is | rfl)
    (case XI_Unkept_NoRow => first | k_is | rfl)
    (case XI_Unkept_NoPlan => first | k_is | rfl)
    (case XI_Unkept_TooMany => first | k_is | rfl)
    (case XI_Unkept_ValueError => first | k_is | rfl)
    (case XI_Unlike_Wrong => first | k_is | rfl)
    (case XI_Unlike_NoRoom => first | k_is | rfl)
    (case XI_Unlike_There => first | k_is | rfl)
    (case XI_Unlike_NotThere => first | k_is | rfl)
    (case XI_Unlike_Unkept => first | k_is | rfl)
    (case XI_Unlike_Unlike => first | k_is | rfl)
    (case XI_Unlike_NoText => first | k_is | rfl)
    (case XI_Unlike_NoRow => first | k_is | rfl)
    (case XI_Unlike_NoPlan => first | k_is | rfl)
    (case XI_Unlike_TooMany => first | k_is | rfl)
    (case XI_Unlike_ValueError => first | k_is | rfl)
    (case XI_NoText_Wrong => first | k_is | rfl)
    (case XI_NoText_NoRoom => first | k_is | rfl)
    (case XI_NoText_There => first | k_is | rfl)
    (case XI_NoText_NotThere => first | k_is | rfl)
    (case XI_NoText_Unkept => first | k_is | rfl)
    (case XI_NoText_Unlike => first | k_is | rfl)
    (case XI_NoText_NoText => first | k_is | rfl)
    (case XI_NoText_NoRow => first | k_is | rfl)
    (case XI_NoText_NoPlan => first | k_is | rfl)
    (case XI_NoText_TooMany => first | k_is | rfl)
    (case XI_NoText_ValueError => first | k_is | rfl)
    (case XI_NoRow_Wrong => first | k_is | rfl)
    (case XI_NoRow_NoRoom => first | k_is | rfl)
    (case XI_NoRow_There => first | k_is | rfl)
    (case XI_NoRow_NotThere => first | k_is | rfl)
    (case XI_NoRow_Unkept => first | k_is | rfl)
    (case XI_NoRow_Unlike => first | k_is | rfl)
    (case XI_NoRow_NoText => first | k_is | rfl)
    (case XI_NoRow_NoRow => first | k_is | rfl)
    (case XI_NoRow_NoPlan => first | k_is | rfl)
    (case XI_NoRow_TooMany => first | k_is | rfl)
    (case XI_NoRow_ValueError => first | k_is | rfl)
    (case XI_NoPlan_Wrong => first | k_is | rfl)
    (case XI_NoPlan_NoRoom => first | k_is | rfl)
    (case XI_NoPlan_There => first | k_is | rfl)
    (case XI_NoPlan_NotThere => first | k_is | rfl)
    (case XI_NoPlan_Unkept => first | k_is | rfl)
    (case XI_NoPlan_Unlike => first | k_is | rfl)
    (case XI_NoPlan_NoText => first | k_is | rfl)
    (case XI_NoPlan_NoRow => first | k_is | rfl)
    (case XI_NoPlan_NoPlan => first | k_is | rfl)
    (case XI_NoPlan_TooMany => first | k_is | rfl)
    (case XI_NoPlan_ValueError => first | k_is | rfl)
    (case XI_TooMany_Wrong => first | k_is | rfl)
    (case XI_TooMany_NoRoom => first | k_is | rfl)
    (case XI_TooMany_There => first | k_is | rfl)
    (case XI_TooMany_NotThere => first | k_is | rfl)
    (case XI_TooMany_Unkept => first | k_is | rfl)
    (case XI_TooMany_Unlike => first | k_is | rfl)
    (case XI_TooMany_NoText => first | k_is | rfl)
    (case XI_TooMany_NoRow => first | k_is | rfl)
    (case XI_TooMany_NoPlan => first | k_is | rfl)
    (case XI_TooMany_TooMany => first | k_is | rfl)
    (case XI_TooMany_ValueError => first | k_is | rfl)
    (case XE20 => first | k_is | rfl)
    (case XE21 => first | k_is | rfl)
    (case XE22 => first | k_is | rfl)
    (case XE23 => first | k_is | rfl)
    (case XE24 => first | k_is | rfl)
    (case XE25 => first | k_is | rfl)
    (case XE26 => first | k_is | rfl)
    (case XE27 => first | k_is | rfl)
    (case XE28 => first | k_is | rfl)
    (case XE29 => first | k_is | rfl)
    (case rd_HomeError => k_is)
    (case tg_HomeError => k_is)
    (case vi_HomeError => k_is)
    (case ti2 => k_is)
    (case ti3 => k_is)
    (case ti4 => k_is)
    (case ti5 => k_is)
    (case ti6 => k_is)
    (case ti7 => k_is)
    (case ti8 => k_is)
    (case ti9 => k_is)
    (case ti10 => k_is)
    (case ti11 => k_is)
    (case z_ValueError => k_is)
    (case z_abs => k_is)
    (case z_bool => k_is)
    (case z_enumerate => k_is)
    (case z_isinstance => k_is)
    (case z_len => k_is)
    (case z_range => k_is)
