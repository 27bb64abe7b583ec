import PyProof.Rows.All
import Wide.All
import OpenK.AllK
import Wide.FinOn
import HandS.ForMost
import HandS.ForExc
import HandS.Flow
import HandS.Wide
import HandS.IsInst
import HandS.SortInts
import HandS.ExcInit
import HandS.ExcField
import HandS.ExcIs
import HandS.TryMany
import HandS.RevRange
import HandS.TupAny
import HandS.Deep
import HandS.Style
import HandS.More
import HandS.Conv
import HandS.SetFor
import HandS.Small
import PySem.Challenge.RW_homeward_k11_numbers_known
set_option Elab.async false
set_option linter.all false
set_option maxRecDepth 100000
set_option maxHeartbeats 4000000




/-! HwA: a ledger of what may change over a ground that does not (Sy), and its moves. -/
namespace Hw
open PySem L2

/-! ### the ground and the ledger -/
abbrev Lg := List (Addr × (HO → Prop))
def Is (o : HO) : HO → Prop := fun u => u = o
/-- over the ground G (never changed) the ledger L (may change) stands in H -/
structure Sy (G : Hp) (L : Lg) (H : Hp) : Prop where
  frz : Same G H
  get : ∀ p ∈ L, ∃ o, H p.1 = some o ∧ p.2 o
  off : ∀ p ∈ L, G p.1 = none
  nd : (L.map (·.1)).Nodup
theorem Sy.same {G H : Hp} (h : Same G H) : Sy G [] H := ⟨h, fun _ h => (nomatch h), fun _ h => (nomatch h), List.nodup_nil⟩
section
variable {G G' H H' : Hp} {L L' : Lg} {a b p : Addr} {o o' : HO} {φ φ' : HO → Prop}
theorem Sy.gnone (S : Sy G L H) (h : H p = none) : G p = none := S.frz.free h
theorem Sy.notin (S : Sy G L H) (h : H p = none) : p ∉ L.map (·.1) := fun hm => by
  obtain ⟨q, hq, e⟩ := List.mem_map.mp hm
  obtain ⟨u, hu, _⟩ := S.get q hq
  rw [e, h] at hu; cases hu
theorem Sy.upds (S : Sy G L H) (h : H p = none) : Same H (upd H p o) := fun c u e => by rw [upd_ne (ne_of_none e h)]; exact e
theorem same_new (h : G p = none) : Same G (upd G p o) := fun c u e => by rw [upd_ne (ne_of_none e h)]; exact e
/-- a new object, onto the ledger -/
theorem Sy.new (S : Sy G L H) (h : H p = none) (f : φ o) : Sy G ((p, φ) :: L) (upd H p o) where
  frz := S.frz.trans (S.upds h)
  get := fun q hq => by
    rcases List.mem_cons.mp hq with rfl | hq
    · exact ⟨o, upd_same, f⟩
    · obtain ⟨u, hu, k⟩ := S.get q hq
      exact ⟨u, S.upds h _ _ hu, k⟩
  off := fun q hq => by
    rcases List.mem_cons.mp hq with rfl | hq
    · exact S.gnone h
    · exact S.off q hq
  nd := List.nodup_cons.mpr ⟨S.notin h, S.nd⟩
/-- a new object, into the ground -/
theorem Sy.newF (S : Sy G L H) (h : H p = none) : Sy (upd G p o) L (upd H p o) where
  frz := fun c u e => by
    by_cases hc : c = p
    · subst hc; rw [upd_same] at e ⊢; exact e
    · rw [upd_ne hc] at e ⊢; exact S.frz _ _ e
  get := fun q hq => by
    obtain ⟨u, hu, k⟩ := S.get q hq
    exact ⟨u, S.upds h _ _ hu, k⟩
  off := fun q hq => by
    obtain ⟨u, hu, k⟩ := S.get q hq
    rw [upd_ne (ne_of_none hu h)]
    exact S.off q hq
  nd := S.nd
/-- the head of the ledger goes into the ground -/
theorem Sy.fz (S : Sy G ((p, Is o) :: L) H) : Sy (upd G p o) L H where
  frz := fun c u e => by
    by_cases hc : c = p
    · subst hc
      rw [upd_same] at e
      obtain ⟨v, hv, k⟩ := S.get _ (List.mem_cons_self ..)
      cases (show v = o from k)
      rw [← e]; exact hv
    · rw [upd_ne hc] at e; exact S.frz _ _ e
  get := fun q hq => S.get q (List.mem_cons_of_mem _ hq)
  off := fun q hq => by
    have hne : q.1 ≠ p := fun e => (List.nodup_cons.mp S.nd).1 (List.mem_map.mpr ⟨q, hq, e⟩)
    rw [upd_ne hne]; exact S.off q (List.mem_cons_of_mem _ hq)
  nd := (List.nodup_cons.mp S.nd).2
theorem Sy.hd0 (S : Sy G ((p, φ) :: L) H) : G p = none := S.off _ (List.mem_cons_self ..)
theorem Sy.drop {x : Addr × (HO → Prop)} (S : Sy G (x :: L) H) : Sy G L H :=
  ⟨S.frz, fun q hq => S.get q (List.mem_cons_of_mem _ hq), fun q hq => S.off q (List.mem_cons_of_mem _ hq), (List.nodup_cons.mp S.nd).2⟩
/-- the ledger in another order, or some of it -/
theorem Sy.sub (S : Sy G L H) (h : L' ⊆ L) (n : (L'.map (·.1)).Nodup) : Sy G L' H := ⟨S.frz, fun q hq => S.get q (h hq), fun q hq => S.off q (h hq), n⟩
theorem Sy.swap {x y : Addr × (HO → Prop)} (S : Sy G (x :: y :: L) H) : Sy G (y :: x :: L) H :=
  S.sub (fun q hq => by simp only [List.mem_cons] at hq ⊢; rcases hq with h | h | h <;> simp [h]) (by
    have := S.nd; simp only [List.map_cons, List.nodup_cons, List.mem_cons, not_or] at this ⊢
    exact ⟨⟨fun e => this.1.1 e.symm, this.2.1⟩, this.1.2, this.2.2⟩)
theorem Sy.rot2 {x y z : Addr × (HO → Prop)} (S : Sy G (x :: y :: z :: L) H) : Sy G (z :: x :: y :: L) H :=
  S.sub (fun q hq => by simp only [List.mem_cons] at hq ⊢; rcases hq with h | h | h | h <;> simp [h]) (by
    have := S.nd; simp only [List.map_cons, List.nodup_cons, List.mem_cons, not_or] at this ⊢
    exact ⟨⟨fun e => this.1.2.1 e.symm, fun e => this.2.1.1 e.symm, this.2.2.1⟩, ⟨this.1.1, this.1.2.2⟩, this.2.1.2, this.2.2.2⟩)
/-- an entry's kind is widened -/
theorem Sy.wide (S : Sy G ((p, φ) :: L) H) (w : ∀ o, φ o → φ' o) : Sy G ((p, φ') :: L) H :=
  ⟨S.frz, fun q hq => by
    rcases List.mem_cons.mp hq with rfl | hq
    · obtain ⟨u, hu, k⟩ := S.get _ (List.mem_cons_self ..)
      exact ⟨u, hu, w _ k⟩
    · exact S.get q (List.mem_cons_of_mem _ hq), fun q hq => by
    rcases List.mem_cons.mp hq with rfl | hq
    · exact S.off (p, φ) (List.mem_cons_self ..)
    · exact S.off q (List.mem_cons_of_mem _ hq), S.nd⟩
theorem Sy.weak (s : Same G G') (S : Sy G' L H) : Sy G L H := ⟨s.trans S.frz, S.get, fun q hq => s.free (S.off q hq), S.nd⟩
theorem Sy.drop2 {x y : Addr × (HO → Prop)} (S : Sy G (x :: y :: L) H) : Sy G (x :: L) H := S.swap.drop
theorem Sy.drop3 {x y z : Addr × (HO → Prop)} (S : Sy G (x :: y :: z :: L) H) : Sy G (x :: y :: L) H := S.rot2.drop
theorem Sy.wide2 {x : Addr × (HO → Prop)} (S : Sy G (x :: (p, φ) :: L) H) (w : ∀ o, φ o → φ' o) : Sy G (x :: (p, φ') :: L) H := (S.swap.wide w).swap
theorem Sy.fz2 {x : Addr × (HO → Prop)} (S : Sy G (x :: (p, Is o) :: L) H) : Sy (upd G p o) (x :: L) H := S.swap.fz
/-- the first entries go into the ground, all at once -/
theorem Sy.freeze {E : Lg} (S : Sy G (E ++ L) H) : ∃ G', Same G G' ∧ Sy G' L H ∧ ∀ p o, (p, Is o) ∈ E → G' p = some o := by
  refine ⟨fun a => if a ∈ L.map (·.1) then none else H a, fun c u e => ?_, ⟨fun c u e => ?_, fun q hq => S.get q (List.mem_append_right _ hq), fun q hq => ?_, ?_⟩, fun p o hp => ?_⟩
  · have hn : c ∉ L.map (·.1) := fun hm => by
      obtain ⟨q, hq, eq⟩ := List.mem_map.mp hm
      have := S.off q (List.mem_append_right _ hq)
      rw [eq, e] at this; cases this
    show (if c ∈ L.map (·.1) then none else H c) = some u
    rw [if_neg hn]; exact S.frz _ _ e
  · by_cases hm : c ∈ L.map (·.1)
    · rw [if_pos hm] at e; cases e
    · rw [if_neg hm] at e; exact e
  · show (if q.1 ∈ L.map (·.1) then none else H q.1) = none
    rw [if_pos (List.mem_map_of_mem hq)]
  · have := S.nd
    rw [List.map_append] at this
    exact (List.nodup_append.mp this).2.1
  · have hn : p ∉ L.map (·.1) := fun hm => by
      have := S.nd
      rw [List.map_append] at this
      exact (List.nodup_append.mp this).2.2 p (List.mem_map.mpr ⟨_, hp, rfl⟩) p hm rfl
    show (if p ∈ L.map (·.1) then none else H p) = some o
    rw [if_neg hn]
    obtain ⟨u, hu, k⟩ := S.get _ (List.mem_append_left _ hp)
    cases (show u = o from k)
    exact hu
theorem Sy.at (S : Sy G L H) (m : (a, Is o) ∈ L) : H a = some o := by
  obtain ⟨u, hu, k⟩ := S.get _ m
  cases (show u = o from k)
  exact hu
/-- the entry at a becomes φ' -/
inductive Put (a : Addr) (φ' : HO → Prop) : Lg → Lg → Prop
  | hd {φ : HO → Prop} {L : Lg} : Put a φ' ((a, φ) :: L) ((a, φ') :: L)
  | tl {x : Addr × (HO → Prop)} {L L' : Lg} : Put a φ' L L' → Put a φ' (x :: L) (x :: L')
theorem Put.fst (h : Put a φ' L L') : L'.map (·.1) = L.map (·.1) := by
  induction h with
  | hd => rfl
  | tl _ ih => rw [List.map_cons, List.map_cons, ih]
theorem Put.mem (h : Put a φ' L L') : a ∈ L.map (·.1) := by
  induction h with
  | hd => exact List.mem_cons_self ..
  | tl _ ih => exact List.mem_cons_of_mem _ ih
theorem Put.of (h : Put a φ' L L') (n : (L.map (·.1)).Nodup) : ∀ q ∈ L', (q.1 = a ∧ q.2 = φ') ∨ (q.1 ≠ a ∧ q ∈ L) := by
  induction h with
  | @hd φ L =>
    intro q hq
    rcases List.mem_cons.mp hq with rfl | hq
    · exact .inl ⟨rfl, rfl⟩
    · exact .inr ⟨fun e => (List.nodup_cons.mp n).1 (List.mem_map.mpr ⟨q, hq, e⟩), List.mem_cons_of_mem _ hq⟩
  | @tl x L L' h ih =>
    intro q hq
    rcases List.mem_cons.mp hq with rfl | hq
    · exact .inr ⟨fun e => (List.nodup_cons.mp n).1 (by show q.1 ∈ _; rw [e]; exact h.mem), List.mem_cons_self ..⟩
    · rcases ih (List.nodup_cons.mp n).2 q hq with k | k
      · exact .inl k
      · exact .inr ⟨k.1, List.mem_cons_of_mem _ k.2⟩
/-- an object of the ledger is written -/
theorem Sy.wr (S : Sy G L H) (h : Put a φ' L L') (f : φ' o') : Sy G L' (upd H a o') where
  frz := fun c u e => by
    obtain ⟨q, hq, ea⟩ := List.mem_map.mp h.mem
    have := S.off q hq
    rw [ea] at this
    rw [upd_ne (ne_of_none e this)]; exact S.frz _ _ e
  get := fun q hq => by
    rcases h.of S.nd q hq with ⟨e, k⟩ | ⟨e, k⟩
    · exact ⟨o', by rw [e, upd_same], by rw [k]; exact f⟩
    · obtain ⟨u, hu, z⟩ := S.get q k
      exact ⟨u, by rw [upd_ne e]; exact hu, z⟩
  off := fun q hq => by
    rcases h.of S.nd q hq with ⟨e, k⟩ | ⟨e, k⟩
    · obtain ⟨r, hr, ea⟩ := List.mem_map.mp h.mem
      rw [e, ← ea]; exact S.off r hr
    · exact S.off q k
  nd := by rw [h.fst]; exact S.nd
/-- the same, the entry's kind stays (the bag) -/
theorem put_self : ∀ {L : Lg}, (a, φ) ∈ L → Put a φ L L
  | x :: L, h => by
    by_cases e : x = (a, φ)
    · subst e; exact .hd
    · exact .tl (put_self ((List.mem_cons.mp h).resolve_left fun z => e z.symm))
theorem Sy.wr1 (S : Sy G L H) (m : (a, φ) ∈ L) (f : φ o') : Sy G L (upd H a o') := S.wr (put_self m) f
/-- one entry alone, all else the ground -/
theorem Sy.focus (S : Sy G L H) (h : H b = some o) : Sy (del H b) [(b, Is o)] H where
  frz := fun c u e => by
    by_cases hc : c = b
    · rw [hc, del_same] at e; cases e
    · rw [del_ne hc] at e; exact e
  get := fun q hq => by
    rcases List.mem_cons.mp hq with rfl | hq
    · exact ⟨o, h, rfl⟩
    · cases hq
  off := fun q hq => by
    rcases List.mem_cons.mp hq with rfl | hq
    · exact del_same
    · cases hq
  nd := by simp
theorem Sy.unfocus (S : Sy G L H) (m : (b, φ) ∈ L) (S2 : Sy (del H b) [(b, Is o')] H') (f : φ o') : Sy G L H' where
  frz := fun c u e => by
    have hc : c ≠ b := fun z => by rw [z, S.off _ m] at e; cases e
    exact S2.frz _ _ (by rw [del_ne hc]; exact S.frz _ _ e)
  get := fun q hq => by
    by_cases hc : q.1 = b
    · have := (put_self m).of S.nd q hq
      rcases this with ⟨_, k⟩ | ⟨k, _⟩
      · exact ⟨o', by rw [hc]; exact S2.at (List.mem_cons_self ..), by rw [k]; exact f⟩
      · exact absurd hc k
    · obtain ⟨u, hu, k⟩ := S.get q hq
      exact ⟨u, S2.frz _ _ (by rw [del_ne hc]; exact hu), k⟩
  off := S.off
  nd := S.nd
theorem Sy.seq {K : PySem.W.Frag} {xs : List V} (S : Sy G L H) (m : (a, Is (.lst xs)) ∈ L) : SqL K H a xs := .inl (.inl (S.at m))
theorem Sy.fr {K : PySem.W.Frag} {xs : List V} (S : Sy G L H) (h : SqL K G a xs) : SqL K H a xs := S.frz.seq h
end

/-! ### data -/
theorem same_rd {H H' : Hp} {a : Addr} {u : HO} (e : Same H H') (h : Rd H a u) : Rd H' a u := by
  rcases h with h | ⟨o, h⟩
  · exact .inl (e _ _ h)
  · exact .inr ⟨o, e _ _ h⟩
theorem same_t {K : PySem.W.Frag} {H H' : Hp} {a : Addr} {xs : List V} (e : Same H H') (h : SqT K H a xs) : SqT K H' a xs := by
  rcases h with h | h
  · exact .inl (same_rd e h)
  · exact .inr h
mutual
theorem dp_mono {K : PySem.W.Frag} {H H' : Hp} (e : Same H H') : ∀ (d : PyData) {v : V}, Dp K H v d → Dp K H' v d
  | .none, _, h => by cases h; exact .non
  | .bool b, _, h => by cases h; exact .bl b
  | .int i, _, h => by cases h; exact .int i
  | .str x, _, h => by cases h; exact .str x
  | .list ds, _, h => by cases h with | lst hs ha => exact .lst (e.seq hs) (dpa_mono e ds ha)
  | .tuple ds, _, h => by cases h with | tup hs ha => exact .tup (same_t e hs) (dpa_mono e ds ha)
  | .dict _, _, h => by cases h
theorem dpa_mono {K : PySem.W.Frag} {H H' : Hp} (e : Same H H') : ∀ (ds : List PyData) {vs : List V}, DpAll K H vs ds → DpAll K H' vs ds
  | [], _, h => by cases h; exact .nil
  | d :: ds, _, h => by cases h with | cons h1 h2 => exact .cons (dp_mono e d h1) (dpa_mono e ds h2)
end
theorem Dp.mono {K : PySem.W.Frag} {H H' : Hp} {v : V} {d : PyData} (e : Same H H') (h : Dp K H v d) : Dp K H' v d := dp_mono e d h
theorem DpAll.mono {K : PySem.W.Frag} {H H' : Hp} {vs : List V} {ds : List PyData} (e : Same H H') (h : DpAll K H vs ds) : DpAll K H' vs ds := dpa_mono e ds h
theorem dpa_ints {K : PySem.W.Frag} {H : Hp} : ∀ (ns : List Int), DpAll K H (ns.map V.int) (ns.map PyData.int)
  | [] => .nil
  | n :: ns => .cons (.int n) (dpa_ints ns)
theorem dpa_length {K : PySem.W.Frag} {H : Hp} : ∀ {ds : List PyData} {vs : List V}, DpAll K H vs ds → vs.length = ds.length
  | [], _, h => by cases h; rfl
  | d :: ds, _, h => by cases h with | cons h1 h2 => rw [List.length_cons, List.length_cons, dpa_length h2]
theorem dpa_append {K : PySem.W.Frag} {H : Hp} : ∀ {ds es : List PyData} {vs ws : List V}, DpAll K H vs ds → DpAll K H ws es → DpAll K H (vs ++ ws) (ds ++ es)
  | [], _, _, _, h, k => by cases h; exact k
  | d :: ds, _, _, _, h, k => by cases h with | cons h1 h2 => exact .cons h1 (dpa_append h2 k)
theorem dpa_get {K : PySem.W.Frag} {H : Hp} : ∀ {ds : List PyData} {vs : List V} {i : Nat} {d : PyData}, DpAll K H vs ds → ds[i]? = some d → ∃ v, vs[i]? = some v ∧ Dp K H v d
  | [], _, _, _, _, e => by simp at e
  | d :: ds, _, 0, _, h, e => by cases h with | cons h1 h2 => simp at e; subst e; exact ⟨_, rfl, h1⟩
  | d :: ds, _, i + 1, _, h, e => by
    cases h with | cons h1 h2 =>
    obtain ⟨v, k1, k2⟩ := dpa_get (i := i) h2 (by simpa using e)
    exact ⟨v, by simpa using k1, k2⟩
end Hw





/-! HwB: one rule an operation, whatever the operands; calls that may raise, in any place. -/
namespace Hw
open PySem PySem.Spec PyProof.Rows L2

/-! ### readings -/
def rAddU (K : PySem.W.Frag) : R2 := fun x y H Q => (rI0 fun i j => .int (i + j)) x y H Q ∨ (∃ i j, x = .str i ∧ y = .str j ∧ i.length + j.length ≤ sizeLine ∧ Q (.str (i ++ j)) H) ∨ rCat x y H Q ∨ rCatA K x y H Q
def CMulX (i j : Int) : Prop := CMul i j ∨ CMulW i j
def rMulU : R2 := fun x y H Q => (rI CMulX fun i j => .int (i * j)) x y H Q ∨ rRep x y H Q
def rEqU (K : PySem.W.Frag) : R2 := fun x y H Q => rEq x y H Q ∨ rEqD K x y H Q
def rNeU (K : PySem.W.Frag) : R2 := fun x y H Q => rNe x y H Q ∨ rNeD K x y H Q
def rIsU : R2 := fun x y H Q => (y = .non ∧ Q (.bl (decide (x = .non))) H) ∨ rIsB x y H Q ∨ (∃ a b oa ob, x = .ref a ∧ y = .ref b ∧ H a = some oa ∧ isObj oa = true ∧ H b = some ob ∧ isObj ob = true ∧ Q (.bl (decide (a = b))) H)
def rNotU : R2 := fun x y H Q => (y = .non ∧ Q (.bl (!decide (x = .non))) H) ∨ rNotB x y H Q
def rDIn (neg : Bool) : R2 := fun y x H Q => ∃ a o, x = .ref a ∧ DGet H a y o ∧ Q (.bl (if neg then !o.isSome else o.isSome)) H
def rInStr (neg : Bool) : R2 := fun x y H Q => ∃ (c : Nat) (z : Str), x = .str ⟨#[c]⟩ ∧ y = .str z ∧ Q (.bl (if neg then !decide (c ∈ z.cps.toList) else decide (c ∈ z.cps.toList))) H
def rInU (K : PySem.W.Frag) (neg : Bool) : R2 := fun x y H Q => rIn K neg x y H Q ∨ rDIn neg x y H Q ∨ (if neg then rNotInD K x y H Q else rInD K x y H Q) ∨ rInStr neg x y H Q
def rIxD1 : R2 := fun x y H Q => ∃ a v, x = .ref a ∧ DGet H a y (some v) ∧ Q v H
def rIxU (K : PySem.W.Frag) : R2 := fun x y H Q => rIx K x y H Q ∨ rIxD1 x y H Q
def rSlU (K : PySem.W.Frag) : V → Option Int → Option Int → Hp → VK → Prop := fun x lo hi H Q => rSlL K x lo hi H Q ∨ rSlA K x lo hi H Q ∨ rSlS x lo hi H Q
def rDPut : TSet := fun o i v H Q => ∃ a H', o = .ref a ∧ DPut H a i v H' ∧ Q H'
def rSetU : TSet := fun o i v H Q => rSetL o i v H Q ∨ rDPut o i v H Q
def rLenU (K : PySem.W.Frag) : List V → Hp → VK → Prop := fun xs H Q => (∃ x n, xs = [x] ∧ LenV K x H n ∧ Q (.int n) H) ∨ (∃ a kvs, xs = [V.ref a] ∧ H a = some (.dK kvs) ∧ Q (.int kvs.length) H)
def rListU (K : PySem.W.Frag) : List V → Hp → VK → Prop := fun xs H Q => (∃ p ys, xs = [.ref p] ∧ (SqL K H p ys ∨ SqT K H p ys) ∧ ∀ l, H l = none → Q (.ref l) (upd H l (.lst ys))) ∨ rListD xs H Q
def rDictU (K : PySem.W.Frag) : List V → Hp → VK → Prop := fun xs H Q => (∃ (a : Addr) (ps : List Addr) (kvs : List (Key × V)), xs = [.ref a] ∧ SqL K H a (ps.map V.ref) ∧ Paired (fun p kv => SqT K H p [kV kv.1, kv.2]) ps kvs ∧
    ∀ p, H p = none → Q (.ref p) (upd H p (.dK (mergeK [] kvs)))) ∨ (∃ (a : Addr) (kvs : List (Key × V)), xs = [.ref a] ∧ Rd H a (.dK kvs) ∧ ∀ p, H p = none → Q (.ref p) (upd H p (.dK kvs)))
def rIntU : List V → Hp → VK → Prop := fun xs H Q => ((∃ i, xs = [.int i] ∧ Q (.int i) H) ∨ ∃ k, xs = [.bl k] ∧ Q (.int (if k then 1 else 0)) H) ∨ (∃ a n, xs = [.str a] ∧ PySem.intText? a = some n ∧ a.length ≤ 640 ∧ Q (.int n) H)
def rStrU : List V → Hp → VK → Prop := fun xs H Q => ∃ i, xs = [.int i] ∧ i.natAbs.log2 < 1920 ∧ Q (.str (toString i)) H
def rIsiU (K : PySem.W.Frag) : List V → Hp → VK → Prop := rIsi K

section
variable {X : Cx}
theorem u_add : OpR X (binaryOp .Add) (rAddU X.K) := op_add.or (op_add_str.or (op_cat.or op_catA))
theorem u_mulI : OpR X (binaryOp .Mult) (rI CMulX fun i j => .int (i * j)) := by
  intro pins s σ H x y v u Q I rx ry h
  obtain ⟨i, j, e1, e2, c, q⟩ := h
  rcases c with c | c
  · exact op_mul pins s σ H x y v u Q I rx ry ⟨i, j, e1, e2, c, q⟩
  · exact op_mulW pins s σ H x y v u Q I rx ry ⟨i, j, e1, e2, c, q⟩
theorem u_mul : OpR X (binaryOp .Mult) rMulU := u_mulI.or op_rep
theorem u_eq (hu : X.A.units + 64 < cLine) : OpR X (compareOp .Eq) (rEqU X.K) := op_eq.or (op_eqD hu)
theorem u_ne (hu : X.A.units + 64 < cLine) : OpR X (compareOp .NotEq) (rNeU X.K) := op_ne.or (op_neD hu)
theorem u_is : OpR X (compareOp .Is) rIsU := op_isN.or (op_isBl.or op_is_ref)
theorem u_isnot : OpR X (compareOp .IsNot) rNotU := op_notN.or op_notBl
theorem op_din (hu : X.A.units + 1 < cLine) : OpR X (compareOp .In) (rDIn false) := by
  intro pins s σ H y x iv u Q I ry rx h
  obtain ⟨a, ov, ex, g, q⟩ := h
  subst ex
  obtain rfl : u = Value.ref a := rx
  exact d_in hu I g ry fun s3 I3 => ⟨.bl ov.isSome, H, I3, rfl, q⟩
theorem op_dnotin (hu : X.A.units + 1 < cLine) : OpR X (compareOp .NotIn) (rDIn true) := by
  intro pins s σ H y x iv u Q I ry rx h
  obtain ⟨a, ov, ex, g, q⟩ := h
  subst ex
  obtain rfl : u = Value.ref a := rx
  exact d_notIn hu I g ry fun s3 I3 => ⟨.bl (!ov.isSome), H, I3, rfl, q⟩
theorem u_in (hu : X.A.units + 65 < cLine) : OpR X (compareOp .In) (rInU X.K false) := op_in_seq.or ((op_din (by omega)).or ((op_inD hu).or op_in_sign))
theorem u_notin (hu : X.A.units + 65 < cLine) : OpR X (compareOp .NotIn) (rInU X.K true) := op_notIn_seq.or ((op_dnotin (by omega)).or ((op_notInD hu).or op_notIn_sign))
theorem ix_dict1 (hu : X.A.units + 1 < cLine) : IxR X rIxD1 := by
  intro value slice pins s σ H x y v u Q I rx ry h hs
  obtain ⟨a, w, ex, g, q⟩ := h
  subst ex
  obtain rfl : v = Value.ref a := rx
  exact tail_any (dict_typeIs I g) PySem.F.slot_dict_getitem.lookup (d_getItem hu I g ry fun w' s3 I3 rw' => ⟨w, H, I3, rw', q⟩) hs
theorem u_ix (hu : X.A.units + 1 < cLine) : IxR X (rIxU X.K) := ix_seq.or (ix_dict1 hu)
theorem SlR.or {r r' : V → Option Int → Option Int → Hp → VK → Prop} (h : SlR X r) (h' : SlR X r') : SlR X (fun x lo hi H Q => r x lo hi H Q ∨ r' x lo hi H Q) := by
  intro pins s σ H x v vl vu lo hi sl Q I rx hs pl pu q
  rcases q with q | q
  · exact h pins s σ H x v vl vu lo hi sl Q I rx hs pl pu q
  · exact h' pins s σ H x v vl vu lo hi sl Q I rx hs pl pu q
theorem u_sl : SlR X (rSlU X.K) := SlR.or sl_list (SlR.or sl_tupA sl_str)
theorem set_dict1 (hu : X.A.units + 1 < cLine) : PSet X rDPut := by
  intro pins s σ H o i v ov iv u Q I ro ri rv h
  obtain ⟨a, H', ex, g, q⟩ := h
  subst ex
  obtain rfl : ov = Value.ref a := ro
  exact d_setItem hu I g ri rv fun s4 I4 => ⟨H', I4, q⟩
theorem PSet.or {t t' : TSet} (h : PSet X t) (h' : PSet X t') : PSet X (fun o i v H Q => t o i v H Q ∨ t' o i v H Q) := by
  intro pins s σ H o i v ov iv u Q I ro ri rv q
  rcases q with q | q
  · exact h pins s σ H o i v ov iv u Q I ro ri rv q
  · exact h' pins s σ H o i v ov iv u Q I ro ri rv q
theorem u_set (hu : X.A.units + 1 < cLine) : PSet X rSetU := PSet.or set_list (set_dict1 hu)
theorem u_len : CallR X (.builtin "len") (rLenU X.K) := call_len.or call_lenD
theorem u_list (hc : X.calm = true) : CallR X (.type "list") (rListU X.K) := call_list_of.or (call_list_dK hc)
theorem u_dict (hc : X.calm = true) : CallR X (.type "dict") (rDictU X.K) := (call_dictP hc).or call_dictD
theorem u_int : CallR X (.type "int") rIntU := call_int1.or call_int_str
theorem u_str : CallR X (.type "str") rStrU := call_str_int
/-- o[i] by values, for op= -/
theorem get_listU (hu : X.A.units + 1 < cLine) : PGet X (fun o i H Q => (∃ p xs k v, o = .ref p ∧ i = .int k ∧ H p = some (.lst xs) ∧ 0 ≤ k ∧ xs[k.toNat]? = some v ∧ Q v H) ∨ rIxD1 o i H Q) := by
  intro pins s σ H o i ov iv Q I ro ri h
  rcases h with ⟨p, xs, k, v, rfl, rfl, hp, h0, hv, q⟩ | ⟨a, w, ex, g, q⟩
  · cases ro
    obtain ⟨t, rfl⟩ := ri
    obtain ⟨its, r, pl, hz⟩ := I.list (show SqL X.K H p xs from .inl (.inl hp))
    obtain ⟨w, ew, rw'⟩ := r.get hv
    have hl := r.length
    have hlt := (List.getElem?_eq_some_iff.mp hv).1
    have hn := line63
    exact wpAny_getItem_list pl.isList h0 (by omega) (by simpa using ew) ⟨v, H, I, rw', q⟩
  · subst ex
    obtain rfl : ov = Value.ref a := ro
    exact d_getItem hu I g ri fun w' s3 I3 rw' => ⟨w, H, I3, rw', q⟩
end

/-! ### calls that may let an exception out, at the slots as they stand -/
section
variable {X : Cx} {k : Nat} {f C : Addr} {fd : FuncData} {ps : List Str} {sp : Sp} {dvs : List V} {ds : List Value} {E : L2.St → XK} {x m : Str} {p pos apos : Pos} {e o : Expr} {es : List Expr} {ta : TE} {t : TA}
theorem run_fnD {CX : CXT} {pins : List (Addr × Obj)} {σ : L2.St} {H : Hp} {s : Shared} {Q : VK} {us : List Value} {vs : List V} (F : FnOk X.prog X.w X.K X.mg X.base CX k f fd ps sp) (hr : Room k X.A) (hb : Binds X.K fd ps ds) (hd : Vals dvs ds) (hx : PassesAt CX X σ (E σ))
    (I : Inv X pins σ H s) (r : Vals vs us) (h : sp (vs ++ dvs) H Q (E σ)) : wpAny (model X.prog X.w) X.A (call (.ref f) us) (EP X pins σ Q) X.xe s := by
  have r2 : Vals (vs ++ dvs) (us ++ ds) := r.append hd
  have hl : (us ++ ds).length = ps.length := by rw [← r2.length]; exact F.len _ _ _ _ h
  refine wpAny_call (codeAny_mono (F.run X.A X.stack s H ⟨us, []⟩ (us ++ ds) (vs ++ dvs) Q (E σ) hr I.env0 (hb s us I.kIn hl) r2 h) fun r s' hq => ?_)
  cases r with
  | error e => exact hx pins H s e s' I hq
  | ok fl =>
    cases fl with
    | ret u => exact I.after hq
    | next => exact False.elim hq
    | brk => exact False.elim hq
    | cont => exact False.elim hq
/-- what stands behind a name of the module: a def that keeps sp -/
structure Has (P : Program) (w : World) (K : PySem.W.Frag) (mg : Str → Option Value) (base : Heap) (k : Nat) (x : Str) (sp : Sp) (dvs : List V) : Prop where
  ex : ∃ (f : Addr) (fd : FuncData) (ps : List Str) (ds : List Value), mg x = some (.ref f) ∧ PySem.W.keepIn K (.ref f) = true ∧ Binds K fd ps ds ∧ Vals dvs ds ∧ FnOk P w K mg base (L2.CX P w) k f fd ps sp
/-- a method of the class at C -/
structure HasM (P : Program) (w : World) (K : PySem.W.Frag) (mg : Str → Option Value) (base : Heap) (k : Nat) (C : Addr) (m : Str) (sp : Sp) : Prop where
  cl : Cls K C
  ex : ∃ (f : Addr) (fd : FuncData) (ps : List Str), Meth K C m f ∧ Binds K fd ps [] ∧ FnOk P w K mg base (L2.CX P w) k f fd ps sp
/-- a class that is made, its __init__ keeps sp -/
structure HasC (P : Program) (w : World) (K : PySem.W.Frag) (mg : Str → Option Value) (base : Heap) (k : Nat) (x : Str) (C : Addr) (sp : Sp) (dvs : List V) : Prop where
  gl : mg x = some (.ref C)
  ex : ∃ (f : Addr) (fd : FuncData) (ps : List Str) (ds : List Value), Mk K C f ∧ Binds K fd ps ds ∧ Vals dvs ds ∧ FnOk P w K mg base (L2.CX P w) k f fd ps sp
def tHwC (sp : Sp) (dvs : List V) (E : L2.St → XK) (t : TA) : TE := fun σ H Q => t σ H fun vs H1 => sp (vs ++ dvs) H1 Q (E σ)
def tHwM (C : Addr) (m : Str) (sp : Sp) (E : L2.St → XK) (ta : TE) (t : TA) : TE := fun σ H Q => ta σ H fun x H1 => ∃ a dx fs, x = .ref a ∧ H1 a = some (.ins C dx fs) ∧ fs.lookup m = none ∧
  t σ H1 fun vs H2 => sp (x :: vs) H2 Q (E σ)
def tHwN (C : Addr) (sp : Sp) (dvs : List V) (E : L2.St → XK) (t : TA) : TE := fun σ H Q => t σ H fun vs H1 => ∀ x dx, H1 x = none → H1 dx = none → dx ≠ x →
  sp (.ref x :: (vs ++ dvs)) (upd (upd H1 dx (.own x)) x (.ins C dx [])) (fun v H2 => v = .non ∧ Q (.ref x) H2) (E σ)
theorem hw_call {j : Nat} (F : Has X.prog X.w X.K X.mg X.base k x sp dvs) (hr : Room j X.A) (hj : k ≤ j) (hg : Gl X x) (hx : ∀ σ, PassesAt (L2.CX X.prog X.w) X σ (E σ))
    (ha : PA X (e :: es) t) (hdb : (x == ("__debug__" : Str)) = false := by decide) (he : starEach (e :: es) X.env = (false, eval e X.env) :: starEach es X.env := by rfl) (hpl : (backTo pos (starEach es X.env)).any (·.1) = false := by rfl) :
    PE X (.Call (.Name x p) (e :: es) [] pos) (tHwC sp dvs E t) := by
  obtain ⟨f, fd, ps, ds, hm, hk, hb, hd, F⟩ := F.ex
  refine ⟨fun pins s σ H Q I h => ?_⟩
  refine wpAny_Call_Name_kw (ld_glob I hg hm ?_ hdb)
  refine PySem.W.callWith_K (h₀ := X.base) I.ok.mod.kin hk (thn (ha.run pos pins s σ H _ I h) fun us s1 ⟨vs, H1, I1, r, q⟩ => ⟨I1.kIn, ?_⟩) he hpl
  exact run_fnD F (hr.mono hj) hb hd (hx σ) I1 r q
theorem hw_call0 {j : Nat} (F : Has X.prog X.w X.K X.mg X.base k x sp dvs) (hr : Room j X.A) (hj : k ≤ j) (hg : Gl X x) (hx : ∀ σ, PassesAt (L2.CX X.prog X.w) X σ (E σ))
    (hdb : (x == ("__debug__" : Str)) = false := by decide) : PE X (.Call (.Name x p) [] [] pos) (tHwC sp dvs E tNil) := by
  obtain ⟨f, fd, ps, ds, hm, hk, hb, hd, F⟩ := F.ex
  refine ⟨fun pins s σ H Q I h => ?_⟩
  refine wpAny_Call_Name_kw (ld_glob I hg hm ?_ hdb)
  exact PySem.W.callWith_K0 I.kIn hk (run_fnD (us := []) F (hr.mono hj) hb hd (hx σ) I .nil h)
theorem hw_meth {j : Nat} {pl : Sem Bool} (F : HasM X.prog X.w X.K X.mg X.base k C m sp) (hr : Room j X.A) (hj : k ≤ j) (hx : ∀ σ, PassesAt (L2.CX X.prog X.w) X σ (E σ)) (he : PE X o ta) (ha : PA X (e :: es) t)
    (hst : starEach (e :: es) X.env = (false, eval e X.env) :: starEach es X.env := by rfl) (hpl : (backTo pos (starEach es X.env)).any (·.1) = false := by rfl)
    (ht : eval (.Call (.Attribute o m apos) (e :: es) [] pos) X.env = (do
      let ov ← eval o X.env
      standAt apos.atName
      let (f, first) ← holding [ov] (getMethod ov m pl)
      callWith pos f first (backTo pos (starEach (e :: es) X.env)) (backToKw pos (keywordEach [] X.env))) := by rfl) :
    PE X (.Call (.Attribute o m apos) (e :: es) [] pos) (tHwM C m sp E ta t) := by
  obtain ⟨f, fd, ps, hm, hb, F2⟩ := F.ex
  refine ⟨fun pins s σ H Q I h => ?_⟩
  refine PySem.W.methodCall_KW (pl := pl) (thn (he.run pins s σ H _ I h) fun u s1 ⟨x, H1, I1, rx, a, dx, fs, ex, ea, l, q⟩ => ?_) ht
  subst ex
  obtain rfl : u = Value.ref a := rx
  refine getmeth_ok I1 ea F.cl hm l ?_
  refine PySem.W.callWith_K (first := [.ref a]) (h₀ := X.base) I.ok.mod.kin hm.kp (thn (ha.run pos pins s1 σ H1 _ I1 q) fun us s2 ⟨vs, H2, I2, r, q2⟩ => ⟨I2.kIn, ?_⟩) hst hpl
  exact run_fnD (us := .ref a :: us) (vs := .ref a :: vs) F2 (hr.mono hj) hb .nil (hx σ) I2 (.cons rfl r) (by rw [List.append_nil]; exact q2)
theorem hw_meth0 {j : Nat} {pl : Sem Bool} (F : HasM X.prog X.w X.K X.mg X.base k C m sp) (hr : Room j X.A) (hj : k ≤ j) (hx : ∀ σ, PassesAt (L2.CX X.prog X.w) X σ (E σ)) (he : PE X o ta)
    (ht : eval (.Call (.Attribute o m apos) [] [] pos) X.env = (do
      let ov ← eval o X.env
      standAt apos.atName
      let (f, first) ← holding [ov] (getMethod ov m pl)
      callWith pos f first (backTo pos (starEach [] X.env)) (backToKw pos (keywordEach [] X.env))) := by rfl) :
    PE X (.Call (.Attribute o m apos) [] [] pos) (tHwM C m sp E ta tNil) := by
  obtain ⟨f, fd, ps, hm, hb, F2⟩ := F.ex
  refine ⟨fun pins s σ H Q I h => ?_⟩
  refine PySem.W.methodCall_KW (pl := pl) (thn (he.run pins s σ H _ I h) fun u s1 ⟨x, H1, I1, rx, a, dx, fs, ex, ea, l, q⟩ => ?_) ht
  subst ex
  obtain rfl : u = Value.ref a := rx
  refine getmeth_ok I1 ea F.cl hm l ?_
  exact PySem.W.callWith_K0 (first := [.ref a]) I1.kIn hm.kp (run_fnD (us := [.ref a]) (vs := [.ref a]) F2 (hr.mono hj) hb .nil (hx σ) I1 (.cons rfl .nil) (by rw [List.append_nil]; exact q))
theorem run_makeD {CX : CXT} {pins : List (Addr × Obj)} {σ : L2.St} {H : Hp} {s : Shared} {Q : VK} {us : List Value} {vs : List V} (M : Mk X.K C f) (F : FnOk X.prog X.w X.K X.mg X.base CX k f fd ps sp) (hr : Room (k + 1) X.A) (hb : Binds X.K fd ps ds) (hd : Vals dvs ds)
    (hx : ∀ σ, PassesAt CX X σ (E σ)) (I : Inv X pins σ H s) (r : Vals vs us)
    (h : ∀ x dx, H x = none → H dx = none → dx ≠ x → sp (.ref x :: (vs ++ dvs)) (upd (upd H dx (.own x)) x (.ins C dx [])) (fun v H2 => v = .non ∧ Q (.ref x) H2) (E σ)) :
    wpAny (model X.prog X.w) X.A (call (.ref C) us) (EP X pins σ Q) X.xe s := by
  have hq := h (s.heap.objs.size + 1) s.heap.objs.size (I.hok.fresh (Nat.le_succ _)) (I.hok.fresh (Nat.le_refl _)) (Nat.ne_of_lt (Nat.lt_succ_self _))
  have I2 := Inv.made (C := C) I
  have r2 : Vals (V.ref (s.heap.objs.size + 1) :: (vs ++ dvs)) (Value.ref (s.heap.objs.size + 1) :: (us ++ ds)) := .cons rfl (r.append hd)
  have hl : (Value.ref (s.heap.objs.size + 1) :: us ++ ds).length = ps.length := by
    have e := r2.length
    rw [F.len _ _ _ _ hq] at e
    exact e.symm
  refine wpAny_call (make_map (f := f) I.kIn M.makes M.init (beq_iff_eq.mp M.fn) (codeAny_mono (F.run _ X.stack _ _ ⟨Value.ref (s.heap.objs.size + 1) :: us, []⟩ (Value.ref (s.heap.objs.size + 1) :: (us ++ ds)) _ _ (E σ) (hr.make C us [])
    (I2.env0.make C us []) (hb _ (Value.ref (s.heap.objs.size + 1) :: us) I2.kIn hl) r2 hq) fun r s' hq' => ?_))
  cases r with
  | error e => exact hx σ pins _ _ e s' I2 hq'
  | ok fl =>
    cases fl with
    | ret u =>
      obtain ⟨v, H', I3, rv, ev, q3⟩ := I2.after hq'
      subst ev
      exact ⟨rv, ⟨V.ref (s.heap.objs.size + 1), H', I3, rfl, q3⟩⟩
    | next => exact False.elim hq'
    | brk => exact False.elim hq'
    | cont => exact False.elim hq'
theorem hw_make {j : Nat} (F : HasC X.prog X.w X.K X.mg X.base k x C sp dvs) (hr : Room j X.A) (hj : k + 1 ≤ j) (hg : Gl X x) (hx : ∀ σ, PassesAt (L2.CX X.prog X.w) X σ (E σ))
    (ha : PA X (e :: es) t) (hdb : (x == ("__debug__" : Str)) = false := by decide) (he : starEach (e :: es) X.env = (false, eval e X.env) :: starEach es X.env := by rfl) (hpl : (backTo pos (starEach es X.env)).any (·.1) = false := by rfl) :
    PE X (.Call (.Name x p) (e :: es) [] pos) (tHwN C sp dvs E t) := by
  have hm := F.gl
  obtain ⟨f, fd, ps, ds, M, hb, hd, F⟩ := F.ex
  refine ⟨fun pins s σ H Q I h => ?_⟩
  refine wpAny_Call_Name_kw (ld_glob I hg hm ?_ hdb)
  refine PySem.W.callWith_K (h₀ := X.base) I.ok.mod.kin M.kp (thn (ha.run pos pins s σ H _ I h) fun us s1 ⟨vs, H1, I1, r, q⟩ => ⟨I1.kIn, ?_⟩) he hpl
  exact run_makeD M F (hr.mono hj) hb hd hx I1 r q
theorem hw_make0 {j : Nat} (F : HasC X.prog X.w X.K X.mg X.base k x C sp dvs) (hr : Room j X.A) (hj : k + 1 ≤ j) (hg : Gl X x) (hx : ∀ σ, PassesAt (L2.CX X.prog X.w) X σ (E σ))
    (hdb : (x == ("__debug__" : Str)) = false := by decide) : PE X (.Call (.Name x p) [] [] pos) (tHwN C sp dvs E tNil) := by
  have hm := F.gl
  obtain ⟨f, fd, ps, ds, M, hb, hd, F⟩ := F.ex
  refine ⟨fun pins s σ H Q I h => ?_⟩
  refine wpAny_Call_Name_kw (ld_glob I hg hm ?_ hdb)
  exact PySem.W.callWith_K0 I.kIn M.kp (run_makeD (us := []) M F (hr.mono hj) hb hd hx I .nil h)
/-- in a comprehension nothing may leave -/
theorem passAt0 {X : Cx} (σ : L2.St) : PassesAt (L2.CX X.prog X.w) X σ E0 := fun pins H s e s' I c => passL pins σ H s e s' I c
end
end Hw





/-! HwC: the steps of a reading, one a construct, over a ground and a ledger. -/
namespace Hw
open PySem PySem.Spec PyProof.Rows L2

def clsA (mg : Str → Option Value) (x : Str) : Addr := match mg x with | some (.ref a) => a | _ => 0
theorem clsA_of {mg : Str → Option Value} {x : Str} {a : Addr} (h : mg x = some (.ref a)) : clsA mg x = a := by unfold clsA; rw [h]
theorem clsA_gl {mg : Str → Option Value} {x : Str} {a : Addr} (h : mg x = some (.ref a)) : mg x = some (.ref (clsA mg x)) := by rw [clsA_of h]; exact h
def rGetU : V → V → Hp → VK → Prop := fun o i H Q => (∃ p xs k v, o = .ref p ∧ i = .int k ∧ H p = some (.lst xs) ∧ 0 ≤ k ∧ xs[k.toNat]? = some v ∧ Q v H) ∨ rIxD1 o i H Q
def rAbs : List V → Hp → VK → Prop := fun xs H Q => ∃ i, xs = [.int i] ∧ Q (.int (if i < 0 then -i else i)) H
def rMax2 : List V → Hp → VK → Prop := fun xs H Q => ∃ i j, xs = [.int i, .int j] ∧ Q (.int (if j > i then j else i)) H
def rMin2 : List V → Hp → VK → Prop := fun xs H Q => ∃ i j, xs = [.int i, .int j] ∧ Q (.int (if j < i then j else i)) H
def rTupU (K : PySem.W.Frag) : List V → Hp → VK → Prop := fun xs H Q => ∃ p ys, xs = [.ref p] ∧ ((SqL K H p ys ∧ ∀ l, H l = none → Q (.ref l) (upd H l (.tup ys))) ∨ (SqT K H p ys ∧ Q (.ref p) H))
def rInsert : V → List V → Hp → VK → Prop := fun x vs H Q => ∃ (l : Addr) (xs : List V) (i : Int) (y : V), x = .ref l ∧ vs = [.int i, y] ∧ H l = some (.lst xs) ∧ xs.length < sizeLine ∧ 0 ≤ i ∧ i < 2 ^ 63 ∧
  Q .non (upd H l (.lst (xs.take i.toNat ++ y :: xs.drop i.toNat)))

def nLst (xs : List V) (H : Hp) (Q : VK) : Prop := xs.length ≤ sizeLine ∧ ∀ p, H p = none → Q (.ref p) (upd H p (.lst xs))
def nTup (xs : List V) (H : Hp) (Q : VK) : Prop := xs.length ≤ sizeLine ∧ ∀ p, H p = none → Q (.ref p) (upd H p (.tup xs))
def nObj (o : HO) (H : Hp) (Q : VK) : Prop := ∀ p, H p = none → Q (.ref p) (upd H p o)
theorem bt_len : bootBuiltins "len" = some (.builtin "len") := by decide +kernel
theorem bt_abs : bootBuiltins "abs" = some (.builtin "abs") := by decide +kernel
theorem bt_isinstance : bootBuiltins "isinstance" = some (.builtin "isinstance") := by decide +kernel
theorem bt_sum : bootBuiltins "sum" = some (.builtin "sum") := by decide +kernel
theorem bt_min : bootBuiltins "min" = some (.builtin "min") := by decide +kernel
theorem bt_max : bootBuiltins "max" = some (.builtin "max") := by decide +kernel
theorem bt_all : bootBuiltins "all" = some (.builtin "all") := by decide +kernel
theorem bt_sorted : bootBuiltins "sorted" = some (.builtin "sorted") := by decide +kernel
theorem bt_list : bootBuiltins "list" = some (.type "list") := by decide +kernel
theorem bt_dict : bootBuiltins "dict" = some (.type "dict") := by decide +kernel
theorem bt_int : bootBuiltins "int" = some (.type "int") := by decide +kernel
theorem bt_bool : bootBuiltins "bool" = some (.type "bool") := by decide +kernel
theorem bt_str : bootBuiltins "str" = some (.type "str") := by decide +kernel
theorem bt_tuple : bootBuiltins "tuple" = some (.type "tuple") := by decide +kernel
theorem bt_set : bootBuiltins "set" = some (.type "set") := by decide +kernel
theorem bt_ValueError : bootBuiltins "ValueError" = some (.type "ValueError") := by decide +kernel

section
variable {K : PySem.W.Frag} {G G' : Hp} {L L' : Lg} {H H' : Hp} {σ σ' : L2.St} {Q : VK} {QA : List V → Hp → Prop} {QT : Bool → Hp → Prop} {D : Ends} {ta tb tc te to ti : TE} {t t' u u' : TS} {tA tB' : TT} {tr : TA} {r r' : R2} {v x y : V} {a b p : Addr} {i j : Int} {n : Nat} {f : Str}
/-! ### statements -/
variable {nx : L2.St → Hp → Prop} {rt : VK} {bk ct : L2.St → Hp → Prop}
theorem s_seq (h : t ⟨u ⟨nx, rt, bk, ct⟩, rt, bk, ct⟩ σ H) : tSeq t u ⟨nx, rt, bk, ct⟩ σ H := h
theorem s_next (h : nx σ H) : tNext ⟨nx, rt, bk, ct⟩ σ H := h
theorem s_cont (h : ct σ H) : tCont ⟨nx, rt, bk, ct⟩ σ H := h
theorem s_asg {g : TG} (h : te σ H fun x H1 => g x σ H1 nx) : tAsg te g ⟨nx, rt, bk, ct⟩ σ H := h
theorem s_drop (h : te σ H fun _ H1 => nx σ H1) : tDrop te ⟨nx, rt, bk, ct⟩ σ H := h
theorem s_ret (h : te σ H rt) : tRet te ⟨nx, rt, bk, ct⟩ σ H := h
theorem s_retN (h : rt .non H) : tRetN ⟨nx, rt, bk, ct⟩ σ H := h
theorem s_if {c : TT} (h : c σ H fun b H1 => if b = true then t ⟨nx, rt, bk, ct⟩ σ H1 else u ⟨nx, rt, bk, ct⟩ σ H1) : tIfS c t u ⟨nx, rt, bk, ct⟩ σ H := h
theorem s_fldset (h : te σ H fun y H1 => ta σ H1 fun x H2 => ∃ a C dx fs, x = .ref a ∧ H2 a = some (.ins C dx fs) ∧ Cls K C ∧ NoAttr K C f ∧ fs.length < 1000 ∧ nx σ (upd H2 a (.ins C dx (putF f y fs)))) : sFld K ta te f ⟨nx, rt, bk, ct⟩ σ H := h
theorem s_augs {tget : V → V → Hp → VK → Prop} {tip : TIp} {tset : TSet} (h : to σ H fun o H1 => ti σ H1 fun i H2 => tget o i H2 fun x H3 => te σ H3 fun y H4 => tip x y H4 fun z H5 => tset o i z H5 fun H6 => nx σ H6) : tAugS to ti te tget tip tset ⟨nx, rt, bk, ct⟩ σ H := h
theorem s_par {k l : Nat} {tr : TA} (h : tr σ H fun vs H1 => ∃ v w, vs = [v, w] ∧ nx ((σ.set k (some v)).set l (some w)) H1) : tPar k l tr ⟨nx, rt, bk, ct⟩ σ H := h
theorem s_par2 {k l : Nat} {v w : V} {P : L2.St → Hp → Prop} (e1 : σ.set k (some v) = σ') {σ'' : L2.St} (e2 : σ'.set l (some w) = σ'') (h : P σ'' H) : ∃ v' w', [v, w] = [v', w'] ∧ P ((σ.set k (some v')).set l (some w')) H := ⟨v, w, rfl, by rw [e1, e2]; exact h⟩
/-! ### targets -/
theorem g_name {k : Nat} {P : L2.St → Hp → Prop} (e : σ.set k (some v) = σ') (h : P σ' H) : gName k v σ H P := by unfold gName; rw [e]; exact h
theorem set0 {z : Option V} {l : L2.St} {z' : Option V} : (z' :: l).set 0 z = z :: l := rfl
theorem setS {z z' : Option V} {k : Nat} {l l' : L2.St} (h : l.set k z = l') : (z' :: l).set (k + 1) z = z' :: l' := by rw [List.set_cons_succ, h]
theorem g_tup {k : Nat} {ts : TGs} {P : L2.St → Hp → Prop} {xs : List V} (hs : SqT K H a xs) (hl : xs.length = k) (h : ts xs σ H P) : gTup K k ts (.ref a) σ H P := ⟨a, xs, rfl, hs, hl, h⟩
theorem g_cons {tg : TG} {ts : TGs} {P : L2.St → Hp → Prop} {xs : List V} (h : tg v σ H fun σ' H' => ts xs σ' H' P) : gCons tg ts (v :: xs) σ H P := ⟨v, xs, rfl, h⟩
theorem g_nil {P : L2.St → Hp → Prop} (h : P σ H) : gNil [] σ H P := ⟨rfl, h⟩
theorem g_sub {ts : TSet} {P : L2.St → Hp → Prop} (h : to σ H fun o H1 => ti σ H1 fun i H2 => ts o i v H2 fun H3 => P σ H3) : gSub to ti ts v σ H P := h
/-! ### expressions -/
theorem t_var {k : Nat} (e : σ[k]? = some (some v)) (h : Q v H) : tVar k σ H Q := ⟨v, e, h⟩
theorem t_c (h : Q v H) : tC v σ H Q := h
theorem t_op (h : ta σ H fun x H1 => tb σ H1 fun y H2 => r x y H2 Q) : tOp r ta tb σ H Q := h
theorem t_un {r : V → Hp → VK → Prop} (h : ta σ H fun x H1 => r x H1 Q) : tUn r ta σ H Q := h
theorem t_nil (h : QA [] H) : tNil σ H QA := h
theorem t_cons (h : te σ H fun x H1 => tr σ H1 fun xs H2 => QA (x :: xs) H2) : tCons te tr σ H QA := h
theorem t_cb {rr : List V → Hp → VK → Prop} (h : tr σ H fun vs H1 => rr vs H1 Q) : tCB rr tr σ H Q := h
theorem t_hwc {sp : Sp} {E : L2.St → XK} (h : tr σ H fun vs H1 => sp vs H1 Q (E σ)) : tHwC sp [] E tr σ H Q := by
  unfold tHwC
  have e : ∀ vs : List V, vs ++ [] = vs := List.append_nil
  simp only [e]; exact h
theorem t_hwc1 {sp : Sp} {E : L2.St → XK} {d : V} (h : tr σ H fun vs H1 => sp (vs ++ [d]) H1 Q (E σ)) : tHwC sp [d] E tr σ H Q := h
theorem t_hwm {C : Addr} {sp : Sp} {E : L2.St → XK} (h : ta σ H fun x H1 => ∃ a dx fs, x = .ref a ∧ H1 a = some (.ins C dx fs) ∧ fs.lookup f = none ∧ tr σ H1 fun vs H2 => sp (x :: vs) H2 Q (E σ)) : tHwM C f sp E ta tr σ H Q := h
theorem t_rcv {C dx : Addr} {fs : List (Str × V)} {P : Prop} {R : V → Prop} (ha : H a = some (.ins C dx fs)) (hf : fs.lookup f = none) (h : R (.ref a)) : ∃ a' dx' fs', V.ref a = .ref a' ∧ H a' = some (.ins C dx' fs') ∧ fs'.lookup f = none ∧ R (.ref a) := ⟨a, dx, fs, rfl, ha, hf, h⟩
theorem t_andv (h : ta σ H fun x H1 => ∃ c, x = .bl c ∧ if c = true then tb σ H1 Q else Q (.bl false) H1) : tAndV ta tb σ H Q := h
theorem t_orv (h : ta σ H fun x H1 => ∃ c, x = .bl c ∧ if c = true then Q (.bl true) H1 else tb σ H1 Q) : tOrV ta tb σ H Q := h
theorem t_notv (h : ta σ H fun x H1 => ∃ c, x = .bl c ∧ Q (.bl (!c)) H1) : tNotV ta σ H Q := h
theorem t_ifx (h : tA σ H fun c H1 => if c = true then ta σ H1 Q else tb σ H1 Q) : tIf tA ta tb σ H Q := h
theorem t_chain (h : ta σ H fun x H1 => tb σ H1 fun y H2 => r x y H2 fun z H3 => ∃ k, z = .bl k ∧ (if k = true then tc σ H3 fun w' H4 => r' y w' H4 Q else Q (.bl false) H3)) : tChain r r' ta tb tc σ H Q := h
theorem bl_ex {c : Bool} {P : Bool → Prop} (h : P c) : ∃ k, V.bl c = V.bl k ∧ P k := ⟨c, rfl, h⟩
theorem t_tup (h : tr σ H fun xs H1 => nTup xs H1 Q) : tTup tr σ H Q := h
theorem t_lst (h : tr σ H fun xs H1 => nLst xs H1 Q) : tLst tr σ H Q := h
theorem t_dnew (h : nObj (.dK []) H Q) : tDNewK σ H Q := h
theorem t_fld (h : ta σ H fun x H1 => ∃ a C dx fs v, x = .ref a ∧ H1 a = some (.ins C dx fs) ∧ Cls K C ∧ NoAttr K C f ∧ fs.lookup f = some v ∧ Q v H1) : tFld K ta f σ H Q := h
theorem fld_of {C dx : Addr} {fs : List (Str × V)} (ha : H a = some (.ins C dx fs)) (c : Cls K C) (nn : NoAttr K C f) (l : fs.lookup f = some v) (h : Q v H) : ∃ a' C' dx' fs' v', V.ref a = .ref a' ∧ H a' = some (.ins C' dx' fs') ∧ Cls K C' ∧ NoAttr K C' f ∧ fs'.lookup f = some v' ∧ Q v' H := ⟨a, C, dx, fs, v, rfl, ha, c, nn, l, h⟩
theorem t_sl {rr : V → Option Int → Option Int → Hp → VK → Prop} {tl th : TO} (h : te σ H fun x H1 => tl σ H1 fun l H2 => th σ H2 fun u H3 => rr x l u H3 Q) : tSl rr te tl th σ H Q := h
theorem t_nopart {QO : Option Int → Hp → Prop} (h : QO none H) : tNoPart σ H QO := h
theorem t_part {QO : Option Int → Hp → Prop} (h : te σ H fun x H1 => ∃ i, x = .int i ∧ QO (some i) H1) : tPart te σ H QO := h
theorem int_ex {P : Int → Prop} (h : P i) : ∃ k, V.int i = V.int k ∧ P k := ⟨i, rfl, h⟩
theorem t_bm {T : String} {rr : V → List V → Hp → VK → Prop} (h : to σ H fun x H1 => tyV K T x H1 ∧ tr σ H1 fun xs H2 => rr x xs H2 Q) : tBM K T rr to tr σ H Q := h
theorem t_bm0 {T : String} {rr : V → List V → Hp → VK → Prop} (h : to σ H fun x H1 => tyV K T x H1 ∧ rr x [] H1 Q) : tBM0 K T rr to σ H Q := h
theorem ty_lst {xs : List V} {P : Prop} (h : SqL K H a xs) (q : P) : tyV K "list" (.ref a) H ∧ P := ⟨.inl ⟨rfl, xs, h⟩, q⟩
/-! ### tests -/
theorem c_test (h : te σ H fun x H' => ∃ k, x = .bl k ∧ QT k H') : tTest te σ H QT := h
theorem c_b (h : te σ H fun x H' => ∃ k, x = .bl k ∧ QT k H') : tB te σ H QT := h
theorem c_and {u : TT} (h : tA σ H fun c H1 => if c = true then u σ H1 QT else QT false H1) : tAnd tA u σ H QT := h
theorem c_or {u : TT} (h : tA σ H fun c H1 => if c = true then QT true H1 else u σ H1 QT) : tOr tA u σ H QT := h
theorem c_not (h : tA σ H fun c H1 => QT (!c) H1) : tNot tA σ H QT := h
theorem c_yes (h : QT true H) : tYes σ H QT := h
section
variable {A B : Prop} {q : Prop} [Decidable q] {c : Bool}
theorem i_dec (h1 : q → A) (h2 : ¬ q → B) : if decide q = true then A else B := by
  by_cases h : q
  · rw [if_pos (decide_eq_true h)]; exact h1 h
  · rw [if_neg (by rw [decide_eq_false h]; exact Bool.false_ne_true)]; exact h2 h
theorem i_decT (h : q) (h1 : A) : if decide q = true then A else B := by rw [if_pos (decide_eq_true h)]; exact h1
theorem i_decF (h : ¬ q) (h1 : B) : if decide q = true then A else B := by rw [if_neg (by rw [decide_eq_false h]; exact Bool.false_ne_true)]; exact h1
theorem i_not (h : if c = true then B else A) : if (!c) = true then A else B := by cases c <;> exact h
theorem i_bool (h1 : c = true → A) (h2 : c = false → B) : if c = true then A else B := by
  cases c
  · rw [if_neg Bool.false_ne_true]; exact h2 rfl
  · rw [if_pos rfl]; exact h1 rfl
theorem i_boolT (e : c = true) (h : A) : if c = true then A else B := by rw [if_pos e]; exact h
theorem i_boolF (e : c = false) (h : B) : if c = true then A else B := by rw [e, if_neg Bool.false_ne_true]; exact h
end
/-! ### operators -/
theorem o_addI (h : Q (.int (i + j)) H) : rAddU K (.int i) (.int j) H Q := .inl ⟨i, j, rfl, rfl, h⟩
theorem o_subI (h : Q (.int (i - j)) H) : (rI0 fun i j => .int (i - j)) (.int i) (.int j) H Q := ⟨i, j, rfl, rfl, h⟩
theorem o_mulI (c : CMulX i j) (h : Q (.int (i * j)) H) : rMulU (.int i) (.int j) H Q := .inl ⟨i, j, rfl, rfl, c, h⟩
theorem o_i0 {g : Int → Int → V} (h : Q (g i j) H) : rI0 g (.int i) (.int j) H Q := ⟨i, j, rfl, rfl, h⟩
theorem o_iC {C : Int → Int → Prop} {g : Int → Int → V} (c : C i j) (h : Q (g i j) H) : rI C g (.int i) (.int j) H Q := ⟨i, j, rfl, rfl, c, h⟩
theorem o_powE {n : Nat} {z : Int} (e : (10 : Int) ^ n = z) (h0 : n ≤ 1000000) (h : Q (.int z) H) : rI CPow (fun i j => .int (i ^ j.toNat)) (.int 10) (.int (n : Int)) H Q :=
  ⟨10, n, rfl, rfl, ⟨by omega, by omega, by decide⟩, by
    show Q (.int ((10 : Int) ^ ((n : Int)).toNat)) H
    rw [Int.toNat_natCast, e]; exact h⟩
theorem o_pow6 (h : Q (.int 1000000) H) : rI CPow (fun i j => .int (i ^ j.toNat)) (.int 10) (.int 6) H Q := o_powE (n := 6) (by decide +kernel) (by decide) h
theorem o_pow9 (h : Q (.int 1000000000) H) : rI CPow (fun i j => .int (i ^ j.toNat)) (.int 10) (.int 9) H Q := o_powE (n := 9) (by decide +kernel) (by decide) h
theorem o_pow15 (h : Q (.int 1000000000000000) H) : rI CPow (fun i j => .int (i ^ j.toNat)) (.int 10) (.int 15) H Q := o_powE (n := 15) (by decide +kernel) (by decide) h
theorem o_pow16 (h : Q (.int 10000000000000000) H) : rI CPow (fun i j => .int (i ^ j.toNat)) (.int 10) (.int 16) H Q := o_powE (n := 16) (by decide +kernel) (by decide) h
theorem o_pow17 (h : Q (.int 100000000000000000) H) : rI CPow (fun i j => .int (i ^ j.toNat)) (.int 10) (.int 17) H Q := o_powE (n := 17) (by decide +kernel) (by decide) h
theorem o_pow18 (h : Q (.int 1000000000000000000) H) : rI CPow (fun i j => .int (i ^ j.toNat)) (.int 10) (.int 18) H Q := o_powE (n := 18) (by decide +kernel) (by decide) h
theorem o_pow20 (h : Q (.int 100000000000000000000) H) : rI CPow (fun i j => .int (i ^ j.toNat)) (.int 10) (.int 20) H Q := o_powE (n := 20) (by decide +kernel) (by decide) h
theorem o_pow30 (h : Q (.int 1000000000000000000000000000000) H) : rI CPow (fun i j => .int (i ^ j.toNat)) (.int 10) (.int 30) H Q := o_powE (n := 30) (by decide +kernel) (by decide) h
theorem o_pow40 (h : Q (.int 10000000000000000000000000000000000000000) H) : rI CPow (fun i j => .int (i ^ j.toNat)) (.int 10) (.int 40) H Q := o_powE (n := 40) (by decide +kernel) (by decide) h
theorem o_str (hi : i.natAbs < 2 ^ 1000) (h : Q (.str (toString i)) H) : rStrU [.int i] H Q := ⟨i, rfl, Nat.lt_of_lt_of_le (PySem.Flt.log2_lt_of (by decide) hi) (by decide), h⟩
theorem o_ixLP {P : V → Prop} {xs : List V} {m : Int} (hs : SqL K H a xs) (h0 : 0 ≤ i) (h1 : i < m) (hP : ∀ x ∈ xs, P x) (h : ∀ v, P v → Q v H) (hm : m ≤ (xs.length : Int) := by simp only [List.length_cons, List.length_nil]; decide) : rIxU K (.ref a) (.int i) H Q := by
  have hl : i.toNat < xs.length := by omega
  have e : xs[i.toNat]? = some xs[i.toNat] := List.getElem?_eq_getElem hl
  obtain ⟨n, hn⟩ : ∃ n : Nat, i = (n : Int) := ⟨i.toNat, by omega⟩
  refine .inl (.inl ⟨a, xs, i, xs[i.toNat], rfl, rfl, hs, ?_, h _ (hP _ (List.getElem_mem hl))⟩)
  subst hn
  exact atI_nat (by simpa using e)
def nDisp (p : Addr) (x y : V) (H : Hp) (Q : VK) : Prop := H p = some (.dK []) ∧ ∃ k : Key, x = kV k ∧ Q (.ref p) (upd H p (.dK (mergeK [] [(k, y)])))
theorem t_disp1 {tk tv : TE} (S : Sy G L H) (h : ∀ p H', Sy G ((p, Is (.dK [])) :: L) H' → tk σ H' fun x H1 => tv σ H1 fun y H2 => nDisp p x y H2 Q) : tDisp [(tk, tv)] σ H Q := fun p hp => by
  have q := h p _ (S.new hp rfl)
  show tk σ (upd H p (.dK [])) fun x H1 => tv σ H1 fun y H2 => (H2 p = some (.dK []) ∧ ∃ kvs : List (Key × V), [(x, y)] = kvs.map (fun kv => (kV kv.1, kv.2)) ∧ kvs.length ≤ 15 ∧ Q (.ref p) (upd H2 p (.dK (mergeK [] kvs))))
  have e : (fun x H1 => tv σ H1 fun y H2 => nDisp p x y H2 Q) = (fun x H1 => tv σ H1 fun y H2 => (H2 p = some (.dK []) ∧ ∃ kvs : List (Key × V), [(x, y)] = kvs.map (fun kv => (kV kv.1, kv.2)) ∧ kvs.length ≤ 15 ∧ Q (.ref p) (upd H2 p (.dK (mergeK [] kvs))))) := by
    funext x H1
    congr 1
    funext y H2
    refine propext ⟨fun ⟨h1, k, e, q⟩ => ⟨h1, [(k, y)], by rw [e]; rfl, Nat.le_of_ble_eq_true rfl, q⟩, fun ⟨h1, kvs, e, _, q⟩ => ?_⟩
    match kvs, e with
    | [kv], e =>
      have e2 := (List.cons.inj e).1
      refine ⟨h1, kv.1, (Prod.mk.inj e2).1, ?_⟩
      rw [(Prod.mk.inj e2).2]; exact q
  rw [← e]; exact q
theorem n_disp {v : V} (S : Sy G L H) (hp : H p = some (.dK [])) (pu : Put p (Is (.dK (mergeK [] [(Sum.inl i, v)]))) L L') (h : ∀ H', Sy G L' H' → Q (.ref p) H') : nDisp p (.int i) v H Q := ⟨hp, .inl i, rfl, h _ (S.wr pu rfl)⟩
theorem o_modL (c : 0 < j) (h : ∀ q, 0 ≤ q → q < j → Q (.int q) H) : rI (fun _ j => 0 < j) (fun i j => .int (i % j)) (.int i) (.int j) H Q := ⟨i, j, rfl, rfl, c, h _ (Int.emod_nonneg _ (by omega)) (Int.emod_lt_of_pos _ c)⟩
theorem o_neg (h : Q (.int (-i)) H) : rU (fun i => .int (-i)) (.int i) H Q := ⟨i, rfl, h⟩
theorem o_ipI {g : Int → Int → Int} (h : Q (.int (g i j)) H) : ipI g (.int i) (.int j) H Q := ⟨i, j, rfl, rfl, h⟩
theorem o_eqI (h : Q (.bl (decide (i = j))) H) : rEqU K (.int i) (.int j) H Q := .inl ⟨rfl, by
  have e : decide (V.int i = V.int j) = decide (i = j) := decide_eq_decide.mpr ⟨fun h => V.int.inj h, fun h => by rw [h]⟩
  rw [e]; exact h⟩
theorem o_neI (h : Q (.bl (!decide (i = j))) H) : rNeU K (.int i) (.int j) H Q := .inl ⟨rfl, by
  have e : decide (V.int i = V.int j) = decide (i = j) := decide_eq_decide.mpr ⟨fun h => V.int.inj h, fun h => by rw [h]⟩
  rw [e]; exact h⟩
theorem o_eqB {b1 b2 : Bool} (h : Q (.bl (decide (b1 = b2))) H) : rEqU K (.bl b1) (.bl b2) H Q := .inl ⟨rfl, by
  have e : decide (V.bl b1 = V.bl b2) = decide (b1 = b2) := decide_eq_decide.mpr ⟨fun h => V.bl.inj h, fun h => by rw [h]⟩
  rw [e]; exact h⟩
theorem o_neB {b1 b2 : Bool} (h : Q (.bl (!decide (b1 = b2))) H) : rNeU K (.bl b1) (.bl b2) H Q := .inl ⟨rfl, by
  have e : decide (V.bl b1 = V.bl b2) = decide (b1 = b2) := decide_eq_decide.mpr ⟨fun h => V.bl.inj h, fun h => by rw [h]⟩
  rw [e]; exact h⟩
theorem o_eqS {s1 s2 : Str} (h : Q (.bl (decide (s1 = s2))) H) : rEqU K (.str s1) (.str s2) H Q := .inl ⟨rfl, by
  have e : decide (V.str s1 = V.str s2) = decide (s1 = s2) := decide_eq_decide.mpr ⟨fun h => V.str.inj h, fun h => by rw [h]⟩
  rw [e]; exact h⟩
theorem o_neS {s1 s2 : Str} (h : Q (.bl (!decide (s1 = s2))) H) : rNeU K (.str s1) (.str s2) H Q := .inl ⟨rfl, by
  have e : decide (V.str s1 = V.str s2) = decide (s1 = s2) := decide_eq_decide.mpr ⟨fun h => V.str.inj h, fun h => by rw [h]⟩
  rw [e]; exact h⟩
theorem o_eqNI (h : Q (.bl false) H) : rEqU K .non (.int i) H Q := .inl ⟨rfl, by
  have e : decide (V.non = V.int i) = false := decide_eq_false (fun z => nomatch z)
  rw [e]; exact h⟩
theorem o_eqIN (h : Q (.bl false) H) : rEqU K (.int i) .non H Q := .inl ⟨rfl, by
  have e : decide (V.int i = V.non) = false := decide_eq_false (fun z => nomatch z)
  rw [e]; exact h⟩
theorem o_eqNN (h : Q (.bl true) H) : rEqU K .non .non H Q := .inl ⟨rfl, by
  have e : decide (V.non = V.non) = true := decide_eq_true rfl
  rw [e]; exact h⟩
theorem o_neNI (h : Q (.bl true) H) : rNeU K .non (.int i) H Q := .inl ⟨rfl, by
  have e : decide (V.non = V.int i) = false := decide_eq_false (fun z => nomatch z)
  rw [e]; exact h⟩
theorem o_neIN (h : Q (.bl true) H) : rNeU K (.int i) .non H Q := .inl ⟨rfl, by
  have e : decide (V.int i = V.non) = false := decide_eq_false (fun z => nomatch z)
  rw [e]; exact h⟩
theorem o_neNN (h : Q (.bl false) H) : rNeU K .non .non H Q := .inl ⟨rfl, by
  have e : decide (V.non = V.non) = true := decide_eq_true rfl
  rw [e]; exact h⟩
theorem o_eqD {d e : PyData} (h1 : Dp K H x d) (h2 : Dp K H y e) (s1 : SeqAt.shaped d = true) (s2 : SeqAt.shaped e = true) (h : Q (.bl (PyData.eqv d e)) H) : rEqU K x y H Q := .inr ⟨d, e, h1, h2, s1, s2, h⟩
theorem o_neD {d e : PyData} (h1 : Dp K H x d) (h2 : Dp K H y e) (s1 : SeqAt.shaped d = true) (s2 : SeqAt.shaped e = true) (h : Q (.bl (!PyData.eqv d e)) H) : rNeU K x y H Q := .inr ⟨d, e, h1, h2, s1, s2, h⟩
theorem o_isN (h : Q (.bl (decide (x = .non))) H) : rIsU x .non H Q := .inl ⟨rfl, h⟩
theorem o_isNI (h : Q (.bl false) H) : rIsU (.int i) .non H Q := o_isN (by rw [decide_eq_false (fun z => nomatch z)]; exact h)
theorem o_isNR (h : Q (.bl false) H) : rIsU (.ref a) .non H Q := o_isN (by rw [decide_eq_false (fun z => nomatch z)]; exact h)
theorem o_isNS {z : Str} (h : Q (.bl false) H) : rIsU (.str z) .non H Q := o_isN (by rw [decide_eq_false (fun z => nomatch z)]; exact h)
theorem o_isNB {b : Bool} (h : Q (.bl false) H) : rIsU (.bl b) .non H Q := o_isN (by rw [decide_eq_false (fun z => nomatch z)]; exact h)
theorem o_isNN (h : Q (.bl true) H) : rIsU .non .non H Q := o_isN (by rw [decide_eq_true rfl]; exact h)
theorem o_ntN (h : Q (.bl (!decide (x = .non))) H) : rNotU x .non H Q := .inl ⟨rfl, h⟩
theorem o_ntNI (h : Q (.bl true) H) : rNotU (.int i) .non H Q := o_ntN (by rw [decide_eq_false (fun z => nomatch z)]; exact h)
theorem o_ntNR (h : Q (.bl true) H) : rNotU (.ref a) .non H Q := o_ntN (by rw [decide_eq_false (fun z => nomatch z)]; exact h)
theorem o_ntNS {z : Str} (h : Q (.bl true) H) : rNotU (.str z) .non H Q := o_ntN (by rw [decide_eq_false (fun z => nomatch z)]; exact h)
theorem o_ntNB {b : Bool} (h : Q (.bl true) H) : rNotU (.bl b) .non H Q := o_ntN (by rw [decide_eq_false (fun z => nomatch z)]; exact h)
theorem o_ntNN (h : Q (.bl false) H) : rNotU .non .non H Q := o_ntN (by rw [decide_eq_true rfl]; exact h)
theorem o_isB {b1 b2 : Bool} (h : Q (.bl (decide (b1 = b2))) H) : rIsU (.bl b1) (.bl b2) H Q := .inr (.inl ⟨b1, b2, rfl, rfl, h⟩)
theorem o_ixL {xs : List V} (hs : SqL K H a xs) (e : atI xs i = some v) (h : Q v H) : rIxU K (.ref a) (.int i) H Q := .inl (.inl ⟨a, xs, i, v, rfl, rfl, hs, e, h⟩)
theorem o_ixT {xs : List V} (hs : SqT K H a xs) (e : atI xs i = some v) (h : Q v H) : rIxU K (.ref a) (.int i) H Q := .inl (.inr (.inl ⟨a, xs, i, v, rfl, rfl, hs, e, h⟩))
theorem o_ixD {kvs : List (Key × V)} {k : Key} (hs : H a = some (.dK kvs)) (e : valV kvs k = some v) (h : Q v H) : rIxU K (.ref a) (kV k) H Q := .inr ⟨a, v, rfl, e ▸ DGet.k hs, h⟩
theorem o_get {xs : List V} (hs : H a = some (.lst xs)) (h0 : 0 ≤ i) (e : xs[i.toNat]? = some v) (h : Q v H) : rGetU (.ref a) (.int i) H Q := .inl ⟨a, xs, i, v, rfl, rfl, hs, h0, e, h⟩
theorem o_inL {xs : List V} (hs : SqL K H a xs) (h1 : flatV x = true) (h2 : xs.all flatV = true) (h : Q (.bl (inV x xs)) H) : rInU K false x (.ref a) H Q := .inl ⟨a, xs, rfl, .inl hs, h1, h2, h⟩
theorem o_niL {xs : List V} (hs : SqL K H a xs) (h1 : flatV x = true) (h2 : xs.all flatV = true) (h : Q (.bl (!inV x xs)) H) : rInU K true x (.ref a) H Q := .inl ⟨a, xs, rfl, .inl hs, h1, h2, h⟩
theorem o_inT {xs : List V} (hs : SqT K H a xs) (h1 : flatV x = true) (h2 : xs.all flatV = true) (h : Q (.bl (inV x xs)) H) : rInU K false x (.ref a) H Q := .inl ⟨a, xs, rfl, .inr hs, h1, h2, h⟩
theorem o_niT {xs : List V} (hs : SqT K H a xs) (h1 : flatV x = true) (h2 : xs.all flatV = true) (h : Q (.bl (!inV x xs)) H) : rInU K true x (.ref a) H Q := .inl ⟨a, xs, rfl, .inr hs, h1, h2, h⟩
theorem o_inD {kvs : List (Key × V)} {k : Key} (hs : H a = some (.dK kvs)) (h : Q (.bl (valV kvs k).isSome) H) : rInU K false (kV k) (.ref a) H Q := .inr (.inl ⟨a, _, rfl, DGet.k hs, h⟩)
theorem o_niD {kvs : List (Key × V)} {k : Key} (hs : H a = some (.dK kvs)) (h : Q (.bl (!(valV kvs k).isSome)) H) : rInU K true (kV k) (.ref a) H Q := .inr (.inl ⟨a, _, rfl, DGet.k hs, h⟩)
theorem o_lenL {xs : List V} (hs : SqL K H a xs) (h : Q (.int xs.length) H) : rLenU K [.ref a] H Q := .inl ⟨.ref a, xs.length, rfl, .inl ⟨xs, hs, rfl⟩, h⟩
theorem o_lenT {xs : List V} (hs : SqT K H a xs) (h : Q (.int xs.length) H) : rLenU K [.ref a] H Q := .inl ⟨.ref a, xs.length, rfl, .inr ⟨xs, hs, rfl⟩, h⟩
theorem o_abs (h : Q (.int (if i < 0 then -i else i)) H) : rAbs [.int i] H Q := ⟨i, rfl, h⟩
theorem o_isi {x c : V} {t u : Value} {b : Bool} (hc : ClsV c u) (ht : TyX K H x t) (hk : PySem.W.kitOne K t u = some b) (h : Q (.bl b) H) : rIsi K [x, c] H Q := ⟨x, c, t, u, b, rfl, hc, ht, hk, h⟩
/-! ### new things -/
theorem n_lst {xs : List V} (S : Sy G L H) (hz : xs.length ≤ 1000) (k : ∀ p H', Sy G ((p, Is (.lst xs)) :: L) H' → Q (.ref p) H') : nLst xs H Q := ⟨Nat.le_trans hz (by decide), fun p hp => k p _ (S.new hp rfl)⟩
theorem n_tup {xs : List V} (S : Sy G L H) (hz : xs.length ≤ 1000) (k : ∀ p G' H', Same G G' → G' p = some (.tup xs) → Sy G' L H' → Q (.ref p) H') : nTup xs H Q :=
  ⟨Nat.le_trans hz (by decide), fun p hp => k p _ _ (same_new (S.gnone hp)) upd_same (S.newF hp)⟩
theorem sqt_of {xs : List V} (h : G a = some (.tup xs)) : SqT K G a xs := .inl (.inl h)
theorem sql_of {xs : List V} (h : G a = some (.lst xs)) : SqL K G a xs := .inl (.inl h)
theorem n_any {o : HO} (S : Sy G L H) (k : ∀ p H', Sy G ((p, Is o) :: L) H' → Q (.ref p) H') : nObj o H Q := fun p hp => k p _ (S.new hp rfl)
theorem o_slL {xs : List V} {lo hi : Option Int} (hs : SqL K H a xs) (h : nObj (.lst (cutV xs lo hi)) H Q) : rSlU K (.ref a) lo hi H Q := .inl ⟨a, xs, rfl, hs, h⟩
theorem o_catL {xs ys : List V} (hx : H a = some (.lst xs)) (hy : H b = some (.lst ys)) (hz : xs.length + ys.length ≤ sizeLine) (h : nObj (.lst (xs ++ ys)) H Q) : rAddU K (.ref a) (.ref b) H Q := .inr (.inr (.inl ⟨a, b, xs, ys, rfl, rfl, hx, hy, hz, h⟩))
theorem o_listL {xs : List V} (hs : SqL K H a xs) (h : nObj (.lst xs) H Q) : rListU K [.ref a] H Q := .inl ⟨a, xs, rfl, .inl hs, h⟩
theorem o_setL {xs : List V} {v : V} {P : Hp → Prop} {k : Nat} (S : Sy G L H) (hs : H a = some (.lst xs)) (hk : ixN xs.length i = some k) (pu : Put a (Is (.lst (xs.set k v))) L L') (h : ∀ H', Sy G L' H' → P H') : rSetU (.ref a) (.int i) v H P :=
  .inl ⟨a, xs, i, k, rfl, rfl, hs, hk, h _ (S.wr pu rfl)⟩
theorem o_putD {kvs : List (Key × V)} {k : Key} {P : Hp → Prop} (S : Sy G L H) (hs : H a = some (.dK kvs)) (hz : kvs.length < sizeLine) (pu : Put a (Is (.dK (putK kvs k v))) L L') (h : ∀ H', Sy G L' H' → P H') : rSetU (.ref a) (kV k) v H P :=
  .inr ⟨a, _, rfl, DPut.k hs hz, h _ (S.wr pu rfl)⟩
theorem o_app {xs : List V} (S : Sy G L H) (hs : H a = some (.lst xs)) (hz : xs.length < sizeLine) (pu : Put a (Is (.lst (xs ++ [v]))) L L') (h : ∀ H', Sy G L' H' → Q .non H') : rAppend (.ref a) [v] H Q :=
  ⟨a, xs, v, rfl, rfl, hs, hz, h _ (S.wr pu rfl)⟩
end
theorem sz1000 {n : Nat} (h : n ≤ 1000) : n ≤ sizeLine := Nat.le_trans h (by decide)
end Hw





/-! HwD: the laws' bag; kinds of things; isinstance; comprehensions and loops over the ledger. -/
namespace Hw
open PySem L2

/-! ### specs -/
def sp1 (f : V → Hp → VK → XK → Prop) : Sp := fun vs H Q E => ∃ a, vs = [a] ∧ f a H Q E
def sp2 (f : V → V → Hp → VK → XK → Prop) : Sp := fun vs H Q E => ∃ a b, vs = [a, b] ∧ f a b H Q E
def sp3 (f : V → V → V → Hp → VK → XK → Prop) : Sp := fun vs H Q E => ∃ a b c, vs = [a, b, c] ∧ f a b c H Q E
def sp4 (f : V → V → V → V → Hp → VK → XK → Prop) : Sp := fun vs H Q E => ∃ a b c d, vs = [a, b, c, d] ∧ f a b c d H Q E
def sp5 (f : V → V → V → V → V → Hp → VK → XK → Prop) : Sp := fun vs H Q E => ∃ a b c d e, vs = [a, b, c, d, e] ∧ f a b c d e H Q E
def sp0 (f : Hp → VK → XK → Prop) : Sp := fun vs H Q E => vs = [] ∧ f H Q E
theorem len0 {f} : ∀ vs H Q E, sp0 f vs H Q E → vs.length = 0 := fun vs H Q E ⟨e, _⟩ => by rw [e]; rfl
theorem len1 {f} : ∀ vs H Q E, sp1 f vs H Q E → vs.length = 1 := fun vs H Q E ⟨a, e, _⟩ => by rw [e]; rfl
theorem len2 {f} : ∀ vs H Q E, sp2 f vs H Q E → vs.length = 2 := fun vs H Q E ⟨a, b, e, _⟩ => by rw [e]; rfl
theorem len3 {f} : ∀ vs H Q E, sp3 f vs H Q E → vs.length = 3 := fun vs H Q E ⟨a, b, c, e, _⟩ => by rw [e]; rfl
theorem len4 {f} : ∀ vs H Q E, sp4 f vs H Q E → vs.length = 4 := fun vs H Q E ⟨a, b, c, d, e, _⟩ => by rw [e]; rfl
theorem len5 {f} : ∀ vs H Q E, sp5 f vs H Q E → vs.length = 5 := fun vs H Q E ⟨a, b, c, d, x, e, _⟩ => by rw [e]; rfl

/-! ### the bag -/
def Bag (cs : Addr) : HO → Prop := fun o => ∃ c s i : Int, o = .lst [.int c, .int s, .int i, .ref cs] ∧ 0 ≤ c ∧ 0 ≤ s ∧ s < 2147483647 ∧ 0 ≤ i
def Cells : HO → Prop := fun o => ∃ ns : List Int, o = .lst (ns.map V.int) ∧ ns.length ≤ 63 ∧ ∀ n ∈ ns, 0 ≤ n
def BagIn (b : Addr) (L : Lg) : Prop := ∃ cs, (b, Bag cs) ∈ L ∧ (cs, Cells) ∈ L
theorem BagIn.cons {b : Addr} {L : Lg} {x : Addr × (HO → Prop)} (h : BagIn b L) : BagIn b (x :: L) :=
  let ⟨cs, h1, h2⟩ := h; ⟨cs, List.mem_cons_of_mem _ h1, List.mem_cons_of_mem _ h2⟩
theorem BagIn.hd {b cs : Addr} {L : Lg} : BagIn b ((b, Bag cs) :: (cs, Cells) :: L) := ⟨cs, List.mem_cons_self .., List.mem_cons_of_mem _ (List.mem_cons_self ..)⟩

/-! ### kinds of things -/
/-- what a thing may be: a number, a truth, None, a text, a list, a tuple, a dict that stand in the ground -/
inductive Kd (G : Hp) : V → Prop
  | int (i : Int) : Kd G (.int i)
  | bl (b : Bool) : Kd G (.bl b)
  | non : Kd G .non
  | str (x : Str) : Kd G (.str x)
  | lst {a : Addr} {xs : List V} (h : G a = some (.lst xs)) : Kd G (.ref a)
  | tup {a : Addr} {xs : List V} (h : G a = some (.tup xs)) : Kd G (.ref a)
  | dk {a : Addr} {kvs : List (Key × V)} (h : G a = some (.dK kvs)) : Kd G (.ref a)
theorem Kd.mono {G G' : Hp} {v : V} (e : Same G G') (h : Kd G v) : Kd G' v := by
  cases h with
  | int i => exact .int i
  | bl b => exact .bl b
  | non => exact .non
  | str x => exact .str x
  | lst h => exact .lst (e _ _ h)
  | tup h => exact .tup (e _ _ h)
  | dk h => exact .dk (e _ _ h)
def isI : V → Bool | .int _ => true | .bl _ => true | _ => false
def isB : V → Bool | .bl _ => true | _ => false
def isS : V → Bool | .str _ => true | _ => false
def isL (G : Hp) (v : V) : Bool := match v with
  | .ref a => (match G a with | some (.lst _) => true | _ => false)
  | _ => false
def isT (G : Hp) (v : V) : Bool := match v with
  | .ref a => (match G a with | some (.tup _) => true | _ => false)
  | _ => false
theorem isL_lst {G : Hp} {a : Addr} {xs : List V} (h : G a = some (.lst xs)) : isL G (.ref a) = true := by unfold isL; simp only [h]
theorem isL_tup {G : Hp} {a : Addr} {xs : List V} (h : G a = some (.tup xs)) : isL G (.ref a) = false := by unfold isL; simp only [h]
theorem isL_dk {G : Hp} {a : Addr} {kvs : List (Key × V)} (h : G a = some (.dK kvs)) : isL G (.ref a) = false := by unfold isL; simp only [h]
theorem isT_lst {G : Hp} {a : Addr} {xs : List V} (h : G a = some (.lst xs)) : isT G (.ref a) = false := by unfold isT; simp only [h]
theorem isT_tup {G : Hp} {a : Addr} {xs : List V} (h : G a = some (.tup xs)) : isT G (.ref a) = true := by unfold isT; simp only [h]
theorem isT_dk {G : Hp} {a : Addr} {kvs : List (Key × V)} (h : G a = some (.dK kvs)) : isT G (.ref a) = false := by unfold isT; simp only [h]
section
variable {K : PySem.W.Frag} {H : Hp} {Q : VK} {v : V}
theorem kd_ty (h : Kd H v) : ∃ T, TyX K H v (.type T) ∧ PySem.W.kitOne K (.type T) (.type "int") = some (isI v) ∧ PySem.W.kitOne K (.type T) (.type "bool") = some (isB v) ∧ PySem.W.kitOne K (.type T) (.type "str") = some (isS v)
    ∧ PySem.W.kitOne K (.type T) (.type "list") = some (isL H v) ∧ PySem.W.kitOne K (.type T) (.type "tuple") = some (isT H v) := by
  cases h with
  | int i => exact ⟨"int", .base (.int i), (show kitB "int" "int" = some true by decide +kernel), (show kitB "int" "bool" = some false by decide +kernel), (show kitB "int" "str" = some false by decide +kernel), (show kitB "int" "list" = some false by decide +kernel), (show kitB "int" "tuple" = some false by decide +kernel)⟩
  | bl b => exact ⟨"bool", .base (.bl b), (show kitB "bool" "int" = some true by decide +kernel), (show kitB "bool" "bool" = some true by decide +kernel), (show kitB "bool" "str" = some false by decide +kernel), (show kitB "bool" "list" = some false by decide +kernel), (show kitB "bool" "tuple" = some false by decide +kernel)⟩
  | non => exact ⟨"NoneType", .base .non, (show kitB "NoneType" "int" = some false by decide +kernel), (show kitB "NoneType" "bool" = some false by decide +kernel), (show kitB "NoneType" "str" = some false by decide +kernel), (show kitB "NoneType" "list" = some false by decide +kernel), (show kitB "NoneType" "tuple" = some false by decide +kernel)⟩
  | str x => exact ⟨"str", .base (.str x), (show kitB "str" "int" = some false by decide +kernel), (show kitB "str" "bool" = some false by decide +kernel), (show kitB "str" "str" = some true by decide +kernel), (show kitB "str" "list" = some false by decide +kernel), (show kitB "str" "tuple" = some false by decide +kernel)⟩
  | @lst a xs h => exact ⟨"list", .base (.lst h), (show kitB "list" "int" = some false by decide +kernel), (show kitB "list" "bool" = some false by decide +kernel), (show kitB "list" "str" = some false by decide +kernel), (by rw [isL_lst h]; exact (show kitB "list" "list" = some true by decide +kernel)), (by rw [isT_lst h]; exact (show kitB "list" "tuple" = some false by decide +kernel))⟩
  | @tup a xs h => exact ⟨"tuple", .base (.tup h), (show kitB "tuple" "int" = some false by decide +kernel), (show kitB "tuple" "bool" = some false by decide +kernel), (show kitB "tuple" "str" = some false by decide +kernel), (by rw [isL_tup h]; exact (show kitB "tuple" "list" = some false by decide +kernel)), (by rw [isT_tup h]; exact (show kitB "tuple" "tuple" = some true by decide +kernel))⟩
  | @dk a kvs h => exact ⟨"dict", .base (.dK h), (show kitB "dict" "int" = some false by decide +kernel), (show kitB "dict" "bool" = some false by decide +kernel), (show kitB "dict" "str" = some false by decide +kernel), (by rw [isL_dk h]; exact (show kitB "dict" "list" = some false by decide +kernel)), (by rw [isT_dk h]; exact (show kitB "dict" "tuple" = some false by decide +kernel))⟩
theorem isi_int (h : Kd H v) (q : Q (.bl (isI v)) H) : rIsi K [v, .ty "int"] H Q := let ⟨_, t, k, _⟩ := kd_ty (K := K) h; o_isi (.ty _) t k q
theorem isi_bool (h : Kd H v) (q : Q (.bl (isB v)) H) : rIsi K [v, .ty "bool"] H Q := let ⟨_, t, _, k, _⟩ := kd_ty (K := K) h; o_isi (.ty _) t k q
theorem isi_str (h : Kd H v) (q : Q (.bl (isS v)) H) : rIsi K [v, .ty "str"] H Q := let ⟨_, t, _, _, k, _⟩ := kd_ty (K := K) h; o_isi (.ty _) t k q
theorem isi_list (h : Kd H v) (q : Q (.bl (isL H v)) H) : rIsi K [v, .ty "list"] H Q := let ⟨_, t, _, _, _, k, _⟩ := kd_ty (K := K) h; o_isi (.ty _) t k q
theorem isi_tuple (h : Kd H v) (q : Q (.bl (isT H v)) H) : rIsi K [v, .ty "tuple"] H Q := let ⟨_, t, _, _, _, _, k⟩ := kd_ty (K := K) h; o_isi (.ty _) t k q
end

section
variable {K : PySem.W.Frag} {H : Hp} {Q : VK} {a : Addr} {i : Int} {b : Bool} {x : Str} {xs : List V} {kvs : List (Key × V)}
theorem isi_ii (q : Q (.bl true) H) : rIsi K [.int i, .ty "int"] H Q := isi_int (.int i) q
theorem isi_ib (q : Q (.bl false) H) : rIsi K [.int i, .ty "bool"] H Q := isi_bool (.int i) q
theorem isi_is (q : Q (.bl false) H) : rIsi K [.int i, .ty "str"] H Q := isi_str (.int i) q
theorem isi_il (q : Q (.bl false) H) : rIsi K [.int i, .ty "list"] H Q := isi_list (.int i) q
theorem isi_it (q : Q (.bl false) H) : rIsi K [.int i, .ty "tuple"] H Q := isi_tuple (.int i) q
theorem isi_bi (q : Q (.bl true) H) : rIsi K [.bl b, .ty "int"] H Q := isi_int (.bl b) q
theorem isi_bb (q : Q (.bl true) H) : rIsi K [.bl b, .ty "bool"] H Q := isi_bool (.bl b) q
theorem isi_bs (q : Q (.bl false) H) : rIsi K [.bl b, .ty "str"] H Q := isi_str (.bl b) q
theorem isi_bL (q : Q (.bl false) H) : rIsi K [.bl b, .ty "list"] H Q := isi_list (.bl b) q
theorem isi_bt (q : Q (.bl false) H) : rIsi K [.bl b, .ty "tuple"] H Q := isi_tuple (.bl b) q
theorem isi_ni (q : Q (.bl false) H) : rIsi K [.non, .ty "int"] H Q := isi_int .non q
theorem isi_nb (q : Q (.bl false) H) : rIsi K [.non, .ty "bool"] H Q := isi_bool .non q
theorem isi_ns (q : Q (.bl false) H) : rIsi K [.non, .ty "str"] H Q := isi_str .non q
theorem isi_nl (q : Q (.bl false) H) : rIsi K [.non, .ty "list"] H Q := isi_list .non q
theorem isi_nt (q : Q (.bl false) H) : rIsi K [.non, .ty "tuple"] H Q := isi_tuple .non q
theorem isi_si (q : Q (.bl false) H) : rIsi K [.str x, .ty "int"] H Q := isi_int (.str x) q
theorem isi_sb (q : Q (.bl false) H) : rIsi K [.str x, .ty "bool"] H Q := isi_bool (.str x) q
theorem isi_ss (q : Q (.bl true) H) : rIsi K [.str x, .ty "str"] H Q := isi_str (.str x) q
theorem isi_sl (q : Q (.bl false) H) : rIsi K [.str x, .ty "list"] H Q := isi_list (.str x) q
theorem isi_st (q : Q (.bl false) H) : rIsi K [.str x, .ty "tuple"] H Q := isi_tuple (.str x) q
theorem isi_li (h : H a = some (.lst xs)) (q : Q (.bl false) H) : rIsi K [.ref a, .ty "int"] H Q := isi_int (.lst h) q
theorem isi_lb (h : H a = some (.lst xs)) (q : Q (.bl false) H) : rIsi K [.ref a, .ty "bool"] H Q := isi_bool (.lst h) q
theorem isi_ls (h : H a = some (.lst xs)) (q : Q (.bl false) H) : rIsi K [.ref a, .ty "str"] H Q := isi_str (.lst h) q
theorem isi_ll (h : H a = some (.lst xs)) (q : Q (.bl true) H) : rIsi K [.ref a, .ty "list"] H Q := isi_list (.lst h) (by rw [isL_lst h]; exact q)
theorem isi_lt (h : H a = some (.lst xs)) (q : Q (.bl false) H) : rIsi K [.ref a, .ty "tuple"] H Q := isi_tuple (.lst h) (by rw [isT_lst h]; exact q)
theorem isi_ti (h : H a = some (.tup xs)) (q : Q (.bl false) H) : rIsi K [.ref a, .ty "int"] H Q := isi_int (.tup h) q
theorem isi_tb (h : H a = some (.tup xs)) (q : Q (.bl false) H) : rIsi K [.ref a, .ty "bool"] H Q := isi_bool (.tup h) q
theorem isi_ts (h : H a = some (.tup xs)) (q : Q (.bl false) H) : rIsi K [.ref a, .ty "str"] H Q := isi_str (.tup h) q
theorem isi_tl (h : H a = some (.tup xs)) (q : Q (.bl false) H) : rIsi K [.ref a, .ty "list"] H Q := isi_list (.tup h) (by rw [isL_tup h]; exact q)
theorem isi_tt (h : H a = some (.tup xs)) (q : Q (.bl true) H) : rIsi K [.ref a, .ty "tuple"] H Q := isi_tuple (.tup h) (by rw [isT_tup h]; exact q)
theorem isi_di (h : H a = some (.dK kvs)) (q : Q (.bl false) H) : rIsi K [.ref a, .ty "int"] H Q := isi_int (.dk h) q
theorem isi_db (h : H a = some (.dK kvs)) (q : Q (.bl false) H) : rIsi K [.ref a, .ty "bool"] H Q := isi_bool (.dk h) q
theorem isi_ds (h : H a = some (.dK kvs)) (q : Q (.bl false) H) : rIsi K [.ref a, .ty "str"] H Q := isi_str (.dk h) q
theorem isi_dl (h : H a = some (.dK kvs)) (q : Q (.bl false) H) : rIsi K [.ref a, .ty "list"] H Q := isi_list (.dk h) (by rw [isL_dk h]; exact q)
theorem isi_dt (h : H a = some (.dK kvs)) (q : Q (.bl false) H) : rIsi K [.ref a, .ty "tuple"] H Q := isi_tuple (.dk h) (by rw [isT_dk h]; exact q)
end

/-! ### what is walked -/
section
variable {K : PySem.W.Frag} {G : Hp} {L : Lg} {H : Hp} {σ : L2.St} {Q : VK} {a : Addr} {g : TG} {tt : TT} {te : TE} {vs : List Nat} {xs : List V}
def nSeq (K : PySem.W.Frag) (x : V) (H : Hp) (R : It → Hp → Prop) : Prop := ∃ a, x = .ref a ∧ (∃ xs, SqL K H a xs) ∧ R (Itl K a) H
def nSeqT (K : PySem.W.Frag) (x : V) (H : Hp) (R : It → Hp → Prop) : Prop := ∃ a, x = .ref a ∧ (∃ xs, SqT K H a xs) ∧ R (Itt K a) H
theorem it_list {R : It → Hp → Prop} (hs : SqL K H a xs) (h : R (Itl K a) H) : nSeq K (.ref a) H R := ⟨a, rfl, ⟨xs, hs⟩, h⟩
theorem it_tup {R : It → Hp → Prop} (hs : SqT K H a xs) (h : R (Itt K a) H) : nSeqT K (.ref a) H R := ⟨a, rfl, ⟨xs, hs⟩, h⟩
theorem i_list {tl : TE} {R : It → Hp → Prop} (h : tl σ H fun x H1 => nSeq K x H1 R) : iList K tl σ H R := h
theorem i_tup {tl : TE} {R : It → Hp → Prop} (h : tl σ H fun x H1 => nSeqT K x H1 R) : iTup K tl σ H R := h
def nLc (J : It) (g : TG) (tt : TT) (te : TE) (vs : List Nat) (σ : L2.St) (H : Hp) (Q : VK) : Prop := ∀ D, H D = none → ∃ W : Nat → Nat → Hp → Prop, (∃ m, W 0 m (upd H D (.lst []))) ∧ ∀ i m H, W i m H →
  (J.stop i H ∧ Q (.ref D) H) ∨ (J.go i H ∧ ∃ Nx : Hp → Prop, (∀ H', Nx H' → ∃ m', m' < m ∧ W (i + 1) m' H') ∧ ∀ x H', J.yld i H x H' → g x (wipe σ vs) H' fun σ2 H2 => wipe σ2 vs = wipe σ vs ∧ tt σ2 H2 fun b H3 =>
    if b = true then te σ2 H3 fun y H4 => ∃ acc, H4 D = some (.lst acc) ∧ acc.length < sizeLine ∧ Nx (upd H4 D (.lst (acc ++ [y]))) else Nx H3)
theorem t_lc {wi : TI} (h : wi σ H fun J H1 => nLc J g tt te vs σ H1 Q) : tLc wi g tt te vs σ H Q := h
def nFor (J : It) (g : TG) (tb : TS) (D : Ends) (σ : L2.St) (H : Hp) : Prop := ∃ W : Nat → Nat → L2.St → Hp → Prop, (∃ m, W 0 m σ H) ∧ ∀ i m σ H, W i m σ H →
  (J.stop i H ∧ D.nx σ H) ∨ (J.go i H ∧ ∃ N : L2.St → Hp → Prop, (∀ σ' H', N σ' H' → ∃ m', m' < m ∧ W (i + 1) m' σ' H') ∧ ∀ x H', J.yld i H x H' → g x σ H' fun σ2 H2 => tb { D with nx := N, ct := N, bk := D.nx } σ2 H2)
theorem s_for {wi : TI} {tb : TS} {D : Ends} (h : wi σ H fun J H1 => nFor J g tb D σ H1) : tFor wi g tb D σ H := h
theorem f_list {tb : TS} {nx : L2.St → Hp → Prop} {rt : VK} {bk ct : L2.St → Hp → Prop} (Pv : Nat → L2.St → Hp → Prop) (h0 : Pv 0 σ H) (hl : ∀ i σ H, i ≤ xs.length → Pv i σ H → SqL K H a xs)
    (hs : ∀ i x σ H, xs[i]? = some x → Pv i σ H → g x σ H fun σ2 H2 => tb ⟨Pv (i + 1), rt, nx, Pv (i + 1)⟩ σ2 H2) (hd : ∀ σ H, Pv xs.length σ H → nx σ H) : nFor (Itl K a) g tb ⟨nx, rt, bk, ct⟩ σ H :=
  for_list (D := ⟨nx, rt, bk, ct⟩) Pv h0 hl hs hd
theorem f_range {tb : TS} {nx : L2.St → Hp → Prop} {rt : VK} {bk ct : L2.St → Hp → Prop} {lo : Int} {n : Nat} (Pv : Nat → L2.St → Hp → Prop) (h0 : Pv 0 σ H)
    (hs : ∀ i σ H, i < n → Pv i σ H → g (.int (lo + i)) σ H fun σ2 H2 => tb ⟨Pv (i + 1), rt, nx, Pv (i + 1)⟩ σ2 H2) (hd : ∀ σ H, Pv n σ H → nx σ H) : nFor (Itr lo n) g tb ⟨nx, rt, bk, ct⟩ σ H :=
  for_range (D := ⟨nx, rt, bk, ct⟩) Pv h0 hs hd
def nRng1 (vs : List V) (H : Hp) (R : It → Hp → Prop) : Prop := ∃ j : Int, vs = [.int j] ∧ -(2 ^ 62) ≤ j ∧ j < 2 ^ 62 ∧ R (Itr 0 j.toNat) H
def nRng2 (vs : List V) (H : Hp) (R : It → Hp → Prop) : Prop := ∃ i j : Int, vs = [.int i, .int j] ∧ (-(2 ^ 62) ≤ i ∧ i < 2 ^ 62 ∧ -(2 ^ 62) ≤ j ∧ j < 2 ^ 62) ∧ R (Itr i (j - i).toNat) H
theorem i_rng1 {ta : TA} {R : It → Hp → Prop} (h : ta σ H fun vs H1 => nRng1 vs H1 R) : iRng1 ta σ H R := h
theorem it_rng1 {R : It → Hp → Prop} {j : Int} (h1 : -(2 ^ 62) ≤ j ∧ j < 2 ^ 62) (h : R (Itr 0 j.toNat) H) : nRng1 [.int j] H R := ⟨j, rfl, h1.1, h1.2, h⟩
theorem i_rng2 {ta : TA} {R : It → Hp → Prop} (h : ta σ H fun vs H1 => nRng2 vs H1 R) : iRng2 ta σ H R := h
theorem it_rng2 {R : It → Hp → Prop} {i j : Int} (h : -(2 ^ 62) ≤ i ∧ i < 2 ^ 62 ∧ -(2 ^ 62) ≤ j ∧ j < 2 ^ 62) (q : R (Itr i (j - i).toNat) H) : nRng2 [.int i, .int j] H R := ⟨i, j, rfl, h, q⟩
def nEnum (K : PySem.W.Frag) (vs : List V) (H : Hp) (R : It → Hp → Prop) : Prop := ∃ a xs, vs = [.ref a] ∧ SqL K H a xs ∧ R (Ite K a) H
theorem i_enum {ta : TA} {R : It → Hp → Prop} (h : ta σ H fun vs H1 => nEnum K vs H1 R) : iEnum K ta σ H R := h
theorem it_enum {R : It → Hp → Prop} (hs : SqL K H a xs) (h : R (Ite K a) H) : nEnum K [.ref a] H R := ⟨a, xs, rfl, hs, h⟩
/-- a comprehension over a list: I, what holds of the turn, the list so far and the ground -/
theorem lc_sy (S : Sy G L H) (hl : ∀ G' H' acc D, Same G G' → Sy G' ((D, Is (.lst acc)) :: L) H' → SqL K H' a xs) (I : Nat → List V → Hp → Prop) (h0 : I 0 [] G) (hz : xs.length ≤ 100000)
    (hs : ∀ i x acc D G' H' (P : V → Hp → Prop) (N : Hp → Prop), xs[i]? = some x → Same G G' → Sy G' ((D, Is (.lst acc)) :: L) H' → I i acc G' →
      (∀ y G'' H'', Same G' G'' → Sy G'' ((D, Is (.lst acc)) :: L) H'' → I (i + 1) (acc ++ [y]) G'' → P y H'') → (∀ G'' H'', Same G' G'' → Sy G'' ((D, Is (.lst acc)) :: L) H'' → I (i + 1) acc G'' → N H'') →
      g x (wipe σ vs) H' fun σ2 H2 => wipe σ2 vs = wipe σ vs ∧ tt σ2 H2 fun b H3 => if b = true then te σ2 H3 P else N H3)
    (hd : ∀ D acc G' H', Same G G' → Sy G' ((D, Is (.lst acc)) :: L) H' → I xs.length acc G' → acc.length ≤ xs.length → Q (.ref D) H') :
    nLc (Itl K a) g tt te vs σ H Q := by
  intro D hD
  refine lc_list (xs := xs) (Qd := fun H => Q (.ref D) H) (fun i H' => ∃ acc G', acc.length ≤ i ∧ Same G G' ∧ Sy G' ((D, Is (.lst acc)) :: L) H' ∧ I i acc G') ⟨[], G, Nat.le_refl _, Same.refl _, S.new hD rfl, h0⟩ ?_ ?_ ?_
  · rintro i H' _ ⟨acc, G', _, s, S', _⟩
    exact hl G' H' acc D s S'
  · rintro i x H' hx ⟨acc, G', hle, s, S', hI⟩
    have hi := (List.getElem?_eq_some_iff.mp hx).1
    refine hs i x acc D G' H' _ _ hx s S' hI (fun y G'' H'' s2 S2 hI2 => ?_) fun G'' H'' s2 S2 hI2 => ?_
    · refine ⟨acc, S2.at (List.mem_cons_self ..), Nat.lt_of_lt_of_le (show acc.length < 100001 by omega) (by decide), acc ++ [y], G'', by rw [List.length_append, List.length_singleton]; omega, s.trans s2, S2.wr .hd rfl, hI2⟩
    · exact ⟨acc, G'', by omega, s.trans s2, S2, hI2⟩
  · rintro H' ⟨acc, G', hle, s, S', hI⟩
    exact hd D acc G' H' s S' hI hle
end
end Hw
namespace Hw
open PySem L2
theorem atI_of {α : Type} {xs : List α} {i : Int} {v : α} (h0 : 0 ≤ i) (h : xs[i.toNat]? = some v) : atI xs i = some v := by
  obtain ⟨n, rfl⟩ : ∃ n : Nat, i = (n : Int) := ⟨i.toNat, by omega⟩
  rw [Int.toNat_natCast] at h
  exact atI_nat h
theorem atI_int {α : Type} {xs : List α} {i : Int} (h0 : 0 ≤ i) (h1 : i < (xs.length : Int)) : ∃ v, atI xs i = some v ∧ xs[i.toNat]? = some v := by
  have hl : i.toNat < xs.length := by omega
  exact ⟨xs[i.toNat], atI_of h0 (List.getElem?_eq_getElem hl), List.getElem?_eq_getElem hl⟩
theorem atI_ints {ns : List Int} {i : Int} (h0 : 0 ≤ i) (h1 : i < (ns.length : Int)) : ∃ n, atI (ns.map V.int) i = some (.int n) ∧ n ∈ ns := by
  have hl : i.toNat < ns.length := by omega
  refine ⟨ns[i.toNat], atI_of h0 ?_, List.getElem_mem hl⟩
  rw [List.getElem?_map, List.getElem?_eq_getElem hl]; rfl
theorem lc_wp {σ1 σ2 : L2.St} {vs : List Nat} {B : Prop} (e : wipe σ2 vs = wipe σ1 vs) (h : B) : wipe σ2 vs = wipe σ1 vs ∧ B := ⟨e, h⟩
theorem cutV_mem {xs : List V} {lo hi : Option Int} {v : V} (h : v ∈ cutV xs lo hi) : v ∈ xs := List.mem_of_mem_drop (List.mem_of_mem_take h)
theorem cutV_to {xs : List V} {n : Nat} : (cutV xs none (some (n : Int))) = xs.take n := by
  unfold cutV
  have e0 : HT.sIx xs.length 0 none = 0 := rfl
  have e1 : HT.sIx xs.length xs.length (some (n : Int)) = min n xs.length := HT.sIx_nat _ _ _
  rw [e0, e1, List.drop_zero, Nat.sub_zero]
  by_cases h : n ≤ xs.length
  · rw [Nat.min_eq_left h]
  · rw [Nat.min_eq_right (by omega), List.take_of_length_le (Nat.le_refl _), List.take_of_length_le (by omega)]
theorem cutV_len_le {xs : List V} {lo hi : Option Int} : (cutV xs lo hi).length ≤ xs.length := by
  unfold cutV; rw [List.length_take, List.length_drop]; omega
end Hw
namespace Hw
open PySem L2
theorem hu65_of {A : Around} {k : Nat} (hr : Room k A) : A.units + 65 < cLine := by have := hr.un; omega
end Hw

namespace Hw
open PySem L2
local macro_rules | `(tactic| walk_at "set") => `(tactic| first | exact set0 | (apply setS; walk_at "set") | fail)
local macro_rules | `(tactic| walk_at "mem") => `(tactic| first | assumption | exact List.Mem.head _ | (apply List.Mem.tail; walk_at "mem") | fail)
local macro_rules | `(tactic| walk_at "put") => `(tactic| first | exact Put.hd | (apply Put.tl; walk_at "put") | fail)
local macro_rules | `(tactic| walk_at "gq") => `(tactic| first | assumption | exact sql_of (by assumption) | (refine Same.seq (by assumption) ?_; walk_at "gq") | fail)
local macro_rules | `(tactic| walk_at "same") => `(tactic| first | exact Same.refl _ | assumption | (refine Same.trans ?_ (by assumption); walk_at "same") | fail)
local macro_rules | `(tactic| walk_at "ga") => `(tactic| first | assumption | (refine (show Same _ _ by assumption) _ _ ?_; walk_at "ga") | fail)
local macro_rules | `(tactic| walk_at "gt") => `(tactic| first | assumption | exact sqt_of (by assumption) | (refine same_t (by assumption) ?_; walk_at "gt") | fail)
local macro_rules | `(tactic| walk_at "at") => `(tactic| (apply Sy.at; (· assumption); (· walk_at "mem")))
local macro_rules | `(tactic| walk_at "sq") => `(tactic| first | (apply Sy.seq; (· assumption); (· walk_at "mem")) | (apply Sy.fr; (· assumption); (· walk_at "gq")) | assumption | fail)
local macro_rules | `(tactic| walk_at "sqt") => `(tactic| first | (apply same_t; (· exact Sy.frz (by assumption)); (· walk_at "gt")) | assumption | fail)
local macro_rules | `(tactic| walk_at "hl") => `(tactic| first | walk_at "at" | exact (Sy.frz (by assumption)) _ _ (by walk_at "ga") | assumption | fail)
local macro_rules | `(tactic| walk_at "ht") => `(tactic| first | exact (Sy.frz (by assumption)) _ _ (by walk_at "ga") | assumption | fail)
local macro_rules | `(tactic| walk_at "hd") => `(tactic| first | walk_at "at" | exact (Sy.frz (by assumption)) _ _ (by walk_at "ga") | assumption | fail)
local macro_rules | `(tactic| walk_at "bag") => `(tactic| first | assumption | exact BagIn.hd | (apply BagIn.cons; walk_at "bag") | fail)
local macro_rules | `(tactic| walk_at "ix") => `(tactic| first | rfl | assumption | fail)
local macro_rules | `(tactic| walk_at "sz") => `(tactic| exact Nat.lt_of_lt_of_le (show _ < 100001 by simp only [List.length_append, List.length_cons, List.length_nil] <;> omega) (by decide))
local macro_rules | `(tactic| walk_at "side") => `(tactic| first | exact Or.inl (Or.inr (by omega)) | exact Or.inl (Or.inl (by omega)) | omega | (exact ⟨by omega, by decide +kernel, by decide +kernel⟩) | walk_at "wide" | fail)
local macro_rules | `(tactic| walk_at "wide") => `(tactic| first
  | exact Or.inr (wide_mul (a := 70) (b := 70) (by omega) (by omega) (by decide) (by decide) (by decide))
  | exact wide_div (b := 70) (by omega) (by omega) (by decide) (by decide)
  | exact wide_div (b := 200) (by omega) (by assumption) (by decide) (by decide)
  | fail)
local macro_rules | `(tactic| walk_at "st0") => `(tactic| first
  | with_reducible apply s_seq
  | with_reducible apply s_asg
  | ((with_reducible apply t_var); (· rfl))
  | ((with_reducible apply g_name); (· walk_at "set"))
  | with_reducible apply t_c
  | with_reducible apply t_op
  | with_reducible apply t_cons
  | with_reducible apply t_nil
  | with_reducible apply t_cb
  | with_reducible apply t_hwc
  | with_reducible apply s_if
  | with_reducible apply c_test
  | with_reducible apply c_b
  | with_reducible apply bl_ex
  | with_reducible apply i_not
  | with_reducible apply iteT
  | with_reducible apply iteF
  | with_reducible apply s_ret
  | with_reducible apply s_next
  | with_reducible apply s_drop
  | with_reducible apply c_and
  | with_reducible apply c_or
  | with_reducible apply c_not
  | with_reducible apply c_yes
  | with_reducible apply t_andv
  | with_reducible apply t_orv
  | with_reducible apply t_notv
  | with_reducible apply t_un
  | with_reducible apply t_chain
  | with_reducible apply t_ifx
  | with_reducible apply t_tup
  | with_reducible apply t_lst
  | with_reducible apply t_dnew
  | with_reducible apply t_fld
  | with_reducible apply t_sl
  | with_reducible apply t_nopart
  | with_reducible apply t_part
  | with_reducible apply int_ex
  | with_reducible apply t_hwm
  | with_reducible apply t_bm
  | with_reducible apply t_bm0
  | with_reducible apply s_augs
  | with_reducible apply s_fldset
  | with_reducible apply s_par
  | with_reducible apply g_cons
  | with_reducible apply g_nil
  | with_reducible apply g_sub
  | with_reducible apply s_cont
  | with_reducible apply s_retN
  | with_reducible apply t_lc
  | with_reducible apply i_list
  | with_reducible apply i_tup
  | with_reducible apply i_enum
  | with_reducible apply s_for
  | with_reducible apply i_rng1
  | with_reducible apply i_rng2
  | ((with_reducible apply s_par2); (· walk_at "set"); (· walk_at "set"))
  | fail)
local macro_rules | `(tactic| walk_at "st1") => `(tactic| first
  | with_reducible apply isi_ii
  | with_reducible apply isi_ib
  | with_reducible apply isi_is
  | with_reducible apply isi_il
  | with_reducible apply isi_it
  | with_reducible apply isi_bi
  | with_reducible apply isi_bb
  | with_reducible apply isi_bs
  | with_reducible apply isi_bL
  | with_reducible apply isi_bt
  | with_reducible apply isi_ni
  | with_reducible apply isi_nb
  | with_reducible apply isi_ns
  | with_reducible apply isi_nl
  | with_reducible apply isi_nt
  | with_reducible apply isi_si
  | with_reducible apply isi_sb
  | with_reducible apply isi_ss
  | with_reducible apply isi_sl
  | with_reducible apply isi_st
  | with_reducible apply o_pow18
  | with_reducible apply o_pow17
  | with_reducible apply o_pow16
  | with_reducible apply o_pow9
  | with_reducible apply o_pow6
  | with_reducible apply o_pow15
  | with_reducible apply o_pow20
  | with_reducible apply o_pow30
  | with_reducible apply o_pow40
  | with_reducible apply o_addI
  | with_reducible apply o_i0
  | with_reducible apply o_neg
  | with_reducible apply o_ipI
  | with_reducible apply o_eqI
  | with_reducible apply o_neI
  | with_reducible apply o_isNI
  | with_reducible apply o_isNN
  | with_reducible apply o_isNR
  | with_reducible apply o_isNS
  | with_reducible apply o_isNB
  | with_reducible apply o_ntNI
  | with_reducible apply o_ntNN
  | with_reducible apply o_ntNR
  | with_reducible apply o_ntNS
  | with_reducible apply o_ntNB
  | with_reducible apply o_eqB
  | with_reducible apply o_neB
  | with_reducible apply o_eqS
  | with_reducible apply o_neS
  | with_reducible apply o_eqNI
  | with_reducible apply o_eqIN
  | with_reducible apply o_eqNN
  | with_reducible apply o_neNI
  | with_reducible apply o_neIN
  | with_reducible apply o_neNN
  | with_reducible apply o_isB
  | with_reducible apply o_abs
  | ((with_reducible apply o_iC); (· walk_at "side"))
  | ((with_reducible apply o_mulI); (· walk_at "side"))
  | ((with_reducible apply o_ixL); (· walk_at "sq"); (· walk_at "ix"))
  | ((with_reducible apply o_ixT); (· walk_at "sqt"); (· walk_at "ix"))
  | ((with_reducible apply o_get); (· walk_at "at"); (· decide); (· rfl))
  | ((with_reducible apply o_setL); (· assumption); (· walk_at "at"); (· rfl); (· walk_at "put"); intro _ _)
  | ((with_reducible apply o_app); (· assumption); (· walk_at "at"); (· walk_at "sz"); (· walk_at "put"); intro _ _)
  | ((with_reducible apply o_lenL); (· walk_at "sq"))
  | ((with_reducible apply o_lenT); (· walk_at "sqt"))
  | ((with_reducible apply ty_lst); (· walk_at "sq"))
  | ((with_reducible apply n_lst); (· assumption); (· exact Nat.le_of_ble_eq_true rfl); intro _ _ _)
  | ((with_reducible apply n_tup); (· assumption); (· exact Nat.le_of_ble_eq_true rfl); intro _ _ _ _ _ _)
  | ((with_reducible apply n_any); (· assumption); intro _ _ _)
  | ((with_reducible apply o_slL); (· walk_at "sq"))
  | ((with_reducible apply it_list); (· walk_at "sq"))
  | ((with_reducible apply it_enum); (· walk_at "sq"))
  | ((with_reducible apply it_tup); (· walk_at "sqt"))
  | ((with_reducible first | apply isi_li | apply isi_lb | apply isi_ls | apply isi_ll | apply isi_lt); (· walk_at "hl"))
  | ((with_reducible first | apply isi_ti | apply isi_tb | apply isi_ts | apply isi_tl | apply isi_tt); (· walk_at "ht"))
  | ((with_reducible first | apply isi_di | apply isi_db | apply isi_ds | apply isi_dl | apply isi_dt); (· walk_at "hd"))
  | ((with_reducible apply lc_wp); (· rfl))
  | ((with_reducible apply o_str); (· omega))
  | ((with_reducible apply t_disp1); (· assumption); intro _ _ _)
  | ((with_reducible apply n_disp); (· assumption); (· walk_at "at"); (· walk_at "put"); intro _ _)
  | ((with_reducible apply it_rng1); (· omega))
  | ((with_reducible apply it_rng2); (· omega))
  | ((with_reducible apply o_listL); (· walk_at "sq"))
  | ((with_reducible apply i_decT); (· first | assumption | omega | fail))
  | ((with_reducible apply i_decF); (· first | assumption | omega | fail))
  | ((with_reducible apply i_dec) <;> intro _)
  | ((with_reducible apply i_boolT); (· assumption))
  | ((with_reducible apply i_boolF); (· assumption))
  | ((with_reducible apply i_bool) <;> intro _)
  | fail)
local macro_rules | `(tactic| walk_at "call") => `(tactic| fail)
local macro_rules | `(tactic| walk_at "st") => `(tactic| first | walk_at "st0" | walk_at "st1" | walk_at "call" | fail)
local macro_rules | `(tactic| walk_at "stm") => `(tactic| first | ((with_reducible apply o_modL); (· first | assumption | omega | fail); intro _ _ _) | fail)
local macro_rules | `(tactic| walk_at "runm") => `(tactic| repeat' first | walk_at "st0" | walk_at "stm" | walk_at "st1" | walk_at "call")
local macro_rules | `(tactic| walk_at "run") => `(tactic| repeat' walk_at "st")

section
variable {K : PySem.W.Frag} {mg : Str → Option Value}
def t_is_whole (K : PySem.W.Frag) (mg : Str → Option Value) (E : XK) : TS :=
  (tRet (tAndV (tCB (rIsi K) (tCons (tVar 0) (tCons (tC (.ty "int")) tNil))) (tNotV (tCB (rIsi K) (tCons (tVar 0) (tCons (tC (.ty "bool")) tNil))))))
def sp_is_whole (K : PySem.W.Frag) (mg : Str → Option Value) : Sp := sp1 fun x H Q _ => Kd H x ∧ Q (.bl (isI x && !isB x)) H
theorem r_is_whole {x : V} {H : Hp} {Q : VK} {E : XK} (hk : Kd H x) (q : Q (.bl (isI x && !isB x)) H) : t_is_whole K mg E { nx := fun _ H' => Q .non H', rt := Q } [some x] H := by
  unfold t_is_whole
  walk_at "run"
  refine isi_int hk ?_
  walk_at "run"
  · rename_i h
    refine isi_bool hk ?_
    walk_at "run"
    rw [h, Bool.true_and] at q; exact q
  · rename_i h
    rw [h, Bool.false_and] at q; exact q
def isNum : V → Bool
  | .int i => decide (0 ≤ i) && decide (i ≤ 1000000000000000000)
  | _ => false
def t_is_number (K : PySem.W.Frag) (mg : Str → Option Value) (E : XK) : TS :=
  (tRet (tAndV (tHwC (sp_is_whole K mg) [] (fun _ => E) (tCons (tVar 0) tNil)) (tChain (rI0 fun i j => .bl (decide (i ≤ j))) (rI0 fun i j => .bl (decide (i ≤ j))) (tC (.int 0)) (tVar 0) (tC (.int 1000000000000000000)))))
def sp_is_number (K : PySem.W.Frag) (mg : Str → Option Value) : Sp := sp1 fun x H Q _ => Kd H x ∧ Q (.bl (isNum x)) H
theorem u_is_whole {x : V} {H : Hp} {Q : VK} {E : XK} (hk : Kd H x) (q : Q (.bl (isI x && !isB x)) H) : sp_is_whole K mg [x] H Q E := ⟨x, rfl, hk, q⟩
theorem r_is_number {x : V} {H : Hp} {Q : VK} {E : XK} (hk : Kd H x) (q : Q (.bl (isNum x)) H) : t_is_number K mg E { nx := fun _ H' => Q .non H', rt := Q } [some x] H := by
  unfold t_is_number
  walk_at "run"
  refine u_is_whole hk ?_
  cases hk with
  | int i =>
    show ∃ c, V.bl true = .bl c ∧ _
    walk_at "run"
    · rename_i h1
      have e : isNum (.int i) = decide (i ≤ 1000000000000000000) := by simp [isNum, h1]
      rw [e] at q; exact q
    · rename_i h1
      have e : isNum (.int i) = false := by simp [isNum, h1]
      rw [e] at q; exact q
  | bl b => exact bl_ex (iteF q)
  | non => exact bl_ex (iteF q)
  | str x => exact bl_ex (iteF q)
  | lst h => exact bl_ex (iteF q)
  | tup h => exact bl_ex (iteF q)
  | dk h => exact bl_ex (iteF q)
def t__law_bag (K : PySem.W.Frag) (mg : Str → Option Value) (E : XK) : TS :=
  (tRet (tLst (tCons (tC (.int 0)) (tCons (tC (.int 1234567891)) (tCons (tC (.int 0)) (tCons (tLc (iList K (tSl (rSlU K) (tVar 0) tNoPart (tPart (tC (.int 63))))) (gName 1) tYes (tCB rAbs (tCons (tVar 1) tNil)) [1]) tNil))))))
def sp__law_bag (K : PySem.W.Frag) (mg : Str → Option Value) : Sp := sp1 fun x H Q _ => ∃ (G : Hp) (L : Lg) (a : Addr) (ns : List Int), x = .ref a ∧ Sy G L H ∧ SqL K G a (ns.map V.int) ∧ ns.length ≤ 100000 ∧ ∀ b cs H', Sy G ((b, Bag cs) :: (cs, Cells) :: L) H' → Q (.ref b) H'
theorem r__law_bag {G : Hp} {L : Lg} {a : Addr} {ns : List Int} {H : Hp} {Q : VK} {E : XK} (S : Sy G L H) (hs : SqL K G a (ns.map V.int)) (hn : ns.length ≤ 100000) (q : ∀ b cs H', Sy G ((b, Bag cs) :: (cs, Cells) :: L) H' → Q (.ref b) H') :
    t__law_bag K mg E { nx := fun _ H' => Q .non H', rt := Q } [some (.ref a), none] H := by
  unfold t__law_bag
  walk_at "run"
  refine lc_sy (K := K) (xs := cutV (ns.map V.int) none (some 63)) (by assumption) (fun G' H' acc D s S' => by walk_at "sq") (fun i acc G' => ∃ ms : List Int, acc = ms.map V.int ∧ ∀ m ∈ ms, 0 ≤ m) ⟨[], rfl, fun _ h => (nomatch h)⟩ ?_ ?_ ?_
  · exact Nat.le_trans cutV_len_le (by rw [List.length_map]; exact hn)
  · rintro i x acc D G' H' P N hx s S' ⟨ms, rfl, hm⟩ kP _
    obtain ⟨n, _, rfl⟩ := List.mem_map.mp (cutV_mem (List.mem_of_getElem? hx))
    walk_at "run"
    refine kP _ _ _ (Same.refl _) S' ⟨ms ++ [if n < 0 then -n else n], by rw [List.map_append]; rfl, fun m hm2 => ?_⟩
    rcases List.mem_append.mp hm2 with h | h
    · exact hm m h
    · rw [List.mem_singleton.mp h]; split <;> omega
  · rintro D acc G' H' s S' ⟨ms, rfl, hm⟩ hl
    walk_at "run"
    rename_i S3
    have e63 : (cutV (ns.map V.int) none (some 63)).length ≤ 63 := by
      have e : cutV (ns.map V.int) none (some 63) = (ns.map V.int).take 63 := cutV_to (n := 63)
      rw [e, List.length_take]; omega
    refine q _ _ _ (((S3.drop3.weak s).wide ?_).wide2 ?_)
    · rintro o rfl
      exact ⟨0, 1234567891, 0, rfl, by omega, by omega, by omega, by omega⟩
    · rintro o rfl
      exact ⟨ms, rfl, by rw [List.length_map] at hl; omega, hm⟩
theorem u__law_bag {G : Hp} {L : Lg} {a : Addr} {ns : List Int} {H : Hp} {Q : VK} {E : XK} (S : Sy G L H) (hs : SqL K G a (ns.map V.int)) (hn : ns.length ≤ 100000) (q : ∀ b cs H', Sy G ((b, Bag cs) :: (cs, Cells) :: L) H' → Q (.ref b) H') : sp__law_bag K mg [.ref a] H Q E := ⟨_, rfl, G, L, a, ns, rfl, S, hs, hn, q⟩
theorem u_is_number {x : V} {H : Hp} {Q : VK} {E : XK} (hk : Kd H x) (q : Q (.bl (isNum x)) H) : sp_is_number K mg [x] H Q E := ⟨x, rfl, hk, q⟩
theorem R_is_whole {vs H Q E} (h : sp_is_whole K mg vs H Q E) : t_is_whole K mg E { nx := fun _ H' => Q .non H', rt := Q } (start ["thing"] vs) H := by obtain ⟨x, rfl, hk, q⟩ := h; exact r_is_whole hk q
theorem R_is_number {vs H Q E} (h : sp_is_number K mg vs H Q E) : t_is_number K mg E { nx := fun _ H' => Q .non H', rt := Q } (start ["thing"] vs) H := by obtain ⟨x, rfl, hk, q⟩ := h; exact r_is_number hk q
theorem R__law_bag {vs H Q E} (h : sp__law_bag K mg vs H Q E) : t__law_bag K mg E { nx := fun _ H' => Q .non H', rt := Q } (start ["_law_script", "_law_cell"] vs) H := by obtain ⟨x, rfl, G, L, a, ns, rfl, S, hs, hn, q⟩ := h; exact r__law_bag S hs hn q
end

section
variable {K : PySem.W.Frag} {mg : Str → Option Value}
def t__law_take (K : PySem.W.Frag) (mg : Str → Option Value) (E : XK) : TS :=
  (tSeq (tIfS (tTest (tOp (rEqU K) (tOp (rIxU K) (tVar 0) (tC (.int 0))) (tC (.int 0)))) (tSeq (tAsg (tC (.int 0)) (gName 2))
    (tSeq (tIfS (tTest (tOp (rI0 fun i j => .bl (decide (i < j))) (tOp (rIxU K) (tVar 0) (tC (.int 2))) (tCB (rLenU K) (tCons (tOp (rIxU K) (tVar 0) (tC (.int 3))) tNil)))) (tAsg (tOp (rIxU K) (tOp (rIxU K) (tVar 0) (tC (.int 3))) (tOp (rIxU K) (tVar 0) (tC (.int 2)))) (gName 2)) tNext)
    (tSeq (tAugS (tVar 0) (tC (.int 2)) (tC (.int 1)) rGetU (ipI fun i j => i + j) rSetU)
    (tSeq (tIfS (tTest (tOp (rI0 fun i j => .bl (decide (j ≤ i))) (tVar 2) (tC (.int 1000000000000000000)))) (tAsg (tVar 2) (gSub (tVar 0) (tC (.int 0)) rSetU)) tNext)
    (tAsg (tOp (rI (fun _ j => 0 < j) fun i j => .int (i % j)) (tOp (rAddU K) (tOp (rAddU K) (tOp rMulU (tOp (rIxU K) (tVar 0) (tC (.int 1))) (tC (.int 48271))) (tOp (rI (fun _ j => 0 < j) fun i j => .int (i % j)) (tVar 2) (tC (.int 2147483647)))) (tOp rMulU (tC (.int 7919)) (tOp (rIxU K) (tVar 0) (tC (.int 2))))) (tC (.int 2147483647))) (gSub (tVar 0) (tC (.int 1)) rSetU)))))) tNext)
    (tSeq (tIfS (tTest (tOp (rI0 fun i j => .bl (decide (j < i))) (tOp (rIxU K) (tVar 0) (tC (.int 0))) (tC (.int 0)))) (tSeq (tAsg (tOp (rI (fun _ j => 0 < j) fun i j => .int (i % j)) (tOp (rIxU K) (tVar 0) (tC (.int 0))) (tVar 1)) (gName 3))
    (tSeq (tAsg (tOp (rI CDivW fun i j => .int (i / j)) (tOp (rIxU K) (tVar 0) (tC (.int 0))) (tVar 1)) (gSub (tVar 0) (tC (.int 0)) rSetU))
    (tRet (tVar 3)))) tNext)
    (tSeq (tAsg (tOp (rI (fun _ j => 0 < j) fun i j => .int (i % j)) (tOp rMulU (tOp (rAddU K) (tOp (rIxU K) (tVar 0) (tC (.int 1))) (tC (.int 1))) (tC (.int 39373))) (tC (.int 1000000007))) (gName 4))
    (tSeq (tAsg (tOp (rI (fun _ j => 0 < j) fun i j => .int (i % j)) (tOp rMulU (tOp (rI (fun _ j => 0 < j) fun i j => .int (i % j)) (tOp rMulU (tVar 4) (tVar 4)) (tC (.int 998244353))) (tC (.int 30011))) (tC (.int 998244353))) (gName 5))
    (tSeq (tIfS (tTest (tOp (rI0 fun i j => .bl (decide (j < i))) (tVar 1) (tC (.int 1000000)))) (tRet (tOp (rI (fun _ j => 0 < j) fun i j => .int (i % j)) (tOp (rAddU K) (tOp rMulU (tVar 5) (tC (.int 1000000007))) (tVar 4)) (tVar 1))) tNext)
    (tRet (tOp (rI (fun _ j => 0 < j) fun i j => .int (i % j)) (tOp (rI CDivW fun i j => .int (i / j)) (tVar 5) (tC (.int 7))) (tVar 1))))))))
def sp__law_take (K : PySem.W.Frag) (mg : Str → Option Value) : Sp := sp2 fun x y H Q _ => ∃ G L b m, x = .ref b ∧ y = .int m ∧ Sy G L H ∧ BagIn b L ∧ 0 < m ∧ m.natAbs < 2 ^ 200 ∧ ∀ v H', Sy G L H' → 0 ≤ v → v < m → Q (.int v) H'
theorem r__law_take {G : Hp} {L : Lg} {b : Addr} {m : Int} {H : Hp} {Q : VK} {E : XK} (S : Sy G L H) (hb : BagIn b L) (h0 : 0 < m) (hm : m.natAbs < 2 ^ 200) (q : ∀ v H', Sy G L H' → 0 ≤ v → v < m → Q (.int v) H') :
    t__law_take K mg E { nx := fun _ H' => Q .non H', rt := Q } [some (.ref b), some (.int m), none, none, none, none] H := by
  unfold t__law_take
  obtain ⟨cs, hb1, hb2⟩ := hb
  obtain ⟨o, ho, c, s, i, rfl, c0, s0, s1, i0⟩ := S.get _ hb1
  obtain ⟨o2, ho2, ns, rfl, n63, n0⟩ := S.get _ hb2
  have hne : cs ≠ b := fun z => by
    subst z
    have e := HO.lst.inj (Option.some.inj (ho.symm.trans ho2))
    have e3 := congrArg (fun l : List V => l[3]?) e
    simp only [List.getElem?_map] at e3
    cases h3 : ns[3]? with
    | none => rw [h3] at e3; cases e3
    | some n => rw [h3] at e3; cases e3
  have S2 := S.focus ho
  have gcs : SqL K (del H b) cs (ns.map V.int) := .inl (.inl (by rw [del_ne hne]; exact ho2))
  have un : ∀ {H' : Hp} {c s i : Int}, Sy (del H b) [(b, Is (.lst [.int c, .int s, .int i, .ref cs]))] H' → 0 ≤ c → 0 ≤ s → s < 2147483647 → 0 ≤ i → Sy G L H' :=
    fun {H' c s i} S3 a1 a2 a3 a4 => S.unfocus hb1 S3 ⟨c, s, i, rfl, a1, a2, a3, a4⟩
  have md : ∀ x : Int, 0 ≤ x % m ∧ x % m < m := fun x => ⟨Int.emod_nonneg _ (by omega), Int.emod_lt_of_pos _ h0⟩
  walk_at "runm"
  · rename_i hi
    rw [List.length_map] at hi
    obtain ⟨n, hn, hm2⟩ := atI_ints i0 hi
    have hn0 := n0 n hm2
    refine o_ixL (by walk_at "sq") hn ?_
    walk_at "runm"
    · rename_i z0 z1 _ _ _ _ v v0 v1 _ S3
      exact q _ _ (un S3 (Int.ediv_nonneg hn0 (by omega)) (by assumption) (by assumption) (by omega)) (by assumption) (by assumption)
    · rename_i S3 _ _ _ _ _ _ _ _ _ _ v v0 v1
      exact q _ _ (un S3 c0 (by assumption) (by assumption) (by omega)) v0 v1
    · rename_i S3 _ _ _ _ _ _ _ _ _ _ v v0 v1
      exact q _ _ (un S3 c0 (by assumption) (by assumption) (by omega)) v0 v1
  · rename_i S3 _ _ _ _ _ _ _ _ _ _ v v0 v1
    exact q _ _ (un S3 c0 (by assumption) (by assumption) (by omega)) v0 v1
  · rename_i S3 _ _ _ _ _ _ _ _ _ _ v v0 v1
    exact q _ _ (un S3 c0 (by assumption) (by assumption) (by omega)) v0 v1
  · rename_i v v0 v1 _ S3
    exact q _ _ (un S3 (Int.ediv_nonneg c0 (by omega)) s0 s1 i0) v0 v1
theorem u__law_take {G : Hp} {L : Lg} {b : Addr} {m : Int} {H : Hp} {Q : VK} {E : XK} (S : Sy G L H) (hb : BagIn b L) (h0 : 0 < m) (hm : m.natAbs < 2 ^ 200) (q : ∀ v H', Sy G L H' → 0 ≤ v → v < m → Q (.int v) H') : sp__law_take K mg [.ref b, .int m] H Q E :=
  ⟨_, _, rfl, G, L, b, m, rfl, rfl, S, hb, h0, hm, q⟩
theorem R__law_take {vs H Q E} (h : sp__law_take K mg vs H Q E) : t__law_take K mg E { nx := fun _ H' => Q .non H', rt := Q } (start ["_law_bag_here", "_law_many", "_law_cell", "_law_value", "_law_first", "_law_second"] vs) H := by obtain ⟨x, y, rfl, G, L, b, m, rfl, rfl, S, hb, h0, hm, q⟩ := h; exact r__law_take S hb h0 hm q
end

local macro_rules | `(tactic| walk_at "call") => `(tactic| ((with_reducible apply u__law_take); (· assumption); (· walk_at "bag"); (· omega); (· omega); intro _ _ _ _ _))
section
variable {K : PySem.W.Frag} {mg : Str → Option Value}
def t__law_thing (K : PySem.W.Frag) (mg : Str → Option Value) (E : XK) : TS :=
  (tSeq (tAsg (tHwC (sp__law_take K mg) [] (fun _ => E) (tCons (tVar 0) (tCons (tC (.int 8)) tNil))) (gName 1))
    (tSeq (tAsg (tOp (rIxU K) (tLst (tCons (tC (.int 3)) (tCons (tOp (rI CPow fun i j => .int (i ^ j.toNat)) (tC (.int 10)) (tC (.int 18))) (tCons (tOp (rI CPow fun i j => .int (i ^ j.toNat)) (tC (.int 10)) (tC (.int 40))) (tCons (tC (.int 9)) tNil))))) (tHwC (sp__law_take K mg) [] (fun _ => E) (tCons (tVar 0) (tCons (tC (.int 4)) tNil)))) (gName 2))
    (tSeq (tAsg (tHwC (sp__law_take K mg) [] (fun _ => E) (tCons (tVar 0) (tCons (tVar 2) tNil))) (gName 3))
    (tSeq (tIfS (tTest (tOp (rEqU K) (tVar 2) (tC (.int 9)))) (tAsg (tOp rMulU (tOp (rI CPow fun i j => .int (i ^ j.toNat)) (tC (.int 10)) (tC (.int 18))) (tOp (rAddU K) (tC (.int 1)) (tVar 3))) (gName 3)) tNext)
    (tSeq (tIfS (tTest (tOp (rEqU K) (tVar 1) (tC (.int 0)))) (tRet (tOp (rAddU K) (tOp (rI0 fun i j => .int (i - j)) (tOp (rI CPow fun i j => .int (i ^ j.toNat)) (tC (.int 10)) (tC (.int 18))) (tC (.int 1))) (tHwC (sp__law_take K mg) [] (fun _ => E) (tCons (tVar 0) (tCons (tC (.int 3)) tNil))))) tNext)
    (tSeq (tIfS (tTest (tOp (rEqU K) (tVar 1) (tC (.int 1)))) (tRet (tOp (rI0 fun i j => .int (i - j)) (tUn (rU fun i => .int (-i)) (tC (.int 1))) (tVar 3))) tNext)
    (tSeq (tIfS (tTest (tOp (rI0 fun i j => .bl (decide (i < j))) (tVar 1) (tC (.int 5)))) (tRet (tVar 3)) tNext)
    (tSeq (tAsg (tLst (tCons (tC (.bl true)) (tCons (tC (.bl false)) (tCons (tC .non) (tCons (tCB rStrU (tCons (tOp (rI (fun _ j => 0 < j) fun i j => .int (i % j)) (tVar 3) (tC (.int 1000))) tNil)) (tCons (tC (.str "")) (tCons (tLst (tCons (tVar 3) tNil)) (tCons (tTup (tCons (tVar 3) tNil)) (tCons tDNewK (tCons (tDisp [((tVar 3), (tVar 3))]) (tCons (tLst tNil) (tCons (tTup tNil) (tCons (tC (.str "1.0")) tNil))))))))))))) (gName 4))
    (tRet (tOp (rIxU K) (tVar 4) (tHwC (sp__law_take K mg) [] (fun _ => E) (tCons (tVar 0) (tCons (tC (.int 12)) tNil)))))))))))))
def sp__law_thing (K : PySem.W.Frag) (mg : Str → Option Value) : Sp := sp1 fun x H Q _ => ∃ (G : Hp) (L : Lg) (b : Addr), x = .ref b ∧ Sy G L H ∧ BagIn b L ∧ ∀ v G' H', Same G G' → Sy G' L H' → Kd G' v → Q v H'
theorem r__law_thing {G : Hp} {L : Lg} {b : Addr} {H : Hp} {Q : VK} {E : XK} (S : Sy G L H) (hb : BagIn b L) (q : ∀ v G' H', Same G G' → Sy G' L H' → Kd G' v → Q v H') :
    t__law_thing K mg E { nx := fun _ H' => Q .non H', rt := Q } [some (.ref b), none, none, none, none] H := by
  unfold t__law_thing
  walk_at "run"
  rename_i S2 v H2 S3 v0 v1
  refine o_ixLP (P := fun x => ∃ f : Int, x = .int f ∧ 0 < f ∧ f < 2 ^ 140) (by walk_at "sq") v0 v1 ?_ ?_
  · intro x hx
    simp only [List.mem_cons, List.not_mem_nil, or_false] at hx
    rcases hx with rfl | rfl | rfl | rfl <;> exact ⟨_, rfl, by decide, by decide⟩
  rintro _ ⟨f, rfl, f0, f1⟩
  have S4 := S3.drop
  clear S3 S2
  walk_at "run"
  all_goals first | exact q _ _ _ (Same.refl _) (by assumption) (.int _) | skip
  all_goals
    rename_i S9 z0 z1
    obtain ⟨Gf, sf, Sf, hf⟩ := Sy.freeze (E := [_, _, _, _, _]) S9
    refine o_ixLP (P := Kd Gf) (S9.seq (by walk_at "mem")) z0 z1 ?_ (fun v hk => q v Gf _ (by walk_at "same") Sf hk)
    intro x hx
    simp only [List.mem_cons, List.not_mem_nil, or_false] at hx
    rcases hx with rfl | rfl | rfl | rfl | rfl | rfl | rfl | rfl | rfl | rfl | rfl | rfl
    · exact .bl _
    · exact .bl _
    · exact .non
    · exact .str _
    · exact .str _
    · exact .lst (hf _ _ (by walk_at "mem"))
    · exact .tup (by walk_at "ga")
    · exact .dk (hf _ _ (by walk_at "mem"))
    · exact .dk (hf _ _ (by walk_at "mem"))
    · exact .lst (hf _ _ (by walk_at "mem"))
    · exact .tup (by walk_at "ga")
    · exact .str _
theorem u__law_thing {G : Hp} {L : Lg} {b : Addr} {H : Hp} {Q : VK} {E : XK} (S : Sy G L H) (hb : BagIn b L) (q : ∀ v G' H', Same G G' → Sy G' L H' → Kd G' v → Q v H') : sp__law_thing K mg [.ref b] H Q E := ⟨_, rfl, G, L, b, rfl, S, hb, q⟩
theorem R__law_thing {vs H Q E} (h : sp__law_thing K mg vs H Q E) : t__law_thing K mg E { nx := fun _ H' => Q .non H', rt := Q } (start ["_law_bag_here", "_law_way", "_law_far", "_law_number", "_law_some"] vs) H := by obtain ⟨x, rfl, G, L, b, rfl, S, hb, q⟩ := h; exact r__law_thing S hb q
end

local macro_rules | `(tactic| walk_at "call") => `(tactic| ((with_reducible apply u__law_thing); (· assumption); (· walk_at "bag"); intro _ _ _ _ _ _))
local macro_rules | `(tactic| walk_at "call") => `(tactic| ((with_reducible apply u__law_bag); (· assumption); (· assumption); (· omega); intro _ _ _ _))
section
variable {K : PySem.W.Frag} {mg : Str → Option Value}
def t_law (K : PySem.W.Frag) (mg : Str → Option Value) (E : XK) : TS :=
  (tSeq (tAsg (tHwC (sp__law_bag K mg) [] (fun _ => E) (tCons (tVar 0) tNil)) (gName 1))
    (tSeq (tFor (iRng1 (tCons (tC (.int 24)) tNil)) (gName 2) (tSeq (tAsg (tHwC (sp__law_thing K mg) [] (fun _ => E) (tCons (tVar 1) tNil)) (gName 3))
    (tSeq (tAsg (tAndV (tCB (rIsi K) (tCons (tVar 3) (tCons (tC (.ty "int")) tNil))) (tAndV (tNotV (tCB (rIsi K) (tCons (tVar 3) (tCons (tC (.ty "bool")) tNil)))) (tChain (rI0 fun i j => .bl (decide (i ≤ j))) (rI0 fun i j => .bl (decide (i ≤ j))) (tC (.int 0)) (tVar 3) (tOp (rI CPow fun i j => .int (i ^ j.toNat)) (tC (.int 10)) (tC (.int 18)))))) (gName 4))
    (tSeq (tAsg (tHwC (sp_is_number K mg) [] (fun _ => E) (tCons (tVar 3) tNil)) (gName 5))
    (tIfS (tOr (tNot (tB (tCB (rIsi K) (tCons (tVar 5) (tCons (tC (.ty "bool")) tNil))))) (tTest (tOp (rNeU K) (tVar 5) (tVar 4)))) (tRet (tC (.bl false))) tNext)))))
    (tRet (tAndV (tOp rIsU (tHwC (sp_is_number K mg) [] (fun _ => E) (tCons (tOp (rI CPow fun i j => .int (i ^ j.toNat)) (tC (.int 10)) (tC (.int 18))) tNil)) (tC (.bl true))) (tAndV (tOp rIsU (tHwC (sp_is_number K mg) [] (fun _ => E) (tCons (tOp (rAddU K) (tOp (rI CPow fun i j => .int (i ^ j.toNat)) (tC (.int 10)) (tC (.int 18))) (tC (.int 1))) tNil)) (tC (.bl false))) (tOp rIsU (tHwC (sp_is_number K mg) [] (fun _ => E) (tCons (tC (.bl true)) tNil)) (tC (.bl false))))))))
def spLaw (K : PySem.W.Frag) : Sp := sp1 fun x H Q _ => ∃ (a : Addr) (ns : List Int), x = .ref a ∧ SqL K H a (ns.map V.int) ∧ ns.length ≤ 63 ∧ ∀ H', Q (.bl true) H'
theorem r_law {a : Addr} {ns : List Int} {H : Hp} {Q : VK} {E : XK} (hs : SqL K H a (ns.map V.int)) (hn : ns.length ≤ 63) (q : ∀ H', Q (.bl true) H') :
    t_law K mg E { nx := fun _ H' => Q .non H', rt := Q } [some (.ref a), none, none, none, none, none] H := by
  unfold t_law
  have S : Sy H [] H := Sy.same (Same.refl H)
  walk_at "run"
  rename_i b cs H1 S1
  refine f_range (fun i σ H' => ∃ G' k th du fo, σ = [some (.ref a), some (.ref b), k, th, du, fo] ∧ Same H G' ∧ Sy G' [(b, Bag cs), (cs, Cells)] H') ⟨_, _, _, _, _, rfl, Same.refl H, S1⟩ ?_ ?_
  · rintro i σ H2 hi ⟨G2, k, th, du, fo, rfl, s2, S2⟩
    walk_at "run"
    rename_i v G3 H3 s3 S3 hk
    have hkH : Kd H3 v := hk.mono S3.frz
    have done : ∀ du fo, ∃ G' k th du' fo', [some (V.ref a), some (V.ref b), some (V.int (0 + i)), some v, du, fo] = [some (.ref a), some (.ref b), k, th, du', fo'] ∧ Same H G' ∧ Sy G' [(b, Bag cs), (cs, Cells)] H3 :=
      fun du fo => ⟨G3, _, _, _, _, rfl, s2.trans s3, S3⟩
    have other : ∀ due : Bool, isNum v = due → ∃ G' k th du' fo', [some (V.ref a), some (V.ref b), some (V.int (0 + i)), some v, some (.bl due), some (.bl (isNum v))] = [some (.ref a), some (.ref b), k, th, du', fo'] ∧ Same H G' ∧ Sy G' [(b, Bag cs), (cs, Cells)] H3 := fun due _ => done _ _
    cases hk with
    | int n =>
      walk_at "run"
      · refine u_is_number hkH ?_
        rename_i h0
        have e : isNum (.int n) = decide (n ≤ 1000000000000000000) := by simp [isNum, h0]
        rw [e]
        walk_at "run"
        all_goals first | exact done _ _ | (rename_i h; exact absurd rfl h)
      · refine u_is_number hkH ?_
        rename_i h0
        have e : isNum (.int n) = false := by simp [isNum, h0]
        rw [e]
        walk_at "run"
        all_goals first | exact done _ _ | (rename_i h; exact absurd rfl h)
    | bl n => 
      walk_at "run"
      refine u_is_number hkH ?_
      walk_at "run"
      all_goals first | exact done _ _ | (rename_i h; exact absurd rfl h)
    | non =>
      walk_at "run"
      refine u_is_number hkH ?_
      walk_at "run"
      all_goals first | exact done _ _ | (rename_i h; exact absurd rfl h)
    | str z =>
      walk_at "run"
      refine u_is_number hkH ?_
      walk_at "run"
      all_goals first | exact done _ _ | (rename_i h; exact absurd rfl h)
    | lst z =>
      walk_at "run"
      refine u_is_number hkH ?_
      walk_at "run"
      all_goals first | exact done _ _ | (rename_i h; exact absurd rfl h)
    | tup z =>
      walk_at "run"
      refine u_is_number hkH ?_
      walk_at "run"
      all_goals first | exact done _ _ | (rename_i h; exact absurd rfl h)
    | dk z =>
      walk_at "run"
      refine u_is_number hkH ?_
      walk_at "run"
      all_goals first | exact done _ _ | (rename_i h; exact absurd rfl h)
  · rintro σ H2 ⟨G2, k, th, du, fo, rfl, s2, S2⟩
    walk_at "run"
    refine u_is_number (.int _) ?_
    walk_at "run"
    · refine u_is_number (.int _) ?_
      walk_at "run"
      · refine u_is_number (.bl _) ?_
        walk_at "run"
        exact q _
      · rename_i h; exact absurd rfl h
    · rename_i h; exact absurd rfl h
def sp_law (K : PySem.W.Frag) (mg : Str → Option Value) : Sp := spLaw K
theorem R_law {vs H Q E} (h : sp_law K mg vs H Q E) : t_law K mg E { nx := fun _ H' => Q .non H', rt := Q } (start ["_law_script", "_law_bag_here", "_law_k", "_law_thing_here", "_law_due", "_law_found"] vs) H := by obtain ⟨x, rfl, a, ns, rfl, hs, hn, q⟩ := h; exact r_law hs hn q
end

end Hw
namespace Hw
open PySem L2
def top (i : Nat) : Stmt := PySem.Challenge.pw_homeward_k11_numbers_known.main.body.getD i (.Pass ⟨0, 0, 0, 0⟩)
abbrev s__law_bag : Stmt := top 5
abbrev N__law_bag : List Str := ["_law_script", "_law_cell"]
theorem sc__law_bag : FnScope N__law_bag ["_law_script"] (defScope s__law_bag) := ⟨rfl, rfl, rfl, by decide +kernel, rfl, by decide +kernel, by decide +kernel⟩
abbrev s__law_take : Stmt := top 6
abbrev N__law_take : List Str := ["_law_bag_here", "_law_many", "_law_cell", "_law_value", "_law_first", "_law_second"]
theorem sc__law_take : FnScope N__law_take ["_law_bag_here", "_law_many"] (defScope s__law_take) := ⟨rfl, rfl, rfl, by decide +kernel, rfl, by decide +kernel, by decide +kernel⟩
abbrev s__law_thing : Stmt := top 7
abbrev N__law_thing : List Str := ["_law_bag_here", "_law_way", "_law_far", "_law_number", "_law_some"]
theorem sc__law_thing : FnScope N__law_thing ["_law_bag_here"] (defScope s__law_thing) := ⟨rfl, rfl, rfl, by decide +kernel, rfl, by decide +kernel, by decide +kernel⟩
abbrev s_is_whole : Stmt := top 2
abbrev N_is_whole : List Str := ["thing"]
theorem sc_is_whole : FnScope N_is_whole ["thing"] (defScope s_is_whole) := ⟨rfl, rfl, rfl, by decide +kernel, rfl, by decide +kernel, by decide +kernel⟩
abbrev s_is_number : Stmt := top 3
abbrev N_is_number : List Str := ["thing"]
theorem sc_is_number : FnScope N_is_number ["thing"] (defScope s_is_number) := ⟨rfl, rfl, rfl, by decide +kernel, rfl, by decide +kernel, by decide +kernel⟩
abbrev s_law : Stmt := top 8
abbrev N_law : List Str := ["_law_script", "_law_bag_here", "_law_k", "_law_thing_here", "_law_due", "_law_found"]
theorem sc_law : FnScope N_law ["_law_script"] (defScope s_law) := ⟨rfl, rfl, rfl, by decide +kernel, rfl, by decide +kernel, by decide +kernel⟩
section
variable {P : Program} {w : World} {K : PySem.W.Frag} {mg : Str → Option Value} {base : Heap}
theorem d__law_bag {f : Addr} {fd : FuncData} (F : Fun K "_law_bag" "_law_bag" s__law_bag f fd) (n_abs : mg "abs" = none) :
    FnOk P w K mg base (L2.CX P w) 1 f fd ["_law_script"] (sp__law_bag K mg) := by
  refine F.okX sc__law_bag len1 (fun cdv A outer s H vs Q E hr h => ⟨t__law_bag K mg E, ?_, R__law_bag h⟩)
  have nd := sc__law_bag.nd
  have hu1 := hu_of hr
  have hu64 := hr.units
  have hu65 := hu65_of hr
  have tk : Takes (cxOf (L2.CX P w) P w K mg base N__law_bag "_law_bag" (defScope s__law_bag) f cdv A outer s H E) (fun cls d _ H => E cls d H) := takes_of rfl rfl rfl rfl
  have po : PassesOwn (model P w) (cxOf (L2.CX P w) P w K mg base N__law_bag "_law_bag" (defScope s__law_bag) f cdv A outer s H E).A (cxOf (L2.CX P w) P w K mg base N__law_bag "_law_bag" (defScope s__law_bag) f cdv A outer s H E).env (cxOf (L2.CX P w) P w K mg base N__law_bag "_law_bag" (defScope s__law_bag) f cdv A outer s H E).xe := passes_of rfl
  unfold t__law_bag
  exact (pss_one (ps_ret (pe_lst (pa_cons pe_int (pa_cons pe_int (pa_cons pe_int (pa_cons (pe_lc (own := [("_law_cell", 1)]) rfl nd (pi_list (pe_slice u_sl (pv 0) po_none (po_some pe_int))) (blkOk_by (own := [("_law_cell", 1)]) (N := N__law_bag) (sc := defScope s__law_bag) (by decide +kernel)) (fun _ _ _ _ _ => (pg_name (i := 1) nd rfl (Or.inl rfl))) (fun _ _ _ _ _ => pts_nil) (fun _ _ _ _ _ => (pe_callB call_abs (by rfl) n_abs bt_abs (pa_cons (pv 1) pa_nil)))) pa_nil)))))))
theorem d__law_take {f : Addr} {fd : FuncData} (F : Fun K "_law_take" "_law_take" s__law_take f fd) (n_len : mg "len" = none) :
    FnOk P w K mg base (L2.CX P w) 1 f fd ["_law_bag_here", "_law_many"] (sp__law_take K mg) := by
  refine F.okX sc__law_take len2 (fun cdv A outer s H vs Q E hr h => ⟨t__law_take K mg E, ?_, R__law_take h⟩)
  have nd := sc__law_take.nd
  have hu1 := hu_of hr
  have hu64 := hr.units
  have hu65 := hu65_of hr
  have tk : Takes (cxOf (L2.CX P w) P w K mg base N__law_take "_law_take" (defScope s__law_take) f cdv A outer s H E) (fun cls d _ H => E cls d H) := takes_of rfl rfl rfl rfl
  have po : PassesOwn (model P w) (cxOf (L2.CX P w) P w K mg base N__law_take "_law_take" (defScope s__law_take) f cdv A outer s H E).A (cxOf (L2.CX P w) P w K mg base N__law_take "_law_take" (defScope s__law_take) f cdv A outer s H E).env (cxOf (L2.CX P w) P w K mg base N__law_take "_law_take" (defScope s__law_take) f cdv A outer s H E).xe := passes_of rfl
  unfold t__law_take
  exact (pss_cons (ps_if (pt_cmpR (u_eq hu64) (pe_ix (u_ix hu1) (pv 0) pe_int (fun _ _ => rfl)) pe_int (nomark _)) (pss_cons (ps_set (i := 2) nd rfl (Or.inl rfl) pe_int)
    (pss_cons (ps_if (pt_cmpR op_lt (pe_ix (u_ix hu1) (pv 0) pe_int (fun _ _ => rfl)) (pe_callB u_len (by rfl) n_len bt_len (pa_cons (pe_ix (u_ix hu1) (pv 0) pe_int (fun _ _ => rfl)) pa_nil)) (nomark _)) (pss_one (ps_set (i := 2) nd rfl (Or.inl rfl) (pe_ix (u_ix hu1) (pe_ix (u_ix hu1) (pv 0) pe_int (fun _ _ => rfl)) (pe_ix (u_ix hu1) (pv 0) pe_int (fun _ _ => rfl)) (fun _ _ => rfl)))) pss_nil)
    (pss_cons (ps_augS (pv 0) pe_int (get_listU hu1) pe_int ip_add (u_set hu1))
    (pss_cons (ps_if (pt_cmpR op_ge (pv 2) pe_int (nomark _)) (pss_one (ps_asg (pv 2) (pg_sub (pv 0) pe_int (u_set hu1)))) pss_nil)
    (pss_one (ps_asg (pe_op op_mod (pe_op u_add (pe_op u_add (pe_op u_mul (pe_ix (u_ix hu1) (pv 0) pe_int (fun _ _ => rfl)) pe_int) (pe_op op_mod (pv 2) pe_int)) (pe_op u_mul pe_int (pe_ix (u_ix hu1) (pv 0) pe_int (fun _ _ => rfl)))) pe_int) (pg_sub (pv 0) pe_int (u_set hu1)))))))) pss_nil)
    (pss_cons (ps_if (pt_cmpR op_gt (pe_ix (u_ix hu1) (pv 0) pe_int (fun _ _ => rfl)) pe_int (nomark _)) (pss_cons (ps_set (i := 3) nd rfl (Or.inl rfl) (pe_op op_mod (pe_ix (u_ix hu1) (pv 0) pe_int (fun _ _ => rfl)) (pv 1)))
    (pss_cons (ps_asg (pe_op op_fdivW (pe_ix (u_ix hu1) (pv 0) pe_int (fun _ _ => rfl)) (pv 1)) (pg_sub (pv 0) pe_int (u_set hu1)))
    (pss_one (ps_ret (pv 3))))) pss_nil)
    (pss_cons (ps_set (i := 4) nd rfl (Or.inl rfl) (pe_op op_mod (pe_op u_mul (pe_op u_add (pe_ix (u_ix hu1) (pv 0) pe_int (fun _ _ => rfl)) pe_int) pe_int) pe_int))
    (pss_cons (ps_set (i := 5) nd rfl (Or.inl rfl) (pe_op op_mod (pe_op u_mul (pe_op op_mod (pe_op u_mul (pv 4) (pv 4)) pe_int) pe_int) pe_int))
    (pss_cons (ps_if (pt_cmpR op_gt (pv 1) pe_int (nomark _)) (pss_one (ps_ret (pe_op op_mod (pe_op u_add (pe_op u_mul (pv 5) pe_int) (pv 4)) (pv 1)))) pss_nil)
    (pss_one (ps_ret (pe_op op_mod (pe_op op_fdivW (pv 5) pe_int) (pv 1)))))))))
theorem d__law_thing {f : Addr} {fd : FuncData} (F : Fun K "_law_thing" "_law_thing" s__law_thing f fd) (n_str : mg "str" = none) (h__law_take : Has P w K mg base 1 "_law_take" (sp__law_take K mg) []) :
    FnOk P w K mg base (L2.CX P w) 2 f fd ["_law_bag_here"] (sp__law_thing K mg) := by
  refine F.okX sc__law_thing len1 (fun cdv A outer s H vs Q E hr h => ⟨t__law_thing K mg E, ?_, R__law_thing h⟩)
  have nd := sc__law_thing.nd
  have hu1 := hu_of hr
  have hu64 := hr.units
  have hu65 := hu65_of hr
  have tk : Takes (cxOf (L2.CX P w) P w K mg base N__law_thing "_law_thing" (defScope s__law_thing) f cdv A outer s H E) (fun cls d _ H => E cls d H) := takes_of rfl rfl rfl rfl
  have po : PassesOwn (model P w) (cxOf (L2.CX P w) P w K mg base N__law_thing "_law_thing" (defScope s__law_thing) f cdv A outer s H E).A (cxOf (L2.CX P w) P w K mg base N__law_thing "_law_thing" (defScope s__law_thing) f cdv A outer s H E).env (cxOf (L2.CX P w) P w K mg base N__law_thing "_law_thing" (defScope s__law_thing) f cdv A outer s H E).xe := passes_of rfl
  unfold t__law_thing
  exact (pss_cons (ps_set (i := 1) nd rfl (Or.inl rfl) (hw_call h__law_take hr (by decide) (by rfl) (fun σ => passAt tk σ) (pa_cons (pv 0) (pa_cons pe_int pa_nil))))
    (pss_cons (ps_set (i := 2) nd rfl (Or.inl rfl) (pe_ix (u_ix hu1) (pe_lst (pa_cons pe_int (pa_cons (pe_op op_pow pe_int pe_int) (pa_cons (pe_op op_pow pe_int pe_int) (pa_cons pe_int pa_nil))))) (hw_call h__law_take hr (by decide) (by rfl) (fun σ => passAt tk σ) (pa_cons (pv 0) (pa_cons pe_int pa_nil))) (fun _ _ => rfl)))
    (pss_cons (ps_set (i := 3) nd rfl (Or.inl rfl) (hw_call h__law_take hr (by decide) (by rfl) (fun σ => passAt tk σ) (pa_cons (pv 0) (pa_cons (pv 2) pa_nil))))
    (pss_cons (ps_if (pt_cmpR (u_eq hu64) (pv 2) pe_int (nomark _)) (pss_one (ps_set (i := 3) nd rfl (Or.inl rfl) (pe_op u_mul (pe_op op_pow pe_int pe_int) (pe_op u_add pe_int (pv 3))))) pss_nil)
    (pss_cons (ps_if (pt_cmpR (u_eq hu64) (pv 1) pe_int (nomark _)) (pss_one (ps_ret (pe_op u_add (pe_op op_sub (pe_op op_pow pe_int pe_int) pe_int) (hw_call h__law_take hr (by decide) (by rfl) (fun σ => passAt tk σ) (pa_cons (pv 0) (pa_cons pe_int pa_nil)))))) pss_nil)
    (pss_cons (ps_if (pt_cmpR (u_eq hu64) (pv 1) pe_int (nomark _)) (pss_one (ps_ret (pe_op op_sub (pe_un un_neg pe_int) (pv 3)))) pss_nil)
    (pss_cons (ps_if (pt_cmpR op_lt (pv 1) pe_int (nomark _)) (pss_one (ps_ret (pv 3))) pss_nil)
    (pss_cons (ps_set (i := 4) nd rfl (Or.inl rfl) (pe_lst (pa_cons pe_bl (pa_cons pe_bl (pa_cons pe_non (pa_cons (pe_callTy u_str (by rfl) n_str bt_str (pa_cons (pe_op op_mod (pv 3) pe_int) pa_nil)) (pa_cons pe_str (pa_cons (pe_lst (pa_cons (pv 3) pa_nil)) (pa_cons (pe_tup (pa_cons (pv 3) pa_nil)) (pa_cons pe_dnewK (pa_cons (pe_disp (pps_cons (pv 3) (pv 3) pps_nil) (by rfl) (by rfl) (fun z => by cases z) (by decide)) (pa_cons (pe_lst pa_nil) (pa_cons (pe_tup pa_nil) (pa_cons pe_str pa_nil))))))))))))))
    (pss_one (ps_ret (pe_ix (u_ix hu1) (pv 4) (hw_call h__law_take hr (by decide) (by rfl) (fun σ => passAt tk σ) (pa_cons (pv 0) (pa_cons pe_int pa_nil))) (fun _ _ => rfl))))))))))))
theorem d_is_whole {f : Addr} {fd : FuncData} (F : Fun K "is_whole" "is_whole" s_is_whole f fd) (n_bool : mg "bool" = none) (n_int : mg "int" = none) (n_isinstance : mg "isinstance" = none) :
    FnOk P w K mg base (L2.CX P w) 1 f fd ["thing"] (sp_is_whole K mg) := by
  refine F.okX sc_is_whole len1 (fun cdv A outer s H vs Q E hr h => ⟨t_is_whole K mg E, ?_, R_is_whole h⟩)
  have nd := sc_is_whole.nd
  have hu1 := hu_of hr
  have hu64 := hr.units
  have hu65 := hu65_of hr
  have tk : Takes (cxOf (L2.CX P w) P w K mg base N_is_whole "is_whole" (defScope s_is_whole) f cdv A outer s H E) (fun cls d _ H => E cls d H) := takes_of rfl rfl rfl rfl
  have po : PassesOwn (model P w) (cxOf (L2.CX P w) P w K mg base N_is_whole "is_whole" (defScope s_is_whole) f cdv A outer s H E).A (cxOf (L2.CX P w) P w K mg base N_is_whole "is_whole" (defScope s_is_whole) f cdv A outer s H E).env (cxOf (L2.CX P w) P w K mg base N_is_whole "is_whole" (defScope s_is_whole) f cdv A outer s H E).xe := passes_of rfl
  unfold t_is_whole
  exact (pss_one (ps_ret (pe_and (pe_callB call_isi (by rfl) n_isinstance bt_isinstance (pa_cons (pv 0) (pa_cons (pe_bltn (by rfl) n_int bt_int rfl) pa_nil))) (pe_one (pe_not (pe_callB call_isi (by rfl) n_isinstance bt_isinstance (pa_cons (pv 0) (pa_cons (pe_bltn (by rfl) n_bool bt_bool rfl) pa_nil))))))))
theorem d_is_number {f : Addr} {fd : FuncData} (F : Fun K "is_number" "is_number" s_is_number f fd) {tk_MOST_NUMBER : Tok} (g_MOST_NUMBER : mg "MOST_NUMBER" = some (.int 1000000000000000000 tk_MOST_NUMBER)) (h_is_whole : Has P w K mg base 1 "is_whole" (sp_is_whole K mg) []) :
    FnOk P w K mg base (L2.CX P w) 2 f fd ["thing"] (sp_is_number K mg) := by
  refine F.okX sc_is_number len1 (fun cdv A outer s H vs Q E hr h => ⟨t_is_number K mg E, ?_, R_is_number h⟩)
  have nd := sc_is_number.nd
  have hu1 := hu_of hr
  have hu64 := hr.units
  have hu65 := hu65_of hr
  have tk : Takes (cxOf (L2.CX P w) P w K mg base N_is_number "is_number" (defScope s_is_number) f cdv A outer s H E) (fun cls d _ H => E cls d H) := takes_of rfl rfl rfl rfl
  have po : PassesOwn (model P w) (cxOf (L2.CX P w) P w K mg base N_is_number "is_number" (defScope s_is_number) f cdv A outer s H E).A (cxOf (L2.CX P w) P w K mg base N_is_number "is_number" (defScope s_is_number) f cdv A outer s H E).env (cxOf (L2.CX P w) P w K mg base N_is_number "is_number" (defScope s_is_number) f cdv A outer s H E).xe := passes_of rfl
  unfold t_is_number
  exact (pss_one (ps_ret (pe_and (hw_call h_is_whole hr (by decide) (by rfl) (fun σ => passAt tk σ) (pa_cons (pv 0) pa_nil)) (pe_one (pe_chain op_le op_le pe_int (pv 0) (pe_glob rfl g_MOST_NUMBER ⟨_, rfl⟩))))))
theorem d_law {f : Addr} {fd : FuncData} (F : Fun K "law" "law" s_law f fd) (n_bool : mg "bool" = none) (n_int : mg "int" = none) (n_isinstance : mg "isinstance" = none) (n_range : mg "range" = none) (h__law_bag : Has P w K mg base 1 "_law_bag" (sp__law_bag K mg) []) (h__law_thing : Has P w K mg base 2 "_law_thing" (sp__law_thing K mg) []) (h_is_number : Has P w K mg base 2 "is_number" (sp_is_number K mg) []) :
    FnOk P w K mg base (L2.CX P w) 3 f fd ["_law_script"] (sp_law K mg) := by
  refine F.okX sc_law len1 (fun cdv A outer s H vs Q E hr h => ⟨t_law K mg E, ?_, R_law h⟩)
  have nd := sc_law.nd
  have hu1 := hu_of hr
  have hu64 := hr.units
  have hu65 := hu65_of hr
  have tk : Takes (cxOf (L2.CX P w) P w K mg base N_law "law" (defScope s_law) f cdv A outer s H E) (fun cls d _ H => E cls d H) := takes_of rfl rfl rfl rfl
  have po : PassesOwn (model P w) (cxOf (L2.CX P w) P w K mg base N_law "law" (defScope s_law) f cdv A outer s H E).A (cxOf (L2.CX P w) P w K mg base N_law "law" (defScope s_law) f cdv A outer s H E).env (cxOf (L2.CX P w) P w K mg base N_law "law" (defScope s_law) f cdv A outer s H E).xe := passes_of rfl
  unfold t_law
  exact (pss_cons (ps_set (i := 1) nd rfl (Or.inl rfl) (hw_call h__law_bag hr (by decide) (by rfl) (fun σ => passAt tk σ) (pa_cons (pv 0) pa_nil)))
    (pss_cons (ps_for po rfl (pi_range1 rfl n_range (pa_cons pe_int pa_nil)) (pg_name (i := 2) nd rfl (Or.inl rfl)) (pss_cons (ps_set (i := 3) nd rfl (Or.inl rfl) (hw_call h__law_thing hr (by decide) (by rfl) (fun σ => passAt tk σ) (pa_cons (pv 1) pa_nil)))
    (pss_cons (ps_set (i := 4) nd rfl (Or.inl rfl) (pe_and (pe_callB call_isi (by rfl) n_isinstance bt_isinstance (pa_cons (pv 3) (pa_cons (pe_bltn (by rfl) n_int bt_int rfl) pa_nil))) (pe_and (pe_not (pe_callB call_isi (by rfl) n_isinstance bt_isinstance (pa_cons (pv 3) (pa_cons (pe_bltn (by rfl) n_bool bt_bool rfl) pa_nil)))) (pe_one (pe_chain op_le op_le pe_int (pv 3) (pe_op op_pow pe_int pe_int))))))
    (pss_cons (ps_set (i := 5) nd rfl (Or.inl rfl) (hw_call h_is_number hr (by decide) (by rfl) (fun σ => passAt tk σ) (pa_cons (pv 3) pa_nil)))
    (pss_one (ps_if (PW.pt (pw_or (pt_not (pt_val (pe_callB call_isi (by rfl) n_isinstance bt_isinstance (pa_cons (pv 5) (pa_cons (pe_bltn (by rfl) n_bool bt_bool rfl) pa_nil))))) (pw_or1 (pt_cmpR (u_ne hu64) (pv 5) (pv 4) (nomark _))))) (pss_one (ps_ret pe_bl)) pss_nil))))))
    (pss_one (ps_ret (pe_and (pe_cmpR u_is (hw_call h_is_number hr (by decide) (by rfl) (fun σ => passAt tk σ) (pa_cons (pe_op op_pow pe_int pe_int) pa_nil)) pe_bl (nomark _)) (pe_and (pe_cmpR u_is (hw_call h_is_number hr (by decide) (by rfl) (fun σ => passAt tk σ) (pa_cons (pe_op u_add (pe_op op_pow pe_int pe_int) pe_int) pa_nil)) pe_bl (nomark _)) (pe_one (pe_cmpR u_is (hw_call h_is_number hr (by decide) (by rfl) (fun σ => passAt tk σ) (pa_cons pe_bl pa_nil)) pe_bl (nomark _)))))))))
end
theorem all_mk {P : Program} {w : World} {K : PySem.W.Frag} {h : Heap} {mg : Str → Option Value} {fa : Addr} (X : K.In h) (G : h.Ns mainGlobals mg) (hfa : mg "law" = some (.ref fa))
    {f0 : Addr} {od0 an0 : Option Addr} {sl0 : Array (Option Value)} {oc0 kV0 dc0 pm0 cd0 ct0 : Value}
    {f1 : Addr} {od1 an1 : Option Addr} {sl1 : Array (Option Value)} {oc1 kV1 dc1 pm1 cd1 ct1 : Value}
    {f2 : Addr} {od2 an2 : Option Addr} {sl2 : Array (Option Value)} {oc2 kV2 dc2 pm2 cd2 ct2 : Value}
    {f3 : Addr} {od3 an3 : Option Addr} {sl3 : Array (Option Value)} {oc3 kV3 dc3 pm3 cd3 ct3 : Value}
    {f4 : Addr} {od4 an4 : Option Addr} {sl4 : Array (Option Value)} {oc4 kV4 dc4 pm4 cd4 ct4 : Value}
    {f5 : Addr} {od5 an5 : Option Addr} {sl5 : Array (Option Value)} {oc5 kV5 dc5 pm5 cd5 ct5 : Value}
    {tk_MOST_NUMBER : Tok}
    (a0 : PySem.W.nsIn K mainGlobals "_law_bag" = some (some (.ref f0)))
    (l0 : K.lookup f0 = some ⟨oc0, od0, .func (PySem.W.fnOf "_law_bag" "_law_bag" (defArgs s__law_bag) (defBody s__law_bag) (defScope s__law_bag) .none kV0 dc0 pm0 an0 cd0 ct0), sl0⟩)
    (c0 : PySem.W.codeIn K cd0 "_law_bag" = true)
    (k0 : PySem.W.keepIn K (.ref f0) = true)
    (a1 : PySem.W.nsIn K mainGlobals "_law_take" = some (some (.ref f1)))
    (l1 : K.lookup f1 = some ⟨oc1, od1, .func (PySem.W.fnOf "_law_take" "_law_take" (defArgs s__law_take) (defBody s__law_take) (defScope s__law_take) .none kV1 dc1 pm1 an1 cd1 ct1), sl1⟩)
    (c1 : PySem.W.codeIn K cd1 "_law_take" = true)
    (k1 : PySem.W.keepIn K (.ref f1) = true)
    (a2 : PySem.W.nsIn K mainGlobals "_law_thing" = some (some (.ref f2)))
    (l2 : K.lookup f2 = some ⟨oc2, od2, .func (PySem.W.fnOf "_law_thing" "_law_thing" (defArgs s__law_thing) (defBody s__law_thing) (defScope s__law_thing) .none kV2 dc2 pm2 an2 cd2 ct2), sl2⟩)
    (c2 : PySem.W.codeIn K cd2 "_law_thing" = true)
    (k2 : PySem.W.keepIn K (.ref f2) = true)
    (a3 : PySem.W.nsIn K mainGlobals "is_whole" = some (some (.ref f3)))
    (l3 : K.lookup f3 = some ⟨oc3, od3, .func (PySem.W.fnOf "is_whole" "is_whole" (defArgs s_is_whole) (defBody s_is_whole) (defScope s_is_whole) .none kV3 dc3 pm3 an3 cd3 ct3), sl3⟩)
    (c3 : PySem.W.codeIn K cd3 "is_whole" = true)
    (k3 : PySem.W.keepIn K (.ref f3) = true)
    (a4 : PySem.W.nsIn K mainGlobals "is_number" = some (some (.ref f4)))
    (l4 : K.lookup f4 = some ⟨oc4, od4, .func (PySem.W.fnOf "is_number" "is_number" (defArgs s_is_number) (defBody s_is_number) (defScope s_is_number) .none kV4 dc4 pm4 an4 cd4 ct4), sl4⟩)
    (c4 : PySem.W.codeIn K cd4 "is_number" = true)
    (k4 : PySem.W.keepIn K (.ref f4) = true)
    (a5 : PySem.W.nsIn K mainGlobals "law" = some (some (.ref f5)))
    (l5 : K.lookup f5 = some ⟨oc5, od5, .func (PySem.W.fnOf "law" "law" (defArgs s_law) (defBody s_law) (defScope s_law) .none kV5 dc5 pm5 an5 cd5 ct5), sl5⟩)
    (c5 : PySem.W.codeIn K cd5 "law" = true)
    (k5 : PySem.W.keepIn K (.ref f5) = true)
    (z_abs : PySem.W.nsIn K mainGlobals "abs" = some none)
    (z_bool : PySem.W.nsIn K mainGlobals "bool" = some none)
    (z_int : PySem.W.nsIn K mainGlobals "int" = some none)
    (z_isinstance : PySem.W.nsIn K mainGlobals "isinstance" = some none)
    (z_len : PySem.W.nsIn K mainGlobals "len" = some none)
    (z_range : PySem.W.nsIn K mainGlobals "range" = some none)
    (z_str : PySem.W.nsIn K mainGlobals "str" = some none)
    (y_MOST_NUMBER : PySem.W.nsIn K mainGlobals "MOST_NUMBER" = some (some (.int 1000000000000000000 tk_MOST_NUMBER))) :
    ∃ fd : FuncData, (∀ (s : Shared) (v : Value), BindsTo s fd ⟨[v], []⟩ [("_law_script", v)]) ∧ ∀ base : Heap, K.In base → base.Ns mainGlobals mg → FnOk P w K mg base (L2.CX P w) 3 fa fd ["_law_script"] (spLaw K) := by
  have e := hfa.symm.trans (PySem.W.mg_of X G a5)
  cases e
  have n_abs := PySem.W.mg_none_of X G z_abs
  have n_bool := PySem.W.mg_none_of X G z_bool
  have n_int := PySem.W.mg_none_of X G z_int
  have n_isinstance := PySem.W.mg_none_of X G z_isinstance
  have n_len := PySem.W.mg_none_of X G z_len
  have n_range := PySem.W.mg_none_of X G z_range
  have n_str := PySem.W.mg_none_of X G z_str
  have g_MOST_NUMBER := PySem.W.mg_of X G y_MOST_NUMBER
  have F0 := fun_mk (st := s__law_bag) l0 c0 k0
  have b0 := F0.binds (ps := ["_law_script"]) fun _ _ _ _ _ _ us hl => match us, hl with | [_], _ => rfl
  have F1 := fun_mk (st := s__law_take) l1 c1 k1
  have b1 := F1.binds (ps := ["_law_bag_here", "_law_many"]) fun _ _ _ _ _ _ us hl => match us, hl with | [_, _], _ => rfl
  have F2 := fun_mk (st := s__law_thing) l2 c2 k2
  have b2 := F2.binds (ps := ["_law_bag_here"]) fun _ _ _ _ _ _ us hl => match us, hl with | [_], _ => rfl
  have F3 := fun_mk (st := s_is_whole) l3 c3 k3
  have b3 := F3.binds (ps := ["thing"]) fun _ _ _ _ _ _ us hl => match us, hl with | [_], _ => rfl
  have F4 := fun_mk (st := s_is_number) l4 c4 k4
  have b4 := F4.binds (ps := ["thing"]) fun _ _ _ _ _ _ us hl => match us, hl with | [_], _ => rfl
  have F5 := fun_mk (st := s_law) l5 c5 k5
  refine ⟨PySem.W.fnOf "law" "law" (defArgs s_law) (defBody s_law) (defScope s_law) .none kV5 dc5 pm5 an5 cd5 ct5, fun s v => .of_eq rfl, fun base _ _ => ?_⟩
  have h__law_bag : Has P w K mg base 1 "_law_bag" (sp__law_bag K mg) [] := ⟨_, _, _, [], PySem.W.mg_of X G a0, k0, b0, .nil, d__law_bag F0 n_abs⟩
  have h__law_take : Has P w K mg base 1 "_law_take" (sp__law_take K mg) [] := ⟨_, _, _, [], PySem.W.mg_of X G a1, k1, b1, .nil, d__law_take F1 n_len⟩
  have h__law_thing : Has P w K mg base 2 "_law_thing" (sp__law_thing K mg) [] := ⟨_, _, _, [], PySem.W.mg_of X G a2, k2, b2, .nil, d__law_thing F2 n_str h__law_take⟩
  have h_is_whole : Has P w K mg base 1 "is_whole" (sp_is_whole K mg) [] := ⟨_, _, _, [], PySem.W.mg_of X G a3, k3, b3, .nil, d_is_whole F3 n_bool n_int n_isinstance⟩
  have h_is_number : Has P w K mg base 2 "is_number" (sp_is_number K mg) [] := ⟨_, _, _, [], PySem.W.mg_of X G a4, k4, b4, .nil, d_is_number F4 g_MOST_NUMBER h_is_whole⟩
  exact d_law F5 n_bool n_int n_isinstance n_range h__law_bag h__law_thing h_is_number
end Hw

open PySem PySem.W PyProof.Rows
set_option maxRecDepth 100000 in
set_option maxHeartbeats 0 in
theorem PySem.Challenge.cw_homeward_k11_numbers_known_holds : PySem.Challenge.rw_homeward_k11_numbers_known.Holds := by
  w_on; o_law; k_head; (case hw => w_witness2)
  k_fill
  refine L2.walk_of (l := PySem.Challenge.rw_homeward_k11_numbers_known) (n := 63) (k := 3) (x := "_law_script") (CX := fun w => L2.CX PySem.Challenge.rw_homeward_k11_numbers_known.prog w) (sp := fun w => Hw.spLaw _) rfl (by decide) rfl ⟨rfl, by decide, by decide⟩ (fun w h Y => PySem.W.kIn_of Y) ?F
    (fun _ _ a ns hl _ hS => ⟨_, rfl, a, ns, rfl, hS, hl, fun _ => rfl⟩) (fun _ _ _ _ _ z => by obtain ⟨_, _, _, _, _, _, _, _, _, _, _, _, z⟩ := z; exact z)
  case F =>
    intro w mg fa h KX G hmg
    refine' Hw.all_mk KX G hmg ?a0 ?l0 ?c0 ?k0 ?a1 ?l1 ?c1 ?k1 ?a2 ?l2 ?c2 ?k2 ?a3 ?l3 ?c3 ?k3 ?a4 ?l4 ?c4 ?k4 ?a5 ?l5 ?c5 ?k5 ?z_abs ?z_bool ?z_int ?z_isinstance ?z_len ?z_range ?z_str ?y_MOST_NUMBER
    (case a0 => k_is)
    (case l0 => k_is)
    (case c0 => k_is)
    (case k0 => k_is)
    (case a1 => k_is)
    (case l1 => k_is)
    (case c1 => k_is)
    (case k1 => k_is)
    (case a2 => k_is)
    (case l2 => k_is)
    (case c2 => k_is)
    (case k2 => k_is)
    (case a3 => k_is)
    (case l3 => k_is)
    (case c3 => k_is)
    (case k3 => k_is)
    (case a4 => k_is)
    (case l4 => k_is)
    (case c4 => k_is)
    (case k4 => k_is)
    (case a5 => k_is)
    (case l5 => k_is)
    (case c5 => k_is)
    (case k5 => k_is)
    (case z_abs => k_is)
    (case z_bool => k_is)
    (case z_int => k_is)
    (case z_isinstance => k_is)
    (case z_len => k_is)
    (case z_range => k_is)
    (case z_str => k_is)
    (case y_MOST_NUMBER => k_is)
