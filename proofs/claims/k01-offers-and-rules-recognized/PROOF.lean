import PyProof.Rows.All
import Wide.All
import OpenK.AllK
import Wide.FinOn
import HandS.TupSets
import HandS.Dict
import HandS.Iter
import KE.KDictKeyed
import KE.KDictWalk
import KE.KDictDisplayH
import HandS.Lambda
import HandS.Nested
import HandS.HeadHook2
import HandS.HeadHook4
import HandS.ForMost
import HandS.Exc
import HandS.ExcOwn
import HandS.TryOnly
import HandS.TryMany
import HandS.WordsExc
import HandS.Defaults
import HandS.ExcValue
import HandS.ExcInit
import HandS.Walk
import HandS.IsInst
import HandS.TupAny
import HandS.TupMul
import HandS.Conv
import HandS.Strs
import HandS.Replace
import HandS.Sort
import HandS.ListItems
import HandS.Style
import KE.GoesMore
import KE.GoesEnum
import HandS.Zip
import HandS.Head0
import HandS.Head1
import HandS.Head2
import HandS.HeadEnd
import HandS.HeadHook1
import HandS.HeadHook3
import HandS.HeadWalk
import HandS.Words
import HandS.Codes
import HandS.TupLe
import HandS.ReplaceLit
import HandS.DictComp
import KE.SortData
import HandS.SortInts
import HandS.SetFor
import PySem.Challenge.RW_paidbydays_k01_offers_and_rules_recogniz
set_option Elab.async false
set_option linter.all false
set_option maxRecDepth 100000
set_option autoImplicit false
/-! KS1: the table of a set with up to 511 slots, while only new keys come. No program in it. -/
namespace KS
open PySem L2
/-! ### the round, by a mask of bits -/
def orb (m : Nat) : Nat → Nat → Nat → Nat
  | 0, _, acc => acc
  | n + 1, i, acc => orb m n ((i * 5 + 1) % (m + 1)) (acc ||| 2 ^ i)
theorem step_in (m i : Nat) : ∀ b, lcgI m ((i * 5 + 1) % (m + 1)) b = lcgI m i (b + 1)
  | 0 => rfl
  | b + 1 => by
    show (lcgI m ((i * 5 + 1) % (m + 1)) b * 5 + 1) % (m + 1) = (lcgI m i (b + 1) * 5 + 1) % (m + 1)
    rw [step_in m i b]
theorem orb_in (m j : Nat) : ∀ (n i acc : Nat), (orb m n i acc).testBit j = true → acc.testBit j = true ∨ ∃ b, b < n ∧ lcgI m i b = j
  | 0, i, acc, h => .inl h
  | n + 1, i, acc, h => by
    rcases orb_in m j n _ _ h with q | ⟨b, hb, e⟩
    · rw [Nat.testBit_or, Bool.or_eq_true] at q
      rcases q with q | q
      · exact .inl q
      · rw [Nat.testBit_two_pow, decide_eq_true_eq] at q
        exact .inr ⟨0, Nat.succ_pos _, q⟩
    · exact .inr ⟨b + 1, Nat.succ_lt_succ hb, by rw [← step_in]; exact e⟩
/-- a mask whose round meets all slots -/
structure Rnd (m : Nat) : Prop where
  all : orb m (m + 1) 0 0 = 2 ^ (m + 1) - 1
  back : lcgI m 0 (m + 1) = 0
  odd : m % 2 = 1
  small : m ≤ 511
  four : m = 7 ∨ m = 31 ∨ m = 127 ∨ m = 511
theorem rnd7 : Rnd 7 := ⟨by decide +kernel, by decide +kernel, rfl, by decide, by decide⟩
theorem rnd31 : Rnd 31 := ⟨by decide +kernel, by decide +kernel, rfl, by decide, by decide⟩
theorem rnd127 : Rnd 127 := ⟨by decide +kernel, by decide +kernel, rfl, by decide, by decide⟩
theorem rnd511 : Rnd 511 := ⟨by decide +kernel, by decide +kernel, rfl, by decide, by decide⟩
variable {m : Nat}
theorem Rnd.from0 (r : Rnd m) {j : Nat} (hj : j ≤ m) : ∃ b, b ≤ m ∧ lcgI m 0 b = j := by
  have h : (orb m (m + 1) 0 0).testBit j = true := by
    rw [r.all, Nat.testBit_two_pow_sub_one, decide_eq_true_eq]
    omega
  rcases orb_in m j _ _ _ h with q | ⟨b, hb, e⟩
  · simp at q
  · exact ⟨b, by omega, e⟩
theorem go_on (m i a : Nat) : ∀ b, lcgI m (lcgI m i a) b = lcgI m i (a + b)
  | 0 => rfl
  | b + 1 => by
    show (lcgI m (lcgI m i a) b * 5 + 1) % (m + 1) = (lcgI m i (a + b) * 5 + 1) % (m + 1)
    rw [go_on m i a b]
theorem Rnd.any (r : Rnd m) {i j : Nat} (hi : i ≤ m) (hj : j ≤ m) : ∃ k, k ≤ m ∧ lcgI m i k = j := by
  obtain ⟨a, ha, rfl⟩ := r.from0 hi
  obtain ⟨b, hb, rfl⟩ := r.from0 hj
  by_cases c : a ≤ b
  · refine ⟨b - a, by omega, ?_⟩
    rw [go_on]
    congr 1
    omega
  · refine ⟨b + (m + 1) - a, by omega, ?_⟩
    rw [go_on, show a + (b + (m + 1) - a) = (m + 1) + b by omega, ← go_on, r.back]
/-! ### the way of a search -/
theorem Rnd.run (r : Rnd m) (h : Int) {j : Nat} (hj : j ≤ m) : ∃ n, n ≤ m + 12 ∧ runI m (SetTable.bits h) n = j := by
  obtain ⟨k, hk, e⟩ := r.any (runI_le m (SetTable.bits h) 12) hj
  refine ⟨12 + k, by omega, ?_⟩
  rw [runI_tail (bits_lt h), e]
theorem Rnd.meet (r : Rnd m) (h : Int) {j : Nat} (hj : j ≤ m) : ∃ k, k < 10 * SetTable.turns m ∧ way m h k = j := by
  obtain ⟨n, hn, e⟩ := r.run h hj
  obtain ⟨k, hk, e2⟩ := run_nth m (SetTable.bits h) n
  refine ⟨k, ?_, ?_⟩
  · unfold SetTable.turns; omega
  · show (nth m _ k).j = j
    rw [e2]
    exact e
theorem way_bd (m : Nat) (h : Int) (k : Nat) : way m h k ≤ m := by
  have hi : SetTable.bits h % (m + 1) ≤ m := Nat.le_of_lt_succ (Nat.mod_lt _ (Nat.succ_pos _))
  have hr := runEnd_bd hi
  have hs : SetTable.bits h % (m + 1) + (SetTable.runEnd m (SetTable.bits h % (m + 1)) - SetTable.bits h % (m + 1)) ≤ m := by omega
  have := nth_in (m := m) k (runAt m (SetTable.bits h % (m + 1)) (SetTable.bits h)) hs
  exact Nat.le_trans (Nat.le_add_right _ _) this
/-- a table without dummies -/
structure Tab (t : SetTable) (n : Nat) : Prop where
  ris : Ris t.place.toList
  dm : t.dummies = #[]
  sz : t.place.size = n
  rnd : Rnd t.mask
  bd : ∀ x ∈ t.place.toList, x ≤ t.mask
variable {t : SetTable} {n : Nat}
theorem Tab.fill (T : Tab t n) : t.fill = n := by
  unfold SetTable.fill
  rw [T.dm, T.sz]; rfl
theorem Tab.fits (T : Tab t n) (h : n ≤ t.mask) : t.fits n = true := by
  unfold SetTable.fits
  rw [T.fill, T.sz, Bool.and_eq_true, beq_iff_eq, decide_eq_true_eq]
  exact ⟨rfl, h⟩
theorem Tab.stays (T : Tab t n) : ¬ t.gaveWay = true := by
  unfold SetTable.gaveWay
  rw [T.rnd.odd]; decide
theorem Tab.free (T : Tab t n) (hl : n ≤ t.mask) (h : Int) : ∃ K, K < 10 * SetTable.turns t.mask ∧ way t.mask h K ∉ t.place.toList ∧ ∀ k, k < K → way t.mask h k ∈ t.place.toList := by
  obtain ⟨j, hj, hn⟩ := st_missing t.place.toList (t.mask + 1) (by rw [Array.length_toList, T.sz]; omega)
  obtain ⟨k, hk, e⟩ := T.rnd.meet h (Nat.le_of_lt_succ hj)
  obtain ⟨K, h1, h2, h3⟩ := st_least (p := fun k => way t.mask h k ∉ t.place.toList) k (by rw [← e] at hn; exact hn)
  exact ⟨K, by omega, h2, fun k' hk' => Classical.byContradiction fun c => h3 k' hk' c⟩
theorem Tab.put (T : Tab t n) {j : Nat} (hj : j ≤ t.mask) (hn : j ∉ t.place.toList) :
    (t.put j).2 = SetTable.below t.place j ∧ SetTable.below t.place j ≤ n ∧ Tab (t.put j).1 (n + 1) ∧ (t.put j).1.mask = t.mask ∧ (t.put j).1.led = t.led ∧ (t.put j).1.plain = t.plain := by
  obtain ⟨c1, _, _⟩ := below_cut T.ris j
  have hp : SetTable.below t.place j ≤ t.place.toList.length := by rw [Array.length_toList]; exact c1
  have hnp : t.place[SetTable.below t.place j]? ≠ some j := fun e => hn (List.mem_of_getElem? (by rw [Array.getElem?_toList]; exact e))
  have pl := put_place t j
  refine ⟨rfl, by rw [← T.sz]; exact c1, ⟨ris_insert T.ris hnp, put_dm T.dm j, ?_, T.rnd, fun x hx => ?_⟩, rfl, rfl, rfl⟩
  · rw [← Array.length_toList, pl, len_ins _ hp, Array.length_toList, T.sz]
  · rw [pl] at hx
    rcases mem_ins.1 hx with q | q
    · rw [q]; exact hj
    · exact T.bd x q
/-! ### laid anew -/
theorem Rnd.seat (r : Rnd m) (owner : Array (Option Nat)) (h : Int) {j : Nat} (hj : j ≤ m) (hf : oAt owner j = none) :
    ∃ i, SetTable.layClean.free m owner (SetTable.turns m) (SetTable.bits h % (m + 1)) (SetTable.bits h) = some i ∧ i ≤ m ∧ oAt owner i = none := by
  obtain ⟨n, hn, e⟩ := r.run h hj
  have hw : way m h (off m (SetTable.bits h % (m + 1)) (SetTable.bits h) n) = j := by
    show (nth m _ _).j = j
    rw [nth_off, itL_run]
    exact e
  obtain ⟨K, k1, k2, k3⟩ := st_least (p := fun k => oAt owner (way m h k) = none) _ (by rw [← hw] at hf; exact hf)
  refine ⟨way m h K, ?_, way_bd m h K, k2⟩
  refine free_spec m owner (SetTable.turns m) n _ _ K (by unfold SetTable.turns; omega) k1 (fun k hk => ?_) ?_
  · exact Bool.eq_false_iff.mpr fun q => k3 k hk (Option.isNone_iff_eq_none.mp q)
  · exact Option.isNone_iff_eq_none.mpr k2
/-- n are seated -/
structure Seats (m n : Nat) (owner : Array (Option Nat)) : Prop where
  sz : owner.size = m + 1
  all : ∀ k, k < n → ∃ j, j ≤ m ∧ oAt owner j = some k
  few : ∃ ps : List Nat, ps.length = n ∧ ∀ j, j ≤ m → oAt owner j ≠ none → j ∈ ps
theorem seats0 (m : Nat) : Seats m 0 (Array.replicate (m + 1) none) :=
  ⟨by simp, fun k hk => absurd hk (Nat.not_lt_zero _), [], rfl, fun j hj e => absurd (oAt_init hj) e⟩
theorem Seats.more {owner : Array (Option Nat)} (r : Rnd m) (W : Seats m n owner) (hn : n ≤ m) (h : Int) :
    ∃ j, SetTable.layClean.free m owner (SetTable.turns m) (SetTable.bits h % (m + 1)) (SetTable.bits h) = some j ∧ Seats m (n + 1) (owner.setIfInBounds j (some n)) := by
  obtain ⟨ps, hps, hin⟩ := W.few
  obtain ⟨j0, h0, hn0⟩ := st_missing ps (m + 1) (by omega)
  have e0 : oAt owner j0 = none := Classical.byContradiction fun c => hn0 (hin j0 (Nat.le_of_lt_succ h0) c)
  obtain ⟨i, e1, hi, e2⟩ := r.seat owner h (Nat.le_of_lt_succ h0) e0
  have his : i < owner.size := by rw [W.sz]; omega
  refine ⟨i, e1, ⟨by rw [Array.size_setIfInBounds]; exact W.sz, fun k hk => ?_, i :: ps, by simp [hps], fun j hj e => ?_⟩⟩
  · by_cases c : k = n
    · exact ⟨i, hi, by rw [oAt_set_self _ his, c]⟩
    · obtain ⟨j, hj, q⟩ := W.all k (by omega)
      refine ⟨j, hj, ?_⟩
      rw [oAt_set_ne _ (fun z => by rw [z, e2] at q; cases q)]
      exact q
  · by_cases c : j = i
    · rw [c]; exact List.mem_cons_self
    · rw [oAt_set_ne _ c] at e
      exact List.mem_cons_of_mem _ (hin j hj e)
theorem seats_fold (r : Rnd m) : ∀ (hs : List Int) (n : Nat) (owner : Array (Option Nat)), Seats m n owner → n + hs.length ≤ m →
    ∃ owner', hs.foldl (stepF m) (some (owner, n)) = some (owner', n + hs.length) ∧ Seats m (n + hs.length) owner'
  | [], n, owner, W, _ => ⟨owner, rfl, W⟩
  | h :: hs, n, owner, W, hl => by
    simp only [List.length_cons] at hl
    obtain ⟨j, e, W2⟩ := W.more r (by omega) h
    obtain ⟨o2, e2, W3⟩ := seats_fold r hs (n + 1) _ W2 (by omega)
    rw [show n + (h :: hs).length = n + 1 + hs.length by simp only [List.length_cons]; omega]
    refine ⟨o2, ?_, W3⟩
    rw [List.foldl_cons, stepF_some e]
    exact e2
theorem laid_anew (t : SetTable) {hs : Array Int} {wanted : Nat} (hw : SetTable.sizeAbove wanted - 1 = m) (r : Rnd m) (hn : hs.size ≤ m) :
    ∃ t' order, t.relaid hs wanted = some (t', order) ∧ order.toList.Perm (List.range hs.size) ∧ Tab t' hs.size ∧ t'.mask = m ∧ t'.led = t.led ∧ t'.plain = t.plain := by
  obtain ⟨owner, e, W⟩ := seats_fold r hs.toList 0 _ (seats0 m) (by rw [Array.length_toList]; omega)
  rw [Nat.zero_add, Array.length_toList] at W
  have hr : t.relaid hs wanted = some (tabOf t m owner, ((liveOf m owner).map (·.2)).toArray) := by
    rw [relaid_eq, hw, layClean_eq, e]
    rfl
  have rs := ris_live (fun j => owner.getD j none) (List.range (m + 1)) List.pairwise_lt_range
  have r1 : Ris ((liveOf m owner).map (·.1)) := rs.1
  have r2 : ∀ x ∈ (liveOf m owner).map (·.1), x ∈ List.range (m + 1) := rs.2
  have a1 : ((liveOf m owner).map (·.1)).length ≤ hs.size := by
    obtain ⟨ps, p1, p2⟩ := W.few
    rw [← p1]
    refine nat_nodup_len _ _ (r1.imp fun h => Nat.ne_of_lt h) fun x hx => ?_
    obtain ⟨⟨y, k⟩, hq, rfl⟩ := List.mem_map.mp hx
    obtain ⟨b1, b2⟩ := (mem_live W.sz).1 hq
    exact p2 y b1 (by rw [b2]; exact fun z => nomatch z)
  have a3 : ∀ k, k < hs.size → k ∈ (liveOf m owner).map (·.2) := fun k hk => by
    obtain ⟨j, b1, b2⟩ := W.all k hk
    exact List.mem_map.mpr ⟨(j, k), (mem_live W.sz).2 ⟨b1, b2⟩, rfl⟩
  have a2 : hs.size ≤ ((liveOf m owner).map (·.2)).length := by
    have := nat_nodup_len (List.range hs.size) _ List.nodup_range fun k hk => a3 k (List.mem_range.mp hk)
    rwa [List.length_range] at this
  rw [List.length_map] at a1 a2
  have hl : (liveOf m owner).length = hs.size := Nat.le_antisymm a1 a2
  refine ⟨_, _, hr, ?_, ⟨r1, rfl, ?_, r, fun x hx => Nat.le_of_lt_succ (List.mem_range.mp (r2 x hx))⟩, rfl, rfl, rfl⟩
  · exact perm_range hs.size _ (by rw [List.length_map]; exact hl) a3
  · show ((liveOf m owner).map (·.1)).toArray.size = _
    rw [List.size_toArray, List.length_map, hl]
theorem size20 : SetTable.sizeAbove (SetTable.grown 5) = 32 := by decide +kernel
theorem size76 : SetTable.sizeAbove (SetTable.grown 19) = 128 := by decide +kernel
theorem size308 : SetTable.sizeAbove (SetTable.grown 77) = 512 := by decide +kernel
end KS

set_option Elab.async false
set_option linter.all false
set_option maxRecDepth 100000
set_option autoImplicit false
/-! KS2: a set gets new tuples of texts, one by one. -/
namespace KS
open PySem PySem.Spec PyProof.Rows L2
abbrev IsS (P : Program) (w : World) (h : Heap) (k : List Str) (a : Addr) : Prop := IsTupleKey (strKind P w) h k a
abbrev hsh (P : Program) (w : World) (k : List Str) : Int := tupleKeyHash (strKind P w) k
section
variable {P : Program} {w : World} {A : Around} {E : Value → Shared → Prop} {s : Shared} {k k' : List Str} {a b x : Addr}
theorem txt_items {vs : List Value} (h : ItemsAre (strKind P w) k vs) : ∀ v ∈ vs, ∃ (z : Str) (u : Tok), v = .str z u := by
  induction h with
  | nil => exact fun v hv => nomatch hv
  | cons h1 _ ih =>
    intro v hv
    rcases List.mem_cons.mp hv with rfl | hv
    · obtain ⟨u, e⟩ := Value.isStrOf_shape h1
      exact ⟨_, u, e⟩
    · exact ih v hv
theorem cls_txt (n : Nat) (z : Str) (u : Tok) : ofAClassStatement n (.str z u) = pure false := by cases n <;> rfl
theorem val_txt (n : Nat) (z : Str) (u : Tok) : hashByValue n (.str z u) = pure false := by cases n <;> rfl
theorem cls_row {Q : Bool → Shared → Prop} (hk : IsS P w s.heap k b) (h : Q false s) : wpAny (model P w) A (ofAClassStatement 8 (.ref b)) Q E s := by
  have ty := hk.typeIs
  obtain ⟨o, its, n, ho, _, hd, hi⟩ := hk
  unfold ofAClassStatement
  refine wpAny_bind (wpAny_typeOf ty ?_)
  dsimp only
  simp only [show (("tuple" : String) == "tuple") = true by decide, if_true, Bool.not_true, Bool.false_eq_true, if_false]
  try refine wpAny_bind (wpAny_pure ?_)
  try simp only [Bool.not_true, Bool.false_eq_true, if_false]
  show wpAny _ _ (seqItems? (.ref b) >>= _) _ _ s
  refine wpAny_bind (wpAny_seqItems ho hd ?_)
  dsimp only
  refine wpAny_bind ?_
  show wpAny _ _ (forIn its _ _) _ _ s
  rw [← Array.forIn_toList]
  refine wpAny_forIn_list _ (fun l r s2 => r.1 = none ∧ s2 = s ∧ ∀ v ∈ l, ∃ (z : Str) (u : Tok), v = Value.str z u) _ ?_ ?_ _ _ ⟨rfl, rfl, txt_items hi⟩
  · rintro v l r s2 ⟨_, rfl, all⟩
    obtain ⟨z, u, rfl⟩ := all v List.mem_cons_self
    rw [cls_txt]
    refine wpAny_bind (wpAny_pure ?_)
    simp only [Bool.false_eq_true, if_false]
    exact wpAny_pure ⟨rfl, rfl, fun y hy => all y (List.mem_cons_of_mem _ hy)⟩
  · rintro ⟨r1, r2⟩ s2 ⟨hr, rfl, _⟩
    simp only at hr
    subst hr
    exact wpAny_pure h
theorem val_row {Q : Bool → Shared → Prop} (hk : IsS P w s.heap k b) (h : ∀ c, Q c s) : wpAny (model P w) A (hashByValue 8 (.ref b)) Q E s := by
  have ty := hk.typeIs
  obtain ⟨o, its, n, ho, _, hd, hi⟩ := hk
  unfold hashByValue
  refine wpAny_bind (wpAny_specialOf ty F.slot_tuple_hash.lookup ?_)
  show wpAny _ _ (seqItems? (.ref b) >>= _) _ _ s
  refine wpAny_bind (wpAny_seqItems ho hd ?_)
  refine wpAny_bind ?_
  show wpAny _ _ (forIn its _ _) _ _ s
  rw [← Array.forIn_toList]
  have txt := txt_items hi
  cases hl : its.toList with
  | nil =>
    refine wpAny_forIn_list _ (fun l r s2 => r.1 = none ∧ s2 = s ∧ l = []) _ ?_ ?_ _ _ ⟨rfl, rfl, rfl⟩
    · rintro v l r s2 ⟨_, _, z⟩
      cases z
    · rintro ⟨r1, r2⟩ s2 ⟨hr, rfl, _⟩
      simp only at hr
      subst hr
      exact wpAny_pure (h true)
  | cons v0 l0 =>
    rw [hl] at txt
    refine wpAny_forIn_list _ (fun l r s2 => r.1 = none ∧ s2 = s ∧ ∀ v ∈ l, ∃ (z : Str) (u : Tok), v = Value.str z u) _ ?_ ?_ _ _ ⟨rfl, rfl, txt⟩
    · rintro v l r s2 ⟨_, rfl, all⟩
      obtain ⟨z, u, rfl⟩ := all v List.mem_cons_self
      rw [val_txt]
      refine wpAny_bind (wpAny_pure ?_)
      simp only [Bool.not_false, if_true]
      exact wpAny_pure (wpAny_pure (h false))
    · rintro ⟨r1, r2⟩ s2 ⟨hr, rfl, _⟩
      simp only at hr
      subst hr
      exact wpAny_pure (h true)
theorem not_seen {Q : Bool → Shared → Prop} (hk : IsS P w s.heap k b) {ys : List Value} (hy : ∀ y ∈ ys, ∃ (k' : List Str) (c : Addr), y = Value.ref c ∧ IsS P w s.heap k' c) (h : Q false s) :
    wpAny (model P w) A (searchCouldBeSeen (.ref b) ys) Q E s := by
  unfold searchCouldBeSeen
  refine wpAny_bind ?_
  refine wpAny_forIn_list _ (fun l r s2 => r.1 = none ∧ s2 = s ∧ ∀ y ∈ l, ∃ (k' : List Str) (c : Addr), y = Value.ref c ∧ IsS P w s.heap k' c) _ ?_ ?_ _ _ ⟨rfl, rfl, hy⟩
  · rintro v l r s2 ⟨_, rfl, all⟩
    obtain ⟨k', c, rfl, hc⟩ := all v List.mem_cons_self
    have all2 : ∀ y ∈ l, ∃ (k' : List Str) (c : Addr), y = Value.ref c ∧ IsS P w s2.heap k' c := fun y hy => all y (List.mem_cons_of_mem _ hy)
    dsimp only
    by_cases same : (b == c || (carriedByValue (.ref b) && carriedByValue (.ref c))) = true
    · exact wp_if_pos same (wpAny_pure ⟨rfl, rfl, all2⟩)
    · refine wp_if_neg same ?_
      refine wpAny_bind (wpAny_eqIsQuiet_tuple hk ?_)
      simp only [Bool.not_true, Bool.false_eq_true, if_false]
      refine wpAny_bind (wpAny_eqIsQuiet_tuple hc ?_)
      simp only [Bool.not_true, Bool.false_eq_true, if_false]
      refine wpAny_bind (cls_row hk ?_)
      simp only [Bool.false_eq_true, if_false]
      refine wpAny_bind (cls_row hc ?_)
      simp only [Bool.false_eq_true, if_false]
      exact wpAny_pure ⟨rfl, rfl, all2⟩
  · rintro ⟨r1, r2⟩ s2 ⟨hr, rfl, _⟩
    simp only at hr
    subst hr
    exact wpAny_pure h
/-! ### the set -/
abbrev rws (P : Program) (w : World) (L : List (Addr × List Str)) : List (Int × Value) := L.map fun p => (hsh P w p.2, Value.ref p.1)
structure SetS (P : Program) (w : World) (h : Heap) (a : Addr) (L : List (Addr × List Str)) (es : Array (Int × Value)) (ep : Nat) (t : SetTable) : Prop where
  ob : ∃ o, h.get? a = some o ∧ o.ExactSet ∧ o.data = .set es ep t
  rows : es.toList = rws P w L
  tab : Tab t L.length
  tup : ∀ p ∈ L, IsS P w h p.2 p.1
  led : w.params.followText "set-order" = true ∨ t.led = true
  room : L.length * 5 < t.mask * 3
  few : L.length < 300
variable {L : List (Addr × List Str)} {es : Array (Int × Value)} {ep : Nat} {t : SetTable}
theorem rws_len (h : es.toList = rws P w L) : es.size = L.length := by
  have e := congrArg List.length h
  rwa [Array.length_toList, List.length_map] at e
theorem SetS.size (R : SetS P w s.heap a L es ep t) : es.size = L.length := rws_len R.rows
theorem SetS.fits (R : SetS P w s.heap a L es ep t) : t.fits es.size = true := by
  rw [R.size]
  exact R.tab.fits (by have := R.room; omega)
theorem SetS.at_ (R : SetS P w s.heap a L es ep t) {i : Nat} {p : Addr × List Str} (h : L[i]? = some p) : es[i]? = some (hsh P w p.2, Value.ref p.1) := by
  rw [← Array.getElem?_toList, R.rows, List.getElem?_map, h]
  rfl
theorem dm_nth (m : Nat) : ∀ (n : Nat) (p : SetTable.Probe), p.dummy = none → (nth m p n).dummy = none
  | 0, _, h => h
  | n + 1, p, h => by
    refine dm_nth m n (adv m p) ?_
    unfold adv
    split <;> exact h
/-- a key that is not there: the search ends at the first empty slot -/
theorem look (R : SetS P w s.heap a L es ep t) (hx : IsS P w s.heap k x) (hk : k ∉ L.map (·.2)) (hu : A.units < cLine) {K : Nat} (hKf : K < 10 * SetTable.turns t.mask)
    (hK : way t.mask (hsh P w k) K ∉ t.place.toList) (hKb : ∀ c, c < K → way t.mask (hsh P w k) c ∈ t.place.toList) {Q : SetFound → Shared → Prop} (h : Q (.free (way t.mask (hsh P w k) K) false) s) :
    ∀ (f c : Nat) (st : Option SetTable.Probe), st.getD (t.probeStart (hsh P w k)) = nth t.mask (runAt t.mask (SetTable.bits (hsh P w k) % (t.mask + 1)) (SetTable.bits (hsh P w k))) c → c ≤ K → K - c < f →
      wpAny (model P w) A (setSearchFrom a (.ref x) (hsh P w k) true f st) Q E s
  | 0, c, st, _, _, hf => absurd hf (Nat.not_lt_zero _)
  | f + 1, c, st, hst, hc, hf => by
    obtain ⟨o, ho, hex, hd⟩ := R.ob
    rw [setSearchFrom_succ]
    refine wpAny_bind (wpAny_setState_of ho hd R.fits ?_)
    dsimp only
    refine wp_if_neg R.tab.stays ?_
    try refine wpAny_bind (wpAny_pure ?_)
    generalize hp0 : runAt t.mask (SetTable.bits (hsh P w k) % (t.mask + 1)) (SetTable.bits (hsh P w k)) = p0 at hst
    have wy : ∀ q, way t.mask (hsh P w k) q = (nth t.mask p0 q).j := fun q => by rw [← hp0]
    have sh : ∀ q, nth t.mask (nth t.mask p0 c) q = nth t.mask p0 (c + q) := fun q => (nth_add t.mask c _ q).symm
    have d0 : (nth t.mask p0 c).dummy = none := dm_nth _ _ _ (by rw [← hp0]; rfl)
    rw [hst]
    rcases go_spec t R.tab.ris R.tab.dm (fun i => (es[i]?.map (·.1)).getD 0) (hsh P w k) (10 * SetTable.turns t.mask) (K - c) _ d0 (by omega)
      (fun q hq => by rw [sh, ← wy]; exact hKb (c + q) (by omega)) (by rw [sh, ← wy, show c + (K - c) = K by omega]; exact hK) with ⟨q, i, hq, hi, _, _, hpr⟩ | ⟨_, hpr⟩
    · rw [show t.probe (fun i => (es[i]?.map (·.1)).getD 0) (hsh P w k) (nth t.mask p0 c) = _ from hpr]
      dsimp only
      have hil : i < L.length := by
        have h1 := (List.getElem?_eq_some_iff.mp hi).1
        rw [Array.length_toList, R.tab.sz] at h1
        exact h1
      have hp : L[i]? = some L[i] := List.getElem?_eq_getElem hil
      generalize L[i] = p at hp
      have hm : p ∈ L := List.mem_of_getElem? hp
      have ne : p.2 ≠ k := fun e => hk (List.mem_map.mpr ⟨p, hm, e⟩)
      have go : wpAny (model P w) A (searchRest a (.ref x) (hsh P w k) true f es t (nth t.mask (nth t.mask p0 c) q).j i (nth t.mask (nth t.mask p0 c) (q + 1))) Q E s := by
        unfold searchRest
        rw [R.at_ hp]
        dsimp only
        refine wpAny_bind (wpAny_holding (wpAny_eqBool_tuple hu (R.tup p hm) hx ?_))
        refine wpAny_bind (wpAny_setState_of ho hd R.fits ?_)
        dsimp only
        refine wp_if_neg (by simp [ne]) ?_
        try refine wpAny_bind (wpAny_pure ?_)
        rw [sameMem]
        dsimp only
        have hsl : t.slot (nth t.mask (nth t.mask p0 c) q).j = .live i := slot_live R.tab.ris hi
        simp only [if_true, hsl, R.at_ hp]
        refine wpAny_bind (wpAny_isSame_ref_self (wpAny_bind (wpAny_pure ?_)))
        simp only [if_true]
        refine wp_if_neg (by simp [ne]) ?_
        refine look R hx hk hu hKf hK hKb h f (c + (q + 1)) _ ?_ (by omega) (by omega)
        show nth t.mask (nth t.mask p0 c) (q + 1) = _
        rw [sh, hp0]
      by_cases hl : t.led = true
      · refine wp_if_neg (by simp [hl]) ?_
        try refine wpAny_bind (wpAny_pure ?_)
        exact go
      · refine wp_if_pos (by simp [hl]) ?_
        refine wpAny_bind (not_seen hx (fun y hy => ?_) ?_)
        · obtain ⟨e, he, rfl⟩ := List.mem_map.mp hy
          have he1 : e ∈ es ∧ e.1 = hsh P w k := by simpa using he
          have he2 : e ∈ es.toList := by simpa using he1.1
          rw [R.rows] at he2
          obtain ⟨p2, hp2, rfl⟩ := List.mem_map.mp he2
          exact ⟨p2.2, p2.1, rfl, R.tup p2 hp2⟩
        · refine wp_if_neg (by decide) ?_
          try refine wpAny_bind (wpAny_pure ?_)
          exact go
    · rw [show t.probe (fun i => (es[i]?.map (·.1)).getD 0) (hsh P w k) (nth t.mask p0 c) = _ from hpr]
      dsimp only
      refine wpAny_pure ?_
      rw [sh, ← wy, show c + (K - c) = K by omega]
      exact h
/-! ### adding -/
theorem row_same {h h' : Heap} {o : Obj} (hb : IsS P w h k b) (ho : h.get? a = some o) (hd : o.data = .set es ep t) (hs : Heap.SameBut a h h') : IsS P w h' k b := by
  obtain ⟨o2, its, n, h2, hc, hd2, hi⟩ := hb
  have ne : b ≠ a := by
    rintro rfl
    rw [ho] at h2
    cases h2
    rw [hd] at hd2
    exact nomatch hd2
  exact ⟨o2, its, n, (hs.2 b ne).trans h2, hc, hd2, hi⟩
theorem row_keep {h h' : Heap} (x : IsS P w h k b) (hk : ∀ c o, h.get? c = some o → h'.get? c = some o) : IsS P w h' k b := by
  obtain ⟨o, its, n, ho, r⟩ := x
  exact ⟨o, its, n, hk b o ho, r⟩
/-- entries in another order are rows in another order -/
theorem rows_order (hr : es.toList = rws P w L) {order : Array Nat} (hp : order.toList.Perm (List.range L.length)) :
    ∃ L2, (order.filterMap (es[·]?)).toList = rws P w L2 ∧ L2.Perm L := by
  have e1 : ∀ i : Nat, es[i]? = (L[i]?).map fun p : Addr × List Str => (hsh P w p.2, Value.ref p.1) := fun i => by
    rw [← Array.getElem?_toList, hr, List.getElem?_map]
  have all : ∀ l : List Nat, l.filterMap (fun i => es[i]?) = rws P w (l.filterMap fun i => L[i]?) := fun l => by
    induction l with
    | nil => rfl
    | cons i l ih =>
      cases h : L[i]? with
      | none => rw [List.filterMap_cons_none (by rw [e1, h]; rfl), List.filterMap_cons_none h, ih]
      | some p => rw [List.filterMap_cons_some (by rw [e1, h]; rfl), List.filterMap_cons_some h, ih]; rfl
  refine ⟨order.toList.filterMap fun i => L[i]?, by rw [Array.toList_filterMap]; exact all _, (hp.filterMap _).trans ?_⟩
  have id_ : ∀ n, n ≤ L.length → (List.range n).filterMap (fun i => L[i]?) = L.take n := fun n => by
    induction n with
    | zero => intro _; rfl
    | succ n ih =>
      intro hn
      rw [List.range_succ, List.filterMap_append, ih (Nat.le_of_lt hn), List.take_succ, List.getElem?_eq_getElem hn, List.filterMap_cons_some (List.getElem?_eq_getElem hn)]
      rfl
  rw [id_ _ (Nat.le_refl _), List.take_length]
theorem relay (hob : ∃ o, s.heap.get? a = some o ∧ o.ExactSet ∧ o.data = .set es ep t) (hr : es.toList = rws P w L) (T : Tab t L.length) (hfl : L.length ≤ t.mask) (tup : ∀ p ∈ L, IsS P w s.heap p.2 p.1)
    (ld : w.params.followText "set-order" = true ∨ t.led = true) (few : L.length < 300) {wanted M : Nat} (hw : SetTable.sizeAbove wanted - 1 = M) (hM : Rnd M) (hw2 : SetTable.sizeAbove wanted ≤ 512) (hn : L.length * 5 < M * 3) {Q : Unit → Shared → Prop}
    (hQ : ∀ h' L' es' ep' t', Heap.SameBut a s.heap h' → SetS P w h' a L' es' ep' t' → L'.Perm L → Q () { s with heap := h' }) : wpAny (model P w) A (setRelay a wanted) Q E s := by
  obtain ⟨o, ho, hex, hd⟩ := hob
  have hsl := rws_len hr
  obtain ⟨t', order, e, hp, T', em, el, _⟩ := laid_anew t (hs := es.map (·.1)) hw hM (by rw [Array.size_map, hsl]; omega)
  rw [Array.size_map, hsl] at hp T'
  obtain ⟨L2, r1, r2⟩ := rows_order hr hp
  have hs2 : (order.filterMap (es[·]?)).size = es.size := by rw [rws_len r1, r2.length_eq, hsl]
  rw [setRelay_eq]
  refine wpAny_bind (wpAny_setState_of ho hd (by rw [hsl]; exact T.fits hfl) ?_)
  dsimp only
  refine wp_if_neg (by rw [sizeLine_eq]; omega) ?_
  try refine wpAny_bind (wpAny_pure ?_)
  rw [e]
  dsimp only
  refine wpAny_bind ?_
  refine wp_if_neg (by rw [hs2]; simp) ?_
  try refine wpAny_bind (wpAny_pure ?_)
  refine wpAny_pure ?_
  dsimp only
  refine wpAny_storeSet_of ho hd ?_ (by rw [hs2, hsl, sizeLine_eq]; omega)
  have sb : Heap.SameBut a s.heap (s.heap.update a (Obj.putSet (order.filterMap (es[·]?)) t')) := Heap.SameBut.update ..
  have hl := r2.length_eq
  refine hQ _ L2 (order.filterMap (es[·]?)) (ep + 1) t' sb ⟨⟨_, store_at ho hd, ⟨hex.1, hex.2.1, hex.2.2⟩, rfl⟩, r1, by rw [hl]; exact T', fun p hpm => row_same (tup p (r2.mem_iff.mp hpm)) ho hd sb, by rw [el]; exact ld, by rw [hl, em]; exact hn, by rw [hl]; exact few⟩ r2
theorem add_new (R : SetS P w s.heap a L es ep t) (hx : IsS P w s.heap k x) (hk : k ∉ L.map (·.2)) (hu : A.units < cLine) (hfew : L.length + 1 < 300) {Q : Bool → Shared → Prop}
    (hQ : ∀ b h' L' es' ep' t', Heap.SameBut a s.heap h' → SetS P w h' a L' es' ep' t' → L'.Perm ((x, k) :: L) → Q b { s with heap := h' }) :
    wpAny (model P w) A (setAddHashed a (.ref x) (hsh P w k)) Q E s := by
  obtain ⟨o, ho, hex, hd⟩ := R.ob
  have hsl := R.size
  have hroom := R.room
  obtain ⟨K, hKf, hK, hKb⟩ := R.tab.free (by omega) (hsh P w k)
  have hbig : K < 100000 := by
    have := R.tab.rnd.small
    unfold SetTable.turns at hKf
    omega
  unfold setAddHashed
  refine wpAny_holding ?_
  rw [show (100000 : Nat) = 99999 + 1 from rfl, setAddHashedIn_succ]
  refine wpAny_bind (wpAny_setState_of ho hd R.fits ?_)
  dsimp only
  refine wp_if_neg (by simp [byScan, Value.scannable]) ?_
  try refine wpAny_bind (wpAny_pure ?_)
  refine wpAny_bind (show wpAny (model P w) A (setSearch a (.ref x) (hsh P w k) true) _ E s from look R hx hk hu hKf hK hKb ?_ 100000 0 none rfl (Nat.zero_le _) (by omega))
  dsimp only
  refine wpAny_bind (wpAny_setState_of ho hd R.fits ?_)
  dsimp only
  obtain ⟨q1, q2, q3, q4, q5, q6⟩ := R.tab.put (way_bd _ _ _) hK
  generalize hpt : t.put (way t.mask (hsh P w k) K) = pt at q1 q3 q4 q5 q6 ⊢
  obtain ⟨t1, p⟩ := pt
  dsimp only at q1 q3 q4 q5 q6 ⊢
  subst q1
  generalize SetTable.below t.place (way t.mask (hsh P w k) K) = p at q2 ⊢
  have pm := put_perm L p (x, k)
  have hin : (SetTable.insertAt es p (hsh P w k, Value.ref x)).toList = rws P w (L.take p ++ (x, k) :: L.drop p) := by
    rw [SetTable.toList_insertAt, R.rows]
    simp [rws]
  have hlen : (L.take p ++ (x, k) :: L.drop p).length = L.length + 1 := pm.length_eq
  generalize SetTable.insertAt es p (hsh P w k, Value.ref x) = es1 at hin ⊢
  generalize L.take p ++ (x, k) :: L.drop p = L1 at pm hlen hin
  have hes : es1.size = L.length + 1 := by rw [rws_len hin, hlen]
  -- behind the question of the hash
  have tail : ∀ c : Bool, wpAny (model P w) A (do
      let t := if c then t1 else { t1 with plain := false }
      storeSet a es1 t
      if !false && t.tooFull then setRelay a (SetTable.grown (es.size + 1))
      return true) Q E s := fun c => by
    obtain ⟨t2, ht2⟩ : ∃ t2, t2 = (if c = true then t1 else { t1 with plain := false }) := ⟨_, rfl⟩
    have T2 : Tab t2 (L.length + 1) ∧ t2.mask = t.mask ∧ t2.led = t.led := by
      rw [ht2]
      cases c
      · exact ⟨⟨q3.ris, q3.dm, q3.sz, q3.rnd, q3.bd⟩, q4, q5⟩
      · exact ⟨q3, q4, q5⟩
    obtain ⟨T2, m2, l2⟩ := T2
    dsimp only
    rw [← ht2]
    refine wpAny_bind (wpAny_storeSet_of ho hd ?_ (by rw [hes, sizeLine_eq]; omega))
    have sb : Heap.SameBut a s.heap (s.heap.update a (Obj.putSet es1 t2)) := Heap.SameBut.update ..
    have ho1 := store_at (es' := es1) (t' := t2) ho hd
    generalize s.heap.update a (Obj.putSet es1 t2) = h1 at sb ho1 ⊢
    have tup1 : ∀ p ∈ L1, IsS P w h1 p.2 p.1 := fun p hp => by
      rcases List.mem_cons.mp (pm.mem_iff.mp hp) with e | hp
      · rw [e]; exact row_same hx ho hd sb
      · exact row_same (R.tup p hp) ho hd sb
    have ld1 : w.params.followText "set-order" = true ∨ t2.led = true := by rw [l2]; exact R.led
    have T3 : Tab t2 L1.length := by rw [hlen]; exact T2
    by_cases hf : t2.tooFull = true
    · have hfull : (L.length + 1) * 5 ≥ t.mask * 3 := by
        have h := hf
        unfold SetTable.tooFull at h
        rw [decide_eq_true_eq, T2.fill, m2] at h
        exact h
      first
        | (refine wpAny_bind ?_; refine wp_if_pos (by simp [hf]) ?_)
        | (refine wp_if_pos (by simp [hf]) ?_; refine wpAny_bind ?_)
      rw [hsl]
      have go : ∀ M, SetTable.sizeAbove (SetTable.grown (L.length + 1)) - 1 = M → Rnd M → SetTable.sizeAbove (SetTable.grown (L.length + 1)) ≤ 512 → (L.length + 1) * 5 < M * 3 → L.length + 1 ≤ t.mask →
          wpAny (model P w) A (setRelay a (SetTable.grown (L.length + 1))) (fun _ s' => wpAny (model P w) A (pure true) Q E s') E { s with heap := h1 } := fun M g1 g2 g3 g4 g5 => by
        refine relay (s := { s with heap := h1 }) ⟨_, ho1, ⟨hex.1, hex.2.1, hex.2.2⟩, rfl⟩ hin T3 (by rw [hlen, m2]; exact g5) tup1 ld1 (by rw [hlen]; exact hfew) g1 g2 g3 (by rw [hlen]; exact g4) ?_
        intro h2 L2 es2 ep2 t2 sb2 R2 pm2
        exact wpAny_pure (hQ true h2 L2 es2 ep2 t2 (sb.trans sb2) R2 (pm2.trans pm))
      rcases R.tab.rnd.four with e | e | e | e
      · have e2 : L.length + 1 = 5 := by omega
        exact go 31 (by rw [e2, size20]) rnd31 (by rw [e2, size20]; decide) (by omega) (by omega)
      · have e2 : L.length + 1 = 19 := by omega
        exact go 127 (by rw [e2, size76]) rnd127 (by rw [e2, size76]; decide) (by omega) (by omega)
      · have e2 : L.length + 1 = 77 := by omega
        exact go 511 (by rw [e2, size308]) rnd511 (by rw [e2, size308]; decide) (by omega) (by omega)
      · exfalso; omega
    · first
        | refine wp_if_neg (by simp [hf]) ?_
        | (refine wpAny_bind ?_; refine wp_if_neg (by simp [hf]) ?_; refine wpAny_pure ?_)
      refine wpAny_pure (hQ true h1 L1 es1 (ep + 1) t2 sb ⟨⟨_, ho1, ⟨hex.1, hex.2.1, hex.2.2⟩, rfl⟩, hin, T3, tup1, ld1, ?_, by rw [hlen]; exact hfew⟩ pm)
      have h := hf
      unfold SetTable.tooFull at h
      rw [decide_eq_true_eq, T2.fill] at h
      rw [hlen]
      omega
  by_cases hpl : t1.plain = true
  · first
      | (refine wpAny_bind ?_; refine wp_if_pos hpl ?_; exact val_row hx tail)
      | exact wp_if_pos hpl (wpAny_bind (val_row hx tail))
  · first
      | (refine wpAny_bind ?_; refine wp_if_neg hpl ?_; exact wpAny_pure (tail true))
      | exact wp_if_neg hpl (wpAny_bind (wpAny_pure (tail true)))
end
end KS

set_option Elab.async false
set_option linter.all false
set_option maxRecDepth 100000
set_option autoImplicit false
/-! KS3: set(rows), rows a list of different tuples of texts. -/
namespace KS
open PySem PySem.Spec PyProof.Rows L2
section
variable {P : Program} {w : World} {A : Around} {E : Value → Shared → Prop} {s : Shared}
theorem SetS.keep {h h' : Heap} {a : Addr} {L : List (Addr × List Str)} {es : Array (Int × Value)} {ep : Nat} {t : SetTable} (R : SetS P w h a L es ep t) (ha : ∀ o, h.get? a = some o → h'.get? a = some o) (ht : ∀ p ∈ L, IsS P w h' p.2 p.1) : SetS P w h' a L es ep t := by
  obtain ⟨⟨o, ho, r⟩, b, c, _, e, f, g⟩ := R
  exact ⟨⟨o, ha o ho, r⟩, b, c, ht, e, f, g⟩
abbrev newSet (w : World) : Obj := { cls := .type "set", dict := none, data := .set #[] 0 (.fresh 0 0 (!w.params.followText "set-order")) }
theorem set_none {h : Heap} {a : Addr} (ho : h.get? a = some (newSet w)) : SetS P w h a [] #[] 0 (.fresh 0 0 (!w.params.followText "set-order")) where
  ob := ⟨_, ho, ⟨rfl, rfl, rfl⟩, rfl⟩
  rows := rfl
  tab := ⟨List.Pairwise.nil, rfl, rfl, rnd7, fun x hx => nomatch hx⟩
  tup := fun p hp => nomatch hp
  led := by
    show _ ∨ (!w.params.followText "set-order") = true
    cases w.params.followText "set-order"
    · exact .inr rfl
    · exact .inl rfl
  room := show 0 * 5 < 7 * 3 by decide
  few := show 0 < 300 by decide
/-- the loop of set.update -/
theorem upd_loop {I : Addr} {fp wr : List Addr} {G : Array GenState → Array GenState → Prop} {n : Nat} {Pv : Nat → Value → Prop} {St : Nat → Shared → Prop} {R : Result → Shared → Prop}
    (W : WalksS P w A.in1 I fp wr G n Pv St) (S : Addr) (hSf : S ∉ fp) (ks : List (Addr × List Str)) (hn : n = ks.length) (hfew : ks.length < 300) (nd : (ks.map (·.2)).Nodup) (hval : ∀ i v, Pv i v → ∃ p, ks[i]? = some p ∧ v = .ref p.1)
    (h0 : Heap) (hk : ∀ p ∈ ks, IsS P w h0 p.2 p.1) (hS0 : h0.get? S = none) (hw0 : ∀ b ∈ wr, h0.get? b = none) (hu : A.in1.units < cLine) :
    ∀ (k i : Nat) (s : Shared), n - i = k → i ≤ n → St i s → (∀ b o, h0.get? b = some o → s.heap.get? b = some o) → (∃ L es ep t, SetS P w s.heap S L es ep t ∧ L.Perm (ks.take i)) →
      (∀ s' L es ep t, Moved (S :: wr) G s s' → SetS P w s'.heap S L es ep t → L.Perm (ks.take n) → (∀ b o, h0.get? b = some o → s'.heap.get? b = some o) → R (.ok (.ret .none)) s') →
      codeAny (model P w) A (.builtin "set.update.loop" ⟨[.ref S, .ref I], []⟩) R s := by
  have hSw : S ∉ wr := fun h => hSf (W.sub _ h)
  have wide : ∀ b ∈ wr, b ∈ S :: wr := fun b hb => List.mem_cons_of_mem _ hb
  have old : ∀ {s s' : Shared}, Moved wr G s s' → (∀ b o, h0.get? b = some o → s.heap.get? b = some o) → ∀ b o, h0.get? b = some o → s'.heap.get? b = some o := fun mv ok b o e =>
    mv.heap b o (fun hb => by rw [hw0 b hb] at e; cases e) (ok b o e)
  intro k
  induction k with
  | zero =>
    rintro i s hk' hi hst ok ⟨L, es, ep, t, RS, pm⟩ fin
    obtain rfl : i = n := by omega
    refine codeAny_builtin F.entry_set_update_loop ?_
    rw [Around.under_plainId F.plain_set_update_loop _]
    show wpAny _ A.in1 (pyNext (.ref I) >>= _) _ _ s
    refine wpAny_bind (W.done s _ _ hst fun s' mv => ?_)
    show wpAny _ A.in1 (ret Value.none) _ _ s'
    have ok' := old mv ok
    have inks : ∀ p ∈ L, p ∈ ks := fun p hp => List.mem_of_mem_take (pm.mem_iff.mp hp)
    exact wpAny_pure (fin s' L es ep t (mv.mono wide) (RS.keep (fun o e => mv.heap S o hSw e) fun p hp => row_keep (hk p (inks p hp)) ok') pm ok')
  | succ k ih =>
    rintro i s hk' hi hst ok ⟨L, es, ep, t, RS, pm⟩ fin
    have lt : i < n := by omega
    refine codeAny_builtin F.entry_set_update_loop ?_
    rw [Around.under_plainId F.plain_set_update_loop _]
    show wpAny _ A.in1 (pyNext (.ref I) >>= _) _ _ s
    refine wpAny_bind (W.item i s _ _ lt hst fun v s' hP hst' mv => ?_)
    obtain ⟨p, hp, rfl⟩ := hval i v hP
    have ok' := old mv ok
    have inks : ∀ p ∈ L, p ∈ ks := fun p hp => List.mem_of_mem_take (pm.mem_iff.mp hp)
    have RS' : SetS P w s'.heap S L es ep t := RS.keep (fun o e => mv.heap S o hSw e) fun q hq => row_keep (hk q (inks q hq)) ok'
    have hx : IsS P w s'.heap p.2 p.1 := row_keep (hk p (List.mem_of_getElem? hp)) ok'
    have tk : ks.take (i + 1) = ks.take i ++ [p] := by rw [List.take_succ, hp]; rfl
    have new : p.2 ∉ L.map (·.2) := fun hm => by
      have nd1 : ((ks.take (i + 1)).map (·.2)).Nodup := nd.sublist ((List.take_sublist _ _).map _)
      rw [tk, List.map_append, List.nodup_append] at nd1
      exact nd1.2.2 p.2 ((pm.map (·.2)).mem_iff.mp hm) p.2 (by simp) rfl
    have ll : L.length = i := by rw [pm.length_eq, List.length_take]; omega
    show wpAny _ A.in1 (holding [Value.ref p.1] (setAdd S (.ref p.1)) >>= _) _ _ s'
    refine wpAny_bind (wpAny_holding ?_)
    unfold setAdd
    refine wpAny_holding ?_
    refine wpAny_bind (wpAny_pyHash_tuple hu hx ?_)
    refine add_new (s := { s' with toks := s'.toks + (p.2.length + 1) }) RS' hx new hu (by omega) fun b h' L' es' ep' t' sb RS2 pm2 => ?_
    have pm3 : L'.Perm (ks.take (i + 1)) := by
      rw [tk]
      exact pm2.trans ((pm.cons _).trans (List.perm_append_singleton _ _).symm)
    have ok2 : ∀ b o, h0.get? b = some o → h'.get? b = some o := fun b o e => (sb.2 b (fun z => by rw [z, hS0] at e; cases e)).trans (ok' b o e)
    refine wpAny_pure ⟨plainId_quiet F.plain_set_update_loop _, ih (i + 1) _ (by omega) lt (W.frame _ s' _ _ hst' (Nat.le_add_right _ _) fun b hb o e => ?_) ok2 ⟨L', es', ep', t', RS2, pm3⟩ fun s2 L2 es2 ep2 t2 mv2 RS3 pm4 ok3 => ?_⟩
    · rw [sb.2 b (fun z : b = S => hSf (by rw [← z]; exact hb))]
      exact e
    · refine fin s2 L2 es2 ep2 t2 (Moved.trans W.gtrans ((mv.mono wide).then_heap (Nat.le_add_right _ _) fun b o hb e => ?_) mv2) RS3 pm4 ok3
      rw [sb.2 b (fun z : b = S => hb (by rw [z]; exact List.mem_cons_self))]
      exact e
set_option maxHeartbeats 3200000 in
theorem call_set {l : Addr} {items : Array Value} (ks : List (Addr × List Str)) {Q : Value → Shared → Prop} (hh : A.handled = none) (hl : s.heap.IsList l items) (hit : items.toList = ks.map fun p => Value.ref p.1)
    (hk : ∀ p ∈ ks, IsS P w s.heap p.2 p.1) (nd : (ks.map (·.2)).Nodup) (hfew : ks.length < 300) (hu : A.units + 3 < cLine)
    (h : ∀ (h' : Heap) (tk : Nat) L es ep t, SetS P w h' s.heap.objs.size L es ep t → L.Perm ks → (∀ b o, s.heap.get? b = some o → h'.get? b = some o) → Q (.ref s.heap.objs.size) { s with heap := h', toks := tk }) :
    wpAny (model P w) A (call (.type "set") [.ref l]) Q E s := by
  have isz : items.size = ks.length := by
    have q := congrArg List.length hit
    rwa [Array.length_toList, List.length_map] at q
  obtain ⟨c, tl, hmro⟩ := F.called_set.mro
  have hmade := F.called_set.made
  have hsub := F.called_set.sub
  refine wpAny_call (codeAny_of_tree ?_)
  show wpAny _ _ (callAny (.type "set") _) _ _ _
  refine wpAny_pure ⟨Code.quiet_builtin _ (by decide +kernel), codeAny_builtin F.entry_type_call ?_⟩
  rw [Around.under_plain (weight_type_call_type "set" [.ref l] []) rfl]
  have h1 := F.called_set.notType
  have h2 := F.called_set.canCreate
  have hct := F.typeCall_set_1 (.ref l)
  repeat (any_goals (first | assumption | wp_step))
  refine codeAny_mono (code_set_led1 (.ref l) (E := E) (Q₁ := fun obj s₁ => obj = .ref s.heap.objs.size ∧ s₁ = { s with heap := s.heap.push (newSet w) }) ⟨rfl, rfl⟩) fun r s₁ hr => ?_
  match r, hr with
  | .error e, hr => exact hr
  | .ok (.ret obj), hr =>
    obtain ⟨rfl, rfl⟩ := hr
    have hS : (s.heap.push (newSet w)).get? s.heap.objs.size = some (newSet w) := Heap.get?_push_size _ rfl
    have hT : Shared.TypeIs { s with heap := s.heap.push (newSet w) } (.ref s.heap.objs.size) "set" := ⟨_, hS, rfl⟩
    have hli := F.called_set.init.lookup
    have hbi := F.called_set.init.bind (.ref s.heap.objs.size)
    repeat (any_goals (first | assumption | wp_step))
    refine codeAny_mono (codeAny_call_builtin (R := wants (fun r s₂ => r = .none ∧ ∃ h' tk L es ep t, s₂ = { s with heap := h', toks := tk } ∧ SetS P w h' s.heap.objs.size L es ep t ∧ L.Perm ks ∧
        (∀ b o, s.heap.get? b = some o → h'.get? b = some o)) E) F.called_set.init.plain F.entry_set_init (check_set_init_1 hT ?_)) fun r₂ s₂ hr₂ => ?_
    · obtain ⟨ol, hol, hcl, nl, hdl⟩ := hl
      obtain ⟨ocls, odict, odata, oslots⟩ := ol
      simp only at hcl hdl
      subst hcl; subst hdl
      have hol' : (s.heap.push (newSet w)).get? l = some { cls := .type "list", dict := odict, data := .seq items nl, slots := oslots } := Heap.get?_push_of_some _ hol
      have hsls := F.sub_list_set
      have hslf := F.sub_list_frozenset
      have hne : (Value.type "list" == Value.type "dict") = false := by decide
      have hl1 : (s.heap.push (newSet w)).IsList l items := ⟨_, hol', rfl, nl, rfl⟩
      unfold Builtin.«set.__init__» noKeywords Builtin.Frozenset.updateFrom
      generalize hPI : pyIter = PI
      wp_walk
      subst hPI
      refine wpAny_pyIter_list hl1 ?_
      refine wpAny_bind (wpAny_runValue ?_)
      have hlS : l < s.heap.objs.size := Heap.lt_size hol
      have hh3 : A.in1.in1.in1.handled = none := by simp [hh]
      have hz1 : (s.heap.push (newSet w)).objs.size = s.heap.objs.size + 1 := Heap.size_push ..
      have hneI : l ≠ (s.heap.push (newSet w)).objs.size := fun z => Nat.lt_irrefl _ (Nat.lt_of_lt_of_le (Nat.lt_succ_of_lt hlS) (Nat.le_of_eq (hz1.symm.trans z.symm)))
      have hSf : s.heap.objs.size ∉ [(s.heap.push (newSet w)).objs.size, l] := by
        rw [hz1]
        simp only [List.mem_cons, List.not_mem_nil, or_false, not_or]
        exact And.intro (Nat.ne_of_lt (Nat.lt_succ_self _)) (Nat.ne_of_gt hlS)
      have hval : ∀ (i : Nat) (v : Value), items[i]? = some v → ∃ p, ks[i]? = some p ∧ v = .ref p.1 := fun i v hv => by
        have q : items.toList[i]? = some v := by rw [Array.getElem?_toList]; exact hv
        rw [hit, List.getElem?_map, Option.map_eq_some_iff] at q
        obtain ⟨p, q1, q2⟩ := q
        exact ⟨p, q1, q2.symm⟩
      have above : ∀ b, s.heap.objs.size ≤ b → s.heap.get? b = none := fun b hb => by
        cases q : s.heap.get? b with
        | none => rfl
        | some o => exact absurd (Heap.lt_size q) (Nat.not_lt.mpr hb)
      refine upd_loop ((Walks.list hh3 _ l hneI items).toS) s.heap.objs.size hSf ks isz hfew nd hval s.heap hk (above _ (Nat.le_refl _))
        (fun b hb => above b (by rw [List.mem_singleton.mp hb, hz1]; exact Nat.le_succ _)) hu (items.size - 0) 0 _ (by omega) (Nat.zero_le _)
        ⟨⟨_, Heap.get?_push_size _ rfl, rfl, rfl⟩, (hl1.push _)⟩ (fun b o e => Heap.get?_push_of_some _ (Heap.get?_push_of_some _ e)) ?first ?last
      case first =>
        have hget : ((s.heap.push (newSet w)).push { cls := .type "list_iterator", data := .fields #[.ref l, .int 0 0] }).get? s.heap.objs.size = some (newSet w) := Heap.get?_push_of_some _ hS
        exact ⟨[], #[], 0, _, set_none hget, List.Perm.refl _⟩
      case last =>
        intro s' L es ep t mv RS pm ok
        obtain ⟨h', g2, d', tk', os'⟩ := s'
        obtain rfl : g2 = s.gens := mv.gens
        obtain rfl : d' = s.drawn := mv.drawn
        obtain rfl : os' = s.os := mv.os
        show wpAny _ _ _ _ _ _
        refine wpAny_pure ?_
        show wpAny _ _ (ret Value.none) _ _ _
        rw [isz, List.take_length] at pm
        exact wpAny_pure ⟨rfl, h', tk', L, es, ep, t, rfl, RS, pm, ok⟩
    · match r₂, hr₂ with
      | .error e, hr₂ => exact hr₂
      | .ok (.ret r), hr₂ =>
        obtain ⟨rfl, h', tk, L, es, ep, t, rfl, RS, pm, ok⟩ := hr₂
        repeat (any_goals (first | assumption | wp_step))
        exact h _ _ _ _ _ _ RS pm ok
end
end KS

set_option Elab.async false
set_option linter.all false
set_option maxRecDepth 100000
set_option maxHeartbeats 4000000
set_option autoImplicit false
/-! DX0: dicts whose keys are nested tuples of ints, told by their one object. -/
namespace DW
open PySem PySem.W PySem.Calls PyProof.Rows PySem.Spec L2

mutual
def hashN : NestedKey → Int
  | .none => reduceHash 0xFCA86420
  | .num i => hashInt i
  | .text _ => 0
  | .tup ks => reduceHash (Builtin.Tuple.tupleHashOf (hashesN ks))
def hashesN : List NestedKey → List Int
  | [] => []
  | k :: ks => hashN k :: hashesN ks
end
mutual
def plainK : NestedKey → Bool
  | .none => true
  | .num _ => true
  | .text _ => false
  | .tup ks => plainKs ks
def plainKs : List NestedKey → Bool
  | [] => true
  | k :: ks => plainK k && plainKs ks
end
mutual
theorem hashN_eq (w : World) : ∀ k : NestedKey, plainK k = true → k.hash w = hashN k
  | .none, _ => rfl
  | .num _, _ => rfl
  | .text _, h => by simp [plainK] at h
  | .tup ks, h => by
    have h' : plainKs ks = true := by simpa [plainK] using h
    rw [NestedKey.hash, hashN, hashesN_eq w ks h']
theorem hashesN_eq (w : World) : ∀ ks : List NestedKey, plainKs ks = true → NestedKey.hashes w ks = hashesN ks
  | [], _ => rfl
  | k :: ks, h => by
    have h' : plainK k = true ∧ plainKs ks = true := by simpa [plainKs] using h
    rw [NestedKey.hashes, hashesN, hashN_eq w k h'.1, hashesN_eq w ks h'.2]
end
/-- a key that serves -/
def goodK (k : NestedKey) : Bool := plainK k && decide (k.depth ≤ 8)
def isTupK : NestedKey → Bool
  | .tup _ => true
  | _ => false
theorem goodK_p {k : NestedKey} (h : goodK k = true) : plainK k = true := by simp [goodK] at h; exact h.1
theorem goodK_d {k : NestedKey} (h : goodK k = true) : k.depth ≤ 8 := by simp [goodK] at h; exact h.2

/-- the object at a is just o -/
def pin (a : Addr) (o : Obj) : HO := .ext fun h => h.get? a = some o
theorem pin_ok {P : Program} {w : World} {H : Hp} {h : Heap} {a : Addr} {o : Obj} (e : h.get? a = some o) : ObjOk P w H h a (pin a o) := ⟨e, ⟨o, e⟩, fun _ _ x k => k _ x⟩
theorem pin_at {X : Cx} {pins : List (Addr × Obj)} {σ : L2.St} {H : Hp} {s : Shared} {a : Addr} {o : Obj} (I : Inv X pins σ H s) (h : H a = some (pin a o)) : s.heap.get? a = some o := (I.hok a _ h).1

abbrev ZL := List (NestedKey × Addr × V)
def getZ : ZL → NestedKey → Option V
  | [], _ => none
  | z :: r, k => if z.1 = k then some z.2.2 else getZ r k
def putZ : ZL → NestedKey → Addr → V → ZL
  | [], k, b, v => [(k, b, v)]
  | z :: r, k, b, v => if z.1 = k then (z.1, z.2.1, v) :: r else z :: putZ r k b v
abbrev ZR : ZL → List (NestedKey × Addr × Value) → Prop := Paired fun z y => z.1 = y.1 ∧ z.2.1 = y.2.1 ∧ RelV z.2.2 y.2.2
def entN (y : NestedKey × Addr × Value) : DictEntry := ⟨hashN y.1, .ref y.2.1, y.2.2⟩
structure IsDict (a : Addr) (o : Obj) (zs : ZL) : Prop where
  sm : (a == sysModules) = false
  ex : o.ExactDict
  es : ∃ es ep ys, o.data = .dict es ep ∧ es.toList = ys.map entN ∧ ZR zs ys ∧ (ys.map (·.1)).Nodup
  pl : ∀ z ∈ zs, goodK z.1 = true
  sz : zs.length ≤ sizeLine
theorem ZR.keys {zs : ZL} {ys : List (NestedKey × Addr × Value)} (r : ZR zs ys) : zs.map (·.1) = ys.map (·.1) := by
  induction r with
  | nil => rfl
  | cons h t ih => rw [List.map_cons, List.map_cons, h.1, ih]
theorem ZR.mem {zs : ZL} {ys : List (NestedKey × Addr × Value)} (r : ZR zs ys) : ∀ y ∈ ys, ∃ z ∈ zs, z.1 = y.1 ∧ z.2.1 = y.2.1 := by
  induction r with
  | nil => intro y hy; cases hy
  | @cons z y zs ys h t ih =>
    intro y' hy
    rcases List.mem_cons.mp hy with e | hy
    · subst e; exact ⟨z, List.mem_cons_self, h.1, h.2.1⟩
    · obtain ⟨z', h1, h2⟩ := ih y' hy
      exact ⟨z', List.mem_cons_of_mem _ h1, h2⟩
theorem ZR.get {zs : ZL} {ys : List (NestedKey × Addr × Value)} (r : ZR zs ys) (k : NestedKey) : match getZ zs k with
    | some v => ∃ p, atKey ys k = some p ∧ RelV v p.2
    | none => atKey ys k = none := by
  induction r with
  | nil => rfl
  | @cons z y zs ys h t ih =>
    by_cases e : z.1 = k
    · have e' : y.1 = k := h.1 ▸ e
      simp only [getZ, if_pos e, atKey, List.find?_cons, e', decide_true, Option.map_some]
      exact ⟨_, rfl, h.2.2⟩
    · have e' : ¬ y.1 = k := h.1 ▸ e
      have : atKey (y :: ys) k = atKey ys k := by simp [atKey, List.find?_cons, e']
      rw [this]
      simpa only [getZ, if_neg e] using ih
theorem stored_cons_pos {y : NestedKey × Addr × Value} {ys : List (NestedKey × Addr × Value)} {k : NestedKey} {b : Addr} {u : Value} (e : y.1 = k) (hn : y.1 ∉ ys.map (·.1)) : storedH (y :: ys) k b u = (y.1, y.2.1, u) :: ys := by
  have h : atKey (y :: ys) k = some y.2 := by simp [atKey, List.find?_cons, e]
  rw [storedH_old h, List.map_cons, map_putAt_of_not_mem ys k u (by rw [← e]; exact hn), putAt, if_pos e]
theorem stored_cons_neg {y : NestedKey × Addr × Value} {ys : List (NestedKey × Addr × Value)} {k : NestedKey} {b : Addr} {u : Value} (e : ¬ y.1 = k) : storedH (y :: ys) k b u = y :: storedH ys k b u := by
  have h : atKey (y :: ys) k = atKey ys k := by simp [atKey, List.find?_cons, e]
  unfold storedH
  rw [h]
  split
  · rw [List.map_cons, putAt, if_neg e]
  · rfl
theorem ZR.put {k : NestedKey} {b : Addr} {v : V} {u : Value} (rv : RelV v u) {zs : ZL} {ys : List (NestedKey × Addr × Value)} (r : ZR zs ys) : (ys.map (·.1)).Nodup → ZR (putZ zs k b v) (storedH ys k b u) := by
  induction r with
  | nil => intro _; exact .cons ⟨rfl, rfl, rv⟩ .nil
  | @cons z y zs ys h t ih =>
    intro hn
    rw [List.map_cons, List.nodup_cons] at hn
    by_cases e : z.1 = k
    · have e' : y.1 = k := h.1 ▸ e
      rw [stored_cons_pos e' hn.1]
      simp only [putZ, if_pos e]
      exact .cons ⟨h.1, h.2.1, rv⟩ t
    · have e' : ¬ y.1 = k := h.1 ▸ e
      rw [stored_cons_neg e']
      simp only [putZ, if_neg e]
      exact .cons h (ih hn.2)
theorem putZ_len (k : NestedKey) (b : Addr) (v : V) : ∀ zs : ZL, (putZ zs k b v).length ≤ zs.length + 1
  | [] => by simp [putZ]
  | z :: r => by
    by_cases e : z.1 = k
    · simp [putZ, e]
    · have := putZ_len k b v r
      simp only [putZ, if_neg e, List.length_cons]; omega
theorem putZ_mem {k : NestedKey} {b : Addr} {v : V} {w : NestedKey × Addr × V} : ∀ {zs : ZL}, w ∈ putZ zs k b v → (w.1 = k ∧ w.2.1 = b) ∨ ∃ z ∈ zs, z.1 = w.1 ∧ z.2.1 = w.2.1
  | [], h => by simp [putZ] at h; subst h; exact .inl ⟨rfl, rfl⟩
  | z :: r, h => by
    by_cases e : z.1 = k
    · simp only [putZ, if_pos e] at h
      rcases List.mem_cons.mp h with q | q
      · subst q; exact .inr ⟨z, List.mem_cons_self, rfl, rfl⟩
      · exact .inr ⟨w, List.mem_cons_of_mem _ q, rfl, rfl⟩
    · simp only [putZ, if_neg e] at h
      rcases List.mem_cons.mp h with q | q
      · subst q; exact .inr ⟨w, List.mem_cons_self, rfl, rfl⟩
      · rcases putZ_mem q with q | ⟨z', h1, h2⟩
        · exact .inl q
        · exact .inr ⟨z', List.mem_cons_of_mem _ h1, h2⟩

end DW

set_option Elab.async false
set_option linter.all false
set_option maxRecDepth 100000
set_option maxHeartbeats 4000000
set_option autoImplicit false
/-! DY0: lambdas as they stand in the heap. -/
namespace DW
open PySem L2 LamX
/-- a lambda of the text: its code's name, its words, the names that it captures in their order -/
structure LamI where
  qual : Str
  params : Arguments
  body : Expr
  scope : Scope
  cap : List Str
/-- what a lambda captured: pure data, an object of the store -/
inductive CV where
  | d (x : PyData)
  | p (n : Nat)
/-- a made lambda, alone or with a word beside it in a pair -/
structure CE where
  L : LamI
  vals : List CV
  w : Option PyData
/-- the object at f is the lambda L, with these cells and this code object -/
def CloO (f : Addr) (L : LamI) (cl : List (Str × Addr)) (c' : Addr) : HO := .ext fun h => ∃ pm ctv, h.get? f = some (PySem.W.kla_obj "<lambda>" L.qual L.params L.body L.scope cl pm c' ctv)
/-- the object at c is a cell that holds v, and is just w, if w is told -/
def CellX (c : Addr) (v : V) (w : Option Obj) : HO := .ext fun h => (∃ u, RelV v u ∧ h.IsCell c (some u)) ∧ ∀ o, w = some o → h.get? c = some o
abbrev CellO (c : Addr) (v : V) : HO := CellX c v none
theorem cloO_tbl {f : Addr} {L : LamI} {cl : List (Str × Addr)} {c' : Addr} (ps : Array Value) : CloO f L cl c' ≠ .tbl ps := fun z => by unfold CloO at z; cases z
theorem cellX_tbl {c : Addr} {v : V} {w : Option Obj} (ps : Array Value) : CellX c v w ≠ .tbl ps := fun z => by unfold CellX at z; cases z
/-- the name of the code of a def's lambdas; the table of the def's code object -/
def lamQ (nm : Str) : Str := (nm ++ ".<locals>.") ++ "<lambda>"
def codA (K : PySem.W.Frag) (nm : Str) : Addr := (He.cT K (nm, none)).1
def tabA (K : PySem.W.Frag) (nm : Str) : Addr := (He.cT K (nm, none)).2
section
variable {P : Program} {w : World} {H : Hp} {h : Heap}
theorem cloO_ok {f : Addr} {L : LamI} {cl : List (Str × Addr)} {c' : Addr} {pm ctv : Value} (e : h.get? f = some (PySem.W.kla_obj "<lambda>" L.qual L.params L.body L.scope cl pm c' ctv)) : ObjOk P w H h f (CloO f L cl c') :=
  ⟨⟨pm, ctv, e⟩, ⟨_, e⟩, fun _ _ ⟨a, b, q⟩ k => ⟨a, b, k _ q⟩⟩
theorem cellX_ok {c : Addr} {v : V} {u : Value} {wo : Option Obj} (r : RelV v u) (e : h.IsCell c (some u)) (ho : ∀ o, wo = some o → h.get? c = some o) : ObjOk P w H h c (CellX c v wo) := by
  obtain ⟨o, e1, e2⟩ := id e
  exact ⟨⟨⟨u, r, e⟩, ho⟩, ⟨o, e1⟩, fun _ _ ⟨⟨a, b, o', q1, q2⟩, q3⟩ k => ⟨⟨a, b, o', k _ q1, q2⟩, fun o z => k _ (q3 o z)⟩⟩
theorem cellO_ok {c : Addr} {v : V} {u : Value} (r : RelV v u) (e : h.IsCell c (some u)) : ObjOk P w H h c (CellO c v) := cellX_ok r e fun _ z => by cases z
theorem cloO_at {f : Addr} {L : LamI} {cl : List (Str × Addr)} {c' : Addr} (hok : HOk P w H h) (e : H f = some (CloO f L cl c')) : ∃ pm ctv, h.get? f = some (PySem.W.kla_obj "<lambda>" L.qual L.params L.body L.scope cl pm c' ctv) := (hok f _ e).1
theorem cellX_at {c : Addr} {v : V} {wo : Option Obj} (hok : HOk P w H h) (e : H c = some (CellX c v wo)) : (∃ u, RelV v u ∧ h.IsCell c (some u)) ∧ ∀ o, wo = some o → h.get? c = some o := (hok c _ e).1
theorem cellO_at {c : Addr} {v : V} {wo : Option Obj} (hok : HOk P w H h) (e : H c = some (CellX c v wo)) : ∃ u, RelV v u ∧ h.IsCell c (some u) := (cellX_at hok e).1
end
end DW

set_option Elab.async false
set_option linter.all false
set_option maxRecDepth 100000
set_option maxHeartbeats 4000000
set_option autoImplicit false
/-! DW1: a weakest-precondition semantics over data, on top of HandS. Pure data are read off the heap; what a def changes lies in a numbered store. -/
namespace DW
open PySem L2

/-- an exception as a value: its class, its one field, a number before it in a pair -/
structure EV where
  c : Str
  f : Option (Str × PyData)
  i : Option Int
/-- pure data, an object of the store, the script -/
inductive DV where
  | d (x : PyData)
  | p (n : Nat)
  | s (ns : List Int)
  | m (kvs : List (NestedKey × PyData))
  | ce (e : CE)
  | cs (xs : List CE)
  | ev (e : EV)
  | es (xs : List EV)
  | cl (c : Str)
inductive SO where
  | lst (xs : List DV)
  | dic (kvs : List (NestedKey × DV))
  | ins (c : Str) (fs : List (Str × DV))
  | tab (nm : Str)
  | gone
abbrev DEnv := List (Option DV)
abbrev Sto := List SO
/-- what is raised: a class of the module, maybe with one field -/
inductive XV where
  | cls (x : Str)
  | fld (x f : Str) (v : PyData)
abbrev DK := DV → Sto → Prop
abbrev DX := XV → Sto → Prop
abbrev DE := DEnv → Sto → DK → DX → Prop
abbrev DT := DEnv → Sto → (Bool → Sto → Prop) → DX → Prop
abbrev DA := DEnv → Sto → (List DV → Sto → Prop) → DX → Prop
structure DEnds where
  nx : DEnv → Sto → Prop
  rt : DK
  bk : DEnv → Sto → Prop := fun _ _ => False
  ct : DEnv → Sto → Prop := fun _ _ => False
  ex : DEnv → DX
abbrev DS := DEnv → Sto → DEnds → Prop
structure DEnds.le (D D' : DEnds) : Prop where
  nx : ∀ e S, D.nx e S → D'.nx e S
  rt : ∀ r S, D.rt r S → D'.rt r S
  bk : ∀ e S, D.bk e S → D'.bk e S
  ct : ∀ e S, D.ct e S → D'.ct e S
  ex : ∀ e x S, D.ex e x S → D'.ex e x S

/-! ### values, store objects -/
mutual
/-- as Dp; lists are tracked as such -/
inductive Dq (K : PySem.W.Frag) (H : Hp) : V → PyData → Prop
  | non : Dq K H .non .none
  | bl (b : Bool) : Dq K H (.bl b) (.bool b)
  | int (i : Int) : Dq K H (.int i) (.int i)
  | str (x : Str) : Dq K H (.str x) (.str x)
  | lst {a : Addr} {xs : List V} {ds : List PyData} : H a = some (.lst xs) → DqAll K H xs ds → Dq K H (.ref a) (.list ds)
  | tup {a : Addr} {xs : List V} {ds : List PyData} : SqT K H a xs → DqAll K H xs ds → Dq K H (.ref a) (.tuple ds)
inductive DqAll (K : PySem.W.Frag) (H : Hp) : List V → List PyData → Prop
  | nil : DqAll K H [] []
  | cons {v : V} {vs : List V} {d : PyData} {ds : List PyData} : Dq K H v d → DqAll K H vs ds → DqAll K H (v :: vs) (d :: ds)
end
section
variable (K : PySem.W.Frag)
def CVR (B : Hp) (α : List Addr) : V → CV → Prop
  | v, .d x => Dq K B v x
  | v, .p n => ∃ a, α[n]? = some a ∧ v = .ref a
/-- the cells of a made lambda, in the order of the names that it captures -/
inductive CapsR (B : Hp) (α : List Addr) : List (Str × Addr) → List Str → List CV → Prop
  | nil : CapsR B α [] [] []
  | cons {y : Str} {c : Addr} {v : V} {w : Option Obj} {x : CV} {cl : List (Str × Addr)} {ys : List Str} {xs : List CV} : B c = some (CellX c v w) → CVR K B α v x → CapsR B α cl ys xs → CapsR B α ((y, c) :: cl) (y :: ys) (x :: xs)
def CloR (B : Hp) (α : List Addr) (v : V) (L : LamI) (xs : List CV) : Prop := ∃ f cl c', v = .ref f ∧ B f = some (CloO f L cl c') ∧ B c' = some (LamX.CodeO c' L.qual) ∧ CapsR K B α cl L.cap xs ∧ (cl.map (·.2)).Nodup ∧ (cl.map (·.1)).Nodup
def CeR (B : Hp) (α : List Addr) (v : V) (e : CE) : Prop := match e.w with
  | none => CloR K B α v e.L e.vals
  | some d => ∃ t f u, v = .ref t ∧ SqT K B t [f, u] ∧ CloR K B α f e.L e.vals ∧ Dq K B u d
def Ev0 (B : Hp) (v : V) (c : Str) (f : Option (Str × PyData)) : Prop := ∃ a, v = .ref a ∧ match f with
  | none => B a = some (ExO (.ref (He.ga K c)) a)
  | some q => ∃ d u, B a = some (exo a (He.ga K c) (some d)) ∧ B d = some (exd d [(q.1, u)]) ∧ Dq K B u q.2
def EvR (B : Hp) (v : V) (e : EV) : Prop := match e.i with
  | none => Ev0 K B v e.c e.f
  | some n => ∃ t u, v = .ref t ∧ SqT K B t [.int n, u] ∧ Ev0 K B u e.c e.f
def VR (B : Hp) (α : List Addr) : V → DV → Prop
  | v, .d x => Dq K B v x
  | v, .p n => ∃ a, α[n]? = some a ∧ v = .ref a
  | v, .s ns => ∃ a, v = .ref a ∧ SqL K B a (ns.map V.int)
  | v, .ce e => CeR K B α v e
  | v, .cs xs => ∃ a vs, v = .ref a ∧ B a = some (.lst vs) ∧ Paired (fun (z : V) (e : CE) => CeR K B α z e) vs xs
  | v, .ev e => EvR K B v e
  | v, .es xs => ∃ a vs, v = .ref a ∧ B a = some (.lst vs) ∧ Paired (fun (z : V) (e : EV) => EvR K B z e) vs xs
  | v, .cl c => v = .ref (He.ga K c)
  | v, .m kvs => ∃ a o zs, v = .ref a ∧ B a = some (pin a o) ∧ IsDict a o zs ∧ Paired (fun (z : NestedKey × Addr × V) (q : NestedKey × PyData) => z.1 = q.1 ∧ Dq K B (.ref z.2.1) q.1.data ∧ Dq K B z.2.2 q.2) zs kvs
inductive VRs (B : Hp) (α : List Addr) : List V → List DV → Prop
  | nil : VRs B α [] []
  | cons {v : V} {x : DV} {vs : List V} {xs : List DV} : VR K B α v x → VRs B α vs xs → VRs B α (v :: vs) (x :: xs)
def DicOk (B : Hp) (α : List Addr) (H : Hp) (a : Addr) (kvs : List (NestedKey × DV)) : Prop := ∃ o zs, H a = some (pin a o) ∧ IsDict a o zs ∧ Paired (fun (z : NestedKey × Addr × V) (q : NestedKey × DV) => z.1 = q.1 ∧ Dq K B (.ref z.2.1) q.1.data ∧ VR K B α z.2.2 q.2) zs kvs
def SOk (B : Hp) (α : List Addr) (H : Hp) (a : Addr) : SO → Prop
  | .lst xs => ∃ vs, H a = some (.lst vs) ∧ VRs K B α vs xs
  | .dic kvs => DicOk K B α H a kvs
  | .ins c fs => ∃ dx vs, H a = some (.ins (He.ga K c) dx vs) ∧ Paired (fun (z : Str × V) (q : Str × DV) => z.1 = q.1 ∧ VR K B α z.2 q.2) vs fs
  | .tab nm => a = tabA K nm ∧ ∃ ps, H a = some (.tbl ps) ∧ TriplesOk ps.toList ∧ ∀ (pos : Pos) (cv : Value), codeAmong pos ps.toList = some cv → ∃ c, cv = .ref c ∧ B c = some (LamX.CodeO c (lamQ nm))
  | .gone => True
structure Wd (B : Hp) (α : List Addr) (S : Sto) (H : Hp) : Prop where
  ex : Same B H
  len : α.length = S.length
  obj : ∀ (n : Nat) (o : SO), S[n]? = some o → o ≠ .gone → ∃ a, α[n]? = some a ∧ B a = none ∧ SOk K B α H a o
  nd : α.Nodup
  trk : ∀ a ∈ α, ∃ o, H a = some o
structure Stp (B : Hp) (α : List Addr) (H : Hp) (B' : Hp) (α' : List Addr) (S' : Sto) (H' : Hp) : Prop where
  wd : Wd K B' α' S' H'
  bb : Same B B'
  pre : ∃ t : List Addr, α' = α ++ t
  newB : ∀ a o, B' a = some o → B a = some o ∨ H a = none ∨ a ∈ α
  newA : ∀ a ∈ α', a ∈ α ∨ H a = none
  frame : ∀ a o, H a = some o → a ∉ α → H' a = some o
def RelE (B : Hp) (α : List Addr) (env : DEnv) (σ : St) : Prop := env.length = σ.length ∧ ∀ (i : Nat) (x : DV), env[i]? = some (some x) → ∃ v, σ[i]? = some (some v) ∧ VR K B α v x
end

section
variable {K : PySem.W.Frag} {B B' B1 B2 : Hp} {α α' α1 α2 : List Addr} {S S' S1 S2 : Sto} {H H' H1 H2 : Hp} {v : V} {x : DV} {σ : St} {env : DEnv}
theorem same_rd (e : Same B B') {a : Addr} {u : HO} (h : Rd B a u) : Rd B' a u := by
  rcases h with h | ⟨o, h⟩
  · exact .inl (e a _ h)
  · exact .inr ⟨o, e a _ h⟩
theorem same_l (e : Same B B') {a : Addr} {xs : List V} (h : SqL K B a xs) : SqL K B' a xs := h.imp (same_rd e) fun z => z
theorem same_t (e : Same B B') {a : Addr} {xs : List V} (h : SqT K B a xs) : SqT K B' a xs := h.imp (same_rd e) fun z => z
mutual
theorem Dq.same (e : Same B B') : ∀ {v : V} {d : PyData}, Dq K B v d → Dq K B' v d
  | _, _, .non => .non
  | _, _, .bl b => .bl b
  | _, _, .int i => .int i
  | _, _, .str x => .str x
  | _, _, .lst h r => .lst (e _ _ h) (DqAll.same e r)
  | _, _, .tup h r => .tup (same_t e h) (DqAll.same e r)
theorem DqAll.same (e : Same B B') : ∀ {vs : List V} {ds : List PyData}, DqAll K B vs ds → DqAll K B' vs ds
  | _, _, .nil => .nil
  | _, _, .cons h r => .cons (Dq.same e h) (DqAll.same e r)
end
mutual
theorem Dq.dp : ∀ {v : V} {d : PyData}, Dq K B v d → Dp K B v d
  | _, _, .non => .non
  | _, _, .bl b => .bl b
  | _, _, .int i => .int i
  | _, _, .str x => .str x
  | _, _, .lst h r => .lst (SqL.of h) (DqAll.dp r)
  | _, _, .tup h r => .tup h (DqAll.dp r)
theorem DqAll.dp : ∀ {vs : List V} {ds : List PyData}, DqAll K B vs ds → DpAll K B vs ds
  | _, _, .nil => .nil
  | _, _, .cons h r => .cons (Dq.dp h) (DqAll.dp r)
end
theorem CVR.mono {x : CV} (e : Same B B') (p : ∃ t, α' = α ++ t) (h : CVR K B α v x) : CVR K B' α' v x := by
  cases x with
  | d x => exact Dq.same e h
  | p n =>
    obtain ⟨a, h1, h2⟩ := h
    obtain ⟨t, rfl⟩ := p
    exact ⟨a, by rw [List.getElem?_append_left (List.getElem?_eq_some_iff.mp h1).1]; exact h1, h2⟩
theorem CapsR.mono (e : Same B B') (p : ∃ t, α' = α ++ t) {cl : List (Str × Addr)} {ys : List Str} {xs : List CV} (h : CapsR K B α cl ys xs) : CapsR K B' α' cl ys xs := by
  induction h with
  | nil => exact .nil
  | cons h1 h2 _ ih => exact .cons (e _ _ h1) (h2.mono e p) ih
theorem CloR.mono (e : Same B B') (p : ∃ t, α' = α ++ t) {L : LamI} {xs : List CV} (h : CloR K B α v L xs) : CloR K B' α' v L xs := by
  obtain ⟨f, cl, c', h1, h2, h3, h4, h5, h6⟩ := h
  exact ⟨f, cl, c', h1, e _ _ h2, e _ _ h3, h4.mono e p, h5, h6⟩
theorem CeR.mono (e : Same B B') (p : ∃ t, α' = α ++ t) {c : CE} (h : CeR K B α v c) : CeR K B' α' v c := by
  obtain ⟨L, xs, w⟩ := c
  cases w with
  | none => exact CloR.mono e p h
  | some d =>
    obtain ⟨t, f, u, h1, h2, h3, h4⟩ := h
    exact ⟨t, f, u, h1, same_t e h2, CloR.mono e p h3, Dq.same e h4⟩
theorem Ev0.mono (e : Same B B') {c : Str} {f : Option (Str × PyData)} (h : Ev0 K B v c f) : Ev0 K B' v c f := by
  obtain ⟨a, h1, h2⟩ := h
  refine ⟨a, h1, ?_⟩
  cases f with
  | none => exact e _ _ h2
  | some q =>
    obtain ⟨d, u, h2, h3, h4⟩ := h2
    exact ⟨d, u, e _ _ h2, e _ _ h3, Dq.same e h4⟩
theorem EvR.mono (e : Same B B') {c : EV} (h : EvR K B v c) : EvR K B' v c := by
  obtain ⟨c, f, i⟩ := c
  cases i with
  | none => exact Ev0.mono e h
  | some n =>
    obtain ⟨t, u, h1, h2, h3⟩ := h
    exact ⟨t, u, h1, same_t e h2, Ev0.mono e h3⟩
theorem VR.mono (e : Same B B') (p : ∃ t, α' = α ++ t) (h : VR K B α v x) : VR K B' α' v x := by
  cases x with
  | d x => exact Dq.same e h
  | p n =>
    obtain ⟨a, h1, h2⟩ := h
    obtain ⟨t, rfl⟩ := p
    exact ⟨a, by rw [List.getElem?_append_left (List.getElem?_eq_some_iff.mp h1).1]; exact h1, h2⟩
  | s ns =>
    obtain ⟨a, h1, h2⟩ := h
    exact ⟨a, h1, same_l e h2⟩
  | m kvs =>
    obtain ⟨a, o, zs, h1, h2, h3, h4⟩ := h
    exact ⟨a, o, zs, h1, e _ _ h2, h3, Paired.mapP h4 fun z q w => ⟨w.1, Dq.same e w.2.1, Dq.same e w.2.2⟩⟩
  | ce c => exact CeR.mono e p h
  | cs xs =>
    obtain ⟨a, vs, h1, h2, h3⟩ := h
    exact ⟨a, vs, h1, e _ _ h2, Paired.mapP h3 fun z q w => CeR.mono e p w⟩
  | ev c => exact EvR.mono e h
  | es xs =>
    obtain ⟨a, vs, h1, h2, h3⟩ := h
    exact ⟨a, vs, h1, e _ _ h2, Paired.mapP h3 fun z q w => EvR.mono e w⟩
  | cl c => exact h
theorem VRs.mono (e : Same B B') (p : ∃ t, α' = α ++ t) : ∀ {vs : List V} {xs : List DV}, VRs K B α vs xs → VRs K B' α' vs xs
  | _, _, .nil => .nil
  | _, _, .cons h r => .cons (h.mono e p) (VRs.mono e p r)
theorem VRs.len : ∀ {vs : List V} {xs : List DV}, VRs K B α vs xs → vs.length = xs.length
  | _, _, .nil => rfl
  | _, _, .cons _ r => by simp [r.len]
theorem RelE.mono (e : Same B B') (p : ∃ t, α' = α ++ t) (h : RelE K B α env σ) : RelE K B' α' env σ :=
  ⟨h.1, fun i x q => by obtain ⟨v, h1, h2⟩ := h.2 i x q; exact ⟨v, h1, h2.mono e p⟩⟩
theorem RelE.set (h : RelE K B α env σ) (i : Nat) (r : VR K B α v x) : RelE K B α (env.set i (some x)) (σ.set i (some v)) := by
  refine ⟨by simp [h.1], fun j y q => ?_⟩
  by_cases hj : i = j
  · subst hj
    by_cases hi : i < env.length
    · rw [List.getElem?_set_self hi] at q
      cases q
      exact ⟨v, by rw [List.getElem?_set_self (by rw [← h.1]; exact hi)], r⟩
    · rw [List.getElem?_eq_none (by simpa using Nat.le_of_not_lt hi)] at q
      cases q
  · rw [List.getElem?_set_ne hj] at q
    obtain ⟨w, h1, h2⟩ := h.2 j y q
    exact ⟨w, by rw [List.getElem?_set_ne hj]; exact h1, h2⟩
theorem Stp.refl (w : Wd K B α S H) : Stp K B α H B α S H := ⟨w, Same.refl _, ⟨[], by simp⟩, fun _ _ h => .inl h, fun _ h => .inl h, fun _ _ h _ => h⟩
theorem Stp.trans (a : Stp K B α H B1 α1 S1 H1) (b : Stp K B1 α1 H1 B2 α2 S2 H2) : Stp K B α H B2 α2 S2 H2 := by
  have fr : ∀ c o, H c = some o → c ∉ α → H1 c = some o ∧ c ∉ α1 := fun c o h n => ⟨a.frame c o h n, fun z => by
    rcases a.newA c z with q | q
    · exact n q
    · rw [q] at h; cases h⟩
  refine ⟨b.wd, a.bb.trans b.bb, ?_, fun c o h => ?_, fun c h => ?_, fun c o h n => b.frame c o (fr c o h n).1 (fr c o h n).2⟩
  · obtain ⟨t, rfl⟩ := a.pre
    obtain ⟨u, rfl⟩ := b.pre
    exact ⟨t ++ u, by simp⟩
  · rcases b.newB c o h with q | q | q
    · exact a.newB c o q
    · by_cases hc : c ∈ α
      · exact .inr (.inr hc)
      · cases e : H c with
        | none => exact .inr (.inl rfl)
        | some u => rw [(fr c u e hc).1] at q; cases q
    · rcases a.newA c q with z | z
      · exact .inr (.inr z)
      · exact .inr (.inl z)
  · rcases b.newA c h with q | q
    · exact a.newA c q
    · by_cases hc : c ∈ α
      · exact .inl hc
      · cases e : H c with
        | none => exact .inr rfl
        | some u => rw [(fr c u e hc).1] at q; cases q
theorem Same.upd_none {p : Addr} {o : HO} (h : H p = none) : Same H (upd H p o) := fun a u e => by rw [upd_ne (ne_of_none e h)]; exact e
theorem SOk.mono {a : Addr} {o : SO} (e : Same B B') (p : ∃ t, α' = α ++ t) (k : ∀ u, H a = some u → H' a = some u) (h : SOk K B α H a o) : SOk K B' α' H' a o := by
  cases o with
  | lst xs => obtain ⟨vs, h1, h2⟩ := h; exact ⟨vs, k _ h1, h2.mono e p⟩
  | dic kvs => obtain ⟨ob, zs, h1, h2, h3⟩ := h; exact ⟨ob, zs, k _ h1, h2, Paired.mapP h3 fun z q w => ⟨w.1, Dq.same e w.2.1, w.2.2.mono e p⟩⟩
  | ins c fs => obtain ⟨dx, vs, h1, h2⟩ := h; exact ⟨dx, vs, k _ h1, Paired.mapP h2 fun z q w => ⟨w.1, w.2.mono e p⟩⟩
  | tab nm =>
    obtain ⟨h0, ps, h1, h2, h3⟩ := h
    exact ⟨h0, ps, k _ h1, h2, fun pos cv q => let ⟨c, a, b⟩ := h3 pos cv q; ⟨c, a, e _ _ b⟩⟩
  | gone => trivial
/-- a new pure object -/
theorem Wd.fresh {p : Addr} {o : HO} (w : Wd K B α S H) (hp : H p = none) : Stp K B α H (upd B p o) α S (upd H p o) := by
  have hB : B p = none := w.ex.free hp
  refine ⟨⟨fun a u e => ?_, w.len, fun n q h1 h2 => ?_, w.nd, fun a ha => (w.trk a ha).imp fun u e => Same.upd_none hp a u e⟩, Same.upd_none hB, ⟨[], by simp⟩, fun a u e => ?_, fun _ h => .inl h, fun a u e _ => Same.upd_none hp a u e⟩
  · by_cases ha : a = p
    · subst ha; rw [upd_same] at e ⊢; exact e
    · rw [upd_ne ha] at e ⊢; exact w.ex a u e
  · obtain ⟨a, e1, e2, e3⟩ := w.obj n q h1 h2
    by_cases ha : a = p
    · subst ha
      cases q with
      | lst xs => obtain ⟨vs, z, _⟩ := e3; rw [hp] at z; cases z
      | dic kvs => obtain ⟨_, _, z, _⟩ := e3; rw [hp] at z; cases z
      | ins c fs => obtain ⟨_, _, z, _⟩ := e3; rw [hp] at z; cases z
      | tab nm => obtain ⟨_, _, z, _⟩ := e3; rw [hp] at z; cases z
      | gone => exact absurd rfl h2
    · exact ⟨a, e1, by rw [upd_ne ha]; exact e2, e3.mono (Same.upd_none hB) ⟨[], by simp⟩ fun u z => by rw [upd_ne ha]; exact z⟩
  · by_cases ha : a = p
    · subst ha; exact .inr (.inl hp)
    · rw [upd_ne ha] at e; exact .inl e
end

/-! ### the judgements -/
def MonoE (w : DE) : Prop := ∀ env S (k k' : DK) (x x' : DX), (∀ r S, k r S → k' r S) → (∀ r S, x r S → x' r S) → w env S k x → w env S k' x'
def MonoT (w : DT) : Prop := ∀ env S (k k' : Bool → Sto → Prop) (x x' : DX), (∀ r S, k r S → k' r S) → (∀ r S, x r S → x' r S) → w env S k x → w env S k' x'
def MonoA (w : DA) : Prop := ∀ env S (k k' : List DV → Sto → Prop) (x x' : DX), (∀ r S, k r S → k' r S) → (∀ r S, x r S → x' r S) → w env S k x → w env S k' x'
def MonoS (w : DS) : Prop := ∀ env S D D', DEnds.le D D' → w env S D → w env S D'

/-- how a raised thing stands in the heap -/
def XR (K : PySem.W.Frag) (ga : Str → Addr) (B : Hp) (H : Hp) : XV → Value → Option Addr → Prop
  | .cls x, c, d => c = .ref (ga x) ∧ d = none
  | .fld x f v, c, d => c = .ref (ga x) ∧ ∃ a u, d = some a ∧ H a = some (.xd [(f, u)]) ∧ Dq K B u v

section
variable (K : PySem.W.Frag) (ga : Str → Addr)
def kxT (B : Hp) (α : List Addr) (H : Hp) (E : XK) : DX := fun x S' => ∀ c d H' B' α', Stp K B α H B' α' S' H' → XR K ga B' H' x c d → E c d H'
def kvT (B : Hp) (α : List Addr) (H : Hp) (Q : VK) : DK := fun r S' => ∀ v H' B' α', Stp K B α H B' α' S' H' → VR K B' α' v r → Q v H'
def eT (E : WX) (w : DE) : TE := fun σ H Q => ∃ env S B α, RelE K B α env σ ∧ Wd K B α S H ∧ w env S (kvT K B α H Q) (kxT K ga B α H (WE E σ))
def tT (E : WX) (w : DT) : TT := fun σ H Q => ∃ env S B α, RelE K B α env σ ∧ Wd K B α S H ∧ w env S (fun b S' => ∀ H' B' α', Stp K B α H B' α' S' H' → Q b H') (kxT K ga B α H (WE E σ))
def aT (E : WX) (w : DA) : TA := fun σ H Q => ∃ env S B α, RelE K B α env σ ∧ Wd K B α S H ∧ w env S (fun rs S' => ∀ vs H' B' α', Stp K B α H B' α' S' H' → VRs K B' α' vs rs → Q vs H') (kxT K ga B α H (WE E σ))
def knT (B : Hp) (α : List Addr) (H : Hp) (N : St → Hp → Prop) : DEnv → Sto → Prop := fun env' S' => ∀ σ' H' B' α', Stp K B α H B' α' S' H' → RelE K B' α' env' σ' → N σ' H'
/-- as kxT, the slots at the raise -/
def kxS (B : Hp) (α : List Addr) (H : Hp) (E : WX) : DEnv → DX := fun env' x S' => ∀ c d σ' H' B' α', Stp K B α H B' α' S' H' → RelE K B' α' env' σ' → XR K ga B' H' x c d → E c d σ' H'
def dT (B : Hp) (α : List Addr) (H : Hp) (E : WX) (D : Ends) : DEnds := ⟨knT K B α H D.nx, kvT K B α H D.rt, knT K B α H D.bk, knT K B α H D.ct, kxS K ga B α H E⟩
def sT (E : WX) (w : DS) : TS := fun D σ H => ∃ env S B α, RelE K B α env σ ∧ Wd K B α S H ∧ w env S (dT K ga B α H E D)
end
structure PX (ga : Str → Addr) (X : Cx) (E : WX) (e : Expr) (w : DE) : Prop where
  mono : MonoE w
  run : PE X e (eT X.K ga E w)
structure PXT (ga : Str → Addr) (X : Cx) (E : WX) (e : Expr) (w : DT) : Prop where
  mono : MonoT w
  run : PT X e (tT X.K ga E w)
structure PXA (ga : Str → Addr) (X : Cx) (E : WX) (es : List Expr) (w : DA) : Prop where
  mono : MonoA w
  run : PA X es (aT X.K ga E w)
structure PXS (ga : Str → Addr) (X : Cx) (E : WX) (st : Stmt) (w : DS) : Prop where
  mono : MonoS w
  run : PS X st (sT X.K ga E w)
structure PXB (ga : Str → Addr) (X : Cx) (E : WX) (sts : List Stmt) (w : DS) : Prop where
  mono : MonoS w
  run : PSs X sts (sT X.K ga E w)

section
variable {K : PySem.W.Frag} {ga : Str → Addr} {B B' B1 B2 : Hp} {α α' α1 α2 : List Addr} {S S' S1 S2 : Sto} {H H' H1 H2 : Hp} {v : V} {x : DV} {σ : St} {env : DEnv} {E : WX} {Q : VK}
theorem kxT.after {E : XK} (s : Stp K B α H B1 α1 S1 H1) {r : XV} {S' : Sto} (h : kxT K ga B α H E r S') : kxT K ga B1 α1 H1 E r S' := fun c d H' B' α' s' q => h c d H' B' α' (s.trans s') q
theorem kvT.after (s : Stp K B α H B1 α1 S1 H1) {r : DV} {S' : Sto} (h : kvT K B α H Q r S') : kvT K B1 α1 H1 Q r S' := fun c H' B' α' s' q => h c H' B' α' (s.trans s') q
theorem knT.after (s : Stp K B α H B1 α1 S1 H1) {N : St → Hp → Prop} {e' : DEnv} {S' : Sto} (h : knT K B α H N e' S') : knT K B1 α1 H1 N e' S' := fun c H' B' α' s' q => h c H' B' α' (s.trans s') q
theorem kxS.after (s : Stp K B α H B1 α1 S1 H1) {e' : DEnv} {r : XV} {S' : Sto} (h : kxS K ga B α H E e' r S') : kxS K ga B1 α1 H1 E e' r S' := fun c d σ' H' B' α' s' q => h c d σ' H' B' α' (s.trans s') q
theorem kxS.at_ (re : RelE K B α env σ) {r : XV} {S' : Sto} (h : kxS K ga B α H E env r S') : kxT K ga B α H (WE E σ) r S' := fun c d H' B' α' s q => h c d σ H' B' α' s (re.mono s.bb s.pre) q
theorem dT.after (s : Stp K B α H B1 α1 S1 H1) {D : Ends} : DEnds.le (dT K ga B α H E D) (dT K ga B1 α1 H1 E D) :=
  ⟨fun _ _ h => knT.after s h, fun _ _ h => kvT.after s h, fun _ _ h => knT.after s h, fun _ _ h => knT.after s h, fun _ _ _ h => kxS.after s h⟩
end

/-! ### expressions -/
def varW (i : Nat) : DE := fun env S k _ => ∃ x, env[i]? = some (some x) ∧ k x S
def cW (x : PyData) : DE := fun _ S k _ => k (.d x) S
def op2W (g : DV → DV → Sto → Option DV) (wa wb : DE) : DE := fun env S k kx => wa env S (fun x S1 => wb env S1 (fun y S2 => ∃ z, g x y S2 = some z ∧ k z S2) kx) kx
def op1W (g : DV → Sto → Option DV) (wa : DE) : DE := fun env S k kx => wa env S (fun x S1 => ∃ z, g x S1 = some z ∧ k z S1) kx
def testW (wa : DE) : DT := fun env S k kx => wa env S (fun x S1 => ∃ b, x = .d (.bool b) ∧ k b S1) kx
def andW (a b : DT) : DT := fun env S k kx => a env S (fun c S1 => if c = true then b env S1 k kx else k false S1) kx
def orW (a b : DT) : DT := fun env S k kx => a env S (fun c S1 => if c = true then k true S1 else b env S1 k kx) kx
def notW (a : DT) : DT := fun env S k kx => a env S (fun c S1 => k (!c) S1) kx
def andVW (a b : DE) : DE := fun env S k kx => a env S (fun x S1 => ∃ c, x = .d (.bool c) ∧ if c = true then b env S1 k kx else k (.d (.bool false)) S1) kx
def orVW (a b : DE) : DE := fun env S k kx => a env S (fun x S1 => ∃ c, x = .d (.bool c) ∧ if c = true then k (.d (.bool true)) S1 else b env S1 k kx) kx
def notVW (a : DE) : DE := fun env S k kx => a env S (fun x S1 => ∃ c, x = .d (.bool c) ∧ k (.d (.bool (!c))) S1) kx
def ifW (t : DT) (a b : DE) : DE := fun env S k kx => t env S (fun c S1 => if c = true then a env S1 k kx else b env S1 k kx) kx
def nilA : DA := fun _ S k _ => k [] S
def consA (a : DE) (r : DA) : DA := fun env S k kx => a env S (fun x S1 => r env S1 (fun xs S2 => k (x :: xs) S2) kx) kx

/-- a two-place rule of HandS serves a function on data -/
def Op2 (K : PySem.W.Frag) (r : R2) (g : DV → DV → Sto → Option DV) : Prop := ∀ B α S H vx vy x y z, Wd K B α S H → VR K B α vx x → VR K B α vy y → g x y S = some z → ∀ Q : VK, kvT K B α H Q z S → r vx vy H Q
def Op1 (K : PySem.W.Frag) (r : V → Hp → VK → Prop) (g : DV → Sto → Option DV) : Prop := ∀ B α S H vx x z, Wd K B α S H → VR K B α vx x → g x S = some z → ∀ Q : VK, kvT K B α H Q z S → r vx H Q
def OpN (K : PySem.W.Frag) (r : List V → Hp → VK → Prop) (g : List DV → Sto → Option DV) : Prop := ∀ B α S H vs xs z, Wd K B α S H → VRs K B α vs xs → g xs S = some z → ∀ Q : VK, kvT K B α H Q z S → r vs H Q

section
variable {ga : Str → Addr} {X : Cx} {E : WX} {a b : Expr} {wa wb : DE} {pos : Pos} {ta tb : DT}

theorem px_var {i : Nat} {x : Str} (hN : X.N[i]? = some x) (hv : Vis X.env.scope x) (hd : (x == ("__debug__" : Str)) = false := by decide) (hcd : (x == ("__classdict__" : Str)) = false := by decide) : PX ga X E (.Name x pos) (varW i) := by
  refine ⟨fun env S k k' x x' hk _ ⟨y, h1, h2⟩ => ⟨y, h1, hk _ _ h2⟩, ⟨fun pins s σ H Q I h => ?_⟩⟩
  obtain ⟨env, S, B, α, re, w, y, h1, h2⟩ := h
  obtain ⟨v, e, r⟩ := re.2 i y h1
  exact (pe_var hN hv hd hcd).run pins s σ H Q I ⟨v, e, h2 v H B α (Stp.refl w) r⟩
theorem px_of_c {e : Expr} {c : V} {x : PyData} (h : PE X e (tC c)) (r : ∀ B, Dq X.K B c x) : PX ga X E e (cW x) := by
  refine ⟨fun env S k k' x x' hk _ h => hk _ _ h, ⟨fun pins s σ H Q I h' => ?_⟩⟩
  obtain ⟨env, S, B, α, re, w, h2⟩ := h'
  exact h.run pins s σ H Q I (h2 c H B α (Stp.refl w) (r B))
theorem px_int {i j} : PX ga X E (.Constant (.int i) j pos) (cW (.int i)) := px_of_c pe_int fun _ => .int i
theorem px_bl {b j} : PX ga X E (.Constant (.bool b) j pos) (cW (.bool b)) := px_of_c pe_bl fun _ => .bl b
theorem px_non {j} : PX ga X E (.Constant .none j pos) (cW .none) := px_of_c pe_non fun _ => .non
theorem px_str {x j} : PX ga X E (.Constant (.str x) j pos) (cW (.str x)) := px_of_c pe_str fun _ => .str x

/-- the frame for two: a, then b, then a rule by values -/
theorem run2 {K : PySem.W.Frag} {r : R2} {g : DV → DV → Sto → Option DV} (hg : Op2 K r g) (ma : MonoE wa) (mb : MonoE wb) {σ : St} {H : Hp} {Q : VK} (h : eT K ga E (op2W g wa wb) σ H Q) :
    eT K ga E wa σ H fun x H1 => eT K ga E wb σ H1 fun y H2 => r x y H2 Q := by
  obtain ⟨env, S, B, α, re, w, h⟩ := h
  refine ⟨env, S, B, α, re, w, ma env S _ _ _ _ (fun x S1 h1 v1 H1 B1 α1 s1 r1 => ?_) (fun _ _ z => z) h⟩
  refine ⟨env, S1, B1, α1, re.mono s1.bb s1.pre, s1.wd, mb env S1 _ _ _ _ (fun y S2 h2 v2 H2 B2 α2 s2 r2 => ?_) (fun _ _ z => kxT.after s1 z) h1⟩
  obtain ⟨z, e, hz⟩ := h2
  exact hg B2 α2 S2 H2 v1 v2 x y z s2.wd (r1.mono s2.bb s2.pre) r2 e Q (kvT.after (s1.trans s2) hz)
theorem mono2 {g : DV → DV → Sto → Option DV} (ma : MonoE wa) (mb : MonoE wb) : MonoE (op2W g wa wb) := fun env S k k' x x' hk hx h =>
  ma env S _ _ _ _ (fun y S1 h1 => mb env S1 _ _ _ _ (fun z S2 ⟨u, e, h2⟩ => ⟨u, e, hk _ _ h2⟩) hx h1) hx h
theorem px_op {op : Operator} {r : R2} {g : DV → DV → Sto → Option DV} (ho : OpR X (binaryOp op) r) (hg : Op2 X.K r g) (ha : PX ga X E a wa) (hb : PX ga X E b wb) : PX ga X E (.BinOp a op b pos) (op2W g wa wb) :=
  ⟨mono2 ha.mono hb.mono, ⟨fun pins s σ H Q I h => (pe_op ho ha.run hb.run).run pins s σ H Q I (run2 hg ha.mono hb.mono h)⟩⟩
theorem px_cmp {op : CmpOp} {r : R2} {g : DV → DV → Sto → Option DV} (ho : OpR X (compareOp op) r) (hg : Op2 X.K r g) (ha : PX ga X E a wa) (hb : PX ga X E b wb) (hm : behindInMarks op b = false) : PX ga X E (.Compare a [op] [b] pos) (op2W g wa wb) :=
  ⟨mono2 ha.mono hb.mono, ⟨fun pins s σ H Q I h => (pe_cmpR ho ha.run hb.run hm).run pins s σ H Q I (run2 hg ha.mono hb.mono h)⟩⟩
end
end DW

set_option Elab.async false
set_option linter.all false
set_option maxRecDepth 100000
set_option maxHeartbeats 4000000
set_option autoImplicit false
/-! DX1: the rules for such dicts. -/
namespace DW
open PySem PySem.W PySem.Calls PyProof.Rows PySem.Spec L2

structure DAt (K : PySem.W.Frag) (H : Hp) (a : Addr) (o : Obj) (zs : ZL) : Prop where
  at' : H a = some (pin a o)
  d : IsDict a o zs
  ks : ∀ z ∈ zs, Dq K H (.ref z.2.1) z.1.data


section
variable {X : Cx} {pins : List (Addr × Obj)} {σ : L2.St} {H : Hp} {s : Shared} {a b : Addr} {o : Obj} {zs : ZL} {k : NestedKey} {A : Around} {E : Value → Shared → Prop}
mutual
theorem key_is (I : Inv X pins σ H s) : ∀ (k : NestedKey) {v : V} {u : Value}, plainK k = true → Dq X.K H v k.data → RelV v u → NestedIs s.heap k u
  | .none, v, u, _, q, r => by
    cases (show Dq X.K H v .none from q)
    cases (show u = Value.none from r)
    exact .none
  | .num i, v, u, _, q, r => by
    cases (show Dq X.K H v (.int i) from q)
    obtain ⟨t, e⟩ := r
    subst e
    exact .int i t
  | .text x, _, _, h, _, _ => by simp [plainK] at h
  | .tup ks, v, u, h, q, r => by
    have q' : Dq X.K H v (.tuple (NestedKey.datas ks)) := q
    cases q' with
    | tup hs hd =>
      cases (show u = Value.ref _ from r)
      obtain ⟨its, rv, ⟨ob, e1, e2, n, e3⟩, _⟩ := I.tuple hs
      exact .tup e1 e2 e3 (keys_is I ks (by simpa [plainK] using h) hd (by simpa using rv))
theorem keys_is (I : Inv X pins σ H s) : ∀ (ks : List NestedKey) {vs : List V} {us : List Value}, plainKs ks = true → DqAll X.K H vs (NestedKey.datas ks) → Vals vs us → NestedAll s.heap ks us
  | [], vs, us, _, q, r => by
    cases (show DqAll X.K H vs [] from q)
    cases r
    exact .nil
  | k :: ks, vs, us, h, q, r => by
    have h' : plainK k = true ∧ plainKs ks = true := by simpa [plainKs] using h
    have q' : DqAll X.K H vs (k.data :: NestedKey.datas ks) := q
    cases q' with
    | cons q1 q2 =>
      cases r with
      | cons r1 r2 => exact .cons (key_is I k h'.1 q1 r1) (keys_is I ks h'.2 q2 r2)
end
theorem key_at (I : Inv X pins σ H s) (g : goodK k = true) (q : Dq X.K H (.ref b) k.data) : (nestedKind X.prog X.w).is s.heap k b := ⟨key_is I k (goodK_p g) q rfl, goodK_d g⟩
theorem ents_eq {P : Program} {w : World} {ys : List (NestedKey × Addr × Value)} (h : ∀ y ∈ ys, plainK y.1 = true) : ys.map (entryOfKey (nestedKind P w)) = ys.map entN := by
  refine List.map_congr_left fun y hy => ?_
  unfold entryOfKey entN
  rw [show (nestedKind P w).hash y.1 = y.1.hash w from rfl, hashN_eq w y.1 (h y hy)]
theorem DAt.ofH (I : Inv X pins σ H s) (d : DAt X.K H a o zs) : ∃ ys, ZR zs ys ∧ (ys.map (·.1)).Nodup ∧ s.heap.DictOfH (nestedKind X.prog X.w) a ys := by
  obtain ⟨h1, ⟨d1, d2, ⟨es, ep, ys, d3, d4, d5, d6⟩, d7, d8⟩, h3⟩ := d
  have pl : ∀ y ∈ ys, plainK y.1 = true := fun y hy => by
    obtain ⟨z, hz, e, _⟩ := d5.mem y hy
    rw [← e]; exact goodK_p (d7 z hz)
  refine ⟨ys, d5, d6, o, es, ep, pin_at I h1, d2, d3, by rw [ents_eq pl]; exact d4, fun y hy => ?_, d6⟩
  obtain ⟨z, hz, e, e2⟩ := d5.mem y hy
  rw [← e, ← e2]
  exact key_at I (d7 z hz) (h3 z hz)
/-- a dict that was written -/
theorem isDict_of {P : Program} {w : World} {h : Heap} {ys : List (NestedKey × Addr × Value)} (sm : (a == sysModules) = false) (d : h.DictOfH (nestedKind P w) a ys) (r : ZR zs ys) (pl : ∀ z ∈ zs, goodK z.1 = true) (sz : zs.length ≤ sizeLine) : ∃ o, h.get? a = some o ∧ IsDict a o zs := by
  obtain ⟨o, es, ep, h1, h2, h3, h4, h5, h6⟩ := d
  refine ⟨o, h1, sm, h2, ⟨es, ep, ys, h3, ?_, r, h6⟩, pl, sz⟩
  rw [h4]
  refine ents_eq fun y hy => ?_
  obtain ⟨z, hz, e, _⟩ := r.mem y hy
  rw [← e]; exact goodK_p (pl z hz)
theorem DAt.typeIs (I : Inv X pins σ H s) (d : DAt X.K H a o zs) : s.TypeIs (.ref a) "dict" := by
  obtain ⟨ys, _, _, dd⟩ := d.ofH I
  exact dd.typeIs
theorem DAt.noDict (I : Inv X pins σ H s) (d : DAt X.K H a o zs) : ∀ b, Value.ref a = .ref b → ∃ ob, s.heap.get? b = some ob ∧ ob.dict = none := fun b q => by
  cases q
  exact ⟨o, pin_at I d.at', d.d.ex.2.1⟩
theorem roomN (hu : A.units + 64 < cLine) : (nestedKind X.prog X.w).room A.in1 := by
  show A.units + 1 + 8 < cLine
  omega
theorem n_getItem {v : V} {Q : Value → Shared → Prop} (hu : A.units + 64 < cLine) (I : Inv X pins σ H s) (d : DAt X.K H a o zs) (g : goodK k = true) (kb : Dq X.K H (.ref b) k.data) (l : getZ zs k = some v) (h : ∀ w' s', Inv X pins σ H s' → RelV v w' → Q w' s') :
    wpAny (model X.prog X.w) A (getItem (.ref a) (.ref b)) Q E s := by
  obtain ⟨ys, r, nd, dd⟩ := d.ofH I
  have q := r.get k
  rw [l] at q
  obtain ⟨p, hp, rv⟩ := q
  exact wpAny_getItem_heap (roomN hu) (key_at I g kb) dd hp (h _ _ (I.tok _) rv)
theorem getZ_some {ys : List (NestedKey × Addr × Value)} (r : ZR zs ys) : (atKey ys k).isSome = (getZ zs k).isSome := by
  have q := r.get k
  cases h : getZ zs k with
  | none => rw [h] at q; rw [q]; rfl
  | some v => rw [h] at q; obtain ⟨p, hp, _⟩ := q; rw [hp]; rfl
theorem n_in {Q : Value → Shared → Prop} (hu : A.units + 64 < cLine) (I : Inv X pins σ H s) (d : DAt X.K H a o zs) (g : goodK k = true) (kb : Dq X.K H (.ref b) k.data) (h : ∀ s', Inv X pins σ H s' → Q (.bool (getZ zs k).isSome) s') :
    wpAny (model X.prog X.w) A (compareOp .In (.ref b) (.ref a)) Q E s := by
  obtain ⟨ys, r, nd, dd⟩ := d.ofH I
  refine wpAny_in_heap (roomN hu) (key_at I g kb) d.d.sm dd ?_
  rw [getZ_some r]
  exact h _ (I.tok _)
theorem n_notIn {Q : Value → Shared → Prop} (hu : A.units + 64 < cLine) (I : Inv X pins σ H s) (d : DAt X.K H a o zs) (g : goodK k = true) (kb : Dq X.K H (.ref b) k.data) (h : ∀ s', Inv X pins σ H s' → Q (.bool (!(getZ zs k).isSome)) s') :
    wpAny (model X.prog X.w) A (compareOp .NotIn (.ref b) (.ref a)) Q E s := by
  obtain ⟨ys, r, nd, dd⟩ := d.ofH I
  refine wpAny_notIn_heap (roomN hu) (key_at I g kb) d.d.sm dd ?_
  rw [getZ_some r]
  exact h _ (I.tok _)
theorem n_setItem {v : V} {u : Value} {Q : Unit → Shared → Prop} (hu : A.units + 64 < cLine) (I : Inv X pins σ H s) (d : DAt X.K H a o zs) (g : goodK k = true) (kb : Dq X.K H (.ref b) k.data) (rv : RelV v u) (sz : zs.length < sizeLine)
    (h : ∀ o' s', IsDict a o' (putZ zs k b v) → Inv X pins σ (upd H a (pin a o')) s' → Q () s') : wpAny (model X.prog X.w) A (setItem (.ref a) (.ref b) u) Q E s := by
  obtain ⟨ys, r, nd, dd⟩ := d.ofH I
  have hz : ys.length ≤ sizeLine := by rw [← Paired.length r]; exact d.d.sz
  refine wpAny_setItem_heap (hsz := hz) (roomN hu) (key_at I g kb) dd fun h' dd' hs => ?_
  obtain ⟨o', e', is'⟩ := isDict_of d.d.sm dd' (r.put rv nd) (fun z hz => by
    rcases putZ_mem hz with q | ⟨z', h1, h2⟩
    · rw [q.1]; exact g
    · rw [← h2.1]; exact d.d.pl z' h1) (Nat.le_trans (putZ_len k b v zs) sz)
  exact h o' _ is' (d_write I (by rw [d.at']; exact True.intro) hs ⟨o', e'⟩ (pin_ok e'))
theorem n_get2 {dv : V} {u : Value} {Q : Value → Shared → Prop} (hu : A.units + 64 < cLine) (I : Inv X pins σ H s) (d : DAt X.K H a o zs) (g : goodK k = true) (kb : Dq X.K H (.ref b) k.data) (rd : RelV dv u) (h : ∀ w' s', Inv X pins σ H s' → RelV ((getZ zs k).getD dv) w' → Q w' s') :
    wpAny (model X.prog X.w) A (call (.builtin "dict.get") [.ref a, .ref b, u]) Q E s := by
  obtain ⟨ys, r, nd, dd⟩ := d.ofH I
  refine call_meetsIn PySem.F.slot_dict_get dd.typeIs PySem.F.entry_dict_get (PySem.F.args_dict_get_3 _ _ _) (meetsH_dict_get_default (nestedKind X.prog X.w) a b d.d.sm u) ⟨roomN hu, k, ys, key_at I g kb, dd, h _ _ (I.tok _) ?_⟩
  have q := r.get k
  cases e : getZ zs k with
  | none => rw [e] at q; rw [q]; exact rd
  | some v => rw [e] at q; obtain ⟨p, hp, rv⟩ := q; rw [hp]; exact rv
theorem isDict_nil (h : Heap) (hb : sysModules < h.objs.size) : IsDict h.objs.size { cls := .type "dict", data := .dict #[] } [] :=
  ⟨beq_eq_false_iff_ne.mpr (Ne.symm (Nat.ne_of_lt hb)), ⟨rfl, rfl, rfl⟩, ⟨#[], 0, [], rfl, rfl, .nil, List.nodup_nil⟩, (fun _ h => nomatch h), Nat.zero_le _⟩
end

/-! ### readings and rules -/
section
variable (K : PySem.W.Frag)
def tNGet (td ty : TE) : TE := fun σ H Q => td σ H fun x H1 => ty σ H1 fun y H2 => ∃ a o zs k b v, x = .ref a ∧ y = .ref b ∧ DAt K H2 a o zs ∧ goodK k = true ∧ Dq K H2 (.ref b) k.data ∧ getZ zs k = some v ∧ Q v H2
def tNIn (ty td : TE) : TE := fun σ H Q => ty σ H fun y H1 => td σ H1 fun x H2 => ∃ a o zs k b, x = .ref a ∧ y = .ref b ∧ DAt K H2 a o zs ∧ goodK k = true ∧ Dq K H2 (.ref b) k.data ∧ Q (.bl (getZ zs k).isSome) H2
def tNNotIn (ty td : TE) : TE := fun σ H Q => ty σ H fun y H1 => td σ H1 fun x H2 => ∃ a o zs k b, x = .ref a ∧ y = .ref b ∧ DAt K H2 a o zs ∧ goodK k = true ∧ Dq K H2 (.ref b) k.data ∧ Q (.bl (!(getZ zs k).isSome)) H2
def sNPut (td ty tv : TE) : TS := fun D σ H => tv σ H fun v H1 => td σ H1 fun x H2 => ty σ H2 fun y H3 => ∃ a o zs k b, x = .ref a ∧ y = .ref b ∧ DAt K H3 a o zs ∧ goodK k = true ∧ Dq K H3 (.ref b) k.data ∧ zs.length < sizeLine ∧
  ∀ o', IsDict a o' (putZ zs k b v) → D.nx σ (upd H3 a (pin a o'))
def tNGet2 (td ty tx : TE) : TE := fun σ H Q => td σ H fun x H1 => ∃ a o zs, x = .ref a ∧ DAt K H1 a o zs ∧ ty σ H1 fun y H2 => tx σ H2 fun z H3 => ∃ o zs k b, y = .ref b ∧ DAt K H3 a o zs ∧ goodK k = true ∧ Dq K H3 (.ref b) k.data ∧ Q ((getZ zs k).getD z) H3
def tNNew : TE := fun _ H Q => ∀ p o, H p = none → IsDict p o [] → Q (.ref p) (upd H p (pin p o))
end
section
variable {X : Cx} {o i e f value : Expr} {pos pos' tpos apos cpos : Pos} {td ty tv tx : TE}
theorem pe_nget (hu : X.A.units + 64 < cLine) (ho : PE X o td) (hi : PE X i ty) (hs : NoSl i) : PE X (.Subscript o i pos) (tNGet X.K td ty) := by
  refine ⟨fun pins s σ H Q I h => ?_⟩
  refine subD_of PySem.F.slot_dict_getitem.lookup hs (thn (ho.run pins s σ H _ I h) fun u s1 ⟨x, H1, I1, rx, q1⟩ => thn (hi.run pins s1 σ H1 _ I1 q1) fun iv s2 ⟨y, H2, I2, ry, a, ob, zs, k, b, v, ex, ey, d, g, kb, l, q2⟩ => ?_)
  subst ex ey
  obtain rfl : u = Value.ref a := rx
  obtain rfl : iv = Value.ref b := ry
  exact ⟨d.typeIs I2, n_getItem hu I2 d g kb l fun w' s3 I3 rw' => ⟨v, H2, I3, rw', q2⟩⟩
theorem pc_nin (hu : X.A.units + 64 < cLine) (hi : PE X i ty) (ho : PE X o td) : PC X .In i o (tNIn X.K ty td) := by
  refine ⟨fun pins s σ H Q I h => ?_⟩
  refine thn (hi.run pins s σ H _ I h) fun iv s1 ⟨y, H1, I1, ry, q1⟩ => thn (ho.run pins s1 σ H1 _ I1 q1) fun u s2 ⟨x, H2, I2, rx, a, ob, zs, k, b, ex, ey, d, g, kb, q2⟩ => ?_
  subst ex ey
  obtain rfl : u = Value.ref a := rx
  obtain rfl : iv = Value.ref b := ry
  exact n_in hu I2 d g kb fun s3 I3 => ⟨.bl _, H2, I3, rfl, q2⟩
theorem pc_nnotin (hu : X.A.units + 64 < cLine) (hi : PE X i ty) (ho : PE X o td) : PC X .NotIn i o (tNNotIn X.K ty td) := by
  refine ⟨fun pins s σ H Q I h => ?_⟩
  refine thn (hi.run pins s σ H _ I h) fun iv s1 ⟨y, H1, I1, ry, q1⟩ => thn (ho.run pins s1 σ H1 _ I1 q1) fun u s2 ⟨x, H2, I2, rx, a, ob, zs, k, b, ex, ey, d, g, kb, q2⟩ => ?_
  subst ex ey
  obtain rfl : u = Value.ref a := rx
  obtain rfl : iv = Value.ref b := ry
  exact n_notIn hu I2 d g kb fun s3 I3 => ⟨.bl _, H2, I3, rfl, q2⟩
theorem ps_nput (hu : X.A.units + 64 < cLine) (ho : PE X o td) (hi : PE X i ty) (hv : PE X value tv) (hs : swapsWith value (some (.Subscript o i pos')) pos.line X.env = pure false) :
    PS X (.Assign [.Subscript o i pos'] value pos) (sNPut X.K td ty tv) := by
  refine ⟨fun pins s σ H D I h => ?_⟩
  refine wpAny_Assign_Subscript (thn (hv.run pins s σ H _ I h) fun r s1 ⟨v, H1, I1, rv, q1⟩ => thn (ho.run pins s1 σ H1 _ I1 q1) fun u s2 ⟨x, H2, I2, rx, q2⟩ => thn (hi.run pins s2 σ H2 _ I2 q2) fun iv s3 ⟨y, H3, I3, ry, a, ob, zs, k, b, ex, ey, d, g, kb, sz, q3⟩ => ?_) hs
  subst ex ey
  obtain rfl : u = Value.ref a := rx
  obtain rfl : iv = Value.ref b := ry
  exact n_setItem hu I3 d g kb rv sz fun o' s4 is' I4 => ⟨σ, _, I4, q3 o' is'⟩
theorem pe_nget2 (hu : X.A.units + 64 < cLine) (ho : PE X o td) (he : PE X e ty) (hf : PE X f tx) (m : M2 X o "get" apos e f cpos) : PE X (.Call (.Attribute o "get" apos) [e, f] [] cpos) (tNGet2 X.K td ty tx) := by
  refine ⟨fun pins s σ H Q I h => ?_⟩
  refine wpAny_Call_method m.base m.few m.line PySem.F.plainAttrs_dict PySem.F.slot_dict_get PySem.F.type_dict_get (thn (ho.run pins s σ H _ I h) fun u s1 ⟨x, H1, I1, rx, a, ob, zs, ex, d, q1⟩ => ?_)
  subst ex
  obtain rfl : u = Value.ref a := rx
  refine ⟨d.typeIs I1, d.noDict I1, ?_⟩
  rw [m.trees]
  refine Calls.callWith_builtin rfl (Calls.evalArgs_plain (Calls.spliced_cons (thn (he.run pins s1 σ H1 _ I1 q1) fun iv s2 ⟨y, H2, I2, ry, q2⟩ =>
    Calls.spliced_cons (thn (hf.run pins s2 σ H2 _ I2 q2) fun fv s3 ⟨z, H3, I3, rz, ob3, zs3, k, b, ey, d3, g, kb, q3⟩ => Calls.spliced_nil ?_))))
  subst ey
  obtain rfl : iv = Value.ref b := ry
  exact n_get2 hu I3 d3 g kb rz fun w' s4 I4 rw' => ⟨_, H3, I4, rw', q3⟩
theorem pe_nnew : PE X (.Dict [] [] pos) tNNew := ⟨fun pins s σ H Q I h =>
  wpAny_Dict_empty ⟨.ref s.heap.objs.size, _, I.laid (a := s.heap.objs.size) (o := pin s.heap.objs.size { cls := .type "dict", data := .dict #[] }) (t' := s.toks) (fun _ _ q => Heap.get?_push_of_some _ q) (Nat.le_refl _) (pin_ok (Heap.get?_push_size _ rfl)), rfl,
    h _ _ (I.hok.fresh (Nat.le_refl _)) (isDict_nil s.heap I.big)⟩⟩
end
end DW

set_option Elab.async false
set_option linter.all false
set_option maxRecDepth 100000
set_option maxHeartbeats 4000000
set_option autoImplicit false
/-! DX2: walks over such a dict. -/
namespace DW
open PySem PySem.W PySem.Calls PyProof.Rows PySem.Spec L2

def Nk (d : Addr) (o : Obj) (zs : ZL) : It :=
  ⟨fun i H => H d = some (pin d o) ∧ i < zs.length, fun i H x H' => H' = H ∧ ∃ z, zs[i]? = some z ∧ x = .ref z.2.1, fun i H => H d = some (pin d o) ∧ zs.length ≤ i⟩
def Nv (d : Addr) (o : Obj) (zs : ZL) : It :=
  ⟨fun i H => H d = some (pin d o) ∧ i < zs.length, fun i H x H' => H' = H ∧ ∃ z, zs[i]? = some z ∧ x = z.2.2, fun i H => H d = some (pin d o) ∧ zs.length ≤ i⟩
def Ni (d : Addr) (o : Obj) (zs : ZL) : It :=
  ⟨fun i H => H d = some (pin d o) ∧ i < zs.length, fun i H x H' => ∃ T z, zs[i]? = some z ∧ x = .ref T ∧ H T = none ∧ H' = upd H T (.tup [.ref z.2.1, z.2.2]), fun i H => H d = some (pin d o) ∧ zs.length ≤ i⟩
theorem IsDict.raw {h : Heap} {d : Addr} {o : Obj} {zs : ZL} (q : IsDict d o zs) (e : h.get? d = some o) : ∃ es ep, o.data = .dict es ep ∧ h.DictRaw d es ep ∧ es.size = zs.length ∧ ∀ (i : Nat) (z : NestedKey × Addr × V), zs[i]? = some z → ∃ hi : i < es.size, es[i].key = .ref z.2.1 ∧ RelV z.2.2 es[i].val := by
  obtain ⟨_, q2, ⟨es, ep, ys, q3, q4, q5, _⟩, _, _⟩ := q
  have h1 : es.toList.length = es.size := Array.length_toList
  have h2 : es.size = ys.length := by rw [← h1, q4, List.length_map]
  have h3 : zs.length = ys.length := Paired.length q5
  refine ⟨es, ep, q3, ⟨o, e, q2, q3⟩, by omega, fun i z hz => ?_⟩
  obtain ⟨y, hy, e1, e2, e3⟩ := paired_get q5 hz
  have hi : i < es.size := by
    have := (List.getElem?_eq_some_iff.mp hy).1
    omega
  have e4 : es[i]? = some (entN y) := by rw [← Array.getElem?_toList, q4, List.getElem?_map, hy]; rfl
  rw [Array.getElem?_eq_getElem hi] at e4
  have e5 := Option.some.inj e4
  exact ⟨hi, by rw [e5, e2]; rfl, by rw [e5]; exact e3⟩
section
variable {P : Program} {w : World} {K : PySem.W.Frag} {tg : Expr} {d : Addr} {o : Obj} {zs : ZL}
theorem turn_nk (q : IsDict d o zs) (it : Addr) {es : Array DictEntry} {ep : Nat} (hod : o.data = .dict es ep) : Turn P w K tg (Nk d o zs) [it] it (fun i h => h.IsKeyIter it d i es.size ep) where
  mem := by simp
  obj := fun i h st b hb => by
    have e : b = it := by simpa using hb
    subst e
    obtain ⟨oi, e, c, dd⟩ := st
    exact ⟨oi, e, fun v z => by rw [dd] at z; cases z⟩
  keep := fun i h h' st k => st.at fun oi e => k it (by simp) oi e
  item := by
    intro X hP hw hK hc i pins s σ H E I hf st hg
    subst hP hw hK
    obtain ⟨hd, hi⟩ := hg
    obtain ⟨f0, f1, f2, f3, f4, f5⟩ := hf it (by simp)
    obtain ⟨es', ep', hdt, hm, hsz, ent⟩ := q.raw (pin_at I hd)
    obtain ⟨rfl, rfl⟩ := dict_ep hod hdt
    obtain ⟨hi', h1, h2⟩ := ent i zs[i] (List.getElem?_eq_getElem hi)
    refine wpAny_pyNext_keys_item_raw st hm hi' fun h' st' sb => ?_
    have I1 : Inv X pins σ H { s with heap := h' } := I.turned (t' := s.toks) (fun b ob hb e => (sb.2 b hb).trans e) f0 f1 f3 f4 f5
    obtain ⟨oi, e, c, dd⟩ := id st'
    exact ⟨_, rfl, go_of (s := { s with heap := h' }) e c dd (by decide) ⟨.ref zs[i].2.1, H, I1, h1, ⟨rfl, zs[i], List.getElem?_eq_getElem hi, rfl⟩, st', fun b hb => (hf b hb).1⟩⟩
  done := by
    intro X hP hw hK hc i pins s σ H E I hf st hg
    subst hP hw hK
    obtain ⟨hd, hi⟩ := hg
    obtain ⟨f0, f1, f2, f3, f4, f5⟩ := hf it (by simp)
    obtain ⟨es', ep', hdt, hm, hsz, ent⟩ := q.raw (pin_at I hd)
    obtain ⟨rfl, rfl⟩ := dict_ep hod hdt
    exact wpAny_pyNext_keys_end_raw (I.ok.hd hc) st hm (by omega) fun h' eb => ⟨rfl, I.turned (t' := s.toks) (fun b ob hb e => eb b ob hb e) f0 f1 f3 f4 f5⟩
  self := fun A i s Q E st h => wpAny_pyIter_keyiter st h
theorem turn_nv (q : IsDict d o zs) (it : Addr) {es : Array DictEntry} {ep : Nat} (hod : o.data = .dict es ep) : Turn P w K tg (Nv d o zs) [it] it (fun i h => h.IsValIter it d i es.size ep) where
  mem := by simp
  obj := fun i h st b hb => by
    have e : b = it := by simpa using hb
    subst e
    obtain ⟨oi, e, c, dd⟩ := st
    exact ⟨oi, e, fun v z => by rw [dd] at z; cases z⟩
  keep := fun i h h' st k => st.at fun oi e => k it (by simp) oi e
  item := by
    intro X hP hw hK hc i pins s σ H E I hf st hg
    subst hP hw hK
    obtain ⟨hd, hi⟩ := hg
    obtain ⟨f0, f1, f2, f3, f4, f5⟩ := hf it (by simp)
    obtain ⟨es', ep', hdt, hm, hsz, ent⟩ := q.raw (pin_at I hd)
    obtain ⟨rfl, rfl⟩ := dict_ep hod hdt
    obtain ⟨hi', h1, h2⟩ := ent i zs[i] (List.getElem?_eq_getElem hi)
    refine wpAny_pyNext_values_item_raw st hm hi' fun h' st' sb => ?_
    have I1 : Inv X pins σ H { s with heap := h' } := I.turned (t' := s.toks) (fun b ob hb e => (sb.2 b hb).trans e) f0 f1 f3 f4 f5
    obtain ⟨oi, e, c, dd⟩ := id st'
    exact ⟨_, rfl, go_of (s := { s with heap := h' }) e c dd (by decide) ⟨zs[i].2.2, H, I1, h2, ⟨rfl, zs[i], List.getElem?_eq_getElem hi, rfl⟩, st', fun b hb => (hf b hb).1⟩⟩
  done := by
    intro X hP hw hK hc i pins s σ H E I hf st hg
    subst hP hw hK
    obtain ⟨hd, hi⟩ := hg
    obtain ⟨f0, f1, f2, f3, f4, f5⟩ := hf it (by simp)
    obtain ⟨es', ep', hdt, hm, hsz, ent⟩ := q.raw (pin_at I hd)
    obtain ⟨rfl, rfl⟩ := dict_ep hod hdt
    exact wpAny_pyNext_values_end_raw (I.ok.hd hc) st hm (by omega) fun h' eb => ⟨rfl, I.turned (t' := s.toks) (fun b ob hb e => eb b ob hb e) f0 f1 f3 f4 f5⟩
  self := fun A i s Q E st h => wpAny_pyIter_valiter st h
theorem turn_ni (q : IsDict d o zs) {elts : List Expr} {kk : Nat} {tpos : Pos} (it : Addr) {es : Array DictEntry} {ep : Nat} (hod : o.data = .dict es ep) :
    Turn P w K (.Tuple elts kk tpos) (Ni d o zs) [it] it (fun i h => ∃ ok ov, IsItemIter h it d i es.size ep ok ov) where
  mem := by simp
  obj := fun i h st b hb => by
    have e : b = it := by simpa using hb
    subst e
    obtain ⟨ok, ov, e⟩ := st
    exact ⟨_, e, fun v z => nomatch z⟩
  keep := fun i h h' st k => let ⟨ok, ov, e⟩ := st; ⟨ok, ov, k it (by simp) _ e⟩
  item := by
    intro X hP hw hK hc i pins s σ H E I hf st hg
    subst hP hw hK
    obtain ⟨hd, hi⟩ := hg
    obtain ⟨es', ep', hdt, hm, hsz, ent⟩ := q.raw (pin_at I hd)
    obtain ⟨rfl, rfl⟩ := dict_ep hod hdt
    obtain ⟨hi', h1, h2⟩ := ent i zs[i] (List.getElem?_eq_getElem hi)
    generalize ev : es'[i].val = uv at h2
    obtain ⟨ok, ov, he⟩ := st
    have hlt : it < s.heap.objs.size := Heap.lt_size he
    refine wpAny_pyNext_items_item_raw he hm hi' fun h' ho hT hz hk => ?_
    refine ⟨_, rfl, wpAny_letOwnedTupleGo_items (s := { s with heap := h' }) ho fun h'' he' sb => ?_⟩
    rw [h1, ev] at hT
    rw [h1, ev] at he'
    have hT2 : h''.get? s.heap.objs.size = some { cls := .type "tuple", data := .seq #[.ref zs[i].2.1, uv] } := (sb.2 _ (Nat.ne_of_gt hlt)).trans hT
    have new : ObjOk X.prog X.w (upd H s.heap.objs.size (.tup [.ref zs[i].2.1, zs[i].2.2])) h'' s.heap.objs.size (.tup [.ref zs[i].2.1, zs[i].2.2]) :=
      ⟨by show 2 ≤ sizeLine; decide, [.ref zs[i].2.1, uv], .cons rfl (.cons h2 .nil), ⟨_, hT2, rfl, _, rfl⟩⟩
    have I1 : Inv X pins σ (upd H s.heap.objs.size (.tup [.ref zs[i].2.1, zs[i].2.2])) { s with heap := h'' } :=
      I.turnedNew (t' := s.toks) (ch := [it]) (fun b ob hb e => (sb.2 b (by simpa using hb)).trans (hk b ob (by simpa using hb) e)) hf (Nat.le_refl _) new
    refine ⟨.ref s.heap.objs.size, _, I1, rfl, ⟨_, zs[i], List.getElem?_eq_getElem hi, rfl, I.hok.fresh (Nat.le_refl _), rfl⟩, ⟨_, _, he'⟩, fun b hb => ?_⟩
    have e : b = it := by simpa using hb
    rw [e, upd_ne (Nat.ne_of_lt hlt)]
    exact (hf it (by simp)).1
  done := by
    intro X hP hw hK hc i pins s σ H E I hf st hg
    subst hP hw hK
    obtain ⟨hd, hi⟩ := hg
    obtain ⟨f0, f1, f2, f3, f4, f5⟩ := hf it (by simp)
    obtain ⟨es', ep', hdt, hm, hsz, ent⟩ := q.raw (pin_at I hd)
    obtain ⟨rfl, rfl⟩ := dict_ep hod hdt
    obtain ⟨ok, ov, he⟩ := st
    exact wpAny_pyNext_items_end_raw (I.ok.hd hc) he hm (by omega) fun h' eb => ⟨rfl, I.turned (t' := s.toks) (fun b ob hb e => eb b ob hb e) f0 f1 f3 f4 f5⟩
  self := fun A i s Q E st h => let ⟨_, _, e⟩ := st; PySem.W.kcp_self e h
end

def iNk (td : TE) : TI := fun σ H R => td σ H fun x H1 => ∃ d o zs, x = .ref d ∧ H1 d = some (pin d o) ∧ IsDict d o zs ∧ R (Nk d o zs) H1
def iNv (td : TE) : TI := fun σ H R => td σ H fun x H1 => ∃ d o zs, x = .ref d ∧ H1 d = some (pin d o) ∧ IsDict d o zs ∧ R (Nv d o zs) H1
def iNi (td : TE) : TI := fun σ H R => td σ H fun x H1 => ∃ d o zs, x = .ref d ∧ H1 d = some (pin d o) ∧ IsDict d o zs ∧ R (Ni d o zs) H1
section
variable {X : Cx} {tg e : Expr} {td : TE} {apos cpos : Pos}
theorem pi_nk (he : PE X e td) : PI X tg e (iNk td) := by
  refine ⟨fun pins s σ H R I h => ?_⟩
  refine thn (he.run pins s σ H _ I h) fun u s1 ⟨x, H1, I1, rx, d, o, zs, ex, hd, is, q⟩ => ?_
  subst ex
  obtain rfl : u = Value.ref d := rx
  obtain ⟨es, ep, hdt, hm, hsz, ent⟩ := is.raw (pin_at I1 hd)
  exact wpAny_pyIter_dict_raw is.sm hm (pi_one (tk := s1.toks) I1 _ (turn_nk is _ hdt) ⟨_, Heap.get?_push_size _ rfl, rfl, rfl⟩ q)
theorem pi_nv (he : PE X e td) (hbase : attributeBase e "values" X.env (eval e X.env) = eval e X.env := by rfl) (hline : (apos.endLine == cpos.line) = true := by rfl) : PI X tg (.Call (.Attribute e "values" apos) [] [] cpos) (iNv td) := by
  refine ⟨fun pins s σ H R I h => ?_⟩
  refine wpAny_Call_method (T := "dict") (id := "dict.values") hbase rfl hline PySem.F.plainAttrs_dict PySem.F.slot_dict_values PySem.F.type_dict_values (thn (he.run pins s σ H _ I h) fun u s1 ⟨x, H1, I1, rx, d, o, zs, ex, hd, is, q⟩ => ?_)
  subst ex
  obtain rfl : u = Value.ref d := rx
  have ho := pin_at I1 hd
  obtain ⟨es, ep, hdt, hm, hsz, ent⟩ := is.raw ho
  refine ⟨hm.typeIs, (fun b q => by cases q; exact ⟨o, ho, is.ex.2.1⟩), ?_⟩
  have I2 : Inv X pins σ H1 { s1 with heap := s1.heap.push { cls := .type "dict_values", data := .fields #[.ref d] } } := I1.kept (t' := s1.toks) fun b ob q => Heap.get?_push_of_some _ q
  have fin : wpAny (model X.prog X.w) X.A (pyIter (.ref s1.heap.objs.size)) (PIE X pins σ tg R) X.xe { s1 with heap := s1.heap.push { cls := .type "dict_values", data := .fields #[.ref d] } } :=
    wpAny_pyIter_values_raw (d := d) ⟨_, Heap.get?_push_size _ rfl, rfl, rfl⟩ (hm.at fun ob z => Heap.get?_push_of_some _ z) (pi_one (tk := s1.toks) I2 _ (turn_nv is _ hdt) ⟨_, Heap.get?_push_size _ rfl, rfl, rfl⟩ q)
  show wpAny _ _ (callWith cpos (.builtin "dict.values") [.ref d] [] []) _ X.xe s1
  exact method_meetsIn PySem.F.slot_dict_values PySem.F.entry_dict_values rfl (PySem.evalArgs_none ⟨rfl, hm.typeIs, PySem.F.args_dict_values_1 _, _, meets_dict_values_raw d is.sm, ⟨es, ep, hm⟩, fin⟩)
theorem pi_ni {elts : List Expr} {kk : Nat} {tpos : Pos} (he : PE X e td) (hbase : attributeBase e "items" X.env (eval e X.env) = eval e X.env := by rfl) (hline : (apos.endLine == cpos.line) = true := by rfl) :
    PI X (.Tuple elts kk tpos) (.Call (.Attribute e "items" apos) [] [] cpos) (iNi td) := by
  refine ⟨fun pins s σ H R I h => ?_⟩
  refine wpAny_Call_method (T := "dict") (id := "dict.items") hbase rfl hline PySem.F.plainAttrs_dict PySem.F.slot_dict_items PySem.F.type_dict_items (thn (he.run pins s σ H _ I h) fun u s1 ⟨x, H1, I1, rx, d, o, zs, ex, hd, is, q⟩ => ?_)
  subst ex
  obtain rfl : u = Value.ref d := rx
  have ho := pin_at I1 hd
  obtain ⟨es, ep, hdt, hm, hsz, ent⟩ := is.raw ho
  refine ⟨hm.typeIs, (fun b q => by cases q; exact ⟨o, ho, is.ex.2.1⟩), ?_⟩
  have I2 : Inv X pins σ H1 { s1 with heap := s1.heap.push { cls := .type "dict_items", data := .fields #[.ref d] } } := I1.kept (t' := s1.toks) fun b ob q => Heap.get?_push_of_some _ q
  have fin : wpAny (model X.prog X.w) X.A (pyIter (.ref s1.heap.objs.size)) (PIE X pins σ (.Tuple elts kk tpos) R) X.xe { s1 with heap := s1.heap.push { cls := .type "dict_items", data := .fields #[.ref d] } } :=
    wpAny_pyIter_items_raw (d := d) ⟨_, Heap.get?_push_size _ rfl, rfl, rfl⟩ (hm.at fun ob z => Heap.get?_push_of_some _ z) (pi_one (tk := s1.toks) I2 _ (turn_ni is _ hdt) ⟨.none, .none, Heap.get?_push_size _ rfl⟩ q)
  show wpAny _ _ (callWith cpos (.builtin "dict.items") [.ref d] [] []) _ X.xe s1
  exact method_meetsIn PySem.F.slot_dict_items PySem.F.entry_dict_items rfl (PySem.evalArgs_none ⟨rfl, hm.typeIs, PySem.F.args_dict_items_1 _, _, meets_dict_items_raw d is.sm, ⟨es, ep, hm⟩, fin⟩)
end
section
variable {K : PySem.W.Frag} {d : Addr} {o : Obj} {zs : ZL}
theorem walk_nk : Walk (Nk d o zs) zs.length (fun H => H d = some (pin d o)) (fun i H x H' => H' = H ∧ ∃ z, zs[i]? = some z ∧ x = .ref z.2.1) :=
  ⟨fun _ _ hi q => ⟨q, hi⟩, fun _ q => ⟨q, Nat.le_refl _⟩, fun _ _ _ _ _ _ y => y⟩
theorem walk_nv : Walk (Nv d o zs) zs.length (fun H => H d = some (pin d o)) (fun i H x H' => H' = H ∧ ∃ z, zs[i]? = some z ∧ x = z.2.2) :=
  ⟨fun _ _ hi q => ⟨q, hi⟩, fun _ q => ⟨q, Nat.le_refl _⟩, fun _ _ _ _ _ _ y => y⟩
theorem walk_ni : Walk (Ni d o zs) zs.length (fun H => H d = some (pin d o)) (fun i H x H' => ∃ T z, zs[i]? = some z ∧ x = .ref T ∧ H T = none ∧ H' = upd H T (.tup [.ref z.2.1, z.2.2])) :=
  ⟨fun _ _ hi q => ⟨q, hi⟩, fun _ q => ⟨q, Nat.le_refl _⟩, fun _ _ _ _ _ _ y => y⟩
end
end DW

set_option Elab.async false
set_option linter.all false
set_option maxRecDepth 100000
set_option maxHeartbeats 4000000
set_option autoImplicit false
namespace DW
open PySem L2

/-! ### tests, and, or, not, a if t else b, arguments -/
section
variable {ga : Str → Addr} {X : Cx} {E : WX} {a b c : Expr} {wa wb : DE} {pos : Pos} {ta tb : DT} {rest : List Expr} {wA : DA}
theorem pxt_val {e : Expr} (h : PX ga X E e wa) (he : ∀ whole, isTrue e X.env whole = (do let v ← whole; standAt e.pos; holding [v] (truthy v)) := by intro _; rfl) : PXT ga X E e (testW wa) := by
  refine ⟨fun env S k k' x x' hk hx h' => h.mono env S _ _ _ _ (fun y S1 ⟨b, e, h1⟩ => ⟨b, e, hk _ _ h1⟩) hx h', ⟨fun pins s σ H Q I h' => (pt_val h.run he).run pins s σ H Q I ?_⟩⟩
  obtain ⟨env, S, B, α, re, w, h'⟩ := h'
  refine ⟨env, S, B, α, re, w, h.mono env S _ _ _ _ (fun x S1 ⟨b, e, h1⟩ v H1 B1 α1 s1 r1 => ?_) (fun _ _ z => z) h'⟩
  subst e
  cases r1
  exact ⟨b, rfl, h1 H1 B1 α1 s1⟩
theorem run_test {w : DE} {K : PySem.W.Frag} (m : MonoE w) {σ : St} {H : Hp} {Q : Bool → Hp → Prop} (h : tT K ga E (testW w) σ H Q) : eT K ga E w σ H fun x H1 => ∃ c, x = .bl c ∧ Q c H1 := by
  obtain ⟨env, S, B, α, re, wd, h'⟩ := h
  refine ⟨env, S, B, α, re, wd, m env S _ _ _ _ (fun x S1 ⟨b, e, h1⟩ v H1 B1 α1 s1 r1 => ?_) (fun _ _ z => z) h'⟩
  subst e
  cases r1
  exact ⟨b, rfl, h1 H1 B1 α1 s1⟩
theorem monoTest {w : DE} (m : MonoE w) : MonoT (testW w) := fun env S k k' x x' hk hx h' => m env S _ _ _ _ (fun y S1 ⟨b, e, h1⟩ => ⟨b, e, hk _ _ h1⟩) hx h'
theorem pxt_cmp {op : CmpOp} {r : R2} {g : DV → DV → Sto → Option DV} (ho : OpR X (compareOp op) r) (hg : Op2 X.K r g) (ha : PX ga X E a wa) (hb : PX ga X E b wb) (hm : behindInMarks op b = false) : PXT ga X E (.Compare a [op] [b] pos) (testW (op2W g wa wb)) := by
  refine ⟨monoTest (mono2 ha.mono hb.mono), ⟨fun pins s σ H Q I h => (pt_cmpR ho ha.run hb.run hm).run pins s σ H Q I ?_⟩⟩
  exact run2 hg ha.mono hb.mono (run_test (mono2 ha.mono hb.mono) h)
theorem pxt_not (ha : PXT ga X E a ta) : PXT ga X E (.UnaryOp .Not a pos) (notW ta) := by
  refine ⟨fun env S k k' x x' hk hx h => ha.mono env S _ _ _ _ (fun b S1 h1 => hk _ _ h1) hx h, ⟨fun pins s σ H Q I h => (pt_not ha.run).run pins s σ H Q I ?_⟩⟩
  obtain ⟨env, S, B, α, re, w, h⟩ := h
  exact ⟨env, S, B, α, re, w, ha.mono env S _ _ _ _ (fun b S1 h1 => h1) (fun _ _ z => z) h⟩
/-- the tail of an and, an or -/
structure PXW (ga : Str → Addr) (X : Cx) (E : WX) (e : Expr) (w : DT) : Prop where
  mono : MonoT w
  run : PW X e (tT X.K ga E w)
theorem PXW.pxt {e : Expr} {w : DT} (h : PXW ga X E e w) : PXT ga X E e w := ⟨h.mono, h.run.pt⟩
theorem pxw_and1 (ha : PXT ga X E a ta) : PXW ga X E (.BoolOp .And [a] pos) ta := ⟨ha.mono, pw_and1 ha.run⟩
theorem pxw_or1 (ha : PXT ga X E a ta) : PXW ga X E (.BoolOp .Or [a] pos) ta := ⟨ha.mono, pw_or1 ha.run⟩
theorem monoAnd (ma : MonoT ta) (mb : MonoT tb) : MonoT (andW ta tb) := fun env S k k' x x' hk hx h => ma env S _ _ _ _ (fun b S1 h1 => by
  cases b with
  | true => exact mb env S1 _ _ _ _ hk hx h1
  | false => exact hk _ _ h1) hx h
theorem monoOr (ma : MonoT ta) (mb : MonoT tb) : MonoT (orW ta tb) := fun env S k k' x x' hk hx h => ma env S _ _ _ _ (fun b S1 h1 => by
  cases b with
  | false => exact mb env S1 _ _ _ _ hk hx h1
  | true => exact hk _ _ h1) hx h
theorem pxw_and (ha : PXT ga X E a ta) (hb : PXW ga X E (.BoolOp .And (b :: rest) pos) tb) : PXW ga X E (.BoolOp .And (a :: b :: rest) pos) (andW ta tb) := by
  refine ⟨monoAnd ha.mono hb.mono, ⟨fun wh pins s σ H Q I h => (pw_and ha.run hb.run).run wh pins s σ H Q I ?_⟩⟩
  obtain ⟨env, S, B, α, re, w, h⟩ := h
  refine ⟨env, S, B, α, re, w, ha.mono env S _ _ _ _ (fun b S1 h1 H1 B1 α1 s1 => ?_) (fun _ _ z => z) h⟩
  cases b with
  | true => exact ⟨env, S1, B1, α1, re.mono s1.bb s1.pre, s1.wd, hb.mono env S1 _ _ _ _ (fun c S2 h2 H2 B2 α2 s2 => h2 H2 B2 α2 (s1.trans s2)) (fun _ _ z => kxT.after s1 z) h1⟩
  | false => exact h1 H1 B1 α1 s1
theorem pxw_or (ha : PXT ga X E a ta) (hb : PXW ga X E (.BoolOp .Or (b :: rest) pos) tb) : PXW ga X E (.BoolOp .Or (a :: b :: rest) pos) (orW ta tb) := by
  refine ⟨monoOr ha.mono hb.mono, ⟨fun wh pins s σ H Q I h => (pw_or ha.run hb.run).run wh pins s σ H Q I ?_⟩⟩
  obtain ⟨env, S, B, α, re, w, h⟩ := h
  refine ⟨env, S, B, α, re, w, ha.mono env S _ _ _ _ (fun b S1 h1 H1 B1 α1 s1 => ?_) (fun _ _ z => z) h⟩
  cases b with
  | false => exact ⟨env, S1, B1, α1, re.mono s1.bb s1.pre, s1.wd, hb.mono env S1 _ _ _ _ (fun c S2 h2 H2 B2 α2 s2 => h2 H2 B2 α2 (s1.trans s2)) (fun _ _ z => kxT.after s1 z) h1⟩
  | true => exact h1 H1 B1 α1 s1
theorem px_one {op} {w : DE} (h : PX ga X E a w) : PX ga X E (.BoolOp op [a] pos) w := ⟨h.mono, pe_one h.run⟩
theorem px_and (ha : PX ga X E a wa) (hb : PX ga X E (.BoolOp .And (b :: rest) pos) wb) : PX ga X E (.BoolOp .And (a :: b :: rest) pos) (andVW wa wb) := by
  refine ⟨fun env S k k' x x' hk hx h => ha.mono env S _ _ _ _ (fun y S1 ⟨c, e, h1⟩ => ⟨c, e, by
    cases c with
    | true => exact hb.mono env S1 _ _ _ _ hk hx h1
    | false => exact hk _ _ h1⟩) hx h, ⟨fun pins s σ H Q I h => (pe_and ha.run hb.run).run pins s σ H Q I ?_⟩⟩
  · obtain ⟨env, S, B, α, re, w, h⟩ := h
    refine ⟨env, S, B, α, re, w, ha.mono env S _ _ _ _ (fun y S1 ⟨c, e, h1⟩ v H1 B1 α1 s1 r1 => ?_) (fun _ _ z => z) h⟩
    subst e
    cases r1
    refine ⟨c, rfl, ?_⟩
    cases c with
    | true => exact ⟨env, S1, B1, α1, re.mono s1.bb s1.pre, s1.wd, hb.mono env S1 _ _ _ _ (fun z S2 h2 => kvT.after s1 h2) (fun _ _ z => kxT.after s1 z) h1⟩
    | false => exact h1 _ H1 B1 α1 s1 (.bl false)
theorem px_or (ha : PX ga X E a wa) (hb : PX ga X E (.BoolOp .Or (b :: rest) pos) wb) : PX ga X E (.BoolOp .Or (a :: b :: rest) pos) (orVW wa wb) := by
  refine ⟨fun env S k k' x x' hk hx h => ha.mono env S _ _ _ _ (fun y S1 ⟨c, e, h1⟩ => ⟨c, e, by
    cases c with
    | false => exact hb.mono env S1 _ _ _ _ hk hx h1
    | true => exact hk _ _ h1⟩) hx h, ⟨fun pins s σ H Q I h => (pe_or ha.run hb.run).run pins s σ H Q I ?_⟩⟩
  · obtain ⟨env, S, B, α, re, w, h⟩ := h
    refine ⟨env, S, B, α, re, w, ha.mono env S _ _ _ _ (fun y S1 ⟨c, e, h1⟩ v H1 B1 α1 s1 r1 => ?_) (fun _ _ z => z) h⟩
    subst e
    cases r1
    refine ⟨c, rfl, ?_⟩
    cases c with
    | false => exact ⟨env, S1, B1, α1, re.mono s1.bb s1.pre, s1.wd, hb.mono env S1 _ _ _ _ (fun z S2 h2 => kvT.after s1 h2) (fun _ _ z => kxT.after s1 z) h1⟩
    | true => exact h1 _ H1 B1 α1 s1 (.bl true)
theorem px_not (ha : PX ga X E a wa) : PX ga X E (.UnaryOp .Not a pos) (notVW wa) := by
  refine ⟨fun env S k k' x x' hk hx h => ha.mono env S _ _ _ _ (fun y S1 ⟨c, e, h1⟩ => ⟨c, e, hk _ _ h1⟩) hx h, ⟨fun pins s σ H Q I h => (pe_not ha.run).run pins s σ H Q I ?_⟩⟩
  obtain ⟨env, S, B, α, re, w, h⟩ := h
  refine ⟨env, S, B, α, re, w, ha.mono env S _ _ _ _ (fun y S1 ⟨c, e, h1⟩ v H1 B1 α1 s1 r1 => ?_) (fun _ _ z => z) h⟩
  subst e
  cases r1
  exact ⟨c, rfl, h1 _ H1 B1 α1 s1 (.bl _)⟩
theorem px_if (hc : PXT ga X E c ta) (ha : PX ga X E a wa) (hb : PX ga X E b wb) : PX ga X E (.IfExp c a b pos) (ifW ta wa wb) := by
  refine ⟨fun env S k k' x x' hk hx h => hc.mono env S _ _ _ _ (fun c S1 h1 => by
    cases c with
    | false => exact hb.mono env S1 _ _ _ _ hk hx h1
    | true => exact ha.mono env S1 _ _ _ _ hk hx h1) hx h, ⟨fun pins s σ H Q I h => (pe_ifExp hc.run ha.run hb.run).run pins s σ H Q I ?_⟩⟩
  · obtain ⟨env, S, B, α, re, w, h⟩ := h
    refine ⟨env, S, B, α, re, w, hc.mono env S _ _ _ _ (fun c S1 h1 H1 B1 α1 s1 => ?_) (fun _ _ z => z) h⟩
    cases c with
    | true => exact ⟨env, S1, B1, α1, re.mono s1.bb s1.pre, s1.wd, ha.mono env S1 _ _ _ _ (fun z S2 h2 => kvT.after s1 h2) (fun _ _ z => kxT.after s1 z) h1⟩
    | false => exact ⟨env, S1, B1, α1, re.mono s1.bb s1.pre, s1.wd, hb.mono env S1 _ _ _ _ (fun z S2 h2 => kvT.after s1 h2) (fun _ _ z => kxT.after s1 z) h1⟩
theorem pxa_nil : PXA ga X E [] nilA := by
  refine ⟨fun env S k k' x x' hk hx h => hk _ _ h, ⟨fun pos pins s σ H Q I h => pa_nil.run pos pins s σ H Q I ?_⟩⟩
  obtain ⟨env, S, B, α, re, w, h⟩ := h
  exact h [] H B α (Stp.refl w) .nil
theorem pxa_cons (ha : PX ga X E a wa) (hr : PXA ga X E rest wA) (hs : starEach (a :: rest) X.env = (false, eval a X.env) :: starEach rest X.env := by rfl) : PXA ga X E (a :: rest) (consA wa wA) := by
  refine ⟨fun env S k k' x x' hk hx h => ha.mono env S _ _ _ _ (fun y S1 h1 => hr.mono env S1 _ _ _ _ (fun ys S2 h2 => hk _ _ h2) hx h1) hx h, ⟨fun pos pins s σ H Q I h => (pa_cons ha.run hr.run hs).run pos pins s σ H Q I ?_⟩⟩
  obtain ⟨env, S, B, α, re, w, h⟩ := h
  refine ⟨env, S, B, α, re, w, ha.mono env S _ _ _ _ (fun y S1 h1 v1 H1 B1 α1 s1 r1 => ?_) (fun _ _ z => z) h⟩
  exact ⟨env, S1, B1, α1, re.mono s1.bb s1.pre, s1.wd, hr.mono env S1 _ _ _ _ (fun ys S2 h2 vs H2 B2 α2 s2 r2 => h2 (v1 :: vs) H2 B2 α2 (s1.trans s2) (.cons (r1.mono s2.bb s2.pre) r2)) (fun _ _ z => kxT.after s1 z) h1⟩

/-! ### two comparisons in a chain -/
def chainW (g g' : DV → DV → Sto → Option DV) (wa wb wc : DE) : DE := fun env S k kx => wa env S (fun x S1 => wb env S1 (fun y S2 => ∃ c, g x y S2 = some (.d (.bool c)) ∧
  if c = true then wc env S2 (fun z S3 => ∃ u, g' y z S3 = some u ∧ k u S3) kx else k (.d (.bool false)) S2) kx) kx
theorem px_chain {op op' : CmpOp} {r r' : R2} {g g' : DV → DV → Sto → Option DV} {wc : DE} (ho : OpR X (compareOp op) r) (ho' : OpR X (compareOp op') r') (hg : Op2 X.K r g) (hg' : Op2 X.K r' g') (ha : PX ga X E a wa) (hb : PX ga X E b wb) (hc : PX ga X E c wc)
    (hm : lastMarks [op, op'] [b, c] = false := by with_unfolding_all rfl) : PX ga X E (.Compare a [op, op'] [b, c] pos) (chainW g g' wa wb wc) := by
  refine ⟨fun env S k k' x x' hk hx h => ha.mono env S _ _ _ _ (fun y S1 h1 => hb.mono env S1 _ _ _ _ (fun z S2 ⟨d, e, h2⟩ => ⟨d, e, by
    cases d with
    | true => exact hc.mono env S2 _ _ _ _ (fun z S3 ⟨u, e3, h3⟩ => ⟨u, e3, hk _ _ h3⟩) hx h2
    | false => exact hk _ _ h2⟩) hx h1) hx h, ⟨fun pins s σ H Q I h => (pe_chain ho ho' ha.run hb.run hc.run hm).run pins s σ H Q I ?_⟩⟩
  · obtain ⟨env, S, B, α, re, w, h⟩ := h
    refine ⟨env, S, B, α, re, w, ha.mono env S _ _ _ _ (fun y S1 h1 v1 H1 B1 α1 s1 r1 => ?_) (fun _ _ z => z) h⟩
    refine ⟨env, S1, B1, α1, re.mono s1.bb s1.pre, s1.wd, hb.mono env S1 _ _ _ _ (fun z S2 ⟨d, e, h2⟩ v2 H2 B2 α2 s2 r2 => ?_) (fun _ _ z => kxT.after s1 z) h1⟩
    refine hg B2 α2 S2 H2 v1 v2 y z _ s2.wd (r1.mono s2.bb s2.pre) r2 e _ (fun v3 H3 B3 α3 s3 r3 => ?_)
    cases r3
    refine ⟨d, rfl, ?_⟩
    cases d with
    | true =>
      refine ⟨env, S2, B3, α3, re.mono (s1.bb.trans (s2.bb.trans s3.bb)) ((s1.trans s2).trans s3).pre, s3.wd, hc.mono env S2 _ _ _ _ (fun w' S4 ⟨u, e4, h4⟩ v4 H4 B4 α4 s4 r4 => ?_) (fun _ _ z => kxT.after ((s1.trans s2).trans s3) z) h2⟩
      exact hg' B4 α4 S4 H4 v2 v4 z w' u s4.wd (r2.mono (s3.bb.trans s4.bb) (s3.trans s4).pre) r4 e4 Q (kvT.after (((s1.trans s2).trans s3).trans s4) h4)
    | false => exact h2 _ H3 B3 α3 ((s1.trans s2).trans s3) (.bl false)
end
end DW

set_option Elab.async false
set_option linter.all false
set_option maxRecDepth 100000
set_option maxHeartbeats 4000000
set_option autoImplicit false
/-! DW3: the operators, built-ins and displays on data. -/
namespace DW
open PySem L2

/-! ### sequences -/
def pures : List DV → Option (List PyData)
  | [] => some []
  | .d x :: r => (pures r).map (x :: ·)
  | _ :: _ => none
/-- the items of pure data: a list (true) or a tuple -/
def seqD : DV → Sto → Option (Bool × List PyData)
  | .d (.list xs), _ => some (true, xs)
  | .d (.tuple xs), _ => some (false, xs)
  | .p n, S => match S[n]? with
    | some (.lst xs) => (pures xs).map fun ys => (true, ys)
    | _ => none
  | .s ns, _ => some (true, ns.map PyData.int)
  | _, _ => none
section
variable {K : PySem.W.Frag} {B B' : Hp} {α α' : List Addr} {S S' : Sto} {H H' : Hp} {v : V} {x : DV} {Q : VK}
theorem DqAll.len : ∀ {vs : List V} {ds : List PyData}, DqAll K B vs ds → vs.length = ds.length
  | _, _, .nil => rfl
  | _, _, .cons _ r => by simp [DqAll.len r]
theorem DqAll.get : ∀ {vs : List V} {ds : List PyData} {i : Nat} {d : PyData}, DqAll K B vs ds → ds[i]? = some d → ∃ v, vs[i]? = some v ∧ Dq K B v d
  | _, _, _, _, .nil, e => by simp at e
  | _, _, 0, _, .cons h _, e => by simp at e; subst e; exact ⟨_, rfl, h⟩
  | _, _, i + 1, _, .cons _ r, e => by obtain ⟨v, h1, h2⟩ := DqAll.get (i := i) r (by simpa using e); exact ⟨v, by simpa using h1, h2⟩
theorem DqAll.get' : ∀ {vs : List V} {ds : List PyData} {i : Nat} {v : V}, DqAll K B vs ds → vs[i]? = some v → ∃ d, ds[i]? = some d ∧ Dq K B v d
  | _, _, _, _, .nil, e => by simp at e
  | _, _, 0, _, .cons h _, e => by simp at e; subst e; exact ⟨_, rfl, h⟩
  | _, _, i + 1, _, .cons _ r, e => by obtain ⟨v, h1, h2⟩ := DqAll.get' (i := i) r (by simpa using e); exact ⟨v, by simpa using h1, h2⟩
theorem DqAll.append : ∀ {vs ws : List V} {ds es : List PyData}, DqAll K B vs ds → DqAll K B ws es → DqAll K B (vs ++ ws) (ds ++ es)
  | _, _, _, _, .nil, s => s
  | _, _, _, _, .cons h r, s => .cons h (DqAll.append r s)
theorem DqAll.take : ∀ {vs : List V} {ds : List PyData} (n : Nat), DqAll K B vs ds → DqAll K B (vs.take n) (ds.take n)
  | _, _, 0, _ => .nil
  | _, _, _ + 1, .nil => .nil
  | _, _, n + 1, .cons h r => .cons h (DqAll.take n r)
theorem DqAll.drop : ∀ {vs : List V} {ds : List PyData} (n : Nat), DqAll K B vs ds → DqAll K B (vs.drop n) (ds.drop n)
  | _, _, 0, h => h
  | _, _, _ + 1, .nil => .nil
  | _, _, n + 1, .cons _ r => DqAll.drop n r
theorem VRs.pure : ∀ {vs : List V} {xs : List DV} {ds : List PyData}, VRs K B α vs xs → pures xs = some ds → DqAll K B vs ds
  | _, _, _, .nil, e => by
    cases e; exact .nil
  | _, _, _, .cons (x := x) (xs := xs) h r, e => by
    cases x with
    | p n => cases e
    | s n => cases e
    | m n => cases e
    | ce n => cases e
    | cs n => cases e
    | ev n => cases e
    | es n => cases e
    | cl n => cases e
    | d y =>
      cases q : pures xs with
      | none => simp [pures, q] at e
      | some ds' =>
        simp [pures, q] at e
        subst e
        exact .cons h (VRs.pure r q)
theorem pures_map : ∀ ds : List PyData, pures (ds.map DV.d) = some ds
  | [] => rfl
  | d :: ds => by simp [pures, pures_map ds]
theorem VRs.ofPure : ∀ {vs : List V} {ds : List PyData}, DqAll K B vs ds → VRs K B α vs (ds.map DV.d)
  | _, _, .nil => .nil
  | _, _, .cons h r => .cons h (VRs.ofPure r)
theorem dq_ints : ∀ ns : List Int, DqAll K B (ns.map V.int) (ns.map PyData.int)
  | [] => .nil
  | n :: ns => .cons (.int n) (dq_ints ns)
/-- what seqD tells -/
theorem seq_ok {k : Bool} {ds : List PyData} (w : Wd K B α S H) (r : VR K B α v x) (e : seqD x S = some (k, ds)) : ∃ a vs, v = .ref a ∧ (if k = true then SqL K H a vs else SqT K H a vs) ∧ DqAll K B vs ds := by
  cases x with
  | d y =>
    cases y with
    | list xs =>
      cases r with
      | lst h q =>
        simp only [seqD, Option.some.injEq, Prod.mk.injEq] at e
        obtain ⟨rfl, rfl⟩ := e
        exact ⟨_, _, rfl, SqL.of (w.ex _ _ h), q⟩
    | tuple xs =>
      cases r with
      | tup h q =>
        simp only [seqD, Option.some.injEq, Prod.mk.injEq] at e
        obtain ⟨rfl, rfl⟩ := e
        exact ⟨_, _, rfl, same_t w.ex h, q⟩
    | _ => simp [seqD] at e
  | p n =>
    obtain ⟨a, ha, rfl⟩ := r
    have e : (match S[n]? with
      | some (.lst xs) => (pures xs).map fun ys => (true, ys)
      | _ => none) = some (k, ds) := e
    cases hs : S[n]? with
    | none => rw [hs] at e; simp at e
    | some o =>
      rw [hs] at e
      cases o with
      | lst xs =>
        cases q : pures xs with
        | none => simp [q] at e
        | some ys =>
          simp [q] at e
          obtain ⟨rfl, rfl⟩ := e
          obtain ⟨a', h1, h2, vs, h3, h4⟩ := w.obj n _ hs (by intro z; cases z)
          rw [ha] at h1; cases h1
          exact ⟨a, vs, rfl, SqL.of h3, VRs.pure h4 q⟩
      | dic kvs => simp at e
      | ins c fs => simp at e
      | tab nm => simp at e
      | gone => simp at e
  | s ns =>
    obtain ⟨a, rfl, h⟩ := r
    simp only [seqD, Option.some.injEq, Prod.mk.injEq] at e
    obtain ⟨rfl, rfl⟩ := e
    exact ⟨a, _, rfl, same_l w.ex h, dq_ints ns⟩
  | m kvs => simp [seqD] at e
  | ce z => simp [seqD] at e
  | cs z => simp [seqD] at e
  | ev z => simp [seqD] at e
  | es z => simp [seqD] at e
  | cl z => simp [seqD] at e
/-- a new pure tuple, a new pure list -/
theorem kv_tup {vs : List V} {ds : List PyData} {p : Addr} (w : Wd K B α S H) (hp : H p = none) (r : DqAll K B vs ds) (h : kvT K B α H Q (.d (.tuple ds)) S) : Q (.ref p) (upd H p (.tup vs)) :=
  h _ _ _ α (w.fresh hp) (Dq.tup (SqT.of upd_same) (r.same (Same.upd_none (w.ex.free hp))))
theorem kv_lst {vs : List V} {ds : List PyData} {p : Addr} (w : Wd K B α S H) (hp : H p = none) (r : DqAll K B vs ds) (h : kvT K B α H Q (.d (.list ds)) S) : Q (.ref p) (upd H p (.lst vs)) :=
  h _ _ _ α (w.fresh hp) (Dq.lst upd_same (r.same (Same.upd_none (w.ex.free hp))))
theorem kv_same {d : PyData} (w : Wd K B α S H) (r : Dq K B v d) (h : kvT K B α H Q (.d d) S) : Q v H := h _ _ _ α (Stp.refl w) r
end
theorem lim_le {n : Nat} (h : n ≤ 1000000) : n ≤ sizeLine := Nat.le_trans h (by decide)


/-! ### operators -/
def addD : DV → DV → Sto → Option DV
  | .d (.int i), .d (.int j), _ => some (.d (.int (i + j)))
  | .d (.str i), .d (.str j), _ => if i.length + j.length ≤ 1000000 then some (.d (.str (i ++ j))) else none
  | .d (.tuple xs), .d (.tuple ys), _ => if xs.length + ys.length ≤ 1000000 then some (.d (.tuple (xs ++ ys))) else none
  | .d (.list xs), .d (.list ys), _ => if xs.length + ys.length ≤ 1000000 then some (.d (.list (xs ++ ys))) else none
  | _, _, _ => none
def subD : DV → DV → Sto → Option DV
  | .d (.int i), .d (.int j), _ => some (.d (.int (i - j)))
  | _, _, _ => none
def mulD : DV → DV → Sto → Option DV
  | .d (.int i), .d (.int j), _ => if (-18446744073709551616 < i ∧ i < 18446744073709551616) ∨ (-18446744073709551616 < j ∧ j < 18446744073709551616) then some (.d (.int (i * j))) else none
  | .d (.list xs), .d (.int k), _ => if 0 ≤ k ∧ k ≤ 1000 ∧ xs.length ≤ 1000 then some (.d (.list (List.replicate k.toNat xs).flatten)) else none
  | .d (.tuple xs), .d (.int k), _ => if 2 ≤ k ∧ k ≤ 1000 ∧ xs.length ≤ 1000 ∧ xs ≠ [] then some (.d (.tuple (List.replicate k.toNat xs).flatten)) else none
  | _, _, _ => none
def divD : DV → DV → Sto → Option DV
  | .d (.int i), .d (.int j), _ => if 0 < j ∧ j < 1073741824 then some (.d (.int (i / j))) else none
  | _, _, _ => none
def modD : DV → DV → Sto → Option DV
  | .d (.int i), .d (.int j), _ => if 0 < j then some (.d (.int (i % j))) else none
  | _, _, _ => none
def powD : DV → DV → Sto → Option DV
  | .d (.int i), .d (.int j), _ => if 0 ≤ j ∧ j ≤ 100 ∧ -1000 ≤ i ∧ i ≤ 1000 then some (.d (.int (i ^ j.toNat))) else none
  | _, _, _ => none
def cmpD (p : Int → Int → Bool) : DV → DV → Sto → Option DV
  | .d (.int i), .d (.int j), _ => some (.d (.bool (p i j)))
  | _, _, _ => none
abbrev ltD := cmpD fun i j => decide (i < j)
abbrev leD := cmpD fun i j => decide (i ≤ j)
abbrev gtD := cmpD fun i j => decide (j < i)
abbrev geD := cmpD fun i j => decide (j ≤ i)
/-- pure data behind a value -/
def dataD : DV → Sto → Option PyData
  | .d x, _ => some x
  | x, S => (seqD x S).map fun z => .list z.2
def eqD : DV → DV → Sto → Option DV := fun x y S => match dataD x S, dataD y S with
  | some a, some b => if SeqAt.shaped a = true ∧ SeqAt.shaped b = true then some (.d (.bool (PyData.eqv a b))) else none
  | _, _ => none
def neD : DV → DV → Sto → Option DV := fun x y S => match dataD x S, dataD y S with
  | some a, some b => if SeqAt.shaped a = true ∧ SeqAt.shaped b = true then some (.d (.bool (!PyData.eqv a b))) else none
  | _, _ => none
/-- x is None -/
def isND : DV → DV → Sto → Option DV
  | .d x, .d .none, _ => some (.d (.bool (match x with
    | .none => true
    | _ => false)))
  | _, _, _ => none
def isNND : DV → DV → Sto → Option DV
  | .d x, .d .none, _ => some (.d (.bool (match x with
    | .none => false
    | _ => true)))
  | _, _, _ => none
def flatD : PyData → Bool
  | .none => true
  | .bool _ => true
  | .int _ => true
  | .str _ => true
  | _ => false
/-- x in a list or tuple of flat things -/
def inD (neg : Bool) : DV → DV → Sto → Option DV := fun x y S => match x, seqD y S with
  | .d a, some (_, ds) => if flatD a = true ∧ ds.all flatD = true then some (.d (.bool (if neg then !ds.any (fun z => PyData.eqv z a) else ds.any (fun z => PyData.eqv z a)))) else none
  | _, _ => none
/-- x[i] -/
def ixD : DV → DV → Sto → Option DV := fun x y S => match y with
  | .d (.int i) => (match x with
    | .d (.str z) => if z.length ≤ 1000000 then (atI z.cps.toList i).map fun c => .d (.str ⟨#[c]⟩) else none
    | x => match seqD x S with
      | some (_, ds) => (atI ds i).map .d
      | none => none)
  | _ => none
section
variable {K : PySem.W.Frag}
theorem o_add : Op2 K (fun x y H Q => ((rI0 fun i j => .int (i + j)) x y H Q ∨ (∃ i j, x = .str i ∧ y = .str j ∧ i.length + j.length ≤ sizeLine ∧ Q (.str (i ++ j)) H)) ∨ (rCatA K x y H Q ∨ rCat x y H Q)) addD := by
  intro B α S H vx vy x y z w rx ry e Q h
  unfold addD at e
  split at e
  · cases e; cases rx; cases ry; exact .inl (.inl ⟨_, _, rfl, rfl, kv_same w (.int _) h⟩)
  · split at e
    · cases e; cases rx; cases ry; exact .inl (.inr ⟨_, _, rfl, rfl, lim_le (by assumption), kv_same w (.str _) h⟩)
    · cases e
  · split at e
    · rename_i hl
      cases e
      cases rx with
      | tup h1 q1 => cases ry with
        | tup h2 q2 =>
          refine .inr (.inl ⟨_, _, _, _, rfl, rfl, same_t w.ex h1, same_t w.ex h2, lim_le (by rw [q1.len, q2.len]; exact hl), fun z => ?_, fun _ z => ?_, fun _ _ p hp => kv_tup w hp (q1.append q2) h⟩)
          · subst z; cases q1; exact kv_same w (.tup h2 q2) h
          · subst z; cases q2; rw [List.append_nil] at h; exact kv_same w (.tup h1 q1) h
    · cases e
  · split at e
    · rename_i hl
      cases e
      cases rx with
      | lst h1 q1 => cases ry with
        | lst h2 q2 => exact .inr (.inr ⟨_, _, _, _, rfl, rfl, w.ex _ _ h1, w.ex _ _ h2, lim_le (by rw [q1.len, q2.len]; exact hl), fun p hp => kv_lst w hp (q1.append q2) h⟩)
    · cases e
  · cases e
theorem o_sub : Op2 K (rI0 fun i j => .int (i - j)) subD := by
  intro B α S H vx vy x y z w rx ry e Q h
  unfold subD at e
  split at e
  · cases e; cases rx; cases ry; exact ⟨_, _, rfl, rfl, kv_same w (.int _) h⟩
  · cases e
theorem o_div : Op2 K (rI CDiv fun i j => .int (i / j)) divD := by
  intro B α S H vx vy x y z w rx ry e Q h
  unfold divD at e
  split at e
  · split at e
    · cases e; cases rx; cases ry; exact ⟨_, _, rfl, rfl, by assumption, kv_same w (.int _) h⟩
    · cases e
  · cases e
theorem o_mod : Op2 K (rI (fun _ j => 0 < j) fun i j => .int (i % j)) modD := by
  intro B α S H vx vy x y z w rx ry e Q h
  unfold modD at e
  split at e
  · split at e
    · cases e; cases rx; cases ry; exact ⟨_, _, rfl, rfl, by assumption, kv_same w (.int _) h⟩
    · cases e
  · cases e
theorem o_pow : Op2 K (rI CPow fun i j => .int (i ^ j.toNat)) powD := by
  intro B α S H vx vy x y z w rx ry e Q h
  unfold powD at e
  split at e
  · split at e
    · rename_i hl
      cases e; cases rx; cases ry; exact ⟨_, _, rfl, rfl, ⟨hl.1, by omega, by omega⟩, kv_same w (.int _) h⟩
    · cases e
  · cases e
theorem flat_rep {α : Type} (xs : List α) : ∀ k : Nat, (List.replicate k xs).flatten.length = k * xs.length := fun k => by simp
theorem DqAll.rep {B : Hp} {vs : List V} {ds : List PyData} (h : DqAll K B vs ds) : ∀ k : Nat, DqAll K B (List.replicate k vs).flatten (List.replicate k ds).flatten
  | 0 => .nil
  | k + 1 => by simpa [List.replicate_succ] using h.append (DqAll.rep h k)
theorem o_mul : Op2 K (fun x y H Q => (rI CMul fun i j => .int (i * j)) x y H Q ∨ (rRep x y H Q ∨ rRepT K x y H Q)) mulD := by
  intro B α S H vx vy x y z w rx ry e Q h
  unfold mulD at e
  split at e
  · split at e
    · rename_i hl
      cases e; cases rx; cases ry; exact .inl ⟨_, _, rfl, rfl, hl.imp (fun z => ⟨by omega, by omega⟩) fun z => ⟨by omega, by omega⟩, kv_same w (.int _) h⟩
    · cases e
  · split at e
    · rename_i hl
      cases e; cases ry
      cases rx with
      | lst h1 q1 =>
        refine .inr (.inl ⟨_, _, _, rfl, rfl, w.ex _ _ h1, by omega, by omega, lim_le ?_, fun p hp => kv_lst w hp (q1.rep _) h⟩)
        rw [q1.len]
        exact Nat.le_trans (Nat.mul_le_mul hl.2.2 (show _ ≤ 1000 by omega)) (by decide)
    · cases e
  · split at e
    · rename_i hl
      cases e; cases ry
      cases rx with
      | tup h1 q1 =>
        refine .inr (.inr ⟨_, _, _, rfl, rfl, same_t w.ex h1, ?_, hl.1, hl.2.1, by rw [q1.len]; exact hl.2.2.1, fun p hp => kv_tup w hp (q1.rep _) h⟩)
        intro z; subst z; cases q1; exact hl.2.2.2 rfl
    · cases e
  · cases e
theorem o_cmp {p : Int → Int → Bool} : Op2 K (rI0 fun i j => .bl (p i j)) (cmpD p) := by
  intro B α S H vx vy x y z w rx ry e Q h
  unfold cmpD at e
  split at e
  · cases e; cases rx; cases ry; exact ⟨_, _, rfl, rfl, kv_same w (.bl _) h⟩
  · cases e
theorem DpAll.same' {B B' : Hp} (e : Same B B') : ∀ {vs : List V} {ds : List PyData}, DqAll K B vs ds → DpAll K B' vs ds := fun h => (DqAll.same e h).dp
theorem data_ok {B : Hp} {α : List Addr} {S : Sto} {H : Hp} {v : V} {x : DV} {d : PyData} (w : Wd K B α S H) (r : VR K B α v x) (e : dataD x S = some d) : Dp K H v d := by
  cases x with
  | d y => cases e; exact (Dq.same w.ex r).dp
  | p n =>
    have e : (seqD (.p n) S).map (fun z => PyData.list z.2) = some d := e
    cases q : seqD (.p n) S with
    | none => rw [q] at e; cases e
    | some z =>
      obtain ⟨k, ds⟩ := z
      rw [q] at e
      cases e
      obtain ⟨a, vs, rfl, h1, h2⟩ := seq_ok w r q
      have hk : k = true := by
        unfold seqD at q
        cases hs : S[n]? with
        | none => simp [hs] at q
        | some o =>
          simp [hs] at q
          cases o with
          | lst xs =>
            cases hm : pures xs with
            | none => simp [hm] at q
            | some ys => simp [hm] at q; exact q.1
          | _ => simp at q
      subst hk
      exact .lst h1 (DpAll.same' w.ex h2)
  | m n => cases e
  | ce n => cases e
  | cs n => cases e
  | ev n => cases e
  | es n => cases e
  | cl n => cases e
  | s ns =>
    have e : (seqD (.s ns) S).map (fun z => PyData.list z.2) = some d := e
    obtain ⟨a, vs, rfl, h1, h2⟩ := seq_ok w r (show seqD (.s ns) S = some (true, ns.map PyData.int) from rfl)
    cases e
    exact .lst h1 (DpAll.same' w.ex h2)
theorem o_eq : Op2 K (rEqD K) eqD := by
  intro B α S H vx vy x y z w rx ry e Q h
  unfold eqD at e
  split at e
  · split at e
    · rename_i h1 h2 hl
      cases e
      exact ⟨_, _, data_ok w rx h1, data_ok w ry h2, hl.1, hl.2, kv_same w (.bl _) h⟩
    · cases e
  · cases e
theorem o_ne : Op2 K (rNeD K) neD := by
  intro B α S H vx vy x y z w rx ry e Q h
  unfold neD at e
  split at e
  · split at e
    · rename_i h1 h2 hl
      cases e
      exact ⟨_, _, data_ok w rx h1, data_ok w ry h2, hl.1, hl.2, kv_same w (.bl _) h⟩
    · cases e
  · cases e
theorem o_isN : Op2 K (fun x y H Q => y = .non ∧ Q (.bl (decide (x = .non))) H) isND := by
  intro B α S H vx vy x y z w rx ry e Q h
  unfold isND at e
  split at e
  · cases e; cases ry
    refine ⟨rfl, ?_⟩
    cases rx with
    | non => exact kv_same w (.bl _) h
    | _ => exact kv_same w (.bl _) h
  · cases e
theorem o_notN : Op2 K (fun x y H Q => y = .non ∧ Q (.bl (!decide (x = .non))) H) isNND := by
  intro B α S H vx vy x y z w rx ry e Q h
  unfold isNND at e
  split at e
  · cases e; cases ry
    refine ⟨rfl, ?_⟩
    cases rx with
    | non => exact kv_same w (.bl _) h
    | _ => exact kv_same w (.bl _) h
  · cases e
theorem flat_ok {B : Hp} {v : V} {d : PyData} (r : Dq K B v d) (f : flatD d = true) : flatV v = true := by
  cases r with
  | non => rfl
  | bl => rfl
  | int => rfl
  | str => rfl
  | lst _ _ => cases f
  | tup _ _ => cases f
theorem flats_ok {B : Hp} : ∀ {vs : List V} {ds : List PyData}, DqAll K B vs ds → ds.all flatD = true → vs.all flatV = true
  | _, _, .nil, _ => rfl
  | _, _, .cons h r, f => by
    simp only [List.all_cons, Bool.and_eq_true] at f ⊢
    exact ⟨flat_ok h f.1, flats_ok r f.2⟩
theorem eqv_flat {B : Hp} {v u : V} {d e : PyData} (r : Dq K B v d) (q : Dq K B u e) (f : flatD d = true) (g : flatD e = true) : eqV v u = PyData.eqv d e := by
  cases r <;> cases q <;> first | (cases f; done) | (cases g; done) | skip
  all_goals first | rfl | simp [eqV, PyData.eqv]
theorem any_flat {B : Hp} {v : V} {d : PyData} (r : Dq K B v d) (f : flatD d = true) : ∀ {vs : List V} {ds : List PyData}, DqAll K B vs ds → ds.all flatD = true → inV v vs = ds.any fun z => PyData.eqv z d
  | _, _, .nil, _ => rfl
  | _, _, .cons h q, g => by
    simp only [List.all_cons, Bool.and_eq_true] at g
    have ih := any_flat r f q g.2
    unfold inV at ih ⊢
    simp only [List.any_cons, ih, eqv_flat h r g.1 f]
theorem o_in {neg : Bool} : Op2 K (rIn K neg) (inD neg) := by
  intro B α S H vx vy x y z w rx ry e Q h
  unfold inD at e
  split at e
  · rename_i a k ds hs
    split at e
    · rename_i hl
      cases e
      obtain ⟨p, vs, rfl, h1, h2⟩ := seq_ok w ry hs
      refine ⟨p, vs, rfl, ?_, flat_ok rx hl.1, flats_ok h2 hl.2, ?_⟩
      · cases k with
        | true => exact .inl h1
        | false => exact .inr h1
      · rw [any_flat rx hl.1 h2 hl.2]
        exact kv_same w (.bl _) h
    · cases e
  · cases e
theorem at_ok {B : Hp} {vs : List V} {ds : List PyData} {i : Int} {d : PyData} (r : DqAll K B vs ds) (e : atI ds i = some d) : ∃ v, atI vs i = some v ∧ Dq K B v d := by
  unfold atI at e ⊢
  rw [r.len]
  cases q : ixN ds.length i with
  | none => rw [q] at e; cases e
  | some j =>
    rw [q] at e
    obtain ⟨v, h1, h2⟩ := r.get (i := j) e
    exact ⟨v, h1, h2⟩
theorem o_ix : Op2 K (rIx K) ixD := by
  intro B α S H vx vy x y z w rx ry e Q h
  unfold ixD at e
  split at e
  · cases ry
    split at e
    · split at e
      · rename_i hl
        rename_i i _ z0
        cases q : atI z0.cps.toList i with
        | none => rw [q] at e; cases e
        | some c =>
          rw [q] at e
          cases e; cases rx
          exact .inr (.inr ⟨_, _, c, rfl, rfl, lim_le hl, q, kv_same w (.str _) h⟩)
      · cases e
    · split at e
      · rename_i k ds hs
        obtain ⟨p, vs, rfl, h1, h2⟩ := seq_ok w rx hs
        cases q : atI ds _ with
        | none => rw [q] at e; cases e
        | some d =>
          rw [q] at e
          cases e
          obtain ⟨v, h3, h4⟩ := at_ok h2 q
          cases k with
          | true => exact .inl ⟨p, vs, _, v, rfl, rfl, h1, h3, kv_same w h4 h⟩
          | false => exact .inr (.inl ⟨p, vs, _, v, rfl, rfl, h1, h3, kv_same w h4 h⟩)
      · cases e
  · cases e
end
/-! ### the operators as rules -/
section
variable {ga : Str → Addr} {X : Cx} {E : WX} {a b : Expr} {wa wb : DE} {pos : Pos}
theorem px_add (ha : PX ga X E a wa) (hb : PX ga X E b wb) : PX ga X E (.BinOp a .Add b pos) (op2W addD wa wb) := px_op ((op_add.or op_add_str).or (op_catA.or op_cat)) o_add ha hb
theorem px_sub (ha : PX ga X E a wa) (hb : PX ga X E b wb) : PX ga X E (.BinOp a .Sub b pos) (op2W subD wa wb) := px_op op_sub o_sub ha hb
theorem px_mul (ha : PX ga X E a wa) (hb : PX ga X E b wb) : PX ga X E (.BinOp a .Mult b pos) (op2W mulD wa wb) := px_op (op_mul.or (op_rep.or op_repT)) o_mul ha hb
theorem px_div (ha : PX ga X E a wa) (hb : PX ga X E b wb) : PX ga X E (.BinOp a .FloorDiv b pos) (op2W divD wa wb) := px_op op_fdiv o_div ha hb
theorem px_mod (ha : PX ga X E a wa) (hb : PX ga X E b wb) : PX ga X E (.BinOp a .Mod b pos) (op2W modD wa wb) := px_op op_mod o_mod ha hb
theorem px_pow (ha : PX ga X E a wa) (hb : PX ga X E b wb) : PX ga X E (.BinOp a .Pow b pos) (op2W powD wa wb) := px_op op_pow o_pow ha hb
theorem px_lt (ha : PX ga X E a wa) (hb : PX ga X E b wb) : PX ga X E (.Compare a [.Lt] [b] pos) (op2W ltD wa wb) := px_cmp op_lt o_cmp ha hb (nomark _)
theorem px_le (ha : PX ga X E a wa) (hb : PX ga X E b wb) : PX ga X E (.Compare a [.LtE] [b] pos) (op2W leD wa wb) := px_cmp op_le o_cmp ha hb (nomark _)
theorem px_gt (ha : PX ga X E a wa) (hb : PX ga X E b wb) : PX ga X E (.Compare a [.Gt] [b] pos) (op2W gtD wa wb) := px_cmp op_gt o_cmp ha hb (nomark _)
theorem px_ge (ha : PX ga X E a wa) (hb : PX ga X E b wb) : PX ga X E (.Compare a [.GtE] [b] pos) (op2W geD wa wb) := px_cmp op_ge o_cmp ha hb (nomark _)
theorem px_eq (hu : X.A.units + 64 < cLine) (ha : PX ga X E a wa) (hb : PX ga X E b wb) : PX ga X E (.Compare a [.Eq] [b] pos) (op2W eqD wa wb) := px_cmp (op_eqD hu) o_eq ha hb (nomark _)
theorem px_ne (hu : X.A.units + 64 < cLine) (ha : PX ga X E a wa) (hb : PX ga X E b wb) : PX ga X E (.Compare a [.NotEq] [b] pos) (op2W neD wa wb) := px_cmp (op_neD hu) o_ne ha hb (nomark _)
theorem px_is (ha : PX ga X E a wa) (hb : PX ga X E b wb) : PX ga X E (.Compare a [.Is] [b] pos) (op2W isND wa wb) := px_cmp op_isN o_isN ha hb (nomark _)
theorem px_isnot (ha : PX ga X E a wa) (hb : PX ga X E b wb) : PX ga X E (.Compare a [.IsNot] [b] pos) (op2W isNND wa wb) := px_cmp op_notN o_notN ha hb (nomark _)
theorem px_in (hm : behindInMarks .In b = false) (ha : PX ga X E a wa) (hb : PX ga X E b wb) : PX ga X E (.Compare a [.In] [b] pos) (op2W (inD false) wa wb) := px_cmp op_in_seq o_in ha hb hm
theorem px_notin (hm : behindInMarks .NotIn b = false) (ha : PX ga X E a wa) (hb : PX ga X E b wb) : PX ga X E (.Compare a [.NotIn] [b] pos) (op2W (inD true) wa wb) := px_cmp op_notIn_seq o_in ha hb hm
theorem pxt_lt (ha : PX ga X E a wa) (hb : PX ga X E b wb) : PXT ga X E (.Compare a [.Lt] [b] pos) (testW (op2W ltD wa wb)) := pxt_cmp op_lt o_cmp ha hb (nomark _)
theorem pxt_le (ha : PX ga X E a wa) (hb : PX ga X E b wb) : PXT ga X E (.Compare a [.LtE] [b] pos) (testW (op2W leD wa wb)) := pxt_cmp op_le o_cmp ha hb (nomark _)
theorem pxt_gt (ha : PX ga X E a wa) (hb : PX ga X E b wb) : PXT ga X E (.Compare a [.Gt] [b] pos) (testW (op2W gtD wa wb)) := pxt_cmp op_gt o_cmp ha hb (nomark _)
theorem pxt_ge (ha : PX ga X E a wa) (hb : PX ga X E b wb) : PXT ga X E (.Compare a [.GtE] [b] pos) (testW (op2W geD wa wb)) := pxt_cmp op_ge o_cmp ha hb (nomark _)
theorem pxt_eq (hu : X.A.units + 64 < cLine) (ha : PX ga X E a wa) (hb : PX ga X E b wb) : PXT ga X E (.Compare a [.Eq] [b] pos) (testW (op2W eqD wa wb)) := pxt_cmp (op_eqD hu) o_eq ha hb (nomark _)
theorem pxt_ne (hu : X.A.units + 64 < cLine) (ha : PX ga X E a wa) (hb : PX ga X E b wb) : PXT ga X E (.Compare a [.NotEq] [b] pos) (testW (op2W neD wa wb)) := pxt_cmp (op_neD hu) o_ne ha hb (nomark _)
theorem pxt_is (ha : PX ga X E a wa) (hb : PX ga X E b wb) : PXT ga X E (.Compare a [.Is] [b] pos) (testW (op2W isND wa wb)) := pxt_cmp op_isN o_isN ha hb (nomark _)
theorem pxt_isnot (ha : PX ga X E a wa) (hb : PX ga X E b wb) : PXT ga X E (.Compare a [.IsNot] [b] pos) (testW (op2W isNND wa wb)) := pxt_cmp op_notN o_notN ha hb (nomark _)
theorem pxt_in (hm : behindInMarks .In b = false) (ha : PX ga X E a wa) (hb : PX ga X E b wb) : PXT ga X E (.Compare a [.In] [b] pos) (testW (op2W (inD false) wa wb)) := pxt_cmp op_in_seq o_in ha hb hm
theorem pxt_notin (hm : behindInMarks .NotIn b = false) (ha : PX ga X E a wa) (hb : PX ga X E b wb) : PXT ga X E (.Compare a [.NotIn] [b] pos) (testW (op2W (inD true) wa wb)) := pxt_cmp op_notIn_seq o_in ha hb hm
theorem px_ix (hs : PlainIx b := by intro _ _; rfl) (ha : PX ga X E a wa) (hb : PX ga X E b wb) : PX ga X E (.Subscript a b pos) (op2W ixD wa wb) :=
  ⟨mono2 ha.mono hb.mono, ⟨fun pins s σ H Q I h => (pe_ix ix_seq ha.run hb.run hs).run pins s σ H Q I (run2 o_ix ha.mono hb.mono h)⟩⟩
end
end DW

set_option Elab.async false
set_option linter.all false
set_option maxRecDepth 100000
set_option maxHeartbeats 4000000
set_option autoImplicit false
/-! DW4: displays, built-in calls, slices, texts. -/
namespace DW
open PySem L2

/-! ### the store grows, a list is frozen -/
section
variable {K : PySem.W.Frag} {B B' : Hp} {α α' : List Addr} {S S' : Sto} {H H' : Hp} {v : V} {x : DV} {Q : VK}
theorem Wd.newObj {p : Addr} {o : SO} {ho : HO} (w : Wd K B α S H) (hp : H p = none) (ok : SOk K B (α ++ [p]) (upd H p ho) p o) : Stp K B α H B (α ++ [p]) (S ++ [o]) (upd H p ho) := by
  have hB : B p = none := w.ex.free hp
  have old : ∀ (n : Nat) (q : SO), n < S.length → (S ++ [o])[n]? = some q → S[n]? = some q := fun n q h e => by rw [List.getElem?_append_left h] at e; exact e
  have last : ∀ (n : Nat) (q : SO), ¬ n < S.length → (S ++ [o])[n]? = some q → n = S.length ∧ q = o := fun n q h e => by
    have hn := (List.getElem?_eq_some_iff.mp e).1
    simp at hn
    have : n = S.length := by omega
    subst this
    simp at e
    exact ⟨rfl, e.symm⟩
  refine ⟨⟨fun a u e => ?_, by simp [w.len], fun n q h1 h2 => ?_, ?_, fun a ha => ?_⟩, Same.refl _, ⟨[p], rfl⟩, fun a u e => .inl e, fun a ha => ?_, fun a u e _ => Same.upd_none hp a u e⟩
  · rw [upd_ne (ne_of_none (w.ex a u e) hp)]; exact w.ex a u e
  · by_cases hn : n < S.length
    · obtain ⟨a, e1, e2, e3⟩ := w.obj n q (old n q hn h1) h2
      refine ⟨a, by rw [List.getElem?_append_left (by rw [w.len]; exact hn)]; exact e1, e2, ?_⟩
      exact e3.mono (Same.refl _) ⟨[p], rfl⟩ fun u z => Same.upd_none hp a u z
    · obtain ⟨rfl, rfl⟩ := last n q hn h1
      exact ⟨p, by rw [← w.len]; simp, hB, ok⟩
  · refine List.nodup_append.mpr ⟨w.nd, by simp, fun a ha b hb => ?_⟩
    simp at hb
    subst hb
    obtain ⟨u, e⟩ := w.trk a ha
    exact ne_of_none e hp
  · rcases List.mem_append.mp ha with h | h
    · exact (w.trk a h).imp fun u e => Same.upd_none hp a u e
    · simp at h; subst h; exact ⟨_, upd_same⟩
  · rcases List.mem_append.mp ha with h | h
    · exact .inl h
    · simp at h; subst h; exact .inr hp
theorem nd_at {l : List Addr} (h : l.Nodup) {i j : Nat} {a : Addr} (h1 : l[i]? = some a) (h2 : l[j]? = some a) : i = j := by
  obtain ⟨i1, e1⟩ := List.getElem?_eq_some_iff.mp h1
  obtain ⟨j1, e2⟩ := List.getElem?_eq_some_iff.mp h2
  exact (List.getElem_inj h).mp (e1.trans e2.symm)
/-- a list of the store becomes pure -/
theorem Wd.freeze {n : Nat} {xs : List DV} {ds : List PyData} {a : Addr} (w : Wd K B α S H) (hs : S[n]? = some (.lst xs)) (hd : pures xs = some ds) (ha : α[n]? = some a) : ∃ B', Stp K B α H B' α (S.set n .gone) H ∧ Dq K B' (.ref a) (.list ds) := by
  obtain ⟨a', e1, e2, vs, e3, e4⟩ := w.obj n _ hs (fun z => by cases z)
  rw [ha] at e1; cases e1
  have sm : Same B (upd B a (.lst vs)) := Same.upd_none e2
  refine ⟨upd B a (.lst vs), ⟨⟨fun c u e => ?_, by simp [w.len], fun m q h1 h2 => ?_, w.nd, w.trk⟩, sm, ⟨[], by simp⟩, fun c u e => ?_, fun _ h => .inl h, fun _ _ e _ => e⟩, .lst upd_same ((VRs.pure e4 hd).same sm)⟩
  · by_cases hc : c = a
    · subst hc; rw [upd_same] at e; rw [← e]; exact e3
    · rw [upd_ne hc] at e; exact w.ex c u e
  · have hmn : n ≠ m := fun z => by
      subst z
      rw [List.getElem?_set_self (List.getElem?_eq_some_iff.mp hs).1] at h1
      cases h1; exact h2 rfl
    rw [List.getElem?_set_ne hmn] at h1
    obtain ⟨c, f1, f2, f3⟩ := w.obj m q h1 h2
    have hca : c ≠ a := fun z => by
      subst z
      exact hmn (nd_at w.nd ha f1)
    exact ⟨c, f1, by rw [upd_ne hca]; exact f2, f3.mono sm ⟨[], by simp⟩ fun _ z => z⟩
  · by_cases hc : c = a
    · subst hc; exact .inr (.inr (List.mem_of_getElem? ha))
    · rw [upd_ne hc] at e; exact .inl e
end

def tupW (wA : DA) : DE := fun env S k kx => wA env S (fun xs S1 => ∃ ds, pures xs = some ds ∧ ds.length ≤ 1000000 ∧ k (.d (.tuple ds)) S1) kx
def lstW (wA : DA) : DE := fun env S k kx => wA env S (fun xs S1 => ∃ ds, pures xs = some ds ∧ ds.length ≤ 1000000 ∧ k (.d (.list ds)) S1) kx
/-- a list that will be changed -/
def newLW (wA : DA) : DE := fun env S k kx => wA env S (fun xs S1 => xs.length ≤ 1000000 ∧ k (.p S1.length) (S1 ++ [.lst xs])) kx
/-- a list of the store, no longer changed -/
def fzW (wa : DE) : DE := fun env S k kx => wa env S (fun x S1 => ∃ n xs ds, x = .p n ∧ S1[n]? = some (.lst xs) ∧ pures xs = some ds ∧ k (.d (.list ds)) (S1.set n .gone)) kx
def callNW (g : List DV → Sto → Option DV) (wA : DA) : DE := fun env S k kx => wA env S (fun xs S1 => ∃ z, g xs S1 = some z ∧ k z S1) kx

section
variable {ga : Str → Addr} {X : Cx} {E : WX} {a b e : Expr} {es : List Expr} {wa wb : DE} {wA : DA} {pos : Pos}
theorem px_tup {x1} (h : PXA ga X E es wA) : PX ga X E (.Tuple es x1 pos) (tupW wA) := by
  refine ⟨fun env S k k' x x' hk hx h' => h.mono env S _ _ _ _ (fun y S1 ⟨ds, e1, e2, h1⟩ => ⟨ds, e1, e2, hk _ _ h1⟩) hx h', ⟨fun pins s σ H Q I h' => (pe_tup h.run).run pins s σ H Q I ?_⟩⟩
  obtain ⟨env, S, B, α, re, w, h'⟩ := h'
  refine ⟨env, S, B, α, re, w, h.mono env S _ _ _ _ (fun xs S1 ⟨ds, e1, e2, h1⟩ vs H1 B1 α1 s1 r1 => ?_) (fun _ _ z => z) h'⟩
  have q := r1.pure e1
  exact ⟨lim_le (by rw [q.len]; exact e2), fun p hp => kv_tup s1.wd hp q (kvT.after s1 h1)⟩
theorem px_lst (h : PXA ga X E es wA) : PX ga X E (.List es pos) (lstW wA) := by
  refine ⟨fun env S k k' x x' hk hx h' => h.mono env S _ _ _ _ (fun y S1 ⟨ds, e1, e2, h1⟩ => ⟨ds, e1, e2, hk _ _ h1⟩) hx h', ⟨fun pins s σ H Q I h' => (pe_lst h.run).run pins s σ H Q I ?_⟩⟩
  obtain ⟨env, S, B, α, re, w, h'⟩ := h'
  refine ⟨env, S, B, α, re, w, h.mono env S _ _ _ _ (fun xs S1 ⟨ds, e1, e2, h1⟩ vs H1 B1 α1 s1 r1 => ?_) (fun _ _ z => z) h'⟩
  have q := r1.pure e1
  exact ⟨lim_le (by rw [q.len]; exact e2), fun p hp => kv_lst s1.wd hp q (kvT.after s1 h1)⟩
theorem px_newL (h : PXA ga X E es wA) : PX ga X E (.List es pos) (newLW wA) := by
  refine ⟨fun env S k k' x x' hk hx h' => h.mono env S _ _ _ _ (fun y S1 ⟨e2, h1⟩ => ⟨e2, hk _ _ h1⟩) hx h', ⟨fun pins s σ H Q I h' => (pe_lst h.run).run pins s σ H Q I ?_⟩⟩
  obtain ⟨env, S, B, α, re, w, h'⟩ := h'
  refine ⟨env, S, B, α, re, w, h.mono env S _ _ _ _ (fun xs S1 ⟨e2, h1⟩ vs H1 B1 α1 s1 r1 => ?_) (fun _ _ z => z) h'⟩
  refine ⟨lim_le (by rw [r1.len]; exact e2), fun p hp => ?_⟩
  have st := s1.wd.newObj (o := .lst xs) (ho := .lst vs) hp ⟨vs, upd_same, r1.mono (Same.refl _) ⟨[p], rfl⟩⟩
  exact h1 _ _ _ _ (s1.trans st) ⟨p, by rw [← s1.wd.len]; simp, rfl⟩
theorem px_fz (h : PX ga X E e wa) : PX ga X E e (fzW wa) := by
  refine ⟨fun env S k k' x x' hk hx h' => h.mono env S _ _ _ _ (fun y S1 ⟨n, xs, ds, e1, e2, e3, h1⟩ => ⟨n, xs, ds, e1, e2, e3, hk _ _ h1⟩) hx h', ⟨fun pins s σ H Q I h' => h.run.run pins s σ H Q I ?_⟩⟩
  obtain ⟨env, S, B, α, re, w, h'⟩ := h'
  refine ⟨env, S, B, α, re, w, h.mono env S _ _ _ _ (fun y S1 ⟨n, xs, ds, e1, e2, e3, h1⟩ v H1 B1 α1 s1 r1 => ?_) (fun _ _ z => z) h'⟩
  subst e1
  obtain ⟨a, ha, rfl⟩ := r1
  obtain ⟨B2, s2, q⟩ := s1.wd.freeze e2 e3 ha
  exact h1 _ _ _ _ (s1.trans s2) q
theorem runN {K : PySem.W.Frag} {r : List V → Hp → VK → Prop} {g : List DV → Sto → Option DV} (hg : OpN K r g) (m : MonoA wA) {σ : St} {H : Hp} {Q : VK} (h : eT K ga E (callNW g wA) σ H Q) : aT K ga E wA σ H fun vs H1 => r vs H1 Q := by
  obtain ⟨env, S, B, α, re, w, h⟩ := h
  refine ⟨env, S, B, α, re, w, m env S _ _ _ _ (fun xs S1 ⟨z, e, h1⟩ vs H1 B1 α1 s1 r1 => ?_) (fun _ _ z => z) h⟩
  exact hg B1 α1 S1 H1 vs xs z s1.wd r1 e Q (kvT.after s1 h1)
theorem monoN {g : List DV → Sto → Option DV} (m : MonoA wA) : MonoE (callNW g wA) := fun env S k k' x x' hk hx h => m env S _ _ _ _ (fun xs S1 ⟨z, e, h1⟩ => ⟨z, e, hk _ _ h1⟩) hx h
theorem px_callB {x : Str} {p : Pos} {id : String} {r : List V → Hp → VK → Prop} {g : List DV → Sto → Option DV} (hc : CallR X (.builtin id) r) (hg : OpN X.K r g) (gl : Gl X x) (hm : X.mg x = none) (hv : bootBuiltins x = some (.builtin id)) (ha : PXA ga X E (e :: es) wA)
    (hn : x ≠ "__name__" := by decide) (hdb : (x == ("__debug__" : Str)) = false := by decide)
    (he : starEach (e :: es) X.env = (false, eval e X.env) :: starEach es X.env := by rfl) (hpl : (backTo pos (starEach es X.env)).any (·.1) = false := by rfl) : PX ga X E (.Call (.Name x p) (e :: es) [] pos) (callNW g wA) :=
  ⟨monoN ha.mono, ⟨fun pins s σ H Q I h => (pe_callB hc gl hm hv ha.run hn hdb he hpl).run pins s σ H Q I (runN hg ha.mono h)⟩⟩
theorem px_callTy {x : Str} {p : Pos} {T : String} {r : List V → Hp → VK → Prop} {g : List DV → Sto → Option DV} (hc : CallR X (.type T) r) (hg : OpN X.K r g) (gl : Gl X x) (hm : X.mg x = none) (hv : bootBuiltins x = some (.type T)) (ha : PXA ga X E (e :: es) wA)
    (hn : x ≠ "__name__" := by decide) (hdb : (x == ("__debug__" : Str)) = false := by decide)
    (he : starEach (e :: es) X.env = (false, eval e X.env) :: starEach es X.env := by rfl) (hpl : (backTo pos (starEach es X.env)).any (·.1) = false := by rfl) : PX ga X E (.Call (.Name x p) (e :: es) [] pos) (callNW g wA) :=
  ⟨monoN ha.mono, ⟨fun pins s σ H Q I h => (pe_callTy hc gl hm hv ha.run hn hdb he hpl).run pins s σ H Q I (runN hg ha.mono h)⟩⟩
end

/-! ### what the built-ins do -/
def lenD : List DV → Sto → Option DV
  | [.d (.str z)], _ => if z.length ≤ 1000000 then some (.d (.int z.length)) else none
  | [x], S => (seqD x S).map fun z => .d (.int z.2.length)
  | _, _ => none
def absD : List DV → Sto → Option DV
  | [.d (.int i)], _ => some (.d (.int (if i < 0 then -i else i)))
  | _, _ => none
def maxD : List DV → Sto → Option DV
  | [.d (.int i), .d (.int j)], _ => some (.d (.int (if j > i then j else i)))
  | _, _ => none
def minD : List DV → Sto → Option DV
  | [.d (.int i), .d (.int j)], _ => some (.d (.int (if j < i then j else i)))
  | _, _ => none
def intD : List DV → Sto → Option DV
  | [.d (.int i)], _ => some (.d (.int i))
  | [.d (.bool b)], _ => some (.d (.int (if b then 1 else 0)))
  | _, _ => none
def boolD : List DV → Sto → Option DV
  | [.d (.int i)], _ => some (.d (.bool (i != 0)))
  | [.d (.bool b)], _ => some (.d (.bool b))
  | _, _ => none
def tupleD : List DV → Sto → Option DV
  | [x], S => (seqD x S).map fun z => .d (.tuple z.2)
  | _, _ => none
def listD : List DV → Sto → Option DV
  | [x], S => (seqD x S).map fun z => .d (.list z.2)
  | _, _ => none
def intsD : List PyData → Option (List Int)
  | [] => some []
  | .int i :: r => (intsD r).map (i :: ·)
  | _ :: _ => none
def boolsD : List PyData → Option (List Bool)
  | [] => some []
  | .bool i :: r => (boolsD r).map (i :: ·)
  | _ :: _ => none
def strsD : List PyData → Option (List Str)
  | [] => some []
  | .str i :: r => (strsD r).map (i :: ·)
  | _ :: _ => none
def sumD : List DV → Sto → Option DV
  | [x], S => (match seqD x S with
    | some (true, ds) => (intsD ds).map fun ns => .d (.int ns.sum)
    | _ => none)
  | _, _ => none
def allD : List DV → Sto → Option DV
  | [x], S => (match seqD x S with
    | some (true, ds) => (boolsD ds).map fun bs => .d (.bool (bs.all id))
    | _ => none)
  | _, _ => none
def minI : List Int → Int
  | [] => 0
  | [x] => x
  | x :: r => min x (minI r)
def minLD : List DV → Sto → Option DV
  | [x], S => (match seqD x S with
    | some (true, ds) => (match intsD ds with
      | some (n :: ns) => some (.d (.int (minI (n :: ns))))
      | _ => none)
    | _ => none)
  | _, _ => none
section
variable {K : PySem.W.Frag}
theorem ints_ok {B : Hp} : ∀ {vs : List V} {ds : List PyData} {ns : List Int}, DqAll K B vs ds → intsD ds = some ns → vs = ns.map V.int
  | _, _, _, .nil, e => by cases e; rfl
  | _, _, _, .cons (d := d) (ds := ds) h r, e => by
    cases d with
    | int i =>
      cases h
      cases q : intsD ds with
      | none => simp [intsD, q] at e
      | some ns' =>
        simp [intsD, q] at e
        subst e
        simp [ints_ok r q]
    | _ => cases e
theorem bools_ok {B : Hp} : ∀ {vs : List V} {ds : List PyData} {ns : List Bool}, DqAll K B vs ds → boolsD ds = some ns → vs = ns.map V.bl
  | _, _, _, .nil, e => by cases e; rfl
  | _, _, _, .cons (d := d) (ds := ds) h r, e => by
    cases d with
    | bool i =>
      cases h
      cases q : boolsD ds with
      | none => simp [boolsD, q] at e
      | some ns' =>
        simp [boolsD, q] at e
        subst e
        simp [bools_ok r q]
    | _ => cases e
theorem strs_ok {B : Hp} : ∀ {vs : List V} {ds : List PyData} {ns : List Str}, DqAll K B vs ds → strsD ds = some ns → vs = ns.map V.str
  | _, _, _, .nil, e => by cases e; rfl
  | _, _, _, .cons (d := d) (ds := ds) h r, e => by
    cases d with
    | str i =>
      cases h
      cases q : strsD ds with
      | none => simp [strsD, q] at e
      | some ns' =>
        simp [strsD, q] at e
        subst e
        simp [strs_ok r q]
    | _ => cases e
theorem vr1 {B : Hp} {α : List Addr} {vs : List V} {x : DV} (r : VRs K B α vs [x]) : ∃ v, vs = [v] ∧ VR K B α v x := by
  cases r with
  | cons h r => cases r; exact ⟨_, rfl, h⟩
theorem vr2 {B : Hp} {α : List Addr} {vs : List V} {x y : DV} (r : VRs K B α vs [x, y]) : ∃ v u, vs = [v, u] ∧ VR K B α v x ∧ VR K B α u y := by
  cases r with
  | cons h r => cases r with
    | cons h2 r => cases r; exact ⟨_, _, rfl, h, h2⟩
theorem n_len : OpN K (fun xs H Q => ∃ x n, xs = [x] ∧ LenV K x H n ∧ Q (.int n) H) lenD := by
  intro B α S H vs xs z w r e Q h
  unfold lenD at e
  split at e
  · split at e
    · cases e
      obtain ⟨v, rfl, rv⟩ := vr1 r
      cases rv
      exact ⟨_, _, rfl, ⟨lim_le (by assumption), rfl⟩, kv_same w (.int _) h⟩
    · cases e
  · rename_i x _
    obtain ⟨v, rfl, rv⟩ := vr1 r
    cases q : seqD x S with
    | none => rw [q] at e; cases e
    | some zz =>
      obtain ⟨k, ds⟩ := zz
      rw [q] at e
      cases e
      obtain ⟨a, ws, rfl, h1, h2⟩ := seq_ok w rv q
      refine ⟨_, ds.length, rfl, ?_, kv_same w (.int _) h⟩
      cases k with
      | true => exact .inl ⟨ws, h1, h2.len.symm⟩
      | false => exact .inr ⟨ws, h1, h2.len.symm⟩
  · cases e
theorem n_abs : OpN K (fun xs H Q => ∃ i, xs = [.int i] ∧ Q (.int (if i < 0 then -i else i)) H) absD := by
  intro B α S H vs xs z w r e Q h
  unfold absD at e
  split at e
  · cases e
    obtain ⟨v, rfl, rv⟩ := vr1 r
    cases rv
    exact ⟨_, rfl, kv_same w (.int _) h⟩
  · cases e
theorem n_max : OpN K (fun xs H Q => ∃ i j, xs = [.int i, .int j] ∧ Q (.int (if j > i then j else i)) H) maxD := by
  intro B α S H vs xs z w r e Q h
  unfold maxD at e
  split at e
  · cases e
    obtain ⟨v, u, rfl, rv, ru⟩ := vr2 r
    cases rv; cases ru
    exact ⟨_, _, rfl, kv_same w (.int _) h⟩
  · cases e
theorem n_min : OpN K (fun xs H Q => ∃ i j, xs = [.int i, .int j] ∧ Q (.int (if j < i then j else i)) H) minD := by
  intro B α S H vs xs z w r e Q h
  unfold minD at e
  split at e
  · cases e
    obtain ⟨v, u, rfl, rv, ru⟩ := vr2 r
    cases rv; cases ru
    exact ⟨_, _, rfl, kv_same w (.int _) h⟩
  · cases e
theorem n_int : OpN K (fun xs H Q => (∃ i, xs = [.int i] ∧ Q (.int i) H) ∨ ∃ k, xs = [.bl k] ∧ Q (.int (if k then 1 else 0)) H) intD := by
  intro B α S H vs xs z w r e Q h
  unfold intD at e
  split at e
  · cases e
    obtain ⟨v, rfl, rv⟩ := vr1 r
    cases rv
    exact .inl ⟨_, rfl, kv_same w (.int _) h⟩
  · cases e
    obtain ⟨v, rfl, rv⟩ := vr1 r
    cases rv
    exact .inr ⟨_, rfl, kv_same w (.int _) h⟩
  · cases e
theorem n_bool : OpN K (fun xs H Q => (∃ i, xs = [.int i] ∧ Q (.bl (i != 0)) H) ∨ ∃ k, xs = [.bl k] ∧ Q (.bl k) H) boolD := by
  intro B α S H vs xs z w r e Q h
  unfold boolD at e
  split at e
  · cases e
    obtain ⟨v, rfl, rv⟩ := vr1 r
    cases rv
    exact .inl ⟨_, rfl, kv_same w (.bl _) h⟩
  · cases e
    obtain ⟨v, rfl, rv⟩ := vr1 r
    cases rv
    exact .inr ⟨_, rfl, kv_same w (.bl _) h⟩
  · cases e
theorem n_tuple : OpN K (fun xs H Q => ∃ p ys, xs = [.ref p] ∧ ((SqL K H p ys ∧ ∀ l, H l = none → Q (.ref l) (upd H l (.tup ys))) ∨ (SqT K H p ys ∧ Q (.ref p) H))) tupleD := by
  intro B α S H vs xs z w r e Q h
  unfold tupleD at e
  split at e
  · rename_i x
    obtain ⟨v, rfl, rv⟩ := vr1 r
    cases q : seqD x S with
    | none => rw [q] at e; cases e
    | some zz =>
      obtain ⟨k, ds⟩ := zz
      rw [q] at e
      cases e
      obtain ⟨a, ws, rfl, h1, h2⟩ := seq_ok w rv q
      refine ⟨a, ws, rfl, ?_⟩
      cases k with
      | true => exact .inl ⟨h1, fun l hl => kv_tup w hl h2 h⟩
      | false =>
        have rt : Dq K B (.ref a) (.tuple ds) := by
          cases x with
          | d y =>
            cases y with
            | tuple ys => cases q; exact rv
            | _ => cases q
          | p n =>
            obtain ⟨_, _, _⟩ := rv
            have q' : (match S[n]? with
              | some (.lst xs) => (pures xs).map fun ys => (true, ys)
              | _ => none) = some (false, ds) := q
            split at q'
            · cases hp : pures _ with
              | none => rw [hp] at q'; cases q'
              | some _ => rw [hp] at q'; cases q'
            · cases q'
          | s ns => cases q
          | m ns => cases q
          | ce ns => cases q
          | cs ns => cases q
          | ev ns => cases q
          | es ns => cases q
          | cl ns => cases q
        exact .inr ⟨h1, kv_same w rt h⟩
  · cases e
theorem n_list : OpN K (fun xs H Q => ∃ p ys, xs = [.ref p] ∧ (SqL K H p ys ∨ SqT K H p ys) ∧ ∀ l, H l = none → Q (.ref l) (upd H l (.lst ys))) listD := by
  intro B α S H vs xs z w r e Q h
  unfold listD at e
  split at e
  · rename_i x
    obtain ⟨v, rfl, rv⟩ := vr1 r
    cases q : seqD x S with
    | none => rw [q] at e; cases e
    | some zz =>
      obtain ⟨k, ds⟩ := zz
      rw [q] at e
      cases e
      obtain ⟨a, ws, rfl, h1, h2⟩ := seq_ok w rv q
      refine ⟨a, ws, rfl, ?_, fun l hl => kv_lst w hl h2 h⟩
      cases k with
      | true => exact .inl h1
      | false => exact .inr h1
  · cases e
theorem n_sum : OpN K (rSum K) sumD := by
  intro B α S H vs xs z w r e Q h
  unfold sumD at e
  split at e
  · rename_i x
    obtain ⟨v, rfl, rv⟩ := vr1 r
    split at e
    · rename_i ds q
      obtain ⟨a, ws, rfl, h1, h2⟩ := seq_ok w rv q
      cases q2 : intsD ds with
      | none => rw [q2] at e; cases e
      | some ns =>
        rw [q2] at e
        cases e
        have h3 := ints_ok h2 q2
        subst h3
        exact ⟨a, ns, rfl, h1, kv_same w (.int _) h⟩
    · cases e
  · cases e
theorem n_all : OpN K (rAll K) allD := by
  intro B α S H vs xs z w r e Q h
  unfold allD at e
  split at e
  · rename_i x
    obtain ⟨v, rfl, rv⟩ := vr1 r
    split at e
    · rename_i ds q
      obtain ⟨a, ws, rfl, h1, h2⟩ := seq_ok w rv q
      cases q2 : boolsD ds with
      | none => rw [q2] at e; cases e
      | some ns =>
        rw [q2] at e
        cases e
        have h3 := bools_ok h2 q2
        subst h3
        exact ⟨a, ns, rfl, h1, kv_same w (.bl _) h⟩
    · cases e
  · cases e
theorem minI_mem : ∀ (n : Int) (ns : List Int), minI (n :: ns) ∈ n :: ns ∧ ∀ y ∈ n :: ns, minI (n :: ns) ≤ y
  | n, [] => by simp [minI]
  | n, m :: ns => by
    obtain ⟨h1, h2⟩ := minI_mem m ns
    have e : minI (n :: m :: ns) = min n (minI (m :: ns)) := rfl
    rw [e]
    refine ⟨?_, fun y hy => ?_⟩
    · rcases Int.le_total n (minI (m :: ns)) with z | z
      · rw [Int.min_eq_left z]; exact List.mem_cons_self
      · rw [Int.min_eq_right z]; exact List.mem_cons_of_mem _ h1
    · rcases List.mem_cons.mp hy with rfl | hy
      · exact Int.min_le_left _ _
      · exact Int.le_trans (Int.min_le_right _ _) (h2 y hy)
theorem n_minL : OpN K (rMin K) minLD := by
  intro B α S H vs xs z w r e Q h
  unfold minLD at e
  split at e
  · rename_i x
    obtain ⟨v, rfl, rv⟩ := vr1 r
    split at e
    · rename_i ds q
      obtain ⟨a, ws, rfl, h1, h2⟩ := seq_ok w rv q
      split at e
      · rename_i n ns q2
        cases e
        have h3 := ints_ok h2 q2
        subst h3
        refine ⟨a, n :: ns, rfl, h1, by simp, fun m hm hle => ?_⟩
        obtain ⟨g1, g2⟩ := minI_mem n ns
        have : m = minI (n :: ns) := Int.le_antisymm (hle _ g1) (g2 m hm)
        rw [this]
        exact kv_same w (.int _) h
      · cases e
    · cases e
  · cases e
end
end DW

set_option Elab.async false
set_option linter.all false
set_option maxRecDepth 100000
set_option maxHeartbeats 4000000
set_option autoImplicit false
/-! DW5: slices, isinstance, texts, ranges as lists. -/
namespace DW
open PySem L2

/-! ### slices -/
abbrev DO := DEnv → Sto → (Option Int → Sto → Prop) → DX → Prop
def MonoO (w : DO) : Prop := ∀ env S (k k' : Option Int → Sto → Prop) (x x' : DX), (∀ r S, k r S → k' r S) → (∀ r S, x r S → x' r S) → w env S k x → w env S k' x'
def oT (K : PySem.W.Frag) (ga : Str → Addr) (E : WX) (w : DO) : TO := fun σ H Q => ∃ env S B α, RelE K B α env σ ∧ Wd K B α S H ∧ w env S (fun b S' => ∀ H' B' α', Stp K B α H B' α' S' H' → Q b H') (kxT K ga B α H (WE E σ))
structure PXO (ga : Str → Addr) (X : Cx) (E : WX) (e : Option Expr) (w : DO) : Prop where
  mono : MonoO w
  run : PO X e (oT X.K ga E w)
def noPartW : DO := fun _ S k _ => k none S
def partW (w : DE) : DO := fun env S k kx => w env S (fun x S1 => ∃ i, x = .d (.int i) ∧ k (some i) S1) kx
def cutP {α : Type} (xs : List α) (lo hi : Option Int) : List α := (xs.drop (HT.sIx xs.length 0 lo)).take (HT.sIx xs.length xs.length hi - HT.sIx xs.length 0 lo)
def cutD : DV → Option Int → Option Int → Option DV
  | .d (.str z), lo, hi => if z.length ≤ 1000000 then some (.d (.str (cutS z lo hi))) else none
  | .d (.tuple xs), lo, hi => some (.d (.tuple (cutP xs lo hi)))
  | .d (.list xs), lo, hi => some (.d (.list (cutP xs lo hi)))
  | _, _, _ => none
def sliceW (we : DE) (wl wh : DO) : DE := fun env S k kx => we env S (fun x S1 => wl env S1 (fun l S2 => wh env S2 (fun u S3 => ∃ z, cutD x l u = some z ∧ k z S3) kx) kx) kx
section
variable {K : PySem.W.Frag} {B : Hp} {α : List Addr} {S : Sto} {H : Hp}
theorem cut_all {vs : List V} {ds : List PyData} (r : DqAll K B vs ds) (lo hi : Option Int) : DqAll K B (cutV vs lo hi) (cutP ds lo hi) := by
  unfold cutV cutP
  rw [r.len]
  exact (r.drop _).take _
theorem cutP_whole {α : Type} (xs : List α) (lo hi : Option Int) (h : HT.sIx xs.length 0 lo = 0 ∧ HT.sIx xs.length xs.length hi = xs.length) : cutP xs lo hi = xs := by
  unfold cutP
  rw [h.1, h.2]
  simp
end
section
variable {ga : Str → Addr} {X : Cx} {E : WX} {a b e o : Expr} {es : List Expr} {wa wb we wo : DE} {wA : DA} {pos apos p2 p p' : Pos} {wl wh : DO}
theorem pxo_none : PXO ga X E none noPartW := by
  refine ⟨fun env S k k' x x' hk hx h => hk _ _ h, ⟨fun pins s σ H Q I h => po_none.run pins s σ H Q I ?_⟩⟩
  obtain ⟨env, S, B, α, re, w, h⟩ := h
  exact h H B α (Stp.refl w)
theorem pxo_some (h : PX ga X E e we) : PXO ga X E (some e) (partW we) := by
  refine ⟨fun env S k k' x x' hk hx h' => h.mono env S _ _ _ _ (fun y S1 ⟨i, e, h1⟩ => ⟨i, e, hk _ _ h1⟩) hx h', ⟨fun pins s σ H Q I h' => (po_some h.run).run pins s σ H Q I ?_⟩⟩
  obtain ⟨env, S, B, α, re, w, h'⟩ := h'
  refine ⟨env, S, B, α, re, w, h.mono env S _ _ _ _ (fun y S1 ⟨i, e, h1⟩ v H1 B1 α1 s1 r1 => ?_) (fun _ _ z => z) h'⟩
  subst e
  cases r1
  exact ⟨i, rfl, h1 H1 B1 α1 s1⟩
theorem px_slice {lo hi : Option Expr} (he : PX ga X E e we) (hl : PXO ga X E lo wl) (hh : PXO ga X E hi wh) : PX ga X E (.Subscript e (.Slice lo hi none p2) pos) (sliceW we wl wh) := by
  refine ⟨fun env S k k' x x' hk hx h => he.mono env S _ _ _ _ (fun y S1 h1 => hl.mono env S1 _ _ _ _ (fun l S2 h2 => hh.mono env S2 _ _ _ _ (fun u S3 ⟨z, e, h3⟩ => ⟨z, e, hk _ _ h3⟩) hx h2) hx h1) hx h,
    ⟨fun pins s σ H Q I h => (pe_slice (sl_tupA.or (sl_list.or sl_str)) he.run hl.run hh.run).run pins s σ H Q I ?_⟩⟩
  obtain ⟨env, S, B, α, re, w, h⟩ := h
  refine ⟨env, S, B, α, re, w, he.mono env S _ _ _ _ (fun y S1 h1 v1 H1 B1 α1 s1 r1 => ?_) (fun _ _ z => z) h⟩
  refine ⟨env, S1, B1, α1, re.mono s1.bb s1.pre, s1.wd, hl.mono env S1 _ _ _ _ (fun l S2 h2 H2 B2 α2 s2 => ?_) (fun _ _ z => kxT.after s1 z) h1⟩
  have s12 := s1.trans s2
  refine ⟨env, S2, B2, α2, re.mono s12.bb s12.pre, s2.wd, hh.mono env S2 _ _ _ _ (fun u S3 ⟨z, e, h3⟩ H3 B3 α3 s3 => ?_) (fun _ _ z => kxT.after s12 z) h2⟩
  have s13 := s12.trans s3
  have rv := r1.mono (s2.bb.trans s3.bb) (s2.trans s3).pre
  have k3 := kvT.after s13 h3
  unfold cutD at e
  split at e
  · split at e
    · cases e
      cases rv
      exact .inr (.inr ⟨_, rfl, lim_le (by assumption), kv_same s3.wd (.str _) k3⟩)
    · cases e
  · cases e
    cases rv with
    | tup ht q =>
      refine .inl ⟨_, _, rfl, same_t s3.wd.ex ht, fun hw => ?_, fun _ p hp => kv_tup s3.wd hp (cut_all q l u) k3⟩
      rw [q.len] at hw
      rw [cutP_whole _ _ _ hw] at k3
      exact kv_same s3.wd (.tup ht q) k3
  · cases e
    cases rv with
    | lst ht q => exact .inr (.inl ⟨_, _, rfl, SqL.of (s3.wd.ex _ _ ht), fun p hp => kv_lst s3.wd hp (cut_all q l u) k3⟩)
  · cases e
end

/-! ### isinstance with a built-in class -/
inductive Ty where
  | non | bool | int | str | list | tuple
  deriving DecidableEq
def Ty.nm : Ty → String
  | .non => "NoneType" | .bool => "bool" | .int => "int" | .str => "str" | .list => "list" | .tuple => "tuple"
def Ty.sub : Ty → Ty → Bool
  | .bool, .int => true
  | a, b => a == b
def tyN : DV → Sto → Option Ty
  | .d .none, _ => some .non
  | .d (.bool _), _ => some .bool
  | .d (.int _), _ => some .int
  | .d (.str _), _ => some .str
  | .d (.list _), _ => some .list
  | .d (.tuple _), _ => some .tuple
  | _, _ => none
def isiD (T : Ty) : DV → Sto → Option DV := fun x S => (tyN x S).map fun t => .d (.bool (t.sub T))
theorem kit_all (a T : Ty) : kitB a.nm T.nm = some (a.sub T) := by
  cases a <;> cases T <;> decide +kernel
section
variable {K : PySem.W.Frag} {B : Hp} {α : List Addr} {S : Sto} {H : Hp} {v : V} {x : DV}
theorem ty_ok {T : Ty} (w : Wd K B α S H) (r : VR K B α v x) (e : tyN x S = some T) : TyX K H v (.type T.nm) := by
  unfold tyN at e
  split at e <;> cases e
  · cases r; exact .base .non
  · cases r; exact .base (.bl _)
  · cases r; exact .base (.int _)
  · cases r; exact .base (.str _)
  · cases r with
    | lst h q => exact .base (.lst (w.ex _ _ h))
  · cases r with
    | tup h q =>
      rcases h with h | h
      · rcases h with h | ⟨o, h⟩
        · exact .base (.tup (w.ex _ _ h))
        · exact .fTuple (w.ex _ _ h)
      · obtain ⟨o, its, n, h1, h2, _⟩ := h
        exact .kTuple h1 h2
end
section
variable {ga : Str → Addr} {X : Cx} {E : WX} {a b e o : Expr} {es : List Expr} {wa wb we wo : DE} {wA : DA} {pos apos p2 p p' : Pos}
theorem px_isi {T : Ty} {y : Str} (gl : Gl X "isinstance") (hm : X.mg "isinstance" = none) (gt : Gl X y) (hmt : X.mg y = none) (hv : bootBuiltins y = some (.type T.nm)) (he : PX ga X E e we)
    (hi : bootBuiltins "isinstance" = some (.builtin "isinstance") := by decide +kernel) (hn : y ≠ "__name__" := by decide) (hdb : (y == ("__debug__" : Str)) = false := by decide)
    (h1 : starEach [e, .Name y p2] X.env = (false, eval e X.env) :: starEach [.Name y p2] X.env := by rfl) (h2 : starEach [.Name y p2] X.env = (false, eval (.Name y p2) X.env) :: starEach [] X.env := by rfl)
    (h3 : (backTo pos (starEach [.Name y p2] X.env)).any (·.1) = false := by rfl) :
    PX ga X E (.Call (.Name "isinstance" p) [e, .Name y p2] [] pos) (op1W (isiD T) we) := by
  refine ⟨fun env S k k' x x' hk hx h => he.mono env S _ _ _ _ (fun y S1 ⟨z, e, h1⟩ => ⟨z, e, hk _ _ h1⟩) hx h, ⟨fun pins s σ H Q I h => ?_⟩⟩
  have P := pe_callB (X := X) (p := p) (pos := pos) call_isi gl hm hi (pa_cons he.run (pa_cons (pe_bltn (v := .ty T.nm) (pos := p2) gt hmt hv rfl hn hdb) pa_nil h2) h1) (by decide) (by decide) h1 h3
  refine P.run pins s σ H Q I ?_
  obtain ⟨env, S, B, α, re, w, h⟩ := h
  refine ⟨env, S, B, α, re, w, he.mono env S _ _ _ _ (fun y S1 ⟨z, e, h1⟩ v1 H1 B1 α1 s1 r1 => ?_) (fun _ _ z => z) h⟩
  unfold isiD at e
  cases q : tyN y S1 with
  | none => rw [q] at e; cases e
  | some t =>
    rw [q] at e
    cases e
    exact ⟨v1, .ty T.nm, _, _, t.sub T, rfl, .ty _, ty_ok s1.wd r1 q, kit_ty (kit_all t T), kv_same s1.wd (.bl _) (kvT.after s1 h1)⟩

/-! ### texts -/
def splitW (wo we : DE) : DE := fun env S k kx => wo env S (fun x S1 => ∃ a, x = .d (.str a) ∧ we env S1 (fun y S2 => ∃ b, y = .d (.str b) ∧ (b.length == 0) = false ∧ a.length ≤ 1000000 ∧ k (.d (.list ((Txt.split a b).map .str))) S2) kx) kx
def joinW (wo we : DE) : DE := fun env S k kx => wo env S (fun x S1 => ∃ a, x = .d (.str a) ∧ we env S1 (fun y S2 => ∃ c ds ys, seqD y S2 = some (c, ds) ∧ strsD ds = some ys ∧ (ys.map (·.length)).sum + ys.length * a.length ≤ 16777216 ∧ k (.d (.str (Txt.join a ys))) S2) kx) kx
theorem dq_strs {K : PySem.W.Frag} {B : Hp} : ∀ ns : List Str, DqAll K B (ns.map V.str) (ns.map PyData.str)
  | [] => .nil
  | n :: ns => .cons (.str n) (dq_strs ns)
theorem px_split (ho : PX ga X E o wo) (he : PX ga X E e we) (hs : starEach [e] X.env = [(false, eval e X.env)] := by rfl) (hbase : attributeBase o "split" X.env (eval o X.env) = eval o X.env := by rfl) (hline : (apos.endLine == pos.line) = true := by rfl) :
    PX ga X E (.Call (.Attribute o "split" apos) [e] [] pos) (splitW wo we) := by
  refine ⟨fun env S k k' x x' hk hx h => ho.mono env S _ _ _ _ (fun y S1 ⟨a, e, h1⟩ => ⟨a, e, he.mono env S1 _ _ _ _ (fun z S2 ⟨b, e2, c1, c2, h2⟩ => ⟨b, e2, c1, c2, hk _ _ h2⟩) hx h1⟩) hx h,
    ⟨fun pins s σ H Q I h => (pe_split ho.run he.run hs hbase hline).run pins s σ H Q I ?_⟩⟩
  obtain ⟨env, S, B, α, re, w, h⟩ := h
  refine ⟨env, S, B, α, re, w, ho.mono env S _ _ _ _ (fun x S1 ⟨a, e, h1⟩ v1 H1 B1 α1 s1 r1 => ?_) (fun _ _ z => z) h⟩
  subst e
  cases r1
  refine ⟨⟨a, rfl⟩, env, S1, B1, α1, re.mono s1.bb s1.pre, s1.wd, he.mono env S1 _ _ _ _ (fun y S2 ⟨b, e, c1, c2, h2⟩ v2 H2 B2 α2 s2 r2 => ?_) (fun _ _ z => kxT.after s1 z) h1⟩
  subst e
  cases r2
  exact ⟨a, b, rfl, rfl, c1, Nat.le_trans (Nat.add_le_add_right c2 2) (by decide), fun p hp => kv_lst s2.wd hp (dq_strs _) (kvT.after (s1.trans s2) h2)⟩
theorem px_join (ho : PX ga X E o wo) (he : PX ga X E e we) (hs : starEach [e] X.env = [(false, eval e X.env)] := by rfl) (hbase : attributeBase o "join" X.env (eval o X.env) = eval o X.env := by rfl) (hline : (apos.endLine == pos.line) = true := by rfl) :
    PX ga X E (.Call (.Attribute o "join" apos) [e] [] pos) (joinW wo we) := by
  refine ⟨fun env S k k' x x' hk hx h => ho.mono env S _ _ _ _ (fun y S1 ⟨a, e, h1⟩ => ⟨a, e, he.mono env S1 _ _ _ _ (fun z S2 ⟨b, ds, ys, e1, e2, c2, h2⟩ => ⟨b, ds, ys, e1, e2, c2, hk _ _ h2⟩) hx h1⟩) hx h,
    ⟨fun pins s σ H Q I h => (pe_join ho.run he.run hs hbase hline).run pins s σ H Q I ?_⟩⟩
  obtain ⟨env, S, B, α, re, w, h⟩ := h
  refine ⟨env, S, B, α, re, w, ho.mono env S _ _ _ _ (fun x S1 ⟨a, e, h1⟩ v1 H1 B1 α1 s1 r1 => ?_) (fun _ _ z => z) h⟩
  subst e
  cases r1
  refine ⟨⟨a, rfl⟩, env, S1, B1, α1, re.mono s1.bb s1.pre, s1.wd, he.mono env S1 _ _ _ _ (fun y S2 ⟨c, ds, ys, e1, e2, c2, h2⟩ v2 H2 B2 α2 s2 r2 => ?_) (fun _ _ z => kxT.after s1 z) h1⟩
  obtain ⟨p, vs, rfl, h3, h4⟩ := seq_ok s2.wd r2 e1
  have h5 := strs_ok h4 e2
  subst h5
  refine ⟨a, p, ys, rfl, rfl, ?_, c2, kv_same s2.wd (.str _) (kvT.after (s1.trans s2) h2)⟩
  cases c with
  | true => exact .inl h3
  | false => exact .inr h3

/-! ### list(range(..)) -/
def rgD (a b : Int) : List PyData := (List.range (b - a).toNat).map fun i => .int (a + (i : Nat))
def lrgW (wa : DE) : DE := fun env S k kx => wa env S (fun x S1 => ∃ n, x = .d (.int n) ∧ 0 ≤ n ∧ n ≤ 100000 ∧ k (.d (.list (rgD 0 n))) S1) kx
theorem dq_rg {K : PySem.W.Frag} {B : Hp} (a b : Int) : DqAll K B (rgV a b) (rgD a b) := by
  have go : ∀ l : List Nat, DqAll K B (l.map fun i => V.int (a + (i : Nat))) (l.map fun i => PyData.int (a + (i : Nat))) := fun l => by
    induction l with
    | nil => exact .nil
    | cons i l ih => exact .cons (.int _) ih
  exact go _
theorem px_lrg (hc : X.calm = true) (gl : Gl X "list") (hm : X.mg "list" = none) (gr : Gl X "range") (hr : X.mg "range" = none) (ha : PX ga X E a wa)
    (na : starEach [a] X.env = (false, eval a X.env) :: starEach [] X.env := by rfl) (nb : starEach [.Call (.Name "range" p2) [a] [] apos] X.env = (false, eval (.Call (.Name "range" p2) [a] [] apos) X.env) :: starEach [] X.env := by rfl) :
    PX ga X E (.Call (.Name "list" p) [.Call (.Name "range" p2) [a] [] apos] [] pos) (lrgW wa) := by
  refine ⟨fun env S k k' x x' hk hx h => ha.mono env S _ _ _ _ (fun y S1 ⟨n, e, h0, h1, h2⟩ => ⟨n, e, h0, h1, hk _ _ h2⟩) hx h, ⟨fun pins s σ H Q I h => (pe_listRg hc gl hm (prg_1 gr hr ha.run na) nb).run pins s σ H Q I ?_⟩⟩
  obtain ⟨env, S, B, α, re, w, h⟩ := h
  refine ⟨env, S, B, α, re, w, ha.mono env S _ _ _ _ (fun y S1 ⟨n, e, h0, h1, h2⟩ v1 H1 B1 α1 s1 r1 => ?_) (fun _ _ z => z) h⟩
  subst e
  cases r1
  exact ⟨n, rfl, RgOk.of_le (by decide) (by omega) (by decide) h0, fun q hq => kv_lst s1.wd hq (dq_rg 0 n) (kvT.after s1 h2)⟩
end
end DW

set_option Elab.async false
set_option linter.all false
set_option maxRecDepth 100000
set_option maxHeartbeats 4000000
set_option autoImplicit false
/-! DW6: statements. -/
namespace DW
open PySem L2

def nextS : DS := fun env S D => D.nx env S
def seqS (a b : DS) : DS := fun env S D => a env S { D with nx := fun env' S' => b env' S' D }
def asgS (i : Nat) (w : DE) : DS := fun env S D => w env S (fun x S1 => D.nx (env.set i (some x)) S1) (D.ex env)
def retS (w : DE) : DS := fun env S D => w env S D.rt (D.ex env)
def retN : DS := fun _ S D => D.rt (.d .none) S
def ifS (t : DT) (a b : DS) : DS := fun env S D => t env S (fun c S1 => if c = true then a env S1 D else b env S1 D) (D.ex env)
def dropS (w : DE) : DS := fun env S D => w env S (fun _ S1 => D.nx env S1) (D.ex env)
/-- a, b, .. = w: targets -/
abbrev DG := DV → DEnv → Sto → (DEnv → Sto → Prop) → Prop
abbrev DGs := List DV → DEnv → Sto → (DEnv → Sto → Prop) → Prop
def nameG (i : Nat) : DG := fun x env S k => k (env.set i (some x)) S
def tgtS (w : DE) (g : DG) : DS := fun env S D => w env S (fun x S1 => g x env S1 D.nx) (D.ex env)
/-- a, b, .. = e, f, .. -/
def tgtNS (n : Nat) (wA : DA) (gs : DGs) : DS := fun env S D => wA env S (fun xs S1 => xs.length = n ∧ n ≤ 1000 ∧ gs xs env S1 D.nx) (D.ex env)
def MonoG (g : DG) : Prop := ∀ x env S (k k' : DEnv → Sto → Prop), (∀ e S, k e S → k' e S) → g x env S k → g x env S k'
def MonoGs (g : DGs) : Prop := ∀ x env S (k k' : DEnv → Sto → Prop), (∀ e S, k e S → k' e S) → g x env S k → g x env S k'
def nilGs : DGs := fun xs env S k => xs = [] ∧ k env S
def consGs (g : DG) (r : DGs) : DGs := fun xs env S k => ∃ x ys, xs = x :: ys ∧ g x env S fun env' S' => r ys env' S' k
def tupG (n : Nat) (g : DGs) : DG := fun x env S k => ∃ xs, x = .d (.tuple xs) ∧ xs.length = n ∧ g (xs.map .d) env S k
def par2S (i j : Nat) (wA : DA) : DS := fun env S D => wA env S (fun xs S1 => ∃ x y, xs = [x, y] ∧ D.nx ((env.set i (some x)).set j (some y)) S1) (D.ex env)
def par3S (i j l : Nat) (wA : DA) : DS := fun env S D => wA env S (fun xs S1 => ∃ x y z, xs = [x, y, z] ∧ D.nx (((env.set i (some x)).set j (some y)).set l (some z)) S1) (D.ex env)
/-- o[i] = v, o a list of the store -/
def setLS (wv wo wi : DE) : DS := fun env S D => wv env S (fun v S1 => wo env S1 (fun o S2 => wi env S2 (fun i S3 => ∃ n xs k j, o = .p n ∧ i = .d (.int k) ∧ S3[n]? = some (.lst xs) ∧ ixN xs.length k = some j ∧ D.nx env (S3.set n (.lst (xs.set j v)))) (D.ex env)) (D.ex env)) (D.ex env)
/-- o.append(v) -/
def appS (wo wv : DE) : DS := fun env S D => wo env S (fun o S1 => ∃ n ys, o = .p n ∧ S1[n]? = some (.lst ys) ∧ wv env S1 (fun v S2 => ∃ xs, S2[n]? = some (.lst xs) ∧ xs.length ≤ 1000000 ∧ D.nx env (S2.set n (.lst (xs ++ [v])))) (D.ex env)) (D.ex env)
/-- x = o.pop() -/
def popW (wo : DE) : DE := fun env S k kx => wo env S (fun o S1 => ∃ n xs y, o = .p n ∧ S1[n]? = some (.lst xs) ∧ xs[xs.length - 1]? = some y ∧ k y (S1.set n (.lst xs.dropLast))) kx

section
variable {K : PySem.W.Frag} {B B' : Hp} {α α' : List Addr} {S S' : Sto} {H H' : Hp} {v : V} {x : DV} {Q : VK}
/-- an object of the store is changed -/
theorem Wd.change {n : Nat} {a : Addr} {o o' : SO} {ho : HO} (w : Wd K B α S H) (hs : S[n]? = some o) (hg : o ≠ .gone) (ha : α[n]? = some a) (ok : SOk K B α (upd H a ho) a o') : Stp K B α H B α (S.set n o') (upd H a ho) := by
  obtain ⟨a', e1, e2, e3⟩ := w.obj n _ hs hg
  rw [ha] at e1; cases e1
  refine ⟨⟨fun c u e => ?_, by simp [w.len], fun m q h1 h2 => ?_, w.nd, fun c hc => ?_⟩, Same.refl _, ⟨[], by simp⟩, fun c u e => .inl e, fun _ h => .inl h, fun c u e hc => ?_⟩
  · have hc : c ≠ a := fun z => by subst z; rw [e2] at e; cases e
    rw [upd_ne hc]; exact w.ex c u e
  · by_cases hmn : n = m
    · subst hmn
      rw [List.getElem?_set_self (List.getElem?_eq_some_iff.mp hs).1] at h1
      cases h1
      exact ⟨a, ha, e2, ok⟩
    · rw [List.getElem?_set_ne hmn] at h1
      obtain ⟨c, f1, f2, f3⟩ := w.obj m q h1 h2
      have hca : c ≠ a := fun z => by
        subst z
        exact hmn (nd_at w.nd ha f1)
      exact ⟨c, f1, f2, f3.mono (Same.refl _) ⟨[], by simp⟩ fun u z => by rw [upd_ne hca]; exact z⟩
  · by_cases hca : c = a
    · subst hca; exact ⟨_, upd_same⟩
    · exact (w.trk c hc).imp fun u e => by rw [upd_ne hca]; exact e
  · rw [upd_ne (fun z => hc (by subst z; exact List.mem_of_getElem? ha))]; exact e
theorem VRs.get {vs : List V} {xs : List DV} {i : Nat} {x : DV} : VRs K B α vs xs → xs[i]? = some x → ∃ v, vs[i]? = some v ∧ VR K B α v x := by
  intro r e
  induction r generalizing i with
  | nil => simp at e
  | cons h r ih =>
    cases i with
    | zero => simp at e; subst e; exact ⟨_, rfl, h⟩
    | succ i => obtain ⟨v, h1, h2⟩ := ih (i := i) (by simpa using e); exact ⟨v, by simpa using h1, h2⟩
theorem VRs.set {vs : List V} {xs : List DV} {v : V} {x : DV} (r : VRs K B α vs xs) (q : VR K B α v x) : ∀ i : Nat, VRs K B α (vs.set i v) (xs.set i x) := by
  induction r with
  | nil => intro i; exact .nil
  | cons h r ih =>
    intro i
    cases i with
    | zero => exact .cons q r
    | succ i => exact .cons h (ih i)
theorem VRs.snoc {vs : List V} {xs : List DV} {v : V} {x : DV} (r : VRs K B α vs xs) (q : VR K B α v x) : VRs K B α (vs ++ [v]) (xs ++ [x]) := by
  induction r with
  | nil => exact .cons q .nil
  | cons h r ih => exact .cons h ih
theorem VRs.dropLast {vs : List V} {xs : List DV} (r : VRs K B α vs xs) : VRs K B α vs.dropLast xs.dropLast := by
  induction r with
  | nil => exact .nil
  | cons h r ih =>
    cases r with
    | nil => exact .nil
    | cons h2 r2 => exact .cons h ih
end

section
variable {ga : Str → Addr} {X : Cx} {E : WX} {a b c e o ie : Expr} {es : List Expr} {wa wb we wo wi wv : DE} {wA : DA} {pos apos p2 p p' : Pos} {st : Stmt} {rest sts sts' : List Stmt} {ws wt : DS} {wc : DT} {g : DG} {gs : DGs}
theorem DEnds.refl (D : DEnds) : DEnds.le D D := ⟨fun _ _ h => h, fun _ _ h => h, fun _ _ h => h, fun _ _ h => h, fun _ _ _ h => h⟩
theorem DEnds.le.withNx {D D' : DEnds} (h : DEnds.le D D') {n n' : DEnv → Sto → Prop} (hn : ∀ e S, n e S → n' e S) : DEnds.le { D with nx := n } { D' with nx := n' } := ⟨hn, h.rt, h.bk, h.ct, h.ex⟩
theorem pxb_nil : PXB ga X E [] nextS := by
  refine ⟨fun env S D D' h q => h.nx _ _ q, ⟨fun pins s σ H D I h => pss_nil.run pins s σ H D I ?_⟩⟩
  obtain ⟨env, S, B, α, re, w, h⟩ := h
  exact h σ H B α (Stp.refl w) re
theorem monoSeq (m1 : MonoS ws) (m2 : MonoS wt) : MonoS (seqS ws wt) := fun env S D D' h q => m1 env S _ _ (h.withNx fun e S1 h1 => m2 e S1 _ _ h h1) q
theorem pxb_cons (h1 : PXS ga X E st ws) (h2 : PXB ga X E rest wt) : PXB ga X E (st :: rest) (seqS ws wt) := by
  refine ⟨monoSeq h1.mono h2.mono, ⟨fun pins s σ H D I h => (pss_cons h1.run h2.run).run pins s σ H D I ?_⟩⟩
  obtain ⟨env, S, B, α, re, w, h⟩ := h
  refine ⟨env, S, B, α, re, w, h1.mono env S { dT X.K ga B α H E D with nx := fun e' S' => wt e' S' (dT X.K ga B α H E D) } _ ⟨fun env1 S1 q σ1 H1 B1 α1 s1 r1 => ?_, fun _ _ z => z, fun _ _ z => z, fun _ _ z => z, fun _ _ _ z => z⟩ h⟩
  exact ⟨env1, S1, B1, α1, r1, s1.wd, h2.mono env1 S1 _ _ (dT.after s1) q⟩
theorem pxb_one (h1 : PXS ga X E st ws) : PXB ga X E [st] ws := ⟨h1.mono, pss_one h1.run⟩
theorem pxs_pass : PXS ga X E (.Pass pos) nextS := by
  refine ⟨fun env S D D' h q => h.nx _ _ q, ⟨fun pins s σ H D I h => ps_pass.run pins s σ H D I ?_⟩⟩
  obtain ⟨env, S, B, α, re, w, h⟩ := h
  exact h σ H B α (Stp.refl w) re
theorem pxs_set {i : Nat} {x : Str} (hN : X.N.Nodup) (hi : X.N[i]? = some x) (hx : Loc X.env.scope x) (he : PX ga X E e we) (hs : swapsWith e (some (.Name x p')) pos.line X.env = pure false := by rfl)
    (hf : X.fn x = true ∨ X.env.scope.names.lookup x = some .local := by first | exact .inl rfl | exact .inr rfl | assumption) : PXS ga X E (.Assign [.Name x p'] e pos) (asgS i we) := by
  refine ⟨fun env S D D' h q => he.mono env S _ _ _ _ (fun _ _ z => h.nx _ _ z) (h.ex env) q, ⟨fun pins s σ H D I h => (ps_set hN hi hx he.run hs hf).run pins s σ H D I ?_⟩⟩
  obtain ⟨env, S, B, α, re, w, h⟩ := h
  refine ⟨env, S, B, α, re, w, he.mono env S _ _ _ _ (fun y S1 q v H1 B1 α1 s1 r1 => ?_) (fun _ _ z => kxS.at_ re z) h⟩
  exact q _ _ _ _ s1 ((re.mono s1.bb s1.pre).set i r1)
theorem pxs_ret (he : PX ga X E e we) : PXS ga X E (.Return (some e) pos) (retS we) := by
  refine ⟨fun env S D D' h q => he.mono env S _ _ _ _ h.rt (h.ex env) q, ⟨fun pins s σ H D I h => (ps_ret he.run).run pins s σ H D I ?_⟩⟩
  obtain ⟨env, S, B, α, re, w, h⟩ := h
  exact ⟨env, S, B, α, re, w, he.mono env S _ _ _ _ (fun _ _ z => z) (fun _ _ z => kxS.at_ re z) h⟩
theorem pxs_retN : PXS ga X E (.Return none pos) retN := by
  refine ⟨fun env S D D' h q => h.rt _ _ q, ⟨fun pins s σ H D I h => ps_retN.run pins s σ H D I ?_⟩⟩
  obtain ⟨env, S, B, α, re, w, h⟩ := h
  exact h _ H B α (Stp.refl w) .non
theorem pxs_if (hc : PXT ga X E c wc) (ha : PXB ga X E sts ws) (hb : PXB ga X E sts' wt) : PXS ga X E (.If c sts sts' pos) (ifS wc ws wt) := by
  refine ⟨fun env S D D' h q => hc.mono env S _ _ _ _ (fun b S1 z => by
    cases b with
    | true => exact ha.mono env S1 _ _ h z
    | false => exact hb.mono env S1 _ _ h z) (h.ex env) q, ⟨fun pins s σ H D I h => (ps_if hc.run ha.run hb.run).run pins s σ H D I ?_⟩⟩
  obtain ⟨env, S, B, α, re, w, h⟩ := h
  refine ⟨env, S, B, α, re, w, hc.mono env S _ _ _ _ (fun b S1 z H1 B1 α1 s1 => ?_) (fun _ _ z => kxS.at_ re z) h⟩
  cases b with
  | true => exact ⟨env, S1, B1, α1, re.mono s1.bb s1.pre, s1.wd, ha.mono env S1 _ _ (dT.after s1) z⟩
  | false => exact ⟨env, S1, B1, α1, re.mono s1.bb s1.pre, s1.wd, hb.mono env S1 _ _ (dT.after s1) z⟩
theorem pxs_drop (he : PX ga X E e we) (hs : swapsWith e none pos.line X.env = pure false := by rfl) : PXS ga X E (.Expr e pos) (dropS we) := by
  refine ⟨fun env S D D' h q => he.mono env S _ _ _ _ (fun _ _ z => h.nx _ _ z) (h.ex env) q, ⟨fun pins s σ H D I h => (ps_expr he.run hs).run pins s σ H D I ?_⟩⟩
  obtain ⟨env, S, B, α, re, w, h⟩ := h
  refine ⟨env, S, B, α, re, w, he.mono env S _ _ _ _ (fun y S1 q v H1 B1 α1 s1 r1 => ?_) (fun _ _ z => kxS.at_ re z) h⟩
  exact q _ _ _ _ s1 (re.mono s1.bb s1.pre)
/-! targets -/
/-- a target's rule, from a value of pure data -/
structure PXG (ga : Str → Addr) (X : Cx) (E : WX) (tg : Expr) (g : DG) : Prop where
  mono : MonoG g
  run : ∃ t : TG, PG X tg t ∧ ∀ (B : Hp) (α : List Addr) (S : Sto) (H : Hp) (v : V) (x : DV) (env : DEnv) (σ : St) (Q : St → Hp → Prop), Wd X.K B α S H → VR X.K B α v x → RelE X.K B α env σ → g x env S (knT X.K B α H Q) → t v σ H Q
structure PXGs (ga : Str → Addr) (X : Cx) (E : WX) (tgs : List Expr) (g : DGs) : Prop where
  mono : MonoGs g
  run : ∃ t : TGs, PGs X tgs t ∧ ∀ (B : Hp) (α : List Addr) (S : Sto) (H : Hp) (vs : List V) (xs : List DV) (env : DEnv) (σ : St) (Q : St → Hp → Prop), Wd X.K B α S H → VRs X.K B α vs xs → RelE X.K B α env σ → g xs env S (knT X.K B α H Q) → t vs σ H Q
theorem pxg_name {i : Nat} {x : Str} (hN : X.N.Nodup) (hi : X.N[i]? = some x) (hx : Loc X.env.scope x) (hf : X.fn x = true ∨ X.env.scope.names.lookup x = some .local := by first | exact .inl rfl | exact .inr rfl | assumption) : PXG ga X E (.Name x pos) (nameG i) :=
  ⟨fun x env S k k' h q => h _ _ q, gName i, pg_name hN hi hx hf, fun B α S H v x env σ Q w r re h => h _ _ _ _ (Stp.refl w) (re.set i r)⟩
theorem pxgs_nil : PXGs ga X E [] nilGs :=
  ⟨fun x env S k k' h q => ⟨q.1, h _ _ q.2⟩, gNil, pgs_nil, fun B α S H vs xs env σ Q w r re ⟨h1, h2⟩ => by
    subst h1
    cases r
    exact ⟨rfl, h2 _ _ _ _ (Stp.refl w) re⟩⟩
theorem pxgs_cons (h1 : PXG ga X E e g) (h2 : PXGs ga X E es gs) (hs : (assignEach (e :: es) X.env).map (·.2) = assign e X.env :: (assignEach es X.env).map (·.2) := by rfl) : PXGs ga X E (e :: es) (consGs g gs) := by
  obtain ⟨m1, t1, r1, q1⟩ := h1
  obtain ⟨m2, t2, r2, q2⟩ := h2
  refine ⟨fun x env S k k' h ⟨y, ys, e, q⟩ => ⟨y, ys, e, m1 _ _ _ _ _ (fun e S z => m2 _ _ _ _ _ h z) q⟩, gCons t1 t2, pgs_cons r1 r2 hs, fun B α S H vs xs env σ Q w r re ⟨y, ys, e, h⟩ => ?_⟩
  subst e
  cases r with
  | cons rv rr =>
    refine ⟨_, _, rfl, q1 B α S H _ y env σ _ w rv re (m1 _ _ _ _ _ (fun env' S' z σ' H' B' α' s' re' => ?_) h)⟩
    exact q2 B' α' S' H' _ ys env' σ' Q s'.wd (rr.mono s'.bb s'.pre) re' (m2 _ _ _ _ _ (fun _ _ u => knT.after s' u) z)
theorem pxg_tup {k : Nat} {n : Nat} (hc : X.calm = true) (h : PXGs ga X E es gs) (hn : (assignEach es X.env).length = n := by rfl) (hst : (assignEach es X.env).findIdx? (·.1) = none := by rfl) : PXG ga X E (.Tuple es k pos) (tupG n gs) := by
  obtain ⟨m, t, r, q⟩ := h
  refine ⟨fun x env S k k' h ⟨ys, e, l, z⟩ => ⟨ys, e, l, m _ _ _ _ _ h z⟩, gTup X.K n t, pg_tup hc r hn hst, fun B α S H v x env σ Q w rv re ⟨ys, e, l, h⟩ => ?_⟩
  subst e
  cases rv with
  | tup ht hq => exact ⟨_, _, rfl, same_t w.ex ht, by rw [hq.len]; exact l, q B α S H _ (ys.map .d) env σ Q w (VRs.ofPure hq) re h⟩
theorem pxs_tgt {tg : Expr} (he : PX ga X E e we) (hg : PXG ga X E tg g) (hs : swapsWithSole [tg] e pos.line X.env = pure false := by rfl) (hw : swappedStores [tg] e X.env = pure none := by rfl)
    (h1 : (assignEach [tg] X.env).map (·.2) = [assign tg X.env] := by rfl) : PXS ga X E (.Assign [tg] e pos) (tgtS we g) := by
  obtain ⟨m, t, r, q⟩ := hg
  refine ⟨fun env S D D' h z => he.mono env S _ _ _ _ (fun x S1 u => m _ _ _ _ _ h.nx u) (h.ex env) z, ⟨fun pins s σ H D I h => (ps_asg he.run r hs hw h1).run pins s σ H D I ?_⟩⟩
  obtain ⟨env, S, B, α, re, w, h⟩ := h
  refine ⟨env, S, B, α, re, w, he.mono env S _ _ _ _ (fun x S1 u v H1 B1 α1 s1 r1 => ?_) (fun _ _ z => kxS.at_ re z) h⟩
  exact q B1 α1 S1 H1 v x env σ _ s1.wd r1 (re.mono s1.bb s1.pre) (m _ _ _ _ _ (fun _ _ z => knT.after s1 z) u)
theorem Wd.extra {K : PySem.W.Frag} {B : Hp} {α : List Addr} {S : Sto} {H : Hp} {p : Addr} {o : HO} (w : Wd K B α S H) (hp : H p = none) : Stp K B α H B α S (upd H p o) := by
  refine ⟨⟨fun a u e => Same.upd_none hp a u (w.ex a u e), w.len, fun n q h1 h2 => ?_, w.nd, fun a ha => (w.trk a ha).imp fun u e => Same.upd_none hp a u e⟩, Same.refl _, ⟨[], by simp⟩, fun _ _ h => .inl h, fun _ h => .inl h, fun a u e _ => Same.upd_none hp a u e⟩
  obtain ⟨a, e1, e2, e3⟩ := w.obj n q h1 h2
  exact ⟨a, e1, e2, e3.mono (Same.refl _) ⟨[], by simp⟩ fun u z => Same.upd_none hp a u z⟩
theorem pxs_tgtN {tgs : List Expr} {k k2 : Nat} {pt pt2 : Pos} {n : Nat} (hc : X.calm = true) (ha : PXA ga X E es wA) (hg : PXGs ga X E tgs gs) (hn : (assignEach tgs X.env).length = n := by rfl) (hst : (assignEach tgs X.env).findIdx? (·.1) = none := by rfl)
    (hs : swapsWithSole [.Tuple tgs k pt] (.Tuple es k2 pt2) pos.line X.env = pure false := by rfl) (hw : swappedStores [.Tuple tgs k pt] (.Tuple es k2 pt2) X.env = pure none := by rfl)
    (h1 : (assignEach [.Tuple tgs k pt] X.env).map (·.2) = [assign (.Tuple tgs k pt) X.env] := by rfl) : PXS ga X E (.Assign [.Tuple tgs k pt] (.Tuple es k2 pt2) pos) (tgtNS n wA gs) := by
  obtain ⟨m, t, r, q⟩ := hg
  refine ⟨fun env S D D' h z => ha.mono env S _ _ _ _ (fun xs S1 ⟨e1, e2, u⟩ => ⟨e1, e2, m _ _ _ _ _ h.nx u⟩) (h.ex env) z, ⟨fun pins s σ H D I h => (ps_asg (pe_tup ha.run) (pg_tup hc r hn hst) hs hw h1).run pins s σ H D I ?_⟩⟩
  obtain ⟨env, S, B, α, re, w, h⟩ := h
  refine ⟨env, S, B, α, re, w, ha.mono env S _ _ _ _ (fun xs S1 ⟨e1, e2, u⟩ vs H1 B1 α1 s1 r1 => ?_) (fun _ _ z => kxS.at_ re z) h⟩
  refine ⟨lim_le (by rw [r1.len, e1]; omega), fun p hp => ?_⟩
  have s2 := s1.wd.extra (o := .tup vs) hp
  have s12 := s1.trans s2
  exact ⟨p, vs, rfl, SqT.of upd_same, by rw [r1.len]; exact e1, q B1 α1 S1 _ vs xs env σ _ s2.wd r1 (re.mono s12.bb s12.pre) (m _ _ _ _ _ (fun _ _ z => knT.after s12 z) u)⟩
theorem pxs_par2 {i j : Nat} {x y : Str} {px py pt : Pos} {kt k2 pt2} (hc : X.calm = true) (hN : X.N.Nodup) (hi : X.N[i]? = some x) (hj : X.N[j]? = some y) (hij : i ≠ j) (hx : X.env.scope.names.lookup x = some .local) (hy : X.env.scope.names.lookup y = some .local)
    (ha : PXA ga X E [a, b] wA) (hw : swappedStores [.Tuple [.Name x px, .Name y py] kt pt] (.Tuple [a, b] k2 pt2) X.env = pure (some [x, y])) (hs : swapsWithSole [.Tuple [.Name x px, .Name y py] kt pt] (.Tuple [a, b] k2 pt2) pos.line X.env = pure false := by rfl) :
    PXS ga X E (.Assign [.Tuple [.Name x px, .Name y py] kt pt] (.Tuple [a, b] k2 pt2) pos) (par2S i j wA) := by
  refine ⟨fun env S D D' h z => ha.mono env S _ _ _ _ (fun xs S1 ⟨x, y, e, u⟩ => ⟨x, y, e, h.nx _ _ u⟩) (h.ex env) z, ⟨fun pins s σ H D I h => (ps_par hc hN hi hj hij hx hy ha.run hw hs).run pins s σ H D I ?_⟩⟩
  obtain ⟨env, S, B, α, re, w, h⟩ := h
  refine ⟨env, S, B, α, re, w, ha.mono env S _ _ _ _ (fun xs S1 ⟨x, y, e, u⟩ vs H1 B1 α1 s1 r1 => ?_) (fun _ _ z => kxS.at_ re z) h⟩
  subst e
  obtain ⟨v1, v2, rfl, q1, q2⟩ := vr2 r1
  exact ⟨v1, v2, rfl, u _ _ _ _ s1 (((re.mono s1.bb s1.pre).set i q1).set j q2)⟩
theorem pxs_par3 {i j l : Nat} {x y z : Str} {px py pz pt : Pos} {kt k2 pt2} (hc : X.calm = true) (hN : X.N.Nodup) (hi : X.N[i]? = some x) (hj : X.N[j]? = some y) (hl : X.N[l]? = some z) (hij : i ≠ j) (hil : i ≠ l) (hjl : j ≠ l)
    (hx : X.env.scope.names.lookup x = some .local) (hy : X.env.scope.names.lookup y = some .local) (hz : X.env.scope.names.lookup z = some .local) (ha : PXA ga X E [a, b, c] wA)
    (hw : swappedStores [.Tuple [.Name x px, .Name y py, .Name z pz] kt pt] (.Tuple [a, b, c] k2 pt2) X.env = pure (some [x, y, z])) (hs : swapsWithSole [.Tuple [.Name x px, .Name y py, .Name z pz] kt pt] (.Tuple [a, b, c] k2 pt2) pos.line X.env = pure false := by rfl) :
    PXS ga X E (.Assign [.Tuple [.Name x px, .Name y py, .Name z pz] kt pt] (.Tuple [a, b, c] k2 pt2) pos) (par3S i j l wA) := by
  refine ⟨fun env S D D' h z => ha.mono env S _ _ _ _ (fun xs S1 ⟨x, y, z, e, u⟩ => ⟨x, y, z, e, h.nx _ _ u⟩) (h.ex env) z, ⟨fun pins s σ H D I h => (ps_par3 hc hN hi hj hl hij hil hjl hx hy hz ha.run hw hs).run pins s σ H D I ?_⟩⟩
  obtain ⟨env, S, B, α, re, w, h⟩ := h
  refine ⟨env, S, B, α, re, w, ha.mono env S _ _ _ _ (fun xs S1 ⟨x, y, z, e, u⟩ vs H1 B1 α1 s1 r1 => ?_) (fun _ _ z => kxS.at_ re z) h⟩
  subst e
  cases r1 with
  | cons q1 r1 =>
    obtain ⟨v2, v3, rfl, q2, q3⟩ := vr2 r1
    exact ⟨_, v2, v3, rfl, u _ _ _ _ s1 ((((re.mono s1.bb s1.pre).set i q1).set j q2).set l q3)⟩
theorem pxs_setL (he : PX ga X E e wv) (ho : PX ga X E o wo) (hi : PX ga X E ie wi)
    (ha : ∀ v, assign (.Subscript o ie p') X.env v = (do
      let ov ← holding [v] (eval o X.env)
      let iv ← holding [v, ov] (eval ie X.env)
      standAt p'
      holding [v, ov, iv] (setItem ov iv v)
      release [v, ov, iv] []) := by intro _; rfl)
    (hs : swapsWithSole [.Subscript o ie p'] e pos.line X.env = pure false := by rfl) (hw : swappedStores [.Subscript o ie p'] e X.env = pure none := by rfl)
    (h1 : (assignEach [.Subscript o ie p'] X.env).map (·.2) = [assign (.Subscript o ie p') X.env] := by rfl) : PXS ga X E (.Assign [.Subscript o ie p'] e pos) (setLS wv wo wi) := by
  refine ⟨fun env S D D' h z => he.mono env S _ _ _ _ (fun v S1 z1 => ho.mono env S1 _ _ _ _ (fun o S2 z2 => hi.mono env S2 _ _ _ _ (fun i S3 ⟨n, xs, k, j, e1, e2, e3, e4, z3⟩ => ⟨n, xs, k, j, e1, e2, e3, e4, h.nx _ _ z3⟩) (h.ex env) z2) (h.ex env) z1) (h.ex env) z,
    ⟨fun pins s σ H D I h => (ps_asg he.run (pg_sub ho.run hi.run set_list ha) hs hw h1).run pins s σ H D I ?_⟩⟩
  obtain ⟨env, S, B, α, re, w, h⟩ := h
  refine ⟨env, S, B, α, re, w, he.mono env S _ _ _ _ (fun y S1 u v H1 B1 α1 s1 r1 => ?_) (fun _ _ z => kxS.at_ re z) h⟩
  refine ⟨env, S1, B1, α1, re.mono s1.bb s1.pre, s1.wd, ho.mono env S1 _ _ _ _ (fun o' S2 u2 v2 H2 B2 α2 s2 r2 => ?_) (fun _ _ z => kxT.after s1 (kxS.at_ re z)) u⟩
  have s12 := s1.trans s2
  refine ⟨env, S2, B2, α2, re.mono s12.bb s12.pre, s2.wd, hi.mono env S2 _ _ _ _ (fun i' S3 u3 v3 H3 B3 α3 s3 r3 => ?_) (fun _ _ z => kxT.after s12 (kxS.at_ re z)) u2⟩
  obtain ⟨n, xs, k, j, e1, e2, e3, e4, z3⟩ := u3
  subst e1; subst e2
  have s13 := s12.trans s3
  obtain ⟨a, ha1, rfl⟩ := r2.mono s3.bb s3.pre
  cases r3
  obtain ⟨a', f1, f2, vs, f3, f4⟩ := s3.wd.obj n _ e3 (fun z => by cases z)
  rw [ha1] at f1; cases f1
  have rv := r1.mono (s2.bb.trans s3.bb) (s2.trans s3).pre
  refine ⟨a, vs, k, j, rfl, rfl, f3, by rw [f4.len]; exact e4, ?_⟩
  have s4 := s3.wd.change (o' := .lst (xs.set j y)) (ho := .lst (vs.set j v)) e3 (fun z => by cases z) ha1 ⟨_, upd_same, f4.set rv j⟩
  exact z3 _ _ _ _ (s13.trans s4) (re.mono (s13.trans s4).bb (s13.trans s4).pre)
theorem pxs_app (ho : PX ga X E o wo) (he : PX ga X E e wv) (hbase : attributeBase o "append" X.env (eval o X.env) = eval o X.env := by rfl)
    (hfew : ((backTo p2 (starEach [e] X.env)).all (fun x => !x.1) && (backToKw p2 (keywordEach [] X.env)).all (fun x => x.1.isSome)
      && decide ([e].length + ([] : List Keyword).length + (if ([] : List Keyword).isEmpty then 0 else 1) < 30)) = true := by rfl)
    (hline : (apos.endLine == p2.line) = true := by rfl) (hs : starEach [e] X.env = (false, eval e X.env) :: starEach [] X.env := by rfl) (hplain : (backTo p2 (starEach [] X.env)).any (·.1) = false := by rfl)
    (hsw : swapsWith (.Call (.Attribute o "append" apos) [e] [] p2) none pos.line X.env = pure false := by rfl) : PXS ga X E (.Expr (.Call (.Attribute o "append" apos) [e] [] p2) pos) (appS wo wv) := by
  refine ⟨fun env S D D' h z => ho.mono env S _ _ _ _ (fun o S1 ⟨n, ys, e1, e2, z1⟩ => ⟨n, ys, e1, e2, he.mono env S1 _ _ _ _ (fun v S2 ⟨xs, e3, e4, z3⟩ => ⟨xs, e3, e4, h.nx _ _ z3⟩) (h.ex env) z1⟩) (h.ex env) z,
    ⟨fun pins s σ H D I h => (ps_expr (pe_bm PySem.F.plainAttrs_list PySem.F.slot_list_append PySem.F.type_list_append mt_append ho.run (pa_cons he.run pa_nil hs) hbase hfew hline hs hplain) hsw).run pins s σ H D I ?_⟩⟩
  obtain ⟨env, S, B, α, re, w, h⟩ := h
  refine ⟨env, S, B, α, re, w, ho.mono env S _ _ _ _ (fun o' S1 u1 v1 H1 B1 α1 s1 r1 => ?_) (fun _ _ z => kxS.at_ re z) h⟩
  obtain ⟨n, ys, e1, e2, u1⟩ := u1
  subst e1
  obtain ⟨a, ha1, rfl⟩ := r1
  obtain ⟨a', f1, f2, vs1, f3, f4⟩ := s1.wd.obj n _ e2 (fun z => by cases z)
  rw [ha1] at f1; cases f1
  refine ⟨.inl ⟨rfl, vs1, SqL.of f3⟩, ?_⟩
  refine ⟨env, S1, B1, α1, re.mono s1.bb s1.pre, s1.wd, he.mono env S1 _ _ _ _ (fun y S2 u2 v2 H2 B2 α2 s2 r2 => ?_) (fun _ _ z => kxT.after s1 (kxS.at_ re z)) u1⟩
  obtain ⟨xs, e3, e4, z3⟩ := u2
  have s12 := s1.trans s2
  have ha2 : α2[n]? = some a := by
    obtain ⟨t, rfl⟩ := s2.pre
    rw [List.getElem?_append_left (List.getElem?_eq_some_iff.mp ha1).1]; exact ha1
  obtain ⟨a', g1, g2, vs, g3, g4⟩ := s2.wd.obj n _ e3 (fun z => by cases z)
  rw [ha2] at g1; cases g1
  refine ⟨a, vs, v2, rfl, rfl, g3, Nat.lt_of_le_of_lt (by rw [g4.len]; exact e4) (by decide : 1000000 < sizeLine), ?_⟩
  have s3 := s2.wd.change (o' := .lst (xs ++ [y])) (ho := .lst (vs ++ [v2])) e3 (fun z => by cases z) ha2 ⟨_, upd_same, g4.snoc r2⟩
  have s13 := s12.trans s3
  exact z3 _ _ _ _ s13 (re.mono s13.bb s13.pre)
end
end DW

set_option Elab.async false
set_option linter.all false
set_option maxRecDepth 100000
set_option maxHeartbeats 4000000
set_option autoImplicit false
/-! DW7: defs and their calls, raise, try. -/
namespace DW
open PySem L2

/-- what a def does: its arguments, the objects handed in -/
abbrev FS := List DV → Sto → DK → DX → Prop
def MonoF (F : FS) : Prop := ∀ xs S (k k' : DK) (x x' : DX), (∀ r S, k r S → k' r S) → (∀ r S, x r S → x' r S) → F xs S k x → F xs S k' x'
def funW (N : Nat) (w : DS) : FS := fun args S k kx => w (args.map some ++ List.replicate (N - args.length) none) S ⟨fun _ S' => k (.d .none) S', k, fun _ _ => False, fun _ _ => False, fun _ => kx⟩
theorem mono_fun {N : Nat} {w : DS} (m : MonoS w) : MonoF (funW N w) := fun xs S k k' x x' hk hx h => m _ _ ⟨fun _ S' => k (.d .none) S', k, fun _ _ => False, fun _ _ => False, fun _ => x⟩ ⟨fun _ S' => k' (.d .none) S', k', fun _ _ => False, fun _ _ => False, fun _ => x'⟩ ⟨fun _ _ z => hk _ _ z, hk, fun _ _ z => z, fun _ _ z => z, fun _ => hx⟩ h
def spD (K : PySem.W.Frag) (ga : Str → Addr) (F : FS) (n : Nat) : Sp := fun vs H Q E => vs.length = n ∧ ∃ B α S args, Wd K B α S H ∧ VRs K B α vs args ∧ F args S (kvT K B α H Q) (kxT K ga B α H E)

section
variable {K : PySem.W.Frag} {B B' : Hp} {α α' : List Addr} {S S' : Sto} {H H' : Hp} {ga : Str → Addr}
theorem relE_start {N : List Str} {vs : List V} {args : List DV} (r : VRs K B α vs args) (hn : vs.length ≤ N.length) : RelE K B α (args.map some ++ List.replicate (N.length - args.length) none) (L2.start N vs) := by
  have hl := r.len
  refine ⟨by unfold L2.start; simp [hl], fun i x e => ?_⟩
  unfold L2.start
  by_cases hi : i < args.length
  · rw [List.getElem?_append_left (by simpa using hi), List.getElem?_map] at e
    cases q : args[i]? with
    | none => rw [q] at e; cases e
    | some y =>
      rw [q] at e
      cases e
      obtain ⟨v, h1, h2⟩ := r.get q
      exact ⟨v, by rw [List.getElem?_append_left (by simpa [hl] using hi), List.getElem?_map, h1]; rfl, h2⟩
  · rw [List.getElem?_append_right (by simpa using hi), List.getElem?_replicate] at e
    split at e <;> cases e

/-- what a body's context must offer -/
structure Ctx (X : Cx) (E : WX) (k : Nat) : Prop where
  calm : X.calm = true
  nd : X.N.Nodup
  tk : Takes X E
  po : PassesOwn (model X.prog X.w) X.A X.env X.xe
  room : Room k X.A
theorem Ctx.u {X : Cx} {E : WX} {k : Nat} (c : Ctx X E k) : X.A.units + 64 < cLine := c.room.units
theorem fn_ok {P : Program} {w : World} {mg : Str → Option Value} {base : Heap} {k : Nat} {f : Addr} {x qual : Str} {params : Arguments} {body : List Stmt} {scope : Scope} {dvs : List V} {kws : List (Str × V)} {fd : FuncData} {N ps : List Str} {ws : DS}
    (F : FunD K x qual params body scope dvs kws f fd) (Sc : FnScope N ps scope)
    (hb : ∀ (X : Cx) (E : WX), X.prog = P → X.w = w → X.K = K → X.mg = mg → X.base = base → X.N = N → X.env.scope = scope → X.fn = (fun _ => true) → X.stack = X.env :: X.outer → X.env.frame = some X.env.locals → Ctx X E k → PXB ga X E body ws) :
    FnOk P w K mg base (L2.CX P w) (k + 1) f fd ps (spD K ga (funW N.length ws) ps.length) := by
  refine F.ok Sc (fun vs H Q E h => h.1) (fun cdv A outer s H vs Q E hr h => ?_)
  obtain ⟨hl, B, α, S, args, wd, r, h⟩ := h
  have C : Ctx (cxOf (L2.CX P w) P w K mg base N qual scope f cdv A outer s H E) (fun cls d _ H => E cls d H) k := ⟨rfl, Sc.nd, takes_of rfl rfl rfl rfl, passes_of rfl, hr⟩
  have b := hb (cxOf (L2.CX P w) P w K mg base N qual scope f cdv A outer s H E) _ rfl rfl rfl rfl rfl rfl rfl rfl rfl rfl C
  refine ⟨_, b.run, _, S, B, α, relE_start r ?_, wd, b.mono _ _ ⟨fun _ S' => kvT K B α H Q (.d .none) S', kvT K B α H Q, fun _ _ => False, fun _ _ => False, fun _ => kxT K ga B α H E⟩ _ ⟨fun e S' z σ' H' B' α' st re => z _ _ _ _ st .non, fun _ _ z => z, fun _ _ z => z.elim, fun _ _ z => z.elim, fun e x S' z c d σ' H' B' α' st re xr => z c d H' B' α' st xr⟩ h⟩
  rw [hl]
  have := congrArg List.length Sc.pre
  simp at this
  omega

/-! ### calls -/
def isPure : DV → Bool
  | .p _ => false
  | .ce _ => false
  | .cs _ => false
  | .ev _ => false
  | .es _ => false
  | .cl _ => false
  | _ => true
def ptrs : List DV → List Nat
  | [] => []
  | .p n :: r => n :: ptrs r
  | .ce _ :: r => 0 :: 0 :: ptrs r
  | .cs _ :: r => 0 :: 0 :: ptrs r
  | .ev _ :: r => 0 :: 0 :: ptrs r
  | .es _ :: r => 0 :: 0 :: ptrs r
  | .cl _ :: r => 0 :: 0 :: ptrs r
  | _ :: r => ptrs r
def ren : List DV → Nat → List DV
  | [], _ => []
  | .p _ :: r, k => .p k :: ren r (k + 1)
  | x :: r, k => x :: ren r k
def closedO : SO → Bool
  | .lst xs => xs.all isPure
  | .dic kvs => kvs.all fun q => isPure q.2
  | .ins _ fs => fs.all fun q => isPure q.2
  | .tab _ => false
  | .gone => false
def objsAt (S : Sto) : List Nat → Option Sto
  | [] => some []
  | n :: r => match S[n]?, objsAt S r with
    | some o, some os => if closedO o = true then some (o :: os) else none
    | _, _ => none
/-- the objects behind the call, in their places -/
def putAll : Sto → List Nat → Sto → Sto
  | S, [], _ => S
  | S, n :: r, o :: os => putAll (S.set n o) r os
  | S, _ :: _, [] => S
def okObjs (n : Nat) (S : Sto) : Prop := ∀ (i : Nat) (o : SO), i < n → S[i]? = some o → closedO o = true
def resK (ix : List Nat) (S1 : Sto) (k : DK) : DK := fun r S2 => okObjs ix.length S2 ∧ match r with
  | .p j => ix.length ≤ j ∧ ∃ o, S2[j]? = some o ∧ closedO o = true ∧ k (.p S1.length) (putAll S1 ix S2 ++ [o])
  | .ce _ => False
  | .cs _ => False
  | .ev _ => False
  | .es _ => False
  | .cl _ => False
  | x => k x (putAll S1 ix S2)
def callW (F : FS) (wA : DA) : DE := fun env S k kx => wA env S (fun xs S1 => (ptrs xs).Nodup ∧ ∃ os, objsAt S1 (ptrs xs) = some os ∧ F (ren xs 0) os (resK (ptrs xs) S1 k) (fun x S2 => okObjs (ptrs xs).length S2 ∧ kx x (putAll S1 (ptrs xs) S2))) kx

/-! the call is sound -/
theorem mono_call {F : FS} {wA : DA} (mF : MonoF F) (mA : MonoA wA) : MonoE (callW F wA) := fun env S k k' x x' hk hx h => mA env S _ _ _ _ (fun xs S1 ⟨nd, os, e, h1⟩ => ⟨nd, os, e, mF _ _ _ _ _ _ (fun r S2 ⟨ok, z⟩ => ⟨ok, by
  cases r with
  | p j => exact ⟨z.1, z.2.imp fun o q => ⟨q.1, q.2.1, hk _ _ q.2.2⟩⟩
  | d y => exact hk _ _ z
  | m y => exact hk _ _ z
  | ce y => exact z
  | cs y => exact z
  | ev y => exact z
  | es y => exact z
  | cl y => exact z
  | s y => exact hk _ _ z⟩) (fun x S2 ⟨ok, z⟩ => ⟨ok, hx _ _ z⟩) h1⟩) hx h
/-- the addresses of the handed objects -/
def adrs (α : List Addr) : List Nat → List Addr
  | [] => []
  | n :: r => α.getD n 0 :: adrs α r
theorem adrs_get (α : List Addr) : ∀ (ix : List Nat) (i n : Nat), ix[i]? = some n → (adrs α ix)[i]? = some (α.getD n 0)
  | [], _, _, h => by simp at h
  | m :: r, 0, n, h => by simp at h; subst h; rfl
  | m :: r, i + 1, n, h => by simpa [adrs] using adrs_get α r i n (by simpa using h)
theorem adrs_len (α : List Addr) : ∀ ix : List Nat, (adrs α ix).length = ix.length
  | [] => rfl
  | _ :: r => by simp [adrs, adrs_len α r]
theorem adrs_mem {α : List Addr} {ix : List Nat} {a : Addr} (h : a ∈ adrs α ix) : ∃ n ∈ ix, α.getD n 0 = a := by
  induction ix with
  | nil => cases h
  | cons m r ih =>
    rcases List.mem_cons.mp h with h | h
    · exact ⟨m, List.mem_cons_self, h.symm⟩
    · obtain ⟨n, h1, h2⟩ := ih h
      exact ⟨n, List.mem_cons_of_mem _ h1, h2⟩
theorem objs_get {S : Sto} : ∀ {ix : List Nat} {os : Sto}, objsAt S ix = some os → os.length = ix.length ∧ ∀ (i n : Nat), ix[i]? = some n → ∃ o, S[n]? = some o ∧ os[i]? = some o ∧ closedO o = true
  | [], os, h => by cases h; exact ⟨rfl, fun i n e => by simp at e⟩
  | m :: r, os, h => by
    unfold objsAt at h
    split at h
    · rename_i o os' h1 h2
      split at h
      · rename_i hc
        cases h
        obtain ⟨l, g⟩ := objs_get h2
        refine ⟨by simp [l], fun i n e => ?_⟩
        cases i with
        | zero => simp at e; subst e; exact ⟨o, h1, rfl, hc⟩
        | succ i => obtain ⟨o2, a, b, c⟩ := g i n (by simpa using e); exact ⟨o2, a, by simpa using b, c⟩
      · cases h
    · cases h
theorem mono_m {v : V} {kvs : List (NestedKey × PyData)} {α α' : List Addr} (e : Same B B') (h : VR K B α v (.m kvs)) : VR K B' α' v (.m kvs) := by
  obtain ⟨a, o, zs, h1, h2, h3, h4⟩ := h
  exact ⟨a, o, zs, h1, e _ _ h2, h3, Paired.mapP h4 fun z q w => ⟨w.1, Dq.same e w.2.1, Dq.same e w.2.2⟩⟩
theorem closed_ok {o : SO} {a : Addr} (hc : closedO o = true) (e : Same B B') (k : ∀ u, H a = some u → H' a = some u) (h : SOk K B α H a o) (α' : List Addr) : SOk K B' α' H' a o := by
  cases o with
  | lst xs =>
    obtain ⟨vs, h1, h2⟩ := h
    refine ⟨vs, k _ h1, ?_⟩
    have hd : xs.all isPure = true := hc
    clear h1 hc
    induction h2 with
    | nil => exact .nil
    | @cons v x _ _ q r ih =>
      simp only [List.all_cons, Bool.and_eq_true] at hd
      have hc := hd
      refine .cons ?_ (ih hd.2)
      cases x with
      | d y => exact Dq.same e q
      | s ns => obtain ⟨b, h3, h4⟩ := q; exact ⟨b, h3, same_l e h4⟩
      | m kvs => exact mono_m e q
      | ce n => cases hc.1
      | cs n => cases hc.1
      | ev n => cases hc.1
      | es n => cases hc.1
      | cl n => cases hc.1
      | p n => cases hc.1
  | dic kvs =>
    obtain ⟨ob, zs, h1, h2, h3⟩ := h
    refine ⟨ob, zs, k _ h1, h2, ?_⟩
    have hd : (kvs.all fun q => isPure q.2) = true := hc
    clear h1 h2 hc
    induction h3 with
    | nil => exact .nil
    | @cons z q _ _ w r ih =>
      simp only [List.all_cons, Bool.and_eq_true] at hd
      refine .cons ⟨w.1, Dq.same e w.2.1, ?_⟩ (ih hd.2)
      obtain ⟨qk, x⟩ := q
      have hx := hd.1
      have w2 := w.2.2
      cases x with
      | d y => exact Dq.same e w2
      | s ns => obtain ⟨b, h3, h4⟩ := w2; exact ⟨b, h3, same_l e h4⟩
      | m kvs => exact mono_m e w2
      | ce n => cases hx
      | cs n => cases hx
      | ev n => cases hx
      | es n => cases hx
      | cl n => cases hx
      | p n => cases hx
  | ins c fs =>
    obtain ⟨dx, vs, h1, h2⟩ := h
    refine ⟨dx, vs, k _ h1, ?_⟩
    have hd : (fs.all fun q => isPure q.2) = true := hc
    clear h1 hc
    induction h2 with
    | nil => exact .nil
    | @cons z q _ _ w r ih =>
      simp only [List.all_cons, Bool.and_eq_true] at hd
      refine .cons ⟨w.1, ?_⟩ (ih hd.2)
      obtain ⟨qk, x⟩ := q
      have hx := hd.1
      have w2 := w.2
      cases x with
      | d y => exact Dq.same e w2
      | s ns => obtain ⟨b, h3, h4⟩ := w2; exact ⟨b, h3, same_l e h4⟩
      | m kvs => exact mono_m e w2
      | ce n => cases hx
      | cs n => cases hx
      | ev n => cases hx
      | es n => cases hx
      | cl n => cases hx
      | p n => cases hx
  | tab nm => cases hc
  | gone => cases hc
theorem put_len : ∀ (ix : List Nat) (S S2 : Sto), (putAll S ix S2).length = S.length
  | [], S, S2 => by rw [putAll]
  | n :: r, S, [] => rfl
  | n :: r, S, o :: os => by simp [putAll, put_len r (S.set n o) os]
theorem put_ne : ∀ (ix : List Nat) (S S2 : Sto) (m : Nat), m ∉ ix → (putAll S ix S2)[m]? = S[m]?
  | [], S, S2, _, _ => by rw [putAll]
  | n :: r, S, [], m, h => rfl
  | n :: r, S, o :: os, m, h => by
    simp only [List.mem_cons, not_or] at h
    rw [putAll, put_ne r _ os m h.2, List.getElem?_set_ne (Ne.symm h.1)]
theorem put_at : ∀ (ix : List Nat) (S S2 : Sto) (i n : Nat), ix.Nodup → ix[i]? = some n → n < S.length → ix.length ≤ S2.length → (putAll S ix S2)[n]? = S2[i]?
  | [], _, _, _, _, _, h, _, _ => by simp at h
  | m :: r, S, [], i, n, _, _, _, hl => by simp at hl
  | m :: r, S, o :: os, 0, n, nd, h, hn, hl => by
    simp at h; subst h
    rw [putAll, put_ne r _ os m (List.nodup_cons.mp nd).1, List.getElem?_set_self hn]
    rfl
  | m :: r, S, o :: os, i + 1, n, nd, h, hn, hl => by
    rw [putAll, put_at r _ os i n (List.nodup_cons.mp nd).2 (by simpa using h) (by simpa using hn) (by simpa using hl)]
    simp
/-- the world of the callee -/
theorem Wd.sub {ix : List Nat} {os : Sto} (w : Wd K B α S H) (nd : ix.Nodup) (e : objsAt S ix = some os) : Wd K B (adrs α ix) os H := by
  obtain ⟨l, g⟩ := objs_get e
  have real : ∀ n ∈ ix, ∃ o, S[n]? = some o ∧ closedO o = true ∧ α[n]? = some (α.getD n 0) := fun n hn => by
    obtain ⟨i, hi⟩ := List.getElem?_of_mem hn
    obtain ⟨o, h1, h2, h3⟩ := g i n hi
    obtain ⟨a, h4, _⟩ := w.obj n o h1 (fun z => by subst z; cases h3)
    exact ⟨o, h1, h3, by rw [List.getD_eq_getElem?_getD, h4]; rfl⟩
  refine ⟨w.ex, by rw [adrs_len, l], fun i o h1 h2 => ?_, ?_, fun a ha => ?_⟩
  · have hi : i < ix.length := by rw [← l]; exact (List.getElem?_eq_some_iff.mp h1).1
    have hix : ix[i]? = some ix[i] := by simp [hi]
    obtain ⟨o', q1, q2, q3⟩ := g i _ hix
    rw [h1] at q2; cases q2
    obtain ⟨a, f1, f2, f3⟩ := w.obj _ o q1 h2
    refine ⟨a, ?_, f2, closed_ok q3 (Same.refl _) (fun _ z => z) f3 _⟩
    rw [adrs_get α ix i _ hix, List.getD_eq_getElem?_getD, f1]
    rfl
  · clear e g l os
    induction ix with
    | nil => exact List.nodup_nil
    | cons m r ih =>
      obtain ⟨h1, h2⟩ := List.nodup_cons.mp nd
      refine List.nodup_cons.mpr ⟨fun hm => ?_, ih h2 fun n hn => real n (List.mem_cons_of_mem _ hn)⟩
      obtain ⟨n, hn, en⟩ := adrs_mem hm
      obtain ⟨_, _, _, a1⟩ := real m List.mem_cons_self
      obtain ⟨_, _, _, a2⟩ := real n (List.mem_cons_of_mem _ hn)
      rw [en] at a2
      have := nd_at w.nd a1 a2
      subst this
      exact h1 hn
  · obtain ⟨n, hn, en⟩ := adrs_mem ha
    obtain ⟨_, _, _, a1⟩ := real n hn
    rw [en] at a1
    exact w.trk a (List.mem_of_getElem? a1)
theorem ren_ok {α : List Addr} : ∀ {vs : List V} {xs : List DV} (pre : List Nat), VRs K B α vs xs → (ptrs xs).Nodup → VRs K B (adrs α (pre ++ ptrs xs)) vs (ren xs pre.length)
  | _, _, _, .nil, _ => .nil
  | _, _, pre, .cons (x := x) (xs := xs) h r, nd => by
    cases x with
    | d y => exact .cons h (ren_ok pre r nd)
    | s y => exact .cons h (ren_ok pre r nd)
    | m y => exact .cons h (ren_ok pre r nd)
    | ce y => exact absurd List.mem_cons_self (List.nodup_cons.mp (show (0 :: 0 :: ptrs xs).Nodup from nd)).1
    | cs y => exact absurd List.mem_cons_self (List.nodup_cons.mp (show (0 :: 0 :: ptrs xs).Nodup from nd)).1
    | ev y => exact absurd List.mem_cons_self (List.nodup_cons.mp (show (0 :: 0 :: ptrs xs).Nodup from nd)).1
    | es y => exact absurd List.mem_cons_self (List.nodup_cons.mp (show (0 :: 0 :: ptrs xs).Nodup from nd)).1
    | cl y => exact absurd List.mem_cons_self (List.nodup_cons.mp (show (0 :: 0 :: ptrs xs).Nodup from nd)).1
    | p n =>
      obtain ⟨a, h1, h2⟩ := h
      have e : pre ++ ptrs (.p n :: xs) = (pre ++ [n]) ++ ptrs xs := by simp [ptrs]
      rw [e]
      have ih := ren_ok (pre ++ [n]) r (List.nodup_cons.mp (show (n :: ptrs xs).Nodup from nd)).2
      rw [List.length_append] at ih
      refine .cons ⟨a, ?_, h2⟩ ih
      rw [adrs_get α _ pre.length n (by simp)]
      rw [List.getD_eq_getElem?_getD, h1]
      rfl
/-- behind the call -/
theorem Stp.ofCall {ix : List Nat} {os S2 : Sto} {B2 : Hp} {α2 : List Addr} {H2 : Hp} (w : Wd K B α S H) (nd : ix.Nodup) (e : objsAt S ix = some os) (s : Stp K B (adrs α ix) H B2 α2 S2 H2) (ok : okObjs ix.length S2) :
    Stp K B α H B2 α (putAll S ix S2) H2 := by
  have wc := w.sub nd e
  obtain ⟨l, g⟩ := objs_get e
  have sub : ∀ a ∈ adrs α ix, a ∈ α := fun a ha => by
    obtain ⟨n, hn, en⟩ := adrs_mem ha
    obtain ⟨i, hi⟩ := List.getElem?_of_mem hn
    obtain ⟨o, h1, h2, h3⟩ := g i n hi
    obtain ⟨a', h4, _⟩ := w.obj n o h1 (fun z => by subst z; cases h3)
    have : α.getD n 0 = a' := by rw [List.getD_eq_getElem?_getD, h4]; rfl
    rw [← en, this]
    exact List.mem_of_getElem? h4
  obtain ⟨t, ht⟩ := s.pre
  have hlen : ix.length ≤ S2.length := by rw [← s.wd.len, ht, List.length_append, adrs_len]; omega
  refine ⟨⟨s.wd.ex, by rw [put_len]; exact w.len, fun n o h1 h2 => ?_, w.nd, fun a ha => ?_⟩, s.bb, ⟨[], by simp⟩, fun a o h => ?_, fun _ h => .inl h, fun a o h n => s.frame a o h fun z => n (sub a z)⟩
  · by_cases hn : n ∈ ix
    · obtain ⟨i, hi⟩ := List.getElem?_of_mem hn
      obtain ⟨o0, q1, q2, q3⟩ := g i n hi
      obtain ⟨a, f1, f2, f3⟩ := w.obj n o0 q1 (fun z => by subst z; cases q3)
      rw [put_at ix S S2 i n nd hi (List.getElem?_eq_some_iff.mp q1).1 hlen] at h1
      have hi' : i < ix.length := (List.getElem?_eq_some_iff.mp hi).1
      obtain ⟨a2, g1, g2, g3⟩ := s.wd.obj i o h1 h2
      have ea : α2[i]? = some a := by
        rw [ht, List.getElem?_append_left (by rw [adrs_len]; exact hi'), adrs_get α ix i n hi, List.getD_eq_getElem?_getD, f1]
        rfl
      rw [ea] at g1; cases g1
      exact ⟨a, f1, g2, closed_ok (ok i o hi' h1) (Same.refl _) (fun _ z => z) g3 _⟩
    · rw [put_ne ix S S2 n hn] at h1
      obtain ⟨a, f1, f2, f3⟩ := w.obj n o h1 h2
      have hna : a ∉ adrs α ix := fun z => by
        obtain ⟨m, hm, em⟩ := adrs_mem z
        obtain ⟨i, hi⟩ := List.getElem?_of_mem hm
        obtain ⟨o0, q1, q2, q3⟩ := g i m hi
        obtain ⟨a', h4, _⟩ := w.obj m o0 q1 (fun z => by subst z; cases q3)
        have e1 : α.getD m 0 = a' := by rw [List.getD_eq_getElem?_getD, h4]; rfl
        have e2 : a' = a := e1.symm.trans em
        rw [e2] at h4
        have := nd_at w.nd f1 h4
        subst this
        exact hn hm
      obtain ⟨u, hu⟩ := w.trk a (List.mem_of_getElem? f1)
      refine ⟨a, f1, ?_, f3.mono s.bb ⟨[], by simp⟩ fun u z => s.frame a u z hna⟩
      cases q : B2 a with
      | none => rfl
      | some ob =>
        rcases s.newB a ob q with z | z | z
        · rw [f2] at z; cases z
        · rw [hu] at z; cases z
        · exact absurd z hna
  · by_cases ha2 : a ∈ adrs α ix
    · exact s.wd.trk a (by rw [ht]; exact List.mem_append_left _ ha2)
    · obtain ⟨u, hu⟩ := w.trk a ha
      exact ⟨u, s.frame a u hu ha2⟩
  · rcases s.newB a o h with z | z | z
    · exact .inl z
    · exact .inr (.inl z)
    · exact .inr (.inr (sub a z))

section
variable {X : Cx} {E : WX} {e : Expr} {es : List Expr} {wA : DA} {F : FS} {k j n : Nat} {f : Addr} {fd : FuncData} {ps : List Str} {x : Str} {p pos : Pos}
theorem run_call (mF : MonoF F) (mA : MonoA wA) (hn : ∀ (env : DEnv) (S : Sto) (k : DK) (kx : DX), callW F wA env S k kx → wA env S (fun xs S1 => xs.length = n ∧ (ptrs xs).Nodup ∧ ∃ os, objsAt S1 (ptrs xs) = some os ∧ F (ren xs 0) os (resK (ptrs xs) S1 k) (fun x S2 => okObjs (ptrs xs).length S2 ∧ kx x (putAll S1 (ptrs xs) S2))) kx)
    {σ : St} {H : Hp} {Q : VK} (h : eT K ga E (callW F wA) σ H Q) : aT K ga E wA σ H fun vs H1 => spD K ga F n vs H1 Q (WE E σ) := by
  obtain ⟨env, S, B, α, re, w, h⟩ := h
  refine ⟨env, S, B, α, re, w, mA env S _ _ _ _ (fun xs S1 ⟨hl, nd, os, e, h1⟩ vs H1 B1 α1 s1 r1 => ?_) (fun _ _ z => z) (hn _ _ _ _ h)⟩
  have r2 := ren_ok (K := K) (B := B1) [] r1 nd
  simp only [List.nil_append, List.length_nil] at r2
  refine ⟨by rw [r1.len]; exact hl, B1, adrs α1 (ptrs xs), os, ren xs 0, s1.wd.sub nd e, r2, mF _ _ _ _ _ _ (fun r S2 ⟨ok, z⟩ v H2 B2 α2 s2 r2 => ?_) (fun x S2 ⟨ok, z⟩ c d H2 B2 α2 s2 xr => ?_) h1⟩
  · have s3 := Stp.ofCall s1.wd nd e s2 ok
    cases r with
    | d y => exact z _ _ _ _ (s1.trans s3) r2
    | s y => exact z _ _ _ _ (s1.trans s3) r2
    | m y => exact z _ _ _ _ (s1.trans s3) r2
    | ce y => exact z.elim
    | cs y => exact z.elim
    | ev y => exact z.elim
    | es y => exact z.elim
    | cl y => exact z.elim
    | p j =>
      obtain ⟨hj, o, ho, hc, z⟩ := z
      obtain ⟨a, ha, rfl⟩ := r2
      obtain ⟨a', g1, g2, g3⟩ := s2.wd.obj j o ho (fun z => by subst z; cases hc)
      rw [ha] at g1; cases g1
      have hnew : a ∉ α1 := fun hm => by
        rcases s2.newA a (List.mem_of_getElem? ha) with q | q
        · obtain ⟨t, ht⟩ := s2.pre
          obtain ⟨i, hi⟩ := List.getElem?_of_mem q
          have hi' := (List.getElem?_eq_some_iff.mp hi).1
          rw [adrs_len] at hi'
          have h2 : α2[i]? = some a := by rw [ht, List.getElem?_append_left (by rw [adrs_len]; exact hi')]; exact hi
          have := nd_at s2.wd.nd ha h2
          omega
        · obtain ⟨u, hu⟩ := s1.wd.trk a hm
          rw [hu] at q; cases q
      have hfree : H1 a = none := by
        rcases s2.newA a (List.mem_of_getElem? ha) with q | q
        · exfalso
          obtain ⟨t, ht⟩ := s2.pre
          obtain ⟨i, hi⟩ := List.getElem?_of_mem q
          have hi' := (List.getElem?_eq_some_iff.mp hi).1
          rw [adrs_len] at hi'
          have h2 : α2[i]? = some a := by rw [ht, List.getElem?_append_left (by rw [adrs_len]; exact hi')]; exact hi
          have := nd_at s2.wd.nd ha h2
          omega
        · exact q
      have s4 : Stp K B1 α1 H1 B2 (α1 ++ [a]) (putAll S1 (ptrs xs) S2 ++ [o]) H2 := by
        refine ⟨⟨s3.wd.ex, by simp [s3.wd.len], fun m q h1 h2 => ?_, ?_, fun c hc => ?_⟩, s3.bb, ⟨[a], rfl⟩, s3.newB, fun c hc => ?_, s3.frame⟩
        · by_cases hm : m < (putAll S1 (ptrs xs) S2).length
          · rw [List.getElem?_append_left hm] at h1
            obtain ⟨c, f1, f2, f3⟩ := s3.wd.obj m q h1 h2
            exact ⟨c, by rw [List.getElem?_append_left (by rw [s3.wd.len]; exact hm)]; exact f1, f2, f3.mono (Same.refl _) ⟨[a], rfl⟩ fun _ z => z⟩
          · have hm2 := (List.getElem?_eq_some_iff.mp h1).1
            simp at hm2
            have : m = (putAll S1 (ptrs xs) S2).length := by omega
            subst this
            simp at h1
            subst h1
            exact ⟨a, by rw [← s3.wd.len]; simp, g2, closed_ok hc (Same.refl _) (fun _ z => z) g3 _⟩
        · refine List.nodup_append.mpr ⟨s1.wd.nd, by simp, fun c hc d hd => ?_⟩
          simp at hd
          subst hd
          intro z; subst z; exact hnew hc
        · rcases List.mem_append.mp hc with q | q
          · exact s3.wd.trk c q
          · simp at q; subst q; exact s2.wd.trk _ (List.mem_of_getElem? ha)
        · rcases List.mem_append.mp hc with q | q
          · exact .inl q
          · simp at q; subst q; exact .inr hfree
      refine z _ _ _ _ (s1.trans s4) ⟨a, ?_, rfl⟩
      have : S1.length = α1.length := s1.wd.len.symm
      rw [this]
      simp
  · exact z c d H2 B2 α1 (s1.trans (Stp.ofCall s1.wd nd e s2 ok)) xr
/-- how many arguments -/
def LenA (wA : DA) (n : Nat) : Prop := ∀ env S (k : List DV → Sto → Prop) kx, wA env S k kx → wA env S (fun xs S1 => xs.length = n ∧ k xs S1) kx
theorem lenA_nil : LenA nilA 0 := fun _ _ _ _ h => ⟨rfl, h⟩
theorem lenA_cons {w : DE} (m : MonoE w) {wA : DA} (mA : MonoA wA) {n : Nat} (h : LenA wA n) : LenA (consA w wA) (n + 1) := fun env S k kx q => m env S _ _ _ _ (fun x S1 z => mA env S1 _ _ _ _ (fun xs S2 ⟨u, v⟩ => ⟨by simp [u], v⟩) (fun _ _ z => z) (h env S1 _ _ z)) (fun _ _ z => z) q
theorem px_call (c : Ctx X E k) (Fn : FnOk X.prog X.w X.K X.mg X.base (L2.CX X.prog X.w) j f fd ps (spD X.K ga F n)) (hj : j ≤ k) (mF : MonoF F) (hg : Gl X x) (hm : X.mg x = some (.ref f)) (hk : PySem.W.keepIn X.K (.ref f) = true) (hb : Binds X.K fd ps [])
    (ha : PXA ga X E (e :: es) wA) (hl : LenA wA n) (hdb : (x == ("__debug__" : Str)) = false := by decide) (he : starEach (e :: es) X.env = (false, eval e X.env) :: starEach es X.env := by rfl) (hpl : (backTo pos (starEach es X.env)).any (·.1) = false := by rfl) :
    PX ga X E (.Call (.Name x p) (e :: es) [] pos) (callW F wA) :=
  ⟨mono_call mF ha.mono, ⟨fun pins s σ H Q I h => (pe_callS (E := WE E) Fn (c.room.mono hj) hg hm hk hb (fun σ => passAt c.tk σ) ha.run hdb he hpl).run pins s σ H Q I
    (run_call mF ha.mono (fun env S k kx q => hl env S _ kx q) h)⟩⟩
/-- f() -/
theorem pe_callS0 {sp : Sp} {E' : St → XK} (Fn : FnOk X.prog X.w X.K X.mg X.base (L2.CX X.prog X.w) j f fd ps sp) (hr : Room j X.A) (hg : Gl X x) (hm : X.mg x = some (.ref f)) (hk : PySem.W.keepIn X.K (.ref f) = true) (hb : Binds X.K fd ps []) (hx : ∀ σ, PassesAt (L2.CX X.prog X.w) X σ (E' σ))
    (hdb : (x == ("__debug__" : Str)) = false := by decide) : PE X (.Call (.Name x p) [] [] pos) (tCallS sp E' tNil) := by
  refine ⟨fun pins s σ H Q I h => ?_⟩
  refine wpAny_Call_Name_kw (ld_glob I hg hm ?_ hdb)
  exact PySem.W.callWith_K0 I.kIn hk (run_fnS (us := []) Fn hr hb (hx σ) I .nil h)
theorem px_call0 (c : Ctx X E k) (Fn : FnOk X.prog X.w X.K X.mg X.base (L2.CX X.prog X.w) j f fd [] (spD X.K ga F 0)) (hj : j ≤ k) (mF : MonoF F) (hg : Gl X x) (hm : X.mg x = some (.ref f)) (hk : PySem.W.keepIn X.K (.ref f) = true) (hb : Binds X.K fd [] [])
    (hdb : (x == ("__debug__" : Str)) = false := by decide) : PX ga X E (.Call (.Name x p) [] [] pos) (callW F nilA) := by
  have mA : MonoA nilA := fun env S k k' x x' hk hx h => hk _ _ h
  refine ⟨mono_call mF mA, ⟨fun pins s σ H Q I h => (pe_callS0 (E' := WE E) Fn (c.room.mono hj) hg hm hk hb (fun σ => passAt c.tk σ) hdb).run pins s σ H Q I ?_⟩⟩
  obtain ⟨env, S, B, α, re, w, h⟩ := run_call mF mA (fun env S k kx q => lenA_nil env S _ kx q) h
  exact h [] H B α (Stp.refl w) .nil
end
end
/-! ### raise, try -/
def raiseS (x : Str) : DS := fun env S D => D.ex env (.cls x) S
section
variable {ga : Str → Addr} {X : Cx} {E : WX} {k : Nat}
theorem pxs_raise {x m : Str} {j : Nat} {p p2 pos pos' : Pos} (c : Ctx X E k) (q : PySem.W.excIn X.K (ga x) [.type "ValueError", .type "Exception", .type "BaseException", .type "object"] "ValueError.__new__" = true) (gC : X.mg x = some (.ref (ga x))) (kC : PySem.W.keepIn X.K (.ref (ga x)) = true)
    (b1 : PySem.W.subIn X.K (.ref (ga x)) (.type "BaseException") = some true) (b2 : PySem.W.typeIn X.K (.ref (ga x)) = some (.type "type")) (hg : Gl X x) (hdb : (x == ("__debug__" : Str)) = false := by decide) :
    PXS ga X E (.Raise (some (.Call (.Name x p) [.Constant (.str m) j p2] [] pos)) none pos') (raiseS x) := by
  refine ⟨fun env S D D' h z => h.ex _ _ _ z, ⟨fun pins s σ H D I h => (ps_raise c.calm c.tk (pmk_own PySem.F.excBase_ValueError q gC kC (raises_own b1 b2) hg hdb)).run pins s σ H D I ?_⟩⟩
  obtain ⟨env, S, B, α, re, w, h⟩ := h
  exact h _ _ σ H B α (Stp.refl w) re ⟨rfl, rfl⟩
end
end DW

set_option Elab.async false
set_option linter.all false
set_option maxRecDepth 100000
set_option maxHeartbeats 4000000
set_option autoImplicit false
/-! EnT: for i, x in enumerate(a tuple). -/
namespace PySem
open Sem (wp)
theorem meets_enumerate_new1 {v : Value} {o : Obj} {H : Heap → Prop} (B : Begins v o H) :
    Meets (Builtin.«enumerate.__new__» ⟨[.type "enumerate", v], []⟩) (fun _ R s => H s.heap ∧
      R (.ok (.ret (.ref (s.heap.push o).objs.size))) { s with heap := (s.heap.push o).push { cls := .type "enumerate", data := .fields #[.none, .bool false, .ref s.heap.objs.size, rawInt 0, .none, .none] } }) :=
  .of_wp fun prog w A R s h => by
    obtain ⟨hp, g, d, tk, os⟩ := s; obtain ⟨h1, h⟩ := h
    have hsub := sub_enumerate
    have q1 : ∀ {A' : Around} {E : Value → Shared → Prop} {Q : Value → Shared → Prop}, Q (.ref hp.objs.size) ⟨hp.push o, g, d, tk, os⟩ → wpAny (model prog w) A' (pyIter v) Q E ⟨hp, g, d, tk, os⟩ :=
      fun q => B.iter prog w _ _ ⟨hp, g, d, tk, os⟩ _ h1 q
    wp_walk using q1
    refine wpAny_stack_any fun st => wpAny_pure ?_
    split
    · rename_i c _ _ _ _ _
      cases (c == Value.type "enumerate")
      · wp_walk using q1
        exact ⟨_, rfl, h⟩
      · wp_walk using q1
        exact ⟨_, rfl, h⟩
    · wp_walk using q1
      exact ⟨_, rfl, h⟩
section
variable {prog : Program} {w : World} {A : Around} {E : Value → Shared → Prop} {s : Shared}
theorem enum_begins1 {v : Value} {o : Obj} {H : Heap → Prop} {Q : Value → Shared → Prop} (B : Begins v o H) (h1 : H s.heap)
    (h : ∀ h', IsEnum h' (s.heap.objs.size + 1) s.heap.objs.size 0 .none → h'.get? s.heap.objs.size = some o → h'.objs.size = s.heap.objs.size + 2 →
      (∀ b o, s.heap.get? b = some o → h'.get? b = some o) → Q (.ref (s.heap.objs.size + 1)) { s with heap := h' }) :
    wpAny (model prog w) A (call (.type "enumerate") [v]) Q E s := by
  refine callType_new F.called_enumerate (by decide) (F.typeCall_enumerate_1 _) (F.newCall_enumerate_1 _) (fun obj => F.args_object_init_2 obj _) F.entry_enumerate_new
    (meets_enumerate_new1 B) ⟨h1, ?_⟩
  have hz : (s.heap.push o).objs.size = s.heap.objs.size + 1 := Heap.size_push ..
  show _ ∧ _
  rw [hz]
  have he : IsEnum ((s.heap.push o).push { cls := .type "enumerate", data := .fields #[.none, .bool false, .ref s.heap.objs.size, rawInt 0, .none, .none] }) (s.heap.objs.size + 1) s.heap.objs.size 0 .none := by
    have := Heap.get?_push_size (s.heap.push o) (o := { cls := .type "enumerate", data := .fields #[.none, .bool false, .ref s.heap.objs.size, rawInt 0, .none, .none] }) rfl
    rw [hz] at this; exact this
  refine ⟨⟨_, he, rfl⟩, h _ he (Heap.get?_push_of_some _ (Heap.get?_push_size _ B.free)) (by rw [Heap.size_push, hz]) fun b o x => Heap.get?_push_of_some _ (Heap.get?_push_of_some _ x)⟩
end
end PySem
namespace L2
open PySem PySem.Spec PyProof.Rows
def IteT (K : PySem.W.Frag) (a : Addr) : It :=
  ⟨fun i H => ∃ (xs : List V) (x : V), SqT K H a xs ∧ xs[i]? = some x, fun i H v H' => ∃ T x, v = .ref T ∧ H T = none ∧ H' = upd H T (.tup [.int (i : Nat), x]) ∧ ∀ xs, SqT K H a xs → xs[i]? = some x, fun i H => ∃ xs : List V, SqT K H a xs ∧ xs.length = i⟩
theorem turn_enumT {P : Program} {w : World} {K : PySem.W.Frag} {elts : List Expr} {kk : Nat} {tpos : Pos} (a e it : Addr) :
    Turn P w K (.Tuple elts kk tpos) (IteT K a) [e, it] e (fun i h => (∃ old, IsEnum h e it ((i : Nat) : Int) old) ∧ h.IsTupleIter it a i ∧ e ≠ it) where
  mem := by simp
  obj := fun i h st b hb => by
    obtain ⟨⟨old, he⟩, ⟨o, ho, hc, hd⟩, _⟩ := st
    have e' : b = e ∨ b = it := by simpa using hb
    rcases e' with z | z
    · rw [z]; exact ⟨_, he, fun v q => nomatch q⟩
    · rw [z]; exact ⟨o, ho, fun v q => by rw [hd] at q; cases q⟩
  keep := fun i h h' st k => let ⟨⟨old, he⟩, hi, hne⟩ := st; ⟨⟨old, k e (by simp) _ he⟩, hi.at fun o q => k it (by simp) o q, hne⟩
  item := by
    intro X hP hw hK hc i pins s σ H E I hf st hg
    subst hP hw hK
    obtain ⟨⟨old, he⟩, hit, hne⟩ := st
    obtain ⟨xs, x, hq, hx⟩ := hg
    obtain ⟨its, rv, p, hz⟩ := I.tuple hq
    obtain ⟨u, hu, ru⟩ := rv.get hx
    have hel : e < s.heap.objs.size := Heap.lt_size he
    have hil : it < s.heap.objs.size := by obtain ⟨_, q, _⟩ := hit; exact Heap.lt_size q
    have hai : a ≠ it := fun z => by
      subst z
      obtain ⟨o1, f1, f2, _⟩ := hit
      obtain ⟨o2, g1, g2, _⟩ := p
      rw [f1] at g1; cases g1
      exact absurd (f2.symm.trans g2) (by decide)
    have D := Draws.tuple (prog := X.prog) (w := X.w) (A := X.A.in1) (I.ok.hd hc) it a hai its.toArray
    have hae : e ∉ [it, a] := fun z => by
      rcases List.mem_cons.mp z with z | z
      · exact hne z
      · have : e = a := by simpa using z
        subst this
        obtain ⟨o2, g1, g2, _⟩ := p
        rw [he] at g1; cases g1
        exact absurd (show Value.type "enumerate" = Value.type "tuple" from g2) (by decide)
    have hlt : i < its.toArray.size := by
      have := (List.getElem?_eq_some_iff.mp hu).1
      simpa using this
    refine wpAny_pyNext_enum_itemD D he ⟨hit, p⟩ hlt hne hae fun x' h' tk hx' ho hst' hT hsz hk => ?_
    have ex : x' = u := by
      have e1 : its.toArray[i]? = some x' := hx'
      have e2 : its.toArray[i]? = some u := by simpa using hu
      rw [e2] at e1; exact (Option.some.inj e1).symm
    subst ex
    refine ⟨_, rfl, wpAny_letOwnedTupleGo_enum (s := { s with heap := h', toks := tk + 1 }) ho fun h'' he' sb => ?_⟩
    have hT2 : h''.get? s.heap.objs.size = some { cls := .type "tuple", data := .seq #[.int i tk, x'] } := (sb.2 _ (Nat.ne_of_gt hel)).trans hT
    have new : ObjOk X.prog X.w (upd H s.heap.objs.size (.tup [.int (i : Nat), x])) h'' s.heap.objs.size (.tup [.int (i : Nat), x]) :=
      ⟨by show 2 ≤ sizeLine; decide, [.int i tk, x'], .cons ⟨_, rfl⟩ (.cons ru .nil), ⟨_, hT2, rfl, _, rfl⟩⟩
    have I1 : Inv X pins σ (upd H s.heap.objs.size (.tup [.int (i : Nat), x])) { s with heap := h'', toks := tk + 1 } :=
      I.turnedNew (ch := [e, it]) (fun b ob hb q => (sb.2 b (fun z => hb (by simp [z]))).trans (hk b ob (fun z => hb (by simp [z])) (fun z => hb (by simp [z])) q)) hf (Nat.le_refl _) new
    refine ⟨.ref s.heap.objs.size, _, I1, rfl, ⟨_, x, rfl, I.hok.fresh (Nat.le_refl _), rfl, fun ys hy => by rw [I.tuple_inj hy hq]; exact hx⟩, ⟨⟨x', ?_⟩, hst'.1.at fun o q => (sb.2 it (Ne.symm hne)).trans q, hne⟩, fun b hb => ?_⟩
    · have e1 : ((i + 1 : Nat) : Int) = (i : Int) + 1 := by omega
      rw [e1]; exact he'
    · have hb' : b < s.heap.objs.size := by
        have e' : b = e ∨ b = it := by simpa using hb
        rcases e' with z | z
        · rw [z]; exact hel
        · rw [z]; exact hil
      rw [upd_ne (Nat.ne_of_lt hb')]
      exact (hf b hb).1
  done := by
    intro X hP hw hK hc i pins s σ H E I hf st hg
    subst hP hw hK
    obtain ⟨⟨old, he⟩, hit, hne⟩ := st
    obtain ⟨xs, hq, hx⟩ := hg
    obtain ⟨its, rv, p, hz⟩ := I.tuple hq
    obtain ⟨f0, f1, f2, f3, f4, f5⟩ := hf it (by simp)
    have hl := rv.length
    have hai : a ≠ it := fun z => by
      subst z
      obtain ⟨o1, f1, f2, _⟩ := hit
      obtain ⟨o2, g1, g2, _⟩ := p
      rw [f1] at g1; cases g1
      exact absurd (f2.symm.trans g2) (by decide)
    have D := Draws.tuple (prog := X.prog) (w := X.w) (A := X.A.in1) (I.ok.hd hc) it a hai its.toArray
    have hn : i = its.toArray.size := by simp; omega
    subst hn
    exact wpAny_pyNext_enum_endD D he ⟨hit, p⟩ fun h' eb => ⟨rfl, I.turned (t' := s.toks) (fun b o hb q => eb b o hb q) f0 f1 f3 f4 f5⟩
  self := fun A i s Q E st h => let ⟨⟨_, he⟩, _⟩ := st; wpAny_pyIter_enum he h
theorem walk_enumT {K : PySem.W.Frag} {a : Addr} {xs : List V} : Walk (IteT K a) xs.length (fun H => SqT K H a xs) (YPair (fun i => some (.int (i : Nat))) (fun i => xs[i]?)) :=
  ⟨fun i H hi h => ⟨xs, xs[i], h, by simp [hi]⟩, fun H h => ⟨xs, h, rfl⟩, fun i H x H' hi h ⟨T, x, e1, e2, e3, e4⟩ => ⟨T, _, x, e1, e2, e3, rfl, e4 xs h⟩⟩
def iEnumT (K : PySem.W.Frag) (ta : TA) : TI := fun σ H R => ta σ H fun vs H1 => ∃ a xs, vs = [.ref a] ∧ ((SqL K H1 a xs ∧ R (Ite K a) H1) ∨ (SqT K H1 a xs ∧ R (IteT K a) H1))
theorem pi_enumT {X : Cx} {e : Expr} {ta : TA} {p pos tpos : Pos} {elts : List Expr} {kk : Nat} (hg : Gl X "enumerate") (hm : X.mg "enumerate" = none) (ha : PA X [e] ta) (hs : starEach [e] X.env = [(false, eval e X.env)] := by rfl) :
    PI X (.Tuple elts kk tpos) (.Call (.Name "enumerate" p) [e] [] pos) (iEnumT X.K ta) := by
  refine ⟨fun pins s σ H R I h => ?_⟩
  refine Call_ (ld_blt I hg hm boot_enumerate (PyProof.Rows.callWith_type1 (thn (ha.run pos pins s σ H _ I h) fun us s1 ⟨vs, H1, I1, r1, q1⟩ => ?_) hs rfl))
  obtain ⟨a, xs, ex, q1⟩ := q1
  subst ex
  cases r1 with
  | cons r rr =>
    cases rr
    cases r
    have fp : ∀ b ∈ [s1.heap.objs.size + 1, s1.heap.objs.size], FpOk X pins H1 b := fun b hb => by
      have e' : b = s1.heap.objs.size + 1 ∨ b = s1.heap.objs.size := by simpa using hb
      have hle : s1.heap.objs.size ≤ b := by
        rcases e' with z | z
        · rw [z]; exact Nat.le_add_right _ _
        · rw [z]; exact Nat.le_refl _
      exact I1.fpOk hle (I1.hok.fresh hle)
    rcases q1 with ⟨hq, q⟩ | ⟨hq, q⟩
    · obtain ⟨its, rv, p', hz⟩ := I1.list hq
      refine call_enumerate_list p'.isList fun h' he hit hsz hk => wpAny_pyIter_enum he ?_
      have I2 : Inv X pins σ H1 { s1 with heap := h' } := I1.kept (t' := s1.toks) hk
      exact ⟨s1.heap.objs.size + 1, [s1.heap.objs.size + 1, s1.heap.objs.size], _, _, H1, rfl, I2, turn_enum a (s1.heap.objs.size + 1) s1.heap.objs.size, ⟨⟨.none, he⟩, hit, Nat.succ_ne_self _⟩, fp, q⟩
    · obtain ⟨its, rv, p', hz⟩ := I1.tuple hq
      refine enum_begins1 (begins_tuple a its.toArray) p' fun h' he hit hsz hk => wpAny_pyIter_enum he ?_
      have I2 : Inv X pins σ H1 { s1 with heap := h' } := I1.kept (t' := s1.toks) hk
      exact ⟨s1.heap.objs.size + 1, [s1.heap.objs.size + 1, s1.heap.objs.size], _, _, H1, rfl, I2, turn_enumT a (s1.heap.objs.size + 1) s1.heap.objs.size, ⟨⟨.none, he⟩, ⟨_, hit, rfl, rfl⟩, Nat.succ_ne_self _⟩, fp, q⟩
end L2

set_option Elab.async false
set_option linter.all false
set_option maxRecDepth 100000
set_option maxHeartbeats 4000000
set_option autoImplicit false
/-! DW8: loops. -/
namespace DW
open PySem L2

abbrev DI := DEnv → Sto → (List DV → Sto → Prop) → DX → Prop
/-- J yields just xs, on top of B -/
def ItOk (K : PySem.W.Frag) (J : It) (B : Hp) (α : List Addr) (xs : List DV) : Prop :=
  ∃ (G : Hp → Prop) (Y : Nat → Hp → V → Hp → Prop), Walk J xs.length G Y ∧ (∀ H', Same B H' → G H') ∧
    ∀ (i : Nat) (x : DV) (v : V) (H' H'' B' : Hp) (α' : List Addr) (S' : Sto), xs[i]? = some x → Wd K B' α' S' H' → Same B B' → (∃ t, α' = α ++ t) → Y i H' v H'' → ∃ B'', Stp K B' α' H' B'' α' S' H'' ∧ VR K B'' α' v x
def iT (K : PySem.W.Frag) (ga : Str → Addr) (E : WX) (w : DI) : TI := fun σ H R => ∃ env S B α, RelE K B α env σ ∧ Wd K B α S H ∧ w env S (fun xs S' => ∀ J H' B' α', Stp K B α H B' α' S' H' → ItOk K J B' α' xs → R J H') (kxT K ga B α H (WE E σ))
structure PXI (ga : Str → Addr) (X : Cx) (E : WX) (tg iter : Expr) (w : DI) : Prop where
  mono : MonoA w
  run : PI X tg iter (iT X.K ga E w)
def notP : DV → Prop
  | .p _ => False
  | _ => True
def seqI (we : DE) : DI := fun env S k kx => we env S (fun x S1 => notP x ∧ ∃ c ds, seqD x S1 = some (c, ds) ∧ k (ds.map .d) S1) kx
def rng1I (we : DE) : DI := fun env S k kx => we env S (fun x S1 => ∃ n, x = .d (.int n) ∧ -100000 ≤ n ∧ n ≤ 100000 ∧ k ((rgD 0 n).map .d) S1) kx
def rng2I (wa wb : DE) : DI := fun env S k kx => wa env S (fun x S1 => wb env S1 (fun y S2 => ∃ m n, x = .d (.int m) ∧ y = .d (.int n) ∧ -100000 ≤ m ∧ m ≤ 100000 ∧ -100000 ≤ n ∧ n ≤ 100000 ∧ k ((rgD m n).map .d) S2) kx) kx
def enD : Nat → List PyData → List DV
  | _, [] => []
  | i, d :: ds => .d (.tuple [.int (i : Nat), d]) :: enD (i + 1) ds
def enumI (we : DE) : DI := fun env S k kx => we env S (fun x S1 => notP x ∧ ∃ c ds, seqD x S1 = some (c, ds) ∧ k (enD 0 ds) S1) kx
def zipD : List PyData → List PyData → List DV
  | d :: ds, e :: es => .d (.tuple [d, e]) :: zipD ds es
  | _, _ => []
def zipI (wa wb : DE) : DI := fun env S k kx => wa env S (fun x S1 => wb env S1 (fun y S2 => notP x ∧ notP y ∧ ∃ c ds es, seqD x S1 = some (c, ds) ∧ seqD y S2 = some (c, es) ∧ k (zipD ds es) S2) kx) kx
section
variable {K : PySem.W.Frag} {B B' : Hp} {α α' : List Addr} {S S' : Sto} {H H' : Hp} {v : V} {x : DV}
/-- as seq_ok, for good -/
theorem seq_B {k : Bool} {ds : List PyData} (w : Wd K B α S H) (r : VR K B α v x) (hx : notP x) (e : seqD x S = some (k, ds)) : ∃ a vs, v = .ref a ∧ (if k = true then SqL K B a vs else SqT K B a vs) ∧ DqAll K B vs ds := by
  cases x with
  | p n => exact hx.elim
  | d y =>
    cases y with
    | list xs =>
      cases r with
      | lst h q =>
        simp only [seqD, Option.some.injEq, Prod.mk.injEq] at e
        obtain ⟨rfl, rfl⟩ := e
        exact ⟨_, _, rfl, SqL.of h, q⟩
    | tuple xs =>
      cases r with
      | tup h q =>
        simp only [seqD, Option.some.injEq, Prod.mk.injEq] at e
        obtain ⟨rfl, rfl⟩ := e
        exact ⟨_, _, rfl, h, q⟩
    | _ => simp [seqD] at e
  | s ns =>
    obtain ⟨a, rfl, h⟩ := r
    simp only [seqD, Option.some.injEq, Prod.mk.injEq] at e
    obtain ⟨rfl, rfl⟩ := e
    exact ⟨a, _, rfl, h, dq_ints ns⟩
  | m kvs => simp [seqD] at e
  | ce z => simp [seqD] at e
  | cs z => simp [seqD] at e
  | ev z => simp [seqD] at e
  | es z => simp [seqD] at e
  | cl z => simp [seqD] at e
theorem it_list {a : Addr} {vs : List V} {ds : List PyData} (h : SqL K B a vs) (r : DqAll K B vs ds) : ItOk K (Itl K a) B α (ds.map .d) := by
  refine ⟨fun H => SqL K H a vs, YAt vs, by rw [List.length_map, ← r.len]; exact walk_list, fun H' s => same_l s h, fun i x v H' H'' B' α' S' e w s _ y => ?_⟩
  obtain ⟨rfl, hv⟩ := y
  rw [List.getElem?_map] at e
  cases q : ds[i]? with
  | none => rw [q] at e; cases e
  | some d =>
    rw [q] at e; cases e
    obtain ⟨v', h1, h2⟩ := r.get q
    rw [hv] at h1; cases h1
    exact ⟨B', Stp.refl w, Dq.same s h2⟩
theorem it_tup {a : Addr} {vs : List V} {ds : List PyData} (h : SqT K B a vs) (r : DqAll K B vs ds) : ItOk K (Itt K a) B α (ds.map .d) := by
  refine ⟨fun H => SqT K H a vs, YAt vs, by rw [List.length_map, ← r.len]; exact walk_tup, fun H' s => same_t s h, fun i x v H' H'' B' α' S' e w s _ y => ?_⟩
  obtain ⟨rfl, hv⟩ := y
  rw [List.getElem?_map] at e
  cases q : ds[i]? with
  | none => rw [q] at e; cases e
  | some d =>
    rw [q] at e; cases e
    obtain ⟨v', h1, h2⟩ := r.get q
    rw [hv] at h1; cases h1
    exact ⟨B', Stp.refl w, Dq.same s h2⟩
theorem it_range {lo hi : Int} : ItOk K (Itr lo (hi - lo).toNat) B α ((rgD lo hi).map .d) := by
  refine ⟨fun _ => True, YFn fun i => .int (lo + i), by simpa [rgD] using walk_range, fun _ _ => trivial, fun i x v H' H'' B' α' S' e w s _ y => ?_⟩
  obtain ⟨rfl, rfl⟩ := y
  have hi' := (List.getElem?_eq_some_iff.mp e).1
  simp [rgD] at hi'
  have : ((rgD lo hi).map DV.d)[i]? = some (.d (.int (lo + (i : Nat)))) := by simp [rgD, hi']
  rw [this] at e; cases e
  exact ⟨B', Stp.refl w, .int _⟩
theorem enD_get : ∀ (ds : List PyData) (k i : Nat) (x : DV), (enD k ds)[i]? = some x → ∃ d, ds[i]? = some d ∧ x = .d (.tuple [.int ((k + i : Nat) : Int), d])
  | [], _, _, _, e => by simp [enD] at e
  | d :: ds, k, 0, x, e => by simp [enD] at e; exact ⟨d, rfl, e.symm⟩
  | d :: ds, k, i + 1, x, e => by
    obtain ⟨d', h1, h2⟩ := enD_get ds (k + 1) i x (by simpa [enD] using e)
    exact ⟨d', by simpa using h1, by rw [h2]; congr 4; omega⟩
theorem enD_len : ∀ (ds : List PyData) (k : Nat), (enD k ds).length = ds.length
  | [], _ => rfl
  | d :: ds, k => by simp [enD, enD_len ds (k + 1)]
theorem it_pair {J : It} {G : Hp → Prop} {n : Nat} {f g : Nat → Option V} {xs : List DV} (hw : Walk J n G (YPair f g)) (hn : xs.length = n) (hG : ∀ H', Same B H' → G H')
    (h : ∀ (i : Nat) (x : DV), xs[i]? = some x → ∃ v u d e, f i = some v ∧ g i = some u ∧ x = .d (.tuple [d, e]) ∧ Dq K B v d ∧ Dq K B u e) : ItOk K J B α xs := by
  subst hn
  refine ⟨G, _, hw, hG, fun i x v H' H'' B' α' S' e w s _ y => ?_⟩
  obtain ⟨T, v1, v2, rfl, hT, rfl, h1, h2⟩ := y
  obtain ⟨w1, w2, d, e', f1, f2, rfl, q1, q2⟩ := h i x e
  rw [h1] at f1; cases f1
  rw [h2] at f2; cases f2
  refine ⟨upd B' T (.tup [v1, v2]), w.fresh hT, .tup (SqT.of upd_same) ?_⟩
  have sm := Same.upd_none (o := .tup [v1, v2]) (w.ex.free hT)
  exact .cons (Dq.same sm (Dq.same s q1)) (.cons (Dq.same sm (Dq.same s q2)) .nil)
theorem it_enumL {a : Addr} {vs : List V} {ds : List PyData} (h : SqL K B a vs) (r : DqAll K B vs ds) : ItOk K (Ite K a) B α (enD 0 ds) :=
  it_pair walk_enum (by rw [enD_len, r.len]) (fun H' s => same_l s h) fun i x e => by
    obtain ⟨d, h1, rfl⟩ := enD_get ds 0 i x e
    obtain ⟨v, h2, h3⟩ := r.get h1
    exact ⟨_, v, _, d, rfl, h2, rfl, by rw [Nat.zero_add]; exact .int _, h3⟩
theorem it_enumT {a : Addr} {vs : List V} {ds : List PyData} (h : SqT K B a vs) (r : DqAll K B vs ds) : ItOk K (IteT K a) B α (enD 0 ds) :=
  it_pair walk_enumT (by rw [enD_len, r.len]) (fun H' s => same_t s h) fun i x e => by
    obtain ⟨d, h1, rfl⟩ := enD_get ds 0 i x e
    obtain ⟨v, h2, h3⟩ := r.get h1
    exact ⟨_, v, _, d, rfl, h2, rfl, by rw [Nat.zero_add]; exact .int _, h3⟩
theorem zipD_len : ∀ (ds es : List PyData), (zipD ds es).length = min ds.length es.length
  | [], _ => by simp [zipD]
  | _ :: _, [] => by simp [zipD]
  | d :: ds, e :: es => by simp [zipD, zipD_len ds es]
theorem zipD_get : ∀ (ds es : List PyData) (i : Nat) (x : DV), (zipD ds es)[i]? = some x → ∃ d e, ds[i]? = some d ∧ es[i]? = some e ∧ x = .d (.tuple [d, e])
  | [], _, _, _, e => by simp [zipD] at e
  | _ :: _, [], _, _, e => by simp [zipD] at e
  | d :: ds, e :: es, 0, x, q => by simp [zipD] at q; exact ⟨d, e, rfl, rfl, q.symm⟩
  | d :: ds, e :: es, i + 1, x, q => by simpa using zipD_get ds es i x (by simpa [zipD] using q)
theorem walk_zipT {a b : Addr} {xs ys : List V} {n : Nat} (hn : n = min xs.length ys.length) : Walk (RZ.ItzT K a b) n (fun H => SqT K H a xs ∧ SqT K H b ys) (YPair (fun i => xs[i]?) (fun i => ys[i]?)) :=
  ⟨fun i H hi h => ⟨xs, ys, xs[i]'(by omega), ys[i]'(by omega), h.1, h.2, by simp, by simp⟩, fun H h => ⟨xs, ys, h.1, h.2, by omega⟩, fun i H x H' hi h ⟨T, x1, y1, e1, e2, e3, e4, e5⟩ => ⟨T, x1, y1, e1, e2, e3, e4 xs h.1, e5 ys h.2⟩⟩
theorem it_zipT {a b : Addr} {vs us : List V} {ds es : List PyData} (h : SqT K B a vs) (h' : SqT K B b us) (r : DqAll K B vs ds) (r' : DqAll K B us es) : ItOk K (RZ.ItzT K a b) B α (zipD ds es) :=
  it_pair (walk_zipT rfl) (by rw [zipD_len, r.len, r'.len]) (fun H' s => ⟨same_t s h, same_t s h'⟩) fun i x e => by
    obtain ⟨d, e', h1, h2, rfl⟩ := zipD_get ds es i x e
    obtain ⟨v, f1, f2⟩ := r.get h1
    obtain ⟨u, g1, g2⟩ := r'.get h2
    exact ⟨v, u, d, e', f1, g1, rfl, f2, g2⟩
theorem it_zipL {a b : Addr} {vs us : List V} {ds es : List PyData} (h : SqL K B a vs) (h' : SqL K B b us) (r : DqAll K B vs ds) (r' : DqAll K B us es) : ItOk K (Itz K a b) B α (zipD ds es) :=
  it_pair (walk_zip rfl) (by rw [zipD_len, r.len, r'.len]) (fun H' s => ⟨same_l s h, same_l s h'⟩) fun i x e => by
    obtain ⟨d, e', h1, h2, rfl⟩ := zipD_get ds es i x e
    obtain ⟨v, f1, f2⟩ := r.get h1
    obtain ⟨u, g1, g2⟩ := r'.get h2
    exact ⟨v, u, d, e', f1, g1, rfl, f2, g2⟩
end
/-- a list or a tuple that is walked -/
theorem pxi_zip0 : True := trivial
def iSeq (K : PySem.W.Frag) (tl : TE) : TI := fun σ H R => tl σ H fun x H1 => ∃ a, x = .ref a ∧ ((∃ xs, SqL K H1 a xs) ∧ R (Itl K a) H1 ∨ (∃ xs, SqT K H1 a xs) ∧ R (Itt K a) H1)
theorem pi_seq {X : Cx} {tg l : Expr} {tl : TE} (hl : PE X l tl) : PI X tg l (iSeq X.K tl) := by
  refine ⟨fun pins s σ H R I h => ?_⟩
  refine thn (hl.run pins s σ H _ I h) fun v s1 ⟨x, H1, I1, r1, q1⟩ => ?_
  obtain ⟨a, e, q⟩ := q1
  subst e
  cases r1
  have fp : ∀ b ∈ [s1.heap.objs.size], FpOk X pins H1 b := fun b hb => by
    have e : b = s1.heap.objs.size := by simpa using hb
    subst e
    exact I1.fpOk (Nat.le_refl _) (I1.hok.fresh (Nat.le_refl _))
  rcases q with ⟨⟨xs, hq⟩, q⟩ | ⟨⟨xs, hq⟩, q⟩
  · obtain ⟨its, rv, p, hz⟩ := I1.list hq
    refine wpAny_pyIter_list p.isList ?_
    exact ⟨s1.heap.objs.size, [s1.heap.objs.size], _, _, H1, rfl, I1.kept (t' := s1.toks) fun b o e => Heap.get?_push_of_some _ e, turn_list a _, ⟨_, Heap.get?_push_size _ rfl, rfl, rfl⟩, fp, q⟩
  · obtain ⟨its, rv, p, hz⟩ := I1.tuple hq
    refine wpAny_pyIter_tuple (show s1.heap.IsTuple a its.toArray from p) ?_
    exact ⟨s1.heap.objs.size, [s1.heap.objs.size], _, _, H1, rfl, I1.kept (t' := s1.toks) fun b o e => Heap.get?_push_of_some _ e, turn_tuple a _, ⟨_, Heap.get?_push_size _ rfl, rfl, rfl⟩, fp, q⟩

section
variable {ga : Str → Addr} {X : Cx} {E : WX} {a b e o : Expr} {es elts : List Expr} {wa wb we : DE} {wA : DA} {pos apos p2 p p' tpos : Pos} {tg : Expr} {kk k : Nat}
theorem pxi_seq (he : PX ga X E e we) : PXI ga X E tg e (seqI we) := by
  refine ⟨fun env S k k' x x' hk hx h => he.mono env S _ _ _ _ (fun y S1 ⟨n, c, ds, e, h1⟩ => ⟨n, c, ds, e, hk _ _ h1⟩) hx h, ⟨fun pins s σ H R I h => (pi_seq he.run).run pins s σ H R I ?_⟩⟩
  obtain ⟨env, S, B, α, re, w, h⟩ := h
  refine ⟨env, S, B, α, re, w, he.mono env S _ _ _ _ (fun y S1 ⟨n, c, ds, e, h1⟩ v1 H1 B1 α1 s1 r1 => ?_) (fun _ _ z => z) h⟩
  obtain ⟨a, vs, rfl, h2, h3⟩ := seq_B s1.wd r1 n e
  refine ⟨a, rfl, ?_⟩
  cases c with
  | true => exact .inl ⟨⟨vs, same_l s1.wd.ex h2⟩, h1 _ _ _ _ s1 (it_list h2 h3)⟩
  | false => exact .inr ⟨⟨vs, same_t s1.wd.ex h2⟩, h1 _ _ _ _ s1 (it_tup h2 h3)⟩
theorem pxi_rng1 (gl : Gl X "range") (hm : X.mg "range" = none) (he : PX ga X E e we) (hs : starEach [e] X.env = [(false, eval e X.env)] := by rfl) : PXI ga X E tg (.Call (.Name "range" p) [e] [] pos) (rng1I we) := by
  refine ⟨fun env S k k' x x' hk hx h => he.mono env S _ _ _ _ (fun y S1 ⟨n, e, e1, e2, h1⟩ => ⟨n, e, e1, e2, hk _ _ h1⟩) hx h, ⟨fun pins s σ H R I h => (pi_range1 gl hm (pa_cons he.run pa_nil hs) hs).run pins s σ H R I ?_⟩⟩
  obtain ⟨env, S, B, α, re, w, h⟩ := h
  refine ⟨env, S, B, α, re, w, he.mono env S _ _ _ _ (fun y S1 ⟨n, e, e1, e2, h1⟩ v1 H1 B1 α1 s1 r1 => ?_) (fun _ _ z => z) h⟩
  subst e
  cases r1
  refine ⟨n, rfl, by omega, by omega, ?_⟩
  have := it_range (K := X.K) (B := B1) (α := α1) (lo := 0) (hi := n)
  rw [Int.sub_zero] at this
  exact h1 _ _ _ _ s1 this
theorem pxi_rng2 (gl : Gl X "range") (hm : X.mg "range" = none) (ha : PX ga X E a wa) (hb : PX ga X E b wb) (hs : starEach [a, b] X.env = [(false, eval a X.env), (false, eval b X.env)] := by rfl) (hs2 : starEach [b] X.env = [(false, eval b X.env)] := by rfl) :
    PXI ga X E tg (.Call (.Name "range" p) [a, b] [] pos) (rng2I wa wb) := by
  refine ⟨fun env S k k' x x' hk hx h => ha.mono env S _ _ _ _ (fun y S1 h1 => hb.mono env S1 _ _ _ _ (fun z S2 ⟨m, n, e1, e2, f1, f2, f3, f4, h2⟩ => ⟨m, n, e1, e2, f1, f2, f3, f4, hk _ _ h2⟩) hx h1) hx h,
    ⟨fun pins s σ H R I h => (pi_range2 gl hm (pa_cons ha.run (pa_cons hb.run pa_nil (by rw [hs2]; rfl)) (by rw [hs, hs2])) hs hs2).run pins s σ H R I ?_⟩⟩
  obtain ⟨env, S, B, α, re, w, h⟩ := h
  refine ⟨env, S, B, α, re, w, ha.mono env S _ _ _ _ (fun y S1 h1 v1 H1 B1 α1 s1 r1 => ?_) (fun _ _ z => z) h⟩
  refine ⟨env, S1, B1, α1, re.mono s1.bb s1.pre, s1.wd, hb.mono env S1 _ _ _ _ (fun z S2 ⟨m, n, e1, e2, f1, f2, f3, f4, h2⟩ v2 H2 B2 α2 s2 r2 => ?_) (fun _ _ z => kxT.after s1 z) h1⟩
  subst e1; subst e2
  cases r1; cases r2
  exact ⟨m, n, rfl, ⟨by omega, by omega, by omega, by omega⟩, h2 _ _ _ _ (s1.trans s2) it_range⟩
theorem pxi_enum (gl : Gl X "enumerate") (hm : X.mg "enumerate" = none) (he : PX ga X E e we) (hs : starEach [e] X.env = [(false, eval e X.env)] := by rfl) : PXI ga X E (.Tuple elts kk tpos) (.Call (.Name "enumerate" p) [e] [] pos) (enumI we) := by
  refine ⟨fun env S k k' x x' hk hx h => he.mono env S _ _ _ _ (fun y S1 ⟨n, c, ds, e, h1⟩ => ⟨n, c, ds, e, hk _ _ h1⟩) hx h, ⟨fun pins s σ H R I h => (pi_enumT gl hm (pa_cons he.run pa_nil hs) hs).run pins s σ H R I ?_⟩⟩
  obtain ⟨env, S, B, α, re, w, h⟩ := h
  refine ⟨env, S, B, α, re, w, he.mono env S _ _ _ _ (fun y S1 ⟨n, c, ds, e, h1⟩ v1 H1 B1 α1 s1 r1 => ?_) (fun _ _ z => z) h⟩
  obtain ⟨a, vs, rfl, h2, h3⟩ := seq_B s1.wd r1 n e
  refine ⟨a, vs, rfl, ?_⟩
  cases c with
  | true => exact .inl ⟨same_l s1.wd.ex h2, h1 _ _ _ _ s1 (it_enumL h2 h3)⟩
  | false => exact .inr ⟨same_t s1.wd.ex h2, h1 _ _ _ _ s1 (it_enumT h2 h3)⟩
theorem pxi_zip (hc : X.calm = true) (gl : Gl X "zip") (hm : X.mg "zip" = none) (ha : PX ga X E a wa) (hb : PX ga X E b wb) (hs : starEach [a, b] X.env = (false, eval a X.env) :: starEach [b] X.env := by rfl) (hs2 : starEach [b] X.env = (false, eval b X.env) :: starEach [] X.env := by rfl) (hpl : (backTo pos (starEach [b] X.env)).any (·.1) = false := by rfl) :
    PXI ga X E (.Tuple elts kk tpos) (.Call (.Name "zip" p) [a, b] [] pos) (zipI wa wb) := by
  refine ⟨fun env S k k' x x' hk hx h => ha.mono env S _ _ _ _ (fun y S1 h1 => hb.mono env S1 _ _ _ _ (fun z S2 ⟨m, n, c, ds, es, e1, e2, h2⟩ => ⟨m, n, c, ds, es, e1, e2, hk _ _ h2⟩) hx h1) hx h,
    ⟨fun pins s σ H R I h => (RZ.pi_zipA gl hm (pa_cons ha.run (pa_cons hb.run pa_nil hs2) hs) hs hpl).run pins s σ H R I ?_⟩⟩
  obtain ⟨env, S, B, α, re, w, h⟩ := h
  refine ⟨env, S, B, α, re, w, ha.mono env S _ _ _ _ (fun y S1 h1 v1 H1 B1 α1 s1 r1 => ?_) (fun _ _ z => z) h⟩
  refine ⟨env, S1, B1, α1, re.mono s1.bb s1.pre, s1.wd, hb.mono env S1 _ _ _ _ (fun z S2 ⟨m, n, c, ds, es, e1, e2, h2⟩ v2 H2 B2 α2 s2 r2 => ?_) (fun _ _ z => kxT.after s1 z) h1⟩
  obtain ⟨a1, vs, rfl, f1, f2⟩ := seq_B s1.wd r1 m e1
  obtain ⟨a2, us, rfl, g1, g2⟩ := seq_B s2.wd r2 n e2
  refine ⟨a1, a2, vs, us, rfl, ?_⟩
  cases c with
  | true => exact .inl ⟨same_l s2.wd.ex (same_l s2.bb f1), same_l s2.wd.ex g1, h2 _ _ _ _ (s1.trans s2) (it_zipL (same_l s2.bb f1) g1 (f2.same s2.bb) g2)⟩
  | false => exact .inr ⟨same_t s2.wd.ex (same_t s2.bb f1), same_t s2.wd.ex g1, h2 _ _ _ _ (s1.trans s2) (it_zipT (same_t s2.bb f1) g1 (f2.same s2.bb) g2)⟩
end

/-! ### for -/
def loopL (g : DG) (body : DS) : List DV → DEnv → Sto → DEnds → Prop
  | [], env, S, D => D.nx env S
  | x :: r, env, S, D => g x env S fun env1 S1 => body env1 S1 { D with nx := fun e s => loopL g body r e s D, ct := fun e s => loopL g body r e s D, bk := D.nx }
def forS (wi : DI) (g : DG) (body : DS) : DS := fun env S D => wi env S (fun xs S1 => loopL g body xs env S1 D) (D.ex env)
theorem mono_loop {g : DG} {body : DS} (mg : MonoG g) (mb : MonoS body) : ∀ (xs : List DV) env S D D', DEnds.le D D' → loopL g body xs env S D → loopL g body xs env S D'
  | [], _, _, _, _, h, q => h.nx _ _ q
  | x :: r, env, S, D, D', h, q => mg _ _ _ _ _ (fun e s z => mb _ _ { D with nx := fun e s => loopL g body r e s D, ct := fun e s => loopL g body r e s D, bk := D.nx } { D' with nx := fun e s => loopL g body r e s D', ct := fun e s => loopL g body r e s D', bk := D'.nx } ⟨fun e s z => mono_loop mg mb r e s D D' h z, h.rt, h.nx, fun e s z => mono_loop mg mb r e s D D' h z, h.ex⟩ z) q
section
variable {ga : Str → Addr} {X : Cx} {E : WX} {tg iter : Expr} {body : List Stmt} {wi : DI} {g : DG} {ws : DS} {pos : Pos} {k : Nat}
theorem pxs_for (c : Ctx X E k) (hi : PXI ga X E tg iter wi) (hg : PXG ga X E tg g) (hb : PXB ga X E body ws) (hs : ∀ x, foldedSetIterable iter X.env x = pure x := by intro _; rfl) : PXS ga X E (.For tg iter body [] pos) (forS wi g ws) := by
  have mono : MonoS (forS wi g ws) := fun env S D D' h q => hi.mono env S _ _ _ _ (fun xs S1 z => mono_loop hg.mono hb.mono xs env S1 D D' h z) (h.ex env) q
  obtain ⟨mg, t, rt, qt⟩ := hg
  refine ⟨mono, ⟨fun pins s σ H D I h => (ps_for c.po c.calm hi.run rt hb.run hs).run pins s σ H D I ?_⟩⟩
  obtain ⟨env, S, B, α, re, w, h⟩ := h
  refine ⟨env, S, B, α, re, w, hi.mono env S _ _ _ _ (fun xs S1 z J H1 B1 α1 s1 ok => ?_) (fun _ _ z => kxS.at_ re z) h⟩
  obtain ⟨G, Y, wk, hG, hY⟩ := ok
  refine for_it wk (fun i σ' H' => ∃ env' S' B' α', i ≤ xs.length ∧ RelE X.K B' α' env' σ' ∧ Stp X.K B1 α1 H1 B' α' S' H' ∧ loopL g ws (xs.drop i) env' S' (dT X.K ga B α H E D)) ⟨env, S1, B1, α1, Nat.zero_le _, re.mono s1.bb s1.pre, Stp.refl s1.wd, z⟩ ?_ ?_ ?_
  · rintro i σ' H' _ ⟨env', S', B', α', _, _, st, _⟩
    exact hG H' (st.bb.trans st.wd.ex)
  · rintro i v σ' H' H'' hi' ⟨env', S', B', α', _, re', st, z⟩ hy
    have ei : xs[i]? = some xs[i] := by simp [hi']
    obtain ⟨B2, s2, r2⟩ := hY i xs[i] v H' H'' B' α' S' ei st.wd st.bb st.pre hy
    rw [List.drop_eq_getElem_cons hi'] at z
    have st2 := st.trans s2
    refine qt B2 α' S' H'' v xs[i] env' σ' _ s2.wd r2 (re'.mono s2.bb s2.pre) (mg _ _ _ _ _ (fun e3 S3 z3 σ3 H3 B3 α3 s3 r3 => ?_) z)
    refine ⟨e3, S3, B3, α3, r3, s3.wd, hb.mono _ _ { dT X.K ga B α H E D with nx := fun e s => loopL g ws (xs.drop (i + 1)) e s (dT X.K ga B α H E D), ct := fun e s => loopL g ws (xs.drop (i + 1)) e s (dT X.K ga B α H E D), bk := (dT X.K ga B α H E D).nx } _ ⟨fun e4 S4 z4 σ4 H4 B4 α4 s4 r4 => ?_, fun r S4 z4 => ?_, fun e4 S4 z4 => ?_, fun e4 S4 z4 σ4 H4 B4 α4 s4 r4 => ?_, fun e4 x S4 z4 => ?_⟩ z3⟩
    · exact ⟨e4, S4, B4, α4, hi', r4, (st2.trans s3).trans s4, z4⟩
    · exact kvT.after ((s1.trans st2).trans s3) z4
    · exact knT.after ((s1.trans st2).trans s3) z4
    · exact ⟨e4, S4, B4, α4, hi', r4, (st2.trans s3).trans s4, z4⟩
    · exact kxS.after ((s1.trans st2).trans s3) z4
  · rintro σ' H' ⟨env', S', B', α', _, re', st, z⟩
    rw [List.drop_length] at z
    exact z _ _ _ _ (s1.trans st) re'
end

/-! ### while -/
def whileN (c : DT) (body : DS) : Nat → DEnv → Sto → DEnds → Prop
  | 0, _, _, _ => False
  | n + 1, env, S, D => c env S (fun b S1 => if b = true then body env S1 { D with nx := fun e s => whileN c body n e s D, ct := fun e s => whileN c body n e s D, bk := D.nx } else D.nx env S1) (D.ex env)
def whileS (c : DT) (body : DS) : DS := fun env S D => ∃ n, whileN c body n env S D
theorem mono_while {c : DT} {body : DS} (mc : MonoT c) (mb : MonoS body) : ∀ (n : Nat) env S D D', DEnds.le D D' → whileN c body n env S D → whileN c body n env S D'
  | 0, _, _, _, _, _, q => q
  | n + 1, env, S, D, D', h, q => mc _ _ _ _ _ _ (fun b S1 z => by
    cases b with
    | true => exact mb _ _ { D with nx := fun e s => whileN c body n e s D, ct := fun e s => whileN c body n e s D, bk := D.nx } { D' with nx := fun e s => whileN c body n e s D', ct := fun e s => whileN c body n e s D', bk := D'.nx } ⟨fun e s z => mono_while mc mb n e s D D' h z, h.rt, h.nx, fun e s z => mono_while mc mb n e s D D' h z, h.ex⟩ z
    | false => exact h.nx _ _ z) (h.ex env) q
section
variable {ga : Str → Addr} {X : Cx} {E : WX} {c : Expr} {body : List Stmt} {wc : DT} {ws : DS} {pos : Pos} {k : Nat}
theorem pxs_while (cx : Ctx X E k) (hc : PXT ga X E c wc) (hb : PXB ga X E body ws) : PXS ga X E (.While c body [] pos) (whileS wc ws) := by
  refine ⟨fun env S D D' h ⟨n, q⟩ => ⟨n, mono_while hc.mono hb.mono n env S D D' h q⟩, ⟨fun pins s σ H D I h => (ps_while cx.po hc.run hb.run).run pins s σ H D I ?_⟩⟩
  obtain ⟨env, S, B, α, re, w, n, h⟩ := h
  refine ⟨fun m σ' H' => ∃ env' S' B' α', RelE X.K B' α' env' σ' ∧ Stp X.K B α H B' α' S' H' ∧ whileN wc ws m env' S' (dT X.K ga B α H E D), ⟨n, env, S, B, α, re, Stp.refl w, h⟩, ?_⟩
  rintro m σ' H' ⟨env', S', B', α', re', st, z⟩
  cases m with
  | zero => exact z.elim
  | succ m =>
    refine ⟨env', S', B', α', re', st.wd, hc.mono _ _ _ _ _ _ (fun b S1 z1 H1 B1 α1 s1 => ?_) (fun x S1 z1 => kxS.at_ re' (kxS.after st z1)) z⟩
    cases b with
    | false => exact z1 _ _ _ _ (st.trans s1) (re'.mono s1.bb s1.pre)
    | true =>
      refine ⟨fun σ2 H2 => ∃ env2 S2 B2 α2, RelE X.K B2 α2 env2 σ2 ∧ Stp X.K B α H B2 α2 S2 H2 ∧ whileN wc ws m env2 S2 (dT X.K ga B α H E D), fun σ2 H2 q => ⟨m, Nat.lt_succ_self m, q⟩, ?_⟩
      refine ⟨env', S1, B1, α1, re'.mono s1.bb s1.pre, s1.wd, hb.mono _ _ { dT X.K ga B α H E D with nx := fun e s => whileN wc ws m e s (dT X.K ga B α H E D), ct := fun e s => whileN wc ws m e s (dT X.K ga B α H E D), bk := (dT X.K ga B α H E D).nx } _ ⟨fun e4 S4 z4 σ4 H4 B4 α4 s4 r4 => ?_, fun r S4 z4 => ?_, fun e4 S4 z4 => ?_, fun e4 S4 z4 σ4 H4 B4 α4 s4 r4 => ?_, fun e4 x S4 z4 => ?_⟩ z1⟩
      · exact ⟨e4, S4, B4, α4, r4, (st.trans s1).trans s4, z4⟩
      · exact kvT.after (st.trans s1) z4
      · exact knT.after (st.trans s1) z4
      · exact ⟨e4, S4, B4, α4, r4, (st.trans s1).trans s4, z4⟩
      · exact kxS.after (st.trans s1) z4
end
end DW

set_option Elab.async false
set_option linter.all false
set_option maxRecDepth 100000
set_option maxHeartbeats 4000000
set_option autoImplicit false
/-! DW9: comprehensions. -/
namespace DW
open PySem L2

abbrev W0 : WX := fun _ _ _ _ => False
abbrev F0 : DX := fun _ _ => False
def wipeD (env : DEnv) : List Nat → DEnv
  | [] => env
  | v :: vs => (wipeD env vs).set v none
abbrev DB := DV → DEnv → Option DEnv
def bindN (i : Nat) : DB := fun x env => some (env.set i (some x))
def setAll : DEnv → List Nat → List DV → DEnv
  | env, i :: is, x :: xs => setAll (env.set i (some x)) is xs
  | env, _, _ => env
def bindT (is : List Nat) : DB := fun x env => match x with
  | .d (.tuple ds) => if ds.length = is.length then some (setAll env is (ds.map .d)) else none
  | _ => none
def lcL (b : DB) (tt : DT) (te : DE) (env0 : DEnv) : List DV → List PyData → Sto → (List PyData → Sto → Prop) → Prop
  | [], acc, S, k => k acc S
  | x :: r, acc, S, k => ∃ env1, b x env0 = some env1 ∧ tt env1 S (fun c S2 => if c = true then te env1 S2 (fun y S3 => ∃ d, y = .d d ∧ acc.length ≤ 1000000 ∧ lcL b tt te env0 r (acc ++ [d]) S3 k) F0 else lcL b tt te env0 r acc S2 k) F0
def yesT : DT := fun _ S k _ => k true S
def lcW (wi : DI) (b : DB) (tt : DT) (te : DE) (vs : List Nat) : DE := fun env S k kx => wi env S (fun xs S1 => lcL b tt te (wipeD env vs) xs [] S1 (fun ds S2 => k (.d (.list ds)) S2)) kx

section
variable {K : PySem.W.Frag} {B B' : Hp} {α α' : List Addr} {S S' : Sto} {H H' : Hp} {env : DEnv} {σ : St}
theorem wipeD_len (env : DEnv) : ∀ vs : List Nat, (wipeD env vs).length = env.length
  | [] => rfl
  | v :: vs => by simp [wipeD, wipeD_len env vs]
theorem relE_wipe (re : RelE K B α env σ) : ∀ vs : List Nat, RelE K B α (wipeD env vs) (wipe σ vs)
  | [] => re
  | v :: vs => by
    obtain ⟨h1, h2⟩ := relE_wipe re vs
    refine ⟨by simp [wipeD, wipe, h1], fun i x e => ?_⟩
    by_cases hi : v = i
    · subst hi
      unfold wipeD at e
      rw [List.getElem?_set] at e
      simp only [if_pos] at e
      split at e <;> cases e
    · unfold wipeD at e
      rw [List.getElem?_set_ne hi] at e
      obtain ⟨u, g1, g2⟩ := h2 i x e
      exact ⟨u, by unfold wipe; rw [List.getElem?_set_ne hi]; exact g1, g2⟩
theorem wipe_set {i : Nat} {x : Option V} : ∀ {vs : List Nat}, i ∈ vs → wipe (σ.set i x) vs = wipe σ vs
  | v :: vs, h => by
    by_cases hi : i = v
    · subst hi
      by_cases hv : i ∈ vs
      · unfold wipe; rw [wipe_set hv]
      · have go : ∀ us : List Nat, i ∉ us → wipe (σ.set i x) us = (wipe σ us).set i x := fun us => by
          induction us with
          | nil => intro _; rfl
          | cons u us ih =>
            intro hn
            simp only [List.mem_cons, not_or] at hn
            unfold wipe
            rw [ih hn.2, List.set_comm _ _ hn.1]
        unfold wipe
        rw [go vs hv, List.set_set]
    · unfold wipe
      rw [wipe_set (by rcases List.mem_cons.mp h with z | z; exact absurd z hi; exact z)]
end
theorem wipe_idem (σ : St) (W : List Nat) : wipe (wipe σ W) W = wipe σ W := by
  have go : ∀ us : List Nat, (∀ u ∈ us, u ∈ W) → wipe (wipe σ us) W = wipe σ W := fun us => by
    induction us with
    | nil => intro _; rfl
    | cons u us ih =>
      intro h
      rw [show wipe σ (u :: us) = (wipe σ us).set u none from rfl, wipe_set (h u List.mem_cons_self)]
      exact ih fun v hv => h v (List.mem_cons_of_mem _ hv)
  exact go W fun _ h => h
section
variable {K : PySem.W.Frag} {B B' : Hp} {α α' : List Addr} {S S' : Sto} {H H' : Hp} {D : Addr}
/-- an object of nobody's is changed -/
theorem Stp.mut {o : HO} (s : Stp K B α H B' α' S' H') (hD : H D = none) (h1 : B' D = none) (h2 : D ∉ α') : Stp K B α H B' α' S' (upd H' D o) := by
  refine ⟨⟨fun a u e => ?_, s.wd.len, fun n q g1 g2 => ?_, s.wd.nd, fun a ha => ?_⟩, s.bb, s.pre, s.newB, s.newA, fun a u e ha => ?_⟩
  · rw [upd_ne (fun z => by subst z; rw [h1] at e; cases e)]; exact s.wd.ex a u e
  · obtain ⟨a, e1, e2, e3⟩ := s.wd.obj n q g1 g2
    have hne : a ≠ D := fun z => by subst z; exact h2 (List.mem_of_getElem? e1)
    exact ⟨a, e1, e2, e3.mono (Same.refl _) ⟨[], by simp⟩ fun u z => by rw [upd_ne hne]; exact z⟩
  · have hne : a ≠ D := fun z => by subst z; exact h2 ha
    obtain ⟨u, e⟩ := s.wd.trk a ha
    exact ⟨u, by rw [upd_ne hne]; exact e⟩
  · rw [upd_ne (ne_of_none e hD)]; exact s.frame a u e ha
/-- .. becomes pure -/
theorem Stp.adopt {o : HO} (s : Stp K B α H B' α' S' H') (hD : H D = none) (h1 : B' D = none) (h2 : D ∉ α') (h3 : H' D = some o) : Stp K B α H (upd B' D o) α' S' H' := by
  have sm : Same B' (upd B' D o) := Same.upd_none h1
  refine ⟨⟨fun a u e => ?_, s.wd.len, fun n q g1 g2 => ?_, s.wd.nd, s.wd.trk⟩, s.bb.trans sm, s.pre, fun a u e => ?_, s.newA, s.frame⟩
  · by_cases ha : a = D
    · subst ha; rw [upd_same] at e; rw [← e]; exact h3
    · rw [upd_ne ha] at e; exact s.wd.ex a u e
  · obtain ⟨a, e1, e2, e3⟩ := s.wd.obj n q g1 g2
    have hne : a ≠ D := fun z => by subst z; exact h2 (List.mem_of_getElem? e1)
    exact ⟨a, e1, by rw [upd_ne hne]; exact e2, e3.mono sm ⟨[], by simp⟩ fun _ z => z⟩
  · by_cases ha : a = D
    · subst ha; exact .inr (.inl hD)
    · rw [upd_ne ha] at e; exact s.newB a u e
end
/-- the target of a comprehension -/
structure PXC (X : Cx) (scope : Scope) (tg : Expr) (b : DB) (vs : List Nat) (t : TG) : Prop where
  pg : ∀ (s : Shared) (H : Hp) (C : Addr) (cl : List (Str × Addr)) (fp : List Addr), PG (X.blk s H scope (compEnvC scope cl C X.env) fp) tg t
  run : ∀ (B : Hp) (α : List Addr) (S : Sto) (H : Hp) (v : V) (x : DV) (env env1 : DEnv) (σ : St) (Q : St → Hp → Prop), Wd X.K B α S H → VR X.K B α v x → RelE X.K B α env σ → b x env = some env1 →
    (∀ σ1, RelE X.K B α env1 σ1 → wipe σ1 vs = wipe σ vs → Q σ1 H) → t v σ H Q
section
variable {ga : Str → Addr} {X : Cx} {E : WX} {tg iter elt : Expr} {ifs : List Expr} {wi : DI} {tt : DT} {te : DE} {pos : Pos} {k : Nat} {scope : Scope} {own : List (Str × Nat)} {b : DB} {t : TG} {vs : List Nat}
theorem pxc_name {i : Nat} {x : Str} {p : Pos} (hg : ∀ (s : Shared) (H : Hp) (C : Addr) (cl : List (Str × Addr)) (fp : List Addr), PG (X.blk s H scope (compEnvC scope cl C X.env) fp) (.Name x p) (gName i)) (hv : i ∈ vs) : PXC X scope (.Name x p) (bindN i) vs (gName i) :=
  ⟨hg, fun B α S H v y env env1 σ Q w r re e q => by
    cases e
    exact q _ (re.set i r) (wipe_set hv)⟩
theorem setAll_rel {K : PySem.W.Frag} {B : Hp} {α : List Addr} : ∀ {is : List Nat} {us : List V} {ds : List DV} {env : DEnv} {σ : St}, VRs K B α us ds → us.length = is.length → RelE K B α env σ → (∀ i ∈ is, i ∈ vs) →
    ∃ σ1, RelE K B α (setAll env is ds) σ1 ∧ wipe σ1 vs = wipe σ vs ∧ σ1 = (is.zip us).foldl (fun s q => s.set q.1 (some q.2)) σ
  | [], [], _, env, σ, .nil, _, re, _ => ⟨σ, re, rfl, rfl⟩
  | i :: is, u :: us, _, env, σ, .cons h r, hl, re, hv => by
    obtain ⟨σ1, h1, h2, h3⟩ := setAll_rel (env := env.set i _) (σ := σ.set i (some u)) r (by simpa using hl) (re.set i h) fun j hj => hv j (List.mem_cons_of_mem _ hj)
    exact ⟨σ1, h1, by rw [h2, wipe_set (hv i List.mem_cons_self)], h3⟩
def tgN : List Nat → TGs
  | [] => gNil
  | i :: is => gCons (gName i) (tgN is)
theorem tgN_run {Q : St → Hp → Prop} {H : Hp} : ∀ {is : List Nat} {us : List V} {σ : St}, us.length = is.length → Q ((is.zip us).foldl (fun s q => s.set q.1 (some q.2)) σ) H → tgN is us σ H Q
  | [], [], _, _, q => ⟨rfl, q⟩
  | i :: is, u :: us, σ, hl, q => ⟨u, us, rfl, tgN_run (is := is) (by simpa using hl) q⟩
theorem pxc_tup {is : List Nat} {es : List Expr} {kk : Nat} {p : Pos} (hc : X.calm = true) (hv : ∀ i ∈ is, i ∈ vs)
    (hg : ∀ (s : Shared) (H : Hp) (C : Addr) (cl : List (Str × Addr)) (fp : List Addr), PGs (X.blk s H scope (compEnvC scope cl C X.env) fp) es (tgN is))
    (hn : ∀ env : Env, (assignEach es env).length = is.length := by intro _; rfl) (hst : ∀ env : Env, (assignEach es env).findIdx? (·.1) = none := by intro _; rfl) : PXC X scope (.Tuple es kk p) (bindT is) vs (gTup X.K is.length (tgN is)) :=
  ⟨fun s H C cl fp => pg_tup (X := X.blk s H scope (compEnvC scope cl C X.env) fp) hc (hg s H C cl fp) (hn _) (hst _), fun B α S H v y env env1 σ Q w r re e q => by
    unfold bindT at e
    split at e
    · split at e
      · rename_i hl
        cases e
        cases r with
        | tup ht hq =>
          have hl' := hq.len
          obtain ⟨σ1, h1, h2, h3⟩ := setAll_rel (is := is) (VRs.ofPure hq) (by omega) re hv
          refine ⟨_, _, rfl, same_t w.ex ht, by omega, tgN_run (by omega) ?_⟩
          rw [← h3]
          exact q σ1 h1 h2
      · cases e
    · cases e⟩
theorem Ctx.blk (c : Ctx X E k) (s : Shared) (H : Hp) (cenv : Env) (fp : List Addr) : Ctx (X.blk s H scope cenv fp) W0 k := ⟨c.calm, c.nd, takes0, PassesOwn.never, c.room⟩
/-- the tests of a comprehension -/
structure PXF (ga : Str → Addr) (X : Cx) (E : WX) (ifs : List Expr) (w : DT) : Prop where
  mono : MonoT w
  run : PTs X ifs (tT X.K ga E w)
theorem pxf_nil : PXF ga X E [] yesT := by
  refine ⟨fun env S k k' x x' hk hx h => hk _ _ h, ⟨fun pins s σ H Q I h => pts_nil.run pins s σ H Q I ?_⟩⟩
  obtain ⟨env, S, B, α, re, w, h⟩ := h
  exact h H B α (Stp.refl w)
theorem pxf_one {c : Expr} {w : DT} (h : PXT ga X E c w) : PXF ga X E [c] w := ⟨h.mono, pts_one h.run⟩
theorem mono_lc (mt : MonoT tt) (me : MonoE te) {env0 : DEnv} : ∀ (xs : List DV) (acc : List PyData) (S : Sto) (k k' : List PyData → Sto → Prop), (∀ a S, k a S → k' a S) → lcL b tt te env0 xs acc S k → lcL b tt te env0 xs acc S k'
  | [], _, _, _, _, h, q => h _ _ q
  | x :: r, acc, S, k, k', h, ⟨env1, e, q⟩ => ⟨env1, e, mt _ _ _ _ _ _ (fun c S2 z => by
    cases c with
    | true => exact me _ _ _ _ _ _ (fun y S3 ⟨d, e1, e2, z3⟩ => ⟨d, e1, e2, mono_lc mt me r _ S3 k k' h z3⟩) (fun _ _ z => z) z
    | false => exact mono_lc mt me r acc S2 k k' h z) (fun _ _ z => z) q⟩
theorem run_lc (hi : MonoA wi) (hg : PXC X scope tg b (own.map (·.2)) t) (mt : MonoT tt) (me : MonoE te) {σ : St} {H : Hp} {Q : VK} (h : eT X.K ga E (lcW wi b tt te (own.map (·.2))) σ H Q) :
    tLc (iT X.K ga E wi) t (tT X.K ga W0 tt) (eT X.K ga W0 te) (own.map (·.2)) σ H Q := by
  obtain ⟨env, S, B, α, re, w, h⟩ := h
  refine ⟨env, S, B, α, re, w, hi env S _ _ _ _ (fun xs S1 z J H1 B1 α1 s1 okJ => ?_) (fun _ _ z => z) h⟩
  intro D hD
  obtain ⟨G, Y, wk, hG, hY⟩ := okJ
  have hBD : B1 D = none := s1.wd.ex.free hD
  have hαD : D ∉ α1 := fun z => by
    obtain ⟨u, hu⟩ := s1.wd.trk D z
    rw [hD] at hu; cases hu
  have away : ∀ {Ba Bb : Hp} {αa αb : List Addr} {Sb : Sto} {Ha Hb : Hp} {vs : List V}, Stp X.K Ba αa Ha Bb αb Sb Hb → Ba D = none → D ∉ αa → Ha D = some (.lst vs) → Bb D = none ∧ D ∉ αb ∧ Hb D = some (.lst vs) := fun {Ba Bb αa αb Sb Ha Hb vs} st h1 h2 h3 => by
    refine ⟨?_, fun z => ?_, st.frame D _ h3 h2⟩
    · cases q : Bb D with
      | none => rfl
      | some o =>
        rcases st.newB D o q with z | z | z
        · rw [h1] at z; cases z
        · rw [h3] at z; cases z
        · exact absurd z h2
    · rcases st.newA D z with q | q
      · exact h2 q
      · rw [h3] at q; cases q
  refine lc_it wk (fun i H' => ∃ S' B' α' acc vs, i ≤ xs.length ∧ Stp X.K B1 α1 H1 B' α' S' H' ∧ B' D = none ∧ D ∉ α' ∧ H' D = some (.lst vs) ∧ DqAll X.K B' vs acc ∧
    lcL b tt te (wipeD env (own.map (·.2))) (xs.drop i) acc S' (fun ds S2 => kvT X.K B α H Q (.d (.list ds)) S2)) ⟨S1, B1, α1, [], [], Nat.zero_le _, s1.wd.extra hD, hBD, hαD, upd_same, .nil, z⟩ ?_ ?_ ?_
  · rintro i H' _ ⟨S', B', α', acc, vs, _, st, _⟩
    exact hG H' (st.bb.trans st.wd.ex)
  · rintro i v H' H'' hi' ⟨S', B', α', acc, vs, _, st, d1, d2, d3, d4, z⟩ hy
    have ei : xs[i]? = some xs[i] := by simp [hi']
    obtain ⟨B2, s2, r2⟩ := hY i xs[i] v H' H'' B' α' S' ei st.wd st.bb st.pre hy
    obtain ⟨f1, f2, f3⟩ := away s2 d1 d2 d3
    rw [List.drop_eq_getElem_cons hi'] at z
    obtain ⟨env1, eb, z⟩ := z
    have st2 := st.trans s2
    have rw0 := (relE_wipe (re.mono (s1.bb.trans st2.bb) (s1.trans st2).pre) (own.map (·.2)))
    refine hg.run B2 α' S' H'' v xs[i] _ env1 _ _ s2.wd r2 rw0 eb fun σ1 re1 hw => ⟨hw.trans (wipe_idem _ _), ?_⟩
    refine ⟨env1, S', B2, α', re1, s2.wd, mt _ _ _ _ _ _ (fun c S3 z3 H3 B3 α3 s3 => ?_) (fun _ _ z => z.elim) z⟩
    obtain ⟨g1, g2, g3⟩ := away s3 f1 f2 f3
    cases c with
    | false => exact ⟨S3, B3, α3, acc, vs, hi', st2.trans s3, g1, g2, g3, (d4.same s2.bb).same s3.bb, z3⟩
    | true =>
      refine ⟨env1, S3, B3, α3, re1.mono s3.bb s3.pre, s3.wd, me _ _ _ _ _ _ (fun y S4 z4 yv H4 B4 α4 s4 r4 => ?_) (fun _ _ z => z.elim) z3⟩
      obtain ⟨d, rfl, hl, z4⟩ := z4
      obtain ⟨k1, k2, k3⟩ := away s4 g1 g2 g3
      have dq := ((d4.same s2.bb).same s3.bb).same s4.bb
      refine ⟨vs, k3, Nat.lt_of_le_of_lt (by rw [dq.len]; exact hl) (by decide : 1000000 < sizeLine), S4, B4, α4, acc ++ [d], vs ++ [yv], hi', ?_, k1, k2, upd_same, dq.append (.cons r4 .nil), z4⟩
      exact ((st2.trans s3).trans s4).mut hD k1 k2
  · rintro H' ⟨S', B', α', acc, vs, _, st, d1, d2, d3, d4, z⟩
    rw [List.drop_length] at z
    have st3 := st.adopt hD d1 d2 d3
    exact z _ _ _ _ (s1.trans st3) (.lst upd_same (d4.same (Same.upd_none d1)))
theorem mono_lcW (hi : MonoA wi) (mt : MonoT tt) (me : MonoE te) : MonoE (lcW wi b tt te vs) := fun env S k k' x x' hk hx h => hi env S _ _ _ _ (fun xs S1 z => mono_lc mt me xs [] S1 _ _ (fun a S z => hk _ _ z) z) hx h
theorem px_lc (c : Ctx X E k) (hi : PXI ga X E tg iter wi) (ok : BlkOk X.N X.env.scope scope own) (hg : PXC X scope tg b (own.map (·.2)) t)
    (ht : ∀ (s : Shared) (H : Hp) (C : Addr) (cl : List (Str × Addr)) (fp : List Addr), PXF ga (X.blk s H scope (compEnvC scope cl C X.env) fp) W0 ifs tt)
    (he : ∀ (s : Shared) (H : Hp) (C : Addr) (cl : List (Str × Addr)) (fp : List Addr), PX ga (X.blk s H scope (compEnvC scope cl C X.env) fp) W0 elt te) (hs : ∀ x, foldedSetIterable iter X.env x = pure x := by intro _; rfl) :
    PX ga X E (.ListComp elt [⟨tg, iter, ifs, 0⟩] scope pos) (lcW wi b tt te (own.map (·.2))) := by
  have mt := (ht X.s_0 X.H_0 0 [] []).mono
  have me := (he X.s_0 X.H_0 0 [] []).mono
  exact ⟨mono_lcW hi.mono mt me,
    ⟨fun pins s σ H Q I h => (pe_lc (tt := tT X.K ga W0 tt) (te := eT X.K ga W0 te) c.calm c.nd hi.run ok hg.pg (fun s H C cl fp => (ht s H C cl fp).run) (fun s H C cl fp => (he s H C cl fp).run) hs).run pins s σ H Q I (run_lc hi.mono hg mt me h)⟩⟩
theorem pxs_setLc {i : Nat} {y : Str} {py spos : Pos} (c : Ctx X E k) (hy : X.N[i]? = some y) (hyl : X.env.scope.names.lookup y = some .local) (hsw : swapsWith (.ListComp elt [⟨tg, iter, ifs, 0⟩] scope pos) (some (.Name y py)) spos.line X.env = pure true)
    (hi : PXI ga X E tg iter wi) (ok : BlkOk X.N X.env.scope scope own) (hg : PXC X scope tg b (own.map (·.2)) t)
    (ht : ∀ (s : Shared) (H : Hp) (C : Addr) (cl : List (Str × Addr)) (fp : List Addr), PXF ga (X.blk s H scope (compEnvC scope cl C X.env) fp) W0 ifs tt)
    (he : ∀ (s : Shared) (H : Hp) (C : Addr) (cl : List (Str × Addr)) (fp : List Addr), PX ga (X.blk s H scope (compEnvC scope cl C X.env) fp) W0 elt te) (hs : ∀ x, foldedSetIterable iter X.env x = pure x := by intro _; rfl) :
    PXS ga X E (.Assign [.Name y py] (.ListComp elt [⟨tg, iter, ifs, 0⟩] scope pos) spos) (asgS i (lcW wi b tt te (own.map (·.2)))) := by
  have mt := (ht X.s_0 X.H_0 0 [] []).mono
  have me := (he X.s_0 X.H_0 0 [] []).mono
  have mm : MonoE (lcW wi b tt te (own.map (·.2))) := mono_lcW hi.mono mt me
  refine ⟨fun env S D D' h q => mm env S _ _ _ _ (fun _ _ z => h.nx _ _ z) (h.ex env) q, ⟨fun pins s σ H D I h => (ps_setLc (tt := tT X.K ga W0 tt) (te := eT X.K ga W0 te) c.calm c.nd hy hyl hsw hi.run ok hg.pg (fun s H C cl fp => (ht s H C cl fp).run) (fun s H C cl fp => (he s H C cl fp).run) hs).run pins s σ H D I ?_⟩⟩
  refine run_lc hi.mono hg mt me ?_
  obtain ⟨env, S, B, α, re, w, h⟩ := h
  refine ⟨env, S, B, α, re, w, mm env S _ _ _ _ (fun y S1 q v H1 B1 α1 s1 r1 => ?_) (fun _ _ z => kxS.at_ re z) h⟩
  exact q _ _ _ _ s1 ((re.mono s1.bb s1.pre).set i r1)
end
/-! ### try -/
def XV.nm : XV → Str
  | .cls x => x
  | .fld x _ _ => x
def handleS (L : List Str) : List (Str × DS) → XV → DEnv → Sto → DEnds → Prop
  | [], x, env, S, D => D.ex env x S
  | (y, w) :: r, x, env, S, D => x.nm ∈ L ∧ if x.nm = y then w env S { D with ex := fun _ => F0 } else handleS L r x env S D
def tryS (L : List Str) (body : DS) (hds : List (Str × DS)) : DS := fun env S D => body env S { D with ex := fun env' x S' => handleS L hds x env' S' D }
section
variable {ga : Str → Addr} {X : Cx} {E : WX} {pos : Pos} {k : Nat} {body : List Stmt} {wb : DS} {L : List Str}
/-- the clauses -/
inductive HdsX (ga : Str → Addr) (X : Cx) (L : List Str) : List ExceptHandler → List (Str × DS) → List (Value × (Addr → Value → Option Addr → TS)) → Prop
  | nil : HdsX ga X L [] [] []
  | cons {x : Str} {b₀ : Stmt} {suite : List Stmt} {np pos' : Pos} {hds : List ExceptHandler} {l : List (Str × DS)} {lv : List (Value × (Addr → Value → Option Addr → TS))} {w : DS} (hg : Gl X x) (hm : X.mg x = some (.ref (ga x))) (hd : (x == ("__debug__" : Str)) = false)
      (hx : ∀ y ∈ L, PySem.W.exmOne X.K (.ref (ga y)) (.ref (ga x)) = some (decide (y = x)))
      (hs : ∀ (a : Addr) (oe : Obj) (pn : List (Addr × Obj)), PXB ga (X.suite a ((a, oe) :: pn)) W0 (b₀ :: suite) w) (r : HdsX ga X L hds l lv) :
      HdsX ga X L (.ExceptHandler (some (.Name x np)) none (b₀ :: suite) pos' :: hds) ((x, w) :: l) ((.ref (ga x), fun _ _ _ => sT X.K ga W0 w) :: lv)
theorem HdsX.ok {hds : List ExceptHandler} {l : List (Str × DS)} {lv : List (Value × (Addr → Value → Option Addr → TS))} (h : HdsX ga X L hds l lv) : HdsOk X hds lv := by
  induction h with
  | nil => exact .nil
  | cons hg hm hd hx hs r ih => exact .cons ⟨hg, hd, .inl hm⟩ (fun a oe cls d pn _ _ => (hs a oe pn).run) ih
theorem HdsX.mono {hds : List ExceptHandler} {l : List (Str × DS)} {lv : List (Value × (Addr → Value → Option Addr → TS))} (h : HdsX ga X L hds l lv) : ∀ x env S D D', DEnds.le D D' → handleS L l x env S D → handleS L l x env S D' := by
  induction h with
  | nil => intro x env S D D' h q; exact h.ex _ _ _ q
  | cons hg hm hd hx hs r ih =>
    intro x env S D D' h ⟨q1, q2⟩
    refine ⟨q1, ?_⟩
    split
    · rename_i e
      rw [if_pos e] at q2
      exact (hs 0 ⟨.none, none, .fields #[], #[]⟩ []).mono _ _ { D with ex := fun _ => F0 } _ ⟨h.nx, h.rt, h.bk, h.ct, fun _ _ _ z => z⟩ q2
    · rename_i e
      rw [if_neg e] at q2
      exact ih x env S D D' h q2
theorem HdsX.wish {hds : List ExceptHandler} {l : List (Str × DS)} {lv : List (Value × (Addr → Value → Option Addr → TS))} (h : HdsX ga X L hds l lv) {B : Hp} {α : List Addr} {H : Hp} {D : Ends} :
    ∀ env' x S', handleS L l x env' S' (dT X.K ga B α H E D) → kxS X.K ga B α H (wMany X.K E D lv) env' x S' := by
  induction h with
  | nil => intro env' x S' q; exact q
  | cons hg hm hd hx hs r ih =>
    rename_i y b₀ suite np pos' hds l lv w
    intro env' x S' ⟨q1, q2⟩ c d σ' H' B' α' st re xr
    have hc : c = .ref (ga x.nm) := by
      cases x with
      | cls x => exact xr.1
      | fld x f v => exact xr.1
    refine ⟨decide (x.nm = y), by rw [hc]; exact hx _ q1, fun e a ha => ?_, fun e => ?_⟩
    · have e := of_decide_eq_true e
      rw [if_pos e] at q2
      exact ⟨env', S', B', α', re, st.wd, (hs a ⟨.none, none, .fields #[], #[]⟩ []).mono _ _ { dT X.K ga B α H E D with ex := fun _ => F0 } _ ⟨fun _ _ z => knT.after st z, fun _ _ z => kvT.after st z, fun _ _ z => knT.after st z, fun _ _ z => knT.after st z, fun _ _ _ z => z.elim⟩ q2⟩
    · have e := of_decide_eq_false e
      rw [if_neg e] at q2
      exact ih env' x S' q2 c d σ' H' B' α' st re xr
theorem Ctx.tr (c : Ctx X E k) {pn : List (Addr × Obj)} {xe : Value → Shared → Prop} {W : WX} (tk : Takes (X.tr pn xe) W) (po : PassesOwn (model X.prog X.w) X.A X.env xe) : Ctx (X.tr pn xe) W k := ⟨c.calm, c.nd, tk, po, c.room⟩
theorem pxs_try {h₀ : ExceptHandler} {hds : List ExceptHandler} {l : List (Str × DS)} {lv : List (Value × (Addr → Value → Option Addr → TS))} (c : Ctx X E k) (hs : X.stack = X.env :: X.outer) (hf : X.env.frame = some X.env.locals)
    (hb : ∀ (W : WX) (pn : List (Addr × Obj)) (xe : Value → Shared → Prop), Ctx (X.tr pn xe) W k → PXB ga (X.tr pn xe) W body wb) (hh : HdsX ga X L (h₀ :: hds) l lv) (mb : MonoS wb) :
    PXS ga X E (.Try body (h₀ :: hds) [] [] pos) (tryS L wb l) := by
  refine ⟨fun env S D D' h q => mb _ _ { D with ex := fun env' x S' => handleS L l x env' S' D } { D' with ex := fun env' x S' => handleS L l x env' S' D' } ⟨h.nx, h.rt, h.bk, h.ct, fun e x S z => hh.mono x e S _ _ h z⟩ q, ⟨fun pins s σ H D I h => ?_⟩⟩
  refine (ps_try_many (tb := fun W => sT X.K ga W wb) hs hf c.tk (fun W pn xe tk po => (hb W pn xe (c.tr tk po)).run) hh.ok).run pins s σ H D I ?_
  obtain ⟨env, S, B, α, re, w, h⟩ := h
  exact ⟨env, S, B, α, re, w, mb _ _ { dT X.K ga B α H E D with ex := fun env' x S' => handleS L l x env' S' (dT X.K ga B α H E D) } _ ⟨fun _ _ z => z, fun _ _ z => z, fun _ _ z => z, fun _ _ z => z, fun e x S z => hh.wish e x S z⟩ h⟩
end
end DW

set_option Elab.async false
set_option linter.all false
set_option maxRecDepth 100000
set_option maxHeartbeats 4000000
set_option autoImplicit false
/-! DC0: what a head says of a top's constants. -/
namespace DW
open PySem L2
mutual
/-- the value u of the written part is just d -/
def datB (K : PySem.W.Frag) : PyData → Value → Bool
  | .none, .none => true
  | .bool b, .bool c => b == c
  | .int i, .int j _ => decide (i = j)
  | .str x, .str y _ => decide (x = y)
  | .tuple ds, .ref a => (match K.lookup a with
    | some ⟨.type c, _, .seq its _, _⟩ => decide (c = "tuple") && (decide (its.size ≤ sizeLine) && datBs K ds its.toList)
    | _ => false)
  | _, _ => false
def datBs (K : PySem.W.Frag) : List PyData → List Value → Bool
  | [], [] => true
  | d :: ds, u :: us => datB K d u && datBs K ds us
  | _, _ => false
end
def consOk (cs : List (Str × PyData)) (K : PySem.W.Frag) : Bool := cs.all fun q => match PySem.W.nsIn K mainGlobals q.1 with
  | some (some u) => datB K q.2 u
  | _ => false
end DW

set_option Elab.async false
set_option linter.all false
set_option maxRecDepth 100000
set_option maxHeartbeats 4000000
set_option autoImplicit false
/-! DWH: the constants of a top, by values. -/
namespace DW
open PySem L2
def valOf : Value → V
  | .none => .non
  | .bool b => .bl b
  | .int i _ => .int i
  | .str x _ => .str x
  | .ref a => .ref a
  | .type n => .ty n
  | _ => .non
mutual
theorem datB_ok {K : PySem.W.Frag} : ∀ {d : PyData} {u : Value}, datB K d u = true → RelV (valOf u) u ∧ ∀ B, Dq K B (valOf u) d
  | .none, u, h => by
    cases u <;> first | (cases h; done) | exact ⟨rfl, fun _ => .non⟩
  | .bool b, u, h => by
    cases u <;> first | (cases h; done) | skip
    rename_i c
    have : b = c := eq_of_beq (show (b == c) = true from h)
    subst this
    exact ⟨rfl, fun _ => .bl b⟩
  | .int i, u, h => by
    cases u <;> first | (cases h; done) | skip
    rename_i c t
    have : i = c := of_decide_eq_true h
    subst this
    exact ⟨⟨t, rfl⟩, fun _ => .int i⟩
  | .str x, u, h => by
    cases u <;> first | (cases h; done) | skip
    rename_i c t
    have : x = c := of_decide_eq_true h
    subst this
    exact ⟨⟨t, rfl⟩, fun _ => .str x⟩
  | .list _, u, h => by cases u <;> cases h
  | .dict _, u, h => by cases u <;> cases h
  | .tuple ds, u, h => by
    cases u <;> first | (cases h; done) | skip
    rename_i a
    refine ⟨rfl, fun B => ?_⟩
    unfold datB at h
    cases q : K.lookup a with
    | none => rw [q] at h; cases h
    | some o =>
      obtain ⟨oc, od, dt, osl⟩ := o
      rw [q] at h
      cases oc with
      | type c =>
        cases dt with
        | seq its n =>
          obtain ⟨h1, h2⟩ := Bool.and_eq_true_iff.mp (show (decide (c = "tuple") && (decide (its.size ≤ sizeLine) && datBs K ds its.toList)) = true from h)
          obtain ⟨h3, h4⟩ := Bool.and_eq_true_iff.mp h2
          obtain ⟨r1, r2⟩ := datBs_ok h4
          exact .tup (.inr ⟨_, its, n, q, congrArg Value.type (of_decide_eq_true h1), rfl, of_decide_eq_true h3, r1⟩) (r2 B)
        | _ => cases h
      | _ => cases dt <;> cases h
theorem datBs_ok {K : PySem.W.Frag} : ∀ {ds : List PyData} {us : List Value}, datBs K ds us = true → Vals (us.map valOf) us ∧ ∀ B, DqAll K B (us.map valOf) ds
  | [], [], _ => ⟨.nil, fun _ => .nil⟩
  | [], _ :: _, h => by cases h
  | _ :: _, [], h => by cases h
  | d :: ds, u :: us, h => by
    obtain ⟨h1, h2⟩ := Bool.and_eq_true_iff.mp (show (datB K d u && datBs K ds us) = true from h)
    obtain ⟨a1, a2⟩ := datB_ok h1
    obtain ⟨b1, b2⟩ := datBs_ok h2
    exact ⟨.cons a1 b1, fun B => .cons (a2 B) (b2 B)⟩
end
theorem cons_ok {cs : List (Str × PyData)} {K : PySem.W.Frag} {h : Heap} {mg : Str → Option Value} (X : K.In h) (G : h.Ns mainGlobals mg) (c : consOk cs K = true) {x : Str} {d : PyData} (hx : (x, d) ∈ cs) :
    ∃ u v, mg x = some u ∧ RelV v u ∧ ∀ B, Dq K B v d := by
  have c2 := List.all_eq_true.mp c (x, d) hx
  cases e : PySem.W.nsIn K mainGlobals x with
  | none => simp only [e] at c2; cases c2
  | some o =>
    cases o with
    | none => simp only [e] at c2; cases c2
    | some u =>
      simp only [e] at c2
      obtain ⟨h1, h2⟩ := datB_ok c2
      exact ⟨u, valOf u, PySem.W.mg_of X G e, h1, h2⟩
end DW

set_option Elab.async false
set_option linter.all false
set_option maxRecDepth 100000
set_option maxHeartbeats 4000000
set_option autoImplicit false
/-! DW10: the rules with their side conditions as Booleans; monotony by instances. -/
namespace DW
open PySem L2

/-! ### monotony by instances -/
class ME (w : DE) : Prop where mono : MonoE w
class MT (w : DT) : Prop where mono : MonoT w
class MA (w : DA) : Prop where mono : MonoA w
class MS (w : DS) : Prop where mono : MonoS w
class MO (w : DO) : Prop where mono : MonoO w
class MG (w : DG) : Prop where mono : MonoG w
class MGs (w : DGs) : Prop where mono : MonoGs w
class MF (F : FS) : Prop where mono : MonoF F
class MH (l : List (Str × DS)) : Prop where mono : ∀ L x env S D D', DEnds.le D D' → handleS L l x env S D → handleS L l x env S D'
section
variable {a b c : DE} {t u : DT} {r : DA} {s v : DS} {o l h : DO} {g : DG} {gs : DGs} {F : FS}
instance {i} : ME (varW i) := ⟨fun _ _ _ _ _ _ hk _ ⟨y, h1, h2⟩ => ⟨y, h1, hk _ _ h2⟩⟩
instance {x} : ME (cW x) := ⟨fun _ _ _ _ _ _ hk _ h => hk _ _ h⟩
instance {f} [ME a] [ME b] : ME (op2W f a b) := ⟨mono2 ME.mono ME.mono⟩
instance {f} [ME a] : ME (op1W f a) := ⟨fun env S k k' x x' hk hx h => ME.mono (w := a) env S _ _ _ _ (fun y S1 ⟨z, e, h1⟩ => ⟨z, e, hk _ _ h1⟩) hx h⟩
instance [ME a] : MT (testW a) := ⟨monoTest ME.mono⟩
instance [MT t] [MT u] : MT (andW t u) := ⟨monoAnd MT.mono MT.mono⟩
instance [MT t] [MT u] : MT (orW t u) := ⟨monoOr MT.mono MT.mono⟩
instance [MT t] : MT (notW t) := ⟨fun env S k k' x x' hk hx h => MT.mono (w := t) env S _ _ _ _ (fun b S1 h1 => hk _ _ h1) hx h⟩
instance : MT yesT := ⟨fun _ _ _ _ _ _ hk _ h => hk _ _ h⟩
instance [ME a] [ME b] : ME (andVW a b) := ⟨fun env S k k' x x' hk hx h => ME.mono (w := a) env S _ _ _ _ (fun y S1 ⟨c, e, h1⟩ => ⟨c, e, by
    cases c with
    | true => exact ME.mono (w := b) env S1 _ _ _ _ hk hx h1
    | false => exact hk _ _ h1⟩) hx h⟩
instance [ME a] [ME b] : ME (orVW a b) := ⟨fun env S k k' x x' hk hx h => ME.mono (w := a) env S _ _ _ _ (fun y S1 ⟨c, e, h1⟩ => ⟨c, e, by
    cases c with
    | false => exact ME.mono (w := b) env S1 _ _ _ _ hk hx h1
    | true => exact hk _ _ h1⟩) hx h⟩
instance [ME a] : ME (notVW a) := ⟨fun env S k k' x x' hk hx h => ME.mono (w := a) env S _ _ _ _ (fun y S1 ⟨c, e, h1⟩ => ⟨c, e, hk _ _ h1⟩) hx h⟩
instance [MT t] [ME a] [ME b] : ME (ifW t a b) := ⟨fun env S k k' x x' hk hx h => MT.mono (w := t) env S _ _ _ _ (fun c S1 h1 => by
    cases c with
    | false => exact ME.mono (w := b) env S1 _ _ _ _ hk hx h1
    | true => exact ME.mono (w := a) env S1 _ _ _ _ hk hx h1) hx h⟩
instance : MA nilA := ⟨fun _ _ _ _ _ _ hk _ h => hk _ _ h⟩
instance [ME a] [MA r] : MA (consA a r) := ⟨fun env S k k' x x' hk hx h => ME.mono (w := a) env S _ _ _ _ (fun y S1 h1 => MA.mono (w := r) env S1 _ _ _ _ (fun ys S2 h2 => hk _ _ h2) hx h1) hx h⟩
instance {f f'} [ME a] [ME b] [ME c] : ME (chainW f f' a b c) := ⟨fun env S k k' x x' hk hx h => ME.mono (w := a) env S _ _ _ _ (fun y S1 h1 => ME.mono (w := b) env S1 _ _ _ _ (fun z S2 ⟨d, e, h2⟩ => ⟨d, e, by
    cases d with
    | true => exact ME.mono (w := c) env S2 _ _ _ _ (fun z S3 ⟨u, e3, h3⟩ => ⟨u, e3, hk _ _ h3⟩) hx h2
    | false => exact hk _ _ h2⟩) hx h1) hx h⟩
instance [MA r] : ME (tupW r) := ⟨fun env S k k' x x' hk hx h => MA.mono (w := r) env S _ _ _ _ (fun y S1 ⟨ds, e1, e2, h1⟩ => ⟨ds, e1, e2, hk _ _ h1⟩) hx h⟩
instance [MA r] : ME (lstW r) := ⟨fun env S k k' x x' hk hx h => MA.mono (w := r) env S _ _ _ _ (fun y S1 ⟨ds, e1, e2, h1⟩ => ⟨ds, e1, e2, hk _ _ h1⟩) hx h⟩
instance [MA r] : ME (newLW r) := ⟨fun env S k k' x x' hk hx h => MA.mono (w := r) env S _ _ _ _ (fun y S1 ⟨e2, h1⟩ => ⟨e2, hk _ _ h1⟩) hx h⟩
instance [ME a] : ME (fzW a) := ⟨fun env S k k' x x' hk hx h => ME.mono (w := a) env S _ _ _ _ (fun y S1 ⟨n, xs, ds, e1, e2, e3, h1⟩ => ⟨n, xs, ds, e1, e2, e3, hk _ _ h1⟩) hx h⟩
instance {f} [MA r] : ME (callNW f r) := ⟨monoN MA.mono⟩
instance : MO noPartW := ⟨fun _ _ _ _ _ _ hk _ h => hk _ _ h⟩
instance [ME a] : MO (partW a) := ⟨fun env S k k' x x' hk hx h' => ME.mono (w := a) env S _ _ _ _ (fun y S1 ⟨i, e, h1⟩ => ⟨i, e, hk _ _ h1⟩) hx h'⟩
instance [ME a] [MO l] [MO h] : ME (sliceW a l h) := ⟨fun env S k k' x x' hk hx q => ME.mono (w := a) env S _ _ _ _ (fun y S1 h1 => MO.mono (w := l) env S1 _ _ _ _ (fun l S2 h2 => MO.mono (w := h) env S2 _ _ _ _ (fun u S3 ⟨z, e, h3⟩ => ⟨z, e, hk _ _ h3⟩) hx h2) hx h1) hx q⟩
instance [ME a] [ME b] : ME (splitW a b) := ⟨fun env S k k' x x' hk hx h => ME.mono (w := a) env S _ _ _ _ (fun y S1 ⟨a, e, h1⟩ => ⟨a, e, ME.mono (w := b) env S1 _ _ _ _ (fun z S2 ⟨b, e2, c1, c2, h2⟩ => ⟨b, e2, c1, c2, hk _ _ h2⟩) hx h1⟩) hx h⟩
instance [ME a] [ME b] : ME (joinW a b) := ⟨fun env S k k' x x' hk hx h => ME.mono (w := a) env S _ _ _ _ (fun y S1 ⟨a, e, h1⟩ => ⟨a, e, ME.mono (w := b) env S1 _ _ _ _ (fun z S2 ⟨b, ds, ys, e1, e2, c2, h2⟩ => ⟨b, ds, ys, e1, e2, c2, hk _ _ h2⟩) hx h1⟩) hx h⟩
instance [ME a] : ME (lrgW a) := ⟨fun env S k k' x x' hk hx h => ME.mono (w := a) env S _ _ _ _ (fun y S1 ⟨n, e, h0, h1, h2⟩ => ⟨n, e, h0, h1, hk _ _ h2⟩) hx h⟩
instance [ME a] : ME (popW a) := ⟨fun env S k k' x x' hk hx h => ME.mono (w := a) env S _ _ _ _ (fun y S1 ⟨n, xs, z, e1, e2, e3, h1⟩ => ⟨n, xs, z, e1, e2, e3, hk _ _ h1⟩) hx h⟩
instance [MF F] [MA r] : ME (callW F r) := ⟨mono_call MF.mono MA.mono⟩
instance {N} [MS s] : MF (funW N s) := ⟨mono_fun MS.mono⟩
instance : MS nextS := ⟨fun _ _ _ _ h q => h.nx _ _ q⟩
instance [MS s] [MS v] : MS (seqS s v) := ⟨monoSeq MS.mono MS.mono⟩
instance {i} [ME a] : MS (asgS i a) := ⟨fun env S D D' h q => ME.mono (w := a) env S _ _ _ _ (fun _ _ z => h.nx _ _ z) (h.ex env) q⟩
instance [ME a] : MS (retS a) := ⟨fun env S D D' h q => ME.mono (w := a) env S _ _ _ _ h.rt (h.ex env) q⟩
instance : MS retN := ⟨fun _ _ _ _ h q => h.rt _ _ q⟩
instance [MT t] [MS s] [MS v] : MS (ifS t s v) := ⟨fun env S D D' h q => MT.mono (w := t) env S _ _ _ _ (fun b S1 z => by
    cases b with
    | true => exact MS.mono (w := s) env S1 _ _ h z
    | false => exact MS.mono (w := v) env S1 _ _ h z) (h.ex env) q⟩
instance [ME a] : MS (dropS a) := ⟨fun env S D D' h q => ME.mono (w := a) env S _ _ _ _ (fun _ _ z => h.nx _ _ z) (h.ex env) q⟩
instance {i} : MG (nameG i) := ⟨fun _ _ _ _ _ h q => h _ _ q⟩
instance : MGs nilGs := ⟨fun _ _ _ _ _ h q => ⟨q.1, h _ _ q.2⟩⟩
instance [MG g] [MGs gs] : MGs (consGs g gs) := ⟨fun x env S k k' h ⟨y, ys, e, q⟩ => ⟨y, ys, e, MG.mono (w := g) _ _ _ _ _ (fun e S z => MGs.mono (w := gs) _ _ _ _ _ h z) q⟩⟩
instance {n} [MGs gs] : MG (tupG n gs) := ⟨fun x env S k k' h ⟨ys, e, l, z⟩ => ⟨ys, e, l, MGs.mono (w := gs) _ _ _ _ _ h z⟩⟩
instance [ME a] [MG g] : MS (tgtS a g) := ⟨fun env S D D' h z => ME.mono (w := a) env S _ _ _ _ (fun x S1 u => MG.mono (w := g) _ _ _ _ _ h.nx u) (h.ex env) z⟩
instance {n} [MA r] [MGs gs] : MS (tgtNS n r gs) := ⟨fun env S D D' h z => MA.mono (w := r) env S _ _ _ _ (fun xs S1 ⟨e1, e2, u⟩ => ⟨e1, e2, MGs.mono (w := gs) _ _ _ _ _ h.nx u⟩) (h.ex env) z⟩
instance {i j} [MA r] : MS (par2S i j r) := ⟨fun env S D D' h z => MA.mono (w := r) env S _ _ _ _ (fun xs S1 ⟨x, y, e, u⟩ => ⟨x, y, e, h.nx _ _ u⟩) (h.ex env) z⟩
instance {i j l} [MA r] : MS (par3S i j l r) := ⟨fun env S D D' h z => MA.mono (w := r) env S _ _ _ _ (fun xs S1 ⟨x, y, z, e, u⟩ => ⟨x, y, z, e, h.nx _ _ u⟩) (h.ex env) z⟩
instance [ME a] [ME b] [ME c] : MS (setLS a b c) := ⟨fun env S D D' h z => ME.mono (w := a) env S _ _ _ _ (fun v S1 z1 => ME.mono (w := b) env S1 _ _ _ _ (fun o S2 z2 => ME.mono (w := c) env S2 _ _ _ _ (fun i S3 ⟨n, xs, k, j, e1, e2, e3, e4, z3⟩ => ⟨n, xs, k, j, e1, e2, e3, e4, h.nx _ _ z3⟩) (h.ex env) z2) (h.ex env) z1) (h.ex env) z⟩
instance [ME a] [ME b] : MS (appS a b) := ⟨fun env S D D' h z => ME.mono (w := a) env S _ _ _ _ (fun o S1 ⟨n, ys, e1, e2, z1⟩ => ⟨n, ys, e1, e2, ME.mono (w := b) env S1 _ _ _ _ (fun v S2 ⟨xs, e3, e4, z3⟩ => ⟨xs, e3, e4, h.nx _ _ z3⟩) (h.ex env) z1⟩) (h.ex env) z⟩
instance {x} : MS (raiseS x) := ⟨fun _ _ _ _ h q => h.ex _ _ _ q⟩
instance [ME a] : MA (seqI a) := ⟨fun env S k k' x x' hk hx h => ME.mono (w := a) env S _ _ _ _ (fun y S1 ⟨n, c, ds, e, h1⟩ => ⟨n, c, ds, e, hk _ _ h1⟩) hx h⟩
instance [ME a] : MA (rng1I a) := ⟨fun env S k k' x x' hk hx h => ME.mono (w := a) env S _ _ _ _ (fun y S1 ⟨n, e, e1, e2, h1⟩ => ⟨n, e, e1, e2, hk _ _ h1⟩) hx h⟩
instance [ME a] [ME b] : MA (rng2I a b) := ⟨fun env S k k' x x' hk hx h => ME.mono (w := a) env S _ _ _ _ (fun y S1 h1 => ME.mono (w := b) env S1 _ _ _ _ (fun z S2 ⟨m, n, e1, e2, f1, f2, f3, f4, h2⟩ => ⟨m, n, e1, e2, f1, f2, f3, f4, hk _ _ h2⟩) hx h1) hx h⟩
instance [ME a] : MA (enumI a) := ⟨fun env S k k' x x' hk hx h => ME.mono (w := a) env S _ _ _ _ (fun y S1 ⟨n, c, ds, e, h1⟩ => ⟨n, c, ds, e, hk _ _ h1⟩) hx h⟩
instance [ME a] [ME b] : MA (zipI a b) := ⟨fun env S k k' x x' hk hx h => ME.mono (w := a) env S _ _ _ _ (fun y S1 h1 => ME.mono (w := b) env S1 _ _ _ _ (fun z S2 ⟨m, n, c, ds, es, e1, e2, h2⟩ => ⟨m, n, c, ds, es, e1, e2, hk _ _ h2⟩) hx h1) hx h⟩
instance [MA r] [MG g] [MS s] : MS (forS r g s) := ⟨fun env S D D' h q => MA.mono (w := r) env S _ _ _ _ (fun xs S1 z => mono_loop MG.mono MS.mono xs env S1 D D' h z) (h.ex env) q⟩
instance [MT t] [MS s] : MS (whileS t s) := ⟨fun env S D D' h ⟨n, q⟩ => ⟨n, mono_while MT.mono MS.mono n env S D D' h q⟩⟩
instance {b vs} [MA r] [MT t] [ME a] : ME (lcW r b t a vs) := ⟨mono_lcW MA.mono MT.mono ME.mono⟩
instance : MH [] := ⟨fun _ _ _ _ _ _ h q => h.ex _ _ _ q⟩
instance {y} {l : List (Str × DS)} [MS s] [MH l] : MH ((y, s) :: l) := ⟨fun L x env S D D' h ⟨q1, q2⟩ => ⟨q1, by
    split
    · rename_i e
      rw [if_pos e] at q2
      exact MS.mono (w := s) _ _ { D with ex := fun _ => F0 } _ ⟨h.nx, h.rt, h.bk, h.ct, fun _ _ _ z => z⟩ q2
    · rename_i e
      rw [if_neg e] at q2
      exact MH.mono L x env S D D' h q2⟩⟩
instance {L} {l : List (Str × DS)} [MS s] [MH l] : MS (tryS L s l) := ⟨fun env S D D' h q => MS.mono (w := s) _ _ { D with ex := fun env' x S' => handleS L l x env' S' D } { D' with ex := fun env' x S' => handleS L l x env' S' D' } ⟨h.nx, h.rt, h.bk, h.ct, fun e x S z => MH.mono L x e S _ _ h z⟩ q⟩
end

/-! ### names -/
structure Nm (X : Cx) (N : List Str) (sc : Scope) : Prop where
  hN : X.N = N
  hs : X.env.scope = sc
  nd : X.N.Nodup
def vB (N : List Str) (sc : Scope) (i : Nat) (x : Str) : Bool := decide (N[i]? = some x) && ((match sc.names.lookup x with
  | some .local => true
  | some .cell => true
  | some .free => true
  | _ => false) && (!(x == ("__debug__" : Str)) && !(x == ("__classdict__" : Str))))
def lB (N : List Str) (sc : Scope) (i : Nat) (x : Str) : Bool := decide (N[i]? = some x) && (match sc.names.lookup x with
  | some .local => true
  | some .cell => true
  | _ => false)
def llB (N : List Str) (sc : Scope) (i : Nat) (x : Str) : Bool := decide (N[i]? = some x) && decide (sc.names.lookup x = some .local)
def gB (sc : Scope) (x : Str) : Bool := decide (sc.names.lookup x = some .globalImplicit) && (!(x == ("__debug__" : Str)) && decide (x ≠ "__name__"))
theorem two {a b : Bool} (h : (a && b) = true) : a = true ∧ b = true := Bool.and_eq_true_iff.mp h
theorem nb {a : Bool} (h : (!a) = true) : a = false := by simpa using h
section
variable {ga : Str → Addr} {X : Cx} {E : WX} {N : List Str} {sc : Scope} {k : Nat} {x : Str} {pos : Pos}
theorem vB_ok {i : Nat} (n : Nm X N sc) (h : vB N sc i x = true) : X.N[i]? = some x ∧ Vis X.env.scope x ∧ (x == ("__debug__" : Str)) = false ∧ (x == ("__classdict__" : Str)) = false := by
  obtain ⟨h1, h2⟩ := two h
  obtain ⟨h3, h4⟩ := two h2
  obtain ⟨h5, h6⟩ := two h4
  refine ⟨by rw [n.hN]; exact of_decide_eq_true h1, ?_, nb h5, nb h6⟩
  unfold Vis
  rw [n.hs]
  revert h3
  cases sc.names.lookup x with
  | none => intro h; cases h
  | some q => cases q <;> intro h <;> simp_all
theorem lB_ok {i : Nat} (n : Nm X N sc) (h : lB N sc i x = true) : X.N[i]? = some x ∧ L2.Loc X.env.scope x := by
  obtain ⟨h1, h3⟩ := two h
  refine ⟨by rw [n.hN]; exact of_decide_eq_true h1, ?_⟩
  unfold L2.Loc
  rw [n.hs]
  revert h3
  cases sc.names.lookup x with
  | none => intro h; cases h
  | some q => cases q <;> intro h <;> simp_all
theorem llB_ok {i : Nat} (n : Nm X N sc) (h : llB N sc i x = true) : X.N[i]? = some x ∧ X.env.scope.names.lookup x = some .local := by
  obtain ⟨h1, h3⟩ := two h
  exact ⟨by rw [n.hN]; exact of_decide_eq_true h1, by rw [n.hs]; exact of_decide_eq_true h3⟩
theorem gB_ok (n : Nm X N sc) (h : gB sc x = true) : Gl X x ∧ (x == ("__debug__" : Str)) = false ∧ x ≠ "__name__" := by
  obtain ⟨h1, h2⟩ := two h
  obtain ⟨h3, h4⟩ := two h2
  exact ⟨by show X.env.scope.names.lookup x = _; rw [n.hs]; exact of_decide_eq_true h1, nb h3, of_decide_eq_true h4⟩
theorem Nm.blk (n : Nm X N sc) {s : Shared} {H : Hp} {scope : Scope} {C : Addr} {cl : List (Str × Addr)} {fp : List Addr} : Nm (X.blk s H scope (compEnvC scope cl C X.env) fp) N (relS scope sc) :=
  ⟨n.hN, by rw [← n.hs]; rfl, n.nd⟩
theorem Nm.tr (n : Nm X N sc) {pn : List (Addr × Obj)} {xe : Value → Shared → Prop} : Nm (X.tr pn xe) N sc := ⟨n.hN, n.hs, n.nd⟩
theorem Nm.suite (n : Nm X N sc) {a : Addr} {pn : List (Addr × Obj)} : Nm (X.suite a pn) N sc := ⟨n.hN, n.hs, n.nd⟩
/-- a name in slot i -/
theorem xv (n : Nm X N sc) (i : Nat) (h : vB N sc i x = true := by decide +kernel) : PX ga X E (.Name x pos) (varW i) :=
  let ⟨h1, h2, h3, h4⟩ := vB_ok n h
  px_var h1 h2 h3 h4
theorem xset {i : Nat} {e : Expr} {we : DE} {p' : Pos} (n : Nm X N sc) (he : PX ga X E e we) (h : lB N sc i x = true := by decide +kernel) (hs : swapsWith e (some (.Name x p')) pos.line X.env = pure false := by rfl) (hf : ∀ y, X.fn y = true := by intro _; rfl) :
    PXS ga X E (.Assign [.Name x p'] e pos) (asgS i we) :=
  let ⟨h1, h2⟩ := lB_ok n h
  pxs_set n.nd h1 h2 he hs (.inl (hf x))
theorem xgn {i : Nat} (n : Nm X N sc) (h : lB N sc i x = true := by decide +kernel) (hf : ∀ y, X.fn y = true := by intro _; rfl) : PXG ga X E (.Name x pos) (nameG i) :=
  let ⟨h1, h2⟩ := lB_ok n h
  pxg_name n.nd h1 h2 (.inl (hf x))
/-- arguments and their number -/
structure PXN (ga : Str → Addr) (X : Cx) (E : WX) (es : List Expr) (w : DA) (n : Nat) : Prop where
  a : PXA ga X E es w
  len : LenA w n
theorem xa0 : PXN ga X E [] nilA 0 := ⟨pxa_nil, lenA_nil⟩
theorem xac {a : Expr} {rest : List Expr} {wa : DE} {wA : DA} {n : Nat} (ha : PX ga X E a wa) (hr : PXN ga X E rest wA n) (hs : starEach (a :: rest) X.env = (false, eval a X.env) :: starEach rest X.env := by rfl) : PXN ga X E (a :: rest) (consA wa wA) (n + 1) :=
  ⟨pxa_cons ha hr.a hs, lenA_cons ha.mono hr.a.mono hr.len⟩
/-- what is known of a def -/
structure Fx (P : Program) (w : World) (K : PySem.W.Frag) (mg : Str → Option Value) (base : Heap) (ga : Str → Addr) (x : Str) (F : FS) (n j : Nat) : Prop where
  mono : MonoF F
  ex : ∃ f fd ps, FnOk P w K mg base (L2.CX P w) j f fd ps (spD K ga F n) ∧ mg x = some (.ref f) ∧ PySem.W.keepIn K (.ref f) = true ∧ Binds K fd ps [] ∧ ps.length = n
theorem xcall {F : FS} {m j : Nat} {p : Pos} {e : Expr} {es : List Expr} {wA : DA} (n : Nm X N sc) (c : Ctx X E k) (h : Fx X.prog X.w X.K X.mg X.base ga x F m j) (ha : PXN ga X E (e :: es) wA m) (hj : j ≤ k := by decide) (hg : gB sc x = true := by decide +kernel)
    (he : starEach (e :: es) X.env = (false, eval e X.env) :: starEach es X.env := by rfl) (hpl : (backTo pos (starEach es X.env)).any (·.1) = false := by rfl) : PX ga X E (.Call (.Name x p) (e :: es) [] pos) (callW F wA) := by
  obtain ⟨f, fd, ps, Fn, hm, hk, hb, _⟩ := h.ex
  obtain ⟨g1, g2, g3⟩ := gB_ok n hg
  exact px_call c Fn hj h.mono g1 hm hk hb ha.a ha.len g2 he hpl
theorem xcall0 {F : FS} {j : Nat} {p : Pos} (n : Nm X N sc) (c : Ctx X E k) (h : Fx X.prog X.w X.K X.mg X.base ga x F 0 j) (hj : j ≤ k := by decide) (hg : gB sc x = true := by decide +kernel) : PX ga X E (.Call (.Name x p) [] [] pos) (callW F nilA) := by
  obtain ⟨f, fd, ps, Fn, hm, hk, hb, hl⟩ := h.ex
  obtain ⟨g1, g2, g3⟩ := gB_ok n hg
  have : ps = [] := List.length_eq_zero_iff.mp hl
  subst this
  exact px_call0 c Fn hj h.mono g1 hm hk hb g2
/-- the module's constant -/
def conW (d : PyData) : DE := cW d
theorem xcon {d : PyData} (n : Nm X N sc) (h : ∃ u v, X.mg x = some u ∧ RelV v u ∧ ∀ B, Dq X.K B v d) (hg : gB sc x = true := by decide +kernel) : PX ga X E (.Name x pos) (cW d) := by
  obtain ⟨u, v, hm, r, q⟩ := h
  obtain ⟨g1, g2, g3⟩ := gB_ok n hg
  exact px_of_c (pe_glob g1 hm r g2) q
/-! built-ins -/
def Bi (l : List Str) (mg : Str → Option Value) : Prop := ∀ x ∈ l, mg x = none
theorem xbi {l : List Str} {id : String} {r : List V → Hp → VK → Prop} {g : List DV → Sto → Option DV} {p : Pos} {e : Expr} {es : List Expr} {wA : DA} {m : Nat} (n : Nm X N sc) (hB : Bi l X.mg) (hc : CallR X (.builtin id) r) (hg : OpN X.K r g) (ha : PXN ga X E (e :: es) wA m)
    (hl : x ∈ l := by decide +kernel) (hgl : gB sc x = true := by decide +kernel) (hv : bootBuiltins x = some (.builtin id) := by decide +kernel)
    (he : starEach (e :: es) X.env = (false, eval e X.env) :: starEach es X.env := by rfl) (hpl : (backTo pos (starEach es X.env)).any (·.1) = false := by rfl) : PX ga X E (.Call (.Name x p) (e :: es) [] pos) (callNW g wA) := by
  obtain ⟨g1, g2, g3⟩ := gB_ok n hgl
  exact px_callB hc hg g1 (hB x hl) hv ha.a g3 g2 he hpl
theorem xty {l : List Str} {T : String} {r : List V → Hp → VK → Prop} {g : List DV → Sto → Option DV} {p : Pos} {e : Expr} {es : List Expr} {wA : DA} {m : Nat} (n : Nm X N sc) (hB : Bi l X.mg) (hc : CallR X (.type T) r) (hg : OpN X.K r g) (ha : PXN ga X E (e :: es) wA m)
    (hl : x ∈ l := by decide +kernel) (hgl : gB sc x = true := by decide +kernel) (hv : bootBuiltins x = some (.type T) := by decide +kernel)
    (he : starEach (e :: es) X.env = (false, eval e X.env) :: starEach es X.env := by rfl) (hpl : (backTo pos (starEach es X.env)).any (·.1) = false := by rfl) : PX ga X E (.Call (.Name x p) (e :: es) [] pos) (callNW g wA) := by
  obtain ⟨g1, g2, g3⟩ := gB_ok n hgl
  exact px_callTy hc hg g1 (hB x hl) hv ha.a g3 g2 he hpl
theorem xisi {l : List Str} {T : Ty} {y : Str} {p p2 : Pos} {e : Expr} {we : DE} (n : Nm X N sc) (hB : Bi l X.mg) (he : PX ga X E e we) (hl : ("isinstance" : Str) ∈ l := by decide +kernel) (hly : y ∈ l := by decide +kernel) (hg : gB sc ("isinstance" : Str) = true := by decide +kernel) (hgy : gB sc y = true := by decide +kernel)
    (hv : bootBuiltins y = some (.type T.nm) := by decide +kernel)
    (h1 : starEach [e, .Name y p2] X.env = (false, eval e X.env) :: starEach [.Name y p2] X.env := by rfl) (h2 : starEach [.Name y p2] X.env = (false, eval (.Name y p2) X.env) :: starEach [] X.env := by rfl)
    (h3 : (backTo pos (starEach [.Name y p2] X.env)).any (·.1) = false := by rfl) : PX ga X E (.Call (.Name "isinstance" p) [e, .Name y p2] [] pos) (op1W (isiD T) we) := by
  obtain ⟨g1, _, _⟩ := gB_ok n hg
  obtain ⟨f1, f2, f3⟩ := gB_ok n hgy
  exact px_isi g1 (hB _ hl) f1 (hB _ hly) hv he (by decide +kernel) f3 f2 h1 h2 h3
theorem xlrg {l : List Str} {a : Expr} {wa : DE} {p p2 apos : Pos} (n : Nm X N sc) (c : Ctx X E k) (hB : Bi l X.mg) (ha : PX ga X E a wa) (hl : ("list" : Str) ∈ l := by decide +kernel) (hr : ("range" : Str) ∈ l := by decide +kernel) (hg : gB sc "list" = true := by decide +kernel) (hg2 : gB sc "range" = true := by decide +kernel)
    (na : starEach [a] X.env = (false, eval a X.env) :: starEach [] X.env := by rfl) (nb : starEach [.Call (.Name "range" p2) [a] [] apos] X.env = (false, eval (.Call (.Name "range" p2) [a] [] apos) X.env) :: starEach [] X.env := by rfl) :
    PX ga X E (.Call (.Name "list" p) [.Call (.Name "range" p2) [a] [] apos] [] pos) (lrgW wa) :=
  px_lrg c.calm (gB_ok n hg).1 (hB _ hl) (gB_ok n hg2).1 (hB _ hr) ha na nb
theorem xrng1 {l : List Str} {tg e : Expr} {we : DE} {p : Pos} (n : Nm X N sc) (hB : Bi l X.mg) (he : PX ga X E e we) (hr : ("range" : Str) ∈ l := by decide +kernel) (hg2 : gB sc "range" = true := by decide +kernel) (hs : starEach [e] X.env = [(false, eval e X.env)] := by rfl) : PXI ga X E tg (.Call (.Name "range" p) [e] [] pos) (rng1I we) :=
  pxi_rng1 (gB_ok n hg2).1 (hB _ hr) he hs
theorem xrng2 {l : List Str} {tg a b : Expr} {wa wb : DE} {p : Pos} (n : Nm X N sc) (hB : Bi l X.mg) (ha : PX ga X E a wa) (hb : PX ga X E b wb) (hr : ("range" : Str) ∈ l := by decide +kernel) (hg2 : gB sc "range" = true := by decide +kernel)
    (hs : starEach [a, b] X.env = [(false, eval a X.env), (false, eval b X.env)] := by rfl) (hs2 : starEach [b] X.env = [(false, eval b X.env)] := by rfl) : PXI ga X E tg (.Call (.Name "range" p) [a, b] [] pos) (rng2I wa wb) :=
  pxi_rng2 (gB_ok n hg2).1 (hB _ hr) ha hb hs hs2
theorem xenum {l : List Str} {e : Expr} {elts : List Expr} {kk : Nat} {tpos : Pos} {we : DE} {p : Pos} (n : Nm X N sc) (hB : Bi l X.mg) (he : PX ga X E e we) (hr : ("enumerate" : Str) ∈ l := by decide +kernel) (hg2 : gB sc "enumerate" = true := by decide +kernel) (hs : starEach [e] X.env = [(false, eval e X.env)] := by rfl) :
    PXI ga X E (.Tuple elts kk tpos) (.Call (.Name "enumerate" p) [e] [] pos) (enumI we) :=
  pxi_enum (gB_ok n hg2).1 (hB _ hr) he hs
theorem xzip {l : List Str} {a b : Expr} {elts : List Expr} {kk : Nat} {tpos : Pos} {wa wb : DE} {p : Pos} (n : Nm X N sc) (c : Ctx X E k) (hB : Bi l X.mg) (ha : PX ga X E a wa) (hb : PX ga X E b wb) (hr : ("zip" : Str) ∈ l := by decide +kernel) (hg2 : gB sc "zip" = true := by decide +kernel)
    (hs : starEach [a, b] X.env = (false, eval a X.env) :: starEach [b] X.env := by rfl) (hs2 : starEach [b] X.env = (false, eval b X.env) :: starEach [] X.env := by rfl) (hpl : (backTo pos (starEach [b] X.env)).any (·.1) = false := by rfl) :
    PXI ga X E (.Tuple elts kk tpos) (.Call (.Name "zip" p) [a, b] [] pos) (zipI wa wb) :=
  pxi_zip c.calm (gB_ok n hg2).1 (hB _ hr) ha hb hs hs2 hpl
end
end DW

set_option Elab.async false
set_option linter.all false
set_option maxRecDepth 100000
set_option maxHeartbeats 4000000
set_option autoImplicit false
/-! DW11: a law's ground, its defs, its end. -/
namespace DW
open PySem L2

/-- a def's names: with every name of its own a slot -/
structure Nf (X : Cx) (N : List Str) (sc : Scope) : Prop extends Nm X N sc where
  fn : X.fn = fun _ => true
  stk : X.stack = X.env :: X.outer
  frm : X.env.frame = some X.env.locals
theorem Nf.tr {X : Cx} {N : List Str} {sc : Scope} (n : Nf X N sc) {pn : List (Addr × Obj)} {xe : Value → Shared → Prop} : Nf (X.tr pn xe) N sc := ⟨n.toNm.tr, n.fn, n.stk, n.frm⟩
theorem Nf.suite {X : Cx} {N : List Str} {sc : Scope} (n : Nf X N sc) {a : Addr} {pn : List (Addr × Obj)} : Nf (X.suite a pn) N sc := ⟨n.toNm.suite, n.fn, n.stk, n.frm⟩

section
variable {ga : Str → Addr} {X : Cx} {E : WX} {N : List Str} {sc : Scope} {k : Nat} {x : Str} {pos : Pos}
theorem ys {i : Nat} {e : Expr} {we : DE} {p' : Pos} (n : Nf X N sc) (he : PX ga X E e we) (h : lB N sc i x = true := by decide +kernel) (hs : swapsWith e (some (.Name x p')) pos.line X.env = pure false := by rfl) :
    PXS ga X E (.Assign [.Name x p'] e pos) (asgS i we) := xset n.toNm he h hs (fun y => by rw [n.fn])
theorem yg {i : Nat} (n : Nf X N sc) (h : lB N sc i x = true := by decide +kernel) : PXG ga X E (.Name x pos) (nameG i) := xgn n.toNm h (fun y => by rw [n.fn])
/-- several names on one line, a written tuple behind -/
theorem ypar2 {a b : Expr} {wA : DA} {i j : Nat} {y : Str} {px py pt : Pos} {kt k2 pt2} (n : Nf X N sc) (c : Ctx X E k) (ha : PXA ga X E [a, b] wA) (hx : llB N sc i x = true := by decide +kernel) (hy : llB N sc j y = true := by decide +kernel) (hij : i ≠ j := by decide)
    (hw : swappedStores [.Tuple [.Name x px, .Name y py] kt pt] (.Tuple [a, b] k2 pt2) X.env = pure (some [x, y])) (hs : swapsWithSole [.Tuple [.Name x px, .Name y py] kt pt] (.Tuple [a, b] k2 pt2) pos.line X.env = pure false := by rfl) :
    PXS ga X E (.Assign [.Tuple [.Name x px, .Name y py] kt pt] (.Tuple [a, b] k2 pt2) pos) (par2S i j wA) :=
  let ⟨h1, h2⟩ := llB_ok n.toNm hx
  let ⟨h3, h4⟩ := llB_ok n.toNm hy
  pxs_par2 c.calm n.nd h1 h3 hij h2 h4 ha hw hs
theorem ypar3 {a b d : Expr} {wA : DA} {i j l : Nat} {y z : Str} {px py pz pt : Pos} {kt k2 pt2} (n : Nf X N sc) (c : Ctx X E k) (ha : PXA ga X E [a, b, d] wA) (hx : llB N sc i x = true := by decide +kernel) (hy : llB N sc j y = true := by decide +kernel) (hz : llB N sc l z = true := by decide +kernel) (hij : i ≠ j := by decide) (hil : i ≠ l := by decide) (hjl : j ≠ l := by decide)
    (hw : swappedStores [.Tuple [.Name x px, .Name y py, .Name z pz] kt pt] (.Tuple [a, b, d] k2 pt2) X.env = pure (some [x, y, z])) (hs : swapsWithSole [.Tuple [.Name x px, .Name y py, .Name z pz] kt pt] (.Tuple [a, b, d] k2 pt2) pos.line X.env = pure false := by rfl) :
    PXS ga X E (.Assign [.Tuple [.Name x px, .Name y py, .Name z pz] kt pt] (.Tuple [a, b, d] k2 pt2) pos) (par3S i j l wA) :=
  let ⟨h1, h2⟩ := llB_ok n.toNm hx
  let ⟨h3, h4⟩ := llB_ok n.toNm hy
  let ⟨h5, h6⟩ := llB_ok n.toNm hz
  pxs_par3 c.calm n.nd h1 h3 h5 hij hil hjl h2 h4 h6 ha hw hs
/-- the target of a comprehension: a name of its own -/
theorem xcn {scope : Scope} {i : Nat} (n : Nm X N sc) (h : llB N (relS scope sc) i x = true := by decide +kernel) : PXC X scope (.Name x pos) (bindN i) [i] (gName i) :=
  pxc_name (fun s H C cl fp => by
    have m : Nm (X.blk s H scope (compEnvC scope cl C X.env) fp) N (relS scope sc) := n.blk
    obtain ⟨h1, h2⟩ := llB_ok m h
    exact pg_name m.nd h1 (.inl h2) (.inr h2)) (by simp)
theorem xcg {scope : Scope} {i : Nat} (n : Nm X N sc) (h : llB N (relS scope sc) i x = true) (s : Shared) (H : Hp) (C : Addr) (cl : List (Str × Addr)) (fp : List Addr) : PG (X.blk s H scope (compEnvC scope cl C X.env) fp) (.Name x pos) (gName i) := by
  have m : Nm (X.blk s H scope (compEnvC scope cl C X.env) fp) N (relS scope sc) := n.blk
  obtain ⟨h1, h2⟩ := llB_ok m h
  exact pg_name m.nd h1 (.inl h2) (.inr h2)
theorem xct2 {scope : Scope} {i j : Nat} {y : Str} {p1 p2 p3 : Pos} {kk : Nat} (n : Nm X N sc) (c : Ctx X E k) (h1 : llB N (relS scope sc) i x = true := by decide +kernel) (h2 : llB N (relS scope sc) j y = true := by decide +kernel) :
    PXC X scope (.Tuple [.Name x p1, .Name y p2] kk p3) (bindT [i, j]) [i, j] (gTup X.K 2 (tgN [i, j])) :=
  pxc_tup c.calm (fun _ h => h) fun s H C cl fp => pgs_cons (xcg n h1 s H C cl fp) (pgs_cons (xcg n h2 s H C cl fp) pgs_nil)
theorem xct3 {scope : Scope} {i j l : Nat} {y z : Str} {p1 p2 p3 p4 : Pos} {kk : Nat} (n : Nm X N sc) (c : Ctx X E k) (h1 : llB N (relS scope sc) i x = true := by decide +kernel) (h2 : llB N (relS scope sc) j y = true := by decide +kernel) (h3 : llB N (relS scope sc) l z = true := by decide +kernel) :
    PXC X scope (.Tuple [.Name x p1, .Name y p2, .Name z p4] kk p3) (bindT [i, j, l]) [i, j, l] (gTup X.K 3 (tgN [i, j, l])) :=
  pxc_tup c.calm (fun _ h => h) fun s H C cl fp => pgs_cons (xcg n h1 s H C cl fp) (pgs_cons (xcg n h2 s H C cl fp) (pgs_cons (xcg n h3 s H C cl fp) pgs_nil))
theorem xct4 {scope : Scope} {i j l o : Nat} {y z u : Str} {p1 p2 p3 p4 p5 : Pos} {kk : Nat} (n : Nm X N sc) (c : Ctx X E k) (h1 : llB N (relS scope sc) i x = true := by decide +kernel) (h2 : llB N (relS scope sc) j y = true := by decide +kernel) (h3 : llB N (relS scope sc) l z = true := by decide +kernel) (h4 : llB N (relS scope sc) o u = true := by decide +kernel) :
    PXC X scope (.Tuple [.Name x p1, .Name y p2, .Name z p4, .Name u p5] kk p3) (bindT [i, j, l, o]) [i, j, l, o] (gTup X.K 4 (tgN [i, j, l, o])) :=
  pxc_tup c.calm (fun _ h => h) fun s H C cl fp => pgs_cons (xcg n h1 s H C cl fp) (pgs_cons (xcg n h2 s H C cl fp) (pgs_cons (xcg n h3 s H C cl fp) (pgs_cons (xcg n h4 s H C cl fp) pgs_nil)))
theorem xlc {scope : Scope} {tg iter elt : Expr} {ifs : List Expr} {wi : DI} {tt : DT} {te : DE} {b : DB} {t : TG} (n : Nm X N sc) (c : Ctx X E k) (hi : PXI ga X E tg iter wi) (own : List (Str × Nat)) (hg : PXC X scope tg b (own.map (·.2)) t)
    (ht : ∀ (s : Shared) (H : Hp) (C : Addr) (cl : List (Str × Addr)) (fp : List Addr), Nm (X.blk s H scope (compEnvC scope cl C X.env) fp) N (relS scope sc) → Ctx (X.blk s H scope (compEnvC scope cl C X.env) fp) W0 k → PXF ga (X.blk s H scope (compEnvC scope cl C X.env) fp) W0 ifs tt)
    (he : ∀ (s : Shared) (H : Hp) (C : Addr) (cl : List (Str × Addr)) (fp : List Addr), Nm (X.blk s H scope (compEnvC scope cl C X.env) fp) N (relS scope sc) → Ctx (X.blk s H scope (compEnvC scope cl C X.env) fp) W0 k → PX ga (X.blk s H scope (compEnvC scope cl C X.env) fp) W0 elt te)
    (hb : blkC N sc scope own = true := by decide +kernel) (hs : ∀ x, foldedSetIterable iter X.env x = pure x := by intro _; rfl) : PX ga X E (.ListComp elt [⟨tg, iter, ifs, 0⟩] scope pos) (lcW wi b tt te (own.map (·.2))) :=
  px_lc c hi (by rw [n.hN, n.hs]; exact blkOk_by hb) hg (fun s H C cl fp => ht s H C cl fp n.blk (c.blk s H _ fp)) (fun s H C cl fp => he s H C cl fp n.blk (c.blk s H _ fp)) hs
theorem ylc {scope : Scope} {tg iter elt : Expr} {ifs : List Expr} {wi : DI} {tt : DT} {te : DE} {b : DB} {t : TG} {y : Str} {i : Nat} {py spos : Pos} (n : Nf X N sc) (c : Ctx X E k) (hi : PXI ga X E tg iter wi) (own : List (Str × Nat)) (hg : PXC X scope tg b (own.map (·.2)) t)
    (ht : ∀ (s : Shared) (H : Hp) (C : Addr) (cl : List (Str × Addr)) (fp : List Addr), Nm (X.blk s H scope (compEnvC scope cl C X.env) fp) N (relS scope sc) → Ctx (X.blk s H scope (compEnvC scope cl C X.env) fp) W0 k → PXF ga (X.blk s H scope (compEnvC scope cl C X.env) fp) W0 ifs tt)
    (he : ∀ (s : Shared) (H : Hp) (C : Addr) (cl : List (Str × Addr)) (fp : List Addr), Nm (X.blk s H scope (compEnvC scope cl C X.env) fp) N (relS scope sc) → Ctx (X.blk s H scope (compEnvC scope cl C X.env) fp) W0 k → PX ga (X.blk s H scope (compEnvC scope cl C X.env) fp) W0 elt te)
    (hy : llB N sc i y = true := by decide +kernel) (hf : (match sc.kind with | .function => true | _ => false) = true := by decide +kernel) (hl : (py.line == pos.line) = true := by decide +kernel) (ha : (scope.names.any fun (n, k) => n == y && (k == .local || k == .cell)) = false := by decide +kernel)
    (hb : blkC N sc scope own = true := by decide +kernel) (hs : ∀ x, foldedSetIterable iter X.env x = pure x := by intro _; rfl) : PXS ga X E (.Assign [.Name y py] (.ListComp elt [⟨tg, iter, ifs, 0⟩] scope pos) spos) (asgS i (lcW wi b tt te (own.map (·.2)))) :=
  let ⟨h1, h2⟩ := llB_ok n.toNm hy
  pxs_setLc c h1 h2 (sw_true (by rw [n.hs]; revert hf; cases sc.kind <;> intro h <;> first | rfl | cases h) h2 hl ha) hi (by rw [n.hN, n.hs]; exact blkOk_by hb) hg (fun s H C cl fp => ht s H C cl fp n.blk (c.blk s H _ fp)) (fun s H C cl fp => he s H C cl fp n.blk (c.blk s H _ fp)) hs
/-- try -/
theorem ytry {body : List Stmt} {wb : DS} {L : List Str} {h₀ : ExceptHandler} {hds : List ExceptHandler} {l : List (Str × DS)} {lv : List (Value × (Addr → Value → Option Addr → TS))} (n : Nf X N sc) (c : Ctx X E k)
    (hb : ∀ (W : WX) (pn : List (Addr × Obj)) (xe : Value → Shared → Prop), Nf (X.tr pn xe) N sc → Ctx (X.tr pn xe) W k → PXB ga (X.tr pn xe) W body wb) (hh : HdsX ga X L (h₀ :: hds) l lv) (mb : MS wb) :
    PXS ga X E (.Try body (h₀ :: hds) [] [] pos) (tryS L wb l) := pxs_try c n.stk n.frm (fun W pn xe d => hb W pn xe n.tr d) hh mb.mono
end

/-! ### the ground of a law -/
def freeB (fa : List He.Fa) (x : Str) : Bool := fa.any fun f => match f with
  | .free y => decide (y = x)
  | _ => false
def gloB (fa : List He.Fa) (x : Str) : Bool := fa.any fun f => match f with
  | .glo y => decide (y = x)
  | _ => false
def excB (fa : List He.Fa) (x : Str) : Bool := fa.any fun f => match f with
  | .exc y => decide (y = x)
  | _ => false
def exmB (fa : List He.Fa) (x y : Str) (b : Bool) : Bool := fa.any fun f => match f with
  | .exm a c d => decide (a = x) && (decide (c = y) && decide (d = b))
  | _ => false
structure Gd (fa : List He.Fa) (fn : List He.DefD) (cs : List (Str × PyData)) (K : PySem.W.Frag) (mg : Str → Option Value) : Prop where
  c : He.SaysD fa fn K
  con : consOk cs K = true
  N : ∃ h : Heap, K.In h ∧ h.Ns mainGlobals mg
section
variable {fa : List He.Fa} {fn : List He.DefD} {cs : List (Str × PyData)} {K : PySem.W.Frag} {mg : Str → Option Value} {P : Program} {w : World} {base : Heap}
theorem Gd.free (g : Gd fa fn cs K mg) {x : Str} (h : freeB fa x = true) : mg x = none := by
  obtain ⟨H, h1, h2⟩ := g.N
  obtain ⟨f, hf, e⟩ := List.any_eq_true.mp h
  cases f with
  | free y =>
    have : y = x := of_decide_eq_true e
    subst this
    exact He.free_ok h1 h2 (g.c.facts hf)
  | _ => cases e
theorem Gd.glo (g : Gd fa fn cs K mg) {x : Str} (h : gloB fa x = true) : mg x = some (.ref (He.ga K x)) := by
  obtain ⟨H, h1, h2⟩ := g.N
  obtain ⟨f, hf, e⟩ := List.any_eq_true.mp h
  cases f with
  | glo y =>
    have : y = x := of_decide_eq_true e
    subst this
    exact He.glo_ok h1 h2 (g.c.facts hf)
  | _ => cases e
theorem Gd.bi (g : Gd fa fn cs K mg) (l : List Str) (h : (l.all fun x => freeB fa x) = true) : Bi l mg := fun x hx => g.free (List.all_eq_true.mp h x hx)
theorem Gd.cn (g : Gd fa fn cs K mg) {x : Str} {d : PyData} (hx : (x, d) ∈ cs) : ∃ u v, mg x = some u ∧ RelV v u ∧ ∀ B, Dq K B v d := by
  obtain ⟨H, h1, h2⟩ := g.N
  exact cons_ok h1 h2 g.con hx
theorem Gd.exc (g : Gd fa fn cs K mg) {x : Str} (h : excB fa x = true) : PySem.W.excIn K (He.ga K x) He.veBase "ValueError.__new__" = true ∧ PySem.W.keepIn K (.ref (He.ga K x)) = true ∧ PySem.W.subIn K (.ref (He.ga K x)) (.type "BaseException") = some true ∧ PySem.W.typeIn K (.ref (He.ga K x)) = some (.type "type") := by
  obtain ⟨f, hf, e⟩ := List.any_eq_true.mp h
  cases f with
  | exc y =>
    have : y = x := of_decide_eq_true e
    subst this
    exact He.exc_ok (g.c.facts hf)
  | _ => cases e
theorem Gd.exm (g : Gd fa fn cs K mg) {x y : Str} {b : Bool} (h : exmB fa x y b = true) : PySem.W.exmOne K (.ref (He.ga K x)) (.ref (He.ga K y)) = some b := by
  obtain ⟨f, hf, e⟩ := List.any_eq_true.mp h
  cases f with
  | exm u v c =>
    have e2 : (decide (u = x) && (decide (v = y) && decide (c = b))) = true := e
    simp only [Bool.and_eq_true, decide_eq_true_eq] at e2
    obtain ⟨rfl, rfl, rfl⟩ := e2
    exact He.exm_ok (g.c.facts hf)
  | _ => cases e
/-- a raise -/
theorem yraise {X : Cx} {E : WX} {x m : Str} {j k : Nat} {p p2 pos pos' : Pos} {N : List Str} {sc : Scope} (n : Nm X N sc) (c : Ctx X E k) (g : Gd fa fn cs X.K X.mg) (h1 : excB fa x = true := by decide +kernel) (h2 : gloB fa x = true := by decide +kernel) (hg : gB sc x = true := by decide +kernel) :
    PXS (He.ga X.K) X E (.Raise (some (.Call (.Name x p) [.Constant (.str m) j p2] [] pos)) none pos') (raiseS x) := by
  obtain ⟨e1, e2, e3, e4⟩ := g.exc h1
  obtain ⟨f1, f2, f3⟩ := gB_ok n hg
  exact pxs_raise c e1 (g.glo h2) e2 e3 e4 f1 f2
/-- one clause more -/
theorem yhd {X : Cx} {x : Str} {L : List Str} {b₀ : Stmt} {suite : List Stmt} {np pos' : Pos} {hds : List ExceptHandler} {l : List (Str × DS)} {lv : List (Value × (Addr → Value → Option Addr → TS))} {w : DS} {N : List Str} {sc : Scope} (n : Nf X N sc) (g : Gd fa fn cs X.K X.mg)
    (hs : ∀ (a : Addr) (oe : Obj) (pn : List (Addr × Obj)), Nf (X.suite a ((a, oe) :: pn)) N sc → PXB (He.ga X.K) (X.suite a ((a, oe) :: pn)) W0 (b₀ :: suite) w) (r : HdsX (He.ga X.K) X L hds l lv)
    (h2 : gloB fa x = true := by decide +kernel) (hg : gB sc x = true := by decide +kernel) (hx : (L.all fun y => exmB fa y x (decide (y = x))) = true := by decide +kernel) :
    HdsX (He.ga X.K) X L (.ExceptHandler (some (.Name x np)) none (b₀ :: suite) pos' :: hds) ((x, w) :: l) ((.ref (He.ga X.K x), fun _ _ _ => sT X.K (He.ga X.K) W0 w) :: lv) := by
  obtain ⟨f1, f2, f3⟩ := gB_ok n.toNm hg
  exact .cons f1 (g.glo h2) f2 (fun y hy => g.exm (List.all_eq_true.mp hx y hy)) (fun a oe pn => hs a oe pn n.suite) r
/-- a def of the ground -/
theorem Gd.fx (g : Gd fa fn cs K mg) {d : He.DefD} (i : Nat) (N ps : List Str) {ws : DS} {k m : Nat} (hi : fn[i]? = some d) (hd : d.dfl = []) (ha : d.at_ = (d.name, none)) (Sc : FnScope N ps d.scope) (hgl : gloB fa d.name = true) (hl : ps.length = m) (hw : MS ws)
    (hbd : ∀ (kV doc pm : Value) (an : Option Addr) (cdv ct : Value) (us : List Value), us.length = ps.length → bindArgs (PySem.W.fnOf d.name d.qual d.params d.body d.scope .none kV doc pm an cdv ct) ⟨us, []⟩ = pure (ps.zip us))
    (hb : ∀ (X : Cx) (E : WX), X.prog = P → X.w = w → X.K = K → X.mg = mg → X.base = base → Nf X N d.scope → Ctx X E k → PXB (He.ga K) X E d.body ws) : Fx P w K mg base (He.ga K) d.name (funW N.length ws) m (k + 1) := by
  obtain ⟨fd, F⟩ := g.c.def_ i hi
  have hfa : He.fAd K d.at_ = He.ga K d.name := by rw [ha]; rfl
  rw [hfa] at F
  have e0 : d.dvs K = [] := by unfold He.DefD.dvs; rw [hd]; rfl
  rw [e0] at F
  subst hl
  refine ⟨mono_fun hw.mono, _, fd, ps, fn_ok F Sc (fun X E a b c d e f h i j k' l => hb X E a b c d e ⟨⟨f, h, by rw [f]; exact Sc.nd⟩, i, j, k'⟩ l), g.glo hgl, F.kp, F.bindsN hbd, rfl⟩
/-- the law's own def: for every base -/
theorem Gd.fl (g : Gd fa fn cs K mg) {d : He.DefD} (i : Nat) (N ps : List Str) {ws : DS} {k m : Nat} (hi : fn[i]? = some d) (hd : d.dfl = []) (ha : d.at_ = (d.name, none)) (Sc : FnScope N ps d.scope) (hgl : gloB fa d.name = true) (hl : ps.length = m)
    (hbd : ∀ (kV doc pm : Value) (an : Option Addr) (cdv ct : Value) (us : List Value), us.length = ps.length → bindArgs (PySem.W.fnOf d.name d.qual d.params d.body d.scope .none kV doc pm an cdv ct) ⟨us, []⟩ = pure (ps.zip us))
    (hb : ∀ (P : Program) (w : World) (base : Heap) (X : Cx) (E : WX), X.prog = P → X.w = w → X.K = K → X.mg = mg → X.base = base → Nf X N d.scope → Ctx X E k → PXB (He.ga K) X E d.body ws) :
    ∃ fd, mg d.name = some (.ref (He.ga K d.name)) ∧ (∀ (s : Shared) (us : List Value), us.length = ps.length → BindsTo s fd ⟨us, []⟩ (ps.zip us)) ∧ ∀ (P : Program) (w : World) (base : Heap), FnOk P w K mg base (L2.CX P w) (k + 1) (He.ga K d.name) fd ps (spD K (He.ga K) (funW N.length ws) m) := by
  obtain ⟨fd, F⟩ := g.c.def_ i hi
  have hfa : He.fAd K d.at_ = He.ga K d.name := by rw [ha]; rfl
  rw [hfa] at F
  have e0 : d.dvs K = [] := by unfold He.DefD.dvs; rw [hd]; rfl
  rw [e0] at F
  subst hl
  exact ⟨fd, g.glo hgl, fun s us hu => F.bindsA hbd s us hu, fun P w base => fn_ok F Sc (fun X E a b c d e f h i j k' l => hb P w base X E a b c d e ⟨⟨f, h, by rw [f]; exact Sc.nd⟩, i, j, k'⟩ l)⟩
end
/-! ### the end -/
theorem no_cx {P : Program} {w : World} {K : PySem.W.Frag} {mg : Str → Option Value} {base : Heap} {k : Nat} {f : Addr} {fd : FuncData} {ps : List Str} {sp : Sp} (F : FnOk P w K mg base (L2.CX P w) k f fd ps sp) :
    FnOk P w K mg base L2.CX0 k f fd ps (fun vs H Q _ => sp vs H Q fun _ _ _ => False) :=
  ⟨fun vs H Q E h => F.len vs H Q _ h, fun A outer s H args us vs Q E hr he hb hv hs => codeAny_mono (F.run A outer s H args us vs Q _ hr he hb hv hs) fun r s' h => by
    cases r with
    | ok fl => cases fl <;> exact h
    | error e =>
      obtain ⟨a, B, H', cls, d, h1, h2, h3, h4, h5, h6, h7, h8⟩ := h
      exact h8.elim⟩
theorem sp_law {K : PySem.W.Frag} {ga : Str → Addr} {F : FS} (hF : ∀ ns : List Int, ns.length ≤ 63 → F [.s ns] [] (fun r _ => r = .d (.bool true)) (fun _ _ => False)) (mF : MonoF F) (H : Hp) (a : Addr) (ns : List Int) (hl : ns.length ≤ 63) (hS : SqL K H a (ns.map V.int)) :
    spD K ga F 1 [.ref a] H (fun v _ => v = .bl true) (fun _ _ _ => False) := by
  refine ⟨rfl, H, [], [], [.s ns], ⟨fun _ _ e => e, rfl, fun n o e => by simp at e, List.nodup_nil, fun a h => by simp at h⟩, .cons ⟨a, rfl, hS⟩ .nil, mF _ _ _ _ _ _ (fun r S' e v H' B' α' st r' => ?_) (fun _ _ z => z.elim) (hF ns hl)⟩
  subst e
  cases r'
  rfl
end DW

set_option Elab.async false
set_option linter.all false
set_option maxRecDepth 100000
set_option maxHeartbeats 4000000
set_option autoImplicit false
/-! DW12: small rules more. -/
namespace DW
open PySem L2
def negD : DV → Sto → Option DV
  | .d (.int i), _ => some (.d (.int (-i)))
  | _, _ => none
section
variable {ga : Str → Addr} {X : Cx} {E : WX} {a : Expr} {wa : DE} {pos : Pos}
theorem px_neg (ha : PX ga X E a wa) : PX ga X E (.UnaryOp .USub a pos) (op1W negD wa) := by
  refine ⟨fun env S k k' x x' hk hx h => ha.mono env S _ _ _ _ (fun y S1 ⟨z, e, h1⟩ => ⟨z, e, hk _ _ h1⟩) hx h, ⟨fun pins s σ H Q I h => (pe_un un_neg ha.run).run pins s σ H Q I ?_⟩⟩
  obtain ⟨env, S, B, α, re, w, h⟩ := h
  refine ⟨env, S, B, α, re, w, ha.mono env S _ _ _ _ (fun y S1 ⟨z, e, h1⟩ v1 H1 B1 α1 s1 r1 => ?_) (fun _ _ z => z) h⟩
  unfold negD at e
  split at e
  · cases e
    cases r1
    exact ⟨_, rfl, h1 _ _ _ _ s1 (.int _)⟩
  · cases e
end
end DW

set_option Elab.async false
set_option linter.all false
set_option maxRecDepth 100000
set_option maxHeartbeats 4000000
set_option autoImplicit false
/-! DX3: dicts of the store, on data. -/
namespace DW
open PySem L2

mutual
def keyN : PyData → Option NestedKey
  | .none => some .none
  | .int i => some (.num i)
  | .tuple ds => (match keysN ds with
    | some ks => some (.tup ks)
    | none => none)
  | _ => none
def keysN : List PyData → Option (List NestedKey)
  | [] => some []
  | d :: ds => match keyN d, keysN ds with
    | some k, some ks => some (k :: ks)
    | _, _ => none
end
mutual
theorem keyN_data : ∀ (d : PyData) (k : NestedKey), keyN d = some k → d = k.data
  | .none, k, h => by simp [keyN] at h; subst h; rfl
  | .int i, k, h => by simp [keyN] at h; subst h; rfl
  | .tuple ds, k, h => by
    cases e : keysN ds with
    | none => simp [keyN, e] at h
    | some ks => simp [keyN, e] at h; subst h; rw [NestedKey.data, keysN_data ds ks e]
  | .bool _, _, h => by simp [keyN] at h
  | .str _, _, h => by simp [keyN] at h
  | .list _, _, h => by simp [keyN] at h
  | .dict _, _, h => by simp [keyN] at h
theorem keysN_data : ∀ (ds : List PyData) (ks : List NestedKey), keysN ds = some ks → ds = NestedKey.datas ks
  | [], ks, h => by simp [keysN] at h; subst h; rfl
  | d :: ds, ks, h => by
    cases e : keyN d with
    | none => simp [keysN, e] at h
    | some k =>
      cases e2 : keysN ds with
      | none => simp [keysN, e, e2] at h
      | some ks' =>
        simp [keysN, e, e2] at h
        subst h
        rw [NestedKey.datas, keyN_data d k e, keysN_data ds ks' e2]
end
/-- a tuple as a key -/
def keyV : DV → Option NestedKey
  | .d (.tuple ds) => (match keysN ds with
    | some ks => if goodK (.tup ks) = true then some (.tup ks) else none
    | none => none)
  | _ => none
section
variable {β : Type}
def getA : List (NestedKey × β) → NestedKey → Option β
  | [], _ => none
  | q :: r, k => if q.1 = k then some q.2 else getA r k
def putA : List (NestedKey × β) → NestedKey → β → List (NestedKey × β)
  | [], k, x => [(k, x)]
  | q :: r, k, x => if q.1 = k then (q.1, x) :: r else q :: putA r k x
end
def dicA : DV → Sto → Option (List (NestedKey × DV))
  | .p n, S => (match S[n]? with
    | some (.dic kvs) => some kvs
    | _ => none)
  | .m kvs, _ => some (kvs.map fun q => (q.1, .d q.2))
  | _, _ => none
def dgD : DV → DV → Sto → Option DV := fun x y S => (dicA x S).bind fun kvs => (keyV y).bind fun k => getA kvs k
def dinD (neg : Bool) : DV → DV → Sto → Option DV := fun y x S => (dicA x S).bind fun kvs => (keyV y).map fun k => .d (.bool (neg != (getA kvs k).isSome))
def dg2D (x y z : DV) (S : Sto) : Option DV := (dicA x S).bind fun kvs => (keyV y).map fun k => (getA kvs k).getD z
def dg2W (wd wk wx : DE) : DE := fun env S k kx => wd env S (fun x S1 => (dicA x S1).isSome = true ∧ wk env S1 (fun y S2 => wx env S2 (fun z S3 => ∃ u, dg2D x y z S3 = some u ∧ k u S3) kx) kx) kx
def dput (x y v : DV) (S : Sto) : Option Sto := match x, keyV y with
  | .p n, some k => (match S[n]? with
    | some (.dic kvs) => if kvs.length ≤ 1000000 then some (S.set n (.dic (putA kvs k v))) else none
    | _ => none)
  | _, _ => none
def dputS (wv wd wk : DE) : DS := fun env S D => wv env S (fun v S1 => wd env S1 (fun x S2 => wk env S2 (fun y S3 => ∃ S4, dput x y v S3 = some S4 ∧ D.nx env S4) (D.ex env)) (D.ex env)) (D.ex env)
def newDW : DE := fun _ S k _ => k (.p S.length) (S ++ [.dic []])
def disW (wk wv : DE) : DE := fun env S k kx => wk env S (fun y S1 => wv env S1 (fun v S2 => ∃ key, keyV y = some key ∧ k (.p S2.length) (S2 ++ [.dic [(key, v)]])) kx) kx
/-- a thing of the store becomes pure -/
def pureK : List (NestedKey × DV) → Option (List (NestedKey × PyData))
  | [] => some []
  | (k, .d x) :: r => (pureK r).map ((k, x) :: ·)
  | _ :: _ => none
def coldD : SO → Option DV
  | .lst xs => (pures xs).map fun ds => .d (.list ds)
  | .dic kvs => (pureK kvs).map .m
  | .ins _ _ => none
  | .tab _ => none
  | .gone => none
def coldS (i : Nat) (w : DS) : DS := fun env S D => ∃ n o x, env[i]? = some (some (.p n)) ∧ S[n]? = some o ∧ coldD o = some x ∧ w (env.set i (some x)) (S.set n .gone) D
def keysI (we : DE) : DI := fun env S k kx => we env S (fun x S1 => ∃ kvs, x = .m kvs ∧ k (kvs.map fun q => .d q.1.data) S1) kx
def valsI (we : DE) : DI := fun env S k kx => we env S (fun x S1 => ∃ kvs, x = .m kvs ∧ k (kvs.map fun q => .d q.2) S1) kx
def itemsI (we : DE) : DI := fun env S k kx => we env S (fun x S1 => ∃ kvs, x = .m kvs ∧ k (kvs.map fun q => .d (.tuple [q.1.data, q.2])) S1) kx

section
variable {K : PySem.W.Frag} {B B' : Hp} {α α' : List Addr} {S S' : Sto} {H H' : Hp} {v : V} {x y : DV} {Q : VK} {a : Addr} {o : Obj} {zs : ZL}
theorem keyV_ok {k : NestedKey} (r : VR K B α v y) (e : keyV y = some k) : ∃ b, v = .ref b ∧ goodK k = true ∧ Dq K B (.ref b) k.data := by
  unfold keyV at e
  split at e
  · rename_i ds
    split at e
    · rename_i ks h
      split at e
      · rename_i g
        cases e
        have hd := keysN_data ds ks h
        subst hd
        have r' : Dq K B v (.tuple (NestedKey.datas ks)) := r
        cases r' with
        | tup h1 h2 => exact ⟨_, rfl, g, .tup h1 h2⟩
      · cases e
    · cases e
  · cases e
abbrev PRk (K : PySem.W.Frag) (B : Hp) (α : List Addr) : ZL → List (NestedKey × DV) → Prop := Paired fun (z : NestedKey × Addr × V) (q : NestedKey × DV) => z.1 = q.1 ∧ Dq K B (.ref z.2.1) q.1.data ∧ VR K B α z.2.2 q.2
theorem PRk.keys {kvs : List (NestedKey × DV)} (r : PRk K B α zs kvs) (e : Same B H) : ∀ z ∈ zs, Dq K H (.ref z.2.1) z.1.data := by
  induction r with
  | nil => intro z hz; cases hz
  | @cons z q _ _ h t ih =>
    intro z' hz
    rcases List.mem_cons.mp hz with e' | hz
    · subst e'; rw [h.1]; exact Dq.same e h.2.1
    · exact ih z' hz
theorem PRk.ofM {zs : ZL} {kvs : List (NestedKey × PyData)} (r : Paired (fun (z : NestedKey × Addr × V) (q : NestedKey × PyData) => z.1 = q.1 ∧ Dq K B (.ref z.2.1) q.1.data ∧ Dq K B z.2.2 q.2) zs kvs) : PRk K B α zs (kvs.map fun q => (q.1, .d q.2)) := by
  induction r with
  | nil => exact .nil
  | cons h t ih => exact .cons h ih
theorem dic_ok {kvs : List (NestedKey × DV)} (w : Wd K B α S H) (r : VR K B α v x) (e : dicA x S = some kvs) : ∃ a o zs, v = .ref a ∧ DAt K H a o zs ∧ PRk K B α zs kvs := by
  cases x with
  | d y => simp [dicA] at e
  | s ns => simp [dicA] at e
  | ce z => simp [dicA] at e
  | cs z => simp [dicA] at e
  | ev z => simp [dicA] at e
  | es z => simp [dicA] at e
  | cl z => simp [dicA] at e
  | m ms =>
    obtain ⟨a, o, zs, h1, h2, h3, h4⟩ := r
    simp [dicA] at e
    subst e
    have h5 := PRk.ofM (α := α) h4
    exact ⟨a, o, zs, h1, ⟨w.ex _ _ h2, h3, h5.keys w.ex⟩, h5⟩
  | p n =>
    obtain ⟨a, ha, rfl⟩ := r
    cases hs : S[n]? with
    | none => simp [dicA, hs] at e
    | some ob =>
      cases ob with
      | dic ms =>
        simp [dicA, hs] at e
        subst e
        obtain ⟨a', h1, h2, o, zs, h3, h4, h5⟩ := w.obj n _ hs (by intro z; cases z)
        rw [ha] at h1; cases h1
        exact ⟨a, o, zs, rfl, ⟨h3, h4, PRk.keys h5 w.ex⟩, h5⟩
      | lst _ => simp [dicA, hs] at e
      | ins c fs => simp [dicA, hs] at e
      | tab nm => simp [dicA, hs] at e
      | gone => simp [dicA, hs] at e
theorem PRk.get {kvs : List (NestedKey × DV)} (r : PRk K B α zs kvs) (k : NestedKey) : match getA kvs k with
    | some x => ∃ v, getZ zs k = some v ∧ VR K B α v x
    | none => getZ zs k = none := by
  induction r with
  | nil => rfl
  | @cons z q _ _ h t ih =>
    by_cases e : q.1 = k
    · have e' : z.1 = k := h.1.trans e
      simp only [getA, getZ, if_pos e, if_pos e']
      exact ⟨_, rfl, h.2.2⟩
    · have e' : ¬ z.1 = k := fun z' => e (h.1.symm.trans z')
      simpa only [getA, getZ, if_neg e, if_neg e'] using ih
theorem PRk.isSome {kvs : List (NestedKey × DV)} (r : PRk K B α zs kvs) (k : NestedKey) : (getZ zs k).isSome = (getA kvs k).isSome := by
  have q := r.get k
  cases h : getA kvs k with
  | none => rw [h] at q; rw [q]; rfl
  | some x => rw [h] at q; obtain ⟨v, h1, _⟩ := q; rw [h1]; rfl
theorem PRk.put {kvs : List (NestedKey × DV)} {k : NestedKey} {b : Addr} {v : V} {x : DV} (rk : Dq K B (.ref b) k.data) (rv : VR K B α v x) (r : PRk K B α zs kvs) : PRk K B α (putZ zs k b v) (putA kvs k x) := by
  induction r with
  | nil => exact .cons ⟨rfl, rk, rv⟩ .nil
  | @cons z q _ _ h t ih =>
    by_cases e : q.1 = k
    · have e' : z.1 = k := h.1.trans e
      simp only [putA, putZ, if_pos e, if_pos e']
      exact .cons ⟨h.1, h.2.1, rv⟩ t
    · have e' : ¬ z.1 = k := fun z' => e (h.1.symm.trans z')
      simp only [putA, putZ, if_neg e, if_neg e']
      exact .cons h ih
theorem PRk.len {kvs : List (NestedKey × DV)} (r : PRk K B α zs kvs) : zs.length = kvs.length := Paired.length r

/-! operators -/
def rNGet (K : PySem.W.Frag) : R2 := fun x y H Q => ∃ a o zs k b v, x = .ref a ∧ y = .ref b ∧ DAt K H a o zs ∧ goodK k = true ∧ Dq K H (.ref b) k.data ∧ getZ zs k = some v ∧ Q v H
def rNIn (K : PySem.W.Frag) : R2 := fun y x H Q => ∃ a o zs k b, x = .ref a ∧ y = .ref b ∧ DAt K H a o zs ∧ goodK k = true ∧ Dq K H (.ref b) k.data ∧ Q (.bl (getZ zs k).isSome) H
def rNNotIn (K : PySem.W.Frag) : R2 := fun y x H Q => ∃ a o zs k b, x = .ref a ∧ y = .ref b ∧ DAt K H a o zs ∧ goodK k = true ∧ Dq K H (.ref b) k.data ∧ Q (.bl (!(getZ zs k).isSome)) H
theorem o_dget : Op2 K (rNGet K) dgD := by
  intro B α S H vx vy x y z w rx ry e Q h
  unfold dgD at e
  obtain ⟨kvs, e1, e⟩ := Option.bind_eq_some_iff.mp e
  obtain ⟨k, e2, e⟩ := Option.bind_eq_some_iff.mp e
  obtain ⟨a, o, zs, rfl, d, pr⟩ := dic_ok w rx e1
  obtain ⟨b, rfl, g, kb⟩ := keyV_ok ry e2
  have q := pr.get k
  rw [e] at q
  obtain ⟨v, h1, h2⟩ := q
  exact ⟨a, o, zs, k, b, v, rfl, rfl, d, g, Dq.same w.ex kb, h1, h _ _ _ _ (Stp.refl w) h2⟩
theorem o_din : Op2 K (rNIn K) (dinD false) := by
  intro B α S H vx vy x y z w rx ry e Q h
  unfold dinD at e
  obtain ⟨kvs, e1, e⟩ := Option.bind_eq_some_iff.mp e
  obtain ⟨k, e2, rfl⟩ := Option.map_eq_some_iff.mp e
  obtain ⟨a, o, zs, rfl, d, pr⟩ := dic_ok w ry e1
  obtain ⟨b, rfl, g, kb⟩ := keyV_ok rx e2
  refine ⟨a, o, zs, k, b, rfl, rfl, d, g, Dq.same w.ex kb, ?_⟩
  rw [pr.isSome k]
  have h' := h
  rw [show (false != (getA kvs k).isSome) = (getA kvs k).isSome from by cases (getA kvs k).isSome <;> rfl] at h'
  exact h' _ _ _ _ (Stp.refl w) (.bl _)
theorem o_dnotin : Op2 K (rNNotIn K) (dinD true) := by
  intro B α S H vx vy x y z w rx ry e Q h
  unfold dinD at e
  obtain ⟨kvs, e1, e⟩ := Option.bind_eq_some_iff.mp e
  obtain ⟨k, e2, rfl⟩ := Option.map_eq_some_iff.mp e
  obtain ⟨a, o, zs, rfl, d, pr⟩ := dic_ok w ry e1
  obtain ⟨b, rfl, g, kb⟩ := keyV_ok rx e2
  refine ⟨a, o, zs, k, b, rfl, rfl, d, g, Dq.same w.ex kb, ?_⟩
  rw [pr.isSome k]
  have h' := h
  rw [show (true != (getA kvs k).isSome) = !(getA kvs k).isSome from by cases (getA kvs k).isSome <;> rfl] at h'
  exact h' _ _ _ _ (Stp.refl w) (.bl _)
end

section
variable {ga : Str → Addr} {X : Cx} {E : WX} {a b c e o ie : Expr} {wa wb wc we wd wk wv wx : DE} {pos apos cpos p' tpos : Pos} {tg : Expr} {k : Nat}
theorem px_dget (cx : Ctx X E k) (ha : PX ga X E a wa) (hb : PX ga X E b wb) (hs : NoSl b := by intro _ _; rfl) : PX ga X E (.Subscript a b pos) (op2W dgD wa wb) :=
  ⟨mono2 ha.mono hb.mono, ⟨fun pins s σ H Q I h => (pe_nget cx.u ha.run hb.run hs).run pins s σ H Q I (run2 o_dget ha.mono hb.mono h)⟩⟩
theorem px_din (cx : Ctx X E k) (ha : PX ga X E a wa) (hb : PX ga X E b wb) (h1 : behindInMarks .In b = false := by rfl) : PX ga X E (.Compare a [.In] [b] pos) (op2W (dinD false) wa wb) :=
  ⟨mono2 ha.mono hb.mono, ⟨fun pins s σ H Q I h => (pe_cmp (pc_nin cx.u ha.run hb.run) h1).run pins s σ H Q I (run2 o_din ha.mono hb.mono h)⟩⟩
theorem px_dnotin (cx : Ctx X E k) (ha : PX ga X E a wa) (hb : PX ga X E b wb) (h1 : behindInMarks .NotIn b = false := by rfl) : PX ga X E (.Compare a [.NotIn] [b] pos) (op2W (dinD true) wa wb) :=
  ⟨mono2 ha.mono hb.mono, ⟨fun pins s σ H Q I h => (pe_cmp (pc_nnotin cx.u ha.run hb.run) h1).run pins s σ H Q I (run2 o_dnotin ha.mono hb.mono h)⟩⟩
theorem pxt_din (cx : Ctx X E k) (ha : PX ga X E a wa) (hb : PX ga X E b wb) (h1 : behindInMarks .In b = false := by rfl) : PXT ga X E (.Compare a [.In] [b] pos) (testW (op2W (dinD false) wa wb)) :=
  ⟨monoTest (mono2 ha.mono hb.mono), ⟨fun pins s σ H Q I h => (pt_cmp (pc_nin cx.u ha.run hb.run) h1).run pins s σ H Q I (run2 o_din ha.mono hb.mono (run_test (mono2 ha.mono hb.mono) h))⟩⟩
theorem pxt_dnotin (cx : Ctx X E k) (ha : PX ga X E a wa) (hb : PX ga X E b wb) (h1 : behindInMarks .NotIn b = false := by rfl) : PXT ga X E (.Compare a [.NotIn] [b] pos) (testW (op2W (dinD true) wa wb)) :=
  ⟨monoTest (mono2 ha.mono hb.mono), ⟨fun pins s σ H Q I h => (pt_cmp (pc_nnotin cx.u ha.run hb.run) h1).run pins s σ H Q I (run2 o_dnotin ha.mono hb.mono (run_test (mono2 ha.mono hb.mono) h))⟩⟩
theorem px_dg2 (cx : Ctx X E k) (ha : PX ga X E a wa) (hb : PX ga X E b wb) (hc : PX ga X E c wc) (m : M2 X a "get" apos b c cpos := by exact ⟨rfl, rfl, rfl, rfl⟩) : PX ga X E (.Call (.Attribute a "get" apos) [b, c] [] cpos) (dg2W wa wb wc) := by
  refine ⟨fun env S k k' x x' hk hx h => ha.mono env S _ _ _ _ (fun y S1 ⟨e, h1⟩ => ⟨e, hb.mono env S1 _ _ _ _ (fun z S2 h2 => hc.mono env S2 _ _ _ _ (fun u S3 ⟨t, e3, h3⟩ => ⟨t, e3, hk _ _ h3⟩) hx h2) hx h1⟩) hx h, ⟨fun pins s σ H Q I h => (pe_nget2 cx.u ha.run hb.run hc.run m).run pins s σ H Q I ?_⟩⟩
  obtain ⟨env, S, B, α, re, w, h⟩ := h
  refine ⟨env, S, B, α, re, w, ha.mono env S _ _ _ _ (fun x S1 ⟨e, h1⟩ v1 H1 B1 α1 s1 r1 => ?_) (fun _ _ z => z) h⟩
  obtain ⟨kvs, e⟩ := Option.isSome_iff_exists.mp e
  obtain ⟨d1, o1, zs1, rfl, d, _⟩ := dic_ok s1.wd r1 e
  refine ⟨d1, o1, zs1, rfl, d, env, S1, B1, α1, re.mono s1.bb s1.pre, s1.wd, hb.mono env S1 _ _ _ _ (fun y S2 h2 v2 H2 B2 α2 s2 r2 => ?_) (fun _ _ z => kxT.after s1 z) h1⟩
  have s12 := s1.trans s2
  refine ⟨env, S2, B2, α2, re.mono s12.bb s12.pre, s2.wd, hc.mono env S2 _ _ _ _ (fun z S3 ⟨u, e3, h3⟩ v3 H3 B3 α3 s3 r3 => ?_) (fun _ _ z => kxT.after s12 z) h2⟩
  unfold dg2D at e3
  obtain ⟨kvs3, f1, f2⟩ := Option.bind_eq_some_iff.mp e3
  obtain ⟨key, f3, rfl⟩ := Option.map_eq_some_iff.mp f2
  have s23 := s2.trans s3
  obtain ⟨d3, o3, zs3, q1, q2, pr⟩ := dic_ok s3.wd (r1.mono s23.bb s23.pre) f1
  cases q1
  obtain ⟨kb, rfl, g, kk⟩ := keyV_ok (r2.mono s3.bb s3.pre) f3
  refine ⟨o3, zs3, key, kb, rfl, q2, g, Dq.same s3.wd.ex kk, h3 _ _ _ _ (s12.trans s3) ?_⟩
  have q := pr.get key
  cases ge : getA kvs3 key with
  | none => rw [ge] at q; rw [q]; exact r3
  | some t => rw [ge] at q; obtain ⟨t', q3, q4⟩ := q; rw [q3]; exact q4
def rSetN (K : PySem.W.Frag) : TSet := fun x y v H Q => ∃ a o zs k b, x = .ref a ∧ y = .ref b ∧ DAt K H a o zs ∧ goodK k = true ∧ Dq K H (.ref b) k.data ∧ zs.length < sizeLine ∧ ∀ o', IsDict a o' (putZ zs k b v) → Q (upd H a (pin a o'))
theorem pxs_dput (cx : Ctx X E k) (he : PX ga X E e wv) (ho : PX ga X E o wd) (hi : PX ga X E ie wk) (hs : swapsWith e (some (.Subscript o ie p')) pos.line X.env = pure false := by rfl) : PXS ga X E (.Assign [.Subscript o ie p'] e pos) (dputS wv wd wk) := by
  refine ⟨fun env S D D' h z => he.mono env S _ _ _ _ (fun v S1 z1 => ho.mono env S1 _ _ _ _ (fun o S2 z2 => hi.mono env S2 _ _ _ _ (fun i S3 ⟨n, e1, z3⟩ => ⟨n, e1, h.nx _ _ z3⟩) (h.ex env) z2) (h.ex env) z1) (h.ex env) z,
    ⟨fun pins s σ H D I h => (ps_nput cx.u ho.run hi.run he.run hs).run pins s σ H D I ?_⟩⟩
  obtain ⟨env, S, B, α, re, w, h⟩ := h
  refine ⟨env, S, B, α, re, w, he.mono env S _ _ _ _ (fun y S1 u v H1 B1 α1 s1 r1 => ?_) (fun _ _ z => kxS.at_ re z) h⟩
  refine ⟨env, S1, B1, α1, re.mono s1.bb s1.pre, s1.wd, ho.mono env S1 _ _ _ _ (fun o' S2 u2 v2 H2 B2 α2 s2 r2 => ?_) (fun _ _ z => kxT.after s1 (kxS.at_ re z)) u⟩
  have s12 := s1.trans s2
  refine ⟨env, S2, B2, α2, re.mono s12.bb s12.pre, s2.wd, hi.mono env S2 _ _ _ _ (fun i' S3 u3 v3 H3 B3 α3 s3 r3 => ?_) (fun _ _ z => kxT.after s12 (kxS.at_ re z)) u2⟩
  obtain ⟨S4, e1, z3⟩ := u3
  unfold dput at e1
  have s13 := s12.trans s3
  have s23 := s2.trans s3
  split at e1
  · rename_i n key hk
    split at e1
    · rename_i kvs hn
      split at e1
      · rename_i hl
        cases e1
        obtain ⟨a1, ha1, rfl⟩ := r2.mono s3.bb s3.pre
        obtain ⟨a', f1, f2, ob, zs, f3, f4, f5⟩ := s3.wd.obj n _ hn (fun z => by cases z)
        rw [ha1] at f1; cases f1
        obtain ⟨b1, rfl, g, kb⟩ := keyV_ok r3 hk
        have rv := r1.mono s23.bb s23.pre
        refine ⟨a1, ob, zs, key, b1, rfl, rfl, ⟨f3, f4, PRk.keys f5 s3.wd.ex⟩, g, Dq.same s3.wd.ex kb, ?_, fun o' is' => ?_⟩
        · rw [PRk.len f5]; exact Nat.lt_of_le_of_lt hl (by decide)
        · have s4 := s3.wd.change (o' := .dic (putA kvs key y)) (ho := pin a1 o') hn (fun z => by cases z) ha1 ⟨o', _, upd_same, is', PRk.put kb rv f5⟩
          exact z3 _ _ _ _ (s13.trans s4) (re.mono (s13.trans s4).bb (s13.trans s4).pre)
      · cases e1
    · cases e1
  · cases e1
theorem px_newD : PX ga X E (.Dict [] [] pos) newDW := by
  refine ⟨fun env S k k' x x' hk hx h => hk _ _ h, ⟨fun pins s σ H Q I h => pe_nnew.run pins s σ H Q I ?_⟩⟩
  obtain ⟨env, S, B, α, re, w, h⟩ := h
  intro p ob hp is
  have st := w.newObj (o := .dic []) (ho := pin p ob) hp ⟨ob, [], upd_same, is, .nil⟩
  exact h _ _ _ _ st ⟨p, by rw [← w.len]; simp, rfl⟩
theorem ps_cold {st : Stmt} {i : Nat} {w : DS} (h : PXS ga X E st w) : PXS ga X E st (coldS i w) := by
  refine ⟨fun env S D D' hd ⟨n, o, x, e1, e2, e3, z⟩ => ⟨n, o, x, e1, e2, e3, h.mono _ _ _ _ hd z⟩, ⟨fun pins s σ H D I q => h.run.run pins s σ H D I ?_⟩⟩
  obtain ⟨env, S, B, α, re, wd, n, ob, x, e1, e2, e3, z⟩ := q
  obtain ⟨v, hv, rv⟩ := re.2 i _ e1
  obtain ⟨a1, ha1, rfl⟩ := rv
  have fin : ∃ B', Stp X.K B α H B' α (S.set n .gone) H ∧ VR X.K B' α (.ref a1) x := by
    cases ob with
    | lst xs =>
      obtain ⟨ds, e4, rfl⟩ := Option.map_eq_some_iff.mp e3
      exact wd.freeze e2 e4 ha1
    | ins c fs => cases e3
    | tab nm => cases e3
    | gone => cases e3
    | dic kvs =>
      obtain ⟨ms, e4, rfl⟩ := Option.map_eq_some_iff.mp e3
      obtain ⟨a', f1, f2, o1, zs, f3, f4, f5⟩ := wd.obj n _ e2 (fun z => by cases z)
      rw [ha1] at f1; cases f1
      have sm : Same B (upd B a1 (pin a1 o1)) := Same.upd_none f2
      refine ⟨upd B a1 (pin a1 o1), ⟨⟨fun c u e => ?_, by simp [wd.len], fun m q h1 h2 => ?_, wd.nd, wd.trk⟩, sm, ⟨[], by simp⟩, fun c u e => ?_, fun _ h => .inl h, fun _ _ e _ => e⟩, a1, o1, zs, rfl, upd_same, f4, ?_⟩
      · by_cases hc : c = a1
        · subst hc; rw [upd_same] at e; rw [← e]; exact f3
        · rw [upd_ne hc] at e; exact wd.ex c u e
      · have hmn : n ≠ m := fun z => by
          subst z
          rw [List.getElem?_set_self (List.getElem?_eq_some_iff.mp e2).1] at h1
          cases h1; exact h2 rfl
        rw [List.getElem?_set_ne hmn] at h1
        obtain ⟨c, g1, g2, g3⟩ := wd.obj m q h1 h2
        have hca : c ≠ a1 := fun z => by
          subst z
          exact hmn (nd_at wd.nd ha1 g1)
        exact ⟨c, g1, by rw [upd_ne hca]; exact g2, g3.mono sm ⟨[], by simp⟩ fun _ z => z⟩
      · by_cases hc : c = a1
        · subst hc; exact .inr (.inr (List.mem_of_getElem? ha1))
        · rw [upd_ne hc] at e; exact .inl e
      · clear e3 f3 f4 e2 z
        revert ms
        induction f5 with
        | nil => intro ms e4; cases e4; exact .nil
        | @cons z q zs' kvs' w1 r ih =>
          intro ms e4
          obtain ⟨qk, qx⟩ := q
          cases qx with
          | d y =>
            obtain ⟨ms', e5, rfl⟩ := Option.map_eq_some_iff.mp (show (pureK kvs').map ((qk, y) :: ·) = some ms from e4)
            exact .cons ⟨w1.1, Dq.same sm w1.2.1, Dq.same sm w1.2.2⟩ (ih ms' e5)
          | p _ => cases e4
          | s _ => cases e4
          | m _ => cases e4
          | ce _ => cases e4
          | cs _ => cases e4
          | ev _ => cases e4
          | es _ => cases e4
          | cl _ => cases e4
  obtain ⟨B', st', r'⟩ := fin
  have re' := (re.mono st'.bb st'.pre).set i r'
  have hset : σ.set i (some (.ref a1)) = σ := by
    apply List.ext_getElem?
    intro j
    by_cases hj : i = j
    · subst hj
      rw [List.getElem?_set_self (List.getElem?_eq_some_iff.mp hv).1, hv]
    · rw [List.getElem?_set_ne hj]
  rw [hset] at re'
  exact ⟨_, _, B', α, re', st'.wd, h.mono _ _ _ _ (dT.after st') z⟩

/-! walks -/
theorem pgetr {α β : Type} {G : α → β → Prop} {l₁ : List α} {l₂ : List β} (h : Paired G l₁ l₂) : ∀ {i : Nat} {b : β}, l₂[i]? = some b → ∃ a, l₁[i]? = some a ∧ G a b := by
  induction h with
  | nil => intro i b e; simp at e
  | @cons a b l₁ l₂ r t ih =>
    intro i b' e
    cases i with
    | zero => simp at e; subst e; exact ⟨a, rfl, r⟩
    | succ j => simpa using ih (by simpa using e)
theorem it_m {J : It} {d : Addr} {ob : Obj} {zs : ZL} {kvs : List (NestedKey × PyData)} {B : Hp} {α : List Addr} {f : NestedKey × PyData → DV} {Y : Nat → Hp → V → Hp → Prop} (hB : B d = some (pin d ob)) (wk : Walk J zs.length (fun H => H d = some (pin d ob)) Y)
    (r : Paired (fun (z : NestedKey × Addr × V) (q : NestedKey × PyData) => z.1 = q.1 ∧ Dq X.K B (.ref z.2.1) q.1.data ∧ Dq X.K B z.2.2 q.2) zs kvs)
    (hY : ∀ (i : Nat) (z : NestedKey × Addr × V) (q : NestedKey × PyData) (v : V) (H' H'' B' : Hp) (α' : List Addr) (S' : Sto), zs[i]? = some z → Dq X.K B' (.ref z.2.1) q.1.data → Dq X.K B' z.2.2 q.2 → Wd X.K B' α' S' H' → Y i H' v H'' → ∃ B'', Stp X.K B' α' H' B'' α' S' H'' ∧ VR X.K B'' α' v (f q)) :
    ItOk X.K J B α (kvs.map f) := by
  refine ⟨_, Y, by rw [List.length_map, ← Paired.length r]; exact wk, fun H' s => s _ _ hB, fun i x v H' H'' B' α' S' e w s _ y => ?_⟩
  rw [List.getElem?_map] at e
  cases hq : kvs[i]? with
  | none => rw [hq] at e; cases e
  | some q =>
    rw [hq] at e; cases e
    obtain ⟨z, hz, _, h2, h3⟩ := pgetr r hq
    exact hY i z q v H' H'' B' α' S' hz (Dq.same s h2) (Dq.same s h3) w y
theorem pxi_keys (he : PX ga X E e we) : PXI ga X E tg e (keysI we) := by
  refine ⟨fun env S k k' x x' hk hx h => he.mono env S _ _ _ _ (fun y S1 ⟨n, e, h1⟩ => ⟨n, e, hk _ _ h1⟩) hx h, ⟨fun pins s σ H R I h => (pi_nk he.run).run pins s σ H R I ?_⟩⟩
  obtain ⟨env, S, B, α, re, w, h⟩ := h
  refine ⟨env, S, B, α, re, w, he.mono env S _ _ _ _ (fun y S1 ⟨kvs, e, h1⟩ v1 H1 B1 α1 s1 r1 => ?_) (fun _ _ z => z) h⟩
  subst e
  obtain ⟨d, ob, zs, rfl, q2, q3, q4⟩ := r1
  refine ⟨d, ob, zs, rfl, s1.wd.ex _ _ q2, q3, h1 _ _ _ _ s1 (it_m q2 walk_nk q4 fun i z q v H' H'' B' α' S' hz k1 k2 w y => ?_)⟩
  obtain ⟨rfl, z', hz', rfl⟩ := y
  rw [hz] at hz'; cases hz'
  exact ⟨B', Stp.refl w, k1⟩
theorem pxi_vals (he : PX ga X E e we) (hbase : attributeBase e "values" X.env (eval e X.env) = eval e X.env := by rfl) (hline : (apos.endLine == cpos.line) = true := by rfl) : PXI ga X E tg (.Call (.Attribute e "values" apos) [] [] cpos) (valsI we) := by
  refine ⟨fun env S k k' x x' hk hx h => he.mono env S _ _ _ _ (fun y S1 ⟨n, e, h1⟩ => ⟨n, e, hk _ _ h1⟩) hx h, ⟨fun pins s σ H R I h => (pi_nv he.run hbase hline).run pins s σ H R I ?_⟩⟩
  obtain ⟨env, S, B, α, re, w, h⟩ := h
  refine ⟨env, S, B, α, re, w, he.mono env S _ _ _ _ (fun y S1 ⟨kvs, e, h1⟩ v1 H1 B1 α1 s1 r1 => ?_) (fun _ _ z => z) h⟩
  subst e
  obtain ⟨d, ob, zs, rfl, q2, q3, q4⟩ := r1
  refine ⟨d, ob, zs, rfl, s1.wd.ex _ _ q2, q3, h1 _ _ _ _ s1 (it_m q2 walk_nv q4 fun i z q v H' H'' B' α' S' hz k1 k2 w y => ?_)⟩
  obtain ⟨rfl, z', hz', rfl⟩ := y
  rw [hz] at hz'; cases hz'
  exact ⟨B', Stp.refl w, k2⟩
theorem pxi_items {elts : List Expr} {kk : Nat} (he : PX ga X E e we) (hbase : attributeBase e "items" X.env (eval e X.env) = eval e X.env := by rfl) (hline : (apos.endLine == cpos.line) = true := by rfl) : PXI ga X E (.Tuple elts kk tpos) (.Call (.Attribute e "items" apos) [] [] cpos) (itemsI we) := by
  refine ⟨fun env S k k' x x' hk hx h => he.mono env S _ _ _ _ (fun y S1 ⟨n, e, h1⟩ => ⟨n, e, hk _ _ h1⟩) hx h, ⟨fun pins s σ H R I h => (pi_ni he.run hbase hline).run pins s σ H R I ?_⟩⟩
  obtain ⟨env, S, B, α, re, w, h⟩ := h
  refine ⟨env, S, B, α, re, w, he.mono env S _ _ _ _ (fun y S1 ⟨kvs, e, h1⟩ v1 H1 B1 α1 s1 r1 => ?_) (fun _ _ z => z) h⟩
  subst e
  obtain ⟨d, ob, zs, rfl, q2, q3, q4⟩ := r1
  refine ⟨d, ob, zs, rfl, s1.wd.ex _ _ q2, q3, h1 _ _ _ _ s1 (it_m (f := fun q => .d (.tuple [q.1.data, q.2])) q2 walk_ni q4 fun i z q v H' H'' B' α' S' hz k1 k2 w y => ?_)⟩
  obtain ⟨T, z', hz', rfl, hT, rfl⟩ := y
  rw [hz] at hz'; cases hz'
  have sm := Same.upd_none (o := .tup [.ref z.2.1, z.2.2]) (w.ex.free hT)
  exact ⟨_, w.fresh hT, .tup (SqT.of upd_same) (.cons (Dq.same sm k1) (.cons (Dq.same sm k2) .nil))⟩
end
end DW

set_option Elab.async false
set_option linter.all false
set_option maxRecDepth 100000
set_option maxHeartbeats 4000000
set_option autoImplicit false
/-! DX4: a dict display of one pair; the rules by Booleans; monotony. -/
namespace DW
open PySem L2
theorem disp_h {prog : Program} {w : World} {K : Type} [DecidableEq K] {knd : HeapKind prog w K} {A : Around} {E : Value → Shared → Prop} {s : Shared} {env : Env} {keys : List (Option Expr)} {values : List Expr} {pos : Pos} {pairs : List (Sem Value × Sem Value)} {Q : Value → Shared → Prop} (hu : knd.room A)
    (hshape : (evalEachOpt keys env).zip ((evalEach values env).map fun v => do let x ← v; standAt pos; pure x) = pairs.map fun p => (some p.1, p.2)) (h0 : pairs ≠ []) (hlen : pairs.length ≤ 15)
    (h : wpAny (model prog w) A (evalPairs pairs) (fun vs s₁ => ∃ ps, CarriesH knd s₁.heap vs ps ∧ s₁.heap.DictOfH knd s.heap.objs.size [] ∧
      ∀ h' tk, h'.DictOfH knd s.heap.objs.size (storedAllH [] ps) → Heap.SameBut s.heap.objs.size s₁.heap h' → Q (.ref s.heap.objs.size) { s₁ with heap := h', toks := tk }) E
      { s with heap := s.heap.push { cls := .type "dict", data := .dict #[] } }) :
    wpAny (model prog w) A (eval (.Dict keys values pos) env) Q E s := by
  rw [arm_eval_Dict, hshape, dictDisplay_pairs pairs h0 (by omega)]
  exact wpAny_bind (wpAny_standAt (wpAny_bind (wpAny_subDictH (knd := knd) (Q := fun d s' => wpAny (model prog w) A (pure (Value.ref d)) Q E s') hu hlen
    (wpAny_mono h (fun vs s₁ h₁ => by obtain ⟨ps, hc, hm, hq⟩ := h₁; exact ⟨ps, hc, hm, fun h' tk a b => wpAny_pure (hq h' tk a b)⟩) fun _ _ e => e))))
/-- {k: v} -/
def tNDis (K : PySem.W.Frag) (tk tv : TE) : TE := fun σ H Q => ∀ p o0, H p = none → IsDict p o0 [] → tk σ (upd H p (pin p o0)) fun y H1 => tv σ H1 fun v H2 => H2 p = some (pin p o0) ∧ ∃ k b, y = .ref b ∧ goodK k = true ∧ Dq K H2 (.ref b) k.data ∧
  ∀ o', IsDict p o' [(k, b, v)] → Q (.ref p) (upd H2 p (pin p o'))
theorem dis_end {X : Cx} {pins : List (Addr × Obj)} {σ : L2.St} {s s2 : Shared} {H2 : Hp} {ws : List (Value × Value)} {ps : List (V × V)} {Q : VK} {o0 : Obj} (is0 : IsDict s.heap.objs.size o0 []) (I2 : Inv X pins σ H2 s2) (rel : VV ps ws)
      (q : ∃ y v, ps = [(y, v)] ∧ H2 s.heap.objs.size = some (pin s.heap.objs.size o0) ∧ ∃ k b, y = .ref b ∧ goodK k = true ∧ Dq X.K H2 (.ref b) k.data ∧ ∀ o', IsDict s.heap.objs.size o' [(k, b, v)] → Q (.ref s.heap.objs.size) (upd H2 s.heap.objs.size (pin s.heap.objs.size o'))) :
      ∃ qs, CarriesH (nestedKind X.prog X.w) s2.heap ws qs ∧ s2.heap.DictOfH (nestedKind X.prog X.w) s.heap.objs.size [] ∧
        ∀ h' tk, h'.DictOfH (nestedKind X.prog X.w) s.heap.objs.size (storedAllH [] qs) → Heap.SameBut s.heap.objs.size s2.heap h' → ∃ x H', Inv X pins σ H' { s2 with heap := h', toks := tk } ∧ RelV x (.ref s.heap.objs.size) ∧ Q x H' := by
  obtain ⟨y, v, rfl, hp, k, b, rfl, g, kb, q⟩ := q
  cases rel with
  | cons r1 r2 =>
    cases r2
    rename_i w1
    obtain ⟨wk, wv⟩ := w1
    obtain rfl : wk = Value.ref b := r1.1
    have d0 : DAt X.K H2 s.heap.objs.size o0 [] := ⟨hp, is0, fun _ h => nomatch h⟩
    obtain ⟨ys, rz, _, dd⟩ := d0.ofH I2
    cases rz
    refine ⟨[(k, b, wv)], ⟨rfl, rfl, key_at I2 g kb, trivial⟩, dd, fun h' tk dk hs => ?_⟩
    obtain ⟨o', e', is'⟩ := isDict_of (zs := [(k, b, v)]) is0.sm dk (.cons ⟨rfl, rfl, r1.2⟩ .nil) (fun z hz => by
      simp at hz; subst hz; exact g) (Nat.le_trans (Nat.le_refl 1) (by decide))
    exact ⟨.ref s.heap.objs.size, _, d_write I2 (by rw [hp]; exact True.intro) hs ⟨o', e'⟩ (pin_ok e'), rfl, q o' is'⟩
theorem pe_ndis {X : Cx} {ke ve : Expr} {pos : Pos} {tk tv : TE} (hu : X.A.units + 64 < cLine) (hk : PE X ke tk) (hv : PE X ve tv) : PE X (.Dict [some ke] [ve] pos) (tNDis X.K tk tv) := by
  refine ⟨fun pins s σ H Q I h => ?_⟩
  have hn := I.hok.fresh (Nat.le_refl s.heap.objs.size)
  have is0 := isDict_nil s.heap I.big
  have I1 := I.laid (a := s.heap.objs.size) (o := pin s.heap.objs.size { cls := .type "dict", data := .dict #[] }) (h' := s.heap.push { cls := .type "dict", data := .dict #[] }) (t' := s.toks) (fun _ _ q => Heap.get?_push_of_some _ q) (Nat.le_refl _) (pin_ok (Heap.get?_push_size _ rfl))
  refine disp_h (knd := nestedKind X.prog X.w) (pairs := pairTrees [some ke] [ve] X.env pos) (show X.A.units + 8 < cLine by omega) (zip_pairTrees [some ke] [ve] X.env pos rfl rfl) (by simp [pairTrees]) (by simp [pairTrees]) ?_
  refine thn (pairTrees_cons_walk (Q := fun ws s2 => ∃ ps H2, Inv X pins σ H2 s2 ∧ VV ps ws ∧ ∃ y v, ps = [(y, v)] ∧ H2 s.heap.objs.size = some (pin s.heap.objs.size { cls := .type "dict", data := .dict #[] }) ∧ ∃ k b, y = .ref b ∧ goodK k = true ∧ Dq X.K H2 (.ref b) k.data ∧ ∀ o', IsDict s.heap.objs.size o' [(k, b, v)] → Q (.ref s.heap.objs.size) (upd H2 s.heap.objs.size (pin s.heap.objs.size o')))
    (thn (hk.run pins _ σ _ _ I1 (h _ _ hn is0)) fun u s1 ⟨x, H1, I1, rx, q1⟩ => thn (hv.run pins s1 σ H1 _ I1 q1) fun w2 s2 ⟨y, H2, I2, ry, q2⟩ => pairTrees_nil_walk ⟨[(x, y)], H2, I2, .cons ⟨rx, ry⟩ .nil, x, y, rfl, q2⟩)) fun ws s2 ⟨ps, H2, I2, rel, q⟩ => ?_
  exact dis_end is0 I2 rel q

section
variable {K : PySem.W.Frag} {B B2 : Hp} {α α2 : List Addr} {S S2 : Sto} {H H2 : Hp} {p : Addr} {ho ho0 : HO} {o : SO}
theorem Wd.track (w : Wd K B α S H) (hp : H p = none) : Wd K B α S (upd H p ho0) := (Stp.mut (Stp.refl w) hp (w.ex.free hp) (fun m => by
  obtain ⟨u, e⟩ := w.trk p m
  rw [hp] at e; cases e)).wd
theorem Stp.addNew (w : Wd K B α S H) (hp : H p = none) (s : Stp K B α (upd H p ho0) B2 α2 S2 H2) : Stp K B α H B2 α2 S2 H2 ∧ B2 p = none ∧ p ∉ α2 := by
  have hα : p ∉ α := fun m => by
    obtain ⟨u, e⟩ := w.trk p m
    rw [hp] at e; cases e
  have hB : B p = none := w.ex.free hp
  refine ⟨⟨s.wd, s.bb, s.pre, fun a u e => ?_, fun a h => ?_, fun a u e ha => s.frame a u (Same.upd_none hp a u e) ha⟩, ?_, fun m => ?_⟩
  · by_cases ha : a = p
    · subst ha; exact .inr (.inl hp)
    · rcases s.newB a u e with q | q | q
      · exact .inl q
      · rw [upd_ne ha] at q; exact .inr (.inl q)
      · exact .inr (.inr q)
  · rcases s.newA a h with q | q
    · exact .inl q
    · by_cases ha : a = p
      · subst ha; exact .inr hp
      · rw [upd_ne ha] at q; exact .inr q
  · cases e : B2 p with
    | none => rfl
    | some u =>
      rcases s.newB p u e with q | q | q
      · rw [hB] at q; cases q
      · rw [upd_same] at q; cases q
      · exact absurd q hα
  · rcases s.newA p m with q | q
    · exact hα q
    · rw [upd_same] at q; cases q
theorem Stp.storeNew (s : Stp K B α H B2 α2 S2 H2) (hp : H p = none) (h1 : B2 p = none) (h2 : p ∉ α2) (ok : SOk K B2 (α2 ++ [p]) (upd H2 p ho) p o) : Stp K B α H B2 (α2 ++ [p]) (S2 ++ [o]) (upd H2 p ho) := by
  have ex : ∀ a u, B2 a = some u → a ≠ p := fun a u e z => by subst z; rw [h1] at e; cases e
  refine ⟨⟨fun a u e => ?_, by simp [s.wd.len], fun n q g1 g2 => ?_, ?_, fun a ha => ?_⟩, s.bb, ?_, s.newB, fun a ha => ?_, fun a u e ha => ?_⟩
  · rw [upd_ne (ex a u e)]; exact s.wd.ex a u e
  · by_cases hn : n < S2.length
    · rw [List.getElem?_append_left hn] at g1
      obtain ⟨a, e1, e2, e3⟩ := s.wd.obj n q g1 g2
      have hne : a ≠ p := fun z => by subst z; exact h2 (List.mem_of_getElem? e1)
      exact ⟨a, by rw [List.getElem?_append_left (by rw [s.wd.len]; exact hn)]; exact e1, e2, e3.mono (Same.refl _) ⟨[p], rfl⟩ fun u z => by rw [upd_ne hne]; exact z⟩
    · have hn' := (List.getElem?_eq_some_iff.mp g1).1
      simp at hn'
      have : n = S2.length := by omega
      subst this
      simp at g1
      subst g1
      exact ⟨p, by rw [← s.wd.len]; simp, h1, ok⟩
  · refine List.nodup_append.mpr ⟨s.wd.nd, by simp, fun a ha b hb => ?_⟩
    simp at hb
    subst hb
    exact fun z => h2 (z ▸ ha)
  · rcases List.mem_append.mp ha with h | h
    · have hne : a ≠ p := fun z => by subst z; exact h2 h
      obtain ⟨u, e⟩ := s.wd.trk a h
      exact ⟨u, by rw [upd_ne hne]; exact e⟩
    · simp at h; subst h; exact ⟨_, upd_same⟩
  · obtain ⟨t, rfl⟩ := s.pre
    exact ⟨t ++ [p], by simp⟩
  · rcases List.mem_append.mp ha with h | h
    · exact s.newA a h
    · simp at h; subst h; exact .inr hp
  · rw [upd_ne (ne_of_none e hp)]; exact s.frame a u e ha
end
section
variable {ga : Str → Addr} {X : Cx} {E : WX} {a b : Expr} {wk wv : DE} {pos : Pos} {k : Nat}
theorem px_dis (cx : Ctx X E k) (ha : PX ga X E a wk) (hb : PX ga X E b wv) : PX ga X E (.Dict [some a] [b] pos) (disW wk wv) := by
  refine ⟨fun env S k k' x x' hk hx h => ha.mono env S _ _ _ _ (fun y S1 h1 => hb.mono env S1 _ _ _ _ (fun z S2 ⟨u, e, h2⟩ => ⟨u, e, hk _ _ h2⟩) hx h1) hx h, ⟨fun pins s σ H Q I h => (pe_ndis cx.u ha.run hb.run).run pins s σ H Q I ?_⟩⟩
  obtain ⟨env, S, B, α, re, w, h⟩ := h
  intro p o0 hp is0
  have w0 := w.track (ho0 := pin p o0) hp
  have kx : ∀ z S', kxT X.K ga B α H (WE E σ) z S' → kxT X.K ga B α (upd H p (pin p o0)) (WE E σ) z S' := fun z S' q c d H' B' α' s xr => q c d H' B' α' (Stp.addNew w hp s).1 xr
  refine ⟨env, S, B, α, re, w0, ha.mono env S _ _ _ _ (fun y S1 h1 v1 H1 B1 α1 s1 r1 => ?_) kx h⟩
  refine ⟨env, S1, B1, α1, re.mono s1.bb s1.pre, s1.wd, hb.mono env S1 _ _ _ _ (fun v S2 ⟨key, e, h2⟩ v2 H2 B2 α2 s2 r2 => ?_) (fun z S' q => kxT.after s1 (kx z S' q)) h1⟩
  have s12 := s1.trans s2
  obtain ⟨s3, f1, f2⟩ := Stp.addNew w hp s12
  obtain ⟨b1, rfl, g, kb⟩ := keyV_ok (r1.mono s2.bb s2.pre) e
  refine ⟨s12.frame p _ upd_same (fun m => by
    obtain ⟨u, e⟩ := w.trk p m
    rw [hp] at e; cases e), key, b1, rfl, g, Dq.same s2.wd.ex kb, fun o' is' => ?_⟩
  have s4 := s3.storeNew (o := .dic [(key, v)]) (ho := pin p o') hp f1 f2 ⟨o', _, upd_same, is', .cons ⟨rfl, kb, r2.mono (Same.refl _) ⟨[p], rfl⟩⟩ .nil⟩
  exact h2 _ _ _ _ s4 ⟨p, by rw [← s3.wd.len]; simp, rfl⟩
end
/-! monotony -/
section
variable {a b c : DE} {s : DS} {i : Nat}
instance : ME newDW := ⟨fun _ _ _ _ _ _ hk _ h => hk _ _ h⟩
instance [ME a] [ME b] : ME (disW a b) := ⟨fun env S k k' x x' hk hx h => ME.mono (w := a) env S _ _ _ _ (fun y S1 h1 => ME.mono (w := b) env S1 _ _ _ _ (fun z S2 ⟨u, e, h2⟩ => ⟨u, e, hk _ _ h2⟩) hx h1) hx h⟩
instance [ME a] [ME b] [ME c] : ME (dg2W a b c) := ⟨fun env S k k' x x' hk hx h => ME.mono (w := a) env S _ _ _ _ (fun y S1 ⟨e, h1⟩ => ⟨e, ME.mono (w := b) env S1 _ _ _ _ (fun z S2 h2 => ME.mono (w := c) env S2 _ _ _ _ (fun u S3 ⟨t, e3, h3⟩ => ⟨t, e3, hk _ _ h3⟩) hx h2) hx h1⟩) hx h⟩
instance [ME a] [ME b] [ME c] : MS (dputS a b c) := ⟨fun env S D D' h z => ME.mono (w := a) env S _ _ _ _ (fun v S1 z1 => ME.mono (w := b) env S1 _ _ _ _ (fun o S2 z2 => ME.mono (w := c) env S2 _ _ _ _ (fun i S3 ⟨n, e1, z3⟩ => ⟨n, e1, h.nx _ _ z3⟩) (h.ex env) z2) (h.ex env) z1) (h.ex env) z⟩
instance [MS s] : MS (coldS i s) := ⟨fun env S D D' hd ⟨n, o, x, e1, e2, e3, z⟩ => ⟨n, o, x, e1, e2, e3, MS.mono (w := s) _ _ _ _ hd z⟩⟩
instance [ME a] : MA (keysI a) := ⟨fun env S k k' x x' hk hx h => ME.mono (w := a) env S _ _ _ _ (fun y S1 ⟨n, e, h1⟩ => ⟨n, e, hk _ _ h1⟩) hx h⟩
instance [ME a] : MA (valsI a) := ⟨fun env S k k' x x' hk hx h => ME.mono (w := a) env S _ _ _ _ (fun y S1 ⟨n, e, h1⟩ => ⟨n, e, hk _ _ h1⟩) hx h⟩
instance [ME a] : MA (itemsI a) := ⟨fun env S k k' x x' hk hx h => ME.mono (w := a) env S _ _ _ _ (fun y S1 ⟨n, e, h1⟩ => ⟨n, e, hk _ _ h1⟩) hx h⟩
end
end DW

set_option Elab.async false
set_option linter.all false
set_option maxRecDepth 100000
set_option maxHeartbeats 4000000
set_option autoImplicit false
/-! DB1: the semantics in Booleans: what is concrete is computed. -/
namespace DW
open PySem L2
abbrev BK := DV → Sto → Bool
abbrev BX := XV → Sto → Bool
structure BEnds where
  nx : DEnv → Sto → Bool
  rt : BK
  bk : DEnv → Sto → Bool
  ct : DEnv → Sto → Bool
  ex : DEnv → BX
def kP (k : BK) : DK := fun r S => k r S = true
def xP (k : BX) : DX := fun r S => k r S = true
def BEnds.P (D : BEnds) : DEnds := ⟨fun e S => D.nx e S = true, kP D.rt, fun e S => D.bk e S = true, fun e S => D.ct e S = true, fun e => xP (D.ex e)⟩
class QE (w : DE) where
  b : DEnv → Sto → BK → BX → Bool
  ok : ∀ env S k kx, b env S k kx = true → w env S (kP k) (xP kx)
class QT (w : DT) where
  b : DEnv → Sto → (Bool → Sto → Bool) → BX → Bool
  ok : ∀ env S k kx, b env S k kx = true → w env S (fun c S => k c S = true) (xP kx)
class QA (w : DA) where
  b : DEnv → Sto → (List DV → Sto → Bool) → BX → Bool
  ok : ∀ env S k kx, b env S k kx = true → w env S (fun c S => k c S = true) (xP kx)
class QO (w : DO) where
  b : DEnv → Sto → (Option Int → Sto → Bool) → BX → Bool
  ok : ∀ env S k kx, b env S k kx = true → w env S (fun c S => k c S = true) (xP kx)
class QS (w : DS) where
  b : DEnv → Sto → BEnds → Bool
  ok : ∀ env S D, b env S D = true → w env S D.P
class QG (g : DG) where
  b : DV → DEnv → Sto → (DEnv → Sto → Bool) → Bool
  ok : ∀ x env S k, b x env S k = true → g x env S (fun e S => k e S = true)
class QGs (g : DGs) where
  b : List DV → DEnv → Sto → (DEnv → Sto → Bool) → Bool
  ok : ∀ x env S k, b x env S k = true → g x env S (fun e S => k e S = true)
class QF (F : FS) where
  b : List DV → Sto → BK → BX → Bool
  ok : ∀ xs S k kx, b xs S k kx = true → F xs S (kP k) (xP kx)
class QH (l : List (Str × DS)) where
  b : List Str → XV → DEnv → Sto → BEnds → Bool
  ok : ∀ L x env S D, b L x env S D = true → handleS L l x env S D.P
/-! values forced -/
def frcN (n : Nat) (k : Nat → Bool) : Bool := match n with
  | 0 => k 0
  | m + 1 => k (m + 1)
theorem frcN_eq (n : Nat) (k : Nat → Bool) : frcN n k = k n := by cases n <;> rfl
def frcL : List Nat → (List Nat → Bool) → Bool
  | [], k => k []
  | x :: r, k => frcN x fun x' => frcL r fun r' => k (x' :: r')
theorem frcL_eq : ∀ (l : List Nat) (k : List Nat → Bool), frcL l k = k l
  | [], k => rfl
  | x :: r, k => by unfold frcL; rw [frcN_eq, frcL_eq r]
def frcS (s : Str) (k : Str → Bool) : Bool := frcL s.cps.toList fun l => k ⟨l.toArray⟩
theorem frcS_eq (s : Str) (k : Str → Bool) : frcS s k = k s := by unfold frcS; rw [frcL_eq]
def frcI (i : Int) (k : Int → Bool) : Bool := match i with
  | .ofNat n => frcN n fun n => k (.ofNat n)
  | .negSucc n => frcN n fun n => k (.negSucc n)
theorem frcI_eq (i : Int) (k : Int → Bool) : frcI i k = k i := by
  cases i with
  | ofNat n => exact frcN_eq n fun n => k (.ofNat n)
  | negSucc n => exact frcN_eq n fun n => k (.negSucc n)
mutual
def frcD : PyData → (PyData → Bool) → Bool
  | .none, k => k .none
  | .bool b, k => (match b with
    | true => k (.bool true)
    | false => k (.bool false))
  | .int i, k => frcI i fun i => k (.int i)
  | .str s, k => frcS s fun s => k (.str s)
  | .list ds, k => frcDs ds fun ds => k (.list ds)
  | .tuple ds, k => frcDs ds fun ds => k (.tuple ds)
  | .dict x, k => k (.dict x)
def frcDs : List PyData → (List PyData → Bool) → Bool
  | [], k => k []
  | d :: ds, k => frcD d fun d => frcDs ds fun ds => k (d :: ds)
end
mutual
theorem frcD_eq : ∀ (d : PyData) (k : PyData → Bool), frcD d k = k d
  | .none, k => by unfold frcD; rfl
  | .bool b, k => by cases b <;> (unfold frcD; rfl)
  | .int i, k => by unfold frcD; exact frcI_eq _ _
  | .str s, k => by unfold frcD; exact frcS_eq _ _
  | .list ds, k => by unfold frcD; exact frcDs_eq ds _
  | .tuple ds, k => by unfold frcD; exact frcDs_eq ds _
  | .dict x, k => by unfold frcD; rfl
theorem frcDs_eq : ∀ (d : List PyData) (k : List PyData → Bool), frcDs d k = k d
  | [], k => by unfold frcDs; rfl
  | d :: ds, k => by unfold frcDs; rw [frcD_eq d, frcDs_eq ds]
end
def frcV (x : DV) (k : DV → Bool) : Bool := match x with
  | .d d => frcD d fun d => k (.d d)
  | .p n => k (.p n)
  | .s ns => k (.s ns)
  | .m ns => k (.m ns)
  | .ce e => k (.ce e)
  | .cs e => k (.cs e)
  | .ev e => k (.ev e)
  | .es e => k (.es e)
  | .cl e => k (.cl e)
theorem frcV_eq (x : DV) (k : DV → Bool) : frcV x k = k x := by
  cases x with
  | d d => exact frcD_eq d _
  | p n => rfl
  | s n => rfl
  | m n => rfl
  | ce n => rfl
  | cs n => rfl
  | ev n => rfl
  | es n => rfl
  | cl n => rfl
section
variable {α : Type}
def oB (o : Option α) (f : α → Bool) : Bool := match o with
  | some x => f x
  | none => false
theorem oB_ok {o : Option α} {f : α → Bool} (h : oB o f = true) : ∃ x, o = some x ∧ f x = true := by
  cases o with
  | none => cases h
  | some x => exact ⟨x, rfl, h⟩
end
def boolB (x : DV) (f : Bool → Bool) : Bool := match x with
  | .d (.bool b) => f b
  | _ => false
theorem boolB_ok {x : DV} {f : Bool → Bool} (h : boolB x f = true) : ∃ b, x = .d (.bool b) ∧ f b = true := by
  unfold boolB at h
  split at h
  · exact ⟨_, rfl, h⟩
  · cases h
def intB (x : DV) (f : Int → Bool) : Bool := match x with
  | .d (.int b) => f b
  | _ => false
theorem intB_ok {x : DV} {f : Int → Bool} (h : intB x f = true) : ∃ b, x = .d (.int b) ∧ f b = true := by
  unfold intB at h
  split at h
  · exact ⟨_, rfl, h⟩
  · cases h
def strB (x : DV) (f : Str → Bool) : Bool := match x with
  | .d (.str b) => f b
  | _ => false
theorem strB_ok {x : DV} {f : Str → Bool} (h : strB x f = true) : ∃ b, x = .d (.str b) ∧ f b = true := by
  unfold strB at h
  split at h
  · exact ⟨_, rfl, h⟩
  · cases h
def lstB (o : Option SO) (f : List DV → Bool) : Bool := match o with
  | some (.lst xs) => f xs
  | _ => false
theorem lstB_ok {o : Option SO} {f : List DV → Bool} (h : lstB o f = true) : ∃ b, o = some (.lst b) ∧ f b = true := by
  unfold lstB at h
  split at h
  · exact ⟨_, rfl, h⟩
  · cases h
def ptrB (x : DV) (f : Nat → Bool) : Bool := match x with
  | .p n => f n
  | _ => false
theorem ptrB_ok {x : DV} {f : Nat → Bool} (h : ptrB x f = true) : ∃ b, x = .p b ∧ f b = true := by
  unfold ptrB at h
  split at h
  · exact ⟨_, rfl, h⟩
  · cases h
theorem cB {c x y : Bool} (h : (if c = true then x else y) = true) : if c = true then x = true else y = true := by cases c <;> exact h
/-! quicker operators -/
def catF (x y : Str) : Str := ⟨(x.cps.toList ++ y.cps.toList).toArray⟩
theorem catF_eq (x y : Str) : catF x y = x ++ y := by
  have := SX.S_cat x.cps.toList y.cps.toList
  rw [SX.S_tl, SX.S_tl] at this
  exact this.symm
def eqL : List Nat → List Nat → Bool
  | [], [] => true
  | x :: r, y :: q => Nat.beq x y && eqL r q
  | _, _ => false
theorem eqL_eq : ∀ (x y : List Nat), eqL x y = (x == y)
  | [], [] => rfl
  | x :: r, y :: q => by
    unfold eqL
    rw [eqL_eq r q, List.cons_beq_cons]
    congr 1
    cases h : Nat.beq x y
    · have : ¬ x = y := fun z => by rw [z, Nat.beq_refl] at h; cases h
      simp [this]
    · have := Nat.eq_of_beq_eq_true h
      simp [this]
  | [], y :: q => rfl
  | x :: r, [] => rfl
def eqSF (x y : Str) : Bool := eqL x.cps.toList y.cps.toList
theorem eqSF_eq (x y : Str) : eqSF x y = (x == y) := by unfold eqSF; rw [eqL_eq]; exact PyProof.Rows.toList_beq x y
mutual
def eqF : PyData → PyData → Bool
  | .str x, .str y => eqSF x y
  | .list xs, .list ys => eqFs xs ys
  | .tuple xs, .tuple ys => eqFs xs ys
  | x, y => PyData.eqv x y
def eqFs : List PyData → List PyData → Bool
  | [], [] => true
  | x :: xs, y :: ys => eqF x y && eqFs xs ys
  | [], _ :: _ => false
  | _ :: _, [] => false
end
mutual
theorem eqF_eq : ∀ (x y : PyData), eqF x y = PyData.eqv x y
  | .str x, y => by
    cases y with
    | str y => unfold eqF; rw [eqSF_eq]; rfl
    | _ => rfl
  | .list xs, y => by
    cases y with
    | list ys => unfold eqF; rw [eqFs_eq xs ys]; rfl
    | _ => rfl
  | .tuple xs, y => by
    cases y with
    | tuple ys => unfold eqF; rw [eqFs_eq xs ys]; rfl
    | _ => rfl
  | .none, _ => rfl
  | .bool _, _ => rfl
  | .int _, _ => rfl
  | .dict _, _ => rfl
theorem eqFs_eq : ∀ (x y : List PyData), eqFs x y = PyData.eqvAll x y
  | [], [] => rfl
  | x :: xs, y :: ys => by unfold eqFs; rw [eqF_eq x y, eqFs_eq xs ys]; rfl
  | [], _ :: _ => rfl
  | _ :: _, [] => rfl
end
class Fast2 (f : DV → DV → Sto → Option DV) where
  g : DV → DV → Sto → Option DV
  eq : ∀ x y S, g x y S = f x y S
instance (priority := low) {f} : Fast2 f := ⟨f, fun _ _ _ => rfl⟩
instance : Fast2 addD := ⟨fun x y S => match x, y with
  | .d (.str i), .d (.str j) => if Nat.ble (i.length + j.length) 1000000 = true then some (.d (.str (catF i j))) else none
  | x, y => addD x y S, fun x y S => by
    split
    · rename_i i j
      show _ = if i.length + j.length ≤ 1000000 then some (DV.d (.str (i ++ j))) else none
      by_cases h : i.length + j.length ≤ 1000000
      · rw [if_pos (Nat.ble_eq_true_of_le h), if_pos h, catF_eq]
      · rw [if_neg (fun z => h (Nat.le_of_ble_eq_true z)), if_neg h]
    · rfl⟩
instance : Fast2 eqD := ⟨fun x y S => match dataD x S, dataD y S with
  | some a, some b => if SeqAt.shaped a = true ∧ SeqAt.shaped b = true then some (.d (.bool (eqF a b))) else none
  | _, _ => none, fun x y S => by unfold eqD; (simp only [eqF_eq]) <;> (cases dataD x S <;> cases dataD y S <;> rfl)⟩
instance : Fast2 neD := ⟨fun x y S => match dataD x S, dataD y S with
  | some a, some b => if SeqAt.shaped a = true ∧ SeqAt.shaped b = true then some (.d (.bool (!eqF a b))) else none
  | _, _ => none, fun x y S => by unfold neD; (simp only [eqF_eq]) <;> (cases dataD x S <;> cases dataD y S <;> rfl)⟩
instance {neg} : Fast2 (inD neg) := ⟨fun x y S => match x, seqD y S with
  | .d a, some (_, ds) => if flatD a = true ∧ ds.all flatD = true then some (.d (.bool (if neg then !ds.any (fun z => eqF z a) else ds.any (fun z => eqF z a)))) else none
  | _, _ => none, fun x y S => by unfold inD; (simp only [eqF_eq]) <;> (cases x <;> cases seqD y S <;> rfl)⟩
def fjoin (s : Str) (ys : List Str) : Str := ⟨(TL.joinL s.cps.toList (ys.map fun y => y.cps.toList)).toArray⟩
theorem fjoin_eq (s : Str) (ys : List Str) : fjoin s ys = Txt.join s ys := by
  have e : (ys.map fun y => y.cps.toList).map SX.S = ys := by
    induction ys with
    | nil => rfl
    | cons y r ih => simp only [List.map_cons, ih, SX.S_tl]
  have := SX.join_S s.cps.toList (ys.map fun y => y.cps.toList)
  rw [SX.S_tl, e] at this
  exact this.symm
def fsplit (x y : Str) : List Str := if (!y.cps.toList.isEmpty && y.cps.toList.all (· < 256)) = true then (TL.spl y.cps.toList 0 [] x.cps.toList).map fun l => ⟨l.toArray⟩ else Txt.split x y
theorem fsplit_eq (x y : Str) : fsplit x y = Txt.split x y := by
  unfold fsplit
  split
  · rename_i h
    obtain ⟨h1, h2⟩ := two h
    have := SX.split_S (a := x.cps.toList) (b := y.cps.toList) (fun z => by rw [z] at h1; cases h1) h2
    rw [SX.S_tl, SX.S_tl] at this
    exact this.symm
  · rfl
section
variable {a b c : DE} {t u : DT} {r : DA} {s v : DS} {o l h : DO} {g : DG} {gs : DGs} {F : FS}
theorem id_x (k : BX) : ∀ r S, xP k r S → xP k r S := fun _ _ z => z
instance {i} : QE (varW i) := ⟨fun env S k _ => match env[i]? with
  | some (some x) => k x S
  | _ => false, fun env S k kx h => by
    split at h
    · exact ⟨_, by assumption, h⟩
    · cases h⟩
instance {x} : QE (cW x) := ⟨fun _ S k _ => k (.d x) S, fun _ _ _ _ h => h⟩
instance {f} [Fast2 f] [ME a] [ME b] [QE a] [QE b] : QE (op2W f a b) := ⟨fun env S k kx => QE.b a env S (fun x S1 => QE.b b env S1 (fun y S2 => oB (Fast2.g f x y S2) fun z => k z S2) kx) kx,
  fun env S k kx h => ME.mono (w := a) _ _ _ _ _ _ (fun x S1 h1 => ME.mono (w := b) _ _ _ _ _ _ (fun y S2 h2 => by
    obtain ⟨z, e, q⟩ := oB_ok h2
    exact ⟨z, (Fast2.eq x y S2).symm.trans e, q⟩) (id_x kx) (QE.ok (w := b) _ _ _ _ h1)) (id_x kx) (QE.ok (w := a) _ _ _ _ h)⟩
instance {f} [ME a] [QE a] : QE (op1W f a) := ⟨fun env S k kx => QE.b a env S (fun x S1 => oB (f x S1) fun z => k z S1) kx,
  fun env S k kx h => ME.mono (w := a) _ _ _ _ _ _ (fun x S1 h1 => oB_ok h1) (id_x kx) (QE.ok (w := a) _ _ _ _ h)⟩
instance [ME a] [QE a] : QT (testW a) := ⟨fun env S k kx => QE.b a env S (fun x S1 => boolB x fun z => k z S1) kx,
  fun env S k kx h => ME.mono (w := a) _ _ _ _ _ _ (fun x S1 h1 => boolB_ok h1) (id_x kx) (QE.ok (w := a) _ _ _ _ h)⟩
instance [MT t] [MT u] [QT t] [QT u] : QT (andW t u) := ⟨fun env S k kx => QT.b t env S (fun c S1 => if c = true then QT.b u env S1 k kx else k false S1) kx,
  fun env S k kx h => MT.mono (w := t) _ _ _ _ _ _ (fun c S1 h1 => by
    cases c with
    | true => exact QT.ok (w := u) _ _ _ _ h1
    | false => exact h1) (id_x kx) (QT.ok (w := t) _ _ _ _ h)⟩
instance [MT t] [MT u] [QT t] [QT u] : QT (orW t u) := ⟨fun env S k kx => QT.b t env S (fun c S1 => if c = true then k true S1 else QT.b u env S1 k kx) kx,
  fun env S k kx h => MT.mono (w := t) _ _ _ _ _ _ (fun c S1 h1 => by
    cases c with
    | false => exact QT.ok (w := u) _ _ _ _ h1
    | true => exact h1) (id_x kx) (QT.ok (w := t) _ _ _ _ h)⟩
instance [QT t] : QT (notW t) := ⟨fun env S k kx => QT.b t env S (fun c S1 => k (!c) S1) kx, fun env S k kx h => QT.ok (w := t) _ _ _ _ h⟩
instance : QT yesT := ⟨fun _ S k _ => k true S, fun _ _ _ _ h => h⟩
instance [ME a] [ME b] [QE a] [QE b] : QE (andVW a b) := ⟨fun env S k kx => QE.b a env S (fun x S1 => boolB x fun c => if c = true then QE.b b env S1 k kx else k (.d (.bool false)) S1) kx,
  fun env S k kx h => ME.mono (w := a) _ _ _ _ _ _ (fun x S1 h1 => by
    obtain ⟨c, e, h2⟩ := boolB_ok h1
    refine ⟨c, e, ?_⟩
    cases c with
    | true => exact QE.ok (w := b) _ _ _ _ h2
    | false => exact h2) (id_x kx) (QE.ok (w := a) _ _ _ _ h)⟩
instance [ME a] [ME b] [QE a] [QE b] : QE (orVW a b) := ⟨fun env S k kx => QE.b a env S (fun x S1 => boolB x fun c => if c = true then k (.d (.bool true)) S1 else QE.b b env S1 k kx) kx,
  fun env S k kx h => ME.mono (w := a) _ _ _ _ _ _ (fun x S1 h1 => by
    obtain ⟨c, e, h2⟩ := boolB_ok h1
    refine ⟨c, e, ?_⟩
    cases c with
    | false => exact QE.ok (w := b) _ _ _ _ h2
    | true => exact h2) (id_x kx) (QE.ok (w := a) _ _ _ _ h)⟩
instance [ME a] [QE a] : QE (notVW a) := ⟨fun env S k kx => QE.b a env S (fun x S1 => boolB x fun c => k (.d (.bool (!c))) S1) kx,
  fun env S k kx h => ME.mono (w := a) _ _ _ _ _ _ (fun x S1 h1 => boolB_ok h1) (id_x kx) (QE.ok (w := a) _ _ _ _ h)⟩
instance [MT t] [ME a] [ME b] [QT t] [QE a] [QE b] : QE (ifW t a b) := ⟨fun env S k kx => QT.b t env S (fun c S1 => if c = true then QE.b a env S1 k kx else QE.b b env S1 k kx) kx,
  fun env S k kx h => MT.mono (w := t) _ _ _ _ _ _ (fun c S1 h1 => by
    cases c with
    | true => exact QE.ok (w := a) _ _ _ _ h1
    | false => exact QE.ok (w := b) _ _ _ _ h1) (id_x kx) (QT.ok (w := t) _ _ _ _ h)⟩
instance : QA nilA := ⟨fun _ S k _ => k [] S, fun _ _ _ _ h => h⟩
instance [ME a] [MA r] [QE a] [QA r] : QA (consA a r) := ⟨fun env S k kx => QE.b a env S (fun x S1 => frcV x fun x => QA.b r env S1 (fun xs S2 => k (x :: xs) S2) kx) kx,
  fun env S k kx h => ME.mono (w := a) _ _ _ _ _ _ (fun x S1 h1 => by
    have h1 := (frcV_eq x _).symm.trans h1
    exact QA.ok (w := r) _ _ _ _ h1) (id_x kx) (QE.ok (w := a) _ _ _ _ h)⟩
instance {f f'} [ME a] [ME b] [ME c] [QE a] [QE b] [QE c] : QE (chainW f f' a b c) := ⟨fun env S k kx => QE.b a env S (fun x S1 => QE.b b env S1 (fun y S2 => oB (f x y S2) fun z => boolB z fun c' => if c' = true then QE.b c env S2 (fun z S3 => oB (f' y z S3) fun u => k u S3) kx else k (.d (.bool false)) S2) kx) kx,
  fun env S k kx h => ME.mono (w := a) _ _ _ _ _ _ (fun x S1 h1 => ME.mono (w := b) _ _ _ _ _ _ (fun y S2 h2 => by
    obtain ⟨z, e, h3⟩ := oB_ok h2
    obtain ⟨c', e2, h4⟩ := boolB_ok h3
    subst e2
    refine ⟨c', e, ?_⟩
    cases c' with
    | true => exact ME.mono (w := c) _ _ _ _ _ _ (fun y S2 h2 => oB_ok h2) (id_x kx) (QE.ok (w := c) _ _ _ _ h4)
    | false => exact h4) (id_x kx) (QE.ok (w := b) _ _ _ _ h1)) (id_x kx) (QE.ok (w := a) _ _ _ _ h)⟩
theorem leB {a b : Nat} {c : Bool} (h : (Nat.ble a b && c) = true) : a ≤ b ∧ c = true := by
  obtain ⟨h1, h2⟩ := two h
  exact ⟨Nat.le_of_ble_eq_true h1, h2⟩
instance [MA r] [QA r] : QE (tupW r) := ⟨fun env S k kx => QA.b r env S (fun xs S1 => oB (pures xs) fun ds => Nat.ble ds.length 1000000 && k (.d (.tuple ds)) S1) kx,
  fun env S k kx h => MA.mono (w := r) _ _ _ _ _ _ (fun xs S1 h1 => (oB_ok h1).imp fun ds q => ⟨q.1, leB q.2⟩) (id_x kx) (QA.ok (w := r) _ _ _ _ h)⟩
instance [MA r] [QA r] : QE (lstW r) := ⟨fun env S k kx => QA.b r env S (fun xs S1 => oB (pures xs) fun ds => Nat.ble ds.length 1000000 && k (.d (.list ds)) S1) kx,
  fun env S k kx h => MA.mono (w := r) _ _ _ _ _ _ (fun xs S1 h1 => (oB_ok h1).imp fun ds q => ⟨q.1, leB q.2⟩) (id_x kx) (QA.ok (w := r) _ _ _ _ h)⟩
instance [MA r] [QA r] : QE (newLW r) := ⟨fun env S k kx => QA.b r env S (fun xs S1 => Nat.ble xs.length 1000000 && k (.p S1.length) (S1 ++ [.lst xs])) kx,
  fun env S k kx h => MA.mono (w := r) _ _ _ _ _ _ (fun xs S1 h1 => leB h1) (id_x kx) (QA.ok (w := r) _ _ _ _ h)⟩
instance [ME a] [QE a] : QE (fzW a) := ⟨fun env S k kx => QE.b a env S (fun x S1 => ptrB x fun n => lstB S1[n]? fun xs => oB (pures xs) fun ds => k (.d (.list ds)) (S1.set n .gone)) kx,
  fun env S k kx h => ME.mono (w := a) _ _ _ _ _ _ (fun x S1 h1 => by
    obtain ⟨n, e, h2⟩ := ptrB_ok h1
    obtain ⟨xs, e2, h3⟩ := lstB_ok h2
    obtain ⟨ds, e3, h4⟩ := oB_ok h3
    exact ⟨n, xs, ds, e, e2, e3, h4⟩) (id_x kx) (QE.ok (w := a) _ _ _ _ h)⟩
instance {f} [MA r] [QA r] : QE (callNW f r) := ⟨fun env S k kx => QA.b r env S (fun xs S1 => oB (f xs S1) fun z => k z S1) kx,
  fun env S k kx h => MA.mono (w := r) _ _ _ _ _ _ (fun x S1 h1 => oB_ok h1) (id_x kx) (QA.ok (w := r) _ _ _ _ h)⟩
instance : QO noPartW := ⟨fun _ S k _ => k none S, fun _ _ _ _ h => h⟩
instance [ME a] [QE a] : QO (partW a) := ⟨fun env S k kx => QE.b a env S (fun x S1 => intB x fun i => k (some i) S1) kx,
  fun env S k kx h => ME.mono (w := a) _ _ _ _ _ _ (fun x S1 h1 => intB_ok h1) (id_x kx) (QE.ok (w := a) _ _ _ _ h)⟩
instance [ME a] [MO l] [MO h] [QE a] [QO l] [QO h] : QE (sliceW a l h) := ⟨fun env S k kx => QE.b a env S (fun x S1 => QO.b l env S1 (fun i S2 => QO.b h env S2 (fun j S3 => oB (cutD x i j) fun z => k z S3) kx) kx) kx,
  fun env S k kx q => ME.mono (w := a) _ _ _ _ _ _ (fun x S1 h1 => MO.mono (w := l) _ _ _ _ _ _ (fun i S2 h2 => MO.mono (w := h) _ _ _ _ _ _ (fun j S3 h3 => oB_ok h3) (id_x kx) (QO.ok (w := h) _ _ _ _ h2)) (id_x kx) (QO.ok (w := l) _ _ _ _ h1)) (id_x kx) (QE.ok (w := a) _ _ _ _ q)⟩
instance [ME a] [ME b] [QE a] [QE b] : QE (splitW a b) := ⟨fun env S k kx => QE.b a env S (fun x S1 => strB x fun s => QE.b b env S1 (fun y S2 => strB y fun t => !(t.length == 0) && (Nat.ble s.length 1000000 && k (.d (.list ((fsplit s t).map .str))) S2)) kx) kx,
  fun env S k kx h => ME.mono (w := a) _ _ _ _ _ _ (fun x S1 h1 => (strB_ok h1).imp fun s q => ⟨q.1, ME.mono (w := b) _ _ _ _ _ _ (fun y S2 h2 => by
    obtain ⟨t, e, q⟩ := strB_ok h2
    exact ⟨t, e, nb (two q).1, by have z := leB (two q).2; rw [fsplit_eq] at z; exact z⟩) (id_x kx) (QE.ok (w := b) _ _ _ _ q.2)⟩) (id_x kx) (QE.ok (w := a) _ _ _ _ h)⟩
instance [ME a] [ME b] [QE a] [QE b] : QE (joinW a b) := ⟨fun env S k kx => QE.b a env S (fun x S1 => strB x fun s => QE.b b env S1 (fun y S2 => oB (seqD y S2) fun z => oB (strsD z.2) fun ys => Nat.ble ((ys.map (·.length)).sum + ys.length * s.length) 16777216 && k (.d (.str (fjoin s ys))) S2) kx) kx,
  fun env S k kx h => ME.mono (w := a) _ _ _ _ _ _ (fun x S1 h1 => (strB_ok h1).imp fun s q => ⟨q.1, ME.mono (w := b) _ _ _ _ _ _ (fun y S2 h2 => by
    obtain ⟨⟨c, ds⟩, e, h3⟩ := oB_ok h2
    obtain ⟨ys, e2, h4⟩ := oB_ok h3
    exact ⟨c, ds, ys, e, e2, by have z := leB h4; rw [fjoin_eq] at z; exact z⟩) (id_x kx) (QE.ok (w := b) _ _ _ _ q.2)⟩) (id_x kx) (QE.ok (w := a) _ _ _ _ h)⟩
instance [ME a] [QE a] : QE (lrgW a) := ⟨fun env S k kx => QE.b a env S (fun x S1 => intB x fun n => decide (0 ≤ n) && (decide (n ≤ 100000) && k (.d (.list (rgD 0 n))) S1)) kx,
  fun env S k kx h => ME.mono (w := a) _ _ _ _ _ _ (fun x S1 h1 => (intB_ok h1).imp fun n q => ⟨q.1, of_decide_eq_true (two q.2).1, of_decide_eq_true (two (two q.2).2).1, (two (two q.2).2).2⟩) (id_x kx) (QE.ok (w := a) _ _ _ _ h)⟩
end
/-! statements -/
section
variable {a b c : DE} {t u : DT} {r : DA} {s v : DS} {g : DG} {gs : DGs} {F : FS}
theorem BEnds.wnx {D : BEnds} {f : DEnv → Sto → Bool} {f' : DEnv → Sto → Prop} (h : ∀ e S, f e S = true → f' e S) : DEnds.le ({ D with nx := f } : BEnds).P { D.P with nx := f' } := ⟨h, fun _ _ z => z, fun _ _ z => z, fun _ _ z => z, fun _ _ _ z => z⟩
instance : QS nextS := ⟨fun env S D => D.nx env S, fun _ _ _ h => h⟩
instance [MS s] [MS v] [QS s] [QS v] : QS (seqS s v) := ⟨fun env S D => QS.b s env S { D with nx := fun e S => QS.b v e S D }, fun env S D h => MS.mono (w := s) _ _ _ _ (BEnds.wnx fun e S z => QS.ok (w := v) _ _ _ z) (QS.ok (w := s) _ _ _ h)⟩
instance {i} [ME a] [QE a] : QS (asgS i a) := ⟨fun env S D => QE.b a env S (fun x S1 => frcV x fun x => D.nx (env.set i (some x)) S1) (D.ex env), fun env S D h => ME.mono (w := a) _ _ _ _ _ _ (fun x S1 h1 => (frcV_eq x fun x => D.nx (env.set i (some x)) S1).symm.trans h1) (fun _ _ z => z) (QE.ok (w := a) _ _ _ _ h)⟩
instance [QE a] : QS (retS a) := ⟨fun env S D => QE.b a env S D.rt (D.ex env), fun env S D h => QE.ok (w := a) _ _ _ _ h⟩
instance : QS retN := ⟨fun _ S D => D.rt (.d .none) S, fun _ _ _ h => h⟩
instance [MT t] [QT t] [QS s] [QS v] : QS (ifS t s v) := ⟨fun env S D => QT.b t env S (fun c S1 => if c = true then QS.b s env S1 D else QS.b v env S1 D) (D.ex env),
  fun env S D h => MT.mono (w := t) _ _ _ _ _ _ (fun c S1 h1 => by
    cases c with
    | true => exact QS.ok (w := s) _ _ _ h1
    | false => exact QS.ok (w := v) _ _ _ h1) (fun _ _ z => z) (QT.ok (w := t) _ _ _ _ h)⟩
instance [QE a] : QS (dropS a) := ⟨fun env S D => QE.b a env S (fun _ S1 => D.nx env S1) (D.ex env), fun env S D h => QE.ok (w := a) _ _ _ _ h⟩
instance {i} : QG (nameG i) := ⟨fun x env S k => k (env.set i (some x)) S, fun _ _ _ _ h => h⟩
instance : QGs nilGs := ⟨fun xs env S k => xs.isEmpty && k env S, fun xs env S k h => by
  obtain ⟨h1, h2⟩ := two h
  cases xs with
  | nil => exact ⟨rfl, h2⟩
  | cons x r => cases h1⟩
instance [MG g] [QG g] [QGs gs] : QGs (consGs g gs) := ⟨fun xs env S k => match xs with
  | x :: ys => QG.b g x env S fun e S => QGs.b gs ys e S k
  | [] => false, fun xs env S k h => by
    cases xs with
    | nil => cases h
    | cons x ys => exact ⟨x, ys, rfl, MG.mono (w := g) _ _ _ _ _ (fun e S z => QGs.ok (g := gs) _ _ _ _ z) (QG.ok (g := g) _ _ _ _ h)⟩⟩
def tupB (x : DV) (n : Nat) (f : List DV → Bool) : Bool := match x with
  | .d (.tuple xs) => Nat.beq xs.length n && f (xs.map .d)
  | _ => false
instance {n} [QGs gs] : QG (tupG n gs) := ⟨fun x env S k => tupB x n fun xs => QGs.b gs xs env S k, fun x env S k h => by
  unfold tupB at h
  split at h
  · rename_i xs
    obtain ⟨h1, h2⟩ := two h
    exact ⟨xs, rfl, Nat.eq_of_beq_eq_true h1, QGs.ok (g := gs) _ _ _ _ h2⟩
  · cases h⟩
instance [ME a] [QE a] [QG g] : QS (tgtS a g) := ⟨fun env S D => QE.b a env S (fun x S1 => QG.b g x env S1 D.nx) (D.ex env), fun env S D h => ME.mono (w := a) _ _ _ _ _ _ (fun x S1 z => QG.ok (g := g) _ _ _ _ z) (fun _ _ z => z) (QE.ok (w := a) _ _ _ _ h)⟩
instance {n} [MA r] [QA r] [QGs gs] : QS (tgtNS n r gs) := ⟨fun env S D => QA.b r env S (fun xs S1 => Nat.beq xs.length n && (Nat.ble n 1000 && QGs.b gs xs env S1 D.nx)) (D.ex env), fun env S D h => MA.mono (w := r) _ _ _ _ _ _ (fun x S1 z => ⟨Nat.eq_of_beq_eq_true (two z).1, (leB (two z).2).1, QGs.ok (g := gs) _ _ _ _ (leB (two z).2).2⟩) (fun _ _ z => z) (QA.ok (w := r) _ _ _ _ h)⟩
instance {i j} [MA r] [QA r] : QS (par2S i j r) := ⟨fun env S D => QA.b r env S (fun xs S1 => match xs with
  | [x, y] => D.nx ((env.set i (some x)).set j (some y)) S1
  | _ => false) (D.ex env), fun env S D h => MA.mono (w := r) _ _ _ _ _ _ (fun xs S1 z => by
    split at z
    · exact ⟨_, _, rfl, z⟩
    · cases z) (fun _ _ z => z) (QA.ok (w := r) _ _ _ _ h)⟩
instance {i j l} [MA r] [QA r] : QS (par3S i j l r) := ⟨fun env S D => QA.b r env S (fun xs S1 => match xs with
  | [x, y, z] => D.nx (((env.set i (some x)).set j (some y)).set l (some z)) S1
  | _ => false) (D.ex env), fun env S D h => MA.mono (w := r) _ _ _ _ _ _ (fun xs S1 z => by
    split at z
    · exact ⟨_, _, _, rfl, z⟩
    · cases z) (fun _ _ z => z) (QA.ok (w := r) _ _ _ _ h)⟩
instance [ME a] [ME b] [ME c] [QE a] [QE b] [QE c] : QS (setLS a b c) := ⟨fun env S D => QE.b a env S (fun v S1 => QE.b b env S1 (fun o S2 => QE.b c env S2 (fun i S3 => ptrB o fun n => intB i fun k => lstB S3[n]? fun xs => oB (ixN xs.length k) fun j => D.nx env (S3.set n (.lst (xs.set j v)))) (D.ex env)) (D.ex env)) (D.ex env),
  fun env S D h => ME.mono (w := a) _ _ _ _ _ _ (fun v S1 h1 => ME.mono (w := b) _ _ _ _ _ _ (fun o S2 h2 => ME.mono (w := c) _ _ _ _ _ _ (fun i S3 h3 => by
    obtain ⟨n, e1, h4⟩ := ptrB_ok h3
    obtain ⟨k, e2, h5⟩ := intB_ok h4
    obtain ⟨xs, e3, h6⟩ := lstB_ok h5
    obtain ⟨j, e4, h7⟩ := oB_ok h6
    exact ⟨n, xs, k, j, e1, e2, e3, e4, h7⟩) (fun _ _ z => z) (QE.ok (w := c) _ _ _ _ h2)) (fun _ _ z => z) (QE.ok (w := b) _ _ _ _ h1)) (fun _ _ z => z) (QE.ok (w := a) _ _ _ _ h)⟩
instance [ME a] [ME b] [QE a] [QE b] : QS (appS a b) := ⟨fun env S D => QE.b a env S (fun o S1 => ptrB o fun n => lstB S1[n]? fun _ => QE.b b env S1 (fun v S2 => lstB S2[n]? fun xs => Nat.ble xs.length 1000000 && D.nx env (S2.set n (.lst (xs ++ [v])))) (D.ex env)) (D.ex env),
  fun env S D h => ME.mono (w := a) _ _ _ _ _ _ (fun o S1 h1 => by
    obtain ⟨n, e1, h2⟩ := ptrB_ok h1
    obtain ⟨ys, e2, h3⟩ := lstB_ok h2
    exact ⟨n, ys, e1, e2, ME.mono (w := b) _ _ _ _ _ _ (fun v S2 h4 => by
      obtain ⟨xs, e3, h5⟩ := lstB_ok h4
      exact ⟨xs, e3, leB h5⟩) (fun _ _ z => z) (QE.ok (w := b) _ _ _ _ h3)⟩) (fun _ _ z => z) (QE.ok (w := a) _ _ _ _ h)⟩
instance {x} : QS (raiseS x) := ⟨fun env S D => D.ex env (.cls x) S, fun _ _ _ h => h⟩
instance [QS s] {N} : QF (funW N s) := ⟨fun args S k kx => QS.b s (args.map some ++ List.replicate (N - args.length) none) S ⟨fun _ S' => k (.d .none) S', k, fun _ _ => false, fun _ _ => false, fun _ => kx⟩, fun args S k kx h => by
  have := QS.ok (w := s) _ _ _ h
  exact (this : s _ _ ⟨_, _, _, _, _⟩) |> fun z => by
    unfold funW
    have e : (BEnds.P ⟨fun _ S' => k (.d .none) S', k, fun _ _ => false, fun _ _ => false, fun _ => kx⟩) = ⟨fun _ S' => kP k (.d .none) S', kP k, fun _ _ => False, fun _ _ => False, fun _ => xP kx⟩ := by
      unfold BEnds.P
      simp [kP, xP]
    rw [e] at this
    exact this⟩
/-! iteration -/
def notPB : DV → Bool
  | .p _ => false
  | _ => true
theorem notPB_ok {x : DV} (h : notPB x = true) : notP x := by cases x <;> first | trivial | cases h
instance [ME a] [QE a] : QA (seqI a) := ⟨fun env S k kx => QE.b a env S (fun x S1 => notPB x && oB (seqD x S1) fun z => k (z.2.map .d) S1) kx, fun env S k kx h => ME.mono (w := a) _ _ _ _ _ _ (fun x S1 z => by
  obtain ⟨h1, h2⟩ := two z
  obtain ⟨⟨c, ds⟩, e, h3⟩ := oB_ok h2
  exact ⟨notPB_ok h1, c, ds, e, h3⟩) (id_x kx) (QE.ok (w := a) _ _ _ _ h)⟩
instance [ME a] [QE a] : QA (enumI a) := ⟨fun env S k kx => QE.b a env S (fun x S1 => notPB x && oB (seqD x S1) fun z => k (enD 0 z.2) S1) kx, fun env S k kx h => ME.mono (w := a) _ _ _ _ _ _ (fun x S1 z => by
  obtain ⟨h1, h2⟩ := two z
  obtain ⟨⟨c, ds⟩, e, h3⟩ := oB_ok h2
  exact ⟨notPB_ok h1, c, ds, e, h3⟩) (id_x kx) (QE.ok (w := a) _ _ _ _ h)⟩
instance [ME a] [QE a] : QA (rng1I a) := ⟨fun env S k kx => QE.b a env S (fun x S1 => intB x fun n => decide (-100000 ≤ n) && (decide (n ≤ 100000) && k ((rgD 0 n).map .d) S1)) kx, fun env S k kx h => ME.mono (w := a) _ _ _ _ _ _ (fun x S1 z => (intB_ok z).imp fun n q => ⟨q.1, of_decide_eq_true (two q.2).1, of_decide_eq_true (two (two q.2).2).1, (two (two q.2).2).2⟩) (id_x kx) (QE.ok (w := a) _ _ _ _ h)⟩
instance [ME a] [ME b] [QE a] [QE b] : QA (rng2I a b) := ⟨fun env S k kx => QE.b a env S (fun x S1 => QE.b b env S1 (fun y S2 => intB x fun m => intB y fun n => (decide (-100000 ≤ m) && decide (m ≤ 100000)) && ((decide (-100000 ≤ n) && decide (n ≤ 100000)) && k ((rgD m n).map .d) S2)) kx) kx, fun env S k kx h => ME.mono (w := a) _ _ _ _ _ _ (fun x S1 h1 => ME.mono (w := b) _ _ _ _ _ _ (fun y S2 z => by
  obtain ⟨m, e1, z⟩ := intB_ok z
  obtain ⟨n, e2, z⟩ := intB_ok z
  obtain ⟨z1, z⟩ := two z
  obtain ⟨z2, z⟩ := two z
  exact ⟨m, n, e1, e2, of_decide_eq_true (two z1).1, of_decide_eq_true (two z1).2, of_decide_eq_true (two z2).1, of_decide_eq_true (two z2).2, z⟩) (id_x kx) (QE.ok (w := b) _ _ _ _ h1)) (id_x kx) (QE.ok (w := a) _ _ _ _ h)⟩
instance [ME a] [ME b] [QE a] [QE b] : QA (zipI a b) := ⟨fun env S k kx => QE.b a env S (fun x S1 => QE.b b env S1 (fun y S2 => notPB x && (notPB y && oB (seqD x S1) fun z => oB (seqD y S2) fun u => (z.1 == u.1) && k (zipD z.2 u.2) S2)) kx) kx, fun env S k kx h => ME.mono (w := a) _ _ _ _ _ _ (fun x S1 h1 => ME.mono (w := b) _ _ _ _ _ _ (fun y S2 z => by
  obtain ⟨z1, z⟩ := two z
  obtain ⟨z2, z⟩ := two z
  obtain ⟨⟨c, ds⟩, e1, z⟩ := oB_ok z
  obtain ⟨⟨c', es⟩, e2, z⟩ := oB_ok z
  obtain ⟨z3, z⟩ := two z
  have : c = c' := eq_of_beq z3
  subst this
  exact ⟨notPB_ok z1, notPB_ok z2, c, ds, es, e1, e2, z⟩) (id_x kx) (QE.ok (w := b) _ _ _ _ h1)) (id_x kx) (QE.ok (w := a) _ _ _ _ h)⟩
def loopB (g : DV → DEnv → Sto → (DEnv → Sto → Bool) → Bool) (b : DEnv → Sto → BEnds → Bool) : List DV → DEnv → Sto → BEnds → Bool
  | [], env, S, D => D.nx env S
  | x :: r, env, S, D => frcV x fun x => g x env S fun env1 S1 => b env1 S1 { D with nx := fun e s => loopB g b r e s D, ct := fun e s => loopB g b r e s D, bk := D.nx }
theorem loopB_ok [MG g] [MS s] [QG g] [QS s] : ∀ (xs : List DV) env S (D : BEnds), loopB (QG.b g) (QS.b s) xs env S D = true → loopL g s xs env S D.P
  | [], _, _, _, h => h
  | x :: r, env, S, D, h => by
   have h := (frcV_eq x _).symm.trans h
   exact MG.mono (w := g) _ _ _ _ _ (fun e S z => by
    have q := QS.ok (w := s) _ _ _ z
    refine MS.mono (w := s) _ _ _ _ ?_ q
    exact ⟨fun e s z => loopB_ok r _ _ _ z, fun _ _ z => z, fun _ _ z => z, fun e s z => loopB_ok r _ _ _ z, fun _ _ _ z => z⟩) (QG.ok (g := g) _ _ _ _ h)
instance [MA r] [MG g] [MS s] [QA r] [QG g] [QS s] : QS (forS r g s) := ⟨fun env S D => QA.b r env S (fun xs S1 => loopB (QG.b g) (QS.b s) xs env S1 D) (D.ex env), fun env S D h => MA.mono (w := r) _ _ _ _ _ _ (fun xs S1 z => loopB_ok xs _ _ _ z) (fun _ _ z => z) (QA.ok (w := r) _ _ _ _ h)⟩
def whileB (t : DEnv → Sto → (Bool → Sto → Bool) → BX → Bool) (b : DEnv → Sto → BEnds → Bool) : Nat → DEnv → Sto → BEnds → Bool
  | 0, _, _, _ => false
  | n + 1, env, S, D => t env S (fun c S1 => if c = true then b env S1 { D with nx := fun e s => whileB t b n e s D, ct := fun e s => whileB t b n e s D, bk := D.nx } else D.nx env S1) (D.ex env)
theorem whileB_ok [MT t] [MS s] [QT t] [QS s] : ∀ (n : Nat) env S (D : BEnds), whileB (QT.b t) (QS.b s) n env S D = true → whileN t s n env S D.P
  | 0, _, _, _, h => by cases h
  | n + 1, env, S, D, h => MT.mono (w := t) _ _ _ _ _ _ (fun c S1 z => by
    cases c with
    | true =>
      have q := QS.ok (w := s) _ _ _ z
      refine MS.mono (w := s) _ _ _ _ ?_ q
      exact ⟨fun e s z => whileB_ok n _ _ _ z, fun _ _ z => z, fun _ _ z => z, fun e s z => whileB_ok n _ _ _ z, fun _ _ _ z => z⟩
    | false => exact z) (fun _ _ z => z) (QT.ok (w := t) _ _ _ _ h)
instance [MT t] [MS s] [QT t] [QS s] : QS (whileS t s) := ⟨fun env S D => whileB (QT.b t) (QS.b s) 10000 env S D, fun env S D h => ⟨10000, whileB_ok _ _ _ _ h⟩⟩
/-! comprehensions -/
def lcB (b : DB) (t : DEnv → Sto → (Bool → Sto → Bool) → BX → Bool) (e : DEnv → Sto → BK → BX → Bool) (env0 : DEnv) : List DV → List PyData → Sto → (List PyData → Sto → Bool) → Bool
  | [], acc, S, k => k acc S
  | x :: r, acc, S, k => frcV x fun x => oB (b x env0) fun env1 => t env1 S (fun c S2 => if c = true then e env1 S2 (fun y S3 => match y with
    | .d d => frcD d fun d => Nat.ble acc.length 1000000 && lcB b t e env0 r (acc ++ [d]) S3 k
    | _ => false) (fun _ _ => false) else lcB b t e env0 r acc S2 k) (fun _ _ => false)
theorem f0 : ∀ r S, xP (fun _ _ => false) r S → F0 r S := fun _ _ h => by cases h
theorem lcB_ok {b : DB} [MT t] [ME a] [QT t] [QE a] {env0 : DEnv} : ∀ (xs : List DV) (acc : List PyData) (S : Sto) (k : List PyData → Sto → Bool), lcB b (QT.b t) (QE.b a) env0 xs acc S k = true → lcL b t a env0 xs acc S fun r S => k r S = true
  | [], _, _, _, h => h
  | x :: r, acc, S, k, h => by
    have h := (frcV_eq x _).symm.trans h
    obtain ⟨env1, e, h⟩ := oB_ok h
    refine ⟨env1, e, MT.mono (w := t) _ _ _ _ _ _ (fun c S2 z => ?_) f0 (QT.ok (w := t) _ _ _ _ h)⟩
    cases c with
    | false => exact lcB_ok r _ _ _ z
    | true =>
      refine ME.mono (w := a) _ _ _ _ _ _ (fun y S3 z => ?_) f0 (QE.ok (w := a) _ _ _ _ z)
      cases y with
      | d d =>
        have z := (frcD_eq d _).symm.trans z
        exact ⟨d, rfl, (leB z).1, lcB_ok r _ _ _ (leB z).2⟩
      | p n => cases z
      | s n => cases z
      | m n => cases z
      | ce n => cases z
      | cs n => cases z
      | ev n => cases z
      | es n => cases z
      | cl n => cases z
instance {b : DB} {vs} [MA r] [MT t] [ME a] [QA r] [QT t] [QE a] : QE (lcW r b t a vs) := ⟨fun env S k kx => QA.b r env S (fun xs S1 => lcB b (QT.b t) (QE.b a) (wipeD env vs) xs [] S1 fun ds S2 => k (.d (.list ds)) S2) kx,
  fun env S k kx h => MA.mono (w := r) _ _ _ _ _ _ (fun xs S1 z => lcB_ok xs [] S1 _ z) (id_x kx) (QA.ok (w := r) _ _ _ _ h)⟩
/-! try -/
instance : QH [] := ⟨fun _ x env S D => D.ex env x S, fun _ _ _ _ _ h => h⟩
instance {y} {l : List (Str × DS)} [MS s] [MH l] [QS s] [QH l] : QH ((y, s) :: l) := ⟨fun L x env S D => decide (x.nm ∈ L) && if x.nm = y then QS.b s env S { D with ex := fun _ _ _ => false } else QH.b l L x env S D, fun L x env S D h => by
  obtain ⟨h1, h2⟩ := two h
  refine ⟨of_decide_eq_true h1, ?_⟩
  split
  · rename_i e
    rw [if_pos e] at h2
    have q := QS.ok (w := s) _ _ _ h2
    refine MS.mono (w := s) _ _ _ _ ?_ q
    exact ⟨fun _ _ z => z, fun _ _ z => z, fun _ _ z => z, fun _ _ z => z, fun _ x S z => by cases z⟩
  · rename_i e
    rw [if_neg e] at h2
    exact QH.ok (l := l) _ _ _ _ _ h2⟩
instance {L} {l : List (Str × DS)} [MS s] [MH l] [QS s] [QH l] : QS (tryS L s l) := ⟨fun env S D => QS.b s env S { D with ex := fun env' x S' => QH.b l L x env' S' D }, fun env S D h => by
    have q := QS.ok (w := s) _ _ _ h
    refine MS.mono (w := s) _ _ _ _ ?_ q
    exact ⟨fun _ _ z => z, fun _ _ z => z, fun _ _ z => z, fun _ _ z => z, fun e x S z => QH.ok (l := l) _ _ _ _ _ z⟩⟩
/-! calls -/
def okB (n : Nat) (S : Sto) : Bool := (S.take n).all closedO
theorem okB_ok {n : Nat} {S : Sto} (h : okB n S = true) : okObjs n S := fun i o hi e => by
  refine List.all_eq_true.mp h o ?_
  rw [List.mem_iff_getElem?]
  exact ⟨i, by rw [List.getElem?_take_of_lt hi]; exact e⟩
def resB (ix : List Nat) (S1 : Sto) (k : BK) : BK := fun r S2 => okB ix.length S2 && match r with
  | .p j => Nat.ble ix.length j && oB S2[j]? fun o => closedO o && k (.p S1.length) (putAll S1 ix S2 ++ [o])
  | .d x => k (.d x) (putAll S1 ix S2)
  | .s x => k (.s x) (putAll S1 ix S2)
  | .m x => k (.m x) (putAll S1 ix S2)
  | .ce _ => false
  | .cs _ => false
  | .ev _ => false
  | .es _ => false
  | .cl _ => false
def nodB : List Nat → Bool
  | [] => true
  | x :: r => !r.contains x && nodB r
theorem nodB_ok : ∀ {l : List Nat}, nodB l = true → l.Nodup
  | [], _ => List.nodup_nil
  | x :: r, h => by
    obtain ⟨h1, h2⟩ := two h
    exact List.nodup_cons.mpr ⟨by simpa using h1, nodB_ok h2⟩
instance [MF F] [MA r] [QF F] [QA r] : QE (callW F r) := ⟨fun env S k kx => QA.b r env S (fun xs S1 => nodB (ptrs xs) && oB (objsAt S1 (ptrs xs)) fun os => QF.b F (ren xs 0) os (resB (ptrs xs) S1 k) fun x S2 => okB (ptrs xs).length S2 && kx x (putAll S1 (ptrs xs) S2)) kx,
  fun env S k kx h => MA.mono (w := r) _ _ _ _ _ _ (fun xs S1 z => by
    obtain ⟨z1, z2⟩ := two z
    obtain ⟨os, e, z3⟩ := oB_ok z2
    refine ⟨nodB_ok z1, os, e, MF.mono (F := F) _ _ _ _ _ _ (fun r S2 q => ?_) (fun x S2 q => ⟨okB_ok (two q).1, (two q).2⟩) (QF.ok (F := F) _ _ _ _ z3)⟩
    obtain ⟨q1, q2⟩ := two q
    refine ⟨okB_ok q1, ?_⟩
    cases r with
    | p j =>
      obtain ⟨q3, q4⟩ := leB q2
      obtain ⟨o, e, q5⟩ := oB_ok q4
      obtain ⟨q6, q7⟩ := two q5
      exact ⟨q3, o, e, q6, q7⟩
    | d x => exact q2
    | m x => exact q2
    | ce x => cases q2
    | cs x => cases q2
    | ev x => cases q2
    | es x => cases q2
    | cl x => cases q2
    | s x => exact q2) (id_x kx) (QA.ok (w := r) _ _ _ _ h)⟩
end
end DW

set_option Elab.async false
set_option linter.all false
set_option maxRecDepth 100000
set_option maxHeartbeats 4000000
set_option autoImplicit false
/-! DM1: loops by invariants, calls, the drawing of the laws. -/
namespace DW
open PySem L2
theorem loop_inv {g : DG} {body : DS} [MG g] [MS body] (I : DEnv → Sto → Prop) {D : DEnds} : ∀ {xs : List DV} {env : DEnv} {S : Sto}, I env S →
    (∀ x ∈ xs, ∀ env S, I env S → g x env S fun env1 S1 => body env1 S1 { D with nx := I, ct := I, bk := D.nx }) → (∀ env S, I env S → D.nx env S) → loopL g body xs env S D
  | [], _, _, h, _, he => he _ _ h
  | x :: r, env, S, h, hs, he => MG.mono (w := g) _ _ _ _ _ (fun e S z => by
    refine MS.mono (w := body) _ _ _ _ ?_ z
    exact ⟨fun e s z => loop_inv I z (fun y hy => hs y (List.mem_cons_of_mem _ hy)) he, fun _ _ z => z, fun _ _ z => z, fun e s z => loop_inv I z (fun y hy => hs y (List.mem_cons_of_mem _ hy)) he, fun _ _ _ z => z⟩) (hs x List.mem_cons_self env S h)
/-- .. with the part done -/
theorem loop_ix {g : DG} {body : DS} [MG g] [MS body] (I : List DV → DEnv → Sto → Prop) {D : DEnds} : ∀ {xs pre : List DV} {env : DEnv} {S : Sto}, I pre env S →
    (∀ (p : List DV) x (q : List DV), pre ++ xs = p ++ x :: q → ∀ env S, I p env S → g x env S fun env1 S1 => body env1 S1 { D with nx := I (p ++ [x]), ct := I (p ++ [x]), bk := D.nx }) → (∀ env S, I (pre ++ xs) env S → D.nx env S) → loopL g body xs env S D
  | [], pre, _, _, h, _, he => he _ _ (by rw [List.append_nil]; exact h)
  | x :: r, pre, env, S, h, hs, he => MG.mono (w := g) _ _ _ _ _ (fun e S z => by
    refine MS.mono (w := body) _ _ _ _ ?_ z
    have hs2 : ∀ (p : List DV) y (q : List DV), (pre ++ [x]) ++ r = p ++ y :: q → ∀ env S, I p env S → g y env S fun env1 S1 => body env1 S1 { D with nx := I (p ++ [y]), ct := I (p ++ [y]), bk := D.nx } := fun p y q e => hs p y q (by rw [← e]; simp)
    have he2 : ∀ env S, I ((pre ++ [x]) ++ r) env S → D.nx env S := fun env S z => he env S (by simpa using z)
    exact ⟨fun e s z => loop_ix I (pre := pre ++ [x]) z hs2 he2, fun _ _ z => z, fun _ _ z => z, fun e s z => loop_ix I (pre := pre ++ [x]) z hs2 he2, fun _ _ _ z => z⟩) (hs pre x r rfl env S h)
theorem r_ite {c : Bool} {A B : Prop} (h1 : c = true → A) (h2 : c = false → B) : if c = true then A else B := by
  cases c
  · exact h2 rfl
  · exact h1 rfl
/-- the script's numbers -/
theorem mem_rg {a b : Int} {x : DV} (h : x ∈ (rgD a b).map DV.d) : ∃ i : Int, x = .d (.int i) ∧ a ≤ i ∧ i < b := by
  obtain ⟨d, h1, rfl⟩ := List.mem_map.mp h
  obtain ⟨i, h2, rfl⟩ := List.mem_map.mp h1
  have := List.mem_range.mp h2
  exact ⟨_, rfl, by omega, by omega⟩
theorem res_p1 {n : Nat} {S1 S2 : Sto} {o : SO} {k : DK} {d : PyData} (hS : S2 = [o]) (hc : closedO o = true) (h : k (.d d) (S1.set n o)) : resK [n] S1 k (.d d) S2 := by
  subst hS
  refine ⟨fun i o' hi e => ?_, h⟩
  have : i = 0 := by simp at hi; exact hi
  subst this
  cases e
  exact hc
theorem putAll_nil (S T : Sto) : putAll S [] T = S := by cases T <;> rfl
theorem res_0 {S1 S2 : Sto} {k : DK} {d : PyData} (h : k (.d d) S1) : resK [] S1 k (.d d) S2 := ⟨fun i _ hi => by simp at hi, by show k (.d d) (putAll S1 [] S2); rw [putAll_nil]; exact h⟩
/-- a new object of the callee -/
theorem res_0p {S1 : Sto} {o : SO} {S2 : Sto} {k : DK} {j : Nat} (hS : S2[j]? = some o) (hc : closedO o = true) (h : k (.p S1.length) (S1 ++ [o])) : resK [] S1 k (.p j) S2 := ⟨fun i _ hi => by simp at hi, Nat.zero_le _, o, hS, hc, by rw [putAll_nil]; exact h⟩
theorem objs1 {S : Sto} {n : Nat} {o : SO} (h : S[n]? = some o) (hc : closedO o = true) : objsAt S [n] = some [o] := by
  unfold objsAt
  rw [h]
  simp [objsAt, hc]
end DW
namespace DW
open PySem L2
theorem modD_ok {i j : Int} {S : Sto} (h : 0 < j) : modD (.d (.int i)) (.d (.int j)) S = some (.d (.int (i % j))) := by unfold modD; exact if_pos h
theorem divD_ok {i j : Int} {S : Sto} (h : 0 < j) (h2 : j < 1073741824) : divD (.d (.int i)) (.d (.int j)) S = some (.d (.int (i / j))) := by unfold divD; exact if_pos ⟨h, h2⟩
theorem mulD_ok {i j : Int} {S : Sto} (h : (-18446744073709551616 < i ∧ i < 18446744073709551616) ∨ (-18446744073709551616 < j ∧ j < 18446744073709551616)) : mulD (.d (.int i)) (.d (.int j)) S = some (.d (.int (i * j))) := by unfold mulD; exact if_pos h
theorem r_dec {p : Prop} [Decidable p] {A B : Prop} (h1 : p → A) (h2 : ¬p → B) : if decide p = true then A else B := by
  by_cases h : p
  · rw [if_pos (decide_eq_true h)]; exact h1 h
  · rw [if_neg (by simp [h])]; exact h2 h
end DW
namespace DW
open PySem L2
theorem atI_ok {α : Type} {xs : List α} {i : Int} (h0 : 0 ≤ i) (h1 : i < xs.length) : atI xs i = xs[i.toNat]? := by
  unfold atI ixN
  rw [if_pos h0, if_pos h1]
  rfl
theorem ix_s {ns : List Int} {i : Int} {S : Sto} (h0 : 0 ≤ i) (h1 : i < ns.length) : ∃ z, ixD (.s ns) (.d (.int i)) S = some (.d (.int z)) := by
  refine ⟨ns[i.toNat]'(by omega), ?_⟩
  show (atI (ns.map PyData.int) i).map DV.d = _
  rw [atI_ok h0 (by simpa using h1)]
  rw [List.getElem?_map, List.getElem?_eq_getElem (by omega)]
  rfl
theorem ix_l {ds : List PyData} {i : Int} {S : Sto} (h0 : 0 ≤ i) (h1 : i < ds.length) : ixD (.d (.list ds)) (.d (.int i)) S = some (.d (ds[i.toNat]'(by omega))) := by
  show (atI ds i).map DV.d = _
  rw [atI_ok h0 h1, List.getElem?_eq_getElem (by omega)]
  rfl
theorem ix_t {ds : List PyData} {i : Int} {S : Sto} (h0 : 0 ≤ i) (h1 : i < ds.length) : ixD (.d (.tuple ds)) (.d (.int i)) S = some (.d (ds[i.toNat]'(by omega))) := by
  show (atI ds i).map DV.d = _
  rw [atI_ok h0 h1, List.getElem?_eq_getElem (by omega)]
  rfl
end DW
namespace DW
open PySem L2
mutual
/-- the same data -/
def idD : PyData → PyData → Bool
  | .none, .none => true
  | .bool a, .bool b => a == b
  | .int a, .int b => decide (a = b)
  | .str a, .str b => eqSF a b
  | .list a, .list b => idDs a b
  | .tuple a, .tuple b => idDs a b
  | _, _ => false
def idDs : List PyData → List PyData → Bool
  | [], [] => true
  | a :: x, b :: y => idD a b && idDs x y
  | _, _ => false
end
mutual
theorem idD_ok : ∀ {a b : PyData}, idD a b = true → a = b
  | .none, b, h => by cases b <;> first | rfl | cases h
  | .bool a, b, h => by
    cases b <;> first | (cases h; done) | skip
    rename_i c
    have : a = c := eq_of_beq (show (a == c) = true from h)
    rw [this]
  | .int a, b, h => by
    cases b <;> first | (cases h; done) | skip
    rename_i c
    have : a = c := of_decide_eq_true h
    rw [this]
  | .str a, b, h => by
    cases b <;> first | (cases h; done) | skip
    rename_i c
    have h : eqSF a c = true := h
    rw [eqSF_eq] at h
    rw [eq_of_beq h]
  | .list a, b, h => by
    cases b <;> first | (cases h; done) | skip
    rename_i c
    rw [idDs_ok (show idDs a c = true from h)]
  | .tuple a, b, h => by
    cases b <;> first | (cases h; done) | skip
    rename_i c
    rw [idDs_ok (show idDs a c = true from h)]
  | .dict _, b, h => by cases b <;> cases h
theorem idDs_ok : ∀ {a b : List PyData}, idDs a b = true → a = b
  | [], [], _ => rfl
  | [], _ :: _, h => by cases h
  | _ :: _, [], h => by cases h
  | a :: x, b :: y, h => by
    obtain ⟨h1, h2⟩ := Bool.and_eq_true_iff.mp (show (idD a b && idDs x y) = true from h)
    rw [idD_ok h1, idDs_ok h2]
end
/-- the answer is just d -/
def isV (d : PyData) : BK := fun v _ => match v with
  | .d x => idD x d
  | _ => false
theorem isV_ok {d : PyData} {v : DV} {S : Sto} (h : isV d v S = true) : v = .d d := by
  unfold isV at h
  split at h
  · rw [idD_ok h]
  · cases h
abbrev ffX : BX := fun _ _ => false
/-- a def called with pure data answers d -/
def ansB (F : FS) [QF F] (args : List PyData) (d : PyData) : Bool := frcDs args fun args => frcD d fun d => QF.b F (args.map .d) [] (isV d) ffX
theorem ansB_ok {F : FS} [QF F] [MF F] {args : List PyData} {d : PyData} (h : ansB F args d = true) {k : DK} {kx : DX} (hk : ∀ S, k (.d d) S) : F (args.map .d) [] k kx := by
  unfold ansB at h
  rw [frcDs_eq, frcD_eq] at h
  exact MF.mono (F := F) _ _ _ _ _ _ (fun r S q => by rw [isV_ok q]; exact hk S) (fun r S q => by cases q) (QF.ok (F := F) _ _ _ _ h)
/-- .. in an expression -/
theorem ans_res {S1 : Sto} {k : DK} {d : PyData} (h : k (.d d) S1) : ∀ S, resK [] S1 k (.d d) S := fun S => res_0 h
end DW
namespace DW
open PySem L2
def neB (a b : PyData) : Bool := match Fast2.g neD (.d a) (.d b) [] with
  | some (.d (.bool c)) => !c
  | _ => false
theorem neB_ok {a b : PyData} (h : neB a b = true) (S : Sto) : neD (.d a) (.d b) S = some (.d (.bool false)) := by
  have e : neD (.d a) (.d b) S = neD (.d a) (.d b) [] := rfl
  rw [e]
  unfold neB at h
  rw [Fast2.eq] at h
  split at h
  · rename_i c q
    rw [q]
    cases c
    · rfl
    · cases h
  · cases h
theorem set_last {S : Sto} {o o' : SO} : (S ++ [o]).set S.length o' = S ++ [o'] := by
  rw [List.set_append_right _ _ (Nat.le_refl _)]
  simp
theorem get_last {S : Sto} {o : SO} : (S ++ [o])[S.length]? = some o := by simp
end DW

set_option Elab.async false
set_option linter.all false
set_option maxRecDepth 100000
set_option maxHeartbeats 4000000
set_option autoImplicit false
/-! DD: a written dict of three texts, asked at once. -/
namespace DW
open PySem L2
def dg3W (a b c : Str) (w1 w2 w3 we wd : DE) : DE := fun env S k kx => w1 env S (fun x S1 => w2 env S1 (fun y S2 => w3 env S2 (fun z S3 => we env S3 (fun q S4 => ∃ s, q = .d (.str s) ∧ wd env S4 (fun u S5 => k (if s = a then x else if s = b then y else if s = c then z else u) S5) kx) kx) kx) kx) kx
instance {a b c : Str} {w1 w2 w3 we wd : DE} [ME w1] [ME w2] [ME w3] [ME we] [ME wd] : ME (dg3W a b c w1 w2 w3 we wd) := ⟨fun env S k k' x x' hk hx h =>
  ME.mono (w := w1) env S _ _ _ _ (fun _ S1 h => ME.mono (w := w2) env S1 _ _ _ _ (fun _ S2 h => ME.mono (w := w3) env S2 _ _ _ _ (fun _ S3 h => ME.mono (w := we) env S3 _ _ _ _ (fun _ S4 ⟨s, e, h⟩ => ⟨s, e,
    ME.mono (w := wd) env S4 _ _ _ _ (fun _ S5 h => hk _ _ h) hx h⟩) hx h) hx h) hx h) hx h⟩
theorem Stp.away {K : PySem.W.Frag} {D : Addr} {o : HO} {Ba Bb : Hp} {αa αb : List Addr} {Sb : Sto} {Ha Hb : Hp} (st : Stp K Ba αa Ha Bb αb Sb Hb) (h1 : Ba D = none) (h2 : D ∉ αa) (h3 : Ha D = some o) : Bb D = none ∧ D ∉ αb ∧ Hb D = some o := by
  refine ⟨?_, fun z => ?_, st.frame D _ h3 h2⟩
  · cases q : Bb D with
    | none => rfl
    | some o =>
      rcases st.newB D o q with z | z | z
      · rw [h1] at z; cases z
      · rw [h3] at z; cases z
      · exact absurd z h2
  · rcases st.newA D z with q | q
    · exact h2 q
    · rw [h3] at q; cases q
theorem val3 {a b c s : Str} {v1 v2 v3 : V} (hab : a ≠ b) (hac : a ≠ c) (hbc : b ≠ c) : valV (mergeK [] [(Sum.inr a, v1), (Sum.inr b, v2), (Sum.inr c, v3)]) (Sum.inr s : Key) = if s = a then some v1 else if s = b then some v2 else if s = c then some v3 else none := by
  have e : mergeK [] [((Sum.inr a : Key), v1), (Sum.inr b, v2), (Sum.inr c, v3)] = [(Sum.inr a, v1), (Sum.inr b, v2), (Sum.inr c, v3)] := by
    simp [mergeK, putK, hab, hac, hbc]
  rw [e]
  by_cases h1 : s = a
  · rw [if_pos h1, valV_pos (by rw [h1])]
  · rw [if_neg h1, valV_neg (fun z => h1 (Sum.inr.inj z).symm)]
    by_cases h2 : s = b
    · rw [if_pos h2, valV_pos (by rw [h2])]
    · rw [if_neg h2, valV_neg (fun z => h2 (Sum.inr.inj z).symm)]
      by_cases h3 : s = c
      · rw [if_pos h3, valV_pos (by rw [h3])]
      · rw [if_neg h3, valV_neg (fun z => h3 (Sum.inr.inj z).symm)]
        rfl
section
variable {ga : Str → Addr} {X : Cx} {E : WX}
theorem px_dg3 {a b c : Str} {w1 w2 w3 we wd : DE} {v1 v2 v3 e d : Expr} {j1 j2 j3 : Nat} {p1 p2 p3 pos apos cpos : Pos} (hu : X.A.units + 64 < cLine) (h1 : PX ga X E v1 w1) (h2 : PX ga X E v2 w2) (h3 : PX ga X E v3 w3) (he : PX ga X E e we) (hd : PX ga X E d wd)
    (hab : a ≠ b := by decide +kernel) (hac : a ≠ c := by decide +kernel) (hbc : b ≠ c := by decide +kernel)
    (m : M2 X (.Dict [some (.Constant (.str a) j1 p1), some (.Constant (.str b) j2 p2), some (.Constant (.str c) j3 p3)] [v1, v2, v3] pos) "get" apos e d cpos := by exact ⟨rfl, rfl, rfl, rfl⟩) :
    PX ga X E (.Call (.Attribute (.Dict [some (.Constant (.str a) j1 p1), some (.Constant (.str b) j2 p2), some (.Constant (.str c) j3 p3)] [v1, v2, v3] pos) "get" apos) [e, d] [] cpos) (dg3W a b c w1 w2 w3 we wd) := by
  have i1 : ME w1 := ⟨h1.mono⟩
  have i2 : ME w2 := ⟨h2.mono⟩
  have i3 : ME w3 := ⟨h3.mono⟩
  have i4 : ME we := ⟨he.mono⟩
  have i5 : ME wd := ⟨hd.mono⟩
  refine ⟨ME.mono (w := dg3W a b c w1 w2 w3 we wd), ⟨fun pins s σ H Q I h => (pe_dget2 (by omega) (pe_disp (pps_cons pe_str h1.run (pps_cons pe_str h2.run (pps_cons pe_str h3.run pps_nil))) rfl rfl (by simp) (by simp)) he.run hd.run m).run pins s σ H Q I ?_⟩⟩
  obtain ⟨env, S, B, α, re, w, h⟩ := h
  intro D hD
  have s0 := w.extra (o := .dK []) hD
  have hB0 : B D = none := w.ex.free hD
  have hα0 : D ∉ α := fun z => by
    obtain ⟨u, hu⟩ := w.trk D z
    rw [hD] at hu; cases hu
  refine ⟨env, S, B, α, re.mono s0.bb s0.pre, s0.wd, h1.mono env S _ _ _ _ (fun x S1 q v1 H1 B1 α1 t1 r1 => ?_) (fun _ _ z => kxT.after s0 z) h⟩
  obtain ⟨d1, d2, d3⟩ := t1.away hB0 hα0 upd_same
  have s1 := s0.trans t1
  refine ⟨env, S1, B1, α1, re.mono s1.bb s1.pre, s1.wd, h2.mono env S1 _ _ _ _ (fun y S2 q v2 H2 B2 α2 t2 r2 => ?_) (fun _ _ z => kxT.after s1 z) q⟩
  obtain ⟨d1, d2, d3⟩ := t2.away d1 d2 d3
  have s2 := s1.trans t2
  refine ⟨env, S2, B2, α2, re.mono s2.bb s2.pre, s2.wd, h3.mono env S2 _ _ _ _ (fun z S3 q v3 H3 B3 α3 t3 r3 => ?_) (fun _ _ z => kxT.after s2 z) q⟩
  obtain ⟨d1, d2, d3⟩ := t3.away d1 d2 d3
  have s3 := s2.trans t3
  refine ⟨d3, [(Sum.inr a, v1), (Sum.inr b, v2), (Sum.inr c, v3)], rfl, by simp, D, rfl, .inl ⟨_, .inl upd_same⟩, ?_⟩
  have s4 := s3.mut (o := .dK (mergeK [] [(Sum.inr a, v1), (Sum.inr b, v2), (Sum.inr c, v3)])) hD d1 d2
  refine ⟨env, S3, B3, α3, re.mono s4.bb s4.pre, s4.wd, he.mono env S3 _ _ _ _ (fun q S4 ⟨s, es, h⟩ v4 H4 B4 α4 t4 r4 => ?_) (fun _ _ z => kxT.after s4 z) q⟩
  obtain ⟨d1, d2, d3⟩ := t4.away d1 d2 upd_same
  have s5 := s4.trans t4
  subst es
  cases r4
  refine ⟨env, S4, B4, α4, re.mono s5.bb s5.pre, s5.wd, hd.mono env S4 _ _ _ _ (fun u S5 h v5 H5 B5 α5 t5 r5 => ?_) (fun _ _ z => kxT.after s5 z) h⟩
  obtain ⟨d1, d2, d3⟩ := t5.away d1 d2 d3
  have s6 := s5.trans t5
  refine ⟨_, .inl ⟨_, .inr s, .inl d3, rfl, rfl⟩, ?_⟩
  rw [val3 hab hac hbc]
  have b5 : Same B3 B5 := t4.bb.trans t5.bb
  have p5 := (t4.trans t5).pre
  by_cases c1 : s = a
  · rw [if_pos c1] at h ⊢
    exact h _ _ _ _ s6 ((r1.mono t2.bb t2.pre).mono t3.bb t3.pre |>.mono b5 p5)
  · rw [if_neg c1] at h ⊢
    by_cases c2 : s = b
    · rw [if_pos c2] at h ⊢
      exact h _ _ _ _ s6 ((r2.mono t3.bb t3.pre).mono b5 p5)
    · rw [if_neg c2] at h ⊢
      by_cases c3 : s = c
      · rw [if_pos c3] at h ⊢
        exact h _ _ _ _ s6 (r3.mono b5 p5)
      · rw [if_neg c3] at h ⊢
        exact h _ _ _ _ s6 r5
end
end DW

set_option Elab.async false
set_option linter.all false
set_option maxRecDepth 100000
set_option maxHeartbeats 4000000
set_option autoImplicit false
/-! DS: several names on one line. -/
namespace DW
open PySem L2
def starB (vs : List Expr) : Bool := vs.any fun | .Starred .. => true | _ => false
theorem sw2 {x y : Str} {px py pt pt2 : Pos} {kt k2 : Nat} {a b : Expr} {env : Env} (hk : env.scope.kind = .function) (hx : env.scope.names.lookup x = some .local) (hy : env.scope.names.lookup y = some .local)
    (l1 : (py.line == px.line) = true) (hne : ([x, y] : List Str).eraseDups.length = 2) (h1 : starB [a, b] = false) (h2 : [a, b].all (foldedForSure 8) = false) (h3 : [a, b].all (constantsAlone 8) = false) :
    swappedStores [.Tuple [.Name x px, .Name y py] kt pt] (.Tuple [a, b] k2 pt2) env = pure (some [x, y]) := by
  have kx : env.kindOf x = some .local := hx
  have ky : env.kindOf y = some .local := hy
  have hb : env.blockKind = .function := by unfold Env.blockKind; rw [hk]; rfl
  have l1 : py.line = px.line := eq_of_beq l1
  unfold swappedStores
  simp only [hb]
  refine (if_neg (fun h => Bool.noConfusion (show false = true from h))).trans ?_
  refine (if_neg (fun h => Bool.noConfusion (h1.symm.trans h))).trans ?_
  simp only [h2, h3]
  have hn : ∀ f : Expr → Option Str, f (.Name x px) = some x → f (.Name y py) = some y → ([.Name x px, .Name y py] : List Expr).filterMap f = [x, y] := fun f e1 e2 => by simp [List.filterMap, e1, e2]
  rw [hn _ (by show (if (env.kindOf x == some NameKind.local && px.line == px.line) = true then some x else none) = some x; rw [kx]; simp) (by show (if (env.kindOf y == some NameKind.local && py.line == px.line) = true then some y else none) = some y; rw [ky, l1]; simp)]
  refine (if_neg (fun h => by rw [hne] at h; exact Bool.noConfusion (show false = true from h))).trans ?_
  rfl
theorem sw3 {x y z : Str} {px py pz pt pt2 : Pos} {kt k2 : Nat} {a b c : Expr} {env : Env} (hk : env.scope.kind = .function) (hx : env.scope.names.lookup x = some .local) (hy : env.scope.names.lookup y = some .local) (hz : env.scope.names.lookup z = some .local)
    (l1 : (py.line == px.line) = true) (l2 : (pz.line == px.line) = true) (hne : ([x, y, z] : List Str).eraseDups.length = 3) (h1 : starB [a, b, c] = false) (h2 : [a, b, c].all (foldedForSure 8) = false) (h3 : [a, b, c].all (constantsAlone 8) = false) :
    swappedStores [.Tuple [.Name x px, .Name y py, .Name z pz] kt pt] (.Tuple [a, b, c] k2 pt2) env = pure (some [x, y, z]) := by
  have kx : env.kindOf x = some .local := hx
  have ky : env.kindOf y = some .local := hy
  have kz : env.kindOf z = some .local := hz
  have hb : env.blockKind = .function := by unfold Env.blockKind; rw [hk]; rfl
  have l1 : py.line = px.line := eq_of_beq l1
  have l2 : pz.line = px.line := eq_of_beq l2
  unfold swappedStores
  simp only [hb]
  refine (if_neg (fun h => Bool.noConfusion (show false = true from h))).trans ?_
  refine (if_neg (fun h => Bool.noConfusion (h1.symm.trans h))).trans ?_
  simp only [h2, h3]
  have hn : ∀ f : Expr → Option Str, f (.Name x px) = some x → f (.Name y py) = some y → f (.Name z pz) = some z → ([.Name x px, .Name y py, .Name z pz] : List Expr).filterMap f = [x, y, z] := fun f e1 e2 e3 => by simp [List.filterMap, e1, e2, e3]
  rw [hn _ (by show (if (env.kindOf x == some NameKind.local && px.line == px.line) = true then some x else none) = some x; rw [kx]; simp) (by show (if (env.kindOf y == some NameKind.local && py.line == px.line) = true then some y else none) = some y; rw [ky, l1]; simp) (by show (if (env.kindOf z == some NameKind.local && pz.line == px.line) = true then some z else none) = some z; rw [kz, l2]; simp)]
  refine (if_neg (fun h => by rw [hne] at h; exact Bool.noConfusion (show false = true from h))).trans ?_
  rfl
theorem swn {ts vs : List Expr} {pt pt2 : Pos} {kt k2 : Nat} {env : Env} (h : vs.all (foldedForSure 8) = true) : swappedStores [.Tuple ts kt pt] (.Tuple vs k2 pt2) env = pure none := by
  unfold swappedStores
  simp only [h]
  split
  · rfl
  split
  · rfl
  split
  · rfl
  exact if_pos trivial
def fnB (sc : Scope) : Bool := match sc.kind with
  | .function => true
  | _ => false
theorem fnB_ok {sc : Scope} (h : fnB sc = true) : sc.kind = .function := by
  unfold fnB at h
  cases q : sc.kind <;> rw [q] at h <;> first | rfl | cases h
section
variable {ga : Str → Addr} {X : Cx} {E : WX} {N : List Str} {sc : Scope} {k : Nat} {x : Str} {pos : Pos}
theorem zpar2 {a b : Expr} {wA : DA} {i j : Nat} {y : Str} {px py pt : Pos} {kt k2 pt2} (n : Nf X N sc) (c : Ctx X E k) (ha : PXA ga X E [a, b] wA) (hx : llB N sc i x = true := by decide +kernel) (hy : llB N sc j y = true := by decide +kernel) (hij : i ≠ j := by decide)
    (hf : fnB sc = true := by decide +kernel) (l1 : (py.line == px.line) = true := by decide +kernel) (hne : ([x, y] : List Str).eraseDups.length = 2 := by decide +kernel) (h1 : starB [a, b] = false := by decide +kernel) (h2 : [a, b].all (foldedForSure 8) = false := by decide +kernel) (h3 : [a, b].all (constantsAlone 8) = false := by decide +kernel)
    (hs : swapsWithSole [.Tuple [.Name x px, .Name y py] kt pt] (.Tuple [a, b] k2 pt2) pos.line X.env = pure false := by rfl) :
    PXS ga X E (.Assign [.Tuple [.Name x px, .Name y py] kt pt] (.Tuple [a, b] k2 pt2) pos) (par2S i j wA) :=
  ypar2 n c ha hx hy hij (sw2 (by rw [n.hs]; exact fnB_ok hf) (llB_ok n.toNm hx).2 (llB_ok n.toNm hy).2 l1 hne h1 h2 h3) hs
theorem zpar3 {a b d : Expr} {wA : DA} {i j l : Nat} {y z : Str} {px py pz pt : Pos} {kt k2 pt2} (n : Nf X N sc) (c : Ctx X E k) (ha : PXA ga X E [a, b, d] wA) (hx : llB N sc i x = true := by decide +kernel) (hy : llB N sc j y = true := by decide +kernel) (hz : llB N sc l z = true := by decide +kernel) (hij : i ≠ j := by decide) (hil : i ≠ l := by decide) (hjl : j ≠ l := by decide)
    (hf : fnB sc = true := by decide +kernel) (l1 : (py.line == px.line) = true := by decide +kernel) (l2 : (pz.line == px.line) = true := by decide +kernel) (hne : ([x, y, z] : List Str).eraseDups.length = 3 := by decide +kernel) (h1 : starB [a, b, d] = false := by decide +kernel) (h2 : [a, b, d].all (foldedForSure 8) = false := by decide +kernel) (h3 : [a, b, d].all (constantsAlone 8) = false := by decide +kernel)
    (hs : swapsWithSole [.Tuple [.Name x px, .Name y py, .Name z pz] kt pt] (.Tuple [a, b, d] k2 pt2) pos.line X.env = pure false := by rfl) :
    PXS ga X E (.Assign [.Tuple [.Name x px, .Name y py, .Name z pz] kt pt] (.Tuple [a, b, d] k2 pt2) pos) (par3S i j l wA) :=
  ypar3 n c ha hx hy hz hij hil hjl (sw3 (by rw [n.hs]; exact fnB_ok hf) (llB_ok n.toNm hx).2 (llB_ok n.toNm hy).2 (llB_ok n.toNm hz).2 l1 l2 hne h1 h2 h3) hs
end
end DW

set_option Elab.async false
set_option linter.all false
set_option maxRecDepth 100000
set_option maxHeartbeats 4000000
set_option autoImplicit false
/-! DI: is, is not, of truth values. -/
namespace DW
open PySem L2
def isBD : DV → DV → Sto → Option DV
  | .d (.bool a), .d (.bool b), _ => some (.d (.bool (decide (a = b))))
  | _, _, _ => none
def isnBD : DV → DV → Sto → Option DV
  | .d (.bool a), .d (.bool b), _ => some (.d (.bool (!decide (a = b))))
  | _, _, _ => none
theorem o_isB {K : PySem.W.Frag} : Op2 K (fun x y H Q => ∃ a b, x = .bl a ∧ y = .bl b ∧ Q (.bl (decide (a = b))) H) isBD := by
  intro B α S H vx vy x y z w rx ry e Q h
  unfold isBD at e
  split at e
  · cases e; cases ry; cases rx
    exact ⟨_, _, rfl, rfl, kv_same w (.bl _) h⟩
  · cases e
theorem o_isnB {K : PySem.W.Frag} : Op2 K (fun x y H Q => ∃ a b, x = .bl a ∧ y = .bl b ∧ Q (.bl (!decide (a = b))) H) isnBD := by
  intro B α S H vx vy x y z w rx ry e Q h
  unfold isnBD at e
  split at e
  · cases e; cases ry; cases rx
    exact ⟨_, _, rfl, rfl, kv_same w (.bl _) h⟩
  · cases e
section
variable {ga : Str → Addr} {X : Cx} {E : WX} {a b : Expr} {wa wb : DE} {pos : Pos}
theorem px_isB (ha : PX ga X E a wa) (hb : PX ga X E b wb) : PX ga X E (.Compare a [.Is] [b] pos) (op2W isBD wa wb) := px_cmp op_is_bl o_isB ha hb (nomark _)
theorem px_isnotB (ha : PX ga X E a wa) (hb : PX ga X E b wb) : PX ga X E (.Compare a [.IsNot] [b] pos) (op2W isnBD wa wb) := px_cmp op_isnot_bl o_isnB ha hb (nomark _)
theorem pxt_isB (ha : PX ga X E a wa) (hb : PX ga X E b wb) : PXT ga X E (.Compare a [.Is] [b] pos) (testW (op2W isBD wa wb)) := pxt_cmp op_is_bl o_isB ha hb (nomark _)
theorem pxt_isnotB (ha : PX ga X E a wa) (hb : PX ga X E b wb) : PXT ga X E (.Compare a [.IsNot] [b] pos) (testW (op2W isnBD wa wb)) := pxt_cmp op_isnot_bl o_isnB ha hb (nomark _)
end
end DW

set_option Elab.async false
set_option linter.all false
set_option maxRecDepth 100000
set_option maxHeartbeats 4000000
set_option autoImplicit false
/-! DR: .replace of written texts, behind a written text. -/
namespace DW
open PySem L2 CwR
structure PXeT (ga : Str → Addr) (X : Cx) (E : WX) (e : Expr) (w : DE) : Prop where
  mono : MonoE w
  run : PET X e (eT X.K ga E w)
structure PXaT (ga : Str → Addr) (X : Cx) (E : WX) (es : List Expr) (w : DA) : Prop where
  mono : MonoA w
  run : PAT X es (aT X.K ga E w)
structure PXsT (ga : Str → Addr) (X : Cx) (E : WX) (st : Stmt) (w : DS) : Prop where
  mono : MonoS w
  run : PST X st (sT X.K ga E w)
structure PXbT (ga : Str → Addr) (X : Cx) (E : WX) (sts : List Stmt) (w : DS) : Prop where
  mono : MonoS w
  run : PSsT X sts (sT X.K ga E w)
def replW (y z : Str) (wo : DE) : DE := fun env S k kx => wo env S (fun x S1 => ∃ a, x = .d (.str a) ∧ a.length + (a.length + 1) * z.length ≤ 16777216 ∧ k (.d (.str (Txt.replace a y z))) S1) kx
instance {y z : Str} {a : DE} [ME a] : ME (replW y z a) := ⟨fun env S k k' x x' hk hx h => ME.mono (w := a) env S _ _ _ _ (fun y S1 ⟨z, e, l, h1⟩ => ⟨z, e, l, hk _ _ h1⟩) hx h⟩
instance {y z : Str} {a : DE} [ME a] [QE a] : QE (replW y z a) := ⟨fun env S k kx => QE.b a env S (fun x S1 => strB x fun s => Nat.ble (s.length + (s.length + 1) * z.length) 16777216 && k (.d (.str (Txt.replace s y z))) S1) kx,
  fun env S k kx h => ME.mono (w := a) _ _ _ _ _ _ (fun x S1 h1 => (strB_ok h1).imp fun s q => ⟨q.1, leB q.2⟩) (id_x kx) (QE.ok (w := a) _ _ _ _ h)⟩
section
variable {ga : Str → Addr} {X : Cx} {E : WX} {a b e o : Expr} {es : List Expr} {rest : List Stmt} {wa wb we wo : DE} {wA : DA} {pos : Pos} {st : Stmt} {sts : List Stmt} {ws wt : DS} {N : List Str} {sc : Scope}
theorem PXeT.of (h : PX ga X E e we) : PXeT ga X E e we := ⟨h.mono, PET.of h.run⟩
theorem PXsT.of (h : PXS ga X E st ws) : PXsT ga X E st ws := ⟨h.mono, PST.of h.run⟩
theorem tx_repl {y z : Str} {j k : Nat} {c0 c1 apos : Pos} (ho : PX ga X E o wo) (hyz : (y == z) = false := by decide +kernel)
    (hst : starEach [.Constant (.str y) j c0, .Constant (.str z) k c1] X.env = [(false, eval (.Constant (.str y) j c0) X.env), (false, eval (.Constant (.str z) k c1) X.env)] := by rfl)
    (hbase : attributeBase o "replace" X.env (eval o X.env) = eval o X.env := by rfl) (hline : (apos.endLine == pos.line) = true := by rfl) :
    PXeT ga X E (.Call (.Attribute o "replace" apos) [.Constant (.str y) j c0, .Constant (.str z) k c1] [] pos) (replW y z wo) := by
  refine ⟨fun env S k k' x x' hk hx h => ho.mono env S _ _ _ _ (fun y S1 ⟨z, e, l, h1⟩ => ⟨z, e, l, hk _ _ h1⟩) hx h, fun pins s σ H Q h0 I h => pet_replC ho.run hyz hst hbase hline pins s σ H Q h0 I ?_⟩
  obtain ⟨env, S, B, α, re, w, h⟩ := h
  refine ⟨env, S, B, α, re, w, ho.mono env S _ _ _ _ (fun x S1 ⟨a, e, l, h1⟩ v1 H1 B1 α1 s1 r1 => ?_) (fun _ _ z => z) h⟩
  subst e
  cases r1
  exact ⟨a, rfl, l, kv_same s1.wd (.str _) (kvT.after s1 h1)⟩
theorem tx_add (ha : PXeT ga X E a wa) (hb : PXeT ga X E b wb) : PXeT ga X E (.BinOp a .Add b pos) (op2W addD wa wb) :=
  ⟨mono2 ha.mono hb.mono, fun pins s σ H Q h0 I h => pet_op ((op_add.or op_add_str).or (op_catA.or op_cat)) ha.run hb.run pins s σ H Q h0 I (run2 o_add ha.mono hb.mono h)⟩
theorem ta_nil : PXaT ga X E [] nilA := by
  refine ⟨(pxa_nil (ga := ga) (X := X) (E := E)).mono, fun pos pins s σ H Q h0 I h => pat_nil pos pins s σ H Q h0 I ?_⟩
  obtain ⟨env, S, B, α, re, w, h⟩ := h
  exact h [] H B α (Stp.refl w) .nil
theorem ta_cons {r : List Expr} (ha : PXeT ga X E a wa) (hr : PXaT ga X E r wA) (hs : starEach (a :: r) X.env = (false, eval a X.env) :: starEach r X.env := by rfl) : PXaT ga X E (a :: r) (consA wa wA) := by
  refine ⟨fun env S k k' x x' hk hx h => ha.mono env S _ _ _ _ (fun y S1 h1 => hr.mono env S1 _ _ _ _ (fun ys S2 h2 => hk _ _ h2) hx h1) hx h, fun pos pins s σ H Q h0 I h => pat_cons ha.run hr.run hs pos pins s σ H Q h0 I ?_⟩
  obtain ⟨env, S, B, α, re, w, h⟩ := h
  refine ⟨env, S, B, α, re, w, ha.mono env S _ _ _ _ (fun y S1 h1 v1 H1 B1 α1 s1 r1 => ?_) (fun _ _ z => z) h⟩
  refine ⟨env, S1, B1, α1, re.mono s1.bb s1.pre, s1.wd, hr.mono env S1 _ _ _ _ (fun ys S2 h2 vs H2 B2 α2 s2 r2 => ?_) (fun _ _ z => kxT.after s1 z) h1⟩
  exact h2 _ _ _ _ (s1.trans s2) (.cons (r1.mono s2.bb s2.pre) r2)
theorem tx_lst (h : PXaT ga X E es wA) : PXeT ga X E (.List es pos) (lstW wA) := by
  refine ⟨fun env S k k' x x' hk hx h' => h.mono env S _ _ _ _ (fun y S1 ⟨ds, e1, e2, h1⟩ => ⟨ds, e1, e2, hk _ _ h1⟩) hx h', fun pins s σ H Q h0 I h' => pet_lst h.run pins s σ H Q h0 I ?_⟩
  obtain ⟨env, S, B, α, re, w, h'⟩ := h'
  refine ⟨env, S, B, α, re, w, h.mono env S _ _ _ _ (fun xs S1 ⟨ds, e1, e2, h1⟩ vs H1 B1 α1 s1 r1 => ?_) (fun _ _ z => z) h'⟩
  have q := VRs.pure r1 e1
  exact ⟨Nat.le_trans (by rw [q.len]; exact e2) (by decide), fun p hp => kv_lst s1.wd hp q (kvT.after s1 h1)⟩
theorem ts_set {i : Nat} {x : Str} {p' : Pos} (n : Nf X N sc) (he : PXeT ga X E e we) (h : lB N sc i x = true := by decide +kernel) (hs : swapsWith e (some (.Name x p')) pos.line X.env = pure false := by rfl) : PXsT ga X E (.Assign [.Name x p'] e pos) (asgS i we) := by
  obtain ⟨h1, h2⟩ := lB_ok n.toNm h
  have hf : X.fn x = true := by rw [n.fn]
  refine ⟨fun env S D D' h q => he.mono env S _ _ _ _ (fun _ _ z => h.nx _ _ z) (h.ex env) q, fun pins s σ H D h0 I h => ?_⟩
  obtain ⟨env, S, B, α, re, w, h⟩ := h
  refine wpAny_Assign_Name (thn (he.run pins s σ H (fun v H1 => D.nx (σ.set i (some v)) H1) h0 I ⟨env, S, B, α, re, w, he.mono env S _ _ _ _ (fun y S1 q v H1 B1 α1 s1 r1 => ?_) (fun _ _ z => kxS.at_ re z) h⟩) fun v s1 ⟨y, H1, I1, r1, q1⟩ => ?_) hs
  · exact q _ _ _ _ s1 ((re.mono s1.bb s1.pre).set i r1)
  · exact store_ok I1 n.nd h1 h2 r1 (fun s2 I2 => ⟨_, H1, I2, q1⟩) (.inl hf)
theorem tb_nil : PXbT ga X E [] nextS := ⟨(pxb_nil (ga := ga) (X := X) (E := E)).mono, PSsT.of (pxb_nil (ga := ga) (X := X) (E := E)).run⟩
theorem tb_cons (h1 : PXsT ga X E st ws) (h2 : PXbT ga X E rest wt) : PXbT ga X E (st :: rest) (seqS ws wt) := by
  refine ⟨monoSeq h1.mono h2.mono, fun pins s σ H D h0 I h => psst_cons h1.run h2.run pins s σ H D h0 I ?_⟩
  obtain ⟨env, S, B, α, re, w, h⟩ := h
  refine ⟨env, S, B, α, re, w, h1.mono env S { dT X.K ga B α H E D with nx := fun e' S' => wt e' S' (dT X.K ga B α H E D) } _ ⟨fun env1 S1 q σ1 H1 B1 α1 s1 r1 => ?_, fun _ _ z => z, fun _ _ z => z, fun _ _ z => z, fun _ _ _ z => z⟩ h⟩
  exact ⟨env1, S1, B1, α1, r1, s1.wd, h2.mono env1 S1 _ _ (dT.after s1) q⟩
/-- a written text is named; behind it tokens are out -/
theorem tb_str {i j : Nat} {x c : Str} {cpos p' : Pos} (n : Nf X N sc) (h2 : PXbT ga X E rest wt) (h : lB N sc i x = true := by decide +kernel) (hs : swapsWith (.Constant (.str c) j cpos) (some (.Name x p')) pos.line X.env = pure false := by rfl) :
    PXB ga X E (.Assign [.Name x p'] (.Constant (.str c) j cpos) pos :: rest) (seqS (asgS i (cW (.str c))) wt) := by
  obtain ⟨g1, g2⟩ := lB_ok n.toNm h
  have m1 : MonoS (asgS i (cW (.str c))) := MS.mono
  refine ⟨monoSeq m1 h2.mono, ⟨fun pins s σ H D I h => (pss_str n.nd g1 g2 h2.run hs (.inl (by rw [n.fn]))).run pins s σ H D I ?_⟩⟩
  obtain ⟨env, S, B, α, re, w, h⟩ := h
  exact ⟨env.set i (some (.d (.str c))), S, B, α, re.set i (.str c), w, h2.mono _ _ _ _ ⟨fun _ _ z => z, fun _ _ z => z, fun _ _ z => z, fun _ _ z => z, fun _ _ _ z => z⟩ h⟩
end
end DW

set_option Elab.async false
set_option linter.all false
set_option maxRecDepth 100000
set_option maxHeartbeats 4000000
set_option autoImplicit false
/-! DX5: several names on one line, one of them a cell. -/
namespace DW
open PySem L2
def cellB (sc : Scope) (x : Str) : Bool := decide (sc.names.lookup x ≠ some .local)
theorem swc {x y : Str} {px py pt pt2 : Pos} {kt k2 : Nat} {vs : List Expr} {env : Env} (h : env.scope.names.lookup x ≠ some .local ∨ env.scope.names.lookup y ≠ some .local) :
    swappedStores [.Tuple [.Name x px, .Name y py] kt pt] (.Tuple vs k2 pt2) env = pure none := by
  have key : ∀ f : Expr → Option Str, (∀ z p, f (.Name z p) = some z → env.kindOf z = some .local) → (∀ z p, f (.Name z p) = none ∨ f (.Name z p) = some z) → ((([.Name x px, .Name y py] : List Expr).filterMap f).length != ([.Name x px, .Name y py] : List Expr).length) = true := by
    intro f hf hg
    rcases hg x px with e1 | e1 <;> rcases hg y py with e2 | e2
    · simp [List.filterMap, e1, e2]
    · simp [List.filterMap, e1, e2]
    · simp [List.filterMap, e1, e2]
    · rcases h with h | h
      · exact absurd (hf _ _ e1) h
      · exact absurd (hf _ _ e2) h
  unfold swappedStores
  dsimp only
  split
  · rfl
  split
  · rfl
  rw [if_pos]
  · rw [Bool.or_eq_true]
    refine .inl (key _ (fun z p e => ?_) fun z p => ?_)
    · have e' : (if (env.kindOf z == some NameKind.local && p.line == ((([Expr.Name x px, Expr.Name y py] : List Expr).head?.map (·.pos.line)).getD 0)) = true then some z else none) = some z := e
      split at e'
      · rename_i h1
        simp at h1
        exact h1.1
      · cases e'
    · show (if (env.kindOf z == some NameKind.local && p.line == ((([Expr.Name x px, Expr.Name y py] : List Expr).head?.map (·.pos.line)).getD 0)) = true then some z else none) = none ∨ (if (env.kindOf z == some NameKind.local && p.line == ((([Expr.Name x px, Expr.Name y py] : List Expr).head?.map (·.pos.line)).getD 0)) = true then some z else none) = some z
      split
      · exact .inr rfl
      · exact .inl rfl
theorem swcB {X : Cx} {N : List Str} {sc : Scope} (n : Nm X N sc) {x y : Str} {px py pt pt2 : Pos} {kt k2 : Nat} {vs : List Expr} (h : (cellB sc x || cellB sc y) = true) : swappedStores [.Tuple [.Name x px, .Name y py] kt pt] (.Tuple vs k2 pt2) X.env = pure none := by
  refine swc ?_
  rw [n.hs]
  rcases Bool.or_eq_true_iff.mp h with h | h
  · exact .inl (of_decide_eq_true h)
  · exact .inr (of_decide_eq_true h)
end DW

set_option Elab.async false
set_option linter.all false
set_option maxRecDepth 100000
set_option maxHeartbeats 4000000
set_option autoImplicit false
/-! DM2: branches by numbers and texts, indexes. -/
namespace DW
open PySem L2
theorem r_eqi {a b : Int} {A B : Prop} (h1 : a = b → A) (h2 : a ≠ b → B) : if (PyData.eqv (.int a) (.int b)) = true then A else B := by
  show if (a == b) = true then A else B
  by_cases h : a = b
  · rw [if_pos (by simp [h])]; exact h1 h
  · rw [if_neg (by simp [h])]; exact h2 h
theorem r_eqs {a b : Str} {A B : Prop} (h1 : a = b → A) (h2 : a ≠ b → B) : if (PyData.eqv (.str a) (.str b)) = true then A else B := by
  show if (a == b) = true then A else B
  by_cases h : a = b
  · rw [if_pos (by simp [h])]; exact h1 h
  · rw [if_neg (by simp [h])]; exact h2 h
theorem ix_ps {ps : List Int} {i : Int} {S : Sto} (h0 : 0 ≤ i) (h1 : i < ps.length) : ixD (.d (.tuple (ps.map .int))) (.d (.int i)) S = some (.d (.int (ps.getD i.toNat 0))) := by
  show (atI (ps.map PyData.int) i).map DV.d = _
  rw [atI_ok h0 (by simpa using h1), List.getElem?_map, List.getElem?_eq_getElem (by omega), List.getD_eq_getElem?_getD, List.getElem?_eq_getElem (by omega)]
  rfl
theorem addT_ok {xs ys : List PyData} {S : Sto} (h : xs.length + ys.length ≤ 1000000) : addD (.d (.tuple xs)) (.d (.tuple ys)) S = some (.d (.tuple (xs ++ ys))) := by unfold addD; exact if_pos h
theorem addL_ok {xs ys : List PyData} {S : Sto} (h : xs.length + ys.length ≤ 1000000) : addD (.d (.list xs)) (.d (.list ys)) S = some (.d (.list (xs ++ ys))) := by unfold addD; exact if_pos h
theorem shS {x : Str} (h : PyData.strOk x = true) : SeqAt.shaped (.str x) = true := by
  show (PyData.strOk x && decide ((0 : Nat) ≤ 64)) = true
  rw [h]
  rfl
theorem eqS_ok {x y : Str} {S : Sto} (h : PyData.strOk x = true) (h2 : PyData.strOk y = true) : eqD (.d (.str x)) (.d (.str y)) S = some (.d (.bool (PyData.eqv (.str x) (.str y)))) := by
  show (if SeqAt.shaped (.str x) = true ∧ SeqAt.shaped (.str y) = true then _ else _) = _
  exact if_pos ⟨shS h, shS h2⟩
theorem lenP_ok {ps : List Int} {S : Sto} : lenD [.d (.tuple (ps.map .int))] S = some (.d (.int ps.length)) := by
  show some (DV.d (.int ((ps.map PyData.int).length : Nat))) = _
  rw [List.length_map]
theorem lenT_ok {ds : List PyData} {S : Sto} : lenD [.d (.tuple ds)] S = some (.d (.int ds.length)) := rfl
theorem lenL_ok {ds : List PyData} {S : Sto} : lenD [.d (.list ds)] S = some (.d (.int ds.length)) := rfl
end DW

set_option Elab.async false
set_option linter.all false
set_option maxRecDepth 100000
set_option maxHeartbeats 4000000
set_option autoImplicit false
/-! DX6: comprehensions by what each turn gives. -/
namespace DW
open PySem L2
theorem lc_gen {α : Type} {b : DB} {tt : DT} {te : DE} [MT tt] [ME te] {env0 : DEnv} {S : Sto} (keep : α → Bool) (f : α → DV) (g : α → PyData) : ∀ (xs : List α) (acc : List PyData) (kk : List PyData → Sto → Prop),
    (∀ a ∈ xs, ∃ env1, b (f a) env0 = some env1 ∧ tt env1 S (fun c S2 => c = keep a ∧ S2 = S ∧ (keep a = true → te env1 S (fun y S3 => y = .d (g a) ∧ S3 = S) F0)) F0) → xs.length + acc.length ≤ 1000000 →
    kk (acc ++ (xs.filter keep).map g) S → lcL b tt te env0 (xs.map f) acc S kk
  | [], acc, kk, _, _, h => by simpa [lcL] using h
  | x :: r, acc, kk, hs, hl, h => by
    obtain ⟨env1, e1, h1⟩ := hs x List.mem_cons_self
    refine ⟨env1, e1, MT.mono (w := tt) _ _ _ _ _ _ (fun c S2 z => ?_) (fun _ _ z => z) h1⟩
    obtain ⟨rfl, rfl, h2⟩ := z
    simp only [List.length_cons] at hl
    cases hk : keep x with
    | true =>
      rw [if_pos rfl]
      refine ME.mono (w := te) _ _ _ _ _ _ (fun y S3 z => ?_) (fun _ _ z => z) (h2 hk)
      obtain ⟨rfl, rfl⟩ := z
      refine ⟨_, rfl, by omega, ?_⟩
      refine lc_gen keep f g r _ kk (fun a ha => hs a (List.mem_cons_of_mem _ ha)) (by simp; omega) ?_
      simpa [List.filter_cons, hk] using h
    | false =>
      rw [if_neg (by simp)]
      refine lc_gen keep f g r _ kk (fun a ha => hs a (List.mem_cons_of_mem _ ha)) (by omega) ?_
      simpa [List.filter_cons, hk] using h
/-- .. without a test -/
theorem lc_all {α : Type} {b : DB} {te : DE} [ME te] {env0 : DEnv} {S : Sto} (f : α → DV) (g : α → PyData) (xs : List α) (acc : List PyData) (kk : List PyData → Sto → Prop)
    (hs : ∀ a ∈ xs, ∃ env1, b (f a) env0 = some env1 ∧ te env1 S (fun y S3 => y = .d (g a) ∧ S3 = S) F0) (hl : xs.length + acc.length ≤ 1000000)
    (h : kk (acc ++ xs.map g) S) : lcL b yesT te env0 (xs.map f) acc S kk := by
  refine lc_gen (fun _ => true) f g xs acc kk (fun a ha => ?_) hl (by rw [List.filter_eq_self.mpr fun _ _ => rfl]; exact h)
  obtain ⟨env1, e1, h1⟩ := hs a ha
  exact ⟨env1, e1, rfl, rfl, fun _ => h1⟩
theorem intsD_ok : ∀ l : List Int, intsD (l.map .int) = some l
  | [] => rfl
  | x :: l => by
    show (intsD (l.map .int)).map (x :: ·) = _
    rw [intsD_ok l]
    rfl
theorem minL_ok {l : List Int} {S : Sto} (h : l ≠ []) : minLD [.d (.list (l.map .int))] S = some (.d (.int (minI l))) := by
  obtain ⟨a, r, rfl⟩ := List.exists_cons_of_ne_nil h
  show (match intsD ((a :: r).map PyData.int) with
    | some (n :: ns) => some (DV.d (.int (minI (n :: ns))))
    | _ => none) = _
  rw [intsD_ok]
theorem get_last2 {S : Sto} {o o' : SO} : ((S ++ [o]) ++ [o'])[S.length]? = some o := by
  rw [List.append_assoc, List.getElem?_append_right (Nat.le_refl _)]
  simp
theorem set_last2 {S : Sto} {o o' o'' : SO} : ((S ++ [o]) ++ [o']).set S.length o'' = (S ++ [o'']) ++ [o'] := by
  rw [List.append_assoc, List.set_append_right _ _ (Nat.le_refl _)]
  simp
end DW

set_option Elab.async false
set_option linter.all false
set_option maxRecDepth 100000
set_option maxHeartbeats 4000000
set_option autoImplicit false
/-! DX7: len of a dict, a list backwards, pop, a list of the store by *, a dict's place as a target, a dict of lists becomes pure. -/
namespace DW
open PySem PySem.W PySem.Calls PyProof.Rows PySem.Spec L2
theorem len_raw {prog : Program} {w : World} {A : Around} {E : Value → Shared → Prop} {s : Shared} {d : Addr} {es : Array DictEntry} {ep : Nat} {Q : Value → Shared → Prop} (hd : (d == sysModules) = false) (hm : s.heap.DictRaw d es ep) (hfit : (es.size : Int) < 2 ^ 63)
    (h : Q (.int es.size (s.toks + 1)) { s with toks := s.toks + 1 + 1 }) : wpAny (model prog w) A (Builtin.«len» ⟨[.ref d], []⟩) (fun fin s' => ∃ r, fin = .done (.ret r) ∧ Q r s') E s := by
  unfold Builtin.«len»
  refine wpAny_bind (m := oneArg "len" _) (wpAny_pure ?_)
  refine wpAny_bind (m := callSpecial? (.ref d) (Str.ofString "__len__")) (wpAny_callSpecial?_slot (name := Str.ofString "__len__") hm.typeIs PySem.F.slot_dict_len (call_len_raw hd hm ?_))
  show wpAny _ _ _ _ _ { s with toks := s.toks + 1 }
  refine wpAny_bind (wpAny_holding (wpAny_pure ?_))
  refine wpAny_bind (wpAny_letGo ?_)
  show wpAny _ _ (if ((es.size : Nat) : Int) < 0 then _ else _) _ _ _
  rw [if_neg (by omega)]
  show wpAny _ _ (if ((es.size : Nat) : Int) ≥ 2 ^ 63 then _ else _) _ _ _
  rw [if_neg (by omega)]
  exact wpAny_bind (wpAny_mkInt (wpAny_pure ⟨_, rfl, h⟩))
def rLenN : List V → Hp → VK → Prop := fun xs H Q => ∃ a o zs, xs = [.ref a] ∧ H a = some (pin a o) ∧ IsDict a o zs ∧ Q (.int zs.length) H
theorem call_lenN {X : Cx} : CallR X (.builtin "len") rLenN := by
  intro pins s σ H xs us Q I r h
  obtain ⟨a, o, zs, rfl, ha, is, q⟩ := h
  obtain ⟨u, rfl, ru⟩ := vals1 r
  cases ru
  obtain ⟨es, ep, hdt, hm, hsz, _⟩ := is.raw (pin_at I ha)
  have hz := is.sz
  rw [sizeLine_eq] at hz
  refine Calls.call_function_entry kind_len plain_len entry_len (args_len1 _) (len_raw is.sm hm (by omega) ?_)
  rw [hsz]
  exact ⟨.int zs.length, H, I.tok _, ⟨_, rfl⟩, q⟩
end DW
namespace DW
open PySem L2
def lenM : List DV → Sto → Option DV
  | [.m kvs], _ => some (.d (.int kvs.length))
  | _, _ => none
theorem n_lenM {K : PySem.W.Frag} : OpN K rLenN lenM := by
  intro B α S H vs xs z w r e Q h
  unfold lenM at e
  split at e
  · cases e
    obtain ⟨v, rfl, a, o, zs, rfl, h2, h3, h4⟩ := vr1 r
    refine ⟨a, o, zs, rfl, w.ex _ _ h2, h3, ?_⟩
    rw [Paired.length h4]
    exact kv_same w (.int _) h
  · cases e
theorem DqAll.rev {K : PySem.W.Frag} {B : Hp} : ∀ {vs : List V} {ds : List PyData}, DqAll K B vs ds → DqAll K B vs.reverse ds.reverse
  | _, _, .nil => .nil
  | _, _, .cons h r => by
    rw [List.reverse_cons, List.reverse_cons]
    exact DqAll.append r.rev (.cons h .nil)
theorem vrs_d {K : PySem.W.Frag} {B : Hp} {α : List Addr} : ∀ {vs : List V} {ds : List PyData}, DqAll K B vs ds → VRs K B α vs (ds.map .d)
  | _, _, .nil => .nil
  | _, _, .cons h r => .cons h (vrs_d r)
def revD : DV → Sto → Option DV
  | .d (.list ds), _ => some (.d (.list ds.reverse))
  | _, _ => none
def mulNW (wa wb : DE) : DE := fun env S k kx => wa env S (fun x S1 => wb env S1 (fun y S2 => ∃ ds n, x = .d (.list ds) ∧ y = .d (.int n) ∧ 0 ≤ n ∧ n ≤ 1 ∧ ds.length ≤ 1000 ∧ k (.p S2.length) (S2 ++ [.lst (if n = 0 then [] else ds.map .d)])) kx) kx
def dsubG (wd wk : DE) : DG := fun v env S k => wd env S (fun x S1 => wk env S1 (fun y S2 => ∃ S3, dput x y v S2 = some S3 ∧ k env S3) F0) F0
def coldAll : List (NestedKey × DV) → Sto → Option (List (NestedKey × PyData) × Sto)
  | [], S => some ([], S)
  | (k, .d x) :: r, S => (coldAll r S).map fun z => ((k, x) :: z.1, z.2)
  | (k, .p n) :: r, S => (match S[n]? with
    | some (.lst xs) => (match pures xs with
      | some ds => (coldAll r (S.set n .gone)).map fun z => ((k, .list ds) :: z.1, z.2)
      | none => none)
    | _ => none)
  | _ :: _, _ => none
def coldTS (i : Nat) (w : DS) : DS := fun env S D => ∃ n kvs ms S1, env[i]? = some (some (.p n)) ∧ S[n]? = some (.dic kvs) ∧ coldAll kvs (S.set n .gone) = some (ms, S1) ∧ w (env.set i (some (.m ms))) S1 D
section
variable {ga : Str → Addr} {X : Cx} {E : WX} {a b c e o ie : Expr} {wa wb wc we wo wd wk wv wx : DE} {pos apos cpos p' tpos : Pos} {tg : Expr} {k : Nat}
theorem px_rev {k1 : Nat} {p1 p2 p3 : Pos} (he : PX ga X E e we) : PX ga X E (.Subscript e (.Slice none none (some (.UnaryOp .USub (.Constant (.int 1) k1 p1) p2)) p3) pos) (op1W revD we) := by
  refine ⟨fun env S k k' x x' hk hx h => he.mono env S _ _ _ _ (fun y S1 ⟨z, e, h1⟩ => ⟨z, e, hk _ _ h1⟩) hx h, ⟨fun pins s σ H Q I h => (pe_revL he.run).run pins s σ H Q I ?_⟩⟩
  obtain ⟨env, S, B, α, re, w, h⟩ := h
  refine ⟨env, S, B, α, re, w, he.mono env S _ _ _ _ (fun y S1 ⟨z, e, h1⟩ v1 H1 B1 α1 s1 r1 => ?_) (fun _ _ z => z) h⟩
  unfold revD at e
  split at e
  · cases e
    cases r1 with
    | lst h2 h3 => exact ⟨_, _, rfl, SqL.of (s1.wd.ex _ _ h2), fun p hp => kv_lst s1.wd hp h3.rev (kvT.after s1 h1)⟩
  · cases e
theorem px_pop (ho : PX ga X E o wo) (hbase : attributeBase o "pop" X.env (eval o X.env) = eval o X.env := by rfl) (hline : (apos.endLine == cpos.line) = true := by rfl) : PX ga X E (.Call (.Attribute o "pop" apos) [] [] cpos) (popW wo) := by
  refine ⟨fun env S k k' x x' hk hx h => ho.mono env S _ _ _ _ (fun y S1 ⟨n, xs, z, e1, e2, e3, h1⟩ => ⟨n, xs, z, e1, e2, e3, hk _ _ h1⟩) hx h, ⟨fun pins s σ H Q I h => (pe_bm0 PySem.F.plainAttrs_list PySem.F.slot_list_pop PySem.F.type_list_pop mt_pop ho.run hbase hline).run pins s σ H Q I ?_⟩⟩
  obtain ⟨env, S, B, α, re, w, h⟩ := h
  refine ⟨env, S, B, α, re, w, ho.mono env S _ _ _ _ (fun o' S1 ⟨n, xs, z, e1, e2, e3, h1⟩ v1 H1 B1 α1 s1 r1 => ?_) (fun _ _ z => z) h⟩
  subst e1
  obtain ⟨a, ha1, rfl⟩ := r1
  obtain ⟨a', f1, f2, vs1, f3, f4⟩ := s1.wd.obj n _ e2 (fun z => by cases z)
  rw [ha1] at f1; cases f1
  have hl := f4.len
  obtain ⟨y, hy, ry⟩ : ∃ y, vs1[xs.length - 1]? = some y ∧ VR X.K B1 α1 y z := by
    clear e2 h1 f3 hl
    generalize xs.length - 1 = j at e3
    induction f4 generalizing j with
    | nil => simp at e3
    | cons h r ih =>
      cases j with
      | zero => simp at e3; subst e3; exact ⟨_, rfl, h⟩
      | succ j => simpa using ih j (by simpa using e3)
  have hd : VRs X.K B1 α1 vs1.dropLast xs.dropLast := by
    clear e2 e3 h1 f3 hl hy
    induction f4 with
    | nil => exact .nil
    | cons h r ih =>
      cases r with
      | nil => exact .nil
      | cons h2 r2 => exact .cons h ih
  refine ⟨.inl ⟨rfl, vs1, SqL.of f3⟩, a, vs1, y, rfl, rfl, f3, by rw [hl]; exact hy, ?_⟩
  have s2 := s1.wd.change (o' := .lst xs.dropLast) (ho := .lst vs1.dropLast) e2 (fun z => by cases z) ha1 ⟨_, upd_same, hd⟩
  exact h1 _ _ _ _ (s1.trans s2) (ry.mono s2.bb s2.pre)
theorem px_mulN (ha : PX ga X E a wa) (hb : PX ga X E b wb) : PX ga X E (.BinOp a .Mult b pos) (mulNW wa wb) := by
  refine ⟨fun env S k k' x x' hk hx h => ha.mono env S _ _ _ _ (fun y S1 h1 => hb.mono env S1 _ _ _ _ (fun z S2 ⟨ds, n, e1, e2, e3, e4, e5, h2⟩ => ⟨ds, n, e1, e2, e3, e4, e5, hk _ _ h2⟩) hx h1) hx h, ⟨fun pins s σ H Q I h => (pe_op op_rep ha.run hb.run).run pins s σ H Q I ?_⟩⟩
  obtain ⟨env, S, B, α, re, w, h⟩ := h
  refine ⟨env, S, B, α, re, w, ha.mono env S _ _ _ _ (fun y S1 h1 v1 H1 B1 α1 s1 r1 => ?_) (fun _ _ z => z) h⟩
  refine ⟨env, S1, B1, α1, re.mono s1.bb s1.pre, s1.wd, hb.mono env S1 _ _ _ _ (fun z S2 ⟨ds, n, e1, e2, e3, e4, e5, h2⟩ v2 H2 B2 α2 s2 r2 => ?_) (fun _ _ z => kxT.after s1 z) h1⟩
  subst e1; subst e2
  cases r2
  cases r1 with
  | lst g1 g2 =>
    rename_i a1 xs1
    refine ⟨a1, n, xs1, rfl, rfl, s2.wd.ex _ _ (s2.bb _ _ g1), by omega, by omega, ?_, fun p hp => ?_⟩
    · rw [g2.len]
      have : n.toNat ≤ 1 := by omega
      exact Nat.le_trans (Nat.mul_le_mul e5 this) (by decide)
    · have ok : VRs X.K B2 (α2 ++ [p]) (List.replicate n.toNat xs1).flatten (if n = 0 then [] else ds.map .d) := by
        by_cases h0 : n = 0
        · subst h0
          exact .nil
        · have h1' : n.toNat = 1 := by omega
          rw [if_neg h0, h1']
          simp only [List.replicate_one, List.flatten_cons, List.flatten_nil, List.append_nil]
          exact vrs_d (g2.same s2.bb)
      have st := s2.wd.newObj (o := .lst (if n = 0 then [] else ds.map .d)) (ho := .lst (List.replicate n.toNat xs1).flatten) hp ⟨_, upd_same, ok⟩
      exact h2 _ _ _ _ ((s1.trans s2).trans st) ⟨p, by rw [← s2.wd.len]; simp, rfl⟩
theorem set_nd (hu : X.A.units + 64 < cLine) : PSet X (rSetN X.K) := by
  intro pins s σ H o i v ov iv u Q I ro ri rv h
  obtain ⟨a, ob, zs, k, b, rfl, rfl, d, g, kb, sz, q⟩ := h
  cases ro
  cases ri
  exact n_setItem hu I d g kb rv sz fun o' s' is' I' => ⟨_, I', q o' is'⟩
theorem pxg_dsub (cx : Ctx X E k) (ho : PX ga X E o wd) (hi : PX ga X E ie wk)
    (ha : ∀ v, assign (.Subscript o ie p') X.env v = (do
      let ov ← holding [v] (eval o X.env)
      let iv ← holding [v, ov] (eval ie X.env)
      standAt p'
      holding [v, ov, iv] (setItem ov iv v)
      release [v, ov, iv] []) := by intro _; rfl) : PXG ga X E (.Subscript o ie p') (dsubG wd wk) := by
  refine ⟨fun v env S k k' hk h => ho.mono env S _ _ _ _ (fun x S1 h1 => hi.mono env S1 _ _ _ _ (fun y S2 ⟨S3, e, h2⟩ => ⟨S3, e, hk _ _ h2⟩) (fun _ _ z => z) h1) (fun _ _ z => z) h, _, pg_sub ho.run hi.run (set_nd cx.u) ha, fun B α S H v x env σ Q w rx re h => ?_⟩
  refine ⟨env, S, B, α, re, w, ho.mono env S _ _ _ _ (fun o' S2 u2 v2 H2 B2 α2 s2 r2 => ?_) (fun _ _ z => z.elim) h⟩
  refine ⟨env, S2, B2, α2, re.mono s2.bb s2.pre, s2.wd, hi.mono env S2 _ _ _ _ (fun i' S3 u3 v3 H3 B3 α3 s3 r3 => ?_) (fun _ _ z => z.elim) u2⟩
  obtain ⟨S4, e1, z3⟩ := u3
  unfold dput at e1
  have s23 := s2.trans s3
  split at e1
  · rename_i n key hk
    split at e1
    · rename_i kvs hn
      split at e1
      · rename_i hl
        cases e1
        obtain ⟨a1, ha1, rfl⟩ := r2.mono s3.bb s3.pre
        obtain ⟨a', f1, f2, ob, zs, f3, f4, f5⟩ := s3.wd.obj n _ hn (fun z => by cases z)
        rw [ha1] at f1; cases f1
        obtain ⟨b1, rfl, g, kb⟩ := keyV_ok r3 hk
        have rv := rx.mono s23.bb s23.pre
        refine ⟨a1, ob, zs, key, b1, rfl, rfl, ⟨f3, f4, PRk.keys f5 s3.wd.ex⟩, g, Dq.same s3.wd.ex kb, ?_, fun o' is' => ?_⟩
        · rw [PRk.len f5]; exact Nat.lt_of_le_of_lt hl (by decide)
        · have s4 := s3.wd.change (o' := .dic (putA kvs key x)) (ho := pin a1 o') hn (fun z => by cases z) ha1 ⟨o', _, upd_same, is', PRk.put kb rv f5⟩
          exact z3 _ _ _ _ (s23.trans s4) (re.mono (s23.trans s4).bb (s23.trans s4).pre)
      · cases e1
    · cases e1
  · cases e1
/-- the lists of a dict become pure, then the dict -/
theorem cold_all {K : PySem.W.Frag} {H : Hp} {α : List Addr} : ∀ (kvs : List (NestedKey × DV)) (zs : ZL) (B : Hp) (S : Sto) (ms : List (NestedKey × PyData)) (S1 : Sto), Wd K B α S H → PRk K B α zs kvs → coldAll kvs S = some (ms, S1) →
    ∃ B', Stp K B α H B' α S1 H ∧ Paired (fun (z : NestedKey × Addr × V) (q : NestedKey × PyData) => z.1 = q.1 ∧ Dq K B' (.ref z.2.1) q.1.data ∧ Dq K B' z.2.2 q.2) zs ms
  | [], zs, B, S, ms, S1, w, r, h => by
    simp [coldAll] at h
    obtain ⟨rfl, rfl⟩ := h
    cases r
    exact ⟨B, Stp.refl w, .nil⟩
  | (k, x) :: kvs, zs, B, S, ms, S1, w, r, h => by
    cases r with
    | @cons z q zs' _ r1 r2 =>
      cases x with
      | d y =>
        obtain ⟨z2, e, h2⟩ := Option.map_eq_some_iff.mp (show (coldAll kvs S).map (fun z => ((k, y) :: z.1, z.2)) = some (ms, S1) from h)
        cases h2
        obtain ⟨B', st, p⟩ := cold_all kvs zs' B S z2.1 z2.2 w r2 e
        exact ⟨B', st, .cons ⟨r1.1, Dq.same st.bb r1.2.1, Dq.same st.bb r1.2.2⟩ p⟩
      | p n =>
        cases hs : S[n]? with
        | none => simp [coldAll, hs] at h
        | some ob =>
          cases ob with
          | lst xs =>
            cases hp : pures xs with
            | none => simp [coldAll, hs, hp] at h
            | some ds =>
              have h' : (coldAll kvs (S.set n .gone)).map (fun z => ((k, .list ds) :: z.1, z.2)) = some (ms, S1) := by simpa [coldAll, hs, hp] using h
              obtain ⟨z2, e, h2⟩ := Option.map_eq_some_iff.mp h'
              cases h2
              obtain ⟨a1, ha1, ez⟩ := r1.2.2
              obtain ⟨B1, st1, q1⟩ := w.freeze hs hp ha1
              obtain ⟨B', st, p⟩ := cold_all kvs zs' B1 _ z2.1 z2.2 st1.wd (Paired.mapP r2 fun z q w => ⟨w.1, Dq.same st1.bb w.2.1, w.2.2.mono st1.bb ⟨[], by simp⟩⟩) e
              refine ⟨B', st1.trans st, .cons ⟨r1.1, Dq.same (st1.trans st).bb r1.2.1, ?_⟩ p⟩
              rw [ez]
              exact Dq.same st.bb q1
          | dic _ => simp [coldAll, hs] at h
          | ins c fs => simp [coldAll, hs] at h
          | tab _ => simp [coldAll, hs] at h
          | gone => simp [coldAll, hs] at h
      | s _ => simp [coldAll] at h
      | m _ => simp [coldAll] at h
      | ce _ => simp [coldAll] at h
      | cs _ => simp [coldAll] at h
      | ev _ => simp [coldAll] at h
      | es _ => simp [coldAll] at h
      | cl _ => simp [coldAll] at h
theorem ps_coldT {st : Stmt} {i : Nat} {w : DS} (h : PXS ga X E st w) : PXS ga X E st (coldTS i w) := by
  refine ⟨fun env S D D' hd ⟨n, o, x, S1, e1, e2, e3, z⟩ => ⟨n, o, x, S1, e1, e2, e3, h.mono _ _ _ _ hd z⟩, ⟨fun pins s σ H D I q => h.run.run pins s σ H D I ?_⟩⟩
  obtain ⟨env, S, B, α, re, wd, n, kvs, ms, S1, e1, e2, e3, z⟩ := q
  obtain ⟨v, hv, rv⟩ := re.2 i _ e1
  obtain ⟨a1, ha1, rfl⟩ := rv
  obtain ⟨a', f1, f2, o1, zs, f3, f4, f5⟩ := wd.obj n _ e2 (fun z => by cases z)
  rw [ha1] at f1; cases f1
  have sm : Same B (upd B a1 (pin a1 o1)) := Same.upd_none f2
  have st1 : Stp X.K B α H (upd B a1 (pin a1 o1)) α (S.set n .gone) H := by
    refine ⟨⟨fun c u e => ?_, by simp [wd.len], fun m q h1 h2 => ?_, wd.nd, wd.trk⟩, sm, ⟨[], by simp⟩, fun c u e => ?_, fun _ h => .inl h, fun _ _ e _ => e⟩
    · by_cases hc : c = a1
      · subst hc; rw [upd_same] at e; rw [← e]; exact f3
      · rw [upd_ne hc] at e; exact wd.ex c u e
    · have hmn : n ≠ m := fun z => by
        subst z
        rw [List.getElem?_set_self (List.getElem?_eq_some_iff.mp e2).1] at h1
        cases h1; exact h2 rfl
      rw [List.getElem?_set_ne hmn] at h1
      obtain ⟨c, g1, g2, g3⟩ := wd.obj m q h1 h2
      have hca : c ≠ a1 := fun z => by
        subst z
        exact hmn (nd_at wd.nd ha1 g1)
      exact ⟨c, g1, by rw [upd_ne hca]; exact g2, g3.mono sm ⟨[], by simp⟩ fun _ z => z⟩
    · by_cases hc : c = a1
      · subst hc; exact .inr (.inr (List.mem_of_getElem? ha1))
      · rw [upd_ne hc] at e; exact .inl e
  obtain ⟨B', st2, p⟩ := cold_all kvs zs _ _ ms S1 st1.wd (Paired.mapP f5 fun z q w => ⟨w.1, Dq.same sm w.2.1, w.2.2.mono sm ⟨[], by simp⟩⟩) e3
  have st' := st1.trans st2
  have r' : VR X.K B' α (.ref a1) (.m ms) := ⟨a1, o1, zs, rfl, st2.bb _ _ upd_same, f4, p⟩
  have re' := (re.mono st'.bb st'.pre).set i r'
  have hset : σ.set i (some (.ref a1)) = σ := by
    apply List.ext_getElem?
    intro j
    by_cases hj : i = j
    · subst hj
      rw [List.getElem?_set_self (List.getElem?_eq_some_iff.mp hv).1, hv]
    · rw [List.getElem?_set_ne hj]
  rw [hset] at re'
  exact ⟨_, _, B', α, re', st'.wd, h.mono _ _ _ _ (dT.after st') z⟩
end
section
variable {a b : DE} {s : DS} {i : Nat}
instance [ME a] [ME b] : ME (mulNW a b) := ⟨fun env S k k' x x' hk hx h => ME.mono (w := a) env S _ _ _ _ (fun y S1 h1 => ME.mono (w := b) env S1 _ _ _ _ (fun z S2 ⟨ds, n, e1, e2, e3, e4, e5, h2⟩ => ⟨ds, n, e1, e2, e3, e4, e5, hk _ _ h2⟩) hx h1) hx h⟩
instance [ME a] [ME b] : MG (dsubG a b) := ⟨fun v env S k k' hk h => ME.mono (w := a) env S _ _ _ _ (fun x S1 h1 => ME.mono (w := b) env S1 _ _ _ _ (fun y S2 ⟨S3, e, h2⟩ => ⟨S3, e, hk _ _ h2⟩) (fun _ _ z => z) h1) (fun _ _ z => z) h⟩
instance [MS s] : MS (coldTS i s) := ⟨fun env S D D' hd ⟨n, o, x, S1, e1, e2, e3, z⟩ => ⟨n, o, x, S1, e1, e2, e3, MS.mono (w := s) _ _ _ _ hd z⟩⟩
end
end DW

set_option Elab.async false
set_option linter.all false
set_option maxRecDepth 100000
set_option maxHeartbeats 4000000
set_option autoImplicit false
/-! DX8: dict(pairs). -/
namespace DW
open PySem PySem.W PySem.Calls PyProof.Rows PySem.Spec L2
def putAllZ (zs : ZL) : List (NestedKey × Addr × V) → ZL
  | [] => zs
  | z :: r => putAllZ (putZ zs z.1 z.2.1 z.2.2) r
theorem ZR.putAll {zs : ZL} {ys : List (NestedKey × Addr × Value)} (r : ZR zs ys) : ∀ {ms : ZL} {ns : List (NestedKey × Addr × Value)}, ZR ms ns → (ys.map (·.1)).Nodup → ZR (putAllZ zs ms) (storedAllH ys ns) := by
  intro ms ns h
  induction h generalizing zs ys with
  | nil => exact fun _ => r
  | @cons z y ms ns h t ih =>
    intro nd
    show ZR (putAllZ (putZ zs z.1 z.2.1 z.2.2) ms) (storedAllH (storedH ys y.1 y.2.1 y.2.2) ns)
    rw [← h.1, ← h.2.1]
    refine ih (r.put h.2.2 nd) ?_
    rw [← (r.put h.2.2 nd).keys]
    have hz : (zs.map (·.1)).Nodup := by rw [r.keys]; exact nd
    clear ih t r nd
    induction zs with
    | nil => simp [putZ]
    | cons a l ih2 =>
      rw [List.map_cons, List.nodup_cons] at hz
      by_cases e : a.1 = z.1
      · simp only [putZ, if_pos e, List.map_cons]
        exact List.nodup_cons.mpr hz
      · simp only [putZ, if_neg e, List.map_cons]
        refine List.nodup_cons.mpr ⟨fun m => ?_, ih2 hz.2⟩
        obtain ⟨q, hq, eq⟩ := List.mem_map.mp m
        rcases putZ_mem hq with w | ⟨w, h1, h2⟩
        · exact e (eq.symm.trans w.1)
        · exact hz.1 (List.mem_map.mpr ⟨w, h1, h2.1.trans eq⟩)
theorem putAllZ_len : ∀ (ms zs : ZL), (putAllZ zs ms).length ≤ zs.length + ms.length
  | [], zs => by simp [putAllZ]
  | z :: r, zs => by
    have h1 := putAllZ_len r (putZ zs z.1 z.2.1 z.2.2)
    have h2 := putZ_len z.1 z.2.1 z.2.2 zs
    simp only [putAllZ, List.length_cons]
    omega
theorem putAllZ_good : ∀ (ms zs : ZL), (∀ z ∈ zs, goodK z.1 = true) → (∀ z ∈ ms, goodK z.1 = true) → ∀ z ∈ putAllZ zs ms, goodK z.1 = true
  | [], zs, h, _ => h
  | a :: r, zs, h, h2 => putAllZ_good r _ (fun z hz => by
    rcases putZ_mem hz with q | ⟨z', h3, h4⟩
    · rw [q.1]; exact h2 a List.mem_cons_self
    · rw [← h4.1]; exact h z' h3) fun z hz => h2 z (List.mem_cons_of_mem _ hz)
def rDictP (K : PySem.W.Frag) : List V → Hp → VK → Prop := fun xs H Q => ∃ (a : Addr) (ps : List Addr) (zs : ZL), xs = [.ref a] ∧ SqL K H a (ps.map V.ref) ∧ Paired (fun p (z : NestedKey × Addr × V) => SqT K H p [.ref z.2.1, z.2.2] ∧ goodK z.1 = true ∧ Dq K H (.ref z.2.1) z.1.data) ps zs ∧
  ∀ p o, H p = none → IsDict p o (putAllZ [] zs) → Q (.ref p) (upd H p (pin p o))
theorem pairs_h {X : Cx} {pins : List (Addr × Obj)} {σ : L2.St} {H : Hp} {s : Shared} (I : Inv X pins σ H s) : ∀ {ps : List Addr} {zs : ZL}, Paired (fun p (z : NestedKey × Addr × V) => SqT X.K H p [.ref z.2.1, z.2.2] ∧ goodK z.1 = true ∧ Dq X.K H (.ref z.2.1) z.1.data) ps zs →
    ∃ ys, ZR zs ys ∧ ys.length = ps.length ∧ (∀ (j : Nat) (p : Addr), ps[j]? = some p → ∃ y, ys[j]? = some y ∧ PairAt s.heap p (.ref y.2.1) y.2.2) ∧ (∀ y ∈ ys, goodK y.1 = true ∧ (nestedKind X.prog X.w).is s.heap y.1 y.2.1) := by
  intro ps zs h
  induction h with
  | nil => exact ⟨[], .nil, rfl, fun j p e => by simp at e, fun y hy => by cases hy⟩
  | @cons p z ps zs h t ih =>
    obtain ⟨ys, h1, h2, h3, h4⟩ := ih
    obtain ⟨q1, q2, q3⟩ := h
    obtain ⟨its, rv, pt, _⟩ := I.tuple q1
    cases rv with
    | cons r1 r2 =>
      cases r2 with
      | cons r3 r4 =>
        cases r4
        rename_i b1 b2
        have e1 : b1 = Value.ref z.2.1 := r1
        subst e1
        refine ⟨(z.1, z.2.1, b2) :: ys, .cons ⟨rfl, rfl, r3⟩ h1, by simp [h2], fun j q e => ?_, fun y hy => ?_⟩
        · cases j with
          | zero =>
            simp at e
            subst e
            exact ⟨_, rfl, .inl pt⟩
          | succ j => exact h3 j q (by simpa using e)
        · rcases List.mem_cons.mp hy with rfl | hy
          · exact ⟨q2, key_at I q2 q3⟩
          · exact h4 y hy
theorem call_dictN {X : Cx} (hcalm : X.calm = true) (hu : X.A.units + 64 < cLine) : CallR X (.type "dict") (rDictP X.K) := by
  intro pins s σ H xs us Q I r q
  obtain ⟨a, ps, zs, ex, hq, hp, q⟩ := q
  subst ex
  obtain ⟨u, eu, rx⟩ := vals1 r
  subst eu
  cases rx
  obtain ⟨its, rv, pl, hz⟩ := I.list hq
  have ei := refs_at rv
  subst ei
  rw [List.length_map] at hz
  obtain ⟨ys, zr, hl, hat, hk⟩ := pairs_h I hp
  obtain ⟨o, n, ho, hc, hd, hdat⟩ := pl
  have P := PairArg.list (prog := X.prog) (w := X.w) a (ps.map Value.ref).toArray (fun j => ps.getD j 0) (ys.map fun y => (Value.ref y.2.1, y.2.2))
  have hlen : (ys.map fun y => ((Value.ref y.2.1, y.2.2) : Value × Value)).length = ps.length := by rw [List.length_map]; exact hl
  have hn : ([] : List (NestedKey × Addr × Value)).map (·.1) = [] := rfl
  refine call_dict_pairsH (knd := nestedKind X.prog X.w) (ps := ys) P (I.ok.hd hcalm) (show X.A.units + 1 + 1 + 8 < cLine by omega) ⟨⟨o, n, ho, hc, hd, hdat⟩, ?_, fun j k v e => ?_⟩ ⟨by rw [hlen, hl], fun i key v e => ?_⟩ (fun h' keep x hx => ?_) (by rw [hlen]; exact hz) fun h' tk hd' keep => ?_
  · rw [hlen]; simp
  · rw [List.getElem?_map] at e
    cases ey : ys[j]? with
    | none => rw [ey] at e; cases e
    | some y =>
      rw [ey] at e
      cases e
      have hj : j < ps.length := by rw [← hl]; exact (List.getElem?_eq_some_iff.mp ey).1
      have ep : ps[j]? = some ps[j] := List.getElem?_eq_getElem hj
      obtain ⟨y', g1, g2⟩ := hat j _ ep
      rw [ey] at g1; cases g1
      have eg : ps.getD j 0 = ps[j] := by rw [List.getD_eq_getElem?_getD, ep]; rfl
      refine ⟨by simp [hj], ?_⟩
      show PairAt s.heap (ps.getD j 0) _ _
      rw [eg]
      exact g2
  · have e : (ys.map fun y => ((Value.ref y.2.1, y.2.2) : Value × Value))[i]? = some (key, v) := e
    rw [List.getElem?_map] at e
    cases ey : ys[i]? with
    | none => rw [ey] at e; cases e
    | some y =>
      rw [ey] at e
      cases e
      exact ⟨y.1, y.2.1, rfl, rfl⟩
  · refine (nestedKind_stays (prog := X.prog) (w := X.w)).stays (fun b ob vs m e _ => keep b ob (Nat.ne_of_lt (Heap.lt_size e)) (by simp) e) (hk x hx).2
  · have gk : ∀ z ∈ zs, goodK z.1 = true := fun z hz' => by
      have := zr.keys
      have hm : z.1 ∈ ys.map (·.1) := by rw [← this]; exact List.mem_map_of_mem hz'
      obtain ⟨y, hy, e⟩ := List.mem_map.mp hm
      rw [← e]
      exact (hk y hy).1
    obtain ⟨ob, e', is'⟩ := isDict_of (zs := putAllZ [] zs) (beq_eq_false_iff_ne.mpr (Ne.symm (Nat.ne_of_lt I.big))) hd' (ZR.putAll .nil zr List.nodup_nil) (putAllZ_good zs [] (fun _ h => nomatch h) gk) (by
      have h1 := putAllZ_len zs []
      have h2 : zs.length = ys.length := Paired.length zr
      simp at h1
      omega)
    exact ⟨.ref s.heap.objs.size, _, I.laid (a := s.heap.objs.size) (o := pin s.heap.objs.size ob) (t' := tk) (fun b ob' e => keep b ob' (by simp) e) (Nat.le_refl _) (pin_ok e'), rfl, q _ _ (I.hok.fresh (Nat.le_refl _)) is'⟩
end DW
namespace DW
open PySem L2
/-- the pairs of a list of tuples -/
def prsD : List PyData → Option (List (NestedKey × PyData))
  | [] => some []
  | .tuple [k, v] :: r => (match keyV (.d k), prsD r with
    | some key, some m => some ((key, v) :: m)
    | _, _ => none)
  | _ :: _ => none
def putAllA (kvs : List (NestedKey × DV)) : List (NestedKey × PyData) → List (NestedKey × DV)
  | [] => kvs
  | q :: r => putAllA (putA kvs q.1 (.d q.2)) r
def dictW (we : DE) : DE := fun env S k kx => we env S (fun x S1 => ∃ ds ms, x = .d (.list ds) ∧ prsD ds = some ms ∧ k (.p S1.length) (S1 ++ [.dic (putAllA [] ms)])) kx
theorem prs_z {K : PySem.W.Frag} {B : Hp} : ∀ {vs : List V} {ds : List PyData} {ms : List (NestedKey × PyData)}, DqAll K B vs ds → prsD ds = some ms →
    ∃ (ps : List Addr) (zs : ZL), vs = ps.map V.ref ∧ Paired (fun p (z : NestedKey × Addr × V) => SqT K B p [.ref z.2.1, z.2.2] ∧ goodK z.1 = true ∧ Dq K B (.ref z.2.1) z.1.data) ps zs ∧ Paired (fun (z : NestedKey × Addr × V) (q : NestedKey × PyData) => z.1 = q.1 ∧ Dq K B (.ref z.2.1) q.1.data ∧ Dq K B z.2.2 q.2) zs ms
  | _, _, _, .nil, h => by
    simp [prsD] at h
    subst h
    exact ⟨[], [], rfl, .nil, .nil⟩
  | _, _, ms, .cons (v := v) (d := d) (ds := ds) h r, e => by
    unfold prsD at e
    split at e
    · rename_i h0
      cases h0
    · rename_i k x r' hd
      cases hd
      split at e
      · rename_i key m hk hm
        cases e
        obtain ⟨ps, zs, e1, e2, e3⟩ := prs_z r hm
        cases h with
        | tup g1 g2 =>
          cases g2 with
          | cons q1 q2 =>
            cases q2 with
            | cons q3 q4 =>
              cases q4
              obtain ⟨b, rfl, gd, kb⟩ := keyV_ok (α := []) (show VR K B [] _ (.d k) from q1) hk
              exact ⟨_ :: ps, (key, b, _) :: zs, by rw [e1]; rfl, .cons ⟨g1, gd, kb⟩ e2, .cons ⟨rfl, kb, q3⟩ e3⟩
      · cases e
    · cases e
theorem prk_all {K : PySem.W.Frag} {B : Hp} {α : List Addr} : ∀ {zs : ZL} {ms : List (NestedKey × PyData)} {zs0 : ZL} {kvs : List (NestedKey × DV)}, Paired (fun (z : NestedKey × Addr × V) (q : NestedKey × PyData) => z.1 = q.1 ∧ Dq K B (.ref z.2.1) q.1.data ∧ Dq K B z.2.2 q.2) zs ms → PRk K B α zs0 kvs → PRk K B α (putAllZ zs0 zs) (putAllA kvs ms)
  | _, _, _, _, .nil, p => p
  | _, _, _, _, .cons (a := z) (b := q) h r, p => by
    show PRk K B α (putAllZ (putZ _ z.1 z.2.1 z.2.2) _) (putAllA (putA _ q.1 (.d q.2)) _)
    rw [h.1]
    exact prk_all r (PRk.put h.2.1 h.2.2 p)
section
variable {ga : Str → Addr} {X : Cx} {E : WX} {e : Expr} {we : DE} {p pos : Pos} {k : Nat}
theorem px_dict (cx : Ctx X E k) (gl : Gl X "dict") (hm : X.mg "dict" = none) (he : PX ga X E e we) (hs : starEach [e] X.env = (false, eval e X.env) :: starEach [] X.env := by rfl) (hpl : (backTo pos (starEach [] X.env)).any (·.1) = false := by rfl) : PX ga X E (.Call (.Name "dict" p) [e] [] pos) (dictW we) := by
  refine ⟨fun env S k k' x x' hk hx h => he.mono env S _ _ _ _ (fun y S1 ⟨ds, ms, e1, e2, h1⟩ => ⟨ds, ms, e1, e2, hk _ _ h1⟩) hx h, ⟨fun pins s σ H Q I h => (pe_callTy (call_dictN cx.calm cx.u) gl hm (by decide +kernel) (pa_cons he.run pa_nil hs) (by decide) (by decide) hs hpl).run pins s σ H Q I ?_⟩⟩
  obtain ⟨env, S, B, α, re, w, h⟩ := h
  refine ⟨env, S, B, α, re, w, he.mono env S _ _ _ _ (fun y S1 ⟨ds, ms, e1, e2, h1⟩ v1 H1 B1 α1 s1 r1 => ?_) (fun _ _ z => z) h⟩
  subst e1
  cases r1 with
  | lst g1 g2 =>
    obtain ⟨ps, zs, e3, e4, e5⟩ := prs_z g2 e2
    subst e3
    refine ⟨_, ps, zs, rfl, SqL.of (s1.wd.ex _ _ g1), Paired.mapP e4 fun q z w => ⟨same_t s1.wd.ex w.1, w.2.1, Dq.same s1.wd.ex w.2.2⟩, fun p ob hp is => ?_⟩
    have st := s1.wd.newObj (o := .dic (putAllA [] ms)) (ho := pin p ob) hp ⟨ob, _, upd_same, is, prk_all (Paired.mapP e5 fun z q w => ⟨w.1, w.2.1, w.2.2⟩) .nil⟩
    exact h1 _ _ _ _ (s1.trans st) ⟨p, by rw [← s1.wd.len]; simp, rfl⟩
instance {a : DE} [ME a] : ME (dictW a) := ⟨fun env S k k' x x' hk hx h => ME.mono (w := a) env S _ _ _ _ (fun y S1 ⟨ds, ms, e1, e2, h1⟩ => ⟨ds, ms, e1, e2, hk _ _ h1⟩) hx h⟩
end
end DW

set_option Elab.async false
set_option linter.all false
set_option maxRecDepth 100000
set_option maxHeartbeats 4000000
set_option autoImplicit false
/-! DX9: {k: v for t in it} where the keys are tuples. -/
namespace DW
open PySem PySem.W PySem.Calls PyProof.Rows PySem.Spec L2
theorem n_dictSet {X : Cx} {pins : List (Addr × Obj)} {σ : L2.St} {H : Hp} {s : Shared} {a b : Addr} {o : Obj} {zs : ZL} {k : NestedKey} {A : Around} {E : Value → Shared → Prop} {v : V} {u : Value} {Q : Unit → Shared → Prop} (hu : A.units + 64 < cLine) (I : Inv X pins σ H s) (d : DAt X.K H a o zs) (g : goodK k = true) (kb : Dq X.K H (.ref b) k.data) (rv : RelV v u) (sz : zs.length < sizeLine)
    (h : ∀ o' s', IsDict a o' (putZ zs k b v) → Inv X pins σ (upd H a (pin a o')) s' → Q () s') : wpAny (model X.prog X.w) A (dictSet a (.ref b) u) Q E s := by
  obtain ⟨ys, r, nd, dd⟩ := d.ofH I
  have hz : ys.length ≤ sizeLine := by rw [← Paired.length r]; exact d.d.sz
  refine wpAny_dictSet_heap (hsz := hz) (show A.units + 8 < cLine by omega) (key_at I g kb) dd fun h' dd' hs => ?_
  obtain ⟨o', e', is'⟩ := isDict_of d.d.sm dd' (r.put rv nd) (fun z hz => by
    rcases putZ_mem hz with q | ⟨z', h1, h2⟩
    · rw [q.1]; exact g
    · rw [← h2.1]; exact d.d.pl z' h1) (Nat.le_trans (putZ_len k b v zs) sz)
  exact h o' _ is' (d_write I (by rw [d.at']; exact True.intro) hs ⟨o', e'⟩ (pin_ok e'))
/-- the walk of such a comprehension: P by the turn and the heap -/
def tCdN (K : PySem.W.Frag) (wi : TI) (g : TG) (tk tv : TE) (vs : List Nat) : TE := fun σ H Q => wi σ H fun J H1 => ∀ D o0, H1 D = none → IsDict D o0 [] → ∃ (n : Nat) (P : Nat → Hp → Prop), P 0 (upd H1 D (pin D o0)) ∧
  (∀ i H', i ≤ n → P i H' → (i < n ∧ J.go i H' ∧ ∀ x H'', J.yld i H' x H'' → g x (wipe σ vs) H'' fun σ2 H2 => wipe σ2 vs = wipe σ vs ∧ tk σ2 H2 fun y H4 => tv σ2 H4 fun z H5 =>
      ∃ o zs k b, y = .ref b ∧ DAt K H5 D o zs ∧ goodK k = true ∧ Dq K H5 (.ref b) k.data ∧ zs.length < sizeLine ∧ ∀ o', IsDict D o' (putZ zs k b z) → P (i + 1) (upd H5 D (pin D o'))) ∨ (i = n ∧ J.stop i H' ∧ Q (.ref D) H'))
/-- the loop in the block -/
theorem cd_loop {X : Cx} {s3 : Shared} {H3 : Hp} {σ : L2.St} {kx vx tg iter : Expr} {scope : Scope} {own : List (Str × Nat)} {pos : Pos} {g : TG} {tk tv : TE} {J : It} {it D : Addr} {fp : List Addr} {tn : Nat → Heap → Prop} {ce : Env} {n : Nat} {P : Nat → Hp → Prop} {Q : Hp → Prop} {R : Result → Shared → Prop}
    (hu : X.A.units + 64 < cLine) (hc : X.calm = true) (T : Turn X.prog X.w X.K tg J fp it tn)
    (pg : PG (X.blk s3 H3 scope ce fp) tg g) (pk : PE (X.blk s3 H3 scope ce fp) kx tk) (pe : PE (X.blk s3 H3 scope ce fp) vx tv)
    (step : ∀ i H', i ≤ n → P i H' → (i < n ∧ J.go i H' ∧ ∀ x H'', J.yld i H' x H'' → g x (wipe σ (own.map (·.2))) H'' fun σ2 H2 => wipe σ2 (own.map (·.2)) = wipe σ (own.map (·.2)) ∧ tk σ2 H2 fun y H4 => tv σ2 H4 fun z H5 =>
      ∃ o zs k b, y = .ref b ∧ DAt X.K H5 D o zs ∧ goodK k = true ∧ Dq X.K H5 (.ref b) k.data ∧ zs.length < sizeLine ∧ ∀ o', IsDict D o' (putZ zs k b z) → P (i + 1) (upd H5 D (pin D o'))) ∨ (i = n ∧ J.stop i H' ∧ Q H'))
    (fin : ∀ s' H', Inv (X.blk s3 H3 scope ce fp) [] (wipe σ (own.map (·.2))) H' s' → Q H' → R (.ok .next) s') :
    ∀ (i : Nat) (s4 : Shared) (H' : Hp), i ≤ n → P i H' → Inv (X.blk s3 H3 scope ce fp) [] (wipe σ (own.map (·.2))) H' s4 → tn i s4.heap → (∀ b ∈ fp, H' b = none) →
    codeAny (model X.prog X.w) X.A (.compLoop (.DictComp kx vx [⟨tg, iter, [], 0⟩] scope pos) 0 (.ref it) (.ref D) ce) R s4 := by
  intro i s4 H' hi hp I4 st4 nf
  have stat : ∀ {pins : List (Addr × Obj)} {σ' : L2.St} {Ha : Hp} {s' : Shared}, Inv (X.blk s3 H3 scope ce fp) [] σ' Ha s' → (∀ b ∈ fp, Ha b = none) → ∀ b ∈ fp, FpOk (X.blk s3 H3 scope ce fp) [] Ha b := fun I' hn b hb =>
    ⟨hn b hb, (I'.ok.exf b hb).1, I'.ok.exfs b hb, .inl hb, fun x c e => (I'.ok.exf b hb).2 x c e, fun p hp => nomatch hp⟩
  refine compLoop_anyD (fun m s' => ∃ j Hj, m = n - j ∧ j ≤ n ∧ P j Hj ∧ Inv (X.blk s3 H3 scope ce fp) [] (wipe σ (own.map (·.2))) Hj s' ∧ tn j s'.heap ∧ ∀ b ∈ fp, Hj b = none) ?_ (n - i) ⟨i, H', rfl, hi, hp, I4, st4, nf⟩
  rintro m s5 ⟨j, Hj, rfl, hj, pj, I5, st5, n5⟩
  rcases step j Hj hj pj with ⟨hlt, go, turn⟩ | ⟨rfl, stop, q⟩
  · refine thnF (T.item (X.blk s3 H3 scope ce fp) rfl rfl rfl hc j [] s5 _ Hj (fun _ _ => False) I5 (stat (pins := []) I5 n5) st5 go) fun r s6 ⟨u, hr, h6⟩ => ?_
    subst hr
    refine thnF h6 fun _ s7 ⟨x, H7, I7, r7, y7, st7, n7⟩ => ?_
    refine thnF (pg.run _ s7 _ H7 x u _ (I7.pinned (stat (pins := []) I7 n7) (T.obj _ _ st7)) r7 (turn x H7 y7)) fun _ s8 ⟨σ8, H8, I8, w8, q8⟩ => ?_
    refine wpAny_pure ?_
    rw [if_pos rfl]
    refine thnF (pk.run _ s8 σ8 H8 _ I8 q8) fun z s9 ⟨yk, H9, I9, r9, q9⟩ => ?_
    refine thnF (pe.run _ s9 σ8 H9 _ I9 q9) fun z2 s10 ⟨yv, H10, I10, r10, o, zs, k, b, ek, d, gk, kb, sz, nx⟩ => ?_
    subst ek
    obtain rfl : z = Value.ref b := r9
    refine n_dictSet (X := X.blk s3 H3 scope ce fp) hu I10 d gk kb r10 sz fun o' s11 is' I11 => ?_
    have keep : ∀ b ∈ fp, ∀ ob, s7.heap.get? b = some ob → s11.heap.get? b = some ob ∧ (upd H10 D (pin D o')) b = none := fun b hb ob e =>
      let z := I11.pin (b, ob) (List.mem_append_right _ (List.mem_append_right _ (mem_pinsAt hb e)))
      ⟨z.1, z.2.1⟩
    have hl : (wipe σ (own.map (·.2))).length = σ8.length := by rw [← w8, wipe_length]
    refine ⟨n - (j + 1), by omega, j + 1, _, rfl, hlt, nx o' is', (I11.unpinned (pins := [])).weak hl (fun a v e => ?_), T.keep _ _ _ st7 fun b hb ob e => (keep b hb ob e).1, fun b hb => ?_⟩
    · rw [← w8] at e
      exact (wipe_some e).1
    · obtain ⟨ob, e, _⟩ := T.obj _ _ st7 b hb
      exact (keep b hb ob e).2
  · refine thnF (T.done (X.blk s3 H3 scope ce fp) rfl rfl rfl hc j [] s5 _ Hj (fun _ _ => False) I5 (stat (pins := []) I5 n5) st5 stop) fun r s6 ⟨hr, I6⟩ => ?_
    subst hr
    exact fin s6 Hj I6 q
/-- the block around it -/
theorem cd_core {X : Cx} {pins : List (Addr × Obj)} {s : Shared} {σ : L2.St} {H : Hp} {Q : VK} {kx vx tg iter : Expr} {scope : Scope} {own : List (Str × Nat)} {pos pos' : Pos} {wi : TI} {g : TG} {tk tv : TE} {use : Option (Value → Sem Unit)} {Qf : Value → Shared → Prop}
    (hu : X.A.units + 64 < cLine) (hc : X.calm = true) (hN : X.N.Nodup) (I : Inv X pins σ H s) (hi : PI X tg iter wi) (ok : BlkOk X.N X.env.scope scope own)
    (hg : ∀ (s : Shared) (H : Hp) (C : Addr) (cl : List (Str × Addr)) (fp : List Addr), PG (X.blk s H scope (compEnvC scope cl C X.env) fp) tg g)
    (hk : ∀ (s : Shared) (H : Hp) (C : Addr) (cl : List (Str × Addr)) (fp : List Addr), PE (X.blk s H scope (compEnvC scope cl C X.env) fp) kx tk)
    (he : ∀ (s : Shared) (H : Hp) (C : Addr) (cl : List (Str × Addr)) (fp : List Addr), PE (X.blk s H scope (compEnvC scope cl C X.env) fp) vx tv) (hs : ∀ x, foldedSetIterable iter X.env x = pure x)
    (h : tCdN X.K wi g tk tv (own.map (·.2)) σ H Q)
    (hRR : ∀ D C s' m H', Inv X pins σ H' s' → Q (.ref D) H' → s'.heap.Ns C m → FpOk X pins H' C → compPost (model X.prog X.w) X.A X.xe use Qf (.ref D) C (.ok .next) s') :
    wpAny (model X.prog X.w) X.A (comprehension (.DictComp kx vx [⟨tg, iter, [], 0⟩] scope pos) scope X.env pos' newDict false (eval iter X.env) use) Qf X.xe s := by
  have free : ∀ y ∈ scope.names, y.2 = .free → ∃ c, X.env.cells.lookup y.1 = some c := fun y hy e => I.ok.has _ (ok.free y hy e)
  refine wpAny_comprehension_free (use := use) rfl hs (closure_ok free) ok.kind (fun y hy e => by rw [ok.uniq y hy, e])
    (thn (hi.run pins s σ H _ I h) fun xv s1 hx => thn hx fun itv s2 ⟨it, fp, tn, J, H2, e, I2, T, st2, f2, q⟩ => ?_)
  subst e
  refine wpAny_newObj_type (newEnv_comp ?_)
  have hDn : H2 s2.heap.objs.size = none := I2.hok.fresh (Nat.le_refl _)
  obtain ⟨n, P, p0, step⟩ := q s2.heap.objs.size _ hDn (isDict_nil s2.heap I2.big)
  generalize hD : s2.heap.objs.size = D at *
  generalize hH3 : upd H2 D (pin D { cls := .type "dict", data := .dict #[] }) = H3 at *
  generalize hs3 : ({ s2 with heap := s2.heap.push { cls := .type "dict", data := .dict #[] } } : Shared) = s3
  have h3 : s3.heap = s2.heap.push { cls := .type "dict", data := .dict #[] } := by rw [← hs3]
  have I3 : Inv X pins σ H3 s3 := by
    rw [← hs3, ← hH3]
    refine I2.laid (t' := s2.toks) (fun b o e => Heap.get?_push_of_some _ e) (Nat.le_of_eq hD) (pin_ok ?_)
    rw [← hD]
    exact Heap.get?_push_size _ rfl
  have lt2 : ∀ b ∈ fp, b < s2.heap.objs.size := fun b hb => let ⟨_, e, _⟩ := T.obj _ _ st2 b hb; Heap.lt_size e
  have f3 : ∀ b ∈ fp, FpOk X pins H3 b ∧ b < s3.heap.objs.size := fun b hb => by
    refine ⟨⟨?_, (f2 b hb).2⟩, by rw [h3, Heap.size_push]; exact Nat.lt_succ_of_lt (lt2 b hb)⟩
    rw [← hH3, upd_ne (by rw [← hD]; exact Nat.ne_of_lt (lt2 b hb))]
    exact (f2 b hb).1
  have I4 := block_start I3 ok hN f3
  have st4 : tn 0 (pushCells (s3.heap.push { cls := .type "dict", data := .dict #[] }) scope.names) := T.keep _ _ _ st2 fun b _ o e => pushCells_keeps _ _ _ _ (Heap.get?_push_of_some _ (by rw [h3]; exact Heap.get?_push_of_some _ e))
  have loop := cd_loop (X := X) (s3 := s3) (H3 := H3) (R := compPost (model X.prog X.w) X.A X.xe use Qf (.ref D) s3.heap.objs.size) (pos := pos) (iter := iter) hu hc T (hg s3 H3 s3.heap.objs.size (cellsFrom (s3.heap.objs.size + 1) scope.names (cloFrom X.env.cells scope.names [])) fp) (hk s3 H3 _ _ fp) (he s3 H3 _ _ fp) step (fun s' H' I' q => by
    have nC : H' s3.heap.objs.size = none := I'.free
    obtain ⟨m, hn, _⟩ := I'.loc
    exact hRR D s3.heap.objs.size s' m H' (I3.call' (ch := fp) I'.os I'.base I'.hok I'.bare fun b hb => ⟨(f3 b hb).1.2.2.2.1, (f3 b hb).1.2.1, (f3 b hb).1.2.2.2.2.1, (f3 b hb).1.2.2.2.2.2⟩) q hn (I3.fpOk (Nat.le_refl _) nC)) 0 _ H3 (Nat.zero_le _) p0 I4 st4 fun b hb => (f3 b hb).1.1
  exact codeAny_compStart_dict loop (T.self X.A 0 _ _ _ st4 loop)
section
variable {X : Cx} {kx vx tg iter : Expr} {scope : Scope} {own : List (Str × Nat)} {pos spos py : Pos} {wi : TI} {g : TG} {tk tv : TE} {i : Nat} {y : Str}
theorem pe_cdN (hu : X.A.units + 64 < cLine) (hc : X.calm = true) (hN : X.N.Nodup) (hi : PI X tg iter wi) (ok : BlkOk X.N X.env.scope scope own)
    (hg : ∀ (s : Shared) (H : Hp) (C : Addr) (cl : List (Str × Addr)) (fp : List Addr), PG (X.blk s H scope (compEnvC scope cl C X.env) fp) tg g)
    (hk : ∀ (s : Shared) (H : Hp) (C : Addr) (cl : List (Str × Addr)) (fp : List Addr), PE (X.blk s H scope (compEnvC scope cl C X.env) fp) kx tk)
    (he : ∀ (s : Shared) (H : Hp) (C : Addr) (cl : List (Str × Addr)) (fp : List Addr), PE (X.blk s H scope (compEnvC scope cl C X.env) fp) vx tv) (hs : ∀ x, foldedSetIterable iter X.env x = pure x := by intro _; rfl) :
    PE X (.DictComp kx vx [⟨tg, iter, [], 0⟩] scope pos) (tCdN X.K wi g tk tv (own.map (·.2))) := by
  refine ⟨fun pins s σ H Q I h => ?_⟩
  rw [arm_eval_DictComp]
  refine cd_core hu hc hN I hi ok hg hk he hs h fun D C s' m H' I' q hn f => ⟨m, hn, fun h'' sb => ?_⟩
  obtain ⟨f0, f1, f2, f3, f4, f5⟩ := f
  exact ⟨.ref D, H', I'.turned (t' := s'.toks) (fun b o hb e => (sb.2 b hb).trans e) f0 f1 f3 f4 f5, rfl, q⟩
theorem ps_setCdN (hu : X.A.units + 64 < cLine) (hc : X.calm = true) (hN : X.N.Nodup) (hy : X.N[i]? = some y) (hyl : X.env.scope.names.lookup y = some .local)
    (hsw : swapsWith (.DictComp kx vx [⟨tg, iter, [], 0⟩] scope pos) (some (.Name y py)) spos.line X.env = pure true) (hi : PI X tg iter wi) (ok : BlkOk X.N X.env.scope scope own)
    (hg : ∀ (s : Shared) (H : Hp) (C : Addr) (cl : List (Str × Addr)) (fp : List Addr), PG (X.blk s H scope (compEnvC scope cl C X.env) fp) tg g)
    (hk : ∀ (s : Shared) (H : Hp) (C : Addr) (cl : List (Str × Addr)) (fp : List Addr), PE (X.blk s H scope (compEnvC scope cl C X.env) fp) kx tk)
    (he : ∀ (s : Shared) (H : Hp) (C : Addr) (cl : List (Str × Addr)) (fp : List Addr), PE (X.blk s H scope (compEnvC scope cl C X.env) fp) vx tv) (hs : ∀ x, foldedSetIterable iter X.env x = pure x := by intro _; rfl) :
    PS X (.Assign [.Name y py] (.DictComp kx vx [⟨tg, iter, [], 0⟩] scope pos) spos) (tAsg (tCdN X.K wi g tk tv (own.map (·.2))) (gName i)) := by
  refine ⟨fun pins s σ H D I h => ?_⟩
  rw [exec_Assign_Name_used _ _ _ _ hsw]
  refine wpAny_bind (wpAny_standAt (wpAny_bind ?_))
  have h : tCdN X.K wi g tk tv (own.map (·.2)) σ H (fun x H1 => gName i x σ H1 D.nx) := h
  show wpAny _ X.A (do let _ ← comprehension (.DictComp kx vx [⟨tg, iter, [], 0⟩] scope pos) scope X.env (firstIterPos [⟨tg, iter, [], 0⟩] pos) newDict false (eval iter X.env) (some (assign (.Name y py) X.env))) _ _ s
  refine wpAny_bind (thn (cd_core (Qf := fun _ s' => SP X pins D .next s') hu hc hN I hi ok hg hk he hs h fun L C s' m H' I' q hn f => ?_) fun _ s' hq => wpAny_pure (wpAny_pure hq))
  show wpAny _ _ (assign (.Name y py) X.env (.ref L)) _ _ _
  refine wpAny_assign_Name (store_ok2 (v := V.ref L) I' hN hy (.inl hyl) rfl (fun s2 I2 ⟨a, sb, ha⟩ => ?_) (.inr hyl))
  obtain ⟨f0, f1, f2, f3, f4, f5⟩ := f
  have haC : C ≠ a := by
    rcases ha with z | z
    · rw [z]; exact f1
    · exact fun e => f4 y a z e.symm
  exact ⟨m, hn.sameBut sb haC, fun h3 sb3 => ⟨_, H', I2.turned (t' := s2.toks) (fun b o hb e => (sb3.2 b hb).trans e) f0 f1 f3 f4 f5, q⟩⟩
end
end DW

set_option Elab.async false
set_option linter.all false
set_option maxRecDepth 100000
set_option maxHeartbeats 4000000
set_option autoImplicit false
/-! DX10: dict comprehensions on data. -/
namespace DW
open PySem L2
def dcL (b : DB) (tk tv : DE) (env0 : DEnv) : List DV → List (NestedKey × PyData) → Sto → (List (NestedKey × PyData) → Sto → Prop) → Prop
  | [], acc, S, k => k acc S
  | x :: r, acc, S, k => ∃ env1, b x env0 = some env1 ∧ tk env1 S (fun y S2 => tv env1 S2 (fun v S3 => ∃ key d, keyV y = some key ∧ v = .d d ∧ acc.length ≤ 1000000 ∧ dcL b tk tv env0 r (putA acc key d) S3 k) F0) F0
def dcW (wi : DI) (b : DB) (tk tv : DE) (vs : List Nat) : DE := fun env S k kx => wi env S (fun xs S1 => dcL b tk tv (wipeD env vs) xs [] S1 (fun ms S2 => k (.p S2.length) (S2 ++ [.dic (ms.map fun q => (q.1, .d q.2))]))) kx
theorem mono_dc {b : DB} {tk tv : DE} (mk : MonoE tk) (mv : MonoE tv) {env0 : DEnv} : ∀ (xs : List DV) (acc : List (NestedKey × PyData)) (S : Sto) (k k' : List (NestedKey × PyData) → Sto → Prop), (∀ a S, k a S → k' a S) → dcL b tk tv env0 xs acc S k → dcL b tk tv env0 xs acc S k'
  | [], _, _, _, _, h, q => h _ _ q
  | x :: r, acc, S, k, k', h, ⟨env1, e, q⟩ => ⟨env1, e, mk _ _ _ _ _ _ (fun y S2 z => mv _ _ _ _ _ _ (fun v S3 ⟨key, d, e1, e2, e3, z3⟩ => ⟨key, d, e1, e2, e3, mono_dc mk mv r _ S3 k k' h z3⟩) (fun _ _ z => z) z) (fun _ _ z => z) q⟩
theorem mono_dcW {wi : DI} {b : DB} {tk tv : DE} {vs : List Nat} (hi : MonoA wi) (mk : MonoE tk) (mv : MonoE tv) : MonoE (dcW wi b tk tv vs) := fun env S k k' x x' hk hx h => hi env S _ _ _ _ (fun xs S1 z => mono_dc mk mv xs [] S1 _ _ (fun a S z => hk _ _ z) z) hx h
abbrev PRm (K : PySem.W.Frag) (B : Hp) : ZL → List (NestedKey × PyData) → Prop := Paired fun (z : NestedKey × Addr × V) (q : NestedKey × PyData) => z.1 = q.1 ∧ Dq K B (.ref z.2.1) q.1.data ∧ Dq K B z.2.2 q.2
theorem PRm.put {K : PySem.W.Frag} {B : Hp} {k : NestedKey} {b : Addr} {v : V} {x : PyData} (rk : Dq K B (.ref b) k.data) (rv : Dq K B v x) {zs : ZL} {kvs : List (NestedKey × PyData)} (r : PRm K B zs kvs) : PRm K B (putZ zs k b v) (putA kvs k x) := by
  induction r with
  | nil => exact .cons ⟨rfl, rk, rv⟩ .nil
  | @cons z q _ _ h t ih =>
    by_cases e : q.1 = k
    · have e' : z.1 = k := h.1.trans e
      simp only [putA, putZ, if_pos e, if_pos e']
      exact .cons ⟨h.1, h.2.1, rv⟩ t
    · have e' : ¬ z.1 = k := fun z' => e (h.1.symm.trans z')
      simp only [putA, putZ, if_neg e, if_neg e']
      exact .cons h ih
theorem PRm.same {K : PySem.W.Frag} {B B' : Hp} (e : Same B B') {zs : ZL} {kvs : List (NestedKey × PyData)} (r : PRm K B zs kvs) : PRm K B' zs kvs := Paired.mapP r fun z q w => ⟨w.1, Dq.same e w.2.1, Dq.same e w.2.2⟩
section
variable {ga : Str → Addr} {X : Cx} {E : WX} {tg iter kx vx : Expr} {wi : DI} {tk tv : DE} {pos : Pos} {k : Nat} {scope : Scope} {own : List (Str × Nat)} {b : DB} {t : TG}
theorem run_dc (hi : MonoA wi) (hg : PXC X scope tg b (own.map (·.2)) t) (mk : MonoE tk) (mv : MonoE tv) {σ : L2.St} {H : Hp} {Q : VK} (h : eT X.K ga E (dcW wi b tk tv (own.map (·.2))) σ H Q) :
    tCdN X.K (iT X.K ga E wi) t (eT X.K ga W0 tk) (eT X.K ga W0 tv) (own.map (·.2)) σ H Q := by
  obtain ⟨env, S, B, α, re, w, h⟩ := h
  refine ⟨env, S, B, α, re, w, hi env S _ _ _ _ (fun xs S1 z J H1 B1 α1 s1 okJ => ?_) (fun _ _ z => z) h⟩
  intro D o0 hD is0
  obtain ⟨G, Y, ⟨wgo, wstop, wyld⟩, hG, hY⟩ := okJ
  have hBD : B1 D = none := s1.wd.ex.free hD
  have hαD : D ∉ α1 := fun z => by
    obtain ⟨u, hu⟩ := s1.wd.trk D z
    rw [hD] at hu; cases hu
  have away : ∀ {Ba Bb : Hp} {αa αb : List Addr} {Sb : Sto} {Ha Hb : Hp} {u : HO}, Stp X.K Ba αa Ha Bb αb Sb Hb → Ba D = none → D ∉ αa → Ha D = some u → Bb D = none ∧ D ∉ αb ∧ Hb D = some u := fun {Ba Bb αa αb Sb Ha Hb u} st h1 h2 h3 => by
    refine ⟨?_, fun z => ?_, st.frame D _ h3 h2⟩
    · cases q : Bb D with
      | none => rfl
      | some o =>
        rcases st.newB D o q with z | z | z
        · rw [h1] at z; cases z
        · rw [h3] at z; cases z
        · exact absurd z h2
    · rcases st.newA D z with q | q
      · exact h2 q
      · rw [h3] at q; cases q
  refine ⟨xs.length, fun i H' => ∃ S' B' α' acc zs o, Stp X.K B1 α1 H1 B' α' S' H' ∧ B' D = none ∧ D ∉ α' ∧ H' D = some (pin D o) ∧ IsDict D o zs ∧ PRm X.K B' zs acc ∧
    dcL b tk tv (wipeD env (own.map (·.2))) (xs.drop i) acc S' (fun ms S2 => kvT X.K B α H Q (DV.p S2.length) (S2 ++ [SO.dic (ms.map fun q => (q.1, DV.d q.2))])), ⟨S1, B1, α1, [], [], o0, Stp.mut (Stp.refl s1.wd) hD hBD hαD, hBD, hαD, upd_same, is0, .nil, z⟩, fun i H' hi' ⟨S', B', α', acc, zs, o, st, d1, d2, d3, is, pr, z⟩ => ?_⟩
  have hGH : G H' := hG H' (st.bb.trans st.wd.ex)
  by_cases hlt : i < xs.length
  · refine .inl ⟨hlt, wgo i H' hlt hGH, fun x H'' hy => ?_⟩
    have hy := wyld i H' x H'' hlt hGH hy
    have ei : xs[i]? = some xs[i] := by simp [hlt]
    obtain ⟨B2, s2, r2⟩ := hY i xs[i] x H' H'' B' α' S' ei st.wd st.bb st.pre hy
    obtain ⟨f1, f2, f3⟩ := away s2 d1 d2 d3
    rw [List.drop_eq_getElem_cons hlt] at z
    obtain ⟨env1, eb, z⟩ := z
    have st2 := st.trans s2
    have rw0 := (relE_wipe (re.mono (s1.bb.trans st2.bb) (s1.trans st2).pre) (own.map (·.2)))
    refine hg.run B2 α' S' H'' x xs[i] _ env1 _ _ s2.wd r2 rw0 eb fun σ1 re1 hw => ⟨hw.trans (wipe_idem _ _), ?_⟩
    refine ⟨env1, S', B2, α', re1, s2.wd, mk _ _ _ _ _ _ (fun y S3 z3 yv H3 B3 α3 s3 r3 => ?_) (fun _ _ z => z.elim) z⟩
    obtain ⟨g1, g2, g3⟩ := away s3 f1 f2 f3
    refine ⟨env1, S3, B3, α3, re1.mono s3.bb s3.pre, s3.wd, mv _ _ _ _ _ _ (fun v S4 ⟨key, d, e1, e2, e3, z4⟩ vv H4 B4 α4 s4 r4 => ?_) (fun _ _ z => z.elim) z3⟩
    subst e2
    obtain ⟨k1, k2, k3⟩ := away s4 g1 g2 g3
    have pr' := ((pr.same s2.bb).same s3.bb).same s4.bb
    obtain ⟨b1, rfl, gd, kb⟩ := keyV_ok (r3.mono s4.bb s4.pre) e1
    refine ⟨o, zs, key, b1, rfl, ⟨k3, is, fun z hz => ?_⟩, gd, Dq.same s4.wd.ex kb, Nat.lt_of_le_of_lt (by rw [Paired.length pr']; exact e3) (by decide : 1000000 < sizeLine), fun o' is' => ?_⟩
    · obtain ⟨j, hj⟩ := List.getElem?_of_mem hz
      obtain ⟨q, _, q1, q2, _⟩ := paired_get pr' hj
      rw [q1]
      exact Dq.same s4.wd.ex q2
    · exact ⟨S4, B4, α4, putA acc key d, putZ zs key b1 vv, o', ((st2.trans s3).trans s4).mut hD k1 k2, k1, k2, upd_same, is', pr'.put kb r4, z4⟩
  · have e : i = xs.length := by omega
    subst e
    refine .inr ⟨rfl, wstop H' hGH, ?_⟩
    rw [List.drop_length] at z
    have hH : upd H' D (pin D o) = H' := by
      funext c
      by_cases hc : c = D
      · subst hc; rw [upd_same, d3]
      · rw [upd_ne hc]
    have st3 := st.storeNew (o := .dic (acc.map fun q => (q.1, .d q.2))) (ho := pin D o) hD d1 d2 ⟨o, zs, upd_same, is, PRk.ofM pr⟩
    rw [hH] at st3
    exact z _ _ _ _ (s1.trans st3) ⟨D, by rw [← st.wd.len]; simp, rfl⟩
theorem px_dc (c : Ctx X E k) (hi : PXI ga X E tg iter wi) (ok : BlkOk X.N X.env.scope scope own) (hg : PXC X scope tg b (own.map (·.2)) t)
    (hk : ∀ (s : Shared) (H : Hp) (C : Addr) (cl : List (Str × Addr)) (fp : List Addr), PX ga (X.blk s H scope (compEnvC scope cl C X.env) fp) W0 kx tk)
    (he : ∀ (s : Shared) (H : Hp) (C : Addr) (cl : List (Str × Addr)) (fp : List Addr), PX ga (X.blk s H scope (compEnvC scope cl C X.env) fp) W0 vx tv) (hs : ∀ x, foldedSetIterable iter X.env x = pure x := by intro _; rfl) :
    PX ga X E (.DictComp kx vx [⟨tg, iter, [], 0⟩] scope pos) (dcW wi b tk tv (own.map (·.2))) := by
  have mk := (hk X.s_0 X.H_0 0 [] []).mono
  have mv := (he X.s_0 X.H_0 0 [] []).mono
  exact ⟨mono_dcW hi.mono mk mv, ⟨fun pins s σ H Q I h => (pe_cdN c.u c.calm c.nd hi.run ok hg.pg (fun s H C cl fp => (hk s H C cl fp).run) (fun s H C cl fp => (he s H C cl fp).run) hs).run pins s σ H Q I (run_dc hi.mono hg mk mv h)⟩⟩
theorem pxs_setDc {i : Nat} {y : Str} {py spos : Pos} (c : Ctx X E k) (hy : X.N[i]? = some y) (hyl : X.env.scope.names.lookup y = some .local) (hsw : swapsWith (.DictComp kx vx [⟨tg, iter, [], 0⟩] scope pos) (some (.Name y py)) spos.line X.env = pure true)
    (hi : PXI ga X E tg iter wi) (ok : BlkOk X.N X.env.scope scope own) (hg : PXC X scope tg b (own.map (·.2)) t)
    (hk : ∀ (s : Shared) (H : Hp) (C : Addr) (cl : List (Str × Addr)) (fp : List Addr), PX ga (X.blk s H scope (compEnvC scope cl C X.env) fp) W0 kx tk)
    (he : ∀ (s : Shared) (H : Hp) (C : Addr) (cl : List (Str × Addr)) (fp : List Addr), PX ga (X.blk s H scope (compEnvC scope cl C X.env) fp) W0 vx tv) (hs : ∀ x, foldedSetIterable iter X.env x = pure x := by intro _; rfl) :
    PXS ga X E (.Assign [.Name y py] (.DictComp kx vx [⟨tg, iter, [], 0⟩] scope pos) spos) (asgS i (dcW wi b tk tv (own.map (·.2)))) := by
  have mk := (hk X.s_0 X.H_0 0 [] []).mono
  have mv := (he X.s_0 X.H_0 0 [] []).mono
  have me := mono_dcW (b := b) (vs := own.map (·.2)) hi.mono mk mv
  refine ⟨fun env S D D' h q => me env S _ _ _ _ (fun _ _ z => h.nx _ _ z) (h.ex env) q, ⟨fun pins s σ H D I h => (ps_setCdN (tk := eT X.K ga W0 tk) (tv := eT X.K ga W0 tv) c.u c.calm c.nd hy hyl hsw hi.run ok hg.pg (fun s H C cl fp => (hk s H C cl fp).run) (fun s H C cl fp => (he s H C cl fp).run) hs).run pins s σ H D I ?_⟩⟩
  obtain ⟨env, S, B, α, re, w, h⟩ := h
  refine run_dc hi.mono hg mk mv ⟨env, S, B, α, re, w, me env S _ _ _ _ (fun x S1 z v H1 B1 α1 s1 r1 => ?_) (fun _ _ z => kxS.at_ re z) h⟩
  exact z _ _ _ _ s1 ((re.mono s1.bb s1.pre).set i r1)
end
section
variable {ga : Str → Addr} {X : Cx} {E : WX} {N : List Str} {sc : Scope} {k : Nat} {x : Str} {pos : Pos}
theorem ydc {scope : Scope} {tg iter kx vx : Expr} {wi : DI} {tk tv : DE} {b : DB} {t : TG} {y : Str} {i : Nat} {py spos : Pos} (n : Nf X N sc) (c : Ctx X E k) (hi : PXI ga X E tg iter wi) (own : List (Str × Nat)) (hg : PXC X scope tg b (own.map (·.2)) t)
    (hk : ∀ (s : Shared) (H : Hp) (C : Addr) (cl : List (Str × Addr)) (fp : List Addr), Nm (X.blk s H scope (compEnvC scope cl C X.env) fp) N (relS scope sc) → Ctx (X.blk s H scope (compEnvC scope cl C X.env) fp) W0 k → PX ga (X.blk s H scope (compEnvC scope cl C X.env) fp) W0 kx tk)
    (he : ∀ (s : Shared) (H : Hp) (C : Addr) (cl : List (Str × Addr)) (fp : List Addr), Nm (X.blk s H scope (compEnvC scope cl C X.env) fp) N (relS scope sc) → Ctx (X.blk s H scope (compEnvC scope cl C X.env) fp) W0 k → PX ga (X.blk s H scope (compEnvC scope cl C X.env) fp) W0 vx tv)
    (hy : llB N sc i y = true := by decide +kernel) (hf : (match sc.kind with | .function => true | _ => false) = true := by decide +kernel) (hl : (py.line == pos.line) = true := by decide +kernel) (ha : (scope.names.any fun (n, k) => n == y && (k == .local || k == .cell)) = false := by decide +kernel)
    (hb : blkC N sc scope own = true := by decide +kernel) (hs : ∀ x, foldedSetIterable iter X.env x = pure x := by intro _; rfl) : PXS ga X E (.Assign [.Name y py] (.DictComp kx vx [⟨tg, iter, [], 0⟩] scope pos) spos) (asgS i (dcW wi b tk tv (own.map (·.2)))) :=
  let ⟨h1, h2⟩ := llB_ok n.toNm hy
  pxs_setDc c h1 h2 (sw_d (by rw [n.hs]; revert hf; cases sc.kind <;> intro h <;> first | rfl | cases h) h2 hl ha) hi (by rw [n.hN, n.hs]; exact blkOk_by hb) hg (fun s H C cl fp => hk s H C cl fp n.blk (c.blk s H _ fp)) (fun s H C cl fp => he s H C cl fp n.blk (c.blk s H _ fp)) hs
where
  sw_d {kx vx : Expr} {gs : List Comprehension} {scope : Scope} {pos py : Pos} {y : Str} {l : Nat} {env : Env} (hk : env.scope.kind = .function) (hy : env.scope.names.lookup y = some .local) (hl : (py.line == pos.line) = true)
    (ha : (scope.names.any fun (n, k) => n == y && (k == .local || k == .cell)) = false) : swapsWith (.DictComp kx vx gs scope pos) (some (.Name y py)) l env = pure true := by
    have ky : env.kindOf y = some .local := hy
    have hb : env.blockKind = .function := by unfold Env.blockKind; rw [hk]; rfl
    unfold swapsWith
    simp only [hb, ky, ha, Expr.pos, hl]
    rfl
theorem xdc {scope : Scope} {tg iter kx vx : Expr} {wi : DI} {tk tv : DE} {b : DB} {t : TG} (n : Nm X N sc) (c : Ctx X E k) (hi : PXI ga X E tg iter wi) (own : List (Str × Nat)) (hg : PXC X scope tg b (own.map (·.2)) t)
    (hk : ∀ (s : Shared) (H : Hp) (C : Addr) (cl : List (Str × Addr)) (fp : List Addr), Nm (X.blk s H scope (compEnvC scope cl C X.env) fp) N (relS scope sc) → Ctx (X.blk s H scope (compEnvC scope cl C X.env) fp) W0 k → PX ga (X.blk s H scope (compEnvC scope cl C X.env) fp) W0 kx tk)
    (he : ∀ (s : Shared) (H : Hp) (C : Addr) (cl : List (Str × Addr)) (fp : List Addr), Nm (X.blk s H scope (compEnvC scope cl C X.env) fp) N (relS scope sc) → Ctx (X.blk s H scope (compEnvC scope cl C X.env) fp) W0 k → PX ga (X.blk s H scope (compEnvC scope cl C X.env) fp) W0 vx tv)
    (hb : blkC N sc scope own = true := by decide +kernel) (hs : ∀ x, foldedSetIterable iter X.env x = pure x := by intro _; rfl) : PX ga X E (.DictComp kx vx [⟨tg, iter, [], 0⟩] scope pos) (dcW wi b tk tv (own.map (·.2))) :=
  px_dc c hi (by rw [n.hN, n.hs]; exact blkOk_by hb) hg (fun s H C cl fp => hk s H C cl fp n.blk (c.blk s H _ fp)) (fun s H C cl fp => he s H C cl fp n.blk (c.blk s H _ fp)) hs
end
instance {r : DI} {b : DB} {a c : DE} {vs} [MA r] [ME a] [ME c] : ME (dcW r b a c vs) := ⟨mono_dcW MA.mono ME.mono ME.mono⟩
end DW

set_option Elab.async false
set_option linter.all false
set_option maxRecDepth 100000
set_option maxHeartbeats 4000000
set_option autoImplicit false
/-! DX11: small rules by Booleans. -/
namespace DW
open PySem L2
theorem swS {o i : Expr} {p py pt pt2 : Pos} {y : Str} {kt k2 : Nat} {vs : List Expr} {env : Env} : swappedStores [.Tuple [.Subscript o i p, .Name y py] kt pt] (.Tuple vs k2 pt2) env = pure none := by
  have key : ∀ f : Expr → Option Str, f (.Subscript o i p) = none → ((([.Subscript o i p, .Name y py] : List Expr).filterMap f).length != ([.Subscript o i p, .Name y py] : List Expr).length) = true := by
    intro f hf
    cases h : f (.Name y py) with
    | none => simp [List.filterMap, hf, h]
    | some z => simp [List.filterMap, hf, h]
  unfold swappedStores
  dsimp only
  split
  · rfl
  split
  · rfl
  rw [if_pos]
  rw [Bool.or_eq_true]
  exact .inl (key _ rfl)
section
variable {ga : Str → Addr} {X : Cx} {E : WX} {N : List Str} {sc : Scope} {k : Nat} {e : Expr} {we : DE} {p pos : Pos} {l : List Str}
theorem xdict (n : Nm X N sc) (hB : Bi l X.mg) (c : Ctx X E k) (he : PX ga X E e we) (hl : ("dict" : Str) ∈ l := by decide +kernel) (hgl : gB sc "dict" = true := by decide +kernel)
    (hs : starEach [e] X.env = (false, eval e X.env) :: starEach [] X.env := by rfl) (hpl : (backTo pos (starEach [] X.env)).any (·.1) = false := by rfl) : PX ga X E (.Call (.Name "dict" p) [e] [] pos) (dictW we) :=
  let ⟨h1, _, _⟩ := gB_ok n hgl
  px_dict c h1 (hB _ hl) he hs hpl
end
end DW

set_option Elab.async false
set_option linter.all false
set_option maxRecDepth 100000
set_option maxHeartbeats 4000000
set_option autoImplicit false
/-! DX12: sorted of texts, tuples of texts, ints; comprehensions of two clauses. -/
namespace DW
open PySem L2

/-! ### sorted -/
def isStrB : PyData → Bool
  | .str _ => true
  | _ => false
def isIntB : PyData → Bool
  | .int _ => true
  | _ => false
def tupSB : PyData → Bool
  | .tuple (x :: r) => (x :: r).all isStrB
  | _ => false
def okSort (ds : List PyData) : Bool := ds.all isStrB || (ds.all isIntB || ds.all tupSB)
noncomputable def sortD (ds : List PyData) : List PyData := ds.mergeSort (PySem.W.dataLe false id)
noncomputable def sortedD : List DV → Sto → Option DV
  | [x], S => (match seqD x S with
    | some (true, ds) => if okSort ds = true ∧ ds.length ≤ 1000000 then some (.d (.list (sortD ds))) else none
    | _ => none)
  | _, _ => none
theorem alike_str {a b : PyData} (ha : isStrB a = true) (hb : isStrB b = true) : PySem.W.alike a b = true := by
  cases a <;> first | (cases ha; done) | skip
  cases b <;> first | (cases hb; done) | rfl
theorem alike_int {a b : PyData} (ha : isIntB a = true) (hb : isIntB b = true) : PySem.W.alike a b = true := by
  cases a <;> first | (cases ha; done) | skip
  cases b <;> first | (cases hb; done) | rfl
theorem alike_strs : ∀ {xs ys : List PyData}, xs.all isStrB = true → ys.all isStrB = true → PySem.W.alikeAll xs ys = true
  | [], _, _, _ => by unfold PySem.W.alikeAll; rfl
  | _ :: _, [], _, _ => by unfold PySem.W.alikeAll; rfl
  | x :: xs, y :: ys, h, g => by
    simp only [List.all_cons, Bool.and_eq_true] at h g
    rw [PySem.W.alikeAll, Bool.and_eq_true]
    exact ⟨alike_str h.1 g.1, alike_strs h.2 g.2⟩
theorem alike_tup {a b : PyData} (ha : tupSB a = true) (hb : tupSB b = true) : PySem.W.alike a b = true := by
  cases a with
  | tuple xs => cases b with
    | tuple ys =>
      cases xs with
      | nil => cases ha
      | cons x xs => cases ys with
        | nil => cases hb
        | cons y ys =>
          rw [PySem.W.alike]
          exact alike_strs ha hb
    | _ => cases hb
  | _ => cases ha
theorem depth_strs : ∀ {xs : List PyData}, xs.all isStrB = true → PyData.depthAll xs = 0
  | [], _ => rfl
  | x :: xs, h => by
    simp only [List.all_cons, Bool.and_eq_true] at h
    have := depth_strs h.2
    cases x <;> first | (cases h.1; done) | skip
    simp [PyData.depthAll, PyData.depth, this]
theorem ok_alike {ds : List PyData} (h : okSort ds = true) : PySem.W.AllAlike ds := by
  intro a ha b hb
  unfold okSort at h
  rw [Bool.or_eq_true, Bool.or_eq_true] at h
  rcases h with h | h | h
  · exact alike_str (List.all_eq_true.mp h a ha) (List.all_eq_true.mp h b hb)
  · exact alike_int (List.all_eq_true.mp h a ha) (List.all_eq_true.mp h b hb)
  · exact alike_tup (List.all_eq_true.mp h a ha) (List.all_eq_true.mp h b hb)
theorem ok_sortable {ds : List PyData} (h : okSort ds = true) : PySem.W.Sortable ds := by
  unfold okSort at h
  rw [Bool.or_eq_true, Bool.or_eq_true] at h
  rcases h with h | h | h
  · refine .inr fun d hd => ?_
    have := List.all_eq_true.mp h d hd
    cases d <;> first | (cases this; done) | exact ⟨(fun e => by cases e), fun _ e => by cases e⟩
  · refine .inr fun d hd => ?_
    have := List.all_eq_true.mp h d hd
    cases d <;> first | (cases this; done) | exact ⟨(fun e => by cases e), fun _ e => by cases e⟩
  · refine .inl fun d hd => ?_
    have := List.all_eq_true.mp h d hd
    cases d with
    | tuple xs => cases xs with
      | nil => cases this
      | cons x r => exact ⟨x, r, rfl⟩
    | _ => cases this
theorem ok_depth {ds : List PyData} (h : okSort ds = true) : ∀ d ∈ ds, d.depth ≤ 1 := by
  intro d hd
  unfold okSort at h
  rw [Bool.or_eq_true, Bool.or_eq_true] at h
  rcases h with h | h | h
  · have := List.all_eq_true.mp h d hd
    cases d <;> first | (cases this; done) | simp [PyData.depth]
  · have := List.all_eq_true.mp h d hd
    cases d <;> first | (cases this; done) | simp [PyData.depth]
  · have := List.all_eq_true.mp h d hd
    cases d with
    | tuple xs => cases xs with
      | nil => cases this
      | cons x r =>
        have := depth_strs (xs := x :: r) this
        simp [PyData.depth, this]
    | _ => cases this
def rSortedD (K : PySem.W.Frag) : List V → Hp → VK → Prop := fun vs H Q => ∃ (a : Addr) (ys : List V) (ds : List PyData) (P : V → PyData → Prop), vs = [V.ref a] ∧ SqL K H a ys ∧ DpAll K H ys ds ∧ okSort ds = true ∧ ds.length ≤ 1000000 ∧ PySem.W.EachIs P ys ds ∧
  ∀ (zs : List V) (p : Addr), PySem.W.EachIs P zs (sortD ds) → H p = none → Q (.ref p) (upd H p (.lst zs))
theorem each_rel {P : V → PyData → Prop} : ∀ {ys : List V} {us : List Value} {ds : List PyData}, Vals ys us → PySem.W.EachIs P ys ds → PySem.W.EachIs (fun u d => ∃ x, RelV x u ∧ P x d) us ds
  | _, _, _, .nil, .nil => .nil
  | _, _, _, .cons r rs, .cons p ps => .cons ⟨_, r, p⟩ (each_rel rs ps)
theorem each_back {P : V → PyData → Prop} : ∀ {us : List Value} {ds : List PyData}, PySem.W.EachIs (fun u d => ∃ x, RelV x u ∧ P x d) us ds → ∃ zs, Vals zs us ∧ PySem.W.EachIs P zs ds
  | _, _, .nil => ⟨[], .nil, .nil⟩
  | _, _, .cons ⟨x, r, p⟩ t => by
    obtain ⟨zs, h1, h2⟩ := each_back t
    exact ⟨x :: zs, .cons r h1, .cons p h2⟩
theorem each_dq {K : PySem.W.Frag} {B : Hp} : ∀ {vs : List V} {ds : List PyData}, DqAll K B vs ds → PySem.W.EachIs (fun v d => Dq K B v d) vs ds
  | _, _, .nil => .nil
  | _, _, .cons h r => .cons h (each_dq r)
theorem dq_each {K : PySem.W.Frag} {B : Hp} : ∀ {vs : List V} {ds : List PyData}, PySem.W.EachIs (fun v d => Dq K B v d) vs ds → DqAll K B vs ds
  | _, _, .nil => .nil
  | _, _, .cons h r => .cons h (dq_each r)
theorem cr_sortedD {X : Cx} (hu : X.A.units + 64 < cLine) : CallR X (.builtin "sorted") (rSortedD X.K) := by
  intro pins s σ H vs us Q I r h
  obtain ⟨a, ys, ds, P, rfl, hs, hd, hok, hlen, hP, q⟩ := h
  obtain ⟨its, rv, hl, hz⟩ := I.list hs
  rw [Vals.ref1 r]
  obtain ⟨as, hr⟩ := Dp.readsAll I ds ys its hd rv
  have er : PySem.W.EachIs (fun v b => ∃ as, Reads s.heap v (id b) as) its ds := PySem.W.readsAll_each id (by rw [List.map_id]; exact hr)
  have hl2 : ds.length ≤ sizeLine := Nat.le_trans hlen (by decide)
  refine PySem.W.sorted_data (enc := id) (bs := ds) (R := fun u d => ∃ x, RelV x u ∧ P x d) hl.isList (each_rel rv hP) er (by rw [List.map_id]; exact ok_alike hok) (by rw [List.map_id]; exact ok_sortable hok) hl2
    (fun b hb => ?_) fun out ho eo => ?_
  · have := ok_depth hok b hb
    show X.A.units + 2 + b.depth < cLine
    omega
  · obtain ⟨zs, h1, h2⟩ := each_back eo
    obtain ⟨ep, he'⟩ := PyProof.Rows.sortedAll_at s.heap its out.toArray
    have hzl : zs.length ≤ sizeLine := by rw [Vals.length h1, ho]; exact hl2
    exact ⟨.ref _, upd H (s.heap.objs.size + 1) (.lst zs), I.laid (t' := s.toks) (fun _ _ => PyProof.Rows.sortedAll_old) (Nat.le_succ _) ⟨hzl, out, ep, h1, he'⟩, rfl, q _ _ h2 (I.hok.fresh (Nat.le_succ _))⟩
theorem n_sorted {K : PySem.W.Frag} : OpN K (rSortedD K) sortedD := by
  intro B α S H vs xs z w r e Q h
  unfold sortedD at e
  split at e
  · rename_i x _
    obtain ⟨v, rfl, rv⟩ := vr1 r
    split at e
    · rename_i ds q
      split at e
      · rename_i hl
        cases e
        obtain ⟨a, ws, rfl, h1, h2⟩ := seq_ok w rv q
        exact ⟨a, ws, ds, fun v d => Dq K B v d, rfl, h1, DpAll.same' w.ex h2, hl.1, hl.2, each_dq h2, fun zs p hz hp => kv_lst w hp (dq_each hz) h⟩
      · cases e
    · cases e
  · cases e

/-! sorted already -/
theorem dle_total : PySem.W.TotalLe (PySem.W.dataLe false (id : PyData → PyData)) := PySem.W.sortLe_total _ _ _
def adjB : List PyData → Bool
  | x :: y :: r => PySem.W.dataLe false (id : PyData → PyData) x y && adjB (y :: r)
  | _ => true
theorem adj_pw : ∀ l : List PyData, adjB l = true → l.Pairwise fun a b => PySem.W.dataLe false (id : PyData → PyData) a b = true
  | [], _ => .nil
  | [x], _ => List.pairwise_singleton _ _
  | x :: y :: r, h => by
    unfold adjB at h
    rw [Bool.and_eq_true] at h
    have ih := adj_pw (y :: r) h.2
    refine List.pairwise_cons.mpr ⟨fun z hz => ?_, ih⟩
    rcases List.mem_cons.mp hz with rfl | hz
    · exact h.1
    · exact dle_total.trans _ _ _ h.1 ((List.pairwise_cons.mp ih).1 z hz)
theorem sortD_id {l : List PyData} (h : adjB l = true) : sortD l = l := by
  unfold sortD
  exact List.mergeSort_of_pairwise (adj_pw l h)
theorem sortD_mem {l : List PyData} {d : PyData} : d ∈ sortD l ↔ d ∈ l := List.mem_mergeSort
theorem sortD_len {l : List PyData} : (sortD l).length = l.length := List.length_mergeSort l

/-! ### [e for x in a if .. for y in b if ..] -/
def lc2L (b : DB) (tt : DT) (wi1 : DI) (b1 : DB) (tt1 : DT) (te : DE) (vs1 : List Nat) (env0 : DEnv) : List DV → List PyData → Sto → (List PyData → Sto → Prop) → Prop
  | [], acc, S, k => k acc S
  | x :: r, acc, S, k => ∃ env1, b x env0 = some env1 ∧ tt env1 S (fun c S2 => if c = true then wi1 env1 S2 (fun ys S3 => lcL b1 tt1 te (wipeD env1 vs1) ys acc S3 (fun acc' S4 => lc2L b tt wi1 b1 tt1 te vs1 env0 r acc' S4 k)) F0 else lc2L b tt wi1 b1 tt1 te vs1 env0 r acc S2 k) F0
def lc2W (wi : DI) (b : DB) (tt : DT) (wi1 : DI) (b1 : DB) (tt1 : DT) (te : DE) (vs vs1 : List Nat) : DE := fun env S k kx => wi env S (fun xs S1 => lc2L b tt wi1 b1 tt1 te vs1 (wipeD env vs) xs [] S1 (fun ds S2 => k (.d (.list ds)) S2)) kx
section
variable {ga : Str → Addr} {X : Cx} {E : WX} {tg iter tg1 iter1 elt : Expr} {ifs ifs1 : List Expr} {wi wi1 : DI} {tt tt1 : DT} {te : DE} {pos : Pos} {k : Nat} {scope : Scope} {own : List (Str × Nat)} {b b1 : DB} {t t1 : TG} {vs vs1 : List Nat}
theorem mono_lc2 (mt : MonoT tt) (mi : MonoA wi1) (mt1 : MonoT tt1) (me : MonoE te) {env0 : DEnv} : ∀ (xs : List DV) (acc : List PyData) (S : Sto) (k k' : List PyData → Sto → Prop), (∀ a S, k a S → k' a S) → lc2L b tt wi1 b1 tt1 te vs1 env0 xs acc S k → lc2L b tt wi1 b1 tt1 te vs1 env0 xs acc S k'
  | [], _, _, _, _, h, q => h _ _ q
  | x :: r, acc, S, k, k', h, ⟨env1, e, q⟩ => ⟨env1, e, mt _ _ _ _ _ _ (fun c S2 z => by
    cases c with
    | true => exact mi _ _ _ _ _ _ (fun ys S3 z3 => mono_lc mt1 me ys acc S3 _ _ (fun acc' S4 z4 => mono_lc2 mt mi mt1 me r acc' S4 k k' h z4) z3) (fun _ _ z => z) z
    | false => exact mono_lc2 mt mi mt1 me r acc S2 k k' h z) (fun _ _ z => z) q⟩
theorem mono_lc2W (hi : MonoA wi) (mt : MonoT tt) (mi : MonoA wi1) (mt1 : MonoT tt1) (me : MonoE te) : MonoE (lc2W wi b tt wi1 b1 tt1 te vs vs1) := fun env S k k' x x' hk hx h => hi env S _ _ _ _ (fun xs S1 z => mono_lc2 mt mi mt1 me xs [] S1 _ _ (fun a S z => hk _ _ z) z) hx h
theorem run_lc2 (hi : MonoA wi) (hg : PXC X scope tg b (own.map (·.2)) t) (mt : MonoT tt) (mi : MonoA wi1) (hg1 : PXC X scope tg1 b1 vs1 t1) (mt1 : MonoT tt1) (me : MonoE te) {σ : St} {H : Hp} {Q : VK} (h : eT X.K ga E (lc2W wi b tt wi1 b1 tt1 te (own.map (·.2)) vs1) σ H Q) :
    tLc2 (iT X.K ga E wi) t (tT X.K ga W0 tt) (iT X.K ga W0 wi1) t1 (tT X.K ga W0 tt1) (eT X.K ga W0 te) (own.map (·.2)) vs1 σ H Q := by
  obtain ⟨env, S, B, α, re, w, h⟩ := h
  refine ⟨env, S, B, α, re, w, hi env S _ _ _ _ (fun xs S1 z J H1 B1 α1 s1 okJ => ?_) (fun _ _ z => z) h⟩
  intro D hD
  obtain ⟨G, Y, wk, hG, hY⟩ := okJ
  have hBD : B1 D = none := s1.wd.ex.free hD
  have hαD : D ∉ α1 := fun z => by
    obtain ⟨u, hu⟩ := s1.wd.trk D z
    rw [hD] at hu; cases hu
  have away : ∀ {Ba Bb : Hp} {αa αb : List Addr} {Sb : Sto} {Ha Hb : Hp} {vs : List V}, Stp X.K Ba αa Ha Bb αb Sb Hb → Ba D = none → D ∉ αa → Ha D = some (.lst vs) → Bb D = none ∧ D ∉ αb ∧ Hb D = some (.lst vs) := fun {Ba Bb αa αb Sb Ha Hb vs} st h1 h2 h3 => by
    refine ⟨?_, fun z => ?_, st.frame D _ h3 h2⟩
    · cases q : Bb D with
      | none => rfl
      | some o =>
        rcases st.newB D o q with z | z | z
        · rw [h1] at z; cases z
        · rw [h3] at z; cases z
        · exact absurd z h2
    · rcases st.newA D z with q | q
      · exact h2 q
      · rw [h3] at q; cases q
  let Kf : List PyData → Sto → Prop := fun ds S2 => kvT X.K B α H Q (.d (.list ds)) S2
  let Pv : Nat → Hp → Prop := fun i H' => ∃ S' B' α' acc vs, Stp X.K B1 α1 H1 B' α' S' H' ∧ B' D = none ∧ D ∉ α' ∧ H' D = some (.lst vs) ∧ DqAll X.K B' vs acc ∧ lc2L b tt wi1 b1 tt1 te vs1 (wipeD env (own.map (·.2))) (xs.drop i) acc S' Kf
  refine ⟨fun i m H' => m = xs.length - i ∧ i ≤ xs.length ∧ Pv i H', ⟨xs.length, by simp, Nat.zero_le _, S1, B1, α1, [], [], s1.wd.extra hD, hBD, hαD, upd_same, .nil, z⟩, ?_⟩
  rintro i m H' ⟨rfl, hi', S', B', α', acc, vs, st, d1, d2, d3, d4, z⟩
  have hg0 : G H' := hG H' (st.bb.trans st.wd.ex)
  by_cases hlt : i < xs.length
  · refine .inr ⟨wk.goes i H' hlt hg0, Pv (i + 1), fun H'' p' => ⟨xs.length - (i + 1), by omega, rfl, hlt, p'⟩, fun v H'' hy => ?_⟩
    have ei : xs[i]? = some xs[i] := by simp [hlt]
    obtain ⟨B2, s2, r2⟩ := hY i xs[i] v H' H'' B' α' S' ei st.wd st.bb st.pre (wk.yields i H' v H'' hlt hg0 hy)
    obtain ⟨f1, f2, f3⟩ := away s2 d1 d2 d3
    rw [List.drop_eq_getElem_cons hlt] at z
    obtain ⟨env1, eb, z⟩ := z
    have st2 := st.trans s2
    have rw0 := (relE_wipe (re.mono (s1.bb.trans st2.bb) (s1.trans st2).pre) (own.map (·.2)))
    refine hg.run B2 α' S' H'' v xs[i] _ env1 _ _ s2.wd r2 rw0 eb fun σ1 re1 hw => ⟨hw.trans (wipe_idem _ _), ?_⟩
    refine ⟨env1, S', B2, α', re1, s2.wd, mt _ _ _ _ _ _ (fun c S3 z3 H3 B3 α3 s3 => ?_) (fun _ _ z => z.elim) z⟩
    obtain ⟨g1, g2, g3⟩ := away s3 f1 f2 f3
    cases c with
    | false => exact ⟨S3, B3, α3, acc, vs, st2.trans s3, g1, g2, g3, (d4.same s2.bb).same s3.bb, z3⟩
    | true =>
      refine ⟨env1, S3, B3, α3, re1.mono s3.bb s3.pre, s3.wd, mi _ _ _ _ _ _ (fun ys S4 z4 J1 H4 B4 α4 s4 okJ1 => ?_) (fun _ _ z => z.elim) z3⟩
      obtain ⟨k1, k2, k3⟩ := away s4 g1 g2 g3
      obtain ⟨G1, Y1, wk1, hG1, hY1⟩ := okJ1
      have st4 := (st2.trans s3).trans s4
      have re4 : RelE X.K B4 α4 env1 σ1 := (re1.mono s3.bb s3.pre).mono s4.bb s4.pre
      have d4' := ((d4.same s2.bb).same s3.bb).same s4.bb
      let Pw : Nat → Hp → Prop := fun j H' => ∃ S5 B5 α5 acc5 vs5, Stp X.K B1 α1 H1 B5 α5 S5 H' ∧ Same B4 B5 ∧ (∃ t, α5 = α4 ++ t) ∧ B5 D = none ∧ D ∉ α5 ∧ H' D = some (.lst vs5) ∧ DqAll X.K B5 vs5 acc5 ∧
        lcL b1 tt1 te (wipeD env1 vs1) (ys.drop j) acc5 S5 (fun acc' S6 => lc2L b tt wi1 b1 tt1 te vs1 (wipeD env (own.map (·.2))) (xs.drop (i + 1)) acc' S6 Kf)
      refine ⟨fun j m H' => m = ys.length - j ∧ j ≤ ys.length ∧ Pw j H', ⟨ys.length, by simp, Nat.zero_le _, S4, B4, α4, acc, vs, st4, Same.refl _, ⟨[], by simp⟩, k1, k2, k3, d4', z4⟩, ?_⟩
      rintro j m H5 ⟨rfl, hj', S5, B5, α5, acc5, vs5, st5, sm5, pr5, p1, p2, p3, p4, z5⟩
      have hg5 : G1 H5 := hG1 H5 (sm5.trans st5.wd.ex)
      by_cases hlt5 : j < ys.length
      · refine .inr ⟨wk1.goes j H5 hlt5 hg5, Pw (j + 1), fun H'' p' => ⟨ys.length - (j + 1), by omega, rfl, hlt5, p'⟩, fun v1 H6 hy1 => ?_⟩
        have ej : ys[j]? = some ys[j] := by simp [hlt5]
        obtain ⟨B6, s6, r6⟩ := hY1 j ys[j] v1 H5 H6 B5 α5 S5 ej st5.wd sm5 pr5 (wk1.yields j H5 v1 H6 hlt5 hg5 hy1)
        obtain ⟨q1, q2, q3⟩ := away s6 p1 p2 p3
        rw [List.drop_eq_getElem_cons hlt5] at z5
        obtain ⟨env2, eb2, z5⟩ := z5
        have rw1 := relE_wipe ((re4.mono sm5 pr5).mono s6.bb s6.pre) vs1
        refine hg1.run B6 α5 S5 H6 v1 ys[j] _ env2 _ _ s6.wd r6 rw1 eb2 fun σ3 re3 hw3 => ⟨hw3.trans (wipe_idem _ _), ?_⟩
        refine ⟨env2, S5, B6, α5, re3, s6.wd, mt1 _ _ _ _ _ _ (fun c S7 z7 H7 B7 α7 s7 => ?_) (fun _ _ z => z.elim) z5⟩
        obtain ⟨u1, u2, u3⟩ := away s7 q1 q2 q3
        have st7 := (st5.trans s6).trans s7
        have pr7 : ∃ t, α7 = α4 ++ t := by
          obtain ⟨t, rfl⟩ := pr5
          obtain ⟨t', rfl⟩ := s7.pre
          exact ⟨t ++ t', by simp⟩
        cases c with
        | false => exact ⟨S7, B7, α7, acc5, vs5, st7, (sm5.trans s6.bb).trans s7.bb, pr7, u1, u2, u3, (p4.same s6.bb).same s7.bb, z7⟩
        | true =>
          refine ⟨env2, S7, B7, α7, re3.mono s7.bb s7.pre, s7.wd, me _ _ _ _ _ _ (fun y S8 z8 yv H8 B8 α8 s8 r8 => ?_) (fun _ _ z => z.elim) z7⟩
          obtain ⟨d, rfl, hl, z8⟩ := z8
          obtain ⟨x1, x2, x3⟩ := away s8 u1 u2 u3
          have dq := ((p4.same s6.bb).same s7.bb).same s8.bb
          have pr8 : ∃ t, α8 = α4 ++ t := by
            obtain ⟨t, rfl⟩ := pr7
            obtain ⟨t', rfl⟩ := s8.pre
            exact ⟨t ++ t', by simp⟩
          exact ⟨vs5, x3, Nat.lt_of_le_of_lt (by rw [dq.len]; exact hl) (by decide : 1000000 < sizeLine), S8, B8, α8, acc5 ++ [d], vs5 ++ [yv], (st7.trans s8).mut hD x1 x2, ((sm5.trans s6.bb).trans s7.bb).trans s8.bb, pr8, x1, x2, upd_same, dq.append (.cons r8 .nil), z8⟩
      · have e : j = ys.length := by omega
        subst e
        rw [List.drop_length] at z5
        exact .inl ⟨wk1.stops H5 hg5, S5, B5, α5, acc5, vs5, st5, p1, p2, p3, p4, z5⟩
  · have e : i = xs.length := by omega
    subst e
    rw [List.drop_length] at z
    have st3 := st.adopt hD d1 d2 d3
    exact .inl ⟨wk.stops H' hg0, z _ _ _ _ (s1.trans st3) (.lst upd_same (d4.same (Same.upd_none d1)))⟩
theorem px_lc2 (c : Ctx X E k) (hi : PXI ga X E tg iter wi) (ok : BlkOk X.N X.env.scope scope own) (hv : ∀ i ∈ vs1, i ∈ own.map (·.2)) (hg : PXC X scope tg b (own.map (·.2)) t) (hg1 : PXC X scope tg1 b1 vs1 t1)
    (ht : ∀ (s : Shared) (H : Hp) (C : Addr) (cl : List (Str × Addr)) (fp : List Addr), PXF ga (X.blk s H scope (compEnvC scope cl C X.env) fp) W0 ifs tt)
    (hi1 : ∀ (s : Shared) (H : Hp) (C : Addr) (cl : List (Str × Addr)) (fp : List Addr), PXI ga (X.blk s H scope (compEnvC scope cl C X.env) fp) W0 tg1 iter1 wi1)
    (ht1 : ∀ (s : Shared) (H : Hp) (C : Addr) (cl : List (Str × Addr)) (fp : List Addr), PXF ga (X.blk s H scope (compEnvC scope cl C X.env) fp) W0 ifs1 tt1)
    (he : ∀ (s : Shared) (H : Hp) (C : Addr) (cl : List (Str × Addr)) (fp : List Addr), PX ga (X.blk s H scope (compEnvC scope cl C X.env) fp) W0 elt te) (hs : ∀ x, foldedSetIterable iter X.env x = pure x := by intro _; rfl) (hs1 : ∀ env x, foldedSetIterable iter1 env x = pure x := by intro _ _; rfl) :
    PX ga X E (.ListComp elt [⟨tg, iter, ifs, 0⟩, ⟨tg1, iter1, ifs1, 0⟩] scope pos) (lc2W wi b tt wi1 b1 tt1 te (own.map (·.2)) vs1) := by
  have mt := (ht X.s_0 X.H_0 0 [] []).mono
  have mi := (hi1 X.s_0 X.H_0 0 [] []).mono
  have mt1 := (ht1 X.s_0 X.H_0 0 [] []).mono
  have me := (he X.s_0 X.H_0 0 [] []).mono
  exact ⟨mono_lc2W hi.mono mt mi mt1 me,
    ⟨fun pins s σ H Q I h => (pe_lc2 (tt := tT X.K ga W0 tt) (wi1 := iT X.K ga W0 wi1) (tt1 := tT X.K ga W0 tt1) (te := eT X.K ga W0 te) c.calm c.nd hi.run ok hv hg.pg (fun s H C cl fp => (ht s H C cl fp).run) (fun s H C cl fp => (hi1 s H C cl fp).run) hg1.pg (fun s H C cl fp => (ht1 s H C cl fp).run) (fun s H C cl fp => (he s H C cl fp).run) hs hs1).run pins s σ H Q I (run_lc2 hi.mono hg mt mi hg1 mt1 me h)⟩⟩
theorem pxs_setLc2 {i : Nat} {y : Str} {py spos : Pos} (c : Ctx X E k) (hy : X.N[i]? = some y) (hyl : X.env.scope.names.lookup y = some .local) (hsw : swapsWith (.ListComp elt [⟨tg, iter, ifs, 0⟩, ⟨tg1, iter1, ifs1, 0⟩] scope pos) (some (.Name y py)) spos.line X.env = pure true)
    (hi : PXI ga X E tg iter wi) (ok : BlkOk X.N X.env.scope scope own) (hv : ∀ i ∈ vs1, i ∈ own.map (·.2)) (hg : PXC X scope tg b (own.map (·.2)) t) (hg1 : PXC X scope tg1 b1 vs1 t1)
    (ht : ∀ (s : Shared) (H : Hp) (C : Addr) (cl : List (Str × Addr)) (fp : List Addr), PXF ga (X.blk s H scope (compEnvC scope cl C X.env) fp) W0 ifs tt)
    (hi1 : ∀ (s : Shared) (H : Hp) (C : Addr) (cl : List (Str × Addr)) (fp : List Addr), PXI ga (X.blk s H scope (compEnvC scope cl C X.env) fp) W0 tg1 iter1 wi1)
    (ht1 : ∀ (s : Shared) (H : Hp) (C : Addr) (cl : List (Str × Addr)) (fp : List Addr), PXF ga (X.blk s H scope (compEnvC scope cl C X.env) fp) W0 ifs1 tt1)
    (he : ∀ (s : Shared) (H : Hp) (C : Addr) (cl : List (Str × Addr)) (fp : List Addr), PX ga (X.blk s H scope (compEnvC scope cl C X.env) fp) W0 elt te) (hs : ∀ x, foldedSetIterable iter X.env x = pure x := by intro _; rfl) (hs1 : ∀ env x, foldedSetIterable iter1 env x = pure x := by intro _ _; rfl) :
    PXS ga X E (.Assign [.Name y py] (.ListComp elt [⟨tg, iter, ifs, 0⟩, ⟨tg1, iter1, ifs1, 0⟩] scope pos) spos) (asgS i (lc2W wi b tt wi1 b1 tt1 te (own.map (·.2)) vs1)) := by
  have mt := (ht X.s_0 X.H_0 0 [] []).mono
  have mi := (hi1 X.s_0 X.H_0 0 [] []).mono
  have mt1 := (ht1 X.s_0 X.H_0 0 [] []).mono
  have me := (he X.s_0 X.H_0 0 [] []).mono
  have mm : MonoE (lc2W wi b tt wi1 b1 tt1 te (own.map (·.2)) vs1) := mono_lc2W hi.mono mt mi mt1 me
  refine ⟨fun env S D D' h q => mm env S _ _ _ _ (fun _ _ z => h.nx _ _ z) (h.ex env) q, ⟨fun pins s σ H D I h => (ps_setLc2 (tt := tT X.K ga W0 tt) (wi1 := iT X.K ga W0 wi1) (tt1 := tT X.K ga W0 tt1) (te := eT X.K ga W0 te) c.calm c.nd hy hyl hsw hi.run ok hv hg.pg (fun s H C cl fp => (ht s H C cl fp).run) (fun s H C cl fp => (hi1 s H C cl fp).run) hg1.pg (fun s H C cl fp => (ht1 s H C cl fp).run) (fun s H C cl fp => (he s H C cl fp).run) hs hs1).run pins s σ H D I ?_⟩⟩
  refine run_lc2 hi.mono hg mt mi hg1 mt1 me ?_
  obtain ⟨env, S, B, α, re, w, h⟩ := h
  refine ⟨env, S, B, α, re, w, mm env S _ _ _ _ (fun y S1 q v H1 B1 α1 s1 r1 => ?_) (fun _ _ z => kxS.at_ re z) h⟩
  exact q _ _ _ _ s1 ((re.mono s1.bb s1.pre).set i r1)
end
instance {b b1 : DB} {vs vs1} {r r1 : DI} {t t1 : DT} {a : DE} [MA r] [MT t] [MA r1] [MT t1] [ME a] : ME (lc2W r b t r1 b1 t1 a vs vs1) := ⟨mono_lc2W MA.mono MT.mono MA.mono MT.mono ME.mono⟩
section
variable {ga : Str → Addr} {X : Cx} {E : WX} {k : Nat} {N : List Str} {sc : Scope} {pos : Pos} {x y : Str}
/-- a name of two clauses' own -/
theorem xcnW {scope : Scope} {i : Nat} (vs : List Nat) (n : Nm X N sc) (hv : i ∈ vs := by decide) (h : llB N (relS scope sc) i x = true := by decide +kernel) : PXC X scope (.Name x pos) (bindN i) vs (gName i) :=
  pxc_name (fun s H C cl fp => by
    have m : Nm (X.blk s H scope (compEnvC scope cl C X.env) fp) N (relS scope sc) := n.blk
    obtain ⟨h1, h2⟩ := llB_ok m h
    exact pg_name m.nd h1 (.inl h2) (.inr h2)) hv
theorem ylc2 {scope : Scope} {tg iter tg1 iter1 elt : Expr} {ifs ifs1 : List Expr} {wi wi1 : DI} {tt tt1 : DT} {te : DE} {b b1 : DB} {t t1 : TG} {y : Str} {i : Nat} {py spos : Pos} (n : Nf X N sc) (c : Ctx X E k) (hi : PXI ga X E tg iter wi) (own : List (Str × Nat)) (vs1 : List Nat) (hg : PXC X scope tg b (own.map (·.2)) t) (hg1 : PXC X scope tg1 b1 vs1 t1)
    (ht : ∀ (s : Shared) (H : Hp) (C : Addr) (cl : List (Str × Addr)) (fp : List Addr), Nm (X.blk s H scope (compEnvC scope cl C X.env) fp) N (relS scope sc) → Ctx (X.blk s H scope (compEnvC scope cl C X.env) fp) W0 k → PXF ga (X.blk s H scope (compEnvC scope cl C X.env) fp) W0 ifs tt)
    (hi1 : ∀ (s : Shared) (H : Hp) (C : Addr) (cl : List (Str × Addr)) (fp : List Addr), Nm (X.blk s H scope (compEnvC scope cl C X.env) fp) N (relS scope sc) → Ctx (X.blk s H scope (compEnvC scope cl C X.env) fp) W0 k → PXI ga (X.blk s H scope (compEnvC scope cl C X.env) fp) W0 tg1 iter1 wi1)
    (ht1 : ∀ (s : Shared) (H : Hp) (C : Addr) (cl : List (Str × Addr)) (fp : List Addr), Nm (X.blk s H scope (compEnvC scope cl C X.env) fp) N (relS scope sc) → Ctx (X.blk s H scope (compEnvC scope cl C X.env) fp) W0 k → PXF ga (X.blk s H scope (compEnvC scope cl C X.env) fp) W0 ifs1 tt1)
    (he : ∀ (s : Shared) (H : Hp) (C : Addr) (cl : List (Str × Addr)) (fp : List Addr), Nm (X.blk s H scope (compEnvC scope cl C X.env) fp) N (relS scope sc) → Ctx (X.blk s H scope (compEnvC scope cl C X.env) fp) W0 k → PX ga (X.blk s H scope (compEnvC scope cl C X.env) fp) W0 elt te)
    (hv : ∀ i ∈ vs1, i ∈ own.map (·.2) := by decide) (hy : llB N sc i y = true := by decide +kernel) (hf : (match sc.kind with | .function => true | _ => false) = true := by decide +kernel) (hl : (py.line == pos.line) = true := by decide +kernel) (ha : (scope.names.any fun (n, k) => n == y && (k == .local || k == .cell)) = false := by decide +kernel)
    (hb : blkC N sc scope own = true := by decide +kernel) (hs : ∀ x, foldedSetIterable iter X.env x = pure x := by intro _; rfl) (hs1 : ∀ env x, foldedSetIterable iter1 env x = pure x := by intro _ _; rfl) : PXS ga X E (.Assign [.Name y py] (.ListComp elt [⟨tg, iter, ifs, 0⟩, ⟨tg1, iter1, ifs1, 0⟩] scope pos) spos) (asgS i (lc2W wi b tt wi1 b1 tt1 te (own.map (·.2)) vs1)) :=
  let ⟨h1, h2⟩ := llB_ok n.toNm hy
  pxs_setLc2 c h1 h2 (sw_true (by rw [n.hs]; revert hf; cases sc.kind <;> intro h <;> first | rfl | cases h) h2 hl ha) hi (by rw [n.hN, n.hs]; exact blkOk_by hb) hv hg hg1 (fun s H C cl fp => ht s H C cl fp n.blk (c.blk s H _ fp)) (fun s H C cl fp => hi1 s H C cl fp n.blk (c.blk s H _ fp)) (fun s H C cl fp => ht1 s H C cl fp n.blk (c.blk s H _ fp)) (fun s H C cl fp => he s H C cl fp n.blk (c.blk s H _ fp)) hs hs1
end
end DW

set_option Elab.async false
set_option linter.all false
set_option maxRecDepth 100000
set_option autoImplicit false
/-! KS4: sorted(a set of tuples of texts). -/
namespace KS
open PySem PySem.Spec PyProof.Rows L2
abbrev rowD (k : List Str) : PyData := .tuple (k.map PyData.str)
abbrev rowE (p : Addr × List Str) : PyData := rowD p.2
section
variable {P : Program} {w : World} {A : Around} {E : Value → Shared → Prop} {s : Shared}
theorem reads_txts {h : Heap} : ∀ {ks : List Str} {vs : List Value}, ItemsAre (strKind P w) ks vs → ReadsAll h vs (ks.map PyData.str) []
  | _, _, .nil => .nil
  | k :: ks, _, .cons h1 t => by
    obtain ⟨u, rfl⟩ := Value.isStrOf_shape h1
    exact .cons (as := []) (bs := []) (.str _ _) (reads_txts t)
theorem reads_row {h : Heap} {k : List Str} {a : Addr} (r : IsS P w h k a) : Reads h (.ref a) (rowD k) [] := by
  obtain ⟨o, items, n, ho, hc, hd, hi⟩ := r
  exact .tuple ho hc hd (reads_txts hi)
theorem tup_txts : ∀ k : List Str, (k.map PyData.str).all DW.isStrB = true
  | [] => rfl
  | _ :: k => by
    show (DW.isStrB _ && List.all _ _) = true
    rw [tup_txts k]; rfl
theorem rowE_ok {L : List (Addr × List Str)} (h : ∀ p ∈ L, p.2 ≠ []) : DW.okSort (L.map rowE) = true := by
  unfold DW.okSort
  have : (L.map rowE).all DW.tupSB = true := by
    rw [List.all_eq_true]
    intro d hd
    obtain ⟨p, hp, rfl⟩ := List.mem_map.mp hd
    obtain ⟨a, k⟩ := p
    cases k with
    | nil => exact absurd rfl (h _ hp)
    | cons x k => exact tup_txts (x :: k)
  rw [this, Bool.or_true, Bool.or_true]
theorem each_rows {R : Value → Addr × List Str → Prop} : ∀ {L : List (Addr × List Str)}, (∀ p ∈ L, R (.ref p.1) p) → PySem.W.EachIs R (L.map fun p => Value.ref p.1) L
  | [], _ => .nil
  | p :: L, h => .cons (h p List.mem_cons_self) (each_rows fun q hq => h q (List.mem_cons_of_mem _ hq))
theorem each_refs : ∀ {vs : List Value} {L : List (Addr × List Str)}, PySem.W.EachIs (fun v p => v = Value.ref p.1) vs L → vs = L.map fun p => Value.ref p.1
  | _, _, .nil => rfl
  | _, _, .cons h t => by rw [List.map_cons, h, each_refs t]
/-- a list of the rows' addresses, in any order, tells an order of the rows -/
theorem perm_back : ∀ {vs : List Value} {L : List (Addr × List Str)}, vs.Perm (L.map fun p => Value.ref p.1) → ∃ L1 : List (Addr × List Str), vs = L1.map (fun p => Value.ref p.1) ∧ L1.Perm L := by
  intro vs L h
  have gen : ∀ {us vs : List Value}, us.Perm vs → ∀ L : List (Addr × List Str), vs = L.map (fun p => Value.ref p.1) → ∃ L1 : List (Addr × List Str), us = L1.map (fun p => Value.ref p.1) ∧ L1.Perm L := by
    intro us vs h
    induction h with
    | nil => intro L e; exact ⟨[], rfl, by cases L with | nil => exact .refl _ | cons _ _ => cases e⟩
    | @cons x l1 l2 _ ih =>
      intro L e
      cases L with
      | nil => cases e
      | cons p L =>
        rw [List.map_cons] at e
        injection e with e1 e2
        obtain ⟨L1, q1, q2⟩ := ih L e2
        exact ⟨p :: L1, by rw [List.map_cons, e1, q1], q2.cons p⟩
    | swap x y l =>
      intro L e
      match L, e with
      | p :: q :: L, e =>
        rw [List.map_cons, List.map_cons] at e
        injection e with e1 e2
        injection e2 with e2 e3
        exact ⟨q :: p :: L, by rw [List.map_cons, List.map_cons, e1, e2, e3], List.Perm.swap _ _ _⟩
    | trans _ _ ih1 ih2 =>
      intro L e
      obtain ⟨L1, q1, q2⟩ := ih2 L e
      obtain ⟨L2, r1, r2⟩ := ih1 L1 q1
      exact ⟨L2, r1, r2.trans q2⟩
  exact gen h L rfl
set_option maxHeartbeats 1600000 in
theorem sorted_rows {a : Addr} {L : List (Addr × List Str)} {es : Array (Int × Value)} {ep : Nat} {t : SetTable} {Q : Value → Shared → Prop} (R : SetS P w s.heap a L es ep t) (hh : A.handled = none) (hne : ∀ p ∈ L, p.2 ≠ []) (hu : A.units + 8 < cLine)
    (hQ : ∀ s' p (out : Array Value) (c : Nat) (L' : List (Addr × List Str)), (∀ b o, s.heap.get? b = some o → s'.heap.get? b = some o) → s'.gens = s.gens → s'.os = s.os → s.heap.objs.size ≤ p →
      s'.heap.get? p = some (seqObj "list" out c) → out.toList = L'.map (fun q => Value.ref q.1) → L'.Perm L → L'.Pairwise (fun q r => PySem.W.dataLe false (id : PyData → PyData) (rowE q) (rowE r) = true) → Q (.ref p) s') :
    wpAny (model P w) A (call (.builtin "sorted") [.ref a]) Q E s := by
  obtain ⟨o, ho, hex, hd⟩ := R.ob
  have hsz := R.size
  have hfew := R.few
  refine Calls.call_function_entry kind_sorted plain_sorted entry_sorted (args_sorted1 _) ?_
  unfold Builtin.«sorted»
  refine wpAny_bind (m := checkCount "sorted" 1 1 _) (wpAny_pure ?_)
  refine wpAny_bind (collect_set (A := A.in1) hh ⟨o, ho, hex.1, hd⟩ R.fits (by unfold scanBound; omega) R.tab.ris R.led fun s1 vs k1 hz g1 o1 pm => ?_)
  have hes : es.toList.map (·.2) = L.map fun q => Value.ref q.1 := by
    rw [R.rows, List.map_map] <;> rfl
  rw [hes] at pm
  obtain ⟨L1, rfl, p1⟩ := perm_back pm
  have hl1 : L1.length < 300 := by rw [p1.length_eq]; exact hfew
  refine wpAny_bind (wpAny_newList ?_ (by rw [List.length_map, sizeLine_eq]; omega))
  have hoL : (s1.heap.push (seqObj "list" (L1.map fun q => Value.ref q.1).toArray 0)).get? s1.heap.objs.size = some (seqObj "list" (L1.map fun q => Value.ref q.1).toArray 0) := Heap.get?_push_size _ rfl
  have rd : ∀ q ∈ L1, Reads (s1.heap.push (seqObj "list" (L1.map fun q => Value.ref q.1).toArray 0)) (.ref q.1) (rowE q) [] := fun q hq =>
    PyProof.Rows.Reads.keeps (fun b o e => Heap.get?_push_of_some _ (k1 b o e)) (reads_row (R.tup q (p1.mem_iff.mp hq)))
  have hok := rowE_ok (L := L1) fun p hp => hne p (p1.mem_iff.mp hp)
  refine wpAny_bind (wpAny_holding (PySem.W.list_sort_data (s := { s1 with heap := s1.heap.push (seqObj "list" (L1.map fun q => Value.ref q.1).toArray 0) }) (enc := rowE) (bs := L1) (R := fun v p => v = Value.ref p.1) hoL
    (each_rows fun _ _ => rfl) (each_rows fun q hq => ⟨[], rd q hq, fun z => nomatch z⟩) (DW.ok_alike hok) (DW.ok_sortable hok) (by rw [sizeLine_eq]; omega) (fun b hb => ?_) fun out ho eo => ?_))
  · have := DW.ok_depth hok (rowE b) (List.mem_map.mpr ⟨b, hb, rfl⟩)
    show A.in1.units + 1 + _ < cLine
    have e : A.in1.units = A.units + 1 := rfl
    omega
  · obtain ⟨c, hc⟩ := sortedHeap_at (out := out.toArray) hoL
    refine wpAny_pure ⟨_, rfl, hQ _ s1.heap.objs.size out.toArray c (L1.mergeSort (PySem.W.dataLe false rowE)) (fun b u e => ?_) g1 o1 hz hc (by simpa using each_refs eo) ((List.mergeSort_perm _ _).trans p1)
      (PySem.W.sort_pairwise (PySem.W.sortLe_total _ _ _) _)⟩
    have q := k1 b u e
    have hlt := Heap.lt_size q
    show (sortedHeap (s1.heap.push _) s1.heap.objs.size _ out.toArray).get? b = some u
    rw [sortedHeap_old (Nat.ne_of_lt hlt) (by rw [size_push']; exact Nat.lt_succ_of_lt hlt)]
    exact Heap.get?_push_of_some _ q
end
end KS

set_option Elab.async false
set_option linter.all false
set_option maxRecDepth 100000
set_option autoImplicit false
/-! KS5: sorted(set(e)): e a list of different tuples of texts, or a tuple of ints. -/
namespace KS
open PySem L2 DW
/-- what sorted(set(e)) asks for -/
def sortSetW (we : DE) : DE := fun env S k kx => we env S (fun x S1 =>
  (∃ ks : List (List Str), seqD x S1 = some (true, ks.map rowD) ∧ ks.Nodup ∧ (∀ z ∈ ks, z ≠ []) ∧ ks.length < 300 ∧
    ∀ ms : List PyData, ms.Perm (ks.map rowD) → ms.Pairwise (fun a b => PySem.W.dataLe false (id : PyData → PyData) a b = true) → k (.d (.list ms)) S1) ∨
  (∃ ns : List Int, x = .d (.tuple (ns.map PyData.int)) ∧ ns.length < 64 ∧ ∀ ms : List Int, ms.Pairwise (· < ·) → (∀ i, i ∈ ms ↔ i ∈ ns) → k (.d (.list (ms.map PyData.int))) S1)) kx
instance {a : DE} [ME a] : ME (sortSetW a) := ⟨fun env S k k' x x' hk hx h => ME.mono (w := a) env S _ _ _ _ (fun y S1 h1 => by
  rcases h1 with ⟨ks, e1, e2, e3, e4, q⟩ | ⟨ns, e1, e2, q⟩
  · exact .inl ⟨ks, e1, e2, e3, e4, fun ms p1 p2 => hk _ _ (q ms p1 p2)⟩
  · exact .inr ⟨ns, e1, e2, fun ms p1 p2 => hk _ _ (q ms p1 p2)⟩) hx h⟩
section
variable {K : PySem.W.Frag} {B : Hp} {α : List Addr} {S : Sto} {H : Hp}
theorem dq_strs : ∀ {vs : List V} {k : List Str}, DqAll K B vs (k.map PyData.str) → vs = k.map V.str
  | _, [], .nil => rfl
  | _, _ :: _, .cons (.str _) t => by rw [List.map_cons, dq_strs t]
theorem dq_ints : ∀ {vs : List V} {k : List Int}, DqAll K B vs (k.map PyData.int) → vs = k.map V.int
  | _, [], .nil => rfl
  | _, _ :: _, .cons (.int _) t => by rw [List.map_cons, dq_ints t]
theorem ints_dq : ∀ k : List Int, DqAll K B (k.map V.int) (k.map PyData.int)
  | [] => .nil
  | _ :: k => .cons (.int _) (ints_dq k)
theorem rows_of : ∀ {vs : List V} {ks : List (List Str)}, DqAll K B vs (ks.map rowD) → ∃ ps : List (Addr × List Str), vs = ps.map (fun p => V.ref p.1) ∧ ps.map (·.2) = ks ∧ (∀ p ∈ ps, SqT K B p.1 (p.2.map V.str)) ∧ ∀ p ∈ ps, Dq K B (.ref p.1) (rowD p.2)
  | _, [], .nil => ⟨[], rfl, rfl, (fun _ h => nomatch h), fun _ h => nomatch h⟩
  | _, k :: ks, .cons h t => by
    obtain ⟨ps, e1, e2, e3, e4⟩ := rows_of t
    cases h with
    | @tup a xs _ h1 h2 =>
      have := dq_strs h2
      subst this
      refine ⟨(a, k) :: ps, by rw [e1]; rfl, by rw [List.map_cons, e2], fun p hp => ?_, fun p hp => ?_⟩
      · rcases List.mem_cons.mp hp with rfl | hp
        · exact h1
        · exact e3 p hp
      · rcases List.mem_cons.mp hp with rfl | hp
        · exact .tup h1 h2
        · exact e4 p hp
theorem dq_rows : ∀ {ps : List (Addr × List Str)}, (∀ p ∈ ps, Dq K B (.ref p.1) (rowD p.2)) → DqAll K B (ps.map fun p => V.ref p.1) (ps.map rowE)
  | [], _ => .nil
  | p :: ps, h => .cons (h p List.mem_cons_self) (dq_rows fun q hq => h q (List.mem_cons_of_mem _ hq))
theorem items_strs {P : Program} {w : World} : ∀ {k : List Str} {us : List Value}, Vals (k.map V.str) us → ItemsAre (strKind P w) k us
  | [], _, .nil => .nil
  | _ :: _, _, .cons r t => by
    obtain ⟨tk, rfl⟩ := r
    exact .cons (strKind_is P w _ tk) (items_strs t)
theorem refs_vals : ∀ {ps : List (Addr × List Str)} {us : List Value}, Vals (ps.map fun p => V.ref p.1) us → us = ps.map fun p => Value.ref p.1
  | [], _, .nil => rfl
  | _ :: _, _, .cons r t => by
    cases r
    rw [refs_vals t] <;> rfl
theorem vals_refs : ∀ (ps : List (Addr × List Str)), Vals (ps.map fun p => V.ref p.1) (ps.map fun p => Value.ref p.1)
  | [] => .nil
  | _ :: ps => .cons rfl (vals_refs ps)
end
section
variable {ga : Str → Addr} {X : Cx} {E : WX} {k : Nat}
theorem inv_row {pins : List (Addr × Obj)} {σ : St} {H : Hp} {s : Shared} {b : Addr} {z : List Str} (I : Inv X pins σ H s) (h : SqT X.K H b (z.map V.str)) : IsS X.prog X.w s.heap z b := by
  obtain ⟨its, r, ⟨o, ho, hc, n, hd⟩, _⟩ := I.tuple h
  exact ⟨o, its.toArray, n, ho, hc, hd, by simpa using items_strs r⟩
/-- what the two calls do at the heap -/
def tSS (K : PySem.W.Frag) (te : TE) : TE := fun σ H Q => te σ H fun v H1 =>
  (∃ (l : Addr) (ps : List (Addr × List Str)), v = .ref l ∧ SqL K H1 l (ps.map fun p => V.ref p.1) ∧ (∀ p ∈ ps, SqT K H1 p.1 (p.2.map V.str)) ∧ (ps.map (·.2)).Nodup ∧ (∀ p ∈ ps, p.2 ≠ []) ∧ ps.length < 300 ∧
    ∀ (L' : List (Addr × List Str)) (p : Addr), L'.Perm ps → L'.Pairwise (fun q r => PySem.W.dataLe false (id : PyData → PyData) (rowE q) (rowE r) = true) → H1 p = none → Q (.ref p) (upd H1 p (.lst (L'.map fun q => V.ref q.1)))) ∨
  (∃ (l : Addr) (ns : List Int), v = .ref l ∧ SqT K H1 l (ns.map V.int) ∧ ns.length < 64 ∧ ∀ (ms : List Int) (p : Addr), ms.Pairwise (· < ·) → (∀ i, i ∈ ms ↔ i ∈ ns) → H1 p = none → Q (.ref p) (upd H1 p (.lst (ms.map V.int))))
theorem pe_SS {e : Expr} {te : TE} {p p2 q pos : Pos} (hc : X.calm = true) (hu : X.A.units + 64 < cLine) (hg : Gl X "sorted") (hm : X.mg "sorted" = none) (hg2 : Gl X "set") (hm2 : X.mg "set" = none) (he : PE X e te)
    (na : starEach [e] X.env = (false, eval e X.env) :: starEach [] X.env := by rfl) : PE X (.Call (.Name "sorted" p) [.Call (.Name "set" p2) [e] [] q] [] pos) (tSS X.K te) := by
  refine ⟨fun pins s σ H Q I h => ?_⟩
  refine PyProof.Rows.Call_ (ld_blt I hg hm PyProof.Rows.boot_sorted ?_)
  refine PyProof.Rows.callWith_builtin1 (PyProof.Rows.args_cons ?_ rfl) rfl rfl
  refine PyProof.Rows.Call_ (ld_blt I hg2 hm2 PyProof.Rows.boot_set ?_)
  refine PyProof.Rows.callWith_type1 (PyProof.Rows.args_cons (thn (he.run pins s σ H _ I h) fun v s1 ⟨x, H1, I1, r1, q1⟩ => PyProof.Rows.args_nil ?_) na) na rfl
  have fin : ∀ {s2 s' : Shared} {p : Addr} {out : Array Value} {c : Nat} {vs : List V} {Q1 : VK}, Inv X pins σ H1 s2 → (∀ b o, s2.heap.get? b = some o → s'.heap.get? b = some o) → s'.gens = s2.gens → s'.os = s2.os → s2.heap.objs.size ≤ p →
      s'.heap.get? p = some (PyProof.Rows.seqObj "list" out c) → Vals vs out.toList → vs.length ≤ sizeLine → (H1 p = none → Q1 (.ref p) (upd H1 p (.lst vs))) → EP X pins σ Q1 (.ref p) s' := by
    intro s2 s' p out c vs Q1 I2 k g o hp hg hv hl q
    have hn : H1 p = none := I2.hok.fresh hp
    have J : Inv X pins σ (upd H1 p (.lst vs)) { s2 with heap := s'.heap, gens := s'.gens, drawn := s'.drawn, toks := s'.toks } :=
      I2.call (ch := []) (Un.laid k hp hn) (I2.hok.laid k hp ⟨hl, out.toList, c, hv, hg⟩) (by rw [g]; exact I2.bare) (fun _ z => nomatch z)
    have e : s' = { s2 with heap := s'.heap, gens := s'.gens, drawn := s'.drawn, toks := s'.toks } := by
      cases s'
      cases s2
      cases o
      rfl
    rw [e]
    exact ⟨.ref p, _, J, rfl, q hn⟩
  rcases q1 with ⟨l, ps, rfl, hl, hk, nd, hne, hf, q1⟩ | ⟨l, ns, rfl, hl, hf, q1⟩
  · cases r1
    obtain ⟨its, rv, pl, hz⟩ := I1.list hl
    refine call_set (P := X.prog) (w := X.w) ps (I1.ok.hd hc) pl.isList (by simpa using refs_vals rv) (fun p hp => inv_row I1 (hk p hp)) nd hf (by omega) fun h' tk L es ep t R pm kp => ?_
    have I2 : Inv X pins σ H1 { s1 with heap := h', toks := tk } := I1.kept kp
    refine PyProof.Rows.args_nil ?_
    refine sorted_rows (s := { s1 with heap := h', toks := tk }) R (I1.ok.hd hc) (fun p hp => hne p (pm.mem_iff.mp hp)) (by omega) fun s' p out c L' k g o hp hg hout pm2 pw => ?_
    refine fin I2 k g o hp hg (by rw [hout]; exact vals_refs L') ?_ fun hn => q1 L' p (pm2.trans pm) pw hn
    have hlen := (pm2.trans pm).length_eq
    rw [List.length_map, sizeLine_eq]; omega
  · cases r1
    obtain ⟨its, rv, pl, hz⟩ := I1.tuple hl
    refine call_set_tupI (P := X.prog) (w := X.w) ns (I1.ok.hd hc) (show s1.heap.IsTuple l its.toArray from pl) (by simpa using rv.ints) (by unfold scanBound; omega) fun h' tk c R hcn kp => ?_
    have I2 : Inv X pins σ H1 { s1 with heap := h', toks := tk } := I1.kept kp
    refine PyProof.Rows.args_nil ?_
    refine sorted_set (s := { s1 with heap := h', toks := tk }) R (I1.ok.hd hc) (by omega) fun s' p out c2 ms k g o hp hg hi hs hm hl2 => ?_
    refine fin I2 k g o hp hg (vals_of_ints hi) ?_ fun hn => q1 ms p hs (fun i => ?_) hn
    · rw [List.length_map, sizeLine_eq]; omega
    · rw [hm i]; exact decide_eq_true_iff
theorem px_sortSet {e : Expr} {we : DE} {p p2 q pos : Pos} (hc : X.calm = true) (hu : X.A.units + 64 < cLine) (hg : Gl X "sorted") (hm : X.mg "sorted" = none) (hg2 : Gl X "set") (hm2 : X.mg "set" = none) (he : PX ga X E e we)
    (na : starEach [e] X.env = (false, eval e X.env) :: starEach [] X.env := by rfl) : PX ga X E (.Call (.Name "sorted" p) [.Call (.Name "set" p2) [e] [] q] [] pos) (sortSetW we) := by
  have mw : ME we := ⟨he.mono⟩
  refine ⟨ME.mono (w := sortSetW we), ⟨fun pins s σ H Q I h => (pe_SS hc hu hg hm hg2 hm2 he.run na).run pins s σ H Q I ?_⟩⟩
  obtain ⟨env, S, B, α, re, w, h⟩ := h
  refine ⟨env, S, B, α, re, w, he.mono env S _ _ _ _ (fun x S1 h1 v H1 B1 α1 s1 r1 => ?_) (fun _ _ z => z) h⟩
  rcases h1 with ⟨ks, e1, e2, e3, e4, q⟩ | ⟨ns, e1, e2, q⟩
  · obtain ⟨a, vs, rfl, h1, h2⟩ := seq_ok s1.wd r1 e1
    obtain ⟨ps, f1, f2, f3, f4⟩ := rows_of h2
    subst f1
    subst f2
    refine .inl ⟨a, ps, rfl, h1, fun p hp => same_t s1.wd.ex (f3 p hp), e2, fun p hp => e3 _ (List.mem_map.mpr ⟨p, hp, rfl⟩), by rwa [List.length_map] at e4, fun L' p pm pw hp => ?_⟩
    have hq := q (L'.map rowE) (by rw [List.map_map]; exact pm.map rowE) (List.pairwise_map.mpr pw)
    exact kv_lst s1.wd hp (dq_rows fun p hp => f4 p (pm.mem_iff.mp hp)) (kvT.after s1 hq)
  · subst e1
    cases r1 with
    | @tup a xs _ h1 h2 =>
      have := dq_ints h2
      subst this
      refine .inr ⟨a, ns, rfl, same_t s1.wd.ex h1, e2, fun ms p pw hm hp => ?_⟩
      exact kv_lst s1.wd hp (ints_dq ms) (kvT.after s1 (q ms pw hm))
theorem pxt_chain {a b c : Expr} {wa wb wc : DE} {pos : Pos} {op op' : CmpOp} {r r' : R2} {g g' : DV → DV → Sto → Option DV} (ho : OpR X (compareOp op) r) (ho' : OpR X (compareOp op') r') (hg : Op2 X.K r g) (hg' : Op2 X.K r' g') (ha : PX ga X E a wa) (hb : PX ga X E b wb) (hc : PX ga X E c wc)
    (hm : lastMarks [op, op'] [b, c] = false := by with_unfolding_all rfl) : PXT ga X E (.Compare a [op, op'] [b, c] pos) (testW (chainW g g' wa wb wc)) := by
  have mc : MonoE (chainW g g' wa wb wc) := (px_chain (pos := pos) ho ho' hg hg' ha hb hc hm).mono
  refine ⟨monoTest mc, ⟨fun pins s σ H Q I h0 => (pt_chain ho ho' ha.run hb.run hc.run hm).run pins s σ H Q I ?_⟩⟩
  obtain ⟨env, S, B, α, re, w, h⟩ := run_test mc h0
  refine ⟨env, S, B, α, re, w, ha.mono env S _ _ _ _ (fun y S1 h1 v1 H1 B1 α1 s1 r1 => ?_) (fun _ _ z => z) h⟩
  refine ⟨env, S1, B1, α1, re.mono s1.bb s1.pre, s1.wd, hb.mono env S1 _ _ _ _ (fun z S2 ⟨d, e, h2⟩ v2 H2 B2 α2 s2 r2 => ?_) (fun _ _ z => kxT.after s1 z) h1⟩
  refine hg B2 α2 S2 H2 v1 v2 y z _ s2.wd (r1.mono s2.bb s2.pre) r2 e _ (fun v3 H3 B3 α3 s3 r3 => ?_)
  cases r3
  refine ⟨d, rfl, ?_⟩
  cases d with
  | true =>
    refine ⟨env, S2, B3, α3, re.mono (s1.bb.trans (s2.bb.trans s3.bb)) ((s1.trans s2).trans s3).pre, s3.wd, hc.mono env S2 _ _ _ _ (fun w' S4 ⟨u, e4, h4⟩ v4 H4 B4 α4 s4 r4 => ?_) (fun _ _ z => kxT.after ((s1.trans s2).trans s3) z) h2⟩
    exact hg' B4 α4 S4 H4 v2 v4 z w' u s4.wd (r2.mono (s3.bb.trans s4.bb) (s3.trans s4).pre) r4 e4 _ (kvT.after (((s1.trans s2).trans s3).trans s4) h4)
  | false => exact h2 _ H3 B3 α3 ((s1.trans s2).trans s3) (.bl false)
theorem xsortS {N : List Str} {sc : Scope} {l : List Str} {e : Expr} {we : DE} {p p2 q pos : Pos} (n : Nm X N sc) (c : Ctx X E k) (hB : Bi l X.mg) (he : PX ga X E e we) (hl : ("sorted" : Str) ∈ l := by decide +kernel) (hl2 : ("set" : Str) ∈ l := by decide +kernel)
    (hg : gB sc ("sorted" : Str) = true := by decide +kernel) (hg2 : gB sc ("set" : Str) = true := by decide +kernel)
    (na : starEach [e] X.env = (false, eval e X.env) :: starEach [] X.env := by rfl) : PX ga X E (.Call (.Name "sorted" p) [.Call (.Name "set" p2) [e] [] q] [] pos) (sortSetW we) :=
  px_sortSet c.calm c.u (gB_ok n hg).1 (hB _ hl) (gB_ok n hg2).1 (hB _ hl2) he na
end
end KS

set_option Elab.async false
set_option linter.all false
set_option maxRecDepth 100000
set_option maxHeartbeats 0
set_option synthInstance.maxSize 1000000
set_option synthInstance.maxHeartbeats 0

namespace Lw
open PySem PySem.Spec PyProof.Rows L2 DW
/-! the text by places -/
def top (i : Nat) : Stmt := PySem.Challenge.pw_paidbydays_k01_offers_and_rules_recogniz.main.body.getD i (.Pass ⟨0, 0, 0, 0⟩)
abbrev s_is_from : Stmt := top 2
abbrev s_is_tuple : Stmt := top 3
abbrev s_is_offer : Stmt := top 4
abbrev s_is_rule : Stmt := top 5
abbrev s_every_rule : Stmt := top 6
abbrev s_all_rules : Stmt := top 7
abbrev s_law_source : Stmt := top 9
abbrev s_law_draw : Stmt := top 10
abbrev s_law_choice : Stmt := top 11
abbrev s_law_from : Stmt := top 12
abbrev s_law_values : Stmt := top 13
abbrev s_law_rule : Stmt := top 14
abbrev s_law_offer : Stmt := top 15
abbrev s_law_is_offer : Stmt := top 16
abbrev s_law_is_rule : Stmt := top 17
abbrev s_law_bent : Stmt := top 18
abbrev s_law : Stmt := top 19
def d_is_from : He.DefD := ⟨("is_from", none), "is_from", "is_from", defArgs s_is_from, defBody s_is_from, defScope s_is_from, [], []⟩
def d_is_tuple : He.DefD := ⟨("is_tuple", none), "is_tuple", "is_tuple", defArgs s_is_tuple, defBody s_is_tuple, defScope s_is_tuple, [], []⟩
def d_is_offer : He.DefD := ⟨("is_offer", none), "is_offer", "is_offer", defArgs s_is_offer, defBody s_is_offer, defScope s_is_offer, [], []⟩
def d_is_rule : He.DefD := ⟨("is_rule", none), "is_rule", "is_rule", defArgs s_is_rule, defBody s_is_rule, defScope s_is_rule, [], []⟩
def d_every_rule : He.DefD := ⟨("every_rule", none), "every_rule", "every_rule", defArgs s_every_rule, defBody s_every_rule, defScope s_every_rule, [], []⟩
def d_all_rules : He.DefD := ⟨("all_rules", none), "all_rules", "all_rules", defArgs s_all_rules, defBody s_all_rules, defScope s_all_rules, [], []⟩
def d_law_source : He.DefD := ⟨("_law_source", none), "_law_source", "_law_source", defArgs s_law_source, defBody s_law_source, defScope s_law_source, [], []⟩
def d_law_draw : He.DefD := ⟨("_law_draw", none), "_law_draw", "_law_draw", defArgs s_law_draw, defBody s_law_draw, defScope s_law_draw, [], []⟩
def d_law_choice : He.DefD := ⟨("_law_choice", none), "_law_choice", "_law_choice", defArgs s_law_choice, defBody s_law_choice, defScope s_law_choice, [], []⟩
def d_law_from : He.DefD := ⟨("_law_from", none), "_law_from", "_law_from", defArgs s_law_from, defBody s_law_from, defScope s_law_from, [], []⟩
def d_law_values : He.DefD := ⟨("_law_values", none), "_law_values", "_law_values", defArgs s_law_values, defBody s_law_values, defScope s_law_values, [], []⟩
def d_law_rule : He.DefD := ⟨("_law_rule", none), "_law_rule", "_law_rule", defArgs s_law_rule, defBody s_law_rule, defScope s_law_rule, [], []⟩
def d_law_offer : He.DefD := ⟨("_law_offer", none), "_law_offer", "_law_offer", defArgs s_law_offer, defBody s_law_offer, defScope s_law_offer, [], []⟩
def d_law_is_offer : He.DefD := ⟨("_law_is_offer", none), "_law_is_offer", "_law_is_offer", defArgs s_law_is_offer, defBody s_law_is_offer, defScope s_law_is_offer, [], []⟩
def d_law_is_rule : He.DefD := ⟨("_law_is_rule", none), "_law_is_rule", "_law_is_rule", defArgs s_law_is_rule, defBody s_law_is_rule, defScope s_law_is_rule, [], []⟩
def d_law_bent : He.DefD := ⟨("_law_bent", none), "_law_bent", "_law_bent", defArgs s_law_bent, defBody s_law_bent, defScope s_law_bent, [], []⟩
def d_law : He.DefD := ⟨("law", none), "law", "law", defArgs s_law, defBody s_law, defScope s_law, [], []⟩
def fn0 : List He.DefD := [d_is_from, d_is_tuple, d_is_offer, d_is_rule, d_every_rule, d_all_rules, d_law_source, d_law_draw, d_law_choice, d_law_from, d_law_values, d_law_rule, d_law_offer, d_law_is_offer, d_law_is_rule, d_law_bent, d_law]
def fn : List He.DefD := fn0
def fa0 : List He.Fa := [.glo "is_from", .glo "is_tuple", .glo "is_offer", .glo "is_rule", .glo "every_rule", .glo "all_rules", .glo "_law_source", .glo "_law_draw", .glo "_law_choice", .glo "_law_from", .glo "_law_values", .glo "_law_rule", .glo "_law_offer", .glo "_law_is_offer", .glo "_law_is_rule", .glo "_law_bent", .glo "law", .free "len", .free "abs", .free "max", .free "min", .free "sum", .free "all", .free "isinstance", .free "sorted", .free "int", .free "bool", .free "str", .free "tuple", .free "list"]
def fa1 : List He.Fa := [.free "range", .free "enumerate", .free "zip", .free "set", .free "dict"]
def fa : List He.Fa := fa0 ++ fa1
def cons : List (Str × PyData) := [("VALUES", (.tuple [(.tuple [(.str "now"), (.str "turn")]), (.tuple [(.str "now"), (.str "turn")]), (.tuple [(.str "days"), (.str "early"), (.str "none"), (.str "ups")]), (.tuple [(.str "anew"), (.str "days"), (.str "full")]), (.tuple [(.str "back"), (.str "lost")]), (.tuple [(.str "down"), (.str "near"), (.str "up")])]))]
def nms0 : List PySem.Str := ["VALUES", "is_from", "is_tuple", "is_offer", "is_rule", "every_rule", "all_rules", "_law_source", "_law_draw", "_law_choice", "_law_from", "_law_values", "_law_rule", "_law_offer", "_law_is_offer", "_law_is_rule", "_law_bent"]
abbrev nms : List PySem.Str := nms0
abbrev R : PySem.W.OpenRow := PySem.W.OpenLaw.row PySem.Challenge.rw_paidbydays_k01_offers_and_rules_recogniz
abbrev hk : PySem.W.Hook := He.hookX 6 fa fn [] [] (DW.consOk cons)
def ob (s : PySem.W.SharedT) : He.AlX := He.obsX 6 fa fn [] [] (DW.consOk cons) (HandSHeadRun.getT s)
theorem ob_eq (s : PySem.W.SharedT) : ob s = hk.obs s.abs := He.obsX_eq (HandSHeadRun.getT_eq s)
theorem run (w : World) : HandSHeadRun.RunEq R (PySem.W.view R.prog [19]) hk ob 4000 nms w := by
  intro os
  kernel_rfl
def c_VALUES : PyData := (.tuple [(.tuple [(.str "now"), (.str "turn")]), (.tuple [(.str "now"), (.str "turn")]), (.tuple [(.str "days"), (.str "early"), (.str "none"), (.str "ups")]), (.tuple [(.str "anew"), (.str "days"), (.str "full")]), (.tuple [(.str "back"), (.str "lost")]), (.tuple [(.str "down"), (.str "near"), (.str "up")])])
section
variable {P : Program} {w : World} {K : PySem.W.Frag} {mg : Str → Option Value} {base : Heap}
def bl : List Str := ["len", "abs", "max", "min", "sum", "all", "isinstance", "sorted", "int", "bool", "str", "tuple", "list", "range", "enumerate", "zip", "set", "dict"]
theorem bi (g : Gd fa fn cons K mg) : Bi bl mg := g.bi bl (by decide +kernel)
theorem k_VALUES (g : Gd fa fn cons K mg) : ∃ u v, mg "VALUES" = some u ∧ RelV v u ∧ ∀ B, Dq K B v c_VALUES := g.cn (List.mem_of_getElem? (i := 0) rfl)
def N_is_from : List Str := ["value", "low", "high"]
def w_is_from : DS := (seqS (retS (andVW (op1W (isiD .int) (varW 0)) (andVW (notVW (op1W (isiD .bool) (varW 0))) (chainW leD leD (varW 1) (varW 0) (varW 2))))) nextS)
def F_is_from : FS := funW 3 w_is_from
instance : MS w_is_from := by unfold w_is_from; infer_instance
instance : MF F_is_from := by unfold F_is_from; infer_instance
theorem ok_is_from (g : Gd fa fn cons K mg) : Fx P w K mg base (He.ga K) "is_from" F_is_from 3 1 :=
  g.fx (d := d_is_from) 0 N_is_from ["value", "low", "high"] rfl rfl rfl ⟨rfl, rfl, rfl, by decide +kernel, rfl, by decide +kernel, by decide +kernel⟩ (by decide +kernel) rfl inferInstance (fun _ _ _ _ _ _ us hl => match us, hl with | [_, _, _], _ => rfl) (fun X E hP hw hK hm hB n0 c0 => by
    subst hP hw hK hm hB
    have bi := bi g
    exact (pxb_cons (pxs_ret (px_and (xisi (T := .int) n0.toNm bi (xv n0.toNm 0)) (px_and (px_not (xisi (T := .bool) n0.toNm bi (xv n0.toNm 0))) (px_one (px_chain op_le op_le o_cmp o_cmp (xv n0.toNm 1) (xv n0.toNm 0) (xv n0.toNm 2)))))) pxb_nil))
def N_is_tuple : List Str := ["value", "low", "high"]
def w_is_tuple : DS := (seqS (retS (andVW (op1W (isiD .tuple) (varW 0)) (chainW leD leD (varW 1) (callNW lenD (consA (varW 0) nilA)) (varW 2)))) nextS)
def F_is_tuple : FS := funW 3 w_is_tuple
instance : MS w_is_tuple := by unfold w_is_tuple; infer_instance
instance : MF F_is_tuple := by unfold F_is_tuple; infer_instance
theorem ok_is_tuple (g : Gd fa fn cons K mg) : Fx P w K mg base (He.ga K) "is_tuple" F_is_tuple 3 1 :=
  g.fx (d := d_is_tuple) 1 N_is_tuple ["value", "low", "high"] rfl rfl rfl ⟨rfl, rfl, rfl, by decide +kernel, rfl, by decide +kernel, by decide +kernel⟩ (by decide +kernel) rfl inferInstance (fun _ _ _ _ _ _ us hl => match us, hl with | [_, _, _], _ => rfl) (fun X E hP hw hK hm hB n0 c0 => by
    subst hP hw hK hm hB
    have bi := bi g
    exact (pxb_cons (pxs_ret (px_and (xisi (T := .tuple) n0.toNm bi (xv n0.toNm 0)) (px_one (px_chain op_le op_le o_cmp o_cmp (xv n0.toNm 1) (xbi n0.toNm bi call_len n_len (xac (xv n0.toNm 0) xa0)) (xv n0.toNm 2))))) pxb_nil))
def N_every_rule : List Str := ["found", "some", "row", "value"]
def w_every_rule : DS := (seqS (asgS 0 (lstW (consA (tupW nilA) nilA))) (seqS (forS (seqI (cW c_VALUES)) (nameG 1) (seqS (asgS 0 (lc2W (seqI (varW 0)) (bindN 2) yesT (seqI (varW 1)) (bindN 3) yesT (op2W addD (varW 2) (tupW (consA (varW 3) nilA))) [2, 3] [3])) nextS)) (seqS (retS (callNW sortedD (consA (varW 0) nilA))) nextS)))
def F_every_rule : FS := funW 4 w_every_rule
instance : MS w_every_rule := by unfold w_every_rule; infer_instance
instance : MF F_every_rule := by unfold F_every_rule; infer_instance
theorem ok_every_rule (g : Gd fa fn cons K mg) : Fx P w K mg base (He.ga K) "every_rule" F_every_rule 0 1 :=
  g.fx (d := d_every_rule) 4 N_every_rule [] rfl rfl rfl ⟨rfl, rfl, rfl, by decide +kernel, rfl, by decide +kernel, by decide +kernel⟩ (by decide +kernel) rfl inferInstance (fun _ _ _ _ _ _ us hl => match us, hl with | [], _ => rfl) (fun X E hP hw hK hm hB n0 c0 => by
    subst hP hw hK hm hB
    have bi := bi g
    exact (pxb_cons (ys n0 (px_lst (xac (px_tup xa0.a) xa0).a)) (pxb_cons (pxs_for c0 (pxi_seq (xcon n0.toNm (k_VALUES g))) (yg n0) (pxb_cons (ylc2 n0 c0 (pxi_seq (xv n0.toNm 0)) [("row", 2), ("value", 3)] [3] (xcnW [2, 3] n0.toNm) (xcnW [3] n0.toNm) (fun _ _ _ _ _ m1 c1 => pxf_nil) (fun _ _ _ _ _ m1 c1 => (pxi_seq (xv m1 1))) (fun _ _ _ _ _ m1 c1 => pxf_nil) (fun _ _ _ _ _ m1 c1 => (px_add (xv m1 2) (px_tup (xac (xv m1 3) xa0).a)))) pxb_nil)) (pxb_cons (pxs_ret (xbi n0.toNm bi (cr_sortedD c0.u) n_sorted (xac (xv n0.toNm 0) xa0))) pxb_nil))))
def N_law_source : List Str := ["_law_script", "_law_k", "_law_cell"]
def w_law_source : DS := (seqS (asgS 2 (ifW (testW (op2W ltD (varW 1) (callNW lenD (consA (varW 0) nilA)))) (callNW absD (consA (callNW intD (consA (op2W ixD (varW 0) (varW 1)) nilA)) nilA)) (op2W addD (op2W mulD (cW (.int 41)) (varW 1)) (cW (.int 17))))) (seqS (retS (newLW (consA (ifW (testW (op2W gtD (varW 2) (op2W powD (cW (.int 10)) (cW (.int 17))))) (varW 2) (cW (.int 0))) (consA (op2W modD (callNW intD (consA (op2W addD (op2W addD (op2W mulD (varW 2) (cW (.int 16807))) (op2W mulD (cW (.int 6007)) (varW 1))) (cW (.int 9))) nilA)) (cW (.int 2147483563))) nilA)))) nextS))
def F_law_source : FS := funW 3 w_law_source
instance : MS w_law_source := by unfold w_law_source; infer_instance
instance : MF F_law_source := by unfold F_law_source; infer_instance
theorem ok_law_source (g : Gd fa fn cons K mg) : Fx P w K mg base (He.ga K) "_law_source" F_law_source 2 1 :=
  g.fx (d := d_law_source) 6 N_law_source ["_law_script", "_law_k"] rfl rfl rfl ⟨rfl, rfl, rfl, by decide +kernel, rfl, by decide +kernel, by decide +kernel⟩ (by decide +kernel) rfl inferInstance (fun _ _ _ _ _ _ us hl => match us, hl with | [_, _], _ => rfl) (fun X E hP hw hK hm hB n0 c0 => by
    subst hP hw hK hm hB
    have bi := bi g
    exact (pxb_cons (ys n0 (px_if (pxt_lt (xv n0.toNm 1) (xbi n0.toNm bi call_len n_len (xac (xv n0.toNm 0) xa0))) (xbi n0.toNm bi call_abs n_abs (xac (xty n0.toNm bi call_int1 n_int (xac (px_ix (ha := (xv n0.toNm 0)) (hb := (xv n0.toNm 1))) xa0)) xa0)) (px_add (px_mul px_int (xv n0.toNm 1)) px_int))) (pxb_cons (pxs_ret (px_newL (xac (px_if (pxt_gt (xv n0.toNm 2) (px_pow px_int px_int)) (xv n0.toNm 2) px_int) (xac (px_mod (xty n0.toNm bi call_int1 n_int (xac (px_add (px_add (px_mul (xv n0.toNm 2) px_int) (px_mul px_int (xv n0.toNm 1))) px_int) xa0)) px_int) xa0)).a)) pxb_nil)))
def N_law_draw : List Str := ["_law_source_here", "_law_many", "_law_wide", "_law_rest"]
def w_law_draw : DS := (seqS (ifS (testW (op2W gtD (op2W ixD (varW 0) (cW (.int 0))) (cW (.int 0)))) (seqS (asgS 3 (op2W modD (callNW intD (consA (op2W ixD (varW 0) (cW (.int 0))) nilA)) (varW 1))) (seqS (setLS (op2W divD (op2W ixD (varW 0) (cW (.int 0))) (varW 1)) (varW 0) (cW (.int 0))) (seqS (retS (varW 3)) nextS))) nextS) (seqS (setLS (op2W modD (callNW intD (consA (op2W addD (op2W mulD (op2W ixD (varW 0) (cW (.int 1))) (cW (.int 48271))) (cW (.int 29))) nilA)) (cW (.int 2147483563))) (varW 0) (cW (.int 1))) (seqS (asgS 2 (op2W modD (callNW intD (consA (op2W mulD (op2W ixD (varW 0) (cW (.int 1))) (op2W addD (op2W divD (op2W ixD (varW 0) (cW (.int 1))) (cW (.int 7))) (cW (.int 4)))) nilA)) (cW (.int 2147483399)))) (seqS (retS (op2W modD (callNW intD (consA (op2W divD (varW 2) (cW (.int 32))) nilA)) (varW 1))) nextS))))
def F_law_draw : FS := funW 4 w_law_draw
instance : MS w_law_draw := by unfold w_law_draw; infer_instance
instance : MF F_law_draw := by unfold F_law_draw; infer_instance
theorem ok_law_draw (g : Gd fa fn cons K mg) : Fx P w K mg base (He.ga K) "_law_draw" F_law_draw 2 1 :=
  g.fx (d := d_law_draw) 7 N_law_draw ["_law_source_here", "_law_many"] rfl rfl rfl ⟨rfl, rfl, rfl, by decide +kernel, rfl, by decide +kernel, by decide +kernel⟩ (by decide +kernel) rfl inferInstance (fun _ _ _ _ _ _ us hl => match us, hl with | [_, _], _ => rfl) (fun X E hP hw hK hm hB n0 c0 => by
    subst hP hw hK hm hB
    have bi := bi g
    exact (pxb_cons (pxs_if (pxt_gt (px_ix (ha := (xv n0.toNm 0)) (hb := px_int)) px_int) (pxb_cons (ys n0 (px_mod (xty n0.toNm bi call_int1 n_int (xac (px_ix (ha := (xv n0.toNm 0)) (hb := px_int)) xa0)) (xv n0.toNm 1))) (pxb_cons (pxs_setL (px_div (px_ix (ha := (xv n0.toNm 0)) (hb := px_int)) (xv n0.toNm 1)) (xv n0.toNm 0) px_int) (pxb_cons (pxs_ret (xv n0.toNm 3)) pxb_nil))) pxb_nil) (pxb_cons (pxs_setL (px_mod (xty n0.toNm bi call_int1 n_int (xac (px_add (px_mul (px_ix (ha := (xv n0.toNm 0)) (hb := px_int)) px_int) px_int) xa0)) px_int) (xv n0.toNm 0) px_int) (pxb_cons (ys n0 (px_mod (xty n0.toNm bi call_int1 n_int (xac (px_mul (px_ix (ha := (xv n0.toNm 0)) (hb := px_int)) (px_add (px_div (px_ix (ha := (xv n0.toNm 0)) (hb := px_int)) px_int) px_int)) xa0)) px_int)) (pxb_cons (pxs_ret (px_mod (xty n0.toNm bi call_int1 n_int (xac (px_div (xv n0.toNm 2) px_int) xa0)) (xv n0.toNm 1))) pxb_nil)))))
def N_law_from : List Str := ["_law_value", "_law_low", "_law_high"]
def w_law_from : DS := (seqS (retS (andVW (op1W (isiD .int) (varW 0)) (andVW (notVW (op1W (isiD .bool) (varW 0))) (chainW leD leD (varW 1) (varW 0) (varW 2))))) nextS)
def F_law_from : FS := funW 3 w_law_from
instance : MS w_law_from := by unfold w_law_from; infer_instance
instance : MF F_law_from := by unfold F_law_from; infer_instance
theorem ok_law_from (g : Gd fa fn cons K mg) : Fx P w K mg base (He.ga K) "_law_from" F_law_from 3 1 :=
  g.fx (d := d_law_from) 9 N_law_from ["_law_value", "_law_low", "_law_high"] rfl rfl rfl ⟨rfl, rfl, rfl, by decide +kernel, rfl, by decide +kernel, by decide +kernel⟩ (by decide +kernel) rfl inferInstance (fun _ _ _ _ _ _ us hl => match us, hl with | [_, _, _], _ => rfl) (fun X E hP hw hK hm hB n0 c0 => by
    subst hP hw hK hm hB
    have bi := bi g
    exact (pxb_cons (pxs_ret (px_and (xisi (T := .int) n0.toNm bi (xv n0.toNm 0)) (px_and (px_not (xisi (T := .bool) n0.toNm bi (xv n0.toNm 0))) (px_one (px_chain op_le op_le o_cmp o_cmp (xv n0.toNm 1) (xv n0.toNm 0) (xv n0.toNm 2)))))) pxb_nil))
def N_law_values : List Str := ["_law_first"]
def w_law_values : DS := (seqS (asgS 0 (lstW (consA (lstW (consA (cW (.str "now")) (consA (cW (.str "turn")) nilA))) (consA (lstW (consA (cW (.str "now")) (consA (cW (.str "turn")) nilA))) (consA (lstW (consA (cW (.str "days")) (consA (cW (.str "early")) (consA (cW (.str "none")) (consA (cW (.str "ups")) nilA))))) nilA))))) (seqS (retS (op2W addD (varW 0) (lstW (consA (lstW (consA (cW (.str "anew")) (consA (cW (.str "days")) (consA (cW (.str "full")) nilA)))) (consA (lstW (consA (cW (.str "back")) (consA (cW (.str "lost")) nilA))) (consA (lstW (consA (cW (.str "down")) (consA (cW (.str "near")) (consA (cW (.str "up")) nilA)))) nilA)))))) nextS))
def F_law_values : FS := funW 1 w_law_values
instance : MS w_law_values := by unfold w_law_values; infer_instance
instance : MF F_law_values := by unfold F_law_values; infer_instance
theorem ok_law_values (g : Gd fa fn cons K mg) : Fx P w K mg base (He.ga K) "_law_values" F_law_values 0 1 :=
  g.fx (d := d_law_values) 10 N_law_values [] rfl rfl rfl ⟨rfl, rfl, rfl, by decide +kernel, rfl, by decide +kernel, by decide +kernel⟩ (by decide +kernel) rfl inferInstance (fun _ _ _ _ _ _ us hl => match us, hl with | [], _ => rfl) (fun X E hP hw hK hm hB n0 c0 => by
    subst hP hw hK hm hB
    have bi := bi g
    exact (pxb_cons (ys n0 (px_lst (xac (px_lst (xac px_str (xac px_str xa0)).a) (xac (px_lst (xac px_str (xac px_str xa0)).a) (xac (px_lst (xac px_str (xac px_str (xac px_str (xac px_str xa0)))).a) xa0))).a)) (pxb_cons (pxs_ret (px_add (xv n0.toNm 0) (px_lst (xac (px_lst (xac px_str (xac px_str (xac px_str xa0))).a) (xac (px_lst (xac px_str (xac px_str xa0)).a) (xac (px_lst (xac px_str (xac px_str (xac px_str xa0))).a) xa0))).a))) pxb_nil)))
def N_is_offer : List Str := ["value", "one", "other", "price"]
def w_is_offer : DS := (seqS (ifS (orW (notW (testW (callW F_is_tuple (consA (varW 0) (consA (cW (.int 2)) (consA (cW (.int 2)) nilA)))))) (orW (notW (testW (callW F_is_tuple (consA (op2W ixD (varW 0) (cW (.int 0))) (consA (cW (.int 1)) (consA (cW (.int 3)) nilA)))))) (notW (testW (callW F_is_tuple (consA (op2W ixD (varW 0) (cW (.int 1))) (consA (cW (.int 1)) (consA (cW (.int 3)) nilA)))))))) (seqS (retS (cW (.bool false))) nextS) nextS) (seqS (ifS (orW (notW (testW (callNW allD (consA (lcW (seqI (op2W ixD (varW 0) (cW (.int 0)))) (bindN 3) yesT (callW F_is_from (consA (varW 3) (consA (cW (.int 1)) (consA (cW (.int 30)) nilA)))) [3]) nilA)))) (notW (testW (callNW allD (consA (lcW (seqI (op2W ixD (varW 0) (cW (.int 1)))) (bindN 1) yesT (callW F_is_from (consA (varW 1) (consA (cW (.int 2)) (consA (cW (.int 6)) nilA)))) [1]) nilA))))) (seqS (retS (cW (.bool false))) nextS) nextS) (seqS (retS (callNW allD (consA (lcW (zipI (op2W ixD (varW 0) (cW (.int 0))) (sliceW (op2W ixD (varW 0) (cW (.int 0))) (partW (cW (.int 1))) noPartW)) (bindT [1, 2]) yesT (op2W ltD (varW 1) (varW 2)) [1, 2]) nilA))) nextS)))
def F_is_offer : FS := funW 4 w_is_offer
instance : MS w_is_offer := by unfold w_is_offer; infer_instance
instance : MF F_is_offer := by unfold F_is_offer; infer_instance
theorem ok_is_offer (g : Gd fa fn cons K mg) : Fx P w K mg base (He.ga K) "is_offer" F_is_offer 1 2 :=
  g.fx (d := d_is_offer) 2 N_is_offer ["value"] rfl rfl rfl ⟨rfl, rfl, rfl, by decide +kernel, rfl, by decide +kernel, by decide +kernel⟩ (by decide +kernel) rfl inferInstance (fun _ _ _ _ _ _ us hl => match us, hl with | [_], _ => rfl) (fun X E hP hw hK hm hB n0 c0 => by
    subst hP hw hK hm hB
    have o_is_from := ok_is_from (P := X.prog) (w := X.w) (base := X.base) g
    have o_is_tuple := ok_is_tuple (P := X.prog) (w := X.w) (base := X.base) g
    have bi := bi g
    exact (pxb_cons (pxs_if (pxw_or (pxt_not (pxt_val (xcall n0.toNm c0 o_is_tuple (xac (xv n0.toNm 0) (xac px_int (xac px_int xa0)))))) (pxw_or (pxt_not (pxt_val (xcall n0.toNm c0 o_is_tuple (xac (px_ix (ha := (xv n0.toNm 0)) (hb := px_int)) (xac px_int (xac px_int xa0)))))) (pxw_or1 (pxt_not (pxt_val (xcall n0.toNm c0 o_is_tuple (xac (px_ix (ha := (xv n0.toNm 0)) (hb := px_int)) (xac px_int (xac px_int xa0))))))))).pxt (pxb_cons (pxs_ret px_bl) pxb_nil) pxb_nil) (pxb_cons (pxs_if (pxw_or (pxt_not (pxt_val (xbi n0.toNm bi (cr_all c0.calm) n_all (xac (xlc n0.toNm c0 (pxi_seq (px_ix (ha := (xv n0.toNm 0)) (hb := px_int))) [("price", 3)] (xcn n0.toNm) (fun _ _ _ _ _ m1 c1 => pxf_nil) (fun _ _ _ _ _ m1 c1 => (xcall m1 c1 o_is_from (xac (xv m1 3) (xac px_int (xac px_int xa0)))))) xa0)))) (pxw_or1 (pxt_not (pxt_val (xbi n0.toNm bi (cr_all c0.calm) n_all (xac (xlc n0.toNm c0 (pxi_seq (px_ix (ha := (xv n0.toNm 0)) (hb := px_int))) [("one", 1)] (xcn n0.toNm) (fun _ _ _ _ _ m2 c2 => pxf_nil) (fun _ _ _ _ _ m2 c2 => (xcall m2 c2 o_is_from (xac (xv m2 1) (xac px_int (xac px_int xa0)))))) xa0)))))).pxt (pxb_cons (pxs_ret px_bl) pxb_nil) pxb_nil) (pxb_cons (pxs_ret (xbi n0.toNm bi (cr_all c0.calm) n_all (xac (xlc n0.toNm c0 (xzip n0.toNm c0 bi (px_ix (ha := (xv n0.toNm 0)) (hb := px_int)) (px_slice (px_ix (ha := (xv n0.toNm 0)) (hb := px_int)) (pxo_some px_int) pxo_none)) [("one", 1), ("other", 2)] (xct2 n0.toNm c0) (fun _ _ _ _ _ m3 c3 => pxf_nil) (fun _ _ _ _ _ m3 c3 => (px_lt (xv m3 1) (xv m3 2)))) xa0))) pxb_nil))))
def N_is_rule : List Str := ["value", "at", "part"]
def w_is_rule : DS := (seqS (ifS (notW (testW (callW F_is_tuple (consA (varW 0) (consA (cW (.int 6)) (consA (cW (.int 6)) nilA)))))) (seqS (retS (cW (.bool false))) nextS) nextS) (seqS (retS (callNW allD (consA (lcW (enumI (varW 0)) (bindT [1, 2]) yesT (andVW (op1W (isiD .str) (varW 2)) (op2W (inD false) (varW 2) (op2W ixD (cW c_VALUES) (varW 1)))) [1, 2]) nilA))) nextS))
def F_is_rule : FS := funW 3 w_is_rule
instance : MS w_is_rule := by unfold w_is_rule; infer_instance
instance : MF F_is_rule := by unfold F_is_rule; infer_instance
theorem ok_is_rule (g : Gd fa fn cons K mg) : Fx P w K mg base (He.ga K) "is_rule" F_is_rule 1 2 :=
  g.fx (d := d_is_rule) 3 N_is_rule ["value"] rfl rfl rfl ⟨rfl, rfl, rfl, by decide +kernel, rfl, by decide +kernel, by decide +kernel⟩ (by decide +kernel) rfl inferInstance (fun _ _ _ _ _ _ us hl => match us, hl with | [_], _ => rfl) (fun X E hP hw hK hm hB n0 c0 => by
    subst hP hw hK hm hB
    have o_is_tuple := ok_is_tuple (P := X.prog) (w := X.w) (base := X.base) g
    have bi := bi g
    exact (pxb_cons (pxs_if (pxt_not (pxt_val (xcall n0.toNm c0 o_is_tuple (xac (xv n0.toNm 0) (xac px_int (xac px_int xa0)))))) (pxb_cons (pxs_ret px_bl) pxb_nil) pxb_nil) (pxb_cons (pxs_ret (xbi n0.toNm bi (cr_all c0.calm) n_all (xac (xlc n0.toNm c0 (xenum n0.toNm bi (xv n0.toNm 0)) [("at", 1), ("part", 2)] (xct2 n0.toNm c0) (fun _ _ _ _ _ m1 c1 => pxf_nil) (fun _ _ _ _ _ m1 c1 => (px_and (xisi (T := .str) m1 bi (xv m1 2)) (px_one (px_in (by rfl) (xv m1 2) (px_ix (ha := (xcon m1 (k_VALUES g))) (hb := (xv m1 1)))))))) xa0))) pxb_nil)))
def N_all_rules : List Str := []
def w_all_rules : DS := (seqS (retS (callW F_every_rule nilA)) nextS)
def F_all_rules : FS := funW 0 w_all_rules
instance : MS w_all_rules := by unfold w_all_rules; infer_instance
instance : MF F_all_rules := by unfold F_all_rules; infer_instance
theorem ok_all_rules (g : Gd fa fn cons K mg) : Fx P w K mg base (He.ga K) "all_rules" F_all_rules 0 2 :=
  g.fx (d := d_all_rules) 5 N_all_rules [] rfl rfl rfl ⟨rfl, rfl, rfl, by decide +kernel, rfl, by decide +kernel, by decide +kernel⟩ (by decide +kernel) rfl inferInstance (fun _ _ _ _ _ _ us hl => match us, hl with | [], _ => rfl) (fun X E hP hw hK hm hB n0 c0 => by
    subst hP hw hK hm hB
    have o_every_rule := ok_every_rule (P := X.prog) (w := X.w) (base := X.base) g
    have bi := bi g
    exact (pxb_cons (pxs_ret (xcall0 n0.toNm c0 o_every_rule)) pxb_nil))
def N_law_choice : List Str := ["_law_source_here", "_law_some"]
def w_law_choice : DS := (seqS (retS (op2W ixD (varW 1) (callW F_law_draw (consA (varW 0) (consA (callNW lenD (consA (varW 1) nilA)) nilA))))) nextS)
def F_law_choice : FS := funW 2 w_law_choice
instance : MS w_law_choice := by unfold w_law_choice; infer_instance
instance : MF F_law_choice := by unfold F_law_choice; infer_instance
theorem ok_law_choice (g : Gd fa fn cons K mg) : Fx P w K mg base (He.ga K) "_law_choice" F_law_choice 2 2 :=
  g.fx (d := d_law_choice) 8 N_law_choice ["_law_source_here", "_law_some"] rfl rfl rfl ⟨rfl, rfl, rfl, by decide +kernel, rfl, by decide +kernel, by decide +kernel⟩ (by decide +kernel) rfl inferInstance (fun _ _ _ _ _ _ us hl => match us, hl with | [_, _], _ => rfl) (fun X E hP hw hK hm hB n0 c0 => by
    subst hP hw hK hm hB
    have o_law_draw := ok_law_draw (P := X.prog) (w := X.w) (base := X.base) g
    have bi := bi g
    exact (pxb_cons (pxs_ret (px_ix (ha := (xv n0.toNm 1)) (hb := (xcall n0.toNm c0 o_law_draw (xac (xv n0.toNm 0) (xac (xbi n0.toNm bi call_len n_len (xac (xv n0.toNm 1) xa0)) xa0)))))) pxb_nil))
def N_law_is_offer : List Str := ["_law_value", "_law_at", "_law_low", "_law_high", "_law_one"]
def w_law_is_offer : DS := (seqS (ifS (orW (notW (testW (op1W (isiD .tuple) (varW 0)))) (testW (op2W neD (callNW lenD (consA (varW 0) nilA)) (cW (.int 2))))) (seqS (retS (cW (.bool false))) nextS) nextS) (seqS (forS (enumI (lstW (consA (tupW (consA (cW (.int 1)) (consA (cW (.int 30)) nilA))) (consA (tupW (consA (cW (.int 2)) (consA (cW (.int 6)) nilA))) nilA)))) (tupG 2 (consGs (nameG 1) (consGs (tupG 2 (consGs (nameG 2) (consGs (nameG 3) nilGs))) nilGs))) (seqS (ifS (orW (notW (testW (op1W (isiD .tuple) (op2W ixD (varW 0) (varW 1))))) (notW (testW (chainW leD leD (cW (.int 1)) (callNW lenD (consA (op2W ixD (varW 0) (varW 1)) nilA)) (cW (.int 3)))))) (seqS (retS (cW (.bool false))) nextS) nextS) (seqS (ifS (testW (op2W neD (lcW (seqI (op2W ixD (varW 0) (varW 1))) (bindN 4) (notW (testW (callW F_law_from (consA (varW 4) (consA (varW 2) (consA (varW 3) nilA)))))) (varW 4) [4]) (lstW nilA))) (seqS (retS (cW (.bool false))) nextS) nextS) nextS))) (seqS (retS (op2W eqD (callNW listD (consA (op2W ixD (varW 0) (cW (.int 0))) nilA)) (KS.sortSetW (op2W ixD (varW 0) (cW (.int 0)))))) nextS)))
def F_law_is_offer : FS := funW 5 w_law_is_offer
instance : MS w_law_is_offer := by unfold w_law_is_offer; infer_instance
instance : MF F_law_is_offer := by unfold F_law_is_offer; infer_instance
theorem ok_law_is_offer (g : Gd fa fn cons K mg) : Fx P w K mg base (He.ga K) "_law_is_offer" F_law_is_offer 1 2 :=
  g.fx (d := d_law_is_offer) 13 N_law_is_offer ["_law_value"] rfl rfl rfl ⟨rfl, rfl, rfl, by decide +kernel, rfl, by decide +kernel, by decide +kernel⟩ (by decide +kernel) rfl inferInstance (fun _ _ _ _ _ _ us hl => match us, hl with | [_], _ => rfl) (fun X E hP hw hK hm hB n0 c0 => by
    subst hP hw hK hm hB
    have o_law_from := ok_law_from (P := X.prog) (w := X.w) (base := X.base) g
    have bi := bi g
    exact (pxb_cons (pxs_if (pxw_or (pxt_not (pxt_val (xisi (T := .tuple) n0.toNm bi (xv n0.toNm 0)))) (pxw_or1 (pxt_ne c0.u (xbi n0.toNm bi call_len n_len (xac (xv n0.toNm 0) xa0)) px_int))).pxt (pxb_cons (pxs_ret px_bl) pxb_nil) pxb_nil) (pxb_cons (pxs_for c0 (xenum n0.toNm bi (px_lst (xac (px_tup (xac px_int (xac px_int xa0)).a) (xac (px_tup (xac px_int (xac px_int xa0)).a) xa0)).a)) (pxg_tup c0.calm (pxgs_cons (yg n0) (pxgs_cons (pxg_tup c0.calm (pxgs_cons (yg n0) (pxgs_cons (yg n0) pxgs_nil))) pxgs_nil))) (pxb_cons (pxs_if (pxw_or (pxt_not (pxt_val (xisi (T := .tuple) n0.toNm bi (px_ix (ha := (xv n0.toNm 0)) (hb := (xv n0.toNm 1)))))) (pxw_or1 (pxt_not (KS.pxt_chain op_le op_le o_cmp o_cmp px_int (xbi n0.toNm bi call_len n_len (xac (px_ix (ha := (xv n0.toNm 0)) (hb := (xv n0.toNm 1))) xa0)) px_int)))).pxt (pxb_cons (pxs_ret px_bl) pxb_nil) pxb_nil) (pxb_cons (pxs_if (pxt_ne c0.u (xlc n0.toNm c0 (pxi_seq (px_ix (ha := (xv n0.toNm 0)) (hb := (xv n0.toNm 1)))) [("_law_one", 4)] (xcn n0.toNm) (fun _ _ _ _ _ m1 c1 => (pxf_one (pxt_not (pxt_val (xcall m1 c1 o_law_from (xac (xv m1 4) (xac (xv m1 2) (xac (xv m1 3) xa0)))))))) (fun _ _ _ _ _ m1 c1 => (xv m1 4))) (px_lst xa0.a)) (pxb_cons (pxs_ret px_bl) pxb_nil) pxb_nil) pxb_nil))) (pxb_cons (pxs_ret (px_eq c0.u (xty n0.toNm bi call_list_of n_list (xac (px_ix (ha := (xv n0.toNm 0)) (hb := px_int)) xa0)) (KS.xsortS n0.toNm c0 bi (px_ix (ha := (xv n0.toNm 0)) (hb := px_int))))) pxb_nil))))
def N_law_is_rule : List Str := ["_law_value", "_law_at", "_law_some"]
def w_law_is_rule : DS := (seqS (ifS (orW (notW (testW (op1W (isiD .tuple) (varW 0)))) (testW (op2W neD (callNW lenD (consA (varW 0) nilA)) (cW (.int 6))))) (seqS (retS (cW (.bool false))) nextS) nextS) (seqS (forS (enumI (callW F_law_values nilA)) (tupG 2 (consGs (nameG 1) (consGs (nameG 2) nilGs))) (seqS (ifS (orW (notW (testW (op1W (isiD .str) (op2W ixD (varW 0) (varW 1))))) (testW (op2W (inD true) (op2W ixD (varW 0) (varW 1)) (varW 2)))) (seqS (retS (cW (.bool false))) nextS) nextS) nextS)) (seqS (retS (cW (.bool true))) nextS)))
def F_law_is_rule : FS := funW 3 w_law_is_rule
instance : MS w_law_is_rule := by unfold w_law_is_rule; infer_instance
instance : MF F_law_is_rule := by unfold F_law_is_rule; infer_instance
theorem ok_law_is_rule (g : Gd fa fn cons K mg) : Fx P w K mg base (He.ga K) "_law_is_rule" F_law_is_rule 1 2 :=
  g.fx (d := d_law_is_rule) 14 N_law_is_rule ["_law_value"] rfl rfl rfl ⟨rfl, rfl, rfl, by decide +kernel, rfl, by decide +kernel, by decide +kernel⟩ (by decide +kernel) rfl inferInstance (fun _ _ _ _ _ _ us hl => match us, hl with | [_], _ => rfl) (fun X E hP hw hK hm hB n0 c0 => by
    subst hP hw hK hm hB
    have o_law_values := ok_law_values (P := X.prog) (w := X.w) (base := X.base) g
    have bi := bi g
    exact (pxb_cons (pxs_if (pxw_or (pxt_not (pxt_val (xisi (T := .tuple) n0.toNm bi (xv n0.toNm 0)))) (pxw_or1 (pxt_ne c0.u (xbi n0.toNm bi call_len n_len (xac (xv n0.toNm 0) xa0)) px_int))).pxt (pxb_cons (pxs_ret px_bl) pxb_nil) pxb_nil) (pxb_cons (pxs_for c0 (xenum n0.toNm bi (xcall0 n0.toNm c0 o_law_values)) (pxg_tup c0.calm (pxgs_cons (yg n0) (pxgs_cons (yg n0) pxgs_nil))) (pxb_cons (pxs_if (pxw_or (pxt_not (pxt_val (xisi (T := .str) n0.toNm bi (px_ix (ha := (xv n0.toNm 0)) (hb := (xv n0.toNm 1)))))) (pxw_or1 (pxt_notin (by rfl) (px_ix (ha := (xv n0.toNm 0)) (hb := (xv n0.toNm 1))) (xv n0.toNm 2)))).pxt (pxb_cons (pxs_ret px_bl) pxb_nil) pxb_nil) pxb_nil)) (pxb_cons (pxs_ret px_bl) pxb_nil))))
def N_law_rule : List Str := ["_law_source_here", "_law_some"]
def w_law_rule : DS := (seqS (retS (callNW tupleD (consA (lcW (seqI (callW F_law_values nilA)) (bindN 1) yesT (callW F_law_choice (consA (varW 0) (consA (varW 1) nilA))) [1]) nilA))) nextS)
def F_law_rule : FS := funW 2 w_law_rule
instance : MS w_law_rule := by unfold w_law_rule; infer_instance
instance : MF F_law_rule := by unfold F_law_rule; infer_instance
theorem ok_law_rule (g : Gd fa fn cons K mg) : Fx P w K mg base (He.ga K) "_law_rule" F_law_rule 1 3 :=
  g.fx (d := d_law_rule) 11 N_law_rule ["_law_source_here"] rfl rfl rfl ⟨rfl, rfl, rfl, by decide +kernel, rfl, by decide +kernel, by decide +kernel⟩ (by decide +kernel) rfl inferInstance (fun _ _ _ _ _ _ us hl => match us, hl with | [_], _ => rfl) (fun X E hP hw hK hm hB n0 c0 => by
    subst hP hw hK hm hB
    have o_law_choice := ok_law_choice (P := X.prog) (w := X.w) (base := X.base) g
    have o_law_values := ok_law_values (P := X.prog) (w := X.w) (base := X.base) g
    have bi := bi g
    exact (pxb_cons (pxs_ret (xty n0.toNm bi call_tuple_of n_tuple (xac (xlc n0.toNm c0 (pxi_seq (xcall0 n0.toNm c0 o_law_values)) [("_law_some", 1)] (xcn n0.toNm) (fun _ _ _ _ _ m1 c1 => pxf_nil) (fun _ _ _ _ _ m1 c1 => (xcall m1 c1 o_law_choice (xac (xv m1 0) (xac (xv m1 1) xa0))))) xa0))) pxb_nil))
def N_law_offer : List Str := ["_law_source_here", "_law_most", "_law_turn", "_law_found", "_law_last"]
def w_law_offer : DS := (seqS (tgtS (tupW (consA (tupW nilA) (consA (cW (.int 0)) nilA))) (tupG 2 (consGs (nameG 3) (consGs (nameG 4) nilGs)))) (seqS (forS (rng1I (op2W addD (cW (.int 1)) (callW F_law_draw (consA (varW 0) (consA (varW 1) nilA))))) (nameG 2) (seqS (asgS 4 (op2W addD (op2W addD (varW 4) (cW (.int 1))) (callW F_law_draw (consA (varW 0) (consA (cW (.int 10)) nilA))))) (seqS (asgS 3 (op2W addD (varW 3) (tupW (consA (varW 4) nilA)))) nextS))) (seqS (retS (tupW (consA (varW 3) (consA (callNW tupleD (consA (lcW (rng1I (callW F_law_choice (consA (varW 0) (consA (lstW (consA (cW (.int 1)) (consA (cW (.int 1)) (consA (cW (.int 2)) (consA (cW (.int 3)) nilA))))) nilA)))) (bindN 2) yesT (op2W addD (cW (.int 2)) (callW F_law_draw (consA (varW 0) (consA (cW (.int 5)) nilA)))) [2]) nilA)) nilA)))) nextS)))
def F_law_offer : FS := funW 5 w_law_offer
instance : MS w_law_offer := by unfold w_law_offer; infer_instance
instance : MF F_law_offer := by unfold F_law_offer; infer_instance
theorem ok_law_offer (g : Gd fa fn cons K mg) : Fx P w K mg base (He.ga K) "_law_offer" F_law_offer 2 3 :=
  g.fx (d := d_law_offer) 12 N_law_offer ["_law_source_here", "_law_most"] rfl rfl rfl ⟨rfl, rfl, rfl, by decide +kernel, rfl, by decide +kernel, by decide +kernel⟩ (by decide +kernel) rfl inferInstance (fun _ _ _ _ _ _ us hl => match us, hl with | [_, _], _ => rfl) (fun X E hP hw hK hm hB n0 c0 => by
    subst hP hw hK hm hB
    have o_law_draw := ok_law_draw (P := X.prog) (w := X.w) (base := X.base) g
    have o_law_choice := ok_law_choice (P := X.prog) (w := X.w) (base := X.base) g
    have bi := bi g
    exact (pxb_cons (pxs_tgt (px_tup (xac (px_tup xa0.a) (xac px_int xa0)).a) (pxg_tup c0.calm (pxgs_cons (yg n0) (pxgs_cons (yg n0) pxgs_nil))) (hw := swn (by decide +kernel))) (pxb_cons (pxs_for c0 (xrng1 n0.toNm bi (px_add px_int (xcall n0.toNm c0 o_law_draw (xac (xv n0.toNm 0) (xac (xv n0.toNm 1) xa0))))) (yg n0) (pxb_cons (ys n0 (px_add (px_add (xv n0.toNm 4) px_int) (xcall n0.toNm c0 o_law_draw (xac (xv n0.toNm 0) (xac px_int xa0))))) (pxb_cons (ys n0 (px_add (xv n0.toNm 3) (px_tup (xac (xv n0.toNm 4) xa0).a))) pxb_nil))) (pxb_cons (pxs_ret (px_tup (xac (xv n0.toNm 3) (xac (xty n0.toNm bi call_tuple_of n_tuple (xac (xlc n0.toNm c0 (xrng1 n0.toNm bi (xcall n0.toNm c0 o_law_choice (xac (xv n0.toNm 0) (xac (px_lst (xac px_int (xac px_int (xac px_int (xac px_int xa0)))).a) xa0)))) [("_law_turn", 2)] (xcn n0.toNm) (fun _ _ _ _ _ m1 c1 => pxf_nil) (fun _ _ _ _ _ m1 c1 => (px_add px_int (xcall m1 c1 o_law_draw (xac (xv m1 0) (xac px_int xa0)))))) xa0)) xa0)).a)) pxb_nil))))
def N_law_bent : List Str := ["_law_source_here", "_law_value", "_law_way", "_law_some", "_law_at"]
def w_law_bent (F_law_bent : FS) : DS := (seqS (asgS 2 (callW F_law_draw (consA (varW 0) (consA (cW (.int 6)) nilA)))) (seqS (ifS (andW (testW (op1W (isiD .tuple) (varW 1))) (andW (testW (op2W neD (varW 1) (tupW nilA))) (testW (op2W gtD (varW 2) (cW (.int 0)))))) (seqS (asgS 4 (callW F_law_draw (consA (varW 0) (consA (callNW lenD (consA (varW 1) nilA)) nilA)))) (seqS (ifS (testW (op2W eqD (varW 2) (cW (.int 1)))) (seqS (retS (op2W addD (sliceW (varW 1) noPartW (partW (varW 4))) (sliceW (varW 1) (partW (op2W addD (varW 4) (cW (.int 1)))) noPartW))) nextS) nextS) (seqS (ifS (testW (op2W eqD (varW 2) (cW (.int 2)))) (seqS (retS (op2W addD (sliceW (varW 1) noPartW (partW (op2W addD (varW 4) (cW (.int 1))))) (sliceW (varW 1) (partW (varW 4)) noPartW))) nextS) nextS) (seqS (retS (op2W addD (op2W addD (sliceW (varW 1) noPartW (partW (varW 4))) (tupW (consA (callW F_law_bent (consA (varW 0) (consA (op2W ixD (varW 1) (varW 4)) nilA))) nilA))) (sliceW (varW 1) (partW (op2W addD (varW 4) (cW (.int 1)))) noPartW))) nextS)))) nextS) (seqS (asgS 3 (lstW (consA (cW .none) (consA (cW (.bool true)) (consA (cW (.bool false)) (consA (cW (.int 0)) (consA (cW (.int 1)) (consA (cW (.int 2)) (consA (cW (.int 3)) (consA (cW (.int 6)) (consA (cW (.int 7)) (consA (cW (.int 30)) (consA (cW (.int 31)) (consA (op1W negD (cW (.int 1))) (consA (cW (.str "now")) (consA (cW (.str "turn")) (consA (cW (.str "days")) (consA (cW (.str "early")) (consA (cW (.str "anew")) (consA (cW (.str "")) (consA (tupW nilA) (consA (lstW nilA) nilA)))))))))))))))))))))) (seqS (retS (callW F_law_choice (consA (varW 0) (consA (op2W addD (varW 3) (lstW (consA (tupW (consA (cW (.int 4)) nilA)) (consA (tupW (consA (cW (.int 6)) (consA (cW (.int 12)) nilA))) (consA (cW (.str "back")) (consA (cW (.str "near")) (consA (cW (.str "lost")) (consA (cW (.str "Now")) nilA)))))))) nilA)))) nextS))))
instance i_law_bent {F : FS} [MF F] : MS (w_law_bent F) := by unfold w_law_bent; infer_instance
def noS : DS := fun _ _ _ => False
instance : MS noS := ⟨fun _ _ _ _ _ h => h⟩
def FB : Nat → FS
  | 0 => funW 5 noS
  | n + 1 => funW 5 (w_law_bent (FB n))
instance i_FB : ∀ n : Nat, MF (FB n)
  | 0 => (inferInstance : MF (funW 5 noS))
  | n + 1 => by
    have := i_FB n
    exact (inferInstance : MF (funW 5 (w_law_bent (FB n))))
abbrev F_law_bent : FS := FB 6
theorem ok_law_bent0 (g : Gd fa fn cons K mg) : Fx P w K mg base (He.ga K) "_law_bent" (funW 5 noS) 2 3 :=
  g.fx (d := d_law_bent) 15 N_law_bent ["_law_source_here", "_law_value"] rfl rfl rfl ⟨rfl, rfl, rfl, by decide +kernel, rfl, by decide +kernel, by decide +kernel⟩ (by decide +kernel) rfl inferInstance (fun _ _ _ _ _ _ us hl => match us, hl with | [_, _], _ => rfl) (fun X E hP hw hK hm hB n0 c0 => by
    exact ⟨fun _ _ _ _ _ h => h, ⟨fun _ _ _ _ _ _ h => h.elim fun _ h => h.elim fun _ h => h.elim fun _ h => h.elim fun _ h => h.2.2.elim⟩⟩)
theorem ok_law_bent1 (g : Gd fa fn cons K mg) : Fx P w K mg base (He.ga K) "_law_bent" (funW 5 (w_law_bent (FB 0))) 2 4 :=
  g.fx (d := d_law_bent) 15 N_law_bent ["_law_source_here", "_law_value"] rfl rfl rfl ⟨rfl, rfl, rfl, by decide +kernel, rfl, by decide +kernel, by decide +kernel⟩ (by decide +kernel) rfl inferInstance (fun _ _ _ _ _ _ us hl => match us, hl with | [_, _], _ => rfl) (fun X E hP hw hK hm hB n0 c0 => by
    subst hP hw hK hm hB
    have o_law_draw := ok_law_draw (P := X.prog) (w := X.w) (base := X.base) g
    have o_law_choice := ok_law_choice (P := X.prog) (w := X.w) (base := X.base) g
    have o_law_bent : Fx X.prog X.w X.K X.mg X.base (He.ga X.K) "_law_bent" (FB 0) 2 3 := ok_law_bent0 g
    have bi := bi g
    exact (pxb_cons (ys n0 (xcall n0.toNm c0 o_law_draw (xac (xv n0.toNm 0) (xac px_int xa0)))) (pxb_cons (pxs_if (pxw_and (pxt_val (xisi (T := .tuple) n0.toNm bi (xv n0.toNm 1))) (pxw_and (pxt_ne c0.u (xv n0.toNm 1) (px_tup xa0.a)) (pxw_and1 (pxt_gt (xv n0.toNm 2) px_int)))).pxt (pxb_cons (ys n0 (xcall n0.toNm c0 o_law_draw (xac (xv n0.toNm 0) (xac (xbi n0.toNm bi call_len n_len (xac (xv n0.toNm 1) xa0)) xa0)))) (pxb_cons (pxs_if (pxt_eq c0.u (xv n0.toNm 2) px_int) (pxb_cons (pxs_ret (px_add (px_slice (xv n0.toNm 1) pxo_none (pxo_some (xv n0.toNm 4))) (px_slice (xv n0.toNm 1) (pxo_some (px_add (xv n0.toNm 4) px_int)) pxo_none))) pxb_nil) pxb_nil) (pxb_cons (pxs_if (pxt_eq c0.u (xv n0.toNm 2) px_int) (pxb_cons (pxs_ret (px_add (px_slice (xv n0.toNm 1) pxo_none (pxo_some (px_add (xv n0.toNm 4) px_int))) (px_slice (xv n0.toNm 1) (pxo_some (xv n0.toNm 4)) pxo_none))) pxb_nil) pxb_nil) (pxb_cons (pxs_ret (px_add (px_add (px_slice (xv n0.toNm 1) pxo_none (pxo_some (xv n0.toNm 4))) (px_tup (xac (xcall n0.toNm c0 o_law_bent (xac (xv n0.toNm 0) (xac (px_ix (ha := (xv n0.toNm 1)) (hb := (xv n0.toNm 4))) xa0))) xa0).a)) (px_slice (xv n0.toNm 1) (pxo_some (px_add (xv n0.toNm 4) px_int)) pxo_none))) pxb_nil)))) pxb_nil) (pxb_cons (ys n0 (px_lst (xac px_non (xac px_bl (xac px_bl (xac px_int (xac px_int (xac px_int (xac px_int (xac px_int (xac px_int (xac px_int (xac px_int (xac (px_neg px_int) (xac px_str (xac px_str (xac px_str (xac px_str (xac px_str (xac px_str (xac (px_tup xa0.a) (xac (px_lst xa0.a) xa0)))))))))))))))))))).a)) (pxb_cons (pxs_ret (xcall n0.toNm c0 o_law_choice (xac (xv n0.toNm 0) (xac (px_add (xv n0.toNm 3) (px_lst (xac (px_tup (xac px_int xa0).a) (xac (px_tup (xac px_int (xac px_int xa0)).a) (xac px_str (xac px_str (xac px_str (xac px_str xa0)))))).a)) xa0)))) pxb_nil)))))
theorem ok_law_bent2 (g : Gd fa fn cons K mg) : Fx P w K mg base (He.ga K) "_law_bent" (funW 5 (w_law_bent (FB 1))) 2 5 :=
  g.fx (d := d_law_bent) 15 N_law_bent ["_law_source_here", "_law_value"] rfl rfl rfl ⟨rfl, rfl, rfl, by decide +kernel, rfl, by decide +kernel, by decide +kernel⟩ (by decide +kernel) rfl inferInstance (fun _ _ _ _ _ _ us hl => match us, hl with | [_, _], _ => rfl) (fun X E hP hw hK hm hB n0 c0 => by
    subst hP hw hK hm hB
    have o_law_draw := ok_law_draw (P := X.prog) (w := X.w) (base := X.base) g
    have o_law_choice := ok_law_choice (P := X.prog) (w := X.w) (base := X.base) g
    have o_law_bent : Fx X.prog X.w X.K X.mg X.base (He.ga X.K) "_law_bent" (FB 1) 2 4 := ok_law_bent1 g
    have bi := bi g
    exact (pxb_cons (ys n0 (xcall n0.toNm c0 o_law_draw (xac (xv n0.toNm 0) (xac px_int xa0)))) (pxb_cons (pxs_if (pxw_and (pxt_val (xisi (T := .tuple) n0.toNm bi (xv n0.toNm 1))) (pxw_and (pxt_ne c0.u (xv n0.toNm 1) (px_tup xa0.a)) (pxw_and1 (pxt_gt (xv n0.toNm 2) px_int)))).pxt (pxb_cons (ys n0 (xcall n0.toNm c0 o_law_draw (xac (xv n0.toNm 0) (xac (xbi n0.toNm bi call_len n_len (xac (xv n0.toNm 1) xa0)) xa0)))) (pxb_cons (pxs_if (pxt_eq c0.u (xv n0.toNm 2) px_int) (pxb_cons (pxs_ret (px_add (px_slice (xv n0.toNm 1) pxo_none (pxo_some (xv n0.toNm 4))) (px_slice (xv n0.toNm 1) (pxo_some (px_add (xv n0.toNm 4) px_int)) pxo_none))) pxb_nil) pxb_nil) (pxb_cons (pxs_if (pxt_eq c0.u (xv n0.toNm 2) px_int) (pxb_cons (pxs_ret (px_add (px_slice (xv n0.toNm 1) pxo_none (pxo_some (px_add (xv n0.toNm 4) px_int))) (px_slice (xv n0.toNm 1) (pxo_some (xv n0.toNm 4)) pxo_none))) pxb_nil) pxb_nil) (pxb_cons (pxs_ret (px_add (px_add (px_slice (xv n0.toNm 1) pxo_none (pxo_some (xv n0.toNm 4))) (px_tup (xac (xcall n0.toNm c0 o_law_bent (xac (xv n0.toNm 0) (xac (px_ix (ha := (xv n0.toNm 1)) (hb := (xv n0.toNm 4))) xa0))) xa0).a)) (px_slice (xv n0.toNm 1) (pxo_some (px_add (xv n0.toNm 4) px_int)) pxo_none))) pxb_nil)))) pxb_nil) (pxb_cons (ys n0 (px_lst (xac px_non (xac px_bl (xac px_bl (xac px_int (xac px_int (xac px_int (xac px_int (xac px_int (xac px_int (xac px_int (xac px_int (xac (px_neg px_int) (xac px_str (xac px_str (xac px_str (xac px_str (xac px_str (xac px_str (xac (px_tup xa0.a) (xac (px_lst xa0.a) xa0)))))))))))))))))))).a)) (pxb_cons (pxs_ret (xcall n0.toNm c0 o_law_choice (xac (xv n0.toNm 0) (xac (px_add (xv n0.toNm 3) (px_lst (xac (px_tup (xac px_int xa0).a) (xac (px_tup (xac px_int (xac px_int xa0)).a) (xac px_str (xac px_str (xac px_str (xac px_str xa0)))))).a)) xa0)))) pxb_nil)))))
theorem ok_law_bent3 (g : Gd fa fn cons K mg) : Fx P w K mg base (He.ga K) "_law_bent" (funW 5 (w_law_bent (FB 2))) 2 6 :=
  g.fx (d := d_law_bent) 15 N_law_bent ["_law_source_here", "_law_value"] rfl rfl rfl ⟨rfl, rfl, rfl, by decide +kernel, rfl, by decide +kernel, by decide +kernel⟩ (by decide +kernel) rfl inferInstance (fun _ _ _ _ _ _ us hl => match us, hl with | [_, _], _ => rfl) (fun X E hP hw hK hm hB n0 c0 => by
    subst hP hw hK hm hB
    have o_law_draw := ok_law_draw (P := X.prog) (w := X.w) (base := X.base) g
    have o_law_choice := ok_law_choice (P := X.prog) (w := X.w) (base := X.base) g
    have o_law_bent : Fx X.prog X.w X.K X.mg X.base (He.ga X.K) "_law_bent" (FB 2) 2 5 := ok_law_bent2 g
    have bi := bi g
    exact (pxb_cons (ys n0 (xcall n0.toNm c0 o_law_draw (xac (xv n0.toNm 0) (xac px_int xa0)))) (pxb_cons (pxs_if (pxw_and (pxt_val (xisi (T := .tuple) n0.toNm bi (xv n0.toNm 1))) (pxw_and (pxt_ne c0.u (xv n0.toNm 1) (px_tup xa0.a)) (pxw_and1 (pxt_gt (xv n0.toNm 2) px_int)))).pxt (pxb_cons (ys n0 (xcall n0.toNm c0 o_law_draw (xac (xv n0.toNm 0) (xac (xbi n0.toNm bi call_len n_len (xac (xv n0.toNm 1) xa0)) xa0)))) (pxb_cons (pxs_if (pxt_eq c0.u (xv n0.toNm 2) px_int) (pxb_cons (pxs_ret (px_add (px_slice (xv n0.toNm 1) pxo_none (pxo_some (xv n0.toNm 4))) (px_slice (xv n0.toNm 1) (pxo_some (px_add (xv n0.toNm 4) px_int)) pxo_none))) pxb_nil) pxb_nil) (pxb_cons (pxs_if (pxt_eq c0.u (xv n0.toNm 2) px_int) (pxb_cons (pxs_ret (px_add (px_slice (xv n0.toNm 1) pxo_none (pxo_some (px_add (xv n0.toNm 4) px_int))) (px_slice (xv n0.toNm 1) (pxo_some (xv n0.toNm 4)) pxo_none))) pxb_nil) pxb_nil) (pxb_cons (pxs_ret (px_add (px_add (px_slice (xv n0.toNm 1) pxo_none (pxo_some (xv n0.toNm 4))) (px_tup (xac (xcall n0.toNm c0 o_law_bent (xac (xv n0.toNm 0) (xac (px_ix (ha := (xv n0.toNm 1)) (hb := (xv n0.toNm 4))) xa0))) xa0).a)) (px_slice (xv n0.toNm 1) (pxo_some (px_add (xv n0.toNm 4) px_int)) pxo_none))) pxb_nil)))) pxb_nil) (pxb_cons (ys n0 (px_lst (xac px_non (xac px_bl (xac px_bl (xac px_int (xac px_int (xac px_int (xac px_int (xac px_int (xac px_int (xac px_int (xac px_int (xac (px_neg px_int) (xac px_str (xac px_str (xac px_str (xac px_str (xac px_str (xac px_str (xac (px_tup xa0.a) (xac (px_lst xa0.a) xa0)))))))))))))))))))).a)) (pxb_cons (pxs_ret (xcall n0.toNm c0 o_law_choice (xac (xv n0.toNm 0) (xac (px_add (xv n0.toNm 3) (px_lst (xac (px_tup (xac px_int xa0).a) (xac (px_tup (xac px_int (xac px_int xa0)).a) (xac px_str (xac px_str (xac px_str (xac px_str xa0)))))).a)) xa0)))) pxb_nil)))))
theorem ok_law_bent4 (g : Gd fa fn cons K mg) : Fx P w K mg base (He.ga K) "_law_bent" (funW 5 (w_law_bent (FB 3))) 2 7 :=
  g.fx (d := d_law_bent) 15 N_law_bent ["_law_source_here", "_law_value"] rfl rfl rfl ⟨rfl, rfl, rfl, by decide +kernel, rfl, by decide +kernel, by decide +kernel⟩ (by decide +kernel) rfl inferInstance (fun _ _ _ _ _ _ us hl => match us, hl with | [_, _], _ => rfl) (fun X E hP hw hK hm hB n0 c0 => by
    subst hP hw hK hm hB
    have o_law_draw := ok_law_draw (P := X.prog) (w := X.w) (base := X.base) g
    have o_law_choice := ok_law_choice (P := X.prog) (w := X.w) (base := X.base) g
    have o_law_bent : Fx X.prog X.w X.K X.mg X.base (He.ga X.K) "_law_bent" (FB 3) 2 6 := ok_law_bent3 g
    have bi := bi g
    exact (pxb_cons (ys n0 (xcall n0.toNm c0 o_law_draw (xac (xv n0.toNm 0) (xac px_int xa0)))) (pxb_cons (pxs_if (pxw_and (pxt_val (xisi (T := .tuple) n0.toNm bi (xv n0.toNm 1))) (pxw_and (pxt_ne c0.u (xv n0.toNm 1) (px_tup xa0.a)) (pxw_and1 (pxt_gt (xv n0.toNm 2) px_int)))).pxt (pxb_cons (ys n0 (xcall n0.toNm c0 o_law_draw (xac (xv n0.toNm 0) (xac (xbi n0.toNm bi call_len n_len (xac (xv n0.toNm 1) xa0)) xa0)))) (pxb_cons (pxs_if (pxt_eq c0.u (xv n0.toNm 2) px_int) (pxb_cons (pxs_ret (px_add (px_slice (xv n0.toNm 1) pxo_none (pxo_some (xv n0.toNm 4))) (px_slice (xv n0.toNm 1) (pxo_some (px_add (xv n0.toNm 4) px_int)) pxo_none))) pxb_nil) pxb_nil) (pxb_cons (pxs_if (pxt_eq c0.u (xv n0.toNm 2) px_int) (pxb_cons (pxs_ret (px_add (px_slice (xv n0.toNm 1) pxo_none (pxo_some (px_add (xv n0.toNm 4) px_int))) (px_slice (xv n0.toNm 1) (pxo_some (xv n0.toNm 4)) pxo_none))) pxb_nil) pxb_nil) (pxb_cons (pxs_ret (px_add (px_add (px_slice (xv n0.toNm 1) pxo_none (pxo_some (xv n0.toNm 4))) (px_tup (xac (xcall n0.toNm c0 o_law_bent (xac (xv n0.toNm 0) (xac (px_ix (ha := (xv n0.toNm 1)) (hb := (xv n0.toNm 4))) xa0))) xa0).a)) (px_slice (xv n0.toNm 1) (pxo_some (px_add (xv n0.toNm 4) px_int)) pxo_none))) pxb_nil)))) pxb_nil) (pxb_cons (ys n0 (px_lst (xac px_non (xac px_bl (xac px_bl (xac px_int (xac px_int (xac px_int (xac px_int (xac px_int (xac px_int (xac px_int (xac px_int (xac (px_neg px_int) (xac px_str (xac px_str (xac px_str (xac px_str (xac px_str (xac px_str (xac (px_tup xa0.a) (xac (px_lst xa0.a) xa0)))))))))))))))))))).a)) (pxb_cons (pxs_ret (xcall n0.toNm c0 o_law_choice (xac (xv n0.toNm 0) (xac (px_add (xv n0.toNm 3) (px_lst (xac (px_tup (xac px_int xa0).a) (xac (px_tup (xac px_int (xac px_int xa0)).a) (xac px_str (xac px_str (xac px_str (xac px_str xa0)))))).a)) xa0)))) pxb_nil)))))
theorem ok_law_bent5 (g : Gd fa fn cons K mg) : Fx P w K mg base (He.ga K) "_law_bent" (funW 5 (w_law_bent (FB 4))) 2 8 :=
  g.fx (d := d_law_bent) 15 N_law_bent ["_law_source_here", "_law_value"] rfl rfl rfl ⟨rfl, rfl, rfl, by decide +kernel, rfl, by decide +kernel, by decide +kernel⟩ (by decide +kernel) rfl inferInstance (fun _ _ _ _ _ _ us hl => match us, hl with | [_, _], _ => rfl) (fun X E hP hw hK hm hB n0 c0 => by
    subst hP hw hK hm hB
    have o_law_draw := ok_law_draw (P := X.prog) (w := X.w) (base := X.base) g
    have o_law_choice := ok_law_choice (P := X.prog) (w := X.w) (base := X.base) g
    have o_law_bent : Fx X.prog X.w X.K X.mg X.base (He.ga X.K) "_law_bent" (FB 4) 2 7 := ok_law_bent4 g
    have bi := bi g
    exact (pxb_cons (ys n0 (xcall n0.toNm c0 o_law_draw (xac (xv n0.toNm 0) (xac px_int xa0)))) (pxb_cons (pxs_if (pxw_and (pxt_val (xisi (T := .tuple) n0.toNm bi (xv n0.toNm 1))) (pxw_and (pxt_ne c0.u (xv n0.toNm 1) (px_tup xa0.a)) (pxw_and1 (pxt_gt (xv n0.toNm 2) px_int)))).pxt (pxb_cons (ys n0 (xcall n0.toNm c0 o_law_draw (xac (xv n0.toNm 0) (xac (xbi n0.toNm bi call_len n_len (xac (xv n0.toNm 1) xa0)) xa0)))) (pxb_cons (pxs_if (pxt_eq c0.u (xv n0.toNm 2) px_int) (pxb_cons (pxs_ret (px_add (px_slice (xv n0.toNm 1) pxo_none (pxo_some (xv n0.toNm 4))) (px_slice (xv n0.toNm 1) (pxo_some (px_add (xv n0.toNm 4) px_int)) pxo_none))) pxb_nil) pxb_nil) (pxb_cons (pxs_if (pxt_eq c0.u (xv n0.toNm 2) px_int) (pxb_cons (pxs_ret (px_add (px_slice (xv n0.toNm 1) pxo_none (pxo_some (px_add (xv n0.toNm 4) px_int))) (px_slice (xv n0.toNm 1) (pxo_some (xv n0.toNm 4)) pxo_none))) pxb_nil) pxb_nil) (pxb_cons (pxs_ret (px_add (px_add (px_slice (xv n0.toNm 1) pxo_none (pxo_some (xv n0.toNm 4))) (px_tup (xac (xcall n0.toNm c0 o_law_bent (xac (xv n0.toNm 0) (xac (px_ix (ha := (xv n0.toNm 1)) (hb := (xv n0.toNm 4))) xa0))) xa0).a)) (px_slice (xv n0.toNm 1) (pxo_some (px_add (xv n0.toNm 4) px_int)) pxo_none))) pxb_nil)))) pxb_nil) (pxb_cons (ys n0 (px_lst (xac px_non (xac px_bl (xac px_bl (xac px_int (xac px_int (xac px_int (xac px_int (xac px_int (xac px_int (xac px_int (xac px_int (xac (px_neg px_int) (xac px_str (xac px_str (xac px_str (xac px_str (xac px_str (xac px_str (xac (px_tup xa0.a) (xac (px_lst xa0.a) xa0)))))))))))))))))))).a)) (pxb_cons (pxs_ret (xcall n0.toNm c0 o_law_choice (xac (xv n0.toNm 0) (xac (px_add (xv n0.toNm 3) (px_lst (xac (px_tup (xac px_int xa0).a) (xac (px_tup (xac px_int (xac px_int xa0)).a) (xac px_str (xac px_str (xac px_str (xac px_str xa0)))))).a)) xa0)))) pxb_nil)))))
theorem ok_law_bent6 (g : Gd fa fn cons K mg) : Fx P w K mg base (He.ga K) "_law_bent" (funW 5 (w_law_bent (FB 5))) 2 9 :=
  g.fx (d := d_law_bent) 15 N_law_bent ["_law_source_here", "_law_value"] rfl rfl rfl ⟨rfl, rfl, rfl, by decide +kernel, rfl, by decide +kernel, by decide +kernel⟩ (by decide +kernel) rfl inferInstance (fun _ _ _ _ _ _ us hl => match us, hl with | [_, _], _ => rfl) (fun X E hP hw hK hm hB n0 c0 => by
    subst hP hw hK hm hB
    have o_law_draw := ok_law_draw (P := X.prog) (w := X.w) (base := X.base) g
    have o_law_choice := ok_law_choice (P := X.prog) (w := X.w) (base := X.base) g
    have o_law_bent : Fx X.prog X.w X.K X.mg X.base (He.ga X.K) "_law_bent" (FB 5) 2 8 := ok_law_bent5 g
    have bi := bi g
    exact (pxb_cons (ys n0 (xcall n0.toNm c0 o_law_draw (xac (xv n0.toNm 0) (xac px_int xa0)))) (pxb_cons (pxs_if (pxw_and (pxt_val (xisi (T := .tuple) n0.toNm bi (xv n0.toNm 1))) (pxw_and (pxt_ne c0.u (xv n0.toNm 1) (px_tup xa0.a)) (pxw_and1 (pxt_gt (xv n0.toNm 2) px_int)))).pxt (pxb_cons (ys n0 (xcall n0.toNm c0 o_law_draw (xac (xv n0.toNm 0) (xac (xbi n0.toNm bi call_len n_len (xac (xv n0.toNm 1) xa0)) xa0)))) (pxb_cons (pxs_if (pxt_eq c0.u (xv n0.toNm 2) px_int) (pxb_cons (pxs_ret (px_add (px_slice (xv n0.toNm 1) pxo_none (pxo_some (xv n0.toNm 4))) (px_slice (xv n0.toNm 1) (pxo_some (px_add (xv n0.toNm 4) px_int)) pxo_none))) pxb_nil) pxb_nil) (pxb_cons (pxs_if (pxt_eq c0.u (xv n0.toNm 2) px_int) (pxb_cons (pxs_ret (px_add (px_slice (xv n0.toNm 1) pxo_none (pxo_some (px_add (xv n0.toNm 4) px_int))) (px_slice (xv n0.toNm 1) (pxo_some (xv n0.toNm 4)) pxo_none))) pxb_nil) pxb_nil) (pxb_cons (pxs_ret (px_add (px_add (px_slice (xv n0.toNm 1) pxo_none (pxo_some (xv n0.toNm 4))) (px_tup (xac (xcall n0.toNm c0 o_law_bent (xac (xv n0.toNm 0) (xac (px_ix (ha := (xv n0.toNm 1)) (hb := (xv n0.toNm 4))) xa0))) xa0).a)) (px_slice (xv n0.toNm 1) (pxo_some (px_add (xv n0.toNm 4) px_int)) pxo_none))) pxb_nil)))) pxb_nil) (pxb_cons (ys n0 (px_lst (xac px_non (xac px_bl (xac px_bl (xac px_int (xac px_int (xac px_int (xac px_int (xac px_int (xac px_int (xac px_int (xac px_int (xac (px_neg px_int) (xac px_str (xac px_str (xac px_str (xac px_str (xac px_str (xac px_str (xac (px_tup xa0.a) (xac (px_lst xa0.a) xa0)))))))))))))))))))).a)) (pxb_cons (pxs_ret (xcall n0.toNm c0 o_law_choice (xac (xv n0.toNm 0) (xac (px_add (xv n0.toNm 3) (px_lst (xac (px_tup (xac px_int xa0).a) (xac (px_tup (xac px_int (xac px_int xa0)).a) (xac px_str (xac px_str (xac px_str (xac px_str xa0)))))).a)) xa0)))) pxb_nil)))))
theorem ok_law_bent (g : Gd fa fn cons K mg) : Fx P w K mg base (He.ga K) "_law_bent" F_law_bent 2 9 := ok_law_bent6 g
def N_law : List Str := ["_law_script", "_law_k", "_law_rows", "_law_found", "_law_source_here", "_law_turn", "_law_offer_here", "_law_rule_here", "_law_one", "_law_other", "_law_told", "_law_row", "_law_word"]
def w_law : DS := (seqS (forS (rng1I (op2W addD (cW (.int 1)) (callNW minD (consA (callNW lenD (consA (varW 0) nilA)) (consA (cW (.int 10)) nilA))))) (nameG 1) (seqS (asgS 4 (callW F_law_source (consA (varW 0) (consA (varW 1) nilA)))) (seqS (par2S 6 7 (consA (callW F_law_offer (consA (varW 4) (consA (cW (.int 3)) nilA))) (consA (callW F_law_rule (consA (varW 4) nilA)) nilA))) (seqS (par2S 8 9 (consA (varW 6) (consA (varW 7) nilA))) (seqS (forS (rng1I (cW (.int 11))) (nameG 5) (seqS (asgS 10 (lstW (consA (callW F_is_offer (consA (varW 8) nilA)) (consA (callW F_is_rule (consA (varW 9) nilA)) nilA)))) (seqS (ifS (testW (op2W neD (lcW (seqI (varW 10)) (bindN 12) (notW (testW (op1W (isiD .bool) (varW 12)))) (varW 12) [12]) (lstW nilA))) (seqS (retS (cW (.bool false))) nextS) nextS) (seqS (ifS (testW (op2W neD (varW 10) (lstW (consA (callW F_law_is_offer (consA (varW 8) nilA)) (consA (callW F_law_is_rule (consA (varW 9) nilA)) nilA))))) (seqS (retS (cW (.bool false))) nextS) nextS) (seqS (asgS 8 (callW F_law_bent (consA (varW 4) (consA (ifW (testW (op2W eqD (op2W modD (varW 5) (cW (.int 3))) (cW (.int 0)))) (varW 6) (varW 8)) nilA)))) (seqS (asgS 9 (callW F_law_bent (consA (varW 4) (consA (ifW (testW (op2W eqD (op2W modD (varW 5) (cW (.int 3))) (cW (.int 0)))) (varW 7) (varW 9)) nilA)))) nextS)))))) (seqS (ifS (orW (testW (op2W isnBD (callW F_is_offer (consA (callNW listD (consA (varW 6) nilA)) nilA)) (cW (.bool false)))) (testW (op2W isnBD (callW F_is_rule (consA (callNW listD (consA (varW 7) nilA)) nilA)) (cW (.bool false))))) (seqS (retS (cW (.bool false))) nextS) nextS) nextS)))))) (seqS (asgS 2 (lstW (consA (tupW (consA (tupW (consA (cW (.int 6)) (consA (cW (.int 6)) nilA))) (consA (tupW (consA (cW (.int 4)) nilA)) nilA))) (consA (tupW (consA (tupW (consA (cW (.int 1)) (consA (cW (.int 30)) nilA))) (consA (tupW (consA (cW (.int 2)) (consA (cW (.int 6)) (consA (cW (.int 2)) nilA)))) nilA))) (consA (tupW (consA (tupW (consA (cW (.int 0)) nilA)) (consA (tupW (consA (cW (.int 4)) nilA)) nilA))) (consA (tupW (consA (tupW (consA (cW (.int 31)) nilA)) (consA (tupW (consA (cW (.int 4)) nilA)) nilA))) (consA (tupW (consA (tupW (consA (cW (.int 5)) nilA)) (consA (tupW (consA (cW (.int 1)) nilA)) nilA))) (consA (tupW (consA (tupW (consA (cW (.int 5)) nilA)) (consA (tupW (consA (cW (.int 7)) nilA)) nilA))) (consA (tupW (consA (tupW nilA) (consA (tupW (consA (cW (.int 4)) nilA)) nilA))) nilA))))))))) (seqS (asgS 2 (op2W addD (varW 2) (lstW (consA (tupW (consA (tupW (consA (cW (.int 1)) (consA (cW (.int 2)) (consA (cW (.int 3)) (consA (cW (.int 4)) nilA))))) (consA (tupW (consA (cW (.int 4)) nilA)) nilA))) (consA (tupW (consA (tupW (consA (cW (.int 5)) nilA)) (consA (tupW nilA) nilA))) (consA (tupW (consA (tupW (consA (cW (.int 5)) nilA)) (consA (tupW (consA (cW (.int 2)) (consA (cW (.int 2)) (consA (cW (.int 2)) (consA (cW (.int 2)) nilA))))) nilA))) (consA (tupW (consA (tupW (consA (cW (.int 5)) (consA (cW (.int 3)) nilA))) (consA (tupW (consA (cW (.int 4)) nilA)) nilA))) nilA))))))) (seqS (asgS 2 (op2W addD (varW 2) (lstW (consA (tupW (consA (tupW (consA (cW (.bool true)) nilA)) (consA (tupW (consA (cW (.int 4)) nilA)) nilA))) (consA (tupW (consA (tupW (consA (cW (.int 5)) nilA)) (consA (tupW (consA (cW (.int 4)) nilA)) (consA (cW (.int 0)) nilA)))) nilA))))) (seqS (ifS (testW (op2W neD (lcW (seqI (varW 2)) (bindN 11) (testW (op2W neD (callW F_is_offer (consA (varW 11) nilA)) (callW F_law_is_offer (consA (varW 11) nilA)))) (varW 11) [11]) (lstW nilA))) (seqS (retS (cW (.bool false))) nextS) nextS) (seqS (asgS 3 (callW F_all_rules nilA)) (seqS (ifS (orW (notW (testW (op1W (isiD .list) (varW 3)))) (orW (testW (op2W neD (varW 3) (KS.sortSetW (varW 3)))) (testW (op2W neD (callNW lenD (consA (varW 3) nilA)) (cW (.int 288)))))) (seqS (retS (cW (.bool false))) nextS) nextS) (seqS (ifS (testW (callW F_is_rule (consA (tupW (consA (cW (.str "now")) (consA (cW (.str "now")) (consA (cW (.str "")) (consA (cW (.str "days")) (consA (cW (.str "back")) (consA (cW (.str "up")) nilA))))))) nilA))) (seqS (retS (cW (.bool false))) nextS) nextS) (seqS (retS (op2W eqD (lcW (seqI (varW 3)) (bindN 7) (notW (testW (callW F_law_is_rule (consA (varW 7) nilA)))) (varW 7) [7]) (lstW nilA))) nextS)))))))))
def F_law : FS := funW 13 w_law
instance : MS w_law := by unfold w_law; infer_instance
instance : MF F_law := by unfold F_law; infer_instance
theorem ok_law (g : Gd fa fn cons K mg) : ∃ fd, mg "law" = some (.ref (He.ga K "law")) ∧ (∀ (s : Shared) (us : List Value), us.length = (["_law_script"] : List Str).length → BindsTo s fd ⟨us, []⟩ ((["_law_script"] : List Str).zip us)) ∧ ∀ (P : Program) (w : World) (base : Heap), FnOk P w K mg base (L2.CX P w) 10 (He.ga K "law") fd ["_law_script"] (spD K (He.ga K) F_law 1) :=
  g.fl (d := d_law) 16 N_law ["_law_script"] rfl rfl rfl ⟨rfl, rfl, rfl, by decide +kernel, rfl, by decide +kernel, by decide +kernel⟩ (by decide +kernel) rfl (fun _ _ _ _ _ _ us hl => match us, hl with | [_], _ => rfl) (fun P w base X E hP hw hK hm hB n0 c0 => by
    subst hP hw hK hm hB
    have o_is_offer := ok_is_offer (P := X.prog) (w := X.w) (base := X.base) g
    have o_is_rule := ok_is_rule (P := X.prog) (w := X.w) (base := X.base) g
    have o_all_rules := ok_all_rules (P := X.prog) (w := X.w) (base := X.base) g
    have o_law_source := ok_law_source (P := X.prog) (w := X.w) (base := X.base) g
    have o_law_rule := ok_law_rule (P := X.prog) (w := X.w) (base := X.base) g
    have o_law_offer := ok_law_offer (P := X.prog) (w := X.w) (base := X.base) g
    have o_law_is_offer := ok_law_is_offer (P := X.prog) (w := X.w) (base := X.base) g
    have o_law_is_rule := ok_law_is_rule (P := X.prog) (w := X.w) (base := X.base) g
    have o_law_bent := ok_law_bent (P := X.prog) (w := X.w) (base := X.base) g
    have bi := bi g
    exact (pxb_cons (pxs_for c0 (xrng1 n0.toNm bi (px_add px_int (xbi n0.toNm bi (call_min2 c0.calm) n_min (xac (xbi n0.toNm bi call_len n_len (xac (xv n0.toNm 0) xa0)) (xac px_int xa0))))) (yg n0) (pxb_cons (ys n0 (xcall n0.toNm c0 o_law_source (xac (xv n0.toNm 0) (xac (xv n0.toNm 1) xa0)))) (pxb_cons (zpar2 n0 c0 (xac (xcall n0.toNm c0 o_law_offer (xac (xv n0.toNm 4) (xac px_int xa0))) (xac (xcall n0.toNm c0 o_law_rule (xac (xv n0.toNm 4) xa0)) xa0)).a) (pxb_cons (zpar2 n0 c0 (xac (xv n0.toNm 6) (xac (xv n0.toNm 7) xa0)).a) (pxb_cons (pxs_for c0 (xrng1 n0.toNm bi px_int) (yg n0) (pxb_cons (ys n0 (px_lst (xac (xcall n0.toNm c0 o_is_offer (xac (xv n0.toNm 8) xa0)) (xac (xcall n0.toNm c0 o_is_rule (xac (xv n0.toNm 9) xa0)) xa0)).a)) (pxb_cons (pxs_if (pxt_ne c0.u (xlc n0.toNm c0 (pxi_seq (xv n0.toNm 10)) [("_law_word", 12)] (xcn n0.toNm) (fun _ _ _ _ _ m1 c1 => (pxf_one (pxt_not (pxt_val (xisi (T := .bool) m1 bi (xv m1 12)))))) (fun _ _ _ _ _ m1 c1 => (xv m1 12))) (px_lst xa0.a)) (pxb_cons (pxs_ret px_bl) pxb_nil) pxb_nil) (pxb_cons (pxs_if (pxt_ne c0.u (xv n0.toNm 10) (px_lst (xac (xcall n0.toNm c0 o_law_is_offer (xac (xv n0.toNm 8) xa0)) (xac (xcall n0.toNm c0 o_law_is_rule (xac (xv n0.toNm 9) xa0)) xa0)).a)) (pxb_cons (pxs_ret px_bl) pxb_nil) pxb_nil) (pxb_cons (ys n0 (xcall n0.toNm c0 o_law_bent (xac (xv n0.toNm 4) (xac (px_if (pxt_eq c0.u (px_mod (xv n0.toNm 5) px_int) px_int) (xv n0.toNm 6) (xv n0.toNm 8)) xa0)))) (pxb_cons (ys n0 (xcall n0.toNm c0 o_law_bent (xac (xv n0.toNm 4) (xac (px_if (pxt_eq c0.u (px_mod (xv n0.toNm 5) px_int) px_int) (xv n0.toNm 7) (xv n0.toNm 9)) xa0)))) pxb_nil)))))) (pxb_cons (pxs_if (pxw_or (pxt_isnotB (xcall n0.toNm c0 o_is_offer (xac (xty n0.toNm bi call_list_of n_list (xac (xv n0.toNm 6) xa0)) xa0)) px_bl) (pxw_or1 (pxt_isnotB (xcall n0.toNm c0 o_is_rule (xac (xty n0.toNm bi call_list_of n_list (xac (xv n0.toNm 7) xa0)) xa0)) px_bl))).pxt (pxb_cons (pxs_ret px_bl) pxb_nil) pxb_nil) pxb_nil)))))) (pxb_cons (ys n0 (px_lst (xac (px_tup (xac (px_tup (xac px_int (xac px_int xa0)).a) (xac (px_tup (xac px_int xa0).a) xa0)).a) (xac (px_tup (xac (px_tup (xac px_int (xac px_int xa0)).a) (xac (px_tup (xac px_int (xac px_int (xac px_int xa0))).a) xa0)).a) (xac (px_tup (xac (px_tup (xac px_int xa0).a) (xac (px_tup (xac px_int xa0).a) xa0)).a) (xac (px_tup (xac (px_tup (xac px_int xa0).a) (xac (px_tup (xac px_int xa0).a) xa0)).a) (xac (px_tup (xac (px_tup (xac px_int xa0).a) (xac (px_tup (xac px_int xa0).a) xa0)).a) (xac (px_tup (xac (px_tup (xac px_int xa0).a) (xac (px_tup (xac px_int xa0).a) xa0)).a) (xac (px_tup (xac (px_tup xa0.a) (xac (px_tup (xac px_int xa0).a) xa0)).a) xa0))))))).a)) (pxb_cons (ys n0 (px_add (xv n0.toNm 2) (px_lst (xac (px_tup (xac (px_tup (xac px_int (xac px_int (xac px_int (xac px_int xa0)))).a) (xac (px_tup (xac px_int xa0).a) xa0)).a) (xac (px_tup (xac (px_tup (xac px_int xa0).a) (xac (px_tup xa0.a) xa0)).a) (xac (px_tup (xac (px_tup (xac px_int xa0).a) (xac (px_tup (xac px_int (xac px_int (xac px_int (xac px_int xa0)))).a) xa0)).a) (xac (px_tup (xac (px_tup (xac px_int (xac px_int xa0)).a) (xac (px_tup (xac px_int xa0).a) xa0)).a) xa0)))).a))) (pxb_cons (ys n0 (px_add (xv n0.toNm 2) (px_lst (xac (px_tup (xac (px_tup (xac px_bl xa0).a) (xac (px_tup (xac px_int xa0).a) xa0)).a) (xac (px_tup (xac (px_tup (xac px_int xa0).a) (xac (px_tup (xac px_int xa0).a) (xac px_int xa0))).a) xa0)).a))) (pxb_cons (pxs_if (pxt_ne c0.u (xlc n0.toNm c0 (pxi_seq (xv n0.toNm 2)) [("_law_row", 11)] (xcn n0.toNm) (fun _ _ _ _ _ m2 c2 => (pxf_one (pxt_ne c2.u (xcall m2 c2 o_is_offer (xac (xv m2 11) xa0)) (xcall m2 c2 o_law_is_offer (xac (xv m2 11) xa0))))) (fun _ _ _ _ _ m2 c2 => (xv m2 11))) (px_lst xa0.a)) (pxb_cons (pxs_ret px_bl) pxb_nil) pxb_nil) (pxb_cons (ys n0 (xcall0 n0.toNm c0 o_all_rules)) (pxb_cons (pxs_if (pxw_or (pxt_not (pxt_val (xisi (T := .list) n0.toNm bi (xv n0.toNm 3)))) (pxw_or (pxt_ne c0.u (xv n0.toNm 3) (KS.xsortS n0.toNm c0 bi (xv n0.toNm 3))) (pxw_or1 (pxt_ne c0.u (xbi n0.toNm bi call_len n_len (xac (xv n0.toNm 3) xa0)) px_int)))).pxt (pxb_cons (pxs_ret px_bl) pxb_nil) pxb_nil) (pxb_cons (pxs_if (pxt_val (xcall n0.toNm c0 o_is_rule (xac (px_tup (xac px_str (xac px_str (xac px_str (xac px_str (xac px_str (xac px_str xa0)))))).a) xa0))) (pxb_cons (pxs_ret px_bl) pxb_nil) pxb_nil) (pxb_cons (pxs_ret (px_eq c0.u (xlc n0.toNm c0 (pxi_seq (xv n0.toNm 3)) [("_law_rule_here", 7)] (xcn n0.toNm) (fun _ _ _ _ _ m3 c3 => (pxf_one (pxt_not (pxt_val (xcall m3 c3 o_law_is_rule (xac (xv m3 7) xa0)))))) (fun _ _ _ _ _ m3 c3 => (xv m3 7))) (px_lst xa0.a))) pxb_nil))))))))))
end
end Lw

set_option Elab.async false
set_option linter.all false
set_option maxRecDepth 100000
set_option maxHeartbeats 4000000
set_option autoImplicit false
/-! DWE: a law's end. -/
namespace DW
open PySem L2
/-- what the law's end asks -/
theorem law_facts {K : PySem.W.Frag} {mg : Str → Option Value} {x y : Str} {F : FS} {k : Nat} {f : Addr}
    (h : ∃ fd, mg x = some (.ref (He.ga K x)) ∧ (∀ (s : Shared) (us : List Value), us.length = ([y] : List Str).length → BindsTo s fd ⟨us, []⟩ (([y] : List Str).zip us)) ∧ ∀ (P : Program) (w : World) (base : Heap), FnOk P w K mg base (L2.CX P w) k (He.ga K x) fd [y] (spD K (He.ga K) F 1))
    (hf : mg x = some (.ref f)) (mF : MonoF F) (hF : ∀ ns : List Int, ns.length ≤ 63 → F [.s ns] [] (fun r _ => r = .d (.bool true)) (fun _ _ => False)) (P : Program) (w : World) :
    ∃ (fd : FuncData) (sp : Sp), (∀ (s : Shared) (u : Value), BindsTo s fd ⟨[u], []⟩ [(y, u)]) ∧
      (∀ (H : Hp) (a : Addr) (ns : List Int), ns.length ≤ 63 → Only H → SqL K H a (ns.map V.int) → sp [.ref a] H (fun v _ => v = .bl true) fun _ _ _ => False) ∧
      ∀ base : Heap, FnOk P w K mg base L2.CX0 k f fd [y] sp := by
  obtain ⟨fd, e, hb, hk⟩ := h
  rw [hf] at e
  cases e
  exact ⟨fd, fun vs H Q _ => spD K (He.ga K) F 1 vs H Q fun _ _ _ => False, fun s u => hb s [u] rfl, fun H a ns hl _ hS => sp_law hF mF H a ns hl hS, fun base => no_cx (hk P w base)⟩
end DW

set_option maxRecDepth 100000
set_option maxHeartbeats 400000
set_option synthInstance.maxSize 1000000
set_option synthInstance.maxHeartbeats 0
set_option linter.all false
namespace Lw
open PySem L2 DW
abbrev srcO (x y : Int) : SO := .lst [.d (.int x), .d (.int y)]
theorem s_draw {n x y : Int} (hn : 0 < n) (hn2 : n < 1073741824) (hx : 0 ≤ x) (hy : 0 ≤ y) (hy2 : y < 2147483563) {k : DK} {kx : DX} (h : ∀ r x' y', 0 ≤ r → r < n → 0 ≤ x' → 0 ≤ y' → y' < 2147483563 → k (.d (.int r)) [srcO x' y']) :
    F_law_draw [.p 0, .d (.int n)] [srcO x y] k kx := by
  have hb := Int.emod_nonneg x (Int.ne_of_gt hn)
  have hb2 := Int.emod_lt_of_pos x hn
  (repeat first | refine Exists.intro _ (And.intro DW.lenP_ok ?_) | refine Exists.intro _ (And.intro DW.lenT_ok ?_) | refine Exists.intro _ (And.intro DW.lenL_ok ?_) | refine Exists.intro _ (And.intro rfl ?_) | refine Exists.intro _ (Exists.intro _ (And.intro rfl ?_)) | refine Exists.intro _ (Exists.intro _ (And.intro rfl (And.intro rfl ?_))) | refine And.intro rfl ?_ | refine Exists.intro _ (And.intro rfl (And.intro (Nat.le_of_ble_eq_true rfl) ?_)) | refine Exists.intro _ (And.intro (DW.modD_ok (by omega)) ?_) | refine Exists.intro _ (And.intro (DW.divD_ok (by omega) (by omega)) ?_) | refine Exists.intro _ (And.intro (DW.mulD_ok (by omega)) ?_) | refine Exists.intro _ (And.intro (DW.ix_ps (by omega) (by omega)) ?_) | refine Exists.intro _ (And.intro (DW.eqS_ok (by assumption) (by decide +kernel)) ?_) | refine And.intro (Nat.le_of_ble_eq_true rfl) ?_)
  refine DW.r_dec (fun hc => ?_) (fun hc => ?_)
  · (repeat first | refine Exists.intro _ (And.intro DW.lenP_ok ?_) | refine Exists.intro _ (And.intro DW.lenT_ok ?_) | refine Exists.intro _ (And.intro DW.lenL_ok ?_) | refine Exists.intro _ (And.intro rfl ?_) | refine Exists.intro _ (Exists.intro _ (And.intro rfl ?_)) | refine Exists.intro _ (Exists.intro _ (And.intro rfl (And.intro rfl ?_))) | refine And.intro rfl ?_ | refine Exists.intro _ (And.intro rfl (And.intro (Nat.le_of_ble_eq_true rfl) ?_)) | refine Exists.intro _ (And.intro (DW.modD_ok (by omega)) ?_) | refine Exists.intro _ (And.intro (DW.divD_ok (by omega) (by omega)) ?_) | refine Exists.intro _ (And.intro (DW.mulD_ok (by omega)) ?_) | refine Exists.intro _ (And.intro (DW.ix_ps (by omega) (by omega)) ?_) | refine Exists.intro _ (And.intro (DW.eqS_ok (by assumption) (by decide +kernel)) ?_) | refine And.intro (Nat.le_of_ble_eq_true rfl) ?_)
    refine ⟨0, _, 0, 0, rfl, rfl, rfl, rfl, ?_⟩
    (repeat first | refine Exists.intro _ (And.intro DW.lenP_ok ?_) | refine Exists.intro _ (And.intro DW.lenT_ok ?_) | refine Exists.intro _ (And.intro DW.lenL_ok ?_) | refine Exists.intro _ (And.intro rfl ?_) | refine Exists.intro _ (Exists.intro _ (And.intro rfl ?_)) | refine Exists.intro _ (Exists.intro _ (And.intro rfl (And.intro rfl ?_))) | refine And.intro rfl ?_ | refine Exists.intro _ (And.intro rfl (And.intro (Nat.le_of_ble_eq_true rfl) ?_)) | refine Exists.intro _ (And.intro (DW.modD_ok (by omega)) ?_) | refine Exists.intro _ (And.intro (DW.divD_ok (by omega) (by omega)) ?_) | refine Exists.intro _ (And.intro (DW.mulD_ok (by omega)) ?_) | refine Exists.intro _ (And.intro (DW.ix_ps (by omega) (by omega)) ?_) | refine Exists.intro _ (And.intro (DW.eqS_ok (by assumption) (by decide +kernel)) ?_) | refine And.intro (Nat.le_of_ble_eq_true rfl) ?_)
    exact h _ _ _ hb hb2 (Int.ediv_nonneg hx (Int.le_of_lt hn)) hy hy2
  · (repeat first | refine Exists.intro _ (And.intro DW.lenP_ok ?_) | refine Exists.intro _ (And.intro DW.lenT_ok ?_) | refine Exists.intro _ (And.intro DW.lenL_ok ?_) | refine Exists.intro _ (And.intro rfl ?_) | refine Exists.intro _ (Exists.intro _ (And.intro rfl ?_)) | refine Exists.intro _ (Exists.intro _ (And.intro rfl (And.intro rfl ?_))) | refine And.intro rfl ?_ | refine Exists.intro _ (And.intro rfl (And.intro (Nat.le_of_ble_eq_true rfl) ?_)) | refine Exists.intro _ (And.intro (DW.modD_ok (by omega)) ?_) | refine Exists.intro _ (And.intro (DW.divD_ok (by omega) (by omega)) ?_) | refine Exists.intro _ (And.intro (DW.mulD_ok (by omega)) ?_) | refine Exists.intro _ (And.intro (DW.ix_ps (by omega) (by omega)) ?_) | refine Exists.intro _ (And.intro (DW.eqS_ok (by assumption) (by decide +kernel)) ?_) | refine And.intro (Nat.le_of_ble_eq_true rfl) ?_)
    refine ⟨0, _, 1, 1, rfl, rfl, rfl, rfl, ?_⟩
    (repeat first | refine Exists.intro _ (And.intro DW.lenP_ok ?_) | refine Exists.intro _ (And.intro DW.lenT_ok ?_) | refine Exists.intro _ (And.intro DW.lenL_ok ?_) | refine Exists.intro _ (And.intro rfl ?_) | refine Exists.intro _ (Exists.intro _ (And.intro rfl ?_)) | refine Exists.intro _ (Exists.intro _ (And.intro rfl (And.intro rfl ?_))) | refine And.intro rfl ?_ | refine Exists.intro _ (And.intro rfl (And.intro (Nat.le_of_ble_eq_true rfl) ?_)) | refine Exists.intro _ (And.intro (DW.modD_ok (by omega)) ?_) | refine Exists.intro _ (And.intro (DW.divD_ok (by omega) (by omega)) ?_) | refine Exists.intro _ (And.intro (DW.mulD_ok (by omega)) ?_) | refine Exists.intro _ (And.intro (DW.ix_ps (by omega) (by omega)) ?_) | refine Exists.intro _ (And.intro (DW.eqS_ok (by assumption) (by decide +kernel)) ?_) | refine And.intro (Nat.le_of_ble_eq_true rfl) ?_)
    have q1 := Int.emod_nonneg (y * 48271 + 29) (show (2147483563 : Int) ≠ 0 by decide)
    have q2 := Int.emod_lt_of_pos (y * 48271 + 29) (show (0 : Int) < 2147483563 by decide)
    exact h _ _ _ (Int.emod_nonneg _ (Int.ne_of_gt hn)) (Int.emod_lt_of_pos _ hn) hx q1 q2
theorem s_source {ns : List Int} {k0 : Int} (hk : 0 ≤ k0) (hk2 : k0 ≤ 100) {k : DK} {kx : DX} (h : ∀ x y, 0 ≤ x → 0 ≤ y → y < 2147483563 → k (.p 0) [srcO x y]) : F_law_source [.s ns, .d (.int k0)] [] k kx := by
  (repeat first | refine Exists.intro _ (And.intro DW.lenP_ok ?_) | refine Exists.intro _ (And.intro DW.lenT_ok ?_) | refine Exists.intro _ (And.intro DW.lenL_ok ?_) | refine Exists.intro _ (And.intro rfl ?_) | refine Exists.intro _ (Exists.intro _ (And.intro rfl ?_)) | refine Exists.intro _ (Exists.intro _ (And.intro rfl (And.intro rfl ?_))) | refine And.intro rfl ?_ | refine Exists.intro _ (And.intro rfl (And.intro (Nat.le_of_ble_eq_true rfl) ?_)) | refine Exists.intro _ (And.intro (DW.modD_ok (by omega)) ?_) | refine Exists.intro _ (And.intro (DW.divD_ok (by omega) (by omega)) ?_) | refine Exists.intro _ (And.intro (DW.mulD_ok (by omega)) ?_) | refine Exists.intro _ (And.intro (DW.ix_ps (by omega) (by omega)) ?_) | refine Exists.intro _ (And.intro (DW.eqS_ok (by assumption) (by decide +kernel)) ?_) | refine And.intro (Nat.le_of_ble_eq_true rfl) ?_)
  refine DW.r_dec (fun hc => ?_) (fun hc => ?_)
  · have hlen : k0 < ns.length := by simpa using hc
    obtain ⟨z, e⟩ := ix_s (S := []) hk hlen
    (repeat first | refine Exists.intro _ (And.intro DW.lenP_ok ?_) | refine Exists.intro _ (And.intro DW.lenT_ok ?_) | refine Exists.intro _ (And.intro DW.lenL_ok ?_) | refine Exists.intro _ (And.intro rfl ?_) | refine Exists.intro _ (Exists.intro _ (And.intro rfl ?_)) | refine Exists.intro _ (Exists.intro _ (And.intro rfl (And.intro rfl ?_))) | refine And.intro rfl ?_ | refine Exists.intro _ (And.intro rfl (And.intro (Nat.le_of_ble_eq_true rfl) ?_)) | refine Exists.intro _ (And.intro (DW.modD_ok (by omega)) ?_) | refine Exists.intro _ (And.intro (DW.divD_ok (by omega) (by omega)) ?_) | refine Exists.intro _ (And.intro (DW.mulD_ok (by omega)) ?_) | refine Exists.intro _ (And.intro (DW.ix_ps (by omega) (by omega)) ?_) | refine Exists.intro _ (And.intro (DW.eqS_ok (by assumption) (by decide +kernel)) ?_) | refine And.intro (Nat.le_of_ble_eq_true rfl) ?_)
    refine Exists.intro _ (And.intro e ?_)
    have fin : ∀ (b : Prop) [Decidable b], ∀ c y : Int, 0 ≤ c → k (.p 0) [srcO (if b then c else 0) (y % 2147483563)] := fun b _ c y hc0 => h _ _ (by split <;> omega) (Int.emod_nonneg _ (by decide)) (Int.emod_lt_of_pos _ (by decide))
    (repeat first | refine Exists.intro _ (And.intro DW.lenP_ok ?_) | refine Exists.intro _ (And.intro DW.lenT_ok ?_) | refine Exists.intro _ (And.intro DW.lenL_ok ?_) | refine Exists.intro _ (And.intro rfl ?_) | refine Exists.intro _ (Exists.intro _ (And.intro rfl ?_)) | refine Exists.intro _ (Exists.intro _ (And.intro rfl (And.intro rfl ?_))) | refine And.intro rfl ?_ | refine Exists.intro _ (And.intro rfl (And.intro (Nat.le_of_ble_eq_true rfl) ?_)) | refine Exists.intro _ (And.intro (DW.modD_ok (by omega)) ?_) | refine Exists.intro _ (And.intro (DW.divD_ok (by omega) (by omega)) ?_) | refine Exists.intro _ (And.intro (DW.mulD_ok (by omega)) ?_) | refine Exists.intro _ (And.intro (DW.ix_ps (by omega) (by omega)) ?_) | refine Exists.intro _ (And.intro (DW.eqS_ok (by assumption) (by decide +kernel)) ?_) | refine And.intro (Nat.le_of_ble_eq_true rfl) ?_)
    have habs : (0 : Int) ≤ (if z < 0 then -z else z) := by split <;> omega
    refine DW.r_dec (fun hc => ?_) (fun hc => ?_)
    · (repeat first | refine Exists.intro _ (And.intro DW.lenP_ok ?_) | refine Exists.intro _ (And.intro DW.lenT_ok ?_) | refine Exists.intro _ (And.intro DW.lenL_ok ?_) | refine Exists.intro _ (And.intro rfl ?_) | refine Exists.intro _ (Exists.intro _ (And.intro rfl ?_)) | refine Exists.intro _ (Exists.intro _ (And.intro rfl (And.intro rfl ?_))) | refine And.intro rfl ?_ | refine Exists.intro _ (And.intro rfl (And.intro (Nat.le_of_ble_eq_true rfl) ?_)) | refine Exists.intro _ (And.intro (DW.modD_ok (by omega)) ?_) | refine Exists.intro _ (And.intro (DW.divD_ok (by omega) (by omega)) ?_) | refine Exists.intro _ (And.intro (DW.mulD_ok (by omega)) ?_) | refine Exists.intro _ (And.intro (DW.ix_ps (by omega) (by omega)) ?_) | refine Exists.intro _ (And.intro (DW.eqS_ok (by assumption) (by decide +kernel)) ?_) | refine And.intro (Nat.le_of_ble_eq_true rfl) ?_)
      exact h _ _ habs (Int.emod_nonneg _ (by decide)) (Int.emod_lt_of_pos _ (by decide))
    · (repeat first | refine Exists.intro _ (And.intro DW.lenP_ok ?_) | refine Exists.intro _ (And.intro DW.lenT_ok ?_) | refine Exists.intro _ (And.intro DW.lenL_ok ?_) | refine Exists.intro _ (And.intro rfl ?_) | refine Exists.intro _ (Exists.intro _ (And.intro rfl ?_)) | refine Exists.intro _ (Exists.intro _ (And.intro rfl (And.intro rfl ?_))) | refine And.intro rfl ?_ | refine Exists.intro _ (And.intro rfl (And.intro (Nat.le_of_ble_eq_true rfl) ?_)) | refine Exists.intro _ (And.intro (DW.modD_ok (by omega)) ?_) | refine Exists.intro _ (And.intro (DW.divD_ok (by omega) (by omega)) ?_) | refine Exists.intro _ (And.intro (DW.mulD_ok (by omega)) ?_) | refine Exists.intro _ (And.intro (DW.ix_ps (by omega) (by omega)) ?_) | refine Exists.intro _ (And.intro (DW.eqS_ok (by assumption) (by decide +kernel)) ?_) | refine And.intro (Nat.le_of_ble_eq_true rfl) ?_)
      exact h _ _ (Int.le_refl _) (Int.emod_nonneg _ (by decide)) (Int.emod_lt_of_pos _ (by decide))
  · (repeat first | refine Exists.intro _ (And.intro DW.lenP_ok ?_) | refine Exists.intro _ (And.intro DW.lenT_ok ?_) | refine Exists.intro _ (And.intro DW.lenL_ok ?_) | refine Exists.intro _ (And.intro rfl ?_) | refine Exists.intro _ (Exists.intro _ (And.intro rfl ?_)) | refine Exists.intro _ (Exists.intro _ (And.intro rfl (And.intro rfl ?_))) | refine And.intro rfl ?_ | refine Exists.intro _ (And.intro rfl (And.intro (Nat.le_of_ble_eq_true rfl) ?_)) | refine Exists.intro _ (And.intro (DW.modD_ok (by omega)) ?_) | refine Exists.intro _ (And.intro (DW.divD_ok (by omega) (by omega)) ?_) | refine Exists.intro _ (And.intro (DW.mulD_ok (by omega)) ?_) | refine Exists.intro _ (And.intro (DW.ix_ps (by omega) (by omega)) ?_) | refine Exists.intro _ (And.intro (DW.eqS_ok (by assumption) (by decide +kernel)) ?_) | refine And.intro (Nat.le_of_ble_eq_true rfl) ?_)
    refine DW.r_dec (fun hc => ?_) (fun hc => ?_)
    · (repeat first | refine Exists.intro _ (And.intro DW.lenP_ok ?_) | refine Exists.intro _ (And.intro DW.lenT_ok ?_) | refine Exists.intro _ (And.intro DW.lenL_ok ?_) | refine Exists.intro _ (And.intro rfl ?_) | refine Exists.intro _ (Exists.intro _ (And.intro rfl ?_)) | refine Exists.intro _ (Exists.intro _ (And.intro rfl (And.intro rfl ?_))) | refine And.intro rfl ?_ | refine Exists.intro _ (And.intro rfl (And.intro (Nat.le_of_ble_eq_true rfl) ?_)) | refine Exists.intro _ (And.intro (DW.modD_ok (by omega)) ?_) | refine Exists.intro _ (And.intro (DW.divD_ok (by omega) (by omega)) ?_) | refine Exists.intro _ (And.intro (DW.mulD_ok (by omega)) ?_) | refine Exists.intro _ (And.intro (DW.ix_ps (by omega) (by omega)) ?_) | refine Exists.intro _ (And.intro (DW.eqS_ok (by assumption) (by decide +kernel)) ?_) | refine And.intro (Nat.le_of_ble_eq_true rfl) ?_)
      exact h _ _ (by omega) (Int.emod_nonneg _ (by decide)) (Int.emod_lt_of_pos _ (by decide))
    · (repeat first | refine Exists.intro _ (And.intro DW.lenP_ok ?_) | refine Exists.intro _ (And.intro DW.lenT_ok ?_) | refine Exists.intro _ (And.intro DW.lenL_ok ?_) | refine Exists.intro _ (And.intro rfl ?_) | refine Exists.intro _ (Exists.intro _ (And.intro rfl ?_)) | refine Exists.intro _ (Exists.intro _ (And.intro rfl (And.intro rfl ?_))) | refine And.intro rfl ?_ | refine Exists.intro _ (And.intro rfl (And.intro (Nat.le_of_ble_eq_true rfl) ?_)) | refine Exists.intro _ (And.intro (DW.modD_ok (by omega)) ?_) | refine Exists.intro _ (And.intro (DW.divD_ok (by omega) (by omega)) ?_) | refine Exists.intro _ (And.intro (DW.mulD_ok (by omega)) ?_) | refine Exists.intro _ (And.intro (DW.ix_ps (by omega) (by omega)) ?_) | refine Exists.intro _ (And.intro (DW.eqS_ok (by assumption) (by decide +kernel)) ?_) | refine And.intro (Nat.le_of_ble_eq_true rfl) ?_)
      exact h _ _ (Int.le_refl _) (Int.emod_nonneg _ (by decide)) (Int.emod_lt_of_pos _ (by decide))
/-- one of a list -/
theorem s_choice {ds : List PyData} {x y : Int} (hd : 0 < ds.length) (hd2 : ds.length < 1000000) (hx : 0 ≤ x) (hy : 0 ≤ y) (hy2 : y < 2147483563) {k : DK} {kx : DX} (h : ∀ d x' y', d ∈ ds → 0 ≤ x' → 0 ≤ y' → y' < 2147483563 → k (.d d) [srcO x' y']) :
    F_law_choice [.p 0, .d (.list ds)] [srcO x y] k kx := by
  (repeat first | refine Exists.intro _ (And.intro DW.lenP_ok ?_) | refine Exists.intro _ (And.intro DW.lenT_ok ?_) | refine Exists.intro _ (And.intro DW.lenL_ok ?_) | refine Exists.intro _ (And.intro rfl ?_) | refine Exists.intro _ (Exists.intro _ (And.intro rfl ?_)) | refine Exists.intro _ (Exists.intro _ (And.intro rfl (And.intro rfl ?_))) | refine And.intro rfl ?_ | refine Exists.intro _ (And.intro rfl (And.intro (Nat.le_of_ble_eq_true rfl) ?_)) | refine Exists.intro _ (And.intro (DW.modD_ok (by omega)) ?_) | refine Exists.intro _ (And.intro (DW.divD_ok (by omega) (by omega)) ?_) | refine Exists.intro _ (And.intro (DW.mulD_ok (by omega)) ?_) | refine Exists.intro _ (And.intro (DW.ix_ps (by omega) (by omega)) ?_) | refine Exists.intro _ (And.intro (DW.eqS_ok (by assumption) (by decide +kernel)) ?_) | refine And.intro (Nat.le_of_ble_eq_true rfl) ?_)
  refine And.intro (nodB_ok rfl) ?_
  refine Exists.intro _ (And.intro rfl ?_)
  refine s_draw (n := (ds.length : Int)) (by omega) (by omega) hx hy hy2 fun r x' y' h1 h2 h3 h4 h5 => res_p1 rfl rfl ?_
  refine Exists.intro _ (And.intro (ix_l h1 h2) ?_)
  exact h _ _ _ (List.getElem_mem _) h3 h4 h5
abbrev st (s : String) : PyData := .str (Str.ofString s)
def v0 : List PyData := [.str "now", .str "turn"]
def v2 : List PyData := [.str "days", .str "early", .str "none", .str "ups"]
def v3 : List PyData := [.str "anew", .str "days", .str "full"]
def v4 : List PyData := [.str "back", .str "lost"]
def v5 : List PyData := [.str "down", .str "near", .str "up"]
def isRule (r : PyData) : Prop := ∃ a b c d e f, r = .tuple [a, b, c, d, e, f] ∧ a ∈ v0 ∧ b ∈ v0 ∧ c ∈ v2 ∧ d ∈ v3 ∧ e ∈ v4 ∧ f ∈ v5
theorem s_values {S : Sto} {k : DK} {kx : DX} (h : k (.d (.list [.list v0, .list v0, .list v2, .list v3, .list v4, .list v5])) S) : F_law_values [] S k kx := by
  (repeat first | refine Exists.intro _ (And.intro DW.lenP_ok ?_) | refine Exists.intro _ (And.intro DW.lenT_ok ?_) | refine Exists.intro _ (And.intro DW.lenL_ok ?_) | refine Exists.intro _ (And.intro rfl ?_) | refine Exists.intro _ (Exists.intro _ (And.intro rfl ?_)) | refine Exists.intro _ (Exists.intro _ (And.intro rfl (And.intro rfl ?_))) | refine And.intro rfl ?_ | refine Exists.intro _ (And.intro rfl (And.intro (Nat.le_of_ble_eq_true rfl) ?_)) | refine Exists.intro _ (And.intro (DW.modD_ok (by omega)) ?_) | refine Exists.intro _ (And.intro (DW.divD_ok (by omega) (by omega)) ?_) | refine Exists.intro _ (And.intro (DW.mulD_ok (by omega)) ?_) | refine Exists.intro _ (And.intro (DW.ix_ps (by omega) (by omega)) ?_) | refine Exists.intro _ (And.intro (DW.eqS_ok (by assumption) (by decide +kernel)) ?_) | refine And.intro (Nat.le_of_ble_eq_true rfl) ?_)
  exact h
theorem s_rule {x y : Int} (hx : 0 ≤ x) (hy : 0 ≤ y) (hy2 : y < 2147483563) {k : DK} {kx : DX} (h : ∀ d x' y', isRule d → 0 ≤ x' → 0 ≤ y' → y' < 2147483563 → k (.d d) [srcO x' y']) :
    F_law_rule [.p 0] [srcO x y] k kx := by
  refine And.intro (nodB_ok rfl) ?_
  refine Exists.intro _ (And.intro rfl ?_)
  refine s_values (res_0 ?_)
  refine And.intro trivial ?_
  refine Exists.intro _ (Exists.intro _ (And.intro rfl ?_))
  have one : ∀ {ds : List PyData} {r : List DV} {acc : List PyData} {x y : Int} {kk : List PyData → Sto → Prop}, 0 < ds.length → ds.length < 1000000 → acc.length ≤ 1000000 → 0 ≤ x → 0 ≤ y → y < 2147483563 →
    (∀ d x' y', d ∈ ds → 0 ≤ x' → 0 ≤ y' → y' < 2147483563 → lcL (bindN 1) yesT (callW F_law_choice (consA (varW 0) (consA (varW 1) nilA))) [some (.p 0), none] r (acc ++ [d]) [srcO x' y'] kk) →
    lcL (bindN 1) yesT (callW F_law_choice (consA (varW 0) (consA (varW 1) nilA))) [some (.p 0), none] (.d (.list ds) :: r) acc [srcO x y] kk := by
    intro ds r acc x y kk h1 h2 h3 h4 h5 h6 h7
    refine Exists.intro _ (And.intro rfl ?_)
    (repeat first | refine Exists.intro _ (And.intro DW.lenP_ok ?_) | refine Exists.intro _ (And.intro DW.lenT_ok ?_) | refine Exists.intro _ (And.intro DW.lenL_ok ?_) | refine Exists.intro _ (And.intro rfl ?_) | refine Exists.intro _ (Exists.intro _ (And.intro rfl ?_)) | refine Exists.intro _ (Exists.intro _ (And.intro rfl (And.intro rfl ?_))) | refine And.intro rfl ?_ | refine Exists.intro _ (And.intro rfl (And.intro (Nat.le_of_ble_eq_true rfl) ?_)) | refine Exists.intro _ (And.intro (DW.modD_ok (by omega)) ?_) | refine Exists.intro _ (And.intro (DW.divD_ok (by omega) (by omega)) ?_) | refine Exists.intro _ (And.intro (DW.mulD_ok (by omega)) ?_) | refine Exists.intro _ (And.intro (DW.ix_ps (by omega) (by omega)) ?_) | refine Exists.intro _ (And.intro (DW.eqS_ok (by assumption) (by decide +kernel)) ?_) | refine And.intro (Nat.le_of_ble_eq_true rfl) ?_)
    refine And.intro (nodB_ok rfl) ?_
    refine Exists.intro _ (And.intro rfl ?_)
    refine s_choice h1 h2 h4 h5 h6 fun d x' y' q1 q2 q3 q4 => res_p1 rfl rfl ?_
    refine Exists.intro _ (And.intro rfl (And.intro h3 ?_))
    exact h7 d x' y' q1 q2 q3 q4
  refine one (by decide) (by decide) (by decide) hx hy hy2 fun a x' y' ha q1 q2 q3 => ?_
  refine one (by decide) (by decide) (Nat.le_of_ble_eq_true rfl) q1 q2 q3 fun b x' y' hb q1 q2 q3 => ?_
  refine one (by decide) (by decide) (Nat.le_of_ble_eq_true rfl) q1 q2 q3 fun c x' y' hc q1 q2 q3 => ?_
  refine one (by decide) (by decide) (Nat.le_of_ble_eq_true rfl) q1 q2 q3 fun d x' y' hd q1 q2 q3 => ?_
  refine one (by decide) (by decide) (Nat.le_of_ble_eq_true rfl) q1 q2 q3 fun e x' y' he q1 q2 q3 => ?_
  refine one (by decide) (by decide) (Nat.le_of_ble_eq_true rfl) q1 q2 q3 fun f x' y' hf q1 q2 q3 => ?_
  (repeat first | refine Exists.intro _ (And.intro DW.lenP_ok ?_) | refine Exists.intro _ (And.intro DW.lenT_ok ?_) | refine Exists.intro _ (And.intro DW.lenL_ok ?_) | refine Exists.intro _ (And.intro rfl ?_) | refine Exists.intro _ (Exists.intro _ (And.intro rfl ?_)) | refine Exists.intro _ (Exists.intro _ (And.intro rfl (And.intro rfl ?_))) | refine And.intro rfl ?_ | refine Exists.intro _ (And.intro rfl (And.intro (Nat.le_of_ble_eq_true rfl) ?_)) | refine Exists.intro _ (And.intro (DW.modD_ok (by omega)) ?_) | refine Exists.intro _ (And.intro (DW.divD_ok (by omega) (by omega)) ?_) | refine Exists.intro _ (And.intro (DW.mulD_ok (by omega)) ?_) | refine Exists.intro _ (And.intro (DW.ix_ps (by omega) (by omega)) ?_) | refine Exists.intro _ (And.intro (DW.eqS_ok (by assumption) (by decide +kernel)) ?_) | refine And.intro (Nat.le_of_ble_eq_true rfl) ?_)
  exact h _ x' y' ⟨a, b, c, d, e, f, rfl, ha, hb, hc, hd, he, hf⟩ q1 q2 q3
end Lw

set_option maxRecDepth 100000
set_option maxHeartbeats 1000000
set_option synthInstance.maxSize 1000000
set_option synthInstance.maxHeartbeats 0
set_option linter.all false
set_option pp.maxSteps 400
namespace Lw
open PySem L2 DW
abbrev iD (i : Int) : DV := .d (.int i)
abbrev ofr (ps ls : List Int) : PyData := .tuple [.tuple (ps.map .int), .tuple (ls.map .int)]
structure Of (ps ls : List Int) : Prop where
  p1 : 1 ≤ (ps.length : Int)
  p3 : (ps.length : Int) ≤ 3
  l1 : 1 ≤ (ls.length : Int)
  l3 : (ls.length : Int) ≤ 3
  pb : ∀ x ∈ ps, 1 ≤ x ∧ x ≤ 30
  lb : ∀ x ∈ ls, 2 ≤ x ∧ x ≤ 6
structure VO (ps ls : List Int) : Prop extends Of ps ls where
  inc : ps.Pairwise (· < ·)
theorem r_t {A B : Prop} (h : A) : if true = true then A else B := by rw [if_pos rfl]; exact h
theorem r_f {A B : Prop} (h : B) : if false = true then A else B := by rw [if_neg (by decide)]; exact h
theorem r_not {c : Bool} {A B : Prop} (h1 : c = false → A) (h2 : c = true → B) : if (!c) = true then A else B := by
  cases c
  · exact h1 rfl
  · exact h2 rfl
section
variable {ps ls : List Int} {k : DK} {kx : DX}
def fromB (lo hi : Int) : PyData → Bool
  | .int i => decide (lo ≤ i) && decide (i ≤ hi)
  | _ => false
def flat5 : PyData → Bool
  | .none => true
  | .bool _ => true
  | .int _ => true
  | .str _ => true
  | .tuple _ => true
  | .list _ => true
  | _ => false
theorem q_from {x : PyData} {lo hi : Int} (hx : flat5 x = true) (h : k (.d (.bool (fromB lo hi x))) []) : F_is_from [.d x, iD lo, iD hi] [] k kx := by
  cases x with
  | int i =>
    (repeat first | refine Exists.intro _ (And.intro DW.lenP_ok ?_) | refine Exists.intro _ (And.intro DW.lenT_ok ?_) | refine Exists.intro _ (And.intro DW.lenL_ok ?_) | refine Exists.intro _ (And.intro rfl ?_) | refine Exists.intro _ (Exists.intro _ (And.intro rfl ?_)) | refine Exists.intro _ (Exists.intro _ (And.intro rfl (And.intro rfl ?_))) | refine And.intro rfl ?_ | refine Exists.intro _ (And.intro rfl (And.intro (Nat.le_of_ble_eq_true rfl) ?_)) | refine Exists.intro _ (And.intro (DW.modD_ok (by omega)) ?_) | refine Exists.intro _ (And.intro (DW.divD_ok (by omega) (by omega)) ?_) | refine Exists.intro _ (And.intro (DW.mulD_ok (by omega)) ?_) | refine Exists.intro _ (And.intro (DW.ix_ps (by omega) (by omega)) ?_) | refine Exists.intro _ (And.intro (DW.eqS_ok (by assumption) (by decide +kernel)) ?_) | refine And.intro (Nat.le_of_ble_eq_true rfl) ?_)
    refine DW.r_dec (fun hc => ?_) (fun hc => ?_)
    · have e : fromB lo hi (.int i) = decide (i ≤ hi) := by show (decide (lo ≤ i) && decide (i ≤ hi)) = _; rw [decide_eq_true hc]; rfl
      rw [e] at h
      (repeat first | refine Exists.intro _ (And.intro DW.lenP_ok ?_) | refine Exists.intro _ (And.intro DW.lenT_ok ?_) | refine Exists.intro _ (And.intro DW.lenL_ok ?_) | refine Exists.intro _ (And.intro rfl ?_) | refine Exists.intro _ (Exists.intro _ (And.intro rfl ?_)) | refine Exists.intro _ (Exists.intro _ (And.intro rfl (And.intro rfl ?_))) | refine And.intro rfl ?_ | refine Exists.intro _ (And.intro rfl (And.intro (Nat.le_of_ble_eq_true rfl) ?_)) | refine Exists.intro _ (And.intro (DW.modD_ok (by omega)) ?_) | refine Exists.intro _ (And.intro (DW.divD_ok (by omega) (by omega)) ?_) | refine Exists.intro _ (And.intro (DW.mulD_ok (by omega)) ?_) | refine Exists.intro _ (And.intro (DW.ix_ps (by omega) (by omega)) ?_) | refine Exists.intro _ (And.intro (DW.eqS_ok (by assumption) (by decide +kernel)) ?_) | refine And.intro (Nat.le_of_ble_eq_true rfl) ?_)
      exact h
    · have e : fromB lo hi (.int i) = false := by show (decide (lo ≤ i) && decide (i ≤ hi)) = _; rw [decide_eq_false hc]; rfl
      rw [e] at h
      exact h
  | bool b => (repeat first | refine Exists.intro _ (And.intro DW.lenP_ok ?_) | refine Exists.intro _ (And.intro DW.lenT_ok ?_) | refine Exists.intro _ (And.intro DW.lenL_ok ?_) | refine Exists.intro _ (And.intro rfl ?_) | refine Exists.intro _ (Exists.intro _ (And.intro rfl ?_)) | refine Exists.intro _ (Exists.intro _ (And.intro rfl (And.intro rfl ?_))) | refine And.intro rfl ?_ | refine Exists.intro _ (And.intro rfl (And.intro (Nat.le_of_ble_eq_true rfl) ?_)) | refine Exists.intro _ (And.intro (DW.modD_ok (by omega)) ?_) | refine Exists.intro _ (And.intro (DW.divD_ok (by omega) (by omega)) ?_) | refine Exists.intro _ (And.intro (DW.mulD_ok (by omega)) ?_) | refine Exists.intro _ (And.intro (DW.ix_ps (by omega) (by omega)) ?_) | refine Exists.intro _ (And.intro (DW.eqS_ok (by assumption) (by decide +kernel)) ?_) | refine And.intro (Nat.le_of_ble_eq_true rfl) ?_); exact h
  | none => (repeat first | refine Exists.intro _ (And.intro DW.lenP_ok ?_) | refine Exists.intro _ (And.intro DW.lenT_ok ?_) | refine Exists.intro _ (And.intro DW.lenL_ok ?_) | refine Exists.intro _ (And.intro rfl ?_) | refine Exists.intro _ (Exists.intro _ (And.intro rfl ?_)) | refine Exists.intro _ (Exists.intro _ (And.intro rfl (And.intro rfl ?_))) | refine And.intro rfl ?_ | refine Exists.intro _ (And.intro rfl (And.intro (Nat.le_of_ble_eq_true rfl) ?_)) | refine Exists.intro _ (And.intro (DW.modD_ok (by omega)) ?_) | refine Exists.intro _ (And.intro (DW.divD_ok (by omega) (by omega)) ?_) | refine Exists.intro _ (And.intro (DW.mulD_ok (by omega)) ?_) | refine Exists.intro _ (And.intro (DW.ix_ps (by omega) (by omega)) ?_) | refine Exists.intro _ (And.intro (DW.eqS_ok (by assumption) (by decide +kernel)) ?_) | refine And.intro (Nat.le_of_ble_eq_true rfl) ?_); exact h
  | str s => (repeat first | refine Exists.intro _ (And.intro DW.lenP_ok ?_) | refine Exists.intro _ (And.intro DW.lenT_ok ?_) | refine Exists.intro _ (And.intro DW.lenL_ok ?_) | refine Exists.intro _ (And.intro rfl ?_) | refine Exists.intro _ (Exists.intro _ (And.intro rfl ?_)) | refine Exists.intro _ (Exists.intro _ (And.intro rfl (And.intro rfl ?_))) | refine And.intro rfl ?_ | refine Exists.intro _ (And.intro rfl (And.intro (Nat.le_of_ble_eq_true rfl) ?_)) | refine Exists.intro _ (And.intro (DW.modD_ok (by omega)) ?_) | refine Exists.intro _ (And.intro (DW.divD_ok (by omega) (by omega)) ?_) | refine Exists.intro _ (And.intro (DW.mulD_ok (by omega)) ?_) | refine Exists.intro _ (And.intro (DW.ix_ps (by omega) (by omega)) ?_) | refine Exists.intro _ (And.intro (DW.eqS_ok (by assumption) (by decide +kernel)) ?_) | refine And.intro (Nat.le_of_ble_eq_true rfl) ?_); exact h
  | tuple s => (repeat first | refine Exists.intro _ (And.intro DW.lenP_ok ?_) | refine Exists.intro _ (And.intro DW.lenT_ok ?_) | refine Exists.intro _ (And.intro DW.lenL_ok ?_) | refine Exists.intro _ (And.intro rfl ?_) | refine Exists.intro _ (Exists.intro _ (And.intro rfl ?_)) | refine Exists.intro _ (Exists.intro _ (And.intro rfl (And.intro rfl ?_))) | refine And.intro rfl ?_ | refine Exists.intro _ (And.intro rfl (And.intro (Nat.le_of_ble_eq_true rfl) ?_)) | refine Exists.intro _ (And.intro (DW.modD_ok (by omega)) ?_) | refine Exists.intro _ (And.intro (DW.divD_ok (by omega) (by omega)) ?_) | refine Exists.intro _ (And.intro (DW.mulD_ok (by omega)) ?_) | refine Exists.intro _ (And.intro (DW.ix_ps (by omega) (by omega)) ?_) | refine Exists.intro _ (And.intro (DW.eqS_ok (by assumption) (by decide +kernel)) ?_) | refine And.intro (Nat.le_of_ble_eq_true rfl) ?_); exact h
  | list s => (repeat first | refine Exists.intro _ (And.intro DW.lenP_ok ?_) | refine Exists.intro _ (And.intro DW.lenT_ok ?_) | refine Exists.intro _ (And.intro DW.lenL_ok ?_) | refine Exists.intro _ (And.intro rfl ?_) | refine Exists.intro _ (Exists.intro _ (And.intro rfl ?_)) | refine Exists.intro _ (Exists.intro _ (And.intro rfl (And.intro rfl ?_))) | refine And.intro rfl ?_ | refine Exists.intro _ (And.intro rfl (And.intro (Nat.le_of_ble_eq_true rfl) ?_)) | refine Exists.intro _ (And.intro (DW.modD_ok (by omega)) ?_) | refine Exists.intro _ (And.intro (DW.divD_ok (by omega) (by omega)) ?_) | refine Exists.intro _ (And.intro (DW.mulD_ok (by omega)) ?_) | refine Exists.intro _ (And.intro (DW.ix_ps (by omega) (by omega)) ?_) | refine Exists.intro _ (And.intro (DW.eqS_ok (by assumption) (by decide +kernel)) ?_) | refine And.intro (Nat.le_of_ble_eq_true rfl) ?_); exact h
  | dict s => cases hx
theorem from_int {lo hi : Int} {x : PyData} (h : fromB lo hi x = true) : ∃ i, x = .int i ∧ lo ≤ i ∧ i ≤ hi := by
  cases x <;> first | (cases h; done) | skip
  rename_i i
  obtain ⟨h1, h2⟩ := two (show (decide (lo ≤ i) && decide (i ≤ hi)) = true from h)
  exact ⟨i, rfl, of_decide_eq_true h1, of_decide_eq_true h2⟩
theorem q_tup {ds : List PyData} {lo hi : Int} (h : k (.d (.bool (decide (lo ≤ ds.length) && decide ((ds.length : Int) ≤ hi)))) []) : F_is_tuple [.d (.tuple ds), iD lo, iD hi] [] k kx := by
  (repeat first | refine Exists.intro _ (And.intro DW.lenP_ok ?_) | refine Exists.intro _ (And.intro DW.lenT_ok ?_) | refine Exists.intro _ (And.intro DW.lenL_ok ?_) | refine Exists.intro _ (And.intro rfl ?_) | refine Exists.intro _ (Exists.intro _ (And.intro rfl ?_)) | refine Exists.intro _ (Exists.intro _ (And.intro rfl (And.intro rfl ?_))) | refine And.intro rfl ?_ | refine Exists.intro _ (And.intro rfl (And.intro (Nat.le_of_ble_eq_true rfl) ?_)) | refine Exists.intro _ (And.intro (DW.modD_ok (by omega)) ?_) | refine Exists.intro _ (And.intro (DW.divD_ok (by omega) (by omega)) ?_) | refine Exists.intro _ (And.intro (DW.mulD_ok (by omega)) ?_) | refine Exists.intro _ (And.intro (DW.ix_ps (by omega) (by omega)) ?_) | refine Exists.intro _ (And.intro (DW.eqS_ok (by assumption) (by decide +kernel)) ?_) | refine And.intro (Nat.le_of_ble_eq_true rfl) ?_)
  refine DW.r_dec (fun hc => ?_) (fun hc => ?_)
  · rw [decide_eq_true hc] at h
    (repeat first | refine Exists.intro _ (And.intro DW.lenP_ok ?_) | refine Exists.intro _ (And.intro DW.lenT_ok ?_) | refine Exists.intro _ (And.intro DW.lenL_ok ?_) | refine Exists.intro _ (And.intro rfl ?_) | refine Exists.intro _ (Exists.intro _ (And.intro rfl ?_)) | refine Exists.intro _ (Exists.intro _ (And.intro rfl (And.intro rfl ?_))) | refine And.intro rfl ?_ | refine Exists.intro _ (And.intro rfl (And.intro (Nat.le_of_ble_eq_true rfl) ?_)) | refine Exists.intro _ (And.intro (DW.modD_ok (by omega)) ?_) | refine Exists.intro _ (And.intro (DW.divD_ok (by omega) (by omega)) ?_) | refine Exists.intro _ (And.intro (DW.mulD_ok (by omega)) ?_) | refine Exists.intro _ (And.intro (DW.ix_ps (by omega) (by omega)) ?_) | refine Exists.intro _ (And.intro (DW.eqS_ok (by assumption) (by decide +kernel)) ?_) | refine And.intro (Nat.le_of_ble_eq_true rfl) ?_)
    exact h
  · rw [decide_eq_false hc] at h
    exact h
def tupB (lo hi : Int) : PyData → Bool
  | .tuple ds => decide (lo ≤ ds.length) && decide ((ds.length : Int) ≤ hi)
  | _ => false
theorem q_tupB {x : PyData} {lo hi : Int} (hx : flat5 x = true) (h : k (.d (.bool (tupB lo hi x))) []) : F_is_tuple [.d x, iD lo, iD hi] [] k kx := by
  cases x with
  | tuple ds => exact q_tup h
  | int i => (repeat first | refine Exists.intro _ (And.intro DW.lenP_ok ?_) | refine Exists.intro _ (And.intro DW.lenT_ok ?_) | refine Exists.intro _ (And.intro DW.lenL_ok ?_) | refine Exists.intro _ (And.intro rfl ?_) | refine Exists.intro _ (Exists.intro _ (And.intro rfl ?_)) | refine Exists.intro _ (Exists.intro _ (And.intro rfl (And.intro rfl ?_))) | refine And.intro rfl ?_ | refine Exists.intro _ (And.intro rfl (And.intro (Nat.le_of_ble_eq_true rfl) ?_)) | refine Exists.intro _ (And.intro (DW.modD_ok (by omega)) ?_) | refine Exists.intro _ (And.intro (DW.divD_ok (by omega) (by omega)) ?_) | refine Exists.intro _ (And.intro (DW.mulD_ok (by omega)) ?_) | refine Exists.intro _ (And.intro (DW.ix_ps (by omega) (by omega)) ?_) | refine Exists.intro _ (And.intro (DW.eqS_ok (by assumption) (by decide +kernel)) ?_) | refine And.intro (Nat.le_of_ble_eq_true rfl) ?_); exact h
  | bool b => (repeat first | refine Exists.intro _ (And.intro DW.lenP_ok ?_) | refine Exists.intro _ (And.intro DW.lenT_ok ?_) | refine Exists.intro _ (And.intro DW.lenL_ok ?_) | refine Exists.intro _ (And.intro rfl ?_) | refine Exists.intro _ (Exists.intro _ (And.intro rfl ?_)) | refine Exists.intro _ (Exists.intro _ (And.intro rfl (And.intro rfl ?_))) | refine And.intro rfl ?_ | refine Exists.intro _ (And.intro rfl (And.intro (Nat.le_of_ble_eq_true rfl) ?_)) | refine Exists.intro _ (And.intro (DW.modD_ok (by omega)) ?_) | refine Exists.intro _ (And.intro (DW.divD_ok (by omega) (by omega)) ?_) | refine Exists.intro _ (And.intro (DW.mulD_ok (by omega)) ?_) | refine Exists.intro _ (And.intro (DW.ix_ps (by omega) (by omega)) ?_) | refine Exists.intro _ (And.intro (DW.eqS_ok (by assumption) (by decide +kernel)) ?_) | refine And.intro (Nat.le_of_ble_eq_true rfl) ?_); exact h
  | none => (repeat first | refine Exists.intro _ (And.intro DW.lenP_ok ?_) | refine Exists.intro _ (And.intro DW.lenT_ok ?_) | refine Exists.intro _ (And.intro DW.lenL_ok ?_) | refine Exists.intro _ (And.intro rfl ?_) | refine Exists.intro _ (Exists.intro _ (And.intro rfl ?_)) | refine Exists.intro _ (Exists.intro _ (And.intro rfl (And.intro rfl ?_))) | refine And.intro rfl ?_ | refine Exists.intro _ (And.intro rfl (And.intro (Nat.le_of_ble_eq_true rfl) ?_)) | refine Exists.intro _ (And.intro (DW.modD_ok (by omega)) ?_) | refine Exists.intro _ (And.intro (DW.divD_ok (by omega) (by omega)) ?_) | refine Exists.intro _ (And.intro (DW.mulD_ok (by omega)) ?_) | refine Exists.intro _ (And.intro (DW.ix_ps (by omega) (by omega)) ?_) | refine Exists.intro _ (And.intro (DW.eqS_ok (by assumption) (by decide +kernel)) ?_) | refine And.intro (Nat.le_of_ble_eq_true rfl) ?_); exact h
  | str s => (repeat first | refine Exists.intro _ (And.intro DW.lenP_ok ?_) | refine Exists.intro _ (And.intro DW.lenT_ok ?_) | refine Exists.intro _ (And.intro DW.lenL_ok ?_) | refine Exists.intro _ (And.intro rfl ?_) | refine Exists.intro _ (Exists.intro _ (And.intro rfl ?_)) | refine Exists.intro _ (Exists.intro _ (And.intro rfl (And.intro rfl ?_))) | refine And.intro rfl ?_ | refine Exists.intro _ (And.intro rfl (And.intro (Nat.le_of_ble_eq_true rfl) ?_)) | refine Exists.intro _ (And.intro (DW.modD_ok (by omega)) ?_) | refine Exists.intro _ (And.intro (DW.divD_ok (by omega) (by omega)) ?_) | refine Exists.intro _ (And.intro (DW.mulD_ok (by omega)) ?_) | refine Exists.intro _ (And.intro (DW.ix_ps (by omega) (by omega)) ?_) | refine Exists.intro _ (And.intro (DW.eqS_ok (by assumption) (by decide +kernel)) ?_) | refine And.intro (Nat.le_of_ble_eq_true rfl) ?_); exact h
  | list s => (repeat first | refine Exists.intro _ (And.intro DW.lenP_ok ?_) | refine Exists.intro _ (And.intro DW.lenT_ok ?_) | refine Exists.intro _ (And.intro DW.lenL_ok ?_) | refine Exists.intro _ (And.intro rfl ?_) | refine Exists.intro _ (Exists.intro _ (And.intro rfl ?_)) | refine Exists.intro _ (Exists.intro _ (And.intro rfl (And.intro rfl ?_))) | refine And.intro rfl ?_ | refine Exists.intro _ (And.intro rfl (And.intro (Nat.le_of_ble_eq_true rfl) ?_)) | refine Exists.intro _ (And.intro (DW.modD_ok (by omega)) ?_) | refine Exists.intro _ (And.intro (DW.divD_ok (by omega) (by omega)) ?_) | refine Exists.intro _ (And.intro (DW.mulD_ok (by omega)) ?_) | refine Exists.intro _ (And.intro (DW.ix_ps (by omega) (by omega)) ?_) | refine Exists.intro _ (And.intro (DW.eqS_ok (by assumption) (by decide +kernel)) ?_) | refine And.intro (Nat.le_of_ble_eq_true rfl) ?_); exact h
  | dict s => cases hx
theorem lc_len {env0 : DEnv} (h0 : env0[0]? = some (some (.p 0))) (hl : env0.length = 5) : ∀ (xs : List DV) (acc : List Int) (x y : Int) (kk : List PyData → Sto → Prop), 0 ≤ x → 0 ≤ y → y < 2147483563 → (∀ z ∈ acc, 2 ≤ z ∧ z ≤ 6) → xs.length + acc.length ≤ 1000 →
    (∀ (ys : List Int) x' y', ys.length = xs.length + acc.length → (∀ z ∈ ys, 2 ≤ z ∧ z ≤ 6) → 0 ≤ x' → 0 ≤ y' → y' < 2147483563 → kk (ys.map .int) [srcO x' y']) →
    lcL (bindN 2) yesT (op2W addD (cW (.int 2)) (callW F_law_draw (consA (varW 0) (consA (cW (.int 5)) nilA)))) env0 xs (acc.map .int) [srcO x y] kk
  | [], acc, x, y, kk, hx, hy, hy2, ha, _, h => h acc x y (by simp) ha hx hy hy2
  | z :: r, acc, x, y, kk, hx, hy, hy2, ha, hn, h => by
    have g : (env0.set 2 (some z))[0]? = some (some (.p 0)) := by rw [List.getElem?_set_ne (by decide)]; exact h0
    refine Exists.intro _ (And.intro rfl ?_)
    refine Exists.intro _ (And.intro g ?_)
    refine And.intro (DW.nodB_ok rfl) ?_
    refine Exists.intro _ (And.intro rfl ?_)
    refine s_draw (n := 5) (by omega) (by omega) hx hy hy2 fun c x y c0 c1 hx hy hy2 => res_p1 rfl rfl ?_
    refine Exists.intro _ (And.intro rfl ?_)
    refine Exists.intro _ (And.intro rfl (And.intro (by simp at hn ⊢; omega) ?_))
    have e : acc.map PyData.int ++ [.int (2 + c)] = (acc ++ [2 + c]).map .int := by simp
    rw [e]
    refine lc_len h0 hl r (acc ++ [2 + c]) x y kk hx hy hy2 (fun w hw => ?_) (by simp at hn ⊢; omega) (fun ys x' y' h1 => h ys x' y' (by simp at h1 ⊢; omega))
    rcases List.mem_append.mp hw with q | q
    · exact ha w q
    · simp at q; omega
theorem rg_len (n : Int) : ((rgD 0 n).map DV.d).length = n.toNat := by simp [rgD]
def OfI3 (pre : List DV) (e : DEnv) (S : Sto) : Prop := ∃ (x2 : Option DV) (ps : List Int) (last x y : Int), e = [some (.p 0), some (iD 3), x2, some (.d (.tuple (ps.map .int))), some (iD last)] ∧ S = [srcO x y] ∧ ps.length = pre.length ∧ ps.Pairwise (· < ·) ∧ (∀ z ∈ ps, 1 ≤ z ∧ z ≤ last) ∧ 0 ≤ last ∧ last ≤ 10 * pre.length ∧ 0 ≤ x ∧ 0 ≤ y ∧ y < 2147483563
theorem q_offer3 {x y : Int} (hx : 0 ≤ x) (hy : 0 ≤ y) (hy2 : y < 2147483563) (h : ∀ ps ls x' y', VO ps ls → 0 ≤ x' → 0 ≤ y' → y' < 2147483563 → k (.d (ofr ps ls)) [srcO x' y']) : F_law_offer [.p 0, iD 3] [srcO x y] k kx := by
  (repeat first | refine Exists.intro _ (And.intro DW.lenP_ok ?_) | refine Exists.intro _ (And.intro DW.lenT_ok ?_) | refine Exists.intro _ (And.intro DW.lenL_ok ?_) | refine Exists.intro _ (And.intro rfl ?_) | refine Exists.intro _ (Exists.intro _ (And.intro rfl ?_)) | refine Exists.intro _ (Exists.intro _ (And.intro rfl (And.intro rfl ?_))) | refine And.intro rfl ?_ | refine Exists.intro _ (And.intro rfl (And.intro (Nat.le_of_ble_eq_true rfl) ?_)) | refine Exists.intro _ (And.intro (DW.modD_ok (by omega)) ?_) | refine Exists.intro _ (And.intro (DW.divD_ok (by omega) (by omega)) ?_) | refine Exists.intro _ (And.intro (DW.mulD_ok (by omega)) ?_) | refine Exists.intro _ (And.intro (DW.ix_ps (by omega) (by omega)) ?_) | refine Exists.intro _ (And.intro (DW.eqS_ok (by assumption) (by decide +kernel)) ?_) | refine And.intro (Nat.le_of_ble_eq_true rfl) ?_)
  refine And.intro (DW.nodB_ok rfl) ?_
  refine Exists.intro _ (And.intro rfl ?_)
  refine s_draw (n := 3) (by omega) (by omega) hx hy hy2 fun r x y c0 c1 hx hy hy2 => res_p1 rfl rfl ?_
  (repeat first | refine Exists.intro _ (And.intro DW.lenP_ok ?_) | refine Exists.intro _ (And.intro DW.lenT_ok ?_) | refine Exists.intro _ (And.intro DW.lenL_ok ?_) | refine Exists.intro _ (And.intro rfl ?_) | refine Exists.intro _ (Exists.intro _ (And.intro rfl ?_)) | refine Exists.intro _ (Exists.intro _ (And.intro rfl (And.intro rfl ?_))) | refine And.intro rfl ?_ | refine Exists.intro _ (And.intro rfl (And.intro (Nat.le_of_ble_eq_true rfl) ?_)) | refine Exists.intro _ (And.intro (DW.modD_ok (by omega)) ?_) | refine Exists.intro _ (And.intro (DW.divD_ok (by omega) (by omega)) ?_) | refine Exists.intro _ (And.intro (DW.mulD_ok (by omega)) ?_) | refine Exists.intro _ (And.intro (DW.ix_ps (by omega) (by omega)) ?_) | refine Exists.intro _ (And.intro (DW.eqS_ok (by assumption) (by decide +kernel)) ?_) | refine And.intro (Nat.le_of_ble_eq_true rfl) ?_)
  refine And.intro (by omega) (And.intro (by omega) ?_)
  refine loop_ix OfI3 (pre := []) ⟨none, [], 0, x, y, rfl, rfl, rfl, List.Pairwise.nil, fun z hz => by simp at hz, by omega, by omega, hx, hy, hy2⟩ ?_ ?_
  · rintro pre z post epre env S ⟨x2, ps, last, x, y, rfl, rfl, hl, inc, hb, h0, h1, hx, hy, hy2⟩
    (repeat first | refine Exists.intro _ (And.intro DW.lenP_ok ?_) | refine Exists.intro _ (And.intro DW.lenT_ok ?_) | refine Exists.intro _ (And.intro DW.lenL_ok ?_) | refine Exists.intro _ (And.intro rfl ?_) | refine Exists.intro _ (Exists.intro _ (And.intro rfl ?_)) | refine Exists.intro _ (Exists.intro _ (And.intro rfl (And.intro rfl ?_))) | refine And.intro rfl ?_ | refine Exists.intro _ (And.intro rfl (And.intro (Nat.le_of_ble_eq_true rfl) ?_)) | refine Exists.intro _ (And.intro (DW.modD_ok (by omega)) ?_) | refine Exists.intro _ (And.intro (DW.divD_ok (by omega) (by omega)) ?_) | refine Exists.intro _ (And.intro (DW.mulD_ok (by omega)) ?_) | refine Exists.intro _ (And.intro (DW.ix_ps (by omega) (by omega)) ?_) | refine Exists.intro _ (And.intro (DW.eqS_ok (by assumption) (by decide +kernel)) ?_) | refine And.intro (Nat.le_of_ble_eq_true rfl) ?_)
    refine And.intro (DW.nodB_ok rfl) ?_
    refine Exists.intro _ (And.intro rfl ?_)
    refine s_draw (n := 10) (by omega) (by omega) hx hy hy2 fun c x y c0 c1 hx hy hy2 => res_p1 rfl rfl ?_
    have hpl : pre.length ≤ 3 := by
      have := congrArg List.length epre
      simp [rgD] at this
      omega
    (repeat first | refine Exists.intro _ (And.intro DW.lenP_ok ?_) | refine Exists.intro _ (And.intro DW.lenT_ok ?_) | refine Exists.intro _ (And.intro DW.lenL_ok ?_) | refine Exists.intro _ (And.intro rfl ?_) | refine Exists.intro _ (Exists.intro _ (And.intro rfl ?_)) | refine Exists.intro _ (Exists.intro _ (And.intro rfl (And.intro rfl ?_))) | refine And.intro rfl ?_ | refine Exists.intro _ (And.intro rfl (And.intro (Nat.le_of_ble_eq_true rfl) ?_)) | refine Exists.intro _ (And.intro (DW.modD_ok (by omega)) ?_) | refine Exists.intro _ (And.intro (DW.divD_ok (by omega) (by omega)) ?_) | refine Exists.intro _ (And.intro (DW.mulD_ok (by omega)) ?_) | refine Exists.intro _ (And.intro (DW.ix_ps (by omega) (by omega)) ?_) | refine Exists.intro _ (And.intro (DW.eqS_ok (by assumption) (by decide +kernel)) ?_) | refine And.intro (Nat.le_of_ble_eq_true rfl) ?_)
    refine Exists.intro _ (And.intro (addT_ok (by simp; omega)) ?_)
    refine ⟨_, ps ++ [last + 1 + c], last + 1 + c, x, y, by rw [List.map_append]; rfl, rfl, by simp [hl], ?_, fun w hw => ?_, by omega, by simp; omega, hx, hy, hy2⟩
    · rw [List.pairwise_append]
      exact ⟨inc, by simp, fun a ha b hb' => by simp at hb'; have := hb a ha; omega⟩
    · rcases List.mem_append.mp hw with q | q
      · have := hb w q; omega
      · simp at q; omega
  · rintro env S ⟨x2, ps, last, x, y, rfl, rfl, hl, inc, hb, h0, h1, hx, hy, hy2⟩
    rw [List.nil_append, rg_len] at hl h1
    (repeat first | refine Exists.intro _ (And.intro DW.lenP_ok ?_) | refine Exists.intro _ (And.intro DW.lenT_ok ?_) | refine Exists.intro _ (And.intro DW.lenL_ok ?_) | refine Exists.intro _ (And.intro rfl ?_) | refine Exists.intro _ (Exists.intro _ (And.intro rfl ?_)) | refine Exists.intro _ (Exists.intro _ (And.intro rfl (And.intro rfl ?_))) | refine And.intro rfl ?_ | refine Exists.intro _ (And.intro rfl (And.intro (Nat.le_of_ble_eq_true rfl) ?_)) | refine Exists.intro _ (And.intro (DW.modD_ok (by omega)) ?_) | refine Exists.intro _ (And.intro (DW.divD_ok (by omega) (by omega)) ?_) | refine Exists.intro _ (And.intro (DW.mulD_ok (by omega)) ?_) | refine Exists.intro _ (And.intro (DW.ix_ps (by omega) (by omega)) ?_) | refine Exists.intro _ (And.intro (DW.eqS_ok (by assumption) (by decide +kernel)) ?_) | refine And.intro (Nat.le_of_ble_eq_true rfl) ?_)
    refine And.intro (DW.nodB_ok rfl) ?_
    refine Exists.intro _ (And.intro rfl ?_)
    refine s_choice (ds := [.int 1, .int 1, .int 2, .int 3]) (by decide) (by decide) hx hy hy2 fun dd x y hdd hx hy hy2 => res_p1 rfl rfl ?_
    have hm : ∃ m : Int, dd = .int m ∧ 1 ≤ m ∧ m ≤ 3 := by
      simp at hdd
      rcases hdd with rfl | rfl | rfl <;> exact ⟨_, rfl, by decide, by decide⟩
    obtain ⟨m, rfl, m1, m3⟩ := hm
    (repeat first | refine Exists.intro _ (And.intro DW.lenP_ok ?_) | refine Exists.intro _ (And.intro DW.lenT_ok ?_) | refine Exists.intro _ (And.intro DW.lenL_ok ?_) | refine Exists.intro _ (And.intro rfl ?_) | refine Exists.intro _ (Exists.intro _ (And.intro rfl ?_)) | refine Exists.intro _ (Exists.intro _ (And.intro rfl (And.intro rfl ?_))) | refine And.intro rfl ?_ | refine Exists.intro _ (And.intro rfl (And.intro (Nat.le_of_ble_eq_true rfl) ?_)) | refine Exists.intro _ (And.intro (DW.modD_ok (by omega)) ?_) | refine Exists.intro _ (And.intro (DW.divD_ok (by omega) (by omega)) ?_) | refine Exists.intro _ (And.intro (DW.mulD_ok (by omega)) ?_) | refine Exists.intro _ (And.intro (DW.ix_ps (by omega) (by omega)) ?_) | refine Exists.intro _ (And.intro (DW.eqS_ok (by assumption) (by decide +kernel)) ?_) | refine And.intro (Nat.le_of_ble_eq_true rfl) ?_)
    refine And.intro (by omega) (And.intro (by omega) ?_)
    refine lc_len rfl rfl _ [] x y _ hx hy hy2 (fun z hz => by simp at hz) (by rw [rg_len]; simp; omega) fun ls x' y' e1 e2 hx hy hy2 => ?_
    rw [rg_len] at e1
    (repeat first | refine Exists.intro _ (And.intro DW.lenP_ok ?_) | refine Exists.intro _ (And.intro DW.lenT_ok ?_) | refine Exists.intro _ (And.intro DW.lenL_ok ?_) | refine Exists.intro _ (And.intro rfl ?_) | refine Exists.intro _ (Exists.intro _ (And.intro rfl ?_)) | refine Exists.intro _ (Exists.intro _ (And.intro rfl (And.intro rfl ?_))) | refine And.intro rfl ?_ | refine Exists.intro _ (And.intro rfl (And.intro (Nat.le_of_ble_eq_true rfl) ?_)) | refine Exists.intro _ (And.intro (DW.modD_ok (by omega)) ?_) | refine Exists.intro _ (And.intro (DW.divD_ok (by omega) (by omega)) ?_) | refine Exists.intro _ (And.intro (DW.mulD_ok (by omega)) ?_) | refine Exists.intro _ (And.intro (DW.ix_ps (by omega) (by omega)) ?_) | refine Exists.intro _ (And.intro (DW.eqS_ok (by assumption) (by decide +kernel)) ?_) | refine And.intro (Nat.le_of_ble_eq_true rfl) ?_)
    exact h ps ls x' y' ⟨⟨by omega, by omega, by simp at e1; omega, by simp at e1; omega, fun z hz => by have := hb z hz; omega, e2⟩, inc⟩ hx hy hy2
end
end Lw

set_option maxRecDepth 100000
set_option maxHeartbeats 1000000
set_option synthInstance.maxSize 1000000
set_option synthInstance.maxHeartbeats 0
set_option linter.all false
set_option pp.maxSteps 400
namespace Lw
open PySem L2 DW
/-! M01V: values; a value with one part otherwise. -/
abbrev bb0 : DS := (asgS 2 (callW F_law_draw (consA (varW 0) (consA (cW (.int 6)) nilA))))
abbrev bb1 (F_law_bent : FS) : DS := (ifS (andW (testW (op1W (isiD .tuple) (varW 1))) (andW (testW (op2W neD (varW 1) (tupW nilA))) (testW (op2W gtD (varW 2) (cW (.int 0)))))) (seqS (asgS 4 (callW F_law_draw (consA (varW 0) (consA (callNW lenD (consA (varW 1) nilA)) nilA)))) (seqS (ifS (testW (op2W eqD (varW 2) (cW (.int 1)))) (seqS (retS (op2W addD (sliceW (varW 1) noPartW (partW (varW 4))) (sliceW (varW 1) (partW (op2W addD (varW 4) (cW (.int 1)))) noPartW))) nextS) nextS) (seqS (ifS (testW (op2W eqD (varW 2) (cW (.int 2)))) (seqS (retS (op2W addD (sliceW (varW 1) noPartW (partW (op2W addD (varW 4) (cW (.int 1))))) (sliceW (varW 1) (partW (varW 4)) noPartW))) nextS) nextS) (seqS (retS (op2W addD (op2W addD (sliceW (varW 1) noPartW (partW (varW 4))) (tupW (consA (callW F_law_bent (consA (varW 0) (consA (op2W ixD (varW 1) (varW 4)) nilA))) nilA))) (sliceW (varW 1) (partW (op2W addD (varW 4) (cW (.int 1)))) noPartW))) nextS)))) nextS)
abbrev bb2 : DS := (asgS 3 (lstW (consA (cW .none) (consA (cW (.bool true)) (consA (cW (.bool false)) (consA (cW (.int 0)) (consA (cW (.int 1)) (consA (cW (.int 2)) (consA (cW (.int 3)) (consA (cW (.int 6)) (consA (cW (.int 7)) (consA (cW (.int 30)) (consA (cW (.int 31)) (consA (op1W negD (cW (.int 1))) (consA (cW (.str "now")) (consA (cW (.str "turn")) (consA (cW (.str "days")) (consA (cW (.str "early")) (consA (cW (.str "anew")) (consA (cW (.str "")) (consA (tupW nilA) (consA (lstW nilA) nilA))))))))))))))))))))))
abbrev bb3 : DS := (retS (callW F_law_choice (consA (varW 0) (consA (op2W addD (varW 3) (lstW (consA (tupW (consA (cW (.int 4)) nilA)) (consA (tupW (consA (cW (.int 6)) (consA (cW (.int 12)) nilA))) (consA (cW (.str "back")) (consA (cW (.str "near")) (consA (cW (.str "lost")) (consA (cW (.str "Now")) nilA)))))))) nilA))))
abbrev bt0 : DS := (asgS 4 (callW F_law_draw (consA (varW 0) (consA (callNW lenD (consA (varW 1) nilA)) nilA))))
abbrev bt1 : DS := (ifS (testW (op2W eqD (varW 2) (cW (.int 1)))) (seqS (retS (op2W addD (sliceW (varW 1) noPartW (partW (varW 4))) (sliceW (varW 1) (partW (op2W addD (varW 4) (cW (.int 1)))) noPartW))) nextS) nextS)
abbrev bt2 : DS := (ifS (testW (op2W eqD (varW 2) (cW (.int 2)))) (seqS (retS (op2W addD (sliceW (varW 1) noPartW (partW (op2W addD (varW 4) (cW (.int 1))))) (sliceW (varW 1) (partW (varW 4)) noPartW))) nextS) nextS)
abbrev bt3 (F_law_bent : FS) : DS := (retS (op2W addD (op2W addD (sliceW (varW 1) noPartW (partW (varW 4))) (tupW (consA (callW F_law_bent (consA (varW 0) (consA (op2W ixD (varW 1) (varW 4)) nilA))) nilA))) (sliceW (varW 1) (partW (op2W addD (varW 4) (cW (.int 1)))) noPartW)))
abbrev bc : DT := (andW (testW (op1W (isiD .tuple) (varW 1))) (andW (testW (op2W neD (varW 1) (tupW nilA))) (testW (op2W gtD (varW 2) (cW (.int 0))))))
theorem bent_eq (F : FS) : w_law_bent F = (seqS bb0 (seqS (ifS bc (seqS bt0 (seqS bt1 (seqS bt2 (seqS (bt3 F) nextS)))) nextS) (seqS bb2 (seqS bb3 nextS)))) := rfl
def leafB : PyData → Bool
  | .none => true
  | .bool _ => true
  | .int _ => true
  | .str s => PyData.strOk s
  | .list xs => xs.isEmpty
  | _ => false
/-- a value of the law: depth, length -/
inductive Vl : Nat → Nat → PyData → Prop
  | leaf {d L : Nat} {x : PyData} : leafB x = true → Vl d L x
  | tup {d L : Nat} {xs : List PyData} : xs.length ≤ L → (∀ x ∈ xs, Vl d L x) → Vl (d + 1) L (.tuple xs)
theorem Vl.mono {d L : Nat} {v : PyData} (h : Vl d L v) : ∀ {d' L' : Nat}, d ≤ d' → L ≤ L' → Vl d' L' v := by
  induction h with
  | leaf h => exact fun _ _ => .leaf h
  | @tup d L xs hl _ ih =>
    intro d' L' h1 h2
    obtain ⟨e, rfl⟩ : ∃ e, d' = e + 1 := ⟨d' - 1, by omega⟩
    exact .tup (by omega) fun x hx => ih x hx (by omega) h2
theorem lay_all {xs : List PyData} (h : ∀ x ∈ xs, PyData.canLay0 x = true) : PyData.canLayAll0 xs = true := by
  induction xs with
  | nil => rfl
  | cons x r ih =>
    show (PyData.canLay0 x && PyData.canLayAll0 r) = true
    rw [h x List.mem_cons_self, ih fun y hy => h y (List.mem_cons_of_mem _ hy)]
    rfl
theorem depth_all {xs : List PyData} {n : Nat} (h : ∀ x ∈ xs, PyData.depth x ≤ n) : PyData.depthAll xs ≤ n := by
  induction xs with
  | nil => exact Nat.zero_le _
  | cons x r ih =>
    show max (PyData.depth x) (PyData.depthAll r) ≤ n
    exact Nat.max_le.mpr ⟨h x List.mem_cons_self, ih fun y hy => h y (List.mem_cons_of_mem _ hy)⟩
theorem leaf_lay {x : PyData} (h : leafB x = true) : PyData.canLay0 x = true ∧ PyData.depth x ≤ 1 := by
  cases x with
  | list xs =>
    cases xs with
    | nil => exact ⟨rfl, by simp [PyData.depth, PyData.depthAll]⟩
    | cons _ _ => cases h
  | str s => exact ⟨h, by simp [PyData.depth]⟩
  | none => exact ⟨rfl, by simp [PyData.depth]⟩
  | bool b => exact ⟨rfl, by simp [PyData.depth]⟩
  | int i => exact ⟨rfl, by simp [PyData.depth]⟩
  | tuple _ => cases h
  | dict _ => cases h
theorem Vl.lay {d L : Nat} {v : PyData} (h : Vl d L v) : PyData.canLay0 v = true ∧ PyData.depth v ≤ d + 1 := by
  induction h with
  | leaf h => exact ⟨(leaf_lay h).1, by have := (leaf_lay h).2; omega⟩
  | @tup d L xs hl _ ih =>
    refine ⟨lay_all fun x hx => (ih x hx).1, ?_⟩
    show PyData.depthAll xs + 1 ≤ _
    have := depth_all fun x hx => (ih x hx).2
    omega
theorem Vl.sh {d L : Nat} {v : PyData} (h : Vl d L v) (hd : d ≤ 60) : SeqAt.shaped v = true := by
  obtain ⟨h1, h2⟩ := h.lay
  unfold SeqAt.shaped
  rw [h1, decide_eq_true (show PyData.depth v ≤ 64 by omega)]
  rfl
theorem Vl.flat {d L : Nat} {v : PyData} (h : Vl d L v) : flat5 v = true := by
  cases h with
  | leaf h => cases v <;> first | rfl | cases h
  | tup _ _ => rfl
theorem Vl.items {d L : Nat} {xs : List PyData} (h : Vl d L (.tuple xs)) : ∃ e, d = e + 1 ∧ xs.length ≤ L ∧ ∀ x ∈ xs, Vl e L x := by
  cases h with
  | leaf h => cases h
  | tup h1 h2 => exact ⟨_, rfl, h1, h2⟩
/-! cuts -/
theorem cut_lo {α : Type} {xs : List α} {i : Int} (h0 : 0 ≤ i) : cutP xs none (some i) = xs.take i.toNat := by
  have e : HT.sIx xs.length xs.length (some i) = min i.toNat xs.length := by
    have := HT.sIx_nat xs.length xs.length i.toNat
    rwa [Int.toNat_of_nonneg h0] at this
  show (xs.drop 0).take (HT.sIx xs.length xs.length (some i) - 0) = _
  rw [e, Nat.sub_zero, List.drop_zero]
  by_cases h : i.toNat ≤ xs.length
  · rw [Nat.min_eq_left h]
  · rw [Nat.min_eq_right (by omega), List.take_length, List.take_of_length_le (by omega)]
theorem cut_hi {α : Type} {xs : List α} {i : Int} (h0 : 0 ≤ i) (h1 : i ≤ xs.length) : cutP xs (some i) none = xs.drop i.toNat := by
  have e : HT.sIx xs.length 0 (some i) = min i.toNat xs.length := by
    have := HT.sIx_nat xs.length 0 i.toNat
    rwa [Int.toNat_of_nonneg h0] at this
  show (xs.drop (HT.sIx xs.length 0 (some i))).take (xs.length - HT.sIx xs.length 0 (some i)) = _
  rw [e, Nat.min_eq_left (by omega)]
  exact List.take_of_length_le (by simp)
theorem cutD_lo {xs : List PyData} {i : Int} (h0 : 0 ≤ i) : cutD (.d (.tuple xs)) none (some i) = some (.d (.tuple (xs.take i.toNat))) := by
  show some (DV.d (.tuple (cutP xs none (some i)))) = _
  rw [cut_lo h0]
theorem cutD_hi {xs : List PyData} {i : Int} (h0 : 0 ≤ i) (h1 : i ≤ xs.length) : cutD (.d (.tuple xs)) (some i) none = some (.d (.tuple (xs.drop i.toNat))) := by
  show some (DV.d (.tuple (cutP xs (some i) none))) = _
  rw [cut_hi h0 h1]
/-! the other values -/
def lits : List PyData := [.none, .bool true, .bool false, .int 0, .int 1, .int 2, .int 3, .int 6, .int 7, .int 30, .int 31, .int (-1), .str "now", .str "turn", .str "days", .str "early", .str "anew", .str "", .tuple [], .list [],
  .tuple [.int 4], .tuple [.int 6, .int 12], .str "back", .str "near", .str "lost", .str "Now"]
def litB : PyData → Bool
  | .tuple xs => decide (xs.length ≤ 2) && xs.all leafB
  | x => leafB x
theorem lits_ok {z : PyData} (h : z ∈ lits) : Vl 1 2 z := by
  have h1 : lits.all litB = true := by decide +kernel
  have h2 := List.all_eq_true.mp h1 z h
  cases z with
  | tuple xs =>
    obtain ⟨q1, q2⟩ := two (show (decide (xs.length ≤ 2) && xs.all leafB) = true from h2)
    exact .tup (of_decide_eq_true q1) fun x hx => .leaf (List.all_eq_true.mp q2 x hx)
  | none => exact .leaf h2
  | bool b => exact .leaf h2
  | int b => exact .leaf h2
  | str b => exact .leaf h2
  | list b => exact .leaf h2
  | dict b => exact .leaf h2
abbrev fE (k : DK) (kx : DX) : DEnds := ⟨fun _ S' => k (.d .none) S', k, fun _ _ => False, fun _ _ => False, fun _ => kx⟩
section
variable {k : DK} {kx : DX}
theorem q_leaf {v : PyData} {x2 x3 x4 : Option DV} {x y : Int} (hx : 0 ≤ x) (hy : 0 ≤ y) (hy2 : y < 2147483563) (h : ∀ z x' y', Vl 1 2 z → 0 ≤ x' → 0 ≤ y' → y' < 2147483563 → k (.d z) [srcO x' y']) :
    (seqS bb2 (seqS bb3 nextS)) [some (.p 0), some (.d v), x2, x3, x4] [srcO x y] (fE k kx) := by
  (repeat first | refine Exists.intro _ (And.intro DW.lenP_ok ?_) | refine Exists.intro _ (And.intro DW.lenT_ok ?_) | refine Exists.intro _ (And.intro DW.lenL_ok ?_) | refine Exists.intro _ (And.intro rfl ?_) | refine Exists.intro _ (Exists.intro _ (And.intro rfl ?_)) | refine Exists.intro _ (Exists.intro _ (And.intro rfl (And.intro rfl ?_))) | refine And.intro rfl ?_ | refine Exists.intro _ (And.intro rfl (And.intro (Nat.le_of_ble_eq_true rfl) ?_)) | refine Exists.intro _ (And.intro (DW.modD_ok (by omega)) ?_) | refine Exists.intro _ (And.intro (DW.divD_ok (by omega) (by omega)) ?_) | refine Exists.intro _ (And.intro (DW.mulD_ok (by omega)) ?_) | refine Exists.intro _ (And.intro (DW.ix_ps (by omega) (by omega)) ?_) | refine Exists.intro _ (And.intro (DW.eqS_ok (by assumption) (by decide +kernel)) ?_) | refine And.intro (Nat.le_of_ble_eq_true rfl) ?_)
  refine And.intro (DW.nodB_ok rfl) ?_
  refine Exists.intro _ (And.intro rfl ?_)
  refine s_choice (ds := lits) (by decide) (by decide) hx hy hy2 fun z x y hz hx hy hy2 => res_p1 rfl rfl ?_
  exact h z x y (lits_ok hz) hx hy hy2
theorem ne_tup {x : PyData} {xs : List PyData} {S : Sto} (h : SeqAt.shaped (.tuple (x :: xs)) = true) : neD (.d (.tuple (x :: xs))) (.d (.tuple [])) S = some (.d (.bool true)) := by
  show (if SeqAt.shaped (.tuple (x :: xs)) = true ∧ SeqAt.shaped (.tuple []) = true then some (DV.d (.bool (!PyData.eqv (.tuple (x :: xs)) (.tuple [])))) else none) = _
  rw [if_pos ⟨h, by decide⟩]
  have e : PyData.eqv (.tuple (x :: xs)) (.tuple []) = false := by simp [PyData.eqv, PyData.eqvAll]
  rw [e]
  rfl
theorem q_bent : ∀ (n : Nat) {d L : Nat} {v : PyData} {x y : Int} {k : DK} {kx : DX}, Vl d L v → d < n → d ≤ 50 → 1 ≤ L → L ≤ 100 → 0 ≤ x → 0 ≤ y → y < 2147483563 →
    (∀ z x' y', Vl (d + 1) (L + 1) z → 0 ≤ x' → 0 ≤ y' → y' < 2147483563 → k (.d z) [srcO x' y']) → FB n [.p 0, .d v] [srcO x y] k kx
  | 0, d, L, v, x, y, k, kx, _, hn, _, _, _, _, _, _, _ => absurd hn (Nat.not_lt_zero _)
  | n + 1, d, L, v, x, y, k, kx, hv, hn, hd, hL, hL2, hx, hy, hy2, h => by
    show w_law_bent (FB n) [some (.p 0), some (.d v), none, none, none] [srcO x y] (fE k kx)
    rw [bent_eq]
    refine Exists.intro _ (And.intro rfl ?_)
    refine And.intro (DW.nodB_ok rfl) ?_
    refine Exists.intro _ (And.intro rfl ?_)
    refine s_draw (n := 6) (by omega) (by omega) hx hy hy2 fun way x y w0 w1 hx hy hy2 => res_p1 rfl rfl ?_
    have leaf : ∀ {x2 x3 x4 : Option DV}, (seqS bb2 (seqS bb3 nextS)) [some (.p 0), some (.d v), x2, x3, x4] [srcO x y] (fE k kx) := fun {x2 x3 x4} =>
      q_leaf hx hy hy2 fun z x' y' hz => h z x' y' (hz.mono (by omega) (by omega))
    have fin : ∀ {xs : List PyData} {e : Nat}, xs.length ≤ L + 1 → (∀ z ∈ xs, Vl e (L + 1) z) → e ≤ d → k (.d (.tuple xs)) [srcO x y] := fun {xs e} h1 h2 h3 =>
      h _ x y ((Vl.tup h1 h2).mono (by omega) (Nat.le_refl _)) hx hy hy2
    cases v with
    | tuple xs =>
      cases xs with
      | nil =>
        repeat (first | exact leaf | (iterate 1 (first | refine Exists.intro _ (And.intro DW.lenP_ok ?_) | refine Exists.intro _ (And.intro DW.lenT_ok ?_) | refine Exists.intro _ (And.intro DW.lenL_ok ?_) | refine Exists.intro _ (And.intro rfl ?_) | refine Exists.intro _ (Exists.intro _ (And.intro rfl ?_)) | refine Exists.intro _ (Exists.intro _ (And.intro rfl (And.intro rfl ?_))) | refine And.intro rfl ?_ | refine Exists.intro _ (And.intro rfl (And.intro (Nat.le_of_ble_eq_true rfl) ?_)) | refine Exists.intro _ (And.intro (DW.modD_ok (by omega)) ?_) | refine Exists.intro _ (And.intro (DW.divD_ok (by omega) (by omega)) ?_) | refine Exists.intro _ (And.intro (DW.mulD_ok (by omega)) ?_) | refine Exists.intro _ (And.intro (DW.ix_ps (by omega) (by omega)) ?_) | refine Exists.intro _ (And.intro (DW.eqS_ok (by assumption) (by decide +kernel)) ?_) | refine And.intro (Nat.le_of_ble_eq_true rfl) ?_)))
      | cons x0 xs =>
        have sh := hv.sh (by omega)
        obtain ⟨e, rfl, hl, hi⟩ := hv.items
        generalize exs : x0 :: xs = ys at *
        have hpos : 0 < ys.length := by rw [← exs]; simp
        have hne : ∀ S, neD (.d (.tuple ys)) (.d (.tuple [])) S = some (.d (.bool true)) := fun S => by
          subst exs
          exact ne_tup sh
        clear exs
        (iterate 3 (first | refine Exists.intro _ (And.intro DW.lenP_ok ?_) | refine Exists.intro _ (And.intro DW.lenT_ok ?_) | refine Exists.intro _ (And.intro DW.lenL_ok ?_) | refine Exists.intro _ (And.intro rfl ?_) | refine Exists.intro _ (Exists.intro _ (And.intro rfl ?_)) | refine Exists.intro _ (Exists.intro _ (And.intro rfl (And.intro rfl ?_))) | refine And.intro rfl ?_ | refine Exists.intro _ (And.intro rfl (And.intro (Nat.le_of_ble_eq_true rfl) ?_)) | refine Exists.intro _ (And.intro (DW.modD_ok (by omega)) ?_) | refine Exists.intro _ (And.intro (DW.divD_ok (by omega) (by omega)) ?_) | refine Exists.intro _ (And.intro (DW.mulD_ok (by omega)) ?_) | refine Exists.intro _ (And.intro (DW.ix_ps (by omega) (by omega)) ?_) | refine Exists.intro _ (And.intro (DW.eqS_ok (by assumption) (by decide +kernel)) ?_) | refine And.intro (Nat.le_of_ble_eq_true rfl) ?_))
        (iterate 1 (first | refine Exists.intro _ (And.intro DW.lenP_ok ?_) | refine Exists.intro _ (And.intro DW.lenT_ok ?_) | refine Exists.intro _ (And.intro DW.lenL_ok ?_) | refine Exists.intro _ (And.intro rfl ?_) | refine Exists.intro _ (Exists.intro _ (And.intro rfl ?_)) | refine Exists.intro _ (Exists.intro _ (And.intro rfl (And.intro rfl ?_))) | refine And.intro rfl ?_ | refine Exists.intro _ (And.intro rfl (And.intro (Nat.le_of_ble_eq_true rfl) ?_)) | refine Exists.intro _ (And.intro (DW.modD_ok (by omega)) ?_) | refine Exists.intro _ (And.intro (DW.divD_ok (by omega) (by omega)) ?_) | refine Exists.intro _ (And.intro (DW.mulD_ok (by omega)) ?_) | refine Exists.intro _ (And.intro (DW.ix_ps (by omega) (by omega)) ?_) | refine Exists.intro _ (And.intro (DW.eqS_ok (by assumption) (by decide +kernel)) ?_) | refine And.intro (Nat.le_of_ble_eq_true rfl) ?_))
        refine Exists.intro _ (And.intro rfl (And.intro (Nat.le_of_ble_eq_true rfl) ?_))
        refine Exists.intro _ (And.intro (hne _) ?_)
        (repeat first | refine Exists.intro _ (And.intro DW.lenP_ok ?_) | refine Exists.intro _ (And.intro DW.lenT_ok ?_) | refine Exists.intro _ (And.intro DW.lenL_ok ?_) | refine Exists.intro _ (And.intro rfl ?_) | refine Exists.intro _ (Exists.intro _ (And.intro rfl ?_)) | refine Exists.intro _ (Exists.intro _ (And.intro rfl (And.intro rfl ?_))) | refine And.intro rfl ?_ | refine Exists.intro _ (And.intro rfl (And.intro (Nat.le_of_ble_eq_true rfl) ?_)) | refine Exists.intro _ (And.intro (DW.modD_ok (by omega)) ?_) | refine Exists.intro _ (And.intro (DW.divD_ok (by omega) (by omega)) ?_) | refine Exists.intro _ (And.intro (DW.mulD_ok (by omega)) ?_) | refine Exists.intro _ (And.intro (DW.ix_ps (by omega) (by omega)) ?_) | refine Exists.intro _ (And.intro (DW.eqS_ok (by assumption) (by decide +kernel)) ?_) | refine And.intro (Nat.le_of_ble_eq_true rfl) ?_)
        refine DW.r_dec (fun hc => ?_) (fun hc => ?_)
        · refine Exists.intro _ (And.intro rfl ?_)
          refine Exists.intro _ (And.intro rfl ?_)
          refine Exists.intro _ (And.intro DW.lenT_ok ?_)
          refine And.intro (DW.nodB_ok rfl) ?_
          refine Exists.intro _ (And.intro rfl ?_)
          refine s_draw (n := (ys.length : Int)) (by omega) (by omega) hx hy hy2 fun at_ x y a0 a1 hx hy hy2 => res_p1 rfl rfl ?_
          have leaf : True := trivial
          have fin : ∀ {xs : List PyData} {e' : Nat}, xs.length ≤ L + 1 → (∀ z ∈ xs, Vl e' (L + 1) z) → e' ≤ e + 1 → k (.d (.tuple xs)) [srcO x y] := fun {xs e'} h1 h2 h3 =>
            h _ x y ((Vl.tup h1 h2).mono (by omega) (Nat.le_refl _)) hx hy hy2
          have tk : ∀ j : Nat, (ys.take j).length ≤ j := fun j => List.length_take_le j ys
          have tk2 : ∀ j : Nat, (ys.take j).length ≤ ys.length := fun j => List.length_take_le' j ys
          have dr : ∀ j : Nat, (ys.drop j).length = ys.length - j := fun j => List.length_drop
          have it : ∀ {j : Nat} {z : PyData}, z ∈ ys.take j → Vl (e + 1) (L + 1) z := fun {j z} hz => (hi z (List.mem_of_mem_take hz)).mono (by omega) (by omega)
          have id : ∀ {j : Nat} {z : PyData}, z ∈ ys.drop j → Vl (e + 1) (L + 1) z := fun {j z} hz => (hi z (List.mem_of_mem_drop hz)).mono (by omega) (by omega)
          (repeat first | refine Exists.intro _ (And.intro DW.lenP_ok ?_) | refine Exists.intro _ (And.intro DW.lenT_ok ?_) | refine Exists.intro _ (And.intro DW.lenL_ok ?_) | refine Exists.intro _ (And.intro rfl ?_) | refine Exists.intro _ (Exists.intro _ (And.intro rfl ?_)) | refine Exists.intro _ (Exists.intro _ (And.intro rfl (And.intro rfl ?_))) | refine And.intro rfl ?_ | refine Exists.intro _ (And.intro rfl (And.intro (Nat.le_of_ble_eq_true rfl) ?_)) | refine Exists.intro _ (And.intro (DW.modD_ok (by omega)) ?_) | refine Exists.intro _ (And.intro (DW.divD_ok (by omega) (by omega)) ?_) | refine Exists.intro _ (And.intro (DW.mulD_ok (by omega)) ?_) | refine Exists.intro _ (And.intro (DW.ix_ps (by omega) (by omega)) ?_) | refine Exists.intro _ (And.intro (DW.eqS_ok (by assumption) (by decide +kernel)) ?_) | refine And.intro (Nat.le_of_ble_eq_true rfl) ?_)
          refine DW.r_eqi (fun hc => ?_) (fun hc => ?_)
          · (iterate 3 (first | refine Exists.intro _ (And.intro DW.lenP_ok ?_) | refine Exists.intro _ (And.intro DW.lenT_ok ?_) | refine Exists.intro _ (And.intro DW.lenL_ok ?_) | refine Exists.intro _ (And.intro rfl ?_) | refine Exists.intro _ (Exists.intro _ (And.intro rfl ?_)) | refine Exists.intro _ (Exists.intro _ (And.intro rfl (And.intro rfl ?_))) | refine And.intro rfl ?_ | refine Exists.intro _ (And.intro rfl (And.intro (Nat.le_of_ble_eq_true rfl) ?_)) | refine Exists.intro _ (And.intro (DW.modD_ok (by omega)) ?_) | refine Exists.intro _ (And.intro (DW.divD_ok (by omega) (by omega)) ?_) | refine Exists.intro _ (And.intro (DW.mulD_ok (by omega)) ?_) | refine Exists.intro _ (And.intro (DW.ix_ps (by omega) (by omega)) ?_) | refine Exists.intro _ (And.intro (DW.eqS_ok (by assumption) (by decide +kernel)) ?_) | refine And.intro (Nat.le_of_ble_eq_true rfl) ?_))
            refine Exists.intro _ (And.intro (cutD_lo a0) ?_)
            (iterate 4 (first | refine Exists.intro _ (And.intro DW.lenP_ok ?_) | refine Exists.intro _ (And.intro DW.lenT_ok ?_) | refine Exists.intro _ (And.intro DW.lenL_ok ?_) | refine Exists.intro _ (And.intro rfl ?_) | refine Exists.intro _ (Exists.intro _ (And.intro rfl ?_)) | refine Exists.intro _ (Exists.intro _ (And.intro rfl (And.intro rfl ?_))) | refine And.intro rfl ?_ | refine Exists.intro _ (And.intro rfl (And.intro (Nat.le_of_ble_eq_true rfl) ?_)) | refine Exists.intro _ (And.intro (DW.modD_ok (by omega)) ?_) | refine Exists.intro _ (And.intro (DW.divD_ok (by omega) (by omega)) ?_) | refine Exists.intro _ (And.intro (DW.mulD_ok (by omega)) ?_) | refine Exists.intro _ (And.intro (DW.ix_ps (by omega) (by omega)) ?_) | refine Exists.intro _ (And.intro (DW.eqS_ok (by assumption) (by decide +kernel)) ?_) | refine And.intro (Nat.le_of_ble_eq_true rfl) ?_))
            refine Exists.intro _ (And.intro (cutD_hi (by omega) (by omega)) ?_)
            refine Exists.intro _ (And.intro (addT_ok (by have := tk at_.toNat; have := dr (at_ + 1).toNat; omega)) ?_)
            refine fin (e' := e + 1) ?_ ?_ (Nat.le_refl _)
            · rw [List.length_append]; have := tk at_.toNat; have := dr (at_ + 1).toNat; omega
            · intro z hz
              rcases List.mem_append.mp hz with q | q
              · exact it q
              · exact id q
          · (repeat first | refine Exists.intro _ (And.intro DW.lenP_ok ?_) | refine Exists.intro _ (And.intro DW.lenT_ok ?_) | refine Exists.intro _ (And.intro DW.lenL_ok ?_) | refine Exists.intro _ (And.intro rfl ?_) | refine Exists.intro _ (Exists.intro _ (And.intro rfl ?_)) | refine Exists.intro _ (Exists.intro _ (And.intro rfl (And.intro rfl ?_))) | refine And.intro rfl ?_ | refine Exists.intro _ (And.intro rfl (And.intro (Nat.le_of_ble_eq_true rfl) ?_)) | refine Exists.intro _ (And.intro (DW.modD_ok (by omega)) ?_) | refine Exists.intro _ (And.intro (DW.divD_ok (by omega) (by omega)) ?_) | refine Exists.intro _ (And.intro (DW.mulD_ok (by omega)) ?_) | refine Exists.intro _ (And.intro (DW.ix_ps (by omega) (by omega)) ?_) | refine Exists.intro _ (And.intro (DW.eqS_ok (by assumption) (by decide +kernel)) ?_) | refine And.intro (Nat.le_of_ble_eq_true rfl) ?_)
            refine DW.r_eqi (fun hc => ?_) (fun hc => ?_)
            · (iterate 4 (first | refine Exists.intro _ (And.intro DW.lenP_ok ?_) | refine Exists.intro _ (And.intro DW.lenT_ok ?_) | refine Exists.intro _ (And.intro DW.lenL_ok ?_) | refine Exists.intro _ (And.intro rfl ?_) | refine Exists.intro _ (Exists.intro _ (And.intro rfl ?_)) | refine Exists.intro _ (Exists.intro _ (And.intro rfl (And.intro rfl ?_))) | refine And.intro rfl ?_ | refine Exists.intro _ (And.intro rfl (And.intro (Nat.le_of_ble_eq_true rfl) ?_)) | refine Exists.intro _ (And.intro (DW.modD_ok (by omega)) ?_) | refine Exists.intro _ (And.intro (DW.divD_ok (by omega) (by omega)) ?_) | refine Exists.intro _ (And.intro (DW.mulD_ok (by omega)) ?_) | refine Exists.intro _ (And.intro (DW.ix_ps (by omega) (by omega)) ?_) | refine Exists.intro _ (And.intro (DW.eqS_ok (by assumption) (by decide +kernel)) ?_) | refine And.intro (Nat.le_of_ble_eq_true rfl) ?_))
              refine Exists.intro _ (And.intro (cutD_lo (by omega)) ?_)
              (iterate 3 (first | refine Exists.intro _ (And.intro DW.lenP_ok ?_) | refine Exists.intro _ (And.intro DW.lenT_ok ?_) | refine Exists.intro _ (And.intro DW.lenL_ok ?_) | refine Exists.intro _ (And.intro rfl ?_) | refine Exists.intro _ (Exists.intro _ (And.intro rfl ?_)) | refine Exists.intro _ (Exists.intro _ (And.intro rfl (And.intro rfl ?_))) | refine And.intro rfl ?_ | refine Exists.intro _ (And.intro rfl (And.intro (Nat.le_of_ble_eq_true rfl) ?_)) | refine Exists.intro _ (And.intro (DW.modD_ok (by omega)) ?_) | refine Exists.intro _ (And.intro (DW.divD_ok (by omega) (by omega)) ?_) | refine Exists.intro _ (And.intro (DW.mulD_ok (by omega)) ?_) | refine Exists.intro _ (And.intro (DW.ix_ps (by omega) (by omega)) ?_) | refine Exists.intro _ (And.intro (DW.eqS_ok (by assumption) (by decide +kernel)) ?_) | refine And.intro (Nat.le_of_ble_eq_true rfl) ?_))
              refine Exists.intro _ (And.intro (cutD_hi (by omega) (by omega)) ?_)
              refine Exists.intro _ (And.intro (addT_ok (by have := tk (at_ + 1).toNat; have := dr at_.toNat; omega)) ?_)
              refine fin (e' := e + 1) ?_ ?_ (Nat.le_refl _)
              · rw [List.length_append]; have := tk (at_ + 1).toNat; have := dr at_.toNat; omega
              · intro z hz
                rcases List.mem_append.mp hz with q | q
                · exact it q
                · exact id q
            · (iterate 3 (first | refine Exists.intro _ (And.intro DW.lenP_ok ?_) | refine Exists.intro _ (And.intro DW.lenT_ok ?_) | refine Exists.intro _ (And.intro DW.lenL_ok ?_) | refine Exists.intro _ (And.intro rfl ?_) | refine Exists.intro _ (Exists.intro _ (And.intro rfl ?_)) | refine Exists.intro _ (Exists.intro _ (And.intro rfl (And.intro rfl ?_))) | refine And.intro rfl ?_ | refine Exists.intro _ (And.intro rfl (And.intro (Nat.le_of_ble_eq_true rfl) ?_)) | refine Exists.intro _ (And.intro (DW.modD_ok (by omega)) ?_) | refine Exists.intro _ (And.intro (DW.divD_ok (by omega) (by omega)) ?_) | refine Exists.intro _ (And.intro (DW.mulD_ok (by omega)) ?_) | refine Exists.intro _ (And.intro (DW.ix_ps (by omega) (by omega)) ?_) | refine Exists.intro _ (And.intro (DW.eqS_ok (by assumption) (by decide +kernel)) ?_) | refine And.intro (Nat.le_of_ble_eq_true rfl) ?_))
              refine Exists.intro _ (And.intro (cutD_lo a0) ?_)
              refine Exists.intro _ (And.intro rfl ?_)
              refine Exists.intro _ (And.intro rfl ?_)
              refine Exists.intro _ (And.intro rfl ?_)
              refine Exists.intro _ (And.intro (ix_t a0 a1) ?_)
              refine And.intro (DW.nodB_ok rfl) ?_
              refine Exists.intro _ (And.intro rfl ?_)
              refine q_bent n (hi _ (List.getElem_mem _)) (by omega) (by omega) hL hL2 hx hy hy2 fun z x y hz hx hy hy2 => res_p1 rfl rfl ?_
              refine Exists.intro _ (And.intro rfl (And.intro (Nat.le_of_ble_eq_true rfl) ?_))
              refine Exists.intro _ (And.intro (addT_ok (by have := tk at_.toNat; simp only [List.length_cons, List.length_nil]; omega)) ?_)
              (iterate 4 (first | refine Exists.intro _ (And.intro DW.lenP_ok ?_) | refine Exists.intro _ (And.intro DW.lenT_ok ?_) | refine Exists.intro _ (And.intro DW.lenL_ok ?_) | refine Exists.intro _ (And.intro rfl ?_) | refine Exists.intro _ (Exists.intro _ (And.intro rfl ?_)) | refine Exists.intro _ (Exists.intro _ (And.intro rfl (And.intro rfl ?_))) | refine And.intro rfl ?_ | refine Exists.intro _ (And.intro rfl (And.intro (Nat.le_of_ble_eq_true rfl) ?_)) | refine Exists.intro _ (And.intro (DW.modD_ok (by omega)) ?_) | refine Exists.intro _ (And.intro (DW.divD_ok (by omega) (by omega)) ?_) | refine Exists.intro _ (And.intro (DW.mulD_ok (by omega)) ?_) | refine Exists.intro _ (And.intro (DW.ix_ps (by omega) (by omega)) ?_) | refine Exists.intro _ (And.intro (DW.eqS_ok (by assumption) (by decide +kernel)) ?_) | refine And.intro (Nat.le_of_ble_eq_true rfl) ?_))
              refine Exists.intro _ (And.intro (cutD_hi (by omega) (by omega)) ?_)
              have hlen : (ys.take at_.toNat ++ [z]).length + (ys.drop (at_ + 1).toNat).length ≤ L + 1 := by
                have := tk at_.toNat
                have := dr (at_ + 1).toNat
                simp only [List.length_append, List.length_cons, List.length_nil]
                omega
              refine Exists.intro _ (And.intro (addT_ok (Nat.le_trans hlen (by omega))) ?_)
              refine h _ x y (.tup (d := e + 1) (by rw [List.length_append]; exact hlen) fun w hw => ?_) hx hy hy2
              rcases List.mem_append.mp hw with q | q
              · rcases List.mem_append.mp q with q | q
                · exact it q
                · rw [List.mem_singleton.mp q]; exact hz
              · exact id q
        · exact leaf
    | none => (iterate 3 (first | refine Exists.intro _ (And.intro DW.lenP_ok ?_) | refine Exists.intro _ (And.intro DW.lenT_ok ?_) | refine Exists.intro _ (And.intro DW.lenL_ok ?_) | refine Exists.intro _ (And.intro rfl ?_) | refine Exists.intro _ (Exists.intro _ (And.intro rfl ?_)) | refine Exists.intro _ (Exists.intro _ (And.intro rfl (And.intro rfl ?_))) | refine And.intro rfl ?_ | refine Exists.intro _ (And.intro rfl (And.intro (Nat.le_of_ble_eq_true rfl) ?_)) | refine Exists.intro _ (And.intro (DW.modD_ok (by omega)) ?_) | refine Exists.intro _ (And.intro (DW.divD_ok (by omega) (by omega)) ?_) | refine Exists.intro _ (And.intro (DW.mulD_ok (by omega)) ?_) | refine Exists.intro _ (And.intro (DW.ix_ps (by omega) (by omega)) ?_) | refine Exists.intro _ (And.intro (DW.eqS_ok (by assumption) (by decide +kernel)) ?_) | refine And.intro (Nat.le_of_ble_eq_true rfl) ?_)); exact leaf
    | bool b => (iterate 3 (first | refine Exists.intro _ (And.intro DW.lenP_ok ?_) | refine Exists.intro _ (And.intro DW.lenT_ok ?_) | refine Exists.intro _ (And.intro DW.lenL_ok ?_) | refine Exists.intro _ (And.intro rfl ?_) | refine Exists.intro _ (Exists.intro _ (And.intro rfl ?_)) | refine Exists.intro _ (Exists.intro _ (And.intro rfl (And.intro rfl ?_))) | refine And.intro rfl ?_ | refine Exists.intro _ (And.intro rfl (And.intro (Nat.le_of_ble_eq_true rfl) ?_)) | refine Exists.intro _ (And.intro (DW.modD_ok (by omega)) ?_) | refine Exists.intro _ (And.intro (DW.divD_ok (by omega) (by omega)) ?_) | refine Exists.intro _ (And.intro (DW.mulD_ok (by omega)) ?_) | refine Exists.intro _ (And.intro (DW.ix_ps (by omega) (by omega)) ?_) | refine Exists.intro _ (And.intro (DW.eqS_ok (by assumption) (by decide +kernel)) ?_) | refine And.intro (Nat.le_of_ble_eq_true rfl) ?_)); exact leaf
    | int b => (iterate 3 (first | refine Exists.intro _ (And.intro DW.lenP_ok ?_) | refine Exists.intro _ (And.intro DW.lenT_ok ?_) | refine Exists.intro _ (And.intro DW.lenL_ok ?_) | refine Exists.intro _ (And.intro rfl ?_) | refine Exists.intro _ (Exists.intro _ (And.intro rfl ?_)) | refine Exists.intro _ (Exists.intro _ (And.intro rfl (And.intro rfl ?_))) | refine And.intro rfl ?_ | refine Exists.intro _ (And.intro rfl (And.intro (Nat.le_of_ble_eq_true rfl) ?_)) | refine Exists.intro _ (And.intro (DW.modD_ok (by omega)) ?_) | refine Exists.intro _ (And.intro (DW.divD_ok (by omega) (by omega)) ?_) | refine Exists.intro _ (And.intro (DW.mulD_ok (by omega)) ?_) | refine Exists.intro _ (And.intro (DW.ix_ps (by omega) (by omega)) ?_) | refine Exists.intro _ (And.intro (DW.eqS_ok (by assumption) (by decide +kernel)) ?_) | refine And.intro (Nat.le_of_ble_eq_true rfl) ?_)); exact leaf
    | str b => (iterate 3 (first | refine Exists.intro _ (And.intro DW.lenP_ok ?_) | refine Exists.intro _ (And.intro DW.lenT_ok ?_) | refine Exists.intro _ (And.intro DW.lenL_ok ?_) | refine Exists.intro _ (And.intro rfl ?_) | refine Exists.intro _ (Exists.intro _ (And.intro rfl ?_)) | refine Exists.intro _ (Exists.intro _ (And.intro rfl (And.intro rfl ?_))) | refine And.intro rfl ?_ | refine Exists.intro _ (And.intro rfl (And.intro (Nat.le_of_ble_eq_true rfl) ?_)) | refine Exists.intro _ (And.intro (DW.modD_ok (by omega)) ?_) | refine Exists.intro _ (And.intro (DW.divD_ok (by omega) (by omega)) ?_) | refine Exists.intro _ (And.intro (DW.mulD_ok (by omega)) ?_) | refine Exists.intro _ (And.intro (DW.ix_ps (by omega) (by omega)) ?_) | refine Exists.intro _ (And.intro (DW.eqS_ok (by assumption) (by decide +kernel)) ?_) | refine And.intro (Nat.le_of_ble_eq_true rfl) ?_)); exact leaf
    | list b => (iterate 3 (first | refine Exists.intro _ (And.intro DW.lenP_ok ?_) | refine Exists.intro _ (And.intro DW.lenT_ok ?_) | refine Exists.intro _ (And.intro DW.lenL_ok ?_) | refine Exists.intro _ (And.intro rfl ?_) | refine Exists.intro _ (Exists.intro _ (And.intro rfl ?_)) | refine Exists.intro _ (Exists.intro _ (And.intro rfl (And.intro rfl ?_))) | refine And.intro rfl ?_ | refine Exists.intro _ (And.intro rfl (And.intro (Nat.le_of_ble_eq_true rfl) ?_)) | refine Exists.intro _ (And.intro (DW.modD_ok (by omega)) ?_) | refine Exists.intro _ (And.intro (DW.divD_ok (by omega) (by omega)) ?_) | refine Exists.intro _ (And.intro (DW.mulD_ok (by omega)) ?_) | refine Exists.intro _ (And.intro (DW.ix_ps (by omega) (by omega)) ?_) | refine Exists.intro _ (And.intro (DW.eqS_ok (by assumption) (by decide +kernel)) ?_) | refine And.intro (Nat.le_of_ble_eq_true rfl) ?_)); exact leaf
    | dict b => have := hv.flat; cases this
end
end Lw

set_option maxRecDepth 100000
set_option maxHeartbeats 1000000
set_option synthInstance.maxSize 1000000
set_option synthInstance.maxHeartbeats 0
set_option linter.all false
set_option pp.maxSteps 400
namespace Lw
open PySem L2 DW
/-! M01W: is_offer of a value. -/
abbrev io0 : DS := (ifS (orW (notW (testW (callW F_is_tuple (consA (varW 0) (consA (cW (.int 2)) (consA (cW (.int 2)) nilA)))))) (orW (notW (testW (callW F_is_tuple (consA (op2W ixD (varW 0) (cW (.int 0))) (consA (cW (.int 1)) (consA (cW (.int 3)) nilA)))))) (notW (testW (callW F_is_tuple (consA (op2W ixD (varW 0) (cW (.int 1))) (consA (cW (.int 1)) (consA (cW (.int 3)) nilA)))))))) (seqS (retS (cW (.bool false))) nextS) nextS)
abbrev io1 : DS := (ifS (orW (notW (testW (callNW allD (consA (lcW (seqI (op2W ixD (varW 0) (cW (.int 0)))) (bindN 3) yesT (callW F_is_from (consA (varW 3) (consA (cW (.int 1)) (consA (cW (.int 30)) nilA)))) [3]) nilA)))) (notW (testW (callNW allD (consA (lcW (seqI (op2W ixD (varW 0) (cW (.int 1)))) (bindN 1) yesT (callW F_is_from (consA (varW 1) (consA (cW (.int 2)) (consA (cW (.int 6)) nilA)))) [1]) nilA))))) (seqS (retS (cW (.bool false))) nextS) nextS)
abbrev io2 : DS := (retS (callNW allD (consA (lcW (zipI (op2W ixD (varW 0) (cW (.int 0))) (sliceW (op2W ixD (varW 0) (cW (.int 0))) (partW (cW (.int 1))) noPartW)) (bindT [1, 2]) yesT (op2W ltD (varW 1) (varW 2)) [1, 2]) nilA)))
theorem io_eq : w_is_offer = (seqS io0 (seqS io1 (seqS io2 nextS))) := rfl
def in3 (lo hi : Int) : PyData → Bool
  | .tuple xs => (decide (1 ≤ (xs.length : Int)) && decide ((xs.length : Int) ≤ 3)) && xs.all (fromB lo hi)
  | _ => false
def upB : PyData → Bool
  | .tuple [_] => true
  | .tuple [.int a, .int b] => decide (a < b)
  | .tuple [.int a, .int b, .int c] => decide (a < b) && decide (b < c)
  | _ => false
def offB : PyData → Bool
  | .tuple [a, b] => in3 1 30 a && (in3 2 6 b && upB a)
  | _ => false
theorem tup2 {v : PyData} (h : tupB 2 2 v = true) : ∃ a b, v = .tuple [a, b] := by
  cases v with
  | tuple xs =>
    obtain ⟨h1, h2⟩ := two (show (decide ((2 : Int) ≤ xs.length) && decide ((xs.length : Int) ≤ 2)) = true from h)
    have h1 := of_decide_eq_true h1
    have h2 := of_decide_eq_true h2
    match xs, h1, h2 with
    | [a, b], _, _ => exact ⟨a, b, rfl⟩
    | [], h1, _ => simp at h1
    | [_], h1, _ => simp at h1
    | _ :: _ :: _ :: _, _, h2 => simp at h2; omega
  | _ => cases h
theorem off_2 {v : PyData} (h : tupB 2 2 v = false) : offB v = false := by
  cases v with
  | tuple xs =>
    match xs with
    | [a, b] => cases h
    | [] => rfl
    | [_] => rfl
    | _ :: _ :: _ :: _ => rfl
  | _ => rfl
theorem in3_tup {lo hi : Int} {v : PyData} (h : tupB 1 3 v = false) : in3 lo hi v = false := by
  cases v with
  | tuple xs =>
    show (_ && xs.all (fromB lo hi)) = false
    rw [show (decide (1 ≤ (xs.length : Int)) && decide ((xs.length : Int) ≤ 3)) = false from h]
    rfl
  | _ => rfl
theorem in3_of {lo hi : Int} {v : PyData} (h : tupB 1 3 v = true) : ∃ xs, v = .tuple xs ∧ 1 ≤ xs.length ∧ xs.length ≤ 3 ∧ in3 lo hi v = xs.all (fromB lo hi) := by
  cases v with
  | tuple xs =>
    refine ⟨xs, rfl, ?_, ?_, ?_⟩
    · have := of_decide_eq_true (two h).1; omega
    · have := of_decide_eq_true (two h).2; omega
    · show ((decide (1 ≤ (xs.length : Int)) && decide ((xs.length : Int) ≤ 3)) && xs.all (fromB lo hi)) = _
      rw [show (decide (1 ≤ (xs.length : Int)) && decide ((xs.length : Int) ≤ 3)) = true from h]
      rfl
  | _ => cases h
theorem ints_of_from {lo hi : Int} : ∀ {xs : List PyData}, xs.all (fromB lo hi) = true → ∃ ns : List Int, xs = ns.map .int ∧ ∀ n ∈ ns, lo ≤ n ∧ n ≤ hi
  | [], _ => ⟨[], rfl, fun _ h => nomatch h⟩
  | x :: r, h => by
    obtain ⟨h1, h2⟩ := two (show (fromB lo hi x && r.all (fromB lo hi)) = true from h)
    obtain ⟨ns, rfl, q⟩ := ints_of_from h2
    obtain ⟨i, rfl, q1, q2⟩ := from_int h1
    exact ⟨i :: ns, rfl, fun n hn => by
      rcases List.mem_cons.mp hn with rfl | hn
      · exact ⟨q1, q2⟩
      · exact q n hn⟩
theorem lc_fromB {v : Nat} {lo hi : Int} {env0 : DEnv} {S : Sto} (hv : v < env0.length) : ∀ (xs acc : List PyData) (kk : List PyData → Sto → Prop), (∀ x ∈ xs, flat5 x = true) → xs.length + acc.length ≤ 1000000 → kk (acc ++ xs.map fun x => .bool (fromB lo hi x)) S →
    lcL (bindN v) yesT (callW F_is_from (consA (varW v) (consA (cW (.int lo)) (consA (cW (.int hi)) nilA)))) env0 (xs.map .d) acc S kk
  | [], acc, kk, _, _, h => by
    show kk acc S
    simpa using h
  | x :: r, acc, kk, hx, hl, h => by
    refine Exists.intro _ (And.intro rfl ?_)
    have g : (env0.set v (some (.d x)))[v]? = some (some (.d x)) := by rw [List.getElem?_set]; simp [hv]
    refine Exists.intro _ (And.intro g ?_)
    refine And.intro (DW.nodB_ok rfl) ?_
    refine Exists.intro _ (And.intro rfl ?_)
    refine q_from (hx x List.mem_cons_self) (res_0 ?_)
    refine Exists.intro _ (And.intro rfl (And.intro (by simp at hl; omega) ?_))
    refine lc_fromB hv r _ kk (fun y hy => hx y (List.mem_cons_of_mem _ hy)) (by simp at hl ⊢; omega) ?_
    simpa using h
theorem all_B {α : Type} (f : α → Bool) (xs : List α) {S : Sto} : allD [.d (.list (xs.map fun x => .bool (f x)))] S = some (.d (.bool (xs.all f))) := by
  have e : ∀ ys : List α, boolsD (ys.map fun x => PyData.bool (f x)) = some (ys.map f) := fun ys => by
    induction ys with
    | nil => rfl
    | cons y r ih => simp [boolsD, ih]
  show (match boolsD (xs.map fun x => PyData.bool (f x)) with | o => o.map fun bs => DV.d (.bool (bs.all id))) = _
  rw [e]
  simp
section
variable {k : DK} {kx : DX}
abbrev oE (v : PyData) (x1 x2 x3 : Option DV) : DEnv := [some (.d v), x1, x2, x3]
theorem io0_bad {v : PyData} (hv : flat5 v = true) (hb : tupB 2 2 v = false) {D : DEnds} (h : D.rt (.d (.bool false)) []) : io0 (oE v none none none) [] D := by
  refine Exists.intro _ (And.intro rfl ?_)
  refine And.intro (DW.nodB_ok rfl) ?_
  refine Exists.intro _ (And.intro rfl ?_)
  refine q_tupB hv (res_0 ?_)
  rw [hb]
  refine Exists.intro _ (And.intro rfl ?_)
  refine r_t ?_
  refine r_t ?_
  exact h
theorem io0_ok {a b : PyData} (ha : flat5 a = true) (hb : flat5 b = true) {D : DEnds} (hr : (tupB 1 3 a && tupB 1 3 b) = false → D.rt (.d (.bool false)) []) (hn : tupB 1 3 a = true → tupB 1 3 b = true → D.nx (oE (.tuple [a, b]) none none none) []) :
    io0 (oE (.tuple [a, b]) none none none) [] D := by
  refine Exists.intro _ (And.intro rfl ?_)
  refine And.intro (DW.nodB_ok rfl) ?_
  refine Exists.intro _ (And.intro rfl ?_)
  refine q_tup (res_0 ?_)
  refine Exists.intro _ (And.intro rfl ?_)
  refine r_f ?_
  refine Exists.intro _ (And.intro rfl ?_)
  refine Exists.intro _ (And.intro rfl ?_)
  refine And.intro (DW.nodB_ok rfl) ?_
  refine Exists.intro _ (And.intro rfl ?_)
  refine q_tupB ha (res_0 ?_)
  cases qa : tupB 1 3 a with
  | false =>
    refine Exists.intro _ (And.intro rfl ?_)
    refine r_t ?_
    refine r_t ?_
    exact hr (by rw [qa]; rfl)
  | true =>
    refine Exists.intro _ (And.intro rfl ?_)
    refine r_f ?_
    refine Exists.intro _ (And.intro rfl ?_)
    refine Exists.intro _ (And.intro rfl ?_)
    refine And.intro (DW.nodB_ok rfl) ?_
    refine Exists.intro _ (And.intro rfl ?_)
    refine q_tupB hb (res_0 ?_)
    cases qb : tupB 1 3 b with
    | false =>
      refine Exists.intro _ (And.intro rfl ?_)
      refine r_t ?_
      exact hr (by rw [qa, qb]; rfl)
    | true =>
      refine Exists.intro _ (And.intro rfl ?_)
      refine r_f ?_
      exact hn qa qb
theorem io1_ok {as bs : List PyData} (ha : ∀ x ∈ as, flat5 x = true) (hb : ∀ x ∈ bs, flat5 x = true) (la : as.length ≤ 3) (lb : bs.length ≤ 3) {D : DEnds} (hr : (as.all (fromB 1 30) && bs.all (fromB 2 6)) = false → D.rt (.d (.bool false)) [])
    (hn : as.all (fromB 1 30) = true → bs.all (fromB 2 6) = true → D.nx (oE (.tuple [.tuple as, .tuple bs]) none none none) []) :
    io1 (oE (.tuple [.tuple as, .tuple bs]) none none none) [] D := by
  refine Exists.intro _ (And.intro rfl ?_)
  refine Exists.intro _ (And.intro rfl ?_)
  refine And.intro trivial ?_
  refine Exists.intro _ (Exists.intro _ (And.intro rfl ?_))
  refine lc_fromB (show 3 < 4 by decide) as [] _ ha (by simp; omega) ?_
  rw [List.nil_append]
  refine Exists.intro _ (And.intro (all_B _ as) ?_)
  cases qa : as.all (fromB 1 30) with
  | false =>
    refine Exists.intro _ (And.intro rfl ?_)
    refine r_t ?_
    refine r_t ?_
    exact hr (by rw [qa]; rfl)
  | true =>
    refine Exists.intro _ (And.intro rfl ?_)
    refine r_f ?_
    refine Exists.intro _ (And.intro rfl ?_)
    refine Exists.intro _ (And.intro rfl ?_)
    refine And.intro trivial ?_
    refine Exists.intro _ (Exists.intro _ (And.intro rfl ?_))
    refine lc_fromB (show 1 < 4 by decide) bs [] _ hb (by simp; omega) ?_
    rw [List.nil_append]
    refine Exists.intro _ (And.intro (all_B _ bs) ?_)
    cases qb : bs.all (fromB 2 6) with
    | false =>
      refine Exists.intro _ (And.intro rfl ?_)
      refine r_t ?_
      exact hr (by rw [qa, qb]; rfl)
    | true =>
      refine Exists.intro _ (And.intro rfl ?_)
      refine r_f ?_
      exact hn qa qb
theorem io2_ok {ps : List Int} {b : PyData} (l1 : 1 ≤ ps.length) (l3 : ps.length ≤ 3) {D : DEnds} (h : D.rt (.d (.bool (upB (.tuple (ps.map .int))))) []) : io2 (oE (.tuple [.tuple (ps.map .int), b]) none none none) [] D := by
  match ps, l1, l3 with
  | [a], _, _ =>
    (repeat first | refine Exists.intro _ (And.intro DW.lenP_ok ?_) | refine Exists.intro _ (And.intro DW.lenT_ok ?_) | refine Exists.intro _ (And.intro DW.lenL_ok ?_) | refine Exists.intro _ (And.intro rfl ?_) | refine Exists.intro _ (Exists.intro _ (And.intro rfl ?_)) | refine Exists.intro _ (Exists.intro _ (And.intro rfl (And.intro rfl ?_))) | refine And.intro rfl ?_ | refine Exists.intro _ (And.intro rfl (And.intro (Nat.le_of_ble_eq_true rfl) ?_)) | refine Exists.intro _ (And.intro (DW.modD_ok (by omega)) ?_) | refine Exists.intro _ (And.intro (DW.divD_ok (by omega) (by omega)) ?_) | refine Exists.intro _ (And.intro (DW.mulD_ok (by omega)) ?_) | refine Exists.intro _ (And.intro (DW.ix_ps (by omega) (by omega)) ?_) | refine Exists.intro _ (And.intro (DW.eqS_ok (by assumption) (by decide +kernel)) ?_) | refine And.intro (Nat.le_of_ble_eq_true rfl) ?_)
    refine And.intro trivial (And.intro trivial ?_)
    refine Exists.intro _ (Exists.intro _ (Exists.intro _ (And.intro rfl (And.intro rfl ?_))))
    (repeat first | refine Exists.intro _ (And.intro DW.lenP_ok ?_) | refine Exists.intro _ (And.intro DW.lenT_ok ?_) | refine Exists.intro _ (And.intro DW.lenL_ok ?_) | refine Exists.intro _ (And.intro rfl ?_) | refine Exists.intro _ (Exists.intro _ (And.intro rfl ?_)) | refine Exists.intro _ (Exists.intro _ (And.intro rfl (And.intro rfl ?_))) | refine And.intro rfl ?_ | refine Exists.intro _ (And.intro rfl (And.intro (Nat.le_of_ble_eq_true rfl) ?_)) | refine Exists.intro _ (And.intro (DW.modD_ok (by omega)) ?_) | refine Exists.intro _ (And.intro (DW.divD_ok (by omega) (by omega)) ?_) | refine Exists.intro _ (And.intro (DW.mulD_ok (by omega)) ?_) | refine Exists.intro _ (And.intro (DW.ix_ps (by omega) (by omega)) ?_) | refine Exists.intro _ (And.intro (DW.eqS_ok (by assumption) (by decide +kernel)) ?_) | refine And.intro (Nat.le_of_ble_eq_true rfl) ?_)
    exact h
  | [a, b], _, _ =>
    (repeat first | refine Exists.intro _ (And.intro DW.lenP_ok ?_) | refine Exists.intro _ (And.intro DW.lenT_ok ?_) | refine Exists.intro _ (And.intro DW.lenL_ok ?_) | refine Exists.intro _ (And.intro rfl ?_) | refine Exists.intro _ (Exists.intro _ (And.intro rfl ?_)) | refine Exists.intro _ (Exists.intro _ (And.intro rfl (And.intro rfl ?_))) | refine And.intro rfl ?_ | refine Exists.intro _ (And.intro rfl (And.intro (Nat.le_of_ble_eq_true rfl) ?_)) | refine Exists.intro _ (And.intro (DW.modD_ok (by omega)) ?_) | refine Exists.intro _ (And.intro (DW.divD_ok (by omega) (by omega)) ?_) | refine Exists.intro _ (And.intro (DW.mulD_ok (by omega)) ?_) | refine Exists.intro _ (And.intro (DW.ix_ps (by omega) (by omega)) ?_) | refine Exists.intro _ (And.intro (DW.eqS_ok (by assumption) (by decide +kernel)) ?_) | refine And.intro (Nat.le_of_ble_eq_true rfl) ?_)
    refine And.intro trivial (And.intro trivial ?_)
    refine Exists.intro _ (Exists.intro _ (Exists.intro _ (And.intro rfl (And.intro rfl ?_))))
    (repeat first | refine Exists.intro _ (And.intro DW.lenP_ok ?_) | refine Exists.intro _ (And.intro DW.lenT_ok ?_) | refine Exists.intro _ (And.intro DW.lenL_ok ?_) | refine Exists.intro _ (And.intro rfl ?_) | refine Exists.intro _ (Exists.intro _ (And.intro rfl ?_)) | refine Exists.intro _ (Exists.intro _ (And.intro rfl (And.intro rfl ?_))) | refine And.intro rfl ?_ | refine Exists.intro _ (And.intro rfl (And.intro (Nat.le_of_ble_eq_true rfl) ?_)) | refine Exists.intro _ (And.intro (DW.modD_ok (by omega)) ?_) | refine Exists.intro _ (And.intro (DW.divD_ok (by omega) (by omega)) ?_) | refine Exists.intro _ (And.intro (DW.mulD_ok (by omega)) ?_) | refine Exists.intro _ (And.intro (DW.ix_ps (by omega) (by omega)) ?_) | refine Exists.intro _ (And.intro (DW.eqS_ok (by assumption) (by decide +kernel)) ?_) | refine And.intro (Nat.le_of_ble_eq_true rfl) ?_)
    show D.rt (.d (.bool ([decide (a < b)].all id))) []
    rw [show ([decide (a < b)].all id) = decide (a < b) by simp]
    exact h
  | [a, b, c], _, _ =>
    (repeat first | refine Exists.intro _ (And.intro DW.lenP_ok ?_) | refine Exists.intro _ (And.intro DW.lenT_ok ?_) | refine Exists.intro _ (And.intro DW.lenL_ok ?_) | refine Exists.intro _ (And.intro rfl ?_) | refine Exists.intro _ (Exists.intro _ (And.intro rfl ?_)) | refine Exists.intro _ (Exists.intro _ (And.intro rfl (And.intro rfl ?_))) | refine And.intro rfl ?_ | refine Exists.intro _ (And.intro rfl (And.intro (Nat.le_of_ble_eq_true rfl) ?_)) | refine Exists.intro _ (And.intro (DW.modD_ok (by omega)) ?_) | refine Exists.intro _ (And.intro (DW.divD_ok (by omega) (by omega)) ?_) | refine Exists.intro _ (And.intro (DW.mulD_ok (by omega)) ?_) | refine Exists.intro _ (And.intro (DW.ix_ps (by omega) (by omega)) ?_) | refine Exists.intro _ (And.intro (DW.eqS_ok (by assumption) (by decide +kernel)) ?_) | refine And.intro (Nat.le_of_ble_eq_true rfl) ?_)
    refine And.intro trivial (And.intro trivial ?_)
    refine Exists.intro _ (Exists.intro _ (Exists.intro _ (And.intro rfl (And.intro rfl ?_))))
    (repeat first | refine Exists.intro _ (And.intro DW.lenP_ok ?_) | refine Exists.intro _ (And.intro DW.lenT_ok ?_) | refine Exists.intro _ (And.intro DW.lenL_ok ?_) | refine Exists.intro _ (And.intro rfl ?_) | refine Exists.intro _ (Exists.intro _ (And.intro rfl ?_)) | refine Exists.intro _ (Exists.intro _ (And.intro rfl (And.intro rfl ?_))) | refine And.intro rfl ?_ | refine Exists.intro _ (And.intro rfl (And.intro (Nat.le_of_ble_eq_true rfl) ?_)) | refine Exists.intro _ (And.intro (DW.modD_ok (by omega)) ?_) | refine Exists.intro _ (And.intro (DW.divD_ok (by omega) (by omega)) ?_) | refine Exists.intro _ (And.intro (DW.mulD_ok (by omega)) ?_) | refine Exists.intro _ (And.intro (DW.ix_ps (by omega) (by omega)) ?_) | refine Exists.intro _ (And.intro (DW.eqS_ok (by assumption) (by decide +kernel)) ?_) | refine And.intro (Nat.le_of_ble_eq_true rfl) ?_)
    show D.rt (.d (.bool ([decide (a < b), decide (b < c)].all id))) []
    rw [show ([decide (a < b), decide (b < c)].all id) = (decide (a < b) && decide (b < c)) by simp]
    exact h
theorem q_is_offer {d L : Nat} {v : PyData} (hv : Vl d L v) (h : k (.d (.bool (offB v))) []) : F_is_offer [.d v] [] k kx := by
  show w_is_offer (oE v none none none) [] (fE k kx)
  rw [io_eq]
  cases hb : tupB 2 2 v with
  | false =>
    refine io0_bad hv.flat hb ?_
    rw [off_2 hb] at h
    exact h
  | true =>
    obtain ⟨a, b, rfl⟩ := tup2 hb
    obtain ⟨e, rfl, -, hi⟩ := hv.items
    have va := hi a (by simp)
    have vb := hi b (by simp)
    refine io0_ok va.flat vb.flat (fun q => ?_) fun qa qb => ?_
    · have : offB (.tuple [a, b]) = false := by
        show (in3 1 30 a && (in3 2 6 b && upB a)) = false
        cases qa : tupB 1 3 a with
        | false => rw [in3_tup qa]; rfl
        | true =>
          rw [qa] at q
          rw [in3_tup (show tupB 1 3 b = false from q)]
          simp
      rw [this] at h
      exact h
    · obtain ⟨as, rfl, a1, a3, ea⟩ := in3_of (lo := 1) (hi := 30) qa
      obtain ⟨bs, rfl, b1, b3, eb⟩ := in3_of (lo := 2) (hi := 6) qb
      have ho : offB (.tuple [.tuple as, .tuple bs]) = (as.all (fromB 1 30) && (bs.all (fromB 2 6) && upB (.tuple as))) := by
        show (in3 1 30 (.tuple as) && (in3 2 6 (.tuple bs) && upB (.tuple as))) = _
        rw [ea, eb]
      rw [ho] at h
      obtain ⟨_, -, -, ia⟩ := va.items
      obtain ⟨_, -, -, ib⟩ := vb.items
      refine io1_ok (fun x hx => (ia x hx).flat) (fun x hx => (ib x hx).flat) a3 b3 (fun q => ?_) fun fa fb => ?_
      · have : (as.all (fromB 1 30) && (bs.all (fromB 2 6) && upB (.tuple as))) = false := by
          rw [← Bool.and_assoc, q]; rfl
        rw [this] at h
        exact h
      · rw [fa, fb] at h
        obtain ⟨ps, rfl, -⟩ := ints_of_from fa
        refine io2_ok (by simpa using a1) (by simpa using a3) ?_
        exact h
end
end Lw

set_option maxRecDepth 100000
set_option maxHeartbeats 1000000
set_option synthInstance.maxSize 1000000
set_option synthInstance.maxHeartbeats 0
set_option linter.all false
set_option pp.maxSteps 400
namespace Lw
open PySem L2 DW
/-! M01X: _law_is_offer of a value. -/
abbrev lo0 : DS := (ifS (orW (notW (testW (op1W (isiD .tuple) (varW 0)))) (testW (op2W neD (callNW lenD (consA (varW 0) nilA)) (cW (.int 2))))) (seqS (retS (cW (.bool false))) nextS) nextS)
abbrev lo2 : DS := (retS (op2W eqD (callNW listD (consA (op2W ixD (varW 0) (cW (.int 0))) nilA)) (KS.sortSetW (op2W ixD (varW 0) (cW (.int 0))))))
abbrev lob0 : DS := (ifS (orW (notW (testW (op1W (isiD .tuple) (op2W ixD (varW 0) (varW 1))))) (notW (testW (chainW leD leD (cW (.int 1)) (callNW lenD (consA (op2W ixD (varW 0) (varW 1)) nilA)) (cW (.int 3)))))) (seqS (retS (cW (.bool false))) nextS) nextS)
abbrev lob1 : DS := (ifS (testW (op2W neD (lcW (seqI (op2W ixD (varW 0) (varW 1))) (bindN 4) (notW (testW (callW F_law_from (consA (varW 4) (consA (varW 2) (consA (varW 3) nilA)))))) (varW 4) [4]) (lstW nilA))) (seqS (retS (cW (.bool false))) nextS) nextS)
theorem lo_eq : w_law_is_offer = (seqS lo0 (seqS (forS (enumI (lstW (consA (tupW (consA (cW (.int 1)) (consA (cW (.int 30)) nilA))) (consA (tupW (consA (cW (.int 2)) (consA (cW (.int 6)) nilA))) nilA)))) (tupG 2 (consGs (nameG 1) (consGs (tupG 2 (consGs (nameG 2) (consGs (nameG 3) nilGs))) nilGs))) (seqS lob0 (seqS lob1 nextS))) (seqS lo2 nextS))) := rfl
theorem ne_nil {l : List PyData} {S : Sto} (hs : SeqAt.shaped (.list l) = true) : neD (.d (.list l)) (.d (.list [])) S = some (.d (.bool (!l.isEmpty))) := by
  show (if SeqAt.shaped (.list l) = true ∧ SeqAt.shaped (.list []) = true then some (DV.d (.bool (!PyData.eqv (.list l) (.list [])))) else none) = _
  rw [if_pos ⟨hs, by decide⟩]
  cases l <;> simp [PyData.eqv, PyData.eqvAll]
theorem sh_list {xs : List PyData} {n : Nat} (h : ∀ x ∈ xs, PyData.canLay0 x = true ∧ PyData.depth x ≤ n) (hn : n ≤ 60) : SeqAt.shaped (.list xs) = true := by
  unfold SeqAt.shaped
  have h1 : PyData.canLay0 (.list xs) = true := lay_all fun x hx => (h x hx).1
  have h2 : PyData.depth (.list xs) ≤ n + 1 := by
    show PyData.depthAll xs + 1 ≤ n + 1
    have := depth_all fun x hx => (h x hx).2
    omega
  rw [h1, decide_eq_true (show PyData.depth (.list xs) ≤ 64 by omega)]
  rfl
theorem eqv_ints : ∀ xs ys : List Int, PyData.eqvAll (xs.map .int) (ys.map .int) = decide (xs = ys)
  | [], [] => by simp [PyData.eqvAll]
  | [], _ :: _ => by simp [PyData.eqvAll]
  | _ :: _, [] => by simp [PyData.eqvAll]
  | x :: xs, y :: ys => by
    show (PyData.eqv (.int x) (.int y) && PyData.eqvAll (xs.map .int) (ys.map .int)) = _
    rw [eqv_ints xs ys]
    by_cases h : x = y <;> simp [PyData.eqv, h]
theorem eq_ints {xs ys : List Int} {S : Sto} : eqD (.d (.list (xs.map .int))) (.d (.list (ys.map .int))) S = some (.d (.bool (decide (xs = ys)))) := by
  have sh : ∀ zs : List Int, SeqAt.shaped (.list (zs.map .int)) = true := fun zs => sh_list (n := 0) (fun x hx => by
    obtain ⟨i, _, rfl⟩ := List.mem_map.mp hx
    exact ⟨rfl, by simp [PyData.depth]⟩) (by omega)
  show (if SeqAt.shaped (.list (xs.map .int)) = true ∧ SeqAt.shaped (.list (ys.map .int)) = true then some (DV.d (.bool (PyData.eqvAll (xs.map .int) (ys.map .int)))) else none) = _
  rw [if_pos ⟨sh xs, sh ys⟩, eqv_ints]
theorem pw_nodup {l : List Int} (h : l.Pairwise (· < ·)) : l.Nodup := h.imp fun h e => by subst e; exact Int.lt_irrefl _ h
theorem pw_eq {l m : List Int} (h1 : l.Pairwise (· < ·)) (h2 : m.Pairwise (· < ·)) (h : ∀ i, i ∈ m ↔ i ∈ l) : l = m :=
  List.Perm.eq_of_pairwise (fun a b _ _ h3 h4 => by omega) h1 h2 ((List.perm_ext_iff_of_nodup (pw_nodup h1) (pw_nodup h2)).mpr fun i => (h i).symm)
theorem up_eq {ps ms : List Int} (l1 : 1 ≤ ps.length) (l3 : ps.length ≤ 3) (hm : ms.Pairwise (· < ·)) (h : ∀ i, i ∈ ms ↔ i ∈ ps) : decide (ps = ms) = upB (.tuple (ps.map .int)) := by
  have e : decide (ps = ms) = decide (ps.Pairwise (· < ·)) := by
    by_cases q : ps.Pairwise (· < ·)
    · rw [decide_eq_true q, decide_eq_true (pw_eq q hm h)]
    · rw [decide_eq_false q, decide_eq_false fun z : ps = ms => q (by rw [z]; exact hm)]
  rw [e]
  match ps, l1, l3 with
  | [a], _, _ => simp [upB]
  | [a, b], _, _ => simp [upB]
  | [a, b, c], _, _ =>
    show _ = (decide (a < b) && decide (b < c))
    by_cases h1 : a < b <;> by_cases h2 : b < c <;> simp [h1, h2]
    omega
theorem lc_not {lo hi : Int} {v : DV} {x1 : Option DV} : ∀ (xs acc : List PyData) (kk : List PyData → Sto → Prop), (∀ x ∈ xs, flat5 x = true) → xs.length + acc.length ≤ 1000000 → kk (acc ++ xs.filter fun x => !fromB lo hi x) [] →
    lcL (bindN 4) (notW (testW (callW F_law_from (consA (varW 4) (consA (varW 2) (consA (varW 3) nilA)))))) (varW 4) [some v, x1, some (iD lo), some (iD hi), none] (xs.map .d) acc [] kk
  | [], acc, kk, _, _, h => by
    show kk acc []
    simpa using h
  | x :: r, acc, kk, hx, hl, h => by
    refine Exists.intro _ (And.intro rfl ?_)
    refine Exists.intro _ (And.intro rfl ?_)
    refine Exists.intro _ (And.intro rfl ?_)
    refine Exists.intro _ (And.intro rfl ?_)
    refine And.intro (DW.nodB_ok rfl) ?_
    refine Exists.intro _ (And.intro rfl ?_)
    refine (show ∀ {k : DK} {kx : DX}, F_is_from [.d x, iD lo, iD hi] [] k kx → F_law_from [.d x, iD lo, iD hi] [] k kx from fun h => h) (q_from (hx x List.mem_cons_self) (res_0 ?_))
    refine Exists.intro _ (And.intro rfl ?_)
    cases q : fromB lo hi x with
    | true =>
      refine r_f ?_
      refine lc_not r acc kk (fun y hy => hx y (List.mem_cons_of_mem _ hy)) (by simp at hl ⊢; omega) ?_
      rw [List.filter_cons_of_neg (by simp [q])] at h
      exact h
    | false =>
      refine r_t ?_
      refine Exists.intro _ (And.intro rfl ?_)
      refine Exists.intro _ (And.intro rfl (And.intro (by simp at hl; omega) ?_))
      refine lc_not r _ kk (fun y hy => hx y (List.mem_cons_of_mem _ hy)) (by simp at hl ⊢; omega) ?_
      rw [List.filter_cons_of_pos (by simp [q])] at h
      simpa using h
theorem not_all {lo hi : Int} : ∀ xs : List PyData, (!(xs.filter fun x => !fromB lo hi x).isEmpty) = !xs.all (fromB lo hi)
  | [] => rfl
  | x :: r => by
    cases q : fromB lo hi x with
    | true => rw [List.filter_cons_of_neg (by simp [q]), not_all r]; simp [q]
    | false => rw [List.filter_cons_of_pos (by simp [q])]; simp [q]
theorem in3_tr {lo hi : Int} {v : PyData} (h : in3 lo hi v = true) : ∃ xs, v = .tuple xs ∧ 1 ≤ xs.length ∧ xs.length ≤ 3 ∧ xs.all (fromB lo hi) = true := by
  cases v with
  | tuple xs =>
    obtain ⟨h1, h2⟩ := two (show ((decide (1 ≤ (xs.length : Int)) && decide ((xs.length : Int) ≤ 3)) && xs.all (fromB lo hi)) = true from h)
    obtain ⟨h3, h4⟩ := two h1
    have h3 := of_decide_eq_true h3
    have h4 := of_decide_eq_true h4
    exact ⟨xs, rfl, by omega, by omega, h2⟩
  | _ => cases h
theorem ne_int {i j : Int} {S : Sto} : neD (.d (.int i)) (.d (.int j)) S = some (.d (.bool (!decide (i = j)))) := by
  show some (DV.d (.bool (!(i == j)))) = _
  by_cases h : i = j <;> simp [h]
theorem tup_len {xs : List PyData} : tupB 2 2 (.tuple xs) = decide ((xs.length : Int) = 2) := by
  show (decide ((2 : Int) ≤ xs.length) && decide ((xs.length : Int) ≤ 2)) = _
  by_cases h1 : (2 : Int) ≤ xs.length <;> by_cases h2 : (xs.length : Int) ≤ 2 <;> simp [h1, h2] <;> omega
section
variable {k : DK} {kx : DX}
abbrev pE (v : PyData) (x1 x2 x3 : Option DV) : DEnv := [some (.d v), x1, x2, x3, none]
theorem lo0_bad {v : PyData} (hv : flat5 v = true) (hb : tupB 2 2 v = false) {D : DEnds} (h : D.rt (.d (.bool false)) []) : lo0 (pE v none none none) [] D := by
  cases v with
  | tuple xs =>
    (iterate 3 (first | refine Exists.intro _ (And.intro DW.lenP_ok ?_) | refine Exists.intro _ (And.intro DW.lenT_ok ?_) | refine Exists.intro _ (And.intro DW.lenL_ok ?_) | refine Exists.intro _ (And.intro rfl ?_) | refine Exists.intro _ (Exists.intro _ (And.intro rfl ?_)) | refine Exists.intro _ (Exists.intro _ (And.intro rfl (And.intro rfl ?_))) | refine And.intro rfl ?_ | refine Exists.intro _ (And.intro rfl (And.intro (Nat.le_of_ble_eq_true rfl) ?_)) | refine Exists.intro _ (And.intro (DW.modD_ok (by omega)) ?_) | refine Exists.intro _ (And.intro (DW.divD_ok (by omega) (by omega)) ?_) | refine Exists.intro _ (And.intro (DW.mulD_ok (by omega)) ?_) | refine Exists.intro _ (And.intro (DW.ix_ps (by omega) (by omega)) ?_) | refine Exists.intro _ (And.intro (DW.eqS_ok (by assumption) (by decide +kernel)) ?_) | refine And.intro (Nat.le_of_ble_eq_true rfl) ?_))
    refine Exists.intro _ (And.intro rfl ?_)
    refine Exists.intro _ (And.intro DW.lenT_ok ?_)
    refine Exists.intro _ (And.intro ne_int ?_)
    rw [tup_len] at hb
    rw [hb]
    refine Exists.intro _ (And.intro rfl ?_)
    refine r_t ?_
    exact h
  | none => (repeat first | refine Exists.intro _ (And.intro DW.lenP_ok ?_) | refine Exists.intro _ (And.intro DW.lenT_ok ?_) | refine Exists.intro _ (And.intro DW.lenL_ok ?_) | refine Exists.intro _ (And.intro rfl ?_) | refine Exists.intro _ (Exists.intro _ (And.intro rfl ?_)) | refine Exists.intro _ (Exists.intro _ (And.intro rfl (And.intro rfl ?_))) | refine And.intro rfl ?_ | refine Exists.intro _ (And.intro rfl (And.intro (Nat.le_of_ble_eq_true rfl) ?_)) | refine Exists.intro _ (And.intro (DW.modD_ok (by omega)) ?_) | refine Exists.intro _ (And.intro (DW.divD_ok (by omega) (by omega)) ?_) | refine Exists.intro _ (And.intro (DW.mulD_ok (by omega)) ?_) | refine Exists.intro _ (And.intro (DW.ix_ps (by omega) (by omega)) ?_) | refine Exists.intro _ (And.intro (DW.eqS_ok (by assumption) (by decide +kernel)) ?_) | refine And.intro (Nat.le_of_ble_eq_true rfl) ?_); exact h
  | bool b => (repeat first | refine Exists.intro _ (And.intro DW.lenP_ok ?_) | refine Exists.intro _ (And.intro DW.lenT_ok ?_) | refine Exists.intro _ (And.intro DW.lenL_ok ?_) | refine Exists.intro _ (And.intro rfl ?_) | refine Exists.intro _ (Exists.intro _ (And.intro rfl ?_)) | refine Exists.intro _ (Exists.intro _ (And.intro rfl (And.intro rfl ?_))) | refine And.intro rfl ?_ | refine Exists.intro _ (And.intro rfl (And.intro (Nat.le_of_ble_eq_true rfl) ?_)) | refine Exists.intro _ (And.intro (DW.modD_ok (by omega)) ?_) | refine Exists.intro _ (And.intro (DW.divD_ok (by omega) (by omega)) ?_) | refine Exists.intro _ (And.intro (DW.mulD_ok (by omega)) ?_) | refine Exists.intro _ (And.intro (DW.ix_ps (by omega) (by omega)) ?_) | refine Exists.intro _ (And.intro (DW.eqS_ok (by assumption) (by decide +kernel)) ?_) | refine And.intro (Nat.le_of_ble_eq_true rfl) ?_); exact h
  | int b => (repeat first | refine Exists.intro _ (And.intro DW.lenP_ok ?_) | refine Exists.intro _ (And.intro DW.lenT_ok ?_) | refine Exists.intro _ (And.intro DW.lenL_ok ?_) | refine Exists.intro _ (And.intro rfl ?_) | refine Exists.intro _ (Exists.intro _ (And.intro rfl ?_)) | refine Exists.intro _ (Exists.intro _ (And.intro rfl (And.intro rfl ?_))) | refine And.intro rfl ?_ | refine Exists.intro _ (And.intro rfl (And.intro (Nat.le_of_ble_eq_true rfl) ?_)) | refine Exists.intro _ (And.intro (DW.modD_ok (by omega)) ?_) | refine Exists.intro _ (And.intro (DW.divD_ok (by omega) (by omega)) ?_) | refine Exists.intro _ (And.intro (DW.mulD_ok (by omega)) ?_) | refine Exists.intro _ (And.intro (DW.ix_ps (by omega) (by omega)) ?_) | refine Exists.intro _ (And.intro (DW.eqS_ok (by assumption) (by decide +kernel)) ?_) | refine And.intro (Nat.le_of_ble_eq_true rfl) ?_); exact h
  | str b => (repeat first | refine Exists.intro _ (And.intro DW.lenP_ok ?_) | refine Exists.intro _ (And.intro DW.lenT_ok ?_) | refine Exists.intro _ (And.intro DW.lenL_ok ?_) | refine Exists.intro _ (And.intro rfl ?_) | refine Exists.intro _ (Exists.intro _ (And.intro rfl ?_)) | refine Exists.intro _ (Exists.intro _ (And.intro rfl (And.intro rfl ?_))) | refine And.intro rfl ?_ | refine Exists.intro _ (And.intro rfl (And.intro (Nat.le_of_ble_eq_true rfl) ?_)) | refine Exists.intro _ (And.intro (DW.modD_ok (by omega)) ?_) | refine Exists.intro _ (And.intro (DW.divD_ok (by omega) (by omega)) ?_) | refine Exists.intro _ (And.intro (DW.mulD_ok (by omega)) ?_) | refine Exists.intro _ (And.intro (DW.ix_ps (by omega) (by omega)) ?_) | refine Exists.intro _ (And.intro (DW.eqS_ok (by assumption) (by decide +kernel)) ?_) | refine And.intro (Nat.le_of_ble_eq_true rfl) ?_); exact h
  | list b => (repeat first | refine Exists.intro _ (And.intro DW.lenP_ok ?_) | refine Exists.intro _ (And.intro DW.lenT_ok ?_) | refine Exists.intro _ (And.intro DW.lenL_ok ?_) | refine Exists.intro _ (And.intro rfl ?_) | refine Exists.intro _ (Exists.intro _ (And.intro rfl ?_)) | refine Exists.intro _ (Exists.intro _ (And.intro rfl (And.intro rfl ?_))) | refine And.intro rfl ?_ | refine Exists.intro _ (And.intro rfl (And.intro (Nat.le_of_ble_eq_true rfl) ?_)) | refine Exists.intro _ (And.intro (DW.modD_ok (by omega)) ?_) | refine Exists.intro _ (And.intro (DW.divD_ok (by omega) (by omega)) ?_) | refine Exists.intro _ (And.intro (DW.mulD_ok (by omega)) ?_) | refine Exists.intro _ (And.intro (DW.ix_ps (by omega) (by omega)) ?_) | refine Exists.intro _ (And.intro (DW.eqS_ok (by assumption) (by decide +kernel)) ?_) | refine And.intro (Nat.le_of_ble_eq_true rfl) ?_); exact h
  | dict b => cases hv
theorem lo0_ok {a b : PyData} {D : DEnds} (h : D.nx (pE (.tuple [a, b]) none none none) []) : lo0 (pE (.tuple [a, b]) none none none) [] D := by
  (iterate 3 (first | refine Exists.intro _ (And.intro DW.lenP_ok ?_) | refine Exists.intro _ (And.intro DW.lenT_ok ?_) | refine Exists.intro _ (And.intro DW.lenL_ok ?_) | refine Exists.intro _ (And.intro rfl ?_) | refine Exists.intro _ (Exists.intro _ (And.intro rfl ?_)) | refine Exists.intro _ (Exists.intro _ (And.intro rfl (And.intro rfl ?_))) | refine And.intro rfl ?_ | refine Exists.intro _ (And.intro rfl (And.intro (Nat.le_of_ble_eq_true rfl) ?_)) | refine Exists.intro _ (And.intro (DW.modD_ok (by omega)) ?_) | refine Exists.intro _ (And.intro (DW.divD_ok (by omega) (by omega)) ?_) | refine Exists.intro _ (And.intro (DW.mulD_ok (by omega)) ?_) | refine Exists.intro _ (And.intro (DW.ix_ps (by omega) (by omega)) ?_) | refine Exists.intro _ (And.intro (DW.eqS_ok (by assumption) (by decide +kernel)) ?_) | refine And.intro (Nat.le_of_ble_eq_true rfl) ?_))
  refine Exists.intro _ (And.intro rfl ?_)
  refine Exists.intro _ (And.intro DW.lenT_ok ?_)
  refine Exists.intro _ (And.intro ne_int ?_)
  refine Exists.intro _ (And.intro rfl ?_)
  refine r_f ?_
  exact h
theorem le_1 {n : Int} {S : Sto} : leD (.d (.int 1)) (.d (.int n)) S = some (.d (.bool (decide (1 ≤ n)))) := rfl
theorem lob_ok {v c : PyData} {at_ lo hi : Int} {x4 : Option DV} {e L : Nat} (hat : ∀ S, ixD (.d v) (iD at_) S = some (.d c)) (hc : Vl e L c) (he : e ≤ 50) {D : DEnds} (hr : in3 lo hi c = false → D.rt (.d (.bool false)) [])
    (hn : in3 lo hi c = true → D.nx [some (.d v), some (iD at_), some (iD lo), some (iD hi), x4] []) : (seqS lob0 (seqS lob1 nextS)) [some (.d v), some (iD at_), some (iD lo), some (iD hi), x4] [] D := by
  refine Exists.intro _ (And.intro rfl ?_)
  refine Exists.intro _ (And.intro rfl ?_)
  refine Exists.intro _ (And.intro (hat _) ?_)
  have bad : tupB 1 3 c = false → D.rt (.d (.bool false)) [] := fun q => hr (in3_tup q)
  cases c with
  | tuple xs =>
    (iterate 3 (first | refine Exists.intro _ (And.intro DW.lenP_ok ?_) | refine Exists.intro _ (And.intro DW.lenT_ok ?_) | refine Exists.intro _ (And.intro DW.lenL_ok ?_) | refine Exists.intro _ (And.intro rfl ?_) | refine Exists.intro _ (Exists.intro _ (And.intro rfl ?_)) | refine Exists.intro _ (Exists.intro _ (And.intro rfl (And.intro rfl ?_))) | refine And.intro rfl ?_ | refine Exists.intro _ (And.intro rfl (And.intro (Nat.le_of_ble_eq_true rfl) ?_)) | refine Exists.intro _ (And.intro (DW.modD_ok (by omega)) ?_) | refine Exists.intro _ (And.intro (DW.divD_ok (by omega) (by omega)) ?_) | refine Exists.intro _ (And.intro (DW.mulD_ok (by omega)) ?_) | refine Exists.intro _ (And.intro (DW.ix_ps (by omega) (by omega)) ?_) | refine Exists.intro _ (And.intro (DW.eqS_ok (by assumption) (by decide +kernel)) ?_) | refine And.intro (Nat.le_of_ble_eq_true rfl) ?_))
    refine Exists.intro _ (And.intro rfl ?_)
    refine Exists.intro _ (And.intro (hat _) ?_)
    refine Exists.intro _ (And.intro DW.lenT_ok ?_)
    refine Exists.intro _ (And.intro le_1 ?_)
    have hxs : ∀ x ∈ xs, flat5 x = true := fun x hx => by
      obtain ⟨_, -, -, q⟩ := hc.items
      exact (q x hx).flat
    have hsh : SeqAt.shaped (.list (xs.filter fun x => !fromB lo hi x)) = true := by
      obtain ⟨e', he', -, q⟩ := hc.items
      exact sh_list (n := e' + 1) (fun x hx => (q x (List.mem_filter.mp hx).1).lay) (by omega)
    refine DW.r_dec (fun h1 => ?_) fun h1 => ?_
    · refine Exists.intro _ (And.intro rfl ?_)
      refine Exists.intro _ (And.intro rfl ?_)
      refine r_not (fun h3 => ?_) fun h3 => ?_
      · refine bad ?_
        show (decide ((1 : Int) ≤ xs.length) && decide ((xs.length : Int) ≤ 3)) = false
        rw [show decide ((xs.length : Int) ≤ 3) = false from h3]
        simp
      · have hin : in3 lo hi (.tuple xs) = xs.all (fromB lo hi) := by
          show ((decide ((1 : Int) ≤ xs.length) && decide ((xs.length : Int) ≤ 3)) && _) = _
          rw [show decide ((xs.length : Int) ≤ 3) = true from h3, decide_eq_true h1]
          rfl
        have hl : (xs.length : Int) ≤ 3 := of_decide_eq_true h3
        rw [hin] at hr hn
        refine Exists.intro _ (And.intro rfl ?_)
        refine Exists.intro _ (And.intro rfl ?_)
        refine Exists.intro _ (And.intro (hat _) ?_)
        refine And.intro trivial ?_
        refine Exists.intro _ (Exists.intro _ (And.intro rfl ?_))
        refine lc_not xs [] _ hxs (by simp; omega) ?_
        rw [List.nil_append]
        refine Exists.intro _ (And.intro rfl (And.intro (Nat.le_of_ble_eq_true rfl) ?_))
        refine Exists.intro _ (And.intro (ne_nil hsh) ?_)
        refine Exists.intro _ (And.intro rfl ?_)
        rw [not_all]
        refine r_not (fun q => ?_) fun q => ?_
        · exact hr q
        · exact hn q
    · refine Exists.intro _ (And.intro rfl ?_)
      refine r_t ?_
      refine bad ?_
      show (decide ((1 : Int) ≤ xs.length) && decide ((xs.length : Int) ≤ 3)) = false
      rw [decide_eq_false h1]
      rfl
  | none => (repeat first | refine Exists.intro _ (And.intro DW.lenP_ok ?_) | refine Exists.intro _ (And.intro DW.lenT_ok ?_) | refine Exists.intro _ (And.intro DW.lenL_ok ?_) | refine Exists.intro _ (And.intro rfl ?_) | refine Exists.intro _ (Exists.intro _ (And.intro rfl ?_)) | refine Exists.intro _ (Exists.intro _ (And.intro rfl (And.intro rfl ?_))) | refine And.intro rfl ?_ | refine Exists.intro _ (And.intro rfl (And.intro (Nat.le_of_ble_eq_true rfl) ?_)) | refine Exists.intro _ (And.intro (DW.modD_ok (by omega)) ?_) | refine Exists.intro _ (And.intro (DW.divD_ok (by omega) (by omega)) ?_) | refine Exists.intro _ (And.intro (DW.mulD_ok (by omega)) ?_) | refine Exists.intro _ (And.intro (DW.ix_ps (by omega) (by omega)) ?_) | refine Exists.intro _ (And.intro (DW.eqS_ok (by assumption) (by decide +kernel)) ?_) | refine And.intro (Nat.le_of_ble_eq_true rfl) ?_); exact bad rfl
  | bool b => (repeat first | refine Exists.intro _ (And.intro DW.lenP_ok ?_) | refine Exists.intro _ (And.intro DW.lenT_ok ?_) | refine Exists.intro _ (And.intro DW.lenL_ok ?_) | refine Exists.intro _ (And.intro rfl ?_) | refine Exists.intro _ (Exists.intro _ (And.intro rfl ?_)) | refine Exists.intro _ (Exists.intro _ (And.intro rfl (And.intro rfl ?_))) | refine And.intro rfl ?_ | refine Exists.intro _ (And.intro rfl (And.intro (Nat.le_of_ble_eq_true rfl) ?_)) | refine Exists.intro _ (And.intro (DW.modD_ok (by omega)) ?_) | refine Exists.intro _ (And.intro (DW.divD_ok (by omega) (by omega)) ?_) | refine Exists.intro _ (And.intro (DW.mulD_ok (by omega)) ?_) | refine Exists.intro _ (And.intro (DW.ix_ps (by omega) (by omega)) ?_) | refine Exists.intro _ (And.intro (DW.eqS_ok (by assumption) (by decide +kernel)) ?_) | refine And.intro (Nat.le_of_ble_eq_true rfl) ?_); exact bad rfl
  | int b => (repeat first | refine Exists.intro _ (And.intro DW.lenP_ok ?_) | refine Exists.intro _ (And.intro DW.lenT_ok ?_) | refine Exists.intro _ (And.intro DW.lenL_ok ?_) | refine Exists.intro _ (And.intro rfl ?_) | refine Exists.intro _ (Exists.intro _ (And.intro rfl ?_)) | refine Exists.intro _ (Exists.intro _ (And.intro rfl (And.intro rfl ?_))) | refine And.intro rfl ?_ | refine Exists.intro _ (And.intro rfl (And.intro (Nat.le_of_ble_eq_true rfl) ?_)) | refine Exists.intro _ (And.intro (DW.modD_ok (by omega)) ?_) | refine Exists.intro _ (And.intro (DW.divD_ok (by omega) (by omega)) ?_) | refine Exists.intro _ (And.intro (DW.mulD_ok (by omega)) ?_) | refine Exists.intro _ (And.intro (DW.ix_ps (by omega) (by omega)) ?_) | refine Exists.intro _ (And.intro (DW.eqS_ok (by assumption) (by decide +kernel)) ?_) | refine And.intro (Nat.le_of_ble_eq_true rfl) ?_); exact bad rfl
  | str b => (repeat first | refine Exists.intro _ (And.intro DW.lenP_ok ?_) | refine Exists.intro _ (And.intro DW.lenT_ok ?_) | refine Exists.intro _ (And.intro DW.lenL_ok ?_) | refine Exists.intro _ (And.intro rfl ?_) | refine Exists.intro _ (Exists.intro _ (And.intro rfl ?_)) | refine Exists.intro _ (Exists.intro _ (And.intro rfl (And.intro rfl ?_))) | refine And.intro rfl ?_ | refine Exists.intro _ (And.intro rfl (And.intro (Nat.le_of_ble_eq_true rfl) ?_)) | refine Exists.intro _ (And.intro (DW.modD_ok (by omega)) ?_) | refine Exists.intro _ (And.intro (DW.divD_ok (by omega) (by omega)) ?_) | refine Exists.intro _ (And.intro (DW.mulD_ok (by omega)) ?_) | refine Exists.intro _ (And.intro (DW.ix_ps (by omega) (by omega)) ?_) | refine Exists.intro _ (And.intro (DW.eqS_ok (by assumption) (by decide +kernel)) ?_) | refine And.intro (Nat.le_of_ble_eq_true rfl) ?_); exact bad rfl
  | list b => (repeat first | refine Exists.intro _ (And.intro DW.lenP_ok ?_) | refine Exists.intro _ (And.intro DW.lenT_ok ?_) | refine Exists.intro _ (And.intro DW.lenL_ok ?_) | refine Exists.intro _ (And.intro rfl ?_) | refine Exists.intro _ (Exists.intro _ (And.intro rfl ?_)) | refine Exists.intro _ (Exists.intro _ (And.intro rfl (And.intro rfl ?_))) | refine And.intro rfl ?_ | refine Exists.intro _ (And.intro rfl (And.intro (Nat.le_of_ble_eq_true rfl) ?_)) | refine Exists.intro _ (And.intro (DW.modD_ok (by omega)) ?_) | refine Exists.intro _ (And.intro (DW.divD_ok (by omega) (by omega)) ?_) | refine Exists.intro _ (And.intro (DW.mulD_ok (by omega)) ?_) | refine Exists.intro _ (And.intro (DW.ix_ps (by omega) (by omega)) ?_) | refine Exists.intro _ (And.intro (DW.eqS_ok (by assumption) (by decide +kernel)) ?_) | refine And.intro (Nat.le_of_ble_eq_true rfl) ?_); exact bad rfl
  | dict b => have := hc.flat; cases this
theorem lo2_ok {ps : List Int} {b : PyData} {x1 x2 x3 x4 : Option DV} (l1 : 1 ≤ ps.length) (l3 : ps.length ≤ 3) {D : DEnds} (h : D.rt (.d (.bool (upB (.tuple (ps.map .int))))) []) : lo2 [some (.d (.tuple [.tuple (ps.map .int), b])), x1, x2, x3, x4] [] D := by
  refine Exists.intro _ (And.intro rfl ?_)
  refine Exists.intro _ (And.intro rfl ?_)
  refine Exists.intro _ (And.intro rfl ?_)
  refine Exists.intro _ (And.intro rfl ?_)
  refine Exists.intro _ (And.intro rfl ?_)
  refine .inr ⟨ps, rfl, by omega, fun ms pw hm => ?_⟩
  refine Exists.intro _ (And.intro eq_ints ?_)
  rw [up_eq l1 l3 pw hm]
  exact h
theorem q_law_is_offer {d L : Nat} {v : PyData} (hv : Vl d L v) (hd : d ≤ 50) (h : k (.d (.bool (offB v))) []) : F_law_is_offer [.d v] [] k kx := by
  show w_law_is_offer (pE v none none none) [] (fE k kx)
  rw [lo_eq]
  cases hb : tupB 2 2 v with
  | false =>
    refine lo0_bad hv.flat hb ?_
    rw [off_2 hb] at h
    exact h
  | true =>
    obtain ⟨a, b, rfl⟩ := tup2 hb
    obtain ⟨e, rfl, -, hi⟩ := hv.items
    have va := hi a (by simp)
    have vb := hi b (by simp)
    refine lo0_ok ?_
    repeat (first | refine lob_ok (c := a) (fun _ => rfl) va (by omega) (fun qa => ?_) (fun qa => ?_) | (iterate 1 (first | refine Exists.intro _ (And.intro DW.lenP_ok ?_) | refine Exists.intro _ (And.intro DW.lenT_ok ?_) | refine Exists.intro _ (And.intro DW.lenL_ok ?_) | refine Exists.intro _ (And.intro rfl ?_) | refine Exists.intro _ (Exists.intro _ (And.intro rfl ?_)) | refine Exists.intro _ (Exists.intro _ (And.intro rfl (And.intro rfl ?_))) | refine And.intro rfl ?_ | refine Exists.intro _ (And.intro rfl (And.intro (Nat.le_of_ble_eq_true rfl) ?_)) | refine Exists.intro _ (And.intro (DW.modD_ok (by omega)) ?_) | refine Exists.intro _ (And.intro (DW.divD_ok (by omega) (by omega)) ?_) | refine Exists.intro _ (And.intro (DW.mulD_ok (by omega)) ?_) | refine Exists.intro _ (And.intro (DW.ix_ps (by omega) (by omega)) ?_) | refine Exists.intro _ (And.intro (DW.eqS_ok (by assumption) (by decide +kernel)) ?_) | refine And.intro (Nat.le_of_ble_eq_true rfl) ?_)) | refine And.intro trivial ?_)
    · have : offB (.tuple [a, b]) = false := by
        show (in3 1 30 a && (in3 2 6 b && upB a)) = false
        rw [qa]; rfl
      rw [this] at h
      exact h
    · repeat (first | refine lob_ok (c := b) (fun _ => rfl) vb (by omega) (fun qb => ?_) (fun qb => ?_) | (iterate 1 (first | refine Exists.intro _ (And.intro DW.lenP_ok ?_) | refine Exists.intro _ (And.intro DW.lenT_ok ?_) | refine Exists.intro _ (And.intro DW.lenL_ok ?_) | refine Exists.intro _ (And.intro rfl ?_) | refine Exists.intro _ (Exists.intro _ (And.intro rfl ?_)) | refine Exists.intro _ (Exists.intro _ (And.intro rfl (And.intro rfl ?_))) | refine And.intro rfl ?_ | refine Exists.intro _ (And.intro rfl (And.intro (Nat.le_of_ble_eq_true rfl) ?_)) | refine Exists.intro _ (And.intro (DW.modD_ok (by omega)) ?_) | refine Exists.intro _ (And.intro (DW.divD_ok (by omega) (by omega)) ?_) | refine Exists.intro _ (And.intro (DW.mulD_ok (by omega)) ?_) | refine Exists.intro _ (And.intro (DW.ix_ps (by omega) (by omega)) ?_) | refine Exists.intro _ (And.intro (DW.eqS_ok (by assumption) (by decide +kernel)) ?_) | refine And.intro (Nat.le_of_ble_eq_true rfl) ?_)) | refine And.intro trivial ?_)
      · have : offB (.tuple [a, b]) = false := by
          show (in3 1 30 a && (in3 2 6 b && upB a)) = false
          rw [qb]; simp
        rw [this] at h
        exact h
      · have ho : offB (.tuple [a, b]) = upB a := by
          show (in3 1 30 a && (in3 2 6 b && upB a)) = _
          rw [qa, qb]; rfl
        rw [ho] at h
        obtain ⟨xs, rfl, x1, x3, hx⟩ := in3_tr qa
        obtain ⟨ps, rfl, -⟩ := ints_of_from hx
        refine lo2_ok (by simpa using x1) (by simpa using x3) ?_
        exact h
end
end Lw

set_option maxRecDepth 100000
set_option maxHeartbeats 1000000
set_option synthInstance.maxSize 1000000
set_option synthInstance.maxHeartbeats 0
set_option linter.all false
set_option pp.maxSteps 400
namespace Lw
open PySem L2 DW
/-! M01Y: is_rule, _law_is_rule of a value. -/
abbrev lr0 : DS := (ifS (orW (notW (testW (op1W (isiD .tuple) (varW 0)))) (testW (op2W neD (callNW lenD (consA (varW 0) nilA)) (cW (.int 6))))) (seqS (retS (cW (.bool false))) nextS) nextS)
abbrev lr2 : DS := (retS (cW (.bool true)))
abbrev lrb0 : DS := (ifS (orW (notW (testW (op1W (isiD .str) (op2W ixD (varW 0) (varW 1))))) (testW (op2W (inD true) (op2W ixD (varW 0) (varW 1)) (varW 2)))) (seqS (retS (cW (.bool false))) nextS) nextS)
theorem lr_eq : w_law_is_rule = (seqS lr0 (seqS (forS (enumI (callW F_law_values nilA)) (tupG 2 (consGs (nameG 1) (consGs (nameG 2) nilGs))) (seqS lrb0 nextS)) (seqS lr2 nextS))) := rfl
def inV (ws : List PyData) : PyData → Bool
  | .str s => ws.any fun z => PyData.eqv z (.str s)
  | _ => false
section
variable {k : DK} {kx : DX}
abbrev vD : Nat → PyData
  | 0 => .tuple v0
  | 1 => .tuple v0
  | 2 => .tuple v2
  | 3 => .tuple v3
  | 4 => .tuple v4
  | _ => .tuple v5
abbrev vL : Nat → List PyData
  | 0 => v0
  | 1 => v0
  | 2 => v2
  | 3 => v3
  | 4 => v4
  | _ => v5
/-- the word of a part -/
abbrev inE : DE := (andVW (op1W (isiD .str) (varW 2)) (op2W (inD false) (varW 2) (op2W ixD (cW c_VALUES) (varW 1))))
abbrev Jd (i : Nat) (x : PyData) (b : Bool) : Prop := ∀ (e0 : Option DV) (S : Sto) (k : DK) (kx : DX), k (.d (.bool b)) S → inE [e0, some (iD (i : Int)), some (.d x)] S k kx
abbrev isB : List Bool → Bool := fun bs => bs.all id
theorem is_rule_6 {x0 x1 x2 x3 x4 x5 : PyData} {b0 b1 b2 b3 b4 b5 : Bool} (h0 : Jd 0 x0 b0) (h1 : Jd 1 x1 b1) (h2 : Jd 2 x2 b2) (h3 : Jd 3 x3 b3) (h4 : Jd 4 x4 b4) (h5 : Jd 5 x5 b5)
    (h : k (.d (.bool (isB [b0, b1, b2, b3, b4, b5]))) []) : F_is_rule [.d (.tuple [x0, x1, x2, x3, x4, x5])] [] k kx := by
  refine Exists.intro _ (And.intro rfl ?_)
  refine And.intro (DW.nodB_ok rfl) ?_
  refine Exists.intro _ (And.intro rfl ?_)
  refine q_tup (res_0 ?_)
  refine Exists.intro _ (And.intro rfl ?_)
  refine r_f ?_
  refine Exists.intro _ (And.intro rfl ?_)
  refine And.intro trivial (Exists.intro _ (Exists.intro _ (And.intro rfl ?_)))
  refine Exists.intro _ (And.intro rfl ?_)
  refine h0 _ _ _ _ ?_
  refine Exists.intro _ (And.intro rfl (And.intro (Nat.le_of_ble_eq_true rfl) ?_))
  refine Exists.intro _ (And.intro rfl ?_)
  refine h1 _ _ _ _ ?_
  refine Exists.intro _ (And.intro rfl (And.intro (Nat.le_of_ble_eq_true rfl) ?_))
  refine Exists.intro _ (And.intro rfl ?_)
  refine h2 _ _ _ _ ?_
  refine Exists.intro _ (And.intro rfl (And.intro (Nat.le_of_ble_eq_true rfl) ?_))
  refine Exists.intro _ (And.intro rfl ?_)
  refine h3 _ _ _ _ ?_
  refine Exists.intro _ (And.intro rfl (And.intro (Nat.le_of_ble_eq_true rfl) ?_))
  refine Exists.intro _ (And.intro rfl ?_)
  refine h4 _ _ _ _ ?_
  refine Exists.intro _ (And.intro rfl (And.intro (Nat.le_of_ble_eq_true rfl) ?_))
  refine Exists.intro _ (And.intro rfl ?_)
  refine h5 _ _ _ _ ?_
  refine Exists.intro _ (And.intro rfl (And.intro (Nat.le_of_ble_eq_true rfl) ?_))
  refine Exists.intro _ (And.intro rfl ?_)
  exact h

def rulB : PyData → Bool
  | .tuple [x0, x1, x2, x3, x4, x5] => isB [inV v0 x0, inV v0 x1, inV v2 x2, inV v3 x3, inV v4 x4, inV v5 x5]
  | _ => false
theorem tup6 {v : PyData} (h : tupB 6 6 v = true) : ∃ a b c d e f, v = .tuple [a, b, c, d, e, f] := by
  cases v with
  | tuple xs =>
    obtain ⟨h1, h2⟩ := two (show (decide ((6 : Int) ≤ xs.length) && decide ((xs.length : Int) ≤ 6)) = true from h)
    have h1 := of_decide_eq_true h1
    have h2 := of_decide_eq_true h2
    have h3 : xs.length = 6 := by omega
    match xs, h3 with
    | [a, b, c, d, e, f], _ => exact ⟨a, b, c, d, e, f, rfl⟩
  | _ => cases h
theorem rul_6 {v : PyData} (h : tupB 6 6 v = false) : rulB v = false := by
  cases v with
  | tuple xs =>
    match xs with
    | [a, b, c, d, e, f] => cases h
    | [] => rfl
    | [_] => rfl
    | [_, _] => rfl
    | [_, _, _] => rfl
    | [_, _, _, _] => rfl
    | [_, _, _, _, _] => rfl
    | _ :: _ :: _ :: _ :: _ :: _ :: _ :: _ => rfl
  | _ => rfl
theorem tup_len6 {xs : List PyData} : tupB 6 6 (.tuple xs) = decide ((xs.length : Int) = 6) := by
  show (decide ((6 : Int) ≤ xs.length) && decide ((xs.length : Int) ≤ 6)) = _
  by_cases h1 : (6 : Int) ≤ xs.length <;> by_cases h2 : (xs.length : Int) ≤ 6 <;> simp [h1, h2] <;> omega
theorem jd_ok (i : Nat) (hi : i < 6) {x : PyData} (hx : flat5 x = true) : Jd i x (inV (vL i) x) := by
  intro e0 S k kx h
  cases x with
  | str s =>
    match i, hi with
    | 0, _ => (repeat first | refine Exists.intro _ (And.intro DW.lenP_ok ?_) | refine Exists.intro _ (And.intro DW.lenT_ok ?_) | refine Exists.intro _ (And.intro DW.lenL_ok ?_) | refine Exists.intro _ (And.intro rfl ?_) | refine Exists.intro _ (Exists.intro _ (And.intro rfl ?_)) | refine Exists.intro _ (Exists.intro _ (And.intro rfl (And.intro rfl ?_))) | refine And.intro rfl ?_ | refine Exists.intro _ (And.intro rfl (And.intro (Nat.le_of_ble_eq_true rfl) ?_)) | refine Exists.intro _ (And.intro (DW.modD_ok (by omega)) ?_) | refine Exists.intro _ (And.intro (DW.divD_ok (by omega) (by omega)) ?_) | refine Exists.intro _ (And.intro (DW.mulD_ok (by omega)) ?_) | refine Exists.intro _ (And.intro (DW.ix_ps (by omega) (by omega)) ?_) | refine Exists.intro _ (And.intro (DW.eqS_ok (by assumption) (by decide +kernel)) ?_) | refine And.intro (Nat.le_of_ble_eq_true rfl) ?_); exact h
    | 1, _ => (repeat first | refine Exists.intro _ (And.intro DW.lenP_ok ?_) | refine Exists.intro _ (And.intro DW.lenT_ok ?_) | refine Exists.intro _ (And.intro DW.lenL_ok ?_) | refine Exists.intro _ (And.intro rfl ?_) | refine Exists.intro _ (Exists.intro _ (And.intro rfl ?_)) | refine Exists.intro _ (Exists.intro _ (And.intro rfl (And.intro rfl ?_))) | refine And.intro rfl ?_ | refine Exists.intro _ (And.intro rfl (And.intro (Nat.le_of_ble_eq_true rfl) ?_)) | refine Exists.intro _ (And.intro (DW.modD_ok (by omega)) ?_) | refine Exists.intro _ (And.intro (DW.divD_ok (by omega) (by omega)) ?_) | refine Exists.intro _ (And.intro (DW.mulD_ok (by omega)) ?_) | refine Exists.intro _ (And.intro (DW.ix_ps (by omega) (by omega)) ?_) | refine Exists.intro _ (And.intro (DW.eqS_ok (by assumption) (by decide +kernel)) ?_) | refine And.intro (Nat.le_of_ble_eq_true rfl) ?_); exact h
    | 2, _ => (repeat first | refine Exists.intro _ (And.intro DW.lenP_ok ?_) | refine Exists.intro _ (And.intro DW.lenT_ok ?_) | refine Exists.intro _ (And.intro DW.lenL_ok ?_) | refine Exists.intro _ (And.intro rfl ?_) | refine Exists.intro _ (Exists.intro _ (And.intro rfl ?_)) | refine Exists.intro _ (Exists.intro _ (And.intro rfl (And.intro rfl ?_))) | refine And.intro rfl ?_ | refine Exists.intro _ (And.intro rfl (And.intro (Nat.le_of_ble_eq_true rfl) ?_)) | refine Exists.intro _ (And.intro (DW.modD_ok (by omega)) ?_) | refine Exists.intro _ (And.intro (DW.divD_ok (by omega) (by omega)) ?_) | refine Exists.intro _ (And.intro (DW.mulD_ok (by omega)) ?_) | refine Exists.intro _ (And.intro (DW.ix_ps (by omega) (by omega)) ?_) | refine Exists.intro _ (And.intro (DW.eqS_ok (by assumption) (by decide +kernel)) ?_) | refine And.intro (Nat.le_of_ble_eq_true rfl) ?_); exact h
    | 3, _ => (repeat first | refine Exists.intro _ (And.intro DW.lenP_ok ?_) | refine Exists.intro _ (And.intro DW.lenT_ok ?_) | refine Exists.intro _ (And.intro DW.lenL_ok ?_) | refine Exists.intro _ (And.intro rfl ?_) | refine Exists.intro _ (Exists.intro _ (And.intro rfl ?_)) | refine Exists.intro _ (Exists.intro _ (And.intro rfl (And.intro rfl ?_))) | refine And.intro rfl ?_ | refine Exists.intro _ (And.intro rfl (And.intro (Nat.le_of_ble_eq_true rfl) ?_)) | refine Exists.intro _ (And.intro (DW.modD_ok (by omega)) ?_) | refine Exists.intro _ (And.intro (DW.divD_ok (by omega) (by omega)) ?_) | refine Exists.intro _ (And.intro (DW.mulD_ok (by omega)) ?_) | refine Exists.intro _ (And.intro (DW.ix_ps (by omega) (by omega)) ?_) | refine Exists.intro _ (And.intro (DW.eqS_ok (by assumption) (by decide +kernel)) ?_) | refine And.intro (Nat.le_of_ble_eq_true rfl) ?_); exact h
    | 4, _ => (repeat first | refine Exists.intro _ (And.intro DW.lenP_ok ?_) | refine Exists.intro _ (And.intro DW.lenT_ok ?_) | refine Exists.intro _ (And.intro DW.lenL_ok ?_) | refine Exists.intro _ (And.intro rfl ?_) | refine Exists.intro _ (Exists.intro _ (And.intro rfl ?_)) | refine Exists.intro _ (Exists.intro _ (And.intro rfl (And.intro rfl ?_))) | refine And.intro rfl ?_ | refine Exists.intro _ (And.intro rfl (And.intro (Nat.le_of_ble_eq_true rfl) ?_)) | refine Exists.intro _ (And.intro (DW.modD_ok (by omega)) ?_) | refine Exists.intro _ (And.intro (DW.divD_ok (by omega) (by omega)) ?_) | refine Exists.intro _ (And.intro (DW.mulD_ok (by omega)) ?_) | refine Exists.intro _ (And.intro (DW.ix_ps (by omega) (by omega)) ?_) | refine Exists.intro _ (And.intro (DW.eqS_ok (by assumption) (by decide +kernel)) ?_) | refine And.intro (Nat.le_of_ble_eq_true rfl) ?_); exact h
    | 5, _ => (repeat first | refine Exists.intro _ (And.intro DW.lenP_ok ?_) | refine Exists.intro _ (And.intro DW.lenT_ok ?_) | refine Exists.intro _ (And.intro DW.lenL_ok ?_) | refine Exists.intro _ (And.intro rfl ?_) | refine Exists.intro _ (Exists.intro _ (And.intro rfl ?_)) | refine Exists.intro _ (Exists.intro _ (And.intro rfl (And.intro rfl ?_))) | refine And.intro rfl ?_ | refine Exists.intro _ (And.intro rfl (And.intro (Nat.le_of_ble_eq_true rfl) ?_)) | refine Exists.intro _ (And.intro (DW.modD_ok (by omega)) ?_) | refine Exists.intro _ (And.intro (DW.divD_ok (by omega) (by omega)) ?_) | refine Exists.intro _ (And.intro (DW.mulD_ok (by omega)) ?_) | refine Exists.intro _ (And.intro (DW.ix_ps (by omega) (by omega)) ?_) | refine Exists.intro _ (And.intro (DW.eqS_ok (by assumption) (by decide +kernel)) ?_) | refine And.intro (Nat.le_of_ble_eq_true rfl) ?_); exact h
  | none => (repeat first | refine Exists.intro _ (And.intro DW.lenP_ok ?_) | refine Exists.intro _ (And.intro DW.lenT_ok ?_) | refine Exists.intro _ (And.intro DW.lenL_ok ?_) | refine Exists.intro _ (And.intro rfl ?_) | refine Exists.intro _ (Exists.intro _ (And.intro rfl ?_)) | refine Exists.intro _ (Exists.intro _ (And.intro rfl (And.intro rfl ?_))) | refine And.intro rfl ?_ | refine Exists.intro _ (And.intro rfl (And.intro (Nat.le_of_ble_eq_true rfl) ?_)) | refine Exists.intro _ (And.intro (DW.modD_ok (by omega)) ?_) | refine Exists.intro _ (And.intro (DW.divD_ok (by omega) (by omega)) ?_) | refine Exists.intro _ (And.intro (DW.mulD_ok (by omega)) ?_) | refine Exists.intro _ (And.intro (DW.ix_ps (by omega) (by omega)) ?_) | refine Exists.intro _ (And.intro (DW.eqS_ok (by assumption) (by decide +kernel)) ?_) | refine And.intro (Nat.le_of_ble_eq_true rfl) ?_); exact h
  | bool b => (repeat first | refine Exists.intro _ (And.intro DW.lenP_ok ?_) | refine Exists.intro _ (And.intro DW.lenT_ok ?_) | refine Exists.intro _ (And.intro DW.lenL_ok ?_) | refine Exists.intro _ (And.intro rfl ?_) | refine Exists.intro _ (Exists.intro _ (And.intro rfl ?_)) | refine Exists.intro _ (Exists.intro _ (And.intro rfl (And.intro rfl ?_))) | refine And.intro rfl ?_ | refine Exists.intro _ (And.intro rfl (And.intro (Nat.le_of_ble_eq_true rfl) ?_)) | refine Exists.intro _ (And.intro (DW.modD_ok (by omega)) ?_) | refine Exists.intro _ (And.intro (DW.divD_ok (by omega) (by omega)) ?_) | refine Exists.intro _ (And.intro (DW.mulD_ok (by omega)) ?_) | refine Exists.intro _ (And.intro (DW.ix_ps (by omega) (by omega)) ?_) | refine Exists.intro _ (And.intro (DW.eqS_ok (by assumption) (by decide +kernel)) ?_) | refine And.intro (Nat.le_of_ble_eq_true rfl) ?_); exact h
  | int b => (repeat first | refine Exists.intro _ (And.intro DW.lenP_ok ?_) | refine Exists.intro _ (And.intro DW.lenT_ok ?_) | refine Exists.intro _ (And.intro DW.lenL_ok ?_) | refine Exists.intro _ (And.intro rfl ?_) | refine Exists.intro _ (Exists.intro _ (And.intro rfl ?_)) | refine Exists.intro _ (Exists.intro _ (And.intro rfl (And.intro rfl ?_))) | refine And.intro rfl ?_ | refine Exists.intro _ (And.intro rfl (And.intro (Nat.le_of_ble_eq_true rfl) ?_)) | refine Exists.intro _ (And.intro (DW.modD_ok (by omega)) ?_) | refine Exists.intro _ (And.intro (DW.divD_ok (by omega) (by omega)) ?_) | refine Exists.intro _ (And.intro (DW.mulD_ok (by omega)) ?_) | refine Exists.intro _ (And.intro (DW.ix_ps (by omega) (by omega)) ?_) | refine Exists.intro _ (And.intro (DW.eqS_ok (by assumption) (by decide +kernel)) ?_) | refine And.intro (Nat.le_of_ble_eq_true rfl) ?_); exact h
  | tuple b => (repeat first | refine Exists.intro _ (And.intro DW.lenP_ok ?_) | refine Exists.intro _ (And.intro DW.lenT_ok ?_) | refine Exists.intro _ (And.intro DW.lenL_ok ?_) | refine Exists.intro _ (And.intro rfl ?_) | refine Exists.intro _ (Exists.intro _ (And.intro rfl ?_)) | refine Exists.intro _ (Exists.intro _ (And.intro rfl (And.intro rfl ?_))) | refine And.intro rfl ?_ | refine Exists.intro _ (And.intro rfl (And.intro (Nat.le_of_ble_eq_true rfl) ?_)) | refine Exists.intro _ (And.intro (DW.modD_ok (by omega)) ?_) | refine Exists.intro _ (And.intro (DW.divD_ok (by omega) (by omega)) ?_) | refine Exists.intro _ (And.intro (DW.mulD_ok (by omega)) ?_) | refine Exists.intro _ (And.intro (DW.ix_ps (by omega) (by omega)) ?_) | refine Exists.intro _ (And.intro (DW.eqS_ok (by assumption) (by decide +kernel)) ?_) | refine And.intro (Nat.le_of_ble_eq_true rfl) ?_); exact h
  | list b => (repeat first | refine Exists.intro _ (And.intro DW.lenP_ok ?_) | refine Exists.intro _ (And.intro DW.lenT_ok ?_) | refine Exists.intro _ (And.intro DW.lenL_ok ?_) | refine Exists.intro _ (And.intro rfl ?_) | refine Exists.intro _ (Exists.intro _ (And.intro rfl ?_)) | refine Exists.intro _ (Exists.intro _ (And.intro rfl (And.intro rfl ?_))) | refine And.intro rfl ?_ | refine Exists.intro _ (And.intro rfl (And.intro (Nat.le_of_ble_eq_true rfl) ?_)) | refine Exists.intro _ (And.intro (DW.modD_ok (by omega)) ?_) | refine Exists.intro _ (And.intro (DW.divD_ok (by omega) (by omega)) ?_) | refine Exists.intro _ (And.intro (DW.mulD_ok (by omega)) ?_) | refine Exists.intro _ (And.intro (DW.ix_ps (by omega) (by omega)) ?_) | refine Exists.intro _ (And.intro (DW.eqS_ok (by assumption) (by decide +kernel)) ?_) | refine And.intro (Nat.le_of_ble_eq_true rfl) ?_); exact h
  | dict b => cases hx
theorem is_rule_bad {v : PyData} (hv : flat5 v = true) (hb : tupB 6 6 v = false) (h : k (.d (.bool false)) []) : F_is_rule [.d v] [] k kx := by
  refine Exists.intro _ (And.intro rfl ?_)
  refine And.intro (DW.nodB_ok rfl) ?_
  refine Exists.intro _ (And.intro rfl ?_)
  refine q_tupB hv (res_0 ?_)
  rw [hb]
  refine Exists.intro _ (And.intro rfl ?_)
  refine r_t ?_
  exact h
theorem q_is_rule {d L : Nat} {v : PyData} (hv : Vl d L v) (h : k (.d (.bool (rulB v))) []) : F_is_rule [.d v] [] k kx := by
  cases hb : tupB 6 6 v with
  | false =>
    rw [rul_6 hb] at h
    exact is_rule_bad hv.flat hb h
  | true =>
    obtain ⟨a, b, c, d, e, f, rfl⟩ := tup6 hb
    obtain ⟨_, -, -, hi⟩ := hv.items
    exact is_rule_6 (jd_ok 0 (by omega) (hi a (by simp)).flat) (jd_ok 1 (by omega) (hi b (by simp)).flat) (jd_ok 2 (by omega) (hi c (by simp)).flat) (jd_ok 3 (by omega) (hi d (by simp)).flat) (jd_ok 4 (by omega) (hi e (by simp)).flat) (jd_ok 5 (by omega) (hi f (by simp)).flat) h
/-! the law's own -/
abbrev qE (v : PyData) (x1 x2 : Option DV) : DEnv := [some (.d v), x1, x2]
theorem lr0_bad {v : PyData} (hv : flat5 v = true) (hb : tupB 6 6 v = false) {D : DEnds} (h : D.rt (.d (.bool false)) []) : lr0 (qE v none none) [] D := by
  cases v with
  | tuple xs =>
    (iterate 3 (first | refine Exists.intro _ (And.intro DW.lenP_ok ?_) | refine Exists.intro _ (And.intro DW.lenT_ok ?_) | refine Exists.intro _ (And.intro DW.lenL_ok ?_) | refine Exists.intro _ (And.intro rfl ?_) | refine Exists.intro _ (Exists.intro _ (And.intro rfl ?_)) | refine Exists.intro _ (Exists.intro _ (And.intro rfl (And.intro rfl ?_))) | refine And.intro rfl ?_ | refine Exists.intro _ (And.intro rfl (And.intro (Nat.le_of_ble_eq_true rfl) ?_)) | refine Exists.intro _ (And.intro (DW.modD_ok (by omega)) ?_) | refine Exists.intro _ (And.intro (DW.divD_ok (by omega) (by omega)) ?_) | refine Exists.intro _ (And.intro (DW.mulD_ok (by omega)) ?_) | refine Exists.intro _ (And.intro (DW.ix_ps (by omega) (by omega)) ?_) | refine Exists.intro _ (And.intro (DW.eqS_ok (by assumption) (by decide +kernel)) ?_) | refine And.intro (Nat.le_of_ble_eq_true rfl) ?_))
    refine Exists.intro _ (And.intro rfl ?_)
    refine Exists.intro _ (And.intro DW.lenT_ok ?_)
    refine Exists.intro _ (And.intro ne_int ?_)
    rw [tup_len6] at hb
    rw [hb]
    refine Exists.intro _ (And.intro rfl ?_)
    refine r_t ?_
    exact h
  | none => (repeat first | refine Exists.intro _ (And.intro DW.lenP_ok ?_) | refine Exists.intro _ (And.intro DW.lenT_ok ?_) | refine Exists.intro _ (And.intro DW.lenL_ok ?_) | refine Exists.intro _ (And.intro rfl ?_) | refine Exists.intro _ (Exists.intro _ (And.intro rfl ?_)) | refine Exists.intro _ (Exists.intro _ (And.intro rfl (And.intro rfl ?_))) | refine And.intro rfl ?_ | refine Exists.intro _ (And.intro rfl (And.intro (Nat.le_of_ble_eq_true rfl) ?_)) | refine Exists.intro _ (And.intro (DW.modD_ok (by omega)) ?_) | refine Exists.intro _ (And.intro (DW.divD_ok (by omega) (by omega)) ?_) | refine Exists.intro _ (And.intro (DW.mulD_ok (by omega)) ?_) | refine Exists.intro _ (And.intro (DW.ix_ps (by omega) (by omega)) ?_) | refine Exists.intro _ (And.intro (DW.eqS_ok (by assumption) (by decide +kernel)) ?_) | refine And.intro (Nat.le_of_ble_eq_true rfl) ?_); exact h
  | bool b => (repeat first | refine Exists.intro _ (And.intro DW.lenP_ok ?_) | refine Exists.intro _ (And.intro DW.lenT_ok ?_) | refine Exists.intro _ (And.intro DW.lenL_ok ?_) | refine Exists.intro _ (And.intro rfl ?_) | refine Exists.intro _ (Exists.intro _ (And.intro rfl ?_)) | refine Exists.intro _ (Exists.intro _ (And.intro rfl (And.intro rfl ?_))) | refine And.intro rfl ?_ | refine Exists.intro _ (And.intro rfl (And.intro (Nat.le_of_ble_eq_true rfl) ?_)) | refine Exists.intro _ (And.intro (DW.modD_ok (by omega)) ?_) | refine Exists.intro _ (And.intro (DW.divD_ok (by omega) (by omega)) ?_) | refine Exists.intro _ (And.intro (DW.mulD_ok (by omega)) ?_) | refine Exists.intro _ (And.intro (DW.ix_ps (by omega) (by omega)) ?_) | refine Exists.intro _ (And.intro (DW.eqS_ok (by assumption) (by decide +kernel)) ?_) | refine And.intro (Nat.le_of_ble_eq_true rfl) ?_); exact h
  | int b => (repeat first | refine Exists.intro _ (And.intro DW.lenP_ok ?_) | refine Exists.intro _ (And.intro DW.lenT_ok ?_) | refine Exists.intro _ (And.intro DW.lenL_ok ?_) | refine Exists.intro _ (And.intro rfl ?_) | refine Exists.intro _ (Exists.intro _ (And.intro rfl ?_)) | refine Exists.intro _ (Exists.intro _ (And.intro rfl (And.intro rfl ?_))) | refine And.intro rfl ?_ | refine Exists.intro _ (And.intro rfl (And.intro (Nat.le_of_ble_eq_true rfl) ?_)) | refine Exists.intro _ (And.intro (DW.modD_ok (by omega)) ?_) | refine Exists.intro _ (And.intro (DW.divD_ok (by omega) (by omega)) ?_) | refine Exists.intro _ (And.intro (DW.mulD_ok (by omega)) ?_) | refine Exists.intro _ (And.intro (DW.ix_ps (by omega) (by omega)) ?_) | refine Exists.intro _ (And.intro (DW.eqS_ok (by assumption) (by decide +kernel)) ?_) | refine And.intro (Nat.le_of_ble_eq_true rfl) ?_); exact h
  | str b => (repeat first | refine Exists.intro _ (And.intro DW.lenP_ok ?_) | refine Exists.intro _ (And.intro DW.lenT_ok ?_) | refine Exists.intro _ (And.intro DW.lenL_ok ?_) | refine Exists.intro _ (And.intro rfl ?_) | refine Exists.intro _ (Exists.intro _ (And.intro rfl ?_)) | refine Exists.intro _ (Exists.intro _ (And.intro rfl (And.intro rfl ?_))) | refine And.intro rfl ?_ | refine Exists.intro _ (And.intro rfl (And.intro (Nat.le_of_ble_eq_true rfl) ?_)) | refine Exists.intro _ (And.intro (DW.modD_ok (by omega)) ?_) | refine Exists.intro _ (And.intro (DW.divD_ok (by omega) (by omega)) ?_) | refine Exists.intro _ (And.intro (DW.mulD_ok (by omega)) ?_) | refine Exists.intro _ (And.intro (DW.ix_ps (by omega) (by omega)) ?_) | refine Exists.intro _ (And.intro (DW.eqS_ok (by assumption) (by decide +kernel)) ?_) | refine And.intro (Nat.le_of_ble_eq_true rfl) ?_); exact h
  | list b => (repeat first | refine Exists.intro _ (And.intro DW.lenP_ok ?_) | refine Exists.intro _ (And.intro DW.lenT_ok ?_) | refine Exists.intro _ (And.intro DW.lenL_ok ?_) | refine Exists.intro _ (And.intro rfl ?_) | refine Exists.intro _ (Exists.intro _ (And.intro rfl ?_)) | refine Exists.intro _ (Exists.intro _ (And.intro rfl (And.intro rfl ?_))) | refine And.intro rfl ?_ | refine Exists.intro _ (And.intro rfl (And.intro (Nat.le_of_ble_eq_true rfl) ?_)) | refine Exists.intro _ (And.intro (DW.modD_ok (by omega)) ?_) | refine Exists.intro _ (And.intro (DW.divD_ok (by omega) (by omega)) ?_) | refine Exists.intro _ (And.intro (DW.mulD_ok (by omega)) ?_) | refine Exists.intro _ (And.intro (DW.ix_ps (by omega) (by omega)) ?_) | refine Exists.intro _ (And.intro (DW.eqS_ok (by assumption) (by decide +kernel)) ?_) | refine And.intro (Nat.le_of_ble_eq_true rfl) ?_); exact h
  | dict b => cases hv
theorem lr0_ok {a b c d e f : PyData} {D : DEnds} (h : D.nx (qE (.tuple [a, b, c, d, e, f]) none none) []) : lr0 (qE (.tuple [a, b, c, d, e, f]) none none) [] D := by
  (iterate 3 (first | refine Exists.intro _ (And.intro DW.lenP_ok ?_) | refine Exists.intro _ (And.intro DW.lenT_ok ?_) | refine Exists.intro _ (And.intro DW.lenL_ok ?_) | refine Exists.intro _ (And.intro rfl ?_) | refine Exists.intro _ (Exists.intro _ (And.intro rfl ?_)) | refine Exists.intro _ (Exists.intro _ (And.intro rfl (And.intro rfl ?_))) | refine And.intro rfl ?_ | refine Exists.intro _ (And.intro rfl (And.intro (Nat.le_of_ble_eq_true rfl) ?_)) | refine Exists.intro _ (And.intro (DW.modD_ok (by omega)) ?_) | refine Exists.intro _ (And.intro (DW.divD_ok (by omega) (by omega)) ?_) | refine Exists.intro _ (And.intro (DW.mulD_ok (by omega)) ?_) | refine Exists.intro _ (And.intro (DW.ix_ps (by omega) (by omega)) ?_) | refine Exists.intro _ (And.intro (DW.eqS_ok (by assumption) (by decide +kernel)) ?_) | refine And.intro (Nat.le_of_ble_eq_true rfl) ?_))
  refine Exists.intro _ (And.intro rfl ?_)
  refine Exists.intro _ (And.intro DW.lenT_ok ?_)
  refine Exists.intro _ (And.intro ne_int ?_)
  refine Exists.intro _ (And.intro rfl ?_)
  refine r_f ?_
  exact h
theorem in_t {s : Str} {ws : List PyData} {S : Sto} (hw : ws.all flatD = true) : inD true (.d (.str s)) (.d (.list ws)) S = some (.d (.bool (!inV ws (.str s)))) := by
  show (if flatD (.str s) = true ∧ ws.all flatD = true then some (DV.d (.bool (if true = true then !ws.any (fun z => PyData.eqv z (.str s)) else ws.any (fun z => PyData.eqv z (.str s))))) else none) = _
  rw [if_pos ⟨rfl, hw⟩]
  rfl
theorem lrb_ok {v x : PyData} {ws : List PyData} {at_ : Int} (hat : ∀ S, ixD (.d v) (iD at_) S = some (.d x)) (hx : flat5 x = true) (hw : ws.all flatD = true) {D : DEnds} (hr : inV ws x = false → D.rt (.d (.bool false)) [])
    (hn : inV ws x = true → D.nx [some (.d v), some (iD at_), some (.d (.list ws))] []) : (seqS lrb0 nextS) [some (.d v), some (iD at_), some (.d (.list ws))] [] D := by
  refine Exists.intro _ (And.intro rfl ?_)
  refine Exists.intro _ (And.intro rfl ?_)
  refine Exists.intro _ (And.intro (hat _) ?_)
  cases x with
  | str s =>
    (iterate 3 (first | refine Exists.intro _ (And.intro DW.lenP_ok ?_) | refine Exists.intro _ (And.intro DW.lenT_ok ?_) | refine Exists.intro _ (And.intro DW.lenL_ok ?_) | refine Exists.intro _ (And.intro rfl ?_) | refine Exists.intro _ (Exists.intro _ (And.intro rfl ?_)) | refine Exists.intro _ (Exists.intro _ (And.intro rfl (And.intro rfl ?_))) | refine And.intro rfl ?_ | refine Exists.intro _ (And.intro rfl (And.intro (Nat.le_of_ble_eq_true rfl) ?_)) | refine Exists.intro _ (And.intro (DW.modD_ok (by omega)) ?_) | refine Exists.intro _ (And.intro (DW.divD_ok (by omega) (by omega)) ?_) | refine Exists.intro _ (And.intro (DW.mulD_ok (by omega)) ?_) | refine Exists.intro _ (And.intro (DW.ix_ps (by omega) (by omega)) ?_) | refine Exists.intro _ (And.intro (DW.eqS_ok (by assumption) (by decide +kernel)) ?_) | refine And.intro (Nat.le_of_ble_eq_true rfl) ?_))
    refine Exists.intro _ (And.intro rfl ?_)
    refine Exists.intro _ (And.intro (hat _) ?_)
    refine Exists.intro _ (And.intro rfl ?_)
    refine Exists.intro _ (And.intro (in_t hw) ?_)
    refine Exists.intro _ (And.intro rfl ?_)
    refine r_not (fun q => ?_) fun q => ?_
    · exact hr q
    · exact hn q
  | none => (repeat first | refine Exists.intro _ (And.intro DW.lenP_ok ?_) | refine Exists.intro _ (And.intro DW.lenT_ok ?_) | refine Exists.intro _ (And.intro DW.lenL_ok ?_) | refine Exists.intro _ (And.intro rfl ?_) | refine Exists.intro _ (Exists.intro _ (And.intro rfl ?_)) | refine Exists.intro _ (Exists.intro _ (And.intro rfl (And.intro rfl ?_))) | refine And.intro rfl ?_ | refine Exists.intro _ (And.intro rfl (And.intro (Nat.le_of_ble_eq_true rfl) ?_)) | refine Exists.intro _ (And.intro (DW.modD_ok (by omega)) ?_) | refine Exists.intro _ (And.intro (DW.divD_ok (by omega) (by omega)) ?_) | refine Exists.intro _ (And.intro (DW.mulD_ok (by omega)) ?_) | refine Exists.intro _ (And.intro (DW.ix_ps (by omega) (by omega)) ?_) | refine Exists.intro _ (And.intro (DW.eqS_ok (by assumption) (by decide +kernel)) ?_) | refine And.intro (Nat.le_of_ble_eq_true rfl) ?_); exact hr rfl
  | bool b => (repeat first | refine Exists.intro _ (And.intro DW.lenP_ok ?_) | refine Exists.intro _ (And.intro DW.lenT_ok ?_) | refine Exists.intro _ (And.intro DW.lenL_ok ?_) | refine Exists.intro _ (And.intro rfl ?_) | refine Exists.intro _ (Exists.intro _ (And.intro rfl ?_)) | refine Exists.intro _ (Exists.intro _ (And.intro rfl (And.intro rfl ?_))) | refine And.intro rfl ?_ | refine Exists.intro _ (And.intro rfl (And.intro (Nat.le_of_ble_eq_true rfl) ?_)) | refine Exists.intro _ (And.intro (DW.modD_ok (by omega)) ?_) | refine Exists.intro _ (And.intro (DW.divD_ok (by omega) (by omega)) ?_) | refine Exists.intro _ (And.intro (DW.mulD_ok (by omega)) ?_) | refine Exists.intro _ (And.intro (DW.ix_ps (by omega) (by omega)) ?_) | refine Exists.intro _ (And.intro (DW.eqS_ok (by assumption) (by decide +kernel)) ?_) | refine And.intro (Nat.le_of_ble_eq_true rfl) ?_); exact hr rfl
  | int b => (repeat first | refine Exists.intro _ (And.intro DW.lenP_ok ?_) | refine Exists.intro _ (And.intro DW.lenT_ok ?_) | refine Exists.intro _ (And.intro DW.lenL_ok ?_) | refine Exists.intro _ (And.intro rfl ?_) | refine Exists.intro _ (Exists.intro _ (And.intro rfl ?_)) | refine Exists.intro _ (Exists.intro _ (And.intro rfl (And.intro rfl ?_))) | refine And.intro rfl ?_ | refine Exists.intro _ (And.intro rfl (And.intro (Nat.le_of_ble_eq_true rfl) ?_)) | refine Exists.intro _ (And.intro (DW.modD_ok (by omega)) ?_) | refine Exists.intro _ (And.intro (DW.divD_ok (by omega) (by omega)) ?_) | refine Exists.intro _ (And.intro (DW.mulD_ok (by omega)) ?_) | refine Exists.intro _ (And.intro (DW.ix_ps (by omega) (by omega)) ?_) | refine Exists.intro _ (And.intro (DW.eqS_ok (by assumption) (by decide +kernel)) ?_) | refine And.intro (Nat.le_of_ble_eq_true rfl) ?_); exact hr rfl
  | tuple b => (repeat first | refine Exists.intro _ (And.intro DW.lenP_ok ?_) | refine Exists.intro _ (And.intro DW.lenT_ok ?_) | refine Exists.intro _ (And.intro DW.lenL_ok ?_) | refine Exists.intro _ (And.intro rfl ?_) | refine Exists.intro _ (Exists.intro _ (And.intro rfl ?_)) | refine Exists.intro _ (Exists.intro _ (And.intro rfl (And.intro rfl ?_))) | refine And.intro rfl ?_ | refine Exists.intro _ (And.intro rfl (And.intro (Nat.le_of_ble_eq_true rfl) ?_)) | refine Exists.intro _ (And.intro (DW.modD_ok (by omega)) ?_) | refine Exists.intro _ (And.intro (DW.divD_ok (by omega) (by omega)) ?_) | refine Exists.intro _ (And.intro (DW.mulD_ok (by omega)) ?_) | refine Exists.intro _ (And.intro (DW.ix_ps (by omega) (by omega)) ?_) | refine Exists.intro _ (And.intro (DW.eqS_ok (by assumption) (by decide +kernel)) ?_) | refine And.intro (Nat.le_of_ble_eq_true rfl) ?_); exact hr rfl
  | list b => (repeat first | refine Exists.intro _ (And.intro DW.lenP_ok ?_) | refine Exists.intro _ (And.intro DW.lenT_ok ?_) | refine Exists.intro _ (And.intro DW.lenL_ok ?_) | refine Exists.intro _ (And.intro rfl ?_) | refine Exists.intro _ (Exists.intro _ (And.intro rfl ?_)) | refine Exists.intro _ (Exists.intro _ (And.intro rfl (And.intro rfl ?_))) | refine And.intro rfl ?_ | refine Exists.intro _ (And.intro rfl (And.intro (Nat.le_of_ble_eq_true rfl) ?_)) | refine Exists.intro _ (And.intro (DW.modD_ok (by omega)) ?_) | refine Exists.intro _ (And.intro (DW.divD_ok (by omega) (by omega)) ?_) | refine Exists.intro _ (And.intro (DW.mulD_ok (by omega)) ?_) | refine Exists.intro _ (And.intro (DW.ix_ps (by omega) (by omega)) ?_) | refine Exists.intro _ (And.intro (DW.eqS_ok (by assumption) (by decide +kernel)) ?_) | refine And.intro (Nat.le_of_ble_eq_true rfl) ?_); exact hr rfl
  | dict b => cases hx
theorem q_law_is_rule {d L : Nat} {v : PyData} (hv : Vl d L v) (h : k (.d (.bool (rulB v))) []) : F_law_is_rule [.d v] [] k kx := by
  show w_law_is_rule (qE v none none) [] (fE k kx)
  rw [lr_eq]
  cases hb : tupB 6 6 v with
  | false =>
    refine lr0_bad hv.flat hb ?_
    rw [rul_6 hb] at h
    exact h
  | true =>
    obtain ⟨a, b, c, d, e, f, rfl⟩ := tup6 hb
    obtain ⟨_, -, -, hi⟩ := hv.items
    have ho : rulB (.tuple [a, b, c, d, e, f]) = (inV v0 a && (inV v0 b && (inV v2 c && (inV v3 d && (inV v4 e && (inV v5 f && true)))))) := rfl
    rw [ho] at h
    refine lr0_ok ?_
    refine And.intro (DW.nodB_ok rfl) ?_
    refine Exists.intro _ (And.intro rfl ?_)
    refine s_values (res_0 ?_)
    repeat (first | refine lrb_ok (x := a) (ws := v0) (fun _ => rfl) (hi a (by simp)).flat rfl (fun q => ?_) (fun qa => ?_) | (iterate 1 (first | refine Exists.intro _ (And.intro DW.lenP_ok ?_) | refine Exists.intro _ (And.intro DW.lenT_ok ?_) | refine Exists.intro _ (And.intro DW.lenL_ok ?_) | refine Exists.intro _ (And.intro rfl ?_) | refine Exists.intro _ (Exists.intro _ (And.intro rfl ?_)) | refine Exists.intro _ (Exists.intro _ (And.intro rfl (And.intro rfl ?_))) | refine And.intro rfl ?_ | refine Exists.intro _ (And.intro rfl (And.intro (Nat.le_of_ble_eq_true rfl) ?_)) | refine Exists.intro _ (And.intro (DW.modD_ok (by omega)) ?_) | refine Exists.intro _ (And.intro (DW.divD_ok (by omega) (by omega)) ?_) | refine Exists.intro _ (And.intro (DW.mulD_ok (by omega)) ?_) | refine Exists.intro _ (And.intro (DW.ix_ps (by omega) (by omega)) ?_) | refine Exists.intro _ (And.intro (DW.eqS_ok (by assumption) (by decide +kernel)) ?_) | refine And.intro (Nat.le_of_ble_eq_true rfl) ?_)) | refine And.intro trivial ?_)
    · rw [q] at h
      exact h
    rw [qa] at h
    repeat (first | refine lrb_ok (x := b) (ws := v0) (fun _ => rfl) (hi b (by simp)).flat rfl (fun q => ?_) (fun qb => ?_) | (iterate 1 (first | refine Exists.intro _ (And.intro DW.lenP_ok ?_) | refine Exists.intro _ (And.intro DW.lenT_ok ?_) | refine Exists.intro _ (And.intro DW.lenL_ok ?_) | refine Exists.intro _ (And.intro rfl ?_) | refine Exists.intro _ (Exists.intro _ (And.intro rfl ?_)) | refine Exists.intro _ (Exists.intro _ (And.intro rfl (And.intro rfl ?_))) | refine And.intro rfl ?_ | refine Exists.intro _ (And.intro rfl (And.intro (Nat.le_of_ble_eq_true rfl) ?_)) | refine Exists.intro _ (And.intro (DW.modD_ok (by omega)) ?_) | refine Exists.intro _ (And.intro (DW.divD_ok (by omega) (by omega)) ?_) | refine Exists.intro _ (And.intro (DW.mulD_ok (by omega)) ?_) | refine Exists.intro _ (And.intro (DW.ix_ps (by omega) (by omega)) ?_) | refine Exists.intro _ (And.intro (DW.eqS_ok (by assumption) (by decide +kernel)) ?_) | refine And.intro (Nat.le_of_ble_eq_true rfl) ?_)) | refine And.intro trivial ?_)
    · rw [q] at h
      exact h
    rw [qb] at h
    repeat (first | refine lrb_ok (x := c) (ws := v2) (fun _ => rfl) (hi c (by simp)).flat rfl (fun q => ?_) (fun qc => ?_) | (iterate 1 (first | refine Exists.intro _ (And.intro DW.lenP_ok ?_) | refine Exists.intro _ (And.intro DW.lenT_ok ?_) | refine Exists.intro _ (And.intro DW.lenL_ok ?_) | refine Exists.intro _ (And.intro rfl ?_) | refine Exists.intro _ (Exists.intro _ (And.intro rfl ?_)) | refine Exists.intro _ (Exists.intro _ (And.intro rfl (And.intro rfl ?_))) | refine And.intro rfl ?_ | refine Exists.intro _ (And.intro rfl (And.intro (Nat.le_of_ble_eq_true rfl) ?_)) | refine Exists.intro _ (And.intro (DW.modD_ok (by omega)) ?_) | refine Exists.intro _ (And.intro (DW.divD_ok (by omega) (by omega)) ?_) | refine Exists.intro _ (And.intro (DW.mulD_ok (by omega)) ?_) | refine Exists.intro _ (And.intro (DW.ix_ps (by omega) (by omega)) ?_) | refine Exists.intro _ (And.intro (DW.eqS_ok (by assumption) (by decide +kernel)) ?_) | refine And.intro (Nat.le_of_ble_eq_true rfl) ?_)) | refine And.intro trivial ?_)
    · rw [q] at h
      exact h
    rw [qc] at h
    repeat (first | refine lrb_ok (x := d) (ws := v3) (fun _ => rfl) (hi d (by simp)).flat rfl (fun q => ?_) (fun qd => ?_) | (iterate 1 (first | refine Exists.intro _ (And.intro DW.lenP_ok ?_) | refine Exists.intro _ (And.intro DW.lenT_ok ?_) | refine Exists.intro _ (And.intro DW.lenL_ok ?_) | refine Exists.intro _ (And.intro rfl ?_) | refine Exists.intro _ (Exists.intro _ (And.intro rfl ?_)) | refine Exists.intro _ (Exists.intro _ (And.intro rfl (And.intro rfl ?_))) | refine And.intro rfl ?_ | refine Exists.intro _ (And.intro rfl (And.intro (Nat.le_of_ble_eq_true rfl) ?_)) | refine Exists.intro _ (And.intro (DW.modD_ok (by omega)) ?_) | refine Exists.intro _ (And.intro (DW.divD_ok (by omega) (by omega)) ?_) | refine Exists.intro _ (And.intro (DW.mulD_ok (by omega)) ?_) | refine Exists.intro _ (And.intro (DW.ix_ps (by omega) (by omega)) ?_) | refine Exists.intro _ (And.intro (DW.eqS_ok (by assumption) (by decide +kernel)) ?_) | refine And.intro (Nat.le_of_ble_eq_true rfl) ?_)) | refine And.intro trivial ?_)
    · rw [q] at h
      exact h
    rw [qd] at h
    repeat (first | refine lrb_ok (x := e) (ws := v4) (fun _ => rfl) (hi e (by simp)).flat rfl (fun q => ?_) (fun qe => ?_) | (iterate 1 (first | refine Exists.intro _ (And.intro DW.lenP_ok ?_) | refine Exists.intro _ (And.intro DW.lenT_ok ?_) | refine Exists.intro _ (And.intro DW.lenL_ok ?_) | refine Exists.intro _ (And.intro rfl ?_) | refine Exists.intro _ (Exists.intro _ (And.intro rfl ?_)) | refine Exists.intro _ (Exists.intro _ (And.intro rfl (And.intro rfl ?_))) | refine And.intro rfl ?_ | refine Exists.intro _ (And.intro rfl (And.intro (Nat.le_of_ble_eq_true rfl) ?_)) | refine Exists.intro _ (And.intro (DW.modD_ok (by omega)) ?_) | refine Exists.intro _ (And.intro (DW.divD_ok (by omega) (by omega)) ?_) | refine Exists.intro _ (And.intro (DW.mulD_ok (by omega)) ?_) | refine Exists.intro _ (And.intro (DW.ix_ps (by omega) (by omega)) ?_) | refine Exists.intro _ (And.intro (DW.eqS_ok (by assumption) (by decide +kernel)) ?_) | refine And.intro (Nat.le_of_ble_eq_true rfl) ?_)) | refine And.intro trivial ?_)
    · rw [q] at h
      exact h
    rw [qe] at h
    repeat (first | refine lrb_ok (x := f) (ws := v5) (fun _ => rfl) (hi f (by simp)).flat rfl (fun q => ?_) (fun qf => ?_) | (iterate 1 (first | refine Exists.intro _ (And.intro DW.lenP_ok ?_) | refine Exists.intro _ (And.intro DW.lenT_ok ?_) | refine Exists.intro _ (And.intro DW.lenL_ok ?_) | refine Exists.intro _ (And.intro rfl ?_) | refine Exists.intro _ (Exists.intro _ (And.intro rfl ?_)) | refine Exists.intro _ (Exists.intro _ (And.intro rfl (And.intro rfl ?_))) | refine And.intro rfl ?_ | refine Exists.intro _ (And.intro rfl (And.intro (Nat.le_of_ble_eq_true rfl) ?_)) | refine Exists.intro _ (And.intro (DW.modD_ok (by omega)) ?_) | refine Exists.intro _ (And.intro (DW.divD_ok (by omega) (by omega)) ?_) | refine Exists.intro _ (And.intro (DW.mulD_ok (by omega)) ?_) | refine Exists.intro _ (And.intro (DW.ix_ps (by omega) (by omega)) ?_) | refine Exists.intro _ (And.intro (DW.eqS_ok (by assumption) (by decide +kernel)) ?_) | refine And.intro (Nat.le_of_ble_eq_true rfl) ?_)) | refine And.intro trivial ?_)
    · rw [q] at h
      exact h
    rw [qf] at h
    exact h
end
end Lw

set_option maxRecDepth 100000
set_option maxHeartbeats 1000000
set_option synthInstance.maxSize 1000000
set_option synthInstance.maxHeartbeats 0
set_option linter.all false
set_option pp.maxSteps 400
namespace Lw
open PySem L2 DW
/-! M01Z: the list of all rules; sorted(set(rules)). -/
def rules : List PyData := v0.flatMap fun a => v0.flatMap fun b => v2.flatMap fun c => v3.flatMap fun d => v4.flatMap fun e => v5.map fun f => .tuple [a, b, c, d, e, f]
abbrev stepL (xs : List (List PyData)) (vs : List PyData) : List (List PyData) := xs.flatMap fun r => vs.map fun v => r ++ [v]
abbrev evT : DE := op2W addD (varW 2) (tupW (consA (varW 3) nilA))
section
variable {k : DK} {kx : DX}
theorem ev_in {f b : Option DV} {x : List PyData} (hx : x.length ≤ 1000) : ∀ (vs acc : List PyData) (S : Sto) (K : List PyData → Sto → Prop), vs.length + acc.length ≤ 1000000 → K (acc ++ vs.map fun v => .tuple (x ++ [v])) S →
    lcL (bindN 3) yesT evT [f, b, some (.d (.tuple x)), none] (vs.map .d) acc S K := fun vs acc S K hl h =>
  lc_all (S := S) (fun v => DV.d v) (fun v => .tuple (x ++ [v])) vs acc K (fun v hv => by
    refine Exists.intro _ (And.intro rfl ?_)
    refine Exists.intro _ (And.intro rfl ?_)
    refine Exists.intro _ (And.intro rfl ?_)
    refine Exists.intro _ (And.intro rfl (And.intro (Nat.le_of_ble_eq_true rfl) ?_))
    refine Exists.intro _ (And.intro (addT_ok (by simp; omega)) ?_)
    exact ⟨rfl, rfl⟩) hl h
theorem ev_loop {f : Option DV} {vs : List PyData} : ∀ (xs : List (List PyData)) (acc : List PyData) (S : Sto) (K : List PyData → Sto → Prop), (∀ x ∈ xs, x.length ≤ 1000) → acc.length + (xs.length + 1) * vs.length ≤ 1000000 →
    K (acc ++ (stepL xs vs).map .tuple) S →
    lc2L (bindN 2) yesT (seqI (varW 1)) (bindN 3) yesT evT [3] [f, some (.d (.tuple vs)), none, none] (xs.map fun x => .d (.tuple x)) acc S K
  | [], acc, S, K, _, _, h => by
    show K acc S
    simpa [stepL] using h
  | x :: r, acc, S, K, hx, hl, h => by
    refine Exists.intro _ (And.intro rfl ?_)
    rw [show ∀ (e : DEnv) (S : Sto) (k : Bool → Sto → Prop) (x : DX), yesT e S k x = k true S from fun _ _ _ _ => rfl, if_pos rfl]
    refine Exists.intro _ (And.intro rfl (And.intro trivial (Exists.intro _ (Exists.intro _ (And.intro rfl ?_)))))
    simp only [List.length_cons] at hl
    have hm : (r.length + 1 + 1) * vs.length = (r.length + 1) * vs.length + vs.length := Nat.succ_mul _ _
    have h0 : vs.length ≤ (r.length + 1) * vs.length := Nat.le_mul_of_pos_left _ (by omega)
    refine ev_in (hx x List.mem_cons_self) vs acc S _ (by omega) ?_
    refine ev_loop r _ S K (fun y hy => hx y (List.mem_cons_of_mem _ hy)) (by rw [List.length_append, List.length_map]; omega) ?_
    simpa [stepL, List.flatMap_cons, List.append_assoc, Function.comp_def] using h
/-- what a turn makes of the found ones -/
theorem ev_body {xs : List (List PyData)} {vs : List PyData} {x2 x3 : Option DV} {D : DEnds} (hx : ∀ x ∈ xs, x.length ≤ 1000) (hl : (xs.length + 1) * vs.length ≤ 1000000)
    (h : D.nx [some (.d (.list ((stepL xs vs).map .tuple))), some (.d (.tuple vs)), x2, x3] []) :
    (seqS (asgS 0 (lc2W (seqI (varW 0)) (bindN 2) yesT (seqI (varW 1)) (bindN 3) yesT evT [2, 3] [3])) nextS) [some (.d (.list (xs.map .tuple))), some (.d (.tuple vs)), x2, x3] [] D := by
  refine Exists.intro _ (And.intro rfl (And.intro trivial (Exists.intro _ (Exists.intro _ (And.intro rfl ?_)))))
  rw [List.map_map]
  exact ev_loop xs [] [] _ hx (by simpa using hl) h
theorem sorted_rules {S : Sto} : sortedD [.d (.list rules)] S = some (.d (.list rules)) := by
  show (if okSort rules = true ∧ rules.length ≤ 1000000 then some (DV.d (.list (sortD rules))) else none) = _
  rw [if_pos ⟨by kernel_rfl, by decide +kernel⟩, sortD_id (by kernel_rfl)]
theorem steps_rules : (stepL (stepL (stepL (stepL (stepL (stepL [[]] v0) v0) v2) v3) v4) v5).map PyData.tuple = rules := by kernel_rfl
theorem q_every (h : ∀ S, k (.d (.list rules)) S) : F_every_rule [] [] k kx := by
  refine Exists.intro _ (And.intro rfl (And.intro (Nat.le_of_ble_eq_true rfl) ?_))
  refine Exists.intro _ (And.intro rfl (And.intro (Nat.le_of_ble_eq_true rfl) ?_))
  refine And.intro trivial (Exists.intro _ (Exists.intro _ (And.intro rfl ?_)))
  refine ev_body (xs := [[]]) (vs := v0) (by decide) (by decide) ?_
  refine ev_body (xs := stepL [[]] v0) (vs := v0) (by decide +kernel) (by decide +kernel) ?_
  refine ev_body (xs := stepL (stepL [[]] v0) v0) (vs := v2) (by decide +kernel) (by decide +kernel) ?_
  refine ev_body (xs := stepL (stepL (stepL [[]] v0) v0) v2) (vs := v3) (by decide +kernel) (by decide +kernel) ?_
  refine ev_body (xs := stepL (stepL (stepL (stepL [[]] v0) v0) v2) v3) (vs := v4) (by decide +kernel) (by decide +kernel) ?_
  refine ev_body (xs := stepL (stepL (stepL (stepL (stepL [[]] v0) v0) v2) v3) v4) (vs := v5) (by decide +kernel) (by decide +kernel) ?_
  rw [steps_rules]
  refine Exists.intro _ (And.intro rfl ?_)
  refine Exists.intro _ (And.intro sorted_rules ?_)
  exact h _

theorem q_all_rules (h : ∀ S, k (.d (.list rules)) S) : F_all_rules [] [] k kx := by
  refine And.intro (DW.nodB_ok rfl) ?_
  refine Exists.intro _ (And.intro rfl ?_)
  exact q_every fun S => res_0 (h _)
end
/-! sorted strictly -/
abbrev leD2 (a b : PyData) : Bool := PySem.W.dataLe false (id : PyData → PyData) a b
def adjS : List PyData → Bool
  | x :: y :: r => (leD2 x y && !leD2 y x) && adjS (y :: r)
  | _ => true
abbrev Str2 (a b : PyData) : Prop := leD2 a b = true ∧ leD2 b a = false
theorem adjS_pw : ∀ l : List PyData, adjS l = true → l.Pairwise Str2
  | [], _ => .nil
  | [x], _ => List.pairwise_singleton _ _
  | x :: y :: r, h => by
    unfold adjS at h
    obtain ⟨h1, h2⟩ := two h
    obtain ⟨h3, h4⟩ := two h1
    have h4 : leD2 y x = false := by simpa using h4
    have ih := adjS_pw (y :: r) h2
    refine List.pairwise_cons.mpr ⟨fun z hz => ?_, ih⟩
    rcases List.mem_cons.mp hz with rfl | hz
    · exact ⟨h3, h4⟩
    · have q := (List.pairwise_cons.mp ih).1 z hz
      refine ⟨dle_total.trans _ _ _ h3 q.1, ?_⟩
      cases e : leD2 z x with
      | false => rfl
      | true =>
        have := dle_total.trans _ _ _ q.1 e
        rw [show leD2 y x = true from this] at h4
        exact h4
theorem pw_tri {α : Type} {R : α → α → Prop} : ∀ {l : List α}, l.Pairwise R → ∀ {a b : α}, a ∈ l → b ∈ l → a = b ∨ R a b ∨ R b a
  | [], _, _, _, h, _ => nomatch h
  | x :: l, h, a, b, ha, hb => by
    obtain ⟨h1, h2⟩ := List.pairwise_cons.mp h
    rcases List.mem_cons.mp ha with ea | ha2
    · rcases List.mem_cons.mp hb with eb | hb2
      · exact .inl (ea.trans eb.symm)
      · exact .inr (.inl (ea ▸ h1 _ hb2))
    · rcases List.mem_cons.mp hb with eb | hb2
      · exact .inr (.inr (eb ▸ h1 _ ha2))
      · exact pw_tri h2 ha2 hb2
theorem str_nodup {l : List PyData} (h : l.Pairwise Str2) : l.Nodup := h.imp fun h e => by
  subst e
  exact absurd (h.1.symm.trans h.2) (by decide)
theorem str_uniq {l m : List PyData} (h : l.Pairwise Str2) (hp : m.Perm l) (hm : m.Pairwise fun a b => leD2 a b = true) : m = l :=
  List.Perm.eq_of_pairwise (fun a b ha hb h3 h4 => by
    rcases pw_tri h (hp.mem_iff.mp ha) hb with q | q | q
    · exact q
    · exact absurd (q.2.symm.trans h4) (by decide)
    · exact absurd (q.2.symm.trans h3) (by decide)) hm (h.imp fun h => h.1) hp
def z0 : List Str := ["now", "turn"]
def z2 : List Str := ["days", "early", "none", "ups"]
def z3 : List Str := ["anew", "days", "full"]
def z4 : List Str := ["back", "lost"]
def z5 : List Str := ["down", "near", "up"]
def rws : List (List Str) := z0.flatMap fun a => z0.flatMap fun b => z2.flatMap fun c => z3.flatMap fun d => z4.flatMap fun e => z5.map fun f => [a, b, c, d, e, f]
theorem rules_rws : rules = rws.map KS.rowD := by kernel_rfl
theorem rules_pw : rules.Pairwise Str2 := adjS_pw _ (by kernel_rfl)
theorem rws_nodup : rws.Nodup := by
  have h := str_nodup rules_pw
  rw [rules_rws] at h
  exact (List.pairwise_map.mp h).imp fun h e => h (by rw [e])
theorem rws_ne : ∀ z ∈ rws, z ≠ [] := by
  have h : (rws.all fun z => !z.isEmpty) = true := by kernel_rfl
  intro z hz e
  subst e
  exact absurd (List.all_eq_true.mp h _ hz) (by decide)
theorem rws_few : rws.length < 300 := by decide +kernel
theorem rules_len : rules.length = 288 := by decide +kernel
/-! values by computing -/
def vlC : Nat → Nat → PyData → Bool
  | 0, _, x => leafB x
  | d + 1, L, x => leafB x || match x with
    | .tuple xs => decide (xs.length ≤ L) && xs.all (vlC d L)
    | _ => false
theorem vlC_ok : ∀ {d L : Nat} {x : PyData}, vlC d L x = true → Vl d L x
  | 0, _, _, h => .leaf h
  | d + 1, L, x, h => by
    unfold vlC at h
    rcases Bool.or_eq_true_iff.mp h with h | h
    · exact .leaf h
    · cases x with
      | tuple xs =>
        obtain ⟨h1, h2⟩ := two (show (decide (xs.length ≤ L) && xs.all (vlC d L)) = true from h)
        exact .tup (of_decide_eq_true h1) fun x hx => vlC_ok (List.all_eq_true.mp h2 x hx)
      | _ => cases h
theorem rules_vl : ∀ r ∈ rules, Vl 1 6 r := by
  have h : (rules.all (vlC 1 6)) = true := by kernel_rfl
  exact fun r hr => vlC_ok (List.all_eq_true.mp h r hr)
theorem rules_rul : ∀ r ∈ rules, rulB r = true := by
  have h : (rules.all rulB) = true := by kernel_rfl
  exact fun r hr => List.all_eq_true.mp h r hr
theorem rules_sh : SeqAt.shaped (.list rules) = true := sh_list (n := 2) (fun r hr => (rules_vl r hr).lay) (by omega)
theorem ne_self {d : PyData} {S : Sto} (h : SeqAt.shaped d = true) : neD (.d d) (.d d) S = some (.d (.bool false)) := by
  show (if SeqAt.shaped d = true ∧ SeqAt.shaped d = true then some (DV.d (.bool (!PyData.eqv d d))) else none) = _
  rw [if_pos ⟨h, h⟩, SeqAt.eqv_refl d (SeqAt.canLay_of_shaped h)]
  rfl
end Lw

set_option maxRecDepth 100000
set_option maxHeartbeats 1000000
set_option synthInstance.maxSize 1000000
set_option synthInstance.maxHeartbeats 0
set_option linter.all false
set_option pp.maxSteps 400
namespace Lw
open PySem L2 DW
/-! M01ZY: the statements of the law. -/
abbrev li0 : DS := (asgS 10 (lstW (consA (callW F_is_offer (consA (varW 8) nilA)) (consA (callW F_is_rule (consA (varW 9) nilA)) nilA))))
abbrev li1 : DS := (ifS (testW (op2W neD (lcW (seqI (varW 10)) (bindN 12) (notW (testW (op1W (isiD .bool) (varW 12)))) (varW 12) [12]) (lstW nilA))) (seqS (retS (cW (.bool false))) nextS) nextS)
abbrev li2 : DS := (ifS (testW (op2W neD (varW 10) (lstW (consA (callW F_law_is_offer (consA (varW 8) nilA)) (consA (callW F_law_is_rule (consA (varW 9) nilA)) nilA))))) (seqS (retS (cW (.bool false))) nextS) nextS)
abbrev li3 : DS := (asgS 8 (callW F_law_bent (consA (varW 4) (consA (ifW (testW (op2W eqD (op2W modD (varW 5) (cW (.int 3))) (cW (.int 0)))) (varW 6) (varW 8)) nilA))))
abbrev li4 : DS := (asgS 9 (callW F_law_bent (consA (varW 4) (consA (ifW (testW (op2W eqD (op2W modD (varW 5) (cW (.int 3))) (cW (.int 0)))) (varW 7) (varW 9)) nilA))))
abbrev lb0 : DS := (asgS 4 (callW F_law_source (consA (varW 0) (consA (varW 1) nilA))))
abbrev lb1 : DS := (par2S 6 7 (consA (callW F_law_offer (consA (varW 4) (consA (cW (.int 3)) nilA))) (consA (callW F_law_rule (consA (varW 4) nilA)) nilA)))
abbrev lb2 : DS := (par2S 8 9 (consA (varW 6) (consA (varW 7) nilA)))
abbrev lb4 : DS := (ifS (orW (testW (op2W isnBD (callW F_is_offer (consA (callNW listD (consA (varW 6) nilA)) nilA)) (cW (.bool false)))) (testW (op2W isnBD (callW F_is_rule (consA (callNW listD (consA (varW 7) nilA)) nilA)) (cW (.bool false))))) (seqS (retS (cW (.bool false))) nextS) nextS)
abbrev lt0 : DS := (asgS 2 (lstW (consA (tupW (consA (tupW (consA (cW (.int 6)) (consA (cW (.int 6)) nilA))) (consA (tupW (consA (cW (.int 4)) nilA)) nilA))) (consA (tupW (consA (tupW (consA (cW (.int 1)) (consA (cW (.int 30)) nilA))) (consA (tupW (consA (cW (.int 2)) (consA (cW (.int 6)) (consA (cW (.int 2)) nilA)))) nilA))) (consA (tupW (consA (tupW (consA (cW (.int 0)) nilA)) (consA (tupW (consA (cW (.int 4)) nilA)) nilA))) (consA (tupW (consA (tupW (consA (cW (.int 31)) nilA)) (consA (tupW (consA (cW (.int 4)) nilA)) nilA))) (consA (tupW (consA (tupW (consA (cW (.int 5)) nilA)) (consA (tupW (consA (cW (.int 1)) nilA)) nilA))) (consA (tupW (consA (tupW (consA (cW (.int 5)) nilA)) (consA (tupW (consA (cW (.int 7)) nilA)) nilA))) (consA (tupW (consA (tupW nilA) (consA (tupW (consA (cW (.int 4)) nilA)) nilA))) nilA)))))))))
abbrev lt1 : DS := (asgS 2 (op2W addD (varW 2) (lstW (consA (tupW (consA (tupW (consA (cW (.int 1)) (consA (cW (.int 2)) (consA (cW (.int 3)) (consA (cW (.int 4)) nilA))))) (consA (tupW (consA (cW (.int 4)) nilA)) nilA))) (consA (tupW (consA (tupW (consA (cW (.int 5)) nilA)) (consA (tupW nilA) nilA))) (consA (tupW (consA (tupW (consA (cW (.int 5)) nilA)) (consA (tupW (consA (cW (.int 2)) (consA (cW (.int 2)) (consA (cW (.int 2)) (consA (cW (.int 2)) nilA))))) nilA))) (consA (tupW (consA (tupW (consA (cW (.int 5)) (consA (cW (.int 3)) nilA))) (consA (tupW (consA (cW (.int 4)) nilA)) nilA))) nilA)))))))
abbrev lt2 : DS := (asgS 2 (op2W addD (varW 2) (lstW (consA (tupW (consA (tupW (consA (cW (.bool true)) nilA)) (consA (tupW (consA (cW (.int 4)) nilA)) nilA))) (consA (tupW (consA (tupW (consA (cW (.int 5)) nilA)) (consA (tupW (consA (cW (.int 4)) nilA)) (consA (cW (.int 0)) nilA)))) nilA)))))
abbrev lt3 : DS := (ifS (testW (op2W neD (lcW (seqI (varW 2)) (bindN 11) (testW (op2W neD (callW F_is_offer (consA (varW 11) nilA)) (callW F_law_is_offer (consA (varW 11) nilA)))) (varW 11) [11]) (lstW nilA))) (seqS (retS (cW (.bool false))) nextS) nextS)
abbrev lt4 : DS := (asgS 3 (callW F_all_rules nilA))
abbrev lt5 : DS := (ifS (orW (notW (testW (op1W (isiD .list) (varW 3)))) (orW (testW (op2W neD (varW 3) (KS.sortSetW (varW 3)))) (testW (op2W neD (callNW lenD (consA (varW 3) nilA)) (cW (.int 288)))))) (seqS (retS (cW (.bool false))) nextS) nextS)
abbrev lt6 : DS := (ifS (testW (callW F_is_rule (consA (tupW (consA (cW (.str "now")) (consA (cW (.str "now")) (consA (cW (.str "")) (consA (cW (.str "days")) (consA (cW (.str "back")) (consA (cW (.str "up")) nilA))))))) nilA))) (seqS (retS (cW (.bool false))) nextS) nextS)
abbrev lt7 : DS := (retS (op2W eqD (lcW (seqI (varW 3)) (bindN 7) (notW (testW (callW F_law_is_rule (consA (varW 7) nilA)))) (varW 7) [7]) (lstW nilA)))
theorem law_eq : w_law = (seqS (forS (rng1I (op2W addD (cW (.int 1)) (callNW minD (consA (callNW lenD (consA (varW 0) nilA)) (consA (cW (.int 10)) nilA))))) (nameG 1) (seqS lb0 (seqS lb1 (seqS lb2 (seqS (forS (rng1I (cW (.int 11))) (nameG 5) (seqS li0 (seqS li1 (seqS li2 (seqS li3 (seqS li4 nextS)))))) (seqS lb4 nextS)))))) (seqS lt0 (seqS lt1 (seqS lt2 (seqS lt3 (seqS lt4 (seqS lt5 (seqS lt6 (seqS lt7 nextS))))))))) := rfl
theorem get_last {S : Sto} {o : SO} : (S ++ [o])[S.length]? = some o := by simp
theorem set_last {S : Sto} {o o' : SO} : (S ++ [o]).set S.length o' = S ++ [o'] := by simp
abbrev lE (ns : List Int) (x1 x2 x3 : Option DV) (n : Nat) (x5 : Option DV) (o r one other : PyData) (x10 x11 x12 : Option DV) : DEnv :=
  [some (.s ns), x1, x2, x3, some (.p n), x5, some (.d o), some (.d r), some (.d one), some (.d other), x10, x11, x12]
section
variable {ns : List Int} {x1 x2 x3 x4 x5 x6 x7 x8 x9 x10 x11 x12 : Option DV} {n : Nat} {o r one other : PyData} {D : DEnds} {S : Sto} {k : DK} {kx : DX} {d L : Nat} {x y i : Int}
abbrev told (a b : Bool) : Option DV := some (.d (.list [.bool a, .bool b]))
theorem is_offer_bad2 {v : PyData} (hv : flat5 v = true) (hb : tupB 2 2 v = false) (h : k (.d (.bool false)) []) : F_is_offer [.d v] [] k kx := by
  show w_is_offer (oE v none none none) [] (fE k kx)
  rw [io_eq]
  exact io0_bad hv hb h
theorem li0_ok (h1 : Vl d L one) (h2 : Vl d L other) (h : D.nx (lE ns x1 x2 x3 n x5 o r one other (told (offB one) (rulB other)) x11 x12) S) : li0 (lE ns x1 x2 x3 n x5 o r one other x10 x11 x12) S D := by
  refine Exists.intro _ (And.intro rfl ?_)
  refine And.intro (DW.nodB_ok rfl) ?_
  refine Exists.intro _ (And.intro rfl ?_)
  refine q_is_offer h1 (res_0 ?_)
  refine Exists.intro _ (And.intro rfl ?_)
  refine And.intro (DW.nodB_ok rfl) ?_
  refine Exists.intro _ (And.intro rfl ?_)
  refine q_is_rule h2 (res_0 ?_)
  refine Exists.intro _ (And.intro rfl (And.intro (Nat.le_of_ble_eq_true rfl) ?_))
  exact h
theorem li1_ok {a b : Bool} (h : D.nx (lE ns x1 x2 x3 n x5 o r one other (told a b) x11 x12) S) : li1 (lE ns x1 x2 x3 n x5 o r one other (told a b) x11 x12) S D := by
  (repeat first | refine Exists.intro _ (And.intro DW.lenP_ok ?_) | refine Exists.intro _ (And.intro DW.lenT_ok ?_) | refine Exists.intro _ (And.intro DW.lenL_ok ?_) | refine Exists.intro _ (And.intro rfl ?_) | refine Exists.intro _ (Exists.intro _ (And.intro rfl ?_)) | refine Exists.intro _ (Exists.intro _ (And.intro rfl (And.intro rfl ?_))) | refine And.intro rfl ?_ | refine Exists.intro _ (And.intro rfl (And.intro (Nat.le_of_ble_eq_true rfl) ?_)) | refine Exists.intro _ (And.intro (DW.modD_ok (by omega)) ?_) | refine Exists.intro _ (And.intro (DW.divD_ok (by omega) (by omega)) ?_) | refine Exists.intro _ (And.intro (DW.mulD_ok (by omega)) ?_) | refine Exists.intro _ (And.intro (DW.ix_ps (by omega) (by omega)) ?_) | refine Exists.intro _ (And.intro (DW.eqS_ok (by assumption) (by decide +kernel)) ?_) | refine And.intro (Nat.le_of_ble_eq_true rfl) ?_)
  refine And.intro trivial (Exists.intro _ (Exists.intro _ (And.intro rfl ?_)))
  (repeat first | refine Exists.intro _ (And.intro DW.lenP_ok ?_) | refine Exists.intro _ (And.intro DW.lenT_ok ?_) | refine Exists.intro _ (And.intro DW.lenL_ok ?_) | refine Exists.intro _ (And.intro rfl ?_) | refine Exists.intro _ (Exists.intro _ (And.intro rfl ?_)) | refine Exists.intro _ (Exists.intro _ (And.intro rfl (And.intro rfl ?_))) | refine And.intro rfl ?_ | refine Exists.intro _ (And.intro rfl (And.intro (Nat.le_of_ble_eq_true rfl) ?_)) | refine Exists.intro _ (And.intro (DW.modD_ok (by omega)) ?_) | refine Exists.intro _ (And.intro (DW.divD_ok (by omega) (by omega)) ?_) | refine Exists.intro _ (And.intro (DW.mulD_ok (by omega)) ?_) | refine Exists.intro _ (And.intro (DW.ix_ps (by omega) (by omega)) ?_) | refine Exists.intro _ (And.intro (DW.eqS_ok (by assumption) (by decide +kernel)) ?_) | refine And.intro (Nat.le_of_ble_eq_true rfl) ?_)
  exact h
theorem li2_ok (h1 : Vl d L one) (h2 : Vl d L other) (hd : d ≤ 50) (h : D.nx (lE ns x1 x2 x3 n x5 o r one other (told (offB one) (rulB other)) x11 x12) S) : li2 (lE ns x1 x2 x3 n x5 o r one other (told (offB one) (rulB other)) x11 x12) S D := by
  refine Exists.intro _ (And.intro rfl ?_)
  refine Exists.intro _ (And.intro rfl ?_)
  refine And.intro (DW.nodB_ok rfl) ?_
  refine Exists.intro _ (And.intro rfl ?_)
  refine q_law_is_offer h1 hd (res_0 ?_)
  refine Exists.intro _ (And.intro rfl ?_)
  refine And.intro (DW.nodB_ok rfl) ?_
  refine Exists.intro _ (And.intro rfl ?_)
  refine q_law_is_rule h2 (res_0 ?_)
  refine Exists.intro _ (And.intro rfl (And.intro (Nat.le_of_ble_eq_true rfl) ?_))
  refine Exists.intro _ (And.intro (ne_self (by cases offB one <;> cases rulB other <;> decide)) ?_)
  refine Exists.intro _ (And.intro rfl ?_)
  refine r_f ?_
  exact h
theorem li3_ok {j : Nat} (hx : 0 ≤ x) (hy : 0 ≤ y) (hy2 : y < 2147483563) (h0 : Vl 2 6 o) (h1 : Vl (2 + j) (6 + j) one) (hj : j ≤ 3)
    (h : ∀ z x' y', Vl (2 + (if i % 3 = 0 then 1 else j + 1)) (6 + (if i % 3 = 0 then 1 else j + 1)) z → 0 ≤ x' → 0 ≤ y' → y' < 2147483563 → D.nx (lE ns x1 x2 x3 S.length (some (iD i)) o r z other x10 x11 x12) (S ++ [srcO x' y'])) :
    li3 (lE ns x1 x2 x3 S.length (some (iD i)) o r one other x10 x11 x12) (S ++ [srcO x y]) D := by
  (repeat first | refine Exists.intro _ (And.intro DW.lenP_ok ?_) | refine Exists.intro _ (And.intro DW.lenT_ok ?_) | refine Exists.intro _ (And.intro DW.lenL_ok ?_) | refine Exists.intro _ (And.intro rfl ?_) | refine Exists.intro _ (Exists.intro _ (And.intro rfl ?_)) | refine Exists.intro _ (Exists.intro _ (And.intro rfl (And.intro rfl ?_))) | refine And.intro rfl ?_ | refine Exists.intro _ (And.intro rfl (And.intro (Nat.le_of_ble_eq_true rfl) ?_)) | refine Exists.intro _ (And.intro (DW.modD_ok (by omega)) ?_) | refine Exists.intro _ (And.intro (DW.divD_ok (by omega) (by omega)) ?_) | refine Exists.intro _ (And.intro (DW.mulD_ok (by omega)) ?_) | refine Exists.intro _ (And.intro (DW.ix_ps (by omega) (by omega)) ?_) | refine Exists.intro _ (And.intro (DW.eqS_ok (by assumption) (by decide +kernel)) ?_) | refine And.intro (Nat.le_of_ble_eq_true rfl) ?_)
  refine DW.r_eqi (fun hc => ?_) (fun hc => ?_)
  · rw [if_pos hc] at h
    refine Exists.intro _ (And.intro rfl ?_)
    refine And.intro (DW.nodB_ok rfl) ?_
    refine Exists.intro _ (And.intro (objs1 get_last rfl) ?_)
    refine q_bent 6 h0 (by omega) (by omega) (by omega) (by omega) hx hy hy2 fun z x' y' hz hx' hy' hy2' => res_p1 rfl rfl ?_
    rw [set_last]
    exact h z x' y' hz hx' hy' hy2'
  · rw [if_neg hc] at h
    refine Exists.intro _ (And.intro rfl ?_)
    refine And.intro (DW.nodB_ok rfl) ?_
    refine Exists.intro _ (And.intro (objs1 get_last rfl) ?_)
    refine q_bent 6 h1 (by omega) (by omega) (by omega) (by omega) hx hy hy2 fun z x' y' hz hx' hy' hy2' => res_p1 rfl rfl ?_
    rw [set_last]
    exact h z x' y' hz hx' hy' hy2'
theorem li4_ok {j : Nat} (hx : 0 ≤ x) (hy : 0 ≤ y) (hy2 : y < 2147483563) (h0 : Vl 2 6 r) (h1 : Vl (2 + j) (6 + j) other) (hj : j ≤ 3)
    (h : ∀ z x' y', Vl (2 + (if i % 3 = 0 then 1 else j + 1)) (6 + (if i % 3 = 0 then 1 else j + 1)) z → 0 ≤ x' → 0 ≤ y' → y' < 2147483563 → D.nx (lE ns x1 x2 x3 S.length (some (iD i)) o r one z x10 x11 x12) (S ++ [srcO x' y'])) :
    li4 (lE ns x1 x2 x3 S.length (some (iD i)) o r one other x10 x11 x12) (S ++ [srcO x y]) D := by
  (repeat first | refine Exists.intro _ (And.intro DW.lenP_ok ?_) | refine Exists.intro _ (And.intro DW.lenT_ok ?_) | refine Exists.intro _ (And.intro DW.lenL_ok ?_) | refine Exists.intro _ (And.intro rfl ?_) | refine Exists.intro _ (Exists.intro _ (And.intro rfl ?_)) | refine Exists.intro _ (Exists.intro _ (And.intro rfl (And.intro rfl ?_))) | refine And.intro rfl ?_ | refine Exists.intro _ (And.intro rfl (And.intro (Nat.le_of_ble_eq_true rfl) ?_)) | refine Exists.intro _ (And.intro (DW.modD_ok (by omega)) ?_) | refine Exists.intro _ (And.intro (DW.divD_ok (by omega) (by omega)) ?_) | refine Exists.intro _ (And.intro (DW.mulD_ok (by omega)) ?_) | refine Exists.intro _ (And.intro (DW.ix_ps (by omega) (by omega)) ?_) | refine Exists.intro _ (And.intro (DW.eqS_ok (by assumption) (by decide +kernel)) ?_) | refine And.intro (Nat.le_of_ble_eq_true rfl) ?_)
  refine DW.r_eqi (fun hc => ?_) (fun hc => ?_)
  · rw [if_pos hc] at h
    refine Exists.intro _ (And.intro rfl ?_)
    refine And.intro (DW.nodB_ok rfl) ?_
    refine Exists.intro _ (And.intro (objs1 get_last rfl) ?_)
    refine q_bent 6 h0 (by omega) (by omega) (by omega) (by omega) hx hy hy2 fun z x' y' hz hx' hy' hy2' => res_p1 rfl rfl ?_
    rw [set_last]
    exact h z x' y' hz hx' hy' hy2'
  · rw [if_neg hc] at h
    refine Exists.intro _ (And.intro rfl ?_)
    refine And.intro (DW.nodB_ok rfl) ?_
    refine Exists.intro _ (And.intro (objs1 get_last rfl) ?_)
    refine q_bent 6 h1 (by omega) (by omega) (by omega) (by omega) hx hy hy2 fun z x' y' hz hx' hy' hy2' => res_p1 rfl rfl ?_
    rw [set_last]
    exact h z x' y' hz hx' hy' hy2'
/-- a round's last test -/
theorem lb4_ok {os rs : List PyData} (h : D.nx (lE ns x1 x2 x3 n x5 (.tuple os) (.tuple rs) one other x10 x11 x12) S) : lb4 (lE ns x1 x2 x3 n x5 (.tuple os) (.tuple rs) one other x10 x11 x12) S D := by
  refine Exists.intro _ (And.intro rfl ?_)
  refine Exists.intro _ (And.intro rfl ?_)
  refine And.intro (DW.nodB_ok rfl) ?_
  refine Exists.intro _ (And.intro rfl ?_)
  refine is_offer_bad2 rfl rfl (res_0 ?_)
  refine Exists.intro _ (And.intro rfl ?_)
  refine Exists.intro _ (And.intro rfl ?_)
  refine r_f ?_
  refine Exists.intro _ (And.intro rfl ?_)
  refine Exists.intro _ (And.intro rfl ?_)
  refine And.intro (DW.nodB_ok rfl) ?_
  refine Exists.intro _ (And.intro rfl ?_)
  refine is_rule_bad rfl rfl (res_0 ?_)
  refine Exists.intro _ (And.intro rfl ?_)
  refine Exists.intro _ (And.intro rfl ?_)
  refine r_f ?_
  exact h
end
end Lw

set_option maxRecDepth 100000
set_option maxHeartbeats 1000000
set_option synthInstance.maxSize 1000000
set_option synthInstance.maxHeartbeats 0
set_option linter.all false
set_option pp.maxSteps 400
namespace Lw
open PySem L2 DW
/-! M01ZX: the last statements of the law. -/
def ro1 : List PyData := [.tuple [.tuple [.int 6, .int 6], .tuple [.int 4]], .tuple [.tuple [.int 1, .int 30], .tuple [.int 2, .int 6, .int 2]], .tuple [.tuple [.int 0], .tuple [.int 4]], .tuple [.tuple [.int 31], .tuple [.int 4]], .tuple [.tuple [.int 5], .tuple [.int 1]], .tuple [.tuple [.int 5], .tuple [.int 7]], .tuple [.tuple [], .tuple [.int 4]]]
def ro2 : List PyData := [.tuple [.tuple [.int 1, .int 2, .int 3, .int 4], .tuple [.int 4]], .tuple [.tuple [.int 5], .tuple []], .tuple [.tuple [.int 5], .tuple [.int 2, .int 2, .int 2, .int 2]], .tuple [.tuple [.int 5, .int 3], .tuple [.int 4]]]
def ro3 : List PyData := [.tuple [.tuple [.bool true], .tuple [.int 4]], .tuple [.tuple [.int 5], .tuple [.int 4], .int 0]]
abbrev zE (ns : List Int) (x1 x2 x3 x4 x5 x6 x7 x8 x9 x10 x11 x12 : Option DV) : DEnv := [some (.s ns), x1, x2, x3, x4, x5, x6, x7, x8, x9, x10, x11, x12]
section
variable {ns : List Int} {x1 x2 x3 x4 x5 x6 x7 x8 x9 x10 x11 x12 : Option DV} {D : DEnds} {S : Sto} {k : DK} {kx : DX}
theorem lt0_ok (h : D.nx (zE ns x1 (some (.d (.list ro1))) x3 x4 x5 x6 x7 x8 x9 x10 x11 x12) S) : lt0 (zE ns x1 x2 x3 x4 x5 x6 x7 x8 x9 x10 x11 x12) S D := by
  (repeat first | refine Exists.intro _ (And.intro DW.lenP_ok ?_) | refine Exists.intro _ (And.intro DW.lenT_ok ?_) | refine Exists.intro _ (And.intro DW.lenL_ok ?_) | refine Exists.intro _ (And.intro rfl ?_) | refine Exists.intro _ (Exists.intro _ (And.intro rfl ?_)) | refine Exists.intro _ (Exists.intro _ (And.intro rfl (And.intro rfl ?_))) | refine And.intro rfl ?_ | refine Exists.intro _ (And.intro rfl (And.intro (Nat.le_of_ble_eq_true rfl) ?_)) | refine Exists.intro _ (And.intro (DW.modD_ok (by omega)) ?_) | refine Exists.intro _ (And.intro (DW.divD_ok (by omega) (by omega)) ?_) | refine Exists.intro _ (And.intro (DW.mulD_ok (by omega)) ?_) | refine Exists.intro _ (And.intro (DW.ix_ps (by omega) (by omega)) ?_) | refine Exists.intro _ (And.intro (DW.eqS_ok (by assumption) (by decide +kernel)) ?_) | refine And.intro (Nat.le_of_ble_eq_true rfl) ?_)
  exact h
theorem lt1_ok (h : D.nx (zE ns x1 (some (.d (.list (ro1 ++ ro2)))) x3 x4 x5 x6 x7 x8 x9 x10 x11 x12) S) : lt1 (zE ns x1 (some (.d (.list ro1))) x3 x4 x5 x6 x7 x8 x9 x10 x11 x12) S D := by
  (repeat first | refine Exists.intro _ (And.intro DW.lenP_ok ?_) | refine Exists.intro _ (And.intro DW.lenT_ok ?_) | refine Exists.intro _ (And.intro DW.lenL_ok ?_) | refine Exists.intro _ (And.intro rfl ?_) | refine Exists.intro _ (Exists.intro _ (And.intro rfl ?_)) | refine Exists.intro _ (Exists.intro _ (And.intro rfl (And.intro rfl ?_))) | refine And.intro rfl ?_ | refine Exists.intro _ (And.intro rfl (And.intro (Nat.le_of_ble_eq_true rfl) ?_)) | refine Exists.intro _ (And.intro (DW.modD_ok (by omega)) ?_) | refine Exists.intro _ (And.intro (DW.divD_ok (by omega) (by omega)) ?_) | refine Exists.intro _ (And.intro (DW.mulD_ok (by omega)) ?_) | refine Exists.intro _ (And.intro (DW.ix_ps (by omega) (by omega)) ?_) | refine Exists.intro _ (And.intro (DW.eqS_ok (by assumption) (by decide +kernel)) ?_) | refine And.intro (Nat.le_of_ble_eq_true rfl) ?_)
  exact h
theorem lt2_ok (h : D.nx (zE ns x1 (some (.d (.list (ro1 ++ ro2 ++ ro3)))) x3 x4 x5 x6 x7 x8 x9 x10 x11 x12) S) : lt2 (zE ns x1 (some (.d (.list (ro1 ++ ro2)))) x3 x4 x5 x6 x7 x8 x9 x10 x11 x12) S D := by
  (repeat first | refine Exists.intro _ (And.intro DW.lenP_ok ?_) | refine Exists.intro _ (And.intro DW.lenT_ok ?_) | refine Exists.intro _ (And.intro DW.lenL_ok ?_) | refine Exists.intro _ (And.intro rfl ?_) | refine Exists.intro _ (Exists.intro _ (And.intro rfl ?_)) | refine Exists.intro _ (Exists.intro _ (And.intro rfl (And.intro rfl ?_))) | refine And.intro rfl ?_ | refine Exists.intro _ (And.intro rfl (And.intro (Nat.le_of_ble_eq_true rfl) ?_)) | refine Exists.intro _ (And.intro (DW.modD_ok (by omega)) ?_) | refine Exists.intro _ (And.intro (DW.divD_ok (by omega) (by omega)) ?_) | refine Exists.intro _ (And.intro (DW.mulD_ok (by omega)) ?_) | refine Exists.intro _ (And.intro (DW.ix_ps (by omega) (by omega)) ?_) | refine Exists.intro _ (And.intro (DW.eqS_ok (by assumption) (by decide +kernel)) ?_) | refine And.intro (Nat.le_of_ble_eq_true rfl) ?_)
  exact h
theorem ne_bb {b : Bool} : neD (.d (.bool b)) (.d (.bool b)) S = some (.d (.bool false)) := by cases b <;> rfl
theorem lc_rows : ∀ (xs : List PyData) (kk : List PyData → Sto → Prop), (∀ x ∈ xs, Vl 9 9 x) → kk [] S →
    lcL (bindN 11) (testW (op2W neD (callW F_is_offer (consA (varW 11) nilA)) (callW F_law_is_offer (consA (varW 11) nilA)))) (varW 11) (zE ns x1 x2 x3 x4 x5 x6 x7 x8 x9 x10 none x12) (xs.map .d) [] S kk
  | [], kk, _, h => h
  | x :: r, kk, hx, h => by
    have hv := hx x List.mem_cons_self
    refine Exists.intro _ (And.intro rfl ?_)
    refine Exists.intro _ (And.intro rfl ?_)
    refine And.intro (DW.nodB_ok rfl) ?_
    refine Exists.intro _ (And.intro rfl ?_)
    refine q_is_offer hv (res_0 ?_)
    refine Exists.intro _ (And.intro rfl ?_)
    refine And.intro (DW.nodB_ok rfl) ?_
    refine Exists.intro _ (And.intro rfl ?_)
    refine q_law_is_offer hv (by omega) (res_0 ?_)
    refine Exists.intro _ (And.intro ne_bb ?_)
    refine Exists.intro _ (And.intro rfl ?_)
    refine r_f ?_
    exact lc_rows r kk (fun y hy => hx y (List.mem_cons_of_mem _ hy)) h
theorem ro_vl : ∀ x ∈ ro1 ++ ro2 ++ ro3, Vl 9 9 x := by
  have h : ((ro1 ++ ro2 ++ ro3).all (vlC 9 9)) = true := by kernel_rfl
  exact fun r hr => vlC_ok (List.all_eq_true.mp h r hr)
theorem lt3_ok {xs : List PyData} (hx : ∀ x ∈ xs, Vl 9 9 x) (h : D.nx (zE ns x1 (some (.d (.list xs))) x3 x4 x5 x6 x7 x8 x9 x10 x11 x12) S) : lt3 (zE ns x1 (some (.d (.list xs))) x3 x4 x5 x6 x7 x8 x9 x10 x11 x12) S D := by
  refine Exists.intro _ (And.intro rfl ?_)
  refine And.intro trivial (Exists.intro _ (Exists.intro _ (And.intro rfl ?_)))
  refine lc_rows xs _ hx ?_
  refine Exists.intro _ (And.intro rfl (And.intro (Nat.le_of_ble_eq_true rfl) ?_))
  refine Exists.intro _ (And.intro rfl ?_)
  refine Exists.intro _ (And.intro rfl ?_)
  refine r_f ?_
  exact h
theorem lt4_ok (h : D.nx (zE ns x1 x2 (some (.d (.list rules))) x4 x5 x6 x7 x8 x9 x10 x11 x12) S) : lt4 (zE ns x1 x2 x3 x4 x5 x6 x7 x8 x9 x10 x11 x12) S D := by
  refine And.intro (DW.nodB_ok rfl) ?_
  refine Exists.intro _ (And.intro rfl ?_)
  exact q_all_rules fun S => res_0 h
theorem len_rules : lenD [.d (.list rules)] S = some (iD 288) := by
  have e : lenD [.d (.list rules)] S = some (iD (rules.length : Int)) := lenL_ok
  rw [e, rules_len]
  rfl
theorem lt5_ok (h : D.nx (zE ns x1 x2 (some (.d (.list rules))) x4 x5 x6 x7 x8 x9 x10 x11 x12) S) : lt5 (zE ns x1 x2 (some (.d (.list rules))) x4 x5 x6 x7 x8 x9 x10 x11 x12) S D := by
  (iterate 3 (first | refine Exists.intro _ (And.intro DW.lenP_ok ?_) | refine Exists.intro _ (And.intro DW.lenT_ok ?_) | refine Exists.intro _ (And.intro DW.lenL_ok ?_) | refine Exists.intro _ (And.intro rfl ?_) | refine Exists.intro _ (Exists.intro _ (And.intro rfl ?_)) | refine Exists.intro _ (Exists.intro _ (And.intro rfl (And.intro rfl ?_))) | refine And.intro rfl ?_ | refine Exists.intro _ (And.intro rfl (And.intro (Nat.le_of_ble_eq_true rfl) ?_)) | refine Exists.intro _ (And.intro (DW.modD_ok (by omega)) ?_) | refine Exists.intro _ (And.intro (DW.divD_ok (by omega) (by omega)) ?_) | refine Exists.intro _ (And.intro (DW.mulD_ok (by omega)) ?_) | refine Exists.intro _ (And.intro (DW.ix_ps (by omega) (by omega)) ?_) | refine Exists.intro _ (And.intro (DW.eqS_ok (by assumption) (by decide +kernel)) ?_) | refine And.intro (Nat.le_of_ble_eq_true rfl) ?_))
  refine Exists.intro _ (And.intro rfl ?_)
  refine Exists.intro _ (And.intro rfl ?_)
  refine .inl ⟨rws, by rw [← rules_rws]; rfl, rws_nodup, rws_ne, rws_few, fun ms hp pw => ?_⟩
  rw [← rules_rws] at hp
  obtain rfl := str_uniq rules_pw hp pw
  refine Exists.intro _ (And.intro (ne_self rules_sh) ?_)
  refine Exists.intro _ (And.intro rfl ?_)
  refine r_f ?_
  refine Exists.intro _ (And.intro rfl ?_)
  refine Exists.intro _ (And.intro len_rules ?_)
  refine Exists.intro _ (And.intro rfl ?_)
  refine Exists.intro _ (And.intro rfl ?_)
  refine r_f ?_
  exact h
theorem bad_rule : Vl 9 9 (.tuple [.str "now", .str "now", .str "", .str "days", .str "back", .str "up"]) := vlC_ok (by kernel_rfl)
theorem lt6_ok (h : D.nx (zE ns x1 x2 x3 x4 x5 x6 x7 x8 x9 x10 x11 x12) S) : lt6 (zE ns x1 x2 x3 x4 x5 x6 x7 x8 x9 x10 x11 x12) S D := by
  refine Exists.intro _ (And.intro rfl (And.intro (Nat.le_of_ble_eq_true rfl) ?_))
  refine And.intro (DW.nodB_ok rfl) ?_
  refine Exists.intro _ (And.intro rfl ?_)
  refine q_is_rule bad_rule (res_0 ?_)
  refine Exists.intro _ (And.intro rfl ?_)
  have e : rulB (.tuple [.str "now", .str "now", .str "", .str "days", .str "back", .str "up"]) = false := by kernel_rfl
  rw [e]
  refine r_f ?_
  exact h
theorem lc_rul : ∀ (xs : List PyData) (kk : List PyData → Sto → Prop), (∀ x ∈ xs, Vl 1 6 x ∧ rulB x = true) → kk [] S →
    lcL (bindN 7) (notW (testW (callW F_law_is_rule (consA (varW 7) nilA)))) (varW 7) (zE ns x1 x2 x3 x4 x5 x6 none x8 x9 x10 x11 x12) (xs.map .d) [] S kk
  | [], kk, _, h => h
  | x :: r, kk, hx, h => by
    obtain ⟨hv, hr⟩ := hx x List.mem_cons_self
    refine Exists.intro _ (And.intro rfl ?_)
    refine Exists.intro _ (And.intro rfl ?_)
    refine And.intro (DW.nodB_ok rfl) ?_
    refine Exists.intro _ (And.intro rfl ?_)
    refine q_law_is_rule hv (res_0 ?_)
    rw [hr]
    refine Exists.intro _ (And.intro rfl ?_)
    refine r_f ?_
    exact lc_rul r kk (fun y hy => hx y (List.mem_cons_of_mem _ hy)) h
theorem lt7_ok (h : D.rt (.d (.bool true)) S) : lt7 (zE ns x1 x2 (some (.d (.list rules))) x4 x5 x6 x7 x8 x9 x10 x11 x12) S D := by
  refine Exists.intro _ (And.intro rfl ?_)
  refine And.intro trivial (Exists.intro _ (Exists.intro _ (And.intro rfl ?_)))
  refine lc_rul rules _ (fun r hr => ⟨rules_vl r hr, rules_rul r hr⟩) ?_
  refine Exists.intro _ (And.intro rfl (And.intro (Nat.le_of_ble_eq_true rfl) ?_))
  refine Exists.intro _ (And.intro rfl ?_)
  exact h
end
end Lw

set_option maxRecDepth 100000
set_option maxHeartbeats 1000000
set_option synthInstance.maxSize 1000000
set_option synthInstance.maxHeartbeats 0
set_option linter.all false
set_option pp.maxSteps 400
namespace Lw
open PySem L2 DW
/-! M01ZZ: the law. -/
theorem ofr_vl {ps ls : List Int} (o : VO ps ls) : Vl 2 6 (ofr ps ls) := by
  have h : ∀ {xs : List Int}, (xs.length : Int) ≤ 3 → Vl 1 6 (.tuple (xs.map .int)) := fun {xs} hl => .tup (by rw [List.length_map]; omega) fun x hx => by
    obtain ⟨i, _, rfl⟩ := List.mem_map.mp hx
    exact .leaf rfl
  refine .tup (by simp) fun x hx => ?_
  simp only [List.mem_cons, List.not_mem_nil, or_false] at hx
  rcases hx with rfl | rfl
  · exact h o.p3
  · exact h o.l3
theorem rul_vl {r : PyData} (h : isRule r) : ∃ rs, r = .tuple rs ∧ Vl 2 6 r := by
  have hm : r ∈ rules := by
    obtain ⟨a, b, c, d, e, f, rfl, ha, hb, hc, hd, he, hf⟩ := h
    simp only [rules, List.mem_flatMap, List.mem_map]
    exact ⟨a, ha, b, hb, c, hc, d, hd, e, he, f, hf, rfl⟩
  obtain ⟨a, b, c, d, e, f, rfl, -⟩ := h
  exact ⟨_, rfl, (rules_vl _ hm).mono (by omega) (by omega)⟩
def jj (i : Nat) : Nat := if i = 0 then 0 else (i - 1) % 3 + 1
theorem jj_3 (i : Nat) : jj i ≤ 3 := by unfold jj; split <;> omega
theorem jj_s (i : Nat) : jj (i + 1) = if ((i : Int) % 3 = 0) then 1 else jj i + 1 := by
  unfold jj
  rw [if_neg (by omega)]
  split
  · omega
  · rw [if_neg (by omega)]; omega
theorem rg_at {pre post : List DV} {z : DV} {n : Int} (h : (rgD 0 n).map DV.d = pre ++ z :: post) : z = iD (pre.length : Int) ∧ (pre.length : Int) < n := by
  have hl := congrArg List.length h
  rw [rg_len] at hl
  simp only [List.length_append, List.length_cons] at hl
  have e := congrArg (fun l : List DV => l[pre.length]?) h
  simp only [List.getElem?_append_right (Nat.le_refl _), Nat.sub_self, List.getElem?_cons_zero] at e
  have h1 : pre.length < n.toNat := by omega
  refine ⟨?_, by omega⟩
  rw [List.getElem?_map] at e
  unfold rgD at e
  rw [List.getElem?_map, List.getElem?_range (by omega)] at e
  simp only [Option.map_some, Option.some.injEq] at e
  rw [← e]
  show DV.d (.int (0 + (pre.length : Int))) = _
  rw [Int.zero_add]
section
variable {ns : List Int} {x1 x2 x3 x5 x10 x11 x12 : Option DV} {D : DEnds} {S : Sto}
def IV (ns : List Int) (x1 x2 x3 : Option DV) (o r : PyData) (S0 : Sto) (pre : List DV) (e : DEnv) (S : Sto) : Prop := ∃ (x5 x10 x11 x12 : Option DV) (one other : PyData) (x y : Int),
  e = lE ns x1 x2 x3 S0.length x5 o r one other x10 x11 x12 ∧ S = S0 ++ [srcO x y] ∧ Vl (2 + jj pre.length) (6 + jj pre.length) one ∧ Vl (2 + jj pre.length) (6 + jj pre.length) other ∧ 0 ≤ x ∧ 0 ≤ y ∧ y < 2147483563
theorem round {ns : List Int} {x1 x2 x3 x10 x11 x12 : Option DV} {o r one other : PyData} {S : Sto} {x y : Int} {i : Nat} {D : DEnds} (ho : Vl 2 6 o) (hr : Vl 2 6 r) (h1 : Vl (2 + jj i) (6 + jj i) one) (h2 : Vl (2 + jj i) (6 + jj i) other) (hx : 0 ≤ x) (hy : 0 ≤ y) (hy2 : y < 2147483563)
    (h : ∀ one' other' x' y' x10', Vl (2 + jj (i + 1)) (6 + jj (i + 1)) one' → Vl (2 + jj (i + 1)) (6 + jj (i + 1)) other' → 0 ≤ x' → 0 ≤ y' → y' < 2147483563 → D.nx (lE ns x1 x2 x3 S.length (some (iD (i : Int))) o r one' other' x10' x11 x12) (S ++ [srcO x' y'])) :
    (seqS li0 (seqS li1 (seqS li2 (seqS li3 (seqS li4 nextS))))) (lE ns x1 x2 x3 S.length (some (iD (i : Int))) o r one other x10 x11 x12) (S ++ [srcO x y]) D := by
  have j3 := jj_3 i
  rw [jj_s] at h
  refine li0_ok h1 h2 ?_
  refine li1_ok ?_
  refine li2_ok h1 h2 (by omega) ?_
  refine li3_ok hx hy hy2 ho h1 j3 fun z x y hz hx hy hy2 => ?_
  refine li4_ok hx hy hy2 hr h2 j3 fun z' x y hz' hx hy hy2 => ?_
  exact h z z' x y _ hz hz' hx hy hy2
end
def E13 (ns : List Int) (e : DEnv) : Prop := ∃ x1 x2 x3 x4 x5 x6 x7 x8 x9 x10 x11 x12 : Option DV, e = [some (.s ns), x1, x2, x3, x4, x5, x6, x7, x8, x9, x10, x11, x12]
theorem law_ok (ns : List Int) (hl : ns.length ≤ 63) : F_law [.s ns] [] (fun r _ => r = .d (.bool true)) (fun _ _ => False) := by
  have hlen : ((ns.map PyData.int).length : Int) ≤ 63 := by simp; omega
  have hb : 1 + (if (10 : Int) < ((ns.map PyData.int).length : Int) then 10 else ((ns.map PyData.int).length : Int)) ≤ 11 ∧ 1 ≤ 1 + (if (10 : Int) < ((ns.map PyData.int).length : Int) then 10 else ((ns.map PyData.int).length : Int)) := by split <;> omega
  unfold F_law funW
  rw [law_eq]
  refine Exists.intro _ (And.intro rfl ?_)
  refine Exists.intro _ (And.intro rfl ?_)
  refine Exists.intro _ (And.intro rfl ?_)
  refine Exists.intro _ (And.intro rfl ?_)
  refine Exists.intro _ (And.intro rfl ?_)
  refine And.intro (show (-100000 : Int) ≤ 1 + (if (10 : Int) < ((ns.map PyData.int).length : Int) then 10 else ((ns.map PyData.int).length : Int)) by omega) (And.intro (show 1 + (if (10 : Int) < ((ns.map PyData.int).length : Int) then 10 else ((ns.map PyData.int).length : Int)) ≤ 100000 by omega) ?_)
  refine loop_inv (fun e S => E13 ns e) ⟨none, none, none, none, none, none, none, none, none, none, none, none, rfl⟩ ?_ ?_
  · intro x hx env S he
    obtain ⟨k0, rfl, hk1, hk2⟩ := mem_rg hx
    have hk3 : k0 ≤ 100 := by
      have hk2' : k0 < 1 + (if (10 : Int) < ((ns.map PyData.int).length : Int) then 10 else ((ns.map PyData.int).length : Int)) := hk2
      omega
    obtain ⟨x1, x2, x3, x4, x5, x6, x7, x8, x9, x10, x11, x12, rfl⟩ := he
    refine Exists.intro _ (And.intro rfl ?_)
    refine Exists.intro _ (And.intro rfl ?_)
    refine And.intro (DW.nodB_ok rfl) ?_
    refine Exists.intro _ (And.intro rfl ?_)
    refine s_source hk1 hk3 fun x y hx0 hy0 hy1 => res_0p rfl rfl ?_
    refine Exists.intro _ (And.intro rfl ?_)
    refine And.intro (DW.nodB_ok rfl) ?_
    refine Exists.intro _ (And.intro (objs1 get_last rfl) ?_)
    refine q_offer3 hx0 hy0 hy1 fun ps ls x y vo hx0 hy0 hy1 => res_p1 rfl rfl ?_
    rw [set_last]
    refine Exists.intro _ (And.intro rfl ?_)
    refine And.intro (DW.nodB_ok rfl) ?_
    refine Exists.intro _ (And.intro (objs1 get_last rfl) ?_)
    refine s_rule hx0 hy0 hy1 fun rr x y hr hx0 hy0 hy1 => res_p1 rfl rfl ?_
    rw [set_last]
    have ho := ofr_vl vo
    obtain ⟨rs, er, hv⟩ := rul_vl hr
    clear hr vo
    subst er
    refine Exists.intro _ (Exists.intro _ (And.intro rfl ?_))
    refine Exists.intro _ (And.intro rfl ?_)
    refine Exists.intro _ (And.intro rfl ?_)
    refine Exists.intro _ (Exists.intro _ (And.intro rfl ?_))
    refine Exists.intro (11 : Int) (And.intro rfl (And.intro (by decide) (And.intro (by decide) ?_)))
    refine loop_ix (IV ns (some (iD k0)) x2 x3 (ofr ps ls) (.tuple rs) S) (pre := []) ⟨_, _, _, _, _, _, _, _, rfl, rfl, ho, hv, hx0, hy0, hy1⟩ ?_ ?_
    · rintro pre z post epre env S' ⟨x5, x10, x11, x12, one, other, x, y, rfl, rfl, h1, h2, hx0, hy0, hy1⟩
      obtain ⟨rfl, -⟩ := rg_at (n := 11) epre
      refine round ho hv h1 h2 hx0 hy0 hy1 fun one' other' x' y' x10' q1 q2 q3 q4 q5 => ?_
      exact ⟨_, _, _, _, one', other', x', y', rfl, rfl, by rw [List.length_append]; exact q1, by rw [List.length_append]; exact q2, q3, q4, q5⟩
    · rintro env S' ⟨x5, x10, x11, x12, one, other, x, y, rfl, rfl, h1, h2, hx0, hy0, hy1⟩
      refine lb4_ok ?_
      exact ⟨_, _, _, _, _, _, _, _, _, _, _, _, rfl⟩
  · rintro env S ⟨x1, x2, x3, x4, x5, x6, x7, x8, x9, x10, x11, x12, rfl⟩
    refine lt0_ok ?_
    refine lt1_ok ?_
    refine lt2_ok ?_
    refine lt3_ok ro_vl ?_
    refine lt4_ok ?_
    refine lt5_ok ?_
    refine lt6_ok ?_
    refine lt7_ok ?_
    rfl
end Lw


open PySem PySem.W PySem.Calls PyProof.Rows in
set_option maxRecDepth 100000 in
set_option maxHeartbeats 0 in
theorem PySem.Challenge.cw_paidbydays_k01_offers_and_rules_recogniz_holds : PySem.Challenge.rw_paidbydays_k01_offers_and_rules_recogniz.Holds := by
  w_on; o_law
  refine HandSHeadRun.head_any (r := Lw.R) (q := view Lw.R.prog [19]) (H := Lw.hk) (ob := Lw.ob) (M := 4000)
    (loose := Lw.nms) (d := HandSHeadRun.topDef Lw.R.prog 19) (kwd := []) Lw.ob_eq
    (by kernel_rfl) (fun s => by kernel_rfl) Lw.run (by kernel_rfl) (by kernel_rfl)
    (by kernel_rfl) (by rfl) (by first | assumption | decide +kernel) (by decide +kernel)
    ⟨rfl, rfl, rfl, rfl, rfl, by decide +kernel⟩ ?wit ?rest
  case wit => w_witness2
  case rest =>
    refine L2.walk_ofE (l := PySem.Challenge.rw_paidbydays_k01_offers_and_rules_recogniz) (n := 63) (k := 10) (x := "_law_script") (CX := L2.CX0)
      rfl (by decide) (by kernel_rfl) ⟨rfl, by decide, by decide⟩ ?all (fun _ _ _ _ no => no)
    intro w mg f h Y G at0
    obtain ⟨K, KX, c⟩ := Y
    have nm : (HandSHeadRun.topDef Lw.R.prog 19).name = ("law" : PySem.Str) := by kernel_rfl
    rw [nm] at at0
    obtain ⟨fd, sp, h1, h2, h3⟩ := DW.law_facts (Lw.ok_law ⟨c.t.d, c.more, h, KX, G⟩) at0 (DW.MF.mono (F := Lw.F_law)) Lw.law_ok (PySem.Challenge.rw_paidbydays_k01_offers_and_rules_recogniz).prog w
    exact ⟨K, fd, sp, KX, h1, h2, fun base _ _ => h3 base⟩

