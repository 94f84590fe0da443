import PyProof.Rows.All
import Wide.All
import OpenK.AllK
import Wide.FinOn
import HandS.ForMost
import HandS.Exc
import HandS.ExcOwn
import HandS.TryOnly
import HandS.TryMany
import HandS.WordsExc
import HandS.Defaults
import HandS.IsInst
import HandS.TupAny
import HandS.TupMul
import HandS.Conv
import HandS.Strs
import HandS.Replace
import HandS.Sort
import HandS.ListItems
import HandS.Style
import HandS.Walk
import KE.GoesMore
import KE.GoesEnum
import HandS.Zip
import HandS.Head0
import HandS.Head1
import HandS.Head2
import HandS.HeadEnd
import HandS.HeadHook1
import HandS.HeadHook2
import HandS.HeadHook3
import HandS.HeadHook4
import HandS.Codes
import HandS.Dict
import HandS.TupLe
import HandS.ReplaceLit
import PySem.Challenge.RW_paidbydays_k18_strings_that_are_spoilt
set_option Elab.async false
set_option linter.all false
set_option maxRecDepth 100000
set_option maxHeartbeats 4000000
set_option autoImplicit false
/-! DW1: a weakest-precondition semantics over data, on top of HandS. Pure data are read off the heap; what a def changes lies in a numbered store. -/
namespace DW
open PySem L2

/-- pure data, an object of the store, the script -/
inductive DV where
  | d (x : PyData)
  | p (n : Nat)
  | s (ns : List Int)
inductive SO where
  | lst (xs : List DV)
  | dic (lk : Bool) (kvs : List (PyData × DV))
  | gone
abbrev DEnv := List (Option DV)
abbrev Sto := List SO
/-- what is raised: a class of the module, maybe with one field -/
inductive XV where
  | cls (x : Str)
  | fld (x f : Str) (v : PyData)
abbrev DK := DV → Sto → Prop
abbrev DX := XV → Sto → Prop
abbrev DE := DEnv → Sto → DK → DX → Prop
abbrev DT := DEnv → Sto → (Bool → Sto → Prop) → DX → Prop
abbrev DA := DEnv → Sto → (List DV → Sto → Prop) → DX → Prop
structure DEnds where
  nx : DEnv → Sto → Prop
  rt : DK
  bk : DEnv → Sto → Prop := fun _ _ => False
  ct : DEnv → Sto → Prop := fun _ _ => False
  ex : DEnv → DX
abbrev DS := DEnv → Sto → DEnds → Prop
structure DEnds.le (D D' : DEnds) : Prop where
  nx : ∀ e S, D.nx e S → D'.nx e S
  rt : ∀ r S, D.rt r S → D'.rt r S
  bk : ∀ e S, D.bk e S → D'.bk e S
  ct : ∀ e S, D.ct e S → D'.ct e S
  ex : ∀ e x S, D.ex e x S → D'.ex e x S

/-! ### values, store objects -/
mutual
/-- as Dp; lists are tracked as such -/
inductive Dq (K : PySem.W.Frag) (H : Hp) : V → PyData → Prop
  | non : Dq K H .non .none
  | bl (b : Bool) : Dq K H (.bl b) (.bool b)
  | int (i : Int) : Dq K H (.int i) (.int i)
  | str (x : Str) : Dq K H (.str x) (.str x)
  | lst {a : Addr} {xs : List V} {ds : List PyData} : H a = some (.lst xs) → DqAll K H xs ds → Dq K H (.ref a) (.list ds)
  | tup {a : Addr} {xs : List V} {ds : List PyData} : SqT K H a xs → DqAll K H xs ds → Dq K H (.ref a) (.tuple ds)
inductive DqAll (K : PySem.W.Frag) (H : Hp) : List V → List PyData → Prop
  | nil : DqAll K H [] []
  | cons {v : V} {vs : List V} {d : PyData} {ds : List PyData} : Dq K H v d → DqAll K H vs ds → DqAll K H (v :: vs) (d :: ds)
end
section
variable (K : PySem.W.Frag)
def VR (B : Hp) (α : List Addr) : V → DV → Prop
  | v, .d x => Dq K B v x
  | v, .p n => ∃ a, α[n]? = some a ∧ v = .ref a
  | v, .s ns => ∃ a, v = .ref a ∧ SqL K B a (ns.map V.int)
inductive VRs (B : Hp) (α : List Addr) : List V → List DV → Prop
  | nil : VRs B α [] []
  | cons {v : V} {x : DV} {vs : List V} {xs : List DV} : VR K B α v x → VRs B α vs xs → VRs B α (v :: vs) (x :: xs)
def DicOk (B : Hp) (α : List Addr) (H : Hp) (a : Addr) (lk : Bool) (kvs : List (PyData × DV)) : Prop := False
def SOk (B : Hp) (α : List Addr) (H : Hp) (a : Addr) : SO → Prop
  | .lst xs => ∃ vs, H a = some (.lst vs) ∧ VRs K B α vs xs
  | .dic lk kvs => DicOk B α H a lk kvs
  | .gone => True
structure Wd (B : Hp) (α : List Addr) (S : Sto) (H : Hp) : Prop where
  ex : Same B H
  len : α.length = S.length
  obj : ∀ (n : Nat) (o : SO), S[n]? = some o → o ≠ .gone → ∃ a, α[n]? = some a ∧ B a = none ∧ SOk K B α H a o
  nd : α.Nodup
  trk : ∀ a ∈ α, ∃ o, H a = some o
structure Stp (B : Hp) (α : List Addr) (H : Hp) (B' : Hp) (α' : List Addr) (S' : Sto) (H' : Hp) : Prop where
  wd : Wd K B' α' S' H'
  bb : Same B B'
  pre : ∃ t : List Addr, α' = α ++ t
  newB : ∀ a o, B' a = some o → B a = some o ∨ H a = none ∨ a ∈ α
  newA : ∀ a ∈ α', a ∈ α ∨ H a = none
  frame : ∀ a o, H a = some o → a ∉ α → H' a = some o
def RelE (B : Hp) (α : List Addr) (env : DEnv) (σ : St) : Prop := env.length = σ.length ∧ ∀ (i : Nat) (x : DV), env[i]? = some (some x) → ∃ v, σ[i]? = some (some v) ∧ VR K B α v x
end

section
variable {K : PySem.W.Frag} {B B' B1 B2 : Hp} {α α' α1 α2 : List Addr} {S S' S1 S2 : Sto} {H H' H1 H2 : Hp} {v : V} {x : DV} {σ : St} {env : DEnv}
theorem same_rd (e : Same B B') {a : Addr} {u : HO} (h : Rd B a u) : Rd B' a u := by
  rcases h with h | ⟨o, h⟩
  · exact .inl (e a _ h)
  · exact .inr ⟨o, e a _ h⟩
theorem same_l (e : Same B B') {a : Addr} {xs : List V} (h : SqL K B a xs) : SqL K B' a xs := h.imp (same_rd e) fun z => z
theorem same_t (e : Same B B') {a : Addr} {xs : List V} (h : SqT K B a xs) : SqT K B' a xs := h.imp (same_rd e) fun z => z
mutual
theorem Dq.same (e : Same B B') : ∀ {v : V} {d : PyData}, Dq K B v d → Dq K B' v d
  | _, _, .non => .non
  | _, _, .bl b => .bl b
  | _, _, .int i => .int i
  | _, _, .str x => .str x
  | _, _, .lst h r => .lst (e _ _ h) (DqAll.same e r)
  | _, _, .tup h r => .tup (same_t e h) (DqAll.same e r)
theorem DqAll.same (e : Same B B') : ∀ {vs : List V} {ds : List PyData}, DqAll K B vs ds → DqAll K B' vs ds
  | _, _, .nil => .nil
  | _, _, .cons h r => .cons (Dq.same e h) (DqAll.same e r)
end
mutual
theorem Dq.dp : ∀ {v : V} {d : PyData}, Dq K B v d → Dp K B v d
  | _, _, .non => .non
  | _, _, .bl b => .bl b
  | _, _, .int i => .int i
  | _, _, .str x => .str x
  | _, _, .lst h r => .lst (SqL.of h) (DqAll.dp r)
  | _, _, .tup h r => .tup h (DqAll.dp r)
theorem DqAll.dp : ∀ {vs : List V} {ds : List PyData}, DqAll K B vs ds → DpAll K B vs ds
  | _, _, .nil => .nil
  | _, _, .cons h r => .cons (Dq.dp h) (DqAll.dp r)
end
theorem VR.mono (e : Same B B') (p : ∃ t, α' = α ++ t) (h : VR K B α v x) : VR K B' α' v x := by
  cases x with
  | d x => exact Dq.same e h
  | p n =>
    obtain ⟨a, h1, h2⟩ := h
    obtain ⟨t, rfl⟩ := p
    exact ⟨a, by rw [List.getElem?_append_left (List.getElem?_eq_some_iff.mp h1).1]; exact h1, h2⟩
  | s ns =>
    obtain ⟨a, h1, h2⟩ := h
    exact ⟨a, h1, same_l e h2⟩
theorem VRs.mono (e : Same B B') (p : ∃ t, α' = α ++ t) : ∀ {vs : List V} {xs : List DV}, VRs K B α vs xs → VRs K B' α' vs xs
  | _, _, .nil => .nil
  | _, _, .cons h r => .cons (h.mono e p) (VRs.mono e p r)
theorem VRs.len : ∀ {vs : List V} {xs : List DV}, VRs K B α vs xs → vs.length = xs.length
  | _, _, .nil => rfl
  | _, _, .cons _ r => by simp [r.len]
theorem RelE.mono (e : Same B B') (p : ∃ t, α' = α ++ t) (h : RelE K B α env σ) : RelE K B' α' env σ :=
  ⟨h.1, fun i x q => by obtain ⟨v, h1, h2⟩ := h.2 i x q; exact ⟨v, h1, h2.mono e p⟩⟩
theorem RelE.set (h : RelE K B α env σ) (i : Nat) (r : VR K B α v x) : RelE K B α (env.set i (some x)) (σ.set i (some v)) := by
  refine ⟨by simp [h.1], fun j y q => ?_⟩
  by_cases hj : i = j
  · subst hj
    by_cases hi : i < env.length
    · rw [List.getElem?_set_self hi] at q
      cases q
      exact ⟨v, by rw [List.getElem?_set_self (by rw [← h.1]; exact hi)], r⟩
    · rw [List.getElem?_eq_none (by simpa using Nat.le_of_not_lt hi)] at q
      cases q
  · rw [List.getElem?_set_ne hj] at q
    obtain ⟨w, h1, h2⟩ := h.2 j y q
    exact ⟨w, by rw [List.getElem?_set_ne hj]; exact h1, h2⟩
theorem Stp.refl (w : Wd K B α S H) : Stp K B α H B α S H := ⟨w, Same.refl _, ⟨[], by simp⟩, fun _ _ h => .inl h, fun _ h => .inl h, fun _ _ h _ => h⟩
theorem Stp.trans (a : Stp K B α H B1 α1 S1 H1) (b : Stp K B1 α1 H1 B2 α2 S2 H2) : Stp K B α H B2 α2 S2 H2 := by
  have fr : ∀ c o, H c = some o → c ∉ α → H1 c = some o ∧ c ∉ α1 := fun c o h n => ⟨a.frame c o h n, fun z => by
    rcases a.newA c z with q | q
    · exact n q
    · rw [q] at h; cases h⟩
  refine ⟨b.wd, a.bb.trans b.bb, ?_, fun c o h => ?_, fun c h => ?_, fun c o h n => b.frame c o (fr c o h n).1 (fr c o h n).2⟩
  · obtain ⟨t, rfl⟩ := a.pre
    obtain ⟨u, rfl⟩ := b.pre
    exact ⟨t ++ u, by simp⟩
  · rcases b.newB c o h with q | q | q
    · exact a.newB c o q
    · by_cases hc : c ∈ α
      · exact .inr (.inr hc)
      · cases e : H c with
        | none => exact .inr (.inl rfl)
        | some u => rw [(fr c u e hc).1] at q; cases q
    · rcases a.newA c q with z | z
      · exact .inr (.inr z)
      · exact .inr (.inl z)
  · rcases b.newA c h with q | q
    · exact a.newA c q
    · by_cases hc : c ∈ α
      · exact .inl hc
      · cases e : H c with
        | none => exact .inr rfl
        | some u => rw [(fr c u e hc).1] at q; cases q
theorem Same.upd_none {p : Addr} {o : HO} (h : H p = none) : Same H (upd H p o) := fun a u e => by rw [upd_ne (ne_of_none e h)]; exact e
theorem SOk.mono {a : Addr} {o : SO} (e : Same B B') (p : ∃ t, α' = α ++ t) (k : ∀ u, H a = some u → H' a = some u) (h : SOk K B α H a o) : SOk K B' α' H' a o := by
  cases o with
  | lst xs => obtain ⟨vs, h1, h2⟩ := h; exact ⟨vs, k _ h1, h2.mono e p⟩
  | dic lk kvs => exact h.elim
  | gone => trivial
/-- a new pure object -/
theorem Wd.fresh {p : Addr} {o : HO} (w : Wd K B α S H) (hp : H p = none) : Stp K B α H (upd B p o) α S (upd H p o) := by
  have hB : B p = none := w.ex.free hp
  refine ⟨⟨fun a u e => ?_, w.len, fun n q h1 h2 => ?_, w.nd, fun a ha => (w.trk a ha).imp fun u e => Same.upd_none hp a u e⟩, Same.upd_none hB, ⟨[], by simp⟩, fun a u e => ?_, fun _ h => .inl h, fun a u e _ => Same.upd_none hp a u e⟩
  · by_cases ha : a = p
    · subst ha; rw [upd_same] at e ⊢; exact e
    · rw [upd_ne ha] at e ⊢; exact w.ex a u e
  · obtain ⟨a, e1, e2, e3⟩ := w.obj n q h1 h2
    by_cases ha : a = p
    · subst ha
      cases q with
      | lst xs => obtain ⟨vs, z, _⟩ := e3; rw [hp] at z; cases z
      | dic lk kvs => exact e3.elim
      | gone => exact absurd rfl h2
    · exact ⟨a, e1, by rw [upd_ne ha]; exact e2, e3.mono (Same.upd_none hB) ⟨[], by simp⟩ fun u z => by rw [upd_ne ha]; exact z⟩
  · by_cases ha : a = p
    · subst ha; exact .inr (.inl hp)
    · rw [upd_ne ha] at e; exact .inl e
end

/-! ### the judgements -/
def MonoE (w : DE) : Prop := ∀ env S (k k' : DK) (x x' : DX), (∀ r S, k r S → k' r S) → (∀ r S, x r S → x' r S) → w env S k x → w env S k' x'
def MonoT (w : DT) : Prop := ∀ env S (k k' : Bool → Sto → Prop) (x x' : DX), (∀ r S, k r S → k' r S) → (∀ r S, x r S → x' r S) → w env S k x → w env S k' x'
def MonoA (w : DA) : Prop := ∀ env S (k k' : List DV → Sto → Prop) (x x' : DX), (∀ r S, k r S → k' r S) → (∀ r S, x r S → x' r S) → w env S k x → w env S k' x'
def MonoS (w : DS) : Prop := ∀ env S D D', DEnds.le D D' → w env S D → w env S D'

/-- how a raised thing stands in the heap -/
def XR (K : PySem.W.Frag) (ga : Str → Addr) (B : Hp) (H : Hp) : XV → Value → Option Addr → Prop
  | .cls x, c, d => c = .ref (ga x) ∧ d = none
  | .fld x f v, c, d => c = .ref (ga x) ∧ ∃ a u, d = some a ∧ H a = some (.xd [(f, u)]) ∧ Dq K B u v

section
variable (K : PySem.W.Frag) (ga : Str → Addr)
def kxT (B : Hp) (α : List Addr) (H : Hp) (E : XK) : DX := fun x S' => ∀ c d H' B' α', Stp K B α H B' α' S' H' → XR K ga B' H' x c d → E c d H'
def kvT (B : Hp) (α : List Addr) (H : Hp) (Q : VK) : DK := fun r S' => ∀ v H' B' α', Stp K B α H B' α' S' H' → VR K B' α' v r → Q v H'
def eT (E : WX) (w : DE) : TE := fun σ H Q => ∃ env S B α, RelE K B α env σ ∧ Wd K B α S H ∧ w env S (kvT K B α H Q) (kxT K ga B α H (WE E σ))
def tT (E : WX) (w : DT) : TT := fun σ H Q => ∃ env S B α, RelE K B α env σ ∧ Wd K B α S H ∧ w env S (fun b S' => ∀ H' B' α', Stp K B α H B' α' S' H' → Q b H') (kxT K ga B α H (WE E σ))
def aT (E : WX) (w : DA) : TA := fun σ H Q => ∃ env S B α, RelE K B α env σ ∧ Wd K B α S H ∧ w env S (fun rs S' => ∀ vs H' B' α', Stp K B α H B' α' S' H' → VRs K B' α' vs rs → Q vs H') (kxT K ga B α H (WE E σ))
def knT (B : Hp) (α : List Addr) (H : Hp) (N : St → Hp → Prop) : DEnv → Sto → Prop := fun env' S' => ∀ σ' H' B' α', Stp K B α H B' α' S' H' → RelE K B' α' env' σ' → N σ' H'
/-- as kxT, the slots at the raise -/
def kxS (B : Hp) (α : List Addr) (H : Hp) (E : WX) : DEnv → DX := fun env' x S' => ∀ c d σ' H' B' α', Stp K B α H B' α' S' H' → RelE K B' α' env' σ' → XR K ga B' H' x c d → E c d σ' H'
def dT (B : Hp) (α : List Addr) (H : Hp) (E : WX) (D : Ends) : DEnds := ⟨knT K B α H D.nx, kvT K B α H D.rt, knT K B α H D.bk, knT K B α H D.ct, kxS K ga B α H E⟩
def sT (E : WX) (w : DS) : TS := fun D σ H => ∃ env S B α, RelE K B α env σ ∧ Wd K B α S H ∧ w env S (dT K ga B α H E D)
end
structure PX (ga : Str → Addr) (X : Cx) (E : WX) (e : Expr) (w : DE) : Prop where
  mono : MonoE w
  run : PE X e (eT X.K ga E w)
structure PXT (ga : Str → Addr) (X : Cx) (E : WX) (e : Expr) (w : DT) : Prop where
  mono : MonoT w
  run : PT X e (tT X.K ga E w)
structure PXA (ga : Str → Addr) (X : Cx) (E : WX) (es : List Expr) (w : DA) : Prop where
  mono : MonoA w
  run : PA X es (aT X.K ga E w)
structure PXS (ga : Str → Addr) (X : Cx) (E : WX) (st : Stmt) (w : DS) : Prop where
  mono : MonoS w
  run : PS X st (sT X.K ga E w)
structure PXB (ga : Str → Addr) (X : Cx) (E : WX) (sts : List Stmt) (w : DS) : Prop where
  mono : MonoS w
  run : PSs X sts (sT X.K ga E w)

section
variable {K : PySem.W.Frag} {ga : Str → Addr} {B B' B1 B2 : Hp} {α α' α1 α2 : List Addr} {S S' S1 S2 : Sto} {H H' H1 H2 : Hp} {v : V} {x : DV} {σ : St} {env : DEnv} {E : WX} {Q : VK}
theorem kxT.after {E : XK} (s : Stp K B α H B1 α1 S1 H1) {r : XV} {S' : Sto} (h : kxT K ga B α H E r S') : kxT K ga B1 α1 H1 E r S' := fun c d H' B' α' s' q => h c d H' B' α' (s.trans s') q
theorem kvT.after (s : Stp K B α H B1 α1 S1 H1) {r : DV} {S' : Sto} (h : kvT K B α H Q r S') : kvT K B1 α1 H1 Q r S' := fun c H' B' α' s' q => h c H' B' α' (s.trans s') q
theorem knT.after (s : Stp K B α H B1 α1 S1 H1) {N : St → Hp → Prop} {e' : DEnv} {S' : Sto} (h : knT K B α H N e' S') : knT K B1 α1 H1 N e' S' := fun c H' B' α' s' q => h c H' B' α' (s.trans s') q
theorem kxS.after (s : Stp K B α H B1 α1 S1 H1) {e' : DEnv} {r : XV} {S' : Sto} (h : kxS K ga B α H E e' r S') : kxS K ga B1 α1 H1 E e' r S' := fun c d σ' H' B' α' s' q => h c d σ' H' B' α' (s.trans s') q
theorem kxS.at_ (re : RelE K B α env σ) {r : XV} {S' : Sto} (h : kxS K ga B α H E env r S') : kxT K ga B α H (WE E σ) r S' := fun c d H' B' α' s q => h c d σ H' B' α' s (re.mono s.bb s.pre) q
theorem dT.after (s : Stp K B α H B1 α1 S1 H1) {D : Ends} : DEnds.le (dT K ga B α H E D) (dT K ga B1 α1 H1 E D) :=
  ⟨fun _ _ h => knT.after s h, fun _ _ h => kvT.after s h, fun _ _ h => knT.after s h, fun _ _ h => knT.after s h, fun _ _ _ h => kxS.after s h⟩
end

/-! ### expressions -/
def varW (i : Nat) : DE := fun env S k _ => ∃ x, env[i]? = some (some x) ∧ k x S
def cW (x : PyData) : DE := fun _ S k _ => k (.d x) S
def op2W (g : DV → DV → Sto → Option DV) (wa wb : DE) : DE := fun env S k kx => wa env S (fun x S1 => wb env S1 (fun y S2 => ∃ z, g x y S2 = some z ∧ k z S2) kx) kx
def op1W (g : DV → Sto → Option DV) (wa : DE) : DE := fun env S k kx => wa env S (fun x S1 => ∃ z, g x S1 = some z ∧ k z S1) kx
def testW (wa : DE) : DT := fun env S k kx => wa env S (fun x S1 => ∃ b, x = .d (.bool b) ∧ k b S1) kx
def andW (a b : DT) : DT := fun env S k kx => a env S (fun c S1 => if c = true then b env S1 k kx else k false S1) kx
def orW (a b : DT) : DT := fun env S k kx => a env S (fun c S1 => if c = true then k true S1 else b env S1 k kx) kx
def notW (a : DT) : DT := fun env S k kx => a env S (fun c S1 => k (!c) S1) kx
def andVW (a b : DE) : DE := fun env S k kx => a env S (fun x S1 => ∃ c, x = .d (.bool c) ∧ if c = true then b env S1 k kx else k (.d (.bool false)) S1) kx
def orVW (a b : DE) : DE := fun env S k kx => a env S (fun x S1 => ∃ c, x = .d (.bool c) ∧ if c = true then k (.d (.bool true)) S1 else b env S1 k kx) kx
def notVW (a : DE) : DE := fun env S k kx => a env S (fun x S1 => ∃ c, x = .d (.bool c) ∧ k (.d (.bool (!c))) S1) kx
def ifW (t : DT) (a b : DE) : DE := fun env S k kx => t env S (fun c S1 => if c = true then a env S1 k kx else b env S1 k kx) kx
def nilA : DA := fun _ S k _ => k [] S
def consA (a : DE) (r : DA) : DA := fun env S k kx => a env S (fun x S1 => r env S1 (fun xs S2 => k (x :: xs) S2) kx) kx

/-- a two-place rule of HandS serves a function on data -/
def Op2 (K : PySem.W.Frag) (r : R2) (g : DV → DV → Sto → Option DV) : Prop := ∀ B α S H vx vy x y z, Wd K B α S H → VR K B α vx x → VR K B α vy y → g x y S = some z → ∀ Q : VK, kvT K B α H Q z S → r vx vy H Q
def Op1 (K : PySem.W.Frag) (r : V → Hp → VK → Prop) (g : DV → Sto → Option DV) : Prop := ∀ B α S H vx x z, Wd K B α S H → VR K B α vx x → g x S = some z → ∀ Q : VK, kvT K B α H Q z S → r vx H Q
def OpN (K : PySem.W.Frag) (r : List V → Hp → VK → Prop) (g : List DV → Sto → Option DV) : Prop := ∀ B α S H vs xs z, Wd K B α S H → VRs K B α vs xs → g xs S = some z → ∀ Q : VK, kvT K B α H Q z S → r vs H Q

section
variable {ga : Str → Addr} {X : Cx} {E : WX} {a b : Expr} {wa wb : DE} {pos : Pos} {ta tb : DT}

theorem px_var {i : Nat} {x : Str} (hN : X.N[i]? = some x) (hv : Vis X.env.scope x) (hd : (x == ("__debug__" : Str)) = false := by decide) (hcd : (x == ("__classdict__" : Str)) = false := by decide) : PX ga X E (.Name x pos) (varW i) := by
  refine ⟨fun env S k k' x x' hk _ ⟨y, h1, h2⟩ => ⟨y, h1, hk _ _ h2⟩, ⟨fun pins s σ H Q I h => ?_⟩⟩
  obtain ⟨env, S, B, α, re, w, y, h1, h2⟩ := h
  obtain ⟨v, e, r⟩ := re.2 i y h1
  exact (pe_var hN hv hd hcd).run pins s σ H Q I ⟨v, e, h2 v H B α (Stp.refl w) r⟩
theorem px_of_c {e : Expr} {c : V} {x : PyData} (h : PE X e (tC c)) (r : ∀ B, Dq X.K B c x) : PX ga X E e (cW x) := by
  refine ⟨fun env S k k' x x' hk _ h => hk _ _ h, ⟨fun pins s σ H Q I h' => ?_⟩⟩
  obtain ⟨env, S, B, α, re, w, h2⟩ := h'
  exact h.run pins s σ H Q I (h2 c H B α (Stp.refl w) (r B))
theorem px_int {i j} : PX ga X E (.Constant (.int i) j pos) (cW (.int i)) := px_of_c pe_int fun _ => .int i
theorem px_bl {b j} : PX ga X E (.Constant (.bool b) j pos) (cW (.bool b)) := px_of_c pe_bl fun _ => .bl b
theorem px_non {j} : PX ga X E (.Constant .none j pos) (cW .none) := px_of_c pe_non fun _ => .non
theorem px_str {x j} : PX ga X E (.Constant (.str x) j pos) (cW (.str x)) := px_of_c pe_str fun _ => .str x

/-- the frame for two: a, then b, then a rule by values -/
theorem run2 {K : PySem.W.Frag} {r : R2} {g : DV → DV → Sto → Option DV} (hg : Op2 K r g) (ma : MonoE wa) (mb : MonoE wb) {σ : St} {H : Hp} {Q : VK} (h : eT K ga E (op2W g wa wb) σ H Q) :
    eT K ga E wa σ H fun x H1 => eT K ga E wb σ H1 fun y H2 => r x y H2 Q := by
  obtain ⟨env, S, B, α, re, w, h⟩ := h
  refine ⟨env, S, B, α, re, w, ma env S _ _ _ _ (fun x S1 h1 v1 H1 B1 α1 s1 r1 => ?_) (fun _ _ z => z) h⟩
  refine ⟨env, S1, B1, α1, re.mono s1.bb s1.pre, s1.wd, mb env S1 _ _ _ _ (fun y S2 h2 v2 H2 B2 α2 s2 r2 => ?_) (fun _ _ z => kxT.after s1 z) h1⟩
  obtain ⟨z, e, hz⟩ := h2
  exact hg B2 α2 S2 H2 v1 v2 x y z s2.wd (r1.mono s2.bb s2.pre) r2 e Q (kvT.after (s1.trans s2) hz)
theorem mono2 {g : DV → DV → Sto → Option DV} (ma : MonoE wa) (mb : MonoE wb) : MonoE (op2W g wa wb) := fun env S k k' x x' hk hx h =>
  ma env S _ _ _ _ (fun y S1 h1 => mb env S1 _ _ _ _ (fun z S2 ⟨u, e, h2⟩ => ⟨u, e, hk _ _ h2⟩) hx h1) hx h
theorem px_op {op : Operator} {r : R2} {g : DV → DV → Sto → Option DV} (ho : OpR X (binaryOp op) r) (hg : Op2 X.K r g) (ha : PX ga X E a wa) (hb : PX ga X E b wb) : PX ga X E (.BinOp a op b pos) (op2W g wa wb) :=
  ⟨mono2 ha.mono hb.mono, ⟨fun pins s σ H Q I h => (pe_op ho ha.run hb.run).run pins s σ H Q I (run2 hg ha.mono hb.mono h)⟩⟩
theorem px_cmp {op : CmpOp} {r : R2} {g : DV → DV → Sto → Option DV} (ho : OpR X (compareOp op) r) (hg : Op2 X.K r g) (ha : PX ga X E a wa) (hb : PX ga X E b wb) (hm : behindInMarks op b = false) : PX ga X E (.Compare a [op] [b] pos) (op2W g wa wb) :=
  ⟨mono2 ha.mono hb.mono, ⟨fun pins s σ H Q I h => (pe_cmpR ho ha.run hb.run hm).run pins s σ H Q I (run2 hg ha.mono hb.mono h)⟩⟩
end
end DW

set_option Elab.async false
set_option linter.all false
set_option maxRecDepth 100000
set_option maxHeartbeats 4000000
set_option autoImplicit false
namespace DW
open PySem L2

/-! ### tests, and, or, not, a if t else b, arguments -/
section
variable {ga : Str → Addr} {X : Cx} {E : WX} {a b c : Expr} {wa wb : DE} {pos : Pos} {ta tb : DT} {rest : List Expr} {wA : DA}
theorem pxt_val {e : Expr} (h : PX ga X E e wa) (he : ∀ whole, isTrue e X.env whole = (do let v ← whole; standAt e.pos; holding [v] (truthy v)) := by intro _; rfl) : PXT ga X E e (testW wa) := by
  refine ⟨fun env S k k' x x' hk hx h' => h.mono env S _ _ _ _ (fun y S1 ⟨b, e, h1⟩ => ⟨b, e, hk _ _ h1⟩) hx h', ⟨fun pins s σ H Q I h' => (pt_val h.run he).run pins s σ H Q I ?_⟩⟩
  obtain ⟨env, S, B, α, re, w, h'⟩ := h'
  refine ⟨env, S, B, α, re, w, h.mono env S _ _ _ _ (fun x S1 ⟨b, e, h1⟩ v H1 B1 α1 s1 r1 => ?_) (fun _ _ z => z) h'⟩
  subst e
  cases r1
  exact ⟨b, rfl, h1 H1 B1 α1 s1⟩
theorem run_test {w : DE} {K : PySem.W.Frag} (m : MonoE w) {σ : St} {H : Hp} {Q : Bool → Hp → Prop} (h : tT K ga E (testW w) σ H Q) : eT K ga E w σ H fun x H1 => ∃ c, x = .bl c ∧ Q c H1 := by
  obtain ⟨env, S, B, α, re, wd, h'⟩ := h
  refine ⟨env, S, B, α, re, wd, m env S _ _ _ _ (fun x S1 ⟨b, e, h1⟩ v H1 B1 α1 s1 r1 => ?_) (fun _ _ z => z) h'⟩
  subst e
  cases r1
  exact ⟨b, rfl, h1 H1 B1 α1 s1⟩
theorem monoTest {w : DE} (m : MonoE w) : MonoT (testW w) := fun env S k k' x x' hk hx h' => m env S _ _ _ _ (fun y S1 ⟨b, e, h1⟩ => ⟨b, e, hk _ _ h1⟩) hx h'
theorem pxt_cmp {op : CmpOp} {r : R2} {g : DV → DV → Sto → Option DV} (ho : OpR X (compareOp op) r) (hg : Op2 X.K r g) (ha : PX ga X E a wa) (hb : PX ga X E b wb) (hm : behindInMarks op b = false) : PXT ga X E (.Compare a [op] [b] pos) (testW (op2W g wa wb)) := by
  refine ⟨monoTest (mono2 ha.mono hb.mono), ⟨fun pins s σ H Q I h => (pt_cmpR ho ha.run hb.run hm).run pins s σ H Q I ?_⟩⟩
  exact run2 hg ha.mono hb.mono (run_test (mono2 ha.mono hb.mono) h)
theorem pxt_not (ha : PXT ga X E a ta) : PXT ga X E (.UnaryOp .Not a pos) (notW ta) := by
  refine ⟨fun env S k k' x x' hk hx h => ha.mono env S _ _ _ _ (fun b S1 h1 => hk _ _ h1) hx h, ⟨fun pins s σ H Q I h => (pt_not ha.run).run pins s σ H Q I ?_⟩⟩
  obtain ⟨env, S, B, α, re, w, h⟩ := h
  exact ⟨env, S, B, α, re, w, ha.mono env S _ _ _ _ (fun b S1 h1 => h1) (fun _ _ z => z) h⟩
/-- the tail of an and, an or -/
structure PXW (ga : Str → Addr) (X : Cx) (E : WX) (e : Expr) (w : DT) : Prop where
  mono : MonoT w
  run : PW X e (tT X.K ga E w)
theorem PXW.pxt {e : Expr} {w : DT} (h : PXW ga X E e w) : PXT ga X E e w := ⟨h.mono, h.run.pt⟩
theorem pxw_and1 (ha : PXT ga X E a ta) : PXW ga X E (.BoolOp .And [a] pos) ta := ⟨ha.mono, pw_and1 ha.run⟩
theorem pxw_or1 (ha : PXT ga X E a ta) : PXW ga X E (.BoolOp .Or [a] pos) ta := ⟨ha.mono, pw_or1 ha.run⟩
theorem monoAnd (ma : MonoT ta) (mb : MonoT tb) : MonoT (andW ta tb) := fun env S k k' x x' hk hx h => ma env S _ _ _ _ (fun b S1 h1 => by
  cases b with
  | true => exact mb env S1 _ _ _ _ hk hx h1
  | false => exact hk _ _ h1) hx h
theorem monoOr (ma : MonoT ta) (mb : MonoT tb) : MonoT (orW ta tb) := fun env S k k' x x' hk hx h => ma env S _ _ _ _ (fun b S1 h1 => by
  cases b with
  | false => exact mb env S1 _ _ _ _ hk hx h1
  | true => exact hk _ _ h1) hx h
theorem pxw_and (ha : PXT ga X E a ta) (hb : PXW ga X E (.BoolOp .And (b :: rest) pos) tb) : PXW ga X E (.BoolOp .And (a :: b :: rest) pos) (andW ta tb) := by
  refine ⟨monoAnd ha.mono hb.mono, ⟨fun wh pins s σ H Q I h => (pw_and ha.run hb.run).run wh pins s σ H Q I ?_⟩⟩
  obtain ⟨env, S, B, α, re, w, h⟩ := h
  refine ⟨env, S, B, α, re, w, ha.mono env S _ _ _ _ (fun b S1 h1 H1 B1 α1 s1 => ?_) (fun _ _ z => z) h⟩
  cases b with
  | true => exact ⟨env, S1, B1, α1, re.mono s1.bb s1.pre, s1.wd, hb.mono env S1 _ _ _ _ (fun c S2 h2 H2 B2 α2 s2 => h2 H2 B2 α2 (s1.trans s2)) (fun _ _ z => kxT.after s1 z) h1⟩
  | false => exact h1 H1 B1 α1 s1
theorem pxw_or (ha : PXT ga X E a ta) (hb : PXW ga X E (.BoolOp .Or (b :: rest) pos) tb) : PXW ga X E (.BoolOp .Or (a :: b :: rest) pos) (orW ta tb) := by
  refine ⟨monoOr ha.mono hb.mono, ⟨fun wh pins s σ H Q I h => (pw_or ha.run hb.run).run wh pins s σ H Q I ?_⟩⟩
  obtain ⟨env, S, B, α, re, w, h⟩ := h
  refine ⟨env, S, B, α, re, w, ha.mono env S _ _ _ _ (fun b S1 h1 H1 B1 α1 s1 => ?_) (fun _ _ z => z) h⟩
  cases b with
  | false => exact ⟨env, S1, B1, α1, re.mono s1.bb s1.pre, s1.wd, hb.mono env S1 _ _ _ _ (fun c S2 h2 H2 B2 α2 s2 => h2 H2 B2 α2 (s1.trans s2)) (fun _ _ z => kxT.after s1 z) h1⟩
  | true => exact h1 H1 B1 α1 s1
theorem px_one {op} {w : DE} (h : PX ga X E a w) : PX ga X E (.BoolOp op [a] pos) w := ⟨h.mono, pe_one h.run⟩
theorem px_and (ha : PX ga X E a wa) (hb : PX ga X E (.BoolOp .And (b :: rest) pos) wb) : PX ga X E (.BoolOp .And (a :: b :: rest) pos) (andVW wa wb) := by
  refine ⟨fun env S k k' x x' hk hx h => ha.mono env S _ _ _ _ (fun y S1 ⟨c, e, h1⟩ => ⟨c, e, by
    cases c with
    | true => exact hb.mono env S1 _ _ _ _ hk hx h1
    | false => exact hk _ _ h1⟩) hx h, ⟨fun pins s σ H Q I h => (pe_and ha.run hb.run).run pins s σ H Q I ?_⟩⟩
  · obtain ⟨env, S, B, α, re, w, h⟩ := h
    refine ⟨env, S, B, α, re, w, ha.mono env S _ _ _ _ (fun y S1 ⟨c, e, h1⟩ v H1 B1 α1 s1 r1 => ?_) (fun _ _ z => z) h⟩
    subst e
    cases r1
    refine ⟨c, rfl, ?_⟩
    cases c with
    | true => exact ⟨env, S1, B1, α1, re.mono s1.bb s1.pre, s1.wd, hb.mono env S1 _ _ _ _ (fun z S2 h2 => kvT.after s1 h2) (fun _ _ z => kxT.after s1 z) h1⟩
    | false => exact h1 _ H1 B1 α1 s1 (.bl false)
theorem px_or (ha : PX ga X E a wa) (hb : PX ga X E (.BoolOp .Or (b :: rest) pos) wb) : PX ga X E (.BoolOp .Or (a :: b :: rest) pos) (orVW wa wb) := by
  refine ⟨fun env S k k' x x' hk hx h => ha.mono env S _ _ _ _ (fun y S1 ⟨c, e, h1⟩ => ⟨c, e, by
    cases c with
    | false => exact hb.mono env S1 _ _ _ _ hk hx h1
    | true => exact hk _ _ h1⟩) hx h, ⟨fun pins s σ H Q I h => (pe_or ha.run hb.run).run pins s σ H Q I ?_⟩⟩
  · obtain ⟨env, S, B, α, re, w, h⟩ := h
    refine ⟨env, S, B, α, re, w, ha.mono env S _ _ _ _ (fun y S1 ⟨c, e, h1⟩ v H1 B1 α1 s1 r1 => ?_) (fun _ _ z => z) h⟩
    subst e
    cases r1
    refine ⟨c, rfl, ?_⟩
    cases c with
    | false => exact ⟨env, S1, B1, α1, re.mono s1.bb s1.pre, s1.wd, hb.mono env S1 _ _ _ _ (fun z S2 h2 => kvT.after s1 h2) (fun _ _ z => kxT.after s1 z) h1⟩
    | true => exact h1 _ H1 B1 α1 s1 (.bl true)
theorem px_not (ha : PX ga X E a wa) : PX ga X E (.UnaryOp .Not a pos) (notVW wa) := by
  refine ⟨fun env S k k' x x' hk hx h => ha.mono env S _ _ _ _ (fun y S1 ⟨c, e, h1⟩ => ⟨c, e, hk _ _ h1⟩) hx h, ⟨fun pins s σ H Q I h => (pe_not ha.run).run pins s σ H Q I ?_⟩⟩
  obtain ⟨env, S, B, α, re, w, h⟩ := h
  refine ⟨env, S, B, α, re, w, ha.mono env S _ _ _ _ (fun y S1 ⟨c, e, h1⟩ v H1 B1 α1 s1 r1 => ?_) (fun _ _ z => z) h⟩
  subst e
  cases r1
  exact ⟨c, rfl, h1 _ H1 B1 α1 s1 (.bl _)⟩
theorem px_if (hc : PXT ga X E c ta) (ha : PX ga X E a wa) (hb : PX ga X E b wb) : PX ga X E (.IfExp c a b pos) (ifW ta wa wb) := by
  refine ⟨fun env S k k' x x' hk hx h => hc.mono env S _ _ _ _ (fun c S1 h1 => by
    cases c with
    | false => exact hb.mono env S1 _ _ _ _ hk hx h1
    | true => exact ha.mono env S1 _ _ _ _ hk hx h1) hx h, ⟨fun pins s σ H Q I h => (pe_ifExp hc.run ha.run hb.run).run pins s σ H Q I ?_⟩⟩
  · obtain ⟨env, S, B, α, re, w, h⟩ := h
    refine ⟨env, S, B, α, re, w, hc.mono env S _ _ _ _ (fun c S1 h1 H1 B1 α1 s1 => ?_) (fun _ _ z => z) h⟩
    cases c with
    | true => exact ⟨env, S1, B1, α1, re.mono s1.bb s1.pre, s1.wd, ha.mono env S1 _ _ _ _ (fun z S2 h2 => kvT.after s1 h2) (fun _ _ z => kxT.after s1 z) h1⟩
    | false => exact ⟨env, S1, B1, α1, re.mono s1.bb s1.pre, s1.wd, hb.mono env S1 _ _ _ _ (fun z S2 h2 => kvT.after s1 h2) (fun _ _ z => kxT.after s1 z) h1⟩
theorem pxa_nil : PXA ga X E [] nilA := by
  refine ⟨fun env S k k' x x' hk hx h => hk _ _ h, ⟨fun pos pins s σ H Q I h => pa_nil.run pos pins s σ H Q I ?_⟩⟩
  obtain ⟨env, S, B, α, re, w, h⟩ := h
  exact h [] H B α (Stp.refl w) .nil
theorem pxa_cons (ha : PX ga X E a wa) (hr : PXA ga X E rest wA) (hs : starEach (a :: rest) X.env = (false, eval a X.env) :: starEach rest X.env := by rfl) : PXA ga X E (a :: rest) (consA wa wA) := by
  refine ⟨fun env S k k' x x' hk hx h => ha.mono env S _ _ _ _ (fun y S1 h1 => hr.mono env S1 _ _ _ _ (fun ys S2 h2 => hk _ _ h2) hx h1) hx h, ⟨fun pos pins s σ H Q I h => (pa_cons ha.run hr.run hs).run pos pins s σ H Q I ?_⟩⟩
  obtain ⟨env, S, B, α, re, w, h⟩ := h
  refine ⟨env, S, B, α, re, w, ha.mono env S _ _ _ _ (fun y S1 h1 v1 H1 B1 α1 s1 r1 => ?_) (fun _ _ z => z) h⟩
  exact ⟨env, S1, B1, α1, re.mono s1.bb s1.pre, s1.wd, hr.mono env S1 _ _ _ _ (fun ys S2 h2 vs H2 B2 α2 s2 r2 => h2 (v1 :: vs) H2 B2 α2 (s1.trans s2) (.cons (r1.mono s2.bb s2.pre) r2)) (fun _ _ z => kxT.after s1 z) h1⟩

/-! ### two comparisons in a chain -/
def chainW (g g' : DV → DV → Sto → Option DV) (wa wb wc : DE) : DE := fun env S k kx => wa env S (fun x S1 => wb env S1 (fun y S2 => ∃ c, g x y S2 = some (.d (.bool c)) ∧
  if c = true then wc env S2 (fun z S3 => ∃ u, g' y z S3 = some u ∧ k u S3) kx else k (.d (.bool false)) S2) kx) kx
theorem px_chain {op op' : CmpOp} {r r' : R2} {g g' : DV → DV → Sto → Option DV} {wc : DE} (ho : OpR X (compareOp op) r) (ho' : OpR X (compareOp op') r') (hg : Op2 X.K r g) (hg' : Op2 X.K r' g') (ha : PX ga X E a wa) (hb : PX ga X E b wb) (hc : PX ga X E c wc)
    (hm : lastMarks [op, op'] [b, c] = false := by with_unfolding_all rfl) : PX ga X E (.Compare a [op, op'] [b, c] pos) (chainW g g' wa wb wc) := by
  refine ⟨fun env S k k' x x' hk hx h => ha.mono env S _ _ _ _ (fun y S1 h1 => hb.mono env S1 _ _ _ _ (fun z S2 ⟨d, e, h2⟩ => ⟨d, e, by
    cases d with
    | true => exact hc.mono env S2 _ _ _ _ (fun z S3 ⟨u, e3, h3⟩ => ⟨u, e3, hk _ _ h3⟩) hx h2
    | false => exact hk _ _ h2⟩) hx h1) hx h, ⟨fun pins s σ H Q I h => (pe_chain ho ho' ha.run hb.run hc.run hm).run pins s σ H Q I ?_⟩⟩
  · obtain ⟨env, S, B, α, re, w, h⟩ := h
    refine ⟨env, S, B, α, re, w, ha.mono env S _ _ _ _ (fun y S1 h1 v1 H1 B1 α1 s1 r1 => ?_) (fun _ _ z => z) h⟩
    refine ⟨env, S1, B1, α1, re.mono s1.bb s1.pre, s1.wd, hb.mono env S1 _ _ _ _ (fun z S2 ⟨d, e, h2⟩ v2 H2 B2 α2 s2 r2 => ?_) (fun _ _ z => kxT.after s1 z) h1⟩
    refine hg B2 α2 S2 H2 v1 v2 y z _ s2.wd (r1.mono s2.bb s2.pre) r2 e _ (fun v3 H3 B3 α3 s3 r3 => ?_)
    cases r3
    refine ⟨d, rfl, ?_⟩
    cases d with
    | true =>
      refine ⟨env, S2, B3, α3, re.mono (s1.bb.trans (s2.bb.trans s3.bb)) ((s1.trans s2).trans s3).pre, s3.wd, hc.mono env S2 _ _ _ _ (fun w' S4 ⟨u, e4, h4⟩ v4 H4 B4 α4 s4 r4 => ?_) (fun _ _ z => kxT.after ((s1.trans s2).trans s3) z) h2⟩
      exact hg' B4 α4 S4 H4 v2 v4 z w' u s4.wd (r2.mono (s3.bb.trans s4.bb) (s3.trans s4).pre) r4 e4 Q (kvT.after (((s1.trans s2).trans s3).trans s4) h4)
    | false => exact h2 _ H3 B3 α3 ((s1.trans s2).trans s3) (.bl false)
end
end DW

set_option Elab.async false
set_option linter.all false
set_option maxRecDepth 100000
set_option maxHeartbeats 4000000
set_option autoImplicit false
/-! DW3: the operators, built-ins and displays on data. -/
namespace DW
open PySem L2

/-! ### sequences -/
def pures : List DV → Option (List PyData)
  | [] => some []
  | .d x :: r => (pures r).map (x :: ·)
  | _ :: _ => none
/-- the items of pure data: a list (true) or a tuple -/
def seqD : DV → Sto → Option (Bool × List PyData)
  | .d (.list xs), _ => some (true, xs)
  | .d (.tuple xs), _ => some (false, xs)
  | .p n, S => match S[n]? with
    | some (.lst xs) => (pures xs).map fun ys => (true, ys)
    | _ => none
  | .s ns, _ => some (true, ns.map PyData.int)
  | _, _ => none
section
variable {K : PySem.W.Frag} {B B' : Hp} {α α' : List Addr} {S S' : Sto} {H H' : Hp} {v : V} {x : DV} {Q : VK}
theorem DqAll.len : ∀ {vs : List V} {ds : List PyData}, DqAll K B vs ds → vs.length = ds.length
  | _, _, .nil => rfl
  | _, _, .cons _ r => by simp [DqAll.len r]
theorem DqAll.get : ∀ {vs : List V} {ds : List PyData} {i : Nat} {d : PyData}, DqAll K B vs ds → ds[i]? = some d → ∃ v, vs[i]? = some v ∧ Dq K B v d
  | _, _, _, _, .nil, e => by simp at e
  | _, _, 0, _, .cons h _, e => by simp at e; subst e; exact ⟨_, rfl, h⟩
  | _, _, i + 1, _, .cons _ r, e => by obtain ⟨v, h1, h2⟩ := DqAll.get (i := i) r (by simpa using e); exact ⟨v, by simpa using h1, h2⟩
theorem DqAll.get' : ∀ {vs : List V} {ds : List PyData} {i : Nat} {v : V}, DqAll K B vs ds → vs[i]? = some v → ∃ d, ds[i]? = some d ∧ Dq K B v d
  | _, _, _, _, .nil, e => by simp at e
  | _, _, 0, _, .cons h _, e => by simp at e; subst e; exact ⟨_, rfl, h⟩
  | _, _, i + 1, _, .cons _ r, e => by obtain ⟨v, h1, h2⟩ := DqAll.get' (i := i) r (by simpa using e); exact ⟨v, by simpa using h1, h2⟩
theorem DqAll.append : ∀ {vs ws : List V} {ds es : List PyData}, DqAll K B vs ds → DqAll K B ws es → DqAll K B (vs ++ ws) (ds ++ es)
  | _, _, _, _, .nil, s => s
  | _, _, _, _, .cons h r, s => .cons h (DqAll.append r s)
theorem DqAll.take : ∀ {vs : List V} {ds : List PyData} (n : Nat), DqAll K B vs ds → DqAll K B (vs.take n) (ds.take n)
  | _, _, 0, _ => .nil
  | _, _, _ + 1, .nil => .nil
  | _, _, n + 1, .cons h r => .cons h (DqAll.take n r)
theorem DqAll.drop : ∀ {vs : List V} {ds : List PyData} (n : Nat), DqAll K B vs ds → DqAll K B (vs.drop n) (ds.drop n)
  | _, _, 0, h => h
  | _, _, _ + 1, .nil => .nil
  | _, _, n + 1, .cons _ r => DqAll.drop n r
theorem VRs.pure : ∀ {vs : List V} {xs : List DV} {ds : List PyData}, VRs K B α vs xs → pures xs = some ds → DqAll K B vs ds
  | _, _, _, .nil, e => by
    cases e; exact .nil
  | _, _, _, .cons (x := x) (xs := xs) h r, e => by
    cases x with
    | p n => cases e
    | s n => cases e
    | d y =>
      cases q : pures xs with
      | none => simp [pures, q] at e
      | some ds' =>
        simp [pures, q] at e
        subst e
        exact .cons h (VRs.pure r q)
theorem pures_map : ∀ ds : List PyData, pures (ds.map DV.d) = some ds
  | [] => rfl
  | d :: ds => by simp [pures, pures_map ds]
theorem VRs.ofPure : ∀ {vs : List V} {ds : List PyData}, DqAll K B vs ds → VRs K B α vs (ds.map DV.d)
  | _, _, .nil => .nil
  | _, _, .cons h r => .cons h (VRs.ofPure r)
theorem dq_ints : ∀ ns : List Int, DqAll K B (ns.map V.int) (ns.map PyData.int)
  | [] => .nil
  | n :: ns => .cons (.int n) (dq_ints ns)
/-- what seqD tells -/
theorem seq_ok {k : Bool} {ds : List PyData} (w : Wd K B α S H) (r : VR K B α v x) (e : seqD x S = some (k, ds)) : ∃ a vs, v = .ref a ∧ (if k = true then SqL K H a vs else SqT K H a vs) ∧ DqAll K B vs ds := by
  cases x with
  | d y =>
    cases y with
    | list xs =>
      cases r with
      | lst h q =>
        simp only [seqD, Option.some.injEq, Prod.mk.injEq] at e
        obtain ⟨rfl, rfl⟩ := e
        exact ⟨_, _, rfl, SqL.of (w.ex _ _ h), q⟩
    | tuple xs =>
      cases r with
      | tup h q =>
        simp only [seqD, Option.some.injEq, Prod.mk.injEq] at e
        obtain ⟨rfl, rfl⟩ := e
        exact ⟨_, _, rfl, same_t w.ex h, q⟩
    | _ => simp [seqD] at e
  | p n =>
    obtain ⟨a, ha, rfl⟩ := r
    have e : (match S[n]? with
      | some (.lst xs) => (pures xs).map fun ys => (true, ys)
      | _ => none) = some (k, ds) := e
    cases hs : S[n]? with
    | none => rw [hs] at e; simp at e
    | some o =>
      rw [hs] at e
      cases o with
      | lst xs =>
        cases q : pures xs with
        | none => simp [q] at e
        | some ys =>
          simp [q] at e
          obtain ⟨rfl, rfl⟩ := e
          obtain ⟨a', h1, h2, vs, h3, h4⟩ := w.obj n _ hs (by intro z; cases z)
          rw [ha] at h1; cases h1
          exact ⟨a, vs, rfl, SqL.of h3, VRs.pure h4 q⟩
      | dic lk kvs => simp at e
      | gone => simp at e
  | s ns =>
    obtain ⟨a, rfl, h⟩ := r
    simp only [seqD, Option.some.injEq, Prod.mk.injEq] at e
    obtain ⟨rfl, rfl⟩ := e
    exact ⟨a, _, rfl, same_l w.ex h, dq_ints ns⟩
/-- a new pure tuple, a new pure list -/
theorem kv_tup {vs : List V} {ds : List PyData} {p : Addr} (w : Wd K B α S H) (hp : H p = none) (r : DqAll K B vs ds) (h : kvT K B α H Q (.d (.tuple ds)) S) : Q (.ref p) (upd H p (.tup vs)) :=
  h _ _ _ α (w.fresh hp) (Dq.tup (SqT.of upd_same) (r.same (Same.upd_none (w.ex.free hp))))
theorem kv_lst {vs : List V} {ds : List PyData} {p : Addr} (w : Wd K B α S H) (hp : H p = none) (r : DqAll K B vs ds) (h : kvT K B α H Q (.d (.list ds)) S) : Q (.ref p) (upd H p (.lst vs)) :=
  h _ _ _ α (w.fresh hp) (Dq.lst upd_same (r.same (Same.upd_none (w.ex.free hp))))
theorem kv_same {d : PyData} (w : Wd K B α S H) (r : Dq K B v d) (h : kvT K B α H Q (.d d) S) : Q v H := h _ _ _ α (Stp.refl w) r
end
theorem lim_le {n : Nat} (h : n ≤ 1000000) : n ≤ sizeLine := Nat.le_trans h (by decide)


/-! ### operators -/
def addD : DV → DV → Sto → Option DV
  | .d (.int i), .d (.int j), _ => some (.d (.int (i + j)))
  | .d (.str i), .d (.str j), _ => if i.length + j.length ≤ 1000000 then some (.d (.str (i ++ j))) else none
  | .d (.tuple xs), .d (.tuple ys), _ => if xs.length + ys.length ≤ 1000000 then some (.d (.tuple (xs ++ ys))) else none
  | .d (.list xs), .d (.list ys), _ => if xs.length + ys.length ≤ 1000000 then some (.d (.list (xs ++ ys))) else none
  | _, _, _ => none
def subD : DV → DV → Sto → Option DV
  | .d (.int i), .d (.int j), _ => some (.d (.int (i - j)))
  | _, _, _ => none
def mulD : DV → DV → Sto → Option DV
  | .d (.int i), .d (.int j), _ => if (-18446744073709551616 < i ∧ i < 18446744073709551616) ∨ (-18446744073709551616 < j ∧ j < 18446744073709551616) then some (.d (.int (i * j))) else none
  | .d (.list xs), .d (.int k), _ => if 0 ≤ k ∧ k ≤ 1000 ∧ xs.length ≤ 1000 then some (.d (.list (List.replicate k.toNat xs).flatten)) else none
  | .d (.tuple xs), .d (.int k), _ => if 2 ≤ k ∧ k ≤ 1000 ∧ xs.length ≤ 1000 ∧ xs ≠ [] then some (.d (.tuple (List.replicate k.toNat xs).flatten)) else none
  | _, _, _ => none
def divD : DV → DV → Sto → Option DV
  | .d (.int i), .d (.int j), _ => if 0 < j ∧ j < 1073741824 then some (.d (.int (i / j))) else none
  | _, _, _ => none
def modD : DV → DV → Sto → Option DV
  | .d (.int i), .d (.int j), _ => if 0 < j then some (.d (.int (i % j))) else none
  | _, _, _ => none
def powD : DV → DV → Sto → Option DV
  | .d (.int i), .d (.int j), _ => if 0 ≤ j ∧ j ≤ 100 ∧ -1000 ≤ i ∧ i ≤ 1000 then some (.d (.int (i ^ j.toNat))) else none
  | _, _, _ => none
def cmpD (p : Int → Int → Bool) : DV → DV → Sto → Option DV
  | .d (.int i), .d (.int j), _ => some (.d (.bool (p i j)))
  | _, _, _ => none
abbrev ltD := cmpD fun i j => decide (i < j)
abbrev leD := cmpD fun i j => decide (i ≤ j)
abbrev gtD := cmpD fun i j => decide (j < i)
abbrev geD := cmpD fun i j => decide (j ≤ i)
/-- pure data behind a value -/
def dataD : DV → Sto → Option PyData
  | .d x, _ => some x
  | x, S => (seqD x S).map fun z => .list z.2
def eqD : DV → DV → Sto → Option DV := fun x y S => match dataD x S, dataD y S with
  | some a, some b => if SeqAt.shaped a = true ∧ SeqAt.shaped b = true then some (.d (.bool (PyData.eqv a b))) else none
  | _, _ => none
def neD : DV → DV → Sto → Option DV := fun x y S => match dataD x S, dataD y S with
  | some a, some b => if SeqAt.shaped a = true ∧ SeqAt.shaped b = true then some (.d (.bool (!PyData.eqv a b))) else none
  | _, _ => none
/-- x is None -/
def isND : DV → DV → Sto → Option DV
  | .d x, .d .none, _ => some (.d (.bool (match x with
    | .none => true
    | _ => false)))
  | _, _, _ => none
def isNND : DV → DV → Sto → Option DV
  | .d x, .d .none, _ => some (.d (.bool (match x with
    | .none => false
    | _ => true)))
  | _, _, _ => none
def flatD : PyData → Bool
  | .none => true
  | .bool _ => true
  | .int _ => true
  | .str _ => true
  | _ => false
/-- x in a list or tuple of flat things -/
def inD (neg : Bool) : DV → DV → Sto → Option DV := fun x y S => match x, seqD y S with
  | .d a, some (_, ds) => if flatD a = true ∧ ds.all flatD = true then some (.d (.bool (if neg then !ds.any (fun z => PyData.eqv z a) else ds.any (fun z => PyData.eqv z a)))) else none
  | _, _ => none
/-- x[i] -/
def ixD : DV → DV → Sto → Option DV := fun x y S => match y with
  | .d (.int i) => (match x with
    | .d (.str z) => if z.length ≤ 1000000 then (atI z.cps.toList i).map fun c => .d (.str ⟨#[c]⟩) else none
    | x => match seqD x S with
      | some (_, ds) => (atI ds i).map .d
      | none => none)
  | _ => none
section
variable {K : PySem.W.Frag}
theorem o_add : Op2 K (fun x y H Q => ((rI0 fun i j => .int (i + j)) x y H Q ∨ (∃ i j, x = .str i ∧ y = .str j ∧ i.length + j.length ≤ sizeLine ∧ Q (.str (i ++ j)) H)) ∨ (rCatA K x y H Q ∨ rCat x y H Q)) addD := by
  intro B α S H vx vy x y z w rx ry e Q h
  unfold addD at e
  split at e
  · cases e; cases rx; cases ry; exact .inl (.inl ⟨_, _, rfl, rfl, kv_same w (.int _) h⟩)
  · split at e
    · cases e; cases rx; cases ry; exact .inl (.inr ⟨_, _, rfl, rfl, lim_le (by assumption), kv_same w (.str _) h⟩)
    · cases e
  · split at e
    · rename_i hl
      cases e
      cases rx with
      | tup h1 q1 => cases ry with
        | tup h2 q2 =>
          refine .inr (.inl ⟨_, _, _, _, rfl, rfl, same_t w.ex h1, same_t w.ex h2, lim_le (by rw [q1.len, q2.len]; exact hl), fun z => ?_, fun _ z => ?_, fun _ _ p hp => kv_tup w hp (q1.append q2) h⟩)
          · subst z; cases q1; exact kv_same w (.tup h2 q2) h
          · subst z; cases q2; rw [List.append_nil] at h; exact kv_same w (.tup h1 q1) h
    · cases e
  · split at e
    · rename_i hl
      cases e
      cases rx with
      | lst h1 q1 => cases ry with
        | lst h2 q2 => exact .inr (.inr ⟨_, _, _, _, rfl, rfl, w.ex _ _ h1, w.ex _ _ h2, lim_le (by rw [q1.len, q2.len]; exact hl), fun p hp => kv_lst w hp (q1.append q2) h⟩)
    · cases e
  · cases e
theorem o_sub : Op2 K (rI0 fun i j => .int (i - j)) subD := by
  intro B α S H vx vy x y z w rx ry e Q h
  unfold subD at e
  split at e
  · cases e; cases rx; cases ry; exact ⟨_, _, rfl, rfl, kv_same w (.int _) h⟩
  · cases e
theorem o_div : Op2 K (rI CDiv fun i j => .int (i / j)) divD := by
  intro B α S H vx vy x y z w rx ry e Q h
  unfold divD at e
  split at e
  · split at e
    · cases e; cases rx; cases ry; exact ⟨_, _, rfl, rfl, by assumption, kv_same w (.int _) h⟩
    · cases e
  · cases e
theorem o_mod : Op2 K (rI (fun _ j => 0 < j) fun i j => .int (i % j)) modD := by
  intro B α S H vx vy x y z w rx ry e Q h
  unfold modD at e
  split at e
  · split at e
    · cases e; cases rx; cases ry; exact ⟨_, _, rfl, rfl, by assumption, kv_same w (.int _) h⟩
    · cases e
  · cases e
theorem o_pow : Op2 K (rI CPow fun i j => .int (i ^ j.toNat)) powD := by
  intro B α S H vx vy x y z w rx ry e Q h
  unfold powD at e
  split at e
  · split at e
    · rename_i hl
      cases e; cases rx; cases ry; exact ⟨_, _, rfl, rfl, ⟨hl.1, by omega, by omega⟩, kv_same w (.int _) h⟩
    · cases e
  · cases e
theorem flat_rep {α : Type} (xs : List α) : ∀ k : Nat, (List.replicate k xs).flatten.length = k * xs.length := fun k => by simp
theorem DqAll.rep {B : Hp} {vs : List V} {ds : List PyData} (h : DqAll K B vs ds) : ∀ k : Nat, DqAll K B (List.replicate k vs).flatten (List.replicate k ds).flatten
  | 0 => .nil
  | k + 1 => by simpa [List.replicate_succ] using h.append (DqAll.rep h k)
theorem o_mul : Op2 K (fun x y H Q => (rI CMul fun i j => .int (i * j)) x y H Q ∨ (rRep x y H Q ∨ rRepT K x y H Q)) mulD := by
  intro B α S H vx vy x y z w rx ry e Q h
  unfold mulD at e
  split at e
  · split at e
    · rename_i hl
      cases e; cases rx; cases ry; exact .inl ⟨_, _, rfl, rfl, hl.imp (fun z => ⟨by omega, by omega⟩) fun z => ⟨by omega, by omega⟩, kv_same w (.int _) h⟩
    · cases e
  · split at e
    · rename_i hl
      cases e; cases ry
      cases rx with
      | lst h1 q1 =>
        refine .inr (.inl ⟨_, _, _, rfl, rfl, w.ex _ _ h1, by omega, by omega, lim_le ?_, fun p hp => kv_lst w hp (q1.rep _) h⟩)
        rw [q1.len]
        exact Nat.le_trans (Nat.mul_le_mul hl.2.2 (show _ ≤ 1000 by omega)) (by decide)
    · cases e
  · split at e
    · rename_i hl
      cases e; cases ry
      cases rx with
      | tup h1 q1 =>
        refine .inr (.inr ⟨_, _, _, rfl, rfl, same_t w.ex h1, ?_, hl.1, hl.2.1, by rw [q1.len]; exact hl.2.2.1, fun p hp => kv_tup w hp (q1.rep _) h⟩)
        intro z; subst z; cases q1; exact hl.2.2.2 rfl
    · cases e
  · cases e
theorem o_cmp {p : Int → Int → Bool} : Op2 K (rI0 fun i j => .bl (p i j)) (cmpD p) := by
  intro B α S H vx vy x y z w rx ry e Q h
  unfold cmpD at e
  split at e
  · cases e; cases rx; cases ry; exact ⟨_, _, rfl, rfl, kv_same w (.bl _) h⟩
  · cases e
theorem DpAll.same' {B B' : Hp} (e : Same B B') : ∀ {vs : List V} {ds : List PyData}, DqAll K B vs ds → DpAll K B' vs ds := fun h => (DqAll.same e h).dp
theorem data_ok {B : Hp} {α : List Addr} {S : Sto} {H : Hp} {v : V} {x : DV} {d : PyData} (w : Wd K B α S H) (r : VR K B α v x) (e : dataD x S = some d) : Dp K H v d := by
  cases x with
  | d y => cases e; exact (Dq.same w.ex r).dp
  | p n =>
    have e : (seqD (.p n) S).map (fun z => PyData.list z.2) = some d := e
    cases q : seqD (.p n) S with
    | none => rw [q] at e; cases e
    | some z =>
      obtain ⟨k, ds⟩ := z
      rw [q] at e
      cases e
      obtain ⟨a, vs, rfl, h1, h2⟩ := seq_ok w r q
      have hk : k = true := by
        unfold seqD at q
        cases hs : S[n]? with
        | none => simp [hs] at q
        | some o =>
          simp [hs] at q
          cases o with
          | lst xs =>
            cases hm : pures xs with
            | none => simp [hm] at q
            | some ys => simp [hm] at q; exact q.1
          | _ => simp at q
      subst hk
      exact .lst h1 (DpAll.same' w.ex h2)
  | s ns =>
    have e : (seqD (.s ns) S).map (fun z => PyData.list z.2) = some d := e
    obtain ⟨a, vs, rfl, h1, h2⟩ := seq_ok w r (show seqD (.s ns) S = some (true, ns.map PyData.int) from rfl)
    cases e
    exact .lst h1 (DpAll.same' w.ex h2)
theorem o_eq : Op2 K (rEqD K) eqD := by
  intro B α S H vx vy x y z w rx ry e Q h
  unfold eqD at e
  split at e
  · split at e
    · rename_i h1 h2 hl
      cases e
      exact ⟨_, _, data_ok w rx h1, data_ok w ry h2, hl.1, hl.2, kv_same w (.bl _) h⟩
    · cases e
  · cases e
theorem o_ne : Op2 K (rNeD K) neD := by
  intro B α S H vx vy x y z w rx ry e Q h
  unfold neD at e
  split at e
  · split at e
    · rename_i h1 h2 hl
      cases e
      exact ⟨_, _, data_ok w rx h1, data_ok w ry h2, hl.1, hl.2, kv_same w (.bl _) h⟩
    · cases e
  · cases e
theorem o_isN : Op2 K (fun x y H Q => y = .non ∧ Q (.bl (decide (x = .non))) H) isND := by
  intro B α S H vx vy x y z w rx ry e Q h
  unfold isND at e
  split at e
  · cases e; cases ry
    refine ⟨rfl, ?_⟩
    cases rx with
    | non => exact kv_same w (.bl _) h
    | _ => exact kv_same w (.bl _) h
  · cases e
theorem o_notN : Op2 K (fun x y H Q => y = .non ∧ Q (.bl (!decide (x = .non))) H) isNND := by
  intro B α S H vx vy x y z w rx ry e Q h
  unfold isNND at e
  split at e
  · cases e; cases ry
    refine ⟨rfl, ?_⟩
    cases rx with
    | non => exact kv_same w (.bl _) h
    | _ => exact kv_same w (.bl _) h
  · cases e
theorem flat_ok {B : Hp} {v : V} {d : PyData} (r : Dq K B v d) (f : flatD d = true) : flatV v = true := by
  cases r with
  | non => rfl
  | bl => rfl
  | int => rfl
  | str => rfl
  | lst _ _ => cases f
  | tup _ _ => cases f
theorem flats_ok {B : Hp} : ∀ {vs : List V} {ds : List PyData}, DqAll K B vs ds → ds.all flatD = true → vs.all flatV = true
  | _, _, .nil, _ => rfl
  | _, _, .cons h r, f => by
    simp only [List.all_cons, Bool.and_eq_true] at f ⊢
    exact ⟨flat_ok h f.1, flats_ok r f.2⟩
theorem eqv_flat {B : Hp} {v u : V} {d e : PyData} (r : Dq K B v d) (q : Dq K B u e) (f : flatD d = true) (g : flatD e = true) : eqV v u = PyData.eqv d e := by
  cases r <;> cases q <;> first | (cases f; done) | (cases g; done) | skip
  all_goals first | rfl | simp [eqV, PyData.eqv]
theorem any_flat {B : Hp} {v : V} {d : PyData} (r : Dq K B v d) (f : flatD d = true) : ∀ {vs : List V} {ds : List PyData}, DqAll K B vs ds → ds.all flatD = true → inV v vs = ds.any fun z => PyData.eqv z d
  | _, _, .nil, _ => rfl
  | _, _, .cons h q, g => by
    simp only [List.all_cons, Bool.and_eq_true] at g
    have ih := any_flat r f q g.2
    unfold inV at ih ⊢
    simp only [List.any_cons, ih, eqv_flat h r g.1 f]
theorem o_in {neg : Bool} : Op2 K (rIn K neg) (inD neg) := by
  intro B α S H vx vy x y z w rx ry e Q h
  unfold inD at e
  split at e
  · rename_i a k ds hs
    split at e
    · rename_i hl
      cases e
      obtain ⟨p, vs, rfl, h1, h2⟩ := seq_ok w ry hs
      refine ⟨p, vs, rfl, ?_, flat_ok rx hl.1, flats_ok h2 hl.2, ?_⟩
      · cases k with
        | true => exact .inl h1
        | false => exact .inr h1
      · rw [any_flat rx hl.1 h2 hl.2]
        exact kv_same w (.bl _) h
    · cases e
  · cases e
theorem at_ok {B : Hp} {vs : List V} {ds : List PyData} {i : Int} {d : PyData} (r : DqAll K B vs ds) (e : atI ds i = some d) : ∃ v, atI vs i = some v ∧ Dq K B v d := by
  unfold atI at e ⊢
  rw [r.len]
  cases q : ixN ds.length i with
  | none => rw [q] at e; cases e
  | some j =>
    rw [q] at e
    obtain ⟨v, h1, h2⟩ := r.get (i := j) e
    exact ⟨v, h1, h2⟩
theorem o_ix : Op2 K (rIx K) ixD := by
  intro B α S H vx vy x y z w rx ry e Q h
  unfold ixD at e
  split at e
  · cases ry
    split at e
    · split at e
      · rename_i hl
        rename_i i _ z0
        cases q : atI z0.cps.toList i with
        | none => rw [q] at e; cases e
        | some c =>
          rw [q] at e
          cases e; cases rx
          exact .inr (.inr ⟨_, _, c, rfl, rfl, lim_le hl, q, kv_same w (.str _) h⟩)
      · cases e
    · split at e
      · rename_i k ds hs
        obtain ⟨p, vs, rfl, h1, h2⟩ := seq_ok w rx hs
        cases q : atI ds _ with
        | none => rw [q] at e; cases e
        | some d =>
          rw [q] at e
          cases e
          obtain ⟨v, h3, h4⟩ := at_ok h2 q
          cases k with
          | true => exact .inl ⟨p, vs, _, v, rfl, rfl, h1, h3, kv_same w h4 h⟩
          | false => exact .inr (.inl ⟨p, vs, _, v, rfl, rfl, h1, h3, kv_same w h4 h⟩)
      · cases e
  · cases e
end
/-! ### the operators as rules -/
section
variable {ga : Str → Addr} {X : Cx} {E : WX} {a b : Expr} {wa wb : DE} {pos : Pos}
theorem px_add (ha : PX ga X E a wa) (hb : PX ga X E b wb) : PX ga X E (.BinOp a .Add b pos) (op2W addD wa wb) := px_op ((op_add.or op_add_str).or (op_catA.or op_cat)) o_add ha hb
theorem px_sub (ha : PX ga X E a wa) (hb : PX ga X E b wb) : PX ga X E (.BinOp a .Sub b pos) (op2W subD wa wb) := px_op op_sub o_sub ha hb
theorem px_mul (ha : PX ga X E a wa) (hb : PX ga X E b wb) : PX ga X E (.BinOp a .Mult b pos) (op2W mulD wa wb) := px_op (op_mul.or (op_rep.or op_repT)) o_mul ha hb
theorem px_div (ha : PX ga X E a wa) (hb : PX ga X E b wb) : PX ga X E (.BinOp a .FloorDiv b pos) (op2W divD wa wb) := px_op op_fdiv o_div ha hb
theorem px_mod (ha : PX ga X E a wa) (hb : PX ga X E b wb) : PX ga X E (.BinOp a .Mod b pos) (op2W modD wa wb) := px_op op_mod o_mod ha hb
theorem px_pow (ha : PX ga X E a wa) (hb : PX ga X E b wb) : PX ga X E (.BinOp a .Pow b pos) (op2W powD wa wb) := px_op op_pow o_pow ha hb
theorem px_lt (ha : PX ga X E a wa) (hb : PX ga X E b wb) : PX ga X E (.Compare a [.Lt] [b] pos) (op2W ltD wa wb) := px_cmp op_lt o_cmp ha hb (nomark _)
theorem px_le (ha : PX ga X E a wa) (hb : PX ga X E b wb) : PX ga X E (.Compare a [.LtE] [b] pos) (op2W leD wa wb) := px_cmp op_le o_cmp ha hb (nomark _)
theorem px_gt (ha : PX ga X E a wa) (hb : PX ga X E b wb) : PX ga X E (.Compare a [.Gt] [b] pos) (op2W gtD wa wb) := px_cmp op_gt o_cmp ha hb (nomark _)
theorem px_ge (ha : PX ga X E a wa) (hb : PX ga X E b wb) : PX ga X E (.Compare a [.GtE] [b] pos) (op2W geD wa wb) := px_cmp op_ge o_cmp ha hb (nomark _)
theorem px_eq (hu : X.A.units + 64 < cLine) (ha : PX ga X E a wa) (hb : PX ga X E b wb) : PX ga X E (.Compare a [.Eq] [b] pos) (op2W eqD wa wb) := px_cmp (op_eqD hu) o_eq ha hb (nomark _)
theorem px_ne (hu : X.A.units + 64 < cLine) (ha : PX ga X E a wa) (hb : PX ga X E b wb) : PX ga X E (.Compare a [.NotEq] [b] pos) (op2W neD wa wb) := px_cmp (op_neD hu) o_ne ha hb (nomark _)
theorem px_is (ha : PX ga X E a wa) (hb : PX ga X E b wb) : PX ga X E (.Compare a [.Is] [b] pos) (op2W isND wa wb) := px_cmp op_isN o_isN ha hb (nomark _)
theorem px_isnot (ha : PX ga X E a wa) (hb : PX ga X E b wb) : PX ga X E (.Compare a [.IsNot] [b] pos) (op2W isNND wa wb) := px_cmp op_notN o_notN ha hb (nomark _)
theorem px_in (hm : behindInMarks .In b = false) (ha : PX ga X E a wa) (hb : PX ga X E b wb) : PX ga X E (.Compare a [.In] [b] pos) (op2W (inD false) wa wb) := px_cmp op_in_seq o_in ha hb hm
theorem px_notin (hm : behindInMarks .NotIn b = false) (ha : PX ga X E a wa) (hb : PX ga X E b wb) : PX ga X E (.Compare a [.NotIn] [b] pos) (op2W (inD true) wa wb) := px_cmp op_notIn_seq o_in ha hb hm
theorem pxt_lt (ha : PX ga X E a wa) (hb : PX ga X E b wb) : PXT ga X E (.Compare a [.Lt] [b] pos) (testW (op2W ltD wa wb)) := pxt_cmp op_lt o_cmp ha hb (nomark _)
theorem pxt_le (ha : PX ga X E a wa) (hb : PX ga X E b wb) : PXT ga X E (.Compare a [.LtE] [b] pos) (testW (op2W leD wa wb)) := pxt_cmp op_le o_cmp ha hb (nomark _)
theorem pxt_gt (ha : PX ga X E a wa) (hb : PX ga X E b wb) : PXT ga X E (.Compare a [.Gt] [b] pos) (testW (op2W gtD wa wb)) := pxt_cmp op_gt o_cmp ha hb (nomark _)
theorem pxt_ge (ha : PX ga X E a wa) (hb : PX ga X E b wb) : PXT ga X E (.Compare a [.GtE] [b] pos) (testW (op2W geD wa wb)) := pxt_cmp op_ge o_cmp ha hb (nomark _)
theorem pxt_eq (hu : X.A.units + 64 < cLine) (ha : PX ga X E a wa) (hb : PX ga X E b wb) : PXT ga X E (.Compare a [.Eq] [b] pos) (testW (op2W eqD wa wb)) := pxt_cmp (op_eqD hu) o_eq ha hb (nomark _)
theorem pxt_ne (hu : X.A.units + 64 < cLine) (ha : PX ga X E a wa) (hb : PX ga X E b wb) : PXT ga X E (.Compare a [.NotEq] [b] pos) (testW (op2W neD wa wb)) := pxt_cmp (op_neD hu) o_ne ha hb (nomark _)
theorem pxt_is (ha : PX ga X E a wa) (hb : PX ga X E b wb) : PXT ga X E (.Compare a [.Is] [b] pos) (testW (op2W isND wa wb)) := pxt_cmp op_isN o_isN ha hb (nomark _)
theorem pxt_isnot (ha : PX ga X E a wa) (hb : PX ga X E b wb) : PXT ga X E (.Compare a [.IsNot] [b] pos) (testW (op2W isNND wa wb)) := pxt_cmp op_notN o_notN ha hb (nomark _)
theorem pxt_in (hm : behindInMarks .In b = false) (ha : PX ga X E a wa) (hb : PX ga X E b wb) : PXT ga X E (.Compare a [.In] [b] pos) (testW (op2W (inD false) wa wb)) := pxt_cmp op_in_seq o_in ha hb hm
theorem pxt_notin (hm : behindInMarks .NotIn b = false) (ha : PX ga X E a wa) (hb : PX ga X E b wb) : PXT ga X E (.Compare a [.NotIn] [b] pos) (testW (op2W (inD true) wa wb)) := pxt_cmp op_notIn_seq o_in ha hb hm
theorem px_ix (hs : PlainIx b := by intro _ _; rfl) (ha : PX ga X E a wa) (hb : PX ga X E b wb) : PX ga X E (.Subscript a b pos) (op2W ixD wa wb) :=
  ⟨mono2 ha.mono hb.mono, ⟨fun pins s σ H Q I h => (pe_ix ix_seq ha.run hb.run hs).run pins s σ H Q I (run2 o_ix ha.mono hb.mono h)⟩⟩
end
end DW

set_option Elab.async false
set_option linter.all false
set_option maxRecDepth 100000
set_option maxHeartbeats 4000000
set_option autoImplicit false
/-! DW4: displays, built-in calls, slices, texts. -/
namespace DW
open PySem L2

/-! ### the store grows, a list is frozen -/
section
variable {K : PySem.W.Frag} {B B' : Hp} {α α' : List Addr} {S S' : Sto} {H H' : Hp} {v : V} {x : DV} {Q : VK}
theorem Wd.newObj {p : Addr} {o : SO} {ho : HO} (w : Wd K B α S H) (hp : H p = none) (ok : SOk K B (α ++ [p]) (upd H p ho) p o) : Stp K B α H B (α ++ [p]) (S ++ [o]) (upd H p ho) := by
  have hB : B p = none := w.ex.free hp
  have old : ∀ (n : Nat) (q : SO), n < S.length → (S ++ [o])[n]? = some q → S[n]? = some q := fun n q h e => by rw [List.getElem?_append_left h] at e; exact e
  have last : ∀ (n : Nat) (q : SO), ¬ n < S.length → (S ++ [o])[n]? = some q → n = S.length ∧ q = o := fun n q h e => by
    have hn := (List.getElem?_eq_some_iff.mp e).1
    simp at hn
    have : n = S.length := by omega
    subst this
    simp at e
    exact ⟨rfl, e.symm⟩
  refine ⟨⟨fun a u e => ?_, by simp [w.len], fun n q h1 h2 => ?_, ?_, fun a ha => ?_⟩, Same.refl _, ⟨[p], rfl⟩, fun a u e => .inl e, fun a ha => ?_, fun a u e _ => Same.upd_none hp a u e⟩
  · rw [upd_ne (ne_of_none (w.ex a u e) hp)]; exact w.ex a u e
  · by_cases hn : n < S.length
    · obtain ⟨a, e1, e2, e3⟩ := w.obj n q (old n q hn h1) h2
      refine ⟨a, by rw [List.getElem?_append_left (by rw [w.len]; exact hn)]; exact e1, e2, ?_⟩
      exact e3.mono (Same.refl _) ⟨[p], rfl⟩ fun u z => Same.upd_none hp a u z
    · obtain ⟨rfl, rfl⟩ := last n q hn h1
      exact ⟨p, by rw [← w.len]; simp, hB, ok⟩
  · refine List.nodup_append.mpr ⟨w.nd, by simp, fun a ha b hb => ?_⟩
    simp at hb
    subst hb
    obtain ⟨u, e⟩ := w.trk a ha
    exact ne_of_none e hp
  · rcases List.mem_append.mp ha with h | h
    · exact (w.trk a h).imp fun u e => Same.upd_none hp a u e
    · simp at h; subst h; exact ⟨_, upd_same⟩
  · rcases List.mem_append.mp ha with h | h
    · exact .inl h
    · simp at h; subst h; exact .inr hp
theorem nd_at {l : List Addr} (h : l.Nodup) {i j : Nat} {a : Addr} (h1 : l[i]? = some a) (h2 : l[j]? = some a) : i = j := by
  obtain ⟨i1, e1⟩ := List.getElem?_eq_some_iff.mp h1
  obtain ⟨j1, e2⟩ := List.getElem?_eq_some_iff.mp h2
  exact (List.getElem_inj h).mp (e1.trans e2.symm)
/-- a list of the store becomes pure -/
theorem Wd.freeze {n : Nat} {xs : List DV} {ds : List PyData} {a : Addr} (w : Wd K B α S H) (hs : S[n]? = some (.lst xs)) (hd : pures xs = some ds) (ha : α[n]? = some a) : ∃ B', Stp K B α H B' α (S.set n .gone) H ∧ Dq K B' (.ref a) (.list ds) := by
  obtain ⟨a', e1, e2, vs, e3, e4⟩ := w.obj n _ hs (fun z => by cases z)
  rw [ha] at e1; cases e1
  have sm : Same B (upd B a (.lst vs)) := Same.upd_none e2
  refine ⟨upd B a (.lst vs), ⟨⟨fun c u e => ?_, by simp [w.len], fun m q h1 h2 => ?_, w.nd, w.trk⟩, sm, ⟨[], by simp⟩, fun c u e => ?_, fun _ h => .inl h, fun _ _ e _ => e⟩, .lst upd_same ((VRs.pure e4 hd).same sm)⟩
  · by_cases hc : c = a
    · subst hc; rw [upd_same] at e; rw [← e]; exact e3
    · rw [upd_ne hc] at e; exact w.ex c u e
  · have hmn : n ≠ m := fun z => by
      subst z
      rw [List.getElem?_set_self (List.getElem?_eq_some_iff.mp hs).1] at h1
      cases h1; exact h2 rfl
    rw [List.getElem?_set_ne hmn] at h1
    obtain ⟨c, f1, f2, f3⟩ := w.obj m q h1 h2
    have hca : c ≠ a := fun z => by
      subst z
      exact hmn (nd_at w.nd ha f1)
    exact ⟨c, f1, by rw [upd_ne hca]; exact f2, f3.mono sm ⟨[], by simp⟩ fun _ z => z⟩
  · by_cases hc : c = a
    · subst hc; exact .inr (.inr (List.mem_of_getElem? ha))
    · rw [upd_ne hc] at e; exact .inl e
end

def tupW (wA : DA) : DE := fun env S k kx => wA env S (fun xs S1 => ∃ ds, pures xs = some ds ∧ ds.length ≤ 1000000 ∧ k (.d (.tuple ds)) S1) kx
def lstW (wA : DA) : DE := fun env S k kx => wA env S (fun xs S1 => ∃ ds, pures xs = some ds ∧ ds.length ≤ 1000000 ∧ k (.d (.list ds)) S1) kx
/-- a list that will be changed -/
def newLW (wA : DA) : DE := fun env S k kx => wA env S (fun xs S1 => xs.length ≤ 1000000 ∧ k (.p S1.length) (S1 ++ [.lst xs])) kx
/-- a list of the store, no longer changed -/
def fzW (wa : DE) : DE := fun env S k kx => wa env S (fun x S1 => ∃ n xs ds, x = .p n ∧ S1[n]? = some (.lst xs) ∧ pures xs = some ds ∧ k (.d (.list ds)) (S1.set n .gone)) kx
def callNW (g : List DV → Sto → Option DV) (wA : DA) : DE := fun env S k kx => wA env S (fun xs S1 => ∃ z, g xs S1 = some z ∧ k z S1) kx

section
variable {ga : Str → Addr} {X : Cx} {E : WX} {a b e : Expr} {es : List Expr} {wa wb : DE} {wA : DA} {pos : Pos}
theorem px_tup {x1} (h : PXA ga X E es wA) : PX ga X E (.Tuple es x1 pos) (tupW wA) := by
  refine ⟨fun env S k k' x x' hk hx h' => h.mono env S _ _ _ _ (fun y S1 ⟨ds, e1, e2, h1⟩ => ⟨ds, e1, e2, hk _ _ h1⟩) hx h', ⟨fun pins s σ H Q I h' => (pe_tup h.run).run pins s σ H Q I ?_⟩⟩
  obtain ⟨env, S, B, α, re, w, h'⟩ := h'
  refine ⟨env, S, B, α, re, w, h.mono env S _ _ _ _ (fun xs S1 ⟨ds, e1, e2, h1⟩ vs H1 B1 α1 s1 r1 => ?_) (fun _ _ z => z) h'⟩
  have q := r1.pure e1
  exact ⟨lim_le (by rw [q.len]; exact e2), fun p hp => kv_tup s1.wd hp q (kvT.after s1 h1)⟩
theorem px_lst (h : PXA ga X E es wA) : PX ga X E (.List es pos) (lstW wA) := by
  refine ⟨fun env S k k' x x' hk hx h' => h.mono env S _ _ _ _ (fun y S1 ⟨ds, e1, e2, h1⟩ => ⟨ds, e1, e2, hk _ _ h1⟩) hx h', ⟨fun pins s σ H Q I h' => (pe_lst h.run).run pins s σ H Q I ?_⟩⟩
  obtain ⟨env, S, B, α, re, w, h'⟩ := h'
  refine ⟨env, S, B, α, re, w, h.mono env S _ _ _ _ (fun xs S1 ⟨ds, e1, e2, h1⟩ vs H1 B1 α1 s1 r1 => ?_) (fun _ _ z => z) h'⟩
  have q := r1.pure e1
  exact ⟨lim_le (by rw [q.len]; exact e2), fun p hp => kv_lst s1.wd hp q (kvT.after s1 h1)⟩
theorem px_newL (h : PXA ga X E es wA) : PX ga X E (.List es pos) (newLW wA) := by
  refine ⟨fun env S k k' x x' hk hx h' => h.mono env S _ _ _ _ (fun y S1 ⟨e2, h1⟩ => ⟨e2, hk _ _ h1⟩) hx h', ⟨fun pins s σ H Q I h' => (pe_lst h.run).run pins s σ H Q I ?_⟩⟩
  obtain ⟨env, S, B, α, re, w, h'⟩ := h'
  refine ⟨env, S, B, α, re, w, h.mono env S _ _ _ _ (fun xs S1 ⟨e2, h1⟩ vs H1 B1 α1 s1 r1 => ?_) (fun _ _ z => z) h'⟩
  refine ⟨lim_le (by rw [r1.len]; exact e2), fun p hp => ?_⟩
  have st := s1.wd.newObj (o := .lst xs) (ho := .lst vs) hp ⟨vs, upd_same, r1.mono (Same.refl _) ⟨[p], rfl⟩⟩
  exact h1 _ _ _ _ (s1.trans st) ⟨p, by rw [← s1.wd.len]; simp, rfl⟩
theorem px_fz (h : PX ga X E e wa) : PX ga X E e (fzW wa) := by
  refine ⟨fun env S k k' x x' hk hx h' => h.mono env S _ _ _ _ (fun y S1 ⟨n, xs, ds, e1, e2, e3, h1⟩ => ⟨n, xs, ds, e1, e2, e3, hk _ _ h1⟩) hx h', ⟨fun pins s σ H Q I h' => h.run.run pins s σ H Q I ?_⟩⟩
  obtain ⟨env, S, B, α, re, w, h'⟩ := h'
  refine ⟨env, S, B, α, re, w, h.mono env S _ _ _ _ (fun y S1 ⟨n, xs, ds, e1, e2, e3, h1⟩ v H1 B1 α1 s1 r1 => ?_) (fun _ _ z => z) h'⟩
  subst e1
  obtain ⟨a, ha, rfl⟩ := r1
  obtain ⟨B2, s2, q⟩ := s1.wd.freeze e2 e3 ha
  exact h1 _ _ _ _ (s1.trans s2) q
theorem runN {K : PySem.W.Frag} {r : List V → Hp → VK → Prop} {g : List DV → Sto → Option DV} (hg : OpN K r g) (m : MonoA wA) {σ : St} {H : Hp} {Q : VK} (h : eT K ga E (callNW g wA) σ H Q) : aT K ga E wA σ H fun vs H1 => r vs H1 Q := by
  obtain ⟨env, S, B, α, re, w, h⟩ := h
  refine ⟨env, S, B, α, re, w, m env S _ _ _ _ (fun xs S1 ⟨z, e, h1⟩ vs H1 B1 α1 s1 r1 => ?_) (fun _ _ z => z) h⟩
  exact hg B1 α1 S1 H1 vs xs z s1.wd r1 e Q (kvT.after s1 h1)
theorem monoN {g : List DV → Sto → Option DV} (m : MonoA wA) : MonoE (callNW g wA) := fun env S k k' x x' hk hx h => m env S _ _ _ _ (fun xs S1 ⟨z, e, h1⟩ => ⟨z, e, hk _ _ h1⟩) hx h
theorem px_callB {x : Str} {p : Pos} {id : String} {r : List V → Hp → VK → Prop} {g : List DV → Sto → Option DV} (hc : CallR X (.builtin id) r) (hg : OpN X.K r g) (gl : Gl X x) (hm : X.mg x = none) (hv : bootBuiltins x = some (.builtin id)) (ha : PXA ga X E (e :: es) wA)
    (hn : x ≠ "__name__" := by decide) (hdb : (x == ("__debug__" : Str)) = false := by decide)
    (he : starEach (e :: es) X.env = (false, eval e X.env) :: starEach es X.env := by rfl) (hpl : (backTo pos (starEach es X.env)).any (·.1) = false := by rfl) : PX ga X E (.Call (.Name x p) (e :: es) [] pos) (callNW g wA) :=
  ⟨monoN ha.mono, ⟨fun pins s σ H Q I h => (pe_callB hc gl hm hv ha.run hn hdb he hpl).run pins s σ H Q I (runN hg ha.mono h)⟩⟩
theorem px_callTy {x : Str} {p : Pos} {T : String} {r : List V → Hp → VK → Prop} {g : List DV → Sto → Option DV} (hc : CallR X (.type T) r) (hg : OpN X.K r g) (gl : Gl X x) (hm : X.mg x = none) (hv : bootBuiltins x = some (.type T)) (ha : PXA ga X E (e :: es) wA)
    (hn : x ≠ "__name__" := by decide) (hdb : (x == ("__debug__" : Str)) = false := by decide)
    (he : starEach (e :: es) X.env = (false, eval e X.env) :: starEach es X.env := by rfl) (hpl : (backTo pos (starEach es X.env)).any (·.1) = false := by rfl) : PX ga X E (.Call (.Name x p) (e :: es) [] pos) (callNW g wA) :=
  ⟨monoN ha.mono, ⟨fun pins s σ H Q I h => (pe_callTy hc gl hm hv ha.run hn hdb he hpl).run pins s σ H Q I (runN hg ha.mono h)⟩⟩
end

/-! ### what the built-ins do -/
def lenD : List DV → Sto → Option DV
  | [.d (.str z)], _ => if z.length ≤ 1000000 then some (.d (.int z.length)) else none
  | [x], S => (seqD x S).map fun z => .d (.int z.2.length)
  | _, _ => none
def absD : List DV → Sto → Option DV
  | [.d (.int i)], _ => some (.d (.int (if i < 0 then -i else i)))
  | _, _ => none
def maxD : List DV → Sto → Option DV
  | [.d (.int i), .d (.int j)], _ => some (.d (.int (if j > i then j else i)))
  | _, _ => none
def minD : List DV → Sto → Option DV
  | [.d (.int i), .d (.int j)], _ => some (.d (.int (if j < i then j else i)))
  | _, _ => none
def intD : List DV → Sto → Option DV
  | [.d (.int i)], _ => some (.d (.int i))
  | [.d (.bool b)], _ => some (.d (.int (if b then 1 else 0)))
  | _, _ => none
def boolD : List DV → Sto → Option DV
  | [.d (.int i)], _ => some (.d (.bool (i != 0)))
  | [.d (.bool b)], _ => some (.d (.bool b))
  | _, _ => none
def tupleD : List DV → Sto → Option DV
  | [x], S => (seqD x S).map fun z => .d (.tuple z.2)
  | _, _ => none
def listD : List DV → Sto → Option DV
  | [x], S => (seqD x S).map fun z => .d (.list z.2)
  | _, _ => none
def intsD : List PyData → Option (List Int)
  | [] => some []
  | .int i :: r => (intsD r).map (i :: ·)
  | _ :: _ => none
def boolsD : List PyData → Option (List Bool)
  | [] => some []
  | .bool i :: r => (boolsD r).map (i :: ·)
  | _ :: _ => none
def strsD : List PyData → Option (List Str)
  | [] => some []
  | .str i :: r => (strsD r).map (i :: ·)
  | _ :: _ => none
def sumD : List DV → Sto → Option DV
  | [x], S => (match seqD x S with
    | some (true, ds) => (intsD ds).map fun ns => .d (.int ns.sum)
    | _ => none)
  | _, _ => none
def allD : List DV → Sto → Option DV
  | [x], S => (match seqD x S with
    | some (true, ds) => (boolsD ds).map fun bs => .d (.bool (bs.all id))
    | _ => none)
  | _, _ => none
def minI : List Int → Int
  | [] => 0
  | [x] => x
  | x :: r => min x (minI r)
def minLD : List DV → Sto → Option DV
  | [x], S => (match seqD x S with
    | some (true, ds) => (match intsD ds with
      | some (n :: ns) => some (.d (.int (minI (n :: ns))))
      | _ => none)
    | _ => none)
  | _, _ => none
section
variable {K : PySem.W.Frag}
theorem ints_ok {B : Hp} : ∀ {vs : List V} {ds : List PyData} {ns : List Int}, DqAll K B vs ds → intsD ds = some ns → vs = ns.map V.int
  | _, _, _, .nil, e => by cases e; rfl
  | _, _, _, .cons (d := d) (ds := ds) h r, e => by
    cases d with
    | int i =>
      cases h
      cases q : intsD ds with
      | none => simp [intsD, q] at e
      | some ns' =>
        simp [intsD, q] at e
        subst e
        simp [ints_ok r q]
    | _ => cases e
theorem bools_ok {B : Hp} : ∀ {vs : List V} {ds : List PyData} {ns : List Bool}, DqAll K B vs ds → boolsD ds = some ns → vs = ns.map V.bl
  | _, _, _, .nil, e => by cases e; rfl
  | _, _, _, .cons (d := d) (ds := ds) h r, e => by
    cases d with
    | bool i =>
      cases h
      cases q : boolsD ds with
      | none => simp [boolsD, q] at e
      | some ns' =>
        simp [boolsD, q] at e
        subst e
        simp [bools_ok r q]
    | _ => cases e
theorem strs_ok {B : Hp} : ∀ {vs : List V} {ds : List PyData} {ns : List Str}, DqAll K B vs ds → strsD ds = some ns → vs = ns.map V.str
  | _, _, _, .nil, e => by cases e; rfl
  | _, _, _, .cons (d := d) (ds := ds) h r, e => by
    cases d with
    | str i =>
      cases h
      cases q : strsD ds with
      | none => simp [strsD, q] at e
      | some ns' =>
        simp [strsD, q] at e
        subst e
        simp [strs_ok r q]
    | _ => cases e
theorem vr1 {B : Hp} {α : List Addr} {vs : List V} {x : DV} (r : VRs K B α vs [x]) : ∃ v, vs = [v] ∧ VR K B α v x := by
  cases r with
  | cons h r => cases r; exact ⟨_, rfl, h⟩
theorem vr2 {B : Hp} {α : List Addr} {vs : List V} {x y : DV} (r : VRs K B α vs [x, y]) : ∃ v u, vs = [v, u] ∧ VR K B α v x ∧ VR K B α u y := by
  cases r with
  | cons h r => cases r with
    | cons h2 r => cases r; exact ⟨_, _, rfl, h, h2⟩
theorem n_len : OpN K (fun xs H Q => ∃ x n, xs = [x] ∧ LenV K x H n ∧ Q (.int n) H) lenD := by
  intro B α S H vs xs z w r e Q h
  unfold lenD at e
  split at e
  · split at e
    · cases e
      obtain ⟨v, rfl, rv⟩ := vr1 r
      cases rv
      exact ⟨_, _, rfl, ⟨lim_le (by assumption), rfl⟩, kv_same w (.int _) h⟩
    · cases e
  · rename_i x _
    obtain ⟨v, rfl, rv⟩ := vr1 r
    cases q : seqD x S with
    | none => rw [q] at e; cases e
    | some zz =>
      obtain ⟨k, ds⟩ := zz
      rw [q] at e
      cases e
      obtain ⟨a, ws, rfl, h1, h2⟩ := seq_ok w rv q
      refine ⟨_, ds.length, rfl, ?_, kv_same w (.int _) h⟩
      cases k with
      | true => exact .inl ⟨ws, h1, h2.len.symm⟩
      | false => exact .inr ⟨ws, h1, h2.len.symm⟩
  · cases e
theorem n_abs : OpN K (fun xs H Q => ∃ i, xs = [.int i] ∧ Q (.int (if i < 0 then -i else i)) H) absD := by
  intro B α S H vs xs z w r e Q h
  unfold absD at e
  split at e
  · cases e
    obtain ⟨v, rfl, rv⟩ := vr1 r
    cases rv
    exact ⟨_, rfl, kv_same w (.int _) h⟩
  · cases e
theorem n_max : OpN K (fun xs H Q => ∃ i j, xs = [.int i, .int j] ∧ Q (.int (if j > i then j else i)) H) maxD := by
  intro B α S H vs xs z w r e Q h
  unfold maxD at e
  split at e
  · cases e
    obtain ⟨v, u, rfl, rv, ru⟩ := vr2 r
    cases rv; cases ru
    exact ⟨_, _, rfl, kv_same w (.int _) h⟩
  · cases e
theorem n_min : OpN K (fun xs H Q => ∃ i j, xs = [.int i, .int j] ∧ Q (.int (if j < i then j else i)) H) minD := by
  intro B α S H vs xs z w r e Q h
  unfold minD at e
  split at e
  · cases e
    obtain ⟨v, u, rfl, rv, ru⟩ := vr2 r
    cases rv; cases ru
    exact ⟨_, _, rfl, kv_same w (.int _) h⟩
  · cases e
theorem n_int : OpN K (fun xs H Q => (∃ i, xs = [.int i] ∧ Q (.int i) H) ∨ ∃ k, xs = [.bl k] ∧ Q (.int (if k then 1 else 0)) H) intD := by
  intro B α S H vs xs z w r e Q h
  unfold intD at e
  split at e
  · cases e
    obtain ⟨v, rfl, rv⟩ := vr1 r
    cases rv
    exact .inl ⟨_, rfl, kv_same w (.int _) h⟩
  · cases e
    obtain ⟨v, rfl, rv⟩ := vr1 r
    cases rv
    exact .inr ⟨_, rfl, kv_same w (.int _) h⟩
  · cases e
theorem n_bool : OpN K (fun xs H Q => (∃ i, xs = [.int i] ∧ Q (.bl (i != 0)) H) ∨ ∃ k, xs = [.bl k] ∧ Q (.bl k) H) boolD := by
  intro B α S H vs xs z w r e Q h
  unfold boolD at e
  split at e
  · cases e
    obtain ⟨v, rfl, rv⟩ := vr1 r
    cases rv
    exact .inl ⟨_, rfl, kv_same w (.bl _) h⟩
  · cases e
    obtain ⟨v, rfl, rv⟩ := vr1 r
    cases rv
    exact .inr ⟨_, rfl, kv_same w (.bl _) h⟩
  · cases e
theorem n_tuple : OpN K (fun xs H Q => ∃ p ys, xs = [.ref p] ∧ ((SqL K H p ys ∧ ∀ l, H l = none → Q (.ref l) (upd H l (.tup ys))) ∨ (SqT K H p ys ∧ Q (.ref p) H))) tupleD := by
  intro B α S H vs xs z w r e Q h
  unfold tupleD at e
  split at e
  · rename_i x
    obtain ⟨v, rfl, rv⟩ := vr1 r
    cases q : seqD x S with
    | none => rw [q] at e; cases e
    | some zz =>
      obtain ⟨k, ds⟩ := zz
      rw [q] at e
      cases e
      obtain ⟨a, ws, rfl, h1, h2⟩ := seq_ok w rv q
      refine ⟨a, ws, rfl, ?_⟩
      cases k with
      | true => exact .inl ⟨h1, fun l hl => kv_tup w hl h2 h⟩
      | false =>
        have rt : Dq K B (.ref a) (.tuple ds) := by
          cases x with
          | d y =>
            cases y with
            | tuple ys => cases q; exact rv
            | _ => cases q
          | p n =>
            obtain ⟨_, _, _⟩ := rv
            have q' : (match S[n]? with
              | some (.lst xs) => (pures xs).map fun ys => (true, ys)
              | _ => none) = some (false, ds) := q
            split at q'
            · cases hp : pures _ with
              | none => rw [hp] at q'; cases q'
              | some _ => rw [hp] at q'; cases q'
            · cases q'
          | s ns => cases q
        exact .inr ⟨h1, kv_same w rt h⟩
  · cases e
theorem n_list : OpN K (fun xs H Q => ∃ p ys, xs = [.ref p] ∧ (SqL K H p ys ∨ SqT K H p ys) ∧ ∀ l, H l = none → Q (.ref l) (upd H l (.lst ys))) listD := by
  intro B α S H vs xs z w r e Q h
  unfold listD at e
  split at e
  · rename_i x
    obtain ⟨v, rfl, rv⟩ := vr1 r
    cases q : seqD x S with
    | none => rw [q] at e; cases e
    | some zz =>
      obtain ⟨k, ds⟩ := zz
      rw [q] at e
      cases e
      obtain ⟨a, ws, rfl, h1, h2⟩ := seq_ok w rv q
      refine ⟨a, ws, rfl, ?_, fun l hl => kv_lst w hl h2 h⟩
      cases k with
      | true => exact .inl h1
      | false => exact .inr h1
  · cases e
theorem n_sum : OpN K (rSum K) sumD := by
  intro B α S H vs xs z w r e Q h
  unfold sumD at e
  split at e
  · rename_i x
    obtain ⟨v, rfl, rv⟩ := vr1 r
    split at e
    · rename_i ds q
      obtain ⟨a, ws, rfl, h1, h2⟩ := seq_ok w rv q
      cases q2 : intsD ds with
      | none => rw [q2] at e; cases e
      | some ns =>
        rw [q2] at e
        cases e
        have h3 := ints_ok h2 q2
        subst h3
        exact ⟨a, ns, rfl, h1, kv_same w (.int _) h⟩
    · cases e
  · cases e
theorem n_all : OpN K (rAll K) allD := by
  intro B α S H vs xs z w r e Q h
  unfold allD at e
  split at e
  · rename_i x
    obtain ⟨v, rfl, rv⟩ := vr1 r
    split at e
    · rename_i ds q
      obtain ⟨a, ws, rfl, h1, h2⟩ := seq_ok w rv q
      cases q2 : boolsD ds with
      | none => rw [q2] at e; cases e
      | some ns =>
        rw [q2] at e
        cases e
        have h3 := bools_ok h2 q2
        subst h3
        exact ⟨a, ns, rfl, h1, kv_same w (.bl _) h⟩
    · cases e
  · cases e
theorem minI_mem : ∀ (n : Int) (ns : List Int), minI (n :: ns) ∈ n :: ns ∧ ∀ y ∈ n :: ns, minI (n :: ns) ≤ y
  | n, [] => by simp [minI]
  | n, m :: ns => by
    obtain ⟨h1, h2⟩ := minI_mem m ns
    have e : minI (n :: m :: ns) = min n (minI (m :: ns)) := rfl
    rw [e]
    refine ⟨?_, fun y hy => ?_⟩
    · rcases Int.le_total n (minI (m :: ns)) with z | z
      · rw [Int.min_eq_left z]; exact List.mem_cons_self
      · rw [Int.min_eq_right z]; exact List.mem_cons_of_mem _ h1
    · rcases List.mem_cons.mp hy with rfl | hy
      · exact Int.min_le_left _ _
      · exact Int.le_trans (Int.min_le_right _ _) (h2 y hy)
theorem n_minL : OpN K (rMin K) minLD := by
  intro B α S H vs xs z w r e Q h
  unfold minLD at e
  split at e
  · rename_i x
    obtain ⟨v, rfl, rv⟩ := vr1 r
    split at e
    · rename_i ds q
      obtain ⟨a, ws, rfl, h1, h2⟩ := seq_ok w rv q
      split at e
      · rename_i n ns q2
        cases e
        have h3 := ints_ok h2 q2
        subst h3
        refine ⟨a, n :: ns, rfl, h1, by simp, fun m hm hle => ?_⟩
        obtain ⟨g1, g2⟩ := minI_mem n ns
        have : m = minI (n :: ns) := Int.le_antisymm (hle _ g1) (g2 m hm)
        rw [this]
        exact kv_same w (.int _) h
      · cases e
    · cases e
  · cases e
end
end DW

set_option Elab.async false
set_option linter.all false
set_option maxRecDepth 100000
set_option maxHeartbeats 4000000
set_option autoImplicit false
/-! DW5: slices, isinstance, texts, ranges as lists. -/
namespace DW
open PySem L2

/-! ### slices -/
abbrev DO := DEnv → Sto → (Option Int → Sto → Prop) → DX → Prop
def MonoO (w : DO) : Prop := ∀ env S (k k' : Option Int → Sto → Prop) (x x' : DX), (∀ r S, k r S → k' r S) → (∀ r S, x r S → x' r S) → w env S k x → w env S k' x'
def oT (K : PySem.W.Frag) (ga : Str → Addr) (E : WX) (w : DO) : TO := fun σ H Q => ∃ env S B α, RelE K B α env σ ∧ Wd K B α S H ∧ w env S (fun b S' => ∀ H' B' α', Stp K B α H B' α' S' H' → Q b H') (kxT K ga B α H (WE E σ))
structure PXO (ga : Str → Addr) (X : Cx) (E : WX) (e : Option Expr) (w : DO) : Prop where
  mono : MonoO w
  run : PO X e (oT X.K ga E w)
def noPartW : DO := fun _ S k _ => k none S
def partW (w : DE) : DO := fun env S k kx => w env S (fun x S1 => ∃ i, x = .d (.int i) ∧ k (some i) S1) kx
def cutP {α : Type} (xs : List α) (lo hi : Option Int) : List α := (xs.drop (HT.sIx xs.length 0 lo)).take (HT.sIx xs.length xs.length hi - HT.sIx xs.length 0 lo)
def cutD : DV → Option Int → Option Int → Option DV
  | .d (.str z), lo, hi => if z.length ≤ 1000000 then some (.d (.str (cutS z lo hi))) else none
  | .d (.tuple xs), lo, hi => some (.d (.tuple (cutP xs lo hi)))
  | .d (.list xs), lo, hi => some (.d (.list (cutP xs lo hi)))
  | _, _, _ => none
def sliceW (we : DE) (wl wh : DO) : DE := fun env S k kx => we env S (fun x S1 => wl env S1 (fun l S2 => wh env S2 (fun u S3 => ∃ z, cutD x l u = some z ∧ k z S3) kx) kx) kx
section
variable {K : PySem.W.Frag} {B : Hp} {α : List Addr} {S : Sto} {H : Hp}
theorem cut_all {vs : List V} {ds : List PyData} (r : DqAll K B vs ds) (lo hi : Option Int) : DqAll K B (cutV vs lo hi) (cutP ds lo hi) := by
  unfold cutV cutP
  rw [r.len]
  exact (r.drop _).take _
theorem cutP_whole {α : Type} (xs : List α) (lo hi : Option Int) (h : HT.sIx xs.length 0 lo = 0 ∧ HT.sIx xs.length xs.length hi = xs.length) : cutP xs lo hi = xs := by
  unfold cutP
  rw [h.1, h.2]
  simp
end
section
variable {ga : Str → Addr} {X : Cx} {E : WX} {a b e o : Expr} {es : List Expr} {wa wb we wo : DE} {wA : DA} {pos apos p2 p p' : Pos} {wl wh : DO}
theorem pxo_none : PXO ga X E none noPartW := by
  refine ⟨fun env S k k' x x' hk hx h => hk _ _ h, ⟨fun pins s σ H Q I h => po_none.run pins s σ H Q I ?_⟩⟩
  obtain ⟨env, S, B, α, re, w, h⟩ := h
  exact h H B α (Stp.refl w)
theorem pxo_some (h : PX ga X E e we) : PXO ga X E (some e) (partW we) := by
  refine ⟨fun env S k k' x x' hk hx h' => h.mono env S _ _ _ _ (fun y S1 ⟨i, e, h1⟩ => ⟨i, e, hk _ _ h1⟩) hx h', ⟨fun pins s σ H Q I h' => (po_some h.run).run pins s σ H Q I ?_⟩⟩
  obtain ⟨env, S, B, α, re, w, h'⟩ := h'
  refine ⟨env, S, B, α, re, w, h.mono env S _ _ _ _ (fun y S1 ⟨i, e, h1⟩ v H1 B1 α1 s1 r1 => ?_) (fun _ _ z => z) h'⟩
  subst e
  cases r1
  exact ⟨i, rfl, h1 H1 B1 α1 s1⟩
theorem px_slice {lo hi : Option Expr} (he : PX ga X E e we) (hl : PXO ga X E lo wl) (hh : PXO ga X E hi wh) : PX ga X E (.Subscript e (.Slice lo hi none p2) pos) (sliceW we wl wh) := by
  refine ⟨fun env S k k' x x' hk hx h => he.mono env S _ _ _ _ (fun y S1 h1 => hl.mono env S1 _ _ _ _ (fun l S2 h2 => hh.mono env S2 _ _ _ _ (fun u S3 ⟨z, e, h3⟩ => ⟨z, e, hk _ _ h3⟩) hx h2) hx h1) hx h,
    ⟨fun pins s σ H Q I h => (pe_slice (sl_tupA.or (sl_list.or sl_str)) he.run hl.run hh.run).run pins s σ H Q I ?_⟩⟩
  obtain ⟨env, S, B, α, re, w, h⟩ := h
  refine ⟨env, S, B, α, re, w, he.mono env S _ _ _ _ (fun y S1 h1 v1 H1 B1 α1 s1 r1 => ?_) (fun _ _ z => z) h⟩
  refine ⟨env, S1, B1, α1, re.mono s1.bb s1.pre, s1.wd, hl.mono env S1 _ _ _ _ (fun l S2 h2 H2 B2 α2 s2 => ?_) (fun _ _ z => kxT.after s1 z) h1⟩
  have s12 := s1.trans s2
  refine ⟨env, S2, B2, α2, re.mono s12.bb s12.pre, s2.wd, hh.mono env S2 _ _ _ _ (fun u S3 ⟨z, e, h3⟩ H3 B3 α3 s3 => ?_) (fun _ _ z => kxT.after s12 z) h2⟩
  have s13 := s12.trans s3
  have rv := r1.mono (s2.bb.trans s3.bb) (s2.trans s3).pre
  have k3 := kvT.after s13 h3
  unfold cutD at e
  split at e
  · split at e
    · cases e
      cases rv
      exact .inr (.inr ⟨_, rfl, lim_le (by assumption), kv_same s3.wd (.str _) k3⟩)
    · cases e
  · cases e
    cases rv with
    | tup ht q =>
      refine .inl ⟨_, _, rfl, same_t s3.wd.ex ht, fun hw => ?_, fun _ p hp => kv_tup s3.wd hp (cut_all q l u) k3⟩
      rw [q.len] at hw
      rw [cutP_whole _ _ _ hw] at k3
      exact kv_same s3.wd (.tup ht q) k3
  · cases e
    cases rv with
    | lst ht q => exact .inr (.inl ⟨_, _, rfl, SqL.of (s3.wd.ex _ _ ht), fun p hp => kv_lst s3.wd hp (cut_all q l u) k3⟩)
  · cases e
end

/-! ### isinstance with a built-in class -/
inductive Ty where
  | non | bool | int | str | list | tuple
  deriving DecidableEq
def Ty.nm : Ty → String
  | .non => "NoneType" | .bool => "bool" | .int => "int" | .str => "str" | .list => "list" | .tuple => "tuple"
def Ty.sub : Ty → Ty → Bool
  | .bool, .int => true
  | a, b => a == b
def tyN : DV → Sto → Option Ty
  | .d .none, _ => some .non
  | .d (.bool _), _ => some .bool
  | .d (.int _), _ => some .int
  | .d (.str _), _ => some .str
  | .d (.list _), _ => some .list
  | .d (.tuple _), _ => some .tuple
  | _, _ => none
def isiD (T : Ty) : DV → Sto → Option DV := fun x S => (tyN x S).map fun t => .d (.bool (t.sub T))
theorem kit_all (a T : Ty) : kitB a.nm T.nm = some (a.sub T) := by
  cases a <;> cases T <;> decide +kernel
section
variable {K : PySem.W.Frag} {B : Hp} {α : List Addr} {S : Sto} {H : Hp} {v : V} {x : DV}
theorem ty_ok {T : Ty} (w : Wd K B α S H) (r : VR K B α v x) (e : tyN x S = some T) : TyX K H v (.type T.nm) := by
  unfold tyN at e
  split at e <;> cases e
  · cases r; exact .base .non
  · cases r; exact .base (.bl _)
  · cases r; exact .base (.int _)
  · cases r; exact .base (.str _)
  · cases r with
    | lst h q => exact .base (.lst (w.ex _ _ h))
  · cases r with
    | tup h q =>
      rcases h with h | h
      · rcases h with h | ⟨o, h⟩
        · exact .base (.tup (w.ex _ _ h))
        · exact .fTuple (w.ex _ _ h)
      · obtain ⟨o, its, n, h1, h2, _⟩ := h
        exact .kTuple h1 h2
end
section
variable {ga : Str → Addr} {X : Cx} {E : WX} {a b e o : Expr} {es : List Expr} {wa wb we wo : DE} {wA : DA} {pos apos p2 p p' : Pos}
theorem px_isi {T : Ty} {y : Str} (gl : Gl X "isinstance") (hm : X.mg "isinstance" = none) (gt : Gl X y) (hmt : X.mg y = none) (hv : bootBuiltins y = some (.type T.nm)) (he : PX ga X E e we)
    (hi : bootBuiltins "isinstance" = some (.builtin "isinstance") := by decide +kernel) (hn : y ≠ "__name__" := by decide) (hdb : (y == ("__debug__" : Str)) = false := by decide)
    (h1 : starEach [e, .Name y p2] X.env = (false, eval e X.env) :: starEach [.Name y p2] X.env := by rfl) (h2 : starEach [.Name y p2] X.env = (false, eval (.Name y p2) X.env) :: starEach [] X.env := by rfl)
    (h3 : (backTo pos (starEach [.Name y p2] X.env)).any (·.1) = false := by rfl) :
    PX ga X E (.Call (.Name "isinstance" p) [e, .Name y p2] [] pos) (op1W (isiD T) we) := by
  refine ⟨fun env S k k' x x' hk hx h => he.mono env S _ _ _ _ (fun y S1 ⟨z, e, h1⟩ => ⟨z, e, hk _ _ h1⟩) hx h, ⟨fun pins s σ H Q I h => ?_⟩⟩
  have P := pe_callB (X := X) (p := p) (pos := pos) call_isi gl hm hi (pa_cons he.run (pa_cons (pe_bltn (v := .ty T.nm) (pos := p2) gt hmt hv rfl hn hdb) pa_nil h2) h1) (by decide) (by decide) h1 h3
  refine P.run pins s σ H Q I ?_
  obtain ⟨env, S, B, α, re, w, h⟩ := h
  refine ⟨env, S, B, α, re, w, he.mono env S _ _ _ _ (fun y S1 ⟨z, e, h1⟩ v1 H1 B1 α1 s1 r1 => ?_) (fun _ _ z => z) h⟩
  unfold isiD at e
  cases q : tyN y S1 with
  | none => rw [q] at e; cases e
  | some t =>
    rw [q] at e
    cases e
    exact ⟨v1, .ty T.nm, _, _, t.sub T, rfl, .ty _, ty_ok s1.wd r1 q, kit_ty (kit_all t T), kv_same s1.wd (.bl _) (kvT.after s1 h1)⟩

/-! ### texts -/
def splitW (wo we : DE) : DE := fun env S k kx => wo env S (fun x S1 => ∃ a, x = .d (.str a) ∧ we env S1 (fun y S2 => ∃ b, y = .d (.str b) ∧ (b.length == 0) = false ∧ a.length ≤ 1000000 ∧ k (.d (.list ((Txt.split a b).map .str))) S2) kx) kx
def joinW (wo we : DE) : DE := fun env S k kx => wo env S (fun x S1 => ∃ a, x = .d (.str a) ∧ we env S1 (fun y S2 => ∃ c ds ys, seqD y S2 = some (c, ds) ∧ strsD ds = some ys ∧ (ys.map (·.length)).sum + ys.length * a.length ≤ 16777216 ∧ k (.d (.str (Txt.join a ys))) S2) kx) kx
theorem dq_strs {K : PySem.W.Frag} {B : Hp} : ∀ ns : List Str, DqAll K B (ns.map V.str) (ns.map PyData.str)
  | [] => .nil
  | n :: ns => .cons (.str n) (dq_strs ns)
theorem px_split (ho : PX ga X E o wo) (he : PX ga X E e we) (hs : starEach [e] X.env = [(false, eval e X.env)] := by rfl) (hbase : attributeBase o "split" X.env (eval o X.env) = eval o X.env := by rfl) (hline : (apos.endLine == pos.line) = true := by rfl) :
    PX ga X E (.Call (.Attribute o "split" apos) [e] [] pos) (splitW wo we) := by
  refine ⟨fun env S k k' x x' hk hx h => ho.mono env S _ _ _ _ (fun y S1 ⟨a, e, h1⟩ => ⟨a, e, he.mono env S1 _ _ _ _ (fun z S2 ⟨b, e2, c1, c2, h2⟩ => ⟨b, e2, c1, c2, hk _ _ h2⟩) hx h1⟩) hx h,
    ⟨fun pins s σ H Q I h => (pe_split ho.run he.run hs hbase hline).run pins s σ H Q I ?_⟩⟩
  obtain ⟨env, S, B, α, re, w, h⟩ := h
  refine ⟨env, S, B, α, re, w, ho.mono env S _ _ _ _ (fun x S1 ⟨a, e, h1⟩ v1 H1 B1 α1 s1 r1 => ?_) (fun _ _ z => z) h⟩
  subst e
  cases r1
  refine ⟨⟨a, rfl⟩, env, S1, B1, α1, re.mono s1.bb s1.pre, s1.wd, he.mono env S1 _ _ _ _ (fun y S2 ⟨b, e, c1, c2, h2⟩ v2 H2 B2 α2 s2 r2 => ?_) (fun _ _ z => kxT.after s1 z) h1⟩
  subst e
  cases r2
  exact ⟨a, b, rfl, rfl, c1, Nat.le_trans (Nat.add_le_add_right c2 2) (by decide), fun p hp => kv_lst s2.wd hp (dq_strs _) (kvT.after (s1.trans s2) h2)⟩
theorem px_join (ho : PX ga X E o wo) (he : PX ga X E e we) (hs : starEach [e] X.env = [(false, eval e X.env)] := by rfl) (hbase : attributeBase o "join" X.env (eval o X.env) = eval o X.env := by rfl) (hline : (apos.endLine == pos.line) = true := by rfl) :
    PX ga X E (.Call (.Attribute o "join" apos) [e] [] pos) (joinW wo we) := by
  refine ⟨fun env S k k' x x' hk hx h => ho.mono env S _ _ _ _ (fun y S1 ⟨a, e, h1⟩ => ⟨a, e, he.mono env S1 _ _ _ _ (fun z S2 ⟨b, ds, ys, e1, e2, c2, h2⟩ => ⟨b, ds, ys, e1, e2, c2, hk _ _ h2⟩) hx h1⟩) hx h,
    ⟨fun pins s σ H Q I h => (pe_join ho.run he.run hs hbase hline).run pins s σ H Q I ?_⟩⟩
  obtain ⟨env, S, B, α, re, w, h⟩ := h
  refine ⟨env, S, B, α, re, w, ho.mono env S _ _ _ _ (fun x S1 ⟨a, e, h1⟩ v1 H1 B1 α1 s1 r1 => ?_) (fun _ _ z => z) h⟩
  subst e
  cases r1
  refine ⟨⟨a, rfl⟩, env, S1, B1, α1, re.mono s1.bb s1.pre, s1.wd, he.mono env S1 _ _ _ _ (fun y S2 ⟨c, ds, ys, e1, e2, c2, h2⟩ v2 H2 B2 α2 s2 r2 => ?_) (fun _ _ z => kxT.after s1 z) h1⟩
  obtain ⟨p, vs, rfl, h3, h4⟩ := seq_ok s2.wd r2 e1
  have h5 := strs_ok h4 e2
  subst h5
  refine ⟨a, p, ys, rfl, rfl, ?_, c2, kv_same s2.wd (.str _) (kvT.after (s1.trans s2) h2)⟩
  cases c with
  | true => exact .inl h3
  | false => exact .inr h3

/-! ### list(range(..)) -/
def rgD (a b : Int) : List PyData := (List.range (b - a).toNat).map fun i => .int (a + (i : Nat))
def lrgW (wa : DE) : DE := fun env S k kx => wa env S (fun x S1 => ∃ n, x = .d (.int n) ∧ 0 ≤ n ∧ n ≤ 100000 ∧ k (.d (.list (rgD 0 n))) S1) kx
theorem dq_rg {K : PySem.W.Frag} {B : Hp} (a b : Int) : DqAll K B (rgV a b) (rgD a b) := by
  have go : ∀ l : List Nat, DqAll K B (l.map fun i => V.int (a + (i : Nat))) (l.map fun i => PyData.int (a + (i : Nat))) := fun l => by
    induction l with
    | nil => exact .nil
    | cons i l ih => exact .cons (.int _) ih
  exact go _
theorem px_lrg (hc : X.calm = true) (gl : Gl X "list") (hm : X.mg "list" = none) (gr : Gl X "range") (hr : X.mg "range" = none) (ha : PX ga X E a wa)
    (na : starEach [a] X.env = (false, eval a X.env) :: starEach [] X.env := by rfl) (nb : starEach [.Call (.Name "range" p2) [a] [] apos] X.env = (false, eval (.Call (.Name "range" p2) [a] [] apos) X.env) :: starEach [] X.env := by rfl) :
    PX ga X E (.Call (.Name "list" p) [.Call (.Name "range" p2) [a] [] apos] [] pos) (lrgW wa) := by
  refine ⟨fun env S k k' x x' hk hx h => ha.mono env S _ _ _ _ (fun y S1 ⟨n, e, h0, h1, h2⟩ => ⟨n, e, h0, h1, hk _ _ h2⟩) hx h, ⟨fun pins s σ H Q I h => (pe_listRg hc gl hm (prg_1 gr hr ha.run na) nb).run pins s σ H Q I ?_⟩⟩
  obtain ⟨env, S, B, α, re, w, h⟩ := h
  refine ⟨env, S, B, α, re, w, ha.mono env S _ _ _ _ (fun y S1 ⟨n, e, h0, h1, h2⟩ v1 H1 B1 α1 s1 r1 => ?_) (fun _ _ z => z) h⟩
  subst e
  cases r1
  exact ⟨n, rfl, RgOk.of_le (by decide) (by omega) (by decide) h0, fun q hq => kv_lst s1.wd hq (dq_rg 0 n) (kvT.after s1 h2)⟩
end
end DW

set_option Elab.async false
set_option linter.all false
set_option maxRecDepth 100000
set_option maxHeartbeats 4000000
set_option autoImplicit false
/-! DW6: statements. -/
namespace DW
open PySem L2

def nextS : DS := fun env S D => D.nx env S
def seqS (a b : DS) : DS := fun env S D => a env S { D with nx := fun env' S' => b env' S' D }
def asgS (i : Nat) (w : DE) : DS := fun env S D => w env S (fun x S1 => D.nx (env.set i (some x)) S1) (D.ex env)
def retS (w : DE) : DS := fun env S D => w env S D.rt (D.ex env)
def retN : DS := fun _ S D => D.rt (.d .none) S
def ifS (t : DT) (a b : DS) : DS := fun env S D => t env S (fun c S1 => if c = true then a env S1 D else b env S1 D) (D.ex env)
def dropS (w : DE) : DS := fun env S D => w env S (fun _ S1 => D.nx env S1) (D.ex env)
/-- a, b, .. = w: targets -/
abbrev DG := DV → DEnv → Sto → (DEnv → Sto → Prop) → Prop
abbrev DGs := List DV → DEnv → Sto → (DEnv → Sto → Prop) → Prop
def nameG (i : Nat) : DG := fun x env S k => k (env.set i (some x)) S
def tgtS (w : DE) (g : DG) : DS := fun env S D => w env S (fun x S1 => g x env S1 D.nx) (D.ex env)
/-- a, b, .. = e, f, .. -/
def tgtNS (n : Nat) (wA : DA) (gs : DGs) : DS := fun env S D => wA env S (fun xs S1 => xs.length = n ∧ n ≤ 1000 ∧ gs xs env S1 D.nx) (D.ex env)
def MonoG (g : DG) : Prop := ∀ x env S (k k' : DEnv → Sto → Prop), (∀ e S, k e S → k' e S) → g x env S k → g x env S k'
def MonoGs (g : DGs) : Prop := ∀ x env S (k k' : DEnv → Sto → Prop), (∀ e S, k e S → k' e S) → g x env S k → g x env S k'
def nilGs : DGs := fun xs env S k => xs = [] ∧ k env S
def consGs (g : DG) (r : DGs) : DGs := fun xs env S k => ∃ x ys, xs = x :: ys ∧ g x env S fun env' S' => r ys env' S' k
def tupG (n : Nat) (g : DGs) : DG := fun x env S k => ∃ xs, x = .d (.tuple xs) ∧ xs.length = n ∧ g (xs.map .d) env S k
def par2S (i j : Nat) (wA : DA) : DS := fun env S D => wA env S (fun xs S1 => ∃ x y, xs = [x, y] ∧ D.nx ((env.set i (some x)).set j (some y)) S1) (D.ex env)
def par3S (i j l : Nat) (wA : DA) : DS := fun env S D => wA env S (fun xs S1 => ∃ x y z, xs = [x, y, z] ∧ D.nx (((env.set i (some x)).set j (some y)).set l (some z)) S1) (D.ex env)
/-- o[i] = v, o a list of the store -/
def setLS (wv wo wi : DE) : DS := fun env S D => wv env S (fun v S1 => wo env S1 (fun o S2 => wi env S2 (fun i S3 => ∃ n xs k j, o = .p n ∧ i = .d (.int k) ∧ S3[n]? = some (.lst xs) ∧ ixN xs.length k = some j ∧ D.nx env (S3.set n (.lst (xs.set j v)))) (D.ex env)) (D.ex env)) (D.ex env)
/-- o.append(v) -/
def appS (wo wv : DE) : DS := fun env S D => wo env S (fun o S1 => ∃ n ys, o = .p n ∧ S1[n]? = some (.lst ys) ∧ wv env S1 (fun v S2 => ∃ xs, S2[n]? = some (.lst xs) ∧ xs.length ≤ 1000000 ∧ D.nx env (S2.set n (.lst (xs ++ [v])))) (D.ex env)) (D.ex env)
/-- x = o.pop() -/
def popW (wo : DE) : DE := fun env S k kx => wo env S (fun o S1 => ∃ n xs y, o = .p n ∧ S1[n]? = some (.lst xs) ∧ xs[xs.length - 1]? = some y ∧ k y (S1.set n (.lst xs.dropLast))) kx

section
variable {K : PySem.W.Frag} {B B' : Hp} {α α' : List Addr} {S S' : Sto} {H H' : Hp} {v : V} {x : DV} {Q : VK}
/-- an object of the store is changed -/
theorem Wd.change {n : Nat} {a : Addr} {o o' : SO} {ho : HO} (w : Wd K B α S H) (hs : S[n]? = some o) (hg : o ≠ .gone) (ha : α[n]? = some a) (ok : SOk K B α (upd H a ho) a o') : Stp K B α H B α (S.set n o') (upd H a ho) := by
  obtain ⟨a', e1, e2, e3⟩ := w.obj n _ hs hg
  rw [ha] at e1; cases e1
  refine ⟨⟨fun c u e => ?_, by simp [w.len], fun m q h1 h2 => ?_, w.nd, fun c hc => ?_⟩, Same.refl _, ⟨[], by simp⟩, fun c u e => .inl e, fun _ h => .inl h, fun c u e hc => ?_⟩
  · have hc : c ≠ a := fun z => by subst z; rw [e2] at e; cases e
    rw [upd_ne hc]; exact w.ex c u e
  · by_cases hmn : n = m
    · subst hmn
      rw [List.getElem?_set_self (List.getElem?_eq_some_iff.mp hs).1] at h1
      cases h1
      exact ⟨a, ha, e2, ok⟩
    · rw [List.getElem?_set_ne hmn] at h1
      obtain ⟨c, f1, f2, f3⟩ := w.obj m q h1 h2
      have hca : c ≠ a := fun z => by
        subst z
        exact hmn (nd_at w.nd ha f1)
      exact ⟨c, f1, f2, f3.mono (Same.refl _) ⟨[], by simp⟩ fun u z => by rw [upd_ne hca]; exact z⟩
  · by_cases hca : c = a
    · subst hca; exact ⟨_, upd_same⟩
    · exact (w.trk c hc).imp fun u e => by rw [upd_ne hca]; exact e
  · rw [upd_ne (fun z => hc (by subst z; exact List.mem_of_getElem? ha))]; exact e
theorem VRs.get {vs : List V} {xs : List DV} {i : Nat} {x : DV} : VRs K B α vs xs → xs[i]? = some x → ∃ v, vs[i]? = some v ∧ VR K B α v x := by
  intro r e
  induction r generalizing i with
  | nil => simp at e
  | cons h r ih =>
    cases i with
    | zero => simp at e; subst e; exact ⟨_, rfl, h⟩
    | succ i => obtain ⟨v, h1, h2⟩ := ih (i := i) (by simpa using e); exact ⟨v, by simpa using h1, h2⟩
theorem VRs.set {vs : List V} {xs : List DV} {v : V} {x : DV} (r : VRs K B α vs xs) (q : VR K B α v x) : ∀ i : Nat, VRs K B α (vs.set i v) (xs.set i x) := by
  induction r with
  | nil => intro i; exact .nil
  | cons h r ih =>
    intro i
    cases i with
    | zero => exact .cons q r
    | succ i => exact .cons h (ih i)
theorem VRs.snoc {vs : List V} {xs : List DV} {v : V} {x : DV} (r : VRs K B α vs xs) (q : VR K B α v x) : VRs K B α (vs ++ [v]) (xs ++ [x]) := by
  induction r with
  | nil => exact .cons q .nil
  | cons h r ih => exact .cons h ih
theorem VRs.dropLast {vs : List V} {xs : List DV} (r : VRs K B α vs xs) : VRs K B α vs.dropLast xs.dropLast := by
  induction r with
  | nil => exact .nil
  | cons h r ih =>
    cases r with
    | nil => exact .nil
    | cons h2 r2 => exact .cons h ih
end

section
variable {ga : Str → Addr} {X : Cx} {E : WX} {a b c e o ie : Expr} {es : List Expr} {wa wb we wo wi wv : DE} {wA : DA} {pos apos p2 p p' : Pos} {st : Stmt} {rest sts sts' : List Stmt} {ws wt : DS} {wc : DT} {g : DG} {gs : DGs}
theorem DEnds.refl (D : DEnds) : DEnds.le D D := ⟨fun _ _ h => h, fun _ _ h => h, fun _ _ h => h, fun _ _ h => h, fun _ _ _ h => h⟩
theorem DEnds.le.withNx {D D' : DEnds} (h : DEnds.le D D') {n n' : DEnv → Sto → Prop} (hn : ∀ e S, n e S → n' e S) : DEnds.le { D with nx := n } { D' with nx := n' } := ⟨hn, h.rt, h.bk, h.ct, h.ex⟩
theorem pxb_nil : PXB ga X E [] nextS := by
  refine ⟨fun env S D D' h q => h.nx _ _ q, ⟨fun pins s σ H D I h => pss_nil.run pins s σ H D I ?_⟩⟩
  obtain ⟨env, S, B, α, re, w, h⟩ := h
  exact h σ H B α (Stp.refl w) re
theorem monoSeq (m1 : MonoS ws) (m2 : MonoS wt) : MonoS (seqS ws wt) := fun env S D D' h q => m1 env S _ _ (h.withNx fun e S1 h1 => m2 e S1 _ _ h h1) q
theorem pxb_cons (h1 : PXS ga X E st ws) (h2 : PXB ga X E rest wt) : PXB ga X E (st :: rest) (seqS ws wt) := by
  refine ⟨monoSeq h1.mono h2.mono, ⟨fun pins s σ H D I h => (pss_cons h1.run h2.run).run pins s σ H D I ?_⟩⟩
  obtain ⟨env, S, B, α, re, w, h⟩ := h
  refine ⟨env, S, B, α, re, w, h1.mono env S { dT X.K ga B α H E D with nx := fun e' S' => wt e' S' (dT X.K ga B α H E D) } _ ⟨fun env1 S1 q σ1 H1 B1 α1 s1 r1 => ?_, fun _ _ z => z, fun _ _ z => z, fun _ _ z => z, fun _ _ _ z => z⟩ h⟩
  exact ⟨env1, S1, B1, α1, r1, s1.wd, h2.mono env1 S1 _ _ (dT.after s1) q⟩
theorem pxb_one (h1 : PXS ga X E st ws) : PXB ga X E [st] ws := ⟨h1.mono, pss_one h1.run⟩
theorem pxs_pass : PXS ga X E (.Pass pos) nextS := by
  refine ⟨fun env S D D' h q => h.nx _ _ q, ⟨fun pins s σ H D I h => ps_pass.run pins s σ H D I ?_⟩⟩
  obtain ⟨env, S, B, α, re, w, h⟩ := h
  exact h σ H B α (Stp.refl w) re
theorem pxs_set {i : Nat} {x : Str} (hN : X.N.Nodup) (hi : X.N[i]? = some x) (hx : Loc X.env.scope x) (he : PX ga X E e we) (hs : swapsWith e (some (.Name x p')) pos.line X.env = pure false := by rfl)
    (hf : X.fn x = true ∨ X.env.scope.names.lookup x = some .local := by first | exact .inl rfl | exact .inr rfl | assumption) : PXS ga X E (.Assign [.Name x p'] e pos) (asgS i we) := by
  refine ⟨fun env S D D' h q => he.mono env S _ _ _ _ (fun _ _ z => h.nx _ _ z) (h.ex env) q, ⟨fun pins s σ H D I h => (ps_set hN hi hx he.run hs hf).run pins s σ H D I ?_⟩⟩
  obtain ⟨env, S, B, α, re, w, h⟩ := h
  refine ⟨env, S, B, α, re, w, he.mono env S _ _ _ _ (fun y S1 q v H1 B1 α1 s1 r1 => ?_) (fun _ _ z => kxS.at_ re z) h⟩
  exact q _ _ _ _ s1 ((re.mono s1.bb s1.pre).set i r1)
theorem pxs_ret (he : PX ga X E e we) : PXS ga X E (.Return (some e) pos) (retS we) := by
  refine ⟨fun env S D D' h q => he.mono env S _ _ _ _ h.rt (h.ex env) q, ⟨fun pins s σ H D I h => (ps_ret he.run).run pins s σ H D I ?_⟩⟩
  obtain ⟨env, S, B, α, re, w, h⟩ := h
  exact ⟨env, S, B, α, re, w, he.mono env S _ _ _ _ (fun _ _ z => z) (fun _ _ z => kxS.at_ re z) h⟩
theorem pxs_retN : PXS ga X E (.Return none pos) retN := by
  refine ⟨fun env S D D' h q => h.rt _ _ q, ⟨fun pins s σ H D I h => ps_retN.run pins s σ H D I ?_⟩⟩
  obtain ⟨env, S, B, α, re, w, h⟩ := h
  exact h _ H B α (Stp.refl w) .non
theorem pxs_if (hc : PXT ga X E c wc) (ha : PXB ga X E sts ws) (hb : PXB ga X E sts' wt) : PXS ga X E (.If c sts sts' pos) (ifS wc ws wt) := by
  refine ⟨fun env S D D' h q => hc.mono env S _ _ _ _ (fun b S1 z => by
    cases b with
    | true => exact ha.mono env S1 _ _ h z
    | false => exact hb.mono env S1 _ _ h z) (h.ex env) q, ⟨fun pins s σ H D I h => (ps_if hc.run ha.run hb.run).run pins s σ H D I ?_⟩⟩
  obtain ⟨env, S, B, α, re, w, h⟩ := h
  refine ⟨env, S, B, α, re, w, hc.mono env S _ _ _ _ (fun b S1 z H1 B1 α1 s1 => ?_) (fun _ _ z => kxS.at_ re z) h⟩
  cases b with
  | true => exact ⟨env, S1, B1, α1, re.mono s1.bb s1.pre, s1.wd, ha.mono env S1 _ _ (dT.after s1) z⟩
  | false => exact ⟨env, S1, B1, α1, re.mono s1.bb s1.pre, s1.wd, hb.mono env S1 _ _ (dT.after s1) z⟩
theorem pxs_drop (he : PX ga X E e we) (hs : swapsWith e none pos.line X.env = pure false := by rfl) : PXS ga X E (.Expr e pos) (dropS we) := by
  refine ⟨fun env S D D' h q => he.mono env S _ _ _ _ (fun _ _ z => h.nx _ _ z) (h.ex env) q, ⟨fun pins s σ H D I h => (ps_expr he.run hs).run pins s σ H D I ?_⟩⟩
  obtain ⟨env, S, B, α, re, w, h⟩ := h
  refine ⟨env, S, B, α, re, w, he.mono env S _ _ _ _ (fun y S1 q v H1 B1 α1 s1 r1 => ?_) (fun _ _ z => kxS.at_ re z) h⟩
  exact q _ _ _ _ s1 (re.mono s1.bb s1.pre)
/-! targets -/
/-- a target's rule, from a value of pure data -/
structure PXG (ga : Str → Addr) (X : Cx) (E : WX) (tg : Expr) (g : DG) : Prop where
  mono : MonoG g
  run : ∃ t : TG, PG X tg t ∧ ∀ (B : Hp) (α : List Addr) (S : Sto) (H : Hp) (v : V) (x : DV) (env : DEnv) (σ : St) (Q : St → Hp → Prop), Wd X.K B α S H → VR X.K B α v x → RelE X.K B α env σ → g x env S (knT X.K B α H Q) → t v σ H Q
structure PXGs (ga : Str → Addr) (X : Cx) (E : WX) (tgs : List Expr) (g : DGs) : Prop where
  mono : MonoGs g
  run : ∃ t : TGs, PGs X tgs t ∧ ∀ (B : Hp) (α : List Addr) (S : Sto) (H : Hp) (vs : List V) (xs : List DV) (env : DEnv) (σ : St) (Q : St → Hp → Prop), Wd X.K B α S H → VRs X.K B α vs xs → RelE X.K B α env σ → g xs env S (knT X.K B α H Q) → t vs σ H Q
theorem pxg_name {i : Nat} {x : Str} (hN : X.N.Nodup) (hi : X.N[i]? = some x) (hx : Loc X.env.scope x) (hf : X.fn x = true ∨ X.env.scope.names.lookup x = some .local := by first | exact .inl rfl | exact .inr rfl | assumption) : PXG ga X E (.Name x pos) (nameG i) :=
  ⟨fun x env S k k' h q => h _ _ q, gName i, pg_name hN hi hx hf, fun B α S H v x env σ Q w r re h => h _ _ _ _ (Stp.refl w) (re.set i r)⟩
theorem pxgs_nil : PXGs ga X E [] nilGs :=
  ⟨fun x env S k k' h q => ⟨q.1, h _ _ q.2⟩, gNil, pgs_nil, fun B α S H vs xs env σ Q w r re ⟨h1, h2⟩ => by
    subst h1
    cases r
    exact ⟨rfl, h2 _ _ _ _ (Stp.refl w) re⟩⟩
theorem pxgs_cons (h1 : PXG ga X E e g) (h2 : PXGs ga X E es gs) (hs : (assignEach (e :: es) X.env).map (·.2) = assign e X.env :: (assignEach es X.env).map (·.2) := by rfl) : PXGs ga X E (e :: es) (consGs g gs) := by
  obtain ⟨m1, t1, r1, q1⟩ := h1
  obtain ⟨m2, t2, r2, q2⟩ := h2
  refine ⟨fun x env S k k' h ⟨y, ys, e, q⟩ => ⟨y, ys, e, m1 _ _ _ _ _ (fun e S z => m2 _ _ _ _ _ h z) q⟩, gCons t1 t2, pgs_cons r1 r2 hs, fun B α S H vs xs env σ Q w r re ⟨y, ys, e, h⟩ => ?_⟩
  subst e
  cases r with
  | cons rv rr =>
    refine ⟨_, _, rfl, q1 B α S H _ y env σ _ w rv re (m1 _ _ _ _ _ (fun env' S' z σ' H' B' α' s' re' => ?_) h)⟩
    exact q2 B' α' S' H' _ ys env' σ' Q s'.wd (rr.mono s'.bb s'.pre) re' (m2 _ _ _ _ _ (fun _ _ u => knT.after s' u) z)
theorem pxg_tup {k : Nat} {n : Nat} (hc : X.calm = true) (h : PXGs ga X E es gs) (hn : (assignEach es X.env).length = n := by rfl) (hst : (assignEach es X.env).findIdx? (·.1) = none := by rfl) : PXG ga X E (.Tuple es k pos) (tupG n gs) := by
  obtain ⟨m, t, r, q⟩ := h
  refine ⟨fun x env S k k' h ⟨ys, e, l, z⟩ => ⟨ys, e, l, m _ _ _ _ _ h z⟩, gTup X.K n t, pg_tup hc r hn hst, fun B α S H v x env σ Q w rv re ⟨ys, e, l, h⟩ => ?_⟩
  subst e
  cases rv with
  | tup ht hq => exact ⟨_, _, rfl, same_t w.ex ht, by rw [hq.len]; exact l, q B α S H _ (ys.map .d) env σ Q w (VRs.ofPure hq) re h⟩
theorem pxs_tgt {tg : Expr} (he : PX ga X E e we) (hg : PXG ga X E tg g) (hs : swapsWithSole [tg] e pos.line X.env = pure false := by rfl) (hw : swappedStores [tg] e X.env = pure none := by rfl)
    (h1 : (assignEach [tg] X.env).map (·.2) = [assign tg X.env] := by rfl) : PXS ga X E (.Assign [tg] e pos) (tgtS we g) := by
  obtain ⟨m, t, r, q⟩ := hg
  refine ⟨fun env S D D' h z => he.mono env S _ _ _ _ (fun x S1 u => m _ _ _ _ _ h.nx u) (h.ex env) z, ⟨fun pins s σ H D I h => (ps_asg he.run r hs hw h1).run pins s σ H D I ?_⟩⟩
  obtain ⟨env, S, B, α, re, w, h⟩ := h
  refine ⟨env, S, B, α, re, w, he.mono env S _ _ _ _ (fun x S1 u v H1 B1 α1 s1 r1 => ?_) (fun _ _ z => kxS.at_ re z) h⟩
  exact q B1 α1 S1 H1 v x env σ _ s1.wd r1 (re.mono s1.bb s1.pre) (m _ _ _ _ _ (fun _ _ z => knT.after s1 z) u)
theorem Wd.extra {K : PySem.W.Frag} {B : Hp} {α : List Addr} {S : Sto} {H : Hp} {p : Addr} {o : HO} (w : Wd K B α S H) (hp : H p = none) : Stp K B α H B α S (upd H p o) := by
  refine ⟨⟨fun a u e => Same.upd_none hp a u (w.ex a u e), w.len, fun n q h1 h2 => ?_, w.nd, fun a ha => (w.trk a ha).imp fun u e => Same.upd_none hp a u e⟩, Same.refl _, ⟨[], by simp⟩, fun _ _ h => .inl h, fun _ h => .inl h, fun a u e _ => Same.upd_none hp a u e⟩
  obtain ⟨a, e1, e2, e3⟩ := w.obj n q h1 h2
  exact ⟨a, e1, e2, e3.mono (Same.refl _) ⟨[], by simp⟩ fun u z => Same.upd_none hp a u z⟩
theorem pxs_tgtN {tgs : List Expr} {k k2 : Nat} {pt pt2 : Pos} {n : Nat} (hc : X.calm = true) (ha : PXA ga X E es wA) (hg : PXGs ga X E tgs gs) (hn : (assignEach tgs X.env).length = n := by rfl) (hst : (assignEach tgs X.env).findIdx? (·.1) = none := by rfl)
    (hs : swapsWithSole [.Tuple tgs k pt] (.Tuple es k2 pt2) pos.line X.env = pure false := by rfl) (hw : swappedStores [.Tuple tgs k pt] (.Tuple es k2 pt2) X.env = pure none := by rfl)
    (h1 : (assignEach [.Tuple tgs k pt] X.env).map (·.2) = [assign (.Tuple tgs k pt) X.env] := by rfl) : PXS ga X E (.Assign [.Tuple tgs k pt] (.Tuple es k2 pt2) pos) (tgtNS n wA gs) := by
  obtain ⟨m, t, r, q⟩ := hg
  refine ⟨fun env S D D' h z => ha.mono env S _ _ _ _ (fun xs S1 ⟨e1, e2, u⟩ => ⟨e1, e2, m _ _ _ _ _ h.nx u⟩) (h.ex env) z, ⟨fun pins s σ H D I h => (ps_asg (pe_tup ha.run) (pg_tup hc r hn hst) hs hw h1).run pins s σ H D I ?_⟩⟩
  obtain ⟨env, S, B, α, re, w, h⟩ := h
  refine ⟨env, S, B, α, re, w, ha.mono env S _ _ _ _ (fun xs S1 ⟨e1, e2, u⟩ vs H1 B1 α1 s1 r1 => ?_) (fun _ _ z => kxS.at_ re z) h⟩
  refine ⟨lim_le (by rw [r1.len, e1]; omega), fun p hp => ?_⟩
  have s2 := s1.wd.extra (o := .tup vs) hp
  have s12 := s1.trans s2
  exact ⟨p, vs, rfl, SqT.of upd_same, by rw [r1.len]; exact e1, q B1 α1 S1 _ vs xs env σ _ s2.wd r1 (re.mono s12.bb s12.pre) (m _ _ _ _ _ (fun _ _ z => knT.after s12 z) u)⟩
theorem pxs_par2 {i j : Nat} {x y : Str} {px py pt : Pos} {kt k2 pt2} (hc : X.calm = true) (hN : X.N.Nodup) (hi : X.N[i]? = some x) (hj : X.N[j]? = some y) (hij : i ≠ j) (hx : X.env.scope.names.lookup x = some .local) (hy : X.env.scope.names.lookup y = some .local)
    (ha : PXA ga X E [a, b] wA) (hw : swappedStores [.Tuple [.Name x px, .Name y py] kt pt] (.Tuple [a, b] k2 pt2) X.env = pure (some [x, y])) (hs : swapsWithSole [.Tuple [.Name x px, .Name y py] kt pt] (.Tuple [a, b] k2 pt2) pos.line X.env = pure false := by rfl) :
    PXS ga X E (.Assign [.Tuple [.Name x px, .Name y py] kt pt] (.Tuple [a, b] k2 pt2) pos) (par2S i j wA) := by
  refine ⟨fun env S D D' h z => ha.mono env S _ _ _ _ (fun xs S1 ⟨x, y, e, u⟩ => ⟨x, y, e, h.nx _ _ u⟩) (h.ex env) z, ⟨fun pins s σ H D I h => (ps_par hc hN hi hj hij hx hy ha.run hw hs).run pins s σ H D I ?_⟩⟩
  obtain ⟨env, S, B, α, re, w, h⟩ := h
  refine ⟨env, S, B, α, re, w, ha.mono env S _ _ _ _ (fun xs S1 ⟨x, y, e, u⟩ vs H1 B1 α1 s1 r1 => ?_) (fun _ _ z => kxS.at_ re z) h⟩
  subst e
  obtain ⟨v1, v2, rfl, q1, q2⟩ := vr2 r1
  exact ⟨v1, v2, rfl, u _ _ _ _ s1 (((re.mono s1.bb s1.pre).set i q1).set j q2)⟩
theorem pxs_par3 {i j l : Nat} {x y z : Str} {px py pz pt : Pos} {kt k2 pt2} (hc : X.calm = true) (hN : X.N.Nodup) (hi : X.N[i]? = some x) (hj : X.N[j]? = some y) (hl : X.N[l]? = some z) (hij : i ≠ j) (hil : i ≠ l) (hjl : j ≠ l)
    (hx : X.env.scope.names.lookup x = some .local) (hy : X.env.scope.names.lookup y = some .local) (hz : X.env.scope.names.lookup z = some .local) (ha : PXA ga X E [a, b, c] wA)
    (hw : swappedStores [.Tuple [.Name x px, .Name y py, .Name z pz] kt pt] (.Tuple [a, b, c] k2 pt2) X.env = pure (some [x, y, z])) (hs : swapsWithSole [.Tuple [.Name x px, .Name y py, .Name z pz] kt pt] (.Tuple [a, b, c] k2 pt2) pos.line X.env = pure false := by rfl) :
    PXS ga X E (.Assign [.Tuple [.Name x px, .Name y py, .Name z pz] kt pt] (.Tuple [a, b, c] k2 pt2) pos) (par3S i j l wA) := by
  refine ⟨fun env S D D' h z => ha.mono env S _ _ _ _ (fun xs S1 ⟨x, y, z, e, u⟩ => ⟨x, y, z, e, h.nx _ _ u⟩) (h.ex env) z, ⟨fun pins s σ H D I h => (ps_par3 hc hN hi hj hl hij hil hjl hx hy hz ha.run hw hs).run pins s σ H D I ?_⟩⟩
  obtain ⟨env, S, B, α, re, w, h⟩ := h
  refine ⟨env, S, B, α, re, w, ha.mono env S _ _ _ _ (fun xs S1 ⟨x, y, z, e, u⟩ vs H1 B1 α1 s1 r1 => ?_) (fun _ _ z => kxS.at_ re z) h⟩
  subst e
  cases r1 with
  | cons q1 r1 =>
    obtain ⟨v2, v3, rfl, q2, q3⟩ := vr2 r1
    exact ⟨_, v2, v3, rfl, u _ _ _ _ s1 ((((re.mono s1.bb s1.pre).set i q1).set j q2).set l q3)⟩
theorem pxs_setL (he : PX ga X E e wv) (ho : PX ga X E o wo) (hi : PX ga X E ie wi)
    (ha : ∀ v, assign (.Subscript o ie p') X.env v = (do
      let ov ← holding [v] (eval o X.env)
      let iv ← holding [v, ov] (eval ie X.env)
      standAt p'
      holding [v, ov, iv] (setItem ov iv v)
      release [v, ov, iv] []) := by intro _; rfl)
    (hs : swapsWithSole [.Subscript o ie p'] e pos.line X.env = pure false := by rfl) (hw : swappedStores [.Subscript o ie p'] e X.env = pure none := by rfl)
    (h1 : (assignEach [.Subscript o ie p'] X.env).map (·.2) = [assign (.Subscript o ie p') X.env] := by rfl) : PXS ga X E (.Assign [.Subscript o ie p'] e pos) (setLS wv wo wi) := by
  refine ⟨fun env S D D' h z => he.mono env S _ _ _ _ (fun v S1 z1 => ho.mono env S1 _ _ _ _ (fun o S2 z2 => hi.mono env S2 _ _ _ _ (fun i S3 ⟨n, xs, k, j, e1, e2, e3, e4, z3⟩ => ⟨n, xs, k, j, e1, e2, e3, e4, h.nx _ _ z3⟩) (h.ex env) z2) (h.ex env) z1) (h.ex env) z,
    ⟨fun pins s σ H D I h => (ps_asg he.run (pg_sub ho.run hi.run set_list ha) hs hw h1).run pins s σ H D I ?_⟩⟩
  obtain ⟨env, S, B, α, re, w, h⟩ := h
  refine ⟨env, S, B, α, re, w, he.mono env S _ _ _ _ (fun y S1 u v H1 B1 α1 s1 r1 => ?_) (fun _ _ z => kxS.at_ re z) h⟩
  refine ⟨env, S1, B1, α1, re.mono s1.bb s1.pre, s1.wd, ho.mono env S1 _ _ _ _ (fun o' S2 u2 v2 H2 B2 α2 s2 r2 => ?_) (fun _ _ z => kxT.after s1 (kxS.at_ re z)) u⟩
  have s12 := s1.trans s2
  refine ⟨env, S2, B2, α2, re.mono s12.bb s12.pre, s2.wd, hi.mono env S2 _ _ _ _ (fun i' S3 u3 v3 H3 B3 α3 s3 r3 => ?_) (fun _ _ z => kxT.after s12 (kxS.at_ re z)) u2⟩
  obtain ⟨n, xs, k, j, e1, e2, e3, e4, z3⟩ := u3
  subst e1; subst e2
  have s13 := s12.trans s3
  obtain ⟨a, ha1, rfl⟩ := r2.mono s3.bb s3.pre
  cases r3
  obtain ⟨a', f1, f2, vs, f3, f4⟩ := s3.wd.obj n _ e3 (fun z => by cases z)
  rw [ha1] at f1; cases f1
  have rv := r1.mono (s2.bb.trans s3.bb) (s2.trans s3).pre
  refine ⟨a, vs, k, j, rfl, rfl, f3, by rw [f4.len]; exact e4, ?_⟩
  have s4 := s3.wd.change (o' := .lst (xs.set j y)) (ho := .lst (vs.set j v)) e3 (fun z => by cases z) ha1 ⟨_, upd_same, f4.set rv j⟩
  exact z3 _ _ _ _ (s13.trans s4) (re.mono (s13.trans s4).bb (s13.trans s4).pre)
theorem pxs_app (ho : PX ga X E o wo) (he : PX ga X E e wv) (hbase : attributeBase o "append" X.env (eval o X.env) = eval o X.env := by rfl)
    (hfew : ((backTo p2 (starEach [e] X.env)).all (fun x => !x.1) && (backToKw p2 (keywordEach [] X.env)).all (fun x => x.1.isSome)
      && decide ([e].length + ([] : List Keyword).length + (if ([] : List Keyword).isEmpty then 0 else 1) < 30)) = true := by rfl)
    (hline : (apos.endLine == p2.line) = true := by rfl) (hs : starEach [e] X.env = (false, eval e X.env) :: starEach [] X.env := by rfl) (hplain : (backTo p2 (starEach [] X.env)).any (·.1) = false := by rfl)
    (hsw : swapsWith (.Call (.Attribute o "append" apos) [e] [] p2) none pos.line X.env = pure false := by rfl) : PXS ga X E (.Expr (.Call (.Attribute o "append" apos) [e] [] p2) pos) (appS wo wv) := by
  refine ⟨fun env S D D' h z => ho.mono env S _ _ _ _ (fun o S1 ⟨n, ys, e1, e2, z1⟩ => ⟨n, ys, e1, e2, he.mono env S1 _ _ _ _ (fun v S2 ⟨xs, e3, e4, z3⟩ => ⟨xs, e3, e4, h.nx _ _ z3⟩) (h.ex env) z1⟩) (h.ex env) z,
    ⟨fun pins s σ H D I h => (ps_expr (pe_bm PySem.F.plainAttrs_list PySem.F.slot_list_append PySem.F.type_list_append mt_append ho.run (pa_cons he.run pa_nil hs) hbase hfew hline hs hplain) hsw).run pins s σ H D I ?_⟩⟩
  obtain ⟨env, S, B, α, re, w, h⟩ := h
  refine ⟨env, S, B, α, re, w, ho.mono env S _ _ _ _ (fun o' S1 u1 v1 H1 B1 α1 s1 r1 => ?_) (fun _ _ z => kxS.at_ re z) h⟩
  obtain ⟨n, ys, e1, e2, u1⟩ := u1
  subst e1
  obtain ⟨a, ha1, rfl⟩ := r1
  obtain ⟨a', f1, f2, vs1, f3, f4⟩ := s1.wd.obj n _ e2 (fun z => by cases z)
  rw [ha1] at f1; cases f1
  refine ⟨.inl ⟨rfl, vs1, SqL.of f3⟩, ?_⟩
  refine ⟨env, S1, B1, α1, re.mono s1.bb s1.pre, s1.wd, he.mono env S1 _ _ _ _ (fun y S2 u2 v2 H2 B2 α2 s2 r2 => ?_) (fun _ _ z => kxT.after s1 (kxS.at_ re z)) u1⟩
  obtain ⟨xs, e3, e4, z3⟩ := u2
  have s12 := s1.trans s2
  have ha2 : α2[n]? = some a := by
    obtain ⟨t, rfl⟩ := s2.pre
    rw [List.getElem?_append_left (List.getElem?_eq_some_iff.mp ha1).1]; exact ha1
  obtain ⟨a', g1, g2, vs, g3, g4⟩ := s2.wd.obj n _ e3 (fun z => by cases z)
  rw [ha2] at g1; cases g1
  refine ⟨a, vs, v2, rfl, rfl, g3, Nat.lt_of_le_of_lt (by rw [g4.len]; exact e4) (by decide : 1000000 < sizeLine), ?_⟩
  have s3 := s2.wd.change (o' := .lst (xs ++ [y])) (ho := .lst (vs ++ [v2])) e3 (fun z => by cases z) ha2 ⟨_, upd_same, g4.snoc r2⟩
  have s13 := s12.trans s3
  exact z3 _ _ _ _ s13 (re.mono s13.bb s13.pre)
end
end DW

set_option Elab.async false
set_option linter.all false
set_option maxRecDepth 100000
set_option maxHeartbeats 4000000
set_option autoImplicit false
/-! DW7: defs and their calls, raise, try. -/
namespace DW
open PySem L2

/-- what a def does: its arguments, the objects handed in -/
abbrev FS := List DV → Sto → DK → DX → Prop
def MonoF (F : FS) : Prop := ∀ xs S (k k' : DK) (x x' : DX), (∀ r S, k r S → k' r S) → (∀ r S, x r S → x' r S) → F xs S k x → F xs S k' x'
def funW (N : Nat) (w : DS) : FS := fun args S k kx => w (args.map some ++ List.replicate (N - args.length) none) S ⟨fun _ S' => k (.d .none) S', k, fun _ _ => False, fun _ _ => False, fun _ => kx⟩
theorem mono_fun {N : Nat} {w : DS} (m : MonoS w) : MonoF (funW N w) := fun xs S k k' x x' hk hx h => m _ _ ⟨fun _ S' => k (.d .none) S', k, fun _ _ => False, fun _ _ => False, fun _ => x⟩ ⟨fun _ S' => k' (.d .none) S', k', fun _ _ => False, fun _ _ => False, fun _ => x'⟩ ⟨fun _ _ z => hk _ _ z, hk, fun _ _ z => z, fun _ _ z => z, fun _ => hx⟩ h
def spD (K : PySem.W.Frag) (ga : Str → Addr) (F : FS) (n : Nat) : Sp := fun vs H Q E => vs.length = n ∧ ∃ B α S args, Wd K B α S H ∧ VRs K B α vs args ∧ F args S (kvT K B α H Q) (kxT K ga B α H E)

section
variable {K : PySem.W.Frag} {B B' : Hp} {α α' : List Addr} {S S' : Sto} {H H' : Hp} {ga : Str → Addr}
theorem relE_start {N : List Str} {vs : List V} {args : List DV} (r : VRs K B α vs args) (hn : vs.length ≤ N.length) : RelE K B α (args.map some ++ List.replicate (N.length - args.length) none) (L2.start N vs) := by
  have hl := r.len
  refine ⟨by unfold L2.start; simp [hl], fun i x e => ?_⟩
  unfold L2.start
  by_cases hi : i < args.length
  · rw [List.getElem?_append_left (by simpa using hi), List.getElem?_map] at e
    cases q : args[i]? with
    | none => rw [q] at e; cases e
    | some y =>
      rw [q] at e
      cases e
      obtain ⟨v, h1, h2⟩ := r.get q
      exact ⟨v, by rw [List.getElem?_append_left (by simpa [hl] using hi), List.getElem?_map, h1]; rfl, h2⟩
  · rw [List.getElem?_append_right (by simpa using hi), List.getElem?_replicate] at e
    split at e <;> cases e

/-- what a body's context must offer -/
structure Ctx (X : Cx) (E : WX) (k : Nat) : Prop where
  calm : X.calm = true
  nd : X.N.Nodup
  tk : Takes X E
  po : PassesOwn (model X.prog X.w) X.A X.env X.xe
  room : Room k X.A
theorem Ctx.u {X : Cx} {E : WX} {k : Nat} (c : Ctx X E k) : X.A.units + 64 < cLine := c.room.units
theorem fn_ok {P : Program} {w : World} {mg : Str → Option Value} {base : Heap} {k : Nat} {f : Addr} {x qual : Str} {params : Arguments} {body : List Stmt} {scope : Scope} {dvs : List V} {kws : List (Str × V)} {fd : FuncData} {N ps : List Str} {ws : DS}
    (F : FunD K x qual params body scope dvs kws f fd) (Sc : FnScope N ps scope)
    (hb : ∀ (X : Cx) (E : WX), X.prog = P → X.w = w → X.K = K → X.mg = mg → X.base = base → X.N = N → X.env.scope = scope → X.fn = (fun _ => true) → X.stack = X.env :: X.outer → X.env.frame = some X.env.locals → Ctx X E k → PXB ga X E body ws) :
    FnOk P w K mg base (L2.CX P w) (k + 1) f fd ps (spD K ga (funW N.length ws) ps.length) := by
  refine F.ok Sc (fun vs H Q E h => h.1) (fun cdv A outer s H vs Q E hr h => ?_)
  obtain ⟨hl, B, α, S, args, wd, r, h⟩ := h
  have C : Ctx (cxOf (L2.CX P w) P w K mg base N qual scope f cdv A outer s H E) (fun cls d _ H => E cls d H) k := ⟨rfl, Sc.nd, takes_of rfl rfl rfl rfl, passes_of rfl, hr⟩
  have b := hb (cxOf (L2.CX P w) P w K mg base N qual scope f cdv A outer s H E) _ rfl rfl rfl rfl rfl rfl rfl rfl rfl rfl C
  refine ⟨_, b.run, _, S, B, α, relE_start r ?_, wd, b.mono _ _ ⟨fun _ S' => kvT K B α H Q (.d .none) S', kvT K B α H Q, fun _ _ => False, fun _ _ => False, fun _ => kxT K ga B α H E⟩ _ ⟨fun e S' z σ' H' B' α' st re => z _ _ _ _ st .non, fun _ _ z => z, fun _ _ z => z.elim, fun _ _ z => z.elim, fun e x S' z c d σ' H' B' α' st re xr => z c d H' B' α' st xr⟩ h⟩
  rw [hl]
  have := congrArg List.length Sc.pre
  simp at this
  omega

/-! ### calls -/
def isPure : DV → Bool
  | .p _ => false
  | _ => true
def ptrs : List DV → List Nat
  | [] => []
  | .p n :: r => n :: ptrs r
  | _ :: r => ptrs r
def ren : List DV → Nat → List DV
  | [], _ => []
  | .p _ :: r, k => .p k :: ren r (k + 1)
  | x :: r, k => x :: ren r k
def closedO : SO → Bool
  | .lst xs => xs.all isPure
  | .dic _ kvs => kvs.all fun q => isPure q.2
  | .gone => false
def objsAt (S : Sto) : List Nat → Option Sto
  | [] => some []
  | n :: r => match S[n]?, objsAt S r with
    | some o, some os => if closedO o = true then some (o :: os) else none
    | _, _ => none
/-- the objects behind the call, in their places -/
def putAll : Sto → List Nat → Sto → Sto
  | S, [], _ => S
  | S, n :: r, o :: os => putAll (S.set n o) r os
  | S, _ :: _, [] => S
def okObjs (n : Nat) (S : Sto) : Prop := ∀ (i : Nat) (o : SO), i < n → S[i]? = some o → closedO o = true
def resK (ix : List Nat) (S1 : Sto) (k : DK) : DK := fun r S2 => okObjs ix.length S2 ∧ match r with
  | .p j => ix.length ≤ j ∧ ∃ o, S2[j]? = some o ∧ closedO o = true ∧ k (.p S1.length) (putAll S1 ix S2 ++ [o])
  | x => k x (putAll S1 ix S2)
def callW (F : FS) (wA : DA) : DE := fun env S k kx => wA env S (fun xs S1 => (ptrs xs).Nodup ∧ ∃ os, objsAt S1 (ptrs xs) = some os ∧ F (ren xs 0) os (resK (ptrs xs) S1 k) (fun x S2 => okObjs (ptrs xs).length S2 ∧ kx x (putAll S1 (ptrs xs) S2))) kx

/-! the call is sound -/
theorem mono_call {F : FS} {wA : DA} (mF : MonoF F) (mA : MonoA wA) : MonoE (callW F wA) := fun env S k k' x x' hk hx h => mA env S _ _ _ _ (fun xs S1 ⟨nd, os, e, h1⟩ => ⟨nd, os, e, mF _ _ _ _ _ _ (fun r S2 ⟨ok, z⟩ => ⟨ok, by
  cases r with
  | p j => exact ⟨z.1, z.2.imp fun o q => ⟨q.1, q.2.1, hk _ _ q.2.2⟩⟩
  | d y => exact hk _ _ z
  | s y => exact hk _ _ z⟩) (fun x S2 ⟨ok, z⟩ => ⟨ok, hx _ _ z⟩) h1⟩) hx h
/-- the addresses of the handed objects -/
def adrs (α : List Addr) : List Nat → List Addr
  | [] => []
  | n :: r => α.getD n 0 :: adrs α r
theorem adrs_get (α : List Addr) : ∀ (ix : List Nat) (i n : Nat), ix[i]? = some n → (adrs α ix)[i]? = some (α.getD n 0)
  | [], _, _, h => by simp at h
  | m :: r, 0, n, h => by simp at h; subst h; rfl
  | m :: r, i + 1, n, h => by simpa [adrs] using adrs_get α r i n (by simpa using h)
theorem adrs_len (α : List Addr) : ∀ ix : List Nat, (adrs α ix).length = ix.length
  | [] => rfl
  | _ :: r => by simp [adrs, adrs_len α r]
theorem adrs_mem {α : List Addr} {ix : List Nat} {a : Addr} (h : a ∈ adrs α ix) : ∃ n ∈ ix, α.getD n 0 = a := by
  induction ix with
  | nil => cases h
  | cons m r ih =>
    rcases List.mem_cons.mp h with h | h
    · exact ⟨m, List.mem_cons_self, h.symm⟩
    · obtain ⟨n, h1, h2⟩ := ih h
      exact ⟨n, List.mem_cons_of_mem _ h1, h2⟩
theorem objs_get {S : Sto} : ∀ {ix : List Nat} {os : Sto}, objsAt S ix = some os → os.length = ix.length ∧ ∀ (i n : Nat), ix[i]? = some n → ∃ o, S[n]? = some o ∧ os[i]? = some o ∧ closedO o = true
  | [], os, h => by cases h; exact ⟨rfl, fun i n e => by simp at e⟩
  | m :: r, os, h => by
    unfold objsAt at h
    split at h
    · rename_i o os' h1 h2
      split at h
      · rename_i hc
        cases h
        obtain ⟨l, g⟩ := objs_get h2
        refine ⟨by simp [l], fun i n e => ?_⟩
        cases i with
        | zero => simp at e; subst e; exact ⟨o, h1, rfl, hc⟩
        | succ i => obtain ⟨o2, a, b, c⟩ := g i n (by simpa using e); exact ⟨o2, a, by simpa using b, c⟩
      · cases h
    · cases h
theorem closed_ok {o : SO} {a : Addr} (hc : closedO o = true) (e : Same B B') (k : ∀ u, H a = some u → H' a = some u) (h : SOk K B α H a o) (α' : List Addr) : SOk K B' α' H' a o := by
  cases o with
  | lst xs =>
    obtain ⟨vs, h1, h2⟩ := h
    refine ⟨vs, k _ h1, ?_⟩
    have hd : xs.all isPure = true := hc
    clear h1 hc
    induction h2 with
    | nil => exact .nil
    | @cons v x _ _ q r ih =>
      simp only [List.all_cons, Bool.and_eq_true] at hd
      have hc := hd
      refine .cons ?_ (ih hd.2)
      cases x with
      | d y => exact Dq.same e q
      | s ns => obtain ⟨b, h3, h4⟩ := q; exact ⟨b, h3, same_l e h4⟩
      | p n => cases hc.1
  | dic lk kvs => exact h.elim
  | gone => cases hc
theorem put_len : ∀ (ix : List Nat) (S S2 : Sto), (putAll S ix S2).length = S.length
  | [], S, S2 => by rw [putAll]
  | n :: r, S, [] => rfl
  | n :: r, S, o :: os => by simp [putAll, put_len r (S.set n o) os]
theorem put_ne : ∀ (ix : List Nat) (S S2 : Sto) (m : Nat), m ∉ ix → (putAll S ix S2)[m]? = S[m]?
  | [], S, S2, _, _ => by rw [putAll]
  | n :: r, S, [], m, h => rfl
  | n :: r, S, o :: os, m, h => by
    simp only [List.mem_cons, not_or] at h
    rw [putAll, put_ne r _ os m h.2, List.getElem?_set_ne (Ne.symm h.1)]
theorem put_at : ∀ (ix : List Nat) (S S2 : Sto) (i n : Nat), ix.Nodup → ix[i]? = some n → n < S.length → ix.length ≤ S2.length → (putAll S ix S2)[n]? = S2[i]?
  | [], _, _, _, _, _, h, _, _ => by simp at h
  | m :: r, S, [], i, n, _, _, _, hl => by simp at hl
  | m :: r, S, o :: os, 0, n, nd, h, hn, hl => by
    simp at h; subst h
    rw [putAll, put_ne r _ os m (List.nodup_cons.mp nd).1, List.getElem?_set_self hn]
    rfl
  | m :: r, S, o :: os, i + 1, n, nd, h, hn, hl => by
    rw [putAll, put_at r _ os i n (List.nodup_cons.mp nd).2 (by simpa using h) (by simpa using hn) (by simpa using hl)]
    simp
/-- the world of the callee -/
theorem Wd.sub {ix : List Nat} {os : Sto} (w : Wd K B α S H) (nd : ix.Nodup) (e : objsAt S ix = some os) : Wd K B (adrs α ix) os H := by
  obtain ⟨l, g⟩ := objs_get e
  have real : ∀ n ∈ ix, ∃ o, S[n]? = some o ∧ closedO o = true ∧ α[n]? = some (α.getD n 0) := fun n hn => by
    obtain ⟨i, hi⟩ := List.getElem?_of_mem hn
    obtain ⟨o, h1, h2, h3⟩ := g i n hi
    obtain ⟨a, h4, _⟩ := w.obj n o h1 (fun z => by subst z; cases h3)
    exact ⟨o, h1, h3, by rw [List.getD_eq_getElem?_getD, h4]; rfl⟩
  refine ⟨w.ex, by rw [adrs_len, l], fun i o h1 h2 => ?_, ?_, fun a ha => ?_⟩
  · have hi : i < ix.length := by rw [← l]; exact (List.getElem?_eq_some_iff.mp h1).1
    have hix : ix[i]? = some ix[i] := by simp [hi]
    obtain ⟨o', q1, q2, q3⟩ := g i _ hix
    rw [h1] at q2; cases q2
    obtain ⟨a, f1, f2, f3⟩ := w.obj _ o q1 h2
    refine ⟨a, ?_, f2, closed_ok q3 (Same.refl _) (fun _ z => z) f3 _⟩
    rw [adrs_get α ix i _ hix, List.getD_eq_getElem?_getD, f1]
    rfl
  · clear e g l os
    induction ix with
    | nil => exact List.nodup_nil
    | cons m r ih =>
      obtain ⟨h1, h2⟩ := List.nodup_cons.mp nd
      refine List.nodup_cons.mpr ⟨fun hm => ?_, ih h2 fun n hn => real n (List.mem_cons_of_mem _ hn)⟩
      obtain ⟨n, hn, en⟩ := adrs_mem hm
      obtain ⟨_, _, _, a1⟩ := real m List.mem_cons_self
      obtain ⟨_, _, _, a2⟩ := real n (List.mem_cons_of_mem _ hn)
      rw [en] at a2
      have := nd_at w.nd a1 a2
      subst this
      exact h1 hn
  · obtain ⟨n, hn, en⟩ := adrs_mem ha
    obtain ⟨_, _, _, a1⟩ := real n hn
    rw [en] at a1
    exact w.trk a (List.mem_of_getElem? a1)
theorem ren_ok {α : List Addr} : ∀ {vs : List V} {xs : List DV} (pre : List Nat), VRs K B α vs xs → VRs K B (adrs α (pre ++ ptrs xs)) vs (ren xs pre.length)
  | _, _, _, .nil => .nil
  | _, _, pre, .cons (x := x) (xs := xs) h r => by
    cases x with
    | d y => exact .cons h (ren_ok pre r)
    | s y => exact .cons h (ren_ok pre r)
    | p n =>
      obtain ⟨a, h1, h2⟩ := h
      have e : pre ++ ptrs (.p n :: xs) = (pre ++ [n]) ++ ptrs xs := by simp [ptrs]
      rw [e]
      have ih := ren_ok (pre ++ [n]) r
      rw [List.length_append] at ih
      refine .cons ⟨a, ?_, h2⟩ ih
      rw [adrs_get α _ pre.length n (by simp)]
      rw [List.getD_eq_getElem?_getD, h1]
      rfl
/-- behind the call -/
theorem Stp.ofCall {ix : List Nat} {os S2 : Sto} {B2 : Hp} {α2 : List Addr} {H2 : Hp} (w : Wd K B α S H) (nd : ix.Nodup) (e : objsAt S ix = some os) (s : Stp K B (adrs α ix) H B2 α2 S2 H2) (ok : okObjs ix.length S2) :
    Stp K B α H B2 α (putAll S ix S2) H2 := by
  have wc := w.sub nd e
  obtain ⟨l, g⟩ := objs_get e
  have sub : ∀ a ∈ adrs α ix, a ∈ α := fun a ha => by
    obtain ⟨n, hn, en⟩ := adrs_mem ha
    obtain ⟨i, hi⟩ := List.getElem?_of_mem hn
    obtain ⟨o, h1, h2, h3⟩ := g i n hi
    obtain ⟨a', h4, _⟩ := w.obj n o h1 (fun z => by subst z; cases h3)
    have : α.getD n 0 = a' := by rw [List.getD_eq_getElem?_getD, h4]; rfl
    rw [← en, this]
    exact List.mem_of_getElem? h4
  obtain ⟨t, ht⟩ := s.pre
  have hlen : ix.length ≤ S2.length := by rw [← s.wd.len, ht, List.length_append, adrs_len]; omega
  refine ⟨⟨s.wd.ex, by rw [put_len]; exact w.len, fun n o h1 h2 => ?_, w.nd, fun a ha => ?_⟩, s.bb, ⟨[], by simp⟩, fun a o h => ?_, fun _ h => .inl h, fun a o h n => s.frame a o h fun z => n (sub a z)⟩
  · by_cases hn : n ∈ ix
    · obtain ⟨i, hi⟩ := List.getElem?_of_mem hn
      obtain ⟨o0, q1, q2, q3⟩ := g i n hi
      obtain ⟨a, f1, f2, f3⟩ := w.obj n o0 q1 (fun z => by subst z; cases q3)
      rw [put_at ix S S2 i n nd hi (List.getElem?_eq_some_iff.mp q1).1 hlen] at h1
      have hi' : i < ix.length := (List.getElem?_eq_some_iff.mp hi).1
      obtain ⟨a2, g1, g2, g3⟩ := s.wd.obj i o h1 h2
      have ea : α2[i]? = some a := by
        rw [ht, List.getElem?_append_left (by rw [adrs_len]; exact hi'), adrs_get α ix i n hi, List.getD_eq_getElem?_getD, f1]
        rfl
      rw [ea] at g1; cases g1
      exact ⟨a, f1, g2, closed_ok (ok i o hi' h1) (Same.refl _) (fun _ z => z) g3 _⟩
    · rw [put_ne ix S S2 n hn] at h1
      obtain ⟨a, f1, f2, f3⟩ := w.obj n o h1 h2
      have hna : a ∉ adrs α ix := fun z => by
        obtain ⟨m, hm, em⟩ := adrs_mem z
        obtain ⟨i, hi⟩ := List.getElem?_of_mem hm
        obtain ⟨o0, q1, q2, q3⟩ := g i m hi
        obtain ⟨a', h4, _⟩ := w.obj m o0 q1 (fun z => by subst z; cases q3)
        have e1 : α.getD m 0 = a' := by rw [List.getD_eq_getElem?_getD, h4]; rfl
        have e2 : a' = a := e1.symm.trans em
        rw [e2] at h4
        have := nd_at w.nd f1 h4
        subst this
        exact hn hm
      obtain ⟨u, hu⟩ := w.trk a (List.mem_of_getElem? f1)
      refine ⟨a, f1, ?_, f3.mono s.bb ⟨[], by simp⟩ fun u z => s.frame a u z hna⟩
      cases q : B2 a with
      | none => rfl
      | some ob =>
        rcases s.newB a ob q with z | z | z
        · rw [f2] at z; cases z
        · rw [hu] at z; cases z
        · exact absurd z hna
  · by_cases ha2 : a ∈ adrs α ix
    · exact s.wd.trk a (by rw [ht]; exact List.mem_append_left _ ha2)
    · obtain ⟨u, hu⟩ := w.trk a ha
      exact ⟨u, s.frame a u hu ha2⟩
  · rcases s.newB a o h with z | z | z
    · exact .inl z
    · exact .inr (.inl z)
    · exact .inr (.inr (sub a z))

section
variable {X : Cx} {E : WX} {e : Expr} {es : List Expr} {wA : DA} {F : FS} {k j n : Nat} {f : Addr} {fd : FuncData} {ps : List Str} {x : Str} {p pos : Pos}
theorem run_call (mF : MonoF F) (mA : MonoA wA) (hn : ∀ (env : DEnv) (S : Sto) (k : DK) (kx : DX), callW F wA env S k kx → wA env S (fun xs S1 => xs.length = n ∧ (ptrs xs).Nodup ∧ ∃ os, objsAt S1 (ptrs xs) = some os ∧ F (ren xs 0) os (resK (ptrs xs) S1 k) (fun x S2 => okObjs (ptrs xs).length S2 ∧ kx x (putAll S1 (ptrs xs) S2))) kx)
    {σ : St} {H : Hp} {Q : VK} (h : eT K ga E (callW F wA) σ H Q) : aT K ga E wA σ H fun vs H1 => spD K ga F n vs H1 Q (WE E σ) := by
  obtain ⟨env, S, B, α, re, w, h⟩ := h
  refine ⟨env, S, B, α, re, w, mA env S _ _ _ _ (fun xs S1 ⟨hl, nd, os, e, h1⟩ vs H1 B1 α1 s1 r1 => ?_) (fun _ _ z => z) (hn _ _ _ _ h)⟩
  have r2 := ren_ok (K := K) (B := B1) [] r1
  simp only [List.nil_append, List.length_nil] at r2
  refine ⟨by rw [r1.len]; exact hl, B1, adrs α1 (ptrs xs), os, ren xs 0, s1.wd.sub nd e, r2, mF _ _ _ _ _ _ (fun r S2 ⟨ok, z⟩ v H2 B2 α2 s2 r2 => ?_) (fun x S2 ⟨ok, z⟩ c d H2 B2 α2 s2 xr => ?_) h1⟩
  · have s3 := Stp.ofCall s1.wd nd e s2 ok
    cases r with
    | d y => exact z _ _ _ _ (s1.trans s3) r2
    | s y => exact z _ _ _ _ (s1.trans s3) r2
    | p j =>
      obtain ⟨hj, o, ho, hc, z⟩ := z
      obtain ⟨a, ha, rfl⟩ := r2
      obtain ⟨a', g1, g2, g3⟩ := s2.wd.obj j o ho (fun z => by subst z; cases hc)
      rw [ha] at g1; cases g1
      have hnew : a ∉ α1 := fun hm => by
        rcases s2.newA a (List.mem_of_getElem? ha) with q | q
        · obtain ⟨t, ht⟩ := s2.pre
          obtain ⟨i, hi⟩ := List.getElem?_of_mem q
          have hi' := (List.getElem?_eq_some_iff.mp hi).1
          rw [adrs_len] at hi'
          have h2 : α2[i]? = some a := by rw [ht, List.getElem?_append_left (by rw [adrs_len]; exact hi')]; exact hi
          have := nd_at s2.wd.nd ha h2
          omega
        · obtain ⟨u, hu⟩ := s1.wd.trk a hm
          rw [hu] at q; cases q
      have hfree : H1 a = none := by
        rcases s2.newA a (List.mem_of_getElem? ha) with q | q
        · exfalso
          obtain ⟨t, ht⟩ := s2.pre
          obtain ⟨i, hi⟩ := List.getElem?_of_mem q
          have hi' := (List.getElem?_eq_some_iff.mp hi).1
          rw [adrs_len] at hi'
          have h2 : α2[i]? = some a := by rw [ht, List.getElem?_append_left (by rw [adrs_len]; exact hi')]; exact hi
          have := nd_at s2.wd.nd ha h2
          omega
        · exact q
      have s4 : Stp K B1 α1 H1 B2 (α1 ++ [a]) (putAll S1 (ptrs xs) S2 ++ [o]) H2 := by
        refine ⟨⟨s3.wd.ex, by simp [s3.wd.len], fun m q h1 h2 => ?_, ?_, fun c hc => ?_⟩, s3.bb, ⟨[a], rfl⟩, s3.newB, fun c hc => ?_, s3.frame⟩
        · by_cases hm : m < (putAll S1 (ptrs xs) S2).length
          · rw [List.getElem?_append_left hm] at h1
            obtain ⟨c, f1, f2, f3⟩ := s3.wd.obj m q h1 h2
            exact ⟨c, by rw [List.getElem?_append_left (by rw [s3.wd.len]; exact hm)]; exact f1, f2, f3.mono (Same.refl _) ⟨[a], rfl⟩ fun _ z => z⟩
          · have hm2 := (List.getElem?_eq_some_iff.mp h1).1
            simp at hm2
            have : m = (putAll S1 (ptrs xs) S2).length := by omega
            subst this
            simp at h1
            subst h1
            exact ⟨a, by rw [← s3.wd.len]; simp, g2, closed_ok hc (Same.refl _) (fun _ z => z) g3 _⟩
        · refine List.nodup_append.mpr ⟨s1.wd.nd, by simp, fun c hc d hd => ?_⟩
          simp at hd
          subst hd
          intro z; subst z; exact hnew hc
        · rcases List.mem_append.mp hc with q | q
          · exact s3.wd.trk c q
          · simp at q; subst q; exact s2.wd.trk _ (List.mem_of_getElem? ha)
        · rcases List.mem_append.mp hc with q | q
          · exact .inl q
          · simp at q; subst q; exact .inr hfree
      refine z _ _ _ _ (s1.trans s4) ⟨a, ?_, rfl⟩
      have : S1.length = α1.length := s1.wd.len.symm
      rw [this]
      simp
  · exact z c d H2 B2 α1 (s1.trans (Stp.ofCall s1.wd nd e s2 ok)) xr
/-- how many arguments -/
def LenA (wA : DA) (n : Nat) : Prop := ∀ env S (k : List DV → Sto → Prop) kx, wA env S k kx → wA env S (fun xs S1 => xs.length = n ∧ k xs S1) kx
theorem lenA_nil : LenA nilA 0 := fun _ _ _ _ h => ⟨rfl, h⟩
theorem lenA_cons {w : DE} (m : MonoE w) {wA : DA} (mA : MonoA wA) {n : Nat} (h : LenA wA n) : LenA (consA w wA) (n + 1) := fun env S k kx q => m env S _ _ _ _ (fun x S1 z => mA env S1 _ _ _ _ (fun xs S2 ⟨u, v⟩ => ⟨by simp [u], v⟩) (fun _ _ z => z) (h env S1 _ _ z)) (fun _ _ z => z) q
theorem px_call (c : Ctx X E k) (Fn : FnOk X.prog X.w X.K X.mg X.base (L2.CX X.prog X.w) j f fd ps (spD X.K ga F n)) (hj : j ≤ k) (mF : MonoF F) (hg : Gl X x) (hm : X.mg x = some (.ref f)) (hk : PySem.W.keepIn X.K (.ref f) = true) (hb : Binds X.K fd ps [])
    (ha : PXA ga X E (e :: es) wA) (hl : LenA wA n) (hdb : (x == ("__debug__" : Str)) = false := by decide) (he : starEach (e :: es) X.env = (false, eval e X.env) :: starEach es X.env := by rfl) (hpl : (backTo pos (starEach es X.env)).any (·.1) = false := by rfl) :
    PX ga X E (.Call (.Name x p) (e :: es) [] pos) (callW F wA) :=
  ⟨mono_call mF ha.mono, ⟨fun pins s σ H Q I h => (pe_callS (E := WE E) Fn (c.room.mono hj) hg hm hk hb (fun σ => passAt c.tk σ) ha.run hdb he hpl).run pins s σ H Q I
    (run_call mF ha.mono (fun env S k kx q => hl env S _ kx q) h)⟩⟩
/-- f() -/
theorem pe_callS0 {sp : Sp} {E' : St → XK} (Fn : FnOk X.prog X.w X.K X.mg X.base (L2.CX X.prog X.w) j f fd ps sp) (hr : Room j X.A) (hg : Gl X x) (hm : X.mg x = some (.ref f)) (hk : PySem.W.keepIn X.K (.ref f) = true) (hb : Binds X.K fd ps []) (hx : ∀ σ, PassesAt (L2.CX X.prog X.w) X σ (E' σ))
    (hdb : (x == ("__debug__" : Str)) = false := by decide) : PE X (.Call (.Name x p) [] [] pos) (tCallS sp E' tNil) := by
  refine ⟨fun pins s σ H Q I h => ?_⟩
  refine wpAny_Call_Name_kw (ld_glob I hg hm ?_ hdb)
  exact PySem.W.callWith_K0 I.kIn hk (run_fnS (us := []) Fn hr hb (hx σ) I .nil h)
theorem px_call0 (c : Ctx X E k) (Fn : FnOk X.prog X.w X.K X.mg X.base (L2.CX X.prog X.w) j f fd [] (spD X.K ga F 0)) (hj : j ≤ k) (mF : MonoF F) (hg : Gl X x) (hm : X.mg x = some (.ref f)) (hk : PySem.W.keepIn X.K (.ref f) = true) (hb : Binds X.K fd [] [])
    (hdb : (x == ("__debug__" : Str)) = false := by decide) : PX ga X E (.Call (.Name x p) [] [] pos) (callW F nilA) := by
  have mA : MonoA nilA := fun env S k k' x x' hk hx h => hk _ _ h
  refine ⟨mono_call mF mA, ⟨fun pins s σ H Q I h => (pe_callS0 (E' := WE E) Fn (c.room.mono hj) hg hm hk hb (fun σ => passAt c.tk σ) hdb).run pins s σ H Q I ?_⟩⟩
  obtain ⟨env, S, B, α, re, w, h⟩ := run_call mF mA (fun env S k kx q => lenA_nil env S _ kx q) h
  exact h [] H B α (Stp.refl w) .nil
end
end
/-! ### raise, try -/
def raiseS (x : Str) : DS := fun env S D => D.ex env (.cls x) S
section
variable {ga : Str → Addr} {X : Cx} {E : WX} {k : Nat}
theorem pxs_raise {x m : Str} {j : Nat} {p p2 pos pos' : Pos} (c : Ctx X E k) (q : PySem.W.excIn X.K (ga x) [.type "ValueError", .type "Exception", .type "BaseException", .type "object"] "ValueError.__new__" = true) (gC : X.mg x = some (.ref (ga x))) (kC : PySem.W.keepIn X.K (.ref (ga x)) = true)
    (b1 : PySem.W.subIn X.K (.ref (ga x)) (.type "BaseException") = some true) (b2 : PySem.W.typeIn X.K (.ref (ga x)) = some (.type "type")) (hg : Gl X x) (hdb : (x == ("__debug__" : Str)) = false := by decide) :
    PXS ga X E (.Raise (some (.Call (.Name x p) [.Constant (.str m) j p2] [] pos)) none pos') (raiseS x) := by
  refine ⟨fun env S D D' h z => h.ex _ _ _ z, ⟨fun pins s σ H D I h => (ps_raise c.calm c.tk (pmk_own PySem.F.excBase_ValueError q gC kC (raises_own b1 b2) hg hdb)).run pins s σ H D I ?_⟩⟩
  obtain ⟨env, S, B, α, re, w, h⟩ := h
  exact h _ _ σ H B α (Stp.refl w) re ⟨rfl, rfl⟩
end
end DW

set_option Elab.async false
set_option linter.all false
set_option maxRecDepth 100000
set_option maxHeartbeats 4000000
set_option autoImplicit false
/-! EnT: for i, x in enumerate(a tuple). -/
namespace PySem
open Sem (wp)
theorem meets_enumerate_new1 {v : Value} {o : Obj} {H : Heap → Prop} (B : Begins v o H) :
    Meets (Builtin.«enumerate.__new__» ⟨[.type "enumerate", v], []⟩) (fun _ R s => H s.heap ∧
      R (.ok (.ret (.ref (s.heap.push o).objs.size))) { s with heap := (s.heap.push o).push { cls := .type "enumerate", data := .fields #[.none, .bool false, .ref s.heap.objs.size, rawInt 0, .none, .none] } }) :=
  .of_wp fun prog w A R s h => by
    obtain ⟨hp, g, d, tk, os⟩ := s; obtain ⟨h1, h⟩ := h
    have hsub := sub_enumerate
    have q1 : ∀ {A' : Around} {E : Value → Shared → Prop} {Q : Value → Shared → Prop}, Q (.ref hp.objs.size) ⟨hp.push o, g, d, tk, os⟩ → wpAny (model prog w) A' (pyIter v) Q E ⟨hp, g, d, tk, os⟩ :=
      fun q => B.iter prog w _ _ ⟨hp, g, d, tk, os⟩ _ h1 q
    wp_walk using q1
    refine wpAny_stack_any fun st => wpAny_pure ?_
    split
    · rename_i c _ _ _ _ _
      cases (c == Value.type "enumerate")
      · wp_walk using q1
        exact ⟨_, rfl, h⟩
      · wp_walk using q1
        exact ⟨_, rfl, h⟩
    · wp_walk using q1
      exact ⟨_, rfl, h⟩
section
variable {prog : Program} {w : World} {A : Around} {E : Value → Shared → Prop} {s : Shared}
theorem enum_begins1 {v : Value} {o : Obj} {H : Heap → Prop} {Q : Value → Shared → Prop} (B : Begins v o H) (h1 : H s.heap)
    (h : ∀ h', IsEnum h' (s.heap.objs.size + 1) s.heap.objs.size 0 .none → h'.get? s.heap.objs.size = some o → h'.objs.size = s.heap.objs.size + 2 →
      (∀ b o, s.heap.get? b = some o → h'.get? b = some o) → Q (.ref (s.heap.objs.size + 1)) { s with heap := h' }) :
    wpAny (model prog w) A (call (.type "enumerate") [v]) Q E s := by
  refine callType_new F.called_enumerate (by decide) (F.typeCall_enumerate_1 _) (F.newCall_enumerate_1 _) (fun obj => F.args_object_init_2 obj _) F.entry_enumerate_new
    (meets_enumerate_new1 B) ⟨h1, ?_⟩
  have hz : (s.heap.push o).objs.size = s.heap.objs.size + 1 := Heap.size_push ..
  show _ ∧ _
  rw [hz]
  have he : IsEnum ((s.heap.push o).push { cls := .type "enumerate", data := .fields #[.none, .bool false, .ref s.heap.objs.size, rawInt 0, .none, .none] }) (s.heap.objs.size + 1) s.heap.objs.size 0 .none := by
    have := Heap.get?_push_size (s.heap.push o) (o := { cls := .type "enumerate", data := .fields #[.none, .bool false, .ref s.heap.objs.size, rawInt 0, .none, .none] }) rfl
    rw [hz] at this; exact this
  refine ⟨⟨_, he, rfl⟩, h _ he (Heap.get?_push_of_some _ (Heap.get?_push_size _ B.free)) (by rw [Heap.size_push, hz]) fun b o x => Heap.get?_push_of_some _ (Heap.get?_push_of_some _ x)⟩
end
end PySem
namespace L2
open PySem PySem.Spec PyProof.Rows
def IteT (K : PySem.W.Frag) (a : Addr) : It :=
  ⟨fun i H => ∃ (xs : List V) (x : V), SqT K H a xs ∧ xs[i]? = some x, fun i H v H' => ∃ T x, v = .ref T ∧ H T = none ∧ H' = upd H T (.tup [.int (i : Nat), x]) ∧ ∀ xs, SqT K H a xs → xs[i]? = some x, fun i H => ∃ xs : List V, SqT K H a xs ∧ xs.length = i⟩
theorem turn_enumT {P : Program} {w : World} {K : PySem.W.Frag} {elts : List Expr} {kk : Nat} {tpos : Pos} (a e it : Addr) :
    Turn P w K (.Tuple elts kk tpos) (IteT K a) [e, it] e (fun i h => (∃ old, IsEnum h e it ((i : Nat) : Int) old) ∧ h.IsTupleIter it a i ∧ e ≠ it) where
  mem := by simp
  obj := fun i h st b hb => by
    obtain ⟨⟨old, he⟩, ⟨o, ho, hc, hd⟩, _⟩ := st
    have e' : b = e ∨ b = it := by simpa using hb
    rcases e' with z | z
    · rw [z]; exact ⟨_, he, fun v q => nomatch q⟩
    · rw [z]; exact ⟨o, ho, fun v q => by rw [hd] at q; cases q⟩
  keep := fun i h h' st k => let ⟨⟨old, he⟩, hi, hne⟩ := st; ⟨⟨old, k e (by simp) _ he⟩, hi.at fun o q => k it (by simp) o q, hne⟩
  item := by
    intro X hP hw hK hc i pins s σ H E I hf st hg
    subst hP hw hK
    obtain ⟨⟨old, he⟩, hit, hne⟩ := st
    obtain ⟨xs, x, hq, hx⟩ := hg
    obtain ⟨its, rv, p, hz⟩ := I.tuple hq
    obtain ⟨u, hu, ru⟩ := rv.get hx
    have hel : e < s.heap.objs.size := Heap.lt_size he
    have hil : it < s.heap.objs.size := by obtain ⟨_, q, _⟩ := hit; exact Heap.lt_size q
    have hai : a ≠ it := fun z => by
      subst z
      obtain ⟨o1, f1, f2, _⟩ := hit
      obtain ⟨o2, g1, g2, _⟩ := p
      rw [f1] at g1; cases g1
      exact absurd (f2.symm.trans g2) (by decide)
    have D := Draws.tuple (prog := X.prog) (w := X.w) (A := X.A.in1) (I.ok.hd hc) it a hai its.toArray
    have hae : e ∉ [it, a] := fun z => by
      rcases List.mem_cons.mp z with z | z
      · exact hne z
      · have : e = a := by simpa using z
        subst this
        obtain ⟨o2, g1, g2, _⟩ := p
        rw [he] at g1; cases g1
        exact absurd (show Value.type "enumerate" = Value.type "tuple" from g2) (by decide)
    have hlt : i < its.toArray.size := by
      have := (List.getElem?_eq_some_iff.mp hu).1
      simpa using this
    refine wpAny_pyNext_enum_itemD D he ⟨hit, p⟩ hlt hne hae fun x' h' tk hx' ho hst' hT hsz hk => ?_
    have ex : x' = u := by
      have e1 : its.toArray[i]? = some x' := hx'
      have e2 : its.toArray[i]? = some u := by simpa using hu
      rw [e2] at e1; exact (Option.some.inj e1).symm
    subst ex
    refine ⟨_, rfl, wpAny_letOwnedTupleGo_enum (s := { s with heap := h', toks := tk + 1 }) ho fun h'' he' sb => ?_⟩
    have hT2 : h''.get? s.heap.objs.size = some { cls := .type "tuple", data := .seq #[.int i tk, x'] } := (sb.2 _ (Nat.ne_of_gt hel)).trans hT
    have new : ObjOk X.prog X.w (upd H s.heap.objs.size (.tup [.int (i : Nat), x])) h'' s.heap.objs.size (.tup [.int (i : Nat), x]) :=
      ⟨by show 2 ≤ sizeLine; decide, [.int i tk, x'], .cons ⟨_, rfl⟩ (.cons ru .nil), ⟨_, hT2, rfl, _, rfl⟩⟩
    have I1 : Inv X pins σ (upd H s.heap.objs.size (.tup [.int (i : Nat), x])) { s with heap := h'', toks := tk + 1 } :=
      I.turnedNew (ch := [e, it]) (fun b ob hb q => (sb.2 b (fun z => hb (by simp [z]))).trans (hk b ob (fun z => hb (by simp [z])) (fun z => hb (by simp [z])) q)) hf (Nat.le_refl _) new
    refine ⟨.ref s.heap.objs.size, _, I1, rfl, ⟨_, x, rfl, I.hok.fresh (Nat.le_refl _), rfl, fun ys hy => by rw [I.tuple_inj hy hq]; exact hx⟩, ⟨⟨x', ?_⟩, hst'.1.at fun o q => (sb.2 it (Ne.symm hne)).trans q, hne⟩, fun b hb => ?_⟩
    · have e1 : ((i + 1 : Nat) : Int) = (i : Int) + 1 := by omega
      rw [e1]; exact he'
    · have hb' : b < s.heap.objs.size := by
        have e' : b = e ∨ b = it := by simpa using hb
        rcases e' with z | z
        · rw [z]; exact hel
        · rw [z]; exact hil
      rw [upd_ne (Nat.ne_of_lt hb')]
      exact (hf b hb).1
  done := by
    intro X hP hw hK hc i pins s σ H E I hf st hg
    subst hP hw hK
    obtain ⟨⟨old, he⟩, hit, hne⟩ := st
    obtain ⟨xs, hq, hx⟩ := hg
    obtain ⟨its, rv, p, hz⟩ := I.tuple hq
    obtain ⟨f0, f1, f2, f3, f4, f5⟩ := hf it (by simp)
    have hl := rv.length
    have hai : a ≠ it := fun z => by
      subst z
      obtain ⟨o1, f1, f2, _⟩ := hit
      obtain ⟨o2, g1, g2, _⟩ := p
      rw [f1] at g1; cases g1
      exact absurd (f2.symm.trans g2) (by decide)
    have D := Draws.tuple (prog := X.prog) (w := X.w) (A := X.A.in1) (I.ok.hd hc) it a hai its.toArray
    have hn : i = its.toArray.size := by simp; omega
    subst hn
    exact wpAny_pyNext_enum_endD D he ⟨hit, p⟩ fun h' eb => ⟨rfl, I.turned (t' := s.toks) (fun b o hb q => eb b o hb q) f0 f1 f3 f4 f5⟩
  self := fun A i s Q E st h => let ⟨⟨_, he⟩, _⟩ := st; wpAny_pyIter_enum he h
theorem walk_enumT {K : PySem.W.Frag} {a : Addr} {xs : List V} : Walk (IteT K a) xs.length (fun H => SqT K H a xs) (YPair (fun i => some (.int (i : Nat))) (fun i => xs[i]?)) :=
  ⟨fun i H hi h => ⟨xs, xs[i], h, by simp [hi]⟩, fun H h => ⟨xs, h, rfl⟩, fun i H x H' hi h ⟨T, x, e1, e2, e3, e4⟩ => ⟨T, _, x, e1, e2, e3, rfl, e4 xs h⟩⟩
def iEnumT (K : PySem.W.Frag) (ta : TA) : TI := fun σ H R => ta σ H fun vs H1 => ∃ a xs, vs = [.ref a] ∧ ((SqL K H1 a xs ∧ R (Ite K a) H1) ∨ (SqT K H1 a xs ∧ R (IteT K a) H1))
theorem pi_enumT {X : Cx} {e : Expr} {ta : TA} {p pos tpos : Pos} {elts : List Expr} {kk : Nat} (hg : Gl X "enumerate") (hm : X.mg "enumerate" = none) (ha : PA X [e] ta) (hs : starEach [e] X.env = [(false, eval e X.env)] := by rfl) :
    PI X (.Tuple elts kk tpos) (.Call (.Name "enumerate" p) [e] [] pos) (iEnumT X.K ta) := by
  refine ⟨fun pins s σ H R I h => ?_⟩
  refine Call_ (ld_blt I hg hm boot_enumerate (PyProof.Rows.callWith_type1 (thn (ha.run pos pins s σ H _ I h) fun us s1 ⟨vs, H1, I1, r1, q1⟩ => ?_) hs rfl))
  obtain ⟨a, xs, ex, q1⟩ := q1
  subst ex
  cases r1 with
  | cons r rr =>
    cases rr
    cases r
    have fp : ∀ b ∈ [s1.heap.objs.size + 1, s1.heap.objs.size], FpOk X pins H1 b := fun b hb => by
      have e' : b = s1.heap.objs.size + 1 ∨ b = s1.heap.objs.size := by simpa using hb
      have hle : s1.heap.objs.size ≤ b := by
        rcases e' with z | z
        · rw [z]; exact Nat.le_add_right _ _
        · rw [z]; exact Nat.le_refl _
      exact I1.fpOk hle (I1.hok.fresh hle)
    rcases q1 with ⟨hq, q⟩ | ⟨hq, q⟩
    · obtain ⟨its, rv, p', hz⟩ := I1.list hq
      refine call_enumerate_list p'.isList fun h' he hit hsz hk => wpAny_pyIter_enum he ?_
      have I2 : Inv X pins σ H1 { s1 with heap := h' } := I1.kept (t' := s1.toks) hk
      exact ⟨s1.heap.objs.size + 1, [s1.heap.objs.size + 1, s1.heap.objs.size], _, _, H1, rfl, I2, turn_enum a (s1.heap.objs.size + 1) s1.heap.objs.size, ⟨⟨.none, he⟩, hit, Nat.succ_ne_self _⟩, fp, q⟩
    · obtain ⟨its, rv, p', hz⟩ := I1.tuple hq
      refine enum_begins1 (begins_tuple a its.toArray) p' fun h' he hit hsz hk => wpAny_pyIter_enum he ?_
      have I2 : Inv X pins σ H1 { s1 with heap := h' } := I1.kept (t' := s1.toks) hk
      exact ⟨s1.heap.objs.size + 1, [s1.heap.objs.size + 1, s1.heap.objs.size], _, _, H1, rfl, I2, turn_enumT a (s1.heap.objs.size + 1) s1.heap.objs.size, ⟨⟨.none, he⟩, ⟨_, hit, rfl, rfl⟩, Nat.succ_ne_self _⟩, fp, q⟩
end L2

set_option Elab.async false
set_option linter.all false
set_option maxRecDepth 100000
set_option maxHeartbeats 4000000
set_option autoImplicit false
/-! DW8: loops. -/
namespace DW
open PySem L2

abbrev DI := DEnv → Sto → (List DV → Sto → Prop) → DX → Prop
/-- J yields just xs, on top of B -/
def ItOk (K : PySem.W.Frag) (J : It) (B : Hp) (α : List Addr) (xs : List DV) : Prop :=
  ∃ (G : Hp → Prop) (Y : Nat → Hp → V → Hp → Prop), Walk J xs.length G Y ∧ (∀ H', Same B H' → G H') ∧
    ∀ (i : Nat) (x : DV) (v : V) (H' H'' B' : Hp) (α' : List Addr) (S' : Sto), xs[i]? = some x → Wd K B' α' S' H' → Same B B' → (∃ t, α' = α ++ t) → Y i H' v H'' → ∃ B'', Stp K B' α' H' B'' α' S' H'' ∧ VR K B'' α' v x
def iT (K : PySem.W.Frag) (ga : Str → Addr) (E : WX) (w : DI) : TI := fun σ H R => ∃ env S B α, RelE K B α env σ ∧ Wd K B α S H ∧ w env S (fun xs S' => ∀ J H' B' α', Stp K B α H B' α' S' H' → ItOk K J B' α' xs → R J H') (kxT K ga B α H (WE E σ))
structure PXI (ga : Str → Addr) (X : Cx) (E : WX) (tg iter : Expr) (w : DI) : Prop where
  mono : MonoA w
  run : PI X tg iter (iT X.K ga E w)
def notP : DV → Prop
  | .p _ => False
  | _ => True
def seqI (we : DE) : DI := fun env S k kx => we env S (fun x S1 => notP x ∧ ∃ c ds, seqD x S1 = some (c, ds) ∧ k (ds.map .d) S1) kx
def rng1I (we : DE) : DI := fun env S k kx => we env S (fun x S1 => ∃ n, x = .d (.int n) ∧ -100000 ≤ n ∧ n ≤ 100000 ∧ k ((rgD 0 n).map .d) S1) kx
def rng2I (wa wb : DE) : DI := fun env S k kx => wa env S (fun x S1 => wb env S1 (fun y S2 => ∃ m n, x = .d (.int m) ∧ y = .d (.int n) ∧ -100000 ≤ m ∧ m ≤ 100000 ∧ -100000 ≤ n ∧ n ≤ 100000 ∧ k ((rgD m n).map .d) S2) kx) kx
def enD : Nat → List PyData → List DV
  | _, [] => []
  | i, d :: ds => .d (.tuple [.int (i : Nat), d]) :: enD (i + 1) ds
def enumI (we : DE) : DI := fun env S k kx => we env S (fun x S1 => notP x ∧ ∃ c ds, seqD x S1 = some (c, ds) ∧ k (enD 0 ds) S1) kx
def zipD : List PyData → List PyData → List DV
  | d :: ds, e :: es => .d (.tuple [d, e]) :: zipD ds es
  | _, _ => []
def zipI (wa wb : DE) : DI := fun env S k kx => wa env S (fun x S1 => wb env S1 (fun y S2 => notP x ∧ notP y ∧ ∃ c ds es, seqD x S1 = some (c, ds) ∧ seqD y S2 = some (c, es) ∧ k (zipD ds es) S2) kx) kx
section
variable {K : PySem.W.Frag} {B B' : Hp} {α α' : List Addr} {S S' : Sto} {H H' : Hp} {v : V} {x : DV}
/-- as seq_ok, for good -/
theorem seq_B {k : Bool} {ds : List PyData} (w : Wd K B α S H) (r : VR K B α v x) (hx : notP x) (e : seqD x S = some (k, ds)) : ∃ a vs, v = .ref a ∧ (if k = true then SqL K B a vs else SqT K B a vs) ∧ DqAll K B vs ds := by
  cases x with
  | p n => exact hx.elim
  | d y =>
    cases y with
    | list xs =>
      cases r with
      | lst h q =>
        simp only [seqD, Option.some.injEq, Prod.mk.injEq] at e
        obtain ⟨rfl, rfl⟩ := e
        exact ⟨_, _, rfl, SqL.of h, q⟩
    | tuple xs =>
      cases r with
      | tup h q =>
        simp only [seqD, Option.some.injEq, Prod.mk.injEq] at e
        obtain ⟨rfl, rfl⟩ := e
        exact ⟨_, _, rfl, h, q⟩
    | _ => simp [seqD] at e
  | s ns =>
    obtain ⟨a, rfl, h⟩ := r
    simp only [seqD, Option.some.injEq, Prod.mk.injEq] at e
    obtain ⟨rfl, rfl⟩ := e
    exact ⟨a, _, rfl, h, dq_ints ns⟩
theorem it_list {a : Addr} {vs : List V} {ds : List PyData} (h : SqL K B a vs) (r : DqAll K B vs ds) : ItOk K (Itl K a) B α (ds.map .d) := by
  refine ⟨fun H => SqL K H a vs, YAt vs, by rw [List.length_map, ← r.len]; exact walk_list, fun H' s => same_l s h, fun i x v H' H'' B' α' S' e w s _ y => ?_⟩
  obtain ⟨rfl, hv⟩ := y
  rw [List.getElem?_map] at e
  cases q : ds[i]? with
  | none => rw [q] at e; cases e
  | some d =>
    rw [q] at e; cases e
    obtain ⟨v', h1, h2⟩ := r.get q
    rw [hv] at h1; cases h1
    exact ⟨B', Stp.refl w, Dq.same s h2⟩
theorem it_tup {a : Addr} {vs : List V} {ds : List PyData} (h : SqT K B a vs) (r : DqAll K B vs ds) : ItOk K (Itt K a) B α (ds.map .d) := by
  refine ⟨fun H => SqT K H a vs, YAt vs, by rw [List.length_map, ← r.len]; exact walk_tup, fun H' s => same_t s h, fun i x v H' H'' B' α' S' e w s _ y => ?_⟩
  obtain ⟨rfl, hv⟩ := y
  rw [List.getElem?_map] at e
  cases q : ds[i]? with
  | none => rw [q] at e; cases e
  | some d =>
    rw [q] at e; cases e
    obtain ⟨v', h1, h2⟩ := r.get q
    rw [hv] at h1; cases h1
    exact ⟨B', Stp.refl w, Dq.same s h2⟩
theorem it_range {lo hi : Int} : ItOk K (Itr lo (hi - lo).toNat) B α ((rgD lo hi).map .d) := by
  refine ⟨fun _ => True, YFn fun i => .int (lo + i), by simpa [rgD] using walk_range, fun _ _ => trivial, fun i x v H' H'' B' α' S' e w s _ y => ?_⟩
  obtain ⟨rfl, rfl⟩ := y
  have hi' := (List.getElem?_eq_some_iff.mp e).1
  simp [rgD] at hi'
  have : ((rgD lo hi).map DV.d)[i]? = some (.d (.int (lo + (i : Nat)))) := by simp [rgD, hi']
  rw [this] at e; cases e
  exact ⟨B', Stp.refl w, .int _⟩
theorem enD_get : ∀ (ds : List PyData) (k i : Nat) (x : DV), (enD k ds)[i]? = some x → ∃ d, ds[i]? = some d ∧ x = .d (.tuple [.int ((k + i : Nat) : Int), d])
  | [], _, _, _, e => by simp [enD] at e
  | d :: ds, k, 0, x, e => by simp [enD] at e; exact ⟨d, rfl, e.symm⟩
  | d :: ds, k, i + 1, x, e => by
    obtain ⟨d', h1, h2⟩ := enD_get ds (k + 1) i x (by simpa [enD] using e)
    exact ⟨d', by simpa using h1, by rw [h2]; congr 4; omega⟩
theorem enD_len : ∀ (ds : List PyData) (k : Nat), (enD k ds).length = ds.length
  | [], _ => rfl
  | d :: ds, k => by simp [enD, enD_len ds (k + 1)]
theorem it_pair {J : It} {G : Hp → Prop} {n : Nat} {f g : Nat → Option V} {xs : List DV} (hw : Walk J n G (YPair f g)) (hn : xs.length = n) (hG : ∀ H', Same B H' → G H')
    (h : ∀ (i : Nat) (x : DV), xs[i]? = some x → ∃ v u d e, f i = some v ∧ g i = some u ∧ x = .d (.tuple [d, e]) ∧ Dq K B v d ∧ Dq K B u e) : ItOk K J B α xs := by
  subst hn
  refine ⟨G, _, hw, hG, fun i x v H' H'' B' α' S' e w s _ y => ?_⟩
  obtain ⟨T, v1, v2, rfl, hT, rfl, h1, h2⟩ := y
  obtain ⟨w1, w2, d, e', f1, f2, rfl, q1, q2⟩ := h i x e
  rw [h1] at f1; cases f1
  rw [h2] at f2; cases f2
  refine ⟨upd B' T (.tup [v1, v2]), w.fresh hT, .tup (SqT.of upd_same) ?_⟩
  have sm := Same.upd_none (o := .tup [v1, v2]) (w.ex.free hT)
  exact .cons (Dq.same sm (Dq.same s q1)) (.cons (Dq.same sm (Dq.same s q2)) .nil)
theorem it_enumL {a : Addr} {vs : List V} {ds : List PyData} (h : SqL K B a vs) (r : DqAll K B vs ds) : ItOk K (Ite K a) B α (enD 0 ds) :=
  it_pair walk_enum (by rw [enD_len, r.len]) (fun H' s => same_l s h) fun i x e => by
    obtain ⟨d, h1, rfl⟩ := enD_get ds 0 i x e
    obtain ⟨v, h2, h3⟩ := r.get h1
    exact ⟨_, v, _, d, rfl, h2, rfl, by rw [Nat.zero_add]; exact .int _, h3⟩
theorem it_enumT {a : Addr} {vs : List V} {ds : List PyData} (h : SqT K B a vs) (r : DqAll K B vs ds) : ItOk K (IteT K a) B α (enD 0 ds) :=
  it_pair walk_enumT (by rw [enD_len, r.len]) (fun H' s => same_t s h) fun i x e => by
    obtain ⟨d, h1, rfl⟩ := enD_get ds 0 i x e
    obtain ⟨v, h2, h3⟩ := r.get h1
    exact ⟨_, v, _, d, rfl, h2, rfl, by rw [Nat.zero_add]; exact .int _, h3⟩
theorem zipD_len : ∀ (ds es : List PyData), (zipD ds es).length = min ds.length es.length
  | [], _ => by simp [zipD]
  | _ :: _, [] => by simp [zipD]
  | d :: ds, e :: es => by simp [zipD, zipD_len ds es]
theorem zipD_get : ∀ (ds es : List PyData) (i : Nat) (x : DV), (zipD ds es)[i]? = some x → ∃ d e, ds[i]? = some d ∧ es[i]? = some e ∧ x = .d (.tuple [d, e])
  | [], _, _, _, e => by simp [zipD] at e
  | _ :: _, [], _, _, e => by simp [zipD] at e
  | d :: ds, e :: es, 0, x, q => by simp [zipD] at q; exact ⟨d, e, rfl, rfl, q.symm⟩
  | d :: ds, e :: es, i + 1, x, q => by simpa using zipD_get ds es i x (by simpa [zipD] using q)
theorem walk_zipT {a b : Addr} {xs ys : List V} {n : Nat} (hn : n = min xs.length ys.length) : Walk (RZ.ItzT K a b) n (fun H => SqT K H a xs ∧ SqT K H b ys) (YPair (fun i => xs[i]?) (fun i => ys[i]?)) :=
  ⟨fun i H hi h => ⟨xs, ys, xs[i]'(by omega), ys[i]'(by omega), h.1, h.2, by simp, by simp⟩, fun H h => ⟨xs, ys, h.1, h.2, by omega⟩, fun i H x H' hi h ⟨T, x1, y1, e1, e2, e3, e4, e5⟩ => ⟨T, x1, y1, e1, e2, e3, e4 xs h.1, e5 ys h.2⟩⟩
theorem it_zipT {a b : Addr} {vs us : List V} {ds es : List PyData} (h : SqT K B a vs) (h' : SqT K B b us) (r : DqAll K B vs ds) (r' : DqAll K B us es) : ItOk K (RZ.ItzT K a b) B α (zipD ds es) :=
  it_pair (walk_zipT rfl) (by rw [zipD_len, r.len, r'.len]) (fun H' s => ⟨same_t s h, same_t s h'⟩) fun i x e => by
    obtain ⟨d, e', h1, h2, rfl⟩ := zipD_get ds es i x e
    obtain ⟨v, f1, f2⟩ := r.get h1
    obtain ⟨u, g1, g2⟩ := r'.get h2
    exact ⟨v, u, d, e', f1, g1, rfl, f2, g2⟩
theorem it_zipL {a b : Addr} {vs us : List V} {ds es : List PyData} (h : SqL K B a vs) (h' : SqL K B b us) (r : DqAll K B vs ds) (r' : DqAll K B us es) : ItOk K (Itz K a b) B α (zipD ds es) :=
  it_pair (walk_zip rfl) (by rw [zipD_len, r.len, r'.len]) (fun H' s => ⟨same_l s h, same_l s h'⟩) fun i x e => by
    obtain ⟨d, e', h1, h2, rfl⟩ := zipD_get ds es i x e
    obtain ⟨v, f1, f2⟩ := r.get h1
    obtain ⟨u, g1, g2⟩ := r'.get h2
    exact ⟨v, u, d, e', f1, g1, rfl, f2, g2⟩
end
/-- a list or a tuple that is walked -/
theorem pxi_zip0 : True := trivial
def iSeq (K : PySem.W.Frag) (tl : TE) : TI := fun σ H R => tl σ H fun x H1 => ∃ a, x = .ref a ∧ ((∃ xs, SqL K H1 a xs) ∧ R (Itl K a) H1 ∨ (∃ xs, SqT K H1 a xs) ∧ R (Itt K a) H1)
theorem pi_seq {X : Cx} {tg l : Expr} {tl : TE} (hl : PE X l tl) : PI X tg l (iSeq X.K tl) := by
  refine ⟨fun pins s σ H R I h => ?_⟩
  refine thn (hl.run pins s σ H _ I h) fun v s1 ⟨x, H1, I1, r1, q1⟩ => ?_
  obtain ⟨a, e, q⟩ := q1
  subst e
  cases r1
  have fp : ∀ b ∈ [s1.heap.objs.size], FpOk X pins H1 b := fun b hb => by
    have e : b = s1.heap.objs.size := by simpa using hb
    subst e
    exact I1.fpOk (Nat.le_refl _) (I1.hok.fresh (Nat.le_refl _))
  rcases q with ⟨⟨xs, hq⟩, q⟩ | ⟨⟨xs, hq⟩, q⟩
  · obtain ⟨its, rv, p, hz⟩ := I1.list hq
    refine wpAny_pyIter_list p.isList ?_
    exact ⟨s1.heap.objs.size, [s1.heap.objs.size], _, _, H1, rfl, I1.kept (t' := s1.toks) fun b o e => Heap.get?_push_of_some _ e, turn_list a _, ⟨_, Heap.get?_push_size _ rfl, rfl, rfl⟩, fp, q⟩
  · obtain ⟨its, rv, p, hz⟩ := I1.tuple hq
    refine wpAny_pyIter_tuple (show s1.heap.IsTuple a its.toArray from p) ?_
    exact ⟨s1.heap.objs.size, [s1.heap.objs.size], _, _, H1, rfl, I1.kept (t' := s1.toks) fun b o e => Heap.get?_push_of_some _ e, turn_tuple a _, ⟨_, Heap.get?_push_size _ rfl, rfl, rfl⟩, fp, q⟩

section
variable {ga : Str → Addr} {X : Cx} {E : WX} {a b e o : Expr} {es elts : List Expr} {wa wb we : DE} {wA : DA} {pos apos p2 p p' tpos : Pos} {tg : Expr} {kk k : Nat}
theorem pxi_seq (he : PX ga X E e we) : PXI ga X E tg e (seqI we) := by
  refine ⟨fun env S k k' x x' hk hx h => he.mono env S _ _ _ _ (fun y S1 ⟨n, c, ds, e, h1⟩ => ⟨n, c, ds, e, hk _ _ h1⟩) hx h, ⟨fun pins s σ H R I h => (pi_seq he.run).run pins s σ H R I ?_⟩⟩
  obtain ⟨env, S, B, α, re, w, h⟩ := h
  refine ⟨env, S, B, α, re, w, he.mono env S _ _ _ _ (fun y S1 ⟨n, c, ds, e, h1⟩ v1 H1 B1 α1 s1 r1 => ?_) (fun _ _ z => z) h⟩
  obtain ⟨a, vs, rfl, h2, h3⟩ := seq_B s1.wd r1 n e
  refine ⟨a, rfl, ?_⟩
  cases c with
  | true => exact .inl ⟨⟨vs, same_l s1.wd.ex h2⟩, h1 _ _ _ _ s1 (it_list h2 h3)⟩
  | false => exact .inr ⟨⟨vs, same_t s1.wd.ex h2⟩, h1 _ _ _ _ s1 (it_tup h2 h3)⟩
theorem pxi_rng1 (gl : Gl X "range") (hm : X.mg "range" = none) (he : PX ga X E e we) (hs : starEach [e] X.env = [(false, eval e X.env)] := by rfl) : PXI ga X E tg (.Call (.Name "range" p) [e] [] pos) (rng1I we) := by
  refine ⟨fun env S k k' x x' hk hx h => he.mono env S _ _ _ _ (fun y S1 ⟨n, e, e1, e2, h1⟩ => ⟨n, e, e1, e2, hk _ _ h1⟩) hx h, ⟨fun pins s σ H R I h => (pi_range1 gl hm (pa_cons he.run pa_nil hs) hs).run pins s σ H R I ?_⟩⟩
  obtain ⟨env, S, B, α, re, w, h⟩ := h
  refine ⟨env, S, B, α, re, w, he.mono env S _ _ _ _ (fun y S1 ⟨n, e, e1, e2, h1⟩ v1 H1 B1 α1 s1 r1 => ?_) (fun _ _ z => z) h⟩
  subst e
  cases r1
  refine ⟨n, rfl, by omega, by omega, ?_⟩
  have := it_range (K := X.K) (B := B1) (α := α1) (lo := 0) (hi := n)
  rw [Int.sub_zero] at this
  exact h1 _ _ _ _ s1 this
theorem pxi_rng2 (gl : Gl X "range") (hm : X.mg "range" = none) (ha : PX ga X E a wa) (hb : PX ga X E b wb) (hs : starEach [a, b] X.env = [(false, eval a X.env), (false, eval b X.env)] := by rfl) (hs2 : starEach [b] X.env = [(false, eval b X.env)] := by rfl) :
    PXI ga X E tg (.Call (.Name "range" p) [a, b] [] pos) (rng2I wa wb) := by
  refine ⟨fun env S k k' x x' hk hx h => ha.mono env S _ _ _ _ (fun y S1 h1 => hb.mono env S1 _ _ _ _ (fun z S2 ⟨m, n, e1, e2, f1, f2, f3, f4, h2⟩ => ⟨m, n, e1, e2, f1, f2, f3, f4, hk _ _ h2⟩) hx h1) hx h,
    ⟨fun pins s σ H R I h => (pi_range2 gl hm (pa_cons ha.run (pa_cons hb.run pa_nil (by rw [hs2]; rfl)) (by rw [hs, hs2])) hs hs2).run pins s σ H R I ?_⟩⟩
  obtain ⟨env, S, B, α, re, w, h⟩ := h
  refine ⟨env, S, B, α, re, w, ha.mono env S _ _ _ _ (fun y S1 h1 v1 H1 B1 α1 s1 r1 => ?_) (fun _ _ z => z) h⟩
  refine ⟨env, S1, B1, α1, re.mono s1.bb s1.pre, s1.wd, hb.mono env S1 _ _ _ _ (fun z S2 ⟨m, n, e1, e2, f1, f2, f3, f4, h2⟩ v2 H2 B2 α2 s2 r2 => ?_) (fun _ _ z => kxT.after s1 z) h1⟩
  subst e1; subst e2
  cases r1; cases r2
  exact ⟨m, n, rfl, ⟨by omega, by omega, by omega, by omega⟩, h2 _ _ _ _ (s1.trans s2) it_range⟩
theorem pxi_enum (gl : Gl X "enumerate") (hm : X.mg "enumerate" = none) (he : PX ga X E e we) (hs : starEach [e] X.env = [(false, eval e X.env)] := by rfl) : PXI ga X E (.Tuple elts kk tpos) (.Call (.Name "enumerate" p) [e] [] pos) (enumI we) := by
  refine ⟨fun env S k k' x x' hk hx h => he.mono env S _ _ _ _ (fun y S1 ⟨n, c, ds, e, h1⟩ => ⟨n, c, ds, e, hk _ _ h1⟩) hx h, ⟨fun pins s σ H R I h => (pi_enumT gl hm (pa_cons he.run pa_nil hs) hs).run pins s σ H R I ?_⟩⟩
  obtain ⟨env, S, B, α, re, w, h⟩ := h
  refine ⟨env, S, B, α, re, w, he.mono env S _ _ _ _ (fun y S1 ⟨n, c, ds, e, h1⟩ v1 H1 B1 α1 s1 r1 => ?_) (fun _ _ z => z) h⟩
  obtain ⟨a, vs, rfl, h2, h3⟩ := seq_B s1.wd r1 n e
  refine ⟨a, vs, rfl, ?_⟩
  cases c with
  | true => exact .inl ⟨same_l s1.wd.ex h2, h1 _ _ _ _ s1 (it_enumL h2 h3)⟩
  | false => exact .inr ⟨same_t s1.wd.ex h2, h1 _ _ _ _ s1 (it_enumT h2 h3)⟩
theorem pxi_zip (hc : X.calm = true) (gl : Gl X "zip") (hm : X.mg "zip" = none) (ha : PX ga X E a wa) (hb : PX ga X E b wb) (hs : starEach [a, b] X.env = (false, eval a X.env) :: starEach [b] X.env := by rfl) (hs2 : starEach [b] X.env = (false, eval b X.env) :: starEach [] X.env := by rfl) (hpl : (backTo pos (starEach [b] X.env)).any (·.1) = false := by rfl) :
    PXI ga X E (.Tuple elts kk tpos) (.Call (.Name "zip" p) [a, b] [] pos) (zipI wa wb) := by
  refine ⟨fun env S k k' x x' hk hx h => ha.mono env S _ _ _ _ (fun y S1 h1 => hb.mono env S1 _ _ _ _ (fun z S2 ⟨m, n, c, ds, es, e1, e2, h2⟩ => ⟨m, n, c, ds, es, e1, e2, hk _ _ h2⟩) hx h1) hx h,
    ⟨fun pins s σ H R I h => (RZ.pi_zipA gl hm (pa_cons ha.run (pa_cons hb.run pa_nil hs2) hs) hs hpl).run pins s σ H R I ?_⟩⟩
  obtain ⟨env, S, B, α, re, w, h⟩ := h
  refine ⟨env, S, B, α, re, w, ha.mono env S _ _ _ _ (fun y S1 h1 v1 H1 B1 α1 s1 r1 => ?_) (fun _ _ z => z) h⟩
  refine ⟨env, S1, B1, α1, re.mono s1.bb s1.pre, s1.wd, hb.mono env S1 _ _ _ _ (fun z S2 ⟨m, n, c, ds, es, e1, e2, h2⟩ v2 H2 B2 α2 s2 r2 => ?_) (fun _ _ z => kxT.after s1 z) h1⟩
  obtain ⟨a1, vs, rfl, f1, f2⟩ := seq_B s1.wd r1 m e1
  obtain ⟨a2, us, rfl, g1, g2⟩ := seq_B s2.wd r2 n e2
  refine ⟨a1, a2, vs, us, rfl, ?_⟩
  cases c with
  | true => exact .inl ⟨same_l s2.wd.ex (same_l s2.bb f1), same_l s2.wd.ex g1, h2 _ _ _ _ (s1.trans s2) (it_zipL (same_l s2.bb f1) g1 (f2.same s2.bb) g2)⟩
  | false => exact .inr ⟨same_t s2.wd.ex (same_t s2.bb f1), same_t s2.wd.ex g1, h2 _ _ _ _ (s1.trans s2) (it_zipT (same_t s2.bb f1) g1 (f2.same s2.bb) g2)⟩
end

/-! ### for -/
def loopL (g : DG) (body : DS) : List DV → DEnv → Sto → DEnds → Prop
  | [], env, S, D => D.nx env S
  | x :: r, env, S, D => g x env S fun env1 S1 => body env1 S1 { D with nx := fun e s => loopL g body r e s D, ct := fun e s => loopL g body r e s D, bk := D.nx }
def forS (wi : DI) (g : DG) (body : DS) : DS := fun env S D => wi env S (fun xs S1 => loopL g body xs env S1 D) (D.ex env)
theorem mono_loop {g : DG} {body : DS} (mg : MonoG g) (mb : MonoS body) : ∀ (xs : List DV) env S D D', DEnds.le D D' → loopL g body xs env S D → loopL g body xs env S D'
  | [], _, _, _, _, h, q => h.nx _ _ q
  | x :: r, env, S, D, D', h, q => mg _ _ _ _ _ (fun e s z => mb _ _ { D with nx := fun e s => loopL g body r e s D, ct := fun e s => loopL g body r e s D, bk := D.nx } { D' with nx := fun e s => loopL g body r e s D', ct := fun e s => loopL g body r e s D', bk := D'.nx } ⟨fun e s z => mono_loop mg mb r e s D D' h z, h.rt, h.nx, fun e s z => mono_loop mg mb r e s D D' h z, h.ex⟩ z) q
section
variable {ga : Str → Addr} {X : Cx} {E : WX} {tg iter : Expr} {body : List Stmt} {wi : DI} {g : DG} {ws : DS} {pos : Pos} {k : Nat}
theorem pxs_for (c : Ctx X E k) (hi : PXI ga X E tg iter wi) (hg : PXG ga X E tg g) (hb : PXB ga X E body ws) (hs : ∀ x, foldedSetIterable iter X.env x = pure x := by intro _; rfl) : PXS ga X E (.For tg iter body [] pos) (forS wi g ws) := by
  have mono : MonoS (forS wi g ws) := fun env S D D' h q => hi.mono env S _ _ _ _ (fun xs S1 z => mono_loop hg.mono hb.mono xs env S1 D D' h z) (h.ex env) q
  obtain ⟨mg, t, rt, qt⟩ := hg
  refine ⟨mono, ⟨fun pins s σ H D I h => (ps_for c.po c.calm hi.run rt hb.run hs).run pins s σ H D I ?_⟩⟩
  obtain ⟨env, S, B, α, re, w, h⟩ := h
  refine ⟨env, S, B, α, re, w, hi.mono env S _ _ _ _ (fun xs S1 z J H1 B1 α1 s1 ok => ?_) (fun _ _ z => kxS.at_ re z) h⟩
  obtain ⟨G, Y, wk, hG, hY⟩ := ok
  refine for_it wk (fun i σ' H' => ∃ env' S' B' α', i ≤ xs.length ∧ RelE X.K B' α' env' σ' ∧ Stp X.K B1 α1 H1 B' α' S' H' ∧ loopL g ws (xs.drop i) env' S' (dT X.K ga B α H E D)) ⟨env, S1, B1, α1, Nat.zero_le _, re.mono s1.bb s1.pre, Stp.refl s1.wd, z⟩ ?_ ?_ ?_
  · rintro i σ' H' _ ⟨env', S', B', α', _, _, st, _⟩
    exact hG H' (st.bb.trans st.wd.ex)
  · rintro i v σ' H' H'' hi' ⟨env', S', B', α', _, re', st, z⟩ hy
    have ei : xs[i]? = some xs[i] := by simp [hi']
    obtain ⟨B2, s2, r2⟩ := hY i xs[i] v H' H'' B' α' S' ei st.wd st.bb st.pre hy
    rw [List.drop_eq_getElem_cons hi'] at z
    have st2 := st.trans s2
    refine qt B2 α' S' H'' v xs[i] env' σ' _ s2.wd r2 (re'.mono s2.bb s2.pre) (mg _ _ _ _ _ (fun e3 S3 z3 σ3 H3 B3 α3 s3 r3 => ?_) z)
    refine ⟨e3, S3, B3, α3, r3, s3.wd, hb.mono _ _ { dT X.K ga B α H E D with nx := fun e s => loopL g ws (xs.drop (i + 1)) e s (dT X.K ga B α H E D), ct := fun e s => loopL g ws (xs.drop (i + 1)) e s (dT X.K ga B α H E D), bk := (dT X.K ga B α H E D).nx } _ ⟨fun e4 S4 z4 σ4 H4 B4 α4 s4 r4 => ?_, fun r S4 z4 => ?_, fun e4 S4 z4 => ?_, fun e4 S4 z4 σ4 H4 B4 α4 s4 r4 => ?_, fun e4 x S4 z4 => ?_⟩ z3⟩
    · exact ⟨e4, S4, B4, α4, hi', r4, (st2.trans s3).trans s4, z4⟩
    · exact kvT.after ((s1.trans st2).trans s3) z4
    · exact knT.after ((s1.trans st2).trans s3) z4
    · exact ⟨e4, S4, B4, α4, hi', r4, (st2.trans s3).trans s4, z4⟩
    · exact kxS.after ((s1.trans st2).trans s3) z4
  · rintro σ' H' ⟨env', S', B', α', _, re', st, z⟩
    rw [List.drop_length] at z
    exact z _ _ _ _ (s1.trans st) re'
end

/-! ### while -/
def whileN (c : DT) (body : DS) : Nat → DEnv → Sto → DEnds → Prop
  | 0, _, _, _ => False
  | n + 1, env, S, D => c env S (fun b S1 => if b = true then body env S1 { D with nx := fun e s => whileN c body n e s D, ct := fun e s => whileN c body n e s D, bk := D.nx } else D.nx env S1) (D.ex env)
def whileS (c : DT) (body : DS) : DS := fun env S D => ∃ n, whileN c body n env S D
theorem mono_while {c : DT} {body : DS} (mc : MonoT c) (mb : MonoS body) : ∀ (n : Nat) env S D D', DEnds.le D D' → whileN c body n env S D → whileN c body n env S D'
  | 0, _, _, _, _, _, q => q
  | n + 1, env, S, D, D', h, q => mc _ _ _ _ _ _ (fun b S1 z => by
    cases b with
    | true => exact mb _ _ { D with nx := fun e s => whileN c body n e s D, ct := fun e s => whileN c body n e s D, bk := D.nx } { D' with nx := fun e s => whileN c body n e s D', ct := fun e s => whileN c body n e s D', bk := D'.nx } ⟨fun e s z => mono_while mc mb n e s D D' h z, h.rt, h.nx, fun e s z => mono_while mc mb n e s D D' h z, h.ex⟩ z
    | false => exact h.nx _ _ z) (h.ex env) q
section
variable {ga : Str → Addr} {X : Cx} {E : WX} {c : Expr} {body : List Stmt} {wc : DT} {ws : DS} {pos : Pos} {k : Nat}
theorem pxs_while (cx : Ctx X E k) (hc : PXT ga X E c wc) (hb : PXB ga X E body ws) : PXS ga X E (.While c body [] pos) (whileS wc ws) := by
  refine ⟨fun env S D D' h ⟨n, q⟩ => ⟨n, mono_while hc.mono hb.mono n env S D D' h q⟩, ⟨fun pins s σ H D I h => (ps_while cx.po hc.run hb.run).run pins s σ H D I ?_⟩⟩
  obtain ⟨env, S, B, α, re, w, n, h⟩ := h
  refine ⟨fun m σ' H' => ∃ env' S' B' α', RelE X.K B' α' env' σ' ∧ Stp X.K B α H B' α' S' H' ∧ whileN wc ws m env' S' (dT X.K ga B α H E D), ⟨n, env, S, B, α, re, Stp.refl w, h⟩, ?_⟩
  rintro m σ' H' ⟨env', S', B', α', re', st, z⟩
  cases m with
  | zero => exact z.elim
  | succ m =>
    refine ⟨env', S', B', α', re', st.wd, hc.mono _ _ _ _ _ _ (fun b S1 z1 H1 B1 α1 s1 => ?_) (fun x S1 z1 => kxS.at_ re' (kxS.after st z1)) z⟩
    cases b with
    | false => exact z1 _ _ _ _ (st.trans s1) (re'.mono s1.bb s1.pre)
    | true =>
      refine ⟨fun σ2 H2 => ∃ env2 S2 B2 α2, RelE X.K B2 α2 env2 σ2 ∧ Stp X.K B α H B2 α2 S2 H2 ∧ whileN wc ws m env2 S2 (dT X.K ga B α H E D), fun σ2 H2 q => ⟨m, Nat.lt_succ_self m, q⟩, ?_⟩
      refine ⟨env', S1, B1, α1, re'.mono s1.bb s1.pre, s1.wd, hb.mono _ _ { dT X.K ga B α H E D with nx := fun e s => whileN wc ws m e s (dT X.K ga B α H E D), ct := fun e s => whileN wc ws m e s (dT X.K ga B α H E D), bk := (dT X.K ga B α H E D).nx } _ ⟨fun e4 S4 z4 σ4 H4 B4 α4 s4 r4 => ?_, fun r S4 z4 => ?_, fun e4 S4 z4 => ?_, fun e4 S4 z4 σ4 H4 B4 α4 s4 r4 => ?_, fun e4 x S4 z4 => ?_⟩ z1⟩
      · exact ⟨e4, S4, B4, α4, r4, (st.trans s1).trans s4, z4⟩
      · exact kvT.after (st.trans s1) z4
      · exact knT.after (st.trans s1) z4
      · exact ⟨e4, S4, B4, α4, r4, (st.trans s1).trans s4, z4⟩
      · exact kxS.after (st.trans s1) z4
end
end DW

set_option Elab.async false
set_option linter.all false
set_option maxRecDepth 100000
set_option maxHeartbeats 4000000
set_option autoImplicit false
/-! DW9: comprehensions. -/
namespace DW
open PySem L2

abbrev W0 : WX := fun _ _ _ _ => False
abbrev F0 : DX := fun _ _ => False
def wipeD (env : DEnv) : List Nat → DEnv
  | [] => env
  | v :: vs => (wipeD env vs).set v none
abbrev DB := DV → DEnv → Option DEnv
def bindN (i : Nat) : DB := fun x env => some (env.set i (some x))
def setAll : DEnv → List Nat → List DV → DEnv
  | env, i :: is, x :: xs => setAll (env.set i (some x)) is xs
  | env, _, _ => env
def bindT (is : List Nat) : DB := fun x env => match x with
  | .d (.tuple ds) => if ds.length = is.length then some (setAll env is (ds.map .d)) else none
  | _ => none
def lcL (b : DB) (tt : DT) (te : DE) (env0 : DEnv) : List DV → List PyData → Sto → (List PyData → Sto → Prop) → Prop
  | [], acc, S, k => k acc S
  | x :: r, acc, S, k => ∃ env1, b x env0 = some env1 ∧ tt env1 S (fun c S2 => if c = true then te env1 S2 (fun y S3 => ∃ d, y = .d d ∧ acc.length ≤ 1000000 ∧ lcL b tt te env0 r (acc ++ [d]) S3 k) F0 else lcL b tt te env0 r acc S2 k) F0
def yesT : DT := fun _ S k _ => k true S
def lcW (wi : DI) (b : DB) (tt : DT) (te : DE) (vs : List Nat) : DE := fun env S k kx => wi env S (fun xs S1 => lcL b tt te (wipeD env vs) xs [] S1 (fun ds S2 => k (.d (.list ds)) S2)) kx

section
variable {K : PySem.W.Frag} {B B' : Hp} {α α' : List Addr} {S S' : Sto} {H H' : Hp} {env : DEnv} {σ : St}
theorem wipeD_len (env : DEnv) : ∀ vs : List Nat, (wipeD env vs).length = env.length
  | [] => rfl
  | v :: vs => by simp [wipeD, wipeD_len env vs]
theorem relE_wipe (re : RelE K B α env σ) : ∀ vs : List Nat, RelE K B α (wipeD env vs) (wipe σ vs)
  | [] => re
  | v :: vs => by
    obtain ⟨h1, h2⟩ := relE_wipe re vs
    refine ⟨by simp [wipeD, wipe, h1], fun i x e => ?_⟩
    by_cases hi : v = i
    · subst hi
      unfold wipeD at e
      rw [List.getElem?_set] at e
      simp only [if_pos] at e
      split at e <;> cases e
    · unfold wipeD at e
      rw [List.getElem?_set_ne hi] at e
      obtain ⟨u, g1, g2⟩ := h2 i x e
      exact ⟨u, by unfold wipe; rw [List.getElem?_set_ne hi]; exact g1, g2⟩
theorem wipe_set {i : Nat} {x : Option V} : ∀ {vs : List Nat}, i ∈ vs → wipe (σ.set i x) vs = wipe σ vs
  | v :: vs, h => by
    by_cases hi : i = v
    · subst hi
      by_cases hv : i ∈ vs
      · unfold wipe; rw [wipe_set hv]
      · have go : ∀ us : List Nat, i ∉ us → wipe (σ.set i x) us = (wipe σ us).set i x := fun us => by
          induction us with
          | nil => intro _; rfl
          | cons u us ih =>
            intro hn
            simp only [List.mem_cons, not_or] at hn
            unfold wipe
            rw [ih hn.2, List.set_comm _ _ hn.1]
        unfold wipe
        rw [go vs hv, List.set_set]
    · unfold wipe
      rw [wipe_set (by rcases List.mem_cons.mp h with z | z; exact absurd z hi; exact z)]
end
theorem wipe_idem (σ : St) (W : List Nat) : wipe (wipe σ W) W = wipe σ W := by
  have go : ∀ us : List Nat, (∀ u ∈ us, u ∈ W) → wipe (wipe σ us) W = wipe σ W := fun us => by
    induction us with
    | nil => intro _; rfl
    | cons u us ih =>
      intro h
      rw [show wipe σ (u :: us) = (wipe σ us).set u none from rfl, wipe_set (h u List.mem_cons_self)]
      exact ih fun v hv => h v (List.mem_cons_of_mem _ hv)
  exact go W fun _ h => h
section
variable {K : PySem.W.Frag} {B B' : Hp} {α α' : List Addr} {S S' : Sto} {H H' : Hp} {D : Addr}
/-- an object of nobody's is changed -/
theorem Stp.mut {o : HO} (s : Stp K B α H B' α' S' H') (hD : H D = none) (h1 : B' D = none) (h2 : D ∉ α') : Stp K B α H B' α' S' (upd H' D o) := by
  refine ⟨⟨fun a u e => ?_, s.wd.len, fun n q g1 g2 => ?_, s.wd.nd, fun a ha => ?_⟩, s.bb, s.pre, s.newB, s.newA, fun a u e ha => ?_⟩
  · rw [upd_ne (fun z => by subst z; rw [h1] at e; cases e)]; exact s.wd.ex a u e
  · obtain ⟨a, e1, e2, e3⟩ := s.wd.obj n q g1 g2
    have hne : a ≠ D := fun z => by subst z; exact h2 (List.mem_of_getElem? e1)
    exact ⟨a, e1, e2, e3.mono (Same.refl _) ⟨[], by simp⟩ fun u z => by rw [upd_ne hne]; exact z⟩
  · have hne : a ≠ D := fun z => by subst z; exact h2 ha
    obtain ⟨u, e⟩ := s.wd.trk a ha
    exact ⟨u, by rw [upd_ne hne]; exact e⟩
  · rw [upd_ne (ne_of_none e hD)]; exact s.frame a u e ha
/-- .. becomes pure -/
theorem Stp.adopt {o : HO} (s : Stp K B α H B' α' S' H') (hD : H D = none) (h1 : B' D = none) (h2 : D ∉ α') (h3 : H' D = some o) : Stp K B α H (upd B' D o) α' S' H' := by
  have sm : Same B' (upd B' D o) := Same.upd_none h1
  refine ⟨⟨fun a u e => ?_, s.wd.len, fun n q g1 g2 => ?_, s.wd.nd, s.wd.trk⟩, s.bb.trans sm, s.pre, fun a u e => ?_, s.newA, s.frame⟩
  · by_cases ha : a = D
    · subst ha; rw [upd_same] at e; rw [← e]; exact h3
    · rw [upd_ne ha] at e; exact s.wd.ex a u e
  · obtain ⟨a, e1, e2, e3⟩ := s.wd.obj n q g1 g2
    have hne : a ≠ D := fun z => by subst z; exact h2 (List.mem_of_getElem? e1)
    exact ⟨a, e1, by rw [upd_ne hne]; exact e2, e3.mono sm ⟨[], by simp⟩ fun _ z => z⟩
  · by_cases ha : a = D
    · subst ha; exact .inr (.inl hD)
    · rw [upd_ne ha] at e; exact s.newB a u e
end
/-- the target of a comprehension -/
structure PXC (X : Cx) (scope : Scope) (tg : Expr) (b : DB) (vs : List Nat) (t : TG) : Prop where
  pg : ∀ (s : Shared) (H : Hp) (C : Addr) (cl : List (Str × Addr)) (fp : List Addr), PG (X.blk s H scope (compEnvC scope cl C X.env) fp) tg t
  run : ∀ (B : Hp) (α : List Addr) (S : Sto) (H : Hp) (v : V) (x : DV) (env env1 : DEnv) (σ : St) (Q : St → Hp → Prop), Wd X.K B α S H → VR X.K B α v x → RelE X.K B α env σ → b x env = some env1 →
    (∀ σ1, RelE X.K B α env1 σ1 → wipe σ1 vs = wipe σ vs → Q σ1 H) → t v σ H Q
section
variable {ga : Str → Addr} {X : Cx} {E : WX} {tg iter elt : Expr} {ifs : List Expr} {wi : DI} {tt : DT} {te : DE} {pos : Pos} {k : Nat} {scope : Scope} {own : List (Str × Nat)} {b : DB} {t : TG} {vs : List Nat}
theorem pxc_name {i : Nat} {x : Str} {p : Pos} (hg : ∀ (s : Shared) (H : Hp) (C : Addr) (cl : List (Str × Addr)) (fp : List Addr), PG (X.blk s H scope (compEnvC scope cl C X.env) fp) (.Name x p) (gName i)) (hv : i ∈ vs) : PXC X scope (.Name x p) (bindN i) vs (gName i) :=
  ⟨hg, fun B α S H v y env env1 σ Q w r re e q => by
    cases e
    exact q _ (re.set i r) (wipe_set hv)⟩
theorem setAll_rel {K : PySem.W.Frag} {B : Hp} {α : List Addr} : ∀ {is : List Nat} {us : List V} {ds : List DV} {env : DEnv} {σ : St}, VRs K B α us ds → us.length = is.length → RelE K B α env σ → (∀ i ∈ is, i ∈ vs) →
    ∃ σ1, RelE K B α (setAll env is ds) σ1 ∧ wipe σ1 vs = wipe σ vs ∧ σ1 = (is.zip us).foldl (fun s q => s.set q.1 (some q.2)) σ
  | [], [], _, env, σ, .nil, _, re, _ => ⟨σ, re, rfl, rfl⟩
  | i :: is, u :: us, _, env, σ, .cons h r, hl, re, hv => by
    obtain ⟨σ1, h1, h2, h3⟩ := setAll_rel (env := env.set i _) (σ := σ.set i (some u)) r (by simpa using hl) (re.set i h) fun j hj => hv j (List.mem_cons_of_mem _ hj)
    exact ⟨σ1, h1, by rw [h2, wipe_set (hv i List.mem_cons_self)], h3⟩
def tgN : List Nat → TGs
  | [] => gNil
  | i :: is => gCons (gName i) (tgN is)
theorem tgN_run {Q : St → Hp → Prop} {H : Hp} : ∀ {is : List Nat} {us : List V} {σ : St}, us.length = is.length → Q ((is.zip us).foldl (fun s q => s.set q.1 (some q.2)) σ) H → tgN is us σ H Q
  | [], [], _, _, q => ⟨rfl, q⟩
  | i :: is, u :: us, σ, hl, q => ⟨u, us, rfl, tgN_run (is := is) (by simpa using hl) q⟩
theorem pxc_tup {is : List Nat} {es : List Expr} {kk : Nat} {p : Pos} (hc : X.calm = true) (hv : ∀ i ∈ is, i ∈ vs)
    (hg : ∀ (s : Shared) (H : Hp) (C : Addr) (cl : List (Str × Addr)) (fp : List Addr), PGs (X.blk s H scope (compEnvC scope cl C X.env) fp) es (tgN is))
    (hn : ∀ env : Env, (assignEach es env).length = is.length := by intro _; rfl) (hst : ∀ env : Env, (assignEach es env).findIdx? (·.1) = none := by intro _; rfl) : PXC X scope (.Tuple es kk p) (bindT is) vs (gTup X.K is.length (tgN is)) :=
  ⟨fun s H C cl fp => pg_tup (X := X.blk s H scope (compEnvC scope cl C X.env) fp) hc (hg s H C cl fp) (hn _) (hst _), fun B α S H v y env env1 σ Q w r re e q => by
    unfold bindT at e
    split at e
    · split at e
      · rename_i hl
        cases e
        cases r with
        | tup ht hq =>
          have hl' := hq.len
          obtain ⟨σ1, h1, h2, h3⟩ := setAll_rel (is := is) (VRs.ofPure hq) (by omega) re hv
          refine ⟨_, _, rfl, same_t w.ex ht, by omega, tgN_run (by omega) ?_⟩
          rw [← h3]
          exact q σ1 h1 h2
      · cases e
    · cases e⟩
theorem Ctx.blk (c : Ctx X E k) (s : Shared) (H : Hp) (cenv : Env) (fp : List Addr) : Ctx (X.blk s H scope cenv fp) W0 k := ⟨c.calm, c.nd, takes0, PassesOwn.never, c.room⟩
/-- the tests of a comprehension -/
structure PXF (ga : Str → Addr) (X : Cx) (E : WX) (ifs : List Expr) (w : DT) : Prop where
  mono : MonoT w
  run : PTs X ifs (tT X.K ga E w)
theorem pxf_nil : PXF ga X E [] yesT := by
  refine ⟨fun env S k k' x x' hk hx h => hk _ _ h, ⟨fun pins s σ H Q I h => pts_nil.run pins s σ H Q I ?_⟩⟩
  obtain ⟨env, S, B, α, re, w, h⟩ := h
  exact h H B α (Stp.refl w)
theorem pxf_one {c : Expr} {w : DT} (h : PXT ga X E c w) : PXF ga X E [c] w := ⟨h.mono, pts_one h.run⟩
theorem mono_lc (mt : MonoT tt) (me : MonoE te) {env0 : DEnv} : ∀ (xs : List DV) (acc : List PyData) (S : Sto) (k k' : List PyData → Sto → Prop), (∀ a S, k a S → k' a S) → lcL b tt te env0 xs acc S k → lcL b tt te env0 xs acc S k'
  | [], _, _, _, _, h, q => h _ _ q
  | x :: r, acc, S, k, k', h, ⟨env1, e, q⟩ => ⟨env1, e, mt _ _ _ _ _ _ (fun c S2 z => by
    cases c with
    | true => exact me _ _ _ _ _ _ (fun y S3 ⟨d, e1, e2, z3⟩ => ⟨d, e1, e2, mono_lc mt me r _ S3 k k' h z3⟩) (fun _ _ z => z) z
    | false => exact mono_lc mt me r acc S2 k k' h z) (fun _ _ z => z) q⟩
theorem run_lc (hi : MonoA wi) (hg : PXC X scope tg b (own.map (·.2)) t) (mt : MonoT tt) (me : MonoE te) {σ : St} {H : Hp} {Q : VK} (h : eT X.K ga E (lcW wi b tt te (own.map (·.2))) σ H Q) :
    tLc (iT X.K ga E wi) t (tT X.K ga W0 tt) (eT X.K ga W0 te) (own.map (·.2)) σ H Q := by
  obtain ⟨env, S, B, α, re, w, h⟩ := h
  refine ⟨env, S, B, α, re, w, hi env S _ _ _ _ (fun xs S1 z J H1 B1 α1 s1 okJ => ?_) (fun _ _ z => z) h⟩
  intro D hD
  obtain ⟨G, Y, wk, hG, hY⟩ := okJ
  have hBD : B1 D = none := s1.wd.ex.free hD
  have hαD : D ∉ α1 := fun z => by
    obtain ⟨u, hu⟩ := s1.wd.trk D z
    rw [hD] at hu; cases hu
  have away : ∀ {Ba Bb : Hp} {αa αb : List Addr} {Sb : Sto} {Ha Hb : Hp} {vs : List V}, Stp X.K Ba αa Ha Bb αb Sb Hb → Ba D = none → D ∉ αa → Ha D = some (.lst vs) → Bb D = none ∧ D ∉ αb ∧ Hb D = some (.lst vs) := fun {Ba Bb αa αb Sb Ha Hb vs} st h1 h2 h3 => by
    refine ⟨?_, fun z => ?_, st.frame D _ h3 h2⟩
    · cases q : Bb D with
      | none => rfl
      | some o =>
        rcases st.newB D o q with z | z | z
        · rw [h1] at z; cases z
        · rw [h3] at z; cases z
        · exact absurd z h2
    · rcases st.newA D z with q | q
      · exact h2 q
      · rw [h3] at q; cases q
  refine lc_it wk (fun i H' => ∃ S' B' α' acc vs, i ≤ xs.length ∧ Stp X.K B1 α1 H1 B' α' S' H' ∧ B' D = none ∧ D ∉ α' ∧ H' D = some (.lst vs) ∧ DqAll X.K B' vs acc ∧
    lcL b tt te (wipeD env (own.map (·.2))) (xs.drop i) acc S' (fun ds S2 => kvT X.K B α H Q (.d (.list ds)) S2)) ⟨S1, B1, α1, [], [], Nat.zero_le _, s1.wd.extra hD, hBD, hαD, upd_same, .nil, z⟩ ?_ ?_ ?_
  · rintro i H' _ ⟨S', B', α', acc, vs, _, st, _⟩
    exact hG H' (st.bb.trans st.wd.ex)
  · rintro i v H' H'' hi' ⟨S', B', α', acc, vs, _, st, d1, d2, d3, d4, z⟩ hy
    have ei : xs[i]? = some xs[i] := by simp [hi']
    obtain ⟨B2, s2, r2⟩ := hY i xs[i] v H' H'' B' α' S' ei st.wd st.bb st.pre hy
    obtain ⟨f1, f2, f3⟩ := away s2 d1 d2 d3
    rw [List.drop_eq_getElem_cons hi'] at z
    obtain ⟨env1, eb, z⟩ := z
    have st2 := st.trans s2
    have rw0 := (relE_wipe (re.mono (s1.bb.trans st2.bb) (s1.trans st2).pre) (own.map (·.2)))
    refine hg.run B2 α' S' H'' v xs[i] _ env1 _ _ s2.wd r2 rw0 eb fun σ1 re1 hw => ⟨hw.trans (wipe_idem _ _), ?_⟩
    refine ⟨env1, S', B2, α', re1, s2.wd, mt _ _ _ _ _ _ (fun c S3 z3 H3 B3 α3 s3 => ?_) (fun _ _ z => z.elim) z⟩
    obtain ⟨g1, g2, g3⟩ := away s3 f1 f2 f3
    cases c with
    | false => exact ⟨S3, B3, α3, acc, vs, hi', st2.trans s3, g1, g2, g3, (d4.same s2.bb).same s3.bb, z3⟩
    | true =>
      refine ⟨env1, S3, B3, α3, re1.mono s3.bb s3.pre, s3.wd, me _ _ _ _ _ _ (fun y S4 z4 yv H4 B4 α4 s4 r4 => ?_) (fun _ _ z => z.elim) z3⟩
      obtain ⟨d, rfl, hl, z4⟩ := z4
      obtain ⟨k1, k2, k3⟩ := away s4 g1 g2 g3
      have dq := ((d4.same s2.bb).same s3.bb).same s4.bb
      refine ⟨vs, k3, Nat.lt_of_le_of_lt (by rw [dq.len]; exact hl) (by decide : 1000000 < sizeLine), S4, B4, α4, acc ++ [d], vs ++ [yv], hi', ?_, k1, k2, upd_same, dq.append (.cons r4 .nil), z4⟩
      exact ((st2.trans s3).trans s4).mut hD k1 k2
  · rintro H' ⟨S', B', α', acc, vs, _, st, d1, d2, d3, d4, z⟩
    rw [List.drop_length] at z
    have st3 := st.adopt hD d1 d2 d3
    exact z _ _ _ _ (s1.trans st3) (.lst upd_same (d4.same (Same.upd_none d1)))
theorem mono_lcW (hi : MonoA wi) (mt : MonoT tt) (me : MonoE te) : MonoE (lcW wi b tt te vs) := fun env S k k' x x' hk hx h => hi env S _ _ _ _ (fun xs S1 z => mono_lc mt me xs [] S1 _ _ (fun a S z => hk _ _ z) z) hx h
theorem px_lc (c : Ctx X E k) (hi : PXI ga X E tg iter wi) (ok : BlkOk X.N X.env.scope scope own) (hg : PXC X scope tg b (own.map (·.2)) t)
    (ht : ∀ (s : Shared) (H : Hp) (C : Addr) (cl : List (Str × Addr)) (fp : List Addr), PXF ga (X.blk s H scope (compEnvC scope cl C X.env) fp) W0 ifs tt)
    (he : ∀ (s : Shared) (H : Hp) (C : Addr) (cl : List (Str × Addr)) (fp : List Addr), PX ga (X.blk s H scope (compEnvC scope cl C X.env) fp) W0 elt te) (hs : ∀ x, foldedSetIterable iter X.env x = pure x := by intro _; rfl) :
    PX ga X E (.ListComp elt [⟨tg, iter, ifs, 0⟩] scope pos) (lcW wi b tt te (own.map (·.2))) := by
  have mt := (ht X.s_0 X.H_0 0 [] []).mono
  have me := (he X.s_0 X.H_0 0 [] []).mono
  exact ⟨mono_lcW hi.mono mt me,
    ⟨fun pins s σ H Q I h => (pe_lc (tt := tT X.K ga W0 tt) (te := eT X.K ga W0 te) c.calm c.nd hi.run ok hg.pg (fun s H C cl fp => (ht s H C cl fp).run) (fun s H C cl fp => (he s H C cl fp).run) hs).run pins s σ H Q I (run_lc hi.mono hg mt me h)⟩⟩
theorem pxs_setLc {i : Nat} {y : Str} {py spos : Pos} (c : Ctx X E k) (hy : X.N[i]? = some y) (hyl : X.env.scope.names.lookup y = some .local) (hsw : swapsWith (.ListComp elt [⟨tg, iter, ifs, 0⟩] scope pos) (some (.Name y py)) spos.line X.env = pure true)
    (hi : PXI ga X E tg iter wi) (ok : BlkOk X.N X.env.scope scope own) (hg : PXC X scope tg b (own.map (·.2)) t)
    (ht : ∀ (s : Shared) (H : Hp) (C : Addr) (cl : List (Str × Addr)) (fp : List Addr), PXF ga (X.blk s H scope (compEnvC scope cl C X.env) fp) W0 ifs tt)
    (he : ∀ (s : Shared) (H : Hp) (C : Addr) (cl : List (Str × Addr)) (fp : List Addr), PX ga (X.blk s H scope (compEnvC scope cl C X.env) fp) W0 elt te) (hs : ∀ x, foldedSetIterable iter X.env x = pure x := by intro _; rfl) :
    PXS ga X E (.Assign [.Name y py] (.ListComp elt [⟨tg, iter, ifs, 0⟩] scope pos) spos) (asgS i (lcW wi b tt te (own.map (·.2)))) := by
  have mt := (ht X.s_0 X.H_0 0 [] []).mono
  have me := (he X.s_0 X.H_0 0 [] []).mono
  have mm : MonoE (lcW wi b tt te (own.map (·.2))) := mono_lcW hi.mono mt me
  refine ⟨fun env S D D' h q => mm env S _ _ _ _ (fun _ _ z => h.nx _ _ z) (h.ex env) q, ⟨fun pins s σ H D I h => (ps_setLc (tt := tT X.K ga W0 tt) (te := eT X.K ga W0 te) c.calm c.nd hy hyl hsw hi.run ok hg.pg (fun s H C cl fp => (ht s H C cl fp).run) (fun s H C cl fp => (he s H C cl fp).run) hs).run pins s σ H D I ?_⟩⟩
  refine run_lc hi.mono hg mt me ?_
  obtain ⟨env, S, B, α, re, w, h⟩ := h
  refine ⟨env, S, B, α, re, w, mm env S _ _ _ _ (fun y S1 q v H1 B1 α1 s1 r1 => ?_) (fun _ _ z => kxS.at_ re z) h⟩
  exact q _ _ _ _ s1 ((re.mono s1.bb s1.pre).set i r1)
end
/-! ### try -/
def XV.nm : XV → Str
  | .cls x => x
  | .fld x _ _ => x
def handleS (L : List Str) : List (Str × DS) → XV → DEnv → Sto → DEnds → Prop
  | [], x, env, S, D => D.ex env x S
  | (y, w) :: r, x, env, S, D => x.nm ∈ L ∧ if x.nm = y then w env S { D with ex := fun _ => F0 } else handleS L r x env S D
def tryS (L : List Str) (body : DS) (hds : List (Str × DS)) : DS := fun env S D => body env S { D with ex := fun env' x S' => handleS L hds x env' S' D }
section
variable {ga : Str → Addr} {X : Cx} {E : WX} {pos : Pos} {k : Nat} {body : List Stmt} {wb : DS} {L : List Str}
/-- the clauses -/
inductive HdsX (ga : Str → Addr) (X : Cx) (L : List Str) : List ExceptHandler → List (Str × DS) → List (Value × (Addr → Value → Option Addr → TS)) → Prop
  | nil : HdsX ga X L [] [] []
  | cons {x : Str} {b₀ : Stmt} {suite : List Stmt} {np pos' : Pos} {hds : List ExceptHandler} {l : List (Str × DS)} {lv : List (Value × (Addr → Value → Option Addr → TS))} {w : DS} (hg : Gl X x) (hm : X.mg x = some (.ref (ga x))) (hd : (x == ("__debug__" : Str)) = false)
      (hx : ∀ y ∈ L, PySem.W.exmOne X.K (.ref (ga y)) (.ref (ga x)) = some (decide (y = x)))
      (hs : ∀ (a : Addr) (oe : Obj) (pn : List (Addr × Obj)), PXB ga (X.suite a ((a, oe) :: pn)) W0 (b₀ :: suite) w) (r : HdsX ga X L hds l lv) :
      HdsX ga X L (.ExceptHandler (some (.Name x np)) none (b₀ :: suite) pos' :: hds) ((x, w) :: l) ((.ref (ga x), fun _ _ _ => sT X.K ga W0 w) :: lv)
theorem HdsX.ok {hds : List ExceptHandler} {l : List (Str × DS)} {lv : List (Value × (Addr → Value → Option Addr → TS))} (h : HdsX ga X L hds l lv) : HdsOk X hds lv := by
  induction h with
  | nil => exact .nil
  | cons hg hm hd hx hs r ih => exact .cons ⟨hg, hd, .inl hm⟩ (fun a oe cls d pn _ _ => (hs a oe pn).run) ih
theorem HdsX.mono {hds : List ExceptHandler} {l : List (Str × DS)} {lv : List (Value × (Addr → Value → Option Addr → TS))} (h : HdsX ga X L hds l lv) : ∀ x env S D D', DEnds.le D D' → handleS L l x env S D → handleS L l x env S D' := by
  induction h with
  | nil => intro x env S D D' h q; exact h.ex _ _ _ q
  | cons hg hm hd hx hs r ih =>
    intro x env S D D' h ⟨q1, q2⟩
    refine ⟨q1, ?_⟩
    split
    · rename_i e
      rw [if_pos e] at q2
      exact (hs 0 ⟨.none, none, .fields #[], #[]⟩ []).mono _ _ { D with ex := fun _ => F0 } _ ⟨h.nx, h.rt, h.bk, h.ct, fun _ _ _ z => z⟩ q2
    · rename_i e
      rw [if_neg e] at q2
      exact ih x env S D D' h q2
theorem HdsX.wish {hds : List ExceptHandler} {l : List (Str × DS)} {lv : List (Value × (Addr → Value → Option Addr → TS))} (h : HdsX ga X L hds l lv) {B : Hp} {α : List Addr} {H : Hp} {D : Ends} :
    ∀ env' x S', handleS L l x env' S' (dT X.K ga B α H E D) → kxS X.K ga B α H (wMany X.K E D lv) env' x S' := by
  induction h with
  | nil => intro env' x S' q; exact q
  | cons hg hm hd hx hs r ih =>
    rename_i y b₀ suite np pos' hds l lv w
    intro env' x S' ⟨q1, q2⟩ c d σ' H' B' α' st re xr
    have hc : c = .ref (ga x.nm) := by
      cases x with
      | cls x => exact xr.1
      | fld x f v => exact xr.1
    refine ⟨decide (x.nm = y), by rw [hc]; exact hx _ q1, fun e a ha => ?_, fun e => ?_⟩
    · have e := of_decide_eq_true e
      rw [if_pos e] at q2
      exact ⟨env', S', B', α', re, st.wd, (hs a ⟨.none, none, .fields #[], #[]⟩ []).mono _ _ { dT X.K ga B α H E D with ex := fun _ => F0 } _ ⟨fun _ _ z => knT.after st z, fun _ _ z => kvT.after st z, fun _ _ z => knT.after st z, fun _ _ z => knT.after st z, fun _ _ _ z => z.elim⟩ q2⟩
    · have e := of_decide_eq_false e
      rw [if_neg e] at q2
      exact ih env' x S' q2 c d σ' H' B' α' st re xr
theorem Ctx.tr (c : Ctx X E k) {pn : List (Addr × Obj)} {xe : Value → Shared → Prop} {W : WX} (tk : Takes (X.tr pn xe) W) (po : PassesOwn (model X.prog X.w) X.A X.env xe) : Ctx (X.tr pn xe) W k := ⟨c.calm, c.nd, tk, po, c.room⟩
theorem pxs_try {h₀ : ExceptHandler} {hds : List ExceptHandler} {l : List (Str × DS)} {lv : List (Value × (Addr → Value → Option Addr → TS))} (c : Ctx X E k) (hs : X.stack = X.env :: X.outer) (hf : X.env.frame = some X.env.locals)
    (hb : ∀ (W : WX) (pn : List (Addr × Obj)) (xe : Value → Shared → Prop), Ctx (X.tr pn xe) W k → PXB ga (X.tr pn xe) W body wb) (hh : HdsX ga X L (h₀ :: hds) l lv) (mb : MonoS wb) :
    PXS ga X E (.Try body (h₀ :: hds) [] [] pos) (tryS L wb l) := by
  refine ⟨fun env S D D' h q => mb _ _ { D with ex := fun env' x S' => handleS L l x env' S' D } { D' with ex := fun env' x S' => handleS L l x env' S' D' } ⟨h.nx, h.rt, h.bk, h.ct, fun e x S z => hh.mono x e S _ _ h z⟩ q, ⟨fun pins s σ H D I h => ?_⟩⟩
  refine (ps_try_many (tb := fun W => sT X.K ga W wb) hs hf c.tk (fun W pn xe tk po => (hb W pn xe (c.tr tk po)).run) hh.ok).run pins s σ H D I ?_
  obtain ⟨env, S, B, α, re, w, h⟩ := h
  exact ⟨env, S, B, α, re, w, mb _ _ { dT X.K ga B α H E D with ex := fun env' x S' => handleS L l x env' S' (dT X.K ga B α H E D) } _ ⟨fun _ _ z => z, fun _ _ z => z, fun _ _ z => z, fun _ _ z => z, fun e x S z => hh.wish e x S z⟩ h⟩
end
end DW

set_option Elab.async false
set_option linter.all false
set_option maxRecDepth 100000
set_option maxHeartbeats 4000000
set_option autoImplicit false
/-! DWH: the constants of a top, by values. -/
namespace DW
open PySem L2
mutual
/-- the value u of the written part is just d -/
def datB (K : PySem.W.Frag) : PyData → Value → Bool
  | .none, .none => true
  | .bool b, .bool c => b == c
  | .int i, .int j _ => decide (i = j)
  | .str x, .str y _ => decide (x = y)
  | .tuple ds, .ref a => (match K.lookup a with
    | some ⟨.type c, _, .seq its _, _⟩ => decide (c = "tuple") && (decide (its.size ≤ sizeLine) && datBs K ds its.toList)
    | _ => false)
  | _, _ => false
def datBs (K : PySem.W.Frag) : List PyData → List Value → Bool
  | [], [] => true
  | d :: ds, u :: us => datB K d u && datBs K ds us
  | _, _ => false
end
def valOf : Value → V
  | .none => .non
  | .bool b => .bl b
  | .int i _ => .int i
  | .str x _ => .str x
  | .ref a => .ref a
  | .type n => .ty n
  | _ => .non
mutual
theorem datB_ok {K : PySem.W.Frag} : ∀ {d : PyData} {u : Value}, datB K d u = true → RelV (valOf u) u ∧ ∀ B, Dq K B (valOf u) d
  | .none, u, h => by
    cases u <;> first | (cases h; done) | exact ⟨rfl, fun _ => .non⟩
  | .bool b, u, h => by
    cases u <;> first | (cases h; done) | skip
    rename_i c
    have : b = c := eq_of_beq (show (b == c) = true from h)
    subst this
    exact ⟨rfl, fun _ => .bl b⟩
  | .int i, u, h => by
    cases u <;> first | (cases h; done) | skip
    rename_i c t
    have : i = c := of_decide_eq_true h
    subst this
    exact ⟨⟨t, rfl⟩, fun _ => .int i⟩
  | .str x, u, h => by
    cases u <;> first | (cases h; done) | skip
    rename_i c t
    have : x = c := of_decide_eq_true h
    subst this
    exact ⟨⟨t, rfl⟩, fun _ => .str x⟩
  | .list _, u, h => by cases u <;> cases h
  | .dict _, u, h => by cases u <;> cases h
  | .tuple ds, u, h => by
    cases u <;> first | (cases h; done) | skip
    rename_i a
    refine ⟨rfl, fun B => ?_⟩
    unfold datB at h
    cases q : K.lookup a with
    | none => rw [q] at h; cases h
    | some o =>
      obtain ⟨oc, od, dt, osl⟩ := o
      rw [q] at h
      cases oc with
      | type c =>
        cases dt with
        | seq its n =>
          obtain ⟨h1, h2⟩ := Bool.and_eq_true_iff.mp (show (decide (c = "tuple") && (decide (its.size ≤ sizeLine) && datBs K ds its.toList)) = true from h)
          obtain ⟨h3, h4⟩ := Bool.and_eq_true_iff.mp h2
          obtain ⟨r1, r2⟩ := datBs_ok h4
          exact .tup (.inr ⟨_, its, n, q, congrArg Value.type (of_decide_eq_true h1), rfl, of_decide_eq_true h3, r1⟩) (r2 B)
        | _ => cases h
      | _ => cases dt <;> cases h
theorem datBs_ok {K : PySem.W.Frag} : ∀ {ds : List PyData} {us : List Value}, datBs K ds us = true → Vals (us.map valOf) us ∧ ∀ B, DqAll K B (us.map valOf) ds
  | [], [], _ => ⟨.nil, fun _ => .nil⟩
  | [], _ :: _, h => by cases h
  | _ :: _, [], h => by cases h
  | d :: ds, u :: us, h => by
    obtain ⟨h1, h2⟩ := Bool.and_eq_true_iff.mp (show (datB K d u && datBs K ds us) = true from h)
    obtain ⟨a1, a2⟩ := datB_ok h1
    obtain ⟨b1, b2⟩ := datBs_ok h2
    exact ⟨.cons a1 b1, fun B => .cons (a2 B) (b2 B)⟩
end
def consOk (cs : List (Str × PyData)) (K : PySem.W.Frag) : Bool := cs.all fun q => match PySem.W.nsIn K mainGlobals q.1 with
  | some (some u) => datB K q.2 u
  | _ => false
theorem cons_ok {cs : List (Str × PyData)} {K : PySem.W.Frag} {h : Heap} {mg : Str → Option Value} (X : K.In h) (G : h.Ns mainGlobals mg) (c : consOk cs K = true) {x : Str} {d : PyData} (hx : (x, d) ∈ cs) :
    ∃ u v, mg x = some u ∧ RelV v u ∧ ∀ B, Dq K B v d := by
  have c2 := List.all_eq_true.mp c (x, d) hx
  cases e : PySem.W.nsIn K mainGlobals x with
  | none => simp only [e] at c2; cases c2
  | some o =>
    cases o with
    | none => simp only [e] at c2; cases c2
    | some u =>
      simp only [e] at c2
      obtain ⟨h1, h2⟩ := datB_ok c2
      exact ⟨u, valOf u, PySem.W.mg_of X G e, h1, h2⟩
end DW

set_option Elab.async false
set_option linter.all false
set_option maxRecDepth 100000
set_option maxHeartbeats 4000000
set_option autoImplicit false
/-! DW10: the rules with their side conditions as Booleans; monotony by instances. -/
namespace DW
open PySem L2

/-! ### monotony by instances -/
class ME (w : DE) : Prop where mono : MonoE w
class MT (w : DT) : Prop where mono : MonoT w
class MA (w : DA) : Prop where mono : MonoA w
class MS (w : DS) : Prop where mono : MonoS w
class MO (w : DO) : Prop where mono : MonoO w
class MG (w : DG) : Prop where mono : MonoG w
class MGs (w : DGs) : Prop where mono : MonoGs w
class MF (F : FS) : Prop where mono : MonoF F
class MH (l : List (Str × DS)) : Prop where mono : ∀ L x env S D D', DEnds.le D D' → handleS L l x env S D → handleS L l x env S D'
section
variable {a b c : DE} {t u : DT} {r : DA} {s v : DS} {o l h : DO} {g : DG} {gs : DGs} {F : FS}
instance {i} : ME (varW i) := ⟨fun _ _ _ _ _ _ hk _ ⟨y, h1, h2⟩ => ⟨y, h1, hk _ _ h2⟩⟩
instance {x} : ME (cW x) := ⟨fun _ _ _ _ _ _ hk _ h => hk _ _ h⟩
instance {f} [ME a] [ME b] : ME (op2W f a b) := ⟨mono2 ME.mono ME.mono⟩
instance {f} [ME a] : ME (op1W f a) := ⟨fun env S k k' x x' hk hx h => ME.mono (w := a) env S _ _ _ _ (fun y S1 ⟨z, e, h1⟩ => ⟨z, e, hk _ _ h1⟩) hx h⟩
instance [ME a] : MT (testW a) := ⟨monoTest ME.mono⟩
instance [MT t] [MT u] : MT (andW t u) := ⟨monoAnd MT.mono MT.mono⟩
instance [MT t] [MT u] : MT (orW t u) := ⟨monoOr MT.mono MT.mono⟩
instance [MT t] : MT (notW t) := ⟨fun env S k k' x x' hk hx h => MT.mono (w := t) env S _ _ _ _ (fun b S1 h1 => hk _ _ h1) hx h⟩
instance : MT yesT := ⟨fun _ _ _ _ _ _ hk _ h => hk _ _ h⟩
instance [ME a] [ME b] : ME (andVW a b) := ⟨fun env S k k' x x' hk hx h => ME.mono (w := a) env S _ _ _ _ (fun y S1 ⟨c, e, h1⟩ => ⟨c, e, by
    cases c with
    | true => exact ME.mono (w := b) env S1 _ _ _ _ hk hx h1
    | false => exact hk _ _ h1⟩) hx h⟩
instance [ME a] [ME b] : ME (orVW a b) := ⟨fun env S k k' x x' hk hx h => ME.mono (w := a) env S _ _ _ _ (fun y S1 ⟨c, e, h1⟩ => ⟨c, e, by
    cases c with
    | false => exact ME.mono (w := b) env S1 _ _ _ _ hk hx h1
    | true => exact hk _ _ h1⟩) hx h⟩
instance [ME a] : ME (notVW a) := ⟨fun env S k k' x x' hk hx h => ME.mono (w := a) env S _ _ _ _ (fun y S1 ⟨c, e, h1⟩ => ⟨c, e, hk _ _ h1⟩) hx h⟩
instance [MT t] [ME a] [ME b] : ME (ifW t a b) := ⟨fun env S k k' x x' hk hx h => MT.mono (w := t) env S _ _ _ _ (fun c S1 h1 => by
    cases c with
    | false => exact ME.mono (w := b) env S1 _ _ _ _ hk hx h1
    | true => exact ME.mono (w := a) env S1 _ _ _ _ hk hx h1) hx h⟩
instance : MA nilA := ⟨fun _ _ _ _ _ _ hk _ h => hk _ _ h⟩
instance [ME a] [MA r] : MA (consA a r) := ⟨fun env S k k' x x' hk hx h => ME.mono (w := a) env S _ _ _ _ (fun y S1 h1 => MA.mono (w := r) env S1 _ _ _ _ (fun ys S2 h2 => hk _ _ h2) hx h1) hx h⟩
instance {f f'} [ME a] [ME b] [ME c] : ME (chainW f f' a b c) := ⟨fun env S k k' x x' hk hx h => ME.mono (w := a) env S _ _ _ _ (fun y S1 h1 => ME.mono (w := b) env S1 _ _ _ _ (fun z S2 ⟨d, e, h2⟩ => ⟨d, e, by
    cases d with
    | true => exact ME.mono (w := c) env S2 _ _ _ _ (fun z S3 ⟨u, e3, h3⟩ => ⟨u, e3, hk _ _ h3⟩) hx h2
    | false => exact hk _ _ h2⟩) hx h1) hx h⟩
instance [MA r] : ME (tupW r) := ⟨fun env S k k' x x' hk hx h => MA.mono (w := r) env S _ _ _ _ (fun y S1 ⟨ds, e1, e2, h1⟩ => ⟨ds, e1, e2, hk _ _ h1⟩) hx h⟩
instance [MA r] : ME (lstW r) := ⟨fun env S k k' x x' hk hx h => MA.mono (w := r) env S _ _ _ _ (fun y S1 ⟨ds, e1, e2, h1⟩ => ⟨ds, e1, e2, hk _ _ h1⟩) hx h⟩
instance [MA r] : ME (newLW r) := ⟨fun env S k k' x x' hk hx h => MA.mono (w := r) env S _ _ _ _ (fun y S1 ⟨e2, h1⟩ => ⟨e2, hk _ _ h1⟩) hx h⟩
instance [ME a] : ME (fzW a) := ⟨fun env S k k' x x' hk hx h => ME.mono (w := a) env S _ _ _ _ (fun y S1 ⟨n, xs, ds, e1, e2, e3, h1⟩ => ⟨n, xs, ds, e1, e2, e3, hk _ _ h1⟩) hx h⟩
instance {f} [MA r] : ME (callNW f r) := ⟨monoN MA.mono⟩
instance : MO noPartW := ⟨fun _ _ _ _ _ _ hk _ h => hk _ _ h⟩
instance [ME a] : MO (partW a) := ⟨fun env S k k' x x' hk hx h' => ME.mono (w := a) env S _ _ _ _ (fun y S1 ⟨i, e, h1⟩ => ⟨i, e, hk _ _ h1⟩) hx h'⟩
instance [ME a] [MO l] [MO h] : ME (sliceW a l h) := ⟨fun env S k k' x x' hk hx q => ME.mono (w := a) env S _ _ _ _ (fun y S1 h1 => MO.mono (w := l) env S1 _ _ _ _ (fun l S2 h2 => MO.mono (w := h) env S2 _ _ _ _ (fun u S3 ⟨z, e, h3⟩ => ⟨z, e, hk _ _ h3⟩) hx h2) hx h1) hx q⟩
instance [ME a] [ME b] : ME (splitW a b) := ⟨fun env S k k' x x' hk hx h => ME.mono (w := a) env S _ _ _ _ (fun y S1 ⟨a, e, h1⟩ => ⟨a, e, ME.mono (w := b) env S1 _ _ _ _ (fun z S2 ⟨b, e2, c1, c2, h2⟩ => ⟨b, e2, c1, c2, hk _ _ h2⟩) hx h1⟩) hx h⟩
instance [ME a] [ME b] : ME (joinW a b) := ⟨fun env S k k' x x' hk hx h => ME.mono (w := a) env S _ _ _ _ (fun y S1 ⟨a, e, h1⟩ => ⟨a, e, ME.mono (w := b) env S1 _ _ _ _ (fun z S2 ⟨b, ds, ys, e1, e2, c2, h2⟩ => ⟨b, ds, ys, e1, e2, c2, hk _ _ h2⟩) hx h1⟩) hx h⟩
instance [ME a] : ME (lrgW a) := ⟨fun env S k k' x x' hk hx h => ME.mono (w := a) env S _ _ _ _ (fun y S1 ⟨n, e, h0, h1, h2⟩ => ⟨n, e, h0, h1, hk _ _ h2⟩) hx h⟩
instance [ME a] : ME (popW a) := ⟨fun env S k k' x x' hk hx h => ME.mono (w := a) env S _ _ _ _ (fun y S1 ⟨n, xs, z, e1, e2, e3, h1⟩ => ⟨n, xs, z, e1, e2, e3, hk _ _ h1⟩) hx h⟩
instance [MF F] [MA r] : ME (callW F r) := ⟨mono_call MF.mono MA.mono⟩
instance {N} [MS s] : MF (funW N s) := ⟨mono_fun MS.mono⟩
instance : MS nextS := ⟨fun _ _ _ _ h q => h.nx _ _ q⟩
instance [MS s] [MS v] : MS (seqS s v) := ⟨monoSeq MS.mono MS.mono⟩
instance {i} [ME a] : MS (asgS i a) := ⟨fun env S D D' h q => ME.mono (w := a) env S _ _ _ _ (fun _ _ z => h.nx _ _ z) (h.ex env) q⟩
instance [ME a] : MS (retS a) := ⟨fun env S D D' h q => ME.mono (w := a) env S _ _ _ _ h.rt (h.ex env) q⟩
instance : MS retN := ⟨fun _ _ _ _ h q => h.rt _ _ q⟩
instance [MT t] [MS s] [MS v] : MS (ifS t s v) := ⟨fun env S D D' h q => MT.mono (w := t) env S _ _ _ _ (fun b S1 z => by
    cases b with
    | true => exact MS.mono (w := s) env S1 _ _ h z
    | false => exact MS.mono (w := v) env S1 _ _ h z) (h.ex env) q⟩
instance [ME a] : MS (dropS a) := ⟨fun env S D D' h q => ME.mono (w := a) env S _ _ _ _ (fun _ _ z => h.nx _ _ z) (h.ex env) q⟩
instance {i} : MG (nameG i) := ⟨fun _ _ _ _ _ h q => h _ _ q⟩
instance : MGs nilGs := ⟨fun _ _ _ _ _ h q => ⟨q.1, h _ _ q.2⟩⟩
instance [MG g] [MGs gs] : MGs (consGs g gs) := ⟨fun x env S k k' h ⟨y, ys, e, q⟩ => ⟨y, ys, e, MG.mono (w := g) _ _ _ _ _ (fun e S z => MGs.mono (w := gs) _ _ _ _ _ h z) q⟩⟩
instance {n} [MGs gs] : MG (tupG n gs) := ⟨fun x env S k k' h ⟨ys, e, l, z⟩ => ⟨ys, e, l, MGs.mono (w := gs) _ _ _ _ _ h z⟩⟩
instance [ME a] [MG g] : MS (tgtS a g) := ⟨fun env S D D' h z => ME.mono (w := a) env S _ _ _ _ (fun x S1 u => MG.mono (w := g) _ _ _ _ _ h.nx u) (h.ex env) z⟩
instance {n} [MA r] [MGs gs] : MS (tgtNS n r gs) := ⟨fun env S D D' h z => MA.mono (w := r) env S _ _ _ _ (fun xs S1 ⟨e1, e2, u⟩ => ⟨e1, e2, MGs.mono (w := gs) _ _ _ _ _ h.nx u⟩) (h.ex env) z⟩
instance {i j} [MA r] : MS (par2S i j r) := ⟨fun env S D D' h z => MA.mono (w := r) env S _ _ _ _ (fun xs S1 ⟨x, y, e, u⟩ => ⟨x, y, e, h.nx _ _ u⟩) (h.ex env) z⟩
instance {i j l} [MA r] : MS (par3S i j l r) := ⟨fun env S D D' h z => MA.mono (w := r) env S _ _ _ _ (fun xs S1 ⟨x, y, z, e, u⟩ => ⟨x, y, z, e, h.nx _ _ u⟩) (h.ex env) z⟩
instance [ME a] [ME b] [ME c] : MS (setLS a b c) := ⟨fun env S D D' h z => ME.mono (w := a) env S _ _ _ _ (fun v S1 z1 => ME.mono (w := b) env S1 _ _ _ _ (fun o S2 z2 => ME.mono (w := c) env S2 _ _ _ _ (fun i S3 ⟨n, xs, k, j, e1, e2, e3, e4, z3⟩ => ⟨n, xs, k, j, e1, e2, e3, e4, h.nx _ _ z3⟩) (h.ex env) z2) (h.ex env) z1) (h.ex env) z⟩
instance [ME a] [ME b] : MS (appS a b) := ⟨fun env S D D' h z => ME.mono (w := a) env S _ _ _ _ (fun o S1 ⟨n, ys, e1, e2, z1⟩ => ⟨n, ys, e1, e2, ME.mono (w := b) env S1 _ _ _ _ (fun v S2 ⟨xs, e3, e4, z3⟩ => ⟨xs, e3, e4, h.nx _ _ z3⟩) (h.ex env) z1⟩) (h.ex env) z⟩
instance {x} : MS (raiseS x) := ⟨fun _ _ _ _ h q => h.ex _ _ _ q⟩
instance [ME a] : MA (seqI a) := ⟨fun env S k k' x x' hk hx h => ME.mono (w := a) env S _ _ _ _ (fun y S1 ⟨n, c, ds, e, h1⟩ => ⟨n, c, ds, e, hk _ _ h1⟩) hx h⟩
instance [ME a] : MA (rng1I a) := ⟨fun env S k k' x x' hk hx h => ME.mono (w := a) env S _ _ _ _ (fun y S1 ⟨n, e, e1, e2, h1⟩ => ⟨n, e, e1, e2, hk _ _ h1⟩) hx h⟩
instance [ME a] [ME b] : MA (rng2I a b) := ⟨fun env S k k' x x' hk hx h => ME.mono (w := a) env S _ _ _ _ (fun y S1 h1 => ME.mono (w := b) env S1 _ _ _ _ (fun z S2 ⟨m, n, e1, e2, f1, f2, f3, f4, h2⟩ => ⟨m, n, e1, e2, f1, f2, f3, f4, hk _ _ h2⟩) hx h1) hx h⟩
instance [ME a] : MA (enumI a) := ⟨fun env S k k' x x' hk hx h => ME.mono (w := a) env S _ _ _ _ (fun y S1 ⟨n, c, ds, e, h1⟩ => ⟨n, c, ds, e, hk _ _ h1⟩) hx h⟩
instance [ME a] [ME b] : MA (zipI a b) := ⟨fun env S k k' x x' hk hx h => ME.mono (w := a) env S _ _ _ _ (fun y S1 h1 => ME.mono (w := b) env S1 _ _ _ _ (fun z S2 ⟨m, n, c, ds, es, e1, e2, h2⟩ => ⟨m, n, c, ds, es, e1, e2, hk _ _ h2⟩) hx h1) hx h⟩
instance [MA r] [MG g] [MS s] : MS (forS r g s) := ⟨fun env S D D' h q => MA.mono (w := r) env S _ _ _ _ (fun xs S1 z => mono_loop MG.mono MS.mono xs env S1 D D' h z) (h.ex env) q⟩
instance [MT t] [MS s] : MS (whileS t s) := ⟨fun env S D D' h ⟨n, q⟩ => ⟨n, mono_while MT.mono MS.mono n env S D D' h q⟩⟩
instance {b vs} [MA r] [MT t] [ME a] : ME (lcW r b t a vs) := ⟨mono_lcW MA.mono MT.mono ME.mono⟩
instance : MH [] := ⟨fun _ _ _ _ _ _ h q => h.ex _ _ _ q⟩
instance {y} {l : List (Str × DS)} [MS s] [MH l] : MH ((y, s) :: l) := ⟨fun L x env S D D' h ⟨q1, q2⟩ => ⟨q1, by
    split
    · rename_i e
      rw [if_pos e] at q2
      exact MS.mono (w := s) _ _ { D with ex := fun _ => F0 } _ ⟨h.nx, h.rt, h.bk, h.ct, fun _ _ _ z => z⟩ q2
    · rename_i e
      rw [if_neg e] at q2
      exact MH.mono L x env S D D' h q2⟩⟩
instance {L} {l : List (Str × DS)} [MS s] [MH l] : MS (tryS L s l) := ⟨fun env S D D' h q => MS.mono (w := s) _ _ { D with ex := fun env' x S' => handleS L l x env' S' D } { D' with ex := fun env' x S' => handleS L l x env' S' D' } ⟨h.nx, h.rt, h.bk, h.ct, fun e x S z => MH.mono L x e S _ _ h z⟩ q⟩
end

/-! ### names -/
structure Nm (X : Cx) (N : List Str) (sc : Scope) : Prop where
  hN : X.N = N
  hs : X.env.scope = sc
  nd : X.N.Nodup
def vB (N : List Str) (sc : Scope) (i : Nat) (x : Str) : Bool := decide (N[i]? = some x) && ((match sc.names.lookup x with
  | some .local => true
  | some .cell => true
  | some .free => true
  | _ => false) && (!(x == ("__debug__" : Str)) && !(x == ("__classdict__" : Str))))
def lB (N : List Str) (sc : Scope) (i : Nat) (x : Str) : Bool := decide (N[i]? = some x) && (match sc.names.lookup x with
  | some .local => true
  | some .cell => true
  | _ => false)
def llB (N : List Str) (sc : Scope) (i : Nat) (x : Str) : Bool := decide (N[i]? = some x) && decide (sc.names.lookup x = some .local)
def gB (sc : Scope) (x : Str) : Bool := decide (sc.names.lookup x = some .globalImplicit) && (!(x == ("__debug__" : Str)) && decide (x ≠ "__name__"))
theorem two {a b : Bool} (h : (a && b) = true) : a = true ∧ b = true := Bool.and_eq_true_iff.mp h
theorem nb {a : Bool} (h : (!a) = true) : a = false := by simpa using h
section
variable {ga : Str → Addr} {X : Cx} {E : WX} {N : List Str} {sc : Scope} {k : Nat} {x : Str} {pos : Pos}
theorem vB_ok {i : Nat} (n : Nm X N sc) (h : vB N sc i x = true) : X.N[i]? = some x ∧ Vis X.env.scope x ∧ (x == ("__debug__" : Str)) = false ∧ (x == ("__classdict__" : Str)) = false := by
  obtain ⟨h1, h2⟩ := two h
  obtain ⟨h3, h4⟩ := two h2
  obtain ⟨h5, h6⟩ := two h4
  refine ⟨by rw [n.hN]; exact of_decide_eq_true h1, ?_, nb h5, nb h6⟩
  unfold Vis
  rw [n.hs]
  revert h3
  cases sc.names.lookup x with
  | none => intro h; cases h
  | some q => cases q <;> intro h <;> simp_all
theorem lB_ok {i : Nat} (n : Nm X N sc) (h : lB N sc i x = true) : X.N[i]? = some x ∧ L2.Loc X.env.scope x := by
  obtain ⟨h1, h3⟩ := two h
  refine ⟨by rw [n.hN]; exact of_decide_eq_true h1, ?_⟩
  unfold L2.Loc
  rw [n.hs]
  revert h3
  cases sc.names.lookup x with
  | none => intro h; cases h
  | some q => cases q <;> intro h <;> simp_all
theorem llB_ok {i : Nat} (n : Nm X N sc) (h : llB N sc i x = true) : X.N[i]? = some x ∧ X.env.scope.names.lookup x = some .local := by
  obtain ⟨h1, h3⟩ := two h
  exact ⟨by rw [n.hN]; exact of_decide_eq_true h1, by rw [n.hs]; exact of_decide_eq_true h3⟩
theorem gB_ok (n : Nm X N sc) (h : gB sc x = true) : Gl X x ∧ (x == ("__debug__" : Str)) = false ∧ x ≠ "__name__" := by
  obtain ⟨h1, h2⟩ := two h
  obtain ⟨h3, h4⟩ := two h2
  exact ⟨by show X.env.scope.names.lookup x = _; rw [n.hs]; exact of_decide_eq_true h1, nb h3, of_decide_eq_true h4⟩
theorem Nm.blk (n : Nm X N sc) {s : Shared} {H : Hp} {scope : Scope} {C : Addr} {cl : List (Str × Addr)} {fp : List Addr} : Nm (X.blk s H scope (compEnvC scope cl C X.env) fp) N (relS scope sc) :=
  ⟨n.hN, by rw [← n.hs]; rfl, n.nd⟩
theorem Nm.tr (n : Nm X N sc) {pn : List (Addr × Obj)} {xe : Value → Shared → Prop} : Nm (X.tr pn xe) N sc := ⟨n.hN, n.hs, n.nd⟩
theorem Nm.suite (n : Nm X N sc) {a : Addr} {pn : List (Addr × Obj)} : Nm (X.suite a pn) N sc := ⟨n.hN, n.hs, n.nd⟩
/-- a name in slot i -/
theorem xv (n : Nm X N sc) (i : Nat) (h : vB N sc i x = true := by decide +kernel) : PX ga X E (.Name x pos) (varW i) :=
  let ⟨h1, h2, h3, h4⟩ := vB_ok n h
  px_var h1 h2 h3 h4
theorem xset {i : Nat} {e : Expr} {we : DE} {p' : Pos} (n : Nm X N sc) (he : PX ga X E e we) (h : lB N sc i x = true := by decide +kernel) (hs : swapsWith e (some (.Name x p')) pos.line X.env = pure false := by rfl) (hf : ∀ y, X.fn y = true := by intro _; rfl) :
    PXS ga X E (.Assign [.Name x p'] e pos) (asgS i we) :=
  let ⟨h1, h2⟩ := lB_ok n h
  pxs_set n.nd h1 h2 he hs (.inl (hf x))
theorem xgn {i : Nat} (n : Nm X N sc) (h : lB N sc i x = true := by decide +kernel) (hf : ∀ y, X.fn y = true := by intro _; rfl) : PXG ga X E (.Name x pos) (nameG i) :=
  let ⟨h1, h2⟩ := lB_ok n h
  pxg_name n.nd h1 h2 (.inl (hf x))
/-- arguments and their number -/
structure PXN (ga : Str → Addr) (X : Cx) (E : WX) (es : List Expr) (w : DA) (n : Nat) : Prop where
  a : PXA ga X E es w
  len : LenA w n
theorem xa0 : PXN ga X E [] nilA 0 := ⟨pxa_nil, lenA_nil⟩
theorem xac {a : Expr} {rest : List Expr} {wa : DE} {wA : DA} {n : Nat} (ha : PX ga X E a wa) (hr : PXN ga X E rest wA n) (hs : starEach (a :: rest) X.env = (false, eval a X.env) :: starEach rest X.env := by rfl) : PXN ga X E (a :: rest) (consA wa wA) (n + 1) :=
  ⟨pxa_cons ha hr.a hs, lenA_cons ha.mono hr.a.mono hr.len⟩
/-- what is known of a def -/
structure Fx (P : Program) (w : World) (K : PySem.W.Frag) (mg : Str → Option Value) (base : Heap) (ga : Str → Addr) (x : Str) (F : FS) (n j : Nat) : Prop where
  mono : MonoF F
  ex : ∃ f fd ps, FnOk P w K mg base (L2.CX P w) j f fd ps (spD K ga F n) ∧ mg x = some (.ref f) ∧ PySem.W.keepIn K (.ref f) = true ∧ Binds K fd ps [] ∧ ps.length = n
theorem xcall {F : FS} {m j : Nat} {p : Pos} {e : Expr} {es : List Expr} {wA : DA} (n : Nm X N sc) (c : Ctx X E k) (h : Fx X.prog X.w X.K X.mg X.base ga x F m j) (ha : PXN ga X E (e :: es) wA m) (hj : j ≤ k := by decide) (hg : gB sc x = true := by decide +kernel)
    (he : starEach (e :: es) X.env = (false, eval e X.env) :: starEach es X.env := by rfl) (hpl : (backTo pos (starEach es X.env)).any (·.1) = false := by rfl) : PX ga X E (.Call (.Name x p) (e :: es) [] pos) (callW F wA) := by
  obtain ⟨f, fd, ps, Fn, hm, hk, hb, _⟩ := h.ex
  obtain ⟨g1, g2, g3⟩ := gB_ok n hg
  exact px_call c Fn hj h.mono g1 hm hk hb ha.a ha.len g2 he hpl
theorem xcall0 {F : FS} {j : Nat} {p : Pos} (n : Nm X N sc) (c : Ctx X E k) (h : Fx X.prog X.w X.K X.mg X.base ga x F 0 j) (hj : j ≤ k := by decide) (hg : gB sc x = true := by decide +kernel) : PX ga X E (.Call (.Name x p) [] [] pos) (callW F nilA) := by
  obtain ⟨f, fd, ps, Fn, hm, hk, hb, hl⟩ := h.ex
  obtain ⟨g1, g2, g3⟩ := gB_ok n hg
  have : ps = [] := List.length_eq_zero_iff.mp hl
  subst this
  exact px_call0 c Fn hj h.mono g1 hm hk hb g2
/-- the module's constant -/
def conW (d : PyData) : DE := cW d
theorem xcon {d : PyData} (n : Nm X N sc) (h : ∃ u v, X.mg x = some u ∧ RelV v u ∧ ∀ B, Dq X.K B v d) (hg : gB sc x = true := by decide +kernel) : PX ga X E (.Name x pos) (cW d) := by
  obtain ⟨u, v, hm, r, q⟩ := h
  obtain ⟨g1, g2, g3⟩ := gB_ok n hg
  exact px_of_c (pe_glob g1 hm r g2) q
/-! built-ins -/
def Bi (l : List Str) (mg : Str → Option Value) : Prop := ∀ x ∈ l, mg x = none
theorem xbi {l : List Str} {id : String} {r : List V → Hp → VK → Prop} {g : List DV → Sto → Option DV} {p : Pos} {e : Expr} {es : List Expr} {wA : DA} {m : Nat} (n : Nm X N sc) (hB : Bi l X.mg) (hc : CallR X (.builtin id) r) (hg : OpN X.K r g) (ha : PXN ga X E (e :: es) wA m)
    (hl : x ∈ l := by decide +kernel) (hgl : gB sc x = true := by decide +kernel) (hv : bootBuiltins x = some (.builtin id) := by decide +kernel)
    (he : starEach (e :: es) X.env = (false, eval e X.env) :: starEach es X.env := by rfl) (hpl : (backTo pos (starEach es X.env)).any (·.1) = false := by rfl) : PX ga X E (.Call (.Name x p) (e :: es) [] pos) (callNW g wA) := by
  obtain ⟨g1, g2, g3⟩ := gB_ok n hgl
  exact px_callB hc hg g1 (hB x hl) hv ha.a g3 g2 he hpl
theorem xty {l : List Str} {T : String} {r : List V → Hp → VK → Prop} {g : List DV → Sto → Option DV} {p : Pos} {e : Expr} {es : List Expr} {wA : DA} {m : Nat} (n : Nm X N sc) (hB : Bi l X.mg) (hc : CallR X (.type T) r) (hg : OpN X.K r g) (ha : PXN ga X E (e :: es) wA m)
    (hl : x ∈ l := by decide +kernel) (hgl : gB sc x = true := by decide +kernel) (hv : bootBuiltins x = some (.type T) := by decide +kernel)
    (he : starEach (e :: es) X.env = (false, eval e X.env) :: starEach es X.env := by rfl) (hpl : (backTo pos (starEach es X.env)).any (·.1) = false := by rfl) : PX ga X E (.Call (.Name x p) (e :: es) [] pos) (callNW g wA) := by
  obtain ⟨g1, g2, g3⟩ := gB_ok n hgl
  exact px_callTy hc hg g1 (hB x hl) hv ha.a g3 g2 he hpl
theorem xisi {l : List Str} {T : Ty} {y : Str} {p p2 : Pos} {e : Expr} {we : DE} (n : Nm X N sc) (hB : Bi l X.mg) (he : PX ga X E e we) (hl : ("isinstance" : Str) ∈ l := by decide +kernel) (hly : y ∈ l := by decide +kernel) (hg : gB sc ("isinstance" : Str) = true := by decide +kernel) (hgy : gB sc y = true := by decide +kernel)
    (hv : bootBuiltins y = some (.type T.nm) := by decide +kernel)
    (h1 : starEach [e, .Name y p2] X.env = (false, eval e X.env) :: starEach [.Name y p2] X.env := by rfl) (h2 : starEach [.Name y p2] X.env = (false, eval (.Name y p2) X.env) :: starEach [] X.env := by rfl)
    (h3 : (backTo pos (starEach [.Name y p2] X.env)).any (·.1) = false := by rfl) : PX ga X E (.Call (.Name "isinstance" p) [e, .Name y p2] [] pos) (op1W (isiD T) we) := by
  obtain ⟨g1, _, _⟩ := gB_ok n hg
  obtain ⟨f1, f2, f3⟩ := gB_ok n hgy
  exact px_isi g1 (hB _ hl) f1 (hB _ hly) hv he (by decide +kernel) f3 f2 h1 h2 h3
theorem xlrg {l : List Str} {a : Expr} {wa : DE} {p p2 apos : Pos} (n : Nm X N sc) (c : Ctx X E k) (hB : Bi l X.mg) (ha : PX ga X E a wa) (hl : ("list" : Str) ∈ l := by decide +kernel) (hr : ("range" : Str) ∈ l := by decide +kernel) (hg : gB sc "list" = true := by decide +kernel) (hg2 : gB sc "range" = true := by decide +kernel)
    (na : starEach [a] X.env = (false, eval a X.env) :: starEach [] X.env := by rfl) (nb : starEach [.Call (.Name "range" p2) [a] [] apos] X.env = (false, eval (.Call (.Name "range" p2) [a] [] apos) X.env) :: starEach [] X.env := by rfl) :
    PX ga X E (.Call (.Name "list" p) [.Call (.Name "range" p2) [a] [] apos] [] pos) (lrgW wa) :=
  px_lrg c.calm (gB_ok n hg).1 (hB _ hl) (gB_ok n hg2).1 (hB _ hr) ha na nb
theorem xrng1 {l : List Str} {tg e : Expr} {we : DE} {p : Pos} (n : Nm X N sc) (hB : Bi l X.mg) (he : PX ga X E e we) (hr : ("range" : Str) ∈ l := by decide +kernel) (hg2 : gB sc "range" = true := by decide +kernel) (hs : starEach [e] X.env = [(false, eval e X.env)] := by rfl) : PXI ga X E tg (.Call (.Name "range" p) [e] [] pos) (rng1I we) :=
  pxi_rng1 (gB_ok n hg2).1 (hB _ hr) he hs
theorem xrng2 {l : List Str} {tg a b : Expr} {wa wb : DE} {p : Pos} (n : Nm X N sc) (hB : Bi l X.mg) (ha : PX ga X E a wa) (hb : PX ga X E b wb) (hr : ("range" : Str) ∈ l := by decide +kernel) (hg2 : gB sc "range" = true := by decide +kernel)
    (hs : starEach [a, b] X.env = [(false, eval a X.env), (false, eval b X.env)] := by rfl) (hs2 : starEach [b] X.env = [(false, eval b X.env)] := by rfl) : PXI ga X E tg (.Call (.Name "range" p) [a, b] [] pos) (rng2I wa wb) :=
  pxi_rng2 (gB_ok n hg2).1 (hB _ hr) ha hb hs hs2
theorem xenum {l : List Str} {e : Expr} {elts : List Expr} {kk : Nat} {tpos : Pos} {we : DE} {p : Pos} (n : Nm X N sc) (hB : Bi l X.mg) (he : PX ga X E e we) (hr : ("enumerate" : Str) ∈ l := by decide +kernel) (hg2 : gB sc "enumerate" = true := by decide +kernel) (hs : starEach [e] X.env = [(false, eval e X.env)] := by rfl) :
    PXI ga X E (.Tuple elts kk tpos) (.Call (.Name "enumerate" p) [e] [] pos) (enumI we) :=
  pxi_enum (gB_ok n hg2).1 (hB _ hr) he hs
theorem xzip {l : List Str} {a b : Expr} {elts : List Expr} {kk : Nat} {tpos : Pos} {wa wb : DE} {p : Pos} (n : Nm X N sc) (c : Ctx X E k) (hB : Bi l X.mg) (ha : PX ga X E a wa) (hb : PX ga X E b wb) (hr : ("zip" : Str) ∈ l := by decide +kernel) (hg2 : gB sc "zip" = true := by decide +kernel)
    (hs : starEach [a, b] X.env = (false, eval a X.env) :: starEach [b] X.env := by rfl) (hs2 : starEach [b] X.env = (false, eval b X.env) :: starEach [] X.env := by rfl) (hpl : (backTo pos (starEach [b] X.env)).any (·.1) = false := by rfl) :
    PXI ga X E (.Tuple elts kk tpos) (.Call (.Name "zip" p) [a, b] [] pos) (zipI wa wb) :=
  pxi_zip c.calm (gB_ok n hg2).1 (hB _ hr) ha hb hs hs2 hpl
end
end DW

set_option Elab.async false
set_option linter.all false
set_option maxRecDepth 100000
set_option maxHeartbeats 4000000
set_option autoImplicit false
/-! DW11: a law's ground, its defs, its end. -/
namespace DW
open PySem L2

/-- a def's names: with every name of its own a slot -/
structure Nf (X : Cx) (N : List Str) (sc : Scope) : Prop extends Nm X N sc where
  fn : X.fn = fun _ => true
  stk : X.stack = X.env :: X.outer
  frm : X.env.frame = some X.env.locals
theorem Nf.tr {X : Cx} {N : List Str} {sc : Scope} (n : Nf X N sc) {pn : List (Addr × Obj)} {xe : Value → Shared → Prop} : Nf (X.tr pn xe) N sc := ⟨n.toNm.tr, n.fn, n.stk, n.frm⟩
theorem Nf.suite {X : Cx} {N : List Str} {sc : Scope} (n : Nf X N sc) {a : Addr} {pn : List (Addr × Obj)} : Nf (X.suite a pn) N sc := ⟨n.toNm.suite, n.fn, n.stk, n.frm⟩

section
variable {ga : Str → Addr} {X : Cx} {E : WX} {N : List Str} {sc : Scope} {k : Nat} {x : Str} {pos : Pos}
theorem ys {i : Nat} {e : Expr} {we : DE} {p' : Pos} (n : Nf X N sc) (he : PX ga X E e we) (h : lB N sc i x = true := by decide +kernel) (hs : swapsWith e (some (.Name x p')) pos.line X.env = pure false := by rfl) :
    PXS ga X E (.Assign [.Name x p'] e pos) (asgS i we) := xset n.toNm he h hs (fun y => by rw [n.fn])
theorem yg {i : Nat} (n : Nf X N sc) (h : lB N sc i x = true := by decide +kernel) : PXG ga X E (.Name x pos) (nameG i) := xgn n.toNm h (fun y => by rw [n.fn])
/-- several names on one line, a written tuple behind -/
theorem ypar2 {a b : Expr} {wA : DA} {i j : Nat} {y : Str} {px py pt : Pos} {kt k2 pt2} (n : Nf X N sc) (c : Ctx X E k) (ha : PXA ga X E [a, b] wA) (hx : llB N sc i x = true := by decide +kernel) (hy : llB N sc j y = true := by decide +kernel) (hij : i ≠ j := by decide)
    (hw : swappedStores [.Tuple [.Name x px, .Name y py] kt pt] (.Tuple [a, b] k2 pt2) X.env = pure (some [x, y])) (hs : swapsWithSole [.Tuple [.Name x px, .Name y py] kt pt] (.Tuple [a, b] k2 pt2) pos.line X.env = pure false := by rfl) :
    PXS ga X E (.Assign [.Tuple [.Name x px, .Name y py] kt pt] (.Tuple [a, b] k2 pt2) pos) (par2S i j wA) :=
  let ⟨h1, h2⟩ := llB_ok n.toNm hx
  let ⟨h3, h4⟩ := llB_ok n.toNm hy
  pxs_par2 c.calm n.nd h1 h3 hij h2 h4 ha hw hs
theorem ypar3 {a b d : Expr} {wA : DA} {i j l : Nat} {y z : Str} {px py pz pt : Pos} {kt k2 pt2} (n : Nf X N sc) (c : Ctx X E k) (ha : PXA ga X E [a, b, d] wA) (hx : llB N sc i x = true := by decide +kernel) (hy : llB N sc j y = true := by decide +kernel) (hz : llB N sc l z = true := by decide +kernel) (hij : i ≠ j := by decide) (hil : i ≠ l := by decide) (hjl : j ≠ l := by decide)
    (hw : swappedStores [.Tuple [.Name x px, .Name y py, .Name z pz] kt pt] (.Tuple [a, b, d] k2 pt2) X.env = pure (some [x, y, z])) (hs : swapsWithSole [.Tuple [.Name x px, .Name y py, .Name z pz] kt pt] (.Tuple [a, b, d] k2 pt2) pos.line X.env = pure false := by rfl) :
    PXS ga X E (.Assign [.Tuple [.Name x px, .Name y py, .Name z pz] kt pt] (.Tuple [a, b, d] k2 pt2) pos) (par3S i j l wA) :=
  let ⟨h1, h2⟩ := llB_ok n.toNm hx
  let ⟨h3, h4⟩ := llB_ok n.toNm hy
  let ⟨h5, h6⟩ := llB_ok n.toNm hz
  pxs_par3 c.calm n.nd h1 h3 h5 hij hil hjl h2 h4 h6 ha hw hs
/-- the target of a comprehension: a name of its own -/
theorem xcn {scope : Scope} {i : Nat} (n : Nm X N sc) (h : llB N (relS scope sc) i x = true := by decide +kernel) : PXC X scope (.Name x pos) (bindN i) [i] (gName i) :=
  pxc_name (fun s H C cl fp => by
    have m : Nm (X.blk s H scope (compEnvC scope cl C X.env) fp) N (relS scope sc) := n.blk
    obtain ⟨h1, h2⟩ := llB_ok m h
    exact pg_name m.nd h1 (.inl h2) (.inr h2)) (by simp)
theorem xcg {scope : Scope} {i : Nat} (n : Nm X N sc) (h : llB N (relS scope sc) i x = true) (s : Shared) (H : Hp) (C : Addr) (cl : List (Str × Addr)) (fp : List Addr) : PG (X.blk s H scope (compEnvC scope cl C X.env) fp) (.Name x pos) (gName i) := by
  have m : Nm (X.blk s H scope (compEnvC scope cl C X.env) fp) N (relS scope sc) := n.blk
  obtain ⟨h1, h2⟩ := llB_ok m h
  exact pg_name m.nd h1 (.inl h2) (.inr h2)
theorem xct2 {scope : Scope} {i j : Nat} {y : Str} {p1 p2 p3 : Pos} {kk : Nat} (n : Nm X N sc) (c : Ctx X E k) (h1 : llB N (relS scope sc) i x = true := by decide +kernel) (h2 : llB N (relS scope sc) j y = true := by decide +kernel) :
    PXC X scope (.Tuple [.Name x p1, .Name y p2] kk p3) (bindT [i, j]) [i, j] (gTup X.K 2 (tgN [i, j])) :=
  pxc_tup c.calm (fun _ h => h) fun s H C cl fp => pgs_cons (xcg n h1 s H C cl fp) (pgs_cons (xcg n h2 s H C cl fp) pgs_nil)
theorem xct3 {scope : Scope} {i j l : Nat} {y z : Str} {p1 p2 p3 p4 : Pos} {kk : Nat} (n : Nm X N sc) (c : Ctx X E k) (h1 : llB N (relS scope sc) i x = true := by decide +kernel) (h2 : llB N (relS scope sc) j y = true := by decide +kernel) (h3 : llB N (relS scope sc) l z = true := by decide +kernel) :
    PXC X scope (.Tuple [.Name x p1, .Name y p2, .Name z p4] kk p3) (bindT [i, j, l]) [i, j, l] (gTup X.K 3 (tgN [i, j, l])) :=
  pxc_tup c.calm (fun _ h => h) fun s H C cl fp => pgs_cons (xcg n h1 s H C cl fp) (pgs_cons (xcg n h2 s H C cl fp) (pgs_cons (xcg n h3 s H C cl fp) pgs_nil))
theorem xct4 {scope : Scope} {i j l o : Nat} {y z u : Str} {p1 p2 p3 p4 p5 : Pos} {kk : Nat} (n : Nm X N sc) (c : Ctx X E k) (h1 : llB N (relS scope sc) i x = true := by decide +kernel) (h2 : llB N (relS scope sc) j y = true := by decide +kernel) (h3 : llB N (relS scope sc) l z = true := by decide +kernel) (h4 : llB N (relS scope sc) o u = true := by decide +kernel) :
    PXC X scope (.Tuple [.Name x p1, .Name y p2, .Name z p4, .Name u p5] kk p3) (bindT [i, j, l, o]) [i, j, l, o] (gTup X.K 4 (tgN [i, j, l, o])) :=
  pxc_tup c.calm (fun _ h => h) fun s H C cl fp => pgs_cons (xcg n h1 s H C cl fp) (pgs_cons (xcg n h2 s H C cl fp) (pgs_cons (xcg n h3 s H C cl fp) (pgs_cons (xcg n h4 s H C cl fp) pgs_nil)))
theorem xlc {scope : Scope} {tg iter elt : Expr} {ifs : List Expr} {wi : DI} {tt : DT} {te : DE} {b : DB} {t : TG} (n : Nm X N sc) (c : Ctx X E k) (hi : PXI ga X E tg iter wi) (own : List (Str × Nat)) (hg : PXC X scope tg b (own.map (·.2)) t)
    (ht : ∀ (s : Shared) (H : Hp) (C : Addr) (cl : List (Str × Addr)) (fp : List Addr), Nm (X.blk s H scope (compEnvC scope cl C X.env) fp) N (relS scope sc) → Ctx (X.blk s H scope (compEnvC scope cl C X.env) fp) W0 k → PXF ga (X.blk s H scope (compEnvC scope cl C X.env) fp) W0 ifs tt)
    (he : ∀ (s : Shared) (H : Hp) (C : Addr) (cl : List (Str × Addr)) (fp : List Addr), Nm (X.blk s H scope (compEnvC scope cl C X.env) fp) N (relS scope sc) → Ctx (X.blk s H scope (compEnvC scope cl C X.env) fp) W0 k → PX ga (X.blk s H scope (compEnvC scope cl C X.env) fp) W0 elt te)
    (hb : blkC N sc scope own = true := by decide +kernel) (hs : ∀ x, foldedSetIterable iter X.env x = pure x := by intro _; rfl) : PX ga X E (.ListComp elt [⟨tg, iter, ifs, 0⟩] scope pos) (lcW wi b tt te (own.map (·.2))) :=
  px_lc c hi (by rw [n.hN, n.hs]; exact blkOk_by hb) hg (fun s H C cl fp => ht s H C cl fp n.blk (c.blk s H _ fp)) (fun s H C cl fp => he s H C cl fp n.blk (c.blk s H _ fp)) hs
theorem ylc {scope : Scope} {tg iter elt : Expr} {ifs : List Expr} {wi : DI} {tt : DT} {te : DE} {b : DB} {t : TG} {y : Str} {i : Nat} {py spos : Pos} (n : Nf X N sc) (c : Ctx X E k) (hi : PXI ga X E tg iter wi) (own : List (Str × Nat)) (hg : PXC X scope tg b (own.map (·.2)) t)
    (ht : ∀ (s : Shared) (H : Hp) (C : Addr) (cl : List (Str × Addr)) (fp : List Addr), Nm (X.blk s H scope (compEnvC scope cl C X.env) fp) N (relS scope sc) → Ctx (X.blk s H scope (compEnvC scope cl C X.env) fp) W0 k → PXF ga (X.blk s H scope (compEnvC scope cl C X.env) fp) W0 ifs tt)
    (he : ∀ (s : Shared) (H : Hp) (C : Addr) (cl : List (Str × Addr)) (fp : List Addr), Nm (X.blk s H scope (compEnvC scope cl C X.env) fp) N (relS scope sc) → Ctx (X.blk s H scope (compEnvC scope cl C X.env) fp) W0 k → PX ga (X.blk s H scope (compEnvC scope cl C X.env) fp) W0 elt te)
    (hy : llB N sc i y = true := by decide +kernel) (hf : (match sc.kind with | .function => true | _ => false) = true := by decide +kernel) (hl : (py.line == pos.line) = true := by decide +kernel) (ha : (scope.names.any fun (n, k) => n == y && (k == .local || k == .cell)) = false := by decide +kernel)
    (hb : blkC N sc scope own = true := by decide +kernel) (hs : ∀ x, foldedSetIterable iter X.env x = pure x := by intro _; rfl) : PXS ga X E (.Assign [.Name y py] (.ListComp elt [⟨tg, iter, ifs, 0⟩] scope pos) spos) (asgS i (lcW wi b tt te (own.map (·.2)))) :=
  let ⟨h1, h2⟩ := llB_ok n.toNm hy
  pxs_setLc c h1 h2 (sw_true (by rw [n.hs]; revert hf; cases sc.kind <;> intro h <;> first | rfl | cases h) h2 hl ha) hi (by rw [n.hN, n.hs]; exact blkOk_by hb) hg (fun s H C cl fp => ht s H C cl fp n.blk (c.blk s H _ fp)) (fun s H C cl fp => he s H C cl fp n.blk (c.blk s H _ fp)) hs
/-- try -/
theorem ytry {body : List Stmt} {wb : DS} {L : List Str} {h₀ : ExceptHandler} {hds : List ExceptHandler} {l : List (Str × DS)} {lv : List (Value × (Addr → Value → Option Addr → TS))} (n : Nf X N sc) (c : Ctx X E k)
    (hb : ∀ (W : WX) (pn : List (Addr × Obj)) (xe : Value → Shared → Prop), Nf (X.tr pn xe) N sc → Ctx (X.tr pn xe) W k → PXB ga (X.tr pn xe) W body wb) (hh : HdsX ga X L (h₀ :: hds) l lv) (mb : MS wb) :
    PXS ga X E (.Try body (h₀ :: hds) [] [] pos) (tryS L wb l) := pxs_try c n.stk n.frm (fun W pn xe d => hb W pn xe n.tr d) hh mb.mono
end

/-! ### the ground of a law -/
def freeB (fa : List He.Fa) (x : Str) : Bool := fa.any fun f => match f with
  | .free y => decide (y = x)
  | _ => false
def gloB (fa : List He.Fa) (x : Str) : Bool := fa.any fun f => match f with
  | .glo y => decide (y = x)
  | _ => false
def excB (fa : List He.Fa) (x : Str) : Bool := fa.any fun f => match f with
  | .exc y => decide (y = x)
  | _ => false
def exmB (fa : List He.Fa) (x y : Str) (b : Bool) : Bool := fa.any fun f => match f with
  | .exm a c d => decide (a = x) && (decide (c = y) && decide (d = b))
  | _ => false
structure Gd (fa : List He.Fa) (fn : List He.DefD) (cs : List (Str × PyData)) (K : PySem.W.Frag) (mg : Str → Option Value) : Prop where
  c : He.SaysD fa fn K
  con : consOk cs K = true
  N : ∃ h : Heap, K.In h ∧ h.Ns mainGlobals mg
section
variable {fa : List He.Fa} {fn : List He.DefD} {cs : List (Str × PyData)} {K : PySem.W.Frag} {mg : Str → Option Value} {P : Program} {w : World} {base : Heap}
theorem Gd.free (g : Gd fa fn cs K mg) {x : Str} (h : freeB fa x = true) : mg x = none := by
  obtain ⟨H, h1, h2⟩ := g.N
  obtain ⟨f, hf, e⟩ := List.any_eq_true.mp h
  cases f with
  | free y =>
    have : y = x := of_decide_eq_true e
    subst this
    exact He.free_ok h1 h2 (g.c.facts hf)
  | _ => cases e
theorem Gd.glo (g : Gd fa fn cs K mg) {x : Str} (h : gloB fa x = true) : mg x = some (.ref (He.ga K x)) := by
  obtain ⟨H, h1, h2⟩ := g.N
  obtain ⟨f, hf, e⟩ := List.any_eq_true.mp h
  cases f with
  | glo y =>
    have : y = x := of_decide_eq_true e
    subst this
    exact He.glo_ok h1 h2 (g.c.facts hf)
  | _ => cases e
theorem Gd.bi (g : Gd fa fn cs K mg) (l : List Str) (h : (l.all fun x => freeB fa x) = true) : Bi l mg := fun x hx => g.free (List.all_eq_true.mp h x hx)
theorem Gd.cn (g : Gd fa fn cs K mg) {x : Str} {d : PyData} (hx : (x, d) ∈ cs) : ∃ u v, mg x = some u ∧ RelV v u ∧ ∀ B, Dq K B v d := by
  obtain ⟨H, h1, h2⟩ := g.N
  exact cons_ok h1 h2 g.con hx
theorem Gd.exc (g : Gd fa fn cs K mg) {x : Str} (h : excB fa x = true) : PySem.W.excIn K (He.ga K x) He.veBase "ValueError.__new__" = true ∧ PySem.W.keepIn K (.ref (He.ga K x)) = true ∧ PySem.W.subIn K (.ref (He.ga K x)) (.type "BaseException") = some true ∧ PySem.W.typeIn K (.ref (He.ga K x)) = some (.type "type") := by
  obtain ⟨f, hf, e⟩ := List.any_eq_true.mp h
  cases f with
  | exc y =>
    have : y = x := of_decide_eq_true e
    subst this
    exact He.exc_ok (g.c.facts hf)
  | _ => cases e
theorem Gd.exm (g : Gd fa fn cs K mg) {x y : Str} {b : Bool} (h : exmB fa x y b = true) : PySem.W.exmOne K (.ref (He.ga K x)) (.ref (He.ga K y)) = some b := by
  obtain ⟨f, hf, e⟩ := List.any_eq_true.mp h
  cases f with
  | exm u v c =>
    have e2 : (decide (u = x) && (decide (v = y) && decide (c = b))) = true := e
    simp only [Bool.and_eq_true, decide_eq_true_eq] at e2
    obtain ⟨rfl, rfl, rfl⟩ := e2
    exact He.exm_ok (g.c.facts hf)
  | _ => cases e
/-- a raise -/
theorem yraise {X : Cx} {E : WX} {x m : Str} {j k : Nat} {p p2 pos pos' : Pos} {N : List Str} {sc : Scope} (n : Nm X N sc) (c : Ctx X E k) (g : Gd fa fn cs X.K X.mg) (h1 : excB fa x = true := by decide +kernel) (h2 : gloB fa x = true := by decide +kernel) (hg : gB sc x = true := by decide +kernel) :
    PXS (He.ga X.K) X E (.Raise (some (.Call (.Name x p) [.Constant (.str m) j p2] [] pos)) none pos') (raiseS x) := by
  obtain ⟨e1, e2, e3, e4⟩ := g.exc h1
  obtain ⟨f1, f2, f3⟩ := gB_ok n hg
  exact pxs_raise c e1 (g.glo h2) e2 e3 e4 f1 f2
/-- one clause more -/
theorem yhd {X : Cx} {x : Str} {L : List Str} {b₀ : Stmt} {suite : List Stmt} {np pos' : Pos} {hds : List ExceptHandler} {l : List (Str × DS)} {lv : List (Value × (Addr → Value → Option Addr → TS))} {w : DS} {N : List Str} {sc : Scope} (n : Nf X N sc) (g : Gd fa fn cs X.K X.mg)
    (hs : ∀ (a : Addr) (oe : Obj) (pn : List (Addr × Obj)), Nf (X.suite a ((a, oe) :: pn)) N sc → PXB (He.ga X.K) (X.suite a ((a, oe) :: pn)) W0 (b₀ :: suite) w) (r : HdsX (He.ga X.K) X L hds l lv)
    (h2 : gloB fa x = true := by decide +kernel) (hg : gB sc x = true := by decide +kernel) (hx : (L.all fun y => exmB fa y x (decide (y = x))) = true := by decide +kernel) :
    HdsX (He.ga X.K) X L (.ExceptHandler (some (.Name x np)) none (b₀ :: suite) pos' :: hds) ((x, w) :: l) ((.ref (He.ga X.K x), fun _ _ _ => sT X.K (He.ga X.K) W0 w) :: lv) := by
  obtain ⟨f1, f2, f3⟩ := gB_ok n.toNm hg
  exact .cons f1 (g.glo h2) f2 (fun y hy => g.exm (List.all_eq_true.mp hx y hy)) (fun a oe pn => hs a oe pn n.suite) r
/-- a def of the ground -/
theorem Gd.fx (g : Gd fa fn cs K mg) {d : He.DefD} (i : Nat) (N ps : List Str) {ws : DS} {k m : Nat} (hi : fn[i]? = some d) (hd : d.dfl = []) (ha : d.at_ = (d.name, none)) (Sc : FnScope N ps d.scope) (hgl : gloB fa d.name = true) (hl : ps.length = m) (hw : MS ws)
    (hbd : ∀ (kV doc pm : Value) (an : Option Addr) (cdv ct : Value) (us : List Value), us.length = ps.length → bindArgs (PySem.W.fnOf d.name d.qual d.params d.body d.scope .none kV doc pm an cdv ct) ⟨us, []⟩ = pure (ps.zip us))
    (hb : ∀ (X : Cx) (E : WX), X.prog = P → X.w = w → X.K = K → X.mg = mg → X.base = base → Nf X N d.scope → Ctx X E k → PXB (He.ga K) X E d.body ws) : Fx P w K mg base (He.ga K) d.name (funW N.length ws) m (k + 1) := by
  obtain ⟨fd, F⟩ := g.c.def_ i hi
  have hfa : He.fAd K d.at_ = He.ga K d.name := by rw [ha]; rfl
  rw [hfa] at F
  have e0 : d.dvs K = [] := by unfold He.DefD.dvs; rw [hd]; rfl
  rw [e0] at F
  subst hl
  refine ⟨mono_fun hw.mono, _, fd, ps, fn_ok F Sc (fun X E a b c d e f h i j k' l => hb X E a b c d e ⟨⟨f, h, by rw [f]; exact Sc.nd⟩, i, j, k'⟩ l), g.glo hgl, F.kp, F.bindsN hbd, rfl⟩
/-- the law's own def: for every base -/
theorem Gd.fl (g : Gd fa fn cs K mg) {d : He.DefD} (i : Nat) (N ps : List Str) {ws : DS} {k m : Nat} (hi : fn[i]? = some d) (hd : d.dfl = []) (ha : d.at_ = (d.name, none)) (Sc : FnScope N ps d.scope) (hgl : gloB fa d.name = true) (hl : ps.length = m)
    (hbd : ∀ (kV doc pm : Value) (an : Option Addr) (cdv ct : Value) (us : List Value), us.length = ps.length → bindArgs (PySem.W.fnOf d.name d.qual d.params d.body d.scope .none kV doc pm an cdv ct) ⟨us, []⟩ = pure (ps.zip us))
    (hb : ∀ (P : Program) (w : World) (base : Heap) (X : Cx) (E : WX), X.prog = P → X.w = w → X.K = K → X.mg = mg → X.base = base → Nf X N d.scope → Ctx X E k → PXB (He.ga K) X E d.body ws) :
    ∃ fd, mg d.name = some (.ref (He.ga K d.name)) ∧ (∀ (s : Shared) (us : List Value), us.length = ps.length → BindsTo s fd ⟨us, []⟩ (ps.zip us)) ∧ ∀ (P : Program) (w : World) (base : Heap), FnOk P w K mg base (L2.CX P w) (k + 1) (He.ga K d.name) fd ps (spD K (He.ga K) (funW N.length ws) m) := by
  obtain ⟨fd, F⟩ := g.c.def_ i hi
  have hfa : He.fAd K d.at_ = He.ga K d.name := by rw [ha]; rfl
  rw [hfa] at F
  have e0 : d.dvs K = [] := by unfold He.DefD.dvs; rw [hd]; rfl
  rw [e0] at F
  subst hl
  exact ⟨fd, g.glo hgl, fun s us hu => F.bindsA hbd s us hu, fun P w base => fn_ok F Sc (fun X E a b c d e f h i j k' l => hb P w base X E a b c d e ⟨⟨f, h, by rw [f]; exact Sc.nd⟩, i, j, k'⟩ l)⟩
end
/-! ### the end -/
theorem no_cx {P : Program} {w : World} {K : PySem.W.Frag} {mg : Str → Option Value} {base : Heap} {k : Nat} {f : Addr} {fd : FuncData} {ps : List Str} {sp : Sp} (F : FnOk P w K mg base (L2.CX P w) k f fd ps sp) :
    FnOk P w K mg base L2.CX0 k f fd ps (fun vs H Q _ => sp vs H Q fun _ _ _ => False) :=
  ⟨fun vs H Q E h => F.len vs H Q _ h, fun A outer s H args us vs Q E hr he hb hv hs => codeAny_mono (F.run A outer s H args us vs Q _ hr he hb hv hs) fun r s' h => by
    cases r with
    | ok fl => cases fl <;> exact h
    | error e =>
      obtain ⟨a, B, H', cls, d, h1, h2, h3, h4, h5, h6, h7, h8⟩ := h
      exact h8.elim⟩
theorem sp_law {K : PySem.W.Frag} {ga : Str → Addr} {F : FS} (hF : ∀ ns : List Int, ns.length ≤ 63 → F [.s ns] [] (fun r _ => r = .d (.bool true)) (fun _ _ => False)) (mF : MonoF F) (H : Hp) (a : Addr) (ns : List Int) (hl : ns.length ≤ 63) (hS : SqL K H a (ns.map V.int)) :
    spD K ga F 1 [.ref a] H (fun v _ => v = .bl true) (fun _ _ _ => False) := by
  refine ⟨rfl, H, [], [], [.s ns], ⟨fun _ _ e => e, rfl, fun n o e => by simp at e, List.nodup_nil, fun a h => by simp at h⟩, .cons ⟨a, rfl, hS⟩ .nil, mF _ _ _ _ _ _ (fun r S' e v H' B' α' st r' => ?_) (fun _ _ z => z.elim) (hF ns hl)⟩
  subst e
  cases r'
  rfl
end DW

set_option Elab.async false
set_option linter.all false
set_option maxRecDepth 100000
set_option maxHeartbeats 4000000
set_option autoImplicit false
/-! DW12: small rules more. -/
namespace DW
open PySem L2
def negD : DV → Sto → Option DV
  | .d (.int i), _ => some (.d (.int (-i)))
  | _, _ => none
section
variable {ga : Str → Addr} {X : Cx} {E : WX} {a : Expr} {wa : DE} {pos : Pos}
theorem px_neg (ha : PX ga X E a wa) : PX ga X E (.UnaryOp .USub a pos) (op1W negD wa) := by
  refine ⟨fun env S k k' x x' hk hx h => ha.mono env S _ _ _ _ (fun y S1 ⟨z, e, h1⟩ => ⟨z, e, hk _ _ h1⟩) hx h, ⟨fun pins s σ H Q I h => (pe_un un_neg ha.run).run pins s σ H Q I ?_⟩⟩
  obtain ⟨env, S, B, α, re, w, h⟩ := h
  refine ⟨env, S, B, α, re, w, ha.mono env S _ _ _ _ (fun y S1 ⟨z, e, h1⟩ v1 H1 B1 α1 s1 r1 => ?_) (fun _ _ z => z) h⟩
  unfold negD at e
  split at e
  · cases e
    cases r1
    exact ⟨_, rfl, h1 _ _ _ _ s1 (.int _)⟩
  · cases e
end
end DW

set_option Elab.async false
set_option linter.all false
set_option maxRecDepth 100000
set_option maxHeartbeats 4000000
set_option autoImplicit false
/-! DB1: the semantics in Booleans: what is concrete is computed. -/
namespace DW
open PySem L2
abbrev BK := DV → Sto → Bool
abbrev BX := XV → Sto → Bool
structure BEnds where
  nx : DEnv → Sto → Bool
  rt : BK
  bk : DEnv → Sto → Bool
  ct : DEnv → Sto → Bool
  ex : DEnv → BX
def kP (k : BK) : DK := fun r S => k r S = true
def xP (k : BX) : DX := fun r S => k r S = true
def BEnds.P (D : BEnds) : DEnds := ⟨fun e S => D.nx e S = true, kP D.rt, fun e S => D.bk e S = true, fun e S => D.ct e S = true, fun e => xP (D.ex e)⟩
class QE (w : DE) where
  b : DEnv → Sto → BK → BX → Bool
  ok : ∀ env S k kx, b env S k kx = true → w env S (kP k) (xP kx)
class QT (w : DT) where
  b : DEnv → Sto → (Bool → Sto → Bool) → BX → Bool
  ok : ∀ env S k kx, b env S k kx = true → w env S (fun c S => k c S = true) (xP kx)
class QA (w : DA) where
  b : DEnv → Sto → (List DV → Sto → Bool) → BX → Bool
  ok : ∀ env S k kx, b env S k kx = true → w env S (fun c S => k c S = true) (xP kx)
class QO (w : DO) where
  b : DEnv → Sto → (Option Int → Sto → Bool) → BX → Bool
  ok : ∀ env S k kx, b env S k kx = true → w env S (fun c S => k c S = true) (xP kx)
class QS (w : DS) where
  b : DEnv → Sto → BEnds → Bool
  ok : ∀ env S D, b env S D = true → w env S D.P
class QG (g : DG) where
  b : DV → DEnv → Sto → (DEnv → Sto → Bool) → Bool
  ok : ∀ x env S k, b x env S k = true → g x env S (fun e S => k e S = true)
class QGs (g : DGs) where
  b : List DV → DEnv → Sto → (DEnv → Sto → Bool) → Bool
  ok : ∀ x env S k, b x env S k = true → g x env S (fun e S => k e S = true)
class QF (F : FS) where
  b : List DV → Sto → BK → BX → Bool
  ok : ∀ xs S k kx, b xs S k kx = true → F xs S (kP k) (xP kx)
class QH (l : List (Str × DS)) where
  b : List Str → XV → DEnv → Sto → BEnds → Bool
  ok : ∀ L x env S D, b L x env S D = true → handleS L l x env S D.P
/-! values forced -/
def frcN (n : Nat) (k : Nat → Bool) : Bool := match n with
  | 0 => k 0
  | m + 1 => k (m + 1)
theorem frcN_eq (n : Nat) (k : Nat → Bool) : frcN n k = k n := by cases n <;> rfl
def frcL : List Nat → (List Nat → Bool) → Bool
  | [], k => k []
  | x :: r, k => frcN x fun x' => frcL r fun r' => k (x' :: r')
theorem frcL_eq : ∀ (l : List Nat) (k : List Nat → Bool), frcL l k = k l
  | [], k => rfl
  | x :: r, k => by unfold frcL; rw [frcN_eq, frcL_eq r]
def frcS (s : Str) (k : Str → Bool) : Bool := frcL s.cps.toList fun l => k ⟨l.toArray⟩
theorem frcS_eq (s : Str) (k : Str → Bool) : frcS s k = k s := by unfold frcS; rw [frcL_eq]
def frcI (i : Int) (k : Int → Bool) : Bool := match i with
  | .ofNat n => frcN n fun n => k (.ofNat n)
  | .negSucc n => frcN n fun n => k (.negSucc n)
theorem frcI_eq (i : Int) (k : Int → Bool) : frcI i k = k i := by
  cases i with
  | ofNat n => exact frcN_eq n fun n => k (.ofNat n)
  | negSucc n => exact frcN_eq n fun n => k (.negSucc n)
mutual
def frcD : PyData → (PyData → Bool) → Bool
  | .none, k => k .none
  | .bool b, k => (match b with
    | true => k (.bool true)
    | false => k (.bool false))
  | .int i, k => frcI i fun i => k (.int i)
  | .str s, k => frcS s fun s => k (.str s)
  | .list ds, k => frcDs ds fun ds => k (.list ds)
  | .tuple ds, k => frcDs ds fun ds => k (.tuple ds)
  | .dict x, k => k (.dict x)
def frcDs : List PyData → (List PyData → Bool) → Bool
  | [], k => k []
  | d :: ds, k => frcD d fun d => frcDs ds fun ds => k (d :: ds)
end
mutual
theorem frcD_eq : ∀ (d : PyData) (k : PyData → Bool), frcD d k = k d
  | .none, k => by unfold frcD; rfl
  | .bool b, k => by cases b <;> (unfold frcD; rfl)
  | .int i, k => by unfold frcD; exact frcI_eq _ _
  | .str s, k => by unfold frcD; exact frcS_eq _ _
  | .list ds, k => by unfold frcD; exact frcDs_eq ds _
  | .tuple ds, k => by unfold frcD; exact frcDs_eq ds _
  | .dict x, k => by unfold frcD; rfl
theorem frcDs_eq : ∀ (d : List PyData) (k : List PyData → Bool), frcDs d k = k d
  | [], k => by unfold frcDs; rfl
  | d :: ds, k => by unfold frcDs; rw [frcD_eq d, frcDs_eq ds]
end
def frcV (x : DV) (k : DV → Bool) : Bool := match x with
  | .d d => frcD d fun d => k (.d d)
  | .p n => k (.p n)
  | .s ns => k (.s ns)
theorem frcV_eq (x : DV) (k : DV → Bool) : frcV x k = k x := by
  cases x with
  | d d => exact frcD_eq d _
  | p n => rfl
  | s n => rfl
section
variable {α : Type}
def oB (o : Option α) (f : α → Bool) : Bool := match o with
  | some x => f x
  | none => false
theorem oB_ok {o : Option α} {f : α → Bool} (h : oB o f = true) : ∃ x, o = some x ∧ f x = true := by
  cases o with
  | none => cases h
  | some x => exact ⟨x, rfl, h⟩
end
def boolB (x : DV) (f : Bool → Bool) : Bool := match x with
  | .d (.bool b) => f b
  | _ => false
theorem boolB_ok {x : DV} {f : Bool → Bool} (h : boolB x f = true) : ∃ b, x = .d (.bool b) ∧ f b = true := by
  unfold boolB at h
  split at h
  · exact ⟨_, rfl, h⟩
  · cases h
def intB (x : DV) (f : Int → Bool) : Bool := match x with
  | .d (.int b) => f b
  | _ => false
theorem intB_ok {x : DV} {f : Int → Bool} (h : intB x f = true) : ∃ b, x = .d (.int b) ∧ f b = true := by
  unfold intB at h
  split at h
  · exact ⟨_, rfl, h⟩
  · cases h
def strB (x : DV) (f : Str → Bool) : Bool := match x with
  | .d (.str b) => f b
  | _ => false
theorem strB_ok {x : DV} {f : Str → Bool} (h : strB x f = true) : ∃ b, x = .d (.str b) ∧ f b = true := by
  unfold strB at h
  split at h
  · exact ⟨_, rfl, h⟩
  · cases h
def lstB (o : Option SO) (f : List DV → Bool) : Bool := match o with
  | some (.lst xs) => f xs
  | _ => false
theorem lstB_ok {o : Option SO} {f : List DV → Bool} (h : lstB o f = true) : ∃ b, o = some (.lst b) ∧ f b = true := by
  unfold lstB at h
  split at h
  · exact ⟨_, rfl, h⟩
  · cases h
def ptrB (x : DV) (f : Nat → Bool) : Bool := match x with
  | .p n => f n
  | _ => false
theorem ptrB_ok {x : DV} {f : Nat → Bool} (h : ptrB x f = true) : ∃ b, x = .p b ∧ f b = true := by
  unfold ptrB at h
  split at h
  · exact ⟨_, rfl, h⟩
  · cases h
theorem cB {c x y : Bool} (h : (if c = true then x else y) = true) : if c = true then x = true else y = true := by cases c <;> exact h
/-! quicker operators -/
def catF (x y : Str) : Str := ⟨(x.cps.toList ++ y.cps.toList).toArray⟩
theorem catF_eq (x y : Str) : catF x y = x ++ y := by
  have := SX.S_cat x.cps.toList y.cps.toList
  rw [SX.S_tl, SX.S_tl] at this
  exact this.symm
def eqL : List Nat → List Nat → Bool
  | [], [] => true
  | x :: r, y :: q => Nat.beq x y && eqL r q
  | _, _ => false
theorem eqL_eq : ∀ (x y : List Nat), eqL x y = (x == y)
  | [], [] => rfl
  | x :: r, y :: q => by
    unfold eqL
    rw [eqL_eq r q, List.cons_beq_cons]
    congr 1
    cases h : Nat.beq x y
    · have : ¬ x = y := fun z => by rw [z, Nat.beq_refl] at h; cases h
      simp [this]
    · have := Nat.eq_of_beq_eq_true h
      simp [this]
  | [], y :: q => rfl
  | x :: r, [] => rfl
def eqSF (x y : Str) : Bool := eqL x.cps.toList y.cps.toList
theorem eqSF_eq (x y : Str) : eqSF x y = (x == y) := by unfold eqSF; rw [eqL_eq]; exact PyProof.Rows.toList_beq x y
mutual
def eqF : PyData → PyData → Bool
  | .str x, .str y => eqSF x y
  | .list xs, .list ys => eqFs xs ys
  | .tuple xs, .tuple ys => eqFs xs ys
  | x, y => PyData.eqv x y
def eqFs : List PyData → List PyData → Bool
  | [], [] => true
  | x :: xs, y :: ys => eqF x y && eqFs xs ys
  | [], _ :: _ => false
  | _ :: _, [] => false
end
mutual
theorem eqF_eq : ∀ (x y : PyData), eqF x y = PyData.eqv x y
  | .str x, y => by
    cases y with
    | str y => unfold eqF; rw [eqSF_eq]; rfl
    | _ => rfl
  | .list xs, y => by
    cases y with
    | list ys => unfold eqF; rw [eqFs_eq xs ys]; rfl
    | _ => rfl
  | .tuple xs, y => by
    cases y with
    | tuple ys => unfold eqF; rw [eqFs_eq xs ys]; rfl
    | _ => rfl
  | .none, _ => rfl
  | .bool _, _ => rfl
  | .int _, _ => rfl
  | .dict _, _ => rfl
theorem eqFs_eq : ∀ (x y : List PyData), eqFs x y = PyData.eqvAll x y
  | [], [] => rfl
  | x :: xs, y :: ys => by unfold eqFs; rw [eqF_eq x y, eqFs_eq xs ys]; rfl
  | [], _ :: _ => rfl
  | _ :: _, [] => rfl
end
class Fast2 (f : DV → DV → Sto → Option DV) where
  g : DV → DV → Sto → Option DV
  eq : ∀ x y S, g x y S = f x y S
instance (priority := low) {f} : Fast2 f := ⟨f, fun _ _ _ => rfl⟩
instance : Fast2 addD := ⟨fun x y S => match x, y with
  | .d (.str i), .d (.str j) => if Nat.ble (i.length + j.length) 1000000 = true then some (.d (.str (catF i j))) else none
  | x, y => addD x y S, fun x y S => by
    split
    · rename_i i j
      show _ = if i.length + j.length ≤ 1000000 then some (DV.d (.str (i ++ j))) else none
      by_cases h : i.length + j.length ≤ 1000000
      · rw [if_pos (Nat.ble_eq_true_of_le h), if_pos h, catF_eq]
      · rw [if_neg (fun z => h (Nat.le_of_ble_eq_true z)), if_neg h]
    · rfl⟩
instance : Fast2 eqD := ⟨fun x y S => match dataD x S, dataD y S with
  | some a, some b => if SeqAt.shaped a = true ∧ SeqAt.shaped b = true then some (.d (.bool (eqF a b))) else none
  | _, _ => none, fun x y S => by unfold eqD; (simp only [eqF_eq]) <;> (cases dataD x S <;> cases dataD y S <;> rfl)⟩
instance : Fast2 neD := ⟨fun x y S => match dataD x S, dataD y S with
  | some a, some b => if SeqAt.shaped a = true ∧ SeqAt.shaped b = true then some (.d (.bool (!eqF a b))) else none
  | _, _ => none, fun x y S => by unfold neD; (simp only [eqF_eq]) <;> (cases dataD x S <;> cases dataD y S <;> rfl)⟩
instance {neg} : Fast2 (inD neg) := ⟨fun x y S => match x, seqD y S with
  | .d a, some (_, ds) => if flatD a = true ∧ ds.all flatD = true then some (.d (.bool (if neg then !ds.any (fun z => eqF z a) else ds.any (fun z => eqF z a)))) else none
  | _, _ => none, fun x y S => by unfold inD; (simp only [eqF_eq]) <;> (cases x <;> cases seqD y S <;> rfl)⟩
def fjoin (s : Str) (ys : List Str) : Str := ⟨(TL.joinL s.cps.toList (ys.map fun y => y.cps.toList)).toArray⟩
theorem fjoin_eq (s : Str) (ys : List Str) : fjoin s ys = Txt.join s ys := by
  have e : (ys.map fun y => y.cps.toList).map SX.S = ys := by
    induction ys with
    | nil => rfl
    | cons y r ih => simp only [List.map_cons, ih, SX.S_tl]
  have := SX.join_S s.cps.toList (ys.map fun y => y.cps.toList)
  rw [SX.S_tl, e] at this
  exact this.symm
def fsplit (x y : Str) : List Str := if (!y.cps.toList.isEmpty && y.cps.toList.all (· < 256)) = true then (TL.spl y.cps.toList 0 [] x.cps.toList).map fun l => ⟨l.toArray⟩ else Txt.split x y
theorem fsplit_eq (x y : Str) : fsplit x y = Txt.split x y := by
  unfold fsplit
  split
  · rename_i h
    obtain ⟨h1, h2⟩ := two h
    have := SX.split_S (a := x.cps.toList) (b := y.cps.toList) (fun z => by rw [z] at h1; cases h1) h2
    rw [SX.S_tl, SX.S_tl] at this
    exact this.symm
  · rfl
section
variable {a b c : DE} {t u : DT} {r : DA} {s v : DS} {o l h : DO} {g : DG} {gs : DGs} {F : FS}
theorem id_x (k : BX) : ∀ r S, xP k r S → xP k r S := fun _ _ z => z
instance {i} : QE (varW i) := ⟨fun env S k _ => match env[i]? with
  | some (some x) => k x S
  | _ => false, fun env S k kx h => by
    split at h
    · exact ⟨_, by assumption, h⟩
    · cases h⟩
instance {x} : QE (cW x) := ⟨fun _ S k _ => k (.d x) S, fun _ _ _ _ h => h⟩
instance {f} [Fast2 f] [ME a] [ME b] [QE a] [QE b] : QE (op2W f a b) := ⟨fun env S k kx => QE.b a env S (fun x S1 => QE.b b env S1 (fun y S2 => oB (Fast2.g f x y S2) fun z => k z S2) kx) kx,
  fun env S k kx h => ME.mono (w := a) _ _ _ _ _ _ (fun x S1 h1 => ME.mono (w := b) _ _ _ _ _ _ (fun y S2 h2 => by
    obtain ⟨z, e, q⟩ := oB_ok h2
    exact ⟨z, (Fast2.eq x y S2).symm.trans e, q⟩) (id_x kx) (QE.ok (w := b) _ _ _ _ h1)) (id_x kx) (QE.ok (w := a) _ _ _ _ h)⟩
instance {f} [ME a] [QE a] : QE (op1W f a) := ⟨fun env S k kx => QE.b a env S (fun x S1 => oB (f x S1) fun z => k z S1) kx,
  fun env S k kx h => ME.mono (w := a) _ _ _ _ _ _ (fun x S1 h1 => oB_ok h1) (id_x kx) (QE.ok (w := a) _ _ _ _ h)⟩
instance [ME a] [QE a] : QT (testW a) := ⟨fun env S k kx => QE.b a env S (fun x S1 => boolB x fun z => k z S1) kx,
  fun env S k kx h => ME.mono (w := a) _ _ _ _ _ _ (fun x S1 h1 => boolB_ok h1) (id_x kx) (QE.ok (w := a) _ _ _ _ h)⟩
instance [MT t] [MT u] [QT t] [QT u] : QT (andW t u) := ⟨fun env S k kx => QT.b t env S (fun c S1 => if c = true then QT.b u env S1 k kx else k false S1) kx,
  fun env S k kx h => MT.mono (w := t) _ _ _ _ _ _ (fun c S1 h1 => by
    cases c with
    | true => exact QT.ok (w := u) _ _ _ _ h1
    | false => exact h1) (id_x kx) (QT.ok (w := t) _ _ _ _ h)⟩
instance [MT t] [MT u] [QT t] [QT u] : QT (orW t u) := ⟨fun env S k kx => QT.b t env S (fun c S1 => if c = true then k true S1 else QT.b u env S1 k kx) kx,
  fun env S k kx h => MT.mono (w := t) _ _ _ _ _ _ (fun c S1 h1 => by
    cases c with
    | false => exact QT.ok (w := u) _ _ _ _ h1
    | true => exact h1) (id_x kx) (QT.ok (w := t) _ _ _ _ h)⟩
instance [QT t] : QT (notW t) := ⟨fun env S k kx => QT.b t env S (fun c S1 => k (!c) S1) kx, fun env S k kx h => QT.ok (w := t) _ _ _ _ h⟩
instance : QT yesT := ⟨fun _ S k _ => k true S, fun _ _ _ _ h => h⟩
instance [ME a] [ME b] [QE a] [QE b] : QE (andVW a b) := ⟨fun env S k kx => QE.b a env S (fun x S1 => boolB x fun c => if c = true then QE.b b env S1 k kx else k (.d (.bool false)) S1) kx,
  fun env S k kx h => ME.mono (w := a) _ _ _ _ _ _ (fun x S1 h1 => by
    obtain ⟨c, e, h2⟩ := boolB_ok h1
    refine ⟨c, e, ?_⟩
    cases c with
    | true => exact QE.ok (w := b) _ _ _ _ h2
    | false => exact h2) (id_x kx) (QE.ok (w := a) _ _ _ _ h)⟩
instance [ME a] [ME b] [QE a] [QE b] : QE (orVW a b) := ⟨fun env S k kx => QE.b a env S (fun x S1 => boolB x fun c => if c = true then k (.d (.bool true)) S1 else QE.b b env S1 k kx) kx,
  fun env S k kx h => ME.mono (w := a) _ _ _ _ _ _ (fun x S1 h1 => by
    obtain ⟨c, e, h2⟩ := boolB_ok h1
    refine ⟨c, e, ?_⟩
    cases c with
    | false => exact QE.ok (w := b) _ _ _ _ h2
    | true => exact h2) (id_x kx) (QE.ok (w := a) _ _ _ _ h)⟩
instance [ME a] [QE a] : QE (notVW a) := ⟨fun env S k kx => QE.b a env S (fun x S1 => boolB x fun c => k (.d (.bool (!c))) S1) kx,
  fun env S k kx h => ME.mono (w := a) _ _ _ _ _ _ (fun x S1 h1 => boolB_ok h1) (id_x kx) (QE.ok (w := a) _ _ _ _ h)⟩
instance [MT t] [ME a] [ME b] [QT t] [QE a] [QE b] : QE (ifW t a b) := ⟨fun env S k kx => QT.b t env S (fun c S1 => if c = true then QE.b a env S1 k kx else QE.b b env S1 k kx) kx,
  fun env S k kx h => MT.mono (w := t) _ _ _ _ _ _ (fun c S1 h1 => by
    cases c with
    | true => exact QE.ok (w := a) _ _ _ _ h1
    | false => exact QE.ok (w := b) _ _ _ _ h1) (id_x kx) (QT.ok (w := t) _ _ _ _ h)⟩
instance : QA nilA := ⟨fun _ S k _ => k [] S, fun _ _ _ _ h => h⟩
instance [ME a] [MA r] [QE a] [QA r] : QA (consA a r) := ⟨fun env S k kx => QE.b a env S (fun x S1 => frcV x fun x => QA.b r env S1 (fun xs S2 => k (x :: xs) S2) kx) kx,
  fun env S k kx h => ME.mono (w := a) _ _ _ _ _ _ (fun x S1 h1 => by
    have h1 := (frcV_eq x _).symm.trans h1
    exact QA.ok (w := r) _ _ _ _ h1) (id_x kx) (QE.ok (w := a) _ _ _ _ h)⟩
instance {f f'} [ME a] [ME b] [ME c] [QE a] [QE b] [QE c] : QE (chainW f f' a b c) := ⟨fun env S k kx => QE.b a env S (fun x S1 => QE.b b env S1 (fun y S2 => oB (f x y S2) fun z => boolB z fun c' => if c' = true then QE.b c env S2 (fun z S3 => oB (f' y z S3) fun u => k u S3) kx else k (.d (.bool false)) S2) kx) kx,
  fun env S k kx h => ME.mono (w := a) _ _ _ _ _ _ (fun x S1 h1 => ME.mono (w := b) _ _ _ _ _ _ (fun y S2 h2 => by
    obtain ⟨z, e, h3⟩ := oB_ok h2
    obtain ⟨c', e2, h4⟩ := boolB_ok h3
    subst e2
    refine ⟨c', e, ?_⟩
    cases c' with
    | true => exact ME.mono (w := c) _ _ _ _ _ _ (fun y S2 h2 => oB_ok h2) (id_x kx) (QE.ok (w := c) _ _ _ _ h4)
    | false => exact h4) (id_x kx) (QE.ok (w := b) _ _ _ _ h1)) (id_x kx) (QE.ok (w := a) _ _ _ _ h)⟩
theorem leB {a b : Nat} {c : Bool} (h : (Nat.ble a b && c) = true) : a ≤ b ∧ c = true := by
  obtain ⟨h1, h2⟩ := two h
  exact ⟨Nat.le_of_ble_eq_true h1, h2⟩
instance [MA r] [QA r] : QE (tupW r) := ⟨fun env S k kx => QA.b r env S (fun xs S1 => oB (pures xs) fun ds => Nat.ble ds.length 1000000 && k (.d (.tuple ds)) S1) kx,
  fun env S k kx h => MA.mono (w := r) _ _ _ _ _ _ (fun xs S1 h1 => (oB_ok h1).imp fun ds q => ⟨q.1, leB q.2⟩) (id_x kx) (QA.ok (w := r) _ _ _ _ h)⟩
instance [MA r] [QA r] : QE (lstW r) := ⟨fun env S k kx => QA.b r env S (fun xs S1 => oB (pures xs) fun ds => Nat.ble ds.length 1000000 && k (.d (.list ds)) S1) kx,
  fun env S k kx h => MA.mono (w := r) _ _ _ _ _ _ (fun xs S1 h1 => (oB_ok h1).imp fun ds q => ⟨q.1, leB q.2⟩) (id_x kx) (QA.ok (w := r) _ _ _ _ h)⟩
instance [MA r] [QA r] : QE (newLW r) := ⟨fun env S k kx => QA.b r env S (fun xs S1 => Nat.ble xs.length 1000000 && k (.p S1.length) (S1 ++ [.lst xs])) kx,
  fun env S k kx h => MA.mono (w := r) _ _ _ _ _ _ (fun xs S1 h1 => leB h1) (id_x kx) (QA.ok (w := r) _ _ _ _ h)⟩
instance [ME a] [QE a] : QE (fzW a) := ⟨fun env S k kx => QE.b a env S (fun x S1 => ptrB x fun n => lstB S1[n]? fun xs => oB (pures xs) fun ds => k (.d (.list ds)) (S1.set n .gone)) kx,
  fun env S k kx h => ME.mono (w := a) _ _ _ _ _ _ (fun x S1 h1 => by
    obtain ⟨n, e, h2⟩ := ptrB_ok h1
    obtain ⟨xs, e2, h3⟩ := lstB_ok h2
    obtain ⟨ds, e3, h4⟩ := oB_ok h3
    exact ⟨n, xs, ds, e, e2, e3, h4⟩) (id_x kx) (QE.ok (w := a) _ _ _ _ h)⟩
instance {f} [MA r] [QA r] : QE (callNW f r) := ⟨fun env S k kx => QA.b r env S (fun xs S1 => oB (f xs S1) fun z => k z S1) kx,
  fun env S k kx h => MA.mono (w := r) _ _ _ _ _ _ (fun x S1 h1 => oB_ok h1) (id_x kx) (QA.ok (w := r) _ _ _ _ h)⟩
instance : QO noPartW := ⟨fun _ S k _ => k none S, fun _ _ _ _ h => h⟩
instance [ME a] [QE a] : QO (partW a) := ⟨fun env S k kx => QE.b a env S (fun x S1 => intB x fun i => k (some i) S1) kx,
  fun env S k kx h => ME.mono (w := a) _ _ _ _ _ _ (fun x S1 h1 => intB_ok h1) (id_x kx) (QE.ok (w := a) _ _ _ _ h)⟩
instance [ME a] [MO l] [MO h] [QE a] [QO l] [QO h] : QE (sliceW a l h) := ⟨fun env S k kx => QE.b a env S (fun x S1 => QO.b l env S1 (fun i S2 => QO.b h env S2 (fun j S3 => oB (cutD x i j) fun z => k z S3) kx) kx) kx,
  fun env S k kx q => ME.mono (w := a) _ _ _ _ _ _ (fun x S1 h1 => MO.mono (w := l) _ _ _ _ _ _ (fun i S2 h2 => MO.mono (w := h) _ _ _ _ _ _ (fun j S3 h3 => oB_ok h3) (id_x kx) (QO.ok (w := h) _ _ _ _ h2)) (id_x kx) (QO.ok (w := l) _ _ _ _ h1)) (id_x kx) (QE.ok (w := a) _ _ _ _ q)⟩
instance [ME a] [ME b] [QE a] [QE b] : QE (splitW a b) := ⟨fun env S k kx => QE.b a env S (fun x S1 => strB x fun s => QE.b b env S1 (fun y S2 => strB y fun t => !(t.length == 0) && (Nat.ble s.length 1000000 && k (.d (.list ((fsplit s t).map .str))) S2)) kx) kx,
  fun env S k kx h => ME.mono (w := a) _ _ _ _ _ _ (fun x S1 h1 => (strB_ok h1).imp fun s q => ⟨q.1, ME.mono (w := b) _ _ _ _ _ _ (fun y S2 h2 => by
    obtain ⟨t, e, q⟩ := strB_ok h2
    exact ⟨t, e, nb (two q).1, by have z := leB (two q).2; rw [fsplit_eq] at z; exact z⟩) (id_x kx) (QE.ok (w := b) _ _ _ _ q.2)⟩) (id_x kx) (QE.ok (w := a) _ _ _ _ h)⟩
instance [ME a] [ME b] [QE a] [QE b] : QE (joinW a b) := ⟨fun env S k kx => QE.b a env S (fun x S1 => strB x fun s => QE.b b env S1 (fun y S2 => oB (seqD y S2) fun z => oB (strsD z.2) fun ys => Nat.ble ((ys.map (·.length)).sum + ys.length * s.length) 16777216 && k (.d (.str (fjoin s ys))) S2) kx) kx,
  fun env S k kx h => ME.mono (w := a) _ _ _ _ _ _ (fun x S1 h1 => (strB_ok h1).imp fun s q => ⟨q.1, ME.mono (w := b) _ _ _ _ _ _ (fun y S2 h2 => by
    obtain ⟨⟨c, ds⟩, e, h3⟩ := oB_ok h2
    obtain ⟨ys, e2, h4⟩ := oB_ok h3
    exact ⟨c, ds, ys, e, e2, by have z := leB h4; rw [fjoin_eq] at z; exact z⟩) (id_x kx) (QE.ok (w := b) _ _ _ _ q.2)⟩) (id_x kx) (QE.ok (w := a) _ _ _ _ h)⟩
instance [ME a] [QE a] : QE (lrgW a) := ⟨fun env S k kx => QE.b a env S (fun x S1 => intB x fun n => decide (0 ≤ n) && (decide (n ≤ 100000) && k (.d (.list (rgD 0 n))) S1)) kx,
  fun env S k kx h => ME.mono (w := a) _ _ _ _ _ _ (fun x S1 h1 => (intB_ok h1).imp fun n q => ⟨q.1, of_decide_eq_true (two q.2).1, of_decide_eq_true (two (two q.2).2).1, (two (two q.2).2).2⟩) (id_x kx) (QE.ok (w := a) _ _ _ _ h)⟩
end
/-! statements -/
section
variable {a b c : DE} {t u : DT} {r : DA} {s v : DS} {g : DG} {gs : DGs} {F : FS}
theorem BEnds.wnx {D : BEnds} {f : DEnv → Sto → Bool} {f' : DEnv → Sto → Prop} (h : ∀ e S, f e S = true → f' e S) : DEnds.le ({ D with nx := f } : BEnds).P { D.P with nx := f' } := ⟨h, fun _ _ z => z, fun _ _ z => z, fun _ _ z => z, fun _ _ _ z => z⟩
instance : QS nextS := ⟨fun env S D => D.nx env S, fun _ _ _ h => h⟩
instance [MS s] [MS v] [QS s] [QS v] : QS (seqS s v) := ⟨fun env S D => QS.b s env S { D with nx := fun e S => QS.b v e S D }, fun env S D h => MS.mono (w := s) _ _ _ _ (BEnds.wnx fun e S z => QS.ok (w := v) _ _ _ z) (QS.ok (w := s) _ _ _ h)⟩
instance {i} [ME a] [QE a] : QS (asgS i a) := ⟨fun env S D => QE.b a env S (fun x S1 => frcV x fun x => D.nx (env.set i (some x)) S1) (D.ex env), fun env S D h => ME.mono (w := a) _ _ _ _ _ _ (fun x S1 h1 => (frcV_eq x fun x => D.nx (env.set i (some x)) S1).symm.trans h1) (fun _ _ z => z) (QE.ok (w := a) _ _ _ _ h)⟩
instance [QE a] : QS (retS a) := ⟨fun env S D => QE.b a env S D.rt (D.ex env), fun env S D h => QE.ok (w := a) _ _ _ _ h⟩
instance : QS retN := ⟨fun _ S D => D.rt (.d .none) S, fun _ _ _ h => h⟩
instance [MT t] [QT t] [QS s] [QS v] : QS (ifS t s v) := ⟨fun env S D => QT.b t env S (fun c S1 => if c = true then QS.b s env S1 D else QS.b v env S1 D) (D.ex env),
  fun env S D h => MT.mono (w := t) _ _ _ _ _ _ (fun c S1 h1 => by
    cases c with
    | true => exact QS.ok (w := s) _ _ _ h1
    | false => exact QS.ok (w := v) _ _ _ h1) (fun _ _ z => z) (QT.ok (w := t) _ _ _ _ h)⟩
instance [QE a] : QS (dropS a) := ⟨fun env S D => QE.b a env S (fun _ S1 => D.nx env S1) (D.ex env), fun env S D h => QE.ok (w := a) _ _ _ _ h⟩
instance {i} : QG (nameG i) := ⟨fun x env S k => k (env.set i (some x)) S, fun _ _ _ _ h => h⟩
instance : QGs nilGs := ⟨fun xs env S k => xs.isEmpty && k env S, fun xs env S k h => by
  obtain ⟨h1, h2⟩ := two h
  cases xs with
  | nil => exact ⟨rfl, h2⟩
  | cons x r => cases h1⟩
instance [MG g] [QG g] [QGs gs] : QGs (consGs g gs) := ⟨fun xs env S k => match xs with
  | x :: ys => QG.b g x env S fun e S => QGs.b gs ys e S k
  | [] => false, fun xs env S k h => by
    cases xs with
    | nil => cases h
    | cons x ys => exact ⟨x, ys, rfl, MG.mono (w := g) _ _ _ _ _ (fun e S z => QGs.ok (g := gs) _ _ _ _ z) (QG.ok (g := g) _ _ _ _ h)⟩⟩
def tupB (x : DV) (n : Nat) (f : List DV → Bool) : Bool := match x with
  | .d (.tuple xs) => Nat.beq xs.length n && f (xs.map .d)
  | _ => false
instance {n} [QGs gs] : QG (tupG n gs) := ⟨fun x env S k => tupB x n fun xs => QGs.b gs xs env S k, fun x env S k h => by
  unfold tupB at h
  split at h
  · rename_i xs
    obtain ⟨h1, h2⟩ := two h
    exact ⟨xs, rfl, Nat.eq_of_beq_eq_true h1, QGs.ok (g := gs) _ _ _ _ h2⟩
  · cases h⟩
instance [ME a] [QE a] [QG g] : QS (tgtS a g) := ⟨fun env S D => QE.b a env S (fun x S1 => QG.b g x env S1 D.nx) (D.ex env), fun env S D h => ME.mono (w := a) _ _ _ _ _ _ (fun x S1 z => QG.ok (g := g) _ _ _ _ z) (fun _ _ z => z) (QE.ok (w := a) _ _ _ _ h)⟩
instance {n} [MA r] [QA r] [QGs gs] : QS (tgtNS n r gs) := ⟨fun env S D => QA.b r env S (fun xs S1 => Nat.beq xs.length n && (Nat.ble n 1000 && QGs.b gs xs env S1 D.nx)) (D.ex env), fun env S D h => MA.mono (w := r) _ _ _ _ _ _ (fun x S1 z => ⟨Nat.eq_of_beq_eq_true (two z).1, (leB (two z).2).1, QGs.ok (g := gs) _ _ _ _ (leB (two z).2).2⟩) (fun _ _ z => z) (QA.ok (w := r) _ _ _ _ h)⟩
instance {i j} [MA r] [QA r] : QS (par2S i j r) := ⟨fun env S D => QA.b r env S (fun xs S1 => match xs with
  | [x, y] => D.nx ((env.set i (some x)).set j (some y)) S1
  | _ => false) (D.ex env), fun env S D h => MA.mono (w := r) _ _ _ _ _ _ (fun xs S1 z => by
    split at z
    · exact ⟨_, _, rfl, z⟩
    · cases z) (fun _ _ z => z) (QA.ok (w := r) _ _ _ _ h)⟩
instance {i j l} [MA r] [QA r] : QS (par3S i j l r) := ⟨fun env S D => QA.b r env S (fun xs S1 => match xs with
  | [x, y, z] => D.nx (((env.set i (some x)).set j (some y)).set l (some z)) S1
  | _ => false) (D.ex env), fun env S D h => MA.mono (w := r) _ _ _ _ _ _ (fun xs S1 z => by
    split at z
    · exact ⟨_, _, _, rfl, z⟩
    · cases z) (fun _ _ z => z) (QA.ok (w := r) _ _ _ _ h)⟩
instance [ME a] [ME b] [ME c] [QE a] [QE b] [QE c] : QS (setLS a b c) := ⟨fun env S D => QE.b a env S (fun v S1 => QE.b b env S1 (fun o S2 => QE.b c env S2 (fun i S3 => ptrB o fun n => intB i fun k => lstB S3[n]? fun xs => oB (ixN xs.length k) fun j => D.nx env (S3.set n (.lst (xs.set j v)))) (D.ex env)) (D.ex env)) (D.ex env),
  fun env S D h => ME.mono (w := a) _ _ _ _ _ _ (fun v S1 h1 => ME.mono (w := b) _ _ _ _ _ _ (fun o S2 h2 => ME.mono (w := c) _ _ _ _ _ _ (fun i S3 h3 => by
    obtain ⟨n, e1, h4⟩ := ptrB_ok h3
    obtain ⟨k, e2, h5⟩ := intB_ok h4
    obtain ⟨xs, e3, h6⟩ := lstB_ok h5
    obtain ⟨j, e4, h7⟩ := oB_ok h6
    exact ⟨n, xs, k, j, e1, e2, e3, e4, h7⟩) (fun _ _ z => z) (QE.ok (w := c) _ _ _ _ h2)) (fun _ _ z => z) (QE.ok (w := b) _ _ _ _ h1)) (fun _ _ z => z) (QE.ok (w := a) _ _ _ _ h)⟩
instance [ME a] [ME b] [QE a] [QE b] : QS (appS a b) := ⟨fun env S D => QE.b a env S (fun o S1 => ptrB o fun n => lstB S1[n]? fun _ => QE.b b env S1 (fun v S2 => lstB S2[n]? fun xs => Nat.ble xs.length 1000000 && D.nx env (S2.set n (.lst (xs ++ [v])))) (D.ex env)) (D.ex env),
  fun env S D h => ME.mono (w := a) _ _ _ _ _ _ (fun o S1 h1 => by
    obtain ⟨n, e1, h2⟩ := ptrB_ok h1
    obtain ⟨ys, e2, h3⟩ := lstB_ok h2
    exact ⟨n, ys, e1, e2, ME.mono (w := b) _ _ _ _ _ _ (fun v S2 h4 => by
      obtain ⟨xs, e3, h5⟩ := lstB_ok h4
      exact ⟨xs, e3, leB h5⟩) (fun _ _ z => z) (QE.ok (w := b) _ _ _ _ h3)⟩) (fun _ _ z => z) (QE.ok (w := a) _ _ _ _ h)⟩
instance {x} : QS (raiseS x) := ⟨fun env S D => D.ex env (.cls x) S, fun _ _ _ h => h⟩
instance [QS s] {N} : QF (funW N s) := ⟨fun args S k kx => QS.b s (args.map some ++ List.replicate (N - args.length) none) S ⟨fun _ S' => k (.d .none) S', k, fun _ _ => false, fun _ _ => false, fun _ => kx⟩, fun args S k kx h => by
  have := QS.ok (w := s) _ _ _ h
  exact (this : s _ _ ⟨_, _, _, _, _⟩) |> fun z => by
    unfold funW
    have e : (BEnds.P ⟨fun _ S' => k (.d .none) S', k, fun _ _ => false, fun _ _ => false, fun _ => kx⟩) = ⟨fun _ S' => kP k (.d .none) S', kP k, fun _ _ => False, fun _ _ => False, fun _ => xP kx⟩ := by
      unfold BEnds.P
      simp [kP, xP]
    rw [e] at this
    exact this⟩
/-! iteration -/
def notPB : DV → Bool
  | .p _ => false
  | _ => true
theorem notPB_ok {x : DV} (h : notPB x = true) : notP x := by cases x <;> first | trivial | cases h
instance [ME a] [QE a] : QA (seqI a) := ⟨fun env S k kx => QE.b a env S (fun x S1 => notPB x && oB (seqD x S1) fun z => k (z.2.map .d) S1) kx, fun env S k kx h => ME.mono (w := a) _ _ _ _ _ _ (fun x S1 z => by
  obtain ⟨h1, h2⟩ := two z
  obtain ⟨⟨c, ds⟩, e, h3⟩ := oB_ok h2
  exact ⟨notPB_ok h1, c, ds, e, h3⟩) (id_x kx) (QE.ok (w := a) _ _ _ _ h)⟩
instance [ME a] [QE a] : QA (enumI a) := ⟨fun env S k kx => QE.b a env S (fun x S1 => notPB x && oB (seqD x S1) fun z => k (enD 0 z.2) S1) kx, fun env S k kx h => ME.mono (w := a) _ _ _ _ _ _ (fun x S1 z => by
  obtain ⟨h1, h2⟩ := two z
  obtain ⟨⟨c, ds⟩, e, h3⟩ := oB_ok h2
  exact ⟨notPB_ok h1, c, ds, e, h3⟩) (id_x kx) (QE.ok (w := a) _ _ _ _ h)⟩
instance [ME a] [QE a] : QA (rng1I a) := ⟨fun env S k kx => QE.b a env S (fun x S1 => intB x fun n => decide (-100000 ≤ n) && (decide (n ≤ 100000) && k ((rgD 0 n).map .d) S1)) kx, fun env S k kx h => ME.mono (w := a) _ _ _ _ _ _ (fun x S1 z => (intB_ok z).imp fun n q => ⟨q.1, of_decide_eq_true (two q.2).1, of_decide_eq_true (two (two q.2).2).1, (two (two q.2).2).2⟩) (id_x kx) (QE.ok (w := a) _ _ _ _ h)⟩
instance [ME a] [ME b] [QE a] [QE b] : QA (rng2I a b) := ⟨fun env S k kx => QE.b a env S (fun x S1 => QE.b b env S1 (fun y S2 => intB x fun m => intB y fun n => (decide (-100000 ≤ m) && decide (m ≤ 100000)) && ((decide (-100000 ≤ n) && decide (n ≤ 100000)) && k ((rgD m n).map .d) S2)) kx) kx, fun env S k kx h => ME.mono (w := a) _ _ _ _ _ _ (fun x S1 h1 => ME.mono (w := b) _ _ _ _ _ _ (fun y S2 z => by
  obtain ⟨m, e1, z⟩ := intB_ok z
  obtain ⟨n, e2, z⟩ := intB_ok z
  obtain ⟨z1, z⟩ := two z
  obtain ⟨z2, z⟩ := two z
  exact ⟨m, n, e1, e2, of_decide_eq_true (two z1).1, of_decide_eq_true (two z1).2, of_decide_eq_true (two z2).1, of_decide_eq_true (two z2).2, z⟩) (id_x kx) (QE.ok (w := b) _ _ _ _ h1)) (id_x kx) (QE.ok (w := a) _ _ _ _ h)⟩
instance [ME a] [ME b] [QE a] [QE b] : QA (zipI a b) := ⟨fun env S k kx => QE.b a env S (fun x S1 => QE.b b env S1 (fun y S2 => notPB x && (notPB y && oB (seqD x S1) fun z => oB (seqD y S2) fun u => (z.1 == u.1) && k (zipD z.2 u.2) S2)) kx) kx, fun env S k kx h => ME.mono (w := a) _ _ _ _ _ _ (fun x S1 h1 => ME.mono (w := b) _ _ _ _ _ _ (fun y S2 z => by
  obtain ⟨z1, z⟩ := two z
  obtain ⟨z2, z⟩ := two z
  obtain ⟨⟨c, ds⟩, e1, z⟩ := oB_ok z
  obtain ⟨⟨c', es⟩, e2, z⟩ := oB_ok z
  obtain ⟨z3, z⟩ := two z
  have : c = c' := eq_of_beq z3
  subst this
  exact ⟨notPB_ok z1, notPB_ok z2, c, ds, es, e1, e2, z⟩) (id_x kx) (QE.ok (w := b) _ _ _ _ h1)) (id_x kx) (QE.ok (w := a) _ _ _ _ h)⟩
def loopB (g : DV → DEnv → Sto → (DEnv → Sto → Bool) → Bool) (b : DEnv → Sto → BEnds → Bool) : List DV → DEnv → Sto → BEnds → Bool
  | [], env, S, D => D.nx env S
  | x :: r, env, S, D => frcV x fun x => g x env S fun env1 S1 => b env1 S1 { D with nx := fun e s => loopB g b r e s D, ct := fun e s => loopB g b r e s D, bk := D.nx }
theorem loopB_ok [MG g] [MS s] [QG g] [QS s] : ∀ (xs : List DV) env S (D : BEnds), loopB (QG.b g) (QS.b s) xs env S D = true → loopL g s xs env S D.P
  | [], _, _, _, h => h
  | x :: r, env, S, D, h => by
   have h := (frcV_eq x _).symm.trans h
   exact MG.mono (w := g) _ _ _ _ _ (fun e S z => by
    have q := QS.ok (w := s) _ _ _ z
    refine MS.mono (w := s) _ _ _ _ ?_ q
    exact ⟨fun e s z => loopB_ok r _ _ _ z, fun _ _ z => z, fun _ _ z => z, fun e s z => loopB_ok r _ _ _ z, fun _ _ _ z => z⟩) (QG.ok (g := g) _ _ _ _ h)
instance [MA r] [MG g] [MS s] [QA r] [QG g] [QS s] : QS (forS r g s) := ⟨fun env S D => QA.b r env S (fun xs S1 => loopB (QG.b g) (QS.b s) xs env S1 D) (D.ex env), fun env S D h => MA.mono (w := r) _ _ _ _ _ _ (fun xs S1 z => loopB_ok xs _ _ _ z) (fun _ _ z => z) (QA.ok (w := r) _ _ _ _ h)⟩
def whileB (t : DEnv → Sto → (Bool → Sto → Bool) → BX → Bool) (b : DEnv → Sto → BEnds → Bool) : Nat → DEnv → Sto → BEnds → Bool
  | 0, _, _, _ => false
  | n + 1, env, S, D => t env S (fun c S1 => if c = true then b env S1 { D with nx := fun e s => whileB t b n e s D, ct := fun e s => whileB t b n e s D, bk := D.nx } else D.nx env S1) (D.ex env)
theorem whileB_ok [MT t] [MS s] [QT t] [QS s] : ∀ (n : Nat) env S (D : BEnds), whileB (QT.b t) (QS.b s) n env S D = true → whileN t s n env S D.P
  | 0, _, _, _, h => by cases h
  | n + 1, env, S, D, h => MT.mono (w := t) _ _ _ _ _ _ (fun c S1 z => by
    cases c with
    | true =>
      have q := QS.ok (w := s) _ _ _ z
      refine MS.mono (w := s) _ _ _ _ ?_ q
      exact ⟨fun e s z => whileB_ok n _ _ _ z, fun _ _ z => z, fun _ _ z => z, fun e s z => whileB_ok n _ _ _ z, fun _ _ _ z => z⟩
    | false => exact z) (fun _ _ z => z) (QT.ok (w := t) _ _ _ _ h)
instance [MT t] [MS s] [QT t] [QS s] : QS (whileS t s) := ⟨fun env S D => whileB (QT.b t) (QS.b s) 10000 env S D, fun env S D h => ⟨10000, whileB_ok _ _ _ _ h⟩⟩
/-! comprehensions -/
def lcB (b : DB) (t : DEnv → Sto → (Bool → Sto → Bool) → BX → Bool) (e : DEnv → Sto → BK → BX → Bool) (env0 : DEnv) : List DV → List PyData → Sto → (List PyData → Sto → Bool) → Bool
  | [], acc, S, k => k acc S
  | x :: r, acc, S, k => frcV x fun x => oB (b x env0) fun env1 => t env1 S (fun c S2 => if c = true then e env1 S2 (fun y S3 => match y with
    | .d d => frcD d fun d => Nat.ble acc.length 1000000 && lcB b t e env0 r (acc ++ [d]) S3 k
    | _ => false) (fun _ _ => false) else lcB b t e env0 r acc S2 k) (fun _ _ => false)
theorem f0 : ∀ r S, xP (fun _ _ => false) r S → F0 r S := fun _ _ h => by cases h
theorem lcB_ok {b : DB} [MT t] [ME a] [QT t] [QE a] {env0 : DEnv} : ∀ (xs : List DV) (acc : List PyData) (S : Sto) (k : List PyData → Sto → Bool), lcB b (QT.b t) (QE.b a) env0 xs acc S k = true → lcL b t a env0 xs acc S fun r S => k r S = true
  | [], _, _, _, h => h
  | x :: r, acc, S, k, h => by
    have h := (frcV_eq x _).symm.trans h
    obtain ⟨env1, e, h⟩ := oB_ok h
    refine ⟨env1, e, MT.mono (w := t) _ _ _ _ _ _ (fun c S2 z => ?_) f0 (QT.ok (w := t) _ _ _ _ h)⟩
    cases c with
    | false => exact lcB_ok r _ _ _ z
    | true =>
      refine ME.mono (w := a) _ _ _ _ _ _ (fun y S3 z => ?_) f0 (QE.ok (w := a) _ _ _ _ z)
      cases y with
      | d d =>
        have z := (frcD_eq d _).symm.trans z
        exact ⟨d, rfl, (leB z).1, lcB_ok r _ _ _ (leB z).2⟩
      | p n => cases z
      | s n => cases z
instance {b : DB} {vs} [MA r] [MT t] [ME a] [QA r] [QT t] [QE a] : QE (lcW r b t a vs) := ⟨fun env S k kx => QA.b r env S (fun xs S1 => lcB b (QT.b t) (QE.b a) (wipeD env vs) xs [] S1 fun ds S2 => k (.d (.list ds)) S2) kx,
  fun env S k kx h => MA.mono (w := r) _ _ _ _ _ _ (fun xs S1 z => lcB_ok xs [] S1 _ z) (id_x kx) (QA.ok (w := r) _ _ _ _ h)⟩
/-! try -/
instance : QH [] := ⟨fun _ x env S D => D.ex env x S, fun _ _ _ _ _ h => h⟩
instance {y} {l : List (Str × DS)} [MS s] [MH l] [QS s] [QH l] : QH ((y, s) :: l) := ⟨fun L x env S D => decide (x.nm ∈ L) && if x.nm = y then QS.b s env S { D with ex := fun _ _ _ => false } else QH.b l L x env S D, fun L x env S D h => by
  obtain ⟨h1, h2⟩ := two h
  refine ⟨of_decide_eq_true h1, ?_⟩
  split
  · rename_i e
    rw [if_pos e] at h2
    have q := QS.ok (w := s) _ _ _ h2
    refine MS.mono (w := s) _ _ _ _ ?_ q
    exact ⟨fun _ _ z => z, fun _ _ z => z, fun _ _ z => z, fun _ _ z => z, fun _ x S z => by cases z⟩
  · rename_i e
    rw [if_neg e] at h2
    exact QH.ok (l := l) _ _ _ _ _ h2⟩
instance {L} {l : List (Str × DS)} [MS s] [MH l] [QS s] [QH l] : QS (tryS L s l) := ⟨fun env S D => QS.b s env S { D with ex := fun env' x S' => QH.b l L x env' S' D }, fun env S D h => by
    have q := QS.ok (w := s) _ _ _ h
    refine MS.mono (w := s) _ _ _ _ ?_ q
    exact ⟨fun _ _ z => z, fun _ _ z => z, fun _ _ z => z, fun _ _ z => z, fun e x S z => QH.ok (l := l) _ _ _ _ _ z⟩⟩
/-! calls -/
def okB (n : Nat) (S : Sto) : Bool := (S.take n).all closedO
theorem okB_ok {n : Nat} {S : Sto} (h : okB n S = true) : okObjs n S := fun i o hi e => by
  refine List.all_eq_true.mp h o ?_
  rw [List.mem_iff_getElem?]
  exact ⟨i, by rw [List.getElem?_take_of_lt hi]; exact e⟩
def resB (ix : List Nat) (S1 : Sto) (k : BK) : BK := fun r S2 => okB ix.length S2 && match r with
  | .p j => Nat.ble ix.length j && oB S2[j]? fun o => closedO o && k (.p S1.length) (putAll S1 ix S2 ++ [o])
  | .d x => k (.d x) (putAll S1 ix S2)
  | .s x => k (.s x) (putAll S1 ix S2)
def nodB : List Nat → Bool
  | [] => true
  | x :: r => !r.contains x && nodB r
theorem nodB_ok : ∀ {l : List Nat}, nodB l = true → l.Nodup
  | [], _ => List.nodup_nil
  | x :: r, h => by
    obtain ⟨h1, h2⟩ := two h
    exact List.nodup_cons.mpr ⟨by simpa using h1, nodB_ok h2⟩
instance [MF F] [MA r] [QF F] [QA r] : QE (callW F r) := ⟨fun env S k kx => QA.b r env S (fun xs S1 => nodB (ptrs xs) && oB (objsAt S1 (ptrs xs)) fun os => QF.b F (ren xs 0) os (resB (ptrs xs) S1 k) fun x S2 => okB (ptrs xs).length S2 && kx x (putAll S1 (ptrs xs) S2)) kx,
  fun env S k kx h => MA.mono (w := r) _ _ _ _ _ _ (fun xs S1 z => by
    obtain ⟨z1, z2⟩ := two z
    obtain ⟨os, e, z3⟩ := oB_ok z2
    refine ⟨nodB_ok z1, os, e, MF.mono (F := F) _ _ _ _ _ _ (fun r S2 q => ?_) (fun x S2 q => ⟨okB_ok (two q).1, (two q).2⟩) (QF.ok (F := F) _ _ _ _ z3)⟩
    obtain ⟨q1, q2⟩ := two q
    refine ⟨okB_ok q1, ?_⟩
    cases r with
    | p j =>
      obtain ⟨q3, q4⟩ := leB q2
      obtain ⟨o, e, q5⟩ := oB_ok q4
      obtain ⟨q6, q7⟩ := two q5
      exact ⟨q3, o, e, q6, q7⟩
    | d x => exact q2
    | s x => exact q2) (id_x kx) (QA.ok (w := r) _ _ _ _ h)⟩
end
end DW

set_option Elab.async false
set_option linter.all false
set_option maxRecDepth 100000
set_option maxHeartbeats 4000000
set_option autoImplicit false
/-! DM1: loops by invariants, calls, the drawing of the laws. -/
namespace DW
open PySem L2
theorem loop_inv {g : DG} {body : DS} [MG g] [MS body] (I : DEnv → Sto → Prop) {D : DEnds} : ∀ {xs : List DV} {env : DEnv} {S : Sto}, I env S →
    (∀ x ∈ xs, ∀ env S, I env S → g x env S fun env1 S1 => body env1 S1 { D with nx := I, ct := I, bk := D.nx }) → (∀ env S, I env S → D.nx env S) → loopL g body xs env S D
  | [], _, _, h, _, he => he _ _ h
  | x :: r, env, S, h, hs, he => MG.mono (w := g) _ _ _ _ _ (fun e S z => by
    refine MS.mono (w := body) _ _ _ _ ?_ z
    exact ⟨fun e s z => loop_inv I z (fun y hy => hs y (List.mem_cons_of_mem _ hy)) he, fun _ _ z => z, fun _ _ z => z, fun e s z => loop_inv I z (fun y hy => hs y (List.mem_cons_of_mem _ hy)) he, fun _ _ _ z => z⟩) (hs x List.mem_cons_self env S h)
/-- .. with the part done -/
theorem loop_ix {g : DG} {body : DS} [MG g] [MS body] (I : List DV → DEnv → Sto → Prop) {D : DEnds} : ∀ {xs pre : List DV} {env : DEnv} {S : Sto}, I pre env S →
    (∀ (p : List DV) x (q : List DV), pre ++ xs = p ++ x :: q → ∀ env S, I p env S → g x env S fun env1 S1 => body env1 S1 { D with nx := I (p ++ [x]), ct := I (p ++ [x]), bk := D.nx }) → (∀ env S, I (pre ++ xs) env S → D.nx env S) → loopL g body xs env S D
  | [], pre, _, _, h, _, he => he _ _ (by rw [List.append_nil]; exact h)
  | x :: r, pre, env, S, h, hs, he => MG.mono (w := g) _ _ _ _ _ (fun e S z => by
    refine MS.mono (w := body) _ _ _ _ ?_ z
    have hs2 : ∀ (p : List DV) y (q : List DV), (pre ++ [x]) ++ r = p ++ y :: q → ∀ env S, I p env S → g y env S fun env1 S1 => body env1 S1 { D with nx := I (p ++ [y]), ct := I (p ++ [y]), bk := D.nx } := fun p y q e => hs p y q (by rw [← e]; simp)
    have he2 : ∀ env S, I ((pre ++ [x]) ++ r) env S → D.nx env S := fun env S z => he env S (by simpa using z)
    exact ⟨fun e s z => loop_ix I (pre := pre ++ [x]) z hs2 he2, fun _ _ z => z, fun _ _ z => z, fun e s z => loop_ix I (pre := pre ++ [x]) z hs2 he2, fun _ _ _ z => z⟩) (hs pre x r rfl env S h)
theorem r_ite {c : Bool} {A B : Prop} (h1 : c = true → A) (h2 : c = false → B) : if c = true then A else B := by
  cases c
  · exact h2 rfl
  · exact h1 rfl
/-- the script's numbers -/
theorem mem_rg {a b : Int} {x : DV} (h : x ∈ (rgD a b).map DV.d) : ∃ i : Int, x = .d (.int i) ∧ a ≤ i ∧ i < b := by
  obtain ⟨d, h1, rfl⟩ := List.mem_map.mp h
  obtain ⟨i, h2, rfl⟩ := List.mem_map.mp h1
  have := List.mem_range.mp h2
  exact ⟨_, rfl, by omega, by omega⟩
theorem res_p1 {n : Nat} {S1 S2 : Sto} {o : SO} {k : DK} {d : PyData} (hS : S2 = [o]) (hc : closedO o = true) (h : k (.d d) (S1.set n o)) : resK [n] S1 k (.d d) S2 := by
  subst hS
  refine ⟨fun i o' hi e => ?_, h⟩
  have : i = 0 := by simp at hi; exact hi
  subst this
  cases e
  exact hc
theorem putAll_nil (S T : Sto) : putAll S [] T = S := by cases T <;> rfl
theorem res_0 {S1 S2 : Sto} {k : DK} {d : PyData} (h : k (.d d) S1) : resK [] S1 k (.d d) S2 := ⟨fun i _ hi => by simp at hi, by show k (.d d) (putAll S1 [] S2); rw [putAll_nil]; exact h⟩
/-- a new object of the callee -/
theorem res_0p {S1 : Sto} {o : SO} {S2 : Sto} {k : DK} {j : Nat} (hS : S2[j]? = some o) (hc : closedO o = true) (h : k (.p S1.length) (S1 ++ [o])) : resK [] S1 k (.p j) S2 := ⟨fun i _ hi => by simp at hi, Nat.zero_le _, o, hS, hc, by rw [putAll_nil]; exact h⟩
theorem objs1 {S : Sto} {n : Nat} {o : SO} (h : S[n]? = some o) (hc : closedO o = true) : objsAt S [n] = some [o] := by
  unfold objsAt
  rw [h]
  simp [objsAt, hc]
end DW
namespace DW
open PySem L2
theorem modD_ok {i j : Int} {S : Sto} (h : 0 < j) : modD (.d (.int i)) (.d (.int j)) S = some (.d (.int (i % j))) := by unfold modD; exact if_pos h
theorem divD_ok {i j : Int} {S : Sto} (h : 0 < j) (h2 : j < 1073741824) : divD (.d (.int i)) (.d (.int j)) S = some (.d (.int (i / j))) := by unfold divD; exact if_pos ⟨h, h2⟩
theorem mulD_ok {i j : Int} {S : Sto} (h : (-18446744073709551616 < i ∧ i < 18446744073709551616) ∨ (-18446744073709551616 < j ∧ j < 18446744073709551616)) : mulD (.d (.int i)) (.d (.int j)) S = some (.d (.int (i * j))) := by unfold mulD; exact if_pos h
theorem r_dec {p : Prop} [Decidable p] {A B : Prop} (h1 : p → A) (h2 : ¬p → B) : if decide p = true then A else B := by
  by_cases h : p
  · rw [if_pos (decide_eq_true h)]; exact h1 h
  · rw [if_neg (by simp [h])]; exact h2 h
end DW
namespace DW
open PySem L2
theorem atI_ok {α : Type} {xs : List α} {i : Int} (h0 : 0 ≤ i) (h1 : i < xs.length) : atI xs i = xs[i.toNat]? := by
  unfold atI ixN
  rw [if_pos h0, if_pos h1]
  rfl
theorem ix_s {ns : List Int} {i : Int} {S : Sto} (h0 : 0 ≤ i) (h1 : i < ns.length) : ∃ z, ixD (.s ns) (.d (.int i)) S = some (.d (.int z)) := by
  refine ⟨ns[i.toNat]'(by omega), ?_⟩
  show (atI (ns.map PyData.int) i).map DV.d = _
  rw [atI_ok h0 (by simpa using h1)]
  rw [List.getElem?_map, List.getElem?_eq_getElem (by omega)]
  rfl
theorem ix_l {ds : List PyData} {i : Int} {S : Sto} (h0 : 0 ≤ i) (h1 : i < ds.length) : ixD (.d (.list ds)) (.d (.int i)) S = some (.d (ds[i.toNat]'(by omega))) := by
  show (atI ds i).map DV.d = _
  rw [atI_ok h0 h1, List.getElem?_eq_getElem (by omega)]
  rfl
theorem ix_t {ds : List PyData} {i : Int} {S : Sto} (h0 : 0 ≤ i) (h1 : i < ds.length) : ixD (.d (.tuple ds)) (.d (.int i)) S = some (.d (ds[i.toNat]'(by omega))) := by
  show (atI ds i).map DV.d = _
  rw [atI_ok h0 h1, List.getElem?_eq_getElem (by omega)]
  rfl
end DW
namespace DW
open PySem L2
mutual
/-- the same data -/
def idD : PyData → PyData → Bool
  | .none, .none => true
  | .bool a, .bool b => a == b
  | .int a, .int b => decide (a = b)
  | .str a, .str b => eqSF a b
  | .list a, .list b => idDs a b
  | .tuple a, .tuple b => idDs a b
  | _, _ => false
def idDs : List PyData → List PyData → Bool
  | [], [] => true
  | a :: x, b :: y => idD a b && idDs x y
  | _, _ => false
end
mutual
theorem idD_ok : ∀ {a b : PyData}, idD a b = true → a = b
  | .none, b, h => by cases b <;> first | rfl | cases h
  | .bool a, b, h => by
    cases b <;> first | (cases h; done) | skip
    rename_i c
    have : a = c := eq_of_beq (show (a == c) = true from h)
    rw [this]
  | .int a, b, h => by
    cases b <;> first | (cases h; done) | skip
    rename_i c
    have : a = c := of_decide_eq_true h
    rw [this]
  | .str a, b, h => by
    cases b <;> first | (cases h; done) | skip
    rename_i c
    have h : eqSF a c = true := h
    rw [eqSF_eq] at h
    rw [eq_of_beq h]
  | .list a, b, h => by
    cases b <;> first | (cases h; done) | skip
    rename_i c
    rw [idDs_ok (show idDs a c = true from h)]
  | .tuple a, b, h => by
    cases b <;> first | (cases h; done) | skip
    rename_i c
    rw [idDs_ok (show idDs a c = true from h)]
  | .dict _, b, h => by cases b <;> cases h
theorem idDs_ok : ∀ {a b : List PyData}, idDs a b = true → a = b
  | [], [], _ => rfl
  | [], _ :: _, h => by cases h
  | _ :: _, [], h => by cases h
  | a :: x, b :: y, h => by
    obtain ⟨h1, h2⟩ := Bool.and_eq_true_iff.mp (show (idD a b && idDs x y) = true from h)
    rw [idD_ok h1, idDs_ok h2]
end
/-- the answer is just d -/
def isV (d : PyData) : BK := fun v _ => match v with
  | .d x => idD x d
  | _ => false
theorem isV_ok {d : PyData} {v : DV} {S : Sto} (h : isV d v S = true) : v = .d d := by
  unfold isV at h
  split at h
  · rw [idD_ok h]
  · cases h
abbrev ffX : BX := fun _ _ => false
/-- a def called with pure data answers d -/
def ansB (F : FS) [QF F] (args : List PyData) (d : PyData) : Bool := frcDs args fun args => frcD d fun d => QF.b F (args.map .d) [] (isV d) ffX
theorem ansB_ok {F : FS} [QF F] [MF F] {args : List PyData} {d : PyData} (h : ansB F args d = true) {k : DK} {kx : DX} (hk : ∀ S, k (.d d) S) : F (args.map .d) [] k kx := by
  unfold ansB at h
  rw [frcDs_eq, frcD_eq] at h
  exact MF.mono (F := F) _ _ _ _ _ _ (fun r S q => by rw [isV_ok q]; exact hk S) (fun r S q => by cases q) (QF.ok (F := F) _ _ _ _ h)
/-- .. in an expression -/
theorem ans_res {S1 : Sto} {k : DK} {d : PyData} (h : k (.d d) S1) : ∀ S, resK [] S1 k (.d d) S := fun S => res_0 h
end DW
namespace DW
open PySem L2
def neB (a b : PyData) : Bool := match Fast2.g neD (.d a) (.d b) [] with
  | some (.d (.bool c)) => !c
  | _ => false
theorem neB_ok {a b : PyData} (h : neB a b = true) (S : Sto) : neD (.d a) (.d b) S = some (.d (.bool false)) := by
  have e : neD (.d a) (.d b) S = neD (.d a) (.d b) [] := rfl
  rw [e]
  unfold neB at h
  rw [Fast2.eq] at h
  split at h
  · rename_i c q
    rw [q]
    cases c
    · rfl
    · cases h
  · cases h
theorem set_last {S : Sto} {o o' : SO} : (S ++ [o]).set S.length o' = S ++ [o'] := by
  rw [List.set_append_right _ _ (Nat.le_refl _)]
  simp
theorem get_last {S : Sto} {o : SO} : (S ++ [o])[S.length]? = some o := by simp
end DW

set_option Elab.async false
set_option linter.all false
set_option maxRecDepth 100000
set_option maxHeartbeats 4000000
set_option autoImplicit false
/-! DD: a written dict of three texts, asked at once. -/
namespace DW
open PySem L2
def dg3W (a b c : Str) (w1 w2 w3 we wd : DE) : DE := fun env S k kx => w1 env S (fun x S1 => w2 env S1 (fun y S2 => w3 env S2 (fun z S3 => we env S3 (fun q S4 => ∃ s, q = .d (.str s) ∧ wd env S4 (fun u S5 => k (if s = a then x else if s = b then y else if s = c then z else u) S5) kx) kx) kx) kx) kx
instance {a b c : Str} {w1 w2 w3 we wd : DE} [ME w1] [ME w2] [ME w3] [ME we] [ME wd] : ME (dg3W a b c w1 w2 w3 we wd) := ⟨fun env S k k' x x' hk hx h =>
  ME.mono (w := w1) env S _ _ _ _ (fun _ S1 h => ME.mono (w := w2) env S1 _ _ _ _ (fun _ S2 h => ME.mono (w := w3) env S2 _ _ _ _ (fun _ S3 h => ME.mono (w := we) env S3 _ _ _ _ (fun _ S4 ⟨s, e, h⟩ => ⟨s, e,
    ME.mono (w := wd) env S4 _ _ _ _ (fun _ S5 h => hk _ _ h) hx h⟩) hx h) hx h) hx h) hx h⟩
theorem Stp.away {K : PySem.W.Frag} {D : Addr} {o : HO} {Ba Bb : Hp} {αa αb : List Addr} {Sb : Sto} {Ha Hb : Hp} (st : Stp K Ba αa Ha Bb αb Sb Hb) (h1 : Ba D = none) (h2 : D ∉ αa) (h3 : Ha D = some o) : Bb D = none ∧ D ∉ αb ∧ Hb D = some o := by
  refine ⟨?_, fun z => ?_, st.frame D _ h3 h2⟩
  · cases q : Bb D with
    | none => rfl
    | some o =>
      rcases st.newB D o q with z | z | z
      · rw [h1] at z; cases z
      · rw [h3] at z; cases z
      · exact absurd z h2
  · rcases st.newA D z with q | q
    · exact h2 q
    · rw [h3] at q; cases q
theorem val3 {a b c s : Str} {v1 v2 v3 : V} (hab : a ≠ b) (hac : a ≠ c) (hbc : b ≠ c) : valV (mergeK [] [(Sum.inr a, v1), (Sum.inr b, v2), (Sum.inr c, v3)]) (Sum.inr s : Key) = if s = a then some v1 else if s = b then some v2 else if s = c then some v3 else none := by
  have e : mergeK [] [((Sum.inr a : Key), v1), (Sum.inr b, v2), (Sum.inr c, v3)] = [(Sum.inr a, v1), (Sum.inr b, v2), (Sum.inr c, v3)] := by
    simp [mergeK, putK, hab, hac, hbc]
  rw [e]
  by_cases h1 : s = a
  · rw [if_pos h1, valV_pos (by rw [h1])]
  · rw [if_neg h1, valV_neg (fun z => h1 (Sum.inr.inj z).symm)]
    by_cases h2 : s = b
    · rw [if_pos h2, valV_pos (by rw [h2])]
    · rw [if_neg h2, valV_neg (fun z => h2 (Sum.inr.inj z).symm)]
      by_cases h3 : s = c
      · rw [if_pos h3, valV_pos (by rw [h3])]
      · rw [if_neg h3, valV_neg (fun z => h3 (Sum.inr.inj z).symm)]
        rfl
section
variable {ga : Str → Addr} {X : Cx} {E : WX}
theorem px_dg3 {a b c : Str} {w1 w2 w3 we wd : DE} {v1 v2 v3 e d : Expr} {j1 j2 j3 : Nat} {p1 p2 p3 pos apos cpos : Pos} (hu : X.A.units + 64 < cLine) (h1 : PX ga X E v1 w1) (h2 : PX ga X E v2 w2) (h3 : PX ga X E v3 w3) (he : PX ga X E e we) (hd : PX ga X E d wd)
    (hab : a ≠ b := by decide +kernel) (hac : a ≠ c := by decide +kernel) (hbc : b ≠ c := by decide +kernel)
    (m : M2 X (.Dict [some (.Constant (.str a) j1 p1), some (.Constant (.str b) j2 p2), some (.Constant (.str c) j3 p3)] [v1, v2, v3] pos) "get" apos e d cpos := by exact ⟨rfl, rfl, rfl, rfl⟩) :
    PX ga X E (.Call (.Attribute (.Dict [some (.Constant (.str a) j1 p1), some (.Constant (.str b) j2 p2), some (.Constant (.str c) j3 p3)] [v1, v2, v3] pos) "get" apos) [e, d] [] cpos) (dg3W a b c w1 w2 w3 we wd) := by
  have i1 : ME w1 := ⟨h1.mono⟩
  have i2 : ME w2 := ⟨h2.mono⟩
  have i3 : ME w3 := ⟨h3.mono⟩
  have i4 : ME we := ⟨he.mono⟩
  have i5 : ME wd := ⟨hd.mono⟩
  refine ⟨ME.mono (w := dg3W a b c w1 w2 w3 we wd), ⟨fun pins s σ H Q I h => (pe_dget2 (by omega) (pe_disp (pps_cons pe_str h1.run (pps_cons pe_str h2.run (pps_cons pe_str h3.run pps_nil))) rfl rfl (by simp) (by simp)) he.run hd.run m).run pins s σ H Q I ?_⟩⟩
  obtain ⟨env, S, B, α, re, w, h⟩ := h
  intro D hD
  have s0 := w.extra (o := .dK []) hD
  have hB0 : B D = none := w.ex.free hD
  have hα0 : D ∉ α := fun z => by
    obtain ⟨u, hu⟩ := w.trk D z
    rw [hD] at hu; cases hu
  refine ⟨env, S, B, α, re.mono s0.bb s0.pre, s0.wd, h1.mono env S _ _ _ _ (fun x S1 q v1 H1 B1 α1 t1 r1 => ?_) (fun _ _ z => kxT.after s0 z) h⟩
  obtain ⟨d1, d2, d3⟩ := t1.away hB0 hα0 upd_same
  have s1 := s0.trans t1
  refine ⟨env, S1, B1, α1, re.mono s1.bb s1.pre, s1.wd, h2.mono env S1 _ _ _ _ (fun y S2 q v2 H2 B2 α2 t2 r2 => ?_) (fun _ _ z => kxT.after s1 z) q⟩
  obtain ⟨d1, d2, d3⟩ := t2.away d1 d2 d3
  have s2 := s1.trans t2
  refine ⟨env, S2, B2, α2, re.mono s2.bb s2.pre, s2.wd, h3.mono env S2 _ _ _ _ (fun z S3 q v3 H3 B3 α3 t3 r3 => ?_) (fun _ _ z => kxT.after s2 z) q⟩
  obtain ⟨d1, d2, d3⟩ := t3.away d1 d2 d3
  have s3 := s2.trans t3
  refine ⟨d3, [(Sum.inr a, v1), (Sum.inr b, v2), (Sum.inr c, v3)], rfl, by simp, D, rfl, .inl ⟨_, .inl upd_same⟩, ?_⟩
  have s4 := s3.mut (o := .dK (mergeK [] [(Sum.inr a, v1), (Sum.inr b, v2), (Sum.inr c, v3)])) hD d1 d2
  refine ⟨env, S3, B3, α3, re.mono s4.bb s4.pre, s4.wd, he.mono env S3 _ _ _ _ (fun q S4 ⟨s, es, h⟩ v4 H4 B4 α4 t4 r4 => ?_) (fun _ _ z => kxT.after s4 z) q⟩
  obtain ⟨d1, d2, d3⟩ := t4.away d1 d2 upd_same
  have s5 := s4.trans t4
  subst es
  cases r4
  refine ⟨env, S4, B4, α4, re.mono s5.bb s5.pre, s5.wd, hd.mono env S4 _ _ _ _ (fun u S5 h v5 H5 B5 α5 t5 r5 => ?_) (fun _ _ z => kxT.after s5 z) h⟩
  obtain ⟨d1, d2, d3⟩ := t5.away d1 d2 d3
  have s6 := s5.trans t5
  refine ⟨_, .inl ⟨_, .inr s, .inl d3, rfl, rfl⟩, ?_⟩
  rw [val3 hab hac hbc]
  have b5 : Same B3 B5 := t4.bb.trans t5.bb
  have p5 := (t4.trans t5).pre
  by_cases c1 : s = a
  · rw [if_pos c1] at h ⊢
    exact h _ _ _ _ s6 ((r1.mono t2.bb t2.pre).mono t3.bb t3.pre |>.mono b5 p5)
  · rw [if_neg c1] at h ⊢
    by_cases c2 : s = b
    · rw [if_pos c2] at h ⊢
      exact h _ _ _ _ s6 ((r2.mono t3.bb t3.pre).mono b5 p5)
    · rw [if_neg c2] at h ⊢
      by_cases c3 : s = c
      · rw [if_pos c3] at h ⊢
        exact h _ _ _ _ s6 (r3.mono b5 p5)
      · rw [if_neg c3] at h ⊢
        exact h _ _ _ _ s6 r5
end
end DW

set_option Elab.async false
set_option linter.all false
set_option maxRecDepth 100000
set_option maxHeartbeats 4000000
set_option autoImplicit false
/-! DS: several names on one line. -/
namespace DW
open PySem L2
def starB (vs : List Expr) : Bool := vs.any fun | .Starred .. => true | _ => false
theorem sw2 {x y : Str} {px py pt pt2 : Pos} {kt k2 : Nat} {a b : Expr} {env : Env} (hk : env.scope.kind = .function) (hx : env.scope.names.lookup x = some .local) (hy : env.scope.names.lookup y = some .local)
    (l1 : (py.line == px.line) = true) (hne : ([x, y] : List Str).eraseDups.length = 2) (h1 : starB [a, b] = false) (h2 : [a, b].all (foldedForSure 8) = false) (h3 : [a, b].all (constantsAlone 8) = false) :
    swappedStores [.Tuple [.Name x px, .Name y py] kt pt] (.Tuple [a, b] k2 pt2) env = pure (some [x, y]) := by
  have kx : env.kindOf x = some .local := hx
  have ky : env.kindOf y = some .local := hy
  have hb : env.blockKind = .function := by unfold Env.blockKind; rw [hk]; rfl
  have l1 : py.line = px.line := eq_of_beq l1
  unfold swappedStores
  simp only [hb]
  refine (if_neg (fun h => Bool.noConfusion (show false = true from h))).trans ?_
  refine (if_neg (fun h => Bool.noConfusion (h1.symm.trans h))).trans ?_
  simp only [h2, h3]
  have hn : ∀ f : Expr → Option Str, f (.Name x px) = some x → f (.Name y py) = some y → ([.Name x px, .Name y py] : List Expr).filterMap f = [x, y] := fun f e1 e2 => by simp [List.filterMap, e1, e2]
  rw [hn _ (by show (if (env.kindOf x == some NameKind.local && px.line == px.line) = true then some x else none) = some x; rw [kx]; simp) (by show (if (env.kindOf y == some NameKind.local && py.line == px.line) = true then some y else none) = some y; rw [ky, l1]; simp)]
  refine (if_neg (fun h => by rw [hne] at h; exact Bool.noConfusion (show false = true from h))).trans ?_
  rfl
theorem sw3 {x y z : Str} {px py pz pt pt2 : Pos} {kt k2 : Nat} {a b c : Expr} {env : Env} (hk : env.scope.kind = .function) (hx : env.scope.names.lookup x = some .local) (hy : env.scope.names.lookup y = some .local) (hz : env.scope.names.lookup z = some .local)
    (l1 : (py.line == px.line) = true) (l2 : (pz.line == px.line) = true) (hne : ([x, y, z] : List Str).eraseDups.length = 3) (h1 : starB [a, b, c] = false) (h2 : [a, b, c].all (foldedForSure 8) = false) (h3 : [a, b, c].all (constantsAlone 8) = false) :
    swappedStores [.Tuple [.Name x px, .Name y py, .Name z pz] kt pt] (.Tuple [a, b, c] k2 pt2) env = pure (some [x, y, z]) := by
  have kx : env.kindOf x = some .local := hx
  have ky : env.kindOf y = some .local := hy
  have kz : env.kindOf z = some .local := hz
  have hb : env.blockKind = .function := by unfold Env.blockKind; rw [hk]; rfl
  have l1 : py.line = px.line := eq_of_beq l1
  have l2 : pz.line = px.line := eq_of_beq l2
  unfold swappedStores
  simp only [hb]
  refine (if_neg (fun h => Bool.noConfusion (show false = true from h))).trans ?_
  refine (if_neg (fun h => Bool.noConfusion (h1.symm.trans h))).trans ?_
  simp only [h2, h3]
  have hn : ∀ f : Expr → Option Str, f (.Name x px) = some x → f (.Name y py) = some y → f (.Name z pz) = some z → ([.Name x px, .Name y py, .Name z pz] : List Expr).filterMap f = [x, y, z] := fun f e1 e2 e3 => by simp [List.filterMap, e1, e2, e3]
  rw [hn _ (by show (if (env.kindOf x == some NameKind.local && px.line == px.line) = true then some x else none) = some x; rw [kx]; simp) (by show (if (env.kindOf y == some NameKind.local && py.line == px.line) = true then some y else none) = some y; rw [ky, l1]; simp) (by show (if (env.kindOf z == some NameKind.local && pz.line == px.line) = true then some z else none) = some z; rw [kz, l2]; simp)]
  refine (if_neg (fun h => by rw [hne] at h; exact Bool.noConfusion (show false = true from h))).trans ?_
  rfl
theorem swn {ts vs : List Expr} {pt pt2 : Pos} {kt k2 : Nat} {env : Env} (h : vs.all (foldedForSure 8) = true) : swappedStores [.Tuple ts kt pt] (.Tuple vs k2 pt2) env = pure none := by
  unfold swappedStores
  simp only [h]
  split
  · rfl
  split
  · rfl
  split
  · rfl
  exact if_pos trivial
def fnB (sc : Scope) : Bool := match sc.kind with
  | .function => true
  | _ => false
theorem fnB_ok {sc : Scope} (h : fnB sc = true) : sc.kind = .function := by
  unfold fnB at h
  cases q : sc.kind <;> rw [q] at h <;> first | rfl | cases h
section
variable {ga : Str → Addr} {X : Cx} {E : WX} {N : List Str} {sc : Scope} {k : Nat} {x : Str} {pos : Pos}
theorem zpar2 {a b : Expr} {wA : DA} {i j : Nat} {y : Str} {px py pt : Pos} {kt k2 pt2} (n : Nf X N sc) (c : Ctx X E k) (ha : PXA ga X E [a, b] wA) (hx : llB N sc i x = true := by decide +kernel) (hy : llB N sc j y = true := by decide +kernel) (hij : i ≠ j := by decide)
    (hf : fnB sc = true := by decide +kernel) (l1 : (py.line == px.line) = true := by decide +kernel) (hne : ([x, y] : List Str).eraseDups.length = 2 := by decide +kernel) (h1 : starB [a, b] = false := by decide +kernel) (h2 : [a, b].all (foldedForSure 8) = false := by decide +kernel) (h3 : [a, b].all (constantsAlone 8) = false := by decide +kernel)
    (hs : swapsWithSole [.Tuple [.Name x px, .Name y py] kt pt] (.Tuple [a, b] k2 pt2) pos.line X.env = pure false := by rfl) :
    PXS ga X E (.Assign [.Tuple [.Name x px, .Name y py] kt pt] (.Tuple [a, b] k2 pt2) pos) (par2S i j wA) :=
  ypar2 n c ha hx hy hij (sw2 (by rw [n.hs]; exact fnB_ok hf) (llB_ok n.toNm hx).2 (llB_ok n.toNm hy).2 l1 hne h1 h2 h3) hs
theorem zpar3 {a b d : Expr} {wA : DA} {i j l : Nat} {y z : Str} {px py pz pt : Pos} {kt k2 pt2} (n : Nf X N sc) (c : Ctx X E k) (ha : PXA ga X E [a, b, d] wA) (hx : llB N sc i x = true := by decide +kernel) (hy : llB N sc j y = true := by decide +kernel) (hz : llB N sc l z = true := by decide +kernel) (hij : i ≠ j := by decide) (hil : i ≠ l := by decide) (hjl : j ≠ l := by decide)
    (hf : fnB sc = true := by decide +kernel) (l1 : (py.line == px.line) = true := by decide +kernel) (l2 : (pz.line == px.line) = true := by decide +kernel) (hne : ([x, y, z] : List Str).eraseDups.length = 3 := by decide +kernel) (h1 : starB [a, b, d] = false := by decide +kernel) (h2 : [a, b, d].all (foldedForSure 8) = false := by decide +kernel) (h3 : [a, b, d].all (constantsAlone 8) = false := by decide +kernel)
    (hs : swapsWithSole [.Tuple [.Name x px, .Name y py, .Name z pz] kt pt] (.Tuple [a, b, d] k2 pt2) pos.line X.env = pure false := by rfl) :
    PXS ga X E (.Assign [.Tuple [.Name x px, .Name y py, .Name z pz] kt pt] (.Tuple [a, b, d] k2 pt2) pos) (par3S i j l wA) :=
  ypar3 n c ha hx hy hz hij hil hjl (sw3 (by rw [n.hs]; exact fnB_ok hf) (llB_ok n.toNm hx).2 (llB_ok n.toNm hy).2 (llB_ok n.toNm hz).2 l1 l2 hne h1 h2 h3) hs
end
end DW

set_option Elab.async false
set_option linter.all false
set_option maxRecDepth 100000
set_option maxHeartbeats 4000000
set_option autoImplicit false
/-! DM2: branches by numbers and texts, indexes. -/
namespace DW
open PySem L2
theorem r_eqi {a b : Int} {A B : Prop} (h1 : a = b → A) (h2 : a ≠ b → B) : if (PyData.eqv (.int a) (.int b)) = true then A else B := by
  show if (a == b) = true then A else B
  by_cases h : a = b
  · rw [if_pos (by simp [h])]; exact h1 h
  · rw [if_neg (by simp [h])]; exact h2 h
theorem r_eqs {a b : Str} {A B : Prop} (h1 : a = b → A) (h2 : a ≠ b → B) : if (PyData.eqv (.str a) (.str b)) = true then A else B := by
  show if (a == b) = true then A else B
  by_cases h : a = b
  · rw [if_pos (by simp [h])]; exact h1 h
  · rw [if_neg (by simp [h])]; exact h2 h
theorem ix_ps {ps : List Int} {i : Int} {S : Sto} (h0 : 0 ≤ i) (h1 : i < ps.length) : ixD (.d (.tuple (ps.map .int))) (.d (.int i)) S = some (.d (.int (ps.getD i.toNat 0))) := by
  show (atI (ps.map PyData.int) i).map DV.d = _
  rw [atI_ok h0 (by simpa using h1), List.getElem?_map, List.getElem?_eq_getElem (by omega), List.getD_eq_getElem?_getD, List.getElem?_eq_getElem (by omega)]
  rfl
theorem addT_ok {xs ys : List PyData} {S : Sto} (h : xs.length + ys.length ≤ 1000000) : addD (.d (.tuple xs)) (.d (.tuple ys)) S = some (.d (.tuple (xs ++ ys))) := by unfold addD; exact if_pos h
theorem addL_ok {xs ys : List PyData} {S : Sto} (h : xs.length + ys.length ≤ 1000000) : addD (.d (.list xs)) (.d (.list ys)) S = some (.d (.list (xs ++ ys))) := by unfold addD; exact if_pos h
theorem shS {x : Str} (h : PyData.strOk x = true) : SeqAt.shaped (.str x) = true := by
  show (PyData.strOk x && decide ((0 : Nat) ≤ 64)) = true
  rw [h]
  rfl
theorem eqS_ok {x y : Str} {S : Sto} (h : PyData.strOk x = true) (h2 : PyData.strOk y = true) : eqD (.d (.str x)) (.d (.str y)) S = some (.d (.bool (PyData.eqv (.str x) (.str y)))) := by
  show (if SeqAt.shaped (.str x) = true ∧ SeqAt.shaped (.str y) = true then _ else _) = _
  exact if_pos ⟨shS h, shS h2⟩
theorem lenP_ok {ps : List Int} {S : Sto} : lenD [.d (.tuple (ps.map .int))] S = some (.d (.int ps.length)) := by
  show some (DV.d (.int ((ps.map PyData.int).length : Nat))) = _
  rw [List.length_map]
theorem lenT_ok {ds : List PyData} {S : Sto} : lenD [.d (.tuple ds)] S = some (.d (.int ds.length)) := rfl
theorem lenL_ok {ds : List PyData} {S : Sto} : lenD [.d (.list ds)] S = some (.d (.int ds.length)) := rfl
end DW

set_option Elab.async false
set_option linter.all false
set_option maxRecDepth 100000
set_option maxHeartbeats 4000000
set_option autoImplicit false
/-! DI: is, is not, of truth values. -/
namespace DW
open PySem L2
def isBD : DV → DV → Sto → Option DV
  | .d (.bool a), .d (.bool b), _ => some (.d (.bool (decide (a = b))))
  | _, _, _ => none
def isnBD : DV → DV → Sto → Option DV
  | .d (.bool a), .d (.bool b), _ => some (.d (.bool (!decide (a = b))))
  | _, _, _ => none
theorem o_isB {K : PySem.W.Frag} : Op2 K (fun x y H Q => ∃ a b, x = .bl a ∧ y = .bl b ∧ Q (.bl (decide (a = b))) H) isBD := by
  intro B α S H vx vy x y z w rx ry e Q h
  unfold isBD at e
  split at e
  · cases e; cases ry; cases rx
    exact ⟨_, _, rfl, rfl, kv_same w (.bl _) h⟩
  · cases e
theorem o_isnB {K : PySem.W.Frag} : Op2 K (fun x y H Q => ∃ a b, x = .bl a ∧ y = .bl b ∧ Q (.bl (!decide (a = b))) H) isnBD := by
  intro B α S H vx vy x y z w rx ry e Q h
  unfold isnBD at e
  split at e
  · cases e; cases ry; cases rx
    exact ⟨_, _, rfl, rfl, kv_same w (.bl _) h⟩
  · cases e
section
variable {ga : Str → Addr} {X : Cx} {E : WX} {a b : Expr} {wa wb : DE} {pos : Pos}
theorem px_isB (ha : PX ga X E a wa) (hb : PX ga X E b wb) : PX ga X E (.Compare a [.Is] [b] pos) (op2W isBD wa wb) := px_cmp op_is_bl o_isB ha hb (nomark _)
theorem px_isnotB (ha : PX ga X E a wa) (hb : PX ga X E b wb) : PX ga X E (.Compare a [.IsNot] [b] pos) (op2W isnBD wa wb) := px_cmp op_isnot_bl o_isnB ha hb (nomark _)
theorem pxt_isB (ha : PX ga X E a wa) (hb : PX ga X E b wb) : PXT ga X E (.Compare a [.Is] [b] pos) (testW (op2W isBD wa wb)) := pxt_cmp op_is_bl o_isB ha hb (nomark _)
theorem pxt_isnotB (ha : PX ga X E a wa) (hb : PX ga X E b wb) : PXT ga X E (.Compare a [.IsNot] [b] pos) (testW (op2W isnBD wa wb)) := pxt_cmp op_isnot_bl o_isnB ha hb (nomark _)
end
end DW

set_option Elab.async false
set_option linter.all false
set_option maxRecDepth 100000
set_option maxHeartbeats 4000000
set_option autoImplicit false
/-! DR: .replace of written texts, behind a written text. -/
namespace DW
open PySem L2 CwR
structure PXeT (ga : Str → Addr) (X : Cx) (E : WX) (e : Expr) (w : DE) : Prop where
  mono : MonoE w
  run : PET X e (eT X.K ga E w)
structure PXaT (ga : Str → Addr) (X : Cx) (E : WX) (es : List Expr) (w : DA) : Prop where
  mono : MonoA w
  run : PAT X es (aT X.K ga E w)
structure PXsT (ga : Str → Addr) (X : Cx) (E : WX) (st : Stmt) (w : DS) : Prop where
  mono : MonoS w
  run : PST X st (sT X.K ga E w)
structure PXbT (ga : Str → Addr) (X : Cx) (E : WX) (sts : List Stmt) (w : DS) : Prop where
  mono : MonoS w
  run : PSsT X sts (sT X.K ga E w)
def replW (y z : Str) (wo : DE) : DE := fun env S k kx => wo env S (fun x S1 => ∃ a, x = .d (.str a) ∧ a.length + (a.length + 1) * z.length ≤ 16777216 ∧ k (.d (.str (Txt.replace a y z))) S1) kx
instance {y z : Str} {a : DE} [ME a] : ME (replW y z a) := ⟨fun env S k k' x x' hk hx h => ME.mono (w := a) env S _ _ _ _ (fun y S1 ⟨z, e, l, h1⟩ => ⟨z, e, l, hk _ _ h1⟩) hx h⟩
instance {y z : Str} {a : DE} [ME a] [QE a] : QE (replW y z a) := ⟨fun env S k kx => QE.b a env S (fun x S1 => strB x fun s => Nat.ble (s.length + (s.length + 1) * z.length) 16777216 && k (.d (.str (Txt.replace s y z))) S1) kx,
  fun env S k kx h => ME.mono (w := a) _ _ _ _ _ _ (fun x S1 h1 => (strB_ok h1).imp fun s q => ⟨q.1, leB q.2⟩) (id_x kx) (QE.ok (w := a) _ _ _ _ h)⟩
section
variable {ga : Str → Addr} {X : Cx} {E : WX} {a b e o : Expr} {es : List Expr} {rest : List Stmt} {wa wb we wo : DE} {wA : DA} {pos : Pos} {st : Stmt} {sts : List Stmt} {ws wt : DS} {N : List Str} {sc : Scope}
theorem PXeT.of (h : PX ga X E e we) : PXeT ga X E e we := ⟨h.mono, PET.of h.run⟩
theorem PXsT.of (h : PXS ga X E st ws) : PXsT ga X E st ws := ⟨h.mono, PST.of h.run⟩
theorem tx_repl {y z : Str} {j k : Nat} {c0 c1 apos : Pos} (ho : PX ga X E o wo) (hyz : (y == z) = false := by decide +kernel)
    (hst : starEach [.Constant (.str y) j c0, .Constant (.str z) k c1] X.env = [(false, eval (.Constant (.str y) j c0) X.env), (false, eval (.Constant (.str z) k c1) X.env)] := by rfl)
    (hbase : attributeBase o "replace" X.env (eval o X.env) = eval o X.env := by rfl) (hline : (apos.endLine == pos.line) = true := by rfl) :
    PXeT ga X E (.Call (.Attribute o "replace" apos) [.Constant (.str y) j c0, .Constant (.str z) k c1] [] pos) (replW y z wo) := by
  refine ⟨fun env S k k' x x' hk hx h => ho.mono env S _ _ _ _ (fun y S1 ⟨z, e, l, h1⟩ => ⟨z, e, l, hk _ _ h1⟩) hx h, fun pins s σ H Q h0 I h => pet_replC ho.run hyz hst hbase hline pins s σ H Q h0 I ?_⟩
  obtain ⟨env, S, B, α, re, w, h⟩ := h
  refine ⟨env, S, B, α, re, w, ho.mono env S _ _ _ _ (fun x S1 ⟨a, e, l, h1⟩ v1 H1 B1 α1 s1 r1 => ?_) (fun _ _ z => z) h⟩
  subst e
  cases r1
  exact ⟨a, rfl, l, kv_same s1.wd (.str _) (kvT.after s1 h1)⟩
theorem tx_add (ha : PXeT ga X E a wa) (hb : PXeT ga X E b wb) : PXeT ga X E (.BinOp a .Add b pos) (op2W addD wa wb) :=
  ⟨mono2 ha.mono hb.mono, fun pins s σ H Q h0 I h => pet_op ((op_add.or op_add_str).or (op_catA.or op_cat)) ha.run hb.run pins s σ H Q h0 I (run2 o_add ha.mono hb.mono h)⟩
theorem ta_nil : PXaT ga X E [] nilA := by
  refine ⟨(pxa_nil (ga := ga) (X := X) (E := E)).mono, fun pos pins s σ H Q h0 I h => pat_nil pos pins s σ H Q h0 I ?_⟩
  obtain ⟨env, S, B, α, re, w, h⟩ := h
  exact h [] H B α (Stp.refl w) .nil
theorem ta_cons {r : List Expr} (ha : PXeT ga X E a wa) (hr : PXaT ga X E r wA) (hs : starEach (a :: r) X.env = (false, eval a X.env) :: starEach r X.env := by rfl) : PXaT ga X E (a :: r) (consA wa wA) := by
  refine ⟨fun env S k k' x x' hk hx h => ha.mono env S _ _ _ _ (fun y S1 h1 => hr.mono env S1 _ _ _ _ (fun ys S2 h2 => hk _ _ h2) hx h1) hx h, fun pos pins s σ H Q h0 I h => pat_cons ha.run hr.run hs pos pins s σ H Q h0 I ?_⟩
  obtain ⟨env, S, B, α, re, w, h⟩ := h
  refine ⟨env, S, B, α, re, w, ha.mono env S _ _ _ _ (fun y S1 h1 v1 H1 B1 α1 s1 r1 => ?_) (fun _ _ z => z) h⟩
  refine ⟨env, S1, B1, α1, re.mono s1.bb s1.pre, s1.wd, hr.mono env S1 _ _ _ _ (fun ys S2 h2 vs H2 B2 α2 s2 r2 => ?_) (fun _ _ z => kxT.after s1 z) h1⟩
  exact h2 _ _ _ _ (s1.trans s2) (.cons (r1.mono s2.bb s2.pre) r2)
theorem tx_lst (h : PXaT ga X E es wA) : PXeT ga X E (.List es pos) (lstW wA) := by
  refine ⟨fun env S k k' x x' hk hx h' => h.mono env S _ _ _ _ (fun y S1 ⟨ds, e1, e2, h1⟩ => ⟨ds, e1, e2, hk _ _ h1⟩) hx h', fun pins s σ H Q h0 I h' => pet_lst h.run pins s σ H Q h0 I ?_⟩
  obtain ⟨env, S, B, α, re, w, h'⟩ := h'
  refine ⟨env, S, B, α, re, w, h.mono env S _ _ _ _ (fun xs S1 ⟨ds, e1, e2, h1⟩ vs H1 B1 α1 s1 r1 => ?_) (fun _ _ z => z) h'⟩
  have q := VRs.pure r1 e1
  exact ⟨Nat.le_trans (by rw [q.len]; exact e2) (by decide), fun p hp => kv_lst s1.wd hp q (kvT.after s1 h1)⟩
theorem ts_set {i : Nat} {x : Str} {p' : Pos} (n : Nf X N sc) (he : PXeT ga X E e we) (h : lB N sc i x = true := by decide +kernel) (hs : swapsWith e (some (.Name x p')) pos.line X.env = pure false := by rfl) : PXsT ga X E (.Assign [.Name x p'] e pos) (asgS i we) := by
  obtain ⟨h1, h2⟩ := lB_ok n.toNm h
  have hf : X.fn x = true := by rw [n.fn]
  refine ⟨fun env S D D' h q => he.mono env S _ _ _ _ (fun _ _ z => h.nx _ _ z) (h.ex env) q, fun pins s σ H D h0 I h => ?_⟩
  obtain ⟨env, S, B, α, re, w, h⟩ := h
  refine wpAny_Assign_Name (thn (he.run pins s σ H (fun v H1 => D.nx (σ.set i (some v)) H1) h0 I ⟨env, S, B, α, re, w, he.mono env S _ _ _ _ (fun y S1 q v H1 B1 α1 s1 r1 => ?_) (fun _ _ z => kxS.at_ re z) h⟩) fun v s1 ⟨y, H1, I1, r1, q1⟩ => ?_) hs
  · exact q _ _ _ _ s1 ((re.mono s1.bb s1.pre).set i r1)
  · exact store_ok I1 n.nd h1 h2 r1 (fun s2 I2 => ⟨_, H1, I2, q1⟩) (.inl hf)
theorem tb_nil : PXbT ga X E [] nextS := ⟨(pxb_nil (ga := ga) (X := X) (E := E)).mono, PSsT.of (pxb_nil (ga := ga) (X := X) (E := E)).run⟩
theorem tb_cons (h1 : PXsT ga X E st ws) (h2 : PXbT ga X E rest wt) : PXbT ga X E (st :: rest) (seqS ws wt) := by
  refine ⟨monoSeq h1.mono h2.mono, fun pins s σ H D h0 I h => psst_cons h1.run h2.run pins s σ H D h0 I ?_⟩
  obtain ⟨env, S, B, α, re, w, h⟩ := h
  refine ⟨env, S, B, α, re, w, h1.mono env S { dT X.K ga B α H E D with nx := fun e' S' => wt e' S' (dT X.K ga B α H E D) } _ ⟨fun env1 S1 q σ1 H1 B1 α1 s1 r1 => ?_, fun _ _ z => z, fun _ _ z => z, fun _ _ z => z, fun _ _ _ z => z⟩ h⟩
  exact ⟨env1, S1, B1, α1, r1, s1.wd, h2.mono env1 S1 _ _ (dT.after s1) q⟩
/-- a written text is named; behind it tokens are out -/
theorem tb_str {i j : Nat} {x c : Str} {cpos p' : Pos} (n : Nf X N sc) (h2 : PXbT ga X E rest wt) (h : lB N sc i x = true := by decide +kernel) (hs : swapsWith (.Constant (.str c) j cpos) (some (.Name x p')) pos.line X.env = pure false := by rfl) :
    PXB ga X E (.Assign [.Name x p'] (.Constant (.str c) j cpos) pos :: rest) (seqS (asgS i (cW (.str c))) wt) := by
  obtain ⟨g1, g2⟩ := lB_ok n.toNm h
  have m1 : MonoS (asgS i (cW (.str c))) := MS.mono
  refine ⟨monoSeq m1 h2.mono, ⟨fun pins s σ H D I h => (pss_str n.nd g1 g2 h2.run hs (.inl (by rw [n.fn]))).run pins s σ H D I ?_⟩⟩
  obtain ⟨env, S, B, α, re, w, h⟩ := h
  exact ⟨env.set i (some (.d (.str c))), S, B, α, re.set i (.str c), w, h2.mono _ _ _ _ ⟨fun _ _ z => z, fun _ _ z => z, fun _ _ z => z, fun _ _ z => z, fun _ _ _ z => z⟩ h⟩
end
end DW

set_option Elab.async false
set_option linter.all false
set_option maxRecDepth 100000
set_option maxHeartbeats 4000000
set_option autoImplicit false
/-! MS: how long the pieces of a text are. -/
namespace DW
open PySem L2
theorem spl_sum (Q : List Nat) : ∀ (l : List Nat) (k : Nat) (acc : List Nat), ((TL.spl Q k acc l).map (·.length)).sum ≤ acc.length + l.length
  | [], k, acc => by rw [TL.spl_nil]; simp
  | c :: r, 0, acc => by
    show ((if TL.pre Q (c :: r) = true then acc :: TL.spl Q (Q.length - 1) [] r else TL.spl Q 0 (acc ++ [c]) r).map (·.length)).sum ≤ _
    split
    · have := spl_sum Q r (Q.length - 1) []
      simp only [List.map_cons, List.sum_cons, List.length_cons, List.length_nil] at this ⊢
      omega
    · have := spl_sum Q r 0 (acc ++ [c])
      simp only [List.length_append, List.length_cons, List.length_nil] at this ⊢
      omega
  | c :: r, k + 1, acc => by
    have := spl_sum Q r k acc
    show ((TL.spl Q k acc r).map (·.length)).sum ≤ _
    simp only [List.length_cons]
    omega
theorem spl_num (Q : List Nat) : ∀ (l : List Nat) (k : Nat) (acc : List Nat), 1 ≤ (TL.spl Q k acc l).length ∧ (TL.spl Q k acc l).length ≤ l.length + 1
  | [], k, acc => by rw [TL.spl_nil]; simp
  | c :: r, 0, acc => by
    show 1 ≤ (if TL.pre Q (c :: r) = true then acc :: TL.spl Q (Q.length - 1) [] r else TL.spl Q 0 (acc ++ [c]) r).length ∧ (if TL.pre Q (c :: r) = true then acc :: TL.spl Q (Q.length - 1) [] r else TL.spl Q 0 (acc ++ [c]) r).length ≤ _
    split
    · have := spl_num Q r (Q.length - 1) []
      simp only [List.length_cons]
      omega
    · have := spl_num Q r 0 (acc ++ [c])
      simp only [List.length_cons]
      omega
  | c :: r, k + 1, acc => by
    have := spl_num Q r k acc
    show 1 ≤ (TL.spl Q k acc r).length ∧ (TL.spl Q k acc r).length ≤ _
    simp only [List.length_cons]
    omega
/-- the pieces: some, not many, together not longer -/
theorem split_b {x y : Str} (hy : y.cps.toList ≠ []) (hk : y.cps.toList.all (· < 256) = true) : 1 ≤ (Txt.split x y).length ∧ (Txt.split x y).length ≤ x.length + 1 ∧ ((Txt.split x y).map (·.length)).sum ≤ x.length := by
  have e := SX.split_S (a := x.cps.toList) (b := y.cps.toList) hy hk
  rw [SX.S_tl, SX.S_tl] at e
  rw [e]
  have n := spl_num y.cps.toList x.cps.toList 0 []
  have s := spl_sum y.cps.toList x.cps.toList 0 []
  have hx : x.length = x.cps.toList.length := by simp [Str.length]
  rw [hx, List.length_map]
  refine ⟨n.1, n.2, ?_⟩
  have := SX.lens (TL.spl y.cps.toList 0 [] x.cps.toList)
  rw [this]
  simpa using s
theorem sum_mem {l : List Str} {s : Str} (h : s ∈ l) : s.length ≤ (l.map (·.length)).sum := by
  induction l with
  | nil => cases h
  | cons a r ih =>
    simp only [List.map_cons, List.sum_cons]
    rcases List.mem_cons.mp h with rfl | h
    · omega
    · have := ih h; omega
end DW

set_option Elab.async false
set_option linter.all false
set_option maxRecDepth 100000
set_option maxHeartbeats 0
set_option synthInstance.maxSize 1000000
set_option synthInstance.maxHeartbeats 0

namespace Lw
open PySem PySem.Spec PyProof.Rows L2 DW
/-! the text by places -/
def top (i : Nat) : Stmt := PySem.Challenge.pw_paidbydays_k18_strings_that_are_spoilt.main.body.getD i (.Pass ⟨0, 0, 0, 0⟩)
abbrev s_is_tuple : Stmt := top 6
abbrev s_is_rule : Stmt := top 7
abbrev s_line_of : Stmt := top 9
abbrev s_read_rule : Stmt := top 10
abbrev s_law_source : Stmt := top 12
abbrev s_law_draw : Stmt := top 13
abbrev s_law_choice : Stmt := top 14
abbrev s_law_values : Stmt := top 15
abbrev s_law_rule : Stmt := top 16
abbrev s_law_written : Stmt := top 17
abbrev s_law_bent : Stmt := top 18
abbrev s_law_tried : Stmt := top 19
abbrev s_law : Stmt := top 20
def d_is_tuple : He.DefD := ⟨("is_tuple", none), "is_tuple", "is_tuple", defArgs s_is_tuple, defBody s_is_tuple, defScope s_is_tuple, [], []⟩
def d_is_rule : He.DefD := ⟨("is_rule", none), "is_rule", "is_rule", defArgs s_is_rule, defBody s_is_rule, defScope s_is_rule, [], []⟩
def d_line_of : He.DefD := ⟨("line_of", none), "line_of", "line_of", defArgs s_line_of, defBody s_line_of, defScope s_line_of, [], []⟩
def d_read_rule : He.DefD := ⟨("read_rule", none), "read_rule", "read_rule", defArgs s_read_rule, defBody s_read_rule, defScope s_read_rule, [], []⟩
def d_law_source : He.DefD := ⟨("_law_source", none), "_law_source", "_law_source", defArgs s_law_source, defBody s_law_source, defScope s_law_source, [], []⟩
def d_law_draw : He.DefD := ⟨("_law_draw", none), "_law_draw", "_law_draw", defArgs s_law_draw, defBody s_law_draw, defScope s_law_draw, [], []⟩
def d_law_choice : He.DefD := ⟨("_law_choice", none), "_law_choice", "_law_choice", defArgs s_law_choice, defBody s_law_choice, defScope s_law_choice, [], []⟩
def d_law_values : He.DefD := ⟨("_law_values", none), "_law_values", "_law_values", defArgs s_law_values, defBody s_law_values, defScope s_law_values, [], []⟩
def d_law_rule : He.DefD := ⟨("_law_rule", none), "_law_rule", "_law_rule", defArgs s_law_rule, defBody s_law_rule, defScope s_law_rule, [], []⟩
def d_law_written : He.DefD := ⟨("_law_written", none), "_law_written", "_law_written", defArgs s_law_written, defBody s_law_written, defScope s_law_written, [], []⟩
def d_law_bent : He.DefD := ⟨("_law_bent", none), "_law_bent", "_law_bent", defArgs s_law_bent, defBody s_law_bent, defScope s_law_bent, [], []⟩
def d_law_tried : He.DefD := ⟨("_law_tried", none), "_law_tried", "_law_tried", defArgs s_law_tried, defBody s_law_tried, defScope s_law_tried, [], []⟩
def d_law : He.DefD := ⟨("law", none), "law", "law", defArgs s_law, defBody s_law, defScope s_law, [], []⟩
def fn0 : List He.DefD := [d_is_tuple, d_is_rule, d_line_of, d_read_rule, d_law_source, d_law_draw, d_law_choice, d_law_values, d_law_rule, d_law_written, d_law_bent, d_law_tried, d_law]
def fn : List He.DefD := fn0
def fa0 : List He.Fa := [.glo "is_tuple", .glo "is_rule", .glo "line_of", .glo "read_rule", .glo "_law_source", .glo "_law_draw", .glo "_law_choice", .glo "_law_values", .glo "_law_rule", .glo "_law_written", .glo "_law_bent", .glo "_law_tried", .glo "law", .free "len", .free "abs", .free "max", .free "min", .free "sum", .free "all", .free "isinstance", .free "sorted", .free "int", .free "bool", .free "str", .free "tuple", .free "list", .free "range", .free "enumerate", .free "zip", .free "set"]
def fa1 : List He.Fa := [.free "dict", .glo "InvalidLine", .exc "InvalidLine", .exm "InvalidLine" "InvalidLine" true]
def fa : List He.Fa := fa0 ++ fa1
def cons : List (Str × PyData) := [("NAMES", (.tuple [(.str "up"), (.str "down"), (.str "credit"), (.str "charge"), (.str "over"), (.str "rounding")])), ("VALUES", (.tuple [(.tuple [(.str "now"), (.str "turn")]), (.tuple [(.str "now"), (.str "turn")]), (.tuple [(.str "days"), (.str "early"), (.str "none"), (.str "ups")]), (.tuple [(.str "anew"), (.str "days"), (.str "full")]), (.tuple [(.str "back"), (.str "lost")]), (.tuple [(.str "down"), (.str "near"), (.str "up")])]))]
def nms0 : List PySem.Str := ["PaidError", "InvalidLine", "NAMES", "VALUES", "is_tuple", "is_rule", "line_of", "read_rule", "_law_source", "_law_draw", "_law_choice", "_law_values", "_law_rule", "_law_written", "_law_bent", "_law_tried"]
abbrev nms : List PySem.Str := nms0
abbrev R : PySem.W.OpenRow := PySem.W.OpenLaw.row PySem.Challenge.rw_paidbydays_k18_strings_that_are_spoilt
abbrev hk : PySem.W.Hook := He.hookX 6 fa fn [] [] (DW.consOk cons)
def ob (s : PySem.W.SharedT) : He.AlX := He.obsX 6 fa fn [] [] (DW.consOk cons) (HandSHeadRun.getT s)
theorem ob_eq (s : PySem.W.SharedT) : ob s = hk.obs s.abs := He.obsX_eq (HandSHeadRun.getT_eq s)
theorem run (w : World) : HandSHeadRun.RunEq R (PySem.W.view R.prog [20]) hk ob 4000 nms w := by
  intro os
  kernel_rfl
def c_NAMES : PyData := (.tuple [(.str "up"), (.str "down"), (.str "credit"), (.str "charge"), (.str "over"), (.str "rounding")])
def c_VALUES : PyData := (.tuple [(.tuple [(.str "now"), (.str "turn")]), (.tuple [(.str "now"), (.str "turn")]), (.tuple [(.str "days"), (.str "early"), (.str "none"), (.str "ups")]), (.tuple [(.str "anew"), (.str "days"), (.str "full")]), (.tuple [(.str "back"), (.str "lost")]), (.tuple [(.str "down"), (.str "near"), (.str "up")])])
section
variable {P : Program} {w : World} {K : PySem.W.Frag} {mg : Str → Option Value} {base : Heap}
def bl : List Str := ["len", "abs", "max", "min", "sum", "all", "isinstance", "sorted", "int", "bool", "str", "tuple", "list", "range", "enumerate", "zip", "set", "dict"]
theorem bi (g : Gd fa fn cons K mg) : Bi bl mg := g.bi bl (by decide +kernel)
theorem k_NAMES (g : Gd fa fn cons K mg) : ∃ u v, mg "NAMES" = some u ∧ RelV v u ∧ ∀ B, Dq K B v c_NAMES := g.cn (List.mem_of_getElem? (i := 0) rfl)
theorem k_VALUES (g : Gd fa fn cons K mg) : ∃ u v, mg "VALUES" = some u ∧ RelV v u ∧ ∀ B, Dq K B v c_VALUES := g.cn (List.mem_of_getElem? (i := 1) rfl)
def N_is_tuple : List Str := ["value", "low", "high"]
def w_is_tuple : DS := (seqS (retS (andVW (op1W (isiD .tuple) (varW 0)) (chainW leD leD (varW 1) (callNW lenD (consA (varW 0) nilA)) (varW 2)))) nextS)
def F_is_tuple : FS := funW 3 w_is_tuple
instance : MS w_is_tuple := by unfold w_is_tuple; infer_instance
instance : MF F_is_tuple := by unfold F_is_tuple; infer_instance
theorem ok_is_tuple (g : Gd fa fn cons K mg) : Fx P w K mg base (He.ga K) "is_tuple" F_is_tuple 3 1 :=
  g.fx (d := d_is_tuple) 0 N_is_tuple ["value", "low", "high"] rfl rfl rfl ⟨rfl, rfl, rfl, by decide +kernel, rfl, by decide +kernel, by decide +kernel⟩ (by decide +kernel) rfl inferInstance (fun _ _ _ _ _ _ us hl => match us, hl with | [_, _, _], _ => rfl) (fun X E hP hw hK hm hB n0 c0 => by
    subst hP hw hK hm hB
    have bi := bi g
    exact (pxb_cons (pxs_ret (px_and (xisi (T := .tuple) n0.toNm bi (xv n0.toNm 0)) (px_one (px_chain op_le op_le o_cmp o_cmp (xv n0.toNm 1) (xbi n0.toNm bi call_len n_len (xac (xv n0.toNm 0) xa0)) (xv n0.toNm 2))))) pxb_nil))
def N_line_of : List Str := ["rule", "at", "part"]
def w_line_of : DS := (seqS (retS (joinW (cW (.str ", ")) (lcW (enumI (varW 0)) (bindT [1, 2]) yesT (op2W addD (op2W addD (op2W ixD (cW c_NAMES) (varW 1)) (cW (.str " "))) (varW 2)) [1, 2]))) nextS)
def F_line_of : FS := funW 3 w_line_of
instance : MS w_line_of := by unfold w_line_of; infer_instance
instance : MF F_line_of := by unfold F_line_of; infer_instance
theorem ok_line_of (g : Gd fa fn cons K mg) : Fx P w K mg base (He.ga K) "line_of" F_line_of 1 1 :=
  g.fx (d := d_line_of) 2 N_line_of ["rule"] rfl rfl rfl ⟨rfl, rfl, rfl, by decide +kernel, rfl, by decide +kernel, by decide +kernel⟩ (by decide +kernel) rfl inferInstance (fun _ _ _ _ _ _ us hl => match us, hl with | [_], _ => rfl) (fun X E hP hw hK hm hB n0 c0 => by
    subst hP hw hK hm hB
    have bi := bi g
    exact (pxb_cons (pxs_ret (px_join px_str (xlc n0.toNm c0 (xenum n0.toNm bi (xv n0.toNm 0)) [("at", 1), ("part", 2)] (xct2 n0.toNm c0) (fun _ _ _ _ _ m1 c1 => pxf_nil) (fun _ _ _ _ _ m1 c1 => (px_add (px_add (px_ix (ha := (xcon m1 (k_NAMES g))) (hb := (xv m1 1))) px_str) (xv m1 2)))))) pxb_nil))
def N_law_source : List Str := ["_law_script", "_law_k", "_law_cell"]
def w_law_source : DS := (seqS (asgS 2 (ifW (testW (op2W ltD (varW 1) (callNW lenD (consA (varW 0) nilA)))) (callNW absD (consA (callNW intD (consA (op2W ixD (varW 0) (varW 1)) nilA)) nilA)) (op2W addD (op2W mulD (cW (.int 41)) (varW 1)) (cW (.int 17))))) (seqS (retS (newLW (consA (ifW (testW (op2W gtD (varW 2) (op2W powD (cW (.int 10)) (cW (.int 17))))) (varW 2) (cW (.int 0))) (consA (op2W modD (callNW intD (consA (op2W addD (op2W addD (op2W mulD (varW 2) (cW (.int 16807))) (op2W mulD (cW (.int 6007)) (varW 1))) (cW (.int 9))) nilA)) (cW (.int 2147483563))) nilA)))) nextS))
def F_law_source : FS := funW 3 w_law_source
instance : MS w_law_source := by unfold w_law_source; infer_instance
instance : MF F_law_source := by unfold F_law_source; infer_instance
theorem ok_law_source (g : Gd fa fn cons K mg) : Fx P w K mg base (He.ga K) "_law_source" F_law_source 2 1 :=
  g.fx (d := d_law_source) 4 N_law_source ["_law_script", "_law_k"] rfl rfl rfl ⟨rfl, rfl, rfl, by decide +kernel, rfl, by decide +kernel, by decide +kernel⟩ (by decide +kernel) rfl inferInstance (fun _ _ _ _ _ _ us hl => match us, hl with | [_, _], _ => rfl) (fun X E hP hw hK hm hB n0 c0 => by
    subst hP hw hK hm hB
    have bi := bi g
    exact (pxb_cons (ys n0 (px_if (pxt_lt (xv n0.toNm 1) (xbi n0.toNm bi call_len n_len (xac (xv n0.toNm 0) xa0))) (xbi n0.toNm bi call_abs n_abs (xac (xty n0.toNm bi call_int1 n_int (xac (px_ix (ha := (xv n0.toNm 0)) (hb := (xv n0.toNm 1))) xa0)) xa0)) (px_add (px_mul px_int (xv n0.toNm 1)) px_int))) (pxb_cons (pxs_ret (px_newL (xac (px_if (pxt_gt (xv n0.toNm 2) (px_pow px_int px_int)) (xv n0.toNm 2) px_int) (xac (px_mod (xty n0.toNm bi call_int1 n_int (xac (px_add (px_add (px_mul (xv n0.toNm 2) px_int) (px_mul px_int (xv n0.toNm 1))) px_int) xa0)) px_int) xa0)).a)) pxb_nil)))
def N_law_draw : List Str := ["_law_source_here", "_law_many", "_law_wide", "_law_rest"]
def w_law_draw : DS := (seqS (ifS (testW (op2W gtD (op2W ixD (varW 0) (cW (.int 0))) (cW (.int 0)))) (seqS (asgS 3 (op2W modD (callNW intD (consA (op2W ixD (varW 0) (cW (.int 0))) nilA)) (varW 1))) (seqS (setLS (op2W divD (op2W ixD (varW 0) (cW (.int 0))) (varW 1)) (varW 0) (cW (.int 0))) (seqS (retS (varW 3)) nextS))) nextS) (seqS (setLS (op2W modD (callNW intD (consA (op2W addD (op2W mulD (op2W ixD (varW 0) (cW (.int 1))) (cW (.int 48271))) (cW (.int 29))) nilA)) (cW (.int 2147483563))) (varW 0) (cW (.int 1))) (seqS (asgS 2 (op2W modD (callNW intD (consA (op2W mulD (op2W ixD (varW 0) (cW (.int 1))) (op2W addD (op2W divD (op2W ixD (varW 0) (cW (.int 1))) (cW (.int 7))) (cW (.int 4)))) nilA)) (cW (.int 2147483399)))) (seqS (retS (op2W modD (callNW intD (consA (op2W divD (varW 2) (cW (.int 32))) nilA)) (varW 1))) nextS))))
def F_law_draw : FS := funW 4 w_law_draw
instance : MS w_law_draw := by unfold w_law_draw; infer_instance
instance : MF F_law_draw := by unfold F_law_draw; infer_instance
theorem ok_law_draw (g : Gd fa fn cons K mg) : Fx P w K mg base (He.ga K) "_law_draw" F_law_draw 2 1 :=
  g.fx (d := d_law_draw) 5 N_law_draw ["_law_source_here", "_law_many"] rfl rfl rfl ⟨rfl, rfl, rfl, by decide +kernel, rfl, by decide +kernel, by decide +kernel⟩ (by decide +kernel) rfl inferInstance (fun _ _ _ _ _ _ us hl => match us, hl with | [_, _], _ => rfl) (fun X E hP hw hK hm hB n0 c0 => by
    subst hP hw hK hm hB
    have bi := bi g
    exact (pxb_cons (pxs_if (pxt_gt (px_ix (ha := (xv n0.toNm 0)) (hb := px_int)) px_int) (pxb_cons (ys n0 (px_mod (xty n0.toNm bi call_int1 n_int (xac (px_ix (ha := (xv n0.toNm 0)) (hb := px_int)) xa0)) (xv n0.toNm 1))) (pxb_cons (pxs_setL (px_div (px_ix (ha := (xv n0.toNm 0)) (hb := px_int)) (xv n0.toNm 1)) (xv n0.toNm 0) px_int) (pxb_cons (pxs_ret (xv n0.toNm 3)) pxb_nil))) pxb_nil) (pxb_cons (pxs_setL (px_mod (xty n0.toNm bi call_int1 n_int (xac (px_add (px_mul (px_ix (ha := (xv n0.toNm 0)) (hb := px_int)) px_int) px_int) xa0)) px_int) (xv n0.toNm 0) px_int) (pxb_cons (ys n0 (px_mod (xty n0.toNm bi call_int1 n_int (xac (px_mul (px_ix (ha := (xv n0.toNm 0)) (hb := px_int)) (px_add (px_div (px_ix (ha := (xv n0.toNm 0)) (hb := px_int)) px_int) px_int)) xa0)) px_int)) (pxb_cons (pxs_ret (px_mod (xty n0.toNm bi call_int1 n_int (xac (px_div (xv n0.toNm 2) px_int) xa0)) (xv n0.toNm 1))) pxb_nil)))))
def N_law_values : List Str := ["_law_first"]
def w_law_values : DS := (seqS (asgS 0 (lstW (consA (lstW (consA (cW (.str "now")) (consA (cW (.str "turn")) nilA))) (consA (lstW (consA (cW (.str "now")) (consA (cW (.str "turn")) nilA))) (consA (lstW (consA (cW (.str "days")) (consA (cW (.str "early")) (consA (cW (.str "none")) (consA (cW (.str "ups")) nilA))))) nilA))))) (seqS (retS (op2W addD (varW 0) (lstW (consA (lstW (consA (cW (.str "anew")) (consA (cW (.str "days")) (consA (cW (.str "full")) nilA)))) (consA (lstW (consA (cW (.str "back")) (consA (cW (.str "lost")) nilA))) (consA (lstW (consA (cW (.str "down")) (consA (cW (.str "near")) (consA (cW (.str "up")) nilA)))) nilA)))))) nextS))
def F_law_values : FS := funW 1 w_law_values
instance : MS w_law_values := by unfold w_law_values; infer_instance
instance : MF F_law_values := by unfold F_law_values; infer_instance
theorem ok_law_values (g : Gd fa fn cons K mg) : Fx P w K mg base (He.ga K) "_law_values" F_law_values 0 1 :=
  g.fx (d := d_law_values) 7 N_law_values [] rfl rfl rfl ⟨rfl, rfl, rfl, by decide +kernel, rfl, by decide +kernel, by decide +kernel⟩ (by decide +kernel) rfl inferInstance (fun _ _ _ _ _ _ us hl => match us, hl with | [], _ => rfl) (fun X E hP hw hK hm hB n0 c0 => by
    subst hP hw hK hm hB
    have bi := bi g
    exact (pxb_cons (ys n0 (px_lst (xac (px_lst (xac px_str (xac px_str xa0)).a) (xac (px_lst (xac px_str (xac px_str xa0)).a) (xac (px_lst (xac px_str (xac px_str (xac px_str (xac px_str xa0)))).a) xa0))).a)) (pxb_cons (pxs_ret (px_add (xv n0.toNm 0) (px_lst (xac (px_lst (xac px_str (xac px_str (xac px_str xa0))).a) (xac (px_lst (xac px_str (xac px_str xa0)).a) (xac (px_lst (xac px_str (xac px_str (xac px_str xa0))).a) xa0))).a))) pxb_nil)))
def N_law_written : List Str := ["_law_rule_here", "_law_names", "_law_at"]
def w_law_written : DS := (seqS (asgS 1 (lstW (consA (cW (.str "up")) (consA (cW (.str "down")) (consA (cW (.str "credit")) (consA (cW (.str "charge")) (consA (cW (.str "over")) (consA (cW (.str "rounding")) nilA)))))))) (seqS (retS (joinW (cW (.str ", ")) (lcW (rng1I (cW (.int 6))) (bindN 2) yesT (op2W addD (op2W addD (op2W ixD (varW 1) (varW 2)) (cW (.str " "))) (op2W ixD (varW 0) (varW 2))) [2]))) nextS))
def F_law_written : FS := funW 3 w_law_written
instance : MS w_law_written := by unfold w_law_written; infer_instance
instance : MF F_law_written := by unfold F_law_written; infer_instance
theorem ok_law_written (g : Gd fa fn cons K mg) : Fx P w K mg base (He.ga K) "_law_written" F_law_written 1 1 :=
  g.fx (d := d_law_written) 9 N_law_written ["_law_rule_here"] rfl rfl rfl ⟨rfl, rfl, rfl, by decide +kernel, rfl, by decide +kernel, by decide +kernel⟩ (by decide +kernel) rfl inferInstance (fun _ _ _ _ _ _ us hl => match us, hl with | [_], _ => rfl) (fun X E hP hw hK hm hB n0 c0 => by
    subst hP hw hK hm hB
    have bi := bi g
    exact (pxb_cons (ys n0 (px_lst (xac px_str (xac px_str (xac px_str (xac px_str (xac px_str (xac px_str xa0)))))).a)) (pxb_cons (pxs_ret (px_join px_str (xlc n0.toNm c0 (xrng1 n0.toNm bi px_int) [("_law_at", 2)] (xcn n0.toNm) (fun _ _ _ _ _ m1 c1 => pxf_nil) (fun _ _ _ _ _ m1 c1 => (px_add (px_add (px_ix (ha := (xv m1 1)) (hb := (xv m1 2))) px_str) (px_ix (ha := (xv m1 0)) (hb := (xv m1 2)))))))) pxb_nil)))
def N_is_rule : List Str := ["value", "at", "part"]
def w_is_rule : DS := (seqS (ifS (notW (testW (callW F_is_tuple (consA (varW 0) (consA (cW (.int 6)) (consA (cW (.int 6)) nilA)))))) (seqS (retS (cW (.bool false))) nextS) nextS) (seqS (retS (callNW allD (consA (lcW (enumI (varW 0)) (bindT [1, 2]) yesT (andVW (op1W (isiD .str) (varW 2)) (op2W (inD false) (varW 2) (op2W ixD (cW c_VALUES) (varW 1)))) [1, 2]) nilA))) nextS))
def F_is_rule : FS := funW 3 w_is_rule
instance : MS w_is_rule := by unfold w_is_rule; infer_instance
instance : MF F_is_rule := by unfold F_is_rule; infer_instance
theorem ok_is_rule (g : Gd fa fn cons K mg) : Fx P w K mg base (He.ga K) "is_rule" F_is_rule 1 2 :=
  g.fx (d := d_is_rule) 1 N_is_rule ["value"] rfl rfl rfl ⟨rfl, rfl, rfl, by decide +kernel, rfl, by decide +kernel, by decide +kernel⟩ (by decide +kernel) rfl inferInstance (fun _ _ _ _ _ _ us hl => match us, hl with | [_], _ => rfl) (fun X E hP hw hK hm hB n0 c0 => by
    subst hP hw hK hm hB
    have o_is_tuple := ok_is_tuple (P := X.prog) (w := X.w) (base := X.base) g
    have bi := bi g
    exact (pxb_cons (pxs_if (pxt_not (pxt_val (xcall n0.toNm c0 o_is_tuple (xac (xv n0.toNm 0) (xac px_int (xac px_int xa0)))))) (pxb_cons (pxs_ret px_bl) pxb_nil) pxb_nil) (pxb_cons (pxs_ret (xbi n0.toNm bi (cr_all c0.calm) n_all (xac (xlc n0.toNm c0 (xenum n0.toNm bi (xv n0.toNm 0)) [("at", 1), ("part", 2)] (xct2 n0.toNm c0) (fun _ _ _ _ _ m1 c1 => pxf_nil) (fun _ _ _ _ _ m1 c1 => (px_and (xisi (T := .str) m1 bi (xv m1 2)) (px_one (px_in (by rfl) (xv m1 2) (px_ix (ha := (xcon m1 (k_VALUES g))) (hb := (xv m1 1)))))))) xa0))) pxb_nil)))
def N_law_choice : List Str := ["_law_source_here", "_law_some"]
def w_law_choice : DS := (seqS (retS (op2W ixD (varW 1) (callW F_law_draw (consA (varW 0) (consA (callNW lenD (consA (varW 1) nilA)) nilA))))) nextS)
def F_law_choice : FS := funW 2 w_law_choice
instance : MS w_law_choice := by unfold w_law_choice; infer_instance
instance : MF F_law_choice := by unfold F_law_choice; infer_instance
theorem ok_law_choice (g : Gd fa fn cons K mg) : Fx P w K mg base (He.ga K) "_law_choice" F_law_choice 2 2 :=
  g.fx (d := d_law_choice) 6 N_law_choice ["_law_source_here", "_law_some"] rfl rfl rfl ⟨rfl, rfl, rfl, by decide +kernel, rfl, by decide +kernel, by decide +kernel⟩ (by decide +kernel) rfl inferInstance (fun _ _ _ _ _ _ us hl => match us, hl with | [_, _], _ => rfl) (fun X E hP hw hK hm hB n0 c0 => by
    subst hP hw hK hm hB
    have o_law_draw := ok_law_draw (P := X.prog) (w := X.w) (base := X.base) g
    have bi := bi g
    exact (pxb_cons (pxs_ret (px_ix (ha := (xv n0.toNm 1)) (hb := (xcall n0.toNm c0 o_law_draw (xac (xv n0.toNm 0) (xac (xbi n0.toNm bi call_len n_len (xac (xv n0.toNm 1) xa0)) xa0)))))) pxb_nil))
def N_read_rule : List Str := ["value", "rule", "word"]
def w_read_rule : DS := (seqS (ifS (notW (testW (op1W (isiD .str) (varW 0)))) (seqS (raiseS "InvalidLine") nextS) nextS) (seqS (asgS 1 (callNW tupleD (consA (lcW (seqI (splitW (varW 0) (cW (.str ", ")))) (bindN 2) yesT (op2W ixD (splitW (varW 2) (cW (.str " "))) (op1W negD (cW (.int 1)))) [2]) nilA))) (seqS (ifS (orW (notW (testW (callW F_is_rule (consA (varW 1) nilA)))) (testW (op2W neD (callW F_line_of (consA (varW 1) nilA)) (varW 0)))) (seqS (raiseS "InvalidLine") nextS) nextS) (seqS (retS (varW 1)) nextS))))
def F_read_rule : FS := funW 3 w_read_rule
instance : MS w_read_rule := by unfold w_read_rule; infer_instance
instance : MF F_read_rule := by unfold F_read_rule; infer_instance
theorem ok_read_rule (g : Gd fa fn cons K mg) : Fx P w K mg base (He.ga K) "read_rule" F_read_rule 1 3 :=
  g.fx (d := d_read_rule) 3 N_read_rule ["value"] rfl rfl rfl ⟨rfl, rfl, rfl, by decide +kernel, rfl, by decide +kernel, by decide +kernel⟩ (by decide +kernel) rfl inferInstance (fun _ _ _ _ _ _ us hl => match us, hl with | [_], _ => rfl) (fun X E hP hw hK hm hB n0 c0 => by
    subst hP hw hK hm hB
    have o_is_rule := ok_is_rule (P := X.prog) (w := X.w) (base := X.base) g
    have o_line_of := ok_line_of (P := X.prog) (w := X.w) (base := X.base) g
    have bi := bi g
    exact (pxb_cons (pxs_if (pxt_not (pxt_val (xisi (T := .str) n0.toNm bi (xv n0.toNm 0)))) (pxb_cons (yraise n0.toNm c0 g) pxb_nil) pxb_nil) (pxb_cons (ys n0 (xty n0.toNm bi call_tuple_of n_tuple (xac (xlc n0.toNm c0 (pxi_seq (px_split (xv n0.toNm 0) px_str)) [("word", 2)] (xcn n0.toNm) (fun _ _ _ _ _ m1 c1 => pxf_nil) (fun _ _ _ _ _ m1 c1 => (px_ix (ha := (px_split (xv m1 2) px_str)) (hb := (px_neg px_int))))) xa0))) (pxb_cons (pxs_if (pxw_or (pxt_not (pxt_val (xcall n0.toNm c0 o_is_rule (xac (xv n0.toNm 1) xa0)))) (pxw_or1 (pxt_ne c0.u (xcall n0.toNm c0 o_line_of (xac (xv n0.toNm 1) xa0)) (xv n0.toNm 0)))).pxt (pxb_cons (yraise n0.toNm c0 g) pxb_nil) pxb_nil) (pxb_cons (pxs_ret (xv n0.toNm 1)) pxb_nil)))))
def N_law_rule : List Str := ["_law_source_here", "_law_some"]
def w_law_rule : DS := (seqS (retS (callNW tupleD (consA (lcW (seqI (callW F_law_values nilA)) (bindN 1) yesT (callW F_law_choice (consA (varW 0) (consA (varW 1) nilA))) [1]) nilA))) nextS)
def F_law_rule : FS := funW 2 w_law_rule
instance : MS w_law_rule := by unfold w_law_rule; infer_instance
instance : MF F_law_rule := by unfold F_law_rule; infer_instance
theorem ok_law_rule (g : Gd fa fn cons K mg) : Fx P w K mg base (He.ga K) "_law_rule" F_law_rule 1 3 :=
  g.fx (d := d_law_rule) 8 N_law_rule ["_law_source_here"] rfl rfl rfl ⟨rfl, rfl, rfl, by decide +kernel, rfl, by decide +kernel, by decide +kernel⟩ (by decide +kernel) rfl inferInstance (fun _ _ _ _ _ _ us hl => match us, hl with | [_], _ => rfl) (fun X E hP hw hK hm hB n0 c0 => by
    subst hP hw hK hm hB
    have o_law_choice := ok_law_choice (P := X.prog) (w := X.w) (base := X.base) g
    have o_law_values := ok_law_values (P := X.prog) (w := X.w) (base := X.base) g
    have bi := bi g
    exact (pxb_cons (pxs_ret (xty n0.toNm bi call_tuple_of n_tuple (xac (xlc n0.toNm c0 (pxi_seq (xcall0 n0.toNm c0 o_law_values)) [("_law_some", 1)] (xcn n0.toNm) (fun _ _ _ _ _ m1 c1 => pxf_nil) (fun _ _ _ _ _ m1 c1 => (xcall m1 c1 o_law_choice (xac (xv m1 0) (xac (xv m1 1) xa0))))) xa0))) pxb_nil))
def N_law_bent : List Str := ["_law_source_here", "_law_text", "_law_signs", "_law_at", "_law_words", "_law_here", "_law_some"]
def w_law_bent : DS := (seqS (asgS 2 (lstW (consA (cW (.str " ")) (consA (cW (.str ",")) (consA (cW (.str ", ")) (consA (cW (.str "now")) (consA (cW (.str "turn")) (consA (cW (.str "days")) (consA (cW (.str "")) (consA (cW (.str "up ")) (consA (cW (.str "x")) (consA (cW (.str "lost")) (consA (cW (.str "over back, ")) (consA (cW (.str "down")) nilA)))))))))))))) (seqS (asgS 3 (callW F_law_draw (consA (varW 0) (consA (op2W addD (callNW lenD (consA (varW 1) nilA)) (cW (.int 1))) nilA)))) (seqS (asgS 1 (op2W addD (op2W addD (sliceW (varW 1) noPartW (partW (varW 3))) (callW F_law_choice (consA (varW 0) (consA (varW 2) nilA)))) (sliceW (varW 1) (partW (op2W addD (varW 3) (callW F_law_draw (consA (varW 0) (consA (cW (.int 3)) nilA))))) noPartW))) (seqS (asgS 4 (splitW (varW 1) (cW (.str ", ")))) (seqS (asgS 5 (callW F_law_draw (consA (varW 0) (consA (callNW lenD (consA (varW 4) nilA)) nilA)))) (seqS (asgS 6 (lstW (consA (varW 1) (consA (varW 1) (consA (joinW (cW (.str ", ")) (op2W addD (sliceW (varW 4) noPartW (partW (varW 5))) (sliceW (varW 4) (partW (op2W addD (varW 5) (cW (.int 1)))) noPartW))) (consA (joinW (cW (.str ", ")) (op2W addD (sliceW (varW 4) noPartW (partW (op2W addD (varW 5) (cW (.int 1))))) (sliceW (varW 4) (partW (varW 5)) noPartW))) nilA)))))) (seqS (retS (callW F_law_choice (consA (varW 0) (consA (op2W addD (varW 6) (lstW (consA (joinW (cW (.str ", ")) (op2W addD (sliceW (varW 4) (partW (varW 5)) noPartW) (sliceW (varW 4) noPartW (partW (varW 5))))) nilA))) nilA)))) nextS)))))))
def F_law_bent : FS := funW 7 w_law_bent
instance : MS w_law_bent := by unfold w_law_bent; infer_instance
instance : MF F_law_bent := by unfold F_law_bent; infer_instance
theorem ok_law_bent (g : Gd fa fn cons K mg) : Fx P w K mg base (He.ga K) "_law_bent" F_law_bent 2 3 :=
  g.fx (d := d_law_bent) 10 N_law_bent ["_law_source_here", "_law_text"] rfl rfl rfl ⟨rfl, rfl, rfl, by decide +kernel, rfl, by decide +kernel, by decide +kernel⟩ (by decide +kernel) rfl inferInstance (fun _ _ _ _ _ _ us hl => match us, hl with | [_, _], _ => rfl) (fun X E hP hw hK hm hB n0 c0 => by
    subst hP hw hK hm hB
    have o_law_draw := ok_law_draw (P := X.prog) (w := X.w) (base := X.base) g
    have o_law_choice := ok_law_choice (P := X.prog) (w := X.w) (base := X.base) g
    have bi := bi g
    exact (pxb_cons (ys n0 (px_lst (xac px_str (xac px_str (xac px_str (xac px_str (xac px_str (xac px_str (xac px_str (xac px_str (xac px_str (xac px_str (xac px_str (xac px_str xa0)))))))))))).a)) (pxb_cons (ys n0 (xcall n0.toNm c0 o_law_draw (xac (xv n0.toNm 0) (xac (px_add (xbi n0.toNm bi call_len n_len (xac (xv n0.toNm 1) xa0)) px_int) xa0)))) (pxb_cons (ys n0 (px_add (px_add (px_slice (xv n0.toNm 1) pxo_none (pxo_some (xv n0.toNm 3))) (xcall n0.toNm c0 o_law_choice (xac (xv n0.toNm 0) (xac (xv n0.toNm 2) xa0)))) (px_slice (xv n0.toNm 1) (pxo_some (px_add (xv n0.toNm 3) (xcall n0.toNm c0 o_law_draw (xac (xv n0.toNm 0) (xac px_int xa0))))) pxo_none))) (pxb_cons (ys n0 (px_split (xv n0.toNm 1) px_str)) (pxb_cons (ys n0 (xcall n0.toNm c0 o_law_draw (xac (xv n0.toNm 0) (xac (xbi n0.toNm bi call_len n_len (xac (xv n0.toNm 4) xa0)) xa0)))) (pxb_cons (ys n0 (px_lst (xac (xv n0.toNm 1) (xac (xv n0.toNm 1) (xac (px_join px_str (px_add (px_slice (xv n0.toNm 4) pxo_none (pxo_some (xv n0.toNm 5))) (px_slice (xv n0.toNm 4) (pxo_some (px_add (xv n0.toNm 5) px_int)) pxo_none))) (xac (px_join px_str (px_add (px_slice (xv n0.toNm 4) pxo_none (pxo_some (px_add (xv n0.toNm 5) px_int))) (px_slice (xv n0.toNm 4) (pxo_some (xv n0.toNm 5)) pxo_none))) xa0)))).a)) (pxb_cons (pxs_ret (xcall n0.toNm c0 o_law_choice (xac (xv n0.toNm 0) (xac (px_add (xv n0.toNm 6) (px_lst (xac (px_join px_str (px_add (px_slice (xv n0.toNm 4) (pxo_some (xv n0.toNm 5)) pxo_none) (px_slice (xv n0.toNm 4) pxo_none (pxo_some (xv n0.toNm 5))))) xa0).a)) xa0)))) pxb_nil))))))))
def N_law_tried : List Str := ["_law_value", "_law_found"]
def w_law_tried : DS := (seqS (asgS 1 (cW (.str ""))) (seqS (tryS ["InvalidLine"] (seqS (asgS 1 (callW F_read_rule (consA (varW 0) nilA))) nextS) [("InvalidLine", (seqS (asgS 1 (cW (.str "line"))) nextS))]) (seqS (retS (varW 1)) nextS)))
def F_law_tried : FS := funW 2 w_law_tried
instance : MS w_law_tried := by unfold w_law_tried; infer_instance
instance : MF F_law_tried := by unfold F_law_tried; infer_instance
theorem ok_law_tried (g : Gd fa fn cons K mg) : Fx P w K mg base (He.ga K) "_law_tried" F_law_tried 1 4 :=
  g.fx (d := d_law_tried) 11 N_law_tried ["_law_value"] rfl rfl rfl ⟨rfl, rfl, rfl, by decide +kernel, rfl, by decide +kernel, by decide +kernel⟩ (by decide +kernel) rfl inferInstance (fun _ _ _ _ _ _ us hl => match us, hl with | [_], _ => rfl) (fun X E hP hw hK hm hB n0 c0 => by
    subst hP hw hK hm hB
    have o_read_rule := ok_read_rule (P := X.prog) (w := X.w) (base := X.base) g
    have bi := bi g
    exact (pxb_cons (ys n0 px_str) (pxb_cons (ytry (L := ["InvalidLine"]) n0 c0 (fun _ _ _ n1 c1 => (pxb_cons (ys n1 (xcall n1.toNm c1 o_read_rule (xac (xv n1.toNm 0) xa0))) pxb_nil)) (yhd n0 g (fun _ _ _ n2 => (pxb_cons (ys n2 px_str) pxb_nil)) .nil) inferInstance) (pxb_cons (pxs_ret (xv n0.toNm 1)) pxb_nil))))
def N_law : List Str := ["_law_script", "_law_k", "_law_good", "_law_rows", "_law_source_here", "_law_rule_here", "_law_text", "_law_turn", "_law_odd", "_law_found", "_law_row"]
def w_law : DS := (seqS (forS (rng1I (op2W addD (cW (.int 1)) (callNW minD (consA (callNW lenD (consA (varW 0) nilA)) (consA (cW (.int 8)) nilA))))) (nameG 1) (seqS (asgS 4 (callW F_law_source (consA (varW 0) (consA (varW 1) nilA)))) (seqS (asgS 5 (callW F_law_rule (consA (varW 4) nilA))) (seqS (asgS 6 (callW F_law_written (consA (varW 5) nilA))) (seqS (forS (rng1I (cW (.int 20))) (nameG 7) (seqS (asgS 6 (sliceW (callW F_law_bent (consA (varW 4) (consA (ifW (testW (op2W eqD (op2W modD (varW 7) (cW (.int 3))) (cW (.int 0)))) (callW F_law_written (consA (varW 5) nilA)) (varW 6)) nilA))) noPartW (partW (cW (.int 900))))) (seqS (asgS 9 (callW F_law_tried (consA (varW 6) nilA))) (seqS (ifS (andW (testW (op2W eqD (varW 9) (cW (.str "line")))) (testW (op2W eqD (varW 6) (callW F_law_written (consA (varW 5) nilA))))) (seqS (retS (cW (.bool false))) nextS) nextS) (seqS (ifS (testW (op2W neD (varW 9) (cW (.str "line")))) (seqS (ifS (orW (notW (testW (callW F_is_rule (consA (varW 9) nilA)))) (testW (op2W neD (callW F_law_written (consA (varW 9) nilA)) (varW 6)))) (seqS (retS (cW (.bool false))) nextS) nextS) nextS) nextS) nextS))))) (seqS (forS (seqI (lstW (consA (cW .none) (consA (cW (.int 5)) (consA (tupW (consA (varW 6) nilA)) (consA (lstW (consA (varW 6) nilA)) (consA (cW (.bool true)) (consA (cW (.str "")) (consA (cW (.str " ")) (consA (varW 5) nilA)))))))))) (nameG 8) (seqS (ifS (testW (op2W neD (callW F_law_tried (consA (varW 8) nilA)) (cW (.str "line")))) (seqS (retS (cW (.bool false))) nextS) nextS) nextS)) nextS)))))) (seqS (asgS 2 (cW (.str "up now, down turn, credit days, charge full, over lost, rounding near"))) (seqS (asgS 3 (lstW (consA (op2W addD (varW 2) (cW (.str " "))) (consA (op2W addD (cW (.str " ")) (varW 2)) (consA (op2W addD (varW 2) (cW (.str ","))) (consA (replW "up " "Up " (varW 2)) (consA (replW ", " "," (varW 2)) (consA (sliceW (varW 2) noPartW (partW (op1W negD (cW (.int 5))))) nilA)))))))) (seqS (asgS 3 (op2W addD (varW 3) (lstW (consA (replW "charge full" "charge half" (varW 2)) (consA (replW "up now, " "" (varW 2)) (consA (op2W addD (varW 2) (cW (.str ", up now"))) nilA)))))) (seqS (asgS 3 (op2W addD (varW 3) (lstW (consA (replW "credit" "Credit" (varW 2)) (consA (replW "over" "rounding" (varW 2)) (consA (replW " now" "  now" (varW 2)) nilA)))))) (seqS (retS (andVW (op2W neD (callW F_law_tried (consA (varW 2) nilA)) (cW (.str "line"))) (op2W eqD (lcW (seqI (varW 3)) (bindN 10) (testW (op2W neD (callW F_law_tried (consA (varW 10) nilA)) (cW (.str "line")))) (varW 10) [10]) (lstW nilA)))) nextS))))))
def F_law : FS := funW 11 w_law
instance : MS w_law := by unfold w_law; infer_instance
instance : MF F_law := by unfold F_law; infer_instance
theorem ok_law (g : Gd fa fn cons K mg) : ∃ fd, mg "law" = some (.ref (He.ga K "law")) ∧ (∀ (s : Shared) (us : List Value), us.length = (["_law_script"] : List Str).length → BindsTo s fd ⟨us, []⟩ ((["_law_script"] : List Str).zip us)) ∧ ∀ (P : Program) (w : World) (base : Heap), FnOk P w K mg base (L2.CX P w) 5 (He.ga K "law") fd ["_law_script"] (spD K (He.ga K) F_law 1) :=
  g.fl (d := d_law) 12 N_law ["_law_script"] rfl rfl rfl ⟨rfl, rfl, rfl, by decide +kernel, rfl, by decide +kernel, by decide +kernel⟩ (by decide +kernel) rfl (fun _ _ _ _ _ _ us hl => match us, hl with | [_], _ => rfl) (fun P w base X E hP hw hK hm hB n0 c0 => by
    subst hP hw hK hm hB
    have o_is_rule := ok_is_rule (P := X.prog) (w := X.w) (base := X.base) g
    have o_law_source := ok_law_source (P := X.prog) (w := X.w) (base := X.base) g
    have o_law_rule := ok_law_rule (P := X.prog) (w := X.w) (base := X.base) g
    have o_law_written := ok_law_written (P := X.prog) (w := X.w) (base := X.base) g
    have o_law_bent := ok_law_bent (P := X.prog) (w := X.w) (base := X.base) g
    have o_law_tried := ok_law_tried (P := X.prog) (w := X.w) (base := X.base) g
    have bi := bi g
    exact (pxb_cons (pxs_for c0 (xrng1 n0.toNm bi (px_add px_int (xbi n0.toNm bi (call_min2 c0.calm) n_min (xac (xbi n0.toNm bi call_len n_len (xac (xv n0.toNm 0) xa0)) (xac px_int xa0))))) (yg n0) (pxb_cons (ys n0 (xcall n0.toNm c0 o_law_source (xac (xv n0.toNm 0) (xac (xv n0.toNm 1) xa0)))) (pxb_cons (ys n0 (xcall n0.toNm c0 o_law_rule (xac (xv n0.toNm 4) xa0))) (pxb_cons (ys n0 (xcall n0.toNm c0 o_law_written (xac (xv n0.toNm 5) xa0))) (pxb_cons (pxs_for c0 (xrng1 n0.toNm bi px_int) (yg n0) (pxb_cons (ys n0 (px_slice (xcall n0.toNm c0 o_law_bent (xac (xv n0.toNm 4) (xac (px_if (pxt_eq c0.u (px_mod (xv n0.toNm 7) px_int) px_int) (xcall n0.toNm c0 o_law_written (xac (xv n0.toNm 5) xa0)) (xv n0.toNm 6)) xa0))) pxo_none (pxo_some px_int))) (pxb_cons (ys n0 (xcall n0.toNm c0 o_law_tried (xac (xv n0.toNm 6) xa0))) (pxb_cons (pxs_if (pxw_and (pxt_eq c0.u (xv n0.toNm 9) px_str) (pxw_and1 (pxt_eq c0.u (xv n0.toNm 6) (xcall n0.toNm c0 o_law_written (xac (xv n0.toNm 5) xa0))))).pxt (pxb_cons (pxs_ret px_bl) pxb_nil) pxb_nil) (pxb_cons (pxs_if (pxt_ne c0.u (xv n0.toNm 9) px_str) (pxb_cons (pxs_if (pxw_or (pxt_not (pxt_val (xcall n0.toNm c0 o_is_rule (xac (xv n0.toNm 9) xa0)))) (pxw_or1 (pxt_ne c0.u (xcall n0.toNm c0 o_law_written (xac (xv n0.toNm 9) xa0)) (xv n0.toNm 6)))).pxt (pxb_cons (pxs_ret px_bl) pxb_nil) pxb_nil) pxb_nil) pxb_nil) pxb_nil))))) (pxb_cons (pxs_for c0 (pxi_seq (px_lst (xac px_non (xac px_int (xac (px_tup (xac (xv n0.toNm 6) xa0).a) (xac (px_lst (xac (xv n0.toNm 6) xa0).a) (xac px_bl (xac px_str (xac px_str (xac (xv n0.toNm 5) xa0)))))))).a)) (yg n0) (pxb_cons (pxs_if (pxt_ne c0.u (xcall n0.toNm c0 o_law_tried (xac (xv n0.toNm 8) xa0)) px_str) (pxb_cons (pxs_ret px_bl) pxb_nil) pxb_nil) pxb_nil)) pxb_nil)))))) (tb_str n0 (tb_cons (ts_set n0 (tx_lst (ta_cons (PXeT.of (px_add (xv n0.toNm 2) px_str)) (ta_cons (PXeT.of (px_add px_str (xv n0.toNm 2))) (ta_cons (PXeT.of (px_add (xv n0.toNm 2) px_str)) (ta_cons (tx_repl (xv n0.toNm 2)) (ta_cons (tx_repl (xv n0.toNm 2)) (ta_cons (PXeT.of (px_slice (xv n0.toNm 2) pxo_none (pxo_some (px_neg px_int)))) ta_nil)))))))) (tb_cons (ts_set n0 (tx_add (PXeT.of (xv n0.toNm 3)) (tx_lst (ta_cons (tx_repl (xv n0.toNm 2)) (ta_cons (tx_repl (xv n0.toNm 2)) (ta_cons (PXeT.of (px_add (xv n0.toNm 2) px_str)) ta_nil)))))) (tb_cons (ts_set n0 (tx_add (PXeT.of (xv n0.toNm 3)) (tx_lst (ta_cons (tx_repl (xv n0.toNm 2)) (ta_cons (tx_repl (xv n0.toNm 2)) (ta_cons (tx_repl (xv n0.toNm 2)) ta_nil)))))) (tb_cons (PXsT.of (pxs_ret (px_and (px_ne c0.u (xcall n0.toNm c0 o_law_tried (xac (xv n0.toNm 2) xa0)) px_str) (px_one (px_eq c0.u (xlc n0.toNm c0 (pxi_seq (xv n0.toNm 3)) [("_law_row", 10)] (xcn n0.toNm) (fun _ _ _ _ _ m1 c1 => (pxf_one (pxt_ne c1.u (xcall m1 c1 o_law_tried (xac (xv m1 10) xa0)) px_str))) (fun _ _ _ _ _ m1 c1 => (xv m1 10))) (px_lst xa0.a)))))) tb_nil)))))))
end
end Lw

set_option maxRecDepth 100000
set_option maxHeartbeats 400000
set_option synthInstance.maxSize 1000000
set_option synthInstance.maxHeartbeats 0
set_option linter.all false
namespace Lw
open PySem L2 DW
abbrev srcO (x y : Int) : SO := .lst [.d (.int x), .d (.int y)]
theorem s_draw {n x y : Int} (hn : 0 < n) (hn2 : n < 1073741824) (hx : 0 ≤ x) (hy : 0 ≤ y) (hy2 : y < 2147483563) {k : DK} {kx : DX} (h : ∀ r x' y', 0 ≤ r → r < n → 0 ≤ x' → 0 ≤ y' → y' < 2147483563 → k (.d (.int r)) [srcO x' y']) :
    F_law_draw [.p 0, .d (.int n)] [srcO x y] k kx := by
  have hb := Int.emod_nonneg x (Int.ne_of_gt hn)
  have hb2 := Int.emod_lt_of_pos x hn
  (repeat first | refine Exists.intro _ (And.intro DW.lenP_ok ?_) | refine Exists.intro _ (And.intro DW.lenT_ok ?_) | refine Exists.intro _ (And.intro DW.lenL_ok ?_) | refine Exists.intro _ (And.intro rfl ?_) | refine Exists.intro _ (Exists.intro _ (And.intro rfl ?_)) | refine Exists.intro _ (Exists.intro _ (And.intro rfl (And.intro rfl ?_))) | refine And.intro rfl ?_ | refine Exists.intro _ (And.intro rfl (And.intro (Nat.le_of_ble_eq_true rfl) ?_)) | refine Exists.intro _ (And.intro (DW.modD_ok (by omega)) ?_) | refine Exists.intro _ (And.intro (DW.divD_ok (by omega) (by omega)) ?_) | refine Exists.intro _ (And.intro (DW.mulD_ok (by omega)) ?_) | refine Exists.intro _ (And.intro (DW.ix_ps (by omega) (by omega)) ?_) | refine Exists.intro _ (And.intro (DW.eqS_ok (by assumption) (by decide +kernel)) ?_) | refine And.intro (Nat.le_of_ble_eq_true rfl) ?_)
  refine DW.r_dec (fun hc => ?_) (fun hc => ?_)
  · (repeat first | refine Exists.intro _ (And.intro DW.lenP_ok ?_) | refine Exists.intro _ (And.intro DW.lenT_ok ?_) | refine Exists.intro _ (And.intro DW.lenL_ok ?_) | refine Exists.intro _ (And.intro rfl ?_) | refine Exists.intro _ (Exists.intro _ (And.intro rfl ?_)) | refine Exists.intro _ (Exists.intro _ (And.intro rfl (And.intro rfl ?_))) | refine And.intro rfl ?_ | refine Exists.intro _ (And.intro rfl (And.intro (Nat.le_of_ble_eq_true rfl) ?_)) | refine Exists.intro _ (And.intro (DW.modD_ok (by omega)) ?_) | refine Exists.intro _ (And.intro (DW.divD_ok (by omega) (by omega)) ?_) | refine Exists.intro _ (And.intro (DW.mulD_ok (by omega)) ?_) | refine Exists.intro _ (And.intro (DW.ix_ps (by omega) (by omega)) ?_) | refine Exists.intro _ (And.intro (DW.eqS_ok (by assumption) (by decide +kernel)) ?_) | refine And.intro (Nat.le_of_ble_eq_true rfl) ?_)
    refine ⟨0, _, 0, 0, rfl, rfl, rfl, rfl, ?_⟩
    (repeat first | refine Exists.intro _ (And.intro DW.lenP_ok ?_) | refine Exists.intro _ (And.intro DW.lenT_ok ?_) | refine Exists.intro _ (And.intro DW.lenL_ok ?_) | refine Exists.intro _ (And.intro rfl ?_) | refine Exists.intro _ (Exists.intro _ (And.intro rfl ?_)) | refine Exists.intro _ (Exists.intro _ (And.intro rfl (And.intro rfl ?_))) | refine And.intro rfl ?_ | refine Exists.intro _ (And.intro rfl (And.intro (Nat.le_of_ble_eq_true rfl) ?_)) | refine Exists.intro _ (And.intro (DW.modD_ok (by omega)) ?_) | refine Exists.intro _ (And.intro (DW.divD_ok (by omega) (by omega)) ?_) | refine Exists.intro _ (And.intro (DW.mulD_ok (by omega)) ?_) | refine Exists.intro _ (And.intro (DW.ix_ps (by omega) (by omega)) ?_) | refine Exists.intro _ (And.intro (DW.eqS_ok (by assumption) (by decide +kernel)) ?_) | refine And.intro (Nat.le_of_ble_eq_true rfl) ?_)
    exact h _ _ _ hb hb2 (Int.ediv_nonneg hx (Int.le_of_lt hn)) hy hy2
  · (repeat first | refine Exists.intro _ (And.intro DW.lenP_ok ?_) | refine Exists.intro _ (And.intro DW.lenT_ok ?_) | refine Exists.intro _ (And.intro DW.lenL_ok ?_) | refine Exists.intro _ (And.intro rfl ?_) | refine Exists.intro _ (Exists.intro _ (And.intro rfl ?_)) | refine Exists.intro _ (Exists.intro _ (And.intro rfl (And.intro rfl ?_))) | refine And.intro rfl ?_ | refine Exists.intro _ (And.intro rfl (And.intro (Nat.le_of_ble_eq_true rfl) ?_)) | refine Exists.intro _ (And.intro (DW.modD_ok (by omega)) ?_) | refine Exists.intro _ (And.intro (DW.divD_ok (by omega) (by omega)) ?_) | refine Exists.intro _ (And.intro (DW.mulD_ok (by omega)) ?_) | refine Exists.intro _ (And.intro (DW.ix_ps (by omega) (by omega)) ?_) | refine Exists.intro _ (And.intro (DW.eqS_ok (by assumption) (by decide +kernel)) ?_) | refine And.intro (Nat.le_of_ble_eq_true rfl) ?_)
    refine ⟨0, _, 1, 1, rfl, rfl, rfl, rfl, ?_⟩
    (repeat first | refine Exists.intro _ (And.intro DW.lenP_ok ?_) | refine Exists.intro _ (And.intro DW.lenT_ok ?_) | refine Exists.intro _ (And.intro DW.lenL_ok ?_) | refine Exists.intro _ (And.intro rfl ?_) | refine Exists.intro _ (Exists.intro _ (And.intro rfl ?_)) | refine Exists.intro _ (Exists.intro _ (And.intro rfl (And.intro rfl ?_))) | refine And.intro rfl ?_ | refine Exists.intro _ (And.intro rfl (And.intro (Nat.le_of_ble_eq_true rfl) ?_)) | refine Exists.intro _ (And.intro (DW.modD_ok (by omega)) ?_) | refine Exists.intro _ (And.intro (DW.divD_ok (by omega) (by omega)) ?_) | refine Exists.intro _ (And.intro (DW.mulD_ok (by omega)) ?_) | refine Exists.intro _ (And.intro (DW.ix_ps (by omega) (by omega)) ?_) | refine Exists.intro _ (And.intro (DW.eqS_ok (by assumption) (by decide +kernel)) ?_) | refine And.intro (Nat.le_of_ble_eq_true rfl) ?_)
    have q1 := Int.emod_nonneg (y * 48271 + 29) (show (2147483563 : Int) ≠ 0 by decide)
    have q2 := Int.emod_lt_of_pos (y * 48271 + 29) (show (0 : Int) < 2147483563 by decide)
    exact h _ _ _ (Int.emod_nonneg _ (Int.ne_of_gt hn)) (Int.emod_lt_of_pos _ hn) hx q1 q2
theorem s_source {ns : List Int} {k0 : Int} (hk : 0 ≤ k0) (hk2 : k0 ≤ 100) {k : DK} {kx : DX} (h : ∀ x y, 0 ≤ x → 0 ≤ y → y < 2147483563 → k (.p 0) [srcO x y]) : F_law_source [.s ns, .d (.int k0)] [] k kx := by
  (repeat first | refine Exists.intro _ (And.intro DW.lenP_ok ?_) | refine Exists.intro _ (And.intro DW.lenT_ok ?_) | refine Exists.intro _ (And.intro DW.lenL_ok ?_) | refine Exists.intro _ (And.intro rfl ?_) | refine Exists.intro _ (Exists.intro _ (And.intro rfl ?_)) | refine Exists.intro _ (Exists.intro _ (And.intro rfl (And.intro rfl ?_))) | refine And.intro rfl ?_ | refine Exists.intro _ (And.intro rfl (And.intro (Nat.le_of_ble_eq_true rfl) ?_)) | refine Exists.intro _ (And.intro (DW.modD_ok (by omega)) ?_) | refine Exists.intro _ (And.intro (DW.divD_ok (by omega) (by omega)) ?_) | refine Exists.intro _ (And.intro (DW.mulD_ok (by omega)) ?_) | refine Exists.intro _ (And.intro (DW.ix_ps (by omega) (by omega)) ?_) | refine Exists.intro _ (And.intro (DW.eqS_ok (by assumption) (by decide +kernel)) ?_) | refine And.intro (Nat.le_of_ble_eq_true rfl) ?_)
  refine DW.r_dec (fun hc => ?_) (fun hc => ?_)
  · have hlen : k0 < ns.length := by simpa using hc
    obtain ⟨z, e⟩ := ix_s (S := []) hk hlen
    (repeat first | refine Exists.intro _ (And.intro DW.lenP_ok ?_) | refine Exists.intro _ (And.intro DW.lenT_ok ?_) | refine Exists.intro _ (And.intro DW.lenL_ok ?_) | refine Exists.intro _ (And.intro rfl ?_) | refine Exists.intro _ (Exists.intro _ (And.intro rfl ?_)) | refine Exists.intro _ (Exists.intro _ (And.intro rfl (And.intro rfl ?_))) | refine And.intro rfl ?_ | refine Exists.intro _ (And.intro rfl (And.intro (Nat.le_of_ble_eq_true rfl) ?_)) | refine Exists.intro _ (And.intro (DW.modD_ok (by omega)) ?_) | refine Exists.intro _ (And.intro (DW.divD_ok (by omega) (by omega)) ?_) | refine Exists.intro _ (And.intro (DW.mulD_ok (by omega)) ?_) | refine Exists.intro _ (And.intro (DW.ix_ps (by omega) (by omega)) ?_) | refine Exists.intro _ (And.intro (DW.eqS_ok (by assumption) (by decide +kernel)) ?_) | refine And.intro (Nat.le_of_ble_eq_true rfl) ?_)
    refine Exists.intro _ (And.intro e ?_)
    have fin : ∀ (b : Prop) [Decidable b], ∀ c y : Int, 0 ≤ c → k (.p 0) [srcO (if b then c else 0) (y % 2147483563)] := fun b _ c y hc0 => h _ _ (by split <;> omega) (Int.emod_nonneg _ (by decide)) (Int.emod_lt_of_pos _ (by decide))
    (repeat first | refine Exists.intro _ (And.intro DW.lenP_ok ?_) | refine Exists.intro _ (And.intro DW.lenT_ok ?_) | refine Exists.intro _ (And.intro DW.lenL_ok ?_) | refine Exists.intro _ (And.intro rfl ?_) | refine Exists.intro _ (Exists.intro _ (And.intro rfl ?_)) | refine Exists.intro _ (Exists.intro _ (And.intro rfl (And.intro rfl ?_))) | refine And.intro rfl ?_ | refine Exists.intro _ (And.intro rfl (And.intro (Nat.le_of_ble_eq_true rfl) ?_)) | refine Exists.intro _ (And.intro (DW.modD_ok (by omega)) ?_) | refine Exists.intro _ (And.intro (DW.divD_ok (by omega) (by omega)) ?_) | refine Exists.intro _ (And.intro (DW.mulD_ok (by omega)) ?_) | refine Exists.intro _ (And.intro (DW.ix_ps (by omega) (by omega)) ?_) | refine Exists.intro _ (And.intro (DW.eqS_ok (by assumption) (by decide +kernel)) ?_) | refine And.intro (Nat.le_of_ble_eq_true rfl) ?_)
    have habs : (0 : Int) ≤ (if z < 0 then -z else z) := by split <;> omega
    refine DW.r_dec (fun hc => ?_) (fun hc => ?_)
    · (repeat first | refine Exists.intro _ (And.intro DW.lenP_ok ?_) | refine Exists.intro _ (And.intro DW.lenT_ok ?_) | refine Exists.intro _ (And.intro DW.lenL_ok ?_) | refine Exists.intro _ (And.intro rfl ?_) | refine Exists.intro _ (Exists.intro _ (And.intro rfl ?_)) | refine Exists.intro _ (Exists.intro _ (And.intro rfl (And.intro rfl ?_))) | refine And.intro rfl ?_ | refine Exists.intro _ (And.intro rfl (And.intro (Nat.le_of_ble_eq_true rfl) ?_)) | refine Exists.intro _ (And.intro (DW.modD_ok (by omega)) ?_) | refine Exists.intro _ (And.intro (DW.divD_ok (by omega) (by omega)) ?_) | refine Exists.intro _ (And.intro (DW.mulD_ok (by omega)) ?_) | refine Exists.intro _ (And.intro (DW.ix_ps (by omega) (by omega)) ?_) | refine Exists.intro _ (And.intro (DW.eqS_ok (by assumption) (by decide +kernel)) ?_) | refine And.intro (Nat.le_of_ble_eq_true rfl) ?_)
      exact h _ _ habs (Int.emod_nonneg _ (by decide)) (Int.emod_lt_of_pos _ (by decide))
    · (repeat first | refine Exists.intro _ (And.intro DW.lenP_ok ?_) | refine Exists.intro _ (And.intro DW.lenT_ok ?_) | refine Exists.intro _ (And.intro DW.lenL_ok ?_) | refine Exists.intro _ (And.intro rfl ?_) | refine Exists.intro _ (Exists.intro _ (And.intro rfl ?_)) | refine Exists.intro _ (Exists.intro _ (And.intro rfl (And.intro rfl ?_))) | refine And.intro rfl ?_ | refine Exists.intro _ (And.intro rfl (And.intro (Nat.le_of_ble_eq_true rfl) ?_)) | refine Exists.intro _ (And.intro (DW.modD_ok (by omega)) ?_) | refine Exists.intro _ (And.intro (DW.divD_ok (by omega) (by omega)) ?_) | refine Exists.intro _ (And.intro (DW.mulD_ok (by omega)) ?_) | refine Exists.intro _ (And.intro (DW.ix_ps (by omega) (by omega)) ?_) | refine Exists.intro _ (And.intro (DW.eqS_ok (by assumption) (by decide +kernel)) ?_) | refine And.intro (Nat.le_of_ble_eq_true rfl) ?_)
      exact h _ _ (Int.le_refl _) (Int.emod_nonneg _ (by decide)) (Int.emod_lt_of_pos _ (by decide))
  · (repeat first | refine Exists.intro _ (And.intro DW.lenP_ok ?_) | refine Exists.intro _ (And.intro DW.lenT_ok ?_) | refine Exists.intro _ (And.intro DW.lenL_ok ?_) | refine Exists.intro _ (And.intro rfl ?_) | refine Exists.intro _ (Exists.intro _ (And.intro rfl ?_)) | refine Exists.intro _ (Exists.intro _ (And.intro rfl (And.intro rfl ?_))) | refine And.intro rfl ?_ | refine Exists.intro _ (And.intro rfl (And.intro (Nat.le_of_ble_eq_true rfl) ?_)) | refine Exists.intro _ (And.intro (DW.modD_ok (by omega)) ?_) | refine Exists.intro _ (And.intro (DW.divD_ok (by omega) (by omega)) ?_) | refine Exists.intro _ (And.intro (DW.mulD_ok (by omega)) ?_) | refine Exists.intro _ (And.intro (DW.ix_ps (by omega) (by omega)) ?_) | refine Exists.intro _ (And.intro (DW.eqS_ok (by assumption) (by decide +kernel)) ?_) | refine And.intro (Nat.le_of_ble_eq_true rfl) ?_)
    refine DW.r_dec (fun hc => ?_) (fun hc => ?_)
    · (repeat first | refine Exists.intro _ (And.intro DW.lenP_ok ?_) | refine Exists.intro _ (And.intro DW.lenT_ok ?_) | refine Exists.intro _ (And.intro DW.lenL_ok ?_) | refine Exists.intro _ (And.intro rfl ?_) | refine Exists.intro _ (Exists.intro _ (And.intro rfl ?_)) | refine Exists.intro _ (Exists.intro _ (And.intro rfl (And.intro rfl ?_))) | refine And.intro rfl ?_ | refine Exists.intro _ (And.intro rfl (And.intro (Nat.le_of_ble_eq_true rfl) ?_)) | refine Exists.intro _ (And.intro (DW.modD_ok (by omega)) ?_) | refine Exists.intro _ (And.intro (DW.divD_ok (by omega) (by omega)) ?_) | refine Exists.intro _ (And.intro (DW.mulD_ok (by omega)) ?_) | refine Exists.intro _ (And.intro (DW.ix_ps (by omega) (by omega)) ?_) | refine Exists.intro _ (And.intro (DW.eqS_ok (by assumption) (by decide +kernel)) ?_) | refine And.intro (Nat.le_of_ble_eq_true rfl) ?_)
      exact h _ _ (by omega) (Int.emod_nonneg _ (by decide)) (Int.emod_lt_of_pos _ (by decide))
    · (repeat first | refine Exists.intro _ (And.intro DW.lenP_ok ?_) | refine Exists.intro _ (And.intro DW.lenT_ok ?_) | refine Exists.intro _ (And.intro DW.lenL_ok ?_) | refine Exists.intro _ (And.intro rfl ?_) | refine Exists.intro _ (Exists.intro _ (And.intro rfl ?_)) | refine Exists.intro _ (Exists.intro _ (And.intro rfl (And.intro rfl ?_))) | refine And.intro rfl ?_ | refine Exists.intro _ (And.intro rfl (And.intro (Nat.le_of_ble_eq_true rfl) ?_)) | refine Exists.intro _ (And.intro (DW.modD_ok (by omega)) ?_) | refine Exists.intro _ (And.intro (DW.divD_ok (by omega) (by omega)) ?_) | refine Exists.intro _ (And.intro (DW.mulD_ok (by omega)) ?_) | refine Exists.intro _ (And.intro (DW.ix_ps (by omega) (by omega)) ?_) | refine Exists.intro _ (And.intro (DW.eqS_ok (by assumption) (by decide +kernel)) ?_) | refine And.intro (Nat.le_of_ble_eq_true rfl) ?_)
      exact h _ _ (Int.le_refl _) (Int.emod_nonneg _ (by decide)) (Int.emod_lt_of_pos _ (by decide))
/-- one of a list -/
theorem s_choice {ds : List PyData} {x y : Int} (hd : 0 < ds.length) (hd2 : ds.length < 1000000) (hx : 0 ≤ x) (hy : 0 ≤ y) (hy2 : y < 2147483563) {k : DK} {kx : DX} (h : ∀ d x' y', d ∈ ds → 0 ≤ x' → 0 ≤ y' → y' < 2147483563 → k (.d d) [srcO x' y']) :
    F_law_choice [.p 0, .d (.list ds)] [srcO x y] k kx := by
  (repeat first | refine Exists.intro _ (And.intro DW.lenP_ok ?_) | refine Exists.intro _ (And.intro DW.lenT_ok ?_) | refine Exists.intro _ (And.intro DW.lenL_ok ?_) | refine Exists.intro _ (And.intro rfl ?_) | refine Exists.intro _ (Exists.intro _ (And.intro rfl ?_)) | refine Exists.intro _ (Exists.intro _ (And.intro rfl (And.intro rfl ?_))) | refine And.intro rfl ?_ | refine Exists.intro _ (And.intro rfl (And.intro (Nat.le_of_ble_eq_true rfl) ?_)) | refine Exists.intro _ (And.intro (DW.modD_ok (by omega)) ?_) | refine Exists.intro _ (And.intro (DW.divD_ok (by omega) (by omega)) ?_) | refine Exists.intro _ (And.intro (DW.mulD_ok (by omega)) ?_) | refine Exists.intro _ (And.intro (DW.ix_ps (by omega) (by omega)) ?_) | refine Exists.intro _ (And.intro (DW.eqS_ok (by assumption) (by decide +kernel)) ?_) | refine And.intro (Nat.le_of_ble_eq_true rfl) ?_)
  refine And.intro (nodB_ok rfl) ?_
  refine Exists.intro _ (And.intro rfl ?_)
  refine s_draw (n := (ds.length : Int)) (by omega) (by omega) hx hy hy2 fun r x' y' h1 h2 h3 h4 h5 => res_p1 rfl rfl ?_
  refine Exists.intro _ (And.intro (ix_l h1 h2) ?_)
  exact h _ _ _ (List.getElem_mem _) h3 h4 h5
abbrev st (s : String) : PyData := .str (Str.ofString s)
def v0 : List PyData := [.str "now", .str "turn"]
def v2 : List PyData := [.str "days", .str "early", .str "none", .str "ups"]
def v3 : List PyData := [.str "anew", .str "days", .str "full"]
def v4 : List PyData := [.str "back", .str "lost"]
def v5 : List PyData := [.str "down", .str "near", .str "up"]
def isRule (r : PyData) : Prop := ∃ a b c d e f, r = .tuple [a, b, c, d, e, f] ∧ a ∈ v0 ∧ b ∈ v0 ∧ c ∈ v2 ∧ d ∈ v3 ∧ e ∈ v4 ∧ f ∈ v5
theorem s_values {S : Sto} {k : DK} {kx : DX} (h : k (.d (.list [.list v0, .list v0, .list v2, .list v3, .list v4, .list v5])) S) : F_law_values [] S k kx := by
  (repeat first | refine Exists.intro _ (And.intro DW.lenP_ok ?_) | refine Exists.intro _ (And.intro DW.lenT_ok ?_) | refine Exists.intro _ (And.intro DW.lenL_ok ?_) | refine Exists.intro _ (And.intro rfl ?_) | refine Exists.intro _ (Exists.intro _ (And.intro rfl ?_)) | refine Exists.intro _ (Exists.intro _ (And.intro rfl (And.intro rfl ?_))) | refine And.intro rfl ?_ | refine Exists.intro _ (And.intro rfl (And.intro (Nat.le_of_ble_eq_true rfl) ?_)) | refine Exists.intro _ (And.intro (DW.modD_ok (by omega)) ?_) | refine Exists.intro _ (And.intro (DW.divD_ok (by omega) (by omega)) ?_) | refine Exists.intro _ (And.intro (DW.mulD_ok (by omega)) ?_) | refine Exists.intro _ (And.intro (DW.ix_ps (by omega) (by omega)) ?_) | refine Exists.intro _ (And.intro (DW.eqS_ok (by assumption) (by decide +kernel)) ?_) | refine And.intro (Nat.le_of_ble_eq_true rfl) ?_)
  exact h
theorem s_rule {x y : Int} (hx : 0 ≤ x) (hy : 0 ≤ y) (hy2 : y < 2147483563) {k : DK} {kx : DX} (h : ∀ d x' y', isRule d → 0 ≤ x' → 0 ≤ y' → y' < 2147483563 → k (.d d) [srcO x' y']) :
    F_law_rule [.p 0] [srcO x y] k kx := by
  refine And.intro (nodB_ok rfl) ?_
  refine Exists.intro _ (And.intro rfl ?_)
  refine s_values (res_0 ?_)
  refine And.intro trivial ?_
  refine Exists.intro _ (Exists.intro _ (And.intro rfl ?_))
  have one : ∀ {ds : List PyData} {r : List DV} {acc : List PyData} {x y : Int} {kk : List PyData → Sto → Prop}, 0 < ds.length → ds.length < 1000000 → acc.length ≤ 1000000 → 0 ≤ x → 0 ≤ y → y < 2147483563 →
    (∀ d x' y', d ∈ ds → 0 ≤ x' → 0 ≤ y' → y' < 2147483563 → lcL (bindN 1) yesT (callW F_law_choice (consA (varW 0) (consA (varW 1) nilA))) [some (.p 0), none] r (acc ++ [d]) [srcO x' y'] kk) →
    lcL (bindN 1) yesT (callW F_law_choice (consA (varW 0) (consA (varW 1) nilA))) [some (.p 0), none] (.d (.list ds) :: r) acc [srcO x y] kk := by
    intro ds r acc x y kk h1 h2 h3 h4 h5 h6 h7
    refine Exists.intro _ (And.intro rfl ?_)
    (repeat first | refine Exists.intro _ (And.intro DW.lenP_ok ?_) | refine Exists.intro _ (And.intro DW.lenT_ok ?_) | refine Exists.intro _ (And.intro DW.lenL_ok ?_) | refine Exists.intro _ (And.intro rfl ?_) | refine Exists.intro _ (Exists.intro _ (And.intro rfl ?_)) | refine Exists.intro _ (Exists.intro _ (And.intro rfl (And.intro rfl ?_))) | refine And.intro rfl ?_ | refine Exists.intro _ (And.intro rfl (And.intro (Nat.le_of_ble_eq_true rfl) ?_)) | refine Exists.intro _ (And.intro (DW.modD_ok (by omega)) ?_) | refine Exists.intro _ (And.intro (DW.divD_ok (by omega) (by omega)) ?_) | refine Exists.intro _ (And.intro (DW.mulD_ok (by omega)) ?_) | refine Exists.intro _ (And.intro (DW.ix_ps (by omega) (by omega)) ?_) | refine Exists.intro _ (And.intro (DW.eqS_ok (by assumption) (by decide +kernel)) ?_) | refine And.intro (Nat.le_of_ble_eq_true rfl) ?_)
    refine And.intro (nodB_ok rfl) ?_
    refine Exists.intro _ (And.intro rfl ?_)
    refine s_choice h1 h2 h4 h5 h6 fun d x' y' q1 q2 q3 q4 => res_p1 rfl rfl ?_
    refine Exists.intro _ (And.intro rfl (And.intro h3 ?_))
    exact h7 d x' y' q1 q2 q3 q4
  refine one (by decide) (by decide) (by decide) hx hy hy2 fun a x' y' ha q1 q2 q3 => ?_
  refine one (by decide) (by decide) (Nat.le_of_ble_eq_true rfl) q1 q2 q3 fun b x' y' hb q1 q2 q3 => ?_
  refine one (by decide) (by decide) (Nat.le_of_ble_eq_true rfl) q1 q2 q3 fun c x' y' hc q1 q2 q3 => ?_
  refine one (by decide) (by decide) (Nat.le_of_ble_eq_true rfl) q1 q2 q3 fun d x' y' hd q1 q2 q3 => ?_
  refine one (by decide) (by decide) (Nat.le_of_ble_eq_true rfl) q1 q2 q3 fun e x' y' he q1 q2 q3 => ?_
  refine one (by decide) (by decide) (Nat.le_of_ble_eq_true rfl) q1 q2 q3 fun f x' y' hf q1 q2 q3 => ?_
  (repeat first | refine Exists.intro _ (And.intro DW.lenP_ok ?_) | refine Exists.intro _ (And.intro DW.lenT_ok ?_) | refine Exists.intro _ (And.intro DW.lenL_ok ?_) | refine Exists.intro _ (And.intro rfl ?_) | refine Exists.intro _ (Exists.intro _ (And.intro rfl ?_)) | refine Exists.intro _ (Exists.intro _ (And.intro rfl (And.intro rfl ?_))) | refine And.intro rfl ?_ | refine Exists.intro _ (And.intro rfl (And.intro (Nat.le_of_ble_eq_true rfl) ?_)) | refine Exists.intro _ (And.intro (DW.modD_ok (by omega)) ?_) | refine Exists.intro _ (And.intro (DW.divD_ok (by omega) (by omega)) ?_) | refine Exists.intro _ (And.intro (DW.mulD_ok (by omega)) ?_) | refine Exists.intro _ (And.intro (DW.ix_ps (by omega) (by omega)) ?_) | refine Exists.intro _ (And.intro (DW.eqS_ok (by assumption) (by decide +kernel)) ?_) | refine And.intro (Nat.le_of_ble_eq_true rfl) ?_)
  exact h _ x' y' ⟨a, b, c, d, e, f, rfl, ha, hb, hc, hd, he, hf⟩ q1 q2 q3
end Lw

set_option maxRecDepth 100000
set_option maxHeartbeats 1000000
set_option synthInstance.maxSize 1000000
set_option synthInstance.maxHeartbeats 0
set_option linter.all false
set_option pp.maxSteps 400
namespace Lw
open PySem L2 DW
instance : QS w_is_tuple := by delta w_is_tuple; infer_instance
instance : QF F_is_tuple := by delta F_is_tuple; infer_instance
instance : QS w_is_rule := by delta w_is_rule; infer_instance
instance : QF F_is_rule := by delta F_is_rule; infer_instance
instance : QS w_line_of := by delta w_line_of; infer_instance
instance : QF F_line_of := by delta F_line_of; infer_instance
instance : QS w_read_rule := by delta w_read_rule; infer_instance
instance : QF F_read_rule := by delta F_read_rule; infer_instance
instance : QS w_law_tried := by delta w_law_tried; infer_instance
instance : QF F_law_tried := by delta F_law_tried; infer_instance
instance : QS w_law_written := by delta w_law_written; infer_instance
instance : QF F_law_written := by delta F_law_written; infer_instance
def rules : List PyData := v0.flatMap fun a => v0.flatMap fun b => v2.flatMap fun c => v3.flatMap fun d => v4.flatMap fun e => v5.map fun f => .tuple [a, b, c, d, e, f]
theorem mem_rules {r : PyData} (h : isRule r) : r ∈ rules := by
  obtain ⟨a, b, c, d, e, f, rfl, ha, hb, hc, hd, he, hf⟩ := h
  simp only [rules, List.mem_flatMap, List.mem_map]
  exact ⟨a, ha, b, hb, c, hc, d, hd, e, he, f, hf, rfl⟩
def lineP : PyData → Str
  | .tuple [.str a, .str b, .str c, .str d, .str e, .str f] => catF "up " (catF a (catF ", down " (catF b (catF ", credit " (catF c (catF ", charge " (catF d (catF ", over " (catF e (catF ", rounding " f))))))))))
  | _ => "x"
def chk (r : PyData) : Bool := frcD (.str (lineP r)) fun l => (ansB F_law_written [r] l && ansB F_is_rule [r] (.bool true)) && (ansB F_law_tried [l] r && ansB F_line_of [r] l)
theorem chk_x {r : PyData} (h : chk r = true) : ansB F_law_written [r] (.str (lineP r)) = true ∧ ansB F_is_rule [r] (.bool true) = true ∧ ansB F_law_tried [.str (lineP r)] r = true ∧ ansB F_line_of [r] (.str (lineP r)) = true := by
  unfold chk at h
  rw [frcD_eq] at h
  obtain ⟨h1, h2⟩ := two h
  obtain ⟨h3, h4⟩ := two h1
  obtain ⟨h5, h6⟩ := two h2
  exact ⟨h3, h4, h5, h6⟩
section
variable {k : DK} {kx : DX}
theorem r_any {c : Bool} {k' : Bool → Prop} (h : ∀ b, b = c → k' b) : k' c := h c rfl
theorem in_v {s : Str} {l : List PyData} (hl : l.all (fun x => match x with | .str _ => true | _ => false) = true) (h : (l.any fun z => PyData.eqv z (.str s)) = true) : .str s ∈ l := by
  obtain ⟨z, hz, e⟩ := List.any_eq_true.mp h
  have := List.all_eq_true.mp hl z hz
  cases z <;> first | (cases this; done) | skip
  rename_i u
  have : u = s := by
    have e : (u == s) = true := e
    simpa using e
  subst this
  exact hz
abbrev iD (i : Int) : DV := .d (.int i)
theorem q_tup {ds : List PyData} {lo hi : Int} (h : k (.d (.bool (decide (lo ≤ ds.length) && decide ((ds.length : Int) ≤ hi)))) []) : F_is_tuple [.d (.tuple ds), iD lo, iD hi] [] k kx := by
  (repeat first | refine Exists.intro _ (And.intro DW.lenP_ok ?_) | refine Exists.intro _ (And.intro DW.lenT_ok ?_) | refine Exists.intro _ (And.intro DW.lenL_ok ?_) | refine Exists.intro _ (And.intro rfl ?_) | refine Exists.intro _ (Exists.intro _ (And.intro rfl ?_)) | refine Exists.intro _ (Exists.intro _ (And.intro rfl (And.intro rfl ?_))) | refine And.intro rfl ?_ | refine Exists.intro _ (And.intro rfl (And.intro (Nat.le_of_ble_eq_true rfl) ?_)) | refine Exists.intro _ (And.intro (DW.modD_ok (by omega)) ?_) | refine Exists.intro _ (And.intro (DW.divD_ok (by omega) (by omega)) ?_) | refine Exists.intro _ (And.intro (DW.mulD_ok (by omega)) ?_) | refine Exists.intro _ (And.intro (DW.ix_ps (by omega) (by omega)) ?_) | refine Exists.intro _ (And.intro (DW.eqS_ok (by assumption) (by decide +kernel)) ?_) | refine And.intro (Nat.le_of_ble_eq_true rfl) ?_)
  refine DW.r_dec (fun hc => ?_) (fun hc => ?_)
  · rw [decide_eq_true hc] at h
    (repeat first | refine Exists.intro _ (And.intro DW.lenP_ok ?_) | refine Exists.intro _ (And.intro DW.lenT_ok ?_) | refine Exists.intro _ (And.intro DW.lenL_ok ?_) | refine Exists.intro _ (And.intro rfl ?_) | refine Exists.intro _ (Exists.intro _ (And.intro rfl ?_)) | refine Exists.intro _ (Exists.intro _ (And.intro rfl (And.intro rfl ?_))) | refine And.intro rfl ?_ | refine Exists.intro _ (And.intro rfl (And.intro (Nat.le_of_ble_eq_true rfl) ?_)) | refine Exists.intro _ (And.intro (DW.modD_ok (by omega)) ?_) | refine Exists.intro _ (And.intro (DW.divD_ok (by omega) (by omega)) ?_) | refine Exists.intro _ (And.intro (DW.mulD_ok (by omega)) ?_) | refine Exists.intro _ (And.intro (DW.ix_ps (by omega) (by omega)) ?_) | refine Exists.intro _ (And.intro (DW.eqS_ok (by assumption) (by decide +kernel)) ?_) | refine And.intro (Nat.le_of_ble_eq_true rfl) ?_)
    exact h
  · rw [decide_eq_false hc] at h
    exact h
theorem r_not {c : Bool} {A B : Prop} (h1 : c = false → A) (h2 : c = true → B) : if (!c) = true then A else B := by
  cases c
  · exact h1 rfl
  · exact h2 rfl
theorem q_is_rule {ds : List Str} (h : ∀ b : Bool, (b = true → isRule (.tuple (ds.map .str))) → k (.d (.bool b)) []) : F_is_rule [.d (.tuple (ds.map .str))] [] k kx := by
  (repeat first | refine Exists.intro _ (And.intro DW.lenP_ok ?_) | refine Exists.intro _ (And.intro DW.lenT_ok ?_) | refine Exists.intro _ (And.intro DW.lenL_ok ?_) | refine Exists.intro _ (And.intro rfl ?_) | refine Exists.intro _ (Exists.intro _ (And.intro rfl ?_)) | refine Exists.intro _ (Exists.intro _ (And.intro rfl (And.intro rfl ?_))) | refine And.intro rfl ?_ | refine Exists.intro _ (And.intro rfl (And.intro (Nat.le_of_ble_eq_true rfl) ?_)) | refine Exists.intro _ (And.intro (DW.modD_ok (by omega)) ?_) | refine Exists.intro _ (And.intro (DW.divD_ok (by omega) (by omega)) ?_) | refine Exists.intro _ (And.intro (DW.mulD_ok (by omega)) ?_) | refine Exists.intro _ (And.intro (DW.ix_ps (by omega) (by omega)) ?_) | refine Exists.intro _ (And.intro (DW.eqS_ok (by assumption) (by decide +kernel)) ?_) | refine And.intro (Nat.le_of_ble_eq_true rfl) ?_)
  refine And.intro (DW.nodB_ok rfl) ?_
  refine Exists.intro _ (And.intro rfl ?_)
  refine q_tup (res_0 ?_)
  refine Exists.intro _ (And.intro rfl ?_)
  refine r_not (fun hc => ?_) (fun hc => ?_)
  · (repeat first | refine Exists.intro _ (And.intro DW.lenP_ok ?_) | refine Exists.intro _ (And.intro DW.lenT_ok ?_) | refine Exists.intro _ (And.intro DW.lenL_ok ?_) | refine Exists.intro _ (And.intro rfl ?_) | refine Exists.intro _ (Exists.intro _ (And.intro rfl ?_)) | refine Exists.intro _ (Exists.intro _ (And.intro rfl (And.intro rfl ?_))) | refine And.intro rfl ?_ | refine Exists.intro _ (And.intro rfl (And.intro (Nat.le_of_ble_eq_true rfl) ?_)) | refine Exists.intro _ (And.intro (DW.modD_ok (by omega)) ?_) | refine Exists.intro _ (And.intro (DW.divD_ok (by omega) (by omega)) ?_) | refine Exists.intro _ (And.intro (DW.mulD_ok (by omega)) ?_) | refine Exists.intro _ (And.intro (DW.ix_ps (by omega) (by omega)) ?_) | refine Exists.intro _ (And.intro (DW.eqS_ok (by assumption) (by decide +kernel)) ?_) | refine And.intro (Nat.le_of_ble_eq_true rfl) ?_)
    exact h false (fun z => by cases z)
  · have hl : ds.length = 6 := by
      have := two hc
      have h1 := of_decide_eq_true this.1
      have h2 := of_decide_eq_true this.2
      simp at h1 h2
      omega
    match ds, hl with
    | [a, b, c, d, e, f], _ =>
      (repeat first | refine Exists.intro _ (And.intro DW.lenP_ok ?_) | refine Exists.intro _ (And.intro DW.lenT_ok ?_) | refine Exists.intro _ (And.intro DW.lenL_ok ?_) | refine Exists.intro _ (And.intro rfl ?_) | refine Exists.intro _ (Exists.intro _ (And.intro rfl ?_)) | refine Exists.intro _ (Exists.intro _ (And.intro rfl (And.intro rfl ?_))) | refine And.intro rfl ?_ | refine Exists.intro _ (And.intro rfl (And.intro (Nat.le_of_ble_eq_true rfl) ?_)) | refine Exists.intro _ (And.intro (DW.modD_ok (by omega)) ?_) | refine Exists.intro _ (And.intro (DW.divD_ok (by omega) (by omega)) ?_) | refine Exists.intro _ (And.intro (DW.mulD_ok (by omega)) ?_) | refine Exists.intro _ (And.intro (DW.ix_ps (by omega) (by omega)) ?_) | refine Exists.intro _ (And.intro (DW.eqS_ok (by assumption) (by decide +kernel)) ?_) | refine And.intro (Nat.le_of_ble_eq_true rfl) ?_)
      refine And.intro trivial ?_
      refine Exists.intro _ (Exists.intro _ (And.intro rfl ?_))
      (repeat first | refine Exists.intro _ (And.intro DW.lenP_ok ?_) | refine Exists.intro _ (And.intro DW.lenT_ok ?_) | refine Exists.intro _ (And.intro DW.lenL_ok ?_) | refine Exists.intro _ (And.intro rfl ?_) | refine Exists.intro _ (Exists.intro _ (And.intro rfl ?_)) | refine Exists.intro _ (Exists.intro _ (And.intro rfl (And.intro rfl ?_))) | refine And.intro rfl ?_ | refine Exists.intro _ (And.intro rfl (And.intro (Nat.le_of_ble_eq_true rfl) ?_)) | refine Exists.intro _ (And.intro (DW.modD_ok (by omega)) ?_) | refine Exists.intro _ (And.intro (DW.divD_ok (by omega) (by omega)) ?_) | refine Exists.intro _ (And.intro (DW.mulD_ok (by omega)) ?_) | refine Exists.intro _ (And.intro (DW.ix_ps (by omega) (by omega)) ?_) | refine Exists.intro _ (And.intro (DW.eqS_ok (by assumption) (by decide +kernel)) ?_) | refine And.intro (Nat.le_of_ble_eq_true rfl) ?_)
      refine h _ fun hb => ?_
      have hb : ((v0.any fun z => PyData.eqv z (.str a)) && ((v0.any fun z => PyData.eqv z (.str b)) && ((v2.any fun z => PyData.eqv z (.str c)) && ((v3.any fun z => PyData.eqv z (.str d)) && ((v4.any fun z => PyData.eqv z (.str e)) && ((v5.any fun z => PyData.eqv z (.str f)) && true)))))) = true := hb
      obtain ⟨h1, hb⟩ := two hb
      obtain ⟨h2, hb⟩ := two hb
      obtain ⟨h3, hb⟩ := two hb
      obtain ⟨h4, hb⟩ := two hb
      obtain ⟨h5, hb⟩ := two hb
      obtain ⟨h6, hb⟩ := two hb
      exact ⟨_, _, _, _, _, _, rfl, in_v rfl h1, in_v rfl h2, in_v rfl h3, in_v rfl h4, in_v rfl h5, in_v rfl h6⟩
end
end Lw

set_option Elab.async false
set_option linter.all false
set_option maxRecDepth 100000
set_option maxHeartbeats 4000000
set_option autoImplicit false
/-! MS2: texts of plain signs stay so. -/
namespace DW
open PySem L2
def okL (l : List Nat) : Prop := ∀ c ∈ l, c < 0x110000
theorem ok_iff {x : Str} : PyData.strOk x = true ↔ okL x.cps.toList := by
  unfold PyData.strOk okL
  rw [← Array.all_toList, List.all_eq_true]
  exact ⟨fun h c hc => of_decide_eq_true (h c hc), fun h c hc => decide_eq_true (h c hc)⟩
theorem len_eq (x : Str) : x.length = x.cps.toList.length := by simp [Str.length]
theorem cat_eq (x y : Str) : (x ++ y).cps.toList = x.cps.toList ++ y.cps.toList := by
  have := SX.S_cat x.cps.toList y.cps.toList
  rw [SX.S_tl, SX.S_tl] at this
  rw [this]
theorem ok_cat {x y : Str} (hx : PyData.strOk x = true) (hy : PyData.strOk y = true) : PyData.strOk (x ++ y) = true := by
  rw [ok_iff] at *
  rw [cat_eq]
  intro c hc
  rcases List.mem_append.mp hc with h | h
  · exact hx c h
  · exact hy c h
theorem len_cat (x y : Str) : (x ++ y).length = x.length + y.length := by rw [len_eq, len_eq, len_eq, cat_eq, List.length_append]
theorem ok_cut {x : Str} {a b : Option Int} (hx : PyData.strOk x = true) : PyData.strOk (cutS x a b) = true := by
  rw [ok_iff] at *
  intro c hc
  exact hx c (List.mem_of_mem_drop (List.mem_of_mem_take hc))
theorem spl_mem (Q : List Nat) : ∀ (l : List Nat) (k : Nat) (acc : List Nat), okL acc → okL l → ∀ p ∈ TL.spl Q k acc l, okL p
  | [], k, acc, ha, _, p, hp => by
    rw [TL.spl_nil] at hp
    simp at hp
    subst hp
    exact ha
  | c :: r, 0, acc, ha, hl, p, hp => by
    have hr : okL r := fun d hd => hl d (List.mem_cons_of_mem _ hd)
    have hp : p ∈ (if TL.pre Q (c :: r) = true then acc :: TL.spl Q (Q.length - 1) [] r else TL.spl Q 0 (acc ++ [c]) r) := hp
    split at hp
    · rcases List.mem_cons.mp hp with rfl | hp
      · exact ha
      · exact spl_mem Q r _ [] (fun d hd => by cases hd) hr p hp
    · refine spl_mem Q r 0 (acc ++ [c]) (fun d hd => ?_) hr p hp
      rcases List.mem_append.mp hd with h | h
      · exact ha d h
      · simp at h; subst h; exact hl d List.mem_cons_self
  | c :: r, k + 1, acc, ha, hl, p, hp => spl_mem Q r k acc ha (fun d hd => hl d (List.mem_cons_of_mem _ hd)) p hp
theorem ok_split {x y : Str} (hy : y.cps.toList ≠ []) (hk : y.cps.toList.all (· < 256) = true) (hx : PyData.strOk x = true) : ∀ p ∈ Txt.split x y, PyData.strOk p = true := by
  have e := SX.split_S (a := x.cps.toList) (b := y.cps.toList) hy hk
  rw [SX.S_tl, SX.S_tl] at e
  rw [e]
  intro p hp
  obtain ⟨q, hq, rfl⟩ := List.mem_map.mp hp
  rw [ok_iff] at *
  exact spl_mem _ _ _ _ (fun d hd => by cases hd) hx q hq
theorem joinL_b (S : List Nat) : ∀ l : List (List Nat), (∀ p ∈ l, okL p) → okL S → okL (TL.joinL S l) ∧ (TL.joinL S l).length ≤ (l.map (·.length)).sum + l.length * S.length
  | [], _, _ => ⟨fun c h => (by cases h), Nat.zero_le _⟩
  | [p], hp, _ => ⟨hp p List.mem_cons_self, (by show p.length ≤ _; simp)⟩
  | p :: q :: r, hp, hs => by
    obtain ⟨h1, h2⟩ := joinL_b S (q :: r) (fun x hx => hp x (List.mem_cons_of_mem _ hx)) hs
    refine ⟨fun c hc => ?_, ?_⟩
    · have hc : c ∈ p ++ (S ++ TL.joinL S (q :: r)) := hc
      rcases List.mem_append.mp hc with h | h
      · exact hp p List.mem_cons_self c h
      · rcases List.mem_append.mp h with h | h
        · exact hs c h
        · exact h1 c h
    · show (p ++ (S ++ TL.joinL S (q :: r))).length ≤ _
      simp only [List.length_append, List.map_cons, List.sum_cons, List.length_cons, Nat.succ_mul] at h2 ⊢
      omega
theorem ok_join {s : Str} {ys : List Str} (hs : PyData.strOk s = true) (hy : ∀ y ∈ ys, PyData.strOk y = true) : PyData.strOk (Txt.join s ys) = true ∧ (Txt.join s ys).length ≤ (ys.map (·.length)).sum + ys.length * s.length := by
  have e : (ys.map fun y => y.cps.toList).map SX.S = ys := by
    induction ys with
    | nil => rfl
    | cons y r ih => simp only [List.map_cons, ih (fun y hy' => hy y (List.mem_cons_of_mem _ hy')), SX.S_tl]
  have j := SX.join_S s.cps.toList (ys.map fun y => y.cps.toList)
  rw [SX.S_tl, e] at j
  rw [j]
  obtain ⟨h1, h2⟩ := joinL_b s.cps.toList (ys.map fun y => y.cps.toList) (fun p hp => by
    obtain ⟨y, hy', rfl⟩ := List.mem_map.mp hp
    exact ok_iff.mp (hy y hy')) (ok_iff.mp hs)
  refine ⟨ok_iff.mpr h1, ?_⟩
  rw [SX.S_len, len_eq s]
  simp only [List.map_map, List.length_map, Function.comp_def] at h2
  have e2 : (ys.map (·.length)) = ys.map fun y => y.cps.toList.length := List.map_congr_left fun y _ => len_eq y
  rw [e2]
  exact h2
end DW

set_option maxRecDepth 100000
set_option maxHeartbeats 1000000
set_option synthInstance.maxSize 1000000
set_option synthInstance.maxHeartbeats 0
set_option linter.all false
set_option pp.maxSteps 400
namespace Lw
open PySem L2 DW
theorem sep_ne : (", " : Str).cps.toList ≠ [] := by decide +kernel
theorem sep_k : (", " : Str).cps.toList.all (· < 256) = true := by decide +kernel
theorem sp_ne : (" " : Str).cps.toList ≠ [] := by decide +kernel
theorem sp_k : (" " : Str).cps.toList.all (· < 256) = true := by decide +kernel
def strB1 (x : PyData) : Bool := match x with
  | .str s => PyData.strOk s
  | _ => false
theorem strB1_ok {l : List PyData} (h : l.all strB1 = true) {a : PyData} (ha : a ∈ l) : ∃ s, a = .str s ∧ PyData.strOk s = true := by
  have := List.all_eq_true.mp h a ha
  cases a <;> first | (cases this; done) | exact ⟨_, rfl, this⟩
theorem ok_catF {x y : Str} (hx : PyData.strOk x = true) (hy : PyData.strOk y = true) : PyData.strOk (catF x y) = true := by rw [catF_eq]; exact ok_cat hx hy
theorem line_ok {r : PyData} (h : isRule r) : PyData.strOk (lineP r) = true := by
  obtain ⟨a, b, c, d, e, f, rfl, ha, hb, hc, hd, he, hf⟩ := h
  obtain ⟨r0, rfl, o0⟩ := strB1_ok (l := v0) (by kernel_rfl) ha
  obtain ⟨r1, rfl, o1⟩ := strB1_ok (l := v0) (by kernel_rfl) hb
  obtain ⟨r2, rfl, o2⟩ := strB1_ok (l := v2) (by kernel_rfl) hc
  obtain ⟨r3, rfl, o3⟩ := strB1_ok (l := v3) (by kernel_rfl) hd
  obtain ⟨r4, rfl, o4⟩ := strB1_ok (l := v4) (by kernel_rfl) he
  obtain ⟨r5, rfl, o5⟩ := strB1_ok (l := v5) (by kernel_rfl) hf
  exact ok_catF (by decide +kernel) (ok_catF o0 (ok_catF (by decide +kernel) (ok_catF o1 (ok_catF (by decide +kernel) (ok_catF o2 (ok_catF (by decide +kernel) (ok_catF o3 (ok_catF (by decide +kernel) (ok_catF o4 (ok_catF (by decide +kernel) o5))))))))))
section
variable {k : DK} {kx : DX}
theorem ix_last {l : List Str} {S : Sto} (h : 1 ≤ l.length) : ∃ u, ixD (.d (.list (l.map .str))) (.d (.int (-1))) S = some (.d (.str u)) := by
  have hl : l.length - 1 < l.length := by omega
  refine ⟨l[l.length - 1], ?_⟩
  show (atI (l.map PyData.str) (-1)).map DV.d = _
  unfold atI ixN
  rw [if_neg (by decide), if_pos (by simp; omega)]
  have e : ((-1 : Int) + ((l.map PyData.str).length : Int)).toNat = l.length - 1 := by simp; omega
  simp only [Option.bind]
  rw [e, List.getElem?_map, List.getElem?_eq_getElem hl]
  rfl
theorem lc_last {env0 : DEnv} (hl : env0.length = 3) {S : Sto} : ∀ (ws acc : List Str) (kk : List PyData → Sto → Prop), (∀ w ∈ ws, w.length ≤ 100000) → acc.length + ws.length ≤ 200000 → (∀ us : List Str, kk (us.map .str) S) →
    lcL (bindN 2) yesT (op2W ixD (splitW (varW 2) (cW (.str " "))) (op1W negD (cW (.int 1)))) env0 ((ws.map .str).map .d) (acc.map .str) S kk
  | [], acc, kk, _, _, h => h acc
  | w :: ws, acc, kk, hw, hn, h => by
    have hn : acc.length + (ws.length + 1) ≤ 200000 := hn
    have g : (env0.set 2 (some (.d (.str w))))[2]? = some (some (.d (.str w))) := by rw [List.getElem?_set]; simp [hl]
    obtain ⟨u, hu⟩ := ix_last (l := Txt.split w " ") (S := S) (split_b sp_ne sp_k).1
    refine Exists.intro _ (And.intro rfl ?_)
    refine Exists.intro _ (And.intro g ?_)
    refine Exists.intro _ (And.intro rfl ?_)
    have hw0 := hw w List.mem_cons_self
    refine Exists.intro _ (And.intro rfl (And.intro (by decide +kernel) (And.intro (by omega) ?_)))
    refine Exists.intro _ (And.intro rfl ?_)
    refine Exists.intro _ (And.intro hu ?_)
    refine Exists.intro _ (And.intro rfl (And.intro (by simp; omega) ?_))
    have e : acc.map PyData.str ++ [.str u] = (acc ++ [u]).map .str := by simp
    rw [e]
    exact lc_last hl ws (acc ++ [u]) kk (fun x hx => hw x (List.mem_cons_of_mem _ hx)) (by simp; omega) h
theorem q_read_bad {t : Str} (hall : ∀ r ∈ rules, chk r = true) (ht : PyData.strOk t = true) (hl : t.length ≤ 50000) (hne : ∀ r, isRule r → lineP r ≠ t) (h : kx (.cls "InvalidLine") []) : F_read_rule [.d (.str t)] [] k kx := by
  have b := split_b (x := t) sep_ne sep_k
  refine Exists.intro _ (And.intro rfl ?_)
  refine Exists.intro _ (And.intro rfl ?_)
  refine Exists.intro _ (And.intro rfl ?_)
  refine Exists.intro _ (And.intro rfl ?_)
  refine Exists.intro _ (And.intro rfl ?_)
  refine Exists.intro _ (And.intro rfl (And.intro (by decide +kernel) (And.intro (by omega) ?_)))
  refine And.intro trivial ?_
  refine Exists.intro _ (Exists.intro _ (And.intro rfl ?_))
  refine lc_last rfl (Txt.split t ", ") [] _ (fun w hw => by have := sum_mem hw; omega) (by simp; omega) fun us => ?_
  refine Exists.intro _ (And.intro rfl ?_)
  refine Exists.intro _ (And.intro rfl ?_)
  refine And.intro (DW.nodB_ok rfl) ?_
  refine Exists.intro _ (And.intro rfl ?_)
  refine q_is_rule fun bb hb => res_0 ?_
  refine Exists.intro _ (And.intro rfl ?_)
  cases bb with
  | false => exact h
  | true =>
    have hr := hb rfl
    have c := chk_x (hall _ (mem_rules hr))
    have lo := line_ok hr
    refine Exists.intro _ (And.intro rfl ?_)
    refine And.intro (DW.nodB_ok rfl) ?_
    refine Exists.intro _ (And.intro rfl ?_)
    refine ansB_ok c.2.2.2 (ans_res ?_)
    refine Exists.intro _ (And.intro rfl ?_)
    have e : neD (.d (.str (lineP (.tuple (us.map .str))))) (.d (.str t)) [] = some (.d (.bool true)) := by
      show (if SeqAt.shaped (.str (lineP (.tuple (us.map .str)))) = true ∧ SeqAt.shaped (.str t) = true then some (DV.d (.bool (!(PyData.eqv (.str (lineP (.tuple (us.map .str)))) (.str t))))) else none) = _
      rw [if_pos ⟨shS lo, shS ht⟩]
      have : PyData.eqv (.str (lineP (.tuple (us.map .str)))) (.str t) = false := by
        show (lineP (.tuple (us.map .str)) == t) = false
        have := hne _ hr
        simpa using this
      rw [this]
      rfl
    refine Exists.intro _ (And.intro e ?_)
    refine Exists.intro _ (And.intro rfl ?_)
    exact h
theorem ex_0 {S1 S2 : Sto} {kx : DX} {x : XV} (h : kx x S1) : okObjs ([] : List Nat).length S2 ∧ kx x (putAll S1 [] S2) := ⟨fun i _ hi => by simp at hi, by rw [putAll_nil]; exact h⟩
theorem q_tried_bad {t : Str} (hall : ∀ r ∈ rules, chk r = true) (ht : PyData.strOk t = true) (hl : t.length ≤ 50000) (hne : ∀ r, isRule r → lineP r ≠ t) (h : k (.d (.str "line")) []) : F_law_tried [.d (.str t)] [] k kx := by
  refine Exists.intro _ (And.intro rfl ?_)
  refine And.intro (DW.nodB_ok rfl) ?_
  refine Exists.intro _ (And.intro rfl ?_)
  refine q_read_bad hall ht hl hne (ex_0 ?_)
  refine And.intro (by decide +kernel) ?_
  refine (if_pos (by decide +kernel)).mpr ?_
  (repeat first | refine Exists.intro _ (And.intro DW.lenP_ok ?_) | refine Exists.intro _ (And.intro DW.lenT_ok ?_) | refine Exists.intro _ (And.intro DW.lenL_ok ?_) | refine Exists.intro _ (And.intro rfl ?_) | refine Exists.intro _ (Exists.intro _ (And.intro rfl ?_)) | refine Exists.intro _ (Exists.intro _ (And.intro rfl (And.intro rfl ?_))) | refine And.intro rfl ?_ | refine Exists.intro _ (And.intro rfl (And.intro (Nat.le_of_ble_eq_true rfl) ?_)) | refine Exists.intro _ (And.intro (DW.modD_ok (by omega)) ?_) | refine Exists.intro _ (And.intro (DW.divD_ok (by omega) (by omega)) ?_) | refine Exists.intro _ (And.intro (DW.mulD_ok (by omega)) ?_) | refine Exists.intro _ (And.intro (DW.ix_ps (by omega) (by omega)) ?_) | refine Exists.intro _ (And.intro (DW.eqS_ok (by assumption) (by decide +kernel)) ?_) | refine And.intro (Nat.le_of_ble_eq_true rfl) ?_)
  exact h
def notStr : PyData → Bool
  | .none => true
  | .bool _ => true
  | .int _ => true
  | .tuple _ => true
  | .list _ => true
  | _ => false
theorem q_tried_odd {x : PyData} (hx : notStr x = true) (h : k (.d (.str "line")) []) : F_law_tried [.d x] [] k kx := by
  have go : ∀ {k : DK} {kx : DX}, kx (.cls "InvalidLine") [] → F_read_rule [.d x] [] k kx := by
    intro k kx h
    cases x <;> first | (cases hx; done) | ((repeat first | refine Exists.intro _ (And.intro DW.lenP_ok ?_) | refine Exists.intro _ (And.intro DW.lenT_ok ?_) | refine Exists.intro _ (And.intro DW.lenL_ok ?_) | refine Exists.intro _ (And.intro rfl ?_) | refine Exists.intro _ (Exists.intro _ (And.intro rfl ?_)) | refine Exists.intro _ (Exists.intro _ (And.intro rfl (And.intro rfl ?_))) | refine And.intro rfl ?_ | refine Exists.intro _ (And.intro rfl (And.intro (Nat.le_of_ble_eq_true rfl) ?_)) | refine Exists.intro _ (And.intro (DW.modD_ok (by omega)) ?_) | refine Exists.intro _ (And.intro (DW.divD_ok (by omega) (by omega)) ?_) | refine Exists.intro _ (And.intro (DW.mulD_ok (by omega)) ?_) | refine Exists.intro _ (And.intro (DW.ix_ps (by omega) (by omega)) ?_) | refine Exists.intro _ (And.intro (DW.eqS_ok (by assumption) (by decide +kernel)) ?_) | refine And.intro (Nat.le_of_ble_eq_true rfl) ?_); exact h)
  refine Exists.intro _ (And.intro rfl ?_)
  refine And.intro (DW.nodB_ok rfl) ?_
  refine Exists.intro _ (And.intro rfl ?_)
  refine go (ex_0 ?_)
  refine And.intro (by decide +kernel) ?_
  refine (if_pos (by decide +kernel)).mpr ?_
  (repeat first | refine Exists.intro _ (And.intro DW.lenP_ok ?_) | refine Exists.intro _ (And.intro DW.lenT_ok ?_) | refine Exists.intro _ (And.intro DW.lenL_ok ?_) | refine Exists.intro _ (And.intro rfl ?_) | refine Exists.intro _ (Exists.intro _ (And.intro rfl ?_)) | refine Exists.intro _ (Exists.intro _ (And.intro rfl (And.intro rfl ?_))) | refine And.intro rfl ?_ | refine Exists.intro _ (And.intro rfl (And.intro (Nat.le_of_ble_eq_true rfl) ?_)) | refine Exists.intro _ (And.intro (DW.modD_ok (by omega)) ?_) | refine Exists.intro _ (And.intro (DW.divD_ok (by omega) (by omega)) ?_) | refine Exists.intro _ (And.intro (DW.mulD_ok (by omega)) ?_) | refine Exists.intro _ (And.intro (DW.ix_ps (by omega) (by omega)) ?_) | refine Exists.intro _ (And.intro (DW.eqS_ok (by assumption) (by decide +kernel)) ?_) | refine And.intro (Nat.le_of_ble_eq_true rfl) ?_)
  exact h
end
end Lw

set_option maxRecDepth 100000
set_option maxHeartbeats 1000000
set_option synthInstance.maxSize 1000000
set_option synthInstance.maxHeartbeats 0
set_option linter.all false
set_option pp.maxSteps 400
namespace Lw
open PySem L2 DW
section
variable {k : DK} {kx : DX}
theorem lenS_ok {z : Str} {S : Sto} (h : z.length ≤ 1000000) : lenD [.d (.str z)] S = some (.d (.int z.length)) := by
  show (if z.length ≤ 1000000 then some (DV.d (.int z.length)) else none) = _
  exact if_pos h
theorem cutS_ok {z : Str} {a b : Option Int} (h : z.length ≤ 1000000) : cutD (.d (.str z)) a b = some (.d (.str (cutS z a b))) := by
  show (if z.length ≤ 1000000 then some (DV.d (.str (cutS z a b))) else none) = _
  exact if_pos h
theorem addS_ok {x y : Str} {S : Sto} (h : x.length + y.length ≤ 1000000) : addD (.d (.str x)) (.d (.str y)) S = some (.d (.str (x ++ y))) := by
  show (if x.length + y.length ≤ 1000000 then some (DV.d (.str (x ++ y))) else none) = _
  exact if_pos h
theorem strs_map : ∀ l : List Str, strsD (l.map .str) = some l
  | [] => rfl
  | x :: l => by
    show (strsD (l.map .str)).map (x :: ·) = _
    rw [strs_map l]
    rfl
theorem cut_map {l : List Str} {a b : Option Int} : cutP (l.map PyData.str) a b = (cutP l a b).map .str := by
  unfold cutP
  rw [List.length_map, List.map_take, List.map_drop]
theorem sum_drop (n : Nat) : ∀ l : List Nat, (l.drop n).sum ≤ l.sum := by
  induction n with
  | zero => intro l; simp
  | succ n ih =>
    intro l
    cases l with
    | nil => simp
    | cons a r =>
      have := ih r
      simp only [List.drop_succ_cons, List.sum_cons]
      omega
theorem sum_take (n : Nat) : ∀ l : List Nat, (l.take n).sum ≤ l.sum := by
  induction n with
  | zero => intro l; simp
  | succ n ih =>
    intro l
    cases l with
    | nil => simp
    | cons a r =>
      have := ih r
      simp only [List.take_succ_cons, List.sum_cons]
      omega
theorem cut_sum {l : List Str} {a b : Option Int} : ((cutP l a b).map (·.length)).sum ≤ (l.map (·.length)).sum ∧ (cutP l a b).length ≤ l.length := by
  unfold cutP
  rw [List.map_take, List.map_drop]
  refine ⟨Nat.le_trans (sum_take _ _) (sum_drop _ _), ?_⟩
  rw [List.length_take, List.length_drop]
  omega
theorem cut_in {l : List Str} {a b : Option Int} {x : Str} (h : x ∈ cutP l a b) : x ∈ l := List.mem_of_mem_drop (List.mem_of_mem_take h)
/-- two cuts of the words, joined -/
def jn (ws : List Str) (a b c d : Option Int) : Str := Txt.join ", " (cutP ws a b ++ cutP ws c d)
theorem jn_ok {ws : List Str} {a b c d : Option Int} (ho : ∀ w ∈ ws, PyData.strOk w = true) (hs : (ws.map (·.length)).sum ≤ 5000) (hn : ws.length ≤ 5001) :
    PyData.strOk (jn ws a b c d) = true ∧ (jn ws a b c d).length ≤ 50000 ∧ ((cutP ws a b ++ cutP ws c d).map (·.length)).sum + (cutP ws a b ++ cutP ws c d).length * (", " : Str).length ≤ 16777216 := by
  obtain ⟨a1, a2⟩ := cut_sum (l := ws) (a := a) (b := b)
  obtain ⟨b1, b2⟩ := cut_sum (l := ws) (a := c) (b := d)
  have l2 : (", " : Str).length = 2 := by decide +kernel
  have j := ok_join (s := ", ") (ys := cutP ws a b ++ cutP ws c d) (by decide +kernel) (fun y hy => by
    rcases List.mem_append.mp hy with h | h
    · exact ho y (cut_in h)
    · exact ho y (cut_in h))
  have j2 := j.2
  rw [List.map_append, List.sum_append, List.length_append, l2] at j2 ⊢
  refine ⟨j.1, Nat.le_trans j2 (by omega), by omega⟩
def signs : List PyData := [.str " ", .str ",", .str ", ", .str "now", .str "turn", .str "days", .str "", .str "up ", .str "x", .str "lost", .str "over back, ", .str "down"]
def okS (n : Nat) (x : PyData) : Prop := ∃ s, x = .str s ∧ PyData.strOk s = true ∧ s.length ≤ n
def okSB (n : Nat) (x : PyData) : Bool := match x with
  | .str s => PyData.strOk s && Nat.ble s.length n
  | _ => false
theorem okSB_ok {n : Nat} {x : PyData} (h : okSB n x = true) : okS n x := by
  cases x <;> first | (cases h; done) | skip
  obtain ⟨h1, h2⟩ := two h
  exact ⟨_, rfl, h1, Nat.le_of_ble_eq_true h2⟩
theorem signs_ok : signs.all (okSB 20) = true := by decide +kernel
theorem q_bent {t : Str} {x y : Int} (ht : PyData.strOk t = true) (hl : t.length ≤ 1000) (hx : 0 ≤ x) (hy : 0 ≤ y) (hy2 : y < 2147483563) (h : ∀ s x' y', PyData.strOk s = true → s.length ≤ 50000 → 0 ≤ x' → 0 ≤ y' → y' < 2147483563 → k (.d (.str s)) [srcO x' y']) :
    F_law_bent [.p 0, .d (.str t)] [srcO x y] k kx := by
  refine Exists.intro _ (And.intro rfl (And.intro (Nat.le_of_ble_eq_true rfl) ?_))
  refine Exists.intro _ (And.intro rfl ?_)
  refine Exists.intro _ (And.intro rfl ?_)
  refine Exists.intro _ (And.intro (lenS_ok (by omega)) ?_)
  refine Exists.intro _ (And.intro rfl ?_)
  refine And.intro (DW.nodB_ok rfl) ?_
  refine Exists.intro _ (And.intro rfl ?_)
  refine s_draw (n := (t.length : Int) + 1) (by omega) (by omega) hx hy hy2 fun at_ x y at0 at1 hx hy hy2 => res_p1 rfl rfl ?_
  refine Exists.intro _ (And.intro rfl ?_)
  refine Exists.intro _ (And.intro rfl ?_)
  refine Exists.intro _ (And.intro rfl ?_)
  refine Exists.intro _ (And.intro (cutS_ok (by omega)) ?_)
  refine Exists.intro _ (And.intro rfl ?_)
  refine Exists.intro _ (And.intro rfl ?_)
  refine And.intro (DW.nodB_ok rfl) ?_
  refine Exists.intro _ (And.intro rfl ?_)
  refine s_choice (ds := signs) (by decide) (by decide) hx hy hy2 fun sg x y hsg hx hy hy2 => res_p1 rfl rfl ?_
  obtain ⟨sg, rfl, so, sl⟩ := okSB_ok (List.all_eq_true.mp signs_ok sg hsg)
  have ca := cutS_length t none (some at_)
  refine Exists.intro _ (And.intro (addS_ok (by omega)) ?_)
  refine Exists.intro _ (And.intro rfl ?_)
  refine Exists.intro _ (And.intro rfl ?_)
  refine Exists.intro _ (And.intro rfl ?_)
  refine And.intro (DW.nodB_ok rfl) ?_
  refine Exists.intro _ (And.intro rfl ?_)
  refine s_draw (n := 3) (by omega) (by omega) hx hy hy2 fun dr x y d0 d1 hx hy hy2 => res_p1 rfl rfl ?_
  refine Exists.intro _ (And.intro rfl ?_)
  refine Exists.intro _ (And.intro rfl ?_)
  refine Exists.intro _ (And.intro (cutS_ok (by omega)) ?_)
  have cb := cutS_length t (some (at_ + dr)) none
  have l1 := len_cat (cutS t none (some at_)) sg
  refine Exists.intro _ (And.intro (addS_ok (by omega)) ?_)
  have l2 := len_cat (cutS t none (some at_) ++ sg) (cutS t (some (at_ + dr)) none)
  have o2 := ok_cat (ok_cat (ok_cut (a := none) (b := some at_) ht) so) (ok_cut (a := some (at_ + dr)) (b := none) ht)
  have l3 : (cutS t none (some at_) ++ sg ++ cutS t (some (at_ + dr)) none).length ≤ 3000 := by omega
  generalize cutS t none (some at_) ++ sg ++ cutS t (some (at_ + dr)) none = u at o2 l3 ⊢
  have bu := split_b (x := u) sep_ne sep_k
  have ou := ok_split (x := u) sep_ne sep_k o2
  refine Exists.intro _ (And.intro rfl ?_)
  refine Exists.intro _ (And.intro rfl ?_)
  refine Exists.intro _ (And.intro rfl (And.intro (by decide +kernel) (And.intro (by omega) ?_)))
  generalize Txt.split u ", " = ws at bu ou ⊢
  refine Exists.intro _ (And.intro rfl ?_)
  refine Exists.intro _ (And.intro rfl ?_)
  refine Exists.intro _ (And.intro lenL_ok ?_)
  refine And.intro (DW.nodB_ok rfl) ?_
  refine Exists.intro _ (And.intro rfl ?_)
  refine s_draw (n := ((ws.map PyData.str).length : Int)) (by simp; omega) (by simp; omega) hx hy hy2 fun he x y h0 h1 hx hy hy2 => res_p1 rfl rfl ?_
  have st : ∀ (a b c d : Option Int), strsD (cutP (ws.map PyData.str) a b ++ cutP (ws.map PyData.str) c d) = some (cutP ws a b ++ cutP ws c d) := by
    intro a b c d
    rw [cut_map, cut_map, ← List.map_append]
    exact strs_map _
  have jb := fun (a b c d : Option Int) => jn_ok (a := a) (b := b) (c := c) (d := d) ou (by omega) (by omega)
  have al : ∀ (a b c d : Option Int) (S : Sto), addD (.d (.list (cutP (ws.map PyData.str) a b))) (.d (.list (cutP (ws.map PyData.str) c d))) S = some (.d (.list (cutP (ws.map PyData.str) a b ++ cutP (ws.map PyData.str) c d))) := fun a b c d S => addL_ok (by
    rw [cut_map, cut_map, List.length_map, List.length_map]
    have := (cut_sum (l := ws) (a := a) (b := b)).2
    have := (cut_sum (l := ws) (a := c) (b := d)).2
    omega)
  refine Exists.intro _ (And.intro rfl ?_)
  refine Exists.intro _ (And.intro rfl ?_)
  refine Exists.intro _ (And.intro rfl ?_)
  refine Exists.intro _ (And.intro rfl ?_)
  refine Exists.intro _ (And.intro rfl ?_)
  refine Exists.intro _ (And.intro rfl ?_)
  refine Exists.intro _ (And.intro rfl ?_)
  refine Exists.intro _ (And.intro rfl ?_)
  refine Exists.intro _ (And.intro rfl ?_)
  refine Exists.intro _ (And.intro rfl ?_)
  refine Exists.intro _ (And.intro rfl ?_)
  refine Exists.intro _ (And.intro rfl ?_)
  refine Exists.intro _ (And.intro (al _ _ _ _ _) ?_)
  refine Exists.intro true (Exists.intro _ (Exists.intro _ (And.intro rfl (And.intro (st _ _ _ _) (And.intro (jb _ _ _ _).2.2 ?_)))))
  repeat refine Exists.intro _ (And.intro rfl ?_)
  refine Exists.intro _ (And.intro (al _ _ _ _ _) ?_)
  refine Exists.intro true (Exists.intro _ (Exists.intro _ (And.intro rfl (And.intro (st _ _ _ _) (And.intro (jb _ _ _ _).2.2 ?_)))))
  refine Exists.intro _ (And.intro rfl (And.intro (Nat.le_of_ble_eq_true rfl) ?_))
  repeat refine Exists.intro _ (And.intro rfl ?_)
  refine Exists.intro _ (And.intro (al _ _ _ _ _) ?_)
  refine Exists.intro true (Exists.intro _ (Exists.intro _ (And.intro rfl (And.intro (st _ _ _ _) (And.intro (jb _ _ _ _).2.2 ?_)))))
  refine Exists.intro _ (And.intro rfl (And.intro (Nat.le_of_ble_eq_true rfl) ?_))
  refine Exists.intro _ (And.intro (addL_ok (Nat.le_of_ble_eq_true rfl)) ?_)
  refine And.intro (DW.nodB_ok rfl) ?_
  refine Exists.intro _ (And.intro rfl ?_)
  refine s_choice (ds := _) ?_ ?_ hx hy hy2 fun sg x y hsg hx hy hy2 => ?_
  · exact Nat.lt_of_lt_of_le (show 0 < 5 by decide) (Nat.le_refl _)
  · exact (show 5 < 1000000 by decide)
  · have : okS 50000 sg := by
      simp only [List.mem_append, List.mem_cons, List.not_mem_nil, or_false] at hsg
      rcases hsg with (rfl | rfl | rfl | rfl) | rfl
      · exact ⟨_, rfl, o2, by omega⟩
      · exact ⟨_, rfl, o2, by omega⟩
      · exact ⟨_, rfl, (jb _ _ _ _).1, (jb _ _ _ _).2.1⟩
      · exact ⟨_, rfl, (jb _ _ _ _).1, (jb _ _ _ _).2.1⟩
      · exact ⟨_, rfl, (jb _ _ _ _).1, (jb _ _ _ _).2.1⟩
    obtain ⟨s, rfl, so, sl⟩ := this
    dsimp only
    refine res_p1 rfl rfl ?_
    exact h s x y so sl hx hy hy2
end
end Lw

set_option maxRecDepth 100000
set_option maxHeartbeats 0
set_option linter.all false
namespace Lw
open PySem L2 DW
theorem chk0 : ((rules.drop (12 * 0)).take 12).all chk = true := by kernel_rfl
theorem chk1 : ((rules.drop (12 * 1)).take 12).all chk = true := by kernel_rfl
theorem chk2 : ((rules.drop (12 * 2)).take 12).all chk = true := by kernel_rfl
theorem chk3 : ((rules.drop (12 * 3)).take 12).all chk = true := by kernel_rfl
theorem chk4 : ((rules.drop (12 * 4)).take 12).all chk = true := by kernel_rfl
theorem chk5 : ((rules.drop (12 * 5)).take 12).all chk = true := by kernel_rfl
theorem chk6 : ((rules.drop (12 * 6)).take 12).all chk = true := by kernel_rfl
theorem chk7 : ((rules.drop (12 * 7)).take 12).all chk = true := by kernel_rfl
theorem chk8 : ((rules.drop (12 * 8)).take 12).all chk = true := by kernel_rfl
theorem chk9 : ((rules.drop (12 * 9)).take 12).all chk = true := by kernel_rfl
theorem chk10 : ((rules.drop (12 * 10)).take 12).all chk = true := by kernel_rfl
theorem chk11 : ((rules.drop (12 * 11)).take 12).all chk = true := by kernel_rfl
theorem chk12 : ((rules.drop (12 * 12)).take 12).all chk = true := by kernel_rfl
theorem chk13 : ((rules.drop (12 * 13)).take 12).all chk = true := by kernel_rfl
theorem chk14 : ((rules.drop (12 * 14)).take 12).all chk = true := by kernel_rfl
theorem chk15 : ((rules.drop (12 * 15)).take 12).all chk = true := by kernel_rfl
theorem chk16 : ((rules.drop (12 * 16)).take 12).all chk = true := by kernel_rfl
theorem chk17 : ((rules.drop (12 * 17)).take 12).all chk = true := by kernel_rfl
theorem chk18 : ((rules.drop (12 * 18)).take 12).all chk = true := by kernel_rfl
theorem chk19 : ((rules.drop (12 * 19)).take 12).all chk = true := by kernel_rfl
theorem chk20 : ((rules.drop (12 * 20)).take 12).all chk = true := by kernel_rfl
theorem chk21 : ((rules.drop (12 * 21)).take 12).all chk = true := by kernel_rfl
theorem chk22 : ((rules.drop (12 * 22)).take 12).all chk = true := by kernel_rfl
theorem chk23 : ((rules.drop (12 * 23)).take 12).all chk = true := by kernel_rfl
theorem chk_at (i : Nat) (h : i < 24) : ((rules.drop (12 * i)).take 12).all chk = true := match i, h with
  | 0, _ => chk0
  | 1, _ => chk1
  | 2, _ => chk2
  | 3, _ => chk3
  | 4, _ => chk4
  | 5, _ => chk5
  | 6, _ => chk6
  | 7, _ => chk7
  | 8, _ => chk8
  | 9, _ => chk9
  | 10, _ => chk10
  | 11, _ => chk11
  | 12, _ => chk12
  | 13, _ => chk13
  | 14, _ => chk14
  | 15, _ => chk15
  | 16, _ => chk16
  | 17, _ => chk17
  | 18, _ => chk18
  | 19, _ => chk19
  | 20, _ => chk20
  | 21, _ => chk21
  | 22, _ => chk22
  | 23, _ => chk23
  | n + 24, h => absurd h (by omega)
theorem hall (r : PyData) (h : r ∈ rules) : chk r = true := by
  obtain ⟨j, hj, e⟩ := List.mem_iff_getElem.mp h
  have hn : rules.length = 288 := by kernel_rfl
  refine List.all_eq_true.mp (chk_at (j / 12) (by omega)) r ?_
  rw [List.mem_iff_getElem?]
  refine ⟨j % 12, ?_⟩
  rw [List.getElem?_take_of_lt (by omega), List.getElem?_drop, show 12 * (j / 12) + j % 12 = j by omega, List.getElem?_eq_getElem hj, e]
end Lw

set_option maxRecDepth 100000
set_option maxHeartbeats 4000000
set_option synthInstance.maxSize 1000000
set_option synthInstance.maxHeartbeats 0
set_option linter.all false
set_option pp.maxSteps 400
namespace Lw
open PySem L2 DW
def w_b : DS := (seqS (asgS 2 (cW (.str "up now, down turn, credit days, charge full, over lost, rounding near"))) (seqS (asgS 3 (lstW (consA (op2W addD (varW 2) (cW (.str " "))) (consA (op2W addD (cW (.str " ")) (varW 2)) (consA (op2W addD (varW 2) (cW (.str ","))) (consA (replW "up " "Up " (varW 2)) (consA (replW ", " "," (varW 2)) (consA (sliceW (varW 2) noPartW (partW (op1W negD (cW (.int 5))))) nilA)))))))) (seqS (asgS 3 (op2W addD (varW 3) (lstW (consA (replW "charge full" "charge half" (varW 2)) (consA (replW "up now, " "" (varW 2)) (consA (op2W addD (varW 2) (cW (.str ", up now"))) nilA)))))) (seqS (asgS 3 (op2W addD (varW 3) (lstW (consA (replW "credit" "Credit" (varW 2)) (consA (replW "over" "rounding" (varW 2)) (consA (replW " now" "  now" (varW 2)) nilA)))))) (seqS (retS (andVW (op2W neD (callW F_law_tried (consA (varW 2) nilA)) (cW (.str "line"))) (op2W eqD (lcW (seqI (varW 3)) (bindN 10) (testW (op2W neD (callW F_law_tried (consA (varW 10) nilA)) (cW (.str "line")))) (varW 10) [10]) (lstW nilA)))) nextS)))))
instance : MS w_b := by delta w_b; infer_instance
instance : QS w_b := by delta w_b; infer_instance
def endB : BEnds := ⟨fun _ _ => false, isV (.bool true), fun _ _ => false, fun _ _ => false, fun _ _ _ => false⟩
theorem end_ok {x0 x1 x2 x3 x4 x5 x6 x7 x8 x9 x10 : Option DV} {S : Sto} : QS.b w_b [x0, x1, x2, x3, x4, x5, x6, x7, x8, x9, x10] S endB = true := by kernel_rfl
theorem odd1 : ansB F_law_tried [.str ""] (.str "line") = true := by kernel_rfl
theorem odd2 : ansB F_law_tried [.str " "] (.str "line") = true := by kernel_rfl
def b20 (x : PyData) : Bool := match x with
  | .str s => Nat.ble s.length 20
  | _ => false
theorem b20_ok {l : List PyData} (h : l.all b20 = true) {s : Str} (ha : .str s ∈ l) : s.length ≤ 20 := Nat.le_of_ble_eq_true (List.all_eq_true.mp h _ ha)
theorem len_catF (x y : Str) : (catF x y).length = x.length + y.length := by rw [catF_eq]; exact len_cat x y
theorem line_x {r : PyData} (h : isRule r) : (lineP r).length ≤ 900 ∧ ∃ a b c d e f : Str, r = .tuple [.str a, .str b, .str c, .str d, .str e, .str f] ∧ PyData.strOk a = true ∧ PyData.strOk b = true ∧ PyData.strOk c = true ∧ PyData.strOk d = true ∧ PyData.strOk e = true ∧ PyData.strOk f = true := by
  obtain ⟨a, b, c, d, e, f, rfl, ha, hb, hc, hd, he, hf⟩ := h
  obtain ⟨r0, rfl, o0⟩ := strB1_ok (l := v0) (by kernel_rfl) ha
  obtain ⟨r1, rfl, o1⟩ := strB1_ok (l := v0) (by kernel_rfl) hb
  obtain ⟨r2, rfl, o2⟩ := strB1_ok (l := v2) (by kernel_rfl) hc
  obtain ⟨r3, rfl, o3⟩ := strB1_ok (l := v3) (by kernel_rfl) hd
  obtain ⟨r4, rfl, o4⟩ := strB1_ok (l := v4) (by kernel_rfl) he
  obtain ⟨r5, rfl, o5⟩ := strB1_ok (l := v5) (by kernel_rfl) hf
  refine ⟨?_, _, _, _, _, _, _, rfl, o0, o1, o2, o3, o4, o5⟩
  have a0 := b20_ok (l := v0) (by kernel_rfl) ha
  have a1 := b20_ok (l := v0) (by kernel_rfl) hb
  have a2 := b20_ok (l := v2) (by kernel_rfl) hc
  have a3 := b20_ok (l := v3) (by kernel_rfl) hd
  have a4 := b20_ok (l := v4) (by kernel_rfl) he
  have a5 := b20_ok (l := v5) (by kernel_rfl) hf
  have c1 : ("up " : Str).length ≤ 20 := by decide +kernel
  have c2 : (", down " : Str).length ≤ 20 := by decide +kernel
  have c3 : (", credit " : Str).length ≤ 20 := by decide +kernel
  have c4 : (", charge " : Str).length ≤ 20 := by decide +kernel
  have c5 : (", over " : Str).length ≤ 20 := by decide +kernel
  have c6 : (", rounding " : Str).length ≤ 20 := by decide +kernel
  show (catF "up " (catF r0 (catF ", down " (catF r1 (catF ", credit " (catF r2 (catF ", charge " (catF r3 (catF ", over " (catF r4 (catF ", rounding " r5))))))))))).length ≤ 900
  simp only [len_catF]
  omega
theorem cut900 (z : Str) : (cutS z none (some 900)).length ≤ 900 := by
  rw [len_eq]
  show ((z.cps.toList.drop (HT.sIx z.length 0 none)).take (HT.sIx z.length z.length (some 900) - HT.sIx z.length 0 none)).length ≤ 900
  rw [List.length_take]
  have : HT.sIx z.length z.length (some 900) ≤ 900 := by
    show (if (900 : Int) < 0 then ((900 : Int) + (z.length : Int)).toNat else min (900 : Int).toNat z.length) ≤ 900
    rw [if_neg (by decide)]
    omega
  omega
theorem rule_line {a b c d e f : Str} {S : Sto} (o0 : PyData.strOk a = true) (o1 : PyData.strOk b = true) (o2 : PyData.strOk c = true) (o3 : PyData.strOk d = true) (o4 : PyData.strOk e = true) (o5 : PyData.strOk f = true) :
    eqD (.d (.tuple [.str a, .str b, .str c, .str d, .str e, .str f])) (.d (.str "line")) S = some (.d (.bool false)) ∧ neD (.d (.tuple [.str a, .str b, .str c, .str d, .str e, .str f])) (.d (.str "line")) S = some (.d (.bool true)) := by
  have hs : SeqAt.shaped (.tuple [.str a, .str b, .str c, .str d, .str e, .str f]) = true := by
    show ((PyData.strOk a && (PyData.strOk b && (PyData.strOk c && (PyData.strOk d && (PyData.strOk e && (PyData.strOk f && true)))))) && decide (PyData.depth (.tuple [.str a, .str b, .str c, .str d, .str e, .str f]) ≤ 64)) = true
    rw [o0, o1, o2, o3, o4, o5]
    rfl
  have hl : SeqAt.shaped (.str "line") = true := shS (by decide +kernel)
  constructor
  · show (if SeqAt.shaped (.tuple [.str a, .str b, .str c, .str d, .str e, .str f]) = true ∧ SeqAt.shaped (.str "line") = true then some (DV.d (.bool false)) else none) = _
    exact if_pos ⟨hs, hl⟩
  · show (if SeqAt.shaped (.tuple [.str a, .str b, .str c, .str d, .str e, .str f]) = true ∧ SeqAt.shaped (.str "line") = true then some (DV.d (.bool true)) else none) = _
    exact if_pos ⟨hs, hl⟩
theorem ne_str {x : Str} {S : Sto} (h : PyData.strOk x = true) : neD (.d (.str x)) (.d (.str x)) S = some (.d (.bool false)) := by
  show (if SeqAt.shaped (.str x) = true ∧ SeqAt.shaped (.str x) = true then some (DV.d (.bool (!(PyData.eqv (.str x) (.str x))))) else none) = _
  rw [if_pos ⟨shS h, shS h⟩]
  have e : PyData.eqv (.str x) (.str x) = true := by show (x == x) = true; simp
  rw [e]
  rfl
theorem eq_self {x : Str} {S : Sto} (h : PyData.strOk x = true) : eqD (.d (.str x)) (.d (.str x)) S = some (.d (.bool true)) := by
  rw [eqS_ok h h]
  have e : PyData.eqv (.str x) (.str x) = true := by show (x == x) = true; simp
  rw [e]
theorem eq_not {x y : Str} {S : Sto} (h : PyData.strOk x = true) (h2 : PyData.strOk y = true) (hn : x ≠ y) : eqD (.d (.str x)) (.d (.str y)) S = some (.d (.bool false)) := by
  rw [eqS_ok h h2]
  have e : PyData.eqv (.str x) (.str y) = false := by show (x == y) = false; simpa using hn
  rw [e]
def E11 (ns : List Int) (e : DEnv) : Prop := ∃ x1 x2 x3 x4 x5 x6 x7 x8 x9 x10 : Option DV, e = [some (.s ns), x1, x2, x3, x4, x5, x6, x7, x8, x9, x10]
def E6 (ns : List Int) (r : PyData) (sp : Nat) (e : DEnv) : Prop := ∃ (x1 x2 x3 x7 x8 x9 x10 : Option DV) (t : Str), e = [some (.s ns), x1, x2, x3, some (.p sp), some (.d r), some (.d (.str t)), x7, x8, x9, x10] ∧ PyData.strOk t = true ∧ t.length ≤ 900
theorem law_ok (ns : List Int) (hl : ns.length ≤ 63) : F_law [.s ns] [] (fun r _ => r = .d (.bool true)) (fun _ _ => False) := by
  have hlen : ((ns.map PyData.int).length : Int) ≤ 63 := by simp; omega
  have hb : 1 + (if (8 : Int) < ((ns.map PyData.int).length : Int) then 8 else ((ns.map PyData.int).length : Int)) ≤ 11 ∧ 1 ≤ 1 + (if (8 : Int) < ((ns.map PyData.int).length : Int) then 8 else ((ns.map PyData.int).length : Int)) := by split <;> omega
  unfold F_law funW w_law
  refine Exists.intro _ (And.intro rfl ?_)
  refine Exists.intro _ (And.intro rfl ?_)
  refine Exists.intro _ (And.intro rfl ?_)
  refine Exists.intro _ (And.intro rfl ?_)
  refine Exists.intro _ (And.intro rfl ?_)
  refine And.intro (show (-100000 : Int) ≤ 1 + (if (8 : Int) < ((ns.map PyData.int).length : Int) then 8 else ((ns.map PyData.int).length : Int)) by omega) (And.intro (show 1 + (if (8 : Int) < ((ns.map PyData.int).length : Int) then 8 else ((ns.map PyData.int).length : Int)) ≤ 100000 by omega) ?_)
  refine loop_inv (fun e S => E11 ns e) ⟨none, none, none, none, none, none, none, none, none, none, rfl⟩ ?_ ?_
  · intro x hx env S he
    obtain ⟨k0, rfl, hk1, hk2⟩ := mem_rg hx
    have hk3 : k0 ≤ 100 := by
      have hk2' : k0 < 1 + (if (8 : Int) < ((ns.map PyData.int).length : Int) then 8 else ((ns.map PyData.int).length : Int)) := hk2
      omega
    obtain ⟨x1, x2, x3, x4, x5, x6, x7, x8, x9, x10, rfl⟩ := he
    refine Exists.intro _ (And.intro rfl ?_)
    refine Exists.intro _ (And.intro rfl ?_)
    refine And.intro (DW.nodB_ok rfl) ?_
    refine Exists.intro _ (And.intro rfl ?_)
    refine s_source hk1 hk3 fun x y hx0 hy0 hy1 => res_0p rfl rfl ?_
    refine Exists.intro _ (And.intro rfl ?_)
    refine And.intro (DW.nodB_ok rfl) ?_
    refine Exists.intro _ (And.intro (objs1 get_last rfl) ?_)
    refine s_rule hx0 hy0 hy1 fun r x y hr hx0 hy0 hy1 => res_p1 rfl rfl ?_
    rw [set_last]
    have ck := chk_x (hall r (mem_rules hr))
    have lo := line_ok hr
    obtain ⟨ll, ra, rb, rc, rd, re, rf, er, q0, q1, q2, q3, q4, q5⟩ := line_x hr
    refine Exists.intro _ (And.intro rfl ?_)
    refine And.intro (DW.nodB_ok rfl) ?_
    refine Exists.intro _ (And.intro rfl ?_)
    refine ansB_ok ck.1 (ans_res ?_)
    refine Exists.intro _ (And.intro rfl (And.intro (by decide) (And.intro (by decide) ?_)))
    refine loop_inv (fun e S' => E6 ns r S.length e ∧ ∃ x y : Int, S' = S ++ [srcO x y] ∧ 0 ≤ x ∧ 0 ≤ y ∧ y < 2147483563) ⟨⟨_, _, _, _, _, _, _, _, rfl, lo, ll⟩, x, y, rfl, hx0, hy0, hy1⟩ ?_ ?_
    · rintro z hz env S' ⟨⟨x1, x2, x3, x7, x8, x9, x10, t, rfl, to, tl⟩, x, y, rfl, hx0, hy0, hy1⟩
      obtain ⟨i, rfl, i0, i1⟩ := mem_rg hz
      have go : ∀ {k : DK} {kx : DX}, (∀ (s : Str) (x' y' : Int), PyData.strOk s = true → s.length ≤ 50000 → 0 ≤ x' → 0 ≤ y' → y' < 2147483563 → k (.d (.str s)) [srcO x' y']) → ∀ u : Str, PyData.strOk u = true → u.length ≤ 900 → F_law_bent [.p 0, .d (.str u)] [srcO x y] k kx := fun h u uo ul => q_bent uo (by omega) hx0 hy0 hy1 h
      refine Exists.intro _ (And.intro rfl ?_)
      refine Exists.intro _ (And.intro rfl ?_)
      refine Exists.intro _ (And.intro rfl ?_)
      refine Exists.intro _ (And.intro rfl ?_)
      refine Exists.intro _ (And.intro rfl ?_)
      refine DW.r_eqi (fun hc => ?_) (fun hc => ?_)
      · refine Exists.intro _ (And.intro rfl ?_)
        refine And.intro (DW.nodB_ok rfl) ?_
        refine Exists.intro _ (And.intro rfl ?_)
        refine ansB_ok ck.1 (ans_res ?_)
        refine And.intro (DW.nodB_ok rfl) ?_
        refine Exists.intro _ (And.intro (objs1 get_last rfl) ?_)
        refine go (fun s x y so sl hx0 hy0 hy1 => res_p1 rfl rfl ?_) (lineP r) lo ll
        rw [set_last]
        refine Exists.intro _ (And.intro rfl ?_)
        refine Exists.intro _ (And.intro (cutS_ok (by omega)) ?_)
        have uo := ok_cut (a := none) (b := some 900) so
        have ul := cut900 s
        generalize cutS s none (some 900) = u at uo ul ⊢
        refine Exists.intro _ (And.intro rfl ?_)
        refine And.intro (DW.nodB_ok rfl) ?_
        refine Exists.intro _ (And.intro rfl ?_)
        by_cases hex : ∃ r', isRule r' ∧ lineP r' = u
        · obtain ⟨r', hr', rfl⟩ := hex
          have ck' := chk_x (hall r' (mem_rules hr'))
          obtain ⟨_, a, b, c, d, e, f, er', p0, p1, p2, p3, p4, p5⟩ := line_x hr'
          refine ansB_ok ck'.2.2.1 (ans_res ?_)
          have rl := fun S => rule_line (S := S) p0 p1 p2 p3 p4 p5
          rw [← er'] at rl
          refine Exists.intro _ (And.intro rfl ?_)
          refine Exists.intro _ (And.intro (rl _).1 ?_)
          refine Exists.intro _ (And.intro rfl ?_)
          refine Exists.intro _ (And.intro rfl ?_)
          refine Exists.intro _ (And.intro (rl _).2 ?_)
          refine Exists.intro _ (And.intro rfl ?_)
          refine Exists.intro _ (And.intro rfl ?_)
          refine And.intro (DW.nodB_ok rfl) ?_
          refine Exists.intro _ (And.intro rfl ?_)
          refine ansB_ok ck'.2.1 (ans_res ?_)
          refine Exists.intro _ (And.intro rfl ?_)
          refine Exists.intro _ (And.intro rfl ?_)
          refine And.intro (DW.nodB_ok rfl) ?_
          refine Exists.intro _ (And.intro rfl ?_)
          refine ansB_ok ck'.1 (ans_res ?_)
          refine Exists.intro _ (And.intro rfl ?_)
          refine Exists.intro _ (And.intro (ne_str uo) ?_)
          refine Exists.intro _ (And.intro rfl ?_)
          exact ⟨⟨_, _, _, _, _, _, _, _, rfl, uo, ul⟩, x, y, rfl, hx0, hy0, hy1⟩
        · have hne : ∀ r', isRule r' → lineP r' ≠ u := fun r' h e => hex ⟨r', h, e⟩
          refine q_tried_bad hall uo (by omega) hne (res_0 ?_)
          refine Exists.intro _ (And.intro rfl ?_)
          refine Exists.intro _ (And.intro (eq_self (by decide +kernel)) ?_)
          refine Exists.intro _ (And.intro rfl ?_)
          refine Exists.intro _ (And.intro rfl ?_)
          refine Exists.intro _ (And.intro rfl ?_)
          refine And.intro (DW.nodB_ok rfl) ?_
          refine Exists.intro _ (And.intro rfl ?_)
          refine ansB_ok ck.1 (ans_res ?_)
          refine Exists.intro _ (And.intro (eq_not uo lo (fun z => hne r hr z.symm)) ?_)
          refine Exists.intro _ (And.intro rfl ?_)
          refine Exists.intro _ (And.intro rfl ?_)
          refine Exists.intro _ (And.intro (ne_str (by decide +kernel)) ?_)
          refine Exists.intro _ (And.intro rfl ?_)
          exact ⟨⟨_, _, _, _, _, _, _, _, rfl, uo, ul⟩, x, y, rfl, hx0, hy0, hy1⟩
      · refine Exists.intro _ (And.intro rfl ?_)
        refine And.intro (DW.nodB_ok rfl) ?_
        refine Exists.intro _ (And.intro (objs1 get_last rfl) ?_)
        refine go (fun s x y so sl hx0 hy0 hy1 => res_p1 rfl rfl ?_) t to tl
        rw [set_last]
        refine Exists.intro _ (And.intro rfl ?_)
        refine Exists.intro _ (And.intro (cutS_ok (by omega)) ?_)
        have uo := ok_cut (a := none) (b := some 900) so
        have ul := cut900 s
        generalize cutS s none (some 900) = u at uo ul ⊢
        refine Exists.intro _ (And.intro rfl ?_)
        refine And.intro (DW.nodB_ok rfl) ?_
        refine Exists.intro _ (And.intro rfl ?_)
        by_cases hex : ∃ r', isRule r' ∧ lineP r' = u
        · obtain ⟨r', hr', rfl⟩ := hex
          have ck' := chk_x (hall r' (mem_rules hr'))
          obtain ⟨_, a, b, c, d, e, f, er', p0, p1, p2, p3, p4, p5⟩ := line_x hr'
          refine ansB_ok ck'.2.2.1 (ans_res ?_)
          have rl := fun S => rule_line (S := S) p0 p1 p2 p3 p4 p5
          rw [← er'] at rl
          refine Exists.intro _ (And.intro rfl ?_)
          refine Exists.intro _ (And.intro (rl _).1 ?_)
          refine Exists.intro _ (And.intro rfl ?_)
          refine Exists.intro _ (And.intro rfl ?_)
          refine Exists.intro _ (And.intro (rl _).2 ?_)
          refine Exists.intro _ (And.intro rfl ?_)
          refine Exists.intro _ (And.intro rfl ?_)
          refine And.intro (DW.nodB_ok rfl) ?_
          refine Exists.intro _ (And.intro rfl ?_)
          refine ansB_ok ck'.2.1 (ans_res ?_)
          refine Exists.intro _ (And.intro rfl ?_)
          refine Exists.intro _ (And.intro rfl ?_)
          refine And.intro (DW.nodB_ok rfl) ?_
          refine Exists.intro _ (And.intro rfl ?_)
          refine ansB_ok ck'.1 (ans_res ?_)
          refine Exists.intro _ (And.intro rfl ?_)
          refine Exists.intro _ (And.intro (ne_str uo) ?_)
          refine Exists.intro _ (And.intro rfl ?_)
          exact ⟨⟨_, _, _, _, _, _, _, _, rfl, uo, ul⟩, x, y, rfl, hx0, hy0, hy1⟩
        · have hne : ∀ r', isRule r' → lineP r' ≠ u := fun r' h e => hex ⟨r', h, e⟩
          refine q_tried_bad hall uo (by omega) hne (res_0 ?_)
          refine Exists.intro _ (And.intro rfl ?_)
          refine Exists.intro _ (And.intro (eq_self (by decide +kernel)) ?_)
          refine Exists.intro _ (And.intro rfl ?_)
          refine Exists.intro _ (And.intro rfl ?_)
          refine Exists.intro _ (And.intro rfl ?_)
          refine And.intro (DW.nodB_ok rfl) ?_
          refine Exists.intro _ (And.intro rfl ?_)
          refine ansB_ok ck.1 (ans_res ?_)
          refine Exists.intro _ (And.intro (eq_not uo lo (fun z => hne r hr z.symm)) ?_)
          refine Exists.intro _ (And.intro rfl ?_)
          refine Exists.intro _ (And.intro rfl ?_)
          refine Exists.intro _ (And.intro (ne_str (by decide +kernel)) ?_)
          refine Exists.intro _ (And.intro rfl ?_)
          exact ⟨⟨_, _, _, _, _, _, _, _, rfl, uo, ul⟩, x, y, rfl, hx0, hy0, hy1⟩
    · rintro env S' ⟨⟨x1, x2, x3, x7, x8, x9, x10, t, rfl, to, tl⟩, x, y, rfl, hx0, hy0, hy1⟩
      refine Exists.intro _ (And.intro rfl ?_)
      refine Exists.intro _ (And.intro rfl (And.intro (Nat.le_of_ble_eq_true rfl) ?_))
      refine Exists.intro _ (And.intro rfl ?_)
      refine Exists.intro _ (And.intro rfl (And.intro (Nat.le_of_ble_eq_true rfl) ?_))
      refine Exists.intro _ (And.intro rfl ?_)
      refine Exists.intro _ (And.intro rfl (And.intro (Nat.le_of_ble_eq_true rfl) ?_))
      refine And.intro trivial ?_
      refine Exists.intro _ (Exists.intro _ (And.intro rfl ?_))
      refine loop_inv (fun e S' => E6 ns r S.length e) ⟨_, _, _, _, _, _, _, t, rfl, to, tl⟩ ?_ ?_
      · rintro z hz env S' ⟨x1, x2, x3, x7, x8, x9, x10, t, rfl, to, tl⟩
        have hg : ∃ v, z = .d v ∧ ∀ (k : DK) (kx : DX), (∀ S, k (.d (.str "line")) S) → F_law_tried [.d v] [] k kx := by
          simp only [List.map_cons, List.map_nil, List.mem_cons, List.not_mem_nil, or_false] at hz
          rcases hz with rfl | rfl | rfl | rfl | rfl | rfl | rfl | rfl
          · exact ⟨_, rfl, fun k kx h => q_tried_odd rfl (h _)⟩
          · exact ⟨_, rfl, fun k kx h => q_tried_odd rfl (h _)⟩
          · exact ⟨_, rfl, fun k kx h => q_tried_odd rfl (h _)⟩
          · exact ⟨_, rfl, fun k kx h => q_tried_odd rfl (h _)⟩
          · exact ⟨_, rfl, fun k kx h => q_tried_odd rfl (h _)⟩
          · exact ⟨_, rfl, fun k kx h => ansB_ok odd1 h⟩
          · exact ⟨_, rfl, fun k kx h => ansB_ok odd2 h⟩
          · exact ⟨_, rfl, fun k kx h => q_tried_odd (by rw [er]; rfl) (h _)⟩
        obtain ⟨v, rfl, hv⟩ := hg
        refine Exists.intro _ (And.intro rfl ?_)
        refine And.intro (DW.nodB_ok rfl) ?_
        refine Exists.intro _ (And.intro rfl ?_)
        refine hv _ _ fun S => res_0 ?_
        refine Exists.intro _ (And.intro (ne_str (by decide +kernel)) ?_)
        refine Exists.intro _ (And.intro rfl ?_)
        exact ⟨_, _, _, _, _, _, _, t, rfl, to, tl⟩
      · rintro env S' ⟨x1, x2, x3, x7, x8, x9, x10, t, rfl, to, tl⟩
        exact ⟨_, _, _, _, _, _, _, _, _, _, rfl⟩
  · rintro env S ⟨x1, x2, x3, x4, x5, x6, x7, x8, x9, x10, rfl⟩
    have q := QS.ok (w := w_b) _ _ _ (end_ok (x0 := some (.s ns)) (x1 := x1) (x2 := x2) (x3 := x3) (x4 := x4) (x5 := x5) (x6 := x6) (x7 := x7) (x8 := x8) (x9 := x9) (x10 := x10) (S := S))
    refine MS.mono (w := w_b) _ _ _ _ ?_ q
    exact ⟨fun _ _ z => (by cases z), fun r S z => isV_ok (S := S) z, fun _ _ z => (by cases z), fun _ _ z => (by cases z), fun _ _ _ z => (by cases z)⟩
end Lw

set_option Elab.async false
set_option linter.all false
set_option maxRecDepth 100000
set_option maxHeartbeats 4000000
set_option autoImplicit false
/-! DWE: a law's end. -/
namespace DW
open PySem L2
/-- what the law's end asks -/
theorem law_facts {K : PySem.W.Frag} {mg : Str → Option Value} {x y : Str} {F : FS} {k : Nat} {f : Addr}
    (h : ∃ fd, mg x = some (.ref (He.ga K x)) ∧ (∀ (s : Shared) (us : List Value), us.length = ([y] : List Str).length → BindsTo s fd ⟨us, []⟩ (([y] : List Str).zip us)) ∧ ∀ (P : Program) (w : World) (base : Heap), FnOk P w K mg base (L2.CX P w) k (He.ga K x) fd [y] (spD K (He.ga K) F 1))
    (hf : mg x = some (.ref f)) (mF : MonoF F) (hF : ∀ ns : List Int, ns.length ≤ 63 → F [.s ns] [] (fun r _ => r = .d (.bool true)) (fun _ _ => False)) (P : Program) (w : World) :
    ∃ (fd : FuncData) (sp : Sp), (∀ (s : Shared) (u : Value), BindsTo s fd ⟨[u], []⟩ [(y, u)]) ∧
      (∀ (H : Hp) (a : Addr) (ns : List Int), ns.length ≤ 63 → Only H → SqL K H a (ns.map V.int) → sp [.ref a] H (fun v _ => v = .bl true) fun _ _ _ => False) ∧
      ∀ base : Heap, FnOk P w K mg base L2.CX0 k f fd [y] sp := by
  obtain ⟨fd, e, hb, hk⟩ := h
  rw [hf] at e
  cases e
  exact ⟨fd, fun vs H Q _ => spD K (He.ga K) F 1 vs H Q fun _ _ _ => False, fun s u => hb s [u] rfl, fun H a ns hl _ hS => sp_law hF mF H a ns hl hS, fun base => no_cx (hk P w base)⟩
end DW

set_option maxRecDepth 100000
set_option maxHeartbeats 0
set_option linter.all false

open PySem PySem.W PySem.Calls PyProof.Rows in
set_option maxRecDepth 100000 in
set_option maxHeartbeats 0 in
theorem PySem.Challenge.cw_paidbydays_k18_strings_that_are_spoilt_holds : PySem.Challenge.rw_paidbydays_k18_strings_that_are_spoilt.Holds := by
  w_on; o_law
  refine HandSHeadRun.head_any (r := Lw.R) (q := view Lw.R.prog [20]) (H := Lw.hk) (ob := Lw.ob) (M := 4000)
    (loose := Lw.nms) (d := HandSHeadRun.topDef Lw.R.prog 20) (kwd := []) Lw.ob_eq
    (by kernel_rfl) (fun s => by kernel_rfl) Lw.run (by kernel_rfl) (by kernel_rfl)
    (by kernel_rfl) (by rfl) (by first | assumption | decide +kernel) (by decide +kernel)
    ⟨rfl, rfl, rfl, rfl, rfl, by decide +kernel⟩ ?wit ?rest
  case wit => w_witness2
  case rest =>
    refine L2.walk_ofE (l := PySem.Challenge.rw_paidbydays_k18_strings_that_are_spoilt) (n := 63) (k := 5) (x := "_law_script") (CX := L2.CX0)
      rfl (by decide) (by kernel_rfl) ⟨rfl, by decide, by decide⟩ ?all (fun _ _ _ _ no => no)
    intro w mg f h Y G at0
    obtain ⟨K, KX, c⟩ := Y
    have nm : (HandSHeadRun.topDef Lw.R.prog 20).name = ("law" : PySem.Str) := by kernel_rfl
    rw [nm] at at0
    obtain ⟨fd, sp, h1, h2, h3⟩ := DW.law_facts (Lw.ok_law ⟨c.t.d, c.more, h, KX, G⟩) at0 (DW.MF.mono (F := Lw.F_law)) Lw.law_ok (PySem.Challenge.rw_paidbydays_k18_strings_that_are_spoilt).prog w
    exact ⟨K, fd, sp, KX, h1, h2, fun base _ _ => h3 base⟩


