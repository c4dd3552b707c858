/- It is proved here that the law FnExactDiffText of the given program holds whatever it is handed: the walks through the code, the plain laws and the row, in this order.
   Conditions: none. -/
import Derived.Below
import Derived.ChangeArms
import Derived.ChangeOld
import Derived.ChangeSlices
import Derived.ChangeVars
import Derived.DataReads
import Derived.Deep.Quiet
import Derived.KernelRfl
import Derived.LaidHandle
import Derived.LaidLaws
import Derived.LaidMore
import Derived.Laws.Build
import Derived.Laws.IdiomStrings
import Derived.Laws.OwnMore
import Derived.Laws.Slices
import Derived.Laws.StructEq
import Derived.Lib.ItoaNum
import Derived.Lib.LaidTab
import Derived.MakeChecks
import Derived.OpenShut
import Derived.OpenVars
import Derived.ProofKit
import Derived.SevenTiedAt
import Derived.Shelf.LaysM
import Derived.Shelf.Slices.CompactS
import Derived.Shelf.Sort.Plain
import Derived.Shelf.Strconv.Itoa0
import Derived.Shelf.Strconv.Itoa1
import Derived.Shelf.Strconv.Itoa2
import Derived.Shelf.Strconv.Itoa3
import Derived.ShutString
import Derived.SizedLaws
import Derived.StillTail
import Derived.Stop.Joined
import Derived.Test.YtlaaehjcooonfaaDoorCards
import Derived.Test.YtlaaehjcooonfaaDoorProg
import Derived.Test.YtlaaehjcooonfaaDoorRows
import Derived.Test.YtlaaehjcooonfaaDoorTie
import Derived.WalkKit
namespace Go.Proofs.YtlaaehjcooonfaaDoor
set_option linter.unusedVariables false
set_option linter.unusedSimpArgs false
set_option linter.unusedSectionVars false
set_option maxHeartbeats 8000000
set_option maxRecDepth 100000
open Go.RowKit
theorem RK {p : Prop} (h : p := by kernel_rfl) : p := h
theorem RF {α : Sort _} {p : α → Prop} (h : ∀ x, p x := by intro _; kernel_rfl) : ∀ x, p x := h
theorem OM {p : Prop} (h : p := by omega) : p := h
theorem RD {p : Prop} (h : p := by decide) : p := h
section

theorem beq_ne {a b : Nat} (h : a ≠ b) : Nat.beq a b = false := by
 cases e : Nat.beq a b with
 | false => rfl
 | true => exact absurd (Nat.eq_of_beq_eq_true e) h
theorem blt_lt {a b : Nat} (h : a < b) : Nat.blt a b = true := Nat.ble_eq_true_of_le h
theorem blt_ge {a b : Nat} (h : ¬ a < b) : Nat.blt a b = false := by
 cases e : Nat.blt a b with
 | false => rfl
 | true => exact absurd (Nat.le_of_ble_eq_true e) h
theorem lt_blt {a b : Nat} (h : Nat.blt a b = true) : a < b := Nat.le_of_ble_eq_true h
abbrev Tm := Nat → Value
def upd (d : Nat) (v : Value) (t : Tm) : Tm := fun i => bif Nat.beq i d then v else t i
def acts (n : Nat) (t : Tm) : Act := ⟨((List.range n).map t).toArray, []⟩
def evt (n : Nat) (t : Tm) : Operand → Value
 | .tmp i => bif Nat.blt i n then t i else undef
 | .const v => v
 | .global g => .pointer (some ⟨g, 0, none⟩)
 | .func f => .func (.func f) #[] #[]
def putd (d : Option Nat) (v : Value) (t : Tm) : Tm := match d with | some d => upd d v t | none => t

theorem acts_eval (n : Nat) (t : Tm) (x : Operand) : (acts n t).eval x = evt n t x := by
 cases x with
 | tmp i =>
  simp only [Act.eval, acts, evt, Array.getD_eq_getD_getElem?, List.getElem?_toArray, List.getElem?_map]
  by_cases h : i < n
  ·rw [List.getElem?_range h, blt_lt h]; rfl
  ·rw [List.getElem?_eq_none (by simpa using h), blt_ge h]; rfl
 | _ => rfl

theorem acts_evalf (n : Nat) (t : Tm) : (acts n t).eval = evt n t := funext (acts_eval n t)

theorem acts_put (n : Nat) (t : Tm) (d : Option Nat) (v : Value) : (acts n t).put d v = acts n (putd d v t) := by
 cases d with
 | none => rfl
 | some d =>
  simp only [Act.put, acts, putd]
  congr 1
  apply Array.ext_getElem?
  intro i
  simp only [Array.getElem?_setIfInBounds, List.getElem?_toArray, List.getElem?_map, List.size_toArray, List.length_map, List.length_range]
  by_cases h : i < n
  ·rw [List.getElem?_range h]
   by_cases e : d = i
   ·subst e; simp [h, upd]
   ·have : Nat.beq i d = false := beq_ne (fun x => e x.symm)
    simp [e, upd, this]
  ·rw [List.getElem?_eq_none (by simpa using h)]
   by_cases e : d = i
   ·subst e; simp [h]
   ·simp [e]

theorem acts_get (n : Nat) (t : Tm) (d : Nat) (h : Nat.blt d n = true) : (acts n t).tmps[d]? = some (t d) := by
 have h : d < n := lt_blt h
 simp [acts, List.getElem?_range h]

def argt (args : List Value) : Tm := fun i => args.getD i undef
theorem acts_enter (args : List Value) (n : Nat) (h : args.length ≤ n) :
  ({ tmps := args.toArray ++ Array.replicate (n - args.toArray.size) undef, defers := [] } : Act) = acts n (argt args) := by
 simp only [acts]
 congr 1
 apply Array.ext_getElem?
 intro i
 simp only [List.getElem?_toArray, List.getElem?_map, Array.getElem?_append, List.size_toArray, Array.getElem?_replicate]
 by_cases hi : i < n
 ·rw [List.getElem?_range hi]
  by_cases ha : i < args.length
  ·simp [ha, argt]
  ·simp [ha, argt]; omega
 ·have e1 : (List.range n)[i]? = none := List.getElem?_eq_none (by simp only [List.length_range]; omega)
  have : ¬ i < args.length := by omega
  simp only [this, if_false, e1, Option.map_none]
  rw [if_neg OM]

abbrev Ps := Tm → World → Prop
def post (n : Nat) (N R : Ps) (X : Nat → Ps) : Exit → Act → World → Prop
 | .normal, a, w => ∃ t, a = acts n t ∧ N t w
 | .ret, a, w => ∃ t, a = acts n t ∧ R t w
 | .exit i, a, w => ∃ t, a = acts n t ∧ X i t w
 | _, _, _ => False
def W (P : Program) (n : Nat) (c : Code) (N R : Ps) (X : Nat → Ps) (t : Tm) (w : World) : Prop := c.wp P (post n N R X) (acts n t) w

section
variable {P : Program} {n : Nat} {N R : Ps} {X : Nat → Ps} {t : Tm} {w : World}
theorem W.mono {c : Code} {N' R' : Ps} {X' : Nat → Ps} (h : W P n c N R X t w) (hN : ∀ t w, N t w → N' t w) (hR : ∀ t w, R t w → R' t w) (hX : ∀ i t w, X i t w → X' i t w) : W P n c N' R' X' t w :=
 wp_mono h fun e a w h => by
  cases e <;> simp only [post] at h ⊢
  ·obtain ⟨t, e, h⟩ := h; exact ⟨t, e, hN _ _ h⟩
  ·obtain ⟨t, e, h⟩ := h; exact ⟨t, e, hX _ _ _ h⟩
  ·obtain ⟨t, e, h⟩ := h; exact ⟨t, e, hR _ _ h⟩

theorem Xb {x y : Code} (h : W P n x (fun t w => W P n y N R X t w) R X t w) : W P n (.seq x y) N R X t w :=
 wp_seq (wp_mono h fun e a w h => by
  cases e <;> simp only [post] at h <;> simp only [Exit.then, post]
  ·obtain ⟨t, rfl, h⟩ := h; exact h
  ·exact h
  ·exact h)
theorem Xt (h : N t w) : W P n .skip N R X t w := wp_skip ⟨t, rfl, h⟩
theorem Xl (h : R t w) : W P n .ret N R X t w := wp_ret ⟨t, rfl, h⟩
theorem Yd {i : Nat} (h : X i t w) : W P n (.exit i) N R X t w := wp_exit ⟨t, rfl, h⟩
def xin (i : Nat) (N : Ps) (X : Nat → Ps) : Nat → Ps := fun j => bif Nat.beq j i then N else X j
theorem X5 {i : Nat} {c : Code} (h : W P n c N R (xin i N X) t w) : W P n (.block i c) N R X t w :=
 wp_block (wp_mono h fun e a w h => by
  cases e <;> simp only [post] at h <;> simp only [Exit.inBlock, post]
  ·exact h
  ·rename_i j
   obtain ⟨t, rfl, h⟩ := h
   by_cases e : j = i
   ·subst e; simp only [xin, Nat.beq_refl, cond_true] at h; simp only [↓reduceIte]; exact ⟨t, rfl, h⟩
   ·have : Nat.beq j i = false := beq_ne e
    simp only [xin, this, cond_false] at h; simp only [if_neg e]; exact ⟨t, rfl, h⟩
  ·exact h)
theorem Xu {c : Operand} {x y : Code} (b : Bool) (hc : evt n t c = .bool b) (ht : b = true → W P n x N R X t w) (hf : b = false → W P n y N R X t w) : W P n (.cond c x y) N R X t w :=
 wp_cond_split (t := b) (by rw [acts_eval]; exact hc) ht hf
theorem Ye {c : Code} {α : Type} (J : α → Ps) (μ : α → Nat) (s0 : α) (h0 : J s0 t w)
  (hs : ∀ s t w, J s t w → W P n c (fun t w => ∃ s', μ s' < μ s ∧ J s' t w) R X t w) : W P n (.loop c) N R X t w := by
 intro b k cs
 have key : ∀ m s t w, μ s = m → J s t w → ∃ e a' w', post n N R X e a' w' ∧ Arrives P (lone (b.at (acts n t) (.code c :: .inLoop c :: k)) cs w) b k cs e a' w' := by
  intro m
  induction m using Nat.strongRecOn with
  | _ m ih =>
   intro s t w hm hJ
   obtain ⟨e, a₁, w₁, hq, harr⟩ := hs s t w hJ b (.inLoop c :: k) cs
   cases e with
   | normal =>
    obtain ⟨t₁, rfl, s₁, hlt, hJ₁⟩ := hq
    obtain ⟨e₂, a₂, w₂, hq₂, harr₂⟩ := ih (μ s₁) (hm ▸ hlt) s₁ t₁ w₁ rfl hJ₁
    exact ⟨e₂, a₂, w₂, hq₂, .of_steps (Steps.trans harr (.one step_inLoop)) harr₂⟩
   | exit id => exact ⟨.exit id, a₁, w₁, hq, .pass (x := .inLoop c) rfl (fun _ _ => .inl (by simp)) harr⟩
   | goto l => exact hq.elim
   | ret => exact ⟨.ret, a₁, w₁, hq, .pass (x := .inLoop c) rfl (fun _ _ => .inl (by simp)) harr⟩
   | panic ch => exact hq.elim
   | outgrown => exact hq.elim
 obtain ⟨e, a', w', hq, harr⟩ := key _ s0 t w rfl h0
 exact ⟨e, a', w', hq, .of_steps (.one step_loop) harr⟩

def L (P : Program) (n : Nat) (ops : Array Oper) (N R : Ps) (X : Nat → Ps) (l : List Oper) (t : Tm) (w : World) : Prop := wpList P ops (post n N R X) l (acts n t) w
variable {ops : Array Oper} {rest : List Oper} {ty : TypeId} {pos : String} {aft : Array Edge} {d : Nat}
theorem Xd {i : Nat} {l : List Oper} (h : L P n l.toArray N R X l t w) : W P n (.region i l.toArray false) N R X t w := wp_region_lit h
theorem Xc (h : N t w) : L P n ops N R X [] t w := wpList_nil ⟨t, rfl, h⟩
theorem Y0 {o : Oper} (hg : o.guard = none) (v : Value) (w' : World) (h : (execOp (evt n t) o).run P w = .ok (.value v) w') (k : L P n ops N R X rest (putd o.dst v t) w') : L P n ops N R X (o :: rest) t w :=
 wpList_plain hg fun K hK => by
  unfold Oper.wp
  rw [acts_evalf, h, Oper.upon_value, acts_put]
  exact hK _ _ k
theorem Y9 {o : Oper} (hg : o.guard = none) (w' : World) (h : (execOp (evt n t) o).run P w = .ok .skip w') (k : L P n ops N R X rest (putd o.dst undef t) w') : L P n ops N R X (o :: rest) t w :=
 wpList_plain hg fun K hK => by
  unfold Oper.wp
  rw [acts_evalf, h, Oper.upon_skip, acts_put]
  exact hK _ _ k
theorem X7 {o : Option Nat} {op : Op} {j : Nat} {b : Bool} {dj : Nat} (hj : (ops[j]?).bind (·.dst) = some dj) (hn : Nat.blt dj n = true) (hv : t dj = .bool b)
  (k : L P n ops N R X (⟨o, op, ty, pos, aft, none⟩ :: rest) t w) : L P n ops N R X (⟨o, op, ty, pos, aft, some (j, b)⟩ :: rest) t w := by
 have hw : Region.wanted ⟨o, op, ty, pos, aft, some (j, b)⟩ (yielded ops (acts n t).tmps) = true := by
  simp only [Region.wanted, yielded, hj, Option.bind_some, acts_get n t dj hn, hv, beq_self_eq_true]
 unfold L wpList at k ⊢
 rw [if_pos hw]
 simpa [Region.wanted, Oper.wp, Oper.asks, execOp, Oper.upon] using k
theorem Xy {o : Option Nat} {op : Op} {j : Nat} {b : Bool} {dj : Nat} (hj : (ops[j]?).bind (·.dst) = some dj) (hn : Nat.blt dj n = true) (hv : t dj = .bool (!b) ∨ t dj = undef)
  (k : L P n ops N R X rest (putd o undef t) w) : L P n ops N R X (⟨o, op, ty, pos, aft, some (j, b)⟩ :: rest) t w := by
 have hw : Region.wanted ⟨o, op, ty, pos, aft, some (j, b)⟩ (yielded ops (acts n t).tmps) = false := by
  simp only [Region.wanted, yielded, hj, Option.bind_some, acts_get n t dj hn]
  rcases hv with hv | hv <;> rw [hv]
  ·cases b <;> rfl
  ·rfl
 unfold L at k ⊢
 unfold wpList
 rw [if_neg (by rw [hw]; simp), acts_put]
 exact k
def Pu (P : Program) (n : Nat) (t : Tm) (C : World → Prop) (o : Oper) (v : Value) : Prop := ∀ w, C w → (execOp (evt n t) o).run P w = .ok (.value v) w
theorem Xa {o : Option Nat} {op : Op} {v : Value} (h : Pu P n t (fun x => x = w) ⟨o, op, ty, pos, aft, none⟩ v) (k : L P n ops N R X rest (putd o v t) w) : L P n ops N R X (⟨o, op, ty, pos, aft, none⟩ :: rest) t w :=
 Y0 rfl v w (h w rfl) k
def Lq (P : Program) (n : Nat) (ops : Array Oper) (C : World → Prop) (N : Ps) (l : List Oper) (t : Tm) : Prop := wpQuiet P ops C (fun a => ∀ w', C w' → ∃ t, a = acts n t ∧ N t w') l (acts n t)
theorem Yh {i : Nat} {l : List Oper} (C : World → Prop) (hm : P.follows .mixedOrders = true) (hB : Region.lexB .any l.toArray = true) (hC : C { w with drawn := w.drawn + 1 })
  (h : Lq P n l.toArray C N l t) : W P n (.region i l.toArray true) N R X t w :=
 wp_region_quiet hm hB hC (by
  have : (fun a' : Act => ∀ w', C w' → ∃ t, a' = acts n t ∧ N t w') = fun a' => ∀ w', C w' → post n N R X .normal a' w' := rfl
  rw [← this]
  simpa [Lq] using h)
theorem X9 {C : World → Prop} (h : ∀ w', C w' → N t w') : Lq P n ops C N [] t := fun w' hw => ⟨t, rfl, h w' hw⟩
theorem Xi {C : World → Prop} {o : Option Nat} {op : Op} {v : Value} (h : Pu P n t C ⟨o, op, ty, pos, aft, none⟩ v) (k : Lq P n ops C N rest (putd o v t)) : Lq P n ops C N (⟨o, op, ty, pos, aft, none⟩ :: rest) t := by
 unfold Lq wpQuiet
 rw [if_pos (by simp [Region.wanted])]
 refine ⟨v, fun w hw => ?_, by rw [acts_put]; exact k⟩
 unfold Oper.quietAt
 rw [acts_evalf, h w hw]
 exact ⟨rfl, rfl⟩
theorem Yw {C : World → Prop} {o : Option Nat} {op : Op} {j : Nat} {b : Bool} {dj : Nat} (hj : (ops[j]?).bind (·.dst) = some dj) (hn : Nat.blt dj n = true) (hv : t dj = .bool b)
  (k : Lq P n ops C N (⟨o, op, ty, pos, aft, none⟩ :: rest) t) : Lq P n ops C N (⟨o, op, ty, pos, aft, some (j, b)⟩ :: rest) t := by
 have hw : Region.wanted ⟨o, op, ty, pos, aft, some (j, b)⟩ (yielded ops (acts n t).tmps) = true := by
  simp only [Region.wanted, yielded, hj, Option.bind_some, acts_get n t dj hn, hv, beq_self_eq_true]
 unfold Lq wpQuiet at k ⊢
 rw [if_pos hw]
 rw [if_pos (by simp [Region.wanted])] at k
 obtain ⟨v, h1, h2⟩ := k
 exact ⟨v, h1, h2⟩
theorem X8 {C : World → Prop} {o : Option Nat} {op : Op} {j : Nat} {b : Bool} {dj : Nat} (hj : (ops[j]?).bind (·.dst) = some dj) (hn : Nat.blt dj n = true) (hv : t dj = .bool (!b) ∨ t dj = undef)
  (k : Lq P n ops C N rest (putd o undef t)) : Lq P n ops C N (⟨o, op, ty, pos, aft, some (j, b)⟩ :: rest) t := by
 have hw : Region.wanted ⟨o, op, ty, pos, aft, some (j, b)⟩ (yielded ops (acts n t).tmps) = false := by
  simp only [Region.wanted, yielded, hj, Option.bind_some, acts_get n t dj hn]
  rcases hv with hv | hv <;> rw [hv]
  ·cases b <;> rfl
  ·rfl
 unfold Lq wpQuiet
 rw [if_neg (by rw [hw]; simp), acts_put]
 exact k
end
attribute [irreducible] W L Lq
end
section
abbrev Str := List UInt8
abbrev vs (l : Str) : Value := .string ⟨l.toArray⟩
abbrev vi (x : Int) : Value := .int .i64 x
abbrev vb (x : Bool) : Value := .bool x
abbrev v8 (x : UInt8) : Value := .int .u8 (x.toNat : Int)
def I64 (x : Int) : Prop := -9223372036854775808 ≤ x ∧ x ≤ 9223372036854775807
theorem I64.wrap {x : Int} (h : I64 x) : IntKind.i64.wrap x = x := by rw [IntKind.wrap_i64]; unfold I64 at h; omega

section
variable {P : Program} {n : Nat} {N R : Ps} {X : Nat → Ps} {t : Tm} {w : World} {ops : Array Oper} {rest : List Oper} {ty : TypeId} {pos : String} {aft : Array Edge} {d : Nat} {x y z : Operand} {C : World → Prop}

theorem Y1 (v : Value) (h : evt n t x = v) : Pu P n t C ⟨some d, .move x, ty, pos, aft, none⟩ v := fun w hw =>
 (by simp only [execOp, h]; rfl)
theorem Y3 (v : Value) (h : evt n t x = v) : Pu P n t C ⟨some d, .assign x, ty, pos, aft, none⟩ v := fun w hw =>
 (by simp only [execOp, h]; rfl)
theorem Yj (b : Bool) (v : Value) (hc : evt n t x = .bool b) (hv : (bif b then evt n t y else evt n t z) = v) : Pu P n t C ⟨some d, .pick x y z, ty, pos, aft, none⟩ v := fun w hw =>
 (by subst hv; cases b <;> simp [execOp, hc, asBool])
theorem X6 {T : TypeId} {e : TypeId} (hu : P.underlying T = some (.slice e)) (A : Option Addr) (m c : Nat) {l : Nat} (hm : m = l) (h : evt n t x = .slice A m c) : Pu P n t C ⟨some d, .call ⟨.builtin .len, #[x], #[T]⟩, ty, pos, aft, none⟩ (vi (l : Int)) := fun w hw =>
 (by subst hm; simp [execOp, resolve, h, invoke, builtin, Builtin.len_, run_underlying hu, goInt])
theorem size_ofL (s : Str) : (⟨s.toArray⟩ : ByteArray).size = s.length := by
 show s.toArray.size = s.length
 simp
theorem Yx {T : TypeId} (hu : P.underlying T = some .string) (s : Str) (h : evt n t x = vs s) : Pu P n t C ⟨some d, .call ⟨.builtin .len, #[x], #[T]⟩, ty, pos, aft, none⟩ (vi (s.length : Int)) := fun w hw =>
 (by simp [execOp, resolve, h, invoke, builtin, Builtin.len_, run_underlying hu, goInt, size_ofL])

def icmp : BinOp → Int → Int → Option Bool
 | .eql, a, b => some (a == b)
 | .neq, a, b => some (a != b)
 | .lss, a, b => some (decide (a < b))
 | .leq, a, b => some (decide (a ≤ b))
 | .gtr, a, b => some (decide (a > b))
 | .geq, a, b => some (decide (a ≥ b))
 | _, _, _ => none
theorem Xx {op : BinOp} {T T' : TypeId} {kd : IntKind} (a b : Int) (r : Bool) (hx : evt n t x = .int kd a) (hy : evt n t y = .int kd b) (hr : icmp op a b = some r) : Pu P n t C ⟨some d, .binOp op T x y T', ty, pos, aft, none⟩ (vb r) := fun w hw =>
 (by
  cases op <;> simp only [icmp, Option.some.injEq, reduceCtorEq] at hr <;> subst hr <;>
   simp [execOp, hx, hy, eqGuard, binOp, Op.intCmp])
theorem Yc {T T' : TypeId} (a b : Int) (hx : evt n t x = vi a) (hy : evt n t y = vi b) (hr : I64 (a + b)) : Pu P n t C ⟨some d, .binOp .add T x y T', ty, pos, aft, none⟩ (vi (a + b)) := fun w hw =>
 (by simp [execOp, hx, hy, eqGuard, binOp, Op.intArith, hr.wrap])
theorem Yr {T T' : TypeId} (a b : Int) (hx : evt n t x = vi a) (hy : evt n t y = vi b) (hr : I64 (a - b)) : Pu P n t C ⟨some d, .binOp .sub T x y T', ty, pos, aft, none⟩ (vi (a - b)) := fun w hw =>
 (by simp [execOp, hx, hy, eqGuard, binOp, Op.intArith, hr.wrap])
theorem Zm {T T' : TypeId} (a b : Int) (hx : evt n t x = vi a) (hy : evt n t y = vi b) (hr : (0 ≤ a ∧ a ≤ 9223372036854775807) ∧ 0 < b) : Pu P n t C ⟨some d, .binOp .quo T x y T', ty, pos, aft, none⟩ (vi (a / b)) := fun w hw =>
 (by
  have h0 : b ≠ 0 := by omega
  have hq : a.tdiv b = a / b := Int.tdiv_eq_ediv_of_nonneg hr.1.1
  have hw : I64 (a / b) := ⟨by have := Int.ediv_nonneg hr.1.1 (Int.le_of_lt hr.2); omega, by have := Int.ediv_le_self b hr.1.1; omega⟩
  simp [execOp, hx, hy, eqGuard, binOp, Op.intDiv, h0, hq, hw.wrap])
theorem Zn {T T' : TypeId} {kd : IntKind} (a b : Int) (hx : evt n t x = .int kd a) (hy : evt n t y = .int kd b) (hr : 0 ≤ a ∧ 0 < b) : Pu P n t C ⟨some d, .binOp .rem T x y T', ty, pos, aft, none⟩ (.int kd (a % b)) := fun w hw =>
 (by
  have h0 : b ≠ 0 := by omega
  have hq : a.tmod b = a % b := Int.tmod_eq_emod_of_nonneg hr.1
  simp [execOp, hx, hy, eqGuard, binOp, Op.intDiv, h0, hq])
def scmp : BinOp → Str → Str → Option Bool
 | .eql, a, b => some (a == b)
 | .neq, a, b => some (a != b)
 | .lss, a, b => some (Op.bytesLess a b)
 | .leq, a, b => some (Op.bytesLess a b || a == b)
 | .gtr, a, b => some (!(Op.bytesLess a b || a == b))
 | .geq, a, b => some (!(Op.bytesLess a b))
 | _, _, _ => none
theorem Yg {op : BinOp} {T T' : TypeId} (a b : Str) (r : Bool) (hx : evt n t x = vs a) (hy : evt n t y = vs b) (hr : scmp op a b = some r) : Pu P n t C ⟨some d, .binOp op T x y T', ty, pos, aft, none⟩ (vb r) := fun w hw =>
 (by
  cases op <;> simp only [scmp, Option.some.injEq, reduceCtorEq] at hr <;> subst hr <;>
   simp [execOp, hx, hy, eqGuard, binOp, Op.stringOp, bne])
theorem Yb {T T' : TypeId} (a b : Str) (hx : evt n t x = vs a) (hy : evt n t y = vs b) (hr : a.length + b.length ≤ 9223372036854775807) : Pu P n t C ⟨some d, .binOp .add T x y T', ty, pos, aft, none⟩ (vs (a ++ b)) := fun w hw =>
 (by
  have : ByteArray.size ⟨a.toArray⟩ + ByteArray.size ⟨b.toArray⟩ ≤ 9223372036854775807 := by rw [size_ofL, size_ofL]; exact hr
  simp [execOp, hx, hy, eqGuard, binOp, run_string_add_sum w _ _ this, ByteArray.mk_append_mk])
def bcmp : BinOp → Bool → Bool → Option Bool
 | .eql, a, b => some (a == b)
 | .neq, a, b => some (a != b)
 | _, _, _ => none
theorem Y4 {op : BinOp} {T T' : TypeId} (hu : P.underlying T = some .bool) (a b : Bool) (r : Bool) (hx : evt n t x = vb a) (hy : evt n t y = vb b) (hr : bcmp op a b = some r) : Pu P n t C ⟨some d, .binOp op T x y T', ty, pos, aft, none⟩ (vb r) := fun w hw =>
 (by
  cases op <;> simp only [bcmp, Option.some.injEq, reduceCtorEq] at hr <;> subst hr <;>
   simp [execOp, hx, hy, eqGuard, binOp, Op.equal, Op.maxDepth, run_equalIn_bool' w _ T a b hu, bne])
theorem X1 {T : TypeId} (a : Bool) (hx : evt n t x = vb a) : Pu P n t C ⟨some d, .unOp .not T x, ty, pos, aft, none⟩ (vb (!a)) := fun w hw =>
 (by simp [execOp, hx, Op.unary])
theorem Zo {T : TypeId} (a : Int) (hx : evt n t x = vi a) (hr : I64 (-a)) : Pu P n t C ⟨some d, .unOp .neg T x, ty, pos, aft, none⟩ (vi (-a)) := fun w hw =>
 (by
  simp [execOp, hx, Op.unary, Op.intArith, hr.wrap])
theorem Y2 {T : TypeId} {kd : IntKind} (hu : P.underlying T = some .string) (s : Str) (i : Int) (hx : evt n t x = vs s) (hy : evt n t y = .int kd i) (h0 : 0 ≤ i ∧ i < s.length) : Pu P n t C ⟨some d, .index T x y, ty, pos, aft, none⟩ (v8 (s.getD i.toNat 0)) := fun w hw =>
 (by
  have hl : i.toNat < s.length := by omega
  have : (⟨s.toArray⟩ : ByteArray)[i.toNat]? = some (s.getD i.toNat 0) := by
   rw [ByteArray.getElem?_lt' _ _ (by rw [size_ofL]; exact hl)]
   simp [ByteArray.getElem_eq_getElem_data, hl]
  simp [execOp, hx, hy, Instr.index, asIntOf, run_underlying hu, h0.1, this])
end
section
variable {P : Program} {n : Nat} {N R : Ps} {X : Nat → Ps} {t : Tm} {w : World} {ops : Array Oper} {rest : List Oper} {ty : TypeId} {pos : String} {aft : Array Edge} {d : Nat} {x : Operand} {C : World → Prop} {o : Option Nat} {op : Op} {j dj : Nat} {b c : Bool}
theorem Xg (v : Value) (h : evt n t x = v) (k : L P n ops N R X rest (upd d v t) w) : L P n ops N R X (⟨some d, .move x, ty, pos, aft, none⟩ :: rest) t w := Xa (Y1 v h) k
theorem Xf (v : Value) (h : evt n t x = v) (k : L P n ops N R X rest (upd d v t) w) : L P n ops N R X (⟨some d, .assign x, ty, pos, aft, none⟩ :: rest) t w := Xa (Y3 v h) k
theorem Xs (v : Value) (h : evt n t x = v) (k : Lq P n ops C N rest (upd d v t)) : Lq P n ops C N (⟨some d, .move x, ty, pos, aft, none⟩ :: rest) t := Xi (Y1 v h) k
theorem Yv (v : Value) (h : evt n t x = v) (k : Lq P n ops C N rest (upd d v t)) : Lq P n ops C N (⟨some d, .assign x, ty, pos, aft, none⟩ :: rest) t := Xi (Y3 v h) k
theorem Xe (e : c = b) (h : ((ops[j]?).bind (·.dst), Nat.blt dj n, t dj) = (some dj, true, Value.bool c))
  (k : L P n ops N R X (⟨o, op, ty, pos, aft, none⟩ :: rest) t w) : L P n ops N R X (⟨o, op, ty, pos, aft, some (j, b)⟩ :: rest) t w := by
 simp only [Prod.mk.injEq] at h
 exact X7 h.1 h.2.1 (h.2.2.trans (congrArg _ e)) k
theorem Xq (e : c = b) (h : ((ops[j]?).bind (·.dst), Nat.blt dj n, t dj) = (some dj, true, Value.bool c))
  (k : Lq P n ops C N (⟨o, op, ty, pos, aft, none⟩ :: rest) t) : Lq P n ops C N (⟨o, op, ty, pos, aft, some (j, b)⟩ :: rest) t := by
 simp only [Prod.mk.injEq] at h
 exact Yw h.1 h.2.1 (h.2.2.trans (congrArg _ e)) k
theorem Xh (e : c = !b) (h : ((ops[j]?).bind (·.dst), Nat.blt dj n, t dj) = (some dj, true, Value.bool c))
  (k : L P n ops N R X rest (putd o undef t) w) : L P n ops N R X (⟨o, op, ty, pos, aft, some (j, b)⟩ :: rest) t w := by
 simp only [Prod.mk.injEq] at h
 exact Xy h.1 h.2.1 (.inl (h.2.2.trans (congrArg _ e))) k
theorem Xr (e : c = !b) (h : ((ops[j]?).bind (·.dst), Nat.blt dj n, t dj) = (some dj, true, Value.bool c))
  (k : Lq P n ops C N rest (putd o undef t)) : Lq P n ops C N (⟨o, op, ty, pos, aft, some (j, b)⟩ :: rest) t := by
 simp only [Prod.mk.injEq] at h
 exact X8 h.1 h.2.1 (.inl (h.2.2.trans (congrArg _ e))) k
theorem Xm (h : ((ops[j]?).bind (·.dst), Nat.blt dj n, t dj) = (some dj, true, undef))
  (k : L P n ops N R X rest (putd o undef t) w) : L P n ops N R X (⟨o, op, ty, pos, aft, some (j, b)⟩ :: rest) t w := by
 simp only [Prod.mk.injEq] at h
 exact Xy h.1 h.2.1 (.inr h.2.2) k
theorem Xw (h : ((ops[j]?).bind (·.dst), Nat.blt dj n, t dj) = (some dj, true, undef))
  (k : Lq P n ops C N rest (putd o undef t)) : Lq P n ops C N (⟨o, op, ty, pos, aft, some (j, b)⟩ :: rest) t := by
 simp only [Prod.mk.injEq] at h
 exact X8 h.1 h.2.1 (.inr h.2.2) k
end

end
section

abbrev Sp := Nat → Prop
abbrev Gr (w w' : World) (row : Option Nat) : Prop := w.grownBy w' row
theorem Gr.refl (w : World) (r : Option Nat) : Gr w w r := ⟨rfl, rfl, rfl, Nat.le_refl _, fun _ _ _ => rfl⟩
theorem Gr.trans {a b c : World} {r : Option Nat} (h : Gr a b r) (g : Gr b c r) : Gr a c r :=
 ⟨g.os.trans h.os, g.tape.trans h.tape, g.output.trans h.output, Nat.le_trans h.size g.size, fun k hk hn =>
  (g.block k (Nat.lt_of_lt_of_le hk h.size) hn).trans (h.block k hk hn)⟩
theorem Gr.t0 {a b c : World} (h : Gr a b none) (g : Gr b c none) : Gr a c none := h.trans g
theorem Gr.below {w w' : World} (h : Gr w w' none) : Below w.heap.size w w' := ⟨h.os, h.tape, h.output, h.size, fun k hk => h.block k hk (by simp)⟩
theorem Gr.cell {w w' : World} {r : Option Nat} (h : Gr w w' r) {a : Addr} {v : Value} (hc : w.cell? a = some v) (hn : some a.block ≠ r) : w'.cell? a = some v := World.grownBy.cell h hc hn
theorem Gr.alloc (w : World) (o : Obj) : Gr w (w.alloc o) none := World.grownBy_alloc w o none
theorem Gr.drew (w : World) : Gr w w.drew none := ⟨rfl, rfl, rfl, Nat.le_refl _, fun _ _ _ => rfl⟩

structure Kd (α : Type) where
 sz : Nat
 R : World → Sp → α → List Value → Prop
 len : ∀ {w S x cs}, R w S x cs → cs.length = sz
 one : ∀ {w S x cs}, R w S x cs → ∀ u ∈ cs, u.oneCell' = true
 keep : ∀ {w w' S x cs}, R w S x cs → (∀ b, S b → b < w.heap.size → w'.heap[b]? = w.heap[b]?) → R w' S x cs
 mono : ∀ {w S S' x cs}, R w S x cs → (∀ b, S b → b < w.heap.size → S' b) → R w S' x cs

theorem Kd.k0 {α : Type} (k : Kd α) {w w' : World} {S : Sp} {x : α} {cs : List Value} (h : k.R w S x cs) (g : Gr w w' none) : k.R w' S x cs :=
 k.keep h fun b _ hb => g.block b hb (by simp)
theorem Kd.k1 {α : Type} (k : Kd α) {w w' : World} {S : Sp} {x : α} {cs : List Value} {r : Option Nat} (h : k.R w S x cs) (g : Gr w w' r) (hr : ∀ b, r = some b → ¬ S b) : k.R w' S x cs :=
 k.keep h fun b hS hb => g.block b hb (fun e => hr b e.symm hS)

def Kd.int (kd : IntKind) : Kd Int where
 sz := 1
 R := fun _ _ x cs => cs = [.int kd x]
 len := fun h => by subst h; rfl
 one := fun h u hu => by subst h; simp at hu; subst hu; rfl
 keep := fun h _ => h
 mono := fun h _ => h
def Kd.byte : Kd UInt8 where
 sz := 1
 R := fun _ _ x cs => cs = [v8 x]
 len := fun h => by subst h; rfl
 one := fun h u hu => by subst h; simp at hu; subst hu; rfl
 keep := fun h _ => h
 mono := fun h _ => h
def Kd.bool : Kd Bool where
 sz := 1
 R := fun _ _ x cs => cs = [vb x]
 len := fun h => by subst h; rfl
 one := fun h u hu => by subst h; simp at hu; subst hu; rfl
 keep := fun h _ => h
 mono := fun h _ => h
def Lim (x : Str) : Prop := x.length ≤ 9223372036854775807
instance (x : Str) : Decidable (Lim x) := inferInstanceAs (Decidable (x.length ≤ 9223372036854775807))
def Kd.str : Kd Str where
 sz := 1
 R := fun _ _ x cs => cs = [vs x] ∧ Lim x
 len := fun h => by rw [h.1]; rfl
 one := fun h u hu => by rw [h.1] at hu; simp at hu; subst hu; rfl
 keep := fun h _ => h
 mono := fun h _ => h
def Kd.pair {α β : Type} (a : Kd α) (b : Kd β) : Kd (α × β) where
 sz := a.sz + b.sz
 R := fun w S x cs => ∃ c1 c2, cs = c1 ++ c2 ∧ a.R w S x.1 c1 ∧ b.R w S x.2 c2
 len := fun ⟨c1, c2, e, h1, h2⟩ => by subst e; simp [a.len h1, b.len h2]
 one := fun ⟨c1, c2, e, h1, h2⟩ u hu => by
  subst e; rcases List.mem_append.1 hu with hu | hu
  ·exact a.one h1 u hu
  ·exact b.one h2 u hu
 keep := fun ⟨c1, c2, e, h1, h2⟩ g => ⟨c1, c2, e, a.keep h1 g, b.keep h2 g⟩
 mono := fun ⟨c1, c2, e, h1, h2⟩ g => ⟨c1, c2, e, a.mono h1 g, b.mono h2 g⟩
def Kd.iso {α β : Type} (a : Kd α) (f : β → α) : Kd β where
 sz := a.sz
 R := fun w S x cs => a.R w S (f x) cs
 len := a.len
 one := a.one
 keep := a.keep
 mono := a.mono

def Arr {α : Type} (k : Kd α) (w : World) (S : Sp) : List α → List Value → Prop
 | [], cs => cs = []
 | x :: xs, cs => ∃ c1 c2, cs = c1 ++ c2 ∧ k.R w S x c1 ∧ Arr k w S xs c2

section
variable {α : Type} {k : Kd α} {w : World} {S : Sp}
theorem Arr.len : ∀ {xs : List α} {cs : List Value}, Arr k w S xs cs → cs.length = xs.length * k.sz
 | [], cs, h => by simp only [Arr] at h; subst h; simp
 | x :: xs, cs, ⟨c1, c2, e, h1, h2⟩ => by
  subst e; rw [List.length_append, k.len h1, Arr.len h2, List.length_cons, Nat.add_mul, Nat.one_mul, Nat.add_comm]
theorem Arr.keep {w' : World} : ∀ {xs : List α} {cs : List Value}, Arr k w S xs cs → (∀ b, S b → b < w.heap.size → w'.heap[b]? = w.heap[b]?) → Arr k w' S xs cs
 | [], _, h, _ => h
 | _ :: _, _, ⟨c1, c2, e, h1, h2⟩, g => ⟨c1, c2, e, k.keep h1 g, Arr.keep h2 g⟩
theorem Arr.mono {S' : Sp} : ∀ {xs : List α} {cs : List Value}, Arr k w S xs cs → (∀ b, S b → b < w.heap.size → S' b) → Arr k w S' xs cs
 | [], _, h, _ => h
 | _ :: _, _, ⟨c1, c2, e, h1, h2⟩, g => ⟨c1, c2, e, k.mono h1 g, Arr.mono h2 g⟩
theorem Arr.app : ∀ {xs ys : List α} {cs ds : List Value}, Arr k w S xs cs → Arr k w S ys ds → Arr k w S (xs ++ ys) (cs ++ ds)
 | [], _, _, _, h, g => by simp only [Arr] at h; subst h; exact g
 | _ :: _, _, _, ds, ⟨c1, c2, e, h1, h2⟩, g => ⟨c1, c2 ++ ds, by subst e; simp, h1, Arr.app h2 g⟩
theorem Arr.single {x : α} {cs : List Value} (h : k.R w S x cs) : Arr k w S [x] cs := ⟨cs, [], by simp, h, rfl⟩
theorem Arr.drop : ∀ {xs : List α} {cs : List Value} (i : Nat), Arr k w S xs cs → Arr k w S (xs.drop i) (cs.drop (i * k.sz))
 | xs, cs, 0, h => by simpa using h
 | [], cs, i + 1, h => by simp only [Arr] at h; subst h; simp [Arr]
 | x :: xs, cs, i + 1, ⟨c1, c2, e, h1, h2⟩ => by
  subst e
  have := Arr.drop i h2
  rw [List.drop_succ_cons, Nat.add_mul, Nat.one_mul, Nat.add_comm, ← List.drop_drop, show (c1 ++ c2).drop k.sz = c2 by rw [← k.len h1]; simp]
  exact this
theorem Arr.take : ∀ {xs : List α} {cs : List Value} (i : Nat), Arr k w S xs cs → Arr k w S (xs.take i) (cs.take (i * k.sz))
 | xs, cs, 0, h => by simp [Arr]
 | [], cs, i + 1, h => by simp only [Arr] at h; subst h; simp [Arr]
 | x :: xs, cs, i + 1, ⟨c1, c2, e, h1, h2⟩ => by
  subst e
  have := Arr.take i h2
  refine ⟨c1, c2.take (i * k.sz), ?_, h1, this⟩
  rw [Nat.add_mul, Nat.one_mul, Nat.add_comm, ← k.len h1, List.take_append]
  simp [List.take_of_length_le]
theorem Arr.get : ∀ {xs : List α} {cs : List Value} (d : α) (i : Nat), Arr k w S xs cs → i < xs.length → ∃ c, k.R w S (xs.getD i d) c ∧ ∀ j u, c[j]? = some u → cs[i * k.sz + j]? = some u
 | [], _, _, _, _, hi => absurd hi (by simp)
 | x :: xs, cs, d, 0, ⟨c1, c2, e, h1, h2⟩, _ => ⟨c1, h1, fun j u hj => by
   subst e
   rw [Nat.zero_mul, Nat.zero_add, List.getElem?_append_left (by rcases Nat.lt_or_ge j c1.length with h | h; exact h; rw [List.getElem?_eq_none h] at hj; cases hj)]
   exact hj⟩
 | x :: xs, cs, d, i + 1, ⟨c1, c2, e, h1, h2⟩, hi => by
  obtain ⟨c, hc, hj⟩ := Arr.get d i h2 (by simpa using hi)
  refine ⟨c, by simpa using hc, fun j u hu => ?_⟩
  subst e
  rw [List.getElem?_append_right (by rw [k.len h1, Nat.add_mul]; omega)]
  have := hj j u hu
  rw [show (i + 1) * k.sz + j - c1.length = i * k.sz + j by rw [k.len h1, Nat.add_mul]; omega]
  exact this
theorem Arr.set : ∀ {xs : List α} {cs : List Value} (i : Nat) (x : α) (c : List Value), Arr k w S xs cs → i < xs.length → k.R w S x c →
  Arr k w S (xs.set i x) (cs.take (i * k.sz) ++ c ++ cs.drop (i * k.sz + k.sz))
 | [], _, _, _, _, _, hi, _ => absurd hi (by simp)
 | y :: xs, cs, 0, x, c, ⟨c1, c2, e, h1, h2⟩, _, hx => by
  subst e
  refine ⟨c, c2, ?_, hx, h2⟩
  rw [Nat.zero_mul, Nat.zero_add, ← k.len h1]; simp
 | y :: xs, cs, i + 1, x, c, ⟨c1, c2, e, h1, h2⟩, hi, hx => by
  subst e
  refine ⟨c1, _, ?_, h1, Arr.set i x c h2 (by simpa using hi) hx⟩
  have e1 : (i + 1) * k.sz = c1.length + i * k.sz := by rw [k.len h1, Nat.add_mul]; omega
  rw [e1, List.take_append, List.drop_append, Nat.add_assoc]
  rw [List.take_of_length_le OM, show c1.length + i * k.sz - c1.length = i * k.sz by omega, show c1.length + (i * k.sz + k.sz) - c1.length = i * k.sz + k.sz by omega]
  rw [List.drop_of_length_le (l := c1) OM]
  simp
theorem Arr.one : ∀ {xs : List α} {cs : List Value}, Arr k w S xs cs → ∀ u ∈ cs, u.oneCell' = true
 | [], cs, h, u, hu => by simp only [Arr] at h; subst h; cases hu
 | x :: xs, cs, ⟨c1, c2, e, h1, h2⟩, u, hu => by
  subst e; rcases List.mem_append.1 hu with hu | hu
  ·exact k.one h1 u hu
  ·exact Arr.one h2 u hu
end
end
section

abbrev Ob := List (Option Nat)
def Fr (O : Ob) : Sp := fun b => some b ∉ O
structure St (w : World) (O : Ob) (w' : World) (O' : Ob) : Prop where
 os : w'.os = w.os
 tape : w'.tape = w.tape
 output : w'.output = w.output
 size : w.heap.size ≤ w'.heap.size
 block : ∀ k, k < w.heap.size → some k ∉ O → w'.heap[k]? = w.heap[k]?
 sub : ∀ k, k < w.heap.size → some k ∉ O → some k ∉ O'
theorem St.refl (w : World) (O : Ob) : St w O w O := ⟨rfl, rfl, rfl, Nat.le_refl _, fun _ _ _ => rfl, fun _ _ h => h⟩
theorem St.trans {a b c : World} {O O' O'' : Ob} (h : St a O b O') (g : St b O' c O'') : St a O c O'' :=
 ⟨g.os.trans h.os, g.tape.trans h.tape, g.output.trans h.output, Nat.le_trans h.size g.size,
  fun k hk hn => (g.block k (Nat.lt_of_lt_of_le hk h.size) (h.sub k hk hn)).trans (h.block k hk hn),
  fun k hk hn => g.sub k (Nat.lt_of_lt_of_le hk h.size) (h.sub k hk hn)⟩
theorem St.gr {w w' : World} {O' : Ob} (h : St w [] w' O') : Gr w w' none := ⟨h.os, h.tape, h.output, h.size, fun k hk _ => h.block k hk (by simp)⟩
theorem St.new {w w' : World} (O : Ob) (g : Gr w w' none) : St w O w' O := ⟨g.os, g.tape, g.output, g.size, fun k hk _ => g.block k hk (by simp), fun _ _ h => h⟩
theorem St.own {w w' : World} (O : Ob) (r : Option Nat) (g : Gr w w' none) (hr : ∀ b, r = some b → w.heap.size ≤ b) : St w O w' (r :: O) :=
 ⟨g.os, g.tape, g.output, g.size, fun k hk _ => g.block k hk (by simp), fun k hk h => by
  intro hm; rcases List.mem_cons.1 hm with e | hm
  ·have := hr k e.symm; omega
  ·exact h hm⟩
theorem St.mod {w w' : World} {O : Ob} (i : Nat) (r r' : Option Nat) (hi : O[i]? = some r) (g : Gr w w' r) (hr : r' = r ∨ ∀ b, r' = some b → w.heap.size ≤ b) : St w O w' (O.set i r') :=
 ⟨g.os, g.tape, g.output, g.size, fun k hk hn => g.block k hk (fun e => hn (e ▸ List.mem_of_getElem? hi)), fun k hk hn hm => by
  rcases List.mem_or_eq_of_mem_set hm with hm | e
  ·exact hn hm
  ·rcases hr with e' | hr
   ·exact hn (by rw [e, e']; exact List.mem_of_getElem? hi)
   ·have := hr k e.symm; omega⟩
theorem St.wr {w w' : World} {O : Ob} {r : Option Nat} (hi : r ∈ O) (g : Gr w w' r) : St w O w' O :=
 ⟨g.os, g.tape, g.output, g.size, fun k hk hn => g.block k hk (fun e => hn (e ▸ hi)), fun k _ hn => hn⟩
theorem St.drop (w : World) (O : Ob) (i : Nat) : St w O w (O.eraseIdx i) :=
 ⟨rfl, rfl, rfl, Nat.le_refl _, fun _ _ _ => rfl, fun k _ hn hm => hn (List.mem_of_mem_eraseIdx hm)⟩
structure Gm (w w' : World) (rs : Ob) : Prop where
 os : w'.os = w.os
 tape : w'.tape = w.tape
 output : w'.output = w.output
 size : w.heap.size ≤ w'.heap.size
 block : ∀ b, b < w.heap.size → some b ∉ rs → w'.heap[b]? = w.heap[b]?
theorem Gm.refl (w : World) (rs : Ob) : Gm w w rs := ⟨rfl, rfl, rfl, Nat.le_refl _, fun _ _ _ => rfl⟩
theorem Gm.tq {w1 w w' : World} {rs : Ob} {v : Option Nat} (h : Gm w1 w rs) (g : Gr w w' v) (hv : ∀ b, v = some b → b < w1.heap.size → some b ∈ rs) : Gm w1 w' rs :=
 ⟨g.os.trans h.os, g.tape.trans h.tape, g.output.trans h.output, Nat.le_trans h.size g.size, fun b hb hn =>
  (g.block b (Nat.lt_of_lt_of_le hb h.size) (fun e => hn (hv b e.symm hb))).trans (h.block b hb hn)⟩
theorem Gm.tm {w1 w w' : World} {rs : Ob} (h : Gm w1 w rs) (g : Gr w w' none) : Gm w1 w' rs := h.tq g fun b e _ => by cases e
theorem Gm.gr {w w' : World} {rs : Ob} (h : Gm w w' rs) (r : Option Nat) (hr : ∀ b, some b ∈ rs → some b = r) : Gr w w' r := ⟨h.os, h.tape, h.output, h.size, fun b hb hn => h.block b hb fun hm => hn (hr b hm)⟩
theorem Gm.g0 {w w' : World} (h : Gm w w' []) : Gr w w' none := h.gr none fun b e => by cases e
theorem Gm.g1 {w w' : World} {r : Option Nat} (h : Gm w w' [r]) : Gr w w' r := h.gr r fun b e => by simpa using e
def Dj : Ob → Prop
 | [] => True
 | a :: O => (∀ b, a = some b → some b ∉ O) ∧ Dj O
structure Ct (m : Ob) (w0 w : World) (L O : Ob) : Prop where
 gr : Gm w0 w m
 dj : Dj (L ++ O)
 lt : ∀ b, some b ∈ L ++ O → b < w.heap.size
 ge : ∀ b, some b ∈ L → w0.heap.size ≤ b
 mo : ∀ b, some b ∈ m → some b ∈ O ∧ b < w0.heap.size
def Ok (w : World) (O : Ob) : Prop := Dj O ∧ ∀ b, some b ∈ O → b < w.heap.size
theorem Ok.nil (w : World) : Ok w [] := ⟨trivial, fun _ h => by simp at h⟩
theorem Ct.init {w : World} {O : Ob} (h : Ok w O) : Ct [] w w [] O := ⟨Gm.refl w [], h.1, h.2, fun _ h => by simp at h, fun b h => by cases h⟩
theorem Ct.ok {m : Ob} {w0 w : World} {L O : Ob} (c : Ct m w0 w L O) : Ok w (L ++ O) := ⟨c.dj, c.lt⟩
theorem Gr.tm {a b c : World} {m : Option Nat} (h : Gr a b m) (g : Gr b c none) : Gr a c m :=
 ⟨g.os.trans h.os, g.tape.trans h.tape, g.output.trans h.output, Nat.le_trans h.size g.size, fun k hk hn => (g.block k (Nat.lt_of_lt_of_le hk h.size) (by simp)).trans (h.block k hk hn)⟩
theorem Ct.k0 {m : Ob} {w0 w w' : World} {L O : Ob} (c : Ct m w0 w L O) (g : Gr w w' none) : Ct m w0 w' L O := ⟨c.gr.tm g, c.dj, fun b hb => Nat.lt_of_lt_of_le (c.lt b hb) g.size, c.ge, c.mo⟩
theorem Ct.own {m : Ob} {w0 w w' : World} {L O : Ob} (c : Ct m w0 w L O) (g : Gr w w' none) (r : Option Nat) (hr : ∀ b, r = some b → w.heap.size ≤ b ∧ b < w'.heap.size) : Ct m w0 w' (r :: L) O :=
 ⟨c.gr.tm g, ⟨fun b e hm => by have := hr b e; have := c.lt b hm; omega, c.dj⟩, fun b hm => by
  rcases List.mem_cons.1 hm with e | hm
  ·exact (hr b e.symm).2
  ·exact Nat.lt_of_lt_of_le (c.lt b hm) g.size, fun b hm => by
  rcases List.mem_cons.1 hm with e | hm
  ·have := hr b e.symm; have := c.gr.size; omega
  ·exact c.ge b hm, c.mo⟩
theorem Dj.ne : ∀ {O : Ob} {i j : Nat} {r s : Option Nat}, Dj O → O[i]? = some r → O[j]? = some s → i ≠ j → ∀ b, r = some b → s ≠ some b
 | [], i, j, r, s, _, h, _, _ => by simp at h
 | a :: O, 0, 0, r, s, _, _, _, h => absurd rfl h
 | a :: O, 0, j + 1, r, s, d, hi, hj, _ => fun b e e' => by
  simp at hi hj; subst hi; subst e; subst e'; exact d.1 b rfl (List.mem_of_getElem? hj)
 | a :: O, i + 1, 0, r, s, d, hi, hj, _ => fun b e e' => by
  simp at hi hj; subst hj; subst e; subst e'; exact d.1 b rfl (List.mem_of_getElem? hi)
 | a :: O, i + 1, j + 1, r, s, d, hi, hj, h => Dj.ne d.2 (by simpa using hi) (by simpa using hj) (fun e => h (by rw [e]))
theorem Dj.set : ∀ {O : Ob} {i : Nat} {r r' : Option Nat}, Dj O → O[i]? = some r → (r' = r ∨ ∀ b, r' = some b → some b ∉ O) → Dj (O.set i r')
 | [], i, r, r', _, h, _ => by simp at h
 | a :: O, 0, r, r', d, hi, hr => by
  simp at hi; subst hi
  refine ⟨fun b e hm => ?_, d.2⟩
  rcases hr with e' | hr
  ·exact d.1 b (e' ▸ e) hm
  ·exact hr b e (List.mem_cons_of_mem _ hm)
 | a :: O, i + 1, r, r', d, hi, hr => by
  refine ⟨fun b e hm => ?_, Dj.set d.2 (by simpa using hi) (hr.imp id fun h b e hm => h b e (List.mem_cons_of_mem _ hm))⟩
  rcases List.mem_or_eq_of_mem_set hm with hm | e'
  ·exact d.1 b e hm
  ·rcases hr with e'' | hr
   ·exact d.1 b e (by rw [e', e'']; exact List.mem_of_getElem? (by simpa using hi))
   ·exact hr b e'.symm (by rw [e]; exact List.mem_cons_self)
theorem set_app {L O : Ob} {i : Nat} {r r' : Option Nat} (hi : L[i]? = some r) : (L ++ O).set i r' = L.set i r' ++ O := by
 rw [List.set_append_left _ _ (List.getElem?_eq_some_iff.1 hi).1]
theorem get_app {L O : Ob} {i : Nat} {r : Option Nat} (hi : L[i]? = some r) : (L ++ O)[i]? = some r := by
 rw [List.getElem?_append_left (List.getElem?_eq_some_iff.1 hi).1]; exact hi
theorem Ct.mod {m : Ob} {w0 w w' : World} {L O : Ob} (c : Ct m w0 w L O) (i : Nat) (r r' : Option Nat) (hi : L[i]? = some r) (g : Gr w w' r) (hr : r' = r ∨ ∀ b, r' = some b → w.heap.size ≤ b ∧ b < w'.heap.size) : Ct m w0 w' (L.set i r') O := by
 have hi' := get_app (O := O) hi
 have hsz := g.size
 refine ⟨c.gr.tq g fun k e hk => absurd (c.ge k (by rw [← e]; exact List.mem_of_getElem? hi)) OM, ?_, fun b hm => ?_, fun b hm => ?_, c.mo⟩
 ·rw [← set_app hi]
  exact c.dj.set hi' (hr.imp id fun h b e hm => by have := h b e; have := c.lt b hm; omega)
 ·rw [← set_app hi] at hm
  rcases List.mem_or_eq_of_mem_set hm with hm | e
  ·exact Nat.lt_of_lt_of_le (c.lt b hm) hsz
  ·rcases hr with e' | hr
   ·exact Nat.lt_of_lt_of_le (c.lt b (by rw [e, e']; exact List.mem_of_getElem? hi')) hsz
   ·exact (hr b e.symm).2
 ·rcases List.mem_or_eq_of_mem_set hm with hm | e
  ·exact c.ge b hm
  ·rcases hr with e' | hr
   ·exact c.ge b (by rw [e, e']; exact List.mem_of_getElem? hi)
   ·have := hr b e.symm; have := c.gr.size; omega
theorem Ct.wr {m : Ob} {w0 w w' : World} {L O : Ob} (c : Ct m w0 w L O) (i : Nat) {r : Option Nat} (hi : L[i]? = some r) (g : Gr w w' r) : Ct m w0 w' L O := by
 have := c.mod i r r hi g (.inl rfl)
 have e : L.set i r = L := by
  apply List.ext_getElem?
  intro j
  rw [List.getElem?_set]
  split
  ·rename_i e; subst e
   have := (List.getElem?_eq_some_iff.1 hi).1
   rw [if_pos this, hi]
  ·rfl
 rwa [e] at this
theorem Dj.erase : ∀ {O : Ob} (i : Nat), Dj O → Dj (O.eraseIdx i)
 | [], _, _ => trivial
 | _ :: _, 0, d => d.2
 | a :: O, i + 1, d => ⟨fun b e hm => d.1 b e (List.mem_of_mem_eraseIdx hm), Dj.erase i d.2⟩
theorem erase_app {L O : Ob} {i : Nat} (hi : i < L.length) : (L ++ O).eraseIdx i = L.eraseIdx i ++ O := List.eraseIdx_append_of_lt_length hi O
theorem Ct.drop {m : Ob} {w0 w : World} {L O : Ob} (c : Ct m w0 w L O) (i : Nat) (hi0 : Nat.blt i L.length = true) : Ct m w0 w (L.eraseIdx i) O :=
 have hi := lt_blt hi0
 ⟨c.gr, by rw [← erase_app hi]; exact c.dj.erase i, fun b hm => by rw [← erase_app hi] at hm; exact c.lt b (List.mem_of_mem_eraseIdx hm), fun b hm => c.ge b (List.mem_of_mem_eraseIdx hm), c.mo⟩

theorem Kd.st {α : Type} (k : Kd α) {w w' : World} {O O' : Ob} {x : α} {cs : List Value} (h : k.R w (Fr O) x cs) (s : St w O w' O') : k.R w' (Fr O') x cs :=
 k.mono (k.keep (k.mono (S' := fun b => some b ∉ O ∧ b < w.heap.size) h fun b hS hb => ⟨hS, hb⟩) fun b hS hb => s.block b hb hS.1) fun b hS hb => s.sub b hS.2 hS.1

def Sl {α : Type} (k : Kd α) (w : World) (S : Sp) (v : Value) (xs : List α) : Prop :=
 ∃ A c cells, v = .slice A xs.length c ∧ (xs.length ≤ c ∧ c ≤ 9223372036854775807) ∧ Arr k w S xs cells ∧ ∀ j u, cells[j]? = some u → ∃ ad, A = some ad ∧ S ad.block ∧ w.cell? (ad.add j) = some u
theorem add_block (a : Addr) (j : Nat) : (a.add j).block = a.block := by unfold Addr.add; split <;> rfl
theorem add_add (a : Addr) (i j : Nat) : (a.add i).add j = a.add (i + j) := by
 unfold Addr.add
 by_cases hi : i = 0 <;> by_cases hj : j = 0 <;> simp [hi, hj, Nat.add_assoc]
def Kd.sl {α : Type} (k : Kd α) : Kd (List α) where
 sz := 1
 R := fun w S xs cs => ∃ v, cs = [v] ∧ Sl k w S v xs
 len := fun ⟨v, e, _⟩ => by subst e; rfl
 one := fun ⟨v, e, A, c, _, e', _⟩ u hu => by subst e; simp at hu; subst hu; subst e'; rfl
 keep := fun ⟨v, e, A, c, cells, e', h1, h2, h3⟩ g => ⟨v, e, A, c, cells, e', h1, h2.keep g, fun j u hu => by
  obtain ⟨ad, ea, hS, hc⟩ := h3 j u hu
  exact ⟨ad, ea, hS, (World.cell?_of_block (by rw [add_block]; exact g _ hS (add_block ad j ▸ World.block_lt_of_cell? _ _ hc))).trans hc⟩⟩
 mono := fun ⟨v, e, A, c, cells, e', h1, h2, h3⟩ g => ⟨v, e, A, c, cells, e', h1, h2.mono g, fun j u hu => by
  obtain ⟨ad, ea, hS, hc⟩ := h3 j u hu
  exact ⟨ad, ea, g _ hS (add_block ad j ▸ World.block_lt_of_cell? _ _ hc), hc⟩⟩
section
variable {α : Type} {k : Kd α} {w w' : World} {S S' : Sp} {v : Value} {xs : List α} {O O' : Ob}
theorem Sl.keep (h : Sl k w S v xs) (g : ∀ b, S b → b < w.heap.size → w'.heap[b]? = w.heap[b]?) : Sl k w' S v xs := by
 obtain ⟨_, e, h⟩ := (Kd.sl k).keep ⟨v, rfl, h⟩ g
 cases e; exact h
theorem Sl.mono (h : Sl k w S v xs) (g : ∀ b, S b → b < w.heap.size → S' b) : Sl k w S' v xs := by
 obtain ⟨_, e, h⟩ := (Kd.sl k).mono ⟨v, rfl, h⟩ g
 cases e; exact h
theorem Sl.st (h : Sl k w (Fr O) v xs) (s : St w O w' O') : Sl k w' (Fr O') v xs := by
 obtain ⟨_, e, h⟩ := (Kd.sl k).st ⟨v, rfl, h⟩ s
 cases e; exact h
theorem Sl.shape (h : Sl k w S v xs) : ∃ A c, v = .slice A xs.length c := let ⟨A, c, _, e, _⟩ := h; ⟨A, c, e⟩
theorem Sl.len {A : Option Addr} {m c : Nat} (h : Sl k w S (.slice A m c) xs) : m = xs.length := by obtain ⟨_, _, _, e, _⟩ := h; cases e; rfl
theorem Sl.nil (k : Kd α) (w : World) (S : Sp) (A : Option Addr) (c : Nat) (hc : c ≤ 9223372036854775807) : Sl k w S (.slice A 0 c) [] := ⟨A, c, [], rfl, ⟨Nat.zero_le _, hc⟩, rfl, fun j u h => by simp at h⟩
theorem Sl.le (h : Sl k w S v xs) : xs.length ≤ 9223372036854775807 := let ⟨_, _, _, _, h, _⟩ := h; Nat.le_trans h.1 h.2
theorem Sl.get {A : Option Addr} {m c : Nat} (d : α) (h : Sl k w S (.slice A m c) xs) (hk : 0 < k.sz) (i : Int) (hi : 0 ≤ i ∧ i < (xs.length : Int)) :
  ∃ ad cs, A = some ad ∧ S ad.block ∧ k.R w S (xs.getD i.toNat d) cs ∧ ∀ j u, cs[j]? = some u → w.cell? ((ad.add (i.toNat * k.sz)).add j) = some u := by
 obtain ⟨A', c', cells, e, h1, h2, h3⟩ := h
 cases e
 obtain ⟨cs, hR, hj⟩ := h2.get d i.toNat OM
 have hl := k.len hR
 obtain ⟨u0, hu0⟩ : ∃ u, cs[0]? = some u := ⟨cs[0]'OM, by simp⟩
 obtain ⟨ad, rfl, hS, _⟩ := h3 _ _ (hj 0 u0 hu0)
 refine ⟨ad, cs, rfl, hS, hR, fun j u hu => ?_⟩
 obtain ⟨ad', e, _, hc⟩ := h3 _ _ (hj j u hu)
 cases e
 rw [add_add]; exact hc
end

def blk : Value → Option Nat
 | .slice A _ _ => A.map (·.block)
 | _ => none
theorem pc {α : Type} [BEq α] [LawfulBEq α] {l m : List α} (h : ∀ a, l.count a = m.count a) : l.Perm m := List.perm_iff_count.2 h
theorem pca {α : Type} [BEq α] {a : α} {l m : List α} : (l ++ m).count a = l.count a + m.count a := List.count_append
theorem pcc {α : Type} [BEq α] {a b : α} {l : List α} : (b :: l).count a = l.count a + if b == a then 1 else 0 := List.count_cons
theorem pcn {α : Type} [BEq α] {a : α} : ([] : List α).count a = 0 := List.count_nil
abbrev bk (A : Option Addr) : Option Nat := A.map (·.block)
theorem own_blk (v : Value) : v.ownBlock = blk v := by
 cases v with
 | slice A n c => cases A <;> rfl
 | _ => rfl
def Ow {α : Type} (k : Kd α) (e : TypeId) (w : World) (O : Ob) (v : Value) (xs : List α) : Prop :=
 ∃ cells, w.ownsRow 0 e k.sz v xs.length cells ∧ Arr k w (Fr O) xs cells ∧ ∀ b, blk v = some b → some b ∈ O
def Bx (w : World) (b : Nat) (cs : List Value) : Prop := ∃ e, w.heap[b]? = some (.cells cs.toArray e (0, 0))
section
variable {α : Type} {k : Kd α} {e : TypeId} {w w' : World} {v : Value} {xs : List α} {O O' : Ob} {r : Option Nat} {b : Nat} {cs : List Value}
theorem ownsRow.shape {base size n : Nat} {cells : List Value} (h : w.ownsRow base e size v n cells) : ∃ A c, v = .slice A n c := by
 rcases h.2 with ⟨e, e'⟩ | ⟨g, cap, cur, e, _⟩
 ·subst e'; exact ⟨_, _, e⟩
 ·exact ⟨_, _, e⟩
theorem Ow.shape (h : Ow k e w O v xs) : ∃ A c, v = .slice A xs.length c := let ⟨_, h, _⟩ := h; ownsRow.shape h
theorem Ow.nil (k : Kd α) (e : TypeId) (w : World) (O : Ob) : Ow k e w O (.slice none 0 0) [] := ⟨[], World.ownsRow_nil w 0 e k.sz, rfl, fun b h => by simp [blk] at h⟩
theorem Ow.st (h : Ow k e w O v xs) (s : St w O w' O') (hb : ∀ b, blk v = some b → w'.heap[b]? = w.heap[b]? ∧ some b ∈ O') : Ow k e w' O' v xs := by
 obtain ⟨cells, h1, h2, h3⟩ := h
 refine ⟨cells, ⟨h1.1, ?_⟩, ?_, fun b hv => (hb b hv).2⟩
 ·rcases h1.2 with hn | ⟨g, cap, cur, hv, h0, hg, rest⟩
  ·exact .inl hn
  ·exact .inr ⟨g, cap, cur, hv, h0, by rw [(hb g (by rw [hv]; rfl)).1]; exact hg, rest⟩
 ·have : Arr k w (fun b => some b ∉ O ∧ b < w.heap.size) xs cells := h2.mono fun b hS hb => ⟨hS, hb⟩
  exact (this.keep fun b hS hb => s.block b hb hS.1).mono fun b hS hb => s.sub b hS.2 hS.1
theorem Ow.ltb (h : Ow k e w O v xs) : ∀ b, blk v = some b → b < w.heap.size := fun b hb => (World.ownsRow.lt h.choose_spec.1 b ((own_blk v).trans hb)).2
theorem Ow.st0 (h : Ow k e w O v xs) (s : St w O w' O') (g : Gr w w' none) (hb : ∀ b, blk v = some b → some b ∈ O') : Ow k e w' O' v xs :=
 h.st s fun b hv => ⟨g.block b (h.ltb b hv) (by simp), hb b hv⟩
theorem Ow.st1 (h : Ow k e w O v xs) (s : St w O w' O') (g : Gr w w' r) (hr : ∀ b, blk v = some b → r ≠ some b) (hb : ∀ b, blk v = some b → some b ∈ O') : Ow k e w' O' v xs :=
 h.st s fun b hv => ⟨g.block b (h.ltb b hv) (fun e => hr b hv e.symm), hb b hv⟩
theorem Ow.sl (h : Ow k e w O v xs) (S : Sp) (hS : ∀ b, b < w.heap.size → some b ∉ O ∨ blk v = some b → S b) : Sl k w S v xs := by
 obtain ⟨cells, h1, h2, h3⟩ := h
 obtain ⟨A, c, rfl⟩ := ownsRow.shape h1
 have hc : xs.length ≤ c ∧ c ≤ 9223372036854775807 := by
  rcases h1.2 with ⟨e, e'⟩ | ⟨g, cap, cur, e, _, _, h, hm, _⟩
  ·simp only [Value.slice.injEq] at e; omega
  ·cases e; exact ⟨h, hm⟩
 refine ⟨A, c, cells, rfl, hc, h2.mono fun b hb hl => hS b hl (.inl hb), fun j u hu => ?_⟩
 rcases h1.2 with ⟨e, e'⟩ | ⟨g, cap, cur, e, _, hg, h, _⟩
 ·have := h1.1
  have hl : cells = [] := List.length_eq_zero_iff.1 (by rw [this, e']; simp)
  subst hl; simp at hu
 ·cases e
  have hcell := World.ownsRow.cells h1 (g := g) rfl j u hu
  exact ⟨_, rfl, hS _ (by have := World.block_lt_of_cell? _ _ hcell; rwa [add_block] at this) (.inr rfl), hcell⟩
theorem Ow.give (h : Ow k e w O v xs) (i : Nat) (hi : O[i]? = some (blk v)) (d : Dj O) : Sl k w (Fr (O.eraseIdx i)) v xs :=
 h.sl _ fun b hl hb => by
  rcases hb with hb | hb
  ·exact fun hm => hb (List.mem_of_mem_eraseIdx hm)
  ·intro hm
   rw [List.mem_eraseIdx_iff_getElem?] at hm
   obtain ⟨j, hne, hj⟩ := hm
   exact d.ne hi hj (fun e => hne e.symm) b hb rfl
theorem Ow.get {A : Option Addr} {m c : Nat} (d : α) (h : Ow k e w O (.slice A m c) xs) (hk : 0 < k.sz) (i : Int) (hi : 0 ≤ i ∧ i < (xs.length : Int)) :
  ∃ ad cs, A = some ad ∧ k.R w (Fr O) (xs.getD i.toNat d) cs ∧ ∀ j u, cs[j]? = some u → w.cell? ((ad.add (i.toNat * k.sz)).add j) = some u := by
 obtain ⟨cells, h1, h2, h3⟩ := h
 obtain ⟨cs, hR, hj⟩ := h2.get d i.toNat OM
 rcases h1.2 with ⟨_, e'⟩ | ⟨g, cap, cur, e, _, hg, hle, _⟩
 ·omega
 ·cases e
  refine ⟨_, cs, rfl, hR, fun j u hu => ?_⟩
  rw [add_add]; exact World.ownsRow.cells h1 (g := g) rfl _ _ (hj j u hu)
theorem Ow.len {A : Option Addr} {m c : Nat} (h : Ow k e w O (.slice A m c) xs) : m = xs.length := by obtain ⟨_, _, e⟩ := h.shape; cases e; rfl
theorem Ow.le (h : Ow k e w O v xs) : xs.length ≤ 9223372036854775807 := (h.sl (fun _ => True) (fun _ _ _ => trivial)).le
theorem Bx.cell (h : Bx w b cs) {j : Nat} {u : Value} (hu : cs[j]? = some u) : w.cell? ⟨b, j, none⟩ = some u := by
 obtain ⟨e, h⟩ := h
 rw [cell_of_row w b j _ e _ h]; simpa using hu
theorem Bx.cells (h : Bx w b cs) {off : Nat} {ds : List Value} (hd : (cs.drop off).take ds.length = ds) : ∀ j u, ds[j]? = some u → w.cell? ((⟨b, off, none⟩ : Addr).add j) = some u := fun j u hu => by
 have e : (⟨b, off, none⟩ : Addr).add j = ⟨b, off + j, none⟩ := by unfold Addr.add; split <;> simp_all
 rw [e]
 refine h.cell ?_
 rw [← hd, List.getElem?_take] at hu
 split at hu
 ·rwa [List.getElem?_drop] at hu
 ·cases hu
theorem Bx.keep (h : Bx w b cs) (g : Gr w w' r) (hr : r ≠ some b) : Bx w' b cs := by
 obtain ⟨e, h⟩ := h
 exact ⟨e, (g.block b (Array.getElem?_eq_some_iff.1 h).1 (fun e => hr e.symm)).trans h⟩
theorem Bx.k0 (h : Bx w b cs) (g : Gr w w' none) : Bx w' b cs := h.keep g (by simp)
theorem Bx.st (h : Bx w b cs) (s : St w O w' O') (hb : some b ∉ O) : Bx w' b cs := by
 obtain ⟨e, h⟩ := h
 exact ⟨e, (s.block b (Array.getElem?_eq_some_iff.1 h).1 hb).trans h⟩
theorem Bx.lt (h : Bx w b cs) : b < w.heap.size := let ⟨_, h⟩ := h; (Array.getElem?_eq_some_iff.1 h).1
end

section
variable {α : Type} {k : Kd α} {e : TypeId} {w0 w w' : World} {v : Value} {xs : List α} {O L : Ob} {r r' : Option Nat} {b : Nat} {cs : List Value} {i j : Nat} {m : Ob}
theorem Ct.st (c : Ct m w0 w L O) : St w0 O w (L ++ O) :=
 ⟨c.gr.os, c.gr.tape, c.gr.output, c.gr.size, fun k hk hn => c.gr.block k hk (fun e => hn (c.mo k e).1), fun k hk h hm => by
  rcases List.mem_append.1 hm with hm | hm
  ·have := c.ge k hm; omega
  ·exact h hm⟩
def Fb (w : World) (O : Ob) (b : Nat) (cs : List Value) : Prop := Bx w b cs ∧ some b ∉ O
theorem Fb.mk (c : Ok w O) (hl : w.heap.size ≤ b) (h : Bx w' b cs) : Fb w' O b cs := ⟨h, fun hm => by have := c.2 b hm; omega⟩
theorem Fb.st {O' : Ob} (h : Fb w O b cs) (s : St w O w' O') : Fb w' O' b cs := ⟨h.1.st s h.2, s.sub b h.1.lt h.2⟩
theorem Fb.cell (h : Fb w O b cs) {j : Nat} {u : Value} (hu : cs[j]? = some u) : w.cell? ⟨b, j, none⟩ = some u := h.1.cell hu
theorem Fb.cells (h : Fb w O b cs) {off : Nat} {ds : List Value} (hd : (cs.drop off).take ds.length = ds) : ∀ j u, ds[j]? = some u → w.cell? ((⟨b, off, none⟩ : Addr).add j) = some u := h.1.cells hd
theorem Ow.sn (h : Ow k e w O v xs) (g : Gr w w' none) : Ow k e w' O v xs := h.st0 (.new O g) g h.choose_spec.2.2
theorem Ow.so (h : Ow k e w O v xs) (r : Option Nat) (g : Gr w w' none) (hr : ∀ b, r = some b → w.heap.size ≤ b) : Ow k e w' (r :: O) v xs :=
 h.st0 (.own O r g hr) g fun b hb => List.mem_cons_of_mem _ (h.choose_spec.2.2 b hb)
theorem Ow.sm (h : Ow k e w (L ++ O) v xs) (c : Ct m w0 w L O) (hi : L[i]? = some (blk v)) (hj : L[j]? = some r) (hij : i ≠ j) (g : Gr w w' r) (s : St w (L ++ O) w' (L.set j r' ++ O)) : Ow k e w' (L.set j r' ++ O) v xs :=
 h.st1 s g (fun b hb => c.dj.ne (get_app hi) (get_app hj) hij b hb) fun b hb => List.mem_append_left _ (by
  rw [← hb]; refine List.mem_of_getElem? (i := i) ?_; rw [List.getElem?_set_ne (Ne.symm hij)]; exact hi)
theorem Ow.sw (h : Ow k e w (L ++ O) v xs) (c : Ct m w0 w L O) (hi : L[i]? = some (blk v)) (hj : L[j]? = some r) (hij : i ≠ j) (g : Gr w w' r) : Ow k e w' (L ++ O) v xs :=
 h.st1 (.wr (List.mem_of_getElem? (get_app hj)) g) g (fun b hb => c.dj.ne (get_app hi) (get_app hj) hij b hb) h.choose_spec.2.2
theorem Ow.sd (h : Ow k e w (L ++ O) v xs) (hi : L[i]? = some (blk v)) (hj0 : Nat.blt j L.length = true) (hij : i ≠ j) : Ow k e w (L.eraseIdx j ++ O) v xs := by
 have hj := lt_blt hj0
 have s := St.drop w (L ++ O) j
 rw [erase_app hj] at s
 refine h.st0 s (Gr.refl w none) fun b hb => List.mem_append_left _ ?_
 rw [List.mem_eraseIdx_iff_getElem?]
 exact ⟨i, hij, by rw [← hb]; exact hi⟩
theorem Ow.gv (h : Ow k e w (L ++ O) v xs) (c : Ct m w0 w L O) (hi : L[i]? = some (blk v)) : Sl k w (Fr (L.eraseIdx i ++ O)) v xs := by
 have := h.give i (get_app hi) c.dj
 rwa [erase_app (List.getElem?_eq_some_iff.1 hi).1] at this
theorem Bx.sm (h : Bx w b cs) (c : Ct m w0 w L O) (hi : L[i]? = some (some b)) (hj : L[j]? = some r) (hij : i ≠ j) (g : Gr w w' r) : Bx w' b cs :=
 h.keep g fun e => c.dj.ne (get_app hi) (get_app hj) hij b rfl e
theorem Bx.gv (h : Bx w b cs) (c : Ct m w0 w L O) (hi : L[i]? = some (some b)) : Fb w (L.eraseIdx i ++ O) b cs := ⟨h, fun hm => by
 rw [← erase_app (List.getElem?_eq_some_iff.1 hi).1, List.mem_eraseIdx_iff_getElem?] at hm
 obtain ⟨j, hne, hj⟩ := hm
 exact c.dj.ne (get_app hi) hj (fun e => hne e.symm) b rfl rfl⟩
theorem St.dr (w : World) (hj0 : Nat.blt j L.length = true) : St w (L ++ O) w (L.eraseIdx j ++ O) := by
 have hj := lt_blt hj0
 rw [← erase_app hj]; exact St.drop w (L ++ O) j
theorem St.wl (hj : L[j]? = some r) (g : Gr w w' r) : St w (L ++ O) w' (L ++ O) := .wr (List.mem_of_getElem? (get_app hj)) g
end
end
section

def FA (P : Program) (T : TypeId) (f off : Nat) : Prop := ∀ w a, (Instr.fieldAt T (.pointer (some a)) f).run P w = .ok (.pointer (some (a.add off))) w
def IsAgg (P : Program) (T : TypeId) (b : Bool) : Prop := ∀ w, (isAgg T).run P w = .ok b w
def SizeOf (P : Program) (T : TypeId) (m : Nat) : Prop := ∀ w, (sizeOf T).run P w = .ok m w
def ZeroOf (P : Program) (T : TypeId) (cs : List Value) : Prop := ∀ w, ∃ v, (zeroValue T).run P w = .ok v w ∧ v.cells.toList = cs
theorem FA_mk {P : Program} {T : TypeId} {fs : Array Field} {f : Nat} {fld : Field} (s off : Nat) (hu : P.underlying T = some (.struct fs)) (hf : fs[f]? = some fld) (hi : (P.info? fld.type).map (·.size) = some s) (hz : s ≠ 0) (ho : fld.offset = off) : FA P T f off :=
 fun w a => by
  cases h : P.info? fld.type with
  | none => simp [h] at hi
  | some i =>
   have : i.size ≠ 0 := by simp [h] at hi; omega
   subst ho
   simp [Instr.fieldAt, run_underlying hu, hf, Instr.sureAddr, fieldPlace, sizeOf, typeInfo, h, this]
def aggD : TypeDesc → Bool
 | .struct _ | .array _ _ => true
 | _ => false
theorem IsAgg_mk {P : Program} {T : TypeId} {d : TypeDesc} (hu : P.underlying T = some d) : IsAgg P T (aggD d) :=
 fun w => by unfold isAgg; rw [Sem.run_bind, run_underlying hu w]; cases d <;> rfl
theorem SizeOf_mk {P : Program} {T : TypeId} {m : Nat} (hi : (P.info? T).map (·.size) = some m) : SizeOf P T m :=
 fun w => by
  cases h : P.info? T with
  | none => simp [h] at hi
  | some i => simp [h] at hi; simp [sizeOf, typeInfo, h, hi]
theorem ZeroOf_mk {P : Program} {T : TypeId} {z : Value} {cs : List Value} (h : (P.info? T).map (·.zero) = some (some z)) (hz : z.cells.toList = cs) : ZeroOf P T cs := fun w => by
 cases hi : P.info? T with
 | none => simp [hi] at h
 | some i => simp [hi] at h; exact ⟨z, by simp [zeroValue, typeInfo, hi, h], hz⟩

theorem loadCells_run {P : Program} (w : World) (a : Addr) (cs : List Value) (hc : ∀ j u, cs[j]? = some u → w.cell? (a.add j) = some u) : (loadCells a cs.length).run P w = .ok cs.toArray w :=
 run_loadCells_list (P := P) w a cs hc

section
variable {P : Program} {n : Nat} {N R : Ps} {X : Nat → Ps} {t : Tm} {w : World} {ops : Array Oper} {rest : List Oper} {ty : TypeId} {pos : String} {aft : Array Edge} {d : Nat} {x y z : Operand} {C : World → Prop}

theorem Xj {T : TypeId} {f off : Nat} (hT : FA P T f off) (a b : Addr) (hx : evt n t x = .pointer (some a)) (hb : a.add off = b) : Pu P n t C ⟨some d, .fieldAddr T x f, ty, pos, aft, none⟩ (.pointer (some b)) := fun w hw =>
 (by subst hb; simp [execOp, hx, hT w a])
theorem X4 {T e : TypeId} {s : Nat} {kd : IntKind} (hu : P.underlying T = some (.slice e)) (hs : SizeOf P e s) (A : Option Addr) (ad : Addr) (m c : Nat) {l : Nat} (hm : m = l) (i : Int) (hx : evt n t x = .slice A m c) (hA : A = some ad) (hy : evt n t y = .int kd i)
  (hi : 0 ≤ i ∧ i < (l : Int)) : Pu P n t C ⟨some d, .indexAddr T x y, ty, pos, aft, none⟩ (.pointer (some (ad.add (i.toNat * s)))) := fun w hw =>
 (by subst hA; subst hm; simp [execOp, hx, hy, Instr.indexAt, asIntOf, run_underlying hu, hi, hs w])
theorem map_toL {α β : Type} (a : Array α) (f : α → β) : a.map f = (a.toList.map f).toArray := by apply Array.ext'; simp
theorem cL {w : World} : ∀ x, (fun x => x = w) x → Gr w x none := fun x e => by cases e; exact Gr.refl _ _
theorem cQ {w : World} : ∀ x, (fun x => Gr w x none) x → Gr w x none := fun x e => e
theorem Xn {T : TypeId} (hT : IsAgg P T false) {w1 : World} (hC : ∀ x, C x → Gr w1 x none) (a : Addr) (v : Value) (hx : evt n t x = .pointer (some a)) (hc0 : w1.cell? a = some v) : Pu P n t C ⟨some d, .load T x, ty, pos, aft, none⟩ v := fun w hw =>
 (by have hc := Gr.cell (hC w hw) hc0 (by simp); simp [execOp, hx, Instr.loadAt, Instr.sureAddr, loadVar, hT w, hc])
theorem Xv {T : TypeId} {s : Nat} (hT : IsAgg P T true) (hs : SizeOf P T s) {w1 : World} (hC : ∀ x, C x → Gr w1 x none) (a : Addr) (cs : List Value) (hx : evt n t x = .pointer (some a)) (hl : cs.length = s) (hc0 : ∀ j u, cs[j]? = some u → w1.cell? (a.add j) = some u) : Pu P n t C ⟨some d, .load T x, ty, pos, aft, none⟩ (.agg cs.toArray) := fun w hw =>
 (by have hc := fun j u hu => Gr.cell (hC w hw) (hc0 j u hu) (by simp); subst hl; simp [execOp, hx, Instr.loadAt, Instr.sureAddr, loadVar, hT w, hs w, loadCells_run w a cs hc])
theorem Ya {T : TypeId} (cs : List Value) (hx : (evt n t x).cells = cs.toArray) (k : ∀ w' b, w.heap.size ≤ b → b < w'.heap.size → Gr w w' none → Bx w' b cs → L P n ops N R X rest (upd d (.pointer (some ⟨b, 0, none⟩)) t) w') :
  L P n ops N R X (⟨some d, .box T x, ty, pos, aft, none⟩ :: rest) t w :=
 Y0 rfl _ (w.alloc (.cells cs.toArray T)) (by simp [execOp, hx, Instr.box, newVar, newRow]) (k _ _ (Nat.le_refl _) (by simp) (Gr.alloc _ _) ⟨T, heap_alloc_new w _⟩)
theorem Yn {T : TypeId} (cs : List Value) (hz : ZeroOf P T cs) (k : ∀ w' b, w.heap.size ≤ b → b < w'.heap.size → Gr w w' none → Bx w' b cs → L P n ops N R X rest (upd d (.pointer (some ⟨b, 0, none⟩)) t) w') :
  L P n ops N R X (⟨some d, .alloc T, ty, pos, aft, none⟩ :: rest) t w := by
 obtain ⟨v, hv, rfl⟩ := hz w
 exact Y0 rfl _ (w.alloc (.cells v.cells T)) (by simp [execOp, Instr.alloc, hv, newVar, newRow]) (k _ _ (Nat.le_refl _) (by simp) (Gr.alloc _ _) ⟨T, by simpa using heap_alloc_new w _⟩)
theorem Yy {T : TypeId} {parts : Array (Nat × Operand)} (v : Value) (h : ∀ w, (Instr.build T (parts.toList.map fun p => (p.1, evt n t p.2)).toArray).run P w = .ok v w) : Pu P n t C ⟨some d, .build T parts, ty, pos, aft, none⟩ v := fun w hw =>
 (by have h := h w; rw [← map_toL] at h; simp only [execOp]; rw [Sem.run_bind]; exact (congrArg (fun r => Result.andThen r _) h))
theorem Gr.setRow (w : World) (g : Nat) (cs : Array Value) : Gr w (w.setRow g cs) (some g) := ⟨rfl, rfl, rfl, by simp, fun k _ hk => setRow_other w g k _ (fun e => hk (by rw [e]))⟩
theorem Za {T : TypeId} (b off : Nat) (cs us cs' : List Value) (hx : evt n t x = .pointer (some ⟨b, off, none⟩)) (hB : Bx w b cs) (hy : (evt n t y).cells = us.toArray) (hs : SizeOf P T us.length) (h1' : us.all Value.oneCell' = true)
  (hl' : Nat.ble (off + us.length) cs.length = true) (hcs : cs.take off ++ us ++ cs.drop (off + us.length) = cs') (k : ∀ w', Gr w w' (some b) → Bx w' b cs' → L P n ops N R X rest t w') :
  L P n ops N R X (⟨none, .store T x y, ty, pos, aft, none⟩ :: rest) t w := by
 have h1 : ∀ u ∈ us, u.oneCell' = true := fun u hu => List.all_eq_true.1 h1' u hu
 have hl : off + us.length ≤ cs.length := Nat.le_of_ble_eq_true hl'
 obtain ⟨e, hB⟩ := hB
 have hr := run_storeCells_at P b off e us 0 cs.toArray w hB (by simpa using hl) h1
 simp only [Nat.add_zero] at hr
 subst hcs
 have hr : (storeCells ⟨b, off, none⟩ us).run P w = .ok () (w.setRow b (cs.take off ++ us ++ cs.drop (off + us.length)).toArray) := hr
 refine Y9 rfl (w.setRow b (cs.take off ++ us ++ cs.drop (off + us.length)).toArray) ?_ (k _ (Gr.setRow _ _ _) ⟨e, setRow_heap w b _ _ e _ hB⟩)
 simp only [execOp, hx, Instr.storeAt, Instr.sureAddr, Sem.run_bind, Sem.run_pure, Result.andThen_ok, storeVar, hs w, hy, List.size_toArray, ne_eq, not_true, if_false, hr]
theorem splice (A B C us : List Value) (off : Nat) (h : off + us.length ≤ B.length) :
  (A ++ (B ++ C)).take (A.length + off) ++ us ++ (A ++ (B ++ C)).drop (A.length + off + us.length) = A ++ (B.take off ++ us ++ B.drop (off + us.length)) ++ C := by
 rw [Nat.add_assoc, List.take_length_add_append, List.drop_length_add_append, List.take_append_of_le_length OM, List.drop_append_of_le_length OM]
 simp
theorem splice_take (cur us : List Value) (a M : Nat) (h : a + us.length ≤ M) (hM : M ≤ cur.length) :
  (cur.take a ++ us ++ cur.drop (a + us.length)).take M = (cur.take M).take a ++ us ++ (cur.take M).drop (a + us.length) := by
 have h1 : (cur.take a).length = a := by rw [List.length_take]; omega
 rw [List.take_take, Nat.min_eq_left OM, List.drop_take, List.take_append, List.take_append, h1, List.take_of_length_le (l := cur.take a) OM, List.take_of_length_le (l := us) OM, List.length_append, h1]
theorem Zp {α : Type} {kd : Kd α} {e T : TypeId} {O : Ob} (A : Option Addr) (m c : Nat) (xs : List α) (ho : Ow kd e w O (.slice A m c) xs) (i : Int) (hi : 0 ≤ i ∧ i < (xs.length : Int)) (ad : Addr) (hA : A = some ad) (off : Nat)
  (hx : evt n t x = .pointer (some ((ad.add (i.toNat * kd.sz)).add off))) (us : List Value) (hy : (evt n t y).cells = us.toArray) (hs : SizeOf P T us.length) (hl' : Nat.ble (off + us.length) kd.sz = true)
  (x' : α) (cs cs' : List Value) (hcell : ∀ j u, cs[j]? = some u → w.cell? ((ad.add (i.toNat * kd.sz)).add j) = some u) (hlen : cs.length = kd.sz) (hcs : cs.take off ++ us ++ cs.drop (off + us.length) = cs') (hR : kd.R w (Fr O) x' cs')
  (k : ∀ w', Gr w w' (blk (.slice A m c)) → Ow kd e w' O (.slice A m c) (xs.set i.toNat x') → L P n ops N R X rest t w') :
  L P n ops N R X (⟨none, .store T x y, ty, pos, aft, none⟩ :: rest) t w := by
 have hl : off + us.length ≤ kd.sz := Nat.le_of_ble_eq_true hl'
 obtain ⟨cells, h1, h2, h3⟩ := ho
 have hin : i.toNat < xs.length := by omega
 rcases h1.2 with ⟨_, e'⟩ | ⟨g, cap, cur, ev, _, hg, hle, hmx, hcur, htake⟩
 ·omega
 ·cases ev
  cases hA
  have hlc := h2.len
  have hmul : i.toNat * kd.sz + kd.sz ≤ xs.length * kd.sz := by rw [← Nat.succ_mul]; exact Nat.mul_le_mul_right _ hin
  have hcap : xs.length * kd.sz ≤ cur.size := by rw [hcur]; exact Nat.mul_le_mul_right _ hle
  have hcells : cells.length = xs.length * kd.sz := h2.len
  have hone : ∀ u ∈ us, u.oneCell' = true := fun u hu => kd.one hR u (by subst hcs; simp [hu])
  have hr := run_storeCells_at P g (i.toNat * kd.sz + off) e us 0 cur w hg OM hone
  simp only [Nat.add_zero] at hr
  have had : ((⟨g, 0, none⟩ : Addr).add (i.toNat * kd.sz)).add off = ⟨g, i.toNat * kd.sz + off, none⟩ := by
   rw [add_add]; unfold Addr.add; split <;> simp_all
  have hcs0 : cs = (cells.drop (i.toNat * kd.sz)).take kd.sz := by
   apply List.ext_getElem?
   intro j
   by_cases hj : j < kd.sz
   ·obtain ⟨u, hu⟩ : ∃ u, cs[j]? = some u := ⟨cs[j]'OM, by simp [hlen, hj]⟩
    have hc := hcell j u hu
    rw [add_add, show (⟨g, 0, none⟩ : Addr).add (i.toNat * kd.sz + j) = ⟨g, i.toNat * kd.sz + j, none⟩ by unfold Addr.add; split <;> simp_all] at hc
    rw [cell_of_row w g _ cur e (0, 0) hg] at hc
    rw [hu, List.getElem?_take, if_pos hj, List.getElem?_drop, ← htake, List.getElem?_take, if_pos OM]
    simpa using hc.symm
   ·rw [List.getElem?_eq_none OM, List.getElem?_eq_none (by rw [List.length_take]; omega)]
  rw [had] at hx
  refine Y9 rfl _ (show _ = Result.ok _ (w.setRow g (cur.toList.take (i.toNat * kd.sz + off) ++ us ++ cur.toList.drop (i.toNat * kd.sz + off + us.length)).toArray) from ?_) (k _ (Gr.setRow _ _ _) ?_)
  ·simp only [execOp, hx, Instr.storeAt, Instr.sureAddr, Sem.run_bind, Sem.run_pure, Result.andThen_ok, storeVar, hs w, hy, List.size_toArray, ne_eq, not_true, if_false, hr]
  have hset := h2.set i.toNat x' cs' hin hR
  have e0 : cells = cells.take (i.toNat * kd.sz) ++ (cs ++ cells.drop (i.toNat * kd.sz + kd.sz)) := by
   rw [hcs0, ← List.drop_drop, List.take_append_drop, List.take_append_drop]
  have hla : (cells.take (i.toNat * kd.sz)).length = i.toNat * kd.sz := by rw [List.length_take]; omega
  have e2 : cells.take (i.toNat * kd.sz) ++ cs' ++ cells.drop (i.toNat * kd.sz + kd.sz) = cells.take (i.toNat * kd.sz + off) ++ us ++ cells.drop (i.toNat * kd.sz + off + us.length) := by
   have := splice (cells.take (i.toNat * kd.sz)) cs (cells.drop (i.toNat * kd.sz + kd.sz)) us off OM
   rw [← e0, hla, hcs] at this
   exact this.symm
  rw [e2] at hset
  refine ⟨_, ⟨by rw [hset.len, List.length_set], .inr ⟨g, c, _, by rw [List.length_set], Nat.zero_le _, setRow_heap w g cur _ e _ hg, by rw [List.length_set]; exact hle, hmx, ?_, ?_⟩⟩,
   hset.keep fun b hS hb => (Gr.setRow w g _).block b hb (fun e => hS (e ▸ h3 g rfl)), h3⟩
  ·simp only [List.size_toArray, List.length_append, List.length_take, List.length_drop, Array.length_toList]
   omega
  ·rw [List.length_set, List.toList_toArray, ← htake]
   exact splice_take cur.toList us (i.toNat * kd.sz + off) (xs.length * kd.sz) OM (by rw [Array.length_toList]; exact hcap)

structure EI (P : Program) (T e : TypeId) (sz bytes : Nat) (zc : List Value) : Prop where
 un : P.underlying T = some (.slice e)
 inf : ∃ i z, P.info? e = some i ∧ i.zero = some z ∧ i.size = sz ∧ i.bytes = bytes ∧ z.cells.toList = zc
 len : zc.length = sz
 pos : 0 < sz
 byt : bytes ≤ 524288
theorem Zq {α : Type} {kd : Kd α} {e T : TypeId} {O : Ob} (A : Option Addr) (m c : Nat) (xs : List α) (ho : Ow kd e w O (.slice A m c) xs) (i : Int) (hi : 0 ≤ i ∧ i < (xs.length : Int)) (ad : Addr) (hA : A = some ad) (off : Nat)
  (hx : evt n t x = .pointer (some ((ad.add (i.toNat * kd.sz)).add off))) (us : List Value) (hy : (evt n t y).cells = us.toArray) (hs : SizeOf P T us.length) (hl' : Nat.ble (off + us.length) kd.sz = true)
  (x' : α) (cs cs' : List Value) (hcell : ∀ j u, cs[j]? = some u → w.cell? ((ad.add (i.toNat * kd.sz)).add j) = some u) (hlen : cs.length = kd.sz) (hcs : cs.take off ++ us ++ cs.drop (off + us.length) = cs') (hR : kd.R w (Fr O) x' cs')
  (k : ∀ w', Gr w w' (blk (.slice A m c)) → Ow kd e w' O (.slice A m c) (xs.set i.toNat x') → L P n ops N R X rest t w') :
  L P n ops N R X (⟨none, .store T x y, ty, pos, aft, none⟩ :: rest) t w :=
 Zp A m c xs ho i hi ad hA off hx us hy hs hl' x' cs cs' hcell hlen hcs hR k
theorem Y5 {α : Type} {kd : Kd α} {e T : TypeId} {O : Ob} (A : Option Addr) (m c : Nat) (xs : List α) (ho : Ow kd e w O (.slice A m c) xs) (i : Int) (hi : 0 ≤ i ∧ i < (xs.length : Int)) (ad : Addr) (hA : A = some ad) (off : Nat)
  (hx : evt n t x = .pointer (some (ad.add (i.toNat * kd.sz)))) (us : List Value) (hy : (evt n t y).cells = us.toArray) (hs : SizeOf P T us.length) (hl' : Nat.ble (0 + us.length) kd.sz = true)
  (x' : α) (cs cs' : List Value) (hcell : ∀ j u, cs[j]? = some u → w.cell? ((ad.add (i.toNat * kd.sz)).add j) = some u) (hlen : cs.length = kd.sz) (hcs : cs.take 0 ++ us ++ cs.drop (0 + us.length) = cs') (hR : kd.R w (Fr O) x' cs')
  (k : ∀ w', Gr w w' (blk (.slice A m c)) → Ow kd e w' O (.slice A m c) (xs.set i.toNat x') → L P n ops N R X rest t w') :
  L P n ops N R X (⟨none, .store T x y, ty, pos, aft, none⟩ :: rest) t w :=
 Zq A m c xs ho i hi ad hA 0 hx us hy hs hl' x' cs cs' hcell hlen hcs hR k
theorem EI_mk {P : Program} {T e : TypeId} {sz bytes : Nat} {z : Value} {zc : List Value} (hu : P.underlying T = some (.slice e)) (h : (P.info? e).map (fun i => (i.zero, i.size, i.bytes)) = some (some z, sz, bytes)) (hz : z.cells.toList = zc) (hl : zc.length = sz) (hp : 0 < sz) (hb : bytes ≤ 524288) : EI P T e sz bytes zc := by
 cases hi : P.info? e with
 | none => simp [hi] at h
 | some i =>
  simp [hi] at h
  exact ⟨hu, ⟨i, z, hi, h.1, h.2.1, h.2.2, hz⟩, hl, hp, hb⟩
theorem EI.size {P : Program} {T e : TypeId} {sz bytes : Nat} {zc : List Value} (E : EI P T e sz bytes zc) : SizeOf P e sz := by
 obtain ⟨i, z, hi, _, hs, _⟩ := E.inf
 exact SizeOf_mk (by simp [hi, hs])
def Sx {α : Type} (k : Kd α) (w : World) (S : Sp) (v : Value) (xs : List α) : Prop :=
 ∃ A c cells, v = .slice A xs.length c ∧ (xs.length ≤ c ∧ c ≤ 9223372036854775807) ∧ Arr k w S xs cells ∧ ∀ j u, cells[j]? = some u → ∃ ad, A = some ad ∧ w.cell? (ad.add j) = some u
theorem Sl.sx {α : Type} {k : Kd α} {w : World} {S : Sp} {v : Value} {xs : List α} (h : Sl k w S v xs) : Sx k w S v xs := by
 obtain ⟨A, c, cells, e, h1, h2, h3⟩ := h
 exact ⟨A, c, cells, e, h1, h2, fun j u hu => let ⟨ad, ea, _, hc⟩ := h3 j u hu; ⟨ad, ea, hc⟩⟩
theorem Ow.sx {α : Type} {k : Kd α} {e : TypeId} {w : World} {O : Ob} {v : Value} {xs : List α} (h : Ow k e w O v xs) : Sx k w (Fr O) v xs := by
 obtain ⟨cells, h1, h2, h3⟩ := h
 obtain ⟨A, c, rfl⟩ := ownsRow.shape h1
 have hc : xs.length ≤ c ∧ c ≤ 9223372036854775807 := by
  rcases h1.2 with ⟨e, e'⟩ | ⟨g, cap, cur, e, _, _, h, hm, _⟩
  ·simp only [Value.slice.injEq] at e; omega
  ·cases e; exact ⟨h, hm⟩
 refine ⟨A, c, cells, rfl, hc, h2, fun j u hu => ?_⟩
 rcases h1.2 with ⟨e, e'⟩ | ⟨g, cap, cur, e, _, hg, h, _⟩
 ·have := h1.1
  have hl : cells = [] := List.length_eq_zero_iff.1 (by rw [this, e']; simp)
  subst hl; simp at hu
 ·cases e
  exact ⟨_, rfl, World.ownsRow.cells h1 (g := g) rfl j u hu⟩
theorem Arr.rep {α : Type} {k : Kd α} {S : Sp} (z : α) (zc : List Value) (h : k.R w S z zc) : ∀ m, Arr k w S (List.replicate m z) (List.replicate m zc).flatten
 | 0 => rfl
 | m + 1 => ⟨zc, _, rfl, h, Arr.rep z zc h m⟩
theorem made_list (zc : List Value) (hpos : 0 < zc.length) : ∀ m, (madeCells zc.toArray (m * zc.length)).toList = (List.replicate m zc).flatten := by
 intro m
 apply List.ext_getElem?
 intro j
 have hm : ∀ m j, (List.replicate m zc).flatten[j]? = if j < m * zc.length then zc[j % zc.length]? else none := by
  intro m
  induction m with
  | zero => intro j; simp
  | succ m ih =>
   intro j
   rw [List.replicate_succ, List.flatten_cons]
   by_cases hj : j < zc.length
   ·rw [List.getElem?_append_left hj, Nat.mod_eq_of_lt hj, if_pos (by rw [Nat.add_mul]; omega)]
   ·rw [List.getElem?_append_right OM, ih (j - zc.length), Nat.add_mul, Nat.one_mul]
    have hmod : (j - zc.length) % zc.length = j % zc.length := by
     conv => rhs; rw [← Nat.sub_add_cancel (Nat.le_of_not_lt hj), Nat.add_mod_right]
    rw [hmod]
    by_cases h2 : j - zc.length < m * zc.length
    ·rw [if_pos h2, if_pos OM]
    ·rw [if_neg h2, if_neg OM]
 rw [hm m j, madeCells, Array.toList_map, Array.toList_range, List.getElem?_map]
 by_cases hj : j < m * zc.length
 ·rw [List.getElem?_range hj, if_pos hj]
  have : j % zc.length < zc.length := Nat.mod_lt _ hpos
  simp [this]
 ·rw [List.getElem?_eq_none (by simp; omega), if_neg hj]; rfl
theorem Y6 {T e : TypeId} {bytes : Nat} {zc : List Value} {α : Type} {kd : Kd α} (E : EI P T e kd.sz bytes zc) {O M : Ob} {w0 : World} {mr : Ob} (hC : Ct mr w0 w M O) (z : α) (hz : kd.R w (Fr (M ++ O)) z zc) (m : Int) (hx : evt n t x = vi m) (hy : evt n t y = vi m) (hm : 0 ≤ m ∧ m ≤ 268435456)
  (k : ∀ w' A l c, Gr w w' none → (∀ b, bk A = some b → w.heap.size ≤ b) → Ct mr w0 w' (bk A :: M) O →
   Ow kd e w' (bk A :: M ++ O) (.slice A l c) (List.replicate m.toNat z) → L P n ops N R X rest (upd d (.slice A l c) t) w') :
  L P n ops N R X (⟨some d, .makeSlice T x y, ty, pos, aft, none⟩ :: rest) t w := by
 obtain ⟨ti, zv, hti, hzv, hsz, hb, hzc⟩ := E.inf
 have hbb := E.byt
 have hmul : (ti.bytes : Int) * m ≤ 281474976710656 := by
  have h1 : (ti.bytes : Int) ≤ 524288 := by rw [hb]; exact Int.ofNat_le.2 hbb
  have h2 : (ti.bytes : Int) * m ≤ 524288 * 268435456 := Int.mul_le_mul h1 hm.2 hm.1 OM
  omega
 have hr := run_make (P := P) w T e ti zv E.un hti hzv .i64 .i64 m m hm.1 (Int.le_refl _) hmul OM
 have hzl : zv.cells = zc.toArray := by rw [← hzc]
 have hcl : madeCells zv.cells (m.toNat * ti.size) = ((List.replicate m.toNat zc).flatten).toArray := by
  apply Array.ext'
  rw [hzl, hsz, ← E.len, made_list zc (by rw [E.len]; exact E.pos)]
 rw [hcl] at hr
 have harr := Arr.rep (w := w) z zc hz m.toNat
 have hal := harr.len
 rw [List.length_replicate] at hal
 refine Y0 rfl (.slice (some ⟨w.heap.size, 0, none⟩) (List.replicate m.toNat z).length m.toNat) _ (by rw [List.length_replicate]; simp only [execOp, hx, hy, Sem.run_bind, hr, Result.andThen_ok, Sem.run_pure]; rfl) (k _ (some ⟨w.heap.size, 0, none⟩) _ _ (Gr.alloc _ _) (fun b e => by cases e; exact Nat.le_refl _)
  (hC.own (Gr.alloc _ _) _ fun b e => by cases e; simp) ⟨(List.replicate m.toNat zc).flatten, ?_, ?_, fun b e => by rw [← e]; exact List.mem_cons_self⟩)
 ·rw [List.length_replicate]
  have := World.ownsRow_lit (e := e) (base := 0) (size := kd.sz) w ((List.replicate m.toNat zc).flatten).toArray m.toNat (Nat.zero_le _) (by unfold maxLen; omega) (by simpa using hal)
  simpa using this
 ·exact (harr.mono fun b hS hb => (⟨hS, hb⟩ : some b ∉ M ++ O ∧ b < w.heap.size)).keep (fun b hS hb => (Gr.alloc w _).block b hb (by simp)) |>.mono fun b hS _ hm => by
   rcases List.mem_cons.1 hm with e' | hm
   ·cases e'; exact absurd hS.2 (Nat.lt_irrefl _)
   ·exact hS.1 hm
theorem Y7 {T e : TypeId} {bytes : Nat} {zc : List Value} {α : Type} {kd : Kd α} (E : EI P T e kd.sz bytes zc) {O M : Ob} {w0 : World} {mr : Ob} (hC : Ct mr w0 w M O) (xs : List α) {cells : List Value} (ha : Arr kd w (Fr (M ++ O)) xs cells) {m : Nat} {parts : Array (Nat × Operand)}
  (hr : ∀ w : World, (Instr.buildSlice T m (parts.toList.map fun p => (p.1, evt n t p.2)).toArray).run P w = .ok (.slice (some ⟨w.heap.size, 0, none⟩) xs.length xs.length) (w.alloc (.cells cells.toArray e)))
  (k : ∀ w' A l c, Gr w w' none → (∀ b, bk A = some b → w.heap.size ≤ b) → Ct mr w0 w' (bk A :: M) O →
   Ow kd e w' (bk A :: M ++ O) (.slice A l c) xs → L P n ops N R X rest (upd d (.slice A l c) t) w') (hx : Nat.ble xs.length 268435456 = true := by rfl) :
  L P n ops N R X (⟨some d, .buildSlice T m parts, ty, pos, aft, none⟩ :: rest) t w := by
 have hlen := ha.len
 have hxl : xs.length ≤ 268435456 := Nat.le_of_ble_eq_true hx
 refine Y0 rfl (.slice (some ⟨w.heap.size, 0, none⟩) xs.length xs.length) _ (by have hr := hr w; rw [← map_toL] at hr; simp only [execOp]; rw [Sem.run_bind]; exact (congrArg (fun r => Result.andThen r _) hr)) (k _ (some ⟨w.heap.size, 0, none⟩) _ _ (Gr.alloc _ _) (fun b e => by cases e; exact Nat.le_refl _)
  (hC.own (Gr.alloc _ _) _ fun b e => by cases e; simp) ⟨cells, ?_, ?_, fun b e => by rw [← e]; exact List.mem_cons_self⟩)
 ·have := World.ownsRow_lit (e := e) (base := 0) (size := kd.sz) w cells.toArray xs.length (Nat.zero_le _) (by unfold maxLen; omega) (by simpa using hlen)
  simpa using this
 ·exact (ha.mono fun b hS hb => (⟨hS, hb⟩ : some b ∉ M ++ O ∧ b < w.heap.size)).keep (fun b hS hb => (Gr.alloc w _).block b hb (by simp)) |>.mono fun b hS _ hm => by
   rcases List.mem_cons.1 hm with e' | hm
   ·cases e'; exact absurd hS.2 (Nat.lt_irrefl _)
   ·exact hS.1 hm
def Ret (P : Program) (f : FuncId) (args : List Value) (w : World) (Q : Value → World → Prop) : Prop := Calls P f args.toArray w fun e w' => ∃ v, e = .returned v ∧ Q v w'
def Goes (P : Program) (f : FuncId) : Prop := ∃ fn, P.funcs[f]? = some fn ∧ (fn.name == "runtime.NumGoroutine") = false ∧ fn.body.isNone = false
theorem Goes.run {f : FuncId} (h : Goes P f) (args : Array Value) (w : World) : (callFunc f args).run P w = .ok (.enter f args) w := by
 obtain ⟨fn, h1, h2, h3⟩ := h
 simp only [callFunc, Sem.run_bind, run_program, Result.andThen_ok, h1, h2, h3, Bool.false_eq_true, if_false]
 rfl
theorem Ret.mono {f : FuncId} {args : List Value} {Q Q' : Value → World → Prop} (h : Ret P f args w Q) (hq : ∀ v w', Q v w' → Q' v w') : Ret P f args w Q' :=
 Calls.mono h fun e w' ⟨v, he, hv⟩ => ⟨v, he, hq v w' hv⟩
theorem Zb {f : FuncId} (hg : Goes P f) {ax : Array Operand} {ts : Array TypeId} (args : List Value) (ha0 : ax.toList.map (evt n t) = args) (h : Ret P f args w fun v w' => L P n ops N R X rest (upd d v t) w') :
  L P n ops N R X (⟨some d, .call ⟨.value (.func f), ax, ts⟩, ty, pos, aft, none⟩ :: rest) t w := by
 unfold L at h ⊢
 exact wpList_plain rfl fun K hK => by
  unfold Oper.wp
  have ha : ax.map (evt n t) = args.toArray := by rw [← ha0]; exact map_toL _ _
  have : (execOp (acts n t).eval ⟨some d, .call ⟨.value (.func f), ax, ts⟩, ty, pos, aft, none⟩).run P w = .ok (.enter f args.toArray) w := by
   rw [acts_evalf]
   simp [execOp, resolve, evt, Deferred.ofValue, invoke, ha, hg.run]
  rw [this, Oper.upon_enter]
  refine Calls.mono h fun e w' ⟨v, he, hv⟩ => ?_
  subst he
  have := hK _ _ hv
  rwa [show acts n (upd d v t) = (acts n t).put (some d) v from (acts_put n t (some d) v).symm] at this
theorem Yf {f : FuncId} (hg : Goes P f) {ax : Array Operand} {ts : Array TypeId} (args : List Value) (ha0 : ax.toList.map (evt n t) = args) (v : Value) (h : ∀ w', C w' → Ret P f args w' fun u w'' => u = v ∧ C w'') (k : Lq P n ops C N rest (upd d v t)) :
  Lq P n ops C N (⟨some d, .call ⟨.value (.func f), ax, ts⟩, ty, pos, aft, none⟩ :: rest) t := by
 have ha : ax.map (evt n t) = args.toArray := by rw [← ha0]; exact map_toL _ _
 unfold Lq at k ⊢
 unfold wpQuiet
 rw [if_pos (by simp [Region.wanted])]
 refine ⟨v, fun w hw => ?_, by rw [acts_put]; exact k⟩
 unfold Oper.quietAt
 have : (execOp (acts n t).eval ⟨some d, .call ⟨.value (.func f), ax, ts⟩, ty, pos, aft, none⟩).run P w = .ok (.enter f args.toArray) w := by
  rw [acts_evalf]
  simp [execOp, resolve, evt, Deferred.ofValue, invoke, ha, hg.run]
 rw [this]
 refine ⟨rfl, Calls.mono (h w hw) fun e w' ⟨u, he, hu, hc⟩ => ⟨by rw [he, hu], hc⟩⟩
theorem Zc {fv : Operand} {f : FuncId} (hg : Goes P f) (cap : List Value) (hf : evt n t fv = .func (.func f) #[] cap.toArray) {ax : Array Operand} {ts : Array TypeId} (args : List Value) (ha0 : ax.toList.map (evt n t) = args)
  (h : Ret P f (args ++ cap) w fun v w' => L P n ops N R X rest (upd d v t) w') :
  L P n ops N R X (⟨some d, .call ⟨.value fv, ax, ts⟩, ty, pos, aft, none⟩ :: rest) t w := by
 unfold L at h ⊢
 exact wpList_plain rfl fun K hK => by
  unfold Oper.wp
  have ha : ax.map (evt n t) = args.toArray := by rw [← ha0]; exact map_toL _ _
  have : (execOp (acts n t).eval ⟨some d, .call ⟨.value fv, ax, ts⟩, ty, pos, aft, none⟩).run P w = .ok (.enter f (args ++ cap).toArray) w := by
   rw [acts_evalf]
   simp [execOp, resolve, hf, Deferred.ofValue, invoke, ha, hg.run]
  rw [this, Oper.upon_enter]
  refine Calls.mono h fun e w' ⟨v, he, hv⟩ => ?_
  subst he
  have := hK _ _ hv
  rwa [show acts n (upd d v t) = (acts n t).put (some d) v from (acts_put n t (some d) v).symm] at this

def Res (P : Program) (n : Nat) (t : Tm) (w : World) : List ResultVar → List Value → Prop
 | [], vs => vs = []
 | .tmp i :: rs, vs => ∃ us, vs = evt n t (.tmp i) :: us ∧ Res P n t w rs us
 | .cell i T :: rs, vs => ∃ v us, vs = v :: us ∧ (loadVar T =<< asAddr (evt n t (.tmp i))).run P w = .ok v w ∧ Res P n t w rs us
def packv : List Value → Value
 | [v] => v
 | vs => .tuple vs.toArray
theorem evt_getD (n : Nat) (t : Tm) (i : Nat) : (acts n t).tmps.getD i undef = evt n t (.tmp i) := acts_eval n t (.tmp i)
def rv (tm : Array Value) : ResultVar → Sem Value
 | .tmp i => pure (tm.getD i undef)
 | .cell a T => do loadVar T (← asAddr (tm.getD a undef))
theorem results_eq (fn : Func) (tm : Array Value) : results fn tm = (do let vs ← fn.results.mapM (rv tm); pure (if h : vs.size = 1 then vs[0] else .tuple vs)) := by
 unfold results
 congr 2
theorem rv_run : ∀ (rs : List ResultVar) (vs : List Value), Res P n t w rs vs → (rs.mapM (rv (acts n t).tmps)).run P w = .ok vs w
 | [], vs, h => by simp only [Res] at h; subst h; rfl
 | .tmp i :: rs, vs, ⟨us, e, h⟩ => by
  subst e
  simp only [List.mapM_cons, rv, Sem.run_bind, Sem.run_pure, Result.andThen_ok, evt_getD, rv_run rs us h]
 | .cell i T :: rs, vs, ⟨v, us, e, hv, h⟩ => by
  subst e
  have hv' : (do let x ← asAddr (evt n t (.tmp i)); loadVar T x : Sem Value).run P w = .ok v w := hv
  have h2 := rv_run rs us h
  rw [List.mapM_cons, Sem.run_bind]
  simp only [rv, evt_getD]
  rw [hv']
  simp only [Result.andThen_ok, Sem.run_bind, h2, Sem.run_pure]
theorem results_run (fn : Func) (rs : List ResultVar) (hrs : fn.results = rs.toArray) (vs : List Value) (h : Res P n t w rs vs) : (results fn (acts n t).tmps).run P w = .ok (packv vs) w := by
 rw [results_eq, hrs, List.mapM_toArray, Sem.run_bind, Sem.run_map, rv_run rs vs h]
 simp only [Result.andThen_ok, Sem.run_pure, packv]
 congr 1
 match vs with
 | [] => rfl
 | [v] => rfl
 | a :: b :: r => rfl
theorem Bx.res {b : Nat} {cs : List Value} (hB : Bx w b cs) {i T s : Nat} (hi : evt n t (.tmp i) = .pointer (some ⟨b, 0, none⟩)) (hT : IsAgg P T true) (hs : SizeOf P T s) (hl : cs.length = s := by rfl) :
  (loadVar T =<< asAddr (evt n t (.tmp i))).run P w = .ok (.agg cs.toArray) w := by
 subst hl
 rw [hi]
 have := loadCells_run (P := P) w ⟨b, 0, none⟩ cs (hB.cells (off := 0) (by simp))
 show ((asAddr (.pointer (some ⟨b, 0, none⟩))) >>= loadVar T).run P w = _
 simp [asAddr, loadVar, hT w, hs w, this]
theorem X3 {f : FuncId} {fn : Func} {c : Code} {args : List Value} {Q : Value → World → Prop} (hf : P.funcs[f]? = some fn) (hb : fn.body = some c) (m : Nat) (hm : fn.ntmps = m) (rs : List ResultVar) (hrs : fn.results = rs.toArray) (hl : Nat.ble args.length m = true)
  (h : W P m c (fun t w' => ∃ vs, Res P m t w' rs vs ∧ Q (packv vs) w') (fun t w' => ∃ vs, Res P m t w' rs vs ∧ Q (packv vs) w') (fun _ _ _ => False) (argt args) w) : Ret P f args w Q := by
 refine calls_of_wp hf hb ?_
 rw [hm, acts_enter args m (Nat.le_of_ble_eq_true hl)]
 unfold W at h
 refine wp_mono h fun e a w' hq => ?_
 cases e <;> simp only [post] at hq
 ·obtain ⟨t, rfl, vs, hr, hQ⟩ := hq
  exact ⟨rfl, packv vs, results_run fn rs hrs vs hr, _, rfl, hQ⟩
 ·exact hq.choose_spec.2.elim
 ·obtain ⟨t, rfl, vs, hr, hQ⟩ := hq
  exact ⟨rfl, packv vs, results_run fn rs hrs vs hr, _, rfl, hQ⟩
end
end
section
abbrev nth {α : Type} [Inhabited α] (xs : List α) (i : Int) : α := xs.getD i.toNat default
theorem Xo {b : Bool} {p q : Prop} (h : if b then p else q) (hb : b = true) : p := by rw [if_pos hb] at h; exact h
theorem Xp {b : Bool} {p q : Prop} (h : if b then p else q) (hb : b = false) : q := by rw [if_neg (by rw [hb]; exact Bool.false_ne_true)] at h; exact h
theorem Xz (b : Bool) : b = true ∨ b = false := by cases b <;> simp
theorem len_le {m : Nat} (h : m ≤ 9223372036854775807) : (m : Int) ≤ 9223372036854775807 := by omega
theorem i64_succ {b : Int} {m : Nat} (h : b < (m : Int)) (hm : m ≤ 9223372036854775807) (hl : -9223372036854775808 ≤ b) : I64 (b + 1) := by unfold I64; omega
theorem lim_cat {a b : Str} (h : a.length + b.length ≤ 9223372036854775807) : Lim (a ++ b) := by unfold Lim; rw [List.length_append]; exact h
theorem xin_hit {i : Nat} {N : Ps} {X : Nat → Ps} {t : Tm} {w : World} (h : N t w) : xin i N X i t w := by unfold xin; rw [Nat.beq_refl]; exact h
section
variable {P : Program} {n : Nat} {N R : Ps} {X : Nat → Ps} {t : Tm} {w : World}
theorem Yi {c : Operand} {x y : Code} {b : Bool} (hc : evt n t c = .bool b) (hb : b = true) (h : W P n x N R X t w) : W P n (.cond c x y) N R X t w := Xu b hc (fun _ => h) (fun e => by rw [hb] at e; cases e)
theorem Yo {c : Operand} {x y : Code} {b : Bool} (hc : evt n t c = .bool b) (hb : b = false) (h : W P n y N R X t w) : W P n (.cond c x y) N R X t w := Xu b hc (fun e => by rw [hb] at e; cases e) (fun _ => h)
end
def Has (t : Tm) : List (Nat × Value) → Prop
 | [] => True
 | (d, v) :: l => t d = v ∧ Has t l
theorem X2 {t : Tm} : ∀ {l : List (Nat × Value)}, (l.map fun p => t p.1) = l.map (·.2) → Has t l
 | [], _ => trivial
 | (d, v) :: l, h => by simp only [List.map_cons, List.cons.injEq] at h; exact ⟨h.1, X2 h.2⟩
def insl : List (Nat × Value) → Tm → Tm
 | [], u => u
 | (d, v) :: l, u => upd d v (insl l u)
theorem Has.ins {t : Tm} : ∀ {l : List (Nat × Value)}, Has t l → ∃ u, t = insl l u
 | l, h => ⟨t, by
  induction l with
  | nil => rfl
  | cons p l ih =>
   obtain ⟨h1, h2⟩ := h
   funext i
   simp only [insl, upd, ← ih h2]
   by_cases e : i = p.1
   ·subst e; rw [Nat.beq_refl]; exact h1
   ·rw [beq_ne e]; rfl⟩
theorem Kd.int.op {kd : IntKind} {w : World} {S : Sp} {x : Int} {cs : List Value} (h : (Kd.int kd).R w S x cs) : cs = [.int kd x] := h
theorem Kd.byte.op {w : World} {S : Sp} {x : UInt8} {cs : List Value} (h : Kd.byte.R w S x cs) : cs = [v8 x] := h
theorem Kd.bool.op {w : World} {S : Sp} {x : Bool} {cs : List Value} (h : Kd.bool.R w S x cs) : cs = [vb x] := h
theorem Kd.str.op {w : World} {S : Sp} {x : Str} {cs : List Value} (h : Kd.str.R w S x cs) : cs = [vs x] ∧ Lim x := h
theorem Kd.sl.op {α : Type} {k : Kd α} {w : World} {S : Sp} {x : List α} {cs : List Value} (h : (Kd.sl k).R w S x cs) : ∃ A l c, cs = [.slice A l c] ∧ Sl k w S (.slice A l c) x := by
 obtain ⟨v, rfl, h⟩ := h
 obtain ⟨A, c, rfl⟩ := h.shape
 exact ⟨A, _, c, rfl, h⟩
theorem sub_cells {w : World} {a : Addr} {cs ds : List Value} {off : Nat} (h : ∀ j u, cs[j]? = some u → w.cell? (a.add j) = some u) (hd : (cs.drop off).take ds.length = ds) : ∀ j u, ds[j]? = some u → w.cell? ((a.add off).add j) = some u := fun j u hu => by
 rw [add_add]
 refine h _ _ ?_
 rw [← hd, List.getElem?_take] at hu
 split at hu
 ·rwa [List.getElem?_drop] at hu
 ·cases hu
section
variable {α : Type} {k : Kd α} {e : TypeId} {w0 w w' : World} {v : Value} {xs : List α} {O L rs m : Ob} {r r' : Option Nat} {b : Nat} {cs : List Value} {i j : Nat}
theorem Ym {b : Nat} (h : w.heap.size ≤ b) : ∀ k, some b = some k → w.heap.size ≤ k := fun k e => by cases e; exact h
theorem Yp {b : Nat} (h : w.heap.size ≤ b) (h' : b < w'.heap.size) : ∀ k, some b = some k → w.heap.size ≤ k ∧ k < w'.heap.size := fun k e => by cases e; exact ⟨h, h'⟩
theorem St.owns (O : Ob) (g : Gr w w' none) (hr : ∀ b, some b ∈ rs → w.heap.size ≤ b) : St w O w' (rs ++ O) :=
 ⟨g.os, g.tape, g.output, g.size, fun k hk _ => g.block k hk (by simp), fun k hk h hm => by
  rcases List.mem_append.1 hm with hm | hm
  ·have := hr k hm; omega
  ·exact h hm⟩
theorem St.ownr (O : Ob) (g : Gr w w' r) (hr' : ∀ b, r = some b → some b ∈ O) (hr : ∀ b, some b ∈ rs → w.heap.size ≤ b) : St w O w' (rs ++ O) :=
 ⟨g.os, g.tape, g.output, g.size, fun k hk hn => g.block k hk (fun e => hn (hr' k e.symm)), fun k hk h hm => by
  rcases List.mem_append.1 hm with hm | hm
  ·have := hr k hm; omega
  ·exact h hm⟩
theorem Ct.ownr (c : Ct m w0 w L O) (g : Gr w w' r) (gr : Gm w0 w' m) (hok : Ok w' (rs ++ (L ++ O))) (hge : ∀ b, some b ∈ rs → w.heap.size ≤ b) : Ct m w0 w' (rs ++ L) O :=
 ⟨gr, by rw [List.append_assoc]; exact hok.1, fun b hb => hok.2 b (by rwa [List.append_assoc] at hb), fun b hb => by
  rcases List.mem_append.1 hb with hb | hb
  ·have := hge b hb; have := c.gr.size; omega
  ·exact c.ge b hb, c.mo⟩
theorem Ct.owns (c : Ct m w0 w L O) (g : Gr w w' none) (hok : Ok w' (rs ++ (L ++ O))) (hge : ∀ b, some b ∈ rs → w.heap.size ≤ b) : Ct m w0 w' (rs ++ L) O := c.ownr g (c.gr.tm g) hok hge
theorem Ow.sos (h : Ow k e w O v xs) (g : Gr w w' none) (hge : ∀ b, some b ∈ rs → w.heap.size ≤ b) : Ow k e w' (rs ++ O) v xs :=
 h.st0 (.owns O g hge) g fun b hb => List.mem_append_right _ (h.choose_spec.2.2 b hb)
theorem Bx.mo (h : Bx w b cs) (c : Ct [some b] w0 w L O) (hj : L[j]? = some r) (g : Gr w w' r) : Bx w' b cs :=
 h.keep g fun e => by have := c.ge b (by rw [← e]; exact List.mem_of_getElem? hj); have := (c.mo b List.mem_cons_self).2; omega
end
section
variable {P : Program} {n : Nat} {t : Tm} {w : World} {ty : TypeId} {pos : String} {aft : Array Edge} {d : Nat} {x y z : Operand} {C : World → Prop}
def EqT (P : Program) (T : TypeId) (a b : List Value) (e : Bool) : Prop := (∀ w, (Op.equalIn 10000 T (.agg a.toArray) (.agg b.toArray)).run P w = .ok e w) ∧ P.eqGuardType P.depth T = false
theorem Zd {T U : TypeId} (a b : List Value) (e : Bool) (h : EqT P T a b e) (hx : evt n t x = .agg a.toArray) (hy : evt n t y = .agg b.toArray) : Pu P n t C ⟨some d, .binOp .eql T x y U, ty, pos, aft, none⟩ (vb e) := fun w _ => by
 simp only [execOp, hx, hy, Sem.run_bind]
 rw [run_eqGuard_agg w .eql T x y _ _ h.2]
 simp only [Result.andThen_ok, run_eql_struct, h.1 w, Sem.run_pure]
theorem Yz {T U : TypeId} (a b : List Value) (e : Bool) (h : EqT P T a b e) (hx : evt n t x = .agg a.toArray) (hy : evt n t y = .agg b.toArray) : Pu P n t C ⟨some d, .binOp .neq T x y U, ty, pos, aft, none⟩ (vb (!e)) := fun w _ => by
 simp only [execOp, hx, hy, Sem.run_bind]
 rw [run_eqGuard_agg w .neq T x y _ _ h.2]
 simp only [Result.andThen_ok, run_neq_struct, h.1 w, Sem.run_pure]
theorem part1 {T : TypeId} (h : ∀ w, (isAgg T).run P w = .ok false w) (off : Nat) {cs : Array Value} {v : Value} (hv : cs[off]? = some v) : (part T cs off).run P w = .ok v w := by
 simp [part, h w, hv]
def Cmp1 (P : Program) (T : TypeId) (a b : Value) (e : Bool) : Prop := (∀ w, (isAgg T).run P w = .ok false w) ∧ ∀ w d, (Op.equalIn (d + 1) T a b).run P w = .ok e w
theorem cmp1_int {T : TypeId} {kd : IntKind} (hu : P.underlying T = some (.int kd)) (a b : Int) : Cmp1 P T (.int kd a) (.int kd b) (a == b) := ⟨IsAgg_mk hu, fun w d => run_equalIn_int w d T kd kd a b hu⟩
theorem cmp1_str {T : TypeId} (hu : P.underlying T = some .string) (a b : Str) : Cmp1 P T (vs a) (vs b) (a == b) := ⟨IsAgg_mk hu, fun w d => by rw [run_equalIn_string w d T _ _ hu]; simp⟩
theorem EqT_mk2 {T : TypeId} {f g : Field} (hu : P.underlying T = some (.struct #[f, g])) (hp : P.stoodInHeld T = false) (hg : P.eqGuardType P.depth T = false) (hf : f.offset = 0 ∧ g.offset = 1 ∧ (f.name == "_") = false ∧ (g.name == "_") = false)
  {a0 a1 b0 b1 : Value} {e0 e1 : Bool} (h0 : Cmp1 P f.type a0 b0 e0) (h1 : Cmp1 P g.type a1 b1 e1) : EqT P T [a0, a1] [b0, b1] (e0 && e1) := by
 refine ⟨fun w => ?_, hg⟩
 have hfs : P.fieldsOf T = #[f, g] := by simp [Program.fieldsOf, hu]
 obtain ⟨o0, o1, n0, n1⟩ := hf
 have n0' : f.name ≠ "_" := by simpa using n0
 have n1' : g.name ≠ "_" := by simpa using n1
 rw [run_equalIn_struct w 9999 T _ _ (by rw [hfs]; exact hu) hp, hfs]
 have p0 : ∀ (cs : Array Value) v, cs[0]? = some v → (part f.type cs 0).run P w = .ok v w := fun cs v h => part1 h0.1 0 h
 have p1 : ∀ (cs : Array Value) v, cs[1]? = some v → (part g.type cs 1).run P w = .ok v w := fun cs v h => part1 h1.1 1 h
 simp only [Op.eqFields, n0', n1', ne_eq, not_false_eq_true, if_true, o0, o1, Sem.run_bind, p0 [a0, a1].toArray a0 rfl, p0 [b0, b1].toArray b0 rfl, Result.andThen_ok, h0.2 w 9998]
 cases e0
 ·simp
 ·simp only [Bool.not_true, Bool.false_eq_true, if_false, Sem.run_bind, p1 [a0, a1].toArray a1 rfl, p1 [b0, b1].toArray b1 rfl, h1.2 w 9998, Result.andThen_ok, Bool.true_and]
  cases e1 <;> simp
end
section
variable {α : Type} {k : Kd α} {e : TypeId} {w0 w w' : World} {v : Value} {xs : List α} {O L L' m : Ob}
theorem Dj.perm : ∀ {A B : Ob}, A.Perm B → Dj A → Dj B := fun h => by
 induction h with
 | nil => exact fun d => d
 | cons x h ih => exact fun d => ⟨fun b e hm => d.1 b e (h.mem_iff.2 hm), ih d.2⟩
 | swap x y l =>
  intro d
  refine ⟨fun b e hm => ?_, fun b e hm => d.1 b e (List.mem_cons_of_mem _ hm), d.2.2⟩
  rcases List.mem_cons.1 hm with hm | hm
  ·exact d.1 b hm.symm (by rw [e]; exact List.mem_cons_self)
  ·exact d.2.1 b e hm
 | trans _ _ ih1 ih2 => exact fun d => ih2 (ih1 d)
theorem St.perm (h : L.Perm L') : St w (L ++ O) w (L' ++ O) := ⟨rfl, rfl, rfl, Nat.le_refl _, fun _ _ _ => rfl, fun _ _ hn hm => hn ((h.append_right O).mem_iff.2 hm)⟩
theorem Ct.perm (c : Ct m w0 w L O) (h : L.Perm L') : Ct m w0 w L' O :=
 ⟨c.gr, c.dj.perm (h.append_right O), fun b hb => c.lt b ((h.append_right O).mem_iff.2 hb), fun b hb => c.ge b (h.mem_iff.2 hb), c.mo⟩
theorem Ow.sp (h : Ow k e w (L ++ O) v xs) (p : L.Perm L') : Ow k e w (L' ++ O) v xs := h.st0 (.perm p) (Gr.refl _ _) fun b hb => (p.append_right O).mem_iff.1 (h.choose_spec.2.2 b hb)
end
def Kd.Flat {α : Type} (k : Kd α) : Prop := ∀ w S w' S' x cs, k.R w S x cs → k.R w' S' x cs
theorem Arr.fl {α : Type} {k : Kd α} (hf : k.Flat) {w w' : World} {S S' : Sp} : ∀ {xs : List α} {cs : List Value}, Arr k w S xs cs → Arr k w' S' xs cs
 | [], _, h => h
 | _ :: _, _, ⟨c1, c2, e, h1, h2⟩ => ⟨c1, c2, e, hf _ _ _ _ _ _ h1, Arr.fl hf h2⟩
section
variable {α : Type} {k : Kd α} {e : TypeId} {w0 w w' : World} {v : Value} {xs : List α} {O L rs m : Ob} {r : Option Nat} {i : Nat}
theorem mem_un {x : Option Nat} (h : x ∈ rs ++ (L.eraseIdx i ++ O)) : x ∈ rs ++ (L ++ O) := by
 rcases List.mem_append.1 h with h | h
 ·exact List.mem_append_left _ h
 ·rcases List.mem_append.1 h with h | h
  ·exact List.mem_append_right _ (List.mem_append_left _ (List.mem_of_mem_eraseIdx h))
  ·exact List.mem_append_right _ (List.mem_append_right _ h)
theorem Ow.un (hf : k.Flat) (h : Ow k e w (rs ++ (L.eraseIdx i ++ O)) v xs) : Ow k e w (rs ++ (L ++ O)) v xs := by
 obtain ⟨cells, h1, h2, h3⟩ := h
 exact ⟨cells, h1, h2.fl hf, fun b hb => mem_un (h3 b hb)⟩
theorem Dj.app : ∀ {A B : Ob}, Dj A → Dj B → (∀ b, some b ∈ A → some b ∉ B) → Dj (A ++ B)
 | [], _, _, d, _ => d
 | _ :: _, _, d, d', h => ⟨fun b e hm => by
   rcases List.mem_append.1 hm with hm | hm
   ·exact d.1 b e hm
   ·exact h b (by rw [e]; exact List.mem_cons_self) hm, Dj.app d.2 d' fun b hb => h b (List.mem_cons_of_mem _ hb)⟩
theorem Dj.left : ∀ {A B : Ob}, Dj (A ++ B) → Dj A
 | [], _, _ => trivial
 | _ :: _, _, d => ⟨fun b e hm => d.1 b e (List.mem_append_left _ hm), Dj.left d.2⟩
theorem Ok.un (c : Ct m w0 w L O) (g : Gr w w' r) (hk : Ok w' (rs ++ (L.eraseIdx i ++ O))) (hge : ∀ b, some b ∈ rs → w.heap.size ≤ b) : Ok w' (rs ++ (L ++ O)) :=
 ⟨Dj.app hk.1.left c.dj fun b hb hm => by have := hge b hb; have := c.lt b hm; omega, fun b hb => by
  rcases List.mem_append.1 hb with hb | hb
  ·exact hk.2 b (List.mem_append_left _ hb)
  ·exact Nat.lt_of_lt_of_le (c.lt b hb) g.size⟩
end
end
section
def Tr {α : Type} (P : Program) (t : TypeId) (k : Kd α) (V : α → Prop) : Prop := ∀ (H : Type) (enc : TypeId × Value → H) (w : World) (fuel : Nat) (cs : List Value) (x : DataW H × List MemPlace),
 DataW.trod enc P w 0 (fun _ => true) true fuel t cs = some x → ∃ a, V a ∧ k.R w (Fr []) a cs
section
variable {P : Program} {t e : TypeId}
theorem Tr.int (ht : P.underlying t = some (.int .i64)) : Tr P t (Kd.int .i64) (fun x => I64 x) := fun H enc w fuel cs x h => by
 obtain ⟨n, rfl, _, hw⟩ := DataW.trod_int ht h
 refine ⟨n, ?_, rfl⟩
 simp only [Lit.wf, Bool.and_eq_true, decide_eq_true_eq] at hw
 have h1 : IntKind.i64.min = -9223372036854775808 := by decide
 have h2 : IntKind.i64.max = 9223372036854775807 := by decide
 rw [h1, h2] at hw
 exact hw
theorem Tr.byte (ht : P.underlying t = some (.int .u8)) : Tr P t Kd.byte (fun _ => True) := fun H enc w fuel cs x h => by
 obtain ⟨n, rfl, _, hw⟩ := DataW.trod_int ht h
 simp only [Lit.wf, Bool.and_eq_true, decide_eq_true_eq] at hw
 have h1 : IntKind.u8.min = 0 := by decide
 have h2 : IntKind.u8.max = 255 := by decide
 rw [h1, h2] at hw
 refine ⟨UInt8.ofNat n.toNat, trivial, ?_⟩
 show [Value.int .u8 n] = [v8 _]
 simp only [v8]
 congr 2
 simp only [UInt8.toNat_ofNat']
 omega
theorem Tr.bool (ht : P.underlying t = some .bool) : Tr P t Kd.bool (fun _ => True) := fun H enc w fuel cs x h => by
 obtain ⟨b, rfl, _⟩ := DataW.trod_bool ht h
 exact ⟨b, trivial, rfl⟩
theorem Tr.str (ht : P.underlying t = some .string) : Tr P t Kd.str (fun x => Lim x) := fun H enc w fuel cs x h => by
 obtain ⟨s, rfl, _, hs⟩ := DataW.trod_string ht h
 have hl : Lim s.data.toList := by
  show s.data.toList.length ≤ 9223372036854775807
  have : s.size ≤ 9223372036854775807 := hs
  simpa using this
 exact ⟨s.data.toList, hl, rfl, hl⟩
theorem Tr.iso {α β : Type} {k : Kd α} {V : α → Prop} (h : Tr P t k V) (f : β → α) (g : α → β) (hg : ∀ a, f (g a) = a) : Tr P t (Kd.iso k f) (fun x => V (f x)) := fun H enc w fuel cs x hx => by
 obtain ⟨a, hv, hr⟩ := h H enc w fuel cs x hx
 exact ⟨g a, by show V (f (g a)); rw [hg]; exact hv, by show k.R _ _ (f (g a)) _; rw [hg]; exact hr⟩
def TrF {α : Type} (P : Program) (fs : List Field) (o tot : Nat) (k : Kd α) (V : α → Prop) : Prop := ∀ (H : Type) (enc : TypeId × Value → H) (w : World) (fuel : Nat) (cs : List Value), cs.length = tot →
 (∀ f ∈ fs, ∃ x, DataW.trod enc P w 0 (fun _ => true) true fuel f.type ((cs.drop f.offset).take (P.cellsOf f.type)) = some x) → ∃ a, V a ∧ k.R w (Fr []) a (cs.drop o)
theorem TrF.one {α : Type} {k : Kd α} {V : α → Prop} {f : Field} {o n tot : Nat} (h : Tr P f.type k V) (h1 : f.offset = o) (h2 : P.cellsOf f.type = n) (h3 : o + n = tot) : TrF P [f] o tot k V := fun H enc w fuel cs hl hf => by
 obtain ⟨x, hx⟩ := hf f (by simp)
 rw [h1, h2, List.take_of_length_le (by simp; omega)] at hx
 exact h H enc w fuel _ x hx
theorem TrF.cons {α β : Type} {k : Kd α} {k' : Kd β} {V : α → Prop} {V' : β → Prop} {f : Field} {fs : List Field} {o n tot : Nat} (h : Tr P f.type k V) (h1 : f.offset = o) (h2 : P.cellsOf f.type = n)
  (h3 : TrF P fs (o + n) tot k' V') : TrF P (f :: fs) o tot (Kd.pair k k') (fun x => V x.1 ∧ V' x.2) := fun H enc w fuel cs hl hf => by
 obtain ⟨x, hx⟩ := hf f (by simp)
 rw [h1, h2] at hx
 obtain ⟨a, ha, hr⟩ := h H enc w fuel _ x hx
 obtain ⟨b, hb, hs⟩ := h3 H enc w fuel cs hl (fun f' hf' => hf f' (by simp [hf']))
 refine ⟨(a, b), ⟨ha, hb⟩, _, _, ?_, hr, hs⟩
 rw [← List.drop_drop]
 exact (List.take_append_drop n _).symm
theorem Tr.struct {α : Type} {k : Kd α} {V : α → Prop} {fs : Array Field} {tot : Nat} (ht : P.underlying t = some (.struct fs)) (hn : P.cellsOf t = tot) (h : TrF P fs.toList 0 tot k V) : Tr P t k V := fun H enc w fuel cs x hx => by
 obtain ⟨xs, n, rfl, _, hl, hs, hf⟩ := DataW.trod_struct ht hx
 obtain ⟨a, ha, hr⟩ := h H enc w n cs (hl.trans hn) (fun f hm => by
  obtain ⟨i, hi⟩ := List.getElem?_of_mem hm
  have hi' : fs[i]? = some f := by simpa using hi
  have hlt : i < xs.length := by rw [hs]; exact (Array.getElem?_eq_some_iff.1 hi').1
  exact ⟨xs[i], by rw [hf i f hi']; simp [hlt]⟩)
 exact ⟨a, ha, by simpa using hr⟩
theorem Tr.sl {α : Type} {k : Kd α} {V : α → Prop} (ht : P.underlying t = some (.slice e)) (hc : P.cellsOf e = k.sz) (h : Tr P e k V) : Tr P t (Kd.sl k) (fun xs => ∀ x ∈ xs, V x) := fun H enc w fuel cs x hx => by
 rcases DataW.trod_slice ht hx with ⟨rfl, _⟩ | ⟨a, len, cap, elems, rest, n, _, rfl, _, _, hl, hm, hlen, hel, _⟩
 ·exact ⟨[], by simp, _, rfl, Sl.nil k w _ none 0 OM⟩
 ·have key : ∀ m, m ≤ len → ∃ xs cells, xs.length = m ∧ Arr k w (Fr []) xs cells ∧ (∀ j u, cells[j]? = some u → w.cell? (a.add j) = some u) ∧ ∀ x ∈ xs, V x := by
   intro m
   induction m with
   | zero => intro _; exact ⟨[], [], rfl, rfl, fun j u hj => by simp at hj, by simp⟩
   | succ m ih =>
    intro hm'
    obtain ⟨xs, cells, h1, h2, h3, h4⟩ := ih OM
    have he := hel m OM
    rw [List.getElem?_eq_getElem OM, Option.bind_eq_some_iff] at he
    obtain ⟨ci, hci, hti⟩ := he
    obtain ⟨_, hcl, hcc⟩ := World.cells?_some hci
    obtain ⟨y, hv, hr⟩ := h H enc w n ci _ hti
    refine ⟨xs ++ [y], cells ++ ci, by simp [h1], h2.app (Arr.single hr), fun j u hj => ?_, fun z hz => ?_⟩
    ·by_cases hj' : j < cells.length
     ·rw [List.getElem?_append_left hj'] at hj; exact h3 j u hj
     ·rw [List.getElem?_append_right OM] at hj
      have hb : j - cells.length < ci.length := by
       rcases Nat.lt_or_ge (j - cells.length) ci.length with hq | hq
       ·exact hq
       ·rw [List.getElem?_eq_none hq] at hj; cases hj
      have h5 := hcc (j - cells.length) OM
      rw [add_add, hj, hc, ← h1, ← h2.len] at h5
      rw [← h5]; congr 2; omega
    ·rcases List.mem_append.1 hz with hz | hz
     ·exact h4 z hz
     ·simp at hz; subst hz; exact hv
  obtain ⟨xs, cells, h1, h2, h3, h4⟩ := key len (Nat.le_refl _)
  refine ⟨xs, h4, _, rfl, some a, cap, cells, by rw [h1], ⟨OM, hm⟩, h2, fun j u hj => ⟨a, rfl, by simp [Fr], h3 j u hj⟩⟩
end
end
section
section
variable {P : Program} {ops : Array Oper} {C : World → Prop} {Q : Exit → Act → World → Prop}
def YC (P : Program) (ops : Array Oper) (C : World → Prop) (o : Oper) (v : Value) (a : Act) : Prop :=
 (Region.wanted o (yielded ops a.tmps) = true ∧ ∀ w, C w → (execOp a.eval o).run P w = .ok (.value v) w) ∨ (Region.wanted o (yielded ops a.tmps) = false ∧ v = undef)
theorem YC.wpOp {i : Nat} {o : Oper} {v : Value} {a : Act} (hi : ops[i]? = some o) (hy : YC P ops C o v a) {K : Act → World → Prop} {w : World} (hC : C w) (h : K (a.put o.dst v) w) : wpOp P ops Q i K a w := by
 unfold Go.wpOp
 simp only [hi]
 rcases hy with ⟨hw, hv⟩ | ⟨hw, rfl⟩
 ·simp only [hw, if_true, Oper.wp, hv w hC, Oper.upon]; exact .inl h
 ·simp only [hw, Bool.false_eq_true, if_false]; exact h
theorem YC.of_same {o : Oper} {v : Value} {a a' : Act} (hy : YC P ops C o v a) (he : execOp a'.eval o = execOp a.eval o) (hw : Region.wanted o (yielded ops a'.tmps) = Region.wanted o (yielded ops a.tmps)) : YC P ops C o v a' := by
 unfold YC at *
 rw [he, hw]
 exact hy
def anyC (P : Program) (ops : Array Oper) (C : World → Prop) (Q : Exit → Act → World → Prop) : Nat → Array Bool → Act → World → Prop
 | 0, listed, a, w => Region.ready .any ops listed = [] ∧ Q .normal a w
 | fuel + 1, listed, a, w => (Region.ready .any ops listed = [] → Q .normal a w) ∧ ∀ i ∈ Region.ready .any ops listed, wpOp P ops Q i (fun a' w' => C w' ∧ anyC P ops C Q fuel (listed.setIfInBounds i true) a' w') a w
theorem any_of_anyC : ∀ (fuel : Nat) (listed : Array Bool) (a : Act) (w : World), anyC P ops C Q fuel listed a w → wpAny P .any ops Q fuel listed a w
 | 0, _, _, _, h => h
 | fuel + 1, _, _, _, h => ⟨h.1, fun i hi => wpOp_mono (fun a' w' h' => any_of_anyC fuel _ a' w' h'.2) (h.2 i hi)⟩
theorem putC {j : Nat} {oi oj : Oper} {v : Value} (hj : ops[j]? = some oj) (hap : oi.apart ops oj = true) (hsi : ∀ cs b, oi.op ≠ .select cs b) (hsj : ∀ cs b, oj.op ≠ .select cs b)
  (hQ : ∀ c a w, Q (.panic c) (a.put oi.dst v) w → Q (.panic c) a w) {K : Act → World → Prop} {a : Act} {w : World} (hy : YC P ops C oi v a) (h : wpOp P ops Q j K (a.put oi.dst v) w) :
  wpOp P ops Q j (fun a' w' => YC P ops C oi v a' ∧ K (a'.put oi.dst v) w') a w := by
 obtain ⟨h1, h2, h3⟩ := Oper.apart_spec hap
 have keep : ∀ (a : Act), YC P ops C oi v a → ∀ u, YC P ops C oi v (a.put oj.dst u) := fun a hy u =>
  hy.of_same (execOp_put oi hsi a oj.dst u h3) (wanted_put oi a oj.dst u h3)
 have keepD : ∀ d, YC P ops C oi v { a with defers := d :: a.defers } := fun d => hy.of_same rfl rfl
 unfold wpOp at *
 simp only [hj] at *
 rw [wanted_put oj a oi.dst v h1] at h
 split
 ·rename_i hw
  simp only [hw, if_true] at h
  rcases h with h | ⟨hasks, hlets⟩
  case inr => exact .inr ⟨by unfold Oper.asks at *; rw [execOp_put oj hsj a oi.dst v h1] at hasks; exact hasks, hlets⟩
  refine .inl ?_
  unfold Oper.wp at *
  rw [execOp_put oj hsj a oi.dst v h1] at h
  generalize (execOp a.eval oj).run P w = r at *
  cases r with
  | ok n w' =>
   cases n <;> simp only [Oper.upon] at h ⊢
   case value u => exact ⟨keep a hy u, by rw [← Act.put_comm a v u h2]; exact h⟩
   case skip => exact ⟨keep a hy _, by rw [← Act.put_comm a v undef h2]; exact h⟩
   case defer d =>
    refine ⟨keep _ (keepD d) _, ?_⟩
    rw [← Act.put_comm _ v undef h2, ← Act.put_defers]
    exact h
   case enter f args =>
    refine Calls.mono h fun e w'' he => ?_
    cases e with
    | returned u => exact ⟨keep a hy u, by rw [← Act.put_comm a v u h2]; exact he⟩
    | panicked c => exact hQ _ _ _ he
    | outgrown => exact he
   case row row args => exact Rows.mono h fun u w'' he => ⟨keep a hy u, by rw [← Act.put_comm a v u h2]; exact he⟩
  | halt x w' =>
   cases x <;> simp only [Oper.upon] at h ⊢
   case panic u => exact hQ _ _ _ h
 ·rename_i hw
  simp only [hw] at h
  exact ⟨keep a hy _, by rw [← Act.put_comm a v undef h2]; exact h⟩
theorem firstC {i : Nat} {oi : Oper} {v : Value} (hi : ops[i]? = some oi) (hsel : ∀ (j : Nat) (o : Oper) cs b, ops[j]? = some o → o.op ≠ .select cs b)
  (hQ : ∀ c a w, Q (.panic c) (a.put oi.dst v) w → Q (.panic c) a w) :
  ∀ (fuel : Nat) (listed : Array Bool) (a : Act) (w : World),
   (∀ j oj, ops[j]? = some oj → j ≠ i → listed.getD j true = false → (∀ e ∈ oj.after, Region.binds .any e = true → e.on ≠ i) → oi.apart ops oj = true) →
   i ∈ Region.ready .any ops listed → YC P ops C oi v a → C w → anyC P ops C Q fuel (listed.setIfInBounds i true) (a.put oi.dst v) w → anyC P ops C Q (fuel + 1) listed a w := by
 intro fuel
 induction fuel with
 | zero =>
  intro listed a w _ hr hy hC H
  refine ⟨fun h => (by rw [h] at hr; cases hr), fun j hj => ?_⟩
  by_cases hji : j = i
  ·subst hji; exact hy.wpOp hi hC ⟨hC, H⟩
  ·have := ready_mono hj hji
   rw [H.1] at this
   cases this
 | succ fuel ih =>
  intro listed a w hfree hr hy hC H
  refine ⟨fun h => (by rw [h] at hr; cases hr), fun j hj => ?_⟩
  by_cases hji : j = i
  ·subst hji; exact hy.wpOp hi hC ⟨hC, H⟩
  ·have h1 := H.2 j (ready_mono hj hji)
   obtain ⟨hjun, oj, hoj, hall⟩ := mem_ready.1 hj
   have hnot : ∀ e ∈ oj.after, Region.binds .any e = true → e.on ≠ i := fun e he hb heq => by
    have h1 := hall e he hb
    have h0 := (mem_ready.1 hr).1
    rw [heq] at h1
    rcases Nat.lt_or_ge i listed.size with h' | h'
    ·simp [h'] at h0 h1; rw [h0] at h1; cases h1
    ·simp [Array.getElem?_eq_none h'] at h1
   have h2 := putC hoj (hfree j oj hoj hji hjun hnot) (fun cs b => hsel i oi cs b hi) (fun cs b => hsel j oj cs b hoj) hQ hy h1
   have hfree' : ∀ k ok, ops[k]? = some ok → k ≠ i → (listed.setIfInBounds j true).getD k true = false →
     (∀ e ∈ ok.after, Region.binds .any e = true → e.on ≠ i) → oi.apart ops ok = true := fun k ok hk hki hun hno => by
    refine hfree k ok hk hki ?_ hno
    by_cases hjk : j = k
    ·subst hjk; exact hjun
    ·rw [getD_set_ne true hjk] at hun; exact hun
   refine wpOp_mono (fun a' w' h3 => ⟨h3.2.1, ih (listed.setIfInBounds j true) a' w' hfree' (ready_mono hr (Ne.symm hji)) h3.1 h3.2.1 ?_⟩) h2
   rw [Array.setIfInBounds_comm _ _ hji]
   exact h3.2.2
end
section
variable {P : Program} {n : Nat} {N R : Ps} {X : Nat → Ps} {t : Tm} {w : World} {ops : Array Oper} {C : World → Prop} {listed : Array Bool} {m : Nat} {ty : TypeId} {pos : String} {aft : Array Edge}
def M (P : Program) (n : Nat) (ops : Array Oper) (C : World → Prop) (N R : Ps) (X : Nat → Ps) (m : Nat) (listed : Array Bool) (t : Tm) (w : World) : Prop := anyC P ops C (post n N R X) m listed (acts n t) w
theorem Zr {i : Nat} {l : List Oper} (m : Nat) (C : World → Prop) (hm : P.follows .mixedOrders = true) (hl : l.toArray.size = m) (h : M P n l.toArray C N R X m (Array.replicate m false) t { w with drawn := w.drawn + 1 }) :
  W P n (.region i l.toArray true) N R X t w := by
 unfold W
 refine wp_region_any hm (any_of_anyC (C := C) _ _ _ _ ?_)
 rw [hl]; exact h
theorem Zs (hr : Region.ready .any ops listed = []) (h : N t w) : M P n ops C N R X 0 listed t w := ⟨hr, t, rfl, h⟩
def pickB (ops : Array Oper) (listed : Array Bool) (i : Nat) : Bool := Region.noSelect ops && (Region.ready .any ops listed).contains i && Region.free .any ops listed i
theorem Zt (i : Nat) {o : Oper} {v : Value} (hi : ops[i]? = some o) (hb : pickB ops listed i = true) (hC : C w) (hy : YC P ops C o v (acts n t))
  (k : M P n ops C N R X m (listed.setIfInBounds i true) (putd o.dst v t) w) : M P n ops C N R X (m + 1) listed t w := by
 simp only [pickB, Bool.and_eq_true] at hb
 refine firstC hi (Region.noSelect_spec hb.1.1) (fun c a w h => h.elim) m listed (acts n t) w (Region.free_spec hi hb.2) (by simpa using hb.1.2) hy hC ?_
 rw [acts_put]; exact k
theorem Yk (i : Nat) {o : Option Nat} {op : Op} {v : Value} (hi : ops[i]? = some ⟨o, op, ty, pos, aft, none⟩) (hb : pickB ops listed i = true) (hC : C w) (h : Pu P n t C ⟨o, op, ty, pos, aft, none⟩ v)
  (k : M P n ops C N R X m (listed.setIfInBounds i true) (putd o v t) w) : M P n ops C N R X (m + 1) listed t w :=
 Zt i hi hb hC (.inl ⟨by simp [Region.wanted], fun w hw => by rw [acts_evalf]; exact h w hw⟩) k
theorem Zu {i : Nat} {o : Oper} {K : Ps} (hi : ops[i]? = some o) (h : L P n ops K R X [o] t w) : wpOp P ops (post n N R X) i (fun a' w' => ∃ t', a' = acts n t' ∧ K t' w') (acts n t) w := by
 unfold wpOp
 simp only [hi]
 unfold L wpList at h
 by_cases hw : Region.wanted o (yielded ops (acts n t).tmps) = true
 ·rw [if_pos hw] at h ⊢
  rcases h with h | ⟨ha, hb⟩
  ·refine .inl ?_
   unfold Oper.wp at *
   generalize (execOp (acts n t).eval o).run P w = r at *
   cases r with
   | ok x w' =>
    cases x <;> simp only [Oper.upon] at h ⊢
    case value u => exact h
    case skip => exact h
    case defer d => exact h
    case enter f args =>
     refine Calls.mono h fun e w'' he => ?_
     cases e with
     | returned u => exact he
     | panicked c => exact he
     | outgrown => exact he
    case row row args => exact Rows.mono h fun u w'' he => he
   | halt x w' =>
    cases x <;> simp only [Oper.upon] at h ⊢
    case panic u => exact h
  ·exact .inr ⟨ha, hb⟩
 ·rw [if_neg hw] at h ⊢
  exact h
theorem Ze (i : Nat) {o : Oper} (hr : Region.ready .any ops listed = [i]) (hi : ops[i]? = some o)
  (k : L P n ops (fun t' w' => C w' ∧ M P n ops C N R X m (listed.setIfInBounds i true) t' w') R X [o] t w) : M P n ops C N R X (m + 1) listed t w := by
 refine ⟨fun h => (by rw [hr] at h; cases h), fun j hj => ?_⟩
 rw [hr] at hj
 obtain rfl : j = i := by simpa using hj
 exact wpOp_mono (fun a' w' ⟨t', e, h⟩ => by rw [e]; exact h) (Zu hi k)
end
section
variable {P : Program} {n : Nat} {N R : Ps} {X : Nat → Ps} {t : Tm} {w w' w1 : World} {ops : Array Oper} {listed : Array Bool} {k : Nat} {r : Option Nat} {ty : TypeId} {pos : String} {aft : Array Edge} {d : Nat} {x : Operand} {L O m : Ob} {w0 : World} {C : World → Prop}
theorem Gm.cell {rs : Ob} (h : Gm w w' rs) {a : Addr} {v : Value} (hc : w.cell? a = some v) (hn : some a.block ∉ rs) : w'.cell? a = some v := by
 have hb : a.block < w.heap.size := by
  rcases Nat.lt_or_ge a.block w.heap.size with h | h
  ·exact h
  ·unfold World.cell? at hc; rw [Array.getElem?_eq_none h] at hc; cases hc
 have := h.block a.block hb hn
 unfold World.cell? at hc ⊢
 rw [this]; exact hc
theorem Zv {i : Nat} {l : List Oper} (k : Nat) (rs : Ob) (hm : P.follows .mixedOrders = true) (hl : l.toArray.size = k)
  (h : ∀ w1, Gr w w1 none → Gm w1 w1 rs → M P n l.toArray (fun x => Gm w1 x rs) N R X k (Array.replicate k false) t w1) : W P n (.region i l.toArray true) N R X t w :=
 Zr k (fun x => Gm { w with drawn := w.drawn + 1 } x rs) hm hl (h _ (Gr.drew w) (Gm.refl _ _))
theorem nm_nil {x : Option Nat} : x ∉ ([] : Ob) := fun h => by cases h
theorem Y8 {T : TypeId} (hT : IsAgg P T false) {w1 : World} {rs : Ob} (hC : ∀ x, C x → Gm w1 x rs) (a : Addr) (v : Value) (hx : evt n t x = .pointer (some a)) (hc0 : w1.cell? a = some v) (hne : some a.block ∉ rs) : Pu P n t C ⟨some d, .load T x, ty, pos, aft, none⟩ v := fun w hw =>
 (by have hc := Gm.cell (hC w hw) hc0 hne; simp [execOp, hx, Instr.loadAt, Instr.sureAddr, loadVar, hT w, hc])
theorem Zf {T : TypeId} {s : Nat} (hT : IsAgg P T true) (hs : SizeOf P T s) {w1 : World} {rs : Ob} (hC : ∀ x, C x → Gm w1 x rs) (a : Addr) (cs : List Value) (hx : evt n t x = .pointer (some a)) (hl : cs.length = s) (hc0 : ∀ j u, cs[j]? = some u → w1.cell? (a.add j) = some u) (hne : some a.block ∉ rs) : Pu P n t C ⟨some d, .load T x, ty, pos, aft, none⟩ (.agg cs.toArray) := fun w hw =>
 (by have hc := fun j u hu => Gm.cell (hC w hw) (hc0 j u hu) (by rw [add_block]; exact hne); subst hl; simp [execOp, hx, Instr.loadAt, Instr.sureAddr, loadVar, hT w, hs w, loadCells_run w a cs hc])
theorem cR {rs : Ob} : ∀ x, (fun x => Gm w x rs) x → Gm w x rs := fun x e => e
end
section
variable {P : Program} {n : Nat} {N R : Ps} {X : Nat → Ps} {t : Tm} {w : World} {ops : Array Oper} {rest tail : List Oper} {listed : Array Bool} {q : Nat} {ty : TypeId} {pos : String} {aft : Array Edge} {d : Nat} {x : Operand} {O : Ob} {C : World → Prop}
theorem Ow.cap {α : Type} {kd : Kd α} {e : TypeId} {A : Option Addr} {m c : Nat} {xs : List α} (h : Ow kd e w O (.slice A m c) xs) : xs.length ≤ c := by
 obtain ⟨_, c', _, e', h, _⟩ := h.sl (fun _ => True) (fun _ _ _ => trivial)
 cases e'; exact h.1
def Sh (P : Program) (n : Nat) (ops : Array Oper) (N R : Ps) (X : Nat → Ps) (w : World) (tail l : List Oper) (t : Tm) : Prop := wpStill P ops w (fun a => wpList P ops (post n N R X) tail a w) l (acts n t)
end
attribute [irreducible] M Sh
end
section
def Kd.raw : Kd Value where
 sz := 1
 R := fun _ _ x cs => cs = [x] ∧ x.oneCell' = true
 len := fun h => by rw [h.1]; rfl
 one := fun h u hu => by rw [h.1] at hu; simp at hu; subst hu; exact h.2
 keep := fun h _ => h
 mono := fun h _ => h
def Tb {α : Type} (k : Kd α) (e1 e2 : TypeId) (w : World) (B : Ob) (v : Value) (vs : List Value) (xss : List (List α)) : Prop :=
 Ow Kd.raw e1 w B v vs ∧ vs.length = xss.length ∧ ∀ j u, vs[j]? = some u → Ow k e2 w B u (xss.getD j [])
section
variable {α : Type} {k : Kd α} {e1 e2 : TypeId} {w0 w w' : World} {B L O : Ob} {v u : Value} {vs : List Value} {xss : List (List α)} {m : Ob}
theorem Tb.k0 (h : Tb k e1 e2 w B v vs xss) (g : Gr w w' none) : Tb k e1 e2 w' B v vs xss := ⟨h.1.sn g, h.2.1, fun j u hu => (h.2.2 j u hu).sn g⟩
theorem Tb.own (h : Tb k e1 e2 w B v vs xss) (r : Option Nat) (g : Gr w w' none) (hr : ∀ b, r = some b → w.heap.size ≤ b) : Tb k e1 e2 w' (r :: B) v vs xss := ⟨h.1.so r g hr, h.2.1, fun j u hu => (h.2.2 j u hu).so r g hr⟩
theorem Tb.len {A : Option Addr} {n c : Nat} (h : Tb k e1 e2 w B (.slice A n c) vs xss) : n = xss.length := h.1.len.trans h.2.1
theorem Tb.le (h : Tb k e1 e2 w B v vs xss) : xss.length ≤ 9223372036854775807 := by rw [← h.2.1]; exact h.1.le
theorem Tb.get {A : Option Addr} {n c : Nat} (h : Tb k e1 e2 w B (.slice A n c) vs xss) (i : Int) (hi : 0 ≤ i ∧ i < (xss.length : Int)) :
  ∃ ad A' n' c', A = some ad ∧ vs[i.toNat]? = some (.slice A' n' c') ∧ (∀ j u, [Value.slice A' n' c'][j]? = some u → w.cell? ((ad.add (i.toNat * 1)).add j) = some u) ∧ Ow k e2 w B (.slice A' n' c') (nth xss i) := by
 have hv : i.toNat < vs.length := by rw [h.2.1]; omega
 obtain ⟨ad, cs, hA, hR, hcell⟩ := h.1.get (default : Value) RD i (by rw [h.2.1]; exact hi)
 have hu : vs[i.toNat]? = some vs[i.toNat] := List.getElem?_eq_getElem hv
 have ho := h.2.2 _ _ hu
 obtain ⟨A', c', e⟩ := ho.shape
 rw [e] at hu ho
 have hcs := hR.1
 rw [List.getD_eq_getElem?_getD, hu, Option.getD_some] at hcs
 subst hcs
 refine ⟨ad, A', _, c', hA, hu, hcell, ?_⟩
 have e2 : xss.getD i.toNat [] = nth xss i := rfl
 rw [← e2]; exact ho
theorem Tb.sl (h : Tb k e1 e2 w (blk v :: vs.map blk ++ O) v vs xss) (c : Ct m w0 w (blk v :: vs.map blk) O) : Sl (Kd.sl k) w (Fr ([] ++ O)) v xss := by
 have key : ∀ u ∈ vs, ∀ b, blk u = some b → some b ∉ O := fun u hu b hb hm => by
  have h1 : some b ∈ blk v :: vs.map blk := List.mem_cons_of_mem _ (List.mem_map.2 ⟨u, hu, hb⟩)
  have : Dj ((blk v :: vs.map blk) ++ O) := c.dj
  obtain ⟨i, hi⟩ := List.getElem?_of_mem h1
  obtain ⟨j, hj⟩ := List.getElem?_of_mem hm
  exact Dj.ne this (get_app hi) (by rw [List.getElem?_append_right (i := (blk v :: vs.map blk).length + j) OM]; simpa using hj) (by have := (List.getElem?_eq_some_iff.1 hi).1; omega) b rfl rfl
 have keyv : ∀ b, blk v = some b → some b ∉ O := fun b hb hm => by
  have : Dj (blk v :: (vs.map blk ++ O)) := c.dj
  exact this.1 b hb (List.mem_append_right _ hm)
 obtain ⟨A, n, rfl⟩ := h.1.shape
 obtain ⟨⟨cells, h1, h2, h3⟩, hlen, hin⟩ := h
 have hc : vs.length ≤ n ∧ n ≤ 9223372036854775807 := by
  rcases h1.2 with ⟨e, e'⟩ | ⟨g, cap, cur, e, _, _, h, hm, _⟩
  ·simp only [Value.slice.injEq] at e; omega
  ·cases e; exact ⟨h, hm⟩
 have harr : ∀ (vs : List Value) (xss : List (List α)) (cells : List Value), vs.length = xss.length → Arr Kd.raw w (Fr (blk (.slice A vs.length n) :: vs.map blk ++ O)) vs cells → (∀ u ∈ vs, ∀ b, blk u = some b → some b ∉ O) →
   (∀ j u, vs[j]? = some u → ∃ B, Ow k e2 w B u (xss.getD j []) ∧ ∀ b, b < w.heap.size → some b ∉ B → some b ∉ O) → Arr (Kd.sl k) w (Fr ([] ++ O)) xss cells := by
  intro vs
  have gen : ∀ (vs : List Value) (S : Sp) (xss : List (List α)) (cells : List Value), vs.length = xss.length → Arr Kd.raw w S vs cells → (∀ u ∈ vs, ∀ b, blk u = some b → some b ∉ O) →
   (∀ j u, vs[j]? = some u → ∃ B, Ow k e2 w B u (xss.getD j []) ∧ ∀ b, b < w.heap.size → some b ∉ B → some b ∉ O) → Arr (Kd.sl k) w (Fr ([] ++ O)) xss cells := by
   intro vs S
   induction vs with
   | nil =>
    intro xss cells hl ha _ _
    cases xss with
    | nil => exact ha
    | cons => cases hl
   | cons u vs ih =>
    intro xss cells hl ha hb hi
    cases xss with
    | nil => cases hl
    | cons x xss =>
     obtain ⟨c1, c2, e, h1, h2⟩ := ha
     obtain ⟨B, ho, hB⟩ := hi 0 u rfl
     have hx : Sl k w (Fr ([] ++ O)) u x := ho.sl _ fun b hlt hh hm => by
      rcases hh with hh | hh
      ·exact hB b hlt hh hm
      ·exact hb u (by simp) b hh hm
     exact ⟨c1, c2, e, ⟨u, h1.1, hx⟩, ih xss c2 (by simpa using hl) h2 (fun u hu => hb u (by simp [hu])) (fun j u hu => hi (j + 1) u hu)⟩
  exact gen vs _
 have := harr vs xss cells hlen h2 key (fun j u hu => ⟨_, hin j u hu, fun b _ hn hm => hn (List.mem_append_right _ hm)⟩)
 refine ⟨A, n, cells, by rw [hlen], by rw [← hlen]; exact hc, this, fun j u hu => ?_⟩
 rcases h1.2 with ⟨e, e'⟩ | ⟨g, cap, cur, e, _, hg, h, _⟩
 ·have := h1.1
  have hl : cells = [] := List.length_eq_zero_iff.1 (by rw [this, e']; simp)
  subst hl; simp at hu
 ·cases e
  exact ⟨_, rfl, keyv _ rfl, World.ownsRow.cells h1 (g := g) rfl j u hu⟩
theorem Ct.clear (c : Ct m w0 w L O) : Ct m w0 w [] O :=
 ⟨c.gr, by
  have := c.dj
  clear c
  induction L with
  | nil => exact this
  | cons a L ih => exact ih this.2, fun b hb => c.lt b (List.mem_append_right _ hb), fun b hb => by simp at hb, c.mo⟩
theorem St.clear : St w (L ++ O) w ([] ++ O) := ⟨rfl, rfl, rfl, Nat.le_refl _, fun _ _ _ => rfl, fun _ _ hn hm => hn (List.mem_append_right _ hm)⟩
end
end
section
def Kd.cells (n : Nat) : Kd (List Value) where
 sz := n
 R := fun _ _ x cs => cs = x ∧ x.length = n ∧ ∀ u ∈ x, u.oneCell' = true
 len := fun h => by rw [h.1]; exact h.2.1
 one := fun h u hu => h.2.2 u (by rw [← h.1]; exact hu)
 keep := fun h _ => h
 mono := fun h _ => h
theorem Kd.cells.op {n : Nat} {w : World} {S : Sp} {x cs : List Value} (h : (Kd.cells n).R w S x cs) : cs = x := h.1
theorem cells_flat (n : Nat) : (Kd.cells n).Flat := fun _ _ _ _ _ _ h => h
theorem Dj.right : ∀ {A B : Ob}, Dj (A ++ B) → Dj B
 | [], _, d => d
 | _ :: _, _, d => Dj.right d.2
theorem Dj.disj : ∀ {A B : Ob}, Dj (A ++ B) → ∀ b, some b ∈ A → some b ∉ B
 | [], _, _, b, h => by cases h
 | a :: A, B, d, b, h => fun hB => by
  rcases List.mem_cons.1 h with e | h
  ·exact d.1 b e.symm (List.mem_append_right _ hB)
  ·exact Dj.disj d.2 b h hB
theorem Ow.flto {α : Type} {k : Kd α} (hf : k.Flat) {e : TypeId} {w w' : World} {O O' : Ob} {v : Value} {xs : List α} (h : Ow k e w O v xs) (hb : ∀ b, blk v = some b → w'.heap[b]? = w.heap[b]? ∧ some b ∈ O') : Ow k e w' O' v xs := by
 obtain ⟨cells, h1, h2, h3⟩ := h
 refine ⟨cells, ⟨h1.1, ?_⟩, h2.fl hf, fun b hv => (hb b hv).2⟩
 rcases h1.2 with hn | ⟨g, cap, cur, hv, h0, hg, rest⟩
 ·exact .inl hn
 ·exact .inr ⟨g, cap, cur, hv, h0, by rw [(hb g (by rw [hv]; rfl)).1]; exact hg, rest⟩
structure Dd {α : Type} (k : Kd α) where
 D : World → Ob → α → List Value → Prop
 keep : ∀ {w w' : World} {rs : Ob} {x : α} {cs : List Value}, D w rs x cs → (∀ b, some b ∈ rs → w'.heap[b]? = w.heap[b]?) → D w' rs x cs
 lt : ∀ {w : World} {rs : Ob} {x : α} {cs : List Value}, D w rs x cs → ∀ b, some b ∈ rs → b < w.heap.size
 toR : ∀ {w : World} {rs : Ob} {x : α} {cs : List Value} {S : Sp}, D w rs x cs → (∀ b, some b ∈ rs → S b) → k.R w S x cs
def Dd.flat {α : Type} {k : Kd α} (hf : k.Flat) : Dd k where
 D := fun w rs x cs => rs = [] ∧ k.R w (fun _ => True) x cs
 keep := fun h _ => ⟨h.1, hf _ _ _ _ _ _ h.2⟩
 lt := fun h b hb => by rw [h.1] at hb; cases hb
 toR := fun h _ => hf _ _ _ _ _ _ h.2
def Dd.pair {α β : Type} {a : Kd α} {b : Kd β} (p : Dd a) (q : Dd b) : Dd (Kd.pair a b) where
 D := fun w rs x cs => ∃ r1 r2 c1 c2, rs = r1 ++ r2 ∧ cs = c1 ++ c2 ∧ p.D w r1 x.1 c1 ∧ q.D w r2 x.2 c2
 keep := fun ⟨r1, r2, c1, c2, e, e', h1, h2⟩ g => ⟨r1, r2, c1, c2, e, e', p.keep h1 fun b hb => g b (by rw [e]; exact List.mem_append_left _ hb), q.keep h2 fun b hb => g b (by rw [e]; exact List.mem_append_right _ hb)⟩
 lt := fun ⟨r1, r2, c1, c2, e, e', h1, h2⟩ b hb => by
  rw [e] at hb; rcases List.mem_append.1 hb with hb | hb
  ·exact p.lt h1 b hb
  ·exact q.lt h2 b hb
 toR := fun ⟨r1, r2, c1, c2, e, e', h1, h2⟩ g => ⟨c1, c2, e', p.toR h1 fun b hb => g b (by rw [e]; exact List.mem_append_left _ hb), q.toR h2 fun b hb => g b (by rw [e]; exact List.mem_append_right _ hb)⟩
def Dd.iso {α β : Type} {a : Kd α} (p : Dd a) (f : β → α) : Dd (Kd.iso a f) where
 D := fun w rs x cs => p.D w rs (f x) cs
 keep := p.keep
 lt := p.lt
 toR := p.toR
theorem Dd.raw {α : Type} {k : Kd α} (d : Dd k) {w : World} {rs : Ob} {x : α} {cs : List Value} {S : Sp} (h : d.D w rs x cs) : (Kd.cells k.sz).R w S cs cs :=
 have hR := d.toR (S := fun _ => True) h fun _ _ => trivial
 ⟨rfl, k.len hR, fun u hu => k.one hR u hu⟩
def DArr {α : Type} {k : Kd α} (d : Dd k) (w : World) : Ob → List α → List (List Value) → Prop
 | rr, [], [] => rr = []
 | rr, x :: xs, c :: cs => ∃ r1 r2, rr = r1 ++ r2 ∧ d.D w r1 x c ∧ DArr d w r2 xs cs
 | _, _, _ => False
section
variable {α : Type} {k : Kd α} {d : Dd k} {w w' : World} {rr r1 r2 : Ob} {xs ys : List α} {ra rb : List (List Value)}
theorem DArr.len : ∀ {xs : List α} {ra : List (List Value)} {rr : Ob}, DArr d w rr xs ra → ra.length = xs.length
 | [], [], _, _ => rfl
 | _ :: _, _ :: _, _, ⟨_, _, _, _, h⟩ => by rw [List.length_cons, List.length_cons, DArr.len h]
theorem DArr.lt : ∀ {xs : List α} {ra : List (List Value)} {rr : Ob}, DArr d w rr xs ra → ∀ b, some b ∈ rr → b < w.heap.size
 | [], [], _, h, b, hb => by simp only [DArr] at h; rw [h] at hb; cases hb
 | _ :: _, _ :: _, _, ⟨_, _, e, h1, h2⟩, b, hb => by
  rw [e] at hb; rcases List.mem_append.1 hb with hb | hb
  ·exact d.lt h1 b hb
  ·exact DArr.lt h2 b hb
theorem DArr.keep : ∀ {xs : List α} {ra : List (List Value)} {rr : Ob}, DArr d w rr xs ra → (∀ b, some b ∈ rr → w'.heap[b]? = w.heap[b]?) → DArr d w' rr xs ra
 | [], [], _, h, _ => h
 | _ :: _, _ :: _, _, ⟨r1, r2, e, h1, h2⟩, g => ⟨r1, r2, e, d.keep h1 fun b hb => g b (by rw [e]; exact List.mem_append_left _ hb), DArr.keep h2 fun b hb => g b (by rw [e]; exact List.mem_append_right _ hb)⟩
theorem DArr.k0 (h : DArr d w rr xs ra) (g : Gr w w' none) : DArr d w' rr xs ra := h.keep fun b hb => g.block b (h.lt b hb) (by simp)
theorem DArr.single {x : α} {c : List Value} {r : Ob} (h : d.D w r x c) : DArr d w r [x] [c] := ⟨r, [], by simp, h, rfl⟩
theorem DArr.app : ∀ {xs : List α} {ra : List (List Value)} {r1 : Ob}, DArr d w r1 xs ra → DArr d w r2 ys rb → DArr d w (r1 ++ r2) (xs ++ ys) (ra ++ rb)
 | [], [], _, h, g => by simp only [DArr] at h; rw [h]; exact g
 | _ :: _, _ :: _, _, ⟨p, q, e, h1, h2⟩, g => ⟨p, q ++ r2, by rw [e, List.append_assoc], h1, DArr.app h2 g⟩
theorem DArr.arr {S S' : Sp} : ∀ {xs : List α} {ra : List (List Value)} {rr : Ob} {cs : List Value}, DArr d w rr xs ra → Arr (Kd.cells k.sz) w S' ra cs → (∀ b, some b ∈ rr → S b) → Arr k w S xs cs
 | [], [], _, _, _, h, _ => h
 | _ :: _, _ :: _, _, _, ⟨p, q, e, h1, h2⟩, ⟨c1, c2, e', hc, h3⟩, g => ⟨c1, c2, e', by
   rw [hc.1]; exact d.toR h1 fun b hb => g b (by rw [e]; exact List.mem_append_left _ hb), DArr.arr h2 h3 fun b hb => g b (by rw [e]; exact List.mem_append_right _ hb)⟩
theorem DArr.at_ : ∀ {xs : List α} {ra : List (List Value)} {rr : Ob} (i : Nat) (z : α), DArr d w rr xs ra → i < xs.length →
  ∃ r, (∀ b, some b ∈ r → some b ∈ rr) ∧ (Dj rr → Dj r) ∧ d.D w r (xs.getD i z) (ra.getD i default) ∧
   ∀ w' y c, Dj rr → (∀ b, some b ∈ rr → some b ∉ r → w'.heap[b]? = w.heap[b]?) → d.D w' r y c → DArr d w' rr (xs.set i y) (ra.set i c)
 | [], [], _, _, _, _, h => absurd h (by simp)
 | x :: xs, c :: ra, _, 0, _, ⟨p, q, e, h1, h2⟩, _ => ⟨p, fun b hb => by rw [e]; exact List.mem_append_left _ hb, fun dj => by rw [e] at dj; exact dj.left, h1, fun w' y c' dj g hy => ⟨p, q, e, hy, h2.keep fun b hb => g b (by rw [e]; exact List.mem_append_right _ hb) fun hp => by rw [e] at dj; exact dj.disj b hp hb⟩⟩
 | x :: xs, c :: ra, _, i + 1, z, ⟨p, q, e, h1, h2⟩, hi => by
  obtain ⟨r, a1, a2, a3, a4⟩ := DArr.at_ i z h2 (by simpa using hi)
  refine ⟨r, fun b hb => by rw [e]; exact List.mem_append_right _ (a1 b hb), fun dj => by rw [e] at dj; exact a2 dj.right, by simpa using a3, fun w' y c' dj g hy => ?_⟩
  rw [e] at dj
  exact ⟨p, q, e, d.keep h1 fun b hb => g b (by rw [e]; exact List.mem_append_left _ hb) fun hr => dj.disj b hb (a1 b hr), a4 w' y c' dj.right (fun b hb hn => g b (by rw [e]; exact List.mem_append_right _ hb) hn) hy⟩
theorem DArr.fnil {hf : k.Flat} : ∀ {xs : List α} {ra : List (List Value)} {rr : Ob}, DArr (Dd.flat hf) w rr xs ra → rr = []
 | [], [], _, h => h
 | _ :: _, _ :: _, _, ⟨p, q, e, h1, h2⟩ => by rw [e, h1.1, DArr.fnil h2]; rfl
theorem DArr.of_flat (hf : k.Flat) {S : Sp} : ∀ {xs : List α} {cs : List Value}, Arr k w S xs cs → ∃ ra, DArr (Dd.flat hf) w [] xs ra ∧ ∀ S', Arr (Kd.cells k.sz) w S' ra cs
 | [], _, h => ⟨[], rfl, fun _ => h⟩
 | _ :: _, _, ⟨c1, c2, e, h1, h2⟩ => by
  obtain ⟨ra, a1, a2⟩ := DArr.of_flat hf h2
  exact ⟨c1 :: ra, ⟨[], [], rfl, ⟨rfl, hf _ _ _ _ _ _ h1⟩, a1⟩, fun S' => ⟨c1, c2, e, ⟨rfl, k.len h1, fun u hu => k.one h1 u hu⟩, a2 S'⟩⟩
end
def Ds {α : Type} {k : Kd α} (d : Dd k) (e : TypeId) (w : World) (rs : Ob) (v : Value) (xs : List α) : Prop :=
 ∃ ra rr, rs = blk v :: rr ∧ Ow (Kd.cells k.sz) e w [blk v] v ra ∧ DArr d w rr xs ra
section
variable {α : Type} {k : Kd α} {d : Dd k} {e : TypeId} {w w' w0 w1 : World} {rr rs r1 r2 O O' L m : Ob} {xs ys : List α} {ra rb : List (List Value)} {v : Value} {r : Option Nat} {i j : Nat}
theorem Ow.csl (hw : Ow (Kd.cells k.sz) e w O v ra) (hd : DArr d w rr xs ra) (S : Sp) (h1 : ∀ b, blk v = some b → S b) (h2 : ∀ b, some b ∈ rr → S b) : Sl k w S v xs := by
 have hl := hd.len
 obtain ⟨cells, o1, o2, o3⟩ := hw
 obtain ⟨A, c, rfl⟩ := ownsRow.shape o1
 have hc : ra.length ≤ c ∧ c ≤ 9223372036854775807 := by
  rcases o1.2 with ⟨e, e'⟩ | ⟨g, cap, cur, e, _, _, h, hm, _⟩
  ·simp only [Value.slice.injEq] at e; omega
  ·cases e; exact ⟨h, hm⟩
 refine ⟨A, c, cells, by rw [hl], by rw [← hl]; exact hc, hd.arr o2 h2, fun j u hu => ?_⟩
 rcases o1.2 with ⟨e, e'⟩ | ⟨g, cap, cur, e, _, hg, h, _⟩
 ·have := o1.1
  have hl : cells = [] := List.length_eq_zero_iff.1 (by rw [this, e']; simp)
  subst hl; simp at hu
 ·cases e
  have hcell := World.ownsRow.cells o1 (g := g) rfl j u hu
  exact ⟨_, rfl, h1 _ rfl, hcell⟩
theorem Ds.mk (hw : Ow (Kd.cells k.sz) e w O v ra) (hd : DArr d w rr xs ra) : Ds d e w (blk v :: rr) v xs :=
 ⟨ra, rr, rfl, hw.flto (cells_flat _) fun b hb => ⟨rfl, by rw [← hb]; exact List.mem_cons_self⟩, hd⟩
theorem Ds.ofOw (hf : k.Flat) (h : Ow k e w O v xs) : Ds (Dd.flat hf) e w [blk v] v xs := by
 obtain ⟨cells, o1, o2, o3⟩ := h
 obtain ⟨ra, a1, a2⟩ := DArr.of_flat hf o2
 exact ⟨ra, [], rfl, ⟨cells, by rw [a1.len]; exact o1, a2 _, fun b hb => by rw [← hb]; exact List.mem_cons_self⟩, a1⟩
theorem Ds.upf {hf : k.Flat} (h : Ds (Dd.flat hf) e w rs v xs) (h' : Ow k e w' O v ys) : Ds (Dd.flat hf) e w' rs v ys := by
 obtain ⟨ra, rr, e1, _, hd⟩ := h
 rw [e1, hd.fnil]; exact Ds.ofOw hf h'
theorem Ds.shape (h : Ds d e w rs v xs) : ∃ A n c, v = .slice A n c := by
 obtain ⟨ra, rr, e1, ho, hd⟩ := h
 obtain ⟨A, c, e⟩ := ho.shape
 exact ⟨A, _, c, e⟩
end
def Dd.sl {α : Type} {k : Kd α} (d : Dd k) (e : TypeId) : Dd (Kd.sl k) where
 D := fun w rs x cs => ∃ v, cs = [v] ∧ Ds d e w rs v x
 keep := fun ⟨v, e1, ra, rr, e2, ho, hd⟩ g => ⟨v, e1, ra, rr, e2, ho.flto (cells_flat _) fun b hb => ⟨g b (by rw [e2, hb]; exact List.mem_cons_self), by rw [← hb]; exact List.mem_cons_self⟩, hd.keep fun b hb => g b (by rw [e2]; exact List.mem_cons_of_mem _ hb)⟩
 lt := fun ⟨v, e1, ra, rr, e2, ho, hd⟩ b hb => by
  rw [e2] at hb; rcases List.mem_cons.1 hb with hb | hb
  ·exact ho.ltb b hb.symm
  ·exact hd.lt b hb
 toR := fun ⟨v, e1, ra, rr, e2, ho, hd⟩ g => ⟨v, e1, ho.csl hd _ (fun b hb => g b (by rw [e2, hb]; exact List.mem_cons_self)) fun b hb => g b (by rw [e2]; exact List.mem_cons_of_mem _ hb)⟩
def Foc {α β : Type} {k : Kd α} {k' : Kd β} (d : Dd k) (d' : Dd k') (off : Nat) (get : α → β) (put : α → β → α) : Prop :=
 ∀ w r x cs, d.D w r x cs → ∃ r' pre c post, (∀ b, some b ∈ r' → some b ∈ r) ∧ (Dj r → Dj r') ∧ cs = pre ++ c ++ post ∧ pre.length = off ∧ d'.D w r' (get x) c ∧
  ∀ w' y c', Dj r → (∀ b, some b ∈ r → some b ∉ r' → w'.heap[b]? = w.heap[b]?) → d'.D w' r' y c' → d.D w' r (put x y) (pre ++ c' ++ post)
theorem Foc.left {α β : Type} {a : Kd α} {b : Kd β} {p : Dd a} {q : Dd b} : Foc (p.pair q) p 0 (fun x => x.1) (fun x y => (y, x.2)) := fun w r x cs ⟨r1, r2, c1, c2, e, e', h1, h2⟩ =>
 ⟨r1, [], c1, c2, fun b hb => by rw [e]; exact List.mem_append_left _ hb, fun dj => by rw [e] at dj; exact dj.left, by simpa using e', rfl, h1, fun w' y c' dj g hy =>
  ⟨r1, r2, c', c2, e, by simp, hy, q.keep h2 fun b hb => g b (by rw [e]; exact List.mem_append_right _ hb) fun hp => by rw [e] at dj; exact dj.disj b hp hb⟩⟩
theorem Foc.right {α β : Type} {a : Kd α} {b : Kd β} {p : Dd a} {q : Dd b} : Foc (p.pair q) q a.sz (fun x => x.2) (fun x y => (x.1, y)) := fun w r x cs ⟨r1, r2, c1, c2, e, e', h1, h2⟩ =>
 ⟨r2, c1, c2, [], fun b hb => by rw [e]; exact List.mem_append_right _ hb, fun dj => by rw [e] at dj; exact dj.right, by simpa using e', a.len (p.toR (S := fun _ => True) h1 fun _ _ => trivial), h2, fun w' y c' dj g hy =>
  ⟨r1, r2, c1, c', e, by simp, p.keep h1 fun b hb => g b (by rw [e]; exact List.mem_append_left _ hb) fun hp => by rw [e] at dj; exact dj.disj b hb hp, hy⟩⟩
theorem Foc.iso {α β γ : Type} {a : Kd α} {k' : Kd γ} {p : Dd a} {d' : Dd k'} {f : β → α} (g : α → β) (hg : ∀ y, f (g y) = y) {off : Nat} {get : α → γ} {put : α → γ → α} (h : Foc p d' off get put) : Foc (p.iso f) d' off (fun x => get (f x)) (fun x y => g (put (f x) y)) := fun w r x cs hD => by
 obtain ⟨r', pre, c, post, h1, h2, h3, h4, h5, h6⟩ := h w r (f x) cs hD
 exact ⟨r', pre, c, post, h1, h2, h3, h4, h5, fun w' y c' dj q hy => by
  have := h6 w' y c' dj q hy
  show p.D w' r (f (g (put (f x) y))) _
  rw [hg]; exact this⟩
theorem Foc.trans {α β γ : Type} {a : Kd α} {b : Kd β} {c0 : Kd γ} {d1 : Dd a} {d2 : Dd b} {d3 : Dd c0} {o1 o2 : Nat} {g1 : α → β} {s1 : α → β → α} {g2 : β → γ} {s2 : β → γ → β} (h : Foc d1 d2 o1 g1 s1) (h' : Foc d2 d3 o2 g2 s2) :
  Foc d1 d3 (o1 + o2) (fun x => g2 (g1 x)) (fun x y => s1 x (s2 (g1 x) y)) := fun w r x cs hD => by
 obtain ⟨r', pre, c, post, h1, h2, h3, h4, h5, h6⟩ := h w r x cs hD
 obtain ⟨r'', pre', c', post', k1, k2, k3, k4, k5, k6⟩ := h' w r' (g1 x) c h5
 refine ⟨r'', pre ++ pre', c', post' ++ post, fun b hb => h1 b (k1 b hb), fun dj => k2 (h2 dj), by rw [h3, k3]; simp, by simp [h4, k4], k5, fun w' y cy dj g hy => ?_⟩
 have := h6 w' _ _ dj (fun b hb hn => g b hb fun hm => hn (k1 b hm)) (k6 w' y cy (h2 dj) (fun b hb hn => g b (h1 b hb) hn) hy)
 simpa using this
section
variable {α : Type} {k : Kd α} {d : Dd k} {e : TypeId} {w w' w0 w1 : World} {rr qq rs O L L' m : Ob} {xs ys : List α} {ra rb : List (List Value)} {v u : Value} {r : Option Nat} {i j : Nat}
theorem Ct.nin (c : Ct m w0 w L O) (hi : L[i]? = some r) {b : Nat} (hm : some b ∈ L.drop (i + 1)) : r ≠ some b := fun e => by
 obtain ⟨j, hj⟩ := List.getElem?_of_mem hm
 rw [List.getElem?_drop] at hj
 exact Dj.ne c.dj (get_app hi) (get_app hj) OM b e rfl
theorem DArr.sm (h : DArr d w rr xs ra) (c : Ct m w0 w L O) (hi : L[i]? = some r) (hm : ∀ b, some b ∈ rr → some b ∈ L.drop (i + 1)) (g : Gr w w' r) : DArr d w' rr xs ra :=
 h.keep fun b hb => g.block b (h.lt b hb) fun e => c.nin hi (hm b hb) e.symm
theorem Dp.gv (hw : Ow (Kd.cells k.sz) e w (L ++ O) v ra) (hd : DArr d w rr xs ra) (c : Ct m w0 w L O) (p : L.Perm (blk v :: (rr ++ L'))) : Sl k w (Fr (L' ++ O)) v xs ∧ Ct m w0 w L' O ∧ St w (L ++ O) w (L' ++ O) := by
 have c' := c.perm p
 have dj : Dj (blk v :: (rr ++ (L' ++ O))) := by have := c'.dj; simpa using this
 refine ⟨hw.csl hd _ (fun b hb hm => dj.1 b hb (List.mem_append_right _ hm)) fun b hb hm => dj.2.disj b hb hm, ⟨c'.gr, dj.2.right, fun b hb => c'.lt b ?_, fun b hb => c'.ge b ?_, c'.mo⟩, ⟨rfl, rfl, rfl, Nat.le_refl _, fun _ _ _ => rfl, fun b _ hn hm => hn ?_⟩⟩
 ·rcases List.mem_append.1 hb with hb | hb
  ·exact List.mem_append_left _ (List.mem_cons_of_mem _ (List.mem_append_right _ hb))
  ·exact List.mem_append_right _ hb
 ·exact List.mem_cons_of_mem _ (List.mem_append_right _ hb)
 ·rcases List.mem_append.1 hm with hm | hm
  ·exact List.mem_append_left _ (p.mem_iff.2 (List.mem_cons_of_mem _ (List.mem_append_right _ hm)))
  ·exact List.mem_append_right _ hm
theorem Dp.own (hw : Ow (Kd.cells k.sz) e w (L ++ O) v ra) (hd : DArr d w rr xs ra) (c : Ct m w0 w L O) (p : L.Perm (rr ++ L')) (hv : ∀ b, blk v = some b → some b ∈ L') : Ow k e w (L' ++ O) v xs ∧ Ct m w0 w L' O ∧ St w (L ++ O) w (L' ++ O) := by
 have c' := c.perm p
 have dj : Dj (rr ++ (L' ++ O)) := by have := c'.dj; simpa using this
 have hd' : ∀ b, some b ∈ rr → Fr (L' ++ O) b := fun b hb hm => dj.disj b hb hm
 refine ⟨?_, ⟨c'.gr, dj.right, fun b hb => c'.lt b ?_, fun b hb => c'.ge b ?_, c'.mo⟩, ⟨rfl, rfl, rfl, Nat.le_refl _, fun _ _ _ => rfl, fun b _ hn hm => hn ?_⟩⟩
 ·obtain ⟨cells, o1, o2, o3⟩ := hw
  exact ⟨cells, by rw [← hd.len]; exact o1, hd.arr o2 hd', fun b hb => List.mem_append_left _ (hv b hb)⟩
 ·rcases List.mem_append.1 hb with hb | hb
  ·exact List.mem_append_left _ (List.mem_append_right _ hb)
  ·exact List.mem_append_right _ hb
 ·exact List.mem_append_right _ hb
 ·rcases List.mem_append.1 hm with hm | hm
  ·exact List.mem_append_left _ (p.mem_iff.2 (List.mem_append_right _ hm))
  ·exact List.mem_append_right _ hm
theorem Ct.drops (c : Ct m w0 w L O) (p : L.Perm (rs ++ L')) : Ct m w0 w L' O := by
 have c' := c.perm p
 have dj : Dj (rs ++ (L' ++ O)) := by have := c'.dj; simpa using this
 refine ⟨c'.gr, dj.right, fun b hb => c'.lt b ?_, fun b hb => c'.ge b ?_, c'.mo⟩
 ·rcases List.mem_append.1 hb with hb | hb
  ·exact List.mem_append_left _ (List.mem_append_right _ hb)
  ·exact List.mem_append_right _ hb
 ·exact List.mem_append_right _ hb
theorem St.drops (w : World) (O : Ob) (p : L.Perm (rs ++ L')) : St w (L ++ O) w (L' ++ O) := ⟨rfl, rfl, rfl, Nat.le_refl _, fun _ _ _ => rfl, fun b _ hn hm => hn (by
 rcases List.mem_append.1 hm with hm | hm
 ·exact List.mem_append_left _ (p.mem_iff.2 (List.mem_append_right _ hm))
 ·exact List.mem_append_right _ hm)⟩
theorem Ow.drops {β : Type} {k' : Kd β} {zs : List β} (h : Ow k' e w (L ++ O) u zs) (p : L.Perm (rs ++ L')) (hi : ∀ b, blk u = some b → some b ∈ L') : Ow k' e w (L' ++ O) u zs :=
 h.st0 (.drops w O p) (Gr.refl _ _) fun b hb => List.mem_append_left _ (hi b hb)
theorem memi {x : Option Nat} (i : Nat) (h : L[i]? = some x) : ∀ b, x = some b → some b ∈ L := fun b e => by rw [← e]; exact List.mem_of_getElem? h
theorem St.spa {A : Ob} (p : (A ++ L).Perm L') : St w (A ++ (L ++ O)) w (L' ++ O) := by rw [← List.append_assoc]; exact .perm p
theorem Ow.spa {β : Type} {k' : Kd β} {zs : List β} {A : Ob} (h : Ow k' e w (A ++ (L ++ O)) u zs) (p : (A ++ L).Perm L') : Ow k' e w (L' ++ O) u zs := by rw [← List.append_assoc] at h; exact h.sp p
theorem Ct.odr {β : Type} {k' : Kd β} {zs : List β} {rs L' : Ob} (c : Ct m w0 w L O) (h : Ow k' e w (L ++ O) u zs) (p : L.Perm (rs ++ L')) (j : Nat) (hj : L'[j]? = some (blk u)) : Ow k' e w (L' ++ O) u zs := Ow.drops h p (memi j hj)
theorem Ct.spa {β : Type} {k' : Kd β} {zs : List β} {A L' : Ob} (c : Ct m w0 w (A ++ L) O) (h : Ow k' e w (A ++ (L ++ O)) u zs) (p : (A ++ L).Perm L') : Ow k' e w (L' ++ O) u zs := Ow.spa h p
theorem Dp.len {A : Option Addr} {n c : Nat} (hw : Ow (Kd.cells k.sz) e w O (.slice A n c) ra) (hd : DArr d w rr xs ra) : n = xs.length := hw.len.trans hd.len
theorem Dp.le (hw : Ow (Kd.cells k.sz) e w O v ra) (hd : DArr d w rr xs ra) : xs.length ≤ 9223372036854775807 := by rw [← hd.len]; exact hw.le
theorem Dj.none : ∀ {qs B : Ob}, (∀ x ∈ qs, x = none) → Dj B → Dj (qs ++ B)
 | [], _, _, d => d
 | a :: qs, B, h, d => ⟨fun b e => (by rw [h a List.mem_cons_self] at e; cases e), Dj.none (fun x hx => h x (List.mem_cons_of_mem _ hx)) d⟩
theorem none_mem {qs B : Ob} (h : ∀ x ∈ qs, x = none) {b : Nat} (hb : some b ∈ qs ++ B) : some b ∈ B := by
 rcases List.mem_append.1 hb with hb | hb
 ·have := h _ hb; cases this
 ·exact hb
theorem Ct.noned {qs : Ob} (c : Ct m w0 w L O) (h : ∀ x ∈ qs, x = none) (p : (qs ++ L).Perm L') : Ct m w0 w L' O := by
 have c' : Ct m w0 w (qs ++ L) O := ⟨c.gr, by rw [List.append_assoc]; exact Dj.none h c.dj, fun b hb => c.lt b (by rw [List.append_assoc] at hb; exact none_mem h hb), fun b hb => c.ge b (none_mem h hb), c.mo⟩
 exact c'.perm p
theorem St.noned {qs : Ob} (w : World) (O : Ob) (h : ∀ x ∈ qs, x = none) (p : (qs ++ L).Perm L') : St w (L ++ O) w (L' ++ O) := ⟨rfl, rfl, rfl, Nat.le_refl _, fun _ _ _ => rfl, fun b _ hn hm => hn (by
 rcases List.mem_append.1 hm with hm | hm
 ·exact List.mem_append_left _ (none_mem h (p.mem_iff.2 hm))
 ·exact List.mem_append_right _ hm)⟩
theorem Ow.noned {β : Type} {k' : Kd β} {zs : List β} {qs : Ob} (h : Ow k' e w (L ++ O) u zs) (hq : ∀ x ∈ qs, x = none) (p : (qs ++ L).Perm L') : Ow k' e w (L' ++ O) u zs :=
 h.st0 (.noned w O hq p) (Gr.refl _ _) fun b hb => by
  rcases List.mem_append.1 (h.choose_spec.2.2 b hb) with hm | hm
  ·exact List.mem_append_left _ (p.mem_iff.1 (List.mem_append_right _ hm))
  ·exact List.mem_append_right _ hm
theorem none_rep {qs : Ob} (h : ∀ x ∈ qs, x = none) (n : Nat) : ∀ x ∈ (List.replicate n qs).flatten, x = none := fun x hx => by
 obtain ⟨l, hl, hx⟩ := List.mem_flatten.1 hx
 rw [List.eq_of_mem_replicate hl] at hx
 exact h x hx
theorem DArr.rep {z : α} {c : List Value} {r : Ob} (h : d.D w r z c) : ∀ n, DArr d w (List.replicate n r).flatten (List.replicate n z) (List.replicate n c)
 | 0 => rfl
 | n + 1 => ⟨r, _, rfl, h, DArr.rep h n⟩
theorem Ds.nil : Ds d e w [none] (.slice none 0 0) [] := ⟨[], [], rfl, Ow.nil _ _ _ _, rfl⟩
theorem DArr.put {y : α} {c : List Value} {rn : Ob} (hy : d.D w rn y c) : ∀ {xs : List α} {ra : List (List Value)} {rr : Ob} (i : Nat), DArr d w rr xs ra → i < xs.length → ∃ rr' ro, (rr ++ rn).Perm (ro ++ rr') ∧ DArr d w rr' (xs.set i y) (ra.set i c)
 | [], [], _, _, _, h => absurd h (by simp)
 | x :: xs, c0 :: ra, _, 0, ⟨p, q, e, h1, h2⟩, _ => ⟨rn ++ q, p, by rw [e, List.append_assoc]; exact (List.perm_append_comm).append_left p, rn, q, rfl, hy, h2⟩
 | x :: xs, c0 :: ra, _, i + 1, ⟨p, q, e, h1, h2⟩, hi => by
  obtain ⟨rr', ro, pp, h⟩ := DArr.put hy i h2 (by simpa using hi)
  refine ⟨p ++ rr', ro, ?_, p, rr', rfl, h1, h⟩
  rw [e, List.append_assoc]
  refine (pp.append_left p).trans ?_
  rw [← List.append_assoc, ← List.append_assoc]
  exact (List.perm_append_comm).append_right rr'
theorem whole_put {cs us : List Value} (h : cs.length = us.length) : cs.take 0 ++ us ++ cs.drop (0 + us.length) = us := by rw [Nat.zero_add, ← h]; simp
end
section
variable {P : Program} {n : Nat} {N R : Ps} {X : Nat → Ps} {t : Tm} {w : World} {ops : Array Oper} {rest : List Oper} {ty : TypeId} {pos : String} {aft : Array Edge} {x y : Operand}
end
section
variable {P : Program} {n : Nat} {t : Tm} {C : World → Prop} {x : Operand} {dd : Nat} {ty : TypeId} {pos : String} {aft : Array Edge}
theorem byte_cells {w : World} {S : Sp} : ∀ {xs : Str} {cs : List Value}, Arr Kd.byte w S xs cs → cs = xs.map v8
 | [], _, h => h
 | x :: xs, _, ⟨c1, c2, e, h1, h2⟩ => by rw [e, byte_cells h2, show c1 = [v8 x] from h1]; rfl
theorem Zg {T U e : TypeId} (hs : P.underlying T = some (.slice e)) (he : P.underlying e = some (.int .u8)) (hd : P.underlying U = some .string) (A : Option Addr) (m c : Nat) (xs : Str) (hx : evt n t x = .slice A m c) (h : ∀ w, C w → ∃ S, Sx Kd.byte w S (.slice A m c) xs) :
  Pu P n t C ⟨some dd, .convert T U x, ty, pos, aft, none⟩ (vs xs) := fun w hw => by
 obtain ⟨S, A', c', cells, e1, h1, h2, h3⟩ := h w hw
 cases e1
 have hc := byte_cells h2
 subst hc
 cases A with
 | none =>
  have : xs = [] := by
   cases xs with
   | nil => rfl
   | cons a l => obtain ⟨ad, ea, _⟩ := h3 0 (v8 a) rfl; cases ea
  subst this
  have := run_convert_bytes_string (P := P) w T U e none 0 c hs he hd
  simp [execOp, hx, this, Conv.bytesToString]; rfl
 | some a =>
  have := run_convert_bytes_back (P := P) w T U e a c xs hs he hd fun j hj => by
   obtain ⟨ad, ea, hc⟩ := h3 j (v8 xs[j]) (by simp [hj])
   cases ea; exact hc
  simp [execOp, hx, this]
theorem Zh {T U : TypeId} {kd : IntKind} {d' : TypeDesc} (ht : P.underlying T = some d') (hu : P.underlying U = some (.int .u8)) (i : Int) (hx : evt n t x = .int kd i) (hi : 0 ≤ i ∧ i ≤ 255) : Pu P n t C ⟨some dd, .convert T U x, ty, pos, aft, none⟩ (v8 (UInt8.ofNat i.toNat)) := fun w hw => by
 have e : ((UInt8.ofNat i.toNat).toNat : Int) = i := by
  rw [UInt8.toNat_ofNat']; omega
 have hw8 : IntKind.wrap .u8 i = i := by simp [IntKind.wrap, IntKind.bits, IntKind.signed]; omega
 rw [show v8 (UInt8.ofNat i.toNat) = .int .u8 i by rw [show v8 (UInt8.ofNat i.toNat) = Value.int .u8 ((UInt8.ofNat i.toNat).toNat : Int) from rfl, e]]
 cases d' <;> simp [execOp, convert, run_underlying ht, run_underlying hu, hx, Conv.intToInt, hw8]
end
theorem int_flat (kd : IntKind) : (Kd.int kd).Flat := fun _ _ _ _ _ _ h => h
theorem bool_flat : Kd.bool.Flat := fun _ _ _ _ _ _ h => h
theorem str_flat : Kd.str.Flat := fun _ _ _ _ _ _ h => h
theorem pair_flat {α β : Type} {a : Kd α} {b : Kd β} (ha : a.Flat) (hb : b.Flat) : (Kd.pair a b).Flat := fun w S w' S' x cs ⟨c1, c2, e, h1, h2⟩ => ⟨c1, c2, e, ha _ _ _ _ _ _ h1, hb _ _ _ _ _ _ h2⟩
theorem iso_flat {α β : Type} {a : Kd α} (ha : a.Flat) (f : β → α) : (Kd.iso a f).Flat := fun w S w' S' x cs h => ha _ _ _ _ _ _ h
end
section
def upf (f : Nat → Bool) (i : Nat) : Nat → Bool := fun j => bif Nat.beq j i then true else f j
theorem upf_self (f : Nat → Bool) (i : Nat) : upf f i i = true := by unfold upf; rw [Nat.beq_refl]; rfl
theorem upf_ne (f : Nat → Bool) {i j : Nat} (h : j ≠ i) : upf f i j = f j := by unfold upf; rw [beq_ne h]; rfl
def Rl (ops : Array Oper) (listed : Array Bool) (S : List Nat) (f : Nat → Bool) (ls : Array Bool) : Prop := ls.size = ops.size ∧ ∀ j, j < ops.size → ls.getD j true = (listed.getD j true || (S.contains j && f j))
section
variable {P : Program} {n : Nat} {N R : Ps} {X : Nat → Ps} {ops : Array Oper} {C : World → Prop} {listed : Array Bool} {m : Nat} {S fin : List Nat}
theorem Rl.set {f : Nat → Bool} {ls : Array Bool} (h : Rl ops listed S f ls) {i : Nat} (hi : i ∈ S) (hl : i < ops.size) : Rl ops listed S (upf f i) (ls.setIfInBounds i true) := by
 refine ⟨by rw [Array.size_setIfInBounds]; exact h.1, fun j hj => ?_⟩
 by_cases e : j = i
 ·subst e
  have : S.contains j = true := List.contains_iff_mem.2 hi
  rw [this, upf_self]
  have hl' : j < ls.size := by rw [h.1]; exact hl
  simp [Array.getD, hl']
 ·rw [getD_set_ne true (Ne.symm e), upf_ne f e]; exact h.2 j hj
end
end
section
theorem nb {i j : Nat} (h : Nat.beq i j = false) : i ≠ j := fun e => by subst e; rw [Nat.beq_refl] at h; cases h
section
variable {α : Type} {k : Kd α} {e : TypeId} {w w' w0 : World} {v : Value} {xs : List α} {O L L' m rs : Ob} {r r' : Option Nat} {b : Nat} {cs : List Value}
theorem Ct.stn (c : Ct m w0 w L O) (g : Gr w w' none) : St w (L ++ O) w' (L ++ O) := .new _ g
theorem Ct.stown (c : Ct m w0 w L O) (r : Option Nat) (g : Gr w w' none) (hr : ∀ b, r = some b → w.heap.size ≤ b) : St w (L ++ O) w' (r :: L ++ O) := .own _ r g hr
theorem Ct.stw (c : Ct m w0 w L O) (j : Nat) (hj : L[j]? = some r) (g : Gr w w' r) : St w (L ++ O) w' (L ++ O) := .wl hj g
theorem Ct.std (c : Ct m w0 w L O) (j : Nat) (hj : Nat.blt j L.length = true) : St w (L ++ O) w (L.eraseIdx j ++ O) := .dr w hj
theorem Ct.stp (c : Ct m w0 w L O) (p : L.Perm L') : St w (L ++ O) w (L' ++ O) := .perm p
theorem Ct.stos (c : Ct m w0 w L O) (g : Gr w w' none) (hr : ∀ b, some b ∈ rs → w.heap.size ≤ b) : St w (L ++ O) w' (rs ++ (L ++ O)) := .owns _ g hr
theorem Ct.sw (c : Ct m w0 w L O) (h : Ow k e w (L ++ O) v xs) (i j : Nat) (hi : L[i]? = some (blk v)) (hj : L[j]? = some r) (hij : Nat.beq i j = false) (g : Gr w w' r) : Ow k e w' (L ++ O) v xs := h.sw c hi hj (nb hij) g
theorem Ct.sm (c : Ct m w0 w L O) (h : Ow k e w (L ++ O) v xs) (i j : Nat) (hi : L[i]? = some (blk v)) (hj : L[j]? = some r) (hij : Nat.beq i j = false) (g : Gr w w' r) (s : St w (L ++ O) w' (L.set j r' ++ O)) : Ow k e w' (L.set j r' ++ O) v xs := h.sm c hi hj (nb hij) g s
theorem Ct.sd (c : Ct m w0 w L O) (h : Ow k e w (L ++ O) v xs) (i j : Nat) (hi : L[i]? = some (blk v)) (hj : Nat.blt j L.length = true) (hij : Nat.beq i j = false) : Ow k e w (L.eraseIdx j ++ O) v xs := h.sd hi hj (nb hij)
theorem Ct.sp (c : Ct m w0 w L O) (h : Ow k e w (L ++ O) v xs) (p : L.Perm L') : Ow k e w (L' ++ O) v xs := Ow.sp h p
theorem Ct.bm (c : Ct m w0 w L O) (h : Bx w b cs) (i j : Nat) (hi : L[i]? = some (some b)) (hj : L[j]? = some r) (hij : Nat.beq i j = false) (g : Gr w w' r) : Bx w' b cs := h.sm c hi hj (nb hij) g
theorem Ct.gv (c : Ct m w0 w L O) (h : Ow k e w (L ++ O) v xs) (i : Nat) (hi : L[i]? = some (blk v)) : Sl k w (Fr (L.eraseIdx i ++ O)) v xs := Ow.gv h c hi
theorem Ct.bgv (c : Ct m w0 w L O) (h : Bx w b cs) (i : Nat) (hi : L[i]? = some (some b)) : Fb w (L.eraseIdx i ++ O) b cs := Bx.gv h c hi
end
end
structure Pt where
 X : Int
 Y : Int
 deriving Inhabited, DecidableEq
def kPt : Kd Pt := Kd.iso (Kd.pair (Kd.int .i64) (Kd.int .i64)) (fun x => (x.X, x.Y))
theorem kPt_flat : kPt.Flat := iso_flat (pair_flat (int_flat _) (int_flat _)) _
theorem kPt.mk (w : World) (S : Sp) (x : Pt) : kPt.R w S x [vi x.X, vi x.Y] := ⟨[vi x.X], [vi x.Y], rfl, rfl, rfl⟩
theorem kPt.op {w : World} {S : Sp} {x : Pt} {cs : List Value} (h : kPt.R w S x cs) : cs = [vi x.X, vi x.Y] := by
 obtain ⟨_, _, rfl, rfl, rfl⟩ := h
 exact rfl
structure Shape where
 Kind : Int
 Pts : List Pt
 deriving Inhabited, DecidableEq
def kShape : Kd Shape := Kd.iso (Kd.pair (Kd.int .i64) (Kd.sl kPt)) (fun x => (x.Kind, x.Pts))
theorem kShape.mk (w : World) (S : Sp) (x : Shape) {A1 : Option Addr} {n1 c1 : Nat} (h1 : Sl kPt w S (.slice A1 n1 c1) x.Pts) : kShape.R w S x [vi x.Kind, .slice A1 n1 c1] := ⟨[vi x.Kind], [.slice A1 n1 c1], rfl, rfl, ⟨_, rfl, h1⟩⟩
theorem kShape.op {w : World} {S : Sp} {x : Shape} {cs : List Value} (h : kShape.R w S x cs) : ∃ A1 n1 c1, cs = [vi x.Kind, .slice A1 n1 c1] ∧ Sl kPt w S (.slice A1 n1 c1) x.Pts := by
 obtain ⟨_, _, rfl, rfl, ⟨_, rfl, h1⟩⟩ := h
 obtain ⟨A901, c901, rfl⟩ := h1.shape
 exact ⟨A901, _, c901, rfl, h1⟩
structure Tag where
 Key : Str
 Val : Str
 deriving Inhabited, DecidableEq
def kTag : Kd Tag := Kd.iso (Kd.pair Kd.str Kd.str) (fun x => (x.Key, x.Val))
theorem kTag_flat : kTag.Flat := iso_flat (pair_flat str_flat str_flat) _
theorem kTag.mk (w : World) (S : Sp) (x : Tag) (h0 : Lim x.Key) (h1 : Lim x.Val) : kTag.R w S x [vs x.Key, vs x.Val] := ⟨[vs x.Key], [vs x.Val], rfl, ⟨rfl, h0⟩, ⟨rfl, h1⟩⟩
theorem kTag.op {w : World} {S : Sp} {x : Tag} {cs : List Value} (h : kTag.R w S x cs) : cs = [vs x.Key, vs x.Val] ∧ Lim x.Key ∧ Lim x.Val := by
 obtain ⟨_, _, rfl, ⟨rfl, h1⟩, ⟨rfl, h2⟩⟩ := h
 exact ⟨rfl, h1, h2⟩
structure Feat where
 Id : Str
 Shape : Shape
 Tags : List Tag
 deriving Inhabited, DecidableEq
def kFeat : Kd Feat := Kd.iso (Kd.pair Kd.str (Kd.pair kShape (Kd.sl kTag))) (fun x => (x.Id, x.Shape, x.Tags))
theorem kFeat.mk (w : World) (S : Sp) (x : Feat) {A2 : Option Addr} {n2 c2 : Nat} {A3 : Option Addr} {n3 c3 : Nat} (h0 : Lim x.Id) (h2 : Sl kPt w S (.slice A2 n2 c2) x.Shape.Pts) (h3 : Sl kTag w S (.slice A3 n3 c3) x.Tags) : kFeat.R w S x [vs x.Id, vi x.Shape.Kind, .slice A2 n2 c2, .slice A3 n3 c3] := ⟨[vs x.Id], (([vi x.Shape.Kind] ++ [.slice A2 n2 c2]) ++ [.slice A3 n3 c3]), rfl, ⟨rfl, h0⟩, ⟨([vi x.Shape.Kind] ++ [.slice A2 n2 c2]), [.slice A3 n3 c3], rfl, ⟨[vi x.Shape.Kind], [.slice A2 n2 c2], rfl, rfl, ⟨_, rfl, h2⟩⟩, ⟨_, rfl, h3⟩⟩⟩
theorem kFeat.op {w : World} {S : Sp} {x : Feat} {cs : List Value} (h : kFeat.R w S x cs) : ∃ A2 n2 c2 A3 n3 c3, cs = [vs x.Id, vi x.Shape.Kind, .slice A2 n2 c2, .slice A3 n3 c3] ∧ Lim x.Id ∧ Sl kPt w S (.slice A2 n2 c2) x.Shape.Pts ∧ Sl kTag w S (.slice A3 n3 c3) x.Tags := by
 obtain ⟨_, _, rfl, ⟨rfl, h1⟩, ⟨_, _, rfl, ⟨_, _, rfl, rfl, ⟨_, rfl, h2⟩⟩, ⟨_, rfl, h3⟩⟩⟩ := h
 obtain ⟨A901, c901, rfl⟩ := h2.shape
 obtain ⟨A902, c902, rfl⟩ := h3.shape
 exact ⟨A901, _, c901, A902, _, c902, rfl, h1, h2, h3⟩
structure Change where
 Id : Str
 Had : Bool
 Was : Feat
 Has : Bool
 Now : Feat
 deriving Inhabited, DecidableEq
def kChange : Kd Change := Kd.iso (Kd.pair Kd.str (Kd.pair Kd.bool (Kd.pair kFeat (Kd.pair Kd.bool kFeat)))) (fun x => (x.Id, x.Had, x.Was, x.Has, x.Now))
theorem kChange.mk (w : World) (S : Sp) (x : Change) {A4 : Option Addr} {n4 c4 : Nat} {A5 : Option Addr} {n5 c5 : Nat} {A9 : Option Addr} {n9 c9 : Nat} {A10 : Option Addr} {n10 c10 : Nat} (h0 : Lim x.Id) (h2 : Lim x.Was.Id) (h4 : Sl kPt w S (.slice A4 n4 c4) x.Was.Shape.Pts) (h5 : Sl kTag w S (.slice A5 n5 c5) x.Was.Tags) (h7 : Lim x.Now.Id) (h9 : Sl kPt w S (.slice A9 n9 c9) x.Now.Shape.Pts) (h10 : Sl kTag w S (.slice A10 n10 c10) x.Now.Tags) : kChange.R w S x [vs x.Id, vb x.Had, vs x.Was.Id, vi x.Was.Shape.Kind, .slice A4 n4 c4, .slice A5 n5 c5, vb x.Has, vs x.Now.Id, vi x.Now.Shape.Kind, .slice A9 n9 c9, .slice A10 n10 c10] := ⟨[vs x.Id], ([vb x.Had] ++ (([vs x.Was.Id] ++ (([vi x.Was.Shape.Kind] ++ [.slice A4 n4 c4]) ++ [.slice A5 n5 c5])) ++ ([vb x.Has] ++ ([vs x.Now.Id] ++ (([vi x.Now.Shape.Kind] ++ [.slice A9 n9 c9]) ++ [.slice A10 n10 c10]))))), rfl, ⟨rfl, h0⟩, ⟨[vb x.Had], (([vs x.Was.Id] ++ (([vi x.Was.Shape.Kind] ++ [.slice A4 n4 c4]) ++ [.slice A5 n5 c5])) ++ ([vb x.Has] ++ ([vs x.Now.Id] ++ (([vi x.Now.Shape.Kind] ++ [.slice A9 n9 c9]) ++ [.slice A10 n10 c10])))), rfl, rfl, ⟨([vs x.Was.Id] ++ (([vi x.Was.Shape.Kind] ++ [.slice A4 n4 c4]) ++ [.slice A5 n5 c5])), ([vb x.Has] ++ ([vs x.Now.Id] ++ (([vi x.Now.Shape.Kind] ++ [.slice A9 n9 c9]) ++ [.slice A10 n10 c10]))), rfl, ⟨[vs x.Was.Id], (([vi x.Was.Shape.Kind] ++ [.slice A4 n4 c4]) ++ [.slice A5 n5 c5]), rfl, ⟨rfl, h2⟩, ⟨([vi x.Was.Shape.Kind] ++ [.slice A4 n4 c4]), [.slice A5 n5 c5], rfl, ⟨[vi x.Was.Shape.Kind], [.slice A4 n4 c4], rfl, rfl, ⟨_, rfl, h4⟩⟩, ⟨_, rfl, h5⟩⟩⟩, ⟨[vb x.Has], ([vs x.Now.Id] ++ (([vi x.Now.Shape.Kind] ++ [.slice A9 n9 c9]) ++ [.slice A10 n10 c10])), rfl, rfl, ⟨[vs x.Now.Id], (([vi x.Now.Shape.Kind] ++ [.slice A9 n9 c9]) ++ [.slice A10 n10 c10]), rfl, ⟨rfl, h7⟩, ⟨([vi x.Now.Shape.Kind] ++ [.slice A9 n9 c9]), [.slice A10 n10 c10], rfl, ⟨[vi x.Now.Shape.Kind], [.slice A9 n9 c9], rfl, rfl, ⟨_, rfl, h9⟩⟩, ⟨_, rfl, h10⟩⟩⟩⟩⟩⟩⟩
theorem kChange.op {w : World} {S : Sp} {x : Change} {cs : List Value} (h : kChange.R w S x cs) : ∃ A4 n4 c4 A5 n5 c5 A9 n9 c9 A10 n10 c10, cs = [vs x.Id, vb x.Had, vs x.Was.Id, vi x.Was.Shape.Kind, .slice A4 n4 c4, .slice A5 n5 c5, vb x.Has, vs x.Now.Id, vi x.Now.Shape.Kind, .slice A9 n9 c9, .slice A10 n10 c10] ∧ Lim x.Id ∧ Lim x.Was.Id ∧ Sl kPt w S (.slice A4 n4 c4) x.Was.Shape.Pts ∧ Sl kTag w S (.slice A5 n5 c5) x.Was.Tags ∧ Lim x.Now.Id ∧ Sl kPt w S (.slice A9 n9 c9) x.Now.Shape.Pts ∧ Sl kTag w S (.slice A10 n10 c10) x.Now.Tags := by
 obtain ⟨_, _, rfl, ⟨rfl, h1⟩, ⟨_, _, rfl, rfl, ⟨_, _, rfl, ⟨_, _, rfl, ⟨rfl, h2⟩, ⟨_, _, rfl, ⟨_, _, rfl, rfl, ⟨_, rfl, h3⟩⟩, ⟨_, rfl, h4⟩⟩⟩, ⟨_, _, rfl, rfl, ⟨_, _, rfl, ⟨rfl, h5⟩, ⟨_, _, rfl, ⟨_, _, rfl, rfl, ⟨_, rfl, h6⟩⟩, ⟨_, rfl, h7⟩⟩⟩⟩⟩⟩⟩ := h
 obtain ⟨A901, c901, rfl⟩ := h3.shape
 obtain ⟨A902, c902, rfl⟩ := h4.shape
 obtain ⟨A903, c903, rfl⟩ := h6.shape
 obtain ⟨A904, c904, rfl⟩ := h7.shape
 exact ⟨A901, _, c901, A902, _, c902, A903, _, c903, A904, _, c904, rfl, h1, h2, h3, h4, h5, h6, h7⟩
structure l12Rd where
 b : List UInt8
 p : Int
 deriving Inhabited, DecidableEq
def kl12Rd : Kd l12Rd := Kd.iso (Kd.pair (Kd.sl Kd.byte) (Kd.int .i64)) (fun x => (x.b, x.p))
theorem kl12Rd.mk (w : World) (S : Sp) (x : l12Rd) {A0 : Option Addr} {n0 c0 : Nat} (h0 : Sl Kd.byte w S (.slice A0 n0 c0) x.b) : kl12Rd.R w S x [.slice A0 n0 c0, vi x.p] := ⟨[.slice A0 n0 c0], [vi x.p], rfl, ⟨_, rfl, h0⟩, rfl⟩
theorem kl12Rd.op {w : World} {S : Sp} {x : l12Rd} {cs : List Value} (h : kl12Rd.R w S x cs) : ∃ A0 n0 c0, cs = [.slice A0 n0 c0, vi x.p] ∧ Sl Kd.byte w S (.slice A0 n0 c0) x.b := by
 obtain ⟨_, _, rfl, ⟨_, rfl, h1⟩, rfl⟩ := h
 obtain ⟨A901, c901, rfl⟩ := h1.shape
 exact ⟨A901, _, c901, rfl, h1⟩
theorem ag107 : IsAgg Tryd.prog 107 true := IsAgg_mk Tryd.underlying107
theorem ag119 : IsAgg Tryd.prog 119 true := IsAgg_mk Tryd.underlying119
theorem ag3 : IsAgg Tryd.prog 3 false := IsAgg_mk Tryd.underlying3
theorem ag32 : IsAgg Tryd.prog 32 false := IsAgg_mk Tryd.underlying32
theorem ag34 : IsAgg Tryd.prog 34 true := IsAgg_mk Tryd.underlying34
theorem ag35 : IsAgg Tryd.prog 35 false := IsAgg_mk Tryd.underlying35
theorem ag37 : IsAgg Tryd.prog 37 true := IsAgg_mk Tryd.underlying37
theorem ag39 : IsAgg Tryd.prog 39 true := IsAgg_mk Tryd.underlying39
theorem ag4 : IsAgg Tryd.prog 4 false := IsAgg_mk Tryd.underlying4
theorem ag42 : IsAgg Tryd.prog 42 false := IsAgg_mk Tryd.underlying42
theorem ag44 : IsAgg Tryd.prog 44 true := IsAgg_mk Tryd.underlying44
theorem ag45 : IsAgg Tryd.prog 45 false := IsAgg_mk Tryd.underlying45
theorem ag47 : IsAgg Tryd.prog 47 true := IsAgg_mk Tryd.underlying47
theorem ag49 : IsAgg Tryd.prog 49 true := IsAgg_mk Tryd.underlying49
theorem ag67 : IsAgg Tryd.prog 67 true := IsAgg_mk Tryd.underlying67
theorem ag76 : IsAgg Tryd.prog 76 false := IsAgg_mk Tryd.underlying76
theorem ag87 : IsAgg Tryd.prog 87 true := IsAgg_mk Tryd.underlying87
theorem ag9 : IsAgg Tryd.prog 9 false := IsAgg_mk Tryd.underlying9
def dShape_34 : Dd kShape := Dd.iso (Dd.pair (Dd.flat (k := (Kd.int .i64)) (int_flat _)) (Dd.sl (Dd.flat kPt_flat) 87)) (fun x : Shape => (x.Kind, x.Pts))
theorem dShape_34.mk (w : World) (x : Shape) {A1 : Option Addr} {n1 c1 : Nat} {r1 : Ob} (h1 : Ds (Dd.flat kPt_flat) 87 w r1 (.slice A1 n1 c1) x.Pts) : dShape_34.D w ([] ++ r1) x [vi x.Kind, .slice A1 n1 c1] := ⟨_, _, [vi x.Kind], [.slice A1 n1 c1], rfl, rfl, ⟨rfl, rfl⟩, ⟨_, rfl, h1⟩⟩
def dFeat_37 : Dd kFeat := Dd.iso (Dd.pair (Dd.flat (k := Kd.str) str_flat) (Dd.pair dShape_34 (Dd.sl (Dd.flat kTag_flat) 67))) (fun x : Feat => (x.Id, x.Shape, x.Tags))
theorem dFeat_37.mk (w : World) (x : Feat) {A2 : Option Addr} {n2 c2 : Nat} {A3 : Option Addr} {n3 c3 : Nat} {r2 : Ob} {r3 : Ob} (h0 : Lim x.Id) (h2 : Ds (Dd.flat kPt_flat) 87 w r2 (.slice A2 n2 c2) x.Shape.Pts) (h3 : Ds (Dd.flat kTag_flat) 67 w r3 (.slice A3 n3 c3) x.Tags) : dFeat_37.D w ([] ++ (([] ++ r2) ++ r3)) x [vs x.Id, vi x.Shape.Kind, .slice A2 n2 c2, .slice A3 n3 c3] := ⟨_, _, [vs x.Id], (([vi x.Shape.Kind] ++ [.slice A2 n2 c2]) ++ [.slice A3 n3 c3]), rfl, rfl, ⟨rfl, rfl, h0⟩, ⟨_, _, ([vi x.Shape.Kind] ++ [.slice A2 n2 c2]), [.slice A3 n3 c3], rfl, rfl, ⟨_, _, [vi x.Shape.Kind], [.slice A2 n2 c2], rfl, rfl, ⟨rfl, rfl⟩, ⟨_, rfl, h2⟩⟩, ⟨_, rfl, h3⟩⟩⟩
def dChange_39 : Dd kChange := Dd.iso (Dd.pair (Dd.flat (k := Kd.str) str_flat) (Dd.pair (Dd.flat (k := Kd.bool) bool_flat) (Dd.pair dFeat_37 (Dd.pair (Dd.flat (k := Kd.bool) bool_flat) dFeat_37)))) (fun x : Change => (x.Id, x.Had, x.Was, x.Has, x.Now))
theorem dChange_39.mk (w : World) (x : Change) {A4 : Option Addr} {n4 c4 : Nat} {A5 : Option Addr} {n5 c5 : Nat} {A9 : Option Addr} {n9 c9 : Nat} {A10 : Option Addr} {n10 c10 : Nat} {r4 : Ob} {r5 : Ob} {r9 : Ob} {r10 : Ob} (h0 : Lim x.Id) (h2 : Lim x.Was.Id) (h4 : Ds (Dd.flat kPt_flat) 87 w r4 (.slice A4 n4 c4) x.Was.Shape.Pts) (h5 : Ds (Dd.flat kTag_flat) 67 w r5 (.slice A5 n5 c5) x.Was.Tags) (h7 : Lim x.Now.Id) (h9 : Ds (Dd.flat kPt_flat) 87 w r9 (.slice A9 n9 c9) x.Now.Shape.Pts) (h10 : Ds (Dd.flat kTag_flat) 67 w r10 (.slice A10 n10 c10) x.Now.Tags) : dChange_39.D w ([] ++ ([] ++ (([] ++ (([] ++ r4) ++ r5)) ++ ([] ++ ([] ++ (([] ++ r9) ++ r10)))))) x [vs x.Id, vb x.Had, vs x.Was.Id, vi x.Was.Shape.Kind, .slice A4 n4 c4, .slice A5 n5 c5, vb x.Has, vs x.Now.Id, vi x.Now.Shape.Kind, .slice A9 n9 c9, .slice A10 n10 c10] := ⟨_, _, [vs x.Id], ([vb x.Had] ++ (([vs x.Was.Id] ++ (([vi x.Was.Shape.Kind] ++ [.slice A4 n4 c4]) ++ [.slice A5 n5 c5])) ++ ([vb x.Has] ++ ([vs x.Now.Id] ++ (([vi x.Now.Shape.Kind] ++ [.slice A9 n9 c9]) ++ [.slice A10 n10 c10]))))), rfl, rfl, ⟨rfl, rfl, h0⟩, ⟨_, _, [vb x.Had], (([vs x.Was.Id] ++ (([vi x.Was.Shape.Kind] ++ [.slice A4 n4 c4]) ++ [.slice A5 n5 c5])) ++ ([vb x.Has] ++ ([vs x.Now.Id] ++ (([vi x.Now.Shape.Kind] ++ [.slice A9 n9 c9]) ++ [.slice A10 n10 c10])))), rfl, rfl, ⟨rfl, rfl⟩, ⟨_, _, ([vs x.Was.Id] ++ (([vi x.Was.Shape.Kind] ++ [.slice A4 n4 c4]) ++ [.slice A5 n5 c5])), ([vb x.Has] ++ ([vs x.Now.Id] ++ (([vi x.Now.Shape.Kind] ++ [.slice A9 n9 c9]) ++ [.slice A10 n10 c10]))), rfl, rfl, ⟨_, _, [vs x.Was.Id], (([vi x.Was.Shape.Kind] ++ [.slice A4 n4 c4]) ++ [.slice A5 n5 c5]), rfl, rfl, ⟨rfl, rfl, h2⟩, ⟨_, _, ([vi x.Was.Shape.Kind] ++ [.slice A4 n4 c4]), [.slice A5 n5 c5], rfl, rfl, ⟨_, _, [vi x.Was.Shape.Kind], [.slice A4 n4 c4], rfl, rfl, ⟨rfl, rfl⟩, ⟨_, rfl, h4⟩⟩, ⟨_, rfl, h5⟩⟩⟩, ⟨_, _, [vb x.Has], ([vs x.Now.Id] ++ (([vi x.Now.Shape.Kind] ++ [.slice A9 n9 c9]) ++ [.slice A10 n10 c10])), rfl, rfl, ⟨rfl, rfl⟩, ⟨_, _, [vs x.Now.Id], (([vi x.Now.Shape.Kind] ++ [.slice A9 n9 c9]) ++ [.slice A10 n10 c10]), rfl, rfl, ⟨rfl, rfl, h7⟩, ⟨_, _, ([vi x.Now.Shape.Kind] ++ [.slice A9 n9 c9]), [.slice A10 n10 c10], rfl, rfl, ⟨_, _, [vi x.Now.Shape.Kind], [.slice A9 n9 c9], rfl, rfl, ⟨rfl, rfl⟩, ⟨_, rfl, h9⟩⟩, ⟨_, rfl, h10⟩⟩⟩⟩⟩⟩⟩
theorem Zw : EI Tryd.prog 25 39 11 176 [vs [], vb false, vs [], .int .i64 0, .slice none 0 0, .slice none 0 0, vb false, vs [], .int .i64 0, .slice none 0 0, .slice none 0 0] := EI_mk (z := .agg #[vs [], vb false, vs [], .int .i64 0, .slice none 0 0, .slice none 0 0, vb false, vs [], .int .i64 0, .slice none 0 0, .slice none 0 0]) Tryd.underlying25 RK rfl rfl RD RD
theorem Zi : EI Tryd.prog 29 5 1 1 [.int .u8 0] := EI_mk (z := .int .u8 0) Tryd.underlying29 RK rfl rfl RD RD
theorem Zx : EI Tryd.prog 32 87 2 16 [.int .i64 0, .int .i64 0] := EI_mk (z := .agg #[.int .i64 0, .int .i64 0]) Tryd.underlying32 RK rfl rfl RD RD
theorem Zy : EI Tryd.prog 35 67 2 32 [vs [], vs []] := EI_mk (z := .agg #[vs [], vs []]) Tryd.underlying35 RK rfl rfl RD RD
theorem Zz : EI Tryd.prog 76 9 1 16 [vs []] := EI_mk (z := vs []) Tryd.underlying76 RK rfl rfl RD RD
theorem Zj : SizeOf Tryd.prog 49 11 := SizeOf_mk RK
theorem Ys : SizeOf Tryd.prog 39 11 := SizeOf_mk RK
theorem Yl : SizeOf Tryd.prog 87 2 := SizeOf_mk RK
theorem Yq : SizeOf Tryd.prog 67 2 := SizeOf_mk RK
theorem Z0 : SizeOf Tryd.prog 119 2 := SizeOf_mk RK
theorem Zk : SizeOf Tryd.prog 107 2 := SizeOf_mk RK
theorem Zl : SizeOf Tryd.prog 9 1 := SizeOf_mk RK
def eqTag (a b : Tag) : Bool := (a.Key == b.Key) && (a.Val == b.Val)
theorem eqTag_is (x y : Tag) : eqTag x y = decide (x = y) := by
 obtain ⟨a, b⟩ := x; obtain ⟨c, d⟩ := y
 simp only [eqTag, Tag.mk.injEq, Bool.decide_and]
 by_cases h1 : a = c <;> by_cases h2 : b = d <;> simp [h1, h2]
theorem qt67 (a b : Tag) : EqT Tryd.prog 67 [vs a.Key, vs a.Val] [vs b.Key, vs b.Val] (eqTag a b) := EqT_mk2 Tryd.underlying67 RK RK RD (cmp1_str Tryd.underlying9 _ _) (cmp1_str Tryd.underlying9 _ _)
def eqPt (a b : Pt) : Bool := (a.X == b.X) && (a.Y == b.Y)
theorem eqPt_is (x y : Pt) : eqPt x y = decide (x = y) := by
 obtain ⟨a, b⟩ := x; obtain ⟨c, d⟩ := y
 simp only [eqPt, Pt.mk.injEq, Bool.decide_and]
 by_cases h1 : a = c <;> by_cases h2 : b = d <;> simp [h1, h2]
theorem qt87 (a b : Pt) : EqT Tryd.prog 87 [vi a.X, vi a.Y] [vi b.X, vi b.Y] (eqPt a b) := EqT_mk2 Tryd.underlying87 RK RK RD (cmp1_int Tryd.underlying3 _ _) (cmp1_int Tryd.underlying3 _ _)
theorem fa107_0 : FA Tryd.prog 107 0 0 := FA_mk 1 0 Tryd.underlying107 rfl RK RD rfl
theorem fa107_1 : FA Tryd.prog 107 1 1 := FA_mk 1 1 Tryd.underlying107 rfl RK RD rfl
theorem fa119_0 : FA Tryd.prog 119 0 0 := FA_mk 1 0 Tryd.underlying119 rfl RK RD rfl
theorem fa119_1 : FA Tryd.prog 119 1 1 := FA_mk 1 1 Tryd.underlying119 rfl RK RD rfl
theorem fa34_0 : FA Tryd.prog 34 0 0 := FA_mk 1 0 Tryd.underlying34 rfl RK RD rfl
theorem fa34_1 : FA Tryd.prog 34 1 1 := FA_mk 1 1 Tryd.underlying34 rfl RK RD rfl
theorem fa37_0 : FA Tryd.prog 37 0 0 := FA_mk 1 0 Tryd.underlying37 rfl RK RD rfl
theorem fa37_1 : FA Tryd.prog 37 1 1 := FA_mk 2 1 Tryd.underlying37 rfl RK RD rfl
theorem fa37_2 : FA Tryd.prog 37 2 3 := FA_mk 1 3 Tryd.underlying37 rfl RK RD rfl
theorem fa39_0 : FA Tryd.prog 39 0 0 := FA_mk 1 0 Tryd.underlying39 rfl RK RD rfl
theorem fa39_1 : FA Tryd.prog 39 1 1 := FA_mk 1 1 Tryd.underlying39 rfl RK RD rfl
theorem fa39_2 : FA Tryd.prog 39 2 2 := FA_mk 4 2 Tryd.underlying39 rfl RK RD rfl
theorem fa39_3 : FA Tryd.prog 39 3 6 := FA_mk 1 6 Tryd.underlying39 rfl RK RD rfl
theorem fa39_4 : FA Tryd.prog 39 4 7 := FA_mk 4 7 Tryd.underlying39 rfl RK RD rfl
theorem fa44_0 : FA Tryd.prog 44 0 0 := FA_mk 1 0 Tryd.underlying44 rfl RK RD rfl
theorem fa44_1 : FA Tryd.prog 44 1 1 := FA_mk 1 1 Tryd.underlying44 rfl RK RD rfl
theorem fa47_0 : FA Tryd.prog 47 0 0 := FA_mk 1 0 Tryd.underlying47 rfl RK RD rfl
theorem fa47_1 : FA Tryd.prog 47 1 1 := FA_mk 2 1 Tryd.underlying47 rfl RK RD rfl
theorem fa47_2 : FA Tryd.prog 47 2 3 := FA_mk 1 3 Tryd.underlying47 rfl RK RD rfl
theorem fa49_0 : FA Tryd.prog 49 0 0 := FA_mk 1 0 Tryd.underlying49 rfl RK RD rfl
theorem fa49_1 : FA Tryd.prog 49 1 1 := FA_mk 1 1 Tryd.underlying49 rfl RK RD rfl
theorem fa49_2 : FA Tryd.prog 49 2 2 := FA_mk 4 2 Tryd.underlying49 rfl RK RD rfl
theorem fa49_3 : FA Tryd.prog 49 3 6 := FA_mk 1 6 Tryd.underlying49 rfl RK RD rfl
theorem fa49_4 : FA Tryd.prog 49 4 7 := FA_mk 4 7 Tryd.underlying49 rfl RK RD rfl
theorem fa67_0 : FA Tryd.prog 67 0 0 := FA_mk 1 0 Tryd.underlying67 rfl RK RD rfl
theorem fa67_1 : FA Tryd.prog 67 1 1 := FA_mk 1 1 Tryd.underlying67 rfl RK RD rfl
theorem fa87_0 : FA Tryd.prog 87 0 0 := FA_mk 1 0 Tryd.underlying87 rfl RK RD rfl
theorem fa87_1 : FA Tryd.prog 87 1 1 := FA_mk 1 1 Tryd.underlying87 rfl RK RD rfl
theorem go10 : Goes Tryd.prog 10 := ⟨_, Tryd.func10, RK, rfl⟩
theorem go12 : Goes Tryd.prog 12 := ⟨_, Tryd.func12, RK, rfl⟩
theorem go14 : Goes Tryd.prog 14 := ⟨_, Tryd.func14, RK, rfl⟩
theorem go15 : Goes Tryd.prog 15 := ⟨_, Tryd.func15, RK, rfl⟩
theorem go16 : Goes Tryd.prog 16 := ⟨_, Tryd.func16, RK, rfl⟩
theorem go17 : Goes Tryd.prog 17 := ⟨_, Tryd.func17, RK, rfl⟩
theorem go18 : Goes Tryd.prog 18 := ⟨_, Tryd.func18, RK, rfl⟩
theorem go19 : Goes Tryd.prog 19 := ⟨_, Tryd.func19, RK, rfl⟩
theorem go20 : Goes Tryd.prog 20 := ⟨_, Tryd.func20, RK, rfl⟩
theorem go23 : Goes Tryd.prog 23 := ⟨_, Tryd.func23, RK, rfl⟩
theorem go24 : Goes Tryd.prog 24 := ⟨_, Tryd.func24, RK, rfl⟩
theorem go25 : Goes Tryd.prog 25 := ⟨_, Tryd.func25, RK, rfl⟩
theorem go26 : Goes Tryd.prog 26 := ⟨_, Tryd.func26, RK, rfl⟩
theorem go27 : Goes Tryd.prog 27 := ⟨_, Tryd.func27, RK, rfl⟩
theorem go28 : Goes Tryd.prog 28 := ⟨_, Tryd.func28, RK, rfl⟩
theorem go29 : Goes Tryd.prog 29 := ⟨_, Tryd.func29, RK, rfl⟩
theorem go30 : Goes Tryd.prog 30 := ⟨_, Tryd.func30, RK, rfl⟩
theorem go31 : Goes Tryd.prog 31 := ⟨_, Tryd.func31, RK, rfl⟩
theorem go32 : Goes Tryd.prog 32 := ⟨_, Tryd.func32, RK, rfl⟩
theorem go39 : Goes Tryd.prog 39 := ⟨_, Tryd.func39, RK, rfl⟩
theorem go40 : Goes Tryd.prog 40 := ⟨_, Tryd.func40, RK, rfl⟩
theorem go41 : Goes Tryd.prog 41 := ⟨_, Tryd.func41, RK, rfl⟩
theorem go42 : Goes Tryd.prog 42 := ⟨_, Tryd.func42, RK, rfl⟩
theorem go43 : Goes Tryd.prog 43 := ⟨_, Tryd.func43, RK, rfl⟩
theorem go44 : Goes Tryd.prog 44 := ⟨_, Tryd.func44, RK, rfl⟩
theorem go45 : Goes Tryd.prog 45 := ⟨_, Tryd.func45, RK, rfl⟩
theorem go46 : Goes Tryd.prog 46 := ⟨_, Tryd.func46, RK, rfl⟩
theorem go47 : Goes Tryd.prog 47 := ⟨_, Tryd.func47, RK, rfl⟩
theorem go48 : Goes Tryd.prog 48 := ⟨_, Tryd.func48, RK, rfl⟩
theorem go49 : Goes Tryd.prog 49 := ⟨_, Tryd.func49, RK, rfl⟩
theorem go50 : Goes Tryd.prog 50 := ⟨_, Tryd.func50, RK, rfl⟩
theorem go51 : Goes Tryd.prog 51 := ⟨_, Tryd.func51, RK, rfl⟩
theorem go52 : Goes Tryd.prog 52 := ⟨_, Tryd.func52, RK, rfl⟩
theorem go53 : Goes Tryd.prog 53 := ⟨_, Tryd.func53, RK, rfl⟩
theorem go6 : Goes Tryd.prog 6 := ⟨_, Tryd.func6, RK, rfl⟩
theorem go68 : Goes Tryd.prog 68 := ⟨_, Tryd.func68, RK, rfl⟩
theorem go69 : Goes Tryd.prog 69 := ⟨_, Tryd.func69, RK, rfl⟩
theorem go7 : Goes Tryd.prog 7 := ⟨_, Tryd.func7, RK, rfl⟩
theorem go70 : Goes Tryd.prog 70 := ⟨_, Tryd.func70, RK, rfl⟩
theorem go71 : Goes Tryd.prog 71 := ⟨_, Tryd.func71, RK, rfl⟩
theorem go72 : Goes Tryd.prog 72 := ⟨_, Tryd.func72, RK, rfl⟩
theorem go73 : Goes Tryd.prog 73 := ⟨_, Tryd.func73, RK, rfl⟩
theorem go74 : Goes Tryd.prog 74 := ⟨_, Tryd.func74, RK, rfl⟩
theorem go75 : Goes Tryd.prog 75 := ⟨_, Tryd.func75, RK, rfl⟩
theorem go76 : Goes Tryd.prog 76 := ⟨_, Tryd.func76, RK, rfl⟩
theorem go77 : Goes Tryd.prog 77 := ⟨_, Tryd.func77, RK, rfl⟩
theorem go78 : Goes Tryd.prog 78 := ⟨_, Tryd.func78, RK, rfl⟩
theorem go79 : Goes Tryd.prog 79 := ⟨_, Tryd.func79, RK, rfl⟩
theorem go8 : Goes Tryd.prog 8 := ⟨_, Tryd.func8, RK, rfl⟩
theorem go80 : Goes Tryd.prog 80 := ⟨_, Tryd.func80, RK, rfl⟩
theorem go82 : Goes Tryd.prog 82 := ⟨_, Tryd.func82, RK, rfl⟩
theorem go83 : Goes Tryd.prog 83 := ⟨_, Tryd.func83, RK, rfl⟩
theorem go88 : Goes Tryd.prog 88 := ⟨_, Tryd.func88, RK, rfl⟩
theorem go89 : Goes Tryd.prog 89 := ⟨_, Tryd.func89, RK, rfl⟩
theorem go9 : Goes Tryd.prog 9 := ⟨_, Tryd.func9, RK, rfl⟩
theorem go90 : Goes Tryd.prog 90 := ⟨_, Tryd.func90, RK, rfl⟩
theorem go91 : Goes Tryd.prog 91 := ⟨_, Tryd.func91, RK, rfl⟩
theorem go93 : Goes Tryd.prog 93 := ⟨_, Tryd.func93, RK, rfl⟩
theorem go95 : Goes Tryd.prog 95 := ⟨_, Tryd.func95, RK, rfl⟩
theorem sz107 : SizeOf Tryd.prog 107 2 := SizeOf_mk RK
theorem sz119 : SizeOf Tryd.prog 119 2 := SizeOf_mk RK
theorem sz3 : SizeOf Tryd.prog 3 1 := SizeOf_mk RK
theorem sz32 : SizeOf Tryd.prog 32 1 := SizeOf_mk RK
theorem sz34 : SizeOf Tryd.prog 34 2 := SizeOf_mk RK
theorem sz35 : SizeOf Tryd.prog 35 1 := SizeOf_mk RK
theorem sz37 : SizeOf Tryd.prog 37 4 := SizeOf_mk RK
theorem sz39 : SizeOf Tryd.prog 39 11 := SizeOf_mk RK
theorem sz4 : SizeOf Tryd.prog 4 1 := SizeOf_mk RK
theorem sz44 : SizeOf Tryd.prog 44 2 := SizeOf_mk RK
theorem sz47 : SizeOf Tryd.prog 47 4 := SizeOf_mk RK
theorem sz49 : SizeOf Tryd.prog 49 11 := SizeOf_mk RK
theorem sz67 : SizeOf Tryd.prog 67 2 := SizeOf_mk RK
theorem sz87 : SizeOf Tryd.prog 87 2 := SizeOf_mk RK
theorem sz9 : SizeOf Tryd.prog 9 1 := SizeOf_mk RK
theorem ze34 : ZeroOf Tryd.prog 34 [.int .i64 0, .slice none 0 0] := ZeroOf_mk (z := .agg #[.int .i64 0, .slice none 0 0]) RK rfl
theorem ze37 : ZeroOf Tryd.prog 37 [vs [], .int .i64 0, .slice none 0 0, .slice none 0 0] := ZeroOf_mk (z := .agg #[vs [], .int .i64 0, .slice none 0 0, .slice none 0 0]) RK rfl
theorem ze39 : ZeroOf Tryd.prog 39 [vs [], vb false, vs [], .int .i64 0, .slice none 0 0, .slice none 0 0, vb false, vs [], .int .i64 0, .slice none 0 0, .slice none 0 0] := ZeroOf_mk (z := .agg #[vs [], vb false, vs [], .int .i64 0, .slice none 0 0, .slice none 0 0, vb false, vs [], .int .i64 0, .slice none 0 0, .slice none 0 0]) RK rfl
theorem ze67 : ZeroOf Tryd.prog 67 [vs [], vs []] := ZeroOf_mk (z := .agg #[vs [], vs []]) RK rfl
theorem ze87 : ZeroOf Tryd.prog 87 [.int .i64 0, .int .i64 0] := ZeroOf_mk (z := .agg #[.int .i64 0, .int .i64 0]) RK rfl
def vPt (x : Pt) : Prop := (I64 x.X) ∧ (I64 x.Y)
theorem tr119 : Tr Tryd.prog 119 kPt vPt := Tr.iso (Tr.struct (tot := 2) Tryd.underlying119 (by kernel_rfl) (TrF.cons (n := 1) (Tr.int Tryd.underlying3) rfl (by kernel_rfl) (TrF.one (n := 1) (Tr.int Tryd.underlying3) rfl (by kernel_rfl) (by decide)))) (fun x : Pt => (x.X, x.Y)) (fun a => (⟨a.1, a.2⟩ : Pt)) (fun _ => rfl)
def vShape (x : Shape) : Prop := (I64 x.Kind) ∧ (∀ y0 ∈ x.Pts, vPt y0)
theorem tr44 : Tr Tryd.prog 44 kShape vShape := Tr.iso (Tr.struct (tot := 2) Tryd.underlying44 (by kernel_rfl) (TrF.cons (n := 1) (Tr.int Tryd.underlying3) rfl (by kernel_rfl) (TrF.one (n := 1) (Tr.sl Tryd.underlying42 (by kernel_rfl) tr119) rfl (by kernel_rfl) (by decide)))) (fun x : Shape => (x.Kind, x.Pts)) (fun a => (⟨a.1, a.2⟩ : Shape)) (fun _ => rfl)
def vTag (x : Tag) : Prop := (Lim x.Key) ∧ (Lim x.Val)
theorem tr107 : Tr Tryd.prog 107 kTag vTag := Tr.iso (Tr.struct (tot := 2) Tryd.underlying107 (by kernel_rfl) (TrF.cons (n := 1) (Tr.str Tryd.underlying9) rfl (by kernel_rfl) (TrF.one (n := 1) (Tr.str Tryd.underlying9) rfl (by kernel_rfl) (by decide)))) (fun x : Tag => (x.Key, x.Val)) (fun a => (⟨a.1, a.2⟩ : Tag)) (fun _ => rfl)
def vFeat (x : Feat) : Prop := (Lim x.Id) ∧ (vShape x.Shape) ∧ (∀ y0 ∈ x.Tags, vTag y0)
theorem tr47 : Tr Tryd.prog 47 kFeat vFeat := Tr.iso (Tr.struct (tot := 4) Tryd.underlying47 (by kernel_rfl) (TrF.cons (n := 1) (Tr.str Tryd.underlying9) rfl (by kernel_rfl) (TrF.cons (n := 2) (tr44) rfl (by kernel_rfl) (TrF.one (n := 1) (Tr.sl Tryd.underlying45 (by kernel_rfl) tr107) rfl (by kernel_rfl) (by decide))))) (fun x : Feat => (x.Id, x.Shape, x.Tags)) (fun a => (⟨a.1, a.2.1, a.2.2⟩ : Feat)) (fun _ => rfl)
def vChange (x : Change) : Prop := (Lim x.Id) ∧ (True) ∧ (vFeat x.Was) ∧ (True) ∧ (vFeat x.Now)
theorem tr49 : Tr Tryd.prog 49 kChange vChange := Tr.iso (Tr.struct (tot := 11) Tryd.underlying49 (by kernel_rfl) (TrF.cons (n := 1) (Tr.str Tryd.underlying9) rfl (by kernel_rfl) (TrF.cons (n := 1) (Tr.bool Tryd.underlying4) rfl (by kernel_rfl) (TrF.cons (n := 4) (tr47) rfl (by kernel_rfl) (TrF.cons (n := 1) (Tr.bool Tryd.underlying4) rfl (by kernel_rfl) (TrF.one (n := 4) (tr47) rfl (by kernel_rfl) (by decide))))))) (fun x : Change => (x.Id, x.Had, x.Was, x.Has, x.Now)) (fun a => (⟨a.1, a.2.1, a.2.2.1, a.2.2.2.1, a.2.2.2.2⟩ : Change)) (fun _ => rfl)
section
class Bulk (α : Type) where
 bulk : α → Nat
def bulk {α : Type} [Bulk α] : α → Nat := Bulk.bulk
instance : Bulk Int := ⟨fun _ => 0⟩
instance : Bulk Bool := ⟨fun _ => 0⟩
instance : Bulk UInt8 := ⟨fun _ => 0⟩
def bulkL {α : Type} [Bulk α] : List α → Nat
 | [] => 0
 | x :: l => 1 + Bulk.bulk x + bulkL l
instance {α : Type} [Bulk α] : Bulk (List α) := ⟨bulkL⟩
section
variable {α : Type} [Bulk α]
theorem bulk_nil : bulk ([] : List α) = 0 := rfl
theorem bulk_cons (x : α) (l : List α) : bulk (x :: l) = 1 + bulk x + bulk l := rfl
theorem bulk_app (l m : List α) : bulk (l ++ m) = bulk l + bulk m := by
 induction l with
 | nil => simp [bulk_nil]
 | cons x l ih => rw [List.cons_append, bulk_cons, bulk_cons, ih]; omega
theorem bulk_len (l : List α) : l.length ≤ bulk l := by
 induction l with
 | nil => exact Nat.zero_le _
 | cons x l ih => rw [bulk_cons, List.length_cons]; omega
theorem bulk_mem {l : List α} {x : α} (h : x ∈ l) : 1 + bulk x ≤ bulk l := by
 induction l with
 | nil => cases h
 | cons y l ih =>
  rw [bulk_cons]
  rcases List.mem_cons.1 h with rfl | h
  ·omega
  ·have := ih h; omega
theorem bulk_flat (h : ∀ x : α, bulk x = 0) (l : List α) : bulk l = l.length := by
 induction l with
 | nil => rfl
 | cons x l ih => rw [bulk_cons, h, ih, List.length_cons]; omega
theorem bulk_str (l : Str) : bulk l = l.length := bulk_flat (fun _ => rfl) l
end
section
variable {α : Type} [Inhabited α]
theorem nth_nat (l : List α) {k : Nat} (h : k < l.length) : nth l (k : Int) = l[k] := by
 unfold nth; rw [Int.toNat_natCast, List.getD_eq_getElem?_getD, List.getElem?_eq_getElem h]; rfl
theorem nth_mem (l : List α) {k : Nat} (h : k < l.length) : nth l (k : Int) ∈ l := by rw [nth_nat l h]; exact List.getElem_mem h
theorem take_nth (l : List α) {k : Nat} (h : k < l.length) : l.take (k + 1) = l.take k ++ [nth l (k : Int)] := by rw [nth_nat l h]; exact List.take_succ_eq_append_getElem h
theorem ext_nth {l m : List α} (h : l.length = m.length) (g : ∀ k, k < l.length → nth l (k : Int) = nth m (k : Int)) : l = m := by
 refine List.ext_getElem h fun k h1 h2 => ?_
 have := g k h1
 rwa [nth_nat l h1, nth_nat m h2] at this
end
theorem szS_shape {α : Type} [Inhabited α] [Bulk α] (el : α → Int → (Int → Prop) → Prop)
  (hel : ∀ (x : α) (left : Int) (Q : Int → Prop), 0 ≤ left → left ≤ 1048576 → (left - (bulk x : Nat) < 0 → Q (-1)) → (0 ≤ left - (bulk x : Nat) → Q (left - (bulk x : Nat))) → el x left Q)
  (a : List α) (left : Int) (Q : Int → Prop) (h0 : 0 ≤ left) (h1 : left ≤ 1048576) (hn : left - (bulk a : Nat) < 0 → Q (-1)) (hp : 0 ≤ left - (bulk a : Nat) → Q (left - (bulk a : Nat))) :
  ((a.length : Int) ≤ 9223372036854775807 → I64 (left - (a.length : Int))) ∧ (if decide (left - (a.length : Int) < 0) then Q (-1) else (∃ (I22 : Int → Int → Prop) (mu23 : Int → Int → Nat), I22 (left - (a.length : Int)) 0 ∧ ∀ (left3 : Int) (i2 : Int), I22 left3 i2 → (if decide (i2 < (a.length : Int)) then ((0 : Int) ≤ i2 ∧ i2 < (a.length : Int)) ∧ el (nth a i2) left3 (fun r => (if decide (r < 0) then Q (-1) else (-9223372036854775808 ≤ i2) ∧ I22 r (i2 + 1) ∧ mu23 r (i2 + 1) < mu23 left3 i2)) else Q left3))) := by
 have hl := bulk_len a
 refine ⟨fun _ => by unfold I64; omega, ?_⟩
 by_cases hc : left - (a.length : Int) < 0
 ·rw [if_pos (by simpa using hc)]; exact hn OM
 rw [if_neg (by simpa using hc)]
 refine ⟨fun l i => ∃ k : Nat, i = k ∧ k ≤ a.length ∧ 0 ≤ l ∧ l = left - (bulk (a.take k) : Nat) - ((a.length - k : Nat) : Int), fun _ i => (a.length - i).toNat, ⟨0, rfl, OM, OM, by simp [bulk_nil]⟩, ?_⟩
 rintro l _ ⟨k, rfl, hk, hl0, hle⟩
 by_cases hki : (k : Int) < (a.length : Int)
 ·rw [if_pos (by simpa using hki)]
  have hk' : k < a.length := by omega
  have e := take_nth a hk'
  have hb : bulk (a.take (k + 1)) = bulk (a.take k) + (1 + bulk (nth a (k : Int))) := by rw [e, bulk_app, bulk_cons, bulk_nil]; omega
  have ht := bulk_app (a.take (k + 1)) (a.drop (k + 1))
  rw [List.take_append_drop] at ht
  have hdl := bulk_len (a.drop (k + 1))
  rw [List.length_drop] at hdl
  refine ⟨⟨OM, hki⟩, hel (nth a (k : Int)) l _ hl0 OM (fun h => ?_) (fun h => ?_)⟩
  ·rw [if_pos RD]; exact hn OM
  ·rw [if_neg (by simpa using h)]
   refine ⟨OM, ⟨k + 1, OM, OM, h, ?_⟩, by dsimp only; omega⟩
   rw [hb]; omega
 ·rw [if_neg (by simpa using hki)]
  have : k = a.length := by omega
  subst this
  rw [List.take_length, Nat.sub_self] at hle
  have : l = left - (bulk a : Nat) := by omega
  subst this
  exact hp hl0
theorem szL_shape {α : Type} [Bulk α] (hz : ∀ x : α, bulk x = 0) (a : List α) (left : Int) (Q : Int → Prop) (h0 : 0 ≤ left) (h1 : left ≤ 1048576) (hn : left - (bulk a : Nat) < 0 → Q (-1)) (hp : 0 ≤ left - (bulk a : Nat) → Q (left - (bulk a : Nat))) :
  ((a.length : Int) ≤ 9223372036854775807 → I64 (left - (a.length : Int))) ∧ (if decide (left - (a.length : Int) < 0) then Q (-1) else Q (left - (a.length : Int))) := by
 have hl := bulk_flat hz a
 rw [hl] at hn hp
 refine ⟨fun _ => by unfold I64; have := hn; by_cases h : left - (a.length : Int) < 0 <;> omega, ?_⟩
 by_cases hc : left - (a.length : Int) < 0
 ·rw [if_pos (by simpa using hc)]; exact hn hc
 ·rw [if_neg (by simpa using hc)]; exact hp OM
theorem toS_shape {α : Type} [Inhabited α] [Bulk α] (z : α) (el : α → (α → Prop) → Prop) (hel : ∀ x (Q : α → Prop), bulk x ≤ 1048576 → Q x → el x Q) (a : List α) (Q : List α → Prop) (ha : bulk a ≤ 1048576) (hq : Q a) :
  ((0 : Int) ≤ (a.length : Int) ∧ (a.length : Int) ≤ (268435456 : Int)) ∧ (∃ (I41 : (List α) → Int → Prop) (mu42 : (List α) → Int → Nat), I41 (List.replicate (a.length : Int).toNat z) 0 ∧ ∀ (xs2 : List α) (i2 : Int), I41 xs2 i2 → (if decide (i2 < (a.length : Int)) then ((0 : Int) ≤ i2 ∧ i2 < (a.length : Int)) ∧ el (nth a i2) (fun r => ((0 : Int) ≤ i2 ∧ i2 < (xs2.length : Int)) ∧ (-9223372036854775808 ≤ i2) ∧ I41 (xs2.set i2.toNat r) (i2 + 1) ∧ mu42 (xs2.set i2.toNat r) (i2 + 1) < mu42 xs2 i2) else Q xs2)) := by
 have hl := bulk_len a
 refine ⟨⟨OM, OM⟩, fun xs i => ∃ k : Nat, i = k ∧ k ≤ a.length ∧ xs.length = a.length ∧ xs.take k = a.take k, fun _ i => (a.length - i).toNat, ⟨0, rfl, OM, by simp, by simp⟩, ?_⟩
 rintro xs _ ⟨k, rfl, hk, hxl, ht⟩
 by_cases hki : (k : Int) < (a.length : Int)
 ·rw [if_pos (by simpa using hki)]
  have hk' : k < a.length := by omega
  refine ⟨⟨OM, hki⟩, hel _ _ (by have := bulk_mem (nth_mem a hk'); omega) ⟨⟨OM, OM⟩, OM, ⟨k + 1, OM, OM, by simp [hxl], ?_⟩, by dsimp only; omega⟩⟩
  rw [Int.toNat_natCast, List.take_succ_eq_append_getElem (by simp; omega), take_nth a hk', List.getElem_set_self, List.take_set_of_le (Nat.le_refl _), ht]
 ·rw [if_neg (by simpa using hki)]
  have : k = a.length := by omega
  subst this
  rw [List.take_of_length_le OM, List.take_length] at ht
  subst ht; exact hq
theorem eqS_shape {α : Type} [Inhabited α] [DecidableEq α] (el : α → α → Bool) (hel : ∀ x y, el x y = decide (x = y)) (a b : List α) (Q : Bool → Prop) (hq : Q (decide (a = b))) :
  (if (a.length : Int) != (b.length : Int) then Q false else (∃ (I32 : Int → Prop) (mu33 : Int → Nat), I32 0 ∧ ∀ (i2 : Int), I32 i2 → (if decide (i2 < (a.length : Int)) then ((0 : Int) ≤ i2 ∧ i2 < (a.length : Int)) ∧ ((0 : Int) ≤ i2 ∧ i2 < (b.length : Int)) ∧ (if !(el (nth a i2) (nth b i2)) then Q false else (-9223372036854775808 ≤ i2) ∧ I32 (i2 + 1) ∧ mu33 (i2 + 1) < mu33 i2) else Q true))) := by
 by_cases hl : a.length = b.length
 ·rw [if_neg (by simp [hl])]
  refine ⟨fun i => ∃ k : Nat, i = k ∧ k ≤ a.length ∧ ∀ j, j < k → nth a (j : Int) = nth b (j : Int), fun i => (a.length - i).toNat, ⟨0, rfl, OM, fun j hj => absurd hj OM⟩, ?_⟩
  rintro _ ⟨k, rfl, hk, ht⟩
  by_cases hki : (k : Int) < (a.length : Int)
  ·rw [if_pos (by simpa using hki)]
   refine ⟨⟨OM, hki⟩, ⟨OM, OM⟩, ?_⟩
   rw [hel]
   by_cases he : nth a (k : Int) = nth b (k : Int)
   ·rw [if_neg (by rw [decide_eq_true he]; exact Bool.false_ne_true)]
    refine ⟨OM, ⟨k + 1, OM, OM, fun j hj => ?_⟩, by dsimp only; omega⟩
    by_cases hjk : j = k
    ·subst hjk; exact he
    ·exact ht j OM
   ·rw [if_pos (by rw [decide_eq_false he]; rfl)]
    have : decide (a = b) = false := by
     simp only [decide_eq_false_iff_not]; rintro rfl; exact he rfl
    rw [this] at hq; exact hq
  ·rw [if_neg (by simpa using hki)]
   have : a = b := ext_nth hl fun j hj => ht j OM
   rw [decide_eq_true this] at hq; exact hq
 ·rw [if_pos (by simp; omega)]
  have : decide (a = b) = false := by
   simp only [decide_eq_false_iff_not]; rintro rfl; exact hl rfl
  rw [this] at hq; exact hq
theorem eqI_shape {α : Type} [Inhabited α] [DecidableEq α] (el : α → α → Bool) (hel : ∀ x y, el x y = decide (x = y)) (a b : List α) (Q : Bool → Prop) (hb : a.length ≤ 1048576) (hq : Q (decide (a = b))) :
  (if (a.length : Int) != (b.length : Int) then Q false else (∃ (I32 : Int → Prop) (mu33 : Int → Nat), I32 0 ∧ ∀ (i2 : Int), I32 i2 → (if decide (i2 < (a.length : Int)) then ((0 : Int) ≤ i2 ∧ i2 < (a.length : Int)) ∧ ((0 : Int) ≤ i2 ∧ i2 < (b.length : Int)) ∧ (if !(el (nth a i2) (nth b i2)) then Q false else (I64 (i2 + 1)) ∧ I32 (i2 + 1) ∧ mu33 (i2 + 1) < mu33 i2) else Q true))) := by
 have h := eqS_shape el hel a b Q hq
 by_cases hl : ((a.length : Int) != (b.length : Int)) = true
 ·rw [if_pos hl] at h ⊢; exact h
 ·rw [if_neg hl] at h ⊢
  obtain ⟨I, mu, h0, h1⟩ := h
  refine ⟨fun i => 0 ≤ i ∧ I i, mu, ⟨OM, h0⟩, fun i ⟨hp, hi⟩ => ?_⟩
  have h2 := h1 i hi
  by_cases hc : decide (i < (a.length : Int)) = true
  ·rw [if_pos hc] at h2 ⊢
   have hc' : i < (a.length : Int) := by simpa using hc
   refine ⟨h2.1, h2.2.1, ?_⟩
   have h3 := h2.2.2
   by_cases he : (!(el (nth a i) (nth b i))) = true
   ·rw [if_pos he] at h3 ⊢; exact h3
   ·rw [if_neg he] at h3 ⊢
    exact ⟨by unfold I64; omega, ⟨OM, h3.2.1⟩, h3.2.2⟩
  ·rw [if_neg hc] at h2 ⊢; exact h2
end
instance : Bulk Pt := ⟨fun x => bulk x.X + bulk x.Y⟩
instance : Bulk Shape := ⟨fun x => bulk x.Kind + bulk x.Pts⟩
instance : Bulk Tag := ⟨fun x => bulk x.Key + bulk x.Val⟩
instance : Bulk Feat := ⟨fun x => bulk x.Id + bulk x.Shape + bulk x.Tags⟩
instance : Bulk Change := ⟨fun x => bulk x.Id + bulk x.Had + bulk x.Was + bulk x.Has + bulk x.Now⟩
instance : Bulk l12Rd := ⟨fun x => bulk x.b + bulk x.p⟩
theorem Z {α : Sort _} {a : α} : a = a := rfl
abbrev G := Go.Value.slice
theorem Xk {P : Program} {n : Nat} {t : Tm} {ty : TypeId} {pos : String} {aft : Array Edge} {d : Nat} {x y z : Operand} {C : World → Prop} (b : Bool) (v : Value) {c : Bool} (e : c = b) (h : (evt n t x, (bif b then evt n t y else evt n t z)) = (vb c, v)) : Pu P n t C ⟨some d, .pick x y z, ty, pos, aft, none⟩ v := by
  simp only [Prod.mk.injEq] at h
  exact Yj b v (h.1.trans (congrArg Value.bool e)) h.2
abbrev u42_ := @Tryd.underlying42
abbrev u9_ := @Tryd.underlying9
abbrev u45_ := @Tryd.underlying45
abbrev u22_ := @Tryd.underlying22
abbrev u32_ := @Tryd.underlying32
abbrev u35_ := @Tryd.underlying35
abbrev u25_ := @Tryd.underlying25
abbrev u5_ := @Tryd.underlying5
theorem RP {l m : Ob} (h : l.Perm m := by exact (pc fun a => by (try simp only [pca, pcc, pcn, Nat.add_zero, Nat.zero_add]); first | done | ac_rfl)) : l.Perm m := h
abbrev Gk (w0 w' : World) (L O : Ob) (R : Prop) : Prop := Gr w0 w' none ∧ Ok w' (L ++ O) ∧ (∀ b, some b ∈ L → w0.heap.size ≤ b) ∧ R
theorem X0 {P : Program} {n : Nat} {N R : Ps} {X : Nat → Ps} {t : Tm} {w : World} {ops : Array Oper} {rest : List Oper} {ty : TypeId} {pos : String} {aft : Array Edge} {d : Nat} {f : FuncId} (hg : Goes P f) {ax : Array Operand} {ts : Array TypeId} {args : List Value} {Q : Value → World → Prop} (h : Ret P f args w Q) (ha0 : ax.toList.map (evt n t) = args) (k : ∀ v w', Q v w' → L P n ops N R X rest (upd d v t) w') :
  L P n ops N R X (⟨some d, .call ⟨.value (.func f), ax, ts⟩, ty, pos, aft, none⟩ :: rest) t w := Zb hg args ha0 (h.mono k)
abbrev Pz (b : Nat) : Value := .pointer (some ⟨b, 0, none⟩)
abbrev Ad (b o : Nat) : Addr := ⟨b, o, none⟩
abbrev Cw (r : Ob) (w0 w : World) (L O : Ob) (R : Ob → Prop) : Prop := Ct r w0 w L O ∧ R (L ++ O)
theorem Z1 {P : Program} {n : Nat} {t : Tm} {ty : TypeId} {pos : String} {aft : Array Edge} {d : Nat} {x : Operand} {C : World → Prop} {T : TypeId} {s : Nat} (hT : IsAgg P T true) (hs : SizeOf P T s) {w1 : World} (hC : ∀ x, C x → Gr w1 x none) {b : Nat} {cs : List Value} (hB : Bx w1 b cs) (hx : evt n t x = .pointer (some ⟨b, 0, none⟩)) (hl : cs.length = s) : Pu P n t C ⟨some d, .load T x, ty, pos, aft, none⟩ (.agg cs.toArray) :=
  Xv hT hs hC _ cs hx hl (hB.cells (off := 0) (by simp))
section
variable {P : Program} {n : Nat} {N R : Ps} {X : Nat → Ps} {t : Tm} {w : World} {ops : Array Oper} {rest : List Oper} {ty : TypeId} {pos : String} {aft : Array Edge} {x y : Operand}
theorem Yt {T : TypeId} {b : Nat} {cs : List Value} (off : Nat) (us cs' : List Value) (hB : Bx w b cs) (hx : evt n t x = .pointer (some ⟨b, off, none⟩)) (hy : (evt n t y).cells = us.toArray) (hs : SizeOf P T us.length) (h1' : us.all Value.oneCell' = true)
  (hl' : Nat.ble (off + us.length) cs.length = true) (hcs : cs.take off ++ us ++ cs.drop (off + us.length) = cs') (k : ∀ w', Gr w w' (some b) → Bx w' b cs' → L P n ops N R X rest t w') :
  L P n ops N R X (⟨none, .store T x y, ty, pos, aft, none⟩ :: rest) t w := Za b off cs us cs' hx hB hy hs h1' hl' hcs k
theorem Yu {T : TypeId} {b : Nat} {cs : List Value} (us : List Value) (hB : Bx w b cs) (hx : evt n t x = .pointer (some ⟨b, 0, none⟩)) (hy : (evt n t y).cells = us.toArray) (hs : SizeOf P T us.length) (h1' : us.all Value.oneCell' = true)
  (hl : us.length = cs.length) (k : ∀ w', Gr w w' (some b) → Bx w' b us → L P n ops N R X rest t w') :
  L P n ops N R X (⟨none, .store T x y, ty, pos, aft, none⟩ :: rest) t w := Za b 0 cs us us hx hB hy hs h1' (Nat.ble_eq_true_of_le (by omega)) (by rw [Nat.zero_add, hl]; simp) k
end
variable {O : Ob} {w0 : World}
def F68.E (a : List Pt) (left : Int) (Q : Int → Prop) : Prop :=
 ((a.length : Int) ≤ 9223372036854775807 → I64 (left - (a.length : Int))) ∧ (if decide (left - (a.length : Int) < 0) then Q (-1) else Q (left - (a.length : Int)))
theorem F68.calls {a : List Pt} {A1 : Option Addr} {n2 c3 : Nat} {left : Int} {Q : Int → Prop} (H : F68.E a left Q) (hO : Ok w0 O) (hp4 : Sl kPt w0 (Fr O) (G A1 n2 c3) a) :
  Ret Tryd.prog 74 [G A1 n2 c3, vi left] w0 (fun v w' => ∃ (r0 : Int), v = vi r0 ∧ Q r0 ∧ Gr w0 w' none ∧ w' = w0) := by
 unfold F68.E at H;have hc0 := Ct.init hO;refine X3 Tryd.func74 Z 12 Z [.tmp 4] Z Z ?_;refine Xb (Xd (Xf (vi 0) Z (Xc (Xb (Xd (Xg (vi left) Z (Xg (G A1 n2 c3) Z ?_)))))));have hl6 := hp4.le;refine Xa (X6 u42_ A1 n2 c3 hp4.len Z) ?_;obtain ⟨hb7, H⟩ := H;have hi8 := hb7 (len_le hl6);refine Xa (Yr left (a.length : Int) Z Z hi8) (Xf (vi (left - (a.length : Int))) Z (Xc (Xb (Xb (Xd (Xg (vi (left - (a.length : Int))) Z (Xa (Xx (left - (a.length : Int)) 0 (decide (left - (a.length : Int) < 0)) Z Z Z) (Xc ?_))))))));refine Xu (decide (left - (a.length : Int) < 0)) Z (fun hq9 => ?_) (fun hq9 => ?_)
 ·have H := Xo H hq9;exact Xb (Xd (Xf (vi (-1)) Z (Xc (Xl ⟨[vi (-1)], ⟨_, Z, Z⟩, (-1), Z, H, hc0.gr.g0, Z⟩))))
 have H := Xp H hq9;exact Xt (Xb (Xd (Xg (vi (left - (a.length : Int))) Z (Xf (vi (left - (a.length : Int))) Z (Xc (Xl ⟨[vi (left - (a.length : Int))], ⟨_, Z, Z⟩, left - (a.length : Int), Z, H, hc0.gr.g0, Z⟩))))))
def F27.E (a : Shape) (left : Int) (Q : Int → Prop) : Prop :=
 F68.E a.Pts left (fun r => (if decide (r < 0) then Q (-1) else Q r))
theorem F27.calls {a : Shape} {A1 : Option Addr} {n2 c3 : Nat} {left : Int} {Q : Int → Prop} (H : F27.E a left Q) (hO : Ok w0 O) (hp4 : Sl kPt w0 (Fr O) (G A1 n2 c3) a.Pts) :
  Ret Tryd.prog 45 [.agg #[vi a.Kind, G A1 n2 c3], vi left] w0 (fun v w' => ∃ (r0 : Int), v = vi r0 ∧ Q r0 ∧ Gr w0 w' none) := by
 unfold F27.E at H;have hc0 := Ct.init hO;refine X3 Tryd.func45 Z 12 Z [.tmp 4] Z Z ?_;refine Xb (Xd (Ya [vi a.Kind, G A1 n2 c3] Z fun w6 b7 hl9 hu10 g8 ad => ?_));have ae := Fb.mk hc0.ok hl9 ad;have aa := hc0.k0 g8;refine Xf (vi 0) Z (Xc (Xb (Xd (Xa (Xj fa44_1 (Ad b7 0) (Ad b7 1) Z Z) (Xa (Xn ag42 cL (Ad b7 1) (G A1 n2 c3) Z (ae.cell Z)) (Xg (vi left) Z ?_))))));refine X0 go74 (F68.calls H aa.ok (hp4.st aa.st)) Z ?_;rintro _ ag ⟨r, rfl, H, af, _⟩;have ac := aa.k0 af;refine Xf (vi r) Z (Xc (Xb (Xb (Xd (Xg (vi r) Z (Xa (Xx r 0 (decide (r < 0)) Z Z Z) (Xc ?_)))))));refine Xu (decide (r < 0)) Z (fun ab => ?_) (fun ab => ?_)
 ·have H := Xo H ab;exact Xb (Xd (Xf (vi (-1)) Z (Xc (Xl ⟨[vi (-1)], ⟨_, Z, Z⟩, (-1), Z, H, ac.gr.g0⟩))))
 have H := Xp H ab;exact Xt (Xb (Xd (Xg (vi r) Z (Xf (vi r) Z (Xc (Xl ⟨[vi r], ⟨_, Z, Z⟩, r, Z, H, ac.gr.g0⟩))))))
def F69.E (a : Tag) (left : Int) (Q : Int → Prop) : Prop :=
 ((a.Key.length : Int) ≤ 9223372036854775807 → I64 (left - (a.Key.length : Int))) ∧ (if decide (left - (a.Key.length : Int) < 0) then Q (-1) else ((a.Key.length : Int) ≤ 9223372036854775807 → (a.Val.length : Int) ≤ 9223372036854775807 → I64 (left - (a.Key.length : Int) - (a.Val.length : Int))) ∧ (if decide (left - (a.Key.length : Int) - (a.Val.length : Int) < 0) then Q (-1) else Q (left - (a.Key.length : Int) - (a.Val.length : Int))))
theorem F69.calls {a : Tag} {left : Int} {Q : Int → Prop} (H : F69.E a left Q) (hO : Ok w0 O) (hs1 : Lim a.Key) (hs2 : Lim a.Val) :
  Ret Tryd.prog 75 [.agg #[vs a.Key, vs a.Val], vi left] w0 (fun v w' => ∃ (r0 : Int), v = vi r0 ∧ Q r0 ∧ Gr w0 w' none) := by
 unfold F69.E at H;have hc0 := Ct.init hO;refine X3 Tryd.func75 Z 20 Z [.tmp 4] Z Z ?_;refine Xb (Xd (Ya [vs a.Key, vs a.Val] Z fun w3 b4 hl6 hu7 g5 hx8 => ?_));have ad := Fb.mk hc0.ok hl6 hx8;have aa := hc0.k0 g5;refine Xf (vi 0) Z (Xc (Xb (Xd (Xg (vi left) Z (Xa (Xj fa107_0 (Ad b4 0) (Ad b4 0) Z Z) (Xa (Xn ag9 cL (Ad b4 0) (vs a.Key) Z (ad.cell Z)) ?_))))));have ae := hs1;refine Xa (Yx u9_ a.Key Z) ?_;obtain ⟨af, H⟩ := H;have ag := af (len_le ae);refine Xa (Yr left (a.Key.length : Int) Z Z ag) (Xf (vi (left - (a.Key.length : Int))) Z (Xc (Xb (Xb (Xd (Xg (vi (left - (a.Key.length : Int))) Z (Xa (Xx (left - (a.Key.length : Int)) 0 (decide (left - (a.Key.length : Int) < 0)) Z Z Z) (Xc ?_))))))));refine Xu (decide (left - (a.Key.length : Int) < 0)) Z (fun ab => ?_) (fun ab => ?_)
 ·have H := Xo H ab;exact Xb (Xd (Xf (vi (-1)) Z (Xc (Xl ⟨[vi (-1)], ⟨_, Z, Z⟩, (-1), Z, H, aa.gr.g0⟩))))
 have H := Xp H ab;refine Xt (Xb (Xd (Xg (vi (left - (a.Key.length : Int))) Z (Xa (Xj fa107_1 (Ad b4 0) (Ad b4 1) Z Z) (Xa (Xn ag9 cL (Ad b4 1) (vs a.Val) Z (ad.cell Z)) ?_)))));have ah := hs2;refine Xa (Yx u9_ a.Val Z) ?_;obtain ⟨ai, H⟩ := H;have aj := ai (len_le ae) (len_le ah);refine Xa (Yr (left - (a.Key.length : Int)) (a.Val.length : Int) Z Z aj) (Xf (vi (left - (a.Key.length : Int) - (a.Val.length : Int))) Z (Xc (Xb (Xb (Xd (Xg (vi (left - (a.Key.length : Int) - (a.Val.length : Int))) Z (Xa (Xx (left - (a.Key.length : Int) - (a.Val.length : Int)) 0 (decide (left - (a.Key.length : Int) - (a.Val.length : Int) < 0)) Z Z Z) (Xc ?_))))))));refine Xu (decide (left - (a.Key.length : Int) - (a.Val.length : Int) < 0)) Z (fun ac => ?_) (fun ac => ?_)
 ·have H := Xo H ac;exact Xb (Xd (Xf (vi (-1)) Z (Xc (Xl ⟨[vi (-1)], ⟨_, Z, Z⟩, (-1), Z, H, aa.gr.g0⟩))))
 have H := Xp H ac;exact Xt (Xb (Xd (Xg (vi (left - (a.Key.length : Int) - (a.Val.length : Int))) Z (Xf (vi (left - (a.Key.length : Int) - (a.Val.length : Int))) Z (Xc (Xl ⟨[vi (left - (a.Key.length : Int) - (a.Val.length : Int))], ⟨_, Z, Z⟩, left - (a.Key.length : Int) - (a.Val.length : Int), Z, H, aa.gr.g0⟩))))))
def F37.E (a : List Tag) (left : Int) (Q : Int → Prop) : Prop :=
 ((a.length : Int) ≤ 9223372036854775807 → I64 (left - (a.length : Int))) ∧ (if decide (left - (a.length : Int) < 0) then Q (-1) else (∃ (I22 : Int → Int → Prop) (mu23 : Int → Int → Nat), I22 (left - (a.length : Int)) 0 ∧ ∀ (left3 i2 : Int), I22 left3 i2 → (if decide (i2 < (a.length : Int)) then ((0 : Int) ≤ i2 ∧ i2 < (a.length : Int)) ∧ F69.E (nth a i2) left3 (fun r => (if decide (r < 0) then Q (-1) else (-9223372036854775808 ≤ i2) ∧ I22 r (i2 + 1) ∧ mu23 r (i2 + 1) < mu23 left3 i2)) else Q left3)))
theorem F37.calls {a : List Tag} {A1 : Option Addr} {n2 c3 : Nat} {left : Int} {Q : Int → Prop} (H : F37.E a left Q) (hO : Ok w0 O) (hp4 : Sl kTag w0 (Fr O) (G A1 n2 c3) a) :
  Ret Tryd.prog 46 [G A1 n2 c3, vi left] w0 (fun v w' => ∃ (r0 : Int), v = vi r0 ∧ Q r0 ∧ Gr w0 w' none) := by
 unfold F37.E at H;have hc0 := Ct.init hO;refine X3 Tryd.func46 Z 27 Z [.tmp 4] Z Z ?_;refine Xb (Xd (Xf (vi 0) Z (Xc (Xb (Xd (Xg (vi left) Z (Xg (G A1 n2 c3) Z ?_)))))));have hl6 := hp4.le;refine Xa (X6 u45_ A1 n2 c3 hp4.len Z) ?_;obtain ⟨hb7, H⟩ := H;have hi8 := hb7 (len_le hl6);refine Xa (Yr left (a.length : Int) Z Z hi8) (Xf (vi (left - (a.length : Int))) Z (Xc (Xb (Xb (Xd (Xg (vi (left - (a.length : Int))) Z (Xa (Xx (left - (a.length : Int)) 0 (decide (left - (a.length : Int) < 0)) Z Z Z) (Xc ?_))))))));refine Xu (decide (left - (a.length : Int) < 0)) Z (fun hq9 => ?_) (fun hq9 => ?_)
 ·have H := Xo H hq9;exact Xb (Xd (Xf (vi (-1)) Z (Xc (Xl ⟨[vi (-1)], ⟨_, Z, Z⟩, (-1), Z, H, hc0.gr.g0⟩))))
 have H := Xp H hq9;refine Xt (Xb (Xb (Xd (Xf (vi 0) Z (Xc (X5 ?_))))));obtain ⟨ak, al, ae, H⟩ := H;refine Ye (α := Int × Int) (fun (left3, i2) t ab => ak left3 i2 ∧ Has t [(0, G A1 n2 c3), (1, vi left3), (5, vi i2)] ∧ Ct [] w0 ab [] O ∧ Sl kTag ab (Fr ([] ++ O)) (G A1 n2 c3) a) (fun (left3, i2) => al left3 i2) (left - (a.length : Int), 0) ⟨ae, (X2 Z), hc0, hp4⟩ ?_;rintro ⟨left3, i2⟩ _ ab ⟨ae, am, ac, aa⟩;obtain ⟨a0, rfl⟩ := Has.ins am;have H := H left3 i2 ae;refine Xb (Xb (Xd (Xg (vi i2) Z (Xg (G A1 n2 c3) Z ?_))));have an := aa.le;refine Xa (X6 u45_ A1 n2 c3 aa.len Z) (Xa (Xx i2 (a.length : Int) (decide (i2 < (a.length : Int))) Z Z Z) (Xc ?_));refine Xu (decide (i2 < (a.length : Int))) Z (fun ad => ?_) (fun ad => ?_)
 ·have H := Xo H ad;refine Xt (Xb (X5 (Xb (Xd (Xg (G A1 n2 c3) Z (Xg (vi i2) Z ?_))))));obtain ⟨ag, H⟩ := H;obtain ⟨ah, a1, ao, a2, ap, aq⟩ := aa.get default RD i2 ag;obtain ⟨rfl, ar, au⟩ := kTag.op ap;refine Xa (X4 u45_ Zk A1 ah n2 c3 aa.len i2 Z ao Z ag) (Xa (Xv ag107 sz107 cL (ah.add (i2.toNat * 2)) [vs ((nth a i2).Key), vs ((nth a i2).Val)] Z Z aq) (Xg (vi left3) Z ?_));refine X0 go75 (F69.calls H ac.ok ar au) Z ?_;rintro _ a3 ⟨r, rfl, H, ai⟩;have aj := ac.k0 ai;refine Xf (vi r) Z (Xc (Xb (Xd (Xg (vi r) Z (Xa (Xx r 0 (decide (r < 0)) Z Z Z) (Xc ?_))))));refine Xu (decide (r < 0)) Z (fun af => ?_) (fun af => ?_)
  ·have H := Xo H af;exact Xb (Xd (Xf (vi (-1)) Z (Xc (Xl ⟨[vi (-1)], ⟨_, Z, Z⟩, (-1), Z, H, aj.gr.g0⟩))))
  have H := Xp H af;refine Xt (Xd (Xg (vi i2) Z ?_));obtain ⟨av, H⟩ := H;have aw : I64 (i2 + 1) := i64_succ (of_decide_eq_true ad) an av;refine Xa (Yc i2 1 Z Z aw) (Xf (vi (i2 + 1)) Z (Xc ?_));obtain ⟨ax, ay⟩ := H;have az := ac.stn ai;exact ⟨(r, i2 + 1), ay, ax, (X2 Z), aj, (aa.st az)⟩
 have H := Xp H ad;refine Yd (xin_hit ?_);exact Xb (Xd (Xg (vi left3) Z (Xf (vi left3) Z (Xc (Xl ⟨[vi left3], ⟨_, Z, Z⟩, left3, Z, H, ac.gr.g0⟩)))))
def F38.E (a : Feat) (left : Int) (Q : Int → Prop) : Prop :=
 ((a.Id.length : Int) ≤ 9223372036854775807 → I64 (left - (a.Id.length : Int))) ∧ (if decide (left - (a.Id.length : Int) < 0) then Q (-1) else F27.E a.Shape (left - (a.Id.length : Int)) (fun r => (if decide (r < 0) then Q (-1) else F37.E a.Tags r (fun r2 => (if decide (r2 < 0) then Q (-1) else Q r2)))))
theorem F38.calls {a : Feat} {A2 : Option Addr} {n3 c4 : Nat} {A7 : Option Addr} {n8 c9 : Nat} {left : Int} {Q : Int → Prop} (H : F38.E a left Q) (hO : Ok w0 O) (hs1 : Lim a.Id) (hp5 : Sl kPt w0 (Fr O) (G A2 n3 c4) a.Shape.Pts) (aj : Sl kTag w0 (Fr O) (G A7 n8 c9) a.Tags) :
  Ret Tryd.prog 27 [.agg #[vs a.Id, vi a.Shape.Kind, G A2 n3 c4, G A7 n8 c9], vi left] w0 (fun v w' => ∃ (r0 : Int), v = vi r0 ∧ Q r0 ∧ Gr w0 w' none) := by
 unfold F38.E at H;have hc0 := Ct.init hO;refine X3 Tryd.func27 Z 25 Z [.tmp 4] Z Z ?_;refine Xb (Xd (Ya [vs a.Id, vi a.Shape.Kind, G A2 n3 c4, G A7 n8 c9] Z fun ak aa al hu16 am an => ?_));have ad := Fb.mk hc0.ok al an;have ab := hc0.k0 am;refine Xf (vi 0) Z (Xc (Xb (Xd (Xg (vi left) Z (Xa (Xj fa47_0 (Ad aa 0) (Ad aa 0) Z Z) (Xa (Xn ag9 cL (Ad aa 0) (vs a.Id) Z (ad.cell Z)) ?_))))));have ao := hs1;refine Xa (Yx u9_ a.Id Z) ?_;obtain ⟨ap, H⟩ := H;have aq := ap (len_le ao);refine Xa (Yr left (a.Id.length : Int) Z Z aq) (Xf (vi (left - (a.Id.length : Int))) Z (Xc (Xb (Xb (Xd (Xg (vi (left - (a.Id.length : Int))) Z (Xa (Xx (left - (a.Id.length : Int)) 0 (decide (left - (a.Id.length : Int) < 0)) Z Z Z) (Xc ?_))))))));refine Xu (decide (left - (a.Id.length : Int) < 0)) Z (fun ae => ?_) (fun ae => ?_)
 ·have H := Xo H ae;exact Xb (Xd (Xf (vi (-1)) Z (Xc (Xl ⟨[vi (-1)], ⟨_, Z, Z⟩, (-1), Z, H, ab.gr.g0⟩))))
 have H := Xp H ae;refine Xt (Xb (Xd (Xa (Xj fa47_1 (Ad aa 0) (Ad aa 1) Z Z) (Xa (Xv ag44 sz44 cL (Ad aa 1) [vi a.Shape.Kind, G A2 n3 c4] Z Z (ad.cells (off := 1) Z)) (Xg (vi (left - (a.Id.length : Int))) Z ?_)))));refine X0 go45 (F27.calls H ab.ok (hp5.st ab.st)) Z ?_;rintro _ ar ⟨r, rfl, H, ah⟩;have ac := ab.k0 ah;refine Xf (vi r) Z (Xc (Xb (Xb (Xd (Xg (vi r) Z (Xa (Xx r 0 (decide (r < 0)) Z Z Z) (Xc ?_)))))));refine Xu (decide (r < 0)) Z (fun af => ?_) (fun af => ?_)
 ·have H := Xo H af;exact Xb (Xd (Xf (vi (-1)) Z (Xc (Xl ⟨[vi (-1)], ⟨_, Z, Z⟩, (-1), Z, H, ac.gr.g0⟩))))
 have H := Xp H af;refine Xt (Xb (Xd (Xa (Xj fa47_2 (Ad aa 0) (Ad aa 3) Z Z) ?_)));have au := ab.stn ah;have av := (ad.st au);refine Xa (Xn ag45 cL (Ad aa 3) (G A7 n8 c9) Z (av.cell Z)) (Xg (vi r) Z ?_);refine X0 go46 (F37.calls H ac.ok (aj.st ac.st)) Z ?_;rintro _ ax ⟨r2, rfl, H, aw⟩;have ai := ac.k0 aw;refine Xf (vi r2) Z (Xc (Xb (Xb (Xd (Xg (vi r2) Z (Xa (Xx r2 0 (decide (r2 < 0)) Z Z Z) (Xc ?_)))))));refine Xu (decide (r2 < 0)) Z (fun ag => ?_) (fun ag => ?_)
 ·have H := Xo H ag;exact Xb (Xd (Xf (vi (-1)) Z (Xc (Xl ⟨[vi (-1)], ⟨_, Z, Z⟩, (-1), Z, H, ai.gr.g0⟩))))
 have H := Xp H ag;exact Xt (Xb (Xd (Xg (vi r2) Z (Xf (vi r2) Z (Xc (Xl ⟨[vi r2], ⟨_, Z, Z⟩, r2, Z, H, ai.gr.g0⟩))))))
def F17.E (a : Change) (left : Int) (Q : Int → Prop) : Prop :=
 ((a.Id.length : Int) ≤ 9223372036854775807 → I64 (left - (a.Id.length : Int))) ∧ (if decide (left - (a.Id.length : Int) < 0) then Q (-1) else F38.E a.Was (left - (a.Id.length : Int)) (fun r => (if decide (r < 0) then Q (-1) else F38.E a.Now r (fun r2 => (if decide (r2 < 0) then Q (-1) else Q r2)))))
theorem F17.calls {a : Change} {A3 : Option Addr} {n4 c5 : Nat} {A8 : Option Addr} {n9 ab : Nat} {ac : Option Addr} {ad ae : Nat} {af : Option Addr} {ag ah : Nat} {left : Int} {Q : Int → Prop} (H : F17.E a left Q) (hO : Ok w0 O) (hs1 : Lim a.Id) (hs2 : Lim a.Was.Id) (hp6 : Sl kPt w0 (Fr O) (G A3 n4 c5) a.Was.Shape.Pts) (aq : Sl kTag w0 (Fr O) (G A8 n9 ab) a.Was.Tags) (ar : Lim a.Now.Id) (au : Sl kPt w0 (Fr O) (G ac ad ae) a.Now.Shape.Pts) (av : Sl kTag w0 (Fr O) (G af ag ah) a.Now.Tags) :
  Ret Tryd.prog 15 [.agg #[vs a.Id, vb a.Had, vs a.Was.Id, vi a.Was.Shape.Kind, G A3 n4 c5, G A8 n9 ab, vb a.Has, vs a.Now.Id, vi a.Now.Shape.Kind, G ac ad ae, G af ag ah], vi left] w0 (fun v w' => ∃ (r0 : Int), v = vi r0 ∧ Q r0 ∧ Gr w0 w' none) := by
 unfold F17.E at H;have hc0 := Ct.init hO;refine X3 Tryd.func15 Z 25 Z [.tmp 4] Z Z ?_;refine Xb (Xd (Ya [vs a.Id, vb a.Had, vs a.Was.Id, vi a.Was.Shape.Kind, G A3 n4 c5, G A8 n9 ab, vb a.Has, vs a.Now.Id, vi a.Now.Shape.Kind, G ac ad ae, G af ag ah] Z fun aw aa ax hu28 ay az => ?_));have ak := Fb.mk hc0.ok ax az;have ai := hc0.k0 ay;refine Xf (vi 0) Z (Xc (Xb (Xd (Xg (vi left) Z (Xa (Xj fa49_0 (Ad aa 0) (Ad aa 0) Z Z) (Xa (Xn ag9 cL (Ad aa 0) (vs a.Id) Z (ak.cell Z)) ?_))))));have a0 := hs1;refine Xa (Yx u9_ a.Id Z) ?_;obtain ⟨a1, H⟩ := H;have a2 := a1 (len_le a0);refine Xa (Yr left (a.Id.length : Int) Z Z a2) (Xf (vi (left - (a.Id.length : Int))) Z (Xc (Xb (Xb (Xd (Xg (vi (left - (a.Id.length : Int))) Z (Xa (Xx (left - (a.Id.length : Int)) 0 (decide (left - (a.Id.length : Int) < 0)) Z Z Z) (Xc ?_))))))));refine Xu (decide (left - (a.Id.length : Int) < 0)) Z (fun al => ?_) (fun al => ?_)
 ·have H := Xo H al;exact Xb (Xd (Xf (vi (-1)) Z (Xc (Xl ⟨[vi (-1)], ⟨_, Z, Z⟩, (-1), Z, H, ai.gr.g0⟩))))
 have H := Xp H al;refine Xt (Xb (Xd (Xa (Xj fa49_2 (Ad aa 0) (Ad aa 2) Z Z) (Xa (Xv ag47 sz47 cL (Ad aa 2) [vs a.Was.Id, vi a.Was.Shape.Kind, G A3 n4 c5, G A8 n9 ab] Z Z (ak.cells (off := 2) Z)) (Xg (vi (left - (a.Id.length : Int))) Z ?_)))));refine X0 go27 (F38.calls H ai.ok hs2 (hp6.st ai.st) (aq.st ai.st)) Z ?_;rintro _ a3 ⟨r, rfl, H, ao⟩;have aj := ai.k0 ao;refine Xf (vi r) Z (Xc (Xb (Xb (Xd (Xg (vi r) Z (Xa (Xx r 0 (decide (r < 0)) Z Z Z) (Xc ?_)))))));refine Xu (decide (r < 0)) Z (fun am => ?_) (fun am => ?_)
 ·have H := Xo H am;exact Xb (Xd (Xf (vi (-1)) Z (Xc (Xl ⟨[vi (-1)], ⟨_, Z, Z⟩, (-1), Z, H, aj.gr.g0⟩))))
 have H := Xp H am;refine Xt (Xb (Xd (Xa (Xj fa49_4 (Ad aa 0) (Ad aa 7) Z Z) ?_)));have a4 := ai.stn ao;have a5 := (ak.st a4);refine Xa (Xv ag47 sz47 cL (Ad aa 7) [vs a.Now.Id, vi a.Now.Shape.Kind, G ac ad ae, G af ag ah] Z Z (a5.cells (off := 7) Z)) (Xg (vi r) Z ?_);refine X0 go27 (F38.calls H aj.ok ar (au.st aj.st) (av.st aj.st)) Z ?_;rintro _ a7 ⟨r2, rfl, H, a6⟩;have ap := aj.k0 a6;refine Xf (vi r2) Z (Xc (Xb (Xb (Xd (Xg (vi r2) Z (Xa (Xx r2 0 (decide (r2 < 0)) Z Z Z) (Xc ?_)))))));refine Xu (decide (r2 < 0)) Z (fun an => ?_) (fun an => ?_)
 ·have H := Xo H an;exact Xb (Xd (Xf (vi (-1)) Z (Xc (Xl ⟨[vi (-1)], ⟨_, Z, Z⟩, (-1), Z, H, ap.gr.g0⟩))))
 have H := Xp H an;exact Xt (Xb (Xd (Xg (vi r2) Z (Xf (vi r2) Z (Xc (Xl ⟨[vi r2], ⟨_, Z, Z⟩, r2, Z, H, ap.gr.g0⟩))))))
def F10.E (a : List Change) (left : Int) (Q : Int → Prop) : Prop :=
 ((a.length : Int) ≤ 9223372036854775807 → I64 (left - (a.length : Int))) ∧ (if decide (left - (a.length : Int) < 0) then Q (-1) else (∃ (I22 : Int → Int → Prop) (mu23 : Int → Int → Nat), I22 (left - (a.length : Int)) 0 ∧ ∀ (left3 i2 : Int), I22 left3 i2 → (if decide (i2 < (a.length : Int)) then ((0 : Int) ≤ i2 ∧ i2 < (a.length : Int)) ∧ F17.E (nth a i2) left3 (fun r => (if decide (r < 0) then Q (-1) else (-9223372036854775808 ≤ i2) ∧ I22 r (i2 + 1) ∧ mu23 r (i2 + 1) < mu23 left3 i2)) else Q left3)))
theorem F10.calls {a : List Change} {A1 : Option Addr} {n2 c3 : Nat} {left : Int} {Q : Int → Prop} (H : F10.E a left Q) (hO : Ok w0 O) (hp4 : Sl kChange w0 (Fr O) (G A1 n2 c3) a) :
  Ret Tryd.prog 6 [G A1 n2 c3, vi left] w0 (fun v w' => ∃ (r0 : Int), v = vi r0 ∧ Q r0 ∧ Gr w0 w' none) := by
 unfold F10.E at H;have hc0 := Ct.init hO;refine X3 Tryd.func6 Z 27 Z [.tmp 4] Z Z ?_;refine Xb (Xd (Xf (vi 0) Z (Xc (Xb (Xd (Xg (vi left) Z (Xg (G A1 n2 c3) Z ?_)))))));have hl6 := hp4.le;refine Xa (X6 u22_ A1 n2 c3 hp4.len Z) ?_;obtain ⟨hb7, H⟩ := H;have hi8 := hb7 (len_le hl6);refine Xa (Yr left (a.length : Int) Z Z hi8) (Xf (vi (left - (a.length : Int))) Z (Xc (Xb (Xb (Xd (Xg (vi (left - (a.length : Int))) Z (Xa (Xx (left - (a.length : Int)) 0 (decide (left - (a.length : Int) < 0)) Z Z Z) (Xc ?_))))))));refine Xu (decide (left - (a.length : Int) < 0)) Z (fun hq9 => ?_) (fun hq9 => ?_)
 ·have H := Xo H hq9;exact Xb (Xd (Xf (vi (-1)) Z (Xc (Xl ⟨[vi (-1)], ⟨_, Z, Z⟩, (-1), Z, H, hc0.gr.g0⟩))))
 have H := Xp H hq9;refine Xt (Xb (Xb (Xd (Xf (vi 0) Z (Xc (X5 ?_))))));obtain ⟨ay, az, ae, H⟩ := H;refine Ye (α := Int × Int) (fun (left3, i2) t ab => ay left3 i2 ∧ Has t [(0, G A1 n2 c3), (1, vi left3), (5, vi i2)] ∧ Ct [] w0 ab [] O ∧ Sl kChange ab (Fr ([] ++ O)) (G A1 n2 c3) a) (fun (left3, i2) => az left3 i2) (left - (a.length : Int), 0) ⟨ae, (X2 Z), hc0, hp4⟩ ?_;rintro ⟨left3, i2⟩ _ ab ⟨ae, a0, ac, aa⟩;obtain ⟨bh, rfl⟩ := Has.ins a0;have H := H left3 i2 ae;refine Xb (Xb (Xd (Xg (vi i2) Z (Xg (G A1 n2 c3) Z ?_))));have a1 := aa.le;refine Xa (X6 u22_ A1 n2 c3 aa.len Z) (Xa (Xx i2 (a.length : Int) (decide (i2 < (a.length : Int))) Z Z Z) (Xc ?_));refine Xu (decide (i2 < (a.length : Int))) Z (fun ad => ?_) (fun ad => ?_)
 ·have H := Xo H ad;refine Xt (Xb (X5 (Xb (Xd (Xg (G A1 n2 c3) Z (Xg (vi i2) Z ?_))))));obtain ⟨au, H⟩ := H;obtain ⟨av, bi, a2, bj, a3, a4⟩ := aa.get default RD i2 au;obtain ⟨af, ag, ah, ai, aj, ak, al, am, an, ao, ap, aq, rfl, a5, a6, a7, a8, a9, ba, bb⟩ := kChange.op a3;refine Xa (X4 u22_ Zj A1 av n2 c3 aa.len i2 Z a2 Z au) (Xa (Xv ag49 sz49 cL (av.add (i2.toNat * 11)) [vs ((nth a i2).Id), vb ((nth a i2).Had), vs ((nth a i2).Was.Id), vi ((nth a i2).Was.Shape.Kind), G af ag ah, G ai aj ak, vb ((nth a i2).Has), vs ((nth a i2).Now.Id), vi ((nth a i2).Now.Shape.Kind), G al am an, G ao ap aq] Z Z a4) (Xg (vi left3) Z ?_));refine X0 go15 (F17.calls H ac.ok a5 a6 a7 a8 a9 ba bb) Z ?_;rintro _ bl ⟨r, rfl, H, aw⟩;have ax := ac.k0 aw;refine Xf (vi r) Z (Xc (Xb (Xd (Xg (vi r) Z (Xa (Xx r 0 (decide (r < 0)) Z Z Z) (Xc ?_))))));refine Xu (decide (r < 0)) Z (fun ar => ?_) (fun ar => ?_)
  ·have H := Xo H ar;exact Xb (Xd (Xf (vi (-1)) Z (Xc (Xl ⟨[vi (-1)], ⟨_, Z, Z⟩, (-1), Z, H, ax.gr.g0⟩))))
  have H := Xp H ar;refine Xt (Xd (Xg (vi i2) Z ?_));obtain ⟨bc, H⟩ := H;have bd : I64 (i2 + 1) := i64_succ (of_decide_eq_true ad) a1 bc;refine Xa (Yc i2 1 Z Z bd) (Xf (vi (i2 + 1)) Z (Xc ?_));obtain ⟨be, bf⟩ := H;have bg := ac.stn aw;exact ⟨(r, i2 + 1), bf, be, (X2 Z), ax, (aa.st bg)⟩
 have H := Xp H ad;refine Yd (xin_hit ?_);exact Xb (Xd (Xg (vi left3) Z (Xf (vi left3) Z (Xc (Xl ⟨[vi left3], ⟨_, Z, Z⟩, left3, Z, H, ac.gr.g0⟩)))))
def F84.E (a : Pt) (Q : Pt → Prop) : Prop :=
 Q a
theorem F84.calls {a : Pt} {Q : Pt → Prop} (H : F84.E a Q) (hO : Ok w0 O) :
  Ret Tryd.prog 91 [.agg #[vi a.X, vi a.Y]] w0 (fun v w' => ∃ (r0 : Pt), v = .agg #[vi r0.X, vi r0.Y] ∧ Q r0 ∧ Gr w0 w' none) := by
 unfold F84.E at H;have hc0 := Ct.init hO;refine X3 Tryd.func91 Z 11 Z [.cell 2 87] Z Z ?_;refine Xb (Xd (Ya [vi a.X, vi a.Y] Z fun w1 b2 hl4 hu5 g3 hx6 => ?_));have h8 := Fb.mk hc0.ok hl4 hx6;have hc9 := hc0.k0 g3;refine Yn [.int .i64 0, .int .i64 0] ze87 fun a6 ae af hu14 ag ao => ?_;have ah := hc9.own ag (some ae) (Yp af hu14);refine Xc (Xb (Xd (Yn [.int .i64 0, .int .i64 0] ze87 fun a7 aa ai hu22 ab ap => ?_)));have ac := ah.own ab (some aa) (Yp ai hu22);refine Xc (Xb (Xd (Xa (Xj fa119_0 (Ad b2 0) (Ad b2 0) Z Z) ?_)));have aq := hc9.stown _ ag (Ym af);have ar := ah.stown _ ab (Ym ai);have aj := ((h8.st aq).st ar);refine Xa (Xn ag3 cL (Ad b2 0) (vi a.X) Z (aj.cell Z)) (Xa (Xj fa87_0 (Ad aa 0) (Ad aa 0) Z Z) (Yt 0 [vi a.X] [vi a.X, vi 0] ap Z Z sz3 Z Z Z fun a8 ad au => ?_));have ak := ac.wr 0 Z ad;refine Xc (Xb (Xd (Xa (Xj fa119_1 (Ad b2 0) (Ad b2 1) Z Z) ?_)));have av := ac.stw 0 Z ad;have aw := (aj.st av);refine Xa (Xn ag3 cL (Ad b2 1) (vi a.Y) Z (aw.cell Z)) (Xa (Xj fa87_1 (Ad aa 0) (Ad aa 1) Z Z) (Yt 1 [vi a.Y] [vi a.X, vi a.Y] au Z Z sz3 Z Z Z fun a9 al ax => ?_));have ay := ak.wr 0 Z al;refine Xc (Xb (Xd (Xa (Xv ag87 sz87 cL (Ad aa 0) [vi a.X, vi a.Y] Z Z (ax.cells (off := 00) Z)) ?_)));have az := (ak.bm (ac.bm (ao.k0 ab) 1 0 Z Z Z ad) 1 0 Z Z Z al);refine Yu [vi a.X, vi a.Y] az Z Z sz87 Z Z fun ba a0 a1 => ?_;have am := ay.wr 1 Z a0;refine Xc (Xl ?_);have a2 := am.bgv a1 1 Z;have an := am.drop 1 Z;have a3 := an.drop 0 Z;have a4 := an.std 0 Z;have a5 := (a2.st a4);exact ⟨[.agg #[vi a.X, vi a.Y]], ⟨_, _, Z, a5.1.res Z ag87 sz87, Z⟩, a, Z, H, a3.gr.g0⟩
def F70.E (a : List Pt) (Q : List Pt → Prop) : Prop :=
 ((0 : Int) ≤ (a.length : Int) ∧ (a.length : Int) ≤ (268435456 : Int)) ∧ (∃ (I41 : (List Pt) → Int → Prop) (mu42 : (List Pt) → Int → Nat), I41 (List.replicate (a.length : Int).toNat ((⟨0, 0⟩ : Pt) : Pt)) 0 ∧ ∀ (xs2 : List Pt) (i2 : Int), I41 xs2 i2 → (if decide (i2 < (a.length : Int)) then ((0 : Int) ≤ i2 ∧ i2 < (a.length : Int)) ∧ F84.E (nth a i2) (fun r => ((0 : Int) ≤ i2 ∧ i2 < (xs2.length : Int)) ∧ (-9223372036854775808 ≤ i2) ∧ I41 (xs2.set i2.toNat r) (i2 + 1) ∧ mu42 (xs2.set i2.toNat r) (i2 + 1) < mu42 xs2 i2) else Q xs2))
theorem F70.calls {a : List Pt} {A1 : Option Addr} {n2 c3 : Nat} {Q : List Pt → Prop} (H : F70.E a Q) (hO : Ok w0 O) (hp4 : Sl kPt w0 (Fr O) (G A1 n2 c3) a) :
  Ret Tryd.prog 78 [G A1 n2 c3] w0 (fun v w' => ∃ (r0 : List Pt) (Aw0 : Option Addr) (nw0 cw0 : Nat), v = G Aw0 nw0 cw0 ∧ Q r0 ∧ Gk w0 w' [bk Aw0] O (Ow kPt 87 w' ([bk Aw0] ++ O) (G Aw0 nw0 cw0) r0)) := by
 unfold F70.E at H;have hc0 := Ct.init hO;refine X3 Tryd.func78 Z 23 Z [.tmp 2] Z Z ?_;refine Xb (Xd (Xf (G none 0 0) Z (Xc (Xb (Xd (Xg (G A1 n2 c3) Z ?_))))));have hl6 := hp4.le;refine Xa (X6 u42_ A1 n2 c3 hp4.len Z) ?_;obtain ⟨hb7, H⟩ := H;refine Y6 (kd := kPt) Zx hc0 ((⟨0, 0⟩ : Pt) : Pt) ((kPt.mk _ _ (⟨0, 0⟩ : Pt))) (a.length : Int) Z Z hb7 fun w8 A9 aa ab bd hr13 ak au => ?_;refine Xf (G A9 aa ab) Z (Xc (Xb (Xb (Xd (Xf (vi 0) Z (Xc (X5 ?_)))))));obtain ⟨av, aw, ag, H⟩ := H;refine Ye (α := (List Pt) × Int) (fun (xs2, i2) t ad => av xs2 i2 ∧ Has t [(0, G A1 n2 c3), (3, G A9 aa ab), (4, vi i2)] ∧ Cw [] w0 ad [bk A9] O fun M => Sl kPt ad (Fr M) (G A1 n2 c3) a ∧ Ow kPt 87 ad M (G A9 aa ab) xs2) (fun (xs2, i2) => aw xs2 i2) ((List.replicate (a.length : Int).toNat ((⟨0, 0⟩ : Pt) : Pt)), 0) ⟨ag, (X2 Z), ak, (hp4.st ak.st), au⟩ ?_;rintro ⟨xs2, i2⟩ _ ad ⟨ag, ax, ac, ae, al⟩;obtain ⟨be, rfl⟩ := Has.ins ax;have H := H xs2 i2 ag;refine Xb (Xb (Xd (Xg (vi i2) Z (Xg (G A1 n2 c3) Z ?_))));have ay := ae.le;refine Xa (X6 u42_ A1 n2 c3 ae.len Z) (Xa (Xx i2 (a.length : Int) (decide (i2 < (a.length : Int))) Z Z Z) (Xc ?_));refine Xu (decide (i2 < (a.length : Int))) Z (fun af => ?_) (fun af => ?_)
 ·have H := Xo H af;refine Xt (Xb (X5 (Xd (Xg (G A9 aa ab) Z (Xg (vi i2) Z (Xg (G A1 n2 c3) Z (Xg (vi i2) Z ?_)))))));obtain ⟨am, H⟩ := H;obtain ⟨an, bf, az, bg, a0, a1⟩ := ae.get default RD i2 am;obtain rfl := kPt.op a0;refine Xa (X4 u42_ Z0 A1 an n2 c3 ae.len i2 Z az Z am) (Xa (Xv ag119 sz119 cL (an.add (i2.toNat * 2)) [vi ((nth a i2).X), vi ((nth a i2).Y)] Z Z a1) ?_);refine X0 go91 (F84.calls H ac.ok) Z ?_;rintro _ bh ⟨r, rfl, H, ah⟩;have ao := ac.k0 ah;obtain ⟨ai, H⟩ := H;have aj := (al.sn ah);obtain ⟨ap, bi, aq, a2, a3⟩ := aj.get default RD i2 ai;obtain rfl := kPt.op a2;refine Xa (X4 u32_ Yl A9 ap aa ab aj.len i2 Z aq Z ai) (Y5 A9 aa ab xs2 aj i2 ai ap aq 0 Z [vi r.X, vi r.Y] Z sz87 Z r [vi ((nth xs2 i2).X), vi ((nth xs2 i2).Y)] [vi r.X, vi r.Y] a3 Z Z (kPt.mk _ _ r) fun bj ar a4 => ?_);have a5 := ao.wr 0 Z ar;refine Xc (Xd (Xg (vi i2) Z ?_));obtain ⟨a6, H⟩ := H;have a7 : I64 (i2 + 1) := i64_succ (of_decide_eq_true af) ay a6;refine Xa (Yc i2 1 Z Z a7) (Xf (vi (i2 + 1)) Z (Xc ?_));obtain ⟨a8, a9⟩ := H;have ba := ac.stn ah;have bb := ao.stw 0 Z ar;have bc := ((ae.st ba).st bb);exact ⟨((xs2.set i2.toNat r), i2 + 1), a9, a8, (X2 Z), a5, bc, a4⟩
 have H := Xp H af;refine Yd (xin_hit ?_);exact Xb (Xd (Xg (G A9 aa ab) Z (Xf (G A9 aa ab) Z (Xc (Xl ⟨[G A9 aa ab], ⟨_, Z, Z⟩, xs2, A9, aa, ab, Z, H, ac.gr.g0, ac.ok, ac.ge, al⟩)))))
def F28.E (a : Shape) (Q : Shape → Prop) : Prop :=
 F70.E a.Pts (fun r => Q (⟨a.Kind, r⟩ : Shape))
theorem F28.calls {a : Shape} {A1 : Option Addr} {n2 c3 : Nat} {Q : Shape → Prop} (H : F28.E a Q) (hO : Ok w0 O) (hp4 : Sl kPt w0 (Fr O) (G A1 n2 c3) a.Pts) :
  Ret Tryd.prog 48 [.agg #[vi a.Kind, G A1 n2 c3]] w0 (fun v w' => ∃ (r0 : Shape) (Aw0 : Option Addr) (nw0 cw0 : Nat), v = .agg #[vi r0.Kind, G Aw0 nw0 cw0] ∧ Q r0 ∧ Gk w0 w' [bk Aw0] O (Ow kPt 87 w' ([bk Aw0] ++ O) (G Aw0 nw0 cw0) r0.Pts)) := by
 unfold F28.E at H;have hc0 := Ct.init hO;refine X3 Tryd.func48 Z 12 Z [.cell 2 34] Z Z ?_;refine Xb (Xd (Ya [vi a.Kind, G A1 n2 c3] Z fun w6 b7 hl9 hu10 g8 az => ?_));have a0 := Fb.mk hc0.ok hl9 az;have ao := hc0.k0 g8;refine Yn [.int .i64 0, G none 0 0] ze34 fun bl ap aq hu19 ar a1 => ?_;have au := ao.own ar (some ap) (Yp aq hu19);refine Xc (Xb (Xd (Yn [.int .i64 0, G none 0 0] ze34 fun bn aa av hu27 ae a2 => ?_)));have af := au.own ae (some aa) (Yp av hu27);refine Xc (Xb (Xd (Xa (Xj fa44_0 (Ad b7 0) (Ad b7 0) Z Z) ?_)));have a3 := ao.stown _ ar (Ym aq);have a4 := au.stown _ ae (Ym av);have aw := ((a0.st a3).st a4);refine Xa (Xn ag3 cL (Ad b7 0) (vi a.Kind) Z (aw.cell Z)) (Xa (Xj fa34_0 (Ad aa 0) (Ad aa 0) Z Z) (Yt 0 [vi a.Kind] [vi a.Kind, G none 0 0] a2 Z Z sz3 Z Z Z fun a5 ag a6 => ?_));have ah := af.wr 0 Z ag;refine Xc (Xb (Xd (Xa (Xj fa44_1 (Ad b7 0) (Ad b7 1) Z Z) ?_)));have a7 := af.stw 0 Z ag;have a8 := (aw.st a7);refine Xa (Xn ag42 cL (Ad b7 1) (G A1 n2 c3) Z (a8.cell Z)) ?_;refine X0 go78 (F70.calls H ah.ok (hp4.st ah.st)) Z ?_;rintro _ bo ⟨r, ab, ac, ad, rfl, H, ai, a9, ba, bb⟩;have aj := ah.owns ai a9 ba;refine Xa (Xj fa34_1 (Ad aa 0) (Ad aa 1) Z Z) ?_;have bc := (a6.k0 ai);refine Yt 1 [G ab ac ad] [vi a.Kind, G ab ac ad] bc Z Z sz32 Z Z Z fun bp ak bd => ?_;have ax := aj.wr 1 Z ak;refine Xc (Xb (Xd (Xa (Xv ag34 sz34 cL (Ad aa 0) [vi a.Kind, G ab ac ad] Z Z (bd.cells (off := 00) Z)) ?_)));have be := (aj.bm ((af.bm (a1.k0 ae) 1 0 Z Z Z ag).k0 ai) 2 1 Z Z Z ak);refine Yu [vi a.Kind, G ab ac ad] be Z Z sz34 Z Z fun bq ay bf => ?_;have al := ax.wr 2 Z ay;refine Xc (Xl ?_);have bg := al.bgv bf 2 Z;have am := al.drop 2 Z;have an := am.drop 1 Z;have bh := am.std 1 Z;have bi := (bg.st bh);have bj := (am.sd (al.sd (ax.sw (aj.sw bb 0 1 Z Z Z ak) 0 2 Z Z Z ay) 0 2 Z Z Z) 0 1 Z Z Z);exact ⟨[.agg #[vi a.Kind, G ab ac ad]], ⟨_, _, Z, bi.1.res Z ag34 sz34, Z⟩, (⟨a.Kind, r⟩ : Shape), ab, ac, ad, Z, H, an.gr.g0, an.ok, an.ge, bj⟩
def F71.E (a : Tag) (Q : Tag → Prop) : Prop :=
 Q a
theorem F71.calls {a : Tag} {Q : Tag → Prop} (H : F71.E a Q) (hO : Ok w0 O) (hs1 : Lim a.Key) (hs2 : Lim a.Val) :
  Ret Tryd.prog 79 [.agg #[vs a.Key, vs a.Val]] w0 (fun v w' => ∃ (r0 : Tag), v = .agg #[vs r0.Key, vs r0.Val] ∧ Q r0 ∧ Gr w0 w' none ∧ Lim r0.Key ∧ Lim r0.Val) := by
 unfold F71.E at H;have hc0 := Ct.init hO;refine X3 Tryd.func79 Z 11 Z [.cell 2 67] Z Z ?_;refine Xb (Xd (Ya [vs a.Key, vs a.Val] Z fun w3 b4 hl6 hu7 g5 hx8 => ?_));have ap := Fb.mk hc0.ok hl6 hx8;have ae := hc0.k0 g5;refine Yn [vs [], vs []] ze67 fun a8 af ag hu16 ah aq => ?_;have ai := ae.own ah (some af) (Yp ag hu16);refine Xc (Xb (Xd (Yn [vs [], vs []] ze67 fun a9 aa aj hu24 ab ar => ?_)));have ac := ai.own ab (some aa) (Yp aj hu24);refine Xc (Xb (Xd (Xa (Xj fa107_0 (Ad b4 0) (Ad b4 0) Z Z) ?_)));have au := ae.stown _ ah (Ym ag);have av := ai.stown _ ab (Ym aj);have ak := ((ap.st au).st av);refine Xa (Xn ag9 cL (Ad b4 0) (vs a.Key) Z (ak.cell Z)) (Xa (Xj fa67_0 (Ad aa 0) (Ad aa 0) Z Z) (Yt 0 [vs a.Key] [vs a.Key, vs []] ar Z Z sz9 Z Z Z fun ba ad aw => ?_));have al := ac.wr 0 Z ad;refine Xc (Xb (Xd (Xa (Xj fa107_1 (Ad b4 0) (Ad b4 1) Z Z) ?_)));have ax := ac.stw 0 Z ad;have ay := (ak.st ax);refine Xa (Xn ag9 cL (Ad b4 1) (vs a.Val) Z (ay.cell Z)) (Xa (Xj fa67_1 (Ad aa 0) (Ad aa 1) Z Z) (Yt 1 [vs a.Val] [vs a.Key, vs a.Val] aw Z Z sz9 Z Z Z fun bb am az => ?_));have a0 := al.wr 0 Z am;refine Xc (Xb (Xd (Xa (Xv ag67 sz67 cL (Ad aa 0) [vs a.Key, vs a.Val] Z Z (az.cells (off := 00) Z)) ?_)));have a1 := (al.bm (ac.bm (aq.k0 ab) 1 0 Z Z Z ad) 1 0 Z Z Z am);refine Yu [vs a.Key, vs a.Val] a1 Z Z sz67 Z Z fun bc a2 a3 => ?_;have an := a0.wr 1 Z a2;refine Xc (Xl ?_);have a4 := an.bgv a3 1 Z;have ao := an.drop 1 Z;have a5 := ao.drop 0 Z;have a6 := ao.std 0 Z;have a7 := (a4.st a6);exact ⟨[.agg #[vs a.Key, vs a.Val]], ⟨_, _, Z, a7.1.res Z ag67 sz67, Z⟩, a, Z, H, a5.gr.g0, hs1, hs2⟩
def F39.E (a : List Tag) (Q : List Tag → Prop) : Prop :=
 ((0 : Int) ≤ (a.length : Int) ∧ (a.length : Int) ≤ (268435456 : Int)) ∧ (∃ (I41 : (List Tag) → Int → Prop) (mu42 : (List Tag) → Int → Nat), I41 (List.replicate (a.length : Int).toNat ((⟨[], []⟩ : Tag) : Tag)) 0 ∧ ∀ (xs2 : List Tag) (i2 : Int), I41 xs2 i2 → (if decide (i2 < (a.length : Int)) then ((0 : Int) ≤ i2 ∧ i2 < (a.length : Int)) ∧ F71.E (nth a i2) (fun r => ((0 : Int) ≤ i2 ∧ i2 < (xs2.length : Int)) ∧ (-9223372036854775808 ≤ i2) ∧ I41 (xs2.set i2.toNat r) (i2 + 1) ∧ mu42 (xs2.set i2.toNat r) (i2 + 1) < mu42 xs2 i2) else Q xs2))
theorem F39.calls {a : List Tag} {A1 : Option Addr} {n2 c3 : Nat} {Q : List Tag → Prop} (H : F39.E a Q) (hO : Ok w0 O) (hp4 : Sl kTag w0 (Fr O) (G A1 n2 c3) a) :
  Ret Tryd.prog 49 [G A1 n2 c3] w0 (fun v w' => ∃ (r0 : List Tag) (Aw0 : Option Addr) (nw0 cw0 : Nat), v = G Aw0 nw0 cw0 ∧ Q r0 ∧ Gk w0 w' [bk Aw0] O (Ow kTag 67 w' ([bk Aw0] ++ O) (G Aw0 nw0 cw0) r0)) := by
 unfold F39.E at H;have hc0 := Ct.init hO;refine X3 Tryd.func49 Z 23 Z [.tmp 2] Z Z ?_;refine Xb (Xd (Xf (G none 0 0) Z (Xc (Xb (Xd (Xg (G A1 n2 c3) Z ?_))))));have hl6 := hp4.le;refine Xa (X6 u45_ A1 n2 c3 hp4.len Z) ?_;obtain ⟨hb7, H⟩ := H;refine Y6 (kd := kTag) Zy hc0 ((⟨([] : Str), ([] : Str)⟩ : Tag) : Tag) ((kTag.mk _ _ (⟨([] : Str), ([] : Str)⟩ : Tag) RD RD)) (a.length : Int) Z Z hb7 fun w8 A9 aa ab bh hr13 ak au => ?_;refine Xf (G A9 aa ab) Z (Xc (Xb (Xb (Xd (Xf (vi 0) Z (Xc (X5 ?_)))))));obtain ⟨av, aw, ag, H⟩ := H;refine Ye (α := (List Tag) × Int) (fun (xs2, i2) t ad => av xs2 i2 ∧ Has t [(0, G A1 n2 c3), (3, G A9 aa ab), (4, vi i2)] ∧ Cw [] w0 ad [bk A9] O fun M => Sl kTag ad (Fr M) (G A1 n2 c3) a ∧ Ow kTag 67 ad M (G A9 aa ab) xs2) (fun (xs2, i2) => aw xs2 i2) ((List.replicate (a.length : Int).toNat ((⟨([] : Str), ([] : Str)⟩ : Tag) : Tag)), 0) ⟨ag, (X2 Z), ak, (hp4.st ak.st), au⟩ ?_;rintro ⟨xs2, i2⟩ _ ad ⟨ag, ax, ac, ae, al⟩;obtain ⟨bi, rfl⟩ := Has.ins ax;have H := H xs2 i2 ag;refine Xb (Xb (Xd (Xg (vi i2) Z (Xg (G A1 n2 c3) Z ?_))));have ay := ae.le;refine Xa (X6 u45_ A1 n2 c3 ae.len Z) (Xa (Xx i2 (a.length : Int) (decide (i2 < (a.length : Int))) Z Z Z) (Xc ?_));refine Xu (decide (i2 < (a.length : Int))) Z (fun af => ?_) (fun af => ?_)
 ·have H := Xo H af;refine Xt (Xb (X5 (Xd (Xg (G A9 aa ab) Z (Xg (vi i2) Z (Xg (G A1 n2 c3) Z (Xg (vi i2) Z ?_)))))));obtain ⟨am, H⟩ := H;obtain ⟨an, bj, az, bl, a0, a1⟩ := ae.get default RD i2 am;obtain ⟨rfl, a2, a3⟩ := kTag.op a0;refine Xa (X4 u45_ Zk A1 an n2 c3 ae.len i2 Z az Z am) (Xa (Xv ag107 sz107 cL (an.add (i2.toNat * 2)) [vs ((nth a i2).Key), vs ((nth a i2).Val)] Z Z a1) ?_);refine X0 go79 (F71.calls H ac.ok a2 a3) Z ?_;rintro _ bm ⟨r, rfl, H, ah, a4, a5⟩;have ao := ac.k0 ah;obtain ⟨ai, H⟩ := H;have aj := (al.sn ah);obtain ⟨ap, bn, aq, a6, a7⟩ := aj.get default RD i2 ai;obtain ⟨rfl, bo, bp⟩ := kTag.op a6;refine Xa (X4 u35_ Yq A9 ap aa ab aj.len i2 Z aq Z ai) (Y5 A9 aa ab xs2 aj i2 ai ap aq 0 Z [vs r.Key, vs r.Val] Z sz67 Z r [vs ((nth xs2 i2).Key), vs ((nth xs2 i2).Val)] [vs r.Key, vs r.Val] a7 Z Z (kTag.mk _ _ r a4 a5) fun bq ar a8 => ?_);have a9 := ao.wr 0 Z ar;refine Xc (Xd (Xg (vi i2) Z ?_));obtain ⟨ba, H⟩ := H;have bb : I64 (i2 + 1) := i64_succ (of_decide_eq_true af) ay ba;refine Xa (Yc i2 1 Z Z bb) (Xf (vi (i2 + 1)) Z (Xc ?_));obtain ⟨bc, bd⟩ := H;have be := ac.stn ah;have bf := ao.stw 0 Z ar;have bg := ((ae.st be).st bf);exact ⟨((xs2.set i2.toNat r), i2 + 1), bd, bc, (X2 Z), a9, bg, a8⟩
 have H := Xp H af;refine Yd (xin_hit ?_);exact Xb (Xd (Xg (G A9 aa ab) Z (Xf (G A9 aa ab) Z (Xc (Xl ⟨[G A9 aa ab], ⟨_, Z, Z⟩, xs2, A9, aa, ab, Z, H, ac.gr.g0, ac.ok, ac.ge, al⟩)))))
def F40.E (a : Feat) (Q : Feat → Prop) : Prop :=
 F28.E a.Shape (fun r => F39.E a.Tags (fun r2 => Q (⟨a.Id, r, r2⟩ : Feat)))
theorem F40.calls {a : Feat} {A2 : Option Addr} {n3 c4 : Nat} {A7 : Option Addr} {n8 c9 : Nat} {Q : Feat → Prop} (H : F40.E a Q) (hO : Ok w0 O) (hs1 : Lim a.Id) (hp5 : Sl kPt w0 (Fr O) (G A2 n3 c4) a.Shape.Pts) (bb : Sl kTag w0 (Fr O) (G A7 n8 c9) a.Tags) :
  Ret Tryd.prog 29 [.agg #[vs a.Id, vi a.Shape.Kind, G A2 n3 c4, G A7 n8 c9]] w0 (fun v w' => ∃ (r0 : Feat) (Aw0 : Option Addr) (nw0 cw0 : Nat) (Aw2 : Option Addr) (nw2 cw2 : Nat), v = .agg #[vs r0.Id, vi r0.Shape.Kind, G Aw0 nw0 cw0, G Aw2 nw2 cw2] ∧ Q r0 ∧ Gk w0 w' [bk Aw0, bk Aw2] O (Lim r0.Id ∧ Ow kPt 87 w' ([bk Aw0, bk Aw2] ++ O) (G Aw0 nw0 cw0) r0.Shape.Pts ∧ Ow kTag 67 w' ([bk Aw0, bk Aw2] ++ O) (G Aw2 nw2 cw2) r0.Tags)) := by
 unfold F40.E at H;have hc0 := Ct.init hO;refine X3 Tryd.func29 Z 16 Z [.cell 2 37] Z Z ?_;refine Xb (Xd (Ya [vs a.Id, vi a.Shape.Kind, G A2 n3 c4, G A7 n8 c9] Z fun ca ab bc hu16 bd be => ?_));have bf := Fb.mk hc0.ok bc be;have a1 := hc0.k0 bd;refine Yn [vs [], .int .i64 0, G none 0 0, G none 0 0] ze37 fun cb a2 a3 hu25 a4 bg => ?_;have a5 := a1.own a4 (some a2) (Yp a3 hu25);refine Xc (Xb (Xd (Yn [vs [], .int .i64 0, G none 0 0, G none 0 0] ze37 fun cc aa a6 hu33 au bh => ?_)));have av := a5.own au (some aa) (Yp a6 hu33);refine Xc (Xb (Xd (Xa (Xj fa47_0 (Ad ab 0) (Ad ab 0) Z Z) ?_)));have bi := a1.stown _ a4 (Ym a3);have bj := a5.stown _ au (Ym a6);have a7 := ((bf.st bi).st bj);refine Xa (Xn ag9 cL (Ad ab 0) (vs a.Id) Z (a7.cell Z)) (Xa (Xj fa37_0 (Ad aa 0) (Ad aa 0) Z Z) (Yt 0 [vs a.Id] [vs a.Id, vi 0, G none 0 0, G none 0 0] bh Z Z sz9 Z Z Z fun bl aw bn => ?_));have ai := av.wr 0 Z aw;refine Xc (Xb (Xd (Xa (Xj fa47_1 (Ad ab 0) (Ad ab 1) Z Z) ?_)));have bo := av.stw 0 Z aw;have a8 := (a7.st bo);refine Xa (Xv ag44 sz44 cL (Ad ab 1) [vi a.Shape.Kind, G A2 n3 c4] Z Z (a8.cells (off := 1) Z)) ?_;refine X0 go48 (F28.calls H ai.ok (hp5.st ai.st)) Z ?_;rintro _ cd ⟨r, ac, ad, ae, rfl, H, aj, bp, a9, bq⟩;have ak := ai.owns aj bp a9;refine Xa (Xj fa37_1 (Ad aa 0) (Ad aa 1) Z Z) ?_;have br := (bn.k0 aj);refine Yt 1 [vi r.Kind, G ac ad ae] [vs a.Id, vi r.Kind, G ac ad ae, G none 0 0] br Z Z sz34 Z Z Z fun bs al bt => ?_;have ax := ak.wr 1 Z al;refine Xc (Xb (Xd (Xa (Xj fa47_2 (Ad ab 0) (Ad ab 3) Z Z) ?_)));have bu := ai.stos aj a9;have bv := ak.stw 1 Z al;have bw := ((a8.st bu).st bv);refine Xa (Xn ag45 cL (Ad ab 3) (G A7 n8 c9) Z (bw.cell Z)) ?_;refine X0 go49 (F39.calls H ax.ok (bb.st ax.st)) Z ?_;rintro _ ce ⟨r2, af, ag, ah, rfl, H, am, bx, ba, bz⟩;have an := ax.owns am bx ba;refine Xa (Xj fa37_2 (Ad aa 0) (Ad aa 3) Z Z) ?_;have b0 := (bt.k0 am);refine Yt 3 [G af ag ah] [vs a.Id, vi r.Kind, G ac ad ae, G af ag ah] b0 Z Z sz35 Z Z Z fun cf ao b1 => ?_;have ay := an.wr 2 Z ao;refine Xc (Xb (Xd (Xa (Xv ag37 sz37 cL (Ad aa 0) [vs a.Id, vi r.Kind, G ac ad ae, G af ag ah] Z Z (b1.cells (off := 00) Z)) ?_)));have b2 := (an.bm ((ak.bm ((av.bm (bg.k0 au) 1 0 Z Z Z aw).k0 aj) 2 1 Z Z Z al).k0 am) 3 2 Z Z Z ao);refine Yu [vs a.Id, vi r.Kind, G ac ad ae, G af ag ah] b2 Z Z sz37 Z Z fun cg az b3 => ?_;have ap := ay.wr 3 Z az;refine Xc (Xl ?_);have b4 := ap.bgv b3 3 Z;have aq := ap.drop 3 Z;have ar := aq.drop 2 Z;have a0 := ar.perm (.swap _ _ _);have b5 := aq.std 2 Z;have b6 := ar.stp (.swap _ _ _);have b7 := ((b4.st b5).st b6);have b8 := (ar.sp (aq.sd (ap.sd (ay.sw (an.sw ((ak.sw bq 0 1 Z Z Z al).sos am ba) 1 2 Z Z Z ao) 1 3 Z Z Z az) 1 3 Z Z Z) 1 2 Z Z Z) (.swap _ _ _));have b9 := (ar.sp (aq.sd (ap.sd (ay.sw (an.sw bz 0 2 Z Z Z ao) 0 3 Z Z Z az) 0 3 Z Z Z) 0 2 Z Z Z) (.swap _ _ _));exact ⟨[.agg #[vs a.Id, vi r.Kind, G ac ad ae, G af ag ah]], ⟨_, _, Z, b7.1.res Z ag37 sz37, Z⟩, (⟨a.Id, r, r2⟩ : Feat), ac, ad, ae, af, ag, ah, Z, H, a0.gr.g0, a0.ok, a0.ge, hs1, b8, b9⟩
def F18.E (a : Change) (Q : Change → Prop) : Prop :=
 F40.E a.Was (fun r => F40.E a.Now (fun r2 => Q (⟨a.Id, a.Had, r, a.Has, r2⟩ : Change)))
theorem F18.calls {a : Change} {A3 : Option Addr} {n4 c5 : Nat} {A8 : Option Addr} {n9 ao : Nat} {ap : Option Addr} {aq ar : Nat} {au : Option Addr} {av aw : Nat} {Q : Change → Prop} (H : F18.E a Q) (hO : Ok w0 O) (hs1 : Lim a.Id) (hs2 : Lim a.Was.Id) (hp6 : Sl kPt w0 (Fr O) (G A3 n4 c5) a.Was.Shape.Pts) (bx : Sl kTag w0 (Fr O) (G A8 n9 ao) a.Was.Tags) (bz : Lim a.Now.Id) (b0 : Sl kPt w0 (Fr O) (G ap aq ar) a.Now.Shape.Pts) (b1 : Sl kTag w0 (Fr O) (G au av aw) a.Now.Tags) :
  Ret Tryd.prog 17 [.agg #[vs a.Id, vb a.Had, vs a.Was.Id, vi a.Was.Shape.Kind, G A3 n4 c5, G A8 n9 ao, vb a.Has, vs a.Now.Id, vi a.Now.Shape.Kind, G ap aq ar, G au av aw]] w0 (fun v w' => ∃ (r0 : Change) (Aw0 : Option Addr) (nw0 cw0 : Nat) (Aw2 : Option Addr) (nw2 cw2 : Nat) (Aw4 : Option Addr) (nw4 cw4 : Nat) (Aw6 : Option Addr) (nw6 cw6 : Nat), v = .agg #[vs r0.Id, vb r0.Had, vs r0.Was.Id, vi r0.Was.Shape.Kind, G Aw0 nw0 cw0, G Aw2 nw2 cw2, vb r0.Has, vs r0.Now.Id, vi r0.Now.Shape.Kind, G Aw4 nw4 cw4, G Aw6 nw6 cw6] ∧ Q r0 ∧ Gk w0 w' [bk Aw0, bk Aw2, bk Aw4, bk Aw6] O (Lim r0.Id ∧ Lim r0.Was.Id ∧ Ow kPt 87 w' ([bk Aw0, bk Aw2, bk Aw4, bk Aw6] ++ O) (G Aw0 nw0 cw0) r0.Was.Shape.Pts ∧ Ow kTag 67 w' ([bk Aw0, bk Aw2, bk Aw4, bk Aw6] ++ O) (G Aw2 nw2 cw2) r0.Was.Tags ∧ Lim r0.Now.Id ∧ Ow kPt 87 w' ([bk Aw0, bk Aw2, bk Aw4, bk Aw6] ++ O) (G Aw4 nw4 cw4) r0.Now.Shape.Pts ∧ Ow kTag 67 w' ([bk Aw0, bk Aw2, bk Aw4, bk Aw6] ++ O) (G Aw6 nw6 cw6) r0.Now.Tags)) := by
 unfold F18.E at H;have hc0 := Ct.init hO;refine X3 Tryd.func17 Z 22 Z [.cell 2 39] Z Z ?_;refine Xb (Xd (Ya [vs a.Id, vb a.Had, vs a.Was.Id, vi a.Was.Shape.Kind, G A3 n4 c5, G A8 n9 ao, vb a.Has, vs a.Now.Id, vi a.Now.Shape.Kind, G ap aq ar, G au av aw] Z fun c8 ab b2 hu28 b3 b4 => ?_));have b5 := Fb.mk hc0.ok b2 b4;have bl := hc0.k0 b3;refine Yn [vs [], vb false, vs [], .int .i64 0, G none 0 0, G none 0 0, vb false, vs [], .int .i64 0, G none 0 0, G none 0 0] ze39 fun c9 bn bo hu37 bp b6 => ?_;have bq := bl.own bp (some bn) (Yp bo hu37);refine Xc (Xb (Xd (Yn [vs [], vb false, vs [], .int .i64 0, G none 0 0, G none 0 0, vb false, vs [], .int .i64 0, G none 0 0, G none 0 0] ze39 fun da aa br hu45 bd b7 => ?_)));have be := bq.own bd (some aa) (Yp br hu45);refine Xc (Xb (Xd (Xa (Xj fa49_0 (Ad ab 0) (Ad ab 0) Z Z) ?_)));have b8 := bl.stown _ bp (Ym bo);have b9 := bq.stown _ bd (Ym br);have bs := ((b5.st b8).st b9);refine Xa (Xn ag9 cL (Ad ab 0) (vs a.Id) Z (bs.cell Z)) (Xa (Xj fa39_0 (Ad aa 0) (Ad aa 0) Z Z) (Yt 0 [vs a.Id] [vs a.Id, vb false, vs [], vi 0, G none 0 0, G none 0 0, vb false, vs [], vi 0, G none 0 0, G none 0 0] b7 Z Z sz9 Z Z Z fun db bf ca => ?_));have bg := be.wr 0 Z bf;refine Xc (Xb (Xd (Xa (Xj fa49_1 (Ad ab 0) (Ad ab 1) Z Z) ?_)));have cb := be.stw 0 Z bf;have bt := (bs.st cb);refine Xa (Xn ag4 cL (Ad ab 1) (vb a.Had) Z (bt.cell Z)) (Xa (Xj fa39_1 (Ad aa 0) (Ad aa 1) Z Z) (Yt 1 [vb a.Had] [vs a.Id, vb a.Had, vs [], vi 0, G none 0 0, G none 0 0, vb false, vs [], vi 0, G none 0 0, G none 0 0] ca Z Z sz4 Z Z Z fun cc bh cd => ?_));have a3 := bg.wr 0 Z bh;refine Xc (Xb (Xd (Xa (Xj fa49_2 (Ad ab 0) (Ad ab 2) Z Z) ?_)));have ce := bg.stw 0 Z bh;have bu := (bt.st ce);refine Xa (Xv ag47 sz47 cL (Ad ab 2) [vs a.Was.Id, vi a.Was.Shape.Kind, G A3 n4 c5, G A8 n9 ao] Z Z (bu.cells (off := 2) Z)) ?_;refine X0 go29 (F40.calls H a3.ok hs2 (hp6.st a3.st) (bx.st a3.st)) Z ?_;rintro _ dc ⟨r, ac, ae, af, ad, ag, ah, rfl, H, bb, cf, bv, cg, ch, ci⟩;have a4 := a3.owns bb cf bv;refine Xa (Xj fa39_2 (Ad aa 0) (Ad aa 2) Z Z) ?_;have cj := (cd.k0 bb);refine Yt 2 [vs r.Id, vi r.Shape.Kind, G ac ae af, G ad ag ah] [vs a.Id, vb a.Had, vs r.Id, vi r.Shape.Kind, G ac ae af, G ad ag ah, vb false, vs [], vi 0, G none 0 0, G none 0 0] cj Z Z sz37 Z Z Z fun dd a5 ck => ?_;have a6 := a4.wr 2 Z a5;refine Xc (Xb (Xd (Xa (Xj fa49_3 (Ad ab 0) (Ad ab 6) Z Z) ?_)));have cl := a3.stos bb bv;have cm := a4.stw 2 Z a5;have bw := ((bu.st cl).st cm);refine Xa (Xn ag4 cL (Ad ab 6) (vb a.Has) Z (bw.cell Z)) (Xa (Xj fa39_3 (Ad aa 0) (Ad aa 6) Z Z) (Yt 6 [vb a.Has] [vs a.Id, vb a.Had, vs r.Id, vi r.Shape.Kind, G ac ae af, G ad ag ah, vb a.Has, vs [], vi 0, G none 0 0, G none 0 0] ck Z Z sz4 Z Z Z fun cn a7 co => ?_));have bc := a6.wr 2 Z a7;refine Xc (Xb (Xd (Xa (Xj fa49_4 (Ad ab 0) (Ad ab 7) Z Z) ?_)));have cp := a6.stw 2 Z a7;have cq := (bw.st cp);refine Xa (Xv ag47 sz47 cL (Ad ab 7) [vs a.Now.Id, vi a.Now.Shape.Kind, G ap aq ar, G au av aw] Z Z (cq.cells (off := 7) Z)) ?_;refine X0 go29 (F40.calls H bc.ok bz (b0.st bc.st) (b1.st bc.st)) Z ?_;rintro _ de ⟨r2, ai, ak, al, aj, am, an, rfl, H, a8, cr, bi, cs, ct, cu⟩;have ax := bc.owns a8 cr bi;refine Xa (Xj fa39_4 (Ad aa 0) (Ad aa 7) Z Z) ?_;have cv := (co.k0 a8);refine Yt 7 [vs r2.Id, vi r2.Shape.Kind, G ai ak al, G aj am an] [vs a.Id, vb a.Had, vs r.Id, vi r.Shape.Kind, G ac ae af, G ad ag ah, vb a.Has, vs r2.Id, vi r2.Shape.Kind, G ai ak al, G aj am an] cv Z Z sz37 Z Z Z fun df ay cw => ?_;have a9 := ax.wr 4 Z ay;refine Xc (Xb (Xd (Xa (Xv ag39 sz39 cL (Ad aa 0) [vs a.Id, vb a.Had, vs r.Id, vi r.Shape.Kind, G ac ae af, G ad ag ah, vb a.Has, vs r2.Id, vi r2.Shape.Kind, G ai ak al, G aj am an] Z Z (cw.cells (off := 00) Z)) ?_)));have cx := (ax.bm ((a6.bm (a4.bm ((bg.bm (be.bm (b6.k0 bd) 1 0 Z Z Z bf) 1 0 Z Z Z bh).k0 bb) 3 2 Z Z Z a5) 3 2 Z Z Z a7).k0 a8) 5 4 Z Z Z ay);refine Yu [vs a.Id, vb a.Had, vs r.Id, vi r.Shape.Kind, G ac ae af, G ad ag ah, vb a.Has, vs r2.Id, vi r2.Shape.Kind, G ai ak al, G aj am an] cx Z Z sz39 Z Z fun dg ba cy => ?_;have az := a9.wr 5 Z ba;refine Xc (Xl ?_);have cz := az.bgv cy 5 Z;have a0 := az.drop 5 Z;have a1 := a0.drop 4 Z;have a2 : ([bk ai, bk aj, bk ac, bk ad] : Ob).Perm [bk ac, bk ad, bk ai, bk aj] := RP;have bj := a1.perm a2;have c0 := a0.std 4 Z;have c1 := a1.stp a2;have c2 := ((cz.st c0).st c1);have c3 := (a1.sp (a0.sd (az.sd (a9.sw (ax.sw ((a6.sw (a4.sw ch 0 2 Z Z Z a5) 0 2 Z Z Z a7).sos a8 bi) 2 4 Z Z Z ay) 2 5 Z Z Z ba) 2 5 Z Z Z) 2 4 Z Z Z) a2);have c4 := (a1.sp (a0.sd (az.sd (a9.sw (ax.sw ((a6.sw (a4.sw ci 1 2 Z Z Z a5) 1 2 Z Z Z a7).sos a8 bi) 3 4 Z Z Z ay) 3 5 Z Z Z ba) 3 5 Z Z Z) 3 4 Z Z Z) a2);have c6 := (a1.sp (a0.sd (az.sd (a9.sw (ax.sw ct 0 4 Z Z Z ay) 0 5 Z Z Z ba) 0 5 Z Z Z) 0 4 Z Z Z) a2);have c7 := (a1.sp (a0.sd (az.sd (a9.sw (ax.sw cu 1 4 Z Z Z ay) 1 5 Z Z Z ba) 1 5 Z Z Z) 1 4 Z Z Z) a2);exact ⟨[.agg #[vs a.Id, vb a.Had, vs r.Id, vi r.Shape.Kind, G ac ae af, G ad ag ah, vb a.Has, vs r2.Id, vi r2.Shape.Kind, G ai ak al, G aj am an]], ⟨_, _, Z, c2.1.res Z ag39 sz39, Z⟩, (⟨a.Id, a.Had, r, a.Has, r2⟩ : Change), ac, ae, af, ad, ag, ah, ai, ak, al, aj, am, an, Z, H, bj.gr.g0, bj.ok, bj.ge, hs1, cg, c3, c4, cs, c6, c7⟩
def F11.E (a : List Change) (Q : List Change → Prop) : Prop :=
 ((0 : Int) ≤ (a.length : Int) ∧ (a.length : Int) ≤ (268435456 : Int)) ∧ (∃ (I62 : (List Change) → Int → Prop) (mu63 : (List Change) → Int → Nat), I62 (List.replicate (a.length : Int).toNat ((⟨[], false, (⟨[], (⟨0, []⟩ : Shape), []⟩ : Feat), false, (⟨[], (⟨0, []⟩ : Shape), []⟩ : Feat)⟩ : Change) : Change)) 0 ∧ ∀ (xs2 : List Change) (i2 : Int), I62 xs2 i2 → (if decide (i2 < (a.length : Int)) then ((0 : Int) ≤ i2 ∧ i2 < (a.length : Int)) ∧ F18.E (nth a i2) (fun r => ((0 : Int) ≤ i2 ∧ i2 < (xs2.length : Int)) ∧ (-9223372036854775808 ≤ i2) ∧ I62 (xs2.set i2.toNat r) (i2 + 1) ∧ mu63 (xs2.set i2.toNat r) (i2 + 1) < mu63 xs2 i2) else Q xs2))
theorem F11.calls {a : List Change} {A1 : Option Addr} {n2 c3 : Nat} {Q : List Change → Prop} (H : F11.E a Q) (hO : Ok w0 O) (hp4 : Sl kChange w0 (Fr O) (G A1 n2 c3) a) :
  Ret Tryd.prog 8 [G A1 n2 c3] w0 (fun v w' => ∃ (r0 : List Change) (Aw0 : Option Addr) (nw0 cw0 : Nat) (q0 : Ob) (ra0 : List (List Value)), v = G Aw0 nw0 cw0 ∧ Q r0 ∧ Gr w0 w' none ∧ Ok w' ((bk Aw0 :: (q0 ++ [])) ++ O) ∧ (∀ b, some b ∈ (bk Aw0 :: (q0 ++ [])) → w0.heap.size ≤ b) ∧ Ow (Kd.cells 11) 39 w' ((bk Aw0 :: (q0 ++ [])) ++ O) (G Aw0 nw0 cw0) ra0 ∧ DArr dChange_39 w' q0 r0 ra0) := by
 unfold F11.E at H;have hc0 := Ct.init hO;refine X3 Tryd.func8 Z 23 Z [.tmp 2] Z Z ?_;refine Xb (Xd (Xf (G none 0 0) Z (Xc (Xb (Xd (Xg (G A1 n2 c3) Z ?_))))));have hl6 := hp4.le;refine Xa (X6 u22_ A1 n2 c3 hp4.len Z) ?_;obtain ⟨hb7, H⟩ := H;have bo : (dChange_39).D w0 ([] ++ ([] ++ (([] ++ (([] ++ [none]) ++ [none])) ++ ([] ++ ([] ++ (([] ++ [none]) ++ [none])))))) (⟨([] : Str), false, (⟨([] : Str), (⟨0, []⟩ : Shape), []⟩ : Feat), false, (⟨([] : Str), (⟨0, []⟩ : Shape), []⟩ : Feat)⟩ : Change) [vs [], vb false, vs [], vi 0, G none 0 0, G none 0 0, vb false, vs [], vi 0, G none 0 0, G none 0 0] := (dChange_39.mk _ (⟨([] : Str), false, (⟨([] : Str), (⟨0, []⟩ : Shape), []⟩ : Feat), false, (⟨([] : Str), (⟨0, []⟩ : Shape), []⟩ : Feat)⟩ : Change) RD RD Ds.nil Ds.nil RD Ds.nil Ds.nil);have b7 := DArr.rep bo (a.length : Int).toNat;have a4 := none_rep (qs := ([] ++ ([] ++ (([] ++ (([] ++ [none]) ++ [none])) ++ ([] ++ ([] ++ (([] ++ [none]) ++ [none]))))))) (by simp) (a.length : Int).toNat;refine Y6 (kd := Kd.cells 11) Zw hc0 [vs [], vb false, vs [], vi 0, G none 0 0, G none 0 0, vb false, vs [], vi 0, G none 0 0, G none 0 0] (Dd.raw _ bo) (a.length : Int) Z Z hb7 fun b8 aa af ag b9 hr21 ca cb => ?_;have a5 : ((List.replicate (a.length : Int).toNat ([] ++ ([] ++ (([] ++ (([] ++ [none]) ++ [none])) ++ ([] ++ ([] ++ (([] ++ [none]) ++ [none]))))))).flatten ++ ([bk aa] : Ob)).Perm (bk aa :: ((List.replicate (a.length : Int).toNat ([] ++ ([] ++ (([] ++ (([] ++ [none]) ++ [none])) ++ ([] ++ ([] ++ (([] ++ [none]) ++ [none]))))))).flatten ++ [])) := RP;have bp := ca.noned a4 a5;have dk := St.noned b8 O a4 a5;refine Xf (G aa af ag) Z (Xc (Xb (Xb (Xd (Xf (vi 0) Z (Xc (X5 ?_)))))));obtain ⟨cc, cd, a6, H⟩ := H;have ce := (Ow.noned cb a4 a5);have cf := (b7.k0 b9);refine Ye (α := (List Change) × (List (List Value)) × Ob × Int) (fun (xs2, ai, ah, i2) t al => cc xs2 i2 ∧ Has t [(0, G A1 n2 c3), (3, G aa af ag), (4, vi i2)] ∧ Cw [] w0 al (bk aa :: (ah ++ [])) O fun M => Sl kChange al (Fr M) (G A1 n2 c3) a ∧ Ow (Kd.cells 11) 39 al M (G aa af ag) ai ∧ DArr dChange_39 al ah xs2 ai) (fun (xs2, _, _, i2) => cd xs2 i2) ((List.replicate (a.length : Int).toNat ((⟨([] : Str), false, (⟨([] : Str), (⟨0, []⟩ : Shape), []⟩ : Feat), false, (⟨([] : Str), (⟨0, []⟩ : Shape), []⟩ : Feat)⟩ : Change) : Change)), (List.replicate (a.length : Int).toNat [vs [], vb false, vs [], vi 0, G none 0 0, G none 0 0, vb false, vs [], vi 0, G none 0 0, G none 0 0]), (List.replicate (a.length : Int).toNat ([] ++ ([] ++ (([] ++ (([] ++ [none]) ++ [none])) ++ ([] ++ ([] ++ (([] ++ [none]) ++ [none]))))))).flatten, 0) ⟨a6, (X2 Z), bp, (hp4.st bp.st), ce, cf⟩ ?_;rintro ⟨xs2, ai, ah, i2⟩ _ al ⟨a6, cg, am, ax, bq, br⟩;obtain ⟨dl, rfl⟩ := Has.ins cg;have H := H xs2 i2 a6;refine Xb (Xb (Xd (Xg (vi i2) Z (Xg (G A1 n2 c3) Z ?_))));have ch := ax.le;refine Xa (X6 u22_ A1 n2 c3 ax.len Z) (Xa (Xx i2 (a.length : Int) (decide (i2 < (a.length : Int))) Z Z Z) (Xc ?_));refine Xu (decide (i2 < (a.length : Int))) Z (fun ay => ?_) (fun ay => ?_)
 ·have H := Xo H ay;refine Xt (Xb (X5 (Xd (Xg (G aa af ag) Z (Xg (vi i2) Z (Xg (G A1 n2 c3) Z (Xg (vi i2) Z ?_)))))));obtain ⟨bs, H⟩ := H;obtain ⟨bt, dm, ci, dn, cj, ck⟩ := ax.get default RD i2 bs;obtain ⟨a7, a8, a9, ba, bb, bc, bd, be, bf, bg, bh, bi, rfl, cl, cm, cn, co, cp, cq, cr⟩ := kChange.op cj;refine Xa (X4 u22_ Zj A1 bt n2 c3 ax.len i2 Z ci Z bs) (Xa (Xv ag49 sz49 cL (bt.add (i2.toNat * 11)) [vs ((nth a i2).Id), vb ((nth a i2).Had), vs ((nth a i2).Was.Id), vi ((nth a i2).Was.Shape.Kind), G a7 a8 a9, G ba bb bc, vb ((nth a i2).Has), vs ((nth a i2).Now.Id), vi ((nth a i2).Now.Shape.Kind), G bd be bf, G bg bh bi] Z Z ck) ?_);refine X0 go17 (F18.calls H am.ok cl cm cn co cp cq cr) Z ?_;rintro _ cs ⟨r, ab, an, ao, ac, ap, aq, ad, ar, au, ae, av, aw, rfl, H, az, ct, bj, bu, bv, bw, bx, bz, b0, b1⟩;have aj := am.owns az ct bj;obtain ⟨a0, H⟩ := H;have a1 := (bq.sos az bj);have a2 := (br.k0 az);have cu : (0 : Int) ≤ i2 ∧ i2 < (ai.length : Int) := by rw [a2.len]; exact a0
  obtain ⟨b2, dp, bl, cv, dq⟩ := a1.get default RD i2 cu;obtain rfl := Kd.cells.op cv;refine Xa (X4 u25_ Ys aa b2 af ag (Dp.len a1 a2) i2 Z bl Z a0) ?_;have cw : (dChange_39).D cs ([] ++ ([] ++ (([] ++ (([] ++ [bk ab]) ++ [bk ac])) ++ ([] ++ ([] ++ (([] ++ [bk ad]) ++ [bk ae])))))) r [vs r.Id, vb r.Had, vs r.Was.Id, vi r.Was.Shape.Kind, G ab an ao, G ac ap aq, vb r.Has, vs r.Now.Id, vi r.Now.Shape.Kind, G ad ar au, G ae av aw] := (dChange_39.mk _ r bu bv (Ds.ofOw kPt_flat bw) (Ds.ofOw kTag_flat bx) bz (Ds.ofOw kPt_flat b0) (Ds.ofOw kTag_flat b1));have b3 : (0 : Int) ≤ i2 ∧ i2 < (ai.length : Int) := by rw [a2.len]; exact a0
  obtain ⟨dr, b4, cx, cy, cz⟩ := a1.get default RD i2 b3;obtain rfl := Option.some.inj (bl.symm.trans cx);have b5 : b4.length = 11 := (Kd.cells 11).len cy;refine Y5 (kd := Kd.cells 11) aa af ag ai a1 i2 b3 b2 bl 0 Z [vs r.Id, vb r.Had, vs r.Was.Id, vi r.Was.Shape.Kind, G ab an ao, G ac ap aq, vb r.Has, vs r.Now.Id, vi r.Now.Shape.Kind, G ad ar au, G ae av aw] Z sz39 Z [vs r.Id, vb r.Had, vs r.Was.Id, vi r.Was.Shape.Kind, G ab an ao, G ac ap aq, vb r.Has, vs r.Now.Id, vi r.Now.Shape.Kind, G ad ar au, G ae av aw] b4 [vs r.Id, vb r.Had, vs r.Was.Id, vi r.Was.Shape.Kind, G ab an ao, G ac ap aq, vb r.Has, vs r.Now.Id, vi r.Now.Shape.Kind, G ad ar au, G ae av aw] cz b5 (whole_put b5) (Dd.raw _ cw) fun c0 ak c1 => ?_;have b6 := aj.wr 4 Z ak;have c2 := (aj.sw bw 0 4 Z Z Z ak);have c4 := (aj.sw bx 1 4 Z Z Z ak);have c5 := (aj.sw b0 2 4 Z Z Z ak);have c6 := (aj.sw b1 3 4 Z Z Z ak);have c7 : (dChange_39).D c0 ([] ++ ([] ++ (([] ++ (([] ++ [bk ab]) ++ [bk ac])) ++ ([] ++ ([] ++ (([] ++ [bk ad]) ++ [bk ae])))))) r [vs r.Id, vb r.Had, vs r.Was.Id, vi r.Was.Shape.Kind, G ab an ao, G ac ap aq, vb r.Has, vs r.Now.Id, vi r.Now.Shape.Kind, G ad ar au, G ae av aw] := (dChange_39.mk _ r bu bv (Ds.ofOw kPt_flat c2) (Ds.ofOw kTag_flat c4) bz (Ds.ofOw kPt_flat c5) (Ds.ofOw kTag_flat c6));have c8 := (DArr.sm (L := (bk ab :: bk ac :: bk ad :: bk ae :: bk aa :: (ah ++ []))) (O := O) (i := 4) a2 aj Z (fun b hb => (List.mem_append_left _ hb)) ak);obtain ⟨a3, bm, c9, da⟩ := DArr.put c7 (Int.toNat i2) c8 (by have := a0; omega);have bn : ((bk ab :: bk ac :: bk ad :: bk ae :: bk aa :: (ah ++ [])) : Ob).Perm (bm ++ (bk aa :: (a3 ++ []))) := (show ((bk ab :: bk ac :: bk ad :: bk ae :: bk aa :: (ah ++ [])) : Ob).Perm ((ah ++ ([] ++ ([] ++ (([] ++ (([] ++ [bk ab]) ++ [bk ac])) ++ ([] ++ ([] ++ (([] ++ [bk ad]) ++ [bk ae]))))))) ++ (bk aa :: [])) from RP).trans ((c9.append_right (bk aa :: [])).trans (show ((bm ++ a3) ++ (bk aa :: []) : Ob).Perm (bm ++ (bk aa :: (a3 ++ []))) from RP));have db := b6.drops bn;refine Xc (Xd (Xg (vi i2) Z ?_));obtain ⟨dc, H⟩ := H;have dd : I64 (i2 + 1) := i64_succ (of_decide_eq_true ay) ch dc;refine Xa (Yc i2 1 Z Z dd) (Xf (vi (i2 + 1)) Z (Xc ?_));obtain ⟨de, df⟩ := H;have dg := am.stos az bj;have dh := aj.stw 4 Z ak;have di := (((ax.st dg).st dh).st (St.drops _ O bn));have dj := (b6.odr c1 bn 0 Z);exact ⟨((xs2.set i2.toNat r), (ai.set i2.toNat [vs r.Id, vb r.Had, vs r.Was.Id, vi r.Was.Shape.Kind, G ab an ao, G ac ap aq, vb r.Has, vs r.Now.Id, vi r.Now.Shape.Kind, G ad ar au, G ae av aw]), a3, i2 + 1), df, de, (X2 Z), db, di, dj, da⟩
 have H := Xp H ay;refine Yd (xin_hit ?_);exact Xb (Xd (Xg (G aa af ag) Z (Xf (G aa af ag) Z (Xc (Xl ⟨[G aa af ag], ⟨_, Z, Z⟩, xs2, aa, af, ag, ah, ai, Z, H, am.gr.g0, am.ok, am.ge, bq, br⟩)))))
def F41.E (s : Str) (Q : Bool → Prop) : Prop :=
 (∃ (I8 : Int → Prop) (mu9 : Int → Nat), I8 0 ∧ ∀ (i2 : Int), I8 i2 → (if decide (i2 < (s.length : Int)) then ((0 : Int) ≤ i2 ∧ i2 < (s.length : Int)) ∧ (if decide (((nth s i2).toNat : Int) < 97) then Q false else ((0 : Int) ≤ i2 ∧ i2 < (s.length : Int)) ∧ (if decide (((nth s i2).toNat : Int) > 122) then Q false else (-9223372036854775808 ≤ i2) ∧ I8 (i2 + 1) ∧ mu9 (i2 + 1) < mu9 i2)) else (if decide ((s.length : Int) ≥ 1) then Q (decide ((s.length : Int) ≤ 6)) else Q false)))
theorem F41.calls {s : Str} {Q : Bool → Prop} (H : F41.E s Q) (hO : Ok w0 O) (hs1 : Lim s) :
  Ret Tryd.prog 39 [vs s] w0 (fun v w' => ∃ (r0 : Bool), v = vb r0 ∧ Q r0 ∧ Gr w0 w' none) := by
 unfold F41.E at H;have hc0 := Ct.init hO;refine X3 Tryd.func39 Z 28 Z [.tmp 2] Z Z ?_;refine Xb (Xd (Xf (vb false) Z (Xc (Xb (Xb (Xd (Xf (vi 0) Z (Xc ?_))))))));refine X5 ?_;obtain ⟨I8, mu9, ad, H⟩ := H;refine Ye (α := Int) (fun (sv__ : Int) t w6 => match sv__ with | i2 => I8 i2 ∧ Has t [(0, vs s), (3, vi i2)] ∧ Ct [] w0 w6 [] O) (fun (sv__ : Int) => match sv__ with | i2 => mu9 i2) 0 ⟨ad, (X2 Z), hc0⟩ ?_;rintro i2 _ w6 ⟨ad, af, hc7⟩;obtain ⟨an, rfl⟩ := Has.ins af;have H := H i2 ad;refine Xb (Xb (Xd (Xg (vi i2) Z (Xg (vs s) Z ?_))));have ag := hs1;refine Xa (Yx u9_ s Z) (Xa (Xx i2 (s.length : Int) (decide (i2 < (s.length : Int))) Z Z Z) (Xc ?_));refine Xu (decide (i2 < (s.length : Int))) Z (fun ac => ?_) (fun ac => ?_)
 ·have H := Xo H ac;refine Xt (Xb (X5 (Xb (Xd (Xg (vs s) Z (Xg (vi i2) Z ?_))))));obtain ⟨ah, H⟩ := H;refine Xa (Y2 u9_ s i2 Z Z ah) (Xa (Xx ((nth s i2).toNat : Int) 97 (decide (((nth s i2).toNat : Int) < 97)) Z Z Z) (Xg (vb (decide (((nth s i2).toNat : Int) < 97))) Z ?_));rcases Xz (decide (((nth s i2).toNat : Int) < 97)) with aa | aa
  ·have H := Xo H aa;refine Xh aa Z (Xh aa Z (Xh aa Z (Xh aa Z (Xa (Xk true (vb true) aa Z) (Xc (Yi (b := true) Z Z ?_))))));exact Xb (Xd (Xf (vb false) Z (Xc (Xl ⟨[vb false], ⟨_, Z, Z⟩, false, Z, H, hc7.gr.g0⟩))))
  have H := Xp H aa;refine Xe aa Z (Xg (vs s) Z (Xe aa Z (Xg (vi i2) Z (Xe aa Z ?_))));obtain ⟨ai, H⟩ := H;refine Xa (Y2 u9_ s i2 Z Z ai) (Xe aa Z (Xa (Xx ((nth s i2).toNat : Int) 122 (decide (((nth s i2).toNat : Int) > 122)) Z Z Z) (Xa (Yj false (vb (decide (((nth s i2).toNat : Int) > 122))) (by exact congrArg Value.bool aa) Z) (Xc ?_))));refine Xu (decide (((nth s i2).toNat : Int) > 122)) Z (fun ae => ?_) (fun ae => ?_)
  ·have H := Xo H ae;exact Xb (Xd (Xf (vb false) Z (Xc (Xl ⟨[vb false], ⟨_, Z, Z⟩, false, Z, H, hc7.gr.g0⟩))))
  have H := Xp H ae;refine Xt (Xd (Xg (vi i2) Z ?_));obtain ⟨aj, H⟩ := H;have ak : I64 (i2 + 1) := i64_succ (of_decide_eq_true ac) ag aj;refine Xa (Yc i2 1 Z Z ak) (Xf (vi (i2 + 1)) Z (Xc ?_));obtain ⟨al, am⟩ := H;exact ⟨i2 + 1, am, al, (X2 Z), hc7⟩
 have H := Xp H ac;refine Yd (xin_hit ?_);refine Xb (Xd (Xg (vs s) Z (Xa (Yx u9_ s Z) (Xa (Xx (s.length : Int) 1 (decide ((s.length : Int) ≥ 1)) Z Z Z) (Xg (vb (decide ((s.length : Int) ≥ 1))) Z ?_)))));rcases Xz (decide ((s.length : Int) ≥ 1)) with ab | ab
 ·have H := Xo H ab;refine Xe ab Z (Xg (vs s) Z (Xe ab Z (Xa (Yx u9_ s Z) (Xe ab Z (Xa (Xx (s.length : Int) 6 (decide ((s.length : Int) ≤ 6)) Z Z Z) (Xa (Yj true (vb (decide ((s.length : Int) ≤ 6))) (by exact congrArg Value.bool ab) Z) (Xf (vb (decide ((s.length : Int) ≤ 6))) Z (Xc ?_))))))));exact Xl ⟨[vb (decide ((s.length : Int) ≤ 6))], ⟨_, Z, Z⟩, decide ((s.length : Int) ≤ 6), Z, H, hc7.gr.g0⟩
 have H := Xp H ab;exact Xh ab Z (Xh ab Z (Xh ab Z (Xa (Xk false (vb false) ab Z) (Xf (vb false) Z (Xc (Xl ⟨[vb false], ⟨_, Z, Z⟩, false, Z, H, hc7.gr.g0⟩))))))
def F42.E (a b : List Pt) (Q : Bool → Prop) : Prop :=
 (if (a.length : Int) != (b.length : Int) then Q false else (∃ (I32 : Int → Prop) (mu33 : Int → Nat), I32 0 ∧ ∀ (i2 : Int), I32 i2 → (if decide (i2 < (a.length : Int)) then ((0 : Int) ≤ i2 ∧ i2 < (a.length : Int)) ∧ ((0 : Int) ≤ i2 ∧ i2 < (b.length : Int)) ∧ (if !(eqPt (nth a i2) (nth b i2)) then Q false else (-9223372036854775808 ≤ i2) ∧ I32 (i2 + 1) ∧ mu33 (i2 + 1) < mu33 i2) else Q true)))
theorem F42.calls {a : List Pt} {A1 : Option Addr} {n2 c3 : Nat} {b : List Pt} {A6 : Option Addr} {n7 c8 : Nat} {Q : Bool → Prop} (H : F42.E a b Q) (hO : Ok w0 O) (hp4 : Sl kPt w0 (Fr O) (G A1 n2 c3) a) (hp9 : Sl kPt w0 (Fr O) (G A6 n7 c8) b) :
  Ret Tryd.prog 88 [G A1 n2 c3, G A6 n7 c8] w0 (fun v w' => ∃ (r0 : Bool), v = vb r0 ∧ Q r0 ∧ Gr w0 w' none) := by
 unfold F42.E at H;have hc0 := Ct.init hO;refine X3 Tryd.func88 Z 26 Z [.tmp 4] Z Z ?_;refine Xb (Xd (Xf (vb false) Z (Xc (Xb (Xb (Xd (Xg (G A1 n2 c3) Z ?_)))))));have a5 := hp4.le;refine Xa (X6 u32_ A1 n2 c3 hp4.len Z) (Xg (G A6 n7 c8) Z ?_);have a6 := hp9.le;refine Xa (X6 u32_ A6 n7 c8 hp9.len Z) (Xa (Xx (a.length : Int) (b.length : Int) ((a.length : Int) != (b.length : Int)) Z Z Z) (Xc ?_));refine Xu ((a.length : Int) != (b.length : Int)) Z (fun ad => ?_) (fun ad => ?_)
 ·have H := Xo H ad;exact Xb (Xd (Xf (vb false) Z (Xc (Xl ⟨[vb false], ⟨_, Z, Z⟩, false, Z, H, hc0.gr.g0⟩))))
 have H := Xp H ad;refine Xt (Xb (Xb (Xd (Xf (vi 0) Z (Xc (X5 ?_))))));obtain ⟨ap, aq, ae, H⟩ := H;refine Ye (α := Int) (fun (sv__ : Int) t aa => match sv__ with | i2 => ap i2 ∧ Has t [(0, G A1 n2 c3), (1, G A6 n7 c8), (5, vi i2)] ∧ Cw [] w0 aa [] O fun M => Sl kPt aa (Fr M) (G A1 n2 c3) a ∧ Sl kPt aa (Fr M) (G A6 n7 c8) b) (fun (sv__ : Int) => match sv__ with | i2 => aq i2) 0 ⟨ae, (X2 Z), hc0, hp4, hp9⟩ ?_;rintro i2 _ aa ⟨ae, ar, af, ab, ag⟩;obtain ⟨a7, rfl⟩ := Has.ins ar;have H := H i2 ae;refine Xb (Xb (Xd (Xg (vi i2) Z (Xg (G A1 n2 c3) Z ?_))));have au := ab.le;refine Xa (X6 u32_ A1 n2 c3 ab.len Z) (Xa (Xx i2 (a.length : Int) (decide (i2 < (a.length : Int))) Z Z Z) (Xc ?_));refine Xu (decide (i2 < (a.length : Int))) Z (fun ac => ?_) (fun ac => ?_)
 ·have H := Xo H ac;refine Xt (Xb (X5 (Xb (Yh (fun x => Gr aa x none) RK RK (Gr.drew _) ?_))));refine Xs (G A1 n2 c3) Z (Xs (vi i2) Z ?_);obtain ⟨ai, H⟩ := H;obtain ⟨aj, a8, av, a9, aw, ax⟩ := ab.get default RD i2 ai;obtain rfl := kPt.op aw;refine Xi (X4 u32_ Yl A1 aj n2 c3 ab.len i2 Z av Z ai) (Xi (Xv ag87 sz87 cQ (aj.add (i2.toNat * 2)) [vi ((nth a i2).X), vi ((nth a i2).Y)] Z Z ax) (Xs (G A6 n7 c8) Z (Xs (vi i2) Z ?_)));obtain ⟨ak, H⟩ := H;obtain ⟨al, ba, ay, bb, az, a0⟩ := ag.get default RD i2 ak;obtain rfl := kPt.op az;refine Xi (X4 u32_ Yl A6 al n7 c8 ag.len i2 Z ay Z ak) (Xi (Xv ag87 sz87 cQ (al.add (i2.toNat * 2)) [vi ((nth b i2).X), vi ((nth b i2).Y)] Z Z a0) (Xi (Yz _ _ (eqPt (nth a i2) (nth b i2)) (qt87 (nth a i2) (nth b i2)) Z Z) (X9 fun bc am => ?_)));have an := af.k0 am;refine Xu (!(eqPt (nth a i2) (nth b i2))) Z (fun ah => ?_) (fun ah => ?_)
  ·have H := Xo H ah;exact Xb (Xd (Xf (vb false) Z (Xc (Xl ⟨[vb false], ⟨_, Z, Z⟩, false, Z, H, an.gr.g0⟩))))
  have H := Xp H ah;refine Xt (Xd (Xg (vi i2) Z ?_));obtain ⟨a1, H⟩ := H;have a2 : I64 (i2 + 1) := i64_succ (of_decide_eq_true ac) au a1;refine Xa (Yc i2 1 Z Z a2) (Xf (vi (i2 + 1)) Z (Xc ?_));obtain ⟨a3, a4⟩ := H;have ao := af.stn am;exact ⟨i2 + 1, a4, a3, (X2 Z), an, (ab.st ao), (ag.st ao)⟩
 have H := Xp H ac;refine Yd (xin_hit ?_);exact Xb (Xd (Xf (vb true) Z (Xc (Xl ⟨[vb true], ⟨_, Z, Z⟩, true, Z, H, af.gr.g0⟩))))
def F12.E (a b : Shape) (Q : Bool → Prop) : Prop :=
 (if a.Kind == b.Kind then F42.E a.Pts b.Pts (fun r => Q r) else Q false)
theorem F12.calls {a : Shape} {A1 : Option Addr} {n2 c3 : Nat} {b : Shape} {A6 : Option Addr} {n7 c8 : Nat} {Q : Bool → Prop} (H : F12.E a b Q) (hO : Ok w0 O) (hp4 : Sl kPt w0 (Fr O) (G A1 n2 c3) a.Pts) (hp9 : Sl kPt w0 (Fr O) (G A6 n7 c8) b.Pts) :
  Ret Tryd.prog 68 [.agg #[vi a.Kind, G A1 n2 c3], .agg #[vi b.Kind, G A6 n7 c8]] w0 (fun v w' => ∃ (r0 : Bool), v = vb r0 ∧ Q r0 ∧ Gr w0 w' none) := by
 unfold F12.E at H;have hc0 := Ct.init hO;refine X3 Tryd.func68 Z 17 Z [.tmp 4] Z Z ?_;refine Xb (Xd (Ya [vi a.Kind, G A1 n2 c3] Z fun au ab ai hu15 aj ak => ?_));have al := Fb.mk hc0.ok ai ak;have ae := hc0.k0 aj;refine Ya [vi b.Kind, G A6 n7 c8] Z fun am ac an hu24 af ao => ?_;have ag := Fb.mk ae.ok an ao;have ad := ae.k0 af;refine Xf (vb false) Z (Xc (Xb (Xd (Xa (Xj fa34_0 (Ad ab 0) (Ad ab 0) Z Z) ?_))));have ap := ae.stn af;have ah := (al.st ap);refine Xa (Xn ag3 cL (Ad ab 0) (vi a.Kind) Z (ah.cell Z)) (Xa (Xj fa34_0 (Ad ac 0) (Ad ac 0) Z Z) (Xa (Xn ag3 cL (Ad ac 0) (vi b.Kind) Z (ag.cell Z)) (Xa (Xx a.Kind b.Kind (a.Kind == b.Kind) Z Z Z) (Xg (vb (a.Kind == b.Kind)) Z ?_))));rcases Xz (a.Kind == b.Kind) with aa | aa
 ·have H := Xo H aa;refine Xe aa Z (Xa (Xj fa34_1 (Ad ab 0) (Ad ab 1) Z Z) (Xe aa Z (Xa (Xn ag32 cL (Ad ab 1) (G A1 n2 c3) Z (ah.cell Z)) (Xe aa Z (Xa (Xj fa34_1 (Ad ac 0) (Ad ac 1) Z Z) (Xe aa Z (Xa (Xn ag32 cL (Ad ac 1) (G A6 n7 c8) Z (ag.cell Z)) (Xe aa Z ?_))))))));refine X0 go88 (F42.calls H ad.ok (hp4.st ad.st) (hp9.st ad.st)) Z ?_;rintro _ av ⟨r, rfl, H, aq⟩;have ar := ad.k0 aq;exact Xa (Xk true (vb r) aa Z) (Xf (vb r) Z (Xc (Xl ⟨[vb r], ⟨_, Z, Z⟩, r, Z, H, ar.gr.g0⟩)))
 have H := Xp H aa;refine Xh aa Z (Xh aa Z (Xh aa Z (Xh aa Z (Xh aa Z (Xa (Xk false (vb false) aa Z) (Xf (vb false) Z (Xc (Xl ?_))))))));exact ⟨[vb false], ⟨_, Z, Z⟩, false, Z, H, ad.gr.g0⟩
def F43.E (a b : List Tag) (Q : Bool → Prop) : Prop :=
 (if (a.length : Int) != (b.length : Int) then Q false else (∃ (I32 : Int → Prop) (mu33 : Int → Nat), I32 0 ∧ ∀ (i2 : Int), I32 i2 → (if decide (i2 < (a.length : Int)) then ((0 : Int) ≤ i2 ∧ i2 < (a.length : Int)) ∧ ((0 : Int) ≤ i2 ∧ i2 < (b.length : Int)) ∧ (if !(eqTag (nth a i2) (nth b i2)) then Q false else (-9223372036854775808 ≤ i2) ∧ I32 (i2 + 1) ∧ mu33 (i2 + 1) < mu33 i2) else Q true)))
theorem F43.calls {a : List Tag} {A1 : Option Addr} {n2 c3 : Nat} {b : List Tag} {A6 : Option Addr} {n7 c8 : Nat} {Q : Bool → Prop} (H : F43.E a b Q) (hO : Ok w0 O) (hp4 : Sl kTag w0 (Fr O) (G A1 n2 c3) a) (hp9 : Sl kTag w0 (Fr O) (G A6 n7 c8) b) :
  Ret Tryd.prog 69 [G A1 n2 c3, G A6 n7 c8] w0 (fun v w' => ∃ (r0 : Bool), v = vb r0 ∧ Q r0 ∧ Gr w0 w' none) := by
 unfold F43.E at H;have hc0 := Ct.init hO;refine X3 Tryd.func69 Z 26 Z [.tmp 4] Z Z ?_;refine Xb (Xd (Xf (vb false) Z (Xc (Xb (Xb (Xd (Xg (G A1 n2 c3) Z ?_)))))));have a5 := hp4.le;refine Xa (X6 u35_ A1 n2 c3 hp4.len Z) (Xg (G A6 n7 c8) Z ?_);have a6 := hp9.le;refine Xa (X6 u35_ A6 n7 c8 hp9.len Z) (Xa (Xx (a.length : Int) (b.length : Int) ((a.length : Int) != (b.length : Int)) Z Z Z) (Xc ?_));refine Xu ((a.length : Int) != (b.length : Int)) Z (fun ad => ?_) (fun ad => ?_)
 ·have H := Xo H ad;exact Xb (Xd (Xf (vb false) Z (Xc (Xl ⟨[vb false], ⟨_, Z, Z⟩, false, Z, H, hc0.gr.g0⟩))))
 have H := Xp H ad;refine Xt (Xb (Xb (Xd (Xf (vi 0) Z (Xc (X5 ?_))))));obtain ⟨ap, aq, ae, H⟩ := H;refine Ye (α := Int) (fun (sv__ : Int) t aa => match sv__ with | i2 => ap i2 ∧ Has t [(0, G A1 n2 c3), (1, G A6 n7 c8), (5, vi i2)] ∧ Cw [] w0 aa [] O fun M => Sl kTag aa (Fr M) (G A1 n2 c3) a ∧ Sl kTag aa (Fr M) (G A6 n7 c8) b) (fun (sv__ : Int) => match sv__ with | i2 => aq i2) 0 ⟨ae, (X2 Z), hc0, hp4, hp9⟩ ?_;rintro i2 _ aa ⟨ae, ar, af, ab, ag⟩;obtain ⟨a7, rfl⟩ := Has.ins ar;have H := H i2 ae;refine Xb (Xb (Xd (Xg (vi i2) Z (Xg (G A1 n2 c3) Z ?_))));have au := ab.le;refine Xa (X6 u35_ A1 n2 c3 ab.len Z) (Xa (Xx i2 (a.length : Int) (decide (i2 < (a.length : Int))) Z Z Z) (Xc ?_));refine Xu (decide (i2 < (a.length : Int))) Z (fun ac => ?_) (fun ac => ?_)
 ·have H := Xo H ac;refine Xt (Xb (X5 (Xb (Yh (fun x => Gr aa x none) RK RK (Gr.drew _) ?_))));refine Xs (G A1 n2 c3) Z (Xs (vi i2) Z ?_);obtain ⟨ai, H⟩ := H;obtain ⟨aj, a8, av, a9, aw, ax⟩ := ab.get default RD i2 ai;obtain ⟨rfl, ba, bb⟩ := kTag.op aw;refine Xi (X4 u35_ Yq A1 aj n2 c3 ab.len i2 Z av Z ai) (Xi (Xv ag67 sz67 cQ (aj.add (i2.toNat * 2)) [vs ((nth a i2).Key), vs ((nth a i2).Val)] Z Z ax) (Xs (G A6 n7 c8) Z (Xs (vi i2) Z ?_)));obtain ⟨ak, H⟩ := H;obtain ⟨al, bc, ay, bd, az, a0⟩ := ag.get default RD i2 ak;obtain ⟨rfl, be, bf⟩ := kTag.op az;refine Xi (X4 u35_ Yq A6 al n7 c8 ag.len i2 Z ay Z ak) (Xi (Xv ag67 sz67 cQ (al.add (i2.toNat * 2)) [vs ((nth b i2).Key), vs ((nth b i2).Val)] Z Z a0) (Xi (Yz _ _ (eqTag (nth a i2) (nth b i2)) (qt67 (nth a i2) (nth b i2)) Z Z) (X9 fun bg am => ?_)));have an := af.k0 am;refine Xu (!(eqTag (nth a i2) (nth b i2))) Z (fun ah => ?_) (fun ah => ?_)
  ·have H := Xo H ah;exact Xb (Xd (Xf (vb false) Z (Xc (Xl ⟨[vb false], ⟨_, Z, Z⟩, false, Z, H, an.gr.g0⟩))))
  have H := Xp H ah;refine Xt (Xd (Xg (vi i2) Z ?_));obtain ⟨a1, H⟩ := H;have a2 : I64 (i2 + 1) := i64_succ (of_decide_eq_true ac) au a1;refine Xa (Yc i2 1 Z Z a2) (Xf (vi (i2 + 1)) Z (Xc ?_));obtain ⟨a3, a4⟩ := H;have ao := af.stn am;exact ⟨i2 + 1, a4, a3, (X2 Z), an, (ab.st ao), (ag.st ao)⟩
 have H := Xp H ac;refine Yd (xin_hit ?_);exact Xb (Xd (Xf (vb true) Z (Xc (Xl ⟨[vb true], ⟨_, Z, Z⟩, true, Z, H, af.gr.g0⟩))))
def F19.E (a b : Feat) (Q : Bool → Prop) : Prop :=
 (if a.Id == b.Id then F12.E a.Shape b.Shape (fun r => (if r then F43.E a.Tags b.Tags (fun r2 => Q r2) else Q false)) else Q false)
theorem F19.calls {a : Feat} {A2 : Option Addr} {n3 c4 : Nat} {A7 : Option Addr} {n8 c9 : Nat} {b : Feat} {ae : Option Addr} {af ag : Nat} {ah : Option Addr} {ai aj : Nat} {Q : Bool → Prop} (H : F19.E a b Q) (hO : Ok w0 O) (hs1 : Lim a.Id) (hp5 : Sl kPt w0 (Fr O) (G A2 n3 c4) a.Shape.Pts) (au : Sl kTag w0 (Fr O) (G A7 n8 c9) a.Tags) (ba : Lim b.Id) (av : Sl kPt w0 (Fr O) (G ae af ag) b.Shape.Pts) (aw : Sl kTag w0 (Fr O) (G ah ai aj) b.Tags) :
  Ret Tryd.prog 40 [.agg #[vs a.Id, vi a.Shape.Kind, G A2 n3 c4, G A7 n8 c9], .agg #[vs b.Id, vi b.Shape.Kind, G ae af ag, G ah ai aj]] w0 (fun v w' => ∃ (r0 : Bool), v = vb r0 ∧ Q r0 ∧ Gr w0 w' none) := by
 unfold F19.E at H;have hc0 := Ct.init hO;refine X3 Tryd.func40 Z 24 Z [.tmp 4] Z Z ?_;refine Xb (Xd (Ya [vs a.Id, vi a.Shape.Kind, G A2 n3 c4, G A7 n8 c9] Z fun bb ac ax hu27 ay az => ?_));have a0 := Fb.mk hc0.ok ax az;have am := hc0.k0 ay;refine Ya [vs b.Id, vi b.Shape.Kind, G ae af ag, G ah ai aj] Z fun a1 ad a2 hu36 ap a3 => ?_;have an := Fb.mk am.ok a2 a3;have ak := am.k0 ap;refine Xf (vb false) Z (Xc (Xb (Xd (Xa (Xj fa37_0 (Ad ac 0) (Ad ac 0) Z Z) ?_))));have a4 := am.stn ap;have ao := (a0.st a4);refine Xa (Xn ag9 cL (Ad ac 0) (vs a.Id) Z (ao.cell Z)) (Xa (Xj fa37_0 (Ad ad 0) (Ad ad 0) Z Z) (Xa (Xn ag9 cL (Ad ad 0) (vs b.Id) Z (an.cell Z)) (Xa (Yg a.Id b.Id (a.Id == b.Id) Z Z Z) (Xg (vb (a.Id == b.Id)) Z ?_))));rcases Xz (a.Id == b.Id) with aa | aa
 ·have H := Xo H aa;refine Xe aa Z (Xa (Xj fa37_1 (Ad ac 0) (Ad ac 1) Z Z) (Xe aa Z (Xa (Xv ag34 sz34 cL (Ad ac 1) [vi a.Shape.Kind, G A2 n3 c4] Z Z (ao.cells (off := 1) Z)) (Xe aa Z (Xa (Xj fa37_1 (Ad ad 0) (Ad ad 1) Z Z) (Xe aa Z (Xa (Xv ag34 sz34 cL (Ad ad 1) [vi b.Shape.Kind, G ae af ag] Z Z (an.cells (off := 1) Z)) (Xe aa Z ?_))))))));refine X0 go68 (F12.calls H ak.ok (hp5.st ak.st) (av.st ak.st)) Z ?_;rintro _ a5 ⟨r, rfl, H, aq⟩;have al := ak.k0 aq;refine Xa (Xk true (vb r) aa Z) (Xg (vb r) Z ?_);rcases Xz r with ab | ab
  ·have H := Xo H ab;refine Xe ab Z (Xa (Xj fa37_2 (Ad ac 0) (Ad ac 3) Z Z) (Xe ab Z ?_));have ar := ak.stn aq;have a6 := (ao.st ar);refine Xa (Xn ag35 cL (Ad ac 3) (G A7 n8 c9) Z (a6.cell Z)) (Xe ab Z (Xa (Xj fa37_2 (Ad ad 0) (Ad ad 3) Z Z) (Xe ab Z ?_)));have a7 := (an.st ar);refine Xa (Xn ag35 cL (Ad ad 3) (G ah ai aj) Z (a7.cell Z)) (Xe ab Z ?_);refine X0 go69 (F43.calls H al.ok (au.st al.st) (aw.st al.st)) Z ?_;rintro _ bc ⟨r2, rfl, H, a8⟩;have a9 := al.k0 a8;exact Xa (Xk true (vb r2) ab Z) (Xf (vb r2) Z (Xc (Xl ⟨[vb r2], ⟨_, Z, Z⟩, r2, Z, H, a9.gr.g0⟩)))
  have H := Xp H ab;refine Xh ab Z (Xh ab Z (Xh ab Z (Xh ab Z (Xh ab Z (Xa (Xk false (vb false) ab Z) (Xf (vb false) Z (Xc (Xl ?_))))))));exact ⟨[vb false], ⟨_, Z, Z⟩, false, Z, H, al.gr.g0⟩
 have H := Xp H aa;refine Xh aa Z (Xh aa Z (Xh aa Z (Xh aa Z (Xh aa Z (Xa (Xk false (vb false) aa Z) (Xg (vb false) Z (Xy (dj := 17) Z Z (.inl Z) (Xy (dj := 17) Z Z (.inl Z) ?_))))))));exact Xy (dj := 17) Z Z (.inl Z) (Xy (dj := 17) Z Z (.inl Z) (Xy (dj := 17) Z Z (.inl Z) (Xa (Xk false (vb false) Z Z) (Xf (vb false) Z (Xc (Xl ⟨[vb false], ⟨_, Z, Z⟩, false, Z, H, ak.gr.g0⟩))))))
def F72.E (n : Int) (Q : Bool → Prop) : Prop :=
 (if decide (n ≥ (-1000)) then Q (decide (n ≤ 1000)) else Q false)
theorem F72.calls {n : Int} {Q : Bool → Prop} (H : F72.E n Q) (hO : Ok w0 O) :
  Ret Tryd.prog 95 [vi n] w0 (fun v w' => ∃ (r0 : Bool), v = vb r0 ∧ Q r0 ∧ Gr w0 w' none ∧ w' = w0) := by
 unfold F72.E at H;have hc0 := Ct.init hO;refine X3 Tryd.func95 Z 9 Z [.tmp 2] Z Z ?_;refine Xb (Xd (Xf (vb false) Z (Xc (Xb (Xd (Xg (vi n) Z (Xa (Xx n (-1000) (decide (n ≥ (-1000))) Z Z Z) (Xg (vb (decide (n ≥ (-1000)))) Z ?_))))))));rcases Xz (decide (n ≥ (-1000))) with hq1 | hq1
 ·have H := Xo H hq1;exact Xe hq1 Z (Xg (vi n) Z (Xe hq1 Z (Xa (Xx n 1000 (decide (n ≤ 1000)) Z Z Z) (Xa (Xk true (vb (decide (n ≤ 1000))) hq1 Z) (Xf (vb (decide (n ≤ 1000))) Z (Xc (Xl ⟨[vb (decide (n ≤ 1000))], ⟨_, Z, Z⟩, decide (n ≤ 1000), Z, H, hc0.gr.g0, Z⟩)))))))
 have H := Xp H hq1;exact Xh hq1 Z (Xh hq1 Z (Xa (Xk false (vb false) hq1 Z) (Xf (vb false) Z (Xc (Xl ⟨[vb false], ⟨_, Z, Z⟩, false, Z, H, hc0.gr.g0, Z⟩)))))
def F72.m (n : Int) : Bool := (if decide (n ≥ (-1000)) then (decide (n ≤ 1000)) else false)
theorem F72.fn (n : Int) : F72.E n (fun r => r = F72.m n) := by
 unfold F72.E F72.m;(repeat' split) <;> simp_all
def F73.E (p : List Pt) (Q : Bool → Prop) : Prop :=
 (∃ (I18 : Int → Prop) (mu19 : Int → Nat), I18 0 ∧ ∀ (i2 : Int), I18 i2 → (if decide (i2 < (p.length : Int)) then ((0 : Int) ≤ i2 ∧ i2 < (p.length : Int)) ∧ (if !(F72.m ((nth p i2).X)) then Q false else ((0 : Int) ≤ i2 ∧ i2 < (p.length : Int)) ∧ (if !(F72.m ((nth p i2).Y)) then Q false else (if decide (i2 > 0) then ((0 : Int) ≤ i2 ∧ i2 < (p.length : Int)) ∧ ((p.length : Int) ≤ 9223372036854775807 → I64 (i2 - 1)) ∧ ((0 : Int) ≤ i2 - 1 ∧ i2 - 1 < (p.length : Int)) ∧ (if eqPt (nth p i2) (nth p (i2 - 1)) then Q false else (-9223372036854775808 ≤ i2) ∧ I18 (i2 + 1) ∧ mu19 (i2 + 1) < mu19 i2) else (-9223372036854775808 ≤ i2) ∧ I18 (i2 + 1) ∧ mu19 (i2 + 1) < mu19 i2))) else Q (decide ((p.length : Int) ≤ 6))))
theorem F73.calls {p : List Pt} {A1 : Option Addr} {n2 c3 : Nat} {Q : Bool → Prop} (H : F73.E p Q) (hO : Ok w0 O) (hp4 : Sl kPt w0 (Fr O) (G A1 n2 c3) p) :
  Ret Tryd.prog 89 [G A1 n2 c3] w0 (fun v w' => ∃ (r0 : Bool), v = vb r0 ∧ Q r0 ∧ Gr w0 w' none) := by
 unfold F73.E at H;have hc0 := Ct.init hO;refine X3 Tryd.func89 Z 45 Z [.tmp 2] Z Z ?_;refine Xb (Xd (Xf (vb false) Z (Xc (Xb (Xb (Xd (Xf (vi 0) Z (Xc ?_))))))));refine X5 ?_;obtain ⟨ax, ay, aj, H⟩ := H;refine Ye (α := Int) (fun (sv__ : Int) t ag => match sv__ with | i2 => ax i2 ∧ Has t [(0, G A1 n2 c3), (3, vi i2)] ∧ Ct [] w0 ag [] O ∧ Sl kPt ag (Fr ([] ++ O)) (G A1 n2 c3) p) (fun (sv__ : Int) => match sv__ with | i2 => ay i2) 0 ⟨aj, (X2 Z), hc0, hp4⟩ ?_;rintro i2 _ ag ⟨aj, az, ae, ad⟩;obtain ⟨bu, rfl⟩ := Has.ins az;have H := H i2 aj;refine Xb (Xb (Xd (Xg (vi i2) Z (Xg (G A1 n2 c3) Z ?_))));have ak := ad.le;refine Xa (X6 u32_ A1 n2 c3 ad.len Z) (Xa (Xx i2 (p.length : Int) (decide (i2 < (p.length : Int))) Z Z Z) (Xc ?_));refine Xu (decide (i2 < (p.length : Int))) Z (fun af => ?_) (fun af => ?_)
 ·have H := Xo H af;refine Xt (Xb (X5 (Xb (Yh (fun x => Gr ag x none) RK RK (Gr.drew _) ?_))));refine Xs (G A1 n2 c3) Z (Xs (vi i2) Z ?_);obtain ⟨am, H⟩ := H;obtain ⟨ah, bv, a0, bw, a1, a2⟩ := ad.get default RD i2 am;obtain rfl := kPt.op a1;refine Xi (X4 u32_ Yl A1 ah n2 c3 ad.len i2 Z a0 Z am) (Xi (Xj fa87_0 (ah.add (i2.toNat * 2)) ((ah.add (i2.toNat * 2)).add 0) Z Z) (Xi (Xn ag3 cQ ((ah.add (i2.toNat * 2)).add 0) (vi ((nth p i2).X)) Z (a2 0 _ Z)) ?_));refine Yf go95 [vi ((nth p i2).X)] Z (vb (F72.m ((nth p i2).X))) (fun w g => (F72.calls (F72.fn ((nth p i2).X)) (ae.k0 g).ok).mono ?_) ?_
  ·rintro _ w ⟨r, rfl, rfl, g2, _⟩;exact ⟨Z, Gr.t0 g g2⟩
  refine Xi (X1 (F72.m ((nth p i2).X)) Z) (Xs (vb (!(F72.m ((nth p i2).X)))) Z ?_);rcases Xz (!(F72.m ((nth p i2).X))) with ab | ab
  ·have H := Xo H ab;refine Xr ab Z (Xr ab Z (Xr ab Z (Xr ab Z (Xr ab Z (Xr ab Z (Xr ab Z (Xi (Xk true (vb true) ab Z) (Xs (vb true) Z ?_))))))));refine X8 (dj := 26) Z Z (.inl Z) (X8 (dj := 26) Z Z (.inl Z) (X8 (dj := 26) Z Z (.inl Z) (Xw Z (Xw Z (Xw Z (Xw Z (Xw Z (Xw Z ?_))))))));refine Xw Z (Xw Z (Xw Z (Xw Z (X8 (dj := 26) Z Z (.inl Z) (Xi (Xk true (vb true) Z Z) (X9 fun bx a3 => ?_))))));have a4 := ae.k0 a3;refine Yi (b := true) Z Z ?_;exact Xb (Xd (Xf (vb false) Z (Xc (Xl ⟨[vb false], ⟨_, Z, Z⟩, false, Z, H, a4.gr.g0⟩))))
  have H := Xp H ab;refine Xq ab Z (Xs (G A1 n2 c3) Z (Xq ab Z (Xs (vi i2) Z (Xq ab Z ?_))));obtain ⟨an, H⟩ := H;obtain ⟨ai, bz, a5, b0, a6, a7⟩ := ad.get default RD i2 an;obtain rfl := kPt.op a6;refine Xi (X4 u32_ Yl A1 ai n2 c3 ad.len i2 Z a5 Z an) (Xq ab Z (Xi (Xj fa87_1 (ai.add (i2.toNat * 2)) ((ai.add (i2.toNat * 2)).add 1) Z Z) (Xq ab Z (Xi (Xn ag3 cQ ((ai.add (i2.toNat * 2)).add 1) (vi ((nth p i2).Y)) Z (a7 1 _ Z)) (Xq ab Z ?_)))));refine Yf go95 [vi ((nth p i2).Y)] Z (vb (F72.m ((nth p i2).Y))) (fun w g => (F72.calls (F72.fn ((nth p i2).Y)) (ae.k0 g).ok).mono ?_) ?_
  ·rintro _ w ⟨r, rfl, rfl, g2, _⟩;exact ⟨Z, Gr.t0 g g2⟩
  refine Xq ab Z (Xi (X1 (F72.m ((nth p i2).Y)) Z) (Xi (Yj false (vb (!(F72.m ((nth p i2).Y)))) (by exact congrArg Value.bool ab) Z) (Xs (vb (!(F72.m ((nth p i2).Y)))) Z ?_)));rcases Xz (!(F72.m ((nth p i2).Y))) with ac | ac
  ·have H := Xo H ac;refine Xr ac Z (Xr ac Z (Xr ac Z (Xw Z (Xw Z (Xw Z (Xw Z (Xw Z (Xw Z ?_))))))));refine Xw Z (Xw Z (Xw Z (Xw Z (Xr ac Z (Xi (Xk true (vb true) ac Z) (X9 fun b1 a8 => ?_))))));have a9 := ae.k0 a8;refine Yi (b := true) Z Z ?_;exact Xb (Xd (Xf (vb false) Z (Xc (Xl ⟨[vb false], ⟨_, Z, Z⟩, false, Z, H, a9.gr.g0⟩))))
  have H := Xp H ac;refine Xq ac Z (Xs (vi i2) Z (Xq ac Z (Xi (Xx i2 0 (decide (i2 > 0)) Z Z Z) (Xq ac Z (Xs (vb (decide (i2 > 0))) Z ?_)))));rcases Xz (decide (i2 > 0)) with aa | aa
  ·have H := Xo H aa;refine Xq aa Z (Xs (G A1 n2 c3) Z (Xq aa Z (Xs (vi i2) Z (Xq aa Z ?_))));obtain ⟨ao, H⟩ := H;obtain ⟨ap, b2, ba, b3, bb, bc⟩ := ad.get default RD i2 ao;obtain rfl := kPt.op bb;refine Xi (X4 u32_ Yl A1 ap n2 c3 ad.len i2 Z ba Z ao) (Xq aa Z (Xi (Xv ag87 sz87 cQ (ap.add (i2.toNat * 2)) [vi ((nth p i2).X), vi ((nth p i2).Y)] Z Z bc) (Xq aa Z (Xs (G A1 n2 c3) Z (Xq aa Z (Xs (vi i2) Z (Xq aa Z ?_)))))));obtain ⟨bd, H⟩ := H;have be := bd (len_le ak);refine Xi (Yr i2 1 Z Z be) (Xq aa Z ?_);obtain ⟨aq, H⟩ := H;obtain ⟨ar, b4, bf, b5, bg, bh⟩ := ad.get default RD (i2 - 1) aq;obtain rfl := kPt.op bg;refine Xi (X4 u32_ Yl A1 ar n2 c3 ad.len (i2 - 1) Z bf Z aq) (Xq aa Z (Xi (Xv ag87 sz87 cQ (ar.add ((i2 - 1).toNat * 2)) [vi ((nth p (i2 - 1)).X), vi ((nth p (i2 - 1)).Y)] Z Z bh) (Xq aa Z (Xi (Zd _ _ (eqPt (nth p i2) (nth p (i2 - 1))) (qt87 (nth p i2) (nth p (i2 - 1))) Z Z) (Xq ac Z (Xi (Yj true (vb (eqPt (nth p i2) (nth p (i2 - 1)))) (by exact congrArg Value.bool aa) Z) (Xi (Yj false (vb (eqPt (nth p i2) (nth p (i2 - 1)))) (by exact congrArg Value.bool ac) Z) (X9 fun b6 au => ?_))))))));have av := ae.k0 au;refine Xu (eqPt (nth p i2) (nth p (i2 - 1))) Z (fun al => ?_) (fun al => ?_)
   ·have H := Xo H al;exact Xb (Xd (Xf (vb false) Z (Xc (Xl ⟨[vb false], ⟨_, Z, Z⟩, false, Z, H, av.gr.g0⟩))))
   have H := Xp H al;refine Xt (Xd (Xg (vi i2) Z ?_));obtain ⟨bi, H⟩ := H;have bj : I64 (i2 + 1) := i64_succ (of_decide_eq_true af) ak bi;refine Xa (Yc i2 1 Z Z bj) (Xf (vi (i2 + 1)) Z (Xc ?_));obtain ⟨bl, bm⟩ := H;have bn := ae.stn au;exact ⟨i2 + 1, bm, bl, (X2 Z), av, (ad.st bn)⟩
  have H := Xp H aa;refine Xr aa Z (Xr aa Z (Xr aa Z (Xr aa Z (Xr aa Z (Xr aa Z (Xr aa Z (Xr aa Z (Xr aa Z ?_))))))));refine Xr aa Z (Xq ac Z (Xi (Xk false (vb false) aa Z) (Xi (Xk false (vb false) ac Z) (X9 fun b7 aw => ?_))));have bo := ae.k0 aw;refine Yo (b := false) Z Z ?_;refine Xt (Xd (Xg (vi i2) Z ?_));obtain ⟨bp, H⟩ := H;have bq : I64 (i2 + 1) := i64_succ (of_decide_eq_true af) ak bp;refine Xa (Yc i2 1 Z Z bq) (Xf (vi (i2 + 1)) Z (Xc ?_));obtain ⟨br, bs⟩ := H;have bt := ae.stn aw;exact ⟨i2 + 1, bs, br, (X2 Z), bo, (ad.st bt)⟩
 have H := Xp H af;refine Yd (xin_hit ?_);exact Xb (Xd (Xg (G A1 n2 c3) Z (Xa (X6 u32_ A1 n2 c3 ad.len Z) (Xa (Xx (p.length : Int) 6 (decide ((p.length : Int) ≤ 6)) Z Z Z) (Xf (vb (decide ((p.length : Int) ≤ 6))) Z (Xc (Xl ⟨[vb (decide ((p.length : Int) ≤ 6))], ⟨_, Z, Z⟩, decide ((p.length : Int) ≤ 6), Z, H, ae.gr.g0⟩)))))))
def F29.E (s : Shape) (Q : Bool → Prop) : Prop :=
 F73.E s.Pts (fun r => (if !r then Q false else (if s.Kind == 1 then Q ((s.Pts.length : Int) == 1) else (if s.Kind == 2 then Q (decide ((s.Pts.length : Int) ≥ 2)) else (if s.Kind == 3 then (if decide ((s.Pts.length : Int) ≥ 3) then ((0 : Int) ≤ 0 ∧ 0 < (s.Pts.length : Int)) ∧ ((s.Pts.length : Int) ≤ 9223372036854775807 → I64 ((s.Pts.length : Int) - 1)) ∧ ((0 : Int) ≤ (s.Pts.length : Int) - 1 ∧ (s.Pts.length : Int) - 1 < (s.Pts.length : Int)) ∧ Q (!(eqPt (nth s.Pts 0) (nth s.Pts ((s.Pts.length : Int) - 1)))) else Q false) else Q false)))))
theorem F29.calls {s : Shape} {A1 : Option Addr} {n2 c3 : Nat} {Q : Bool → Prop} (H : F29.E s Q) (hO : Ok w0 O) (hp4 : Sl kPt w0 (Fr O) (G A1 n2 c3) s.Pts) :
  Ret Tryd.prog 70 [.agg #[vi s.Kind, G A1 n2 c3]] w0 (fun v w' => ∃ (r0 : Bool), v = vb r0 ∧ Q r0 ∧ Gr w0 w' none) := by
 unfold F29.E at H;have hc0 := Ct.init hO;refine X3 Tryd.func70 Z 38 Z [.tmp 2] Z Z ?_;refine Xb (Xd (Ya [vi s.Kind, G A1 n2 c3] Z fun w6 b7 hl9 hu10 g8 ao => ?_));have ad := Fb.mk hc0.ok hl9 ao;have ac := hc0.k0 g8;refine Xf (vb false) Z (Xc (Xb (Xd (Xa (Xj fa34_1 (Ad b7 0) (Ad b7 1) Z Z) (Xa (Xn ag32 cL (Ad b7 1) (G A1 n2 c3) Z (ad.cell Z)) ?_)))));have ap := (hp4.st ac.st).le;refine Xa (X6 u32_ A1 n2 c3 (hp4.st ac.st).len Z) (Xf (vi (s.Pts.length : Int)) Z (Xc (Xb (Xb (Xd (Xa (Xj fa34_1 (Ad b7 0) (Ad b7 1) Z Z) (Xa (Xn ag32 cL (Ad b7 1) (G A1 n2 c3) Z (ad.cell Z)) ?_)))))));refine X0 go89 (F73.calls H ac.ok (hp4.st ac.st)) Z ?_;rintro _ aq ⟨r, rfl, H, aj⟩;have ab := ac.k0 aj;refine Xa (X1 r Z) (Xc ?_);refine Xu (!r) Z (fun ae => ?_) (fun ae => ?_)
 ·have H := Xo H ae;exact Xb (Xd (Xf (vb false) Z (Xc (Xl ⟨[vb false], ⟨_, Z, Z⟩, false, Z, H, ab.gr.g0⟩))))
 have H := Xp H ae;refine Xt (Xb (Xb (Xd (Xa (Xj fa34_0 (Ad b7 0) (Ad b7 0) Z Z) ?_))));have ar := ac.stn aj;have af := (ad.st ar);refine Xa (Xn ag3 cL (Ad b7 0) (vi s.Kind) Z (af.cell Z)) (Xc (X5 (Xb (Xd (Xa (Xx s.Kind 1 (s.Kind == 1) Z Z Z) (Xf (vb (s.Kind == 1)) Z (Xc ?_)))))));refine Xu (s.Kind == 1) Z (fun ag => ?_) (fun ag => ?_)
 ·have H := Xo H ag;exact Xb (Xd (Xg (vi (s.Pts.length : Int)) Z (Xa (Xx (s.Pts.length : Int) 1 ((s.Pts.length : Int) == 1) Z Z Z) (Xf (vb ((s.Pts.length : Int) == 1)) Z (Xc (Xl ⟨[vb ((s.Pts.length : Int) == 1)], ⟨_, Z, Z⟩, (s.Pts.length : Int) == 1, Z, H, ab.gr.g0⟩))))))
 have H := Xp H ag;refine Xb (Xd (Xa (Xx s.Kind 2 (s.Kind == 2) Z Z Z) (Xf (vb (s.Kind == 2)) Z (Xc ?_))));refine Xu (s.Kind == 2) Z (fun ah => ?_) (fun ah => ?_)
 ·have H := Xo H ah;exact Xb (Xd (Xg (vi (s.Pts.length : Int)) Z (Xa (Xx (s.Pts.length : Int) 2 (decide ((s.Pts.length : Int) ≥ 2)) Z Z Z) (Xf (vb (decide ((s.Pts.length : Int) ≥ 2))) Z (Xc (Xl ⟨[vb (decide ((s.Pts.length : Int) ≥ 2))], ⟨_, Z, Z⟩, decide ((s.Pts.length : Int) ≥ 2), Z, H, ab.gr.g0⟩))))))
 have H := Xp H ah;refine Xb (Xd (Xa (Xx s.Kind 3 (s.Kind == 3) Z Z Z) (Xf (vb (s.Kind == 3)) Z (Xc ?_))));refine Xu (s.Kind == 3) Z (fun ai => ?_) (fun ai => ?_)
 ·have H := Xo H ai;refine Xb (Yh (fun x => Gr aq x none) RK RK (Gr.drew _) ?_);refine Xs (vi (s.Pts.length : Int)) Z (Xi (Xx (s.Pts.length : Int) 3 (decide ((s.Pts.length : Int) ≥ 3)) Z Z Z) (Xs (vb (decide ((s.Pts.length : Int) ≥ 3))) Z ?_));rcases Xz (decide ((s.Pts.length : Int) ≥ 3)) with aa | aa
  ·have H := Xo H aa;refine Xq aa Z (Xi (Xj fa34_1 (Ad b7 0) (Ad b7 1) Z Z) (Xq aa Z (Xi (Xn ag32 cQ (Ad b7 1) (G A1 n2 c3) Z (af.cell Z)) (Xq aa Z ?_))));obtain ⟨ak, H⟩ := H;obtain ⟨al, a6, au, a7, av, aw⟩ := (hp4.st ab.st).get default RD 0 ak;obtain rfl := kPt.op av;refine Xi (X4 u32_ Yl A1 al n2 c3 (hp4.st ab.st).len 0 Z au Z ak) (Xq aa Z (Xi (Xv ag87 sz87 cQ (al.add ((0 : Int).toNat * 2)) [vi ((nth s.Pts 0).X), vi ((nth s.Pts 0).Y)] Z Z aw) (Xq aa Z (Xi (Xj fa34_1 (Ad b7 0) (Ad b7 1) Z Z) (Xq aa Z (Xi (Xn ag32 cQ (Ad b7 1) (G A1 n2 c3) Z (af.cell Z)) (Xq aa Z (Xs (vi (s.Pts.length : Int)) Z ?_))))))));refine Xq aa Z ?_;obtain ⟨ax, H⟩ := H;have ay := ax (len_le ap);refine Xi (Yr (s.Pts.length : Int) 1 Z Z ay) (Xq aa Z ?_);obtain ⟨am, H⟩ := H;obtain ⟨an, a8, az, a9, a0, a1⟩ := (hp4.st ab.st).get default RD ((s.Pts.length : Int) - 1) am;obtain rfl := kPt.op a0;refine Xi (X4 u32_ Yl A1 an n2 c3 (hp4.st ab.st).len ((s.Pts.length : Int) - 1) Z az Z am) (Xq aa Z (Xi (Xv ag87 sz87 cQ (an.add (((s.Pts.length : Int) - 1).toNat * 2)) [vi ((nth s.Pts ((s.Pts.length : Int) - 1)).X), vi ((nth s.Pts ((s.Pts.length : Int) - 1)).Y)] Z Z a1) (Xq aa Z (Xi (Yz _ _ (eqPt (nth s.Pts 0) (nth s.Pts ((s.Pts.length : Int) - 1))) (qt87 (nth s.Pts 0) (nth s.Pts ((s.Pts.length : Int) - 1))) Z Z) (Xi (Yj true (vb (!(eqPt (nth s.Pts 0) (nth s.Pts ((s.Pts.length : Int) - 1))))) (by exact congrArg Value.bool aa) Z) (Yv (vb (!(eqPt (nth s.Pts 0) (nth s.Pts ((s.Pts.length : Int) - 1))))) Z (X9 fun ba a2 => ?_)))))));have a3 := ab.k0 a2;exact Xl ⟨[vb (!(eqPt (nth s.Pts 0) (nth s.Pts ((s.Pts.length : Int) - 1))))], ⟨_, Z, Z⟩, !(eqPt (nth s.Pts 0) (nth s.Pts ((s.Pts.length : Int) - 1))), Z, H, a3.gr.g0⟩
  have H := Xp H aa;refine Xr aa Z (Xr aa Z (Xr aa Z (Xr aa Z (Xr aa Z (Xr aa Z (Xr aa Z (Xr aa Z (Xr aa Z ?_))))))));refine Xr aa Z (Xr aa Z (Xi (Xk false (vb false) aa Z) (Yv (vb false) Z (X9 fun bb a4 => ?_))));have a5 := ab.k0 a4;exact Xl ⟨[vb false], ⟨_, Z, Z⟩, false, Z, H, a5.gr.g0⟩
 have H := Xp H ai;exact Xt (Xb (Xd (Xf (vb false) Z (Xc (Xl ⟨[vb false], ⟨_, Z, Z⟩, false, Z, H, ab.gr.g0⟩)))))
def F44.E (t_ : List Tag) (Q : Bool → Prop) : Prop :=
 (∃ (I18 : Int → Prop) (mu19 : Int → Nat), I18 0 ∧ ∀ (i2 : Int), I18 i2 → (if decide (i2 < (t_.length : Int)) then ((0 : Int) ≤ i2 ∧ i2 < (t_.length : Int)) ∧ (∃ q : Bool, F41.E ((nth t_ i2).Key) (fun x => x = q) ∧ (if !q then Q false else ((0 : Int) ≤ i2 ∧ i2 < (t_.length : Int)) ∧ (∃ q2 : Bool, F41.E ((nth t_ i2).Val) (fun x => x = q2) ∧ (if !q2 then Q false else (if decide (i2 > 0) then ((0 : Int) ≤ i2 ∧ i2 < (t_.length : Int)) ∧ ((t_.length : Int) ≤ 9223372036854775807 → I64 (i2 - 1)) ∧ ((0 : Int) ≤ i2 - 1 ∧ i2 - 1 < (t_.length : Int)) ∧ (if Op.bytesLess ((nth t_ i2).Key) ((nth t_ (i2 - 1)).Key) || ((nth t_ i2).Key) == ((nth t_ (i2 - 1)).Key) then Q false else (-9223372036854775808 ≤ i2) ∧ I18 (i2 + 1) ∧ mu19 (i2 + 1) < mu19 i2) else (-9223372036854775808 ≤ i2) ∧ I18 (i2 + 1) ∧ mu19 (i2 + 1) < mu19 i2))))) else Q (decide ((t_.length : Int) ≤ 4))))
theorem F44.calls {t_ : List Tag} {A1 : Option Addr} {n2 c3 : Nat} {Q : Bool → Prop} (H : F44.E t_ Q) (hO : Ok w0 O) (hp4 : Sl kTag w0 (Fr O) (G A1 n2 c3) t_) :
  Ret Tryd.prog 71 [G A1 n2 c3] w0 (fun v w' => ∃ (r0 : Bool), v = vb r0 ∧ Q r0 ∧ Gr w0 w' none) := by
 unfold F44.E at H;have hc0 := Ct.init hO;refine X3 Tryd.func71 Z 47 Z [.tmp 2] Z Z ?_;refine Xb (Xd (Xf (vb false) Z (Xc (Xb (Xb (Xd (Xf (vi 0) Z (Xc ?_))))))));refine X5 ?_;obtain ⟨ax, ay, al, H⟩ := H;refine Ye (α := Int) (fun (sv__ : Int) t ag => match sv__ with | i2 => ax i2 ∧ Has t [(0, G A1 n2 c3), (3, vi i2)] ∧ Ct [] w0 ag [] O ∧ Sl kTag ag (Fr ([] ++ O)) (G A1 n2 c3) t_) (fun (sv__ : Int) => match sv__ with | i2 => ay i2) 0 ⟨al, (X2 Z), hc0, hp4⟩ ?_;rintro i2 _ ag ⟨al, az, ae, ad⟩;obtain ⟨bz, rfl⟩ := Has.ins az;have H := H i2 al;refine Xb (Xb (Xd (Xg (vi i2) Z (Xg (G A1 n2 c3) Z ?_))));have am := ad.le;refine Xa (X6 u35_ A1 n2 c3 ad.len Z) (Xa (Xx i2 (t_.length : Int) (decide (i2 < (t_.length : Int))) Z Z Z) (Xc ?_));refine Xu (decide (i2 < (t_.length : Int))) Z (fun af => ?_) (fun af => ?_)
 ·have H := Xo H af;refine Xt (Xb (X5 (Xb (Yh (fun x => Gr ag x none) RK RK (Gr.drew _) ?_))));refine Xs (G A1 n2 c3) Z (Xs (vi i2) Z ?_);obtain ⟨ao, H⟩ := H;obtain ⟨ah, b0, a0, b1, a1, a2⟩ := ad.get default RD i2 ao;obtain ⟨rfl, a3, b2⟩ := kTag.op a1;refine Xi (X4 u35_ Yq A1 ah n2 c3 ad.len i2 Z a0 Z ao) (Xi (Xj fa67_0 (ah.add (i2.toNat * 2)) ((ah.add (i2.toNat * 2)).add 0) Z Z) (Xi (Xn ag9 cQ ((ah.add (i2.toNat * 2)).add 0) (vs ((nth t_ i2).Key)) Z (a2 0 _ Z)) ?_));obtain ⟨q, a4, H⟩ := H;refine Yf go39 [vs ((nth t_ i2).Key)] Z (vb q) (fun w g => (F41.calls a4 (ae.k0 g).ok a3).mono ?_) ?_
  ·rintro _ w ⟨r, rfl, rfl, g2⟩;exact ⟨Z, Gr.t0 g g2⟩
  refine Xi (X1 q Z) (Xs (vb (!q)) Z ?_);rcases Xz (!q) with ab | ab
  ·have H := Xo H ab;refine Xr ab Z (Xr ab Z (Xr ab Z (Xr ab Z (Xr ab Z (Xr ab Z (Xr ab Z (Xi (Xk true (vb true) ab Z) (Xs (vb true) Z ?_))))))));refine X8 (dj := 26) Z Z (.inl Z) (X8 (dj := 26) Z Z (.inl Z) (X8 (dj := 26) Z Z (.inl Z) (Xw Z (Xw Z (Xw Z (Xw Z (Xw Z (Xw Z ?_))))))));refine Xw Z (Xw Z (Xw Z (Xw Z (Xw Z (Xw Z (X8 (dj := 26) Z Z (.inl Z) (Xi (Xk true (vb true) Z Z) (X9 fun b3 a5 => ?_))))))));have a6 := ae.k0 a5;refine Yi (b := true) Z Z ?_;exact Xb (Xd (Xf (vb false) Z (Xc (Xl ⟨[vb false], ⟨_, Z, Z⟩, false, Z, H, a6.gr.g0⟩))))
  have H := Xp H ab;refine Xq ab Z (Xs (G A1 n2 c3) Z (Xq ab Z (Xs (vi i2) Z (Xq ab Z ?_))));obtain ⟨ap, H⟩ := H;obtain ⟨ai, b4, a7, b5, a8, a9⟩ := ad.get default RD i2 ap;obtain ⟨rfl, b6, ba⟩ := kTag.op a8;refine Xi (X4 u35_ Yq A1 ai n2 c3 ad.len i2 Z a7 Z ap) (Xq ab Z (Xi (Xj fa67_1 (ai.add (i2.toNat * 2)) ((ai.add (i2.toNat * 2)).add 1) Z Z) (Xq ab Z (Xi (Xn ag9 cQ ((ai.add (i2.toNat * 2)).add 1) (vs ((nth t_ i2).Val)) Z (a9 1 _ Z)) (Xq ab Z ?_)))));obtain ⟨q2, bb, H⟩ := H;refine Yf go39 [vs ((nth t_ i2).Val)] Z (vb q2) (fun w g => (F41.calls bb (ae.k0 g).ok ba).mono ?_) ?_
  ·rintro _ w ⟨r, rfl, rfl, g2⟩;exact ⟨Z, Gr.t0 g g2⟩
  refine Xq ab Z (Xi (X1 q2 Z) (Xi (Xk false (vb (!q2)) ab Z) (Xs (vb (!q2)) Z ?_)));rcases Xz (!q2) with ac | ac
  ·have H := Xo H ac;refine Xr ac Z (Xr ac Z (Xr ac Z (Xw Z (Xw Z (Xw Z (Xw Z (Xw Z (Xw Z ?_))))))));refine Xw Z (Xw Z (Xw Z (Xw Z (Xw Z (Xw Z (Xr ac Z (Xi (Xk true (vb true) ac Z) (X9 fun b7 bc => ?_))))))));have bd := ae.k0 bc;refine Yi (b := true) Z Z ?_;exact Xb (Xd (Xf (vb false) Z (Xc (Xl ⟨[vb false], ⟨_, Z, Z⟩, false, Z, H, bd.gr.g0⟩))))
  have H := Xp H ac;refine Xq ac Z (Xs (vi i2) Z (Xq ac Z (Xi (Xx i2 0 (decide (i2 > 0)) Z Z Z) (Xq ac Z (Xs (vb (decide (i2 > 0))) Z ?_)))));rcases Xz (decide (i2 > 0)) with aa | aa
  ·have H := Xo H aa;refine Xq aa Z (Xs (G A1 n2 c3) Z (Xq aa Z (Xs (vi i2) Z (Xq aa Z ?_))));obtain ⟨aq, H⟩ := H;obtain ⟨aj, b8, be, b9, bf, bg⟩ := ad.get default RD i2 aq;obtain ⟨rfl, ca, cb⟩ := kTag.op bf;refine Xi (X4 u35_ Yq A1 aj n2 c3 ad.len i2 Z be Z aq) (Xq aa Z (Xi (Xj fa67_0 (aj.add (i2.toNat * 2)) ((aj.add (i2.toNat * 2)).add 0) Z Z) (Xq aa Z (Xi (Xn ag9 cQ ((aj.add (i2.toNat * 2)).add 0) (vs ((nth t_ i2).Key)) Z (bg 0 _ Z)) (Xq aa Z (Xs (G A1 n2 c3) Z (Xq aa Z (Xs (vi i2) Z ?_))))))));refine Xq aa Z ?_;obtain ⟨bh, H⟩ := H;have bi := bh (len_le am);refine Xi (Yr i2 1 Z Z bi) (Xq aa Z ?_);obtain ⟨ar, H⟩ := H;obtain ⟨ak, cc, bj, cd, bl, bm⟩ := ad.get default RD (i2 - 1) ar;obtain ⟨rfl, ce, cf⟩ := kTag.op bl;refine Xi (X4 u35_ Yq A1 ak n2 c3 ad.len (i2 - 1) Z bj Z ar) (Xq aa Z (Xi (Xj fa67_0 (ak.add ((i2 - 1).toNat * 2)) ((ak.add ((i2 - 1).toNat * 2)).add 0) Z Z) (Xq aa Z (Xi (Xn ag9 cQ ((ak.add ((i2 - 1).toNat * 2)).add 0) (vs ((nth t_ (i2 - 1)).Key)) Z (bm 0 _ Z)) (Xq aa Z (Xi (Yg ((nth t_ i2).Key) ((nth t_ (i2 - 1)).Key) (Op.bytesLess ((nth t_ i2).Key) ((nth t_ (i2 - 1)).Key) || ((nth t_ i2).Key) == ((nth t_ (i2 - 1)).Key)) Z Z Z) (Xq ac Z (Xi (Yj true (vb (Op.bytesLess ((nth t_ i2).Key) ((nth t_ (i2 - 1)).Key) || ((nth t_ i2).Key) == ((nth t_ (i2 - 1)).Key))) (by exact congrArg Value.bool aa) Z) ?_))))))));refine Xi (Yj false (vb (Op.bytesLess ((nth t_ i2).Key) ((nth t_ (i2 - 1)).Key) || ((nth t_ i2).Key) == ((nth t_ (i2 - 1)).Key))) (by exact congrArg Value.bool ac) Z) (X9 fun cg au => ?_);have av := ae.k0 au;refine Xu (Op.bytesLess ((nth t_ i2).Key) ((nth t_ (i2 - 1)).Key) || ((nth t_ i2).Key) == ((nth t_ (i2 - 1)).Key)) Z (fun an => ?_) (fun an => ?_)
   ·have H := Xo H an;exact Xb (Xd (Xf (vb false) Z (Xc (Xl ⟨[vb false], ⟨_, Z, Z⟩, false, Z, H, av.gr.g0⟩))))
   have H := Xp H an;refine Xt (Xd (Xg (vi i2) Z ?_));obtain ⟨bn, H⟩ := H;have bo : I64 (i2 + 1) := i64_succ (of_decide_eq_true af) am bn;refine Xa (Yc i2 1 Z Z bo) (Xf (vi (i2 + 1)) Z (Xc ?_));obtain ⟨bp, bq⟩ := H;have br := ae.stn au;exact ⟨i2 + 1, bq, bp, (X2 Z), av, (ad.st br)⟩
  have H := Xp H aa;refine Xr aa Z (Xr aa Z (Xr aa Z (Xr aa Z (Xr aa Z (Xr aa Z (Xr aa Z (Xr aa Z (Xr aa Z ?_))))))));refine Xr aa Z (Xr aa Z (Xr aa Z (Xq ac Z (Xi (Xk false (vb false) aa Z) (Xi (Xk false (vb false) ac Z) (X9 fun ch aw => ?_))))));have bs := ae.k0 aw;refine Yo (b := false) Z Z ?_;refine Xt (Xd (Xg (vi i2) Z ?_));obtain ⟨bt, H⟩ := H;have bu : I64 (i2 + 1) := i64_succ (of_decide_eq_true af) am bt;refine Xa (Yc i2 1 Z Z bu) (Xf (vi (i2 + 1)) Z (Xc ?_));obtain ⟨bv, bw⟩ := H;have bx := ae.stn aw;exact ⟨i2 + 1, bw, bv, (X2 Z), bs, (ad.st bx)⟩
 have H := Xp H af;refine Yd (xin_hit ?_);exact Xb (Xd (Xg (G A1 n2 c3) Z (Xa (X6 u35_ A1 n2 c3 ad.len Z) (Xa (Xx (t_.length : Int) 4 (decide ((t_.length : Int) ≤ 4)) Z Z Z) (Xf (vb (decide ((t_.length : Int) ≤ 4))) Z (Xc (Xl ⟨[vb (decide ((t_.length : Int) ≤ 4))], ⟨_, Z, Z⟩, decide ((t_.length : Int) ≤ 4), Z, H, ae.gr.g0⟩)))))))
def F45.E (f : Feat) (Q : Bool → Prop) : Prop :=
 F41.E f.Id (fun r => (if r then F29.E f.Shape (fun r2 => (if r2 then F44.E f.Tags (fun r3 => Q r3) else Q false)) else Q false))
theorem F45.calls {f : Feat} {A2 : Option Addr} {n3 c4 : Nat} {A7 : Option Addr} {n8 c9 : Nat} {Q : Bool → Prop} (H : F45.E f Q) (hO : Ok w0 O) (hs1 : Lim f.Id) (hp5 : Sl kPt w0 (Fr O) (G A2 n3 c4) f.Shape.Pts) (ak : Sl kTag w0 (Fr O) (G A7 n8 c9) f.Tags) :
  Ret Tryd.prog 41 [.agg #[vs f.Id, vi f.Shape.Kind, G A2 n3 c4, G A7 n8 c9]] w0 (fun v w' => ∃ (r0 : Bool), v = vb r0 ∧ Q r0 ∧ Gr w0 w' none) := by
 unfold F45.E at H;have hc0 := Ct.init hO;refine X3 Tryd.func41 Z 16 Z [.tmp 2] Z Z ?_;refine Xb (Xd (Ya [vs f.Id, vi f.Shape.Kind, G A2 n3 c4, G A7 n8 c9] Z fun al ac am hu16 an ao => ?_));have ag := Fb.mk hc0.ok am ao;have af := hc0.k0 an;refine Xf (vb false) Z (Xc (Xb (Xd (Xa (Xj fa37_0 (Ad ac 0) (Ad ac 0) Z Z) (Xa (Xn ag9 cL (Ad ac 0) (vs f.Id) Z (ag.cell Z)) ?_)))));refine X0 go39 (F41.calls H af.ok hs1) Z ?_;rintro _ ap ⟨r, rfl, H, ah⟩;have ad := af.k0 ah;refine Xg (vb r) Z ?_;rcases Xz r with aa | aa
 ·have H := Xo H aa;refine Xe aa Z (Xa (Xj fa37_1 (Ad ac 0) (Ad ac 1) Z Z) (Xe aa Z ?_));have aq := af.stn ah;have ai := (ag.st aq);refine Xa (Xv ag34 sz34 cL (Ad ac 1) [vi f.Shape.Kind, G A2 n3 c4] Z Z (ai.cells (off := 1) Z)) (Xe aa Z ?_);refine X0 go70 (F29.calls H ad.ok (hp5.st ad.st)) Z ?_;rintro _ ar ⟨r2, rfl, H, aj⟩;have ae := ad.k0 aj;refine Xa (Xk true (vb r2) aa Z) (Xg (vb r2) Z ?_);rcases Xz r2 with ab | ab
  ·have H := Xo H ab;refine Xe ab Z (Xa (Xj fa37_2 (Ad ac 0) (Ad ac 3) Z Z) (Xe ab Z ?_));have au := ad.stn aj;have av := (ai.st au);refine Xa (Xn ag35 cL (Ad ac 3) (G A7 n8 c9) Z (av.cell Z)) (Xe ab Z ?_);refine X0 go71 (F44.calls H ae.ok (ak.st ae.st)) Z ?_;rintro _ ay ⟨r3, rfl, H, aw⟩;have ax := ae.k0 aw;exact Xa (Xk true (vb r3) ab Z) (Xf (vb r3) Z (Xc (Xl ⟨[vb r3], ⟨_, Z, Z⟩, r3, Z, H, ax.gr.g0⟩)))
  have H := Xp H ab;exact Xh ab Z (Xh ab Z (Xh ab Z (Xa (Xk false (vb false) ab Z) (Xf (vb false) Z (Xc (Xl ⟨[vb false], ⟨_, Z, Z⟩, false, Z, H, ae.gr.g0⟩))))))
 have H := Xp H aa;refine Xh aa Z (Xh aa Z (Xh aa Z (Xa (Xk false (vb false) aa Z) (Xg (vb false) Z (Xy (dj := 11) Z Z (.inl Z) (Xy (dj := 11) Z Z (.inl Z) (Xy (dj := 11) Z Z (.inl Z) (Xa (Xk false (vb false) Z Z) ?_))))))));exact Xf (vb false) Z (Xc (Xl ⟨[vb false], ⟨_, Z, Z⟩, false, Z, H, ad.gr.g0⟩))
end Go.Proofs.YtlaaehjcooonfaaDoor