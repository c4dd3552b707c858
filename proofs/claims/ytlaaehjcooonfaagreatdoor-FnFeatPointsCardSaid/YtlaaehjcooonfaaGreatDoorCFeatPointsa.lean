/- It is proved here that the law FnFeatPoints of the given program holds whatever it is handed: the walks through the code, the plain laws and the row, in this order.
   Conditions: none. -/
import Derived.Below
import Derived.ChangeArms
import Derived.ChangeOld
import Derived.ChangeSlices
import Derived.ChangeVars
import Derived.DataReads
import Derived.Deep.Quiet
import Derived.KernelRfl
import Derived.LaidHandle
import Derived.LaidLaws
import Derived.LaidMore
import Derived.Laws.Build
import Derived.Laws.IdiomStrings
import Derived.Laws.OwnMore
import Derived.Laws.Slices
import Derived.Laws.StructEq
import Derived.Lib.ItoaNum
import Derived.Lib.LaidTab
import Derived.MakeChecks
import Derived.OpenShut
import Derived.OpenVars
import Derived.ProofKit
import Derived.SevenTiedAt
import Derived.Shelf.LaysM
import Derived.Shelf.Slices.Cells
import Derived.Shelf.Slices.CompactS
import Derived.Shelf.Slices.In.SortNone
import Derived.Shelf.Small.Bits
import Derived.Shelf.Sort.Plain
import Derived.Shelf.Strconv.Itoa0
import Derived.Shelf.Strconv.Itoa1
import Derived.Shelf.Strconv.Itoa2
import Derived.Shelf.Strconv.Itoa3
import Derived.ShutString
import Derived.SizedLaws
import Derived.StillTail
import Derived.Stop.Joined
import Derived.Test.YtlaaehjcooonfaaGreatDoorCards
import Derived.Test.YtlaaehjcooonfaaGreatDoorProg
import Derived.Test.YtlaaehjcooonfaaGreatDoorRows
import Derived.Test.YtlaaehjcooonfaaGreatDoorTie
import Derived.WalkKit
namespace Go.Proofs.YtlaaehjcooonfaaGreatDoor
set_option linter.unusedVariables false
set_option linter.unusedSimpArgs false
set_option linter.unusedSectionVars false
set_option maxHeartbeats 8000000
set_option maxRecDepth 100000
open Go.RowKit
theorem RK {p : Prop} (h : p := by kernel_rfl) : p := h
theorem RF {α : Sort _} {p : α → Prop} (h : ∀ x, p x := by intro _; kernel_rfl) : ∀ x, p x := h
theorem OM {p : Prop} (h : p := by omega) : p := h
theorem RD {p : Prop} (h : p := by decide) : p := h
section

theorem beq_ne {a b : Nat} (h : a ≠ b) : Nat.beq a b = false := by
 cases e : Nat.beq a b with
 | false => rfl
 | true => exact absurd (Nat.eq_of_beq_eq_true e) h
theorem blt_lt {a b : Nat} (h : a < b) : Nat.blt a b = true := Nat.ble_eq_true_of_le h
theorem blt_ge {a b : Nat} (h : ¬ a < b) : Nat.blt a b = false := by
 cases e : Nat.blt a b with
 | false => rfl
 | true => exact absurd (Nat.le_of_ble_eq_true e) h
theorem lt_blt {a b : Nat} (h : Nat.blt a b = true) : a < b := Nat.le_of_ble_eq_true h
abbrev Tm := Nat → Value
def upd (d : Nat) (v : Value) (t : Tm) : Tm := fun i => bif Nat.beq i d then v else t i
def acts (n : Nat) (t : Tm) : Act := ⟨((List.range n).map t).toArray, []⟩
def evt (n : Nat) (t : Tm) : Operand → Value
 | .tmp i => bif Nat.blt i n then t i else undef
 | .const v => v
 | .global g => .pointer (some ⟨g, 0, none⟩)
 | .func f => .func (.func f) #[] #[]
def putd (d : Option Nat) (v : Value) (t : Tm) : Tm := match d with | some d => upd d v t | none => t

theorem acts_eval (n : Nat) (t : Tm) (x : Operand) : (acts n t).eval x = evt n t x := by
 cases x with
 | tmp i =>
  simp only [Act.eval, acts, evt, Array.getD_eq_getD_getElem?, List.getElem?_toArray, List.getElem?_map]
  by_cases h : i < n
  ·rw [List.getElem?_range h, blt_lt h]; rfl
  ·rw [List.getElem?_eq_none (by simpa using h), blt_ge h]; rfl
 | _ => rfl

theorem acts_evalf (n : Nat) (t : Tm) : (acts n t).eval = evt n t := funext (acts_eval n t)

theorem acts_put (n : Nat) (t : Tm) (d : Option Nat) (v : Value) : (acts n t).put d v = acts n (putd d v t) := by
 cases d with
 | none => rfl
 | some d =>
  simp only [Act.put, acts, putd]
  congr 1
  apply Array.ext_getElem?
  intro i
  simp only [Array.getElem?_setIfInBounds, List.getElem?_toArray, List.getElem?_map, List.size_toArray, List.length_map, List.length_range]
  by_cases h : i < n
  ·rw [List.getElem?_range h]
   by_cases e : d = i
   ·subst e; simp [h, upd]
   ·have : Nat.beq i d = false := beq_ne (fun x => e x.symm)
    simp [e, upd, this]
  ·rw [List.getElem?_eq_none (by simpa using h)]
   by_cases e : d = i
   ·subst e; simp [h]
   ·simp [e]

theorem acts_get (n : Nat) (t : Tm) (d : Nat) (h : Nat.blt d n = true) : (acts n t).tmps[d]? = some (t d) := by
 have h : d < n := lt_blt h
 simp [acts, List.getElem?_range h]

def argt (args : List Value) : Tm := fun i => args.getD i undef
theorem acts_enter (args : List Value) (n : Nat) (h : args.length ≤ n) :
  ({ tmps := args.toArray ++ Array.replicate (n - args.toArray.size) undef, defers := [] } : Act) = acts n (argt args) := by
 simp only [acts]
 congr 1
 apply Array.ext_getElem?
 intro i
 simp only [List.getElem?_toArray, List.getElem?_map, Array.getElem?_append, List.size_toArray, Array.getElem?_replicate]
 by_cases hi : i < n
 ·rw [List.getElem?_range hi]
  by_cases ha : i < args.length
  ·simp [ha, argt]
  ·simp [ha, argt]; omega
 ·have e1 : (List.range n)[i]? = none := List.getElem?_eq_none (by simp only [List.length_range]; omega)
  have : ¬ i < args.length := by omega
  simp only [this, if_false, e1, Option.map_none]
  rw [if_neg OM]

abbrev Ps := Tm → World → Prop
def post (n : Nat) (N R : Ps) (X : Nat → Ps) : Exit → Act → World → Prop
 | .normal, a, w => ∃ t, a = acts n t ∧ N t w
 | .ret, a, w => ∃ t, a = acts n t ∧ R t w
 | .exit i, a, w => ∃ t, a = acts n t ∧ X i t w
 | _, _, _ => False
def W (P : Program) (n : Nat) (c : Code) (N R : Ps) (X : Nat → Ps) (t : Tm) (w : World) : Prop := c.wp P (post n N R X) (acts n t) w

section
variable {P : Program} {n : Nat} {N R : Ps} {X : Nat → Ps} {t : Tm} {w : World}
theorem W.mono {c : Code} {N' R' : Ps} {X' : Nat → Ps} (h : W P n c N R X t w) (hN : ∀ t w, N t w → N' t w) (hR : ∀ t w, R t w → R' t w) (hX : ∀ i t w, X i t w → X' i t w) : W P n c N' R' X' t w :=
 wp_mono h fun e a w h => by
  cases e <;> simp only [post] at h ⊢
  ·obtain ⟨t, e, h⟩ := h; exact ⟨t, e, hN _ _ h⟩
  ·obtain ⟨t, e, h⟩ := h; exact ⟨t, e, hX _ _ _ h⟩
  ·obtain ⟨t, e, h⟩ := h; exact ⟨t, e, hR _ _ h⟩

theorem Xc {x y : Code} (h : W P n x (fun t w => W P n y N R X t w) R X t w) : W P n (.seq x y) N R X t w :=
 wp_seq (wp_mono h fun e a w h => by
  cases e <;> simp only [post] at h <;> simp only [Exit.then, post]
  ·obtain ⟨t, rfl, h⟩ := h; exact h
  ·exact h
  ·exact h)
theorem Xz (h : N t w) : W P n .skip N R X t w := wp_skip ⟨t, rfl, h⟩
theorem Xk (h : R t w) : W P n .ret N R X t w := wp_ret ⟨t, rfl, h⟩
theorem Ym {i : Nat} (h : X i t w) : W P n (.exit i) N R X t w := wp_exit ⟨t, rfl, h⟩
def xin (i : Nat) (N : Ps) (X : Nat → Ps) : Nat → Ps := fun j => bif Nat.beq j i then N else X j
theorem X8 {i : Nat} {c : Code} (h : W P n c N R (xin i N X) t w) : W P n (.block i c) N R X t w :=
 wp_block (wp_mono h fun e a w h => by
  cases e <;> simp only [post] at h <;> simp only [Exit.inBlock, post]
  ·exact h
  ·rename_i j
   obtain ⟨t, rfl, h⟩ := h
   by_cases e : j = i
   ·subst e; simp only [xin, Nat.beq_refl, cond_true] at h; simp only [↓reduceIte]; exact ⟨t, rfl, h⟩
   ·have : Nat.beq j i = false := beq_ne e
    simp only [xin, this, cond_false] at h; simp only [if_neg e]; exact ⟨t, rfl, h⟩
  ·exact h)
theorem Xu {c : Operand} {x y : Code} (b : Bool) (hc : evt n t c = .bool b) (ht : b = true → W P n x N R X t w) (hf : b = false → W P n y N R X t w) : W P n (.cond c x y) N R X t w :=
 wp_cond_split (t := b) (by rw [acts_eval]; exact hc) ht hf
theorem Ys {c : Code} {α : Type} (J : α → Ps) (μ : α → Nat) (s0 : α) (h0 : J s0 t w)
  (hs : ∀ s t w, J s t w → W P n c (fun t w => ∃ s', μ s' < μ s ∧ J s' t w) R X t w) : W P n (.loop c) N R X t w := by
 intro b k cs
 have key : ∀ m s t w, μ s = m → J s t w → ∃ e a' w', post n N R X e a' w' ∧ Arrives P (lone (b.at (acts n t) (.code c :: .inLoop c :: k)) cs w) b k cs e a' w' := by
  intro m
  induction m using Nat.strongRecOn with
  | _ m ih =>
   intro s t w hm hJ
   obtain ⟨e, a₁, w₁, hq, harr⟩ := hs s t w hJ b (.inLoop c :: k) cs
   cases e with
   | normal =>
    obtain ⟨t₁, rfl, s₁, hlt, hJ₁⟩ := hq
    obtain ⟨e₂, a₂, w₂, hq₂, harr₂⟩ := ih (μ s₁) (hm ▸ hlt) s₁ t₁ w₁ rfl hJ₁
    exact ⟨e₂, a₂, w₂, hq₂, .of_steps (Steps.trans harr (.one step_inLoop)) harr₂⟩
   | exit id => exact ⟨.exit id, a₁, w₁, hq, .pass (x := .inLoop c) rfl (fun _ _ => .inl (by simp)) harr⟩
   | goto l => exact hq.elim
   | ret => exact ⟨.ret, a₁, w₁, hq, .pass (x := .inLoop c) rfl (fun _ _ => .inl (by simp)) harr⟩
   | panic ch => exact hq.elim
   | outgrown => exact hq.elim
 obtain ⟨e, a', w', hq, harr⟩ := key _ s0 t w rfl h0
 exact ⟨e, a', w', hq, .of_steps (.one step_loop) harr⟩

def L (P : Program) (n : Nat) (ops : Array Oper) (N R : Ps) (X : Nat → Ps) (l : List Oper) (t : Tm) (w : World) : Prop := wpList P ops (post n N R X) l (acts n t) w
variable {ops : Array Oper} {rest : List Oper} {ty : TypeId} {pos : String} {aft : Array Edge} {d : Nat}
theorem Xd {i : Nat} {l : List Oper} (h : L P n l.toArray N R X l t w) : W P n (.region i l.toArray false) N R X t w := wp_region_lit h
theorem Xb (h : N t w) : L P n ops N R X [] t w := wpList_nil ⟨t, rfl, h⟩
theorem Zg {o : Oper} (hg : o.guard = none) (v : Value) (w' : World) (h : (execOp (evt n t) o).run P w = .ok (.value v) w') (k : L P n ops N R X rest (putd o.dst v t) w') : L P n ops N R X (o :: rest) t w :=
 wpList_plain hg fun K hK => by
  unfold Oper.wp
  rw [acts_evalf, h, Oper.upon_value, acts_put]
  exact hK _ _ k
theorem Z5 {o : Oper} (hg : o.guard = none) (w' : World) (h : (execOp (evt n t) o).run P w = .ok .skip w') (k : L P n ops N R X rest (putd o.dst undef t) w') : L P n ops N R X (o :: rest) t w :=
 wpList_plain hg fun K hK => by
  unfold Oper.wp
  rw [acts_evalf, h, Oper.upon_skip, acts_put]
  exact hK _ _ k
theorem Za {o : Option Nat} {op : Op} {j : Nat} {b : Bool} {dj : Nat} (hj : (ops[j]?).bind (·.dst) = some dj) (hn : Nat.blt dj n = true) (hv : t dj = .bool b)
  (k : L P n ops N R X (⟨o, op, ty, pos, aft, none⟩ :: rest) t w) : L P n ops N R X (⟨o, op, ty, pos, aft, some (j, b)⟩ :: rest) t w := by
 have hw : Region.wanted ⟨o, op, ty, pos, aft, some (j, b)⟩ (yielded ops (acts n t).tmps) = true := by
  simp only [Region.wanted, yielded, hj, Option.bind_some, acts_get n t dj hn, hv, beq_self_eq_true]
 unfold L wpList at k ⊢
 rw [if_pos hw]
 simpa [Region.wanted, Oper.wp, Oper.asks, execOp, Oper.upon] using k
theorem X2 {o : Option Nat} {op : Op} {j : Nat} {b : Bool} {dj : Nat} (hj : (ops[j]?).bind (·.dst) = some dj) (hn : Nat.blt dj n = true) (hv : t dj = .bool (!b) ∨ t dj = undef)
  (k : L P n ops N R X rest (putd o undef t) w) : L P n ops N R X (⟨o, op, ty, pos, aft, some (j, b)⟩ :: rest) t w := by
 have hw : Region.wanted ⟨o, op, ty, pos, aft, some (j, b)⟩ (yielded ops (acts n t).tmps) = false := by
  simp only [Region.wanted, yielded, hj, Option.bind_some, acts_get n t dj hn]
  rcases hv with hv | hv <;> rw [hv]
  ·cases b <;> rfl
  ·rfl
 unfold L at k ⊢
 unfold wpList
 rw [if_neg (by rw [hw]; simp), acts_put]
 exact k
def Pu (P : Program) (n : Nat) (t : Tm) (C : World → Prop) (o : Oper) (v : Value) : Prop := ∀ w, C w → (execOp (evt n t) o).run P w = .ok (.value v) w
theorem Xa {o : Option Nat} {op : Op} {v : Value} (h : Pu P n t (fun x => x = w) ⟨o, op, ty, pos, aft, none⟩ v) (k : L P n ops N R X rest (putd o v t) w) : L P n ops N R X (⟨o, op, ty, pos, aft, none⟩ :: rest) t w :=
 Zg rfl v w (h w rfl) k
def Lq (P : Program) (n : Nat) (ops : Array Oper) (C : World → Prop) (N : Ps) (l : List Oper) (t : Tm) : Prop := wpQuiet P ops C (fun a => ∀ w', C w' → ∃ t, a = acts n t ∧ N t w') l (acts n t)
theorem Yz {i : Nat} {l : List Oper} (C : World → Prop) (hm : P.follows .mixedOrders = true) (hB : Region.lexB .any l.toArray = true) (hC : C { w with drawn := w.drawn + 1 })
  (h : Lq P n l.toArray C N l t) : W P n (.region i l.toArray true) N R X t w :=
 wp_region_quiet hm hB hC (by
  have : (fun a' : Act => ∀ w', C w' → ∃ t, a' = acts n t ∧ N t w') = fun a' => ∀ w', C w' → post n N R X .normal a' w' := rfl
  rw [← this]
  simpa [Lq] using h)
theorem Yn {C : World → Prop} (h : ∀ w', C w' → N t w') : Lq P n ops C N [] t := fun w' hw => ⟨t, rfl, h w' hw⟩
theorem Xh {C : World → Prop} {o : Option Nat} {op : Op} {v : Value} (h : Pu P n t C ⟨o, op, ty, pos, aft, none⟩ v) (k : Lq P n ops C N rest (putd o v t)) : Lq P n ops C N (⟨o, op, ty, pos, aft, none⟩ :: rest) t := by
 unfold Lq wpQuiet
 rw [if_pos (by simp [Region.wanted])]
 refine ⟨v, fun w hw => ?_, by rw [acts_put]; exact k⟩
 unfold Oper.quietAt
 rw [acts_evalf, h w hw]
 exact ⟨rfl, rfl⟩
theorem Kb {C : World → Prop} {o : Option Nat} {op : Op} {j : Nat} {b : Bool} {dj : Nat} (hj : (ops[j]?).bind (·.dst) = some dj) (hn : Nat.blt dj n = true) (hv : t dj = .bool b)
  (k : Lq P n ops C N (⟨o, op, ty, pos, aft, none⟩ :: rest) t) : Lq P n ops C N (⟨o, op, ty, pos, aft, some (j, b)⟩ :: rest) t := by
 have hw : Region.wanted ⟨o, op, ty, pos, aft, some (j, b)⟩ (yielded ops (acts n t).tmps) = true := by
  simp only [Region.wanted, yielded, hj, Option.bind_some, acts_get n t dj hn, hv, beq_self_eq_true]
 unfold Lq wpQuiet at k ⊢
 rw [if_pos hw]
 rw [if_pos (by simp [Region.wanted])] at k
 obtain ⟨v, h1, h2⟩ := k
 exact ⟨v, h1, h2⟩
theorem Y8 {C : World → Prop} {o : Option Nat} {op : Op} {j : Nat} {b : Bool} {dj : Nat} (hj : (ops[j]?).bind (·.dst) = some dj) (hn : Nat.blt dj n = true) (hv : t dj = .bool (!b) ∨ t dj = undef)
  (k : Lq P n ops C N rest (putd o undef t)) : Lq P n ops C N (⟨o, op, ty, pos, aft, some (j, b)⟩ :: rest) t := by
 have hw : Region.wanted ⟨o, op, ty, pos, aft, some (j, b)⟩ (yielded ops (acts n t).tmps) = false := by
  simp only [Region.wanted, yielded, hj, Option.bind_some, acts_get n t dj hn]
  rcases hv with hv | hv <;> rw [hv]
  ·cases b <;> rfl
  ·rfl
 unfold Lq wpQuiet
 rw [if_neg (by rw [hw]; simp), acts_put]
 exact k
end
attribute [irreducible] W L Lq
end
section
abbrev Str := List UInt8
abbrev vs (l : Str) : Value := .string ⟨l.toArray⟩
abbrev vi (x : Int) : Value := .int .i64 x
abbrev vb (x : Bool) : Value := .bool x
abbrev v8 (x : UInt8) : Value := .int .u8 (x.toNat : Int)
def I64 (x : Int) : Prop := -9223372036854775808 ≤ x ∧ x ≤ 9223372036854775807
theorem I64.wrap {x : Int} (h : I64 x) : IntKind.i64.wrap x = x := by rw [IntKind.wrap_i64]; unfold I64 at h; omega

section
variable {P : Program} {n : Nat} {N R : Ps} {X : Nat → Ps} {t : Tm} {w : World} {ops : Array Oper} {rest : List Oper} {ty : TypeId} {pos : String} {aft : Array Edge} {d : Nat} {x y z : Operand} {C : World → Prop}

theorem Yc (v : Value) (h : evt n t x = v) : Pu P n t C ⟨some d, .move x, ty, pos, aft, none⟩ v := fun w hw =>
 (by simp only [execOp, h]; rfl)
theorem Y7 (v : Value) (h : evt n t x = v) : Pu P n t C ⟨some d, .assign x, ty, pos, aft, none⟩ v := fun w hw =>
 (by simp only [execOp, h]; rfl)
theorem Yv (b : Bool) (v : Value) (hc : evt n t x = .bool b) (hv : (bif b then evt n t y else evt n t z) = v) : Pu P n t C ⟨some d, .pick x y z, ty, pos, aft, none⟩ v := fun w hw =>
 (by subst hv; cases b <;> simp [execOp, hc, asBool])
theorem X4 {T : TypeId} {e : TypeId} (hu : P.underlying T = some (.slice e)) (A : Option Addr) (m c : Nat) {l : Nat} (hm : m = l) (h : evt n t x = .slice A m c) : Pu P n t C ⟨some d, .call ⟨.builtin .len, #[x], #[T]⟩, ty, pos, aft, none⟩ (vi (l : Int)) := fun w hw =>
 (by subst hm; simp [execOp, resolve, h, invoke, builtin, Builtin.len_, run_underlying hu, goInt])
theorem size_ofL (s : Str) : (⟨s.toArray⟩ : ByteArray).size = s.length := by
 show s.toArray.size = s.length
 simp
theorem Zq {T : TypeId} (hu : P.underlying T = some .string) (s : Str) (h : evt n t x = vs s) : Pu P n t C ⟨some d, .call ⟨.builtin .len, #[x], #[T]⟩, ty, pos, aft, none⟩ (vi (s.length : Int)) := fun w hw =>
 (by simp [execOp, resolve, h, invoke, builtin, Builtin.len_, run_underlying hu, goInt, size_ofL])

def icmp : BinOp → Int → Int → Option Bool
 | .eql, a, b => some (a == b)
 | .neq, a, b => some (a != b)
 | .lss, a, b => some (decide (a < b))
 | .leq, a, b => some (decide (a ≤ b))
 | .gtr, a, b => some (decide (a > b))
 | .geq, a, b => some (decide (a ≥ b))
 | _, _, _ => none
theorem Xx {op : BinOp} {T T' : TypeId} {kd : IntKind} (a b : Int) (r : Bool) (hx : evt n t x = .int kd a) (hy : evt n t y = .int kd b) (hr : icmp op a b = some r) : Pu P n t C ⟨some d, .binOp op T x y T', ty, pos, aft, none⟩ (vb r) := fun w hw =>
 (by
  cases op <;> simp only [icmp, Option.some.injEq, reduceCtorEq] at hr <;> subst hr <;>
   simp [execOp, hx, hy, eqGuard, binOp, Op.intCmp])
theorem X6 {T T' : TypeId} (a b : Int) (hx : evt n t x = vi a) (hy : evt n t y = vi b) (hr : I64 (a + b)) : Pu P n t C ⟨some d, .binOp .add T x y T', ty, pos, aft, none⟩ (vi (a + b)) := fun w hw =>
 (by simp [execOp, hx, hy, eqGuard, binOp, Op.intArith, hr.wrap])
theorem Yt {T T' : TypeId} (a b : Int) (hx : evt n t x = vi a) (hy : evt n t y = vi b) (hr : I64 (a - b)) : Pu P n t C ⟨some d, .binOp .sub T x y T', ty, pos, aft, none⟩ (vi (a - b)) := fun w hw =>
 (by simp [execOp, hx, hy, eqGuard, binOp, Op.intArith, hr.wrap])
theorem Zr {T T' : TypeId} (a b : Int) (hx : evt n t x = vi a) (hy : evt n t y = vi b) (hr : I64 (a * b)) : Pu P n t C ⟨some d, .binOp .mul T x y T', ty, pos, aft, none⟩ (vi (a * b)) := fun w hw =>
 (by simp [execOp, hx, hy, eqGuard, binOp, Op.intArith, hr.wrap])
theorem Z6 {T T' : TypeId} (a b : Int) (hx : evt n t x = vi a) (hy : evt n t y = vi b) (hr : (0 ≤ a ∧ a ≤ 9223372036854775807) ∧ 0 < b) : Pu P n t C ⟨some d, .binOp .quo T x y T', ty, pos, aft, none⟩ (vi (a / b)) := fun w hw =>
 (by
  have h0 : b ≠ 0 := by omega
  have hq : a.tdiv b = a / b := Int.tdiv_eq_ediv_of_nonneg hr.1.1
  have hw : I64 (a / b) := ⟨by have := Int.ediv_nonneg hr.1.1 (Int.le_of_lt hr.2); omega, by have := Int.ediv_le_self b hr.1.1; omega⟩
  simp [execOp, hx, hy, eqGuard, binOp, Op.intDiv, h0, hq, hw.wrap])
theorem Zv {T T' : TypeId} {kd : IntKind} (a b : Int) (hx : evt n t x = .int kd a) (hy : evt n t y = .int kd b) (hr : 0 ≤ a ∧ 0 < b) : Pu P n t C ⟨some d, .binOp .rem T x y T', ty, pos, aft, none⟩ (.int kd (a % b)) := fun w hw =>
 (by
  have h0 : b ≠ 0 := by omega
  have hq : a.tmod b = a % b := Int.tmod_eq_emod_of_nonneg hr.1
  simp [execOp, hx, hy, eqGuard, binOp, Op.intDiv, h0, hq])
def xor64 (a b : Int) : Int := IntKind.i64.wrap ((BitVec.ofInt 64 a ^^^ BitVec.ofInt 64 b).toNat : Int)
theorem Kc {T T' : TypeId} (a b : Int) (hx : evt n t x = vi a) (hy : evt n t y = vi b) : Pu P n t C ⟨some d, .binOp .xor T x y T', ty, pos, aft, none⟩ (vi (xor64 a b)) := fun w hw => by
 simp only [execOp, hx, hy, Sem.run_bind]
 rfl
theorem xor64_nat (a b : Nat) (ha : a < 9223372036854775808) (hb : b < 9223372036854775808) : xor64 (a : Int) (b : Int) = ((a ^^^ b : Nat) : Int) := by
 have hx : a ^^^ b < 2 ^ 63 := Nat.xor_lt_two_pow OM OM
 unfold xor64
 rw [BitVec.toNat_xor]
 have h1 : (BitVec.ofInt 64 (a : Int)).toNat = a := by simp [BitVec.toNat_ofInt]; omega
 have h2 : (BitVec.ofInt 64 (b : Int)).toNat = b := by simp [BitVec.toNat_ofInt]; omega
 rw [h1, h2, IntKind.wrap_i64]
 omega
theorem xor64_nonneg {a b : Int} (ha : 0 ≤ a ∧ a ≤ 9223372036854775807) (hb : 0 ≤ b ∧ b ≤ 9223372036854775807) : 0 ≤ xor64 a b := by
 obtain ⟨A, rfl⟩ := Int.eq_ofNat_of_zero_le ha.1
 obtain ⟨B, rfl⟩ := Int.eq_ofNat_of_zero_le hb.1
 rw [xor64_nat A B OM OM]
 exact Int.natCast_nonneg _
def scmp : BinOp → Str → Str → Option Bool
 | .eql, a, b => some (a == b)
 | .neq, a, b => some (a != b)
 | .lss, a, b => some (Op.bytesLess a b)
 | .leq, a, b => some (Op.bytesLess a b || a == b)
 | .gtr, a, b => some (!(Op.bytesLess a b || a == b))
 | .geq, a, b => some (!(Op.bytesLess a b))
 | _, _, _ => none
theorem Y0 {op : BinOp} {T T' : TypeId} (a b : Str) (r : Bool) (hx : evt n t x = vs a) (hy : evt n t y = vs b) (hr : scmp op a b = some r) : Pu P n t C ⟨some d, .binOp op T x y T', ty, pos, aft, none⟩ (vb r) := fun w hw =>
 (by
  cases op <;> simp only [scmp, Option.some.injEq, reduceCtorEq] at hr <;> subst hr <;>
   simp [execOp, hx, hy, eqGuard, binOp, Op.stringOp, bne])
theorem Zm {T T' : TypeId} (a b : Str) (hx : evt n t x = vs a) (hy : evt n t y = vs b) (hr : a.length + b.length ≤ 9223372036854775807) : Pu P n t C ⟨some d, .binOp .add T x y T', ty, pos, aft, none⟩ (vs (a ++ b)) := fun w hw =>
 (by
  have : ByteArray.size ⟨a.toArray⟩ + ByteArray.size ⟨b.toArray⟩ ≤ 9223372036854775807 := by rw [size_ofL, size_ofL]; exact hr
  simp [execOp, hx, hy, eqGuard, binOp, run_string_add_sum w _ _ this, ByteArray.mk_append_mk])
def bcmp : BinOp → Bool → Bool → Option Bool
 | .eql, a, b => some (a == b)
 | .neq, a, b => some (a != b)
 | _, _, _ => none
theorem Zd {op : BinOp} {T T' : TypeId} (hu : P.underlying T = some .bool) (a b : Bool) (r : Bool) (hx : evt n t x = vb a) (hy : evt n t y = vb b) (hr : bcmp op a b = some r) : Pu P n t C ⟨some d, .binOp op T x y T', ty, pos, aft, none⟩ (vb r) := fun w hw =>
 (by
  cases op <;> simp only [bcmp, Option.some.injEq, reduceCtorEq] at hr <;> subst hr <;>
   simp [execOp, hx, hy, eqGuard, binOp, Op.equal, Op.maxDepth, run_equalIn_bool' w _ T a b hu, bne])
theorem Yr {T : TypeId} (a : Bool) (hx : evt n t x = vb a) : Pu P n t C ⟨some d, .unOp .not T x, ty, pos, aft, none⟩ (vb (!a)) := fun w hw =>
 (by simp [execOp, hx, Op.unary])
theorem Zw {T : TypeId} {kd : IntKind} (hu : P.underlying T = some .string) (s : Str) (i : Int) (hx : evt n t x = vs s) (hy : evt n t y = .int kd i) (h0 : 0 ≤ i ∧ i < s.length) : Pu P n t C ⟨some d, .index T x y, ty, pos, aft, none⟩ (v8 (s.getD i.toNat 0)) := fun w hw =>
 (by
  have hl : i.toNat < s.length := by omega
  have : (⟨s.toArray⟩ : ByteArray)[i.toNat]? = some (s.getD i.toNat 0) := by
   rw [ByteArray.getElem?_lt' _ _ (by rw [size_ofL]; exact hl)]
   simp [ByteArray.getElem_eq_getElem_data, hl]
  simp [execOp, hx, hy, Instr.index, asIntOf, run_underlying hu, h0.1, this])
theorem Yo (vs : List Value) (i : Nat) (v : Value) (hx : evt n t x = .tuple vs.toArray) (hv : vs[i]? = some v) : Pu P n t C ⟨some d, .extract x i, ty, pos, aft, none⟩ v := fun w hw =>
 (by simp [execOp, hx, Instr.extract, hv])
theorem Ke {g : FuncId} {cap : Array Operand} (c : List Value) (h0 : cap.toList.map (evt n t) = c) : Pu P n t C ⟨some d, .makeFunc (.func g) #[] cap, ty, pos, aft, none⟩ (.func (.func g) #[] c.toArray) := fun w hw =>
 (by
  have h : cap.map (evt n t) = c.toArray := by rw [← h0]; apply Array.ext'; simp
  simp [execOp, Instr.makeFunc, h])
end
section
variable {P : Program} {n : Nat} {N R : Ps} {X : Nat → Ps} {t : Tm} {w : World} {ops : Array Oper} {rest : List Oper} {ty : TypeId} {pos : String} {aft : Array Edge} {d : Nat} {x : Operand} {C : World → Prop} {o : Option Nat} {op : Op} {j dj : Nat} {b c : Bool}
theorem Xe (v : Value) (h : evt n t x = v) (k : L P n ops N R X rest (upd d v t) w) : L P n ops N R X (⟨some d, .move x, ty, pos, aft, none⟩ :: rest) t w := Xa (Yc v h) k
theorem Xf (v : Value) (h : evt n t x = v) (k : L P n ops N R X rest (upd d v t) w) : L P n ops N R X (⟨some d, .assign x, ty, pos, aft, none⟩ :: rest) t w := Xa (Y7 v h) k
theorem X1 (v : Value) (h : evt n t x = v) (k : Lq P n ops C N rest (upd d v t)) : Lq P n ops C N (⟨some d, .move x, ty, pos, aft, none⟩ :: rest) t := Xh (Yc v h) k
theorem Y3 (v : Value) (h : evt n t x = v) (k : Lq P n ops C N rest (upd d v t)) : Lq P n ops C N (⟨some d, .assign x, ty, pos, aft, none⟩ :: rest) t := Xh (Y7 v h) k
theorem Xl (e : c = b) (h : ((ops[j]?).bind (·.dst), Nat.blt dj n, t dj) = (some dj, true, Value.bool c))
  (k : L P n ops N R X (⟨o, op, ty, pos, aft, none⟩ :: rest) t w) : L P n ops N R X (⟨o, op, ty, pos, aft, some (j, b)⟩ :: rest) t w := by
 simp only [Prod.mk.injEq] at h
 exact Za h.1 h.2.1 (h.2.2.trans (congrArg _ e)) k
theorem Xy (e : c = b) (h : ((ops[j]?).bind (·.dst), Nat.blt dj n, t dj) = (some dj, true, Value.bool c))
  (k : Lq P n ops C N (⟨o, op, ty, pos, aft, none⟩ :: rest) t) : Lq P n ops C N (⟨o, op, ty, pos, aft, some (j, b)⟩ :: rest) t := by
 simp only [Prod.mk.injEq] at h
 exact Kb h.1 h.2.1 (h.2.2.trans (congrArg _ e)) k
theorem Xn (e : c = !b) (h : ((ops[j]?).bind (·.dst), Nat.blt dj n, t dj) = (some dj, true, Value.bool c))
  (k : L P n ops N R X rest (putd o undef t) w) : L P n ops N R X (⟨o, op, ty, pos, aft, some (j, b)⟩ :: rest) t w := by
 simp only [Prod.mk.injEq] at h
 exact X2 h.1 h.2.1 (.inl (h.2.2.trans (congrArg _ e))) k
theorem X0 (e : c = !b) (h : ((ops[j]?).bind (·.dst), Nat.blt dj n, t dj) = (some dj, true, Value.bool c))
  (k : Lq P n ops C N rest (putd o undef t)) : Lq P n ops C N (⟨o, op, ty, pos, aft, some (j, b)⟩ :: rest) t := by
 simp only [Prod.mk.injEq] at h
 exact Y8 h.1 h.2.1 (.inl (h.2.2.trans (congrArg _ e))) k
theorem Zn (h : ((ops[j]?).bind (·.dst), Nat.blt dj n, t dj) = (some dj, true, undef))
  (k : L P n ops N R X rest (putd o undef t) w) : L P n ops N R X (⟨o, op, ty, pos, aft, some (j, b)⟩ :: rest) t w := by
 simp only [Prod.mk.injEq] at h
 exact X2 h.1 h.2.1 (.inr h.2.2) k
theorem X5 (h : ((ops[j]?).bind (·.dst), Nat.blt dj n, t dj) = (some dj, true, undef))
  (k : Lq P n ops C N rest (putd o undef t)) : Lq P n ops C N (⟨o, op, ty, pos, aft, some (j, b)⟩ :: rest) t := by
 simp only [Prod.mk.injEq] at h
 exact Y8 h.1 h.2.1 (.inr h.2.2) k
end

end
section

abbrev Sp := Nat → Prop
abbrev Gr (w w' : World) (row : Option Nat) : Prop := w.grownBy w' row
theorem Gr.refl (w : World) (r : Option Nat) : Gr w w r := ⟨rfl, rfl, rfl, Nat.le_refl _, fun _ _ _ => rfl⟩
theorem Gr.trans {a b c : World} {r : Option Nat} (h : Gr a b r) (g : Gr b c r) : Gr a c r :=
 ⟨g.os.trans h.os, g.tape.trans h.tape, g.output.trans h.output, Nat.le_trans h.size g.size, fun k hk hn =>
  (g.block k (Nat.lt_of_lt_of_le hk h.size) hn).trans (h.block k hk hn)⟩
theorem Gr.t0 {a b c : World} (h : Gr a b none) (g : Gr b c none) : Gr a c none := h.trans g
theorem Gr.below {w w' : World} (h : Gr w w' none) : Below w.heap.size w w' := ⟨h.os, h.tape, h.output, h.size, fun k hk => h.block k hk (by simp)⟩
theorem Gr.cell {w w' : World} {r : Option Nat} (h : Gr w w' r) {a : Addr} {v : Value} (hc : w.cell? a = some v) (hn : some a.block ≠ r) : w'.cell? a = some v := World.grownBy.cell h hc hn
theorem Gr.alloc (w : World) (o : Obj) : Gr w (w.alloc o) none := World.grownBy_alloc w o none
theorem Gr.drew (w : World) : Gr w w.drew none := ⟨rfl, rfl, rfl, Nat.le_refl _, fun _ _ _ => rfl⟩

structure Kd (α : Type) where
 sz : Nat
 R : World → Sp → α → List Value → Prop
 len : ∀ {w S x cs}, R w S x cs → cs.length = sz
 one : ∀ {w S x cs}, R w S x cs → ∀ u ∈ cs, u.oneCell' = true
 keep : ∀ {w w' S x cs}, R w S x cs → (∀ b, S b → b < w.heap.size → w'.heap[b]? = w.heap[b]?) → R w' S x cs
 mono : ∀ {w S S' x cs}, R w S x cs → (∀ b, S b → b < w.heap.size → S' b) → R w S' x cs

theorem Kd.k0 {α : Type} (k : Kd α) {w w' : World} {S : Sp} {x : α} {cs : List Value} (h : k.R w S x cs) (g : Gr w w' none) : k.R w' S x cs :=
 k.keep h fun b _ hb => g.block b hb (by simp)
theorem Kd.k1 {α : Type} (k : Kd α) {w w' : World} {S : Sp} {x : α} {cs : List Value} {r : Option Nat} (h : k.R w S x cs) (g : Gr w w' r) (hr : ∀ b, r = some b → ¬ S b) : k.R w' S x cs :=
 k.keep h fun b hS hb => g.block b hb (fun e => hr b e.symm hS)

def Kd.int (kd : IntKind) : Kd Int where
 sz := 1
 R := fun _ _ x cs => cs = [.int kd x]
 len := fun h => by subst h; rfl
 one := fun h u hu => by subst h; simp at hu; subst hu; rfl
 keep := fun h _ => h
 mono := fun h _ => h
def Kd.byte : Kd UInt8 where
 sz := 1
 R := fun _ _ x cs => cs = [v8 x]
 len := fun h => by subst h; rfl
 one := fun h u hu => by subst h; simp at hu; subst hu; rfl
 keep := fun h _ => h
 mono := fun h _ => h
def Kd.bool : Kd Bool where
 sz := 1
 R := fun _ _ x cs => cs = [vb x]
 len := fun h => by subst h; rfl
 one := fun h u hu => by subst h; simp at hu; subst hu; rfl
 keep := fun h _ => h
 mono := fun h _ => h
def Lim (x : Str) : Prop := x.length ≤ 9223372036854775807
instance (x : Str) : Decidable (Lim x) := inferInstanceAs (Decidable (x.length ≤ 9223372036854775807))
def Kd.str : Kd Str where
 sz := 1
 R := fun _ _ x cs => cs = [vs x] ∧ Lim x
 len := fun h => by rw [h.1]; rfl
 one := fun h u hu => by rw [h.1] at hu; simp at hu; subst hu; rfl
 keep := fun h _ => h
 mono := fun h _ => h
def Kd.pair {α β : Type} (a : Kd α) (b : Kd β) : Kd (α × β) where
 sz := a.sz + b.sz
 R := fun w S x cs => ∃ c1 c2, cs = c1 ++ c2 ∧ a.R w S x.1 c1 ∧ b.R w S x.2 c2
 len := fun ⟨c1, c2, e, h1, h2⟩ => by subst e; simp [a.len h1, b.len h2]
 one := fun ⟨c1, c2, e, h1, h2⟩ u hu => by
  subst e; rcases List.mem_append.1 hu with hu | hu
  ·exact a.one h1 u hu
  ·exact b.one h2 u hu
 keep := fun ⟨c1, c2, e, h1, h2⟩ g => ⟨c1, c2, e, a.keep h1 g, b.keep h2 g⟩
 mono := fun ⟨c1, c2, e, h1, h2⟩ g => ⟨c1, c2, e, a.mono h1 g, b.mono h2 g⟩
def Kd.iso {α β : Type} (a : Kd α) (f : β → α) : Kd β where
 sz := a.sz
 R := fun w S x cs => a.R w S (f x) cs
 len := a.len
 one := a.one
 keep := a.keep
 mono := a.mono

def Arr {α : Type} (k : Kd α) (w : World) (S : Sp) : List α → List Value → Prop
 | [], cs => cs = []
 | x :: xs, cs => ∃ c1 c2, cs = c1 ++ c2 ∧ k.R w S x c1 ∧ Arr k w S xs c2

section
variable {α : Type} {k : Kd α} {w : World} {S : Sp}
theorem Arr.len : ∀ {xs : List α} {cs : List Value}, Arr k w S xs cs → cs.length = xs.length * k.sz
 | [], cs, h => by simp only [Arr] at h; subst h; simp
 | x :: xs, cs, ⟨c1, c2, e, h1, h2⟩ => by
  subst e; rw [List.length_append, k.len h1, Arr.len h2, List.length_cons, Nat.add_mul, Nat.one_mul, Nat.add_comm]
theorem Arr.keep {w' : World} : ∀ {xs : List α} {cs : List Value}, Arr k w S xs cs → (∀ b, S b → b < w.heap.size → w'.heap[b]? = w.heap[b]?) → Arr k w' S xs cs
 | [], _, h, _ => h
 | _ :: _, _, ⟨c1, c2, e, h1, h2⟩, g => ⟨c1, c2, e, k.keep h1 g, Arr.keep h2 g⟩
theorem Arr.mono {S' : Sp} : ∀ {xs : List α} {cs : List Value}, Arr k w S xs cs → (∀ b, S b → b < w.heap.size → S' b) → Arr k w S' xs cs
 | [], _, h, _ => h
 | _ :: _, _, ⟨c1, c2, e, h1, h2⟩, g => ⟨c1, c2, e, k.mono h1 g, Arr.mono h2 g⟩
theorem Arr.app : ∀ {xs ys : List α} {cs ds : List Value}, Arr k w S xs cs → Arr k w S ys ds → Arr k w S (xs ++ ys) (cs ++ ds)
 | [], _, _, _, h, g => by simp only [Arr] at h; subst h; exact g
 | _ :: _, _, _, ds, ⟨c1, c2, e, h1, h2⟩, g => ⟨c1, c2 ++ ds, by subst e; simp, h1, Arr.app h2 g⟩
theorem Arr.single {x : α} {cs : List Value} (h : k.R w S x cs) : Arr k w S [x] cs := ⟨cs, [], by simp, h, rfl⟩
theorem Arr.drop : ∀ {xs : List α} {cs : List Value} (i : Nat), Arr k w S xs cs → Arr k w S (xs.drop i) (cs.drop (i * k.sz))
 | xs, cs, 0, h => by simpa using h
 | [], cs, i + 1, h => by simp only [Arr] at h; subst h; simp [Arr]
 | x :: xs, cs, i + 1, ⟨c1, c2, e, h1, h2⟩ => by
  subst e
  have := Arr.drop i h2
  rw [List.drop_succ_cons, Nat.add_mul, Nat.one_mul, Nat.add_comm, ← List.drop_drop, show (c1 ++ c2).drop k.sz = c2 by rw [← k.len h1]; simp]
  exact this
theorem Arr.take : ∀ {xs : List α} {cs : List Value} (i : Nat), Arr k w S xs cs → Arr k w S (xs.take i) (cs.take (i * k.sz))
 | xs, cs, 0, h => by simp [Arr]
 | [], cs, i + 1, h => by simp only [Arr] at h; subst h; simp [Arr]
 | x :: xs, cs, i + 1, ⟨c1, c2, e, h1, h2⟩ => by
  subst e
  have := Arr.take i h2
  refine ⟨c1, c2.take (i * k.sz), ?_, h1, this⟩
  rw [Nat.add_mul, Nat.one_mul, Nat.add_comm, ← k.len h1, List.take_append]
  simp [List.take_of_length_le]
theorem Arr.get : ∀ {xs : List α} {cs : List Value} (d : α) (i : Nat), Arr k w S xs cs → i < xs.length → ∃ c, k.R w S (xs.getD i d) c ∧ ∀ j u, c[j]? = some u → cs[i * k.sz + j]? = some u
 | [], _, _, _, _, hi => absurd hi (by simp)
 | x :: xs, cs, d, 0, ⟨c1, c2, e, h1, h2⟩, _ => ⟨c1, h1, fun j u hj => by
   subst e
   rw [Nat.zero_mul, Nat.zero_add, List.getElem?_append_left (by rcases Nat.lt_or_ge j c1.length with h | h; exact h; rw [List.getElem?_eq_none h] at hj; cases hj)]
   exact hj⟩
 | x :: xs, cs, d, i + 1, ⟨c1, c2, e, h1, h2⟩, hi => by
  obtain ⟨c, hc, hj⟩ := Arr.get d i h2 (by simpa using hi)
  refine ⟨c, by simpa using hc, fun j u hu => ?_⟩
  subst e
  rw [List.getElem?_append_right (by rw [k.len h1, Nat.add_mul]; omega)]
  have := hj j u hu
  rw [show (i + 1) * k.sz + j - c1.length = i * k.sz + j by rw [k.len h1, Nat.add_mul]; omega]
  exact this
theorem Arr.set : ∀ {xs : List α} {cs : List Value} (i : Nat) (x : α) (c : List Value), Arr k w S xs cs → i < xs.length → k.R w S x c →
  Arr k w S (xs.set i x) (cs.take (i * k.sz) ++ c ++ cs.drop (i * k.sz + k.sz))
 | [], _, _, _, _, _, hi, _ => absurd hi (by simp)
 | y :: xs, cs, 0, x, c, ⟨c1, c2, e, h1, h2⟩, _, hx => by
  subst e
  refine ⟨c, c2, ?_, hx, h2⟩
  rw [Nat.zero_mul, Nat.zero_add, ← k.len h1]; simp
 | y :: xs, cs, i + 1, x, c, ⟨c1, c2, e, h1, h2⟩, hi, hx => by
  subst e
  refine ⟨c1, _, ?_, h1, Arr.set i x c h2 (by simpa using hi) hx⟩
  have e1 : (i + 1) * k.sz = c1.length + i * k.sz := by rw [k.len h1, Nat.add_mul]; omega
  rw [e1, List.take_append, List.drop_append, Nat.add_assoc]
  rw [List.take_of_length_le OM, show c1.length + i * k.sz - c1.length = i * k.sz by omega, show c1.length + (i * k.sz + k.sz) - c1.length = i * k.sz + k.sz by omega]
  rw [List.drop_of_length_le (l := c1) OM]
  simp
theorem Arr.one : ∀ {xs : List α} {cs : List Value}, Arr k w S xs cs → ∀ u ∈ cs, u.oneCell' = true
 | [], cs, h, u, hu => by simp only [Arr] at h; subst h; cases hu
 | x :: xs, cs, ⟨c1, c2, e, h1, h2⟩, u, hu => by
  subst e; rcases List.mem_append.1 hu with hu | hu
  ·exact k.one h1 u hu
  ·exact Arr.one h2 u hu
end
end
section

abbrev Ob := List (Option Nat)
def Fr (O : Ob) : Sp := fun b => some b ∉ O
structure St (w : World) (O : Ob) (w' : World) (O' : Ob) : Prop where
 os : w'.os = w.os
 tape : w'.tape = w.tape
 output : w'.output = w.output
 size : w.heap.size ≤ w'.heap.size
 block : ∀ k, k < w.heap.size → some k ∉ O → w'.heap[k]? = w.heap[k]?
 sub : ∀ k, k < w.heap.size → some k ∉ O → some k ∉ O'
theorem St.refl (w : World) (O : Ob) : St w O w O := ⟨rfl, rfl, rfl, Nat.le_refl _, fun _ _ _ => rfl, fun _ _ h => h⟩
theorem St.trans {a b c : World} {O O' O'' : Ob} (h : St a O b O') (g : St b O' c O'') : St a O c O'' :=
 ⟨g.os.trans h.os, g.tape.trans h.tape, g.output.trans h.output, Nat.le_trans h.size g.size,
  fun k hk hn => (g.block k (Nat.lt_of_lt_of_le hk h.size) (h.sub k hk hn)).trans (h.block k hk hn),
  fun k hk hn => g.sub k (Nat.lt_of_lt_of_le hk h.size) (h.sub k hk hn)⟩
theorem St.gr {w w' : World} {O' : Ob} (h : St w [] w' O') : Gr w w' none := ⟨h.os, h.tape, h.output, h.size, fun k hk _ => h.block k hk (by simp)⟩
theorem St.new {w w' : World} (O : Ob) (g : Gr w w' none) : St w O w' O := ⟨g.os, g.tape, g.output, g.size, fun k hk _ => g.block k hk (by simp), fun _ _ h => h⟩
theorem St.new' {w w' : World} {O : Ob} {m : Option Nat} (g : Gr w w' m) (hm : ∀ b, m = some b → some b ∈ O) : St w O w' O :=
 ⟨g.os, g.tape, g.output, g.size, fun k hk hn => g.block k hk (fun e => hn (hm k e.symm)), fun _ _ h => h⟩
theorem St.own {w w' : World} (O : Ob) (r : Option Nat) (g : Gr w w' none) (hr : ∀ b, r = some b → w.heap.size ≤ b) : St w O w' (r :: O) :=
 ⟨g.os, g.tape, g.output, g.size, fun k hk _ => g.block k hk (by simp), fun k hk h => by
  intro hm; rcases List.mem_cons.1 hm with e | hm
  ·have := hr k e.symm; omega
  ·exact h hm⟩
theorem St.mod {w w' : World} {O : Ob} (i : Nat) (r r' : Option Nat) (hi : O[i]? = some r) (g : Gr w w' r) (hr : r' = r ∨ ∀ b, r' = some b → w.heap.size ≤ b) : St w O w' (O.set i r') :=
 ⟨g.os, g.tape, g.output, g.size, fun k hk hn => g.block k hk (fun e => hn (e ▸ List.mem_of_getElem? hi)), fun k hk hn hm => by
  rcases List.mem_or_eq_of_mem_set hm with hm | e
  ·exact hn hm
  ·rcases hr with e' | hr
   ·exact hn (by rw [e, e']; exact List.mem_of_getElem? hi)
   ·have := hr k e.symm; omega⟩
theorem St.wr {w w' : World} {O : Ob} {r : Option Nat} (hi : r ∈ O) (g : Gr w w' r) : St w O w' O :=
 ⟨g.os, g.tape, g.output, g.size, fun k hk hn => g.block k hk (fun e => hn (e ▸ hi)), fun k _ hn => hn⟩
theorem St.drop (w : World) (O : Ob) (i : Nat) : St w O w (O.eraseIdx i) :=
 ⟨rfl, rfl, rfl, Nat.le_refl _, fun _ _ _ => rfl, fun k _ hn hm => hn (List.mem_of_mem_eraseIdx hm)⟩
structure Gm (w w' : World) (rs : Ob) : Prop where
 os : w'.os = w.os
 tape : w'.tape = w.tape
 output : w'.output = w.output
 size : w.heap.size ≤ w'.heap.size
 block : ∀ b, b < w.heap.size → some b ∉ rs → w'.heap[b]? = w.heap[b]?
theorem Gm.refl (w : World) (rs : Ob) : Gm w w rs := ⟨rfl, rfl, rfl, Nat.le_refl _, fun _ _ _ => rfl⟩
theorem Gm.tq {w1 w w' : World} {rs : Ob} {v : Option Nat} (h : Gm w1 w rs) (g : Gr w w' v) (hv : ∀ b, v = some b → b < w1.heap.size → some b ∈ rs) : Gm w1 w' rs :=
 ⟨g.os.trans h.os, g.tape.trans h.tape, g.output.trans h.output, Nat.le_trans h.size g.size, fun b hb hn =>
  (g.block b (Nat.lt_of_lt_of_le hb h.size) (fun e => hn (hv b e.symm hb))).trans (h.block b hb hn)⟩
theorem Gm.tm {w1 w w' : World} {rs : Ob} (h : Gm w1 w rs) (g : Gr w w' none) : Gm w1 w' rs := h.tq g fun b e _ => by cases e
theorem Gm.gr {w w' : World} {rs : Ob} (h : Gm w w' rs) (r : Option Nat) (hr : ∀ b, some b ∈ rs → some b = r) : Gr w w' r := ⟨h.os, h.tape, h.output, h.size, fun b hb hn => h.block b hb fun hm => hn (hr b hm)⟩
theorem Gm.g0 {w w' : World} (h : Gm w w' []) : Gr w w' none := h.gr none fun b e => by cases e
theorem Gm.g1 {w w' : World} {r : Option Nat} (h : Gm w w' [r]) : Gr w w' r := h.gr r fun b e => by simpa using e
theorem row1 {r : Option Nat} : ∀ b, r = some b → some b ∈ [r] := fun b e => by rw [e]; exact List.mem_cons_self
def Dj : Ob → Prop
 | [] => True
 | a :: O => (∀ b, a = some b → some b ∉ O) ∧ Dj O
structure Ct (m : Ob) (w0 w : World) (L O : Ob) : Prop where
 gr : Gm w0 w m
 dj : Dj (L ++ O)
 lt : ∀ b, some b ∈ L ++ O → b < w.heap.size
 ge : ∀ b, some b ∈ L → w0.heap.size ≤ b
 mo : ∀ b, some b ∈ m → some b ∈ O ∧ b < w0.heap.size
def Ok (w : World) (O : Ob) : Prop := Dj O ∧ ∀ b, some b ∈ O → b < w.heap.size
theorem Ok.nil (w : World) : Ok w [] := ⟨trivial, fun _ h => by simp at h⟩
theorem Ct.init {w : World} {O : Ob} (h : Ok w O) : Ct [] w w [] O := ⟨Gm.refl w [], h.1, h.2, fun _ h => by simp at h, fun b h => by cases h⟩
theorem Ct.initm {w : World} {O : Ob} (h : Ok w O) {m : Ob} (hm : ∀ b, some b ∈ m → some b ∈ O) : Ct m w w [] O := ⟨Gm.refl w m, h.1, h.2, fun _ h => by simp at h, fun b e => ⟨hm b e, h.2 b (hm b e)⟩⟩
theorem Ct.initm1 {w : World} {O : Ob} (h : Ok w O) {r : Option Nat} (hm : ∀ b, r = some b → some b ∈ O) : Ct [r] w w [] O := .initm h fun b e => hm b (List.mem_singleton.1 e).symm
theorem Ct.ok {m : Ob} {w0 w : World} {L O : Ob} (c : Ct m w0 w L O) : Ok w (L ++ O) := ⟨c.dj, c.lt⟩
theorem Gr.tm {a b c : World} {m : Option Nat} (h : Gr a b m) (g : Gr b c none) : Gr a c m :=
 ⟨g.os.trans h.os, g.tape.trans h.tape, g.output.trans h.output, Nat.le_trans h.size g.size, fun k hk hn => (g.block k (Nat.lt_of_lt_of_le hk h.size) (by simp)).trans (h.block k hk hn)⟩
theorem Ct.k0 {m : Ob} {w0 w w' : World} {L O : Ob} (c : Ct m w0 w L O) (g : Gr w w' none) : Ct m w0 w' L O := ⟨c.gr.tm g, c.dj, fun b hb => Nat.lt_of_lt_of_le (c.lt b hb) g.size, c.ge, c.mo⟩
theorem Ct.wmm {m : Ob} {w0 w w' : World} {L O : Ob} {r : Option Nat} (c : Ct m w0 w L O) (hr : ∀ b, r = some b → some b ∈ m) (g : Gr w w' r) : Ct m w0 w' L O := ⟨c.gr.tq g fun b e _ => hr b e, c.dj, fun b hb => Nat.lt_of_lt_of_le (c.lt b hb) g.size, c.ge, c.mo⟩
theorem Ct.wm {m : Option Nat} {w0 w w' : World} {L O : Ob} (c : Ct [m] w0 w L O) (g : Gr w w' m) : Ct [m] w0 w' L O := c.wmm row1 g
theorem Ct.own {m : Ob} {w0 w w' : World} {L O : Ob} (c : Ct m w0 w L O) (g : Gr w w' none) (r : Option Nat) (hr : ∀ b, r = some b → w.heap.size ≤ b ∧ b < w'.heap.size) : Ct m w0 w' (r :: L) O :=
 ⟨c.gr.tm g, ⟨fun b e hm => by have := hr b e; have := c.lt b hm; omega, c.dj⟩, fun b hm => by
  rcases List.mem_cons.1 hm with e | hm
  ·exact (hr b e.symm).2
  ·exact Nat.lt_of_lt_of_le (c.lt b hm) g.size, fun b hm => by
  rcases List.mem_cons.1 hm with e | hm
  ·have := hr b e.symm; have := c.gr.size; omega
  ·exact c.ge b hm, c.mo⟩
theorem Dj.ne : ∀ {O : Ob} {i j : Nat} {r s : Option Nat}, Dj O → O[i]? = some r → O[j]? = some s → i ≠ j → ∀ b, r = some b → s ≠ some b
 | [], i, j, r, s, _, h, _, _ => by simp at h
 | a :: O, 0, 0, r, s, _, _, _, h => absurd rfl h
 | a :: O, 0, j + 1, r, s, d, hi, hj, _ => fun b e e' => by
  simp at hi hj; subst hi; subst e; subst e'; exact d.1 b rfl (List.mem_of_getElem? hj)
 | a :: O, i + 1, 0, r, s, d, hi, hj, _ => fun b e e' => by
  simp at hi hj; subst hj; subst e; subst e'; exact d.1 b rfl (List.mem_of_getElem? hi)
 | a :: O, i + 1, j + 1, r, s, d, hi, hj, h => Dj.ne d.2 (by simpa using hi) (by simpa using hj) (fun e => h (by rw [e]))
theorem Dj.set : ∀ {O : Ob} {i : Nat} {r r' : Option Nat}, Dj O → O[i]? = some r → (r' = r ∨ ∀ b, r' = some b → some b ∉ O) → Dj (O.set i r')
 | [], i, r, r', _, h, _ => by simp at h
 | a :: O, 0, r, r', d, hi, hr => by
  simp at hi; subst hi
  refine ⟨fun b e hm => ?_, d.2⟩
  rcases hr with e' | hr
  ·exact d.1 b (e' ▸ e) hm
  ·exact hr b e (List.mem_cons_of_mem _ hm)
 | a :: O, i + 1, r, r', d, hi, hr => by
  refine ⟨fun b e hm => ?_, Dj.set d.2 (by simpa using hi) (hr.imp id fun h b e hm => h b e (List.mem_cons_of_mem _ hm))⟩
  rcases List.mem_or_eq_of_mem_set hm with hm | e'
  ·exact d.1 b e hm
  ·rcases hr with e'' | hr
   ·exact d.1 b e (by rw [e', e'']; exact List.mem_of_getElem? (by simpa using hi))
   ·exact hr b e'.symm (by rw [e]; exact List.mem_cons_self)
theorem set_app {L O : Ob} {i : Nat} {r r' : Option Nat} (hi : L[i]? = some r) : (L ++ O).set i r' = L.set i r' ++ O := by
 rw [List.set_append_left _ _ (List.getElem?_eq_some_iff.1 hi).1]
theorem get_app {L O : Ob} {i : Nat} {r : Option Nat} (hi : L[i]? = some r) : (L ++ O)[i]? = some r := by
 rw [List.getElem?_append_left (List.getElem?_eq_some_iff.1 hi).1]; exact hi
theorem Ct.mod {m : Ob} {w0 w w' : World} {L O : Ob} (c : Ct m w0 w L O) (i : Nat) (r r' : Option Nat) (hi : L[i]? = some r) (g : Gr w w' r) (hr : r' = r ∨ ∀ b, r' = some b → w.heap.size ≤ b ∧ b < w'.heap.size) : Ct m w0 w' (L.set i r') O := by
 have hi' := get_app (O := O) hi
 have hsz := g.size
 refine ⟨c.gr.tq g fun k e hk => absurd (c.ge k (by rw [← e]; exact List.mem_of_getElem? hi)) OM, ?_, fun b hm => ?_, fun b hm => ?_, c.mo⟩
 ·rw [← set_app hi]
  exact c.dj.set hi' (hr.imp id fun h b e hm => by have := h b e; have := c.lt b hm; omega)
 ·rw [← set_app hi] at hm
  rcases List.mem_or_eq_of_mem_set hm with hm | e
  ·exact Nat.lt_of_lt_of_le (c.lt b hm) hsz
  ·rcases hr with e' | hr
   ·exact Nat.lt_of_lt_of_le (c.lt b (by rw [e, e']; exact List.mem_of_getElem? hi')) hsz
   ·exact (hr b e.symm).2
 ·rcases List.mem_or_eq_of_mem_set hm with hm | e
  ·exact c.ge b hm
  ·rcases hr with e' | hr
   ·exact c.ge b (by rw [e, e']; exact List.mem_of_getElem? hi)
   ·have := hr b e.symm; have := c.gr.size; omega
theorem Ct.wr {m : Ob} {w0 w w' : World} {L O : Ob} (c : Ct m w0 w L O) (i : Nat) {r : Option Nat} (hi : L[i]? = some r) (g : Gr w w' r) : Ct m w0 w' L O := by
 have := c.mod i r r hi g (.inl rfl)
 have e : L.set i r = L := by
  apply List.ext_getElem?
  intro j
  rw [List.getElem?_set]
  split
  ·rename_i e; subst e
   have := (List.getElem?_eq_some_iff.1 hi).1
   rw [if_pos this, hi]
  ·rfl
 rwa [e] at this
theorem Dj.erase : ∀ {O : Ob} (i : Nat), Dj O → Dj (O.eraseIdx i)
 | [], _, _ => trivial
 | _ :: _, 0, d => d.2
 | a :: O, i + 1, d => ⟨fun b e hm => d.1 b e (List.mem_of_mem_eraseIdx hm), Dj.erase i d.2⟩
theorem erase_app {L O : Ob} {i : Nat} (hi : i < L.length) : (L ++ O).eraseIdx i = L.eraseIdx i ++ O := List.eraseIdx_append_of_lt_length hi O
theorem Ct.drop {m : Ob} {w0 w : World} {L O : Ob} (c : Ct m w0 w L O) (i : Nat) (hi0 : Nat.blt i L.length = true) : Ct m w0 w (L.eraseIdx i) O :=
 have hi := lt_blt hi0
 ⟨c.gr, by rw [← erase_app hi]; exact c.dj.erase i, fun b hm => by rw [← erase_app hi] at hm; exact c.lt b (List.mem_of_mem_eraseIdx hm), fun b hm => c.ge b (List.mem_of_mem_eraseIdx hm), c.mo⟩

theorem Kd.st {α : Type} (k : Kd α) {w w' : World} {O O' : Ob} {x : α} {cs : List Value} (h : k.R w (Fr O) x cs) (s : St w O w' O') : k.R w' (Fr O') x cs :=
 k.mono (k.keep (k.mono (S' := fun b => some b ∉ O ∧ b < w.heap.size) h fun b hS hb => ⟨hS, hb⟩) fun b hS hb => s.block b hb hS.1) fun b hS hb => s.sub b hS.2 hS.1

def Sl {α : Type} (k : Kd α) (w : World) (S : Sp) (v : Value) (xs : List α) : Prop :=
 ∃ A c cells, v = .slice A xs.length c ∧ (xs.length ≤ c ∧ c ≤ 9223372036854775807) ∧ Arr k w S xs cells ∧ ∀ j u, cells[j]? = some u → ∃ ad, A = some ad ∧ S ad.block ∧ w.cell? (ad.add j) = some u
theorem add_block (a : Addr) (j : Nat) : (a.add j).block = a.block := by unfold Addr.add; split <;> rfl
theorem add_add (a : Addr) (i j : Nat) : (a.add i).add j = a.add (i + j) := by
 unfold Addr.add
 by_cases hi : i = 0 <;> by_cases hj : j = 0 <;> simp [hi, hj, Nat.add_assoc]
def Kd.sl {α : Type} (k : Kd α) : Kd (List α) where
 sz := 1
 R := fun w S xs cs => ∃ v, cs = [v] ∧ Sl k w S v xs
 len := fun ⟨v, e, _⟩ => by subst e; rfl
 one := fun ⟨v, e, A, c, _, e', _⟩ u hu => by subst e; simp at hu; subst hu; subst e'; rfl
 keep := fun ⟨v, e, A, c, cells, e', h1, h2, h3⟩ g => ⟨v, e, A, c, cells, e', h1, h2.keep g, fun j u hu => by
  obtain ⟨ad, ea, hS, hc⟩ := h3 j u hu
  exact ⟨ad, ea, hS, (World.cell?_of_block (by rw [add_block]; exact g _ hS (add_block ad j ▸ World.block_lt_of_cell? _ _ hc))).trans hc⟩⟩
 mono := fun ⟨v, e, A, c, cells, e', h1, h2, h3⟩ g => ⟨v, e, A, c, cells, e', h1, h2.mono g, fun j u hu => by
  obtain ⟨ad, ea, hS, hc⟩ := h3 j u hu
  exact ⟨ad, ea, g _ hS (add_block ad j ▸ World.block_lt_of_cell? _ _ hc), hc⟩⟩
section
variable {α : Type} {k : Kd α} {w w' : World} {S S' : Sp} {v : Value} {xs : List α} {O O' : Ob}
theorem Sl.keep (h : Sl k w S v xs) (g : ∀ b, S b → b < w.heap.size → w'.heap[b]? = w.heap[b]?) : Sl k w' S v xs := by
 obtain ⟨_, e, h⟩ := (Kd.sl k).keep ⟨v, rfl, h⟩ g
 cases e; exact h
theorem Sl.mono (h : Sl k w S v xs) (g : ∀ b, S b → b < w.heap.size → S' b) : Sl k w S' v xs := by
 obtain ⟨_, e, h⟩ := (Kd.sl k).mono ⟨v, rfl, h⟩ g
 cases e; exact h
theorem Sl.st (h : Sl k w (Fr O) v xs) (s : St w O w' O') : Sl k w' (Fr O') v xs := by
 obtain ⟨_, e, h⟩ := (Kd.sl k).st ⟨v, rfl, h⟩ s
 cases e; exact h
theorem Sl.shape (h : Sl k w S v xs) : ∃ A c, v = .slice A xs.length c := let ⟨A, c, _, e, _⟩ := h; ⟨A, c, e⟩
theorem Sl.len {A : Option Addr} {m c : Nat} (h : Sl k w S (.slice A m c) xs) : m = xs.length := by obtain ⟨_, _, _, e, _⟩ := h; cases e; rfl
theorem Sl.nil (k : Kd α) (w : World) (S : Sp) (A : Option Addr) (c : Nat) (hc : c ≤ 9223372036854775807) : Sl k w S (.slice A 0 c) [] := ⟨A, c, [], rfl, ⟨Nat.zero_le _, hc⟩, rfl, fun j u h => by simp at h⟩
theorem Sl.le (h : Sl k w S v xs) : xs.length ≤ 9223372036854775807 := let ⟨_, _, _, _, h, _⟩ := h; Nat.le_trans h.1 h.2
theorem Sl.get {A : Option Addr} {m c : Nat} (d : α) (h : Sl k w S (.slice A m c) xs) (hk : 0 < k.sz) (i : Int) (hi : 0 ≤ i ∧ i < (xs.length : Int)) :
  ∃ ad cs, A = some ad ∧ S ad.block ∧ k.R w S (xs.getD i.toNat d) cs ∧ ∀ j u, cs[j]? = some u → w.cell? ((ad.add (i.toNat * k.sz)).add j) = some u := by
 obtain ⟨A', c', cells, e, h1, h2, h3⟩ := h
 cases e
 obtain ⟨cs, hR, hj⟩ := h2.get d i.toNat OM
 have hl := k.len hR
 obtain ⟨u0, hu0⟩ : ∃ u, cs[0]? = some u := ⟨cs[0]'OM, by simp⟩
 obtain ⟨ad, rfl, hS, _⟩ := h3 _ _ (hj 0 u0 hu0)
 refine ⟨ad, cs, rfl, hS, hR, fun j u hu => ?_⟩
 obtain ⟨ad', e, _, hc⟩ := h3 _ _ (hj j u hu)
 cases e
 rw [add_add]; exact hc
theorem Sl.cut {A : Option Addr} {m c : Nat} (h : Sl k w S (.slice A m c) xs) (i j : Nat) (hij : i ≤ j) (hj : j ≤ xs.length) :
  Sl k w S (sliced A i j c k.sz) ((xs.drop i).take (j - i)) := by
 obtain ⟨A', c', cells, e, h1, h2, h3⟩ := h
 cases e
 have hl : ((xs.drop i).take (j - i)).length = j - i := by simp; omega
 refine ⟨_, _, _, by rw [hl]; rfl, by rw [hl]; omega, (h2.drop i).take (j - i), fun q u hu => ?_⟩
 rw [List.getElem?_take] at hu
 split at hu
 ·rename_i hq
  rw [List.getElem?_drop] at hu
  obtain ⟨ad, rfl, hS, hc⟩ := h3 _ _ hu
  by_cases hci : c = i
  ·have : j = i := by omega
   subst this; simp at hq
  ·rw [if_neg hci]
   exact ⟨_, rfl, by rw [add_block]; exact hS, by rw [add_add]; exact hc⟩
 ·cases hu
end

def blk : Value → Option Nat
 | .slice A _ _ => A.map (·.block)
 | _ => none
theorem pc {α : Type} [BEq α] [LawfulBEq α] {l m : List α} (h : ∀ a, l.count a = m.count a) : l.Perm m := List.perm_iff_count.2 h
theorem pca {α : Type} [BEq α] {a : α} {l m : List α} : (l ++ m).count a = l.count a + m.count a := List.count_append
theorem pcc {α : Type} [BEq α] {a b : α} {l : List α} : (b :: l).count a = l.count a + if b == a then 1 else 0 := List.count_cons
theorem pcn {α : Type} [BEq α] {a : α} : ([] : List α).count a = 0 := List.count_nil
abbrev bk (A : Option Addr) : Option Nat := A.map (·.block)
theorem own_blk (v : Value) : v.ownBlock = blk v := by
 cases v with
 | slice A n c => cases A <;> rfl
 | _ => rfl
def Ow {α : Type} (k : Kd α) (e : TypeId) (w : World) (O : Ob) (v : Value) (xs : List α) : Prop :=
 ∃ cells, w.ownsRow 0 e k.sz v xs.length cells ∧ Arr k w (Fr O) xs cells ∧ ∀ b, blk v = some b → some b ∈ O
def Bx (w : World) (b : Nat) (cs : List Value) : Prop := ∃ e, w.heap[b]? = some (.cells cs.toArray e (0, 0))
section
variable {α : Type} {k : Kd α} {e : TypeId} {w w' : World} {v : Value} {xs : List α} {O O' : Ob} {r : Option Nat} {b : Nat} {cs : List Value}
theorem ownsRow.shape {base size n : Nat} {cells : List Value} (h : w.ownsRow base e size v n cells) : ∃ A c, v = .slice A n c := by
 rcases h.2 with ⟨e, e'⟩ | ⟨g, cap, cur, e, _⟩
 ·subst e'; exact ⟨_, _, e⟩
 ·exact ⟨_, _, e⟩
theorem Ow.shape (h : Ow k e w O v xs) : ∃ A c, v = .slice A xs.length c := let ⟨_, h, _⟩ := h; ownsRow.shape h
theorem Ow.nil (k : Kd α) (e : TypeId) (w : World) (O : Ob) : Ow k e w O (.slice none 0 0) [] := ⟨[], World.ownsRow_nil w 0 e k.sz, rfl, fun b h => by simp [blk] at h⟩
theorem Ow.st (h : Ow k e w O v xs) (s : St w O w' O') (hb : ∀ b, blk v = some b → w'.heap[b]? = w.heap[b]? ∧ some b ∈ O') : Ow k e w' O' v xs := by
 obtain ⟨cells, h1, h2, h3⟩ := h
 refine ⟨cells, ⟨h1.1, ?_⟩, ?_, fun b hv => (hb b hv).2⟩
 ·rcases h1.2 with hn | ⟨g, cap, cur, hv, h0, hg, rest⟩
  ·exact .inl hn
  ·exact .inr ⟨g, cap, cur, hv, h0, by rw [(hb g (by rw [hv]; rfl)).1]; exact hg, rest⟩
 ·have : Arr k w (fun b => some b ∉ O ∧ b < w.heap.size) xs cells := h2.mono fun b hS hb => ⟨hS, hb⟩
  exact (this.keep fun b hS hb => s.block b hb hS.1).mono fun b hS hb => s.sub b hS.2 hS.1
theorem Ow.ltb (h : Ow k e w O v xs) : ∀ b, blk v = some b → b < w.heap.size := fun b hb => (World.ownsRow.lt h.choose_spec.1 b ((own_blk v).trans hb)).2
theorem Ow.st0 (h : Ow k e w O v xs) (s : St w O w' O') (g : Gr w w' none) (hb : ∀ b, blk v = some b → some b ∈ O') : Ow k e w' O' v xs :=
 h.st s fun b hv => ⟨g.block b (h.ltb b hv) (by simp), hb b hv⟩
theorem Ow.st1 (h : Ow k e w O v xs) (s : St w O w' O') (g : Gr w w' r) (hr : ∀ b, blk v = some b → r ≠ some b) (hb : ∀ b, blk v = some b → some b ∈ O') : Ow k e w' O' v xs :=
 h.st s fun b hv => ⟨g.block b (h.ltb b hv) (fun e => hr b hv e.symm), hb b hv⟩
theorem Ow.sl (h : Ow k e w O v xs) (S : Sp) (hS : ∀ b, b < w.heap.size → some b ∉ O ∨ blk v = some b → S b) : Sl k w S v xs := by
 obtain ⟨cells, h1, h2, h3⟩ := h
 obtain ⟨A, c, rfl⟩ := ownsRow.shape h1
 have hc : xs.length ≤ c ∧ c ≤ 9223372036854775807 := by
  rcases h1.2 with ⟨e, e'⟩ | ⟨g, cap, cur, e, _, _, h, hm, _⟩
  ·simp only [Value.slice.injEq] at e; omega
  ·cases e; exact ⟨h, hm⟩
 refine ⟨A, c, cells, rfl, hc, h2.mono fun b hb hl => hS b hl (.inl hb), fun j u hu => ?_⟩
 rcases h1.2 with ⟨e, e'⟩ | ⟨g, cap, cur, e, _, hg, h, _⟩
 ·have := h1.1
  have hl : cells = [] := List.length_eq_zero_iff.1 (by rw [this, e']; simp)
  subst hl; simp at hu
 ·cases e
  have hcell := World.ownsRow.cells h1 (g := g) rfl j u hu
  exact ⟨_, rfl, hS _ (by have := World.block_lt_of_cell? _ _ hcell; rwa [add_block] at this) (.inr rfl), hcell⟩
theorem Ow.give (h : Ow k e w O v xs) (i : Nat) (hi : O[i]? = some (blk v)) (d : Dj O) : Sl k w (Fr (O.eraseIdx i)) v xs :=
 h.sl _ fun b hl hb => by
  rcases hb with hb | hb
  ·exact fun hm => hb (List.mem_of_mem_eraseIdx hm)
  ·intro hm
   rw [List.mem_eraseIdx_iff_getElem?] at hm
   obtain ⟨j, hne, hj⟩ := hm
   exact d.ne hi hj (fun e => hne e.symm) b hb rfl
theorem Ow.get {A : Option Addr} {m c : Nat} (d : α) (h : Ow k e w O (.slice A m c) xs) (hk : 0 < k.sz) (i : Int) (hi : 0 ≤ i ∧ i < (xs.length : Int)) :
  ∃ ad cs, A = some ad ∧ k.R w (Fr O) (xs.getD i.toNat d) cs ∧ ∀ j u, cs[j]? = some u → w.cell? ((ad.add (i.toNat * k.sz)).add j) = some u := by
 obtain ⟨cells, h1, h2, h3⟩ := h
 obtain ⟨cs, hR, hj⟩ := h2.get d i.toNat OM
 rcases h1.2 with ⟨_, e'⟩ | ⟨g, cap, cur, e, _, hg, hle, _⟩
 ·omega
 ·cases e
  refine ⟨_, cs, rfl, hR, fun j u hu => ?_⟩
  rw [add_add]; exact World.ownsRow.cells h1 (g := g) rfl _ _ (hj j u hu)
theorem Ow.len {A : Option Addr} {m c : Nat} (h : Ow k e w O (.slice A m c) xs) : m = xs.length := by obtain ⟨_, _, e⟩ := h.shape; cases e; rfl
theorem Ow.le (h : Ow k e w O v xs) : xs.length ≤ 9223372036854775807 := (h.sl (fun _ => True) (fun _ _ _ => trivial)).le
theorem Bx.cell (h : Bx w b cs) {j : Nat} {u : Value} (hu : cs[j]? = some u) : w.cell? ⟨b, j, none⟩ = some u := by
 obtain ⟨e, h⟩ := h
 rw [cell_of_row w b j _ e _ h]; simpa using hu
theorem Bx.cells (h : Bx w b cs) {off : Nat} {ds : List Value} (hd : (cs.drop off).take ds.length = ds) : ∀ j u, ds[j]? = some u → w.cell? ((⟨b, off, none⟩ : Addr).add j) = some u := fun j u hu => by
 have e : (⟨b, off, none⟩ : Addr).add j = ⟨b, off + j, none⟩ := by unfold Addr.add; split <;> simp_all
 rw [e]
 refine h.cell ?_
 rw [← hd, List.getElem?_take] at hu
 split at hu
 ·rwa [List.getElem?_drop] at hu
 ·cases hu
theorem Bx.keep (h : Bx w b cs) (g : Gr w w' r) (hr : r ≠ some b) : Bx w' b cs := by
 obtain ⟨e, h⟩ := h
 exact ⟨e, (g.block b (Array.getElem?_eq_some_iff.1 h).1 (fun e => hr e.symm)).trans h⟩
theorem Bx.k0 (h : Bx w b cs) (g : Gr w w' none) : Bx w' b cs := h.keep g (by simp)
theorem Bx.st (h : Bx w b cs) (s : St w O w' O') (hb : some b ∉ O) : Bx w' b cs := by
 obtain ⟨e, h⟩ := h
 exact ⟨e, (s.block b (Array.getElem?_eq_some_iff.1 h).1 hb).trans h⟩
theorem Bx.lt (h : Bx w b cs) : b < w.heap.size := let ⟨_, h⟩ := h; (Array.getElem?_eq_some_iff.1 h).1
end

section
variable {α : Type} {k : Kd α} {e : TypeId} {w0 w w' : World} {v : Value} {xs : List α} {O L : Ob} {r r' : Option Nat} {b : Nat} {cs : List Value} {i j : Nat} {m : Ob}
theorem Ct.st (c : Ct m w0 w L O) : St w0 O w (L ++ O) :=
 ⟨c.gr.os, c.gr.tape, c.gr.output, c.gr.size, fun k hk hn => c.gr.block k hk (fun e => hn (c.mo k e).1), fun k hk h hm => by
  rcases List.mem_append.1 hm with hm | hm
  ·have := c.ge k hm; omega
  ·exact h hm⟩
def Fb (w : World) (O : Ob) (b : Nat) (cs : List Value) : Prop := Bx w b cs ∧ some b ∉ O
theorem Fb.mk (c : Ok w O) (hl : w.heap.size ≤ b) (h : Bx w' b cs) : Fb w' O b cs := ⟨h, fun hm => by have := c.2 b hm; omega⟩
theorem Fb.st {O' : Ob} (h : Fb w O b cs) (s : St w O w' O') : Fb w' O' b cs := ⟨h.1.st s h.2, s.sub b h.1.lt h.2⟩
theorem Fb.cell (h : Fb w O b cs) {j : Nat} {u : Value} (hu : cs[j]? = some u) : w.cell? ⟨b, j, none⟩ = some u := h.1.cell hu
theorem Fb.cells (h : Fb w O b cs) {off : Nat} {ds : List Value} (hd : (cs.drop off).take ds.length = ds) : ∀ j u, ds[j]? = some u → w.cell? ((⟨b, off, none⟩ : Addr).add j) = some u := h.1.cells hd
theorem Ow.sn (h : Ow k e w O v xs) (g : Gr w w' none) : Ow k e w' O v xs := h.st0 (.new O g) g h.choose_spec.2.2
theorem Ow.so (h : Ow k e w O v xs) (r : Option Nat) (g : Gr w w' none) (hr : ∀ b, r = some b → w.heap.size ≤ b) : Ow k e w' (r :: O) v xs :=
 h.st0 (.own O r g hr) g fun b hb => List.mem_cons_of_mem _ (h.choose_spec.2.2 b hb)
theorem Ow.sm (h : Ow k e w (L ++ O) v xs) (c : Ct m w0 w L O) (hi : L[i]? = some (blk v)) (hj : L[j]? = some r) (hij : i ≠ j) (g : Gr w w' r) (s : St w (L ++ O) w' (L.set j r' ++ O)) : Ow k e w' (L.set j r' ++ O) v xs :=
 h.st1 s g (fun b hb => c.dj.ne (get_app hi) (get_app hj) hij b hb) fun b hb => List.mem_append_left _ (by
  rw [← hb]; refine List.mem_of_getElem? (i := i) ?_; rw [List.getElem?_set_ne (Ne.symm hij)]; exact hi)
theorem Ow.sw (h : Ow k e w (L ++ O) v xs) (c : Ct m w0 w L O) (hi : L[i]? = some (blk v)) (hj : L[j]? = some r) (hij : i ≠ j) (g : Gr w w' r) : Ow k e w' (L ++ O) v xs :=
 h.st1 (.wr (List.mem_of_getElem? (get_app hj)) g) g (fun b hb => c.dj.ne (get_app hi) (get_app hj) hij b hb) h.choose_spec.2.2
theorem Ow.sd (h : Ow k e w (L ++ O) v xs) (hi : L[i]? = some (blk v)) (hj0 : Nat.blt j L.length = true) (hij : i ≠ j) : Ow k e w (L.eraseIdx j ++ O) v xs := by
 have hj := lt_blt hj0
 have s := St.drop w (L ++ O) j
 rw [erase_app hj] at s
 refine h.st0 s (Gr.refl w none) fun b hb => List.mem_append_left _ ?_
 rw [List.mem_eraseIdx_iff_getElem?]
 exact ⟨i, hij, by rw [← hb]; exact hi⟩
theorem Ow.gv (h : Ow k e w (L ++ O) v xs) (c : Ct m w0 w L O) (hi : L[i]? = some (blk v)) : Sl k w (Fr (L.eraseIdx i ++ O)) v xs := by
 have := h.give i (get_app hi) c.dj
 rwa [erase_app (List.getElem?_eq_some_iff.1 hi).1] at this
theorem Bx.sm (h : Bx w b cs) (c : Ct m w0 w L O) (hi : L[i]? = some (some b)) (hj : L[j]? = some r) (hij : i ≠ j) (g : Gr w w' r) : Bx w' b cs :=
 h.keep g fun e => c.dj.ne (get_app hi) (get_app hj) hij b rfl e
theorem Bx.gv (h : Bx w b cs) (c : Ct m w0 w L O) (hi : L[i]? = some (some b)) : Fb w (L.eraseIdx i ++ O) b cs := ⟨h, fun hm => by
 rw [← erase_app (List.getElem?_eq_some_iff.1 hi).1, List.mem_eraseIdx_iff_getElem?] at hm
 obtain ⟨j, hne, hj⟩ := hm
 exact c.dj.ne (get_app hi) hj (fun e => hne e.symm) b rfl rfl⟩
theorem St.dr (w : World) (hj0 : Nat.blt j L.length = true) : St w (L ++ O) w (L.eraseIdx j ++ O) := by
 have hj := lt_blt hj0
 rw [← erase_app hj]; exact St.drop w (L ++ O) j
theorem St.wl (hj : L[j]? = some r) (g : Gr w w' r) : St w (L ++ O) w' (L ++ O) := .wr (List.mem_of_getElem? (get_app hj)) g
theorem Ow.swmm (h : Ow k e w (L ++ O) v xs) (c : Ct m w0 w L O) (hi : L[i]? = some (blk v)) (hr : ∀ b, r = some b → some b ∈ m) (g : Gr w w' r) : Ow k e w' (L ++ O) v xs :=
 h.st1 (.new' g fun b e => List.mem_append_right _ (c.mo b (hr b e)).1) g (fun b hb e => by
  have := c.ge b (by rw [← hb]; exact List.mem_of_getElem? hi); have := (c.mo b (hr b e)).2; omega) h.choose_spec.2.2
theorem Bx.swmm (h : Bx w b cs) (c : Ct m w0 w L O) (hi : L[i]? = some (some b)) (hr : ∀ b, r = some b → some b ∈ m) (g : Gr w w' r) : Bx w' b cs :=
 h.keep g fun e => by have := c.ge b (List.mem_of_getElem? hi); have := (c.mo b (hr b e)).2; omega
theorem St.wmm (c : Ct m w0 w L O) (hr : ∀ b, r = some b → some b ∈ m) (g : Gr w w' r) : St w (L ++ O) w' (L ++ O) := .new' g fun b e => List.mem_append_right _ (c.mo b (hr b e)).1
theorem Ow.swm (h : Ow k e w (L ++ O) v xs) (c : Ct [r] w0 w L O) (hi : L[i]? = some (blk v)) (g : Gr w w' r) : Ow k e w' (L ++ O) v xs := h.swmm c hi row1 g
theorem Bx.swm (h : Bx w b cs) (c : Ct [r] w0 w L O) (hi : L[i]? = some (some b)) (g : Gr w w' r) : Bx w' b cs := h.swmm c hi row1 g
theorem St.wm (c : Ct [r] w0 w L O) (g : Gr w w' r) : St w (L ++ O) w' (L ++ O) := .wmm c row1 g
end
end
section

def FA (P : Program) (T : TypeId) (f off : Nat) : Prop := ∀ w a, (Instr.fieldAt T (.pointer (some a)) f).run P w = .ok (.pointer (some (a.add off))) w
def IsAgg (P : Program) (T : TypeId) (b : Bool) : Prop := ∀ w, (isAgg T).run P w = .ok b w
def SizeOf (P : Program) (T : TypeId) (m : Nat) : Prop := ∀ w, (sizeOf T).run P w = .ok m w
def ZeroOf (P : Program) (T : TypeId) (cs : List Value) : Prop := ∀ w, ∃ v, (zeroValue T).run P w = .ok v w ∧ v.cells.toList = cs
theorem FA_mk {P : Program} {T : TypeId} {fs : Array Field} {f : Nat} {fld : Field} (s off : Nat) (hu : P.underlying T = some (.struct fs)) (hf : fs[f]? = some fld) (hi : (P.info? fld.type).map (·.size) = some s) (hz : s ≠ 0) (ho : fld.offset = off) : FA P T f off :=
 fun w a => by
  cases h : P.info? fld.type with
  | none => simp [h] at hi
  | some i =>
   have : i.size ≠ 0 := by simp [h] at hi; omega
   subst ho
   simp [Instr.fieldAt, run_underlying hu, hf, Instr.sureAddr, fieldPlace, sizeOf, typeInfo, h, this]
def aggD : TypeDesc → Bool
 | .struct _ | .array _ _ => true
 | _ => false
theorem IsAgg_mk {P : Program} {T : TypeId} {d : TypeDesc} (hu : P.underlying T = some d) : IsAgg P T (aggD d) :=
 fun w => by unfold isAgg; rw [Sem.run_bind, run_underlying hu w]; cases d <;> rfl
theorem SizeOf_mk {P : Program} {T : TypeId} {m : Nat} (hi : (P.info? T).map (·.size) = some m) : SizeOf P T m :=
 fun w => by
  cases h : P.info? T with
  | none => simp [h] at hi
  | some i => simp [h] at hi; simp [sizeOf, typeInfo, h, hi]
theorem ZeroOf_mk {P : Program} {T : TypeId} {z : Value} {cs : List Value} (h : (P.info? T).map (·.zero) = some (some z)) (hz : z.cells.toList = cs) : ZeroOf P T cs := fun w => by
 cases hi : P.info? T with
 | none => simp [hi] at h
 | some i => simp [hi] at h; exact ⟨z, by simp [zeroValue, typeInfo, hi, h], hz⟩

theorem loadCells_run {P : Program} (w : World) (a : Addr) (cs : List Value) (hc : ∀ j u, cs[j]? = some u → w.cell? (a.add j) = some u) : (loadCells a cs.length).run P w = .ok cs.toArray w :=
 run_loadCells_list (P := P) w a cs hc

section
variable {P : Program} {n : Nat} {N R : Ps} {X : Nat → Ps} {t : Tm} {w : World} {ops : Array Oper} {rest : List Oper} {ty : TypeId} {pos : String} {aft : Array Edge} {d : Nat} {x y z : Operand} {C : World → Prop}

theorem Xm {T : TypeId} {f off : Nat} (hT : FA P T f off) (a b : Addr) (hx : evt n t x = .pointer (some a)) (hb : a.add off = b) : Pu P n t C ⟨some d, .fieldAddr T x f, ty, pos, aft, none⟩ (.pointer (some b)) := fun w hw =>
 (by subst hb; simp [execOp, hx, hT w a])
theorem X3 {T e : TypeId} {s : Nat} {kd : IntKind} (hu : P.underlying T = some (.slice e)) (hs : SizeOf P e s) (A : Option Addr) (ad : Addr) (m c : Nat) {l : Nat} (hm : m = l) (i : Int) (hx : evt n t x = .slice A m c) (hA : A = some ad) (hy : evt n t y = .int kd i)
  (hi : 0 ≤ i ∧ i < (l : Int)) : Pu P n t C ⟨some d, .indexAddr T x y, ty, pos, aft, none⟩ (.pointer (some (ad.add (i.toNat * s)))) := fun w hw =>
 (by subst hA; subst hm; simp [execOp, hx, hy, Instr.indexAt, asIntOf, run_underlying hu, hi, hs w])
theorem map_toL {α β : Type} (a : Array α) (f : α → β) : a.map f = (a.toList.map f).toArray := by apply Array.ext'; simp
theorem cL {w : World} : ∀ x, (fun x => x = w) x → Gr w x none := fun x e => by cases e; exact Gr.refl _ _
theorem cQ {w : World} : ∀ x, (fun x => Gr w x none) x → Gr w x none := fun x e => e
theorem Xp {T : TypeId} (hT : IsAgg P T false) {w1 : World} (hC : ∀ x, C x → Gr w1 x none) (a : Addr) (v : Value) (hx : evt n t x = .pointer (some a)) (hc0 : w1.cell? a = some v) : Pu P n t C ⟨some d, .load T x, ty, pos, aft, none⟩ v := fun w hw =>
 (by have hc := Gr.cell (hC w hw) hc0 (by simp); simp [execOp, hx, Instr.loadAt, Instr.sureAddr, loadVar, hT w, hc])
theorem Xr {T : TypeId} {s : Nat} (hT : IsAgg P T true) (hs : SizeOf P T s) {w1 : World} (hC : ∀ x, C x → Gr w1 x none) (a : Addr) (cs : List Value) (hx : evt n t x = .pointer (some a)) (hl : cs.length = s) (hc0 : ∀ j u, cs[j]? = some u → w1.cell? (a.add j) = some u) : Pu P n t C ⟨some d, .load T x, ty, pos, aft, none⟩ (.agg cs.toArray) := fun w hw =>
 (by have hc := fun j u hu => Gr.cell (hC w hw) (hc0 j u hu) (by simp); subst hl; simp [execOp, hx, Instr.loadAt, Instr.sureAddr, loadVar, hT w, hs w, loadCells_run w a cs hc])
theorem Yk {T : TypeId} (cs : List Value) (hx : (evt n t x).cells = cs.toArray) (k : ∀ w' b, w.heap.size ≤ b → b < w'.heap.size → Gr w w' none → Bx w' b cs → L P n ops N R X rest (upd d (.pointer (some ⟨b, 0, none⟩)) t) w') :
  L P n ops N R X (⟨some d, .box T x, ty, pos, aft, none⟩ :: rest) t w :=
 Zg rfl _ (w.alloc (.cells cs.toArray T)) (by simp [execOp, hx, Instr.box, newVar, newRow]) (k _ _ (Nat.le_refl _) (by simp) (Gr.alloc _ _) ⟨T, heap_alloc_new w _⟩)
theorem Ya {T : TypeId} (cs : List Value) (hz : ZeroOf P T cs) (k : ∀ w' b, w.heap.size ≤ b → b < w'.heap.size → Gr w w' none → Bx w' b cs → L P n ops N R X rest (upd d (.pointer (some ⟨b, 0, none⟩)) t) w') :
  L P n ops N R X (⟨some d, .alloc T, ty, pos, aft, none⟩ :: rest) t w := by
 obtain ⟨v, hv, rfl⟩ := hz w
 exact Zg rfl _ (w.alloc (.cells v.cells T)) (by simp [execOp, Instr.alloc, hv, newVar, newRow]) (k _ _ (Nat.le_refl _) (by simp) (Gr.alloc _ _) ⟨T, by simpa using heap_alloc_new w _⟩)
theorem Yi {T : TypeId} {parts : Array (Nat × Operand)} (v : Value) (h : ∀ w, (Instr.build T (parts.toList.map fun p => (p.1, evt n t p.2)).toArray).run P w = .ok v w) : Pu P n t C ⟨some d, .build T parts, ty, pos, aft, none⟩ v := fun w hw =>
 (by have h := h w; rw [← map_toL] at h; simp only [execOp]; rw [Sem.run_bind]; exact (congrArg (fun r => Result.andThen r _) h))
theorem Zb (v : Value) (hx : evt n t x = v) (a : Addr) (hv : v = .pointer (some a)) : Pu P n t C ⟨some d, .nilCheck x, ty, pos, aft, none⟩ v := fun w hw =>
 (by subst hv; simp [execOp, hx])
theorem Kf {T U : TypeId} (a b : Int) (hx : evt n t x = vi a) (hy : evt n t y = vi b) : Pu P n t C ⟨some d, .call ⟨.builtin .max, #[x, y], #[T, U]⟩, ty, pos, aft, none⟩ (vi (max a b)) := fun w hw => by
 have h : (if b > a then b else a) = max a b := by omega
 simp [execOp, resolve, hx, hy, invoke, builtin, Builtin.max_, Builtin.max2, h]
theorem Zz {T U : TypeId} {kd : IntKind} {d' : TypeDesc} (ht : P.underlying T = some d') (hu : P.underlying U = some (.int .i64)) (i : Int) (hx : evt n t x = .int kd i) (hi : I64 i) : Pu P n t C ⟨some d, .convert T U x, ty, pos, aft, none⟩ (vi i) := fun w hw =>
 (by cases d' <;> simp [execOp, convert, run_underlying ht, run_underlying hu, hx, Conv.intToInt, hi.wrap])

theorem Gr.setRow (w : World) (g : Nat) (cs : Array Value) : Gr w (w.setRow g cs) (some g) := ⟨rfl, rfl, rfl, by simp, fun k _ hk => setRow_other w g k _ (fun e => hk (by rw [e]))⟩
theorem Z7 {T : TypeId} (b off : Nat) (cs us cs' : List Value) (hx : evt n t x = .pointer (some ⟨b, off, none⟩)) (hB : Bx w b cs) (hy : (evt n t y).cells = us.toArray) (hs : SizeOf P T us.length) (h1' : us.all Value.oneCell' = true)
  (hl' : Nat.ble (off + us.length) cs.length = true) (hcs : cs.take off ++ us ++ cs.drop (off + us.length) = cs') (k : ∀ w', Gr w w' (some b) → Bx w' b cs' → L P n ops N R X rest t w') :
  L P n ops N R X (⟨none, .store T x y, ty, pos, aft, none⟩ :: rest) t w := by
 have h1 : ∀ u ∈ us, u.oneCell' = true := fun u hu => List.all_eq_true.1 h1' u hu
 have hl : off + us.length ≤ cs.length := Nat.le_of_ble_eq_true hl'
 obtain ⟨e, hB⟩ := hB
 have hr := run_storeCells_at P b off e us 0 cs.toArray w hB (by simpa using hl) h1
 simp only [Nat.add_zero] at hr
 subst hcs
 have hr : (storeCells ⟨b, off, none⟩ us).run P w = .ok () (w.setRow b (cs.take off ++ us ++ cs.drop (off + us.length)).toArray) := hr
 refine Z5 rfl (w.setRow b (cs.take off ++ us ++ cs.drop (off + us.length)).toArray) ?_ (k _ (Gr.setRow _ _ _) ⟨e, setRow_heap w b _ _ e _ hB⟩)
 simp only [execOp, hx, Instr.storeAt, Instr.sureAddr, Sem.run_bind, Sem.run_pure, Result.andThen_ok, storeVar, hs w, hy, List.size_toArray, ne_eq, not_true, if_false, hr]
theorem splice (A B C us : List Value) (off : Nat) (h : off + us.length ≤ B.length) :
  (A ++ (B ++ C)).take (A.length + off) ++ us ++ (A ++ (B ++ C)).drop (A.length + off + us.length) = A ++ (B.take off ++ us ++ B.drop (off + us.length)) ++ C := by
 rw [Nat.add_assoc, List.take_length_add_append, List.drop_length_add_append, List.take_append_of_le_length OM, List.drop_append_of_le_length OM]
 simp
theorem splice_take (cur us : List Value) (a M : Nat) (h : a + us.length ≤ M) (hM : M ≤ cur.length) :
  (cur.take a ++ us ++ cur.drop (a + us.length)).take M = (cur.take M).take a ++ us ++ (cur.take M).drop (a + us.length) := by
 have h1 : (cur.take a).length = a := by rw [List.length_take]; omega
 rw [List.take_take, Nat.min_eq_left OM, List.drop_take, List.take_append, List.take_append, h1, List.take_of_length_le (l := cur.take a) OM, List.take_of_length_le (l := us) OM, List.length_append, h1]
theorem Kg {α : Type} {kd : Kd α} {e T : TypeId} {O : Ob} (A : Option Addr) (m c : Nat) (xs : List α) (ho : Ow kd e w O (.slice A m c) xs) (i : Int) (hi : 0 ≤ i ∧ i < (xs.length : Int)) (ad : Addr) (hA : A = some ad) (off : Nat)
  (hx : evt n t x = .pointer (some ((ad.add (i.toNat * kd.sz)).add off))) (us : List Value) (hy : (evt n t y).cells = us.toArray) (hs : SizeOf P T us.length) (hl' : Nat.ble (off + us.length) kd.sz = true)
  (x' : α) (cs cs' : List Value) (hcell : ∀ j u, cs[j]? = some u → w.cell? ((ad.add (i.toNat * kd.sz)).add j) = some u) (hlen : cs.length = kd.sz) (hcs : cs.take off ++ us ++ cs.drop (off + us.length) = cs') (hR : kd.R w (Fr O) x' cs')
  (k : ∀ w', Gr w w' (blk (.slice A m c)) → Ow kd e w' O (.slice A m c) (xs.set i.toNat x') → L P n ops N R X rest t w') :
  L P n ops N R X (⟨none, .store T x y, ty, pos, aft, none⟩ :: rest) t w := by
 have hl : off + us.length ≤ kd.sz := Nat.le_of_ble_eq_true hl'
 obtain ⟨cells, h1, h2, h3⟩ := ho
 have hin : i.toNat < xs.length := by omega
 rcases h1.2 with ⟨_, e'⟩ | ⟨g, cap, cur, ev, _, hg, hle, hmx, hcur, htake⟩
 ·omega
 ·cases ev
  cases hA
  have hlc := h2.len
  have hmul : i.toNat * kd.sz + kd.sz ≤ xs.length * kd.sz := by rw [← Nat.succ_mul]; exact Nat.mul_le_mul_right _ hin
  have hcap : xs.length * kd.sz ≤ cur.size := by rw [hcur]; exact Nat.mul_le_mul_right _ hle
  have hcells : cells.length = xs.length * kd.sz := h2.len
  have hone : ∀ u ∈ us, u.oneCell' = true := fun u hu => kd.one hR u (by subst hcs; simp [hu])
  have hr := run_storeCells_at P g (i.toNat * kd.sz + off) e us 0 cur w hg OM hone
  simp only [Nat.add_zero] at hr
  have had : ((⟨g, 0, none⟩ : Addr).add (i.toNat * kd.sz)).add off = ⟨g, i.toNat * kd.sz + off, none⟩ := by
   rw [add_add]; unfold Addr.add; split <;> simp_all
  have hcs0 : cs = (cells.drop (i.toNat * kd.sz)).take kd.sz := by
   apply List.ext_getElem?
   intro j
   by_cases hj : j < kd.sz
   ·obtain ⟨u, hu⟩ : ∃ u, cs[j]? = some u := ⟨cs[j]'OM, by simp [hlen, hj]⟩
    have hc := hcell j u hu
    rw [add_add, show (⟨g, 0, none⟩ : Addr).add (i.toNat * kd.sz + j) = ⟨g, i.toNat * kd.sz + j, none⟩ by unfold Addr.add; split <;> simp_all] at hc
    rw [cell_of_row w g _ cur e (0, 0) hg] at hc
    rw [hu, List.getElem?_take, if_pos hj, List.getElem?_drop, ← htake, List.getElem?_take, if_pos OM]
    simpa using hc.symm
   ·rw [List.getElem?_eq_none OM, List.getElem?_eq_none (by rw [List.length_take]; omega)]
  rw [had] at hx
  refine Z5 rfl _ (show _ = Result.ok _ (w.setRow g (cur.toList.take (i.toNat * kd.sz + off) ++ us ++ cur.toList.drop (i.toNat * kd.sz + off + us.length)).toArray) from ?_) (k _ (Gr.setRow _ _ _) ?_)
  ·simp only [execOp, hx, Instr.storeAt, Instr.sureAddr, Sem.run_bind, Sem.run_pure, Result.andThen_ok, storeVar, hs w, hy, List.size_toArray, ne_eq, not_true, if_false, hr]
  have hset := h2.set i.toNat x' cs' hin hR
  have e0 : cells = cells.take (i.toNat * kd.sz) ++ (cs ++ cells.drop (i.toNat * kd.sz + kd.sz)) := by
   rw [hcs0, ← List.drop_drop, List.take_append_drop, List.take_append_drop]
  have hla : (cells.take (i.toNat * kd.sz)).length = i.toNat * kd.sz := by rw [List.length_take]; omega
  have e2 : cells.take (i.toNat * kd.sz) ++ cs' ++ cells.drop (i.toNat * kd.sz + kd.sz) = cells.take (i.toNat * kd.sz + off) ++ us ++ cells.drop (i.toNat * kd.sz + off + us.length) := by
   have := splice (cells.take (i.toNat * kd.sz)) cs (cells.drop (i.toNat * kd.sz + kd.sz)) us off OM
   rw [← e0, hla, hcs] at this
   exact this.symm
  rw [e2] at hset
  refine ⟨_, ⟨by rw [hset.len, List.length_set], .inr ⟨g, c, _, by rw [List.length_set], Nat.zero_le _, setRow_heap w g cur _ e _ hg, by rw [List.length_set]; exact hle, hmx, ?_, ?_⟩⟩,
   hset.keep fun b hS hb => (Gr.setRow w g _).block b hb (fun e => hS (e ▸ h3 g rfl)), h3⟩
  ·simp only [List.size_toArray, List.length_append, List.length_take, List.length_drop, Array.length_toList]
   omega
  ·rw [List.length_set, List.toList_toArray, ← htake]
   exact splice_take cur.toList us (i.toNat * kd.sz + off) (xs.length * kd.sz) OM (by rw [Array.length_toList]; exact hcap)

structure EI (P : Program) (T e : TypeId) (sz bytes : Nat) (zc : List Value) : Prop where
 un : P.underlying T = some (.slice e)
 inf : ∃ i z, P.info? e = some i ∧ i.zero = some z ∧ i.size = sz ∧ i.bytes = bytes ∧ z.cells.toList = zc
 len : zc.length = sz
 pos : 0 < sz
 byt : bytes ≤ 524288
theorem Z8 {α : Type} {kd : Kd α} {e T : TypeId} {O : Ob} (A : Option Addr) (m c : Nat) (xs : List α) (ho : Ow kd e w O (.slice A m c) xs) (i : Int) (hi : 0 ≤ i ∧ i < (xs.length : Int)) (ad : Addr) (hA : A = some ad) (off : Nat)
  (hx : evt n t x = .pointer (some ((ad.add (i.toNat * kd.sz)).add off))) (us : List Value) (hy : (evt n t y).cells = us.toArray) (hs : SizeOf P T us.length) (hl' : Nat.ble (off + us.length) kd.sz = true)
  (x' : α) (cs cs' : List Value) (hcell : ∀ j u, cs[j]? = some u → w.cell? ((ad.add (i.toNat * kd.sz)).add j) = some u) (hlen : cs.length = kd.sz) (hcs : cs.take off ++ us ++ cs.drop (off + us.length) = cs') (hR : kd.R w (Fr O) x' cs')
  (k : ∀ w', Gr w w' (blk (.slice A m c)) → Ow kd e w' O (.slice A m c) (xs.set i.toNat x') → L P n ops N R X rest t w') :
  L P n ops N R X (⟨none, .store T x y, ty, pos, aft, none⟩ :: rest) t w :=
 Kg A m c xs ho i hi ad hA off hx us hy hs hl' x' cs cs' hcell hlen hcs hR k
theorem Zs {α : Type} {kd : Kd α} {e T : TypeId} {O : Ob} (A : Option Addr) (m c : Nat) (xs : List α) (ho : Ow kd e w O (.slice A m c) xs) (i : Int) (hi : 0 ≤ i ∧ i < (xs.length : Int)) (ad : Addr) (hA : A = some ad) (off : Nat)
  (hx : evt n t x = .pointer (some (ad.add (i.toNat * kd.sz)))) (us : List Value) (hy : (evt n t y).cells = us.toArray) (hs : SizeOf P T us.length) (hl' : Nat.ble (0 + us.length) kd.sz = true)
  (x' : α) (cs cs' : List Value) (hcell : ∀ j u, cs[j]? = some u → w.cell? ((ad.add (i.toNat * kd.sz)).add j) = some u) (hlen : cs.length = kd.sz) (hcs : cs.take 0 ++ us ++ cs.drop (0 + us.length) = cs') (hR : kd.R w (Fr O) x' cs')
  (k : ∀ w', Gr w w' (blk (.slice A m c)) → Ow kd e w' O (.slice A m c) (xs.set i.toNat x') → L P n ops N R X rest t w') :
  L P n ops N R X (⟨none, .store T x y, ty, pos, aft, none⟩ :: rest) t w :=
 Z8 A m c xs ho i hi ad hA 0 hx us hy hs hl' x' cs cs' hcell hlen hcs hR k
theorem EI_mk {P : Program} {T e : TypeId} {sz bytes : Nat} {z : Value} {zc : List Value} (hu : P.underlying T = some (.slice e)) (h : (P.info? e).map (fun i => (i.zero, i.size, i.bytes)) = some (some z, sz, bytes)) (hz : z.cells.toList = zc) (hl : zc.length = sz) (hp : 0 < sz) (hb : bytes ≤ 524288) : EI P T e sz bytes zc := by
 cases hi : P.info? e with
 | none => simp [hi] at h
 | some i =>
  simp [hi] at h
  exact ⟨hu, ⟨i, z, hi, h.1, h.2.1, h.2.2, hz⟩, hl, hp, hb⟩
theorem EI.size {P : Program} {T e : TypeId} {sz bytes : Nat} {zc : List Value} (E : EI P T e sz bytes zc) : SizeOf P e sz := by
 obtain ⟨i, z, hi, _, hs, _⟩ := E.inf
 exact SizeOf_mk (by simp [hi, hs])
def Sx {α : Type} (k : Kd α) (w : World) (S : Sp) (v : Value) (xs : List α) : Prop :=
 ∃ A c cells, v = .slice A xs.length c ∧ (xs.length ≤ c ∧ c ≤ 9223372036854775807) ∧ Arr k w S xs cells ∧ ∀ j u, cells[j]? = some u → ∃ ad, A = some ad ∧ w.cell? (ad.add j) = some u
theorem Sl.sx {α : Type} {k : Kd α} {w : World} {S : Sp} {v : Value} {xs : List α} (h : Sl k w S v xs) : Sx k w S v xs := by
 obtain ⟨A, c, cells, e, h1, h2, h3⟩ := h
 exact ⟨A, c, cells, e, h1, h2, fun j u hu => let ⟨ad, ea, _, hc⟩ := h3 j u hu; ⟨ad, ea, hc⟩⟩
theorem Ow.sx {α : Type} {k : Kd α} {e : TypeId} {w : World} {O : Ob} {v : Value} {xs : List α} (h : Ow k e w O v xs) : Sx k w (Fr O) v xs := by
 obtain ⟨cells, h1, h2, h3⟩ := h
 obtain ⟨A, c, rfl⟩ := ownsRow.shape h1
 have hc : xs.length ≤ c ∧ c ≤ 9223372036854775807 := by
  rcases h1.2 with ⟨e, e'⟩ | ⟨g, cap, cur, e, _, _, h, hm, _⟩
  ·simp only [Value.slice.injEq] at e; omega
  ·cases e; exact ⟨h, hm⟩
 refine ⟨A, c, cells, rfl, hc, h2, fun j u hu => ?_⟩
 rcases h1.2 with ⟨e, e'⟩ | ⟨g, cap, cur, e, _, hg, h, _⟩
 ·have := h1.1
  have hl : cells = [] := List.length_eq_zero_iff.1 (by rw [this, e']; simp)
  subst hl; simp at hu
 ·cases e
  exact ⟨_, rfl, World.ownsRow.cells h1 (g := g) rfl j u hu⟩
theorem Sx.cut {α : Type} {k : Kd α} {w : World} {S : Sp} {xs : List α} {A : Option Addr} {m c : Nat} (h : Sx k w S (.slice A m c) xs) (i j : Int) (hij : 0 ≤ i ∧ i ≤ j ∧ j ≤ (xs.length : Int)) :
  Sx k w S (sliced A i.toNat j.toNat c k.sz) ((xs.drop i.toNat).take (j.toNat - i.toNat)) := by
 obtain ⟨A', c', cells, e, h1, h2, h3⟩ := h
 cases e
 have hl : ((xs.drop i.toNat).take (j.toNat - i.toNat)).length = j.toNat - i.toNat := by simp; omega
 refine ⟨_, _, _, by rw [hl]; rfl, by rw [hl]; omega, (h2.drop i.toNat).take (j.toNat - i.toNat), fun q u hu => ?_⟩
 rw [List.getElem?_take] at hu
 split at hu
 ·rename_i hq
  rw [List.getElem?_drop] at hu
  obtain ⟨ad, rfl, hc⟩ := h3 _ _ hu
  by_cases hci : c = i.toNat
  ·have : j.toNat = i.toNat := by omega
   rw [this] at hq; simp at hq
  ·rw [if_neg hci]
   exact ⟨_, rfl, by rw [add_add]; exact hc⟩
 ·cases hu
theorem append_none {T e : TypeId} {sz bytes : Nat} {zc : List Value} (E : EI P T e sz bytes zc) (ty' : TypeId) (O : Ob) (v : Value) (m : Nat) (cells : List Value) (h : w.ownsRow 0 e sz v m cells) (A : Option Addr) (c : Nat) :
  (Builtin.append_ #[T, T] ty' #[v, .slice A 0 c]).run P w = .ok v w := by
 obtain ⟨i, z, hi, hz, hs, hb, hzc⟩ := E.inf
 rcases h.2 with ⟨rfl, rfl⟩ | ⟨g, cap, cur, rfl, _, _, hle, _⟩
 ·cases A <;> simp [Builtin.append_, run_underlying E.un, sizeOf, typeInfo, hi, Builtin.lenOf, Builtin.firstCells, loadCells, loadCellsFrom]
 ·cases A <;> simp [Builtin.append_, run_underlying E.un, sizeOf, typeInfo, hi, Builtin.lenOf, Builtin.firstCells, loadCells, loadCellsFrom, hle, storeCells]
theorem append_run {T e : TypeId} {bytes : Nat} {zc : List Value} {α : Type} {k : Kd α} (E : EI P T e k.sz bytes zc) (ty' : TypeId) {O : Ob} (v : Value) (xs ys : List α) (ho : Ow k e w O v xs) (u : Value) (hs : Sx k w (Fr O) u ys)
  (i : Nat) (hi : O[i]? = some (blk v)) (hn : xs.length + ys.length ≤ 268435456) :
  ∃ v' w', (Builtin.append_ #[T, T] ty' #[v, u]).run P w = .ok v' w' ∧ Gr w w' (blk v) ∧ (blk v' = blk v ∨ ∀ b, blk v' = some b → w.heap.size ≤ b) ∧ Ow k e w' (O.set i (blk v')) v' (xs ++ ys) := by
 obtain ⟨cells, h1, h2, h3⟩ := ho
 obtain ⟨A, c, news, rfl, hc, g2, g3⟩ := hs
 obtain ⟨ti, z, hti, hz, hsz, hb, hzc⟩ := E.inf
 by_cases hy : ys = []
 ·subst hy
  refine ⟨v, w, append_none E ty' O v _ cells h1 A c, Gr.refl _ _, .inl rfl, cells, by simpa using h1, ?_, fun b hb => ?_⟩
  ·rw [List.append_nil]
   exact h2.mono fun b hS _ hm => by
    rcases List.mem_or_eq_of_mem_set hm with hm | e'
    ·exact hS hm
    ·exact hS (h3 b e'.symm)
  ·rw [← hb]; exact List.mem_set (by exact (List.getElem?_eq_some_iff.1 hi).1) _
 ·obtain ⟨ad, rfl⟩ : ∃ ad, A = some ad := by
   have hl := g2.len
   have : 0 < news.length := by rw [hl]; exact Nat.mul_pos (List.length_pos_iff.2 hy) E.pos
   obtain ⟨ad, ea, _⟩ := g3 0 news[0] (by simp)
   exact ⟨ad, ea⟩
  have hnews : ∀ j u, news[j]? = some u → w.cell? (ad.add j) = some u := fun j u hu => by
   obtain ⟨ad', ea, hc⟩ := g3 j u hu
   cases ea; exact hc
  have hbytes : (xs.length + ys.length) * bytes ≤ 140737488355328 := Nat.le_trans (Nat.mul_le_mul hn E.byt) OM
  have hml : xs.length + ys.length ≤ maxLen := by unfold maxLen; omega
  have hzs : z.cells.size = k.sz := by rw [← Array.length_toList, hzc, E.len]
  obtain ⟨v', w', hr, o', gr, _⟩ := run_append_own (P := P) w 0 T ty' e ti z k.sz bytes E.un hti hz hsz hb hzs E.pos v xs.length cells h1 ad ys.length c news g2.len hnews g2.one hml hbytes (Nat.zero_le _)
  rw [own_blk] at gr
  have hblk : blk v' = blk v ∨ blk v' = some w.heap.size := by
   have hlen63 : ((xs.length + ys.length : Nat) : Int) ≤ 9223372036854775807 := by omega
   rcases h1.2 with ⟨rfl, e'⟩ | ⟨g, cap, cur, rfl, _, hg, hle, _⟩
   ·have h0 : xs = [] := List.length_eq_zero_iff.1 e'
    subst h0
    have hpos : 0 < ys.length := List.length_pos_iff.2 hy
    have := run_append_nil (P := P) w T ty' e ti z E.un hti hz ad ys.length c news (by rw [g2.len, hsz]) hnews hpos (by simpa using hlen63) (by rw [hb]; simp at hbytes; omega)
    rw [this] at hr
    cases hr; exact .inr rfl
   ·by_cases hroom : xs.length + ys.length ≤ cap
    ·obtain ⟨w'', hr', _⟩ := run_append_fits (P := P) w 0 T ty' e ti k.sz E.un hti hsz g xs.length cap cells h1 ad ys.length c news g2.len hnews g2.one hroom
     rw [hr'] at hr
     cases hr; exact .inl rfl
    ·have := run_append_grow (P := P) w T ty' e ti z E.un hti hz ⟨g, 0, none⟩ xs.length cap cells (by rw [h2.len, hsz]) (World.ownsRow.cells h1 (g := g) rfl) ad ys.length c news (by rw [g2.len, hsz]) hnews OM hlen63 (growslice_fits OM (by rw [hb]; exact hbytes))
     rw [this] at hr
     cases hr; exact .inr rfl
  have hil : i < O.length := (List.getElem?_eq_some_iff.1 hi).1
  refine ⟨v', w', hr, gr, hblk.imp id fun h b e => by rw [h] at e; cases e; exact Nat.le_refl _, cells ++ news, by rw [List.length_append]; exact o', ?_, fun b hb => by rw [← hb]; exact List.mem_set hil _⟩
  have key : Arr k w (fun b => some b ∉ O ∧ b < w.heap.size) (xs ++ ys) (cells ++ news) := (h2.mono fun b hS hb => ⟨hS, hb⟩).app (g2.mono fun b hS hb => ⟨hS, hb⟩)
  refine (key.keep fun b hS hb => gr.block b hb fun e => hS.1 ?_).mono fun b hS hb hm => ?_
  ·rw [e]; exact List.mem_of_getElem? hi
  ·rcases List.mem_or_eq_of_mem_set hm with hm | e'
   ·exact hS.1 hm
   ·rcases hblk with h | h
    ·exact hS.1 (by rw [e', h]; exact List.mem_of_getElem? hi)
    ·rw [h] at e'; cases e'; exact absurd hS.2 (Nat.lt_irrefl _)
theorem Yf {T e : TypeId} {bytes : Nat} {zc : List Value} {α : Type} {kd : Kd α} (E : EI P T e kd.sz bytes zc) {O M : Ob} {w0 : World} {mr : Ob} (hC : Ct mr w0 w M O) (v : Value) (xs ys : List α) (hx : evt n t x = v) (ho : Ow kd e w (M ++ O) v xs)
  (u : Value) (hy : evt n t y = u) (hs : Sx kd w (Fr (M ++ O)) u ys) (i : Nat) (hi : M[i]? = some (blk v)) (hn : xs.length + ys.length ≤ 268435456)
  (k : ∀ w' A l c, Gr w w' (blk v) → St w (M ++ O) w' (M.set i (bk A) ++ O) → Ct mr w0 w' (M.set i (bk A)) O →
   Ow kd e w' (M.set i (bk A) ++ O) (.slice A l c) (xs ++ ys) → L P n ops N R X rest (upd d (.slice A l c) t) w') :
  L P n ops N R X (⟨some d, .call ⟨.builtin .append, #[x, y], #[T, T]⟩, ty, pos, aft, none⟩ :: rest) t w := by
 have hi' := get_app (O := O) hi
 obtain ⟨v', w', hr, gr, hb, ho'⟩ := append_run E ty v xs ys ho u hs i hi' hn
 rw [set_app hi] at ho'
 obtain ⟨A, c, rfl⟩ := ho'.shape
 refine Zg rfl _ w' (by simp [execOp, resolve, hx, hy, invoke, builtin, hr]) (k w' A _ c gr (by rw [← set_app hi]; exact .mod i _ _ hi' gr hb) (hC.mod i _ _ hi gr (hb.imp id fun h b e => ⟨h b e, ho'.ltb b e⟩)) ho')
theorem Arr.rep {α : Type} {k : Kd α} {S : Sp} (z : α) (zc : List Value) (h : k.R w S z zc) : ∀ m, Arr k w S (List.replicate m z) (List.replicate m zc).flatten
 | 0 => rfl
 | m + 1 => ⟨zc, _, rfl, h, Arr.rep z zc h m⟩
theorem made_list (zc : List Value) (hpos : 0 < zc.length) : ∀ m, (madeCells zc.toArray (m * zc.length)).toList = (List.replicate m zc).flatten := by
 intro m
 apply List.ext_getElem?
 intro j
 have hm : ∀ m j, (List.replicate m zc).flatten[j]? = if j < m * zc.length then zc[j % zc.length]? else none := by
  intro m
  induction m with
  | zero => intro j; simp
  | succ m ih =>
   intro j
   rw [List.replicate_succ, List.flatten_cons]
   by_cases hj : j < zc.length
   ·rw [List.getElem?_append_left hj, Nat.mod_eq_of_lt hj, if_pos (by rw [Nat.add_mul]; omega)]
   ·rw [List.getElem?_append_right OM, ih (j - zc.length), Nat.add_mul, Nat.one_mul]
    have hmod : (j - zc.length) % zc.length = j % zc.length := by
     conv => rhs; rw [← Nat.sub_add_cancel (Nat.le_of_not_lt hj), Nat.add_mod_right]
    rw [hmod]
    by_cases h2 : j - zc.length < m * zc.length
    ·rw [if_pos h2, if_pos OM]
    ·rw [if_neg h2, if_neg OM]
 rw [hm m j, madeCells, Array.toList_map, Array.toList_range, List.getElem?_map]
 by_cases hj : j < m * zc.length
 ·rw [List.getElem?_range hj, if_pos hj]
  have : j % zc.length < zc.length := Nat.mod_lt _ hpos
  simp [this]
 ·rw [List.getElem?_eq_none (by simp; omega), if_neg hj]; rfl
theorem Zx {T e : TypeId} {bytes : Nat} {zc : List Value} {α : Type} {kd : Kd α} (E : EI P T e kd.sz bytes zc) {O M : Ob} {w0 : World} {mr : Ob} (hC : Ct mr w0 w M O) (z : α) (hz : kd.R w (Fr (M ++ O)) z zc) (m : Int) (hx : evt n t x = vi m) (hy : evt n t y = vi m) (hm : 0 ≤ m ∧ m ≤ 268435456)
  (k : ∀ w' A l c, Gr w w' none → (∀ b, bk A = some b → w.heap.size ≤ b) → Ct mr w0 w' (bk A :: M) O →
   Ow kd e w' (bk A :: M ++ O) (.slice A l c) (List.replicate m.toNat z) → L P n ops N R X rest (upd d (.slice A l c) t) w') :
  L P n ops N R X (⟨some d, .makeSlice T x y, ty, pos, aft, none⟩ :: rest) t w := by
 obtain ⟨ti, zv, hti, hzv, hsz, hb, hzc⟩ := E.inf
 have hbb := E.byt
 have hmul : (ti.bytes : Int) * m ≤ 281474976710656 := by
  have h1 : (ti.bytes : Int) ≤ 524288 := by rw [hb]; exact Int.ofNat_le.2 hbb
  have h2 : (ti.bytes : Int) * m ≤ 524288 * 268435456 := Int.mul_le_mul h1 hm.2 hm.1 OM
  omega
 have hr := run_make (P := P) w T e ti zv E.un hti hzv .i64 .i64 m m hm.1 (Int.le_refl _) hmul OM
 have hzl : zv.cells = zc.toArray := by rw [← hzc]
 have hcl : madeCells zv.cells (m.toNat * ti.size) = ((List.replicate m.toNat zc).flatten).toArray := by
  apply Array.ext'
  rw [hzl, hsz, ← E.len, made_list zc (by rw [E.len]; exact E.pos)]
 rw [hcl] at hr
 have harr := Arr.rep (w := w) z zc hz m.toNat
 have hal := harr.len
 rw [List.length_replicate] at hal
 refine Zg rfl (.slice (some ⟨w.heap.size, 0, none⟩) (List.replicate m.toNat z).length m.toNat) _ (by rw [List.length_replicate]; simp only [execOp, hx, hy, Sem.run_bind, hr, Result.andThen_ok, Sem.run_pure]; rfl) (k _ (some ⟨w.heap.size, 0, none⟩) _ _ (Gr.alloc _ _) (fun b e => by cases e; exact Nat.le_refl _)
  (hC.own (Gr.alloc _ _) _ fun b e => by cases e; simp) ⟨(List.replicate m.toNat zc).flatten, ?_, ?_, fun b e => by rw [← e]; exact List.mem_cons_self⟩)
 ·rw [List.length_replicate]
  have := World.ownsRow_lit (e := e) (base := 0) (size := kd.sz) w ((List.replicate m.toNat zc).flatten).toArray m.toNat (Nat.zero_le _) (by unfold maxLen; omega) (by simpa using hal)
  simpa using this
 ·exact (harr.mono fun b hS hb => (⟨hS, hb⟩ : some b ∉ M ++ O ∧ b < w.heap.size)).keep (fun b hS hb => (Gr.alloc w _).block b hb (by simp)) |>.mono fun b hS _ hm => by
   rcases List.mem_cons.1 hm with e' | hm
   ·cases e'; exact absurd hS.2 (Nat.lt_irrefl _)
   ·exact hS.1 hm
theorem X7 {T e : TypeId} {bytes : Nat} {zc : List Value} {α : Type} {kd : Kd α} (E : EI P T e kd.sz bytes zc) {O M : Ob} {w0 : World} {mr : Ob} (hC : Ct mr w0 w M O) (xs : List α) {cells : List Value} (ha : Arr kd w (Fr (M ++ O)) xs cells) {m : Nat} {parts : Array (Nat × Operand)}
  (hr : ∀ w : World, (Instr.buildSlice T m (parts.toList.map fun p => (p.1, evt n t p.2)).toArray).run P w = .ok (.slice (some ⟨w.heap.size, 0, none⟩) xs.length xs.length) (w.alloc (.cells cells.toArray e)))
  (k : ∀ w' A l c, Gr w w' none → (∀ b, bk A = some b → w.heap.size ≤ b) → Ct mr w0 w' (bk A :: M) O →
   Ow kd e w' (bk A :: M ++ O) (.slice A l c) xs → L P n ops N R X rest (upd d (.slice A l c) t) w') (hx : Nat.ble xs.length 268435456 = true := by rfl) :
  L P n ops N R X (⟨some d, .buildSlice T m parts, ty, pos, aft, none⟩ :: rest) t w := by
 have hlen := ha.len
 have hxl : xs.length ≤ 268435456 := Nat.le_of_ble_eq_true hx
 refine Zg rfl (.slice (some ⟨w.heap.size, 0, none⟩) xs.length xs.length) _ (by have hr := hr w; rw [← map_toL] at hr; simp only [execOp]; rw [Sem.run_bind]; exact (congrArg (fun r => Result.andThen r _) hr)) (k _ (some ⟨w.heap.size, 0, none⟩) _ _ (Gr.alloc _ _) (fun b e => by cases e; exact Nat.le_refl _)
  (hC.own (Gr.alloc _ _) _ fun b e => by cases e; simp) ⟨cells, ?_, ?_, fun b e => by rw [← e]; exact List.mem_cons_self⟩)
 ·have := World.ownsRow_lit (e := e) (base := 0) (size := kd.sz) w cells.toArray xs.length (Nat.zero_le _) (by unfold maxLen; omega) (by simpa using hlen)
  simpa using this
 ·exact (ha.mono fun b hS hb => (⟨hS, hb⟩ : some b ∉ M ++ O ∧ b < w.heap.size)).keep (fun b hS hb => (Gr.alloc w _).block b hb (by simp)) |>.mono fun b hS _ hm => by
   rcases List.mem_cons.1 hm with e' | hm
   ·cases e'; exact absurd hS.2 (Nat.lt_irrefl _)
   ·exact hS.1 hm
def bound (n : Nat) (t : Tm) (o : Option Operand) (dflt : Int) (v : Int) : Prop := match o with | some x => evt n t x = vi v | none => v = dflt
theorem Zt {T e : TypeId} {s : Nat} (hu : P.underlying T = some (.slice e)) (hs : SizeOf P e s) {lo hi : Option Operand} (A : Option Addr) (m c : Nat) (hx : evt n t x = .slice A m c) (i j : Int) (hlo : bound n t lo 0 i) (hhi : bound n t hi m j)
  (hij : 0 ≤ i ∧ i ≤ j ∧ j ≤ (c : Int)) :
  Pu P n t C ⟨some d, .slice T x lo hi none, ty, pos, aft, none⟩ (sliced A i.toNat j.toNat c s) := by
 intro w hw
 have hel : P.elem T = e := by simp [Program.elem, hu]
 have hu' : P.underlying T = some (.slice (P.elem T)) := by rw [hel]; exact hu
 have hr : ((do let a ← (sizeOf (P.elem T)); pure (sliced A i.toNat j.toNat c a)) : Sem Value).run P w = .ok (sliced A i.toNat j.toNat c s) w := by rw [hel]; simp [hs w]
 simp only [execOp, hx, Sem.run_bind]
 rw [run_sliceAt_slice w T _ _ _ _ hu']
 cases lo with
 | none =>
  cases hi with
  | none => simp only [bound] at hlo hhi; subst hlo; subst hhi; simp [run_slice_all w T A m c hu', hel, hs w]
  | some h => simp only [bound] at hlo hhi; subst hlo; simp only [Option.map_some, Option.map_none, hhi]; rw [run_slice_h w T A m c hu' .i64 j hij.2.1 hij.2.2]; simp [hel, hs w]
 | some l =>
  cases hi with
  | none => simp only [bound] at hlo hhi; subst hhi; simp only [Option.map_some, Option.map_none, hlo]; rw [run_slice_l w T A m c hu' .i64 i hij.1 hij.2.1]; simp [hel, hs w]
  | some h => simp only [bound] at hlo hhi; simp only [Option.map_some, Option.map_none, hlo, hhi]; rw [run_slice_lh w T A m c hu' .i64 .i64 i j hij.1 hij.2.1 hij.2.2]; simp [hel, hs w]

theorem Zu {T e : TypeId} {α : Type} {kd : Kd α} (hu : P.underlying T = some (.slice e)) (hs : SizeOf P e kd.sz) {lo hi : Option Operand} {S : Sp} (A : Option Addr) (m c : Nat) (xs : List α) (hx : evt n t x = .slice A m c) (hS : Sl kd w S (.slice A m c) xs)
  (i j : Int) (hlo : bound n t lo 0 i) (hhi : bound n t hi m j) (hij : 0 ≤ i ∧ i ≤ j ∧ j ≤ (xs.length : Int))
  (k : ∀ A' m' c', Sl kd w S (.slice A' m' c') ((xs.drop i.toNat).take (j.toNat - i.toNat)) → L P n ops N R X rest (upd d (.slice A' m' c') t) w) :
  L P n ops N R X (⟨some d, .slice T x lo hi none, ty, pos, aft, none⟩ :: rest) t w := by
 obtain rfl := hS.len
 have hc : xs.length ≤ c := by obtain ⟨_, _, _, e, h, _⟩ := hS; cases e; exact h.1
 have h1 := hS.cut i.toNat j.toNat OM OM
 refine Xa (Zt hu hs A xs.length c hx i j hlo hhi OM) ?_
 obtain ⟨A', c', e⟩ := h1.shape
 rw [e] at h1 ⊢
 exact k A' _ c' h1
theorem Zc {T e : TypeId} {α : Type} {kd : Kd α} (hu : P.underlying T = some (.slice e)) (hs : SizeOf P e kd.sz) {lo hi : Option Operand} {S : Sp} (A : Option Addr) (m c : Nat) (xs : List α) (hx : evt n t x = .slice A m c) (hS : Sl kd w S (.slice A m c) xs)
  (i j : Int) (hlo : bound n t lo 0 i) (hhi : bound n t hi m j) (hij : 0 ≤ i ∧ i ≤ j ∧ j ≤ (xs.length : Int))
  (k : ∀ A' m' c', Sl kd w S (.slice A' m' c') ((xs.drop i.toNat).take (j.toNat - i.toNat)) → Lq P n ops C N rest (upd d (.slice A' m' c') t)) :
  Lq P n ops C N (⟨some d, .slice T x lo hi none, ty, pos, aft, none⟩ :: rest) t := by
 obtain rfl := hS.len
 have hc : xs.length ≤ c := by obtain ⟨_, _, _, e, h, _⟩ := hS; cases e; exact h.1
 have h1 := hS.cut i.toNat j.toNat OM OM
 refine Xh (Zt hu hs A xs.length c hx i j hlo hhi OM) ?_
 obtain ⟨A', c', e⟩ := h1.shape
 rw [e] at h1 ⊢
 exact k A' _ c' h1

def Ret (P : Program) (f : FuncId) (args : List Value) (w : World) (Q : Value → World → Prop) : Prop := Calls P f args.toArray w fun e w' => ∃ v, e = .returned v ∧ Q v w'
def Goes (P : Program) (f : FuncId) : Prop := ∃ fn, P.funcs[f]? = some fn ∧ (fn.name == "runtime.NumGoroutine") = false ∧ fn.body.isNone = false
theorem Goes.run {f : FuncId} (h : Goes P f) (args : Array Value) (w : World) : (callFunc f args).run P w = .ok (.enter f args) w := by
 obtain ⟨fn, h1, h2, h3⟩ := h
 simp only [callFunc, Sem.run_bind, run_program, Result.andThen_ok, h1, h2, h3, Bool.false_eq_true, if_false]
 rfl
theorem Ret.mono {f : FuncId} {args : List Value} {Q Q' : Value → World → Prop} (h : Ret P f args w Q) (hq : ∀ v w', Q v w' → Q' v w') : Ret P f args w Q' :=
 Calls.mono h fun e w' ⟨v, he, hv⟩ => ⟨v, he, hq v w' hv⟩
theorem Z0 {f : FuncId} (hg : Goes P f) {ax : Array Operand} {ts : Array TypeId} (args : List Value) (ha0 : ax.toList.map (evt n t) = args) (h : Ret P f args w fun v w' => L P n ops N R X rest (upd d v t) w') :
  L P n ops N R X (⟨some d, .call ⟨.value (.func f), ax, ts⟩, ty, pos, aft, none⟩ :: rest) t w := by
 unfold L at h ⊢
 exact wpList_plain rfl fun K hK => by
  unfold Oper.wp
  have ha : ax.map (evt n t) = args.toArray := by rw [← ha0]; exact map_toL _ _
  have : (execOp (acts n t).eval ⟨some d, .call ⟨.value (.func f), ax, ts⟩, ty, pos, aft, none⟩).run P w = .ok (.enter f args.toArray) w := by
   rw [acts_evalf]
   simp [execOp, resolve, evt, Deferred.ofValue, invoke, ha, hg.run]
  rw [this, Oper.upon_enter]
  refine Calls.mono h fun e w' ⟨v, he, hv⟩ => ?_
  subst he
  have := hK _ _ hv
  rwa [show acts n (upd d v t) = (acts n t).put (some d) v from (acts_put n t (some d) v).symm] at this
theorem Y6 {f : FuncId} (hg : Goes P f) {ax : Array Operand} {ts : Array TypeId} (args : List Value) (ha0 : ax.toList.map (evt n t) = args) (v : Value) (h : ∀ w', C w' → Ret P f args w' fun u w'' => u = v ∧ C w'') (k : Lq P n ops C N rest (upd d v t)) :
  Lq P n ops C N (⟨some d, .call ⟨.value (.func f), ax, ts⟩, ty, pos, aft, none⟩ :: rest) t := by
 have ha : ax.map (evt n t) = args.toArray := by rw [← ha0]; exact map_toL _ _
 unfold Lq at k ⊢
 unfold wpQuiet
 rw [if_pos (by simp [Region.wanted])]
 refine ⟨v, fun w hw => ?_, by rw [acts_put]; exact k⟩
 unfold Oper.quietAt
 have : (execOp (acts n t).eval ⟨some d, .call ⟨.value (.func f), ax, ts⟩, ty, pos, aft, none⟩).run P w = .ok (.enter f args.toArray) w := by
  rw [acts_evalf]
  simp [execOp, resolve, evt, Deferred.ofValue, invoke, ha, hg.run]
 rw [this]
 refine ⟨rfl, Calls.mono (h w hw) fun e w' ⟨u, he, hu, hc⟩ => ⟨by rw [he, hu], hc⟩⟩
theorem Zh {fv : Operand} {f : FuncId} (hg : Goes P f) (cap : List Value) (hf : evt n t fv = .func (.func f) #[] cap.toArray) {ax : Array Operand} {ts : Array TypeId} (args : List Value) (ha0 : ax.toList.map (evt n t) = args)
  (h : Ret P f (args ++ cap) w fun v w' => L P n ops N R X rest (upd d v t) w') :
  L P n ops N R X (⟨some d, .call ⟨.value fv, ax, ts⟩, ty, pos, aft, none⟩ :: rest) t w := by
 unfold L at h ⊢
 exact wpList_plain rfl fun K hK => by
  unfold Oper.wp
  have ha : ax.map (evt n t) = args.toArray := by rw [← ha0]; exact map_toL _ _
  have : (execOp (acts n t).eval ⟨some d, .call ⟨.value fv, ax, ts⟩, ty, pos, aft, none⟩).run P w = .ok (.enter f (args ++ cap).toArray) w := by
   rw [acts_evalf]
   simp [execOp, resolve, hf, Deferred.ofValue, invoke, ha, hg.run]
  rw [this, Oper.upon_enter]
  refine Calls.mono h fun e w' ⟨v, he, hv⟩ => ?_
  subst he
  have := hK _ _ hv
  rwa [show acts n (upd d v t) = (acts n t).put (some d) v from (acts_put n t (some d) v).symm] at this

def Res (P : Program) (n : Nat) (t : Tm) (w : World) : List ResultVar → List Value → Prop
 | [], vs => vs = []
 | .tmp i :: rs, vs => ∃ us, vs = evt n t (.tmp i) :: us ∧ Res P n t w rs us
 | .cell i T :: rs, vs => ∃ v us, vs = v :: us ∧ (loadVar T =<< asAddr (evt n t (.tmp i))).run P w = .ok v w ∧ Res P n t w rs us
def packv : List Value → Value
 | [v] => v
 | vs => .tuple vs.toArray
theorem evt_getD (n : Nat) (t : Tm) (i : Nat) : (acts n t).tmps.getD i undef = evt n t (.tmp i) := acts_eval n t (.tmp i)
def rv (tm : Array Value) : ResultVar → Sem Value
 | .tmp i => pure (tm.getD i undef)
 | .cell a T => do loadVar T (← asAddr (tm.getD a undef))
theorem results_eq (fn : Func) (tm : Array Value) : results fn tm = (do let vs ← fn.results.mapM (rv tm); pure (if h : vs.size = 1 then vs[0] else .tuple vs)) := by
 unfold results
 congr 2
theorem rv_run : ∀ (rs : List ResultVar) (vs : List Value), Res P n t w rs vs → (rs.mapM (rv (acts n t).tmps)).run P w = .ok vs w
 | [], vs, h => by simp only [Res] at h; subst h; rfl
 | .tmp i :: rs, vs, ⟨us, e, h⟩ => by
  subst e
  simp only [List.mapM_cons, rv, Sem.run_bind, Sem.run_pure, Result.andThen_ok, evt_getD, rv_run rs us h]
 | .cell i T :: rs, vs, ⟨v, us, e, hv, h⟩ => by
  subst e
  have hv' : (do let x ← asAddr (evt n t (.tmp i)); loadVar T x : Sem Value).run P w = .ok v w := hv
  have h2 := rv_run rs us h
  rw [List.mapM_cons, Sem.run_bind]
  simp only [rv, evt_getD]
  rw [hv']
  simp only [Result.andThen_ok, Sem.run_bind, h2, Sem.run_pure]
theorem results_run (fn : Func) (rs : List ResultVar) (hrs : fn.results = rs.toArray) (vs : List Value) (h : Res P n t w rs vs) : (results fn (acts n t).tmps).run P w = .ok (packv vs) w := by
 rw [results_eq, hrs, List.mapM_toArray, Sem.run_bind, Sem.run_map, rv_run rs vs h]
 simp only [Result.andThen_ok, Sem.run_pure, packv]
 congr 1
 match vs with
 | [] => rfl
 | [v] => rfl
 | a :: b :: r => rfl
theorem Bx.res {b : Nat} {cs : List Value} (hB : Bx w b cs) {i T s : Nat} (hi : evt n t (.tmp i) = .pointer (some ⟨b, 0, none⟩)) (hT : IsAgg P T true) (hs : SizeOf P T s) (hl : cs.length = s := by rfl) :
  (loadVar T =<< asAddr (evt n t (.tmp i))).run P w = .ok (.agg cs.toArray) w := by
 subst hl
 rw [hi]
 have := loadCells_run (P := P) w ⟨b, 0, none⟩ cs (hB.cells (off := 0) (by simp))
 show ((asAddr (.pointer (some ⟨b, 0, none⟩))) >>= loadVar T).run P w = _
 simp [asAddr, loadVar, hT w, hs w, this]
theorem Yd {f : FuncId} {fn : Func} {c : Code} {args : List Value} {Q : Value → World → Prop} (hf : P.funcs[f]? = some fn) (hb : fn.body = some c) (m : Nat) (hm : fn.ntmps = m) (rs : List ResultVar) (hrs : fn.results = rs.toArray) (hl : Nat.ble args.length m = true)
  (h : W P m c (fun t w' => ∃ vs, Res P m t w' rs vs ∧ Q (packv vs) w') (fun t w' => ∃ vs, Res P m t w' rs vs ∧ Q (packv vs) w') (fun _ _ _ => False) (argt args) w) : Ret P f args w Q := by
 refine calls_of_wp hf hb ?_
 rw [hm, acts_enter args m (Nat.le_of_ble_eq_true hl)]
 unfold W at h
 refine wp_mono h fun e a w' hq => ?_
 cases e <;> simp only [post] at hq
 ·obtain ⟨t, rfl, vs, hr, hQ⟩ := hq
  exact ⟨rfl, packv vs, results_run fn rs hrs vs hr, _, rfl, hQ⟩
 ·exact hq.choose_spec.2.elim
 ·obtain ⟨t, rfl, vs, hr, hQ⟩ := hq
  exact ⟨rfl, packv vs, results_run fn rs hrs vs hr, _, rfl, hQ⟩
end
end
section
abbrev nth {α : Type} [Inhabited α] (xs : List α) (i : Int) : α := xs.getD i.toNat default
theorem Xi {b : Bool} {p q : Prop} (h : if b then p else q) (hb : b = true) : p := by rw [if_pos hb] at h; exact h
theorem Xj {b : Bool} {p q : Prop} (h : if b then p else q) (hb : b = false) : q := by rw [if_neg (by rw [hb]; exact Bool.false_ne_true)] at h; exact h
theorem Yb (b : Bool) : b = true ∨ b = false := by cases b <;> simp
theorem len_le {m : Nat} (h : m ≤ 9223372036854775807) : (m : Int) ≤ 9223372036854775807 := by omega
theorem i64_succ {b : Int} {m : Nat} (h : b < (m : Int)) (hm : m ≤ 9223372036854775807) (hl : -9223372036854775808 ≤ b) : I64 (b + 1) := by unfold I64; omega
theorem i64_byte (x : UInt8) : I64 (x.toNat : Int) := by have := x.toNat_lt; unfold I64; omega
theorem lim_cat {a b : Str} (h : a.length + b.length ≤ 9223372036854775807) : Lim (a ++ b) := by unfold Lim; rw [List.length_append]; exact h
theorem xin_hit {i : Nat} {N : Ps} {X : Nat → Ps} {t : Tm} {w : World} (h : N t w) : xin i N X i t w := by unfold xin; rw [Nat.beq_refl]; exact h
section
variable {P : Program} {n : Nat} {N R : Ps} {X : Nat → Ps} {t : Tm} {w : World}
theorem Yp {c : Operand} {x y : Code} {b : Bool} (hc : evt n t c = .bool b) (hb : b = true) (h : W P n x N R X t w) : W P n (.cond c x y) N R X t w := Xu b hc (fun _ => h) (fun e => by rw [hb] at e; cases e)
theorem Y4 {c : Operand} {x y : Code} {b : Bool} (hc : evt n t c = .bool b) (hb : b = false) (h : W P n y N R X t w) : W P n (.cond c x y) N R X t w := Xu b hc (fun e => by rw [hb] at e; cases e) (fun _ => h)
end
theorem bd_none {n : Nat} {t : Tm} {m l : Nat} (h : m = l) : bound n t none (m : Int) (l : Int) := by subst h; rfl
theorem Y1 {P : Program} {n : Nat} {N R : Ps} {X : Nat → Ps} {t : Tm} {w : World} {c : Code} {J : Ps} (h : W P n c J R X t w) (k : ∀ t w, J t w → N t w) : W P n c N R X t w :=
 W.mono h k (fun _ _ h => h) (fun _ _ _ h => h)
def Has (t : Tm) : List (Nat × Value) → Prop
 | [] => True
 | (d, v) :: l => t d = v ∧ Has t l
theorem Xt {t : Tm} : ∀ {l : List (Nat × Value)}, (l.map fun p => t p.1) = l.map (·.2) → Has t l
 | [], _ => trivial
 | (d, v) :: l, h => by simp only [List.map_cons, List.cons.injEq] at h; exact ⟨h.1, Xt h.2⟩
def insl : List (Nat × Value) → Tm → Tm
 | [], u => u
 | (d, v) :: l, u => upd d v (insl l u)
theorem Has.ins {t : Tm} : ∀ {l : List (Nat × Value)}, Has t l → ∃ u, t = insl l u
 | l, h => ⟨t, by
  induction l with
  | nil => rfl
  | cons p l ih =>
   obtain ⟨h1, h2⟩ := h
   funext i
   simp only [insl, upd, ← ih h2]
   by_cases e : i = p.1
   ·subst e; rw [Nat.beq_refl]; exact h1
   ·rw [beq_ne e]; rfl⟩
theorem Kd.int.op {kd : IntKind} {w : World} {S : Sp} {x : Int} {cs : List Value} (h : (Kd.int kd).R w S x cs) : cs = [.int kd x] := h
theorem Kd.byte.op {w : World} {S : Sp} {x : UInt8} {cs : List Value} (h : Kd.byte.R w S x cs) : cs = [v8 x] := h
theorem Kd.bool.op {w : World} {S : Sp} {x : Bool} {cs : List Value} (h : Kd.bool.R w S x cs) : cs = [vb x] := h
theorem Kd.str.op {w : World} {S : Sp} {x : Str} {cs : List Value} (h : Kd.str.R w S x cs) : cs = [vs x] ∧ Lim x := h
theorem Kd.sl.op {α : Type} {k : Kd α} {w : World} {S : Sp} {x : List α} {cs : List Value} (h : (Kd.sl k).R w S x cs) : ∃ A l c, cs = [.slice A l c] ∧ Sl k w S (.slice A l c) x := by
 obtain ⟨v, rfl, h⟩ := h
 obtain ⟨A, c, rfl⟩ := h.shape
 exact ⟨A, _, c, rfl, h⟩
section
variable {α : Type} {k : Kd α} {e : TypeId} {w0 w w' : World} {v : Value} {xs : List α} {O L rs m : Ob} {r r' : Option Nat} {b : Nat} {cs : List Value} {i j : Nat}
theorem Xg {b : Nat} (h : w.heap.size ≤ b) : ∀ k, some b = some k → w.heap.size ≤ k := fun k e => by cases e; exact h
theorem X9 {b : Nat} (h : w.heap.size ≤ b) (h' : b < w'.heap.size) : ∀ k, some b = some k → w.heap.size ≤ k ∧ k < w'.heap.size := fun k e => by cases e; exact ⟨h, h'⟩
theorem mem_app (i : Nat) {x : Option Nat} (h : L[i]? = some x) : x ∈ L ++ O := List.mem_append_left _ (List.mem_of_getElem? h)
theorem St.owns (O : Ob) (g : Gr w w' none) (hr : ∀ b, some b ∈ rs → w.heap.size ≤ b) : St w O w' (rs ++ O) :=
 ⟨g.os, g.tape, g.output, g.size, fun k hk _ => g.block k hk (by simp), fun k hk h hm => by
  rcases List.mem_append.1 hm with hm | hm
  ·have := hr k hm; omega
  ·exact h hm⟩
theorem St.ownr (O : Ob) (g : Gr w w' r) (hr' : ∀ b, r = some b → some b ∈ O) (hr : ∀ b, some b ∈ rs → w.heap.size ≤ b) : St w O w' (rs ++ O) :=
 ⟨g.os, g.tape, g.output, g.size, fun k hk hn => g.block k hk (fun e => hn (hr' k e.symm)), fun k hk h hm => by
  rcases List.mem_append.1 hm with hm | hm
  ·have := hr k hm; omega
  ·exact h hm⟩
theorem Ct.ownr (c : Ct m w0 w L O) (g : Gr w w' r) (gr : Gm w0 w' m) (hok : Ok w' (rs ++ (L ++ O))) (hge : ∀ b, some b ∈ rs → w.heap.size ≤ b) : Ct m w0 w' (rs ++ L) O :=
 ⟨gr, by rw [List.append_assoc]; exact hok.1, fun b hb => hok.2 b (by rwa [List.append_assoc] at hb), fun b hb => by
  rcases List.mem_append.1 hb with hb | hb
  ·have := hge b hb; have := c.gr.size; omega
  ·exact c.ge b hb, c.mo⟩
theorem Ct.owns (c : Ct m w0 w L O) (g : Gr w w' none) (hok : Ok w' (rs ++ (L ++ O))) (hge : ∀ b, some b ∈ rs → w.heap.size ≤ b) : Ct m w0 w' (rs ++ L) O := c.ownr g (c.gr.tm g) hok hge
theorem Ct.ownm (c : Ct [r] w0 w L O) (g : Gr w w' r) (hok : Ok w' (rs ++ (L ++ O))) (hge : ∀ b, some b ∈ rs → w.heap.size ≤ b) : Ct [r] w0 w' (rs ++ L) O := c.ownr g (c.wm g).gr hok hge
theorem Ct.ownw (c : Ct m w0 w L O) (hj : L[j]? = some r) (g : Gr w w' r) (hok : Ok w' (rs ++ (L ++ O))) (hge : ∀ b, some b ∈ rs → w.heap.size ≤ b) : Ct m w0 w' (rs ++ L) O :=
 c.ownr g (c.wr _ hj g).gr hok hge
theorem St.ownm (c : Ct [r] w0 w L O) (g : Gr w w' r) (hge : ∀ b, some b ∈ rs → w.heap.size ≤ b) : St w (L ++ O) w' (rs ++ (L ++ O)) := .ownr _ g (fun b e => List.mem_append_right _ (c.mo b (row1 b e)).1) hge
theorem St.ownw (hj : L[j]? = some r) (g : Gr w w' r) (hge : ∀ b, some b ∈ rs → w.heap.size ≤ b) : St w (L ++ O) w' (rs ++ (L ++ O)) := .ownr _ g (fun b e => by rw [← e]; exact mem_app j hj) hge
theorem Ow.sos (h : Ow k e w O v xs) (g : Gr w w' none) (hge : ∀ b, some b ∈ rs → w.heap.size ≤ b) : Ow k e w' (rs ++ O) v xs :=
 h.st0 (.owns O g hge) g fun b hb => List.mem_append_right _ (h.choose_spec.2.2 b hb)
theorem Bx.mo (h : Bx w b cs) (c : Ct [some b] w0 w L O) (hj : L[j]? = some r) (g : Gr w w' r) : Bx w' b cs :=
 h.keep g fun e => by have := c.ge b (by rw [← e]; exact List.mem_of_getElem? hj); have := (c.mo b List.mem_cons_self).2; omega
end
section
variable {P : Program} {n : Nat} {t : Tm} {w : World} {ty : TypeId} {pos : String} {aft : Array Edge} {d : Nat} {x y z : Operand} {C : World → Prop}
def EqT (P : Program) (T : TypeId) (a b : List Value) (e : Bool) : Prop := (∀ w, (Op.equalIn 10000 T (.agg a.toArray) (.agg b.toArray)).run P w = .ok e w) ∧ P.eqGuardType P.depth T = false
theorem Zi {T U : TypeId} (a b : List Value) (e : Bool) (h : EqT P T a b e) (hx : evt n t x = .agg a.toArray) (hy : evt n t y = .agg b.toArray) : Pu P n t C ⟨some d, .binOp .eql T x y U, ty, pos, aft, none⟩ (vb e) := fun w _ => by
 simp only [execOp, hx, hy, Sem.run_bind]
 rw [run_eqGuard_agg w .eql T x y _ _ h.2]
 simp only [Result.andThen_ok, run_eql_struct, h.1 w, Sem.run_pure]
theorem Zj {T U : TypeId} (a b : List Value) (e : Bool) (h : EqT P T a b e) (hx : evt n t x = .agg a.toArray) (hy : evt n t y = .agg b.toArray) : Pu P n t C ⟨some d, .binOp .neq T x y U, ty, pos, aft, none⟩ (vb (!e)) := fun w _ => by
 simp only [execOp, hx, hy, Sem.run_bind]
 rw [run_eqGuard_agg w .neq T x y _ _ h.2]
 simp only [Result.andThen_ok, run_neq_struct, h.1 w, Sem.run_pure]
theorem part1 {T : TypeId} (h : ∀ w, (isAgg T).run P w = .ok false w) (off : Nat) {cs : Array Value} {v : Value} (hv : cs[off]? = some v) : (part T cs off).run P w = .ok v w := by
 simp [part, h w, hv]
def Cmp1 (P : Program) (T : TypeId) (a b : Value) (e : Bool) : Prop := (∀ w, (isAgg T).run P w = .ok false w) ∧ ∀ w d, (Op.equalIn (d + 1) T a b).run P w = .ok e w
theorem cmp1_int {T : TypeId} {kd : IntKind} (hu : P.underlying T = some (.int kd)) (a b : Int) : Cmp1 P T (.int kd a) (.int kd b) (a == b) := ⟨IsAgg_mk hu, fun w d => run_equalIn_int w d T kd kd a b hu⟩
theorem cmp1_bool {T : TypeId} (hu : P.underlying T = some .bool) (a b : Bool) : Cmp1 P T (vb a) (vb b) (a == b) := ⟨IsAgg_mk hu, fun w d => run_equalIn_bool' w d T a b hu⟩
theorem cmp1_str {T : TypeId} (hu : P.underlying T = some .string) (a b : Str) : Cmp1 P T (vs a) (vs b) (a == b) := ⟨IsAgg_mk hu, fun w d => by rw [run_equalIn_string w d T _ _ hu]; simp⟩
theorem EqT_mk2 {T : TypeId} {f g : Field} (hu : P.underlying T = some (.struct #[f, g])) (hp : P.stoodInHeld T = false) (hg : P.eqGuardType P.depth T = false) (hf : f.offset = 0 ∧ g.offset = 1 ∧ (f.name == "_") = false ∧ (g.name == "_") = false)
  {a0 a1 b0 b1 : Value} {e0 e1 : Bool} (h0 : Cmp1 P f.type a0 b0 e0) (h1 : Cmp1 P g.type a1 b1 e1) : EqT P T [a0, a1] [b0, b1] (e0 && e1) := by
 refine ⟨fun w => ?_, hg⟩
 have hfs : P.fieldsOf T = #[f, g] := by simp [Program.fieldsOf, hu]
 obtain ⟨o0, o1, n0, n1⟩ := hf
 have n0' : f.name ≠ "_" := by simpa using n0
 have n1' : g.name ≠ "_" := by simpa using n1
 rw [run_equalIn_struct w 9999 T _ _ (by rw [hfs]; exact hu) hp, hfs]
 have p0 : ∀ (cs : Array Value) v, cs[0]? = some v → (part f.type cs 0).run P w = .ok v w := fun cs v h => part1 h0.1 0 h
 have p1 : ∀ (cs : Array Value) v, cs[1]? = some v → (part g.type cs 1).run P w = .ok v w := fun cs v h => part1 h1.1 1 h
 simp only [Op.eqFields, n0', n1', ne_eq, not_false_eq_true, if_true, o0, o1, Sem.run_bind, p0 [a0, a1].toArray a0 rfl, p0 [b0, b1].toArray b0 rfl, Result.andThen_ok, h0.2 w 9998]
 cases e0
 ·simp
 ·simp only [Bool.not_true, Bool.false_eq_true, if_false, Sem.run_bind, p1 [a0, a1].toArray a1 rfl, p1 [b0, b1].toArray b1 rfl, h1.2 w 9998, Result.andThen_ok, Bool.true_and]
  cases e1 <;> simp
end
section
variable {α : Type} {k : Kd α} {e : TypeId} {w0 w w' : World} {v : Value} {xs : List α} {O L L' m : Ob}
theorem Dj.perm : ∀ {A B : Ob}, A.Perm B → Dj A → Dj B := fun h => by
 induction h with
 | nil => exact fun d => d
 | cons x h ih => exact fun d => ⟨fun b e hm => d.1 b e (h.mem_iff.2 hm), ih d.2⟩
 | swap x y l =>
  intro d
  refine ⟨fun b e hm => ?_, fun b e hm => d.1 b e (List.mem_cons_of_mem _ hm), d.2.2⟩
  rcases List.mem_cons.1 hm with hm | hm
  ·exact d.1 b hm.symm (by rw [e]; exact List.mem_cons_self)
  ·exact d.2.1 b e hm
 | trans _ _ ih1 ih2 => exact fun d => ih2 (ih1 d)
theorem St.perm (h : L.Perm L') : St w (L ++ O) w (L' ++ O) := ⟨rfl, rfl, rfl, Nat.le_refl _, fun _ _ _ => rfl, fun _ _ hn hm => hn ((h.append_right O).mem_iff.2 hm)⟩
theorem Ct.perm (c : Ct m w0 w L O) (h : L.Perm L') : Ct m w0 w L' O :=
 ⟨c.gr, c.dj.perm (h.append_right O), fun b hb => c.lt b ((h.append_right O).mem_iff.2 hb), fun b hb => c.ge b (h.mem_iff.2 hb), c.mo⟩
theorem Ow.sp (h : Ow k e w (L ++ O) v xs) (p : L.Perm L') : Ow k e w (L' ++ O) v xs := h.st0 (.perm p) (Gr.refl _ _) fun b hb => (p.append_right O).mem_iff.1 (h.choose_spec.2.2 b hb)
end
def Kd.Flat {α : Type} (k : Kd α) : Prop := ∀ w S w' S' x cs, k.R w S x cs → k.R w' S' x cs
theorem Arr.fl {α : Type} {k : Kd α} (hf : k.Flat) {w w' : World} {S S' : Sp} : ∀ {xs : List α} {cs : List Value}, Arr k w S xs cs → Arr k w' S' xs cs
 | [], _, h => h
 | _ :: _, _, ⟨c1, c2, e, h1, h2⟩ => ⟨c1, c2, e, hf _ _ _ _ _ _ h1, Arr.fl hf h2⟩
section
variable {α : Type} {k : Kd α} {e : TypeId} {w0 w w' : World} {v : Value} {xs : List α} {O L rs m : Ob} {r : Option Nat} {i : Nat}
theorem mem_un {x : Option Nat} (h : x ∈ rs ++ (L.eraseIdx i ++ O)) : x ∈ rs ++ (L ++ O) := by
 rcases List.mem_append.1 h with h | h
 ·exact List.mem_append_left _ h
 ·rcases List.mem_append.1 h with h | h
  ·exact List.mem_append_right _ (List.mem_append_left _ (List.mem_of_mem_eraseIdx h))
  ·exact List.mem_append_right _ (List.mem_append_right _ h)
theorem Ow.un (hf : k.Flat) (h : Ow k e w (rs ++ (L.eraseIdx i ++ O)) v xs) : Ow k e w (rs ++ (L ++ O)) v xs := by
 obtain ⟨cells, h1, h2, h3⟩ := h
 exact ⟨cells, h1, h2.fl hf, fun b hb => mem_un (h3 b hb)⟩
theorem Dj.app : ∀ {A B : Ob}, Dj A → Dj B → (∀ b, some b ∈ A → some b ∉ B) → Dj (A ++ B)
 | [], _, _, d, _ => d
 | _ :: _, _, d, d', h => ⟨fun b e hm => by
   rcases List.mem_append.1 hm with hm | hm
   ·exact d.1 b e hm
   ·exact h b (by rw [e]; exact List.mem_cons_self) hm, Dj.app d.2 d' fun b hb => h b (List.mem_cons_of_mem _ hb)⟩
theorem Dj.left : ∀ {A B : Ob}, Dj (A ++ B) → Dj A
 | [], _, _ => trivial
 | _ :: _, _, d => ⟨fun b e hm => d.1 b e (List.mem_append_left _ hm), Dj.left d.2⟩
theorem Ow.unl {L' : Ob} (hf : k.Flat) (hs : L'.Sublist L) (h : Ow k e w (rs ++ (L' ++ O)) v xs) : Ow k e w (rs ++ (L ++ O)) v xs := by
 obtain ⟨cells, h1, h2, h3⟩ := h
 refine ⟨cells, h1, h2.fl hf, fun b hb => ?_⟩
 rcases List.mem_append.1 (h3 b hb) with h | h
 ·exact List.mem_append_left _ h
 ·rcases List.mem_append.1 h with h | h
  ·exact List.mem_append_right _ (List.mem_append_left _ (hs.subset h))
  ·exact List.mem_append_right _ (List.mem_append_right _ h)
theorem Ok.unl {L' : Ob} (c : Ct m w0 w L O) (g : Gr w w' r) (hk : Ok w' (rs ++ (L' ++ O))) (hge : ∀ b, some b ∈ rs → w.heap.size ≤ b) : Ok w' (rs ++ (L ++ O)) :=
 ⟨Dj.app hk.1.left c.dj fun b hb hm => by have := hge b hb; have := c.lt b hm; omega, fun b hb => by
  rcases List.mem_append.1 hb with hb | hb
  ·exact hk.2 b (List.mem_append_left _ hb)
  ·exact Nat.lt_of_lt_of_le (c.lt b hb) g.size⟩
theorem Ok.un (c : Ct m w0 w L O) (g : Gr w w' r) (hk : Ok w' (rs ++ (L.eraseIdx i ++ O))) (hge : ∀ b, some b ∈ rs → w.heap.size ≤ b) : Ok w' (rs ++ (L ++ O)) :=
 ⟨Dj.app hk.1.left c.dj fun b hb hm => by have := hge b hb; have := c.lt b hm; omega, fun b hb => by
  rcases List.mem_append.1 hb with hb | hb
  ·exact hk.2 b (List.mem_append_left _ hb)
  ·exact Nat.lt_of_lt_of_le (c.lt b hb) g.size⟩
end
end
section
def Tr {α : Type} (P : Program) (t : TypeId) (k : Kd α) (V : α → Prop) : Prop := ∀ (H : Type) (enc : TypeId × Value → H) (w : World) (fuel : Nat) (cs : List Value) (x : DataW H × List MemPlace),
 DataW.trod enc P w 0 (fun _ => true) true fuel t cs = some x → ∃ a, V a ∧ k.R w (Fr []) a cs
section
variable {P : Program} {t e : TypeId}
theorem Tr.int (ht : P.underlying t = some (.int .i64)) : Tr P t (Kd.int .i64) (fun x => I64 x) := fun H enc w fuel cs x h => by
 obtain ⟨n, rfl, _, hw⟩ := DataW.trod_int ht h
 refine ⟨n, ?_, rfl⟩
 simp only [Lit.wf, Bool.and_eq_true, decide_eq_true_eq] at hw
 have h1 : IntKind.i64.min = -9223372036854775808 := by decide
 have h2 : IntKind.i64.max = 9223372036854775807 := by decide
 rw [h1, h2] at hw
 exact hw
theorem Tr.byte (ht : P.underlying t = some (.int .u8)) : Tr P t Kd.byte (fun _ => True) := fun H enc w fuel cs x h => by
 obtain ⟨n, rfl, _, hw⟩ := DataW.trod_int ht h
 simp only [Lit.wf, Bool.and_eq_true, decide_eq_true_eq] at hw
 have h1 : IntKind.u8.min = 0 := by decide
 have h2 : IntKind.u8.max = 255 := by decide
 rw [h1, h2] at hw
 refine ⟨UInt8.ofNat n.toNat, trivial, ?_⟩
 show [Value.int .u8 n] = [v8 _]
 simp only [v8]
 congr 2
 simp only [UInt8.toNat_ofNat']
 omega
theorem Tr.bool (ht : P.underlying t = some .bool) : Tr P t Kd.bool (fun _ => True) := fun H enc w fuel cs x h => by
 obtain ⟨b, rfl, _⟩ := DataW.trod_bool ht h
 exact ⟨b, trivial, rfl⟩
theorem Tr.str (ht : P.underlying t = some .string) : Tr P t Kd.str (fun x => Lim x) := fun H enc w fuel cs x h => by
 obtain ⟨s, rfl, _, hs⟩ := DataW.trod_string ht h
 have hl : Lim s.data.toList := by
  show s.data.toList.length ≤ 9223372036854775807
  have : s.size ≤ 9223372036854775807 := hs
  simpa using this
 exact ⟨s.data.toList, hl, rfl, hl⟩
theorem Tr.iso {α β : Type} {k : Kd α} {V : α → Prop} (h : Tr P t k V) (f : β → α) (g : α → β) (hg : ∀ a, f (g a) = a) : Tr P t (Kd.iso k f) (fun x => V (f x)) := fun H enc w fuel cs x hx => by
 obtain ⟨a, hv, hr⟩ := h H enc w fuel cs x hx
 exact ⟨g a, by show V (f (g a)); rw [hg]; exact hv, by show k.R _ _ (f (g a)) _; rw [hg]; exact hr⟩
def TrF {α : Type} (P : Program) (fs : List Field) (o tot : Nat) (k : Kd α) (V : α → Prop) : Prop := ∀ (H : Type) (enc : TypeId × Value → H) (w : World) (fuel : Nat) (cs : List Value), cs.length = tot →
 (∀ f ∈ fs, ∃ x, DataW.trod enc P w 0 (fun _ => true) true fuel f.type ((cs.drop f.offset).take (P.cellsOf f.type)) = some x) → ∃ a, V a ∧ k.R w (Fr []) a (cs.drop o)
theorem TrF.one {α : Type} {k : Kd α} {V : α → Prop} {f : Field} {o n tot : Nat} (h : Tr P f.type k V) (h1 : f.offset = o) (h2 : P.cellsOf f.type = n) (h3 : o + n = tot) : TrF P [f] o tot k V := fun H enc w fuel cs hl hf => by
 obtain ⟨x, hx⟩ := hf f (by simp)
 rw [h1, h2, List.take_of_length_le (by simp; omega)] at hx
 exact h H enc w fuel _ x hx
theorem TrF.cons {α β : Type} {k : Kd α} {k' : Kd β} {V : α → Prop} {V' : β → Prop} {f : Field} {fs : List Field} {o n tot : Nat} (h : Tr P f.type k V) (h1 : f.offset = o) (h2 : P.cellsOf f.type = n)
  (h3 : TrF P fs (o + n) tot k' V') : TrF P (f :: fs) o tot (Kd.pair k k') (fun x => V x.1 ∧ V' x.2) := fun H enc w fuel cs hl hf => by
 obtain ⟨x, hx⟩ := hf f (by simp)
 rw [h1, h2] at hx
 obtain ⟨a, ha, hr⟩ := h H enc w fuel _ x hx
 obtain ⟨b, hb, hs⟩ := h3 H enc w fuel cs hl (fun f' hf' => hf f' (by simp [hf']))
 refine ⟨(a, b), ⟨ha, hb⟩, _, _, ?_, hr, hs⟩
 rw [← List.drop_drop]
 exact (List.take_append_drop n _).symm
theorem Tr.struct {α : Type} {k : Kd α} {V : α → Prop} {fs : Array Field} {tot : Nat} (ht : P.underlying t = some (.struct fs)) (hn : P.cellsOf t = tot) (h : TrF P fs.toList 0 tot k V) : Tr P t k V := fun H enc w fuel cs x hx => by
 obtain ⟨xs, n, rfl, _, hl, hs, hf⟩ := DataW.trod_struct ht hx
 obtain ⟨a, ha, hr⟩ := h H enc w n cs (hl.trans hn) (fun f hm => by
  obtain ⟨i, hi⟩ := List.getElem?_of_mem hm
  have hi' : fs[i]? = some f := by simpa using hi
  have hlt : i < xs.length := by rw [hs]; exact (Array.getElem?_eq_some_iff.1 hi').1
  exact ⟨xs[i], by rw [hf i f hi']; simp [hlt]⟩)
 exact ⟨a, ha, by simpa using hr⟩
theorem Tr.sl {α : Type} {k : Kd α} {V : α → Prop} (ht : P.underlying t = some (.slice e)) (hc : P.cellsOf e = k.sz) (h : Tr P e k V) : Tr P t (Kd.sl k) (fun xs => ∀ x ∈ xs, V x) := fun H enc w fuel cs x hx => by
 rcases DataW.trod_slice ht hx with ⟨rfl, _⟩ | ⟨a, len, cap, elems, rest, n, _, rfl, _, _, hl, hm, hlen, hel, _⟩
 ·exact ⟨[], by simp, _, rfl, Sl.nil k w _ none 0 OM⟩
 ·have key : ∀ m, m ≤ len → ∃ xs cells, xs.length = m ∧ Arr k w (Fr []) xs cells ∧ (∀ j u, cells[j]? = some u → w.cell? (a.add j) = some u) ∧ ∀ x ∈ xs, V x := by
   intro m
   induction m with
   | zero => intro _; exact ⟨[], [], rfl, rfl, fun j u hj => by simp at hj, by simp⟩
   | succ m ih =>
    intro hm'
    obtain ⟨xs, cells, h1, h2, h3, h4⟩ := ih OM
    have he := hel m OM
    rw [List.getElem?_eq_getElem OM, Option.bind_eq_some_iff] at he
    obtain ⟨ci, hci, hti⟩ := he
    obtain ⟨_, hcl, hcc⟩ := World.cells?_some hci
    obtain ⟨y, hv, hr⟩ := h H enc w n ci _ hti
    refine ⟨xs ++ [y], cells ++ ci, by simp [h1], h2.app (Arr.single hr), fun j u hj => ?_, fun z hz => ?_⟩
    ·by_cases hj' : j < cells.length
     ·rw [List.getElem?_append_left hj'] at hj; exact h3 j u hj
     ·rw [List.getElem?_append_right OM] at hj
      have hb : j - cells.length < ci.length := by
       rcases Nat.lt_or_ge (j - cells.length) ci.length with hq | hq
       ·exact hq
       ·rw [List.getElem?_eq_none hq] at hj; cases hj
      have h5 := hcc (j - cells.length) OM
      rw [add_add, hj, hc, ← h1, ← h2.len] at h5
      rw [← h5]; congr 2; omega
    ·rcases List.mem_append.1 hz with hz | hz
     ·exact h4 z hz
     ·simp at hz; subst hz; exact hv
  obtain ⟨xs, cells, h1, h2, h3, h4⟩ := key len (Nat.le_refl _)
  refine ⟨xs, h4, _, rfl, some a, cap, cells, by rw [h1], ⟨OM, hm⟩, h2, fun j u hj => ⟨a, rfl, by simp [Fr], h3 j u hj⟩⟩
end
end
section
section
variable {P : Program} {ops : Array Oper} {C : World → Prop} {Q : Exit → Act → World → Prop}
def YC (P : Program) (ops : Array Oper) (C : World → Prop) (o : Oper) (v : Value) (a : Act) : Prop :=
 (Region.wanted o (yielded ops a.tmps) = true ∧ ∀ w, C w → (execOp a.eval o).run P w = .ok (.value v) w) ∨ (Region.wanted o (yielded ops a.tmps) = false ∧ v = undef)
theorem YC.wpOp {i : Nat} {o : Oper} {v : Value} {a : Act} (hi : ops[i]? = some o) (hy : YC P ops C o v a) {K : Act → World → Prop} {w : World} (hC : C w) (h : K (a.put o.dst v) w) : wpOp P ops Q i K a w := by
 unfold Go.wpOp
 simp only [hi]
 rcases hy with ⟨hw, hv⟩ | ⟨hw, rfl⟩
 ·simp only [hw, if_true, Oper.wp, hv w hC, Oper.upon]; exact .inl h
 ·simp only [hw, Bool.false_eq_true, if_false]; exact h
theorem YC.of_same {o : Oper} {v : Value} {a a' : Act} (hy : YC P ops C o v a) (he : execOp a'.eval o = execOp a.eval o) (hw : Region.wanted o (yielded ops a'.tmps) = Region.wanted o (yielded ops a.tmps)) : YC P ops C o v a' := by
 unfold YC at *
 rw [he, hw]
 exact hy
def anyC (P : Program) (ops : Array Oper) (C : World → Prop) (Q : Exit → Act → World → Prop) : Nat → Array Bool → Act → World → Prop
 | 0, listed, a, w => Region.ready .any ops listed = [] ∧ Q .normal a w
 | fuel + 1, listed, a, w => (Region.ready .any ops listed = [] → Q .normal a w) ∧ ∀ i ∈ Region.ready .any ops listed, wpOp P ops Q i (fun a' w' => C w' ∧ anyC P ops C Q fuel (listed.setIfInBounds i true) a' w') a w
theorem any_of_anyC : ∀ (fuel : Nat) (listed : Array Bool) (a : Act) (w : World), anyC P ops C Q fuel listed a w → wpAny P .any ops Q fuel listed a w
 | 0, _, _, _, h => h
 | fuel + 1, _, _, _, h => ⟨h.1, fun i hi => wpOp_mono (fun a' w' h' => any_of_anyC fuel _ a' w' h'.2) (h.2 i hi)⟩
theorem putC {j : Nat} {oi oj : Oper} {v : Value} (hj : ops[j]? = some oj) (hap : oi.apart ops oj = true) (hsi : ∀ cs b, oi.op ≠ .select cs b) (hsj : ∀ cs b, oj.op ≠ .select cs b)
  (hQ : ∀ c a w, Q (.panic c) (a.put oi.dst v) w → Q (.panic c) a w) {K : Act → World → Prop} {a : Act} {w : World} (hy : YC P ops C oi v a) (h : wpOp P ops Q j K (a.put oi.dst v) w) :
  wpOp P ops Q j (fun a' w' => YC P ops C oi v a' ∧ K (a'.put oi.dst v) w') a w := by
 obtain ⟨h1, h2, h3⟩ := Oper.apart_spec hap
 have keep : ∀ (a : Act), YC P ops C oi v a → ∀ u, YC P ops C oi v (a.put oj.dst u) := fun a hy u =>
  hy.of_same (execOp_put oi hsi a oj.dst u h3) (wanted_put oi a oj.dst u h3)
 have keepD : ∀ d, YC P ops C oi v { a with defers := d :: a.defers } := fun d => hy.of_same rfl rfl
 unfold wpOp at *
 simp only [hj] at *
 rw [wanted_put oj a oi.dst v h1] at h
 split
 ·rename_i hw
  simp only [hw, if_true] at h
  rcases h with h | ⟨hasks, hlets⟩
  case inr => exact .inr ⟨by unfold Oper.asks at *; rw [execOp_put oj hsj a oi.dst v h1] at hasks; exact hasks, hlets⟩
  refine .inl ?_
  unfold Oper.wp at *
  rw [execOp_put oj hsj a oi.dst v h1] at h
  generalize (execOp a.eval oj).run P w = r at *
  cases r with
  | ok n w' =>
   cases n <;> simp only [Oper.upon] at h ⊢
   case value u => exact ⟨keep a hy u, by rw [← Act.put_comm a v u h2]; exact h⟩
   case skip => exact ⟨keep a hy _, by rw [← Act.put_comm a v undef h2]; exact h⟩
   case defer d =>
    refine ⟨keep _ (keepD d) _, ?_⟩
    rw [← Act.put_comm _ v undef h2, ← Act.put_defers]
    exact h
   case enter f args =>
    refine Calls.mono h fun e w'' he => ?_
    cases e with
    | returned u => exact ⟨keep a hy u, by rw [← Act.put_comm a v u h2]; exact he⟩
    | panicked c => exact hQ _ _ _ he
    | outgrown => exact he
   case row row args => exact Rows.mono h fun u w'' he => ⟨keep a hy u, by rw [← Act.put_comm a v u h2]; exact he⟩
  | halt x w' =>
   cases x <;> simp only [Oper.upon] at h ⊢
   case panic u => exact hQ _ _ _ h
 ·rename_i hw
  simp only [hw] at h
  exact ⟨keep a hy _, by rw [← Act.put_comm a v undef h2]; exact h⟩
theorem firstC {i : Nat} {oi : Oper} {v : Value} (hi : ops[i]? = some oi) (hsel : ∀ (j : Nat) (o : Oper) cs b, ops[j]? = some o → o.op ≠ .select cs b)
  (hQ : ∀ c a w, Q (.panic c) (a.put oi.dst v) w → Q (.panic c) a w) :
  ∀ (fuel : Nat) (listed : Array Bool) (a : Act) (w : World),
   (∀ j oj, ops[j]? = some oj → j ≠ i → listed.getD j true = false → (∀ e ∈ oj.after, Region.binds .any e = true → e.on ≠ i) → oi.apart ops oj = true) →
   i ∈ Region.ready .any ops listed → YC P ops C oi v a → C w → anyC P ops C Q fuel (listed.setIfInBounds i true) (a.put oi.dst v) w → anyC P ops C Q (fuel + 1) listed a w := by
 intro fuel
 induction fuel with
 | zero =>
  intro listed a w _ hr hy hC H
  refine ⟨fun h => (by rw [h] at hr; cases hr), fun j hj => ?_⟩
  by_cases hji : j = i
  ·subst hji; exact hy.wpOp hi hC ⟨hC, H⟩
  ·have := ready_mono hj hji
   rw [H.1] at this
   cases this
 | succ fuel ih =>
  intro listed a w hfree hr hy hC H
  refine ⟨fun h => (by rw [h] at hr; cases hr), fun j hj => ?_⟩
  by_cases hji : j = i
  ·subst hji; exact hy.wpOp hi hC ⟨hC, H⟩
  ·have h1 := H.2 j (ready_mono hj hji)
   obtain ⟨hjun, oj, hoj, hall⟩ := mem_ready.1 hj
   have hnot : ∀ e ∈ oj.after, Region.binds .any e = true → e.on ≠ i := fun e he hb heq => by
    have h1 := hall e he hb
    have h0 := (mem_ready.1 hr).1
    rw [heq] at h1
    rcases Nat.lt_or_ge i listed.size with h' | h'
    ·simp [h'] at h0 h1; rw [h0] at h1; cases h1
    ·simp [Array.getElem?_eq_none h'] at h1
   have h2 := putC hoj (hfree j oj hoj hji hjun hnot) (fun cs b => hsel i oi cs b hi) (fun cs b => hsel j oj cs b hoj) hQ hy h1
   have hfree' : ∀ k ok, ops[k]? = some ok → k ≠ i → (listed.setIfInBounds j true).getD k true = false →
     (∀ e ∈ ok.after, Region.binds .any e = true → e.on ≠ i) → oi.apart ops ok = true := fun k ok hk hki hun hno => by
    refine hfree k ok hk hki ?_ hno
    by_cases hjk : j = k
    ·subst hjk; exact hjun
    ·rw [getD_set_ne true hjk] at hun; exact hun
   refine wpOp_mono (fun a' w' h3 => ⟨h3.2.1, ih (listed.setIfInBounds j true) a' w' hfree' (ready_mono hr (Ne.symm hji)) h3.1 h3.2.1 ?_⟩) h2
   rw [Array.setIfInBounds_comm _ _ hji]
   exact h3.2.2
end
section
variable {P : Program} {n : Nat} {N R : Ps} {X : Nat → Ps} {t : Tm} {w : World} {ops : Array Oper} {C : World → Prop} {listed : Array Bool} {m : Nat} {ty : TypeId} {pos : String} {aft : Array Edge}
def M (P : Program) (n : Nat) (ops : Array Oper) (C : World → Prop) (N R : Ps) (X : Nat → Ps) (m : Nat) (listed : Array Bool) (t : Tm) (w : World) : Prop := anyC P ops C (post n N R X) m listed (acts n t) w
theorem Kh {i : Nat} {l : List Oper} (m : Nat) (C : World → Prop) (hm : P.follows .mixedOrders = true) (hl : l.toArray.size = m) (h : M P n l.toArray C N R X m (Array.replicate m false) t { w with drawn := w.drawn + 1 }) :
  W P n (.region i l.toArray true) N R X t w := by
 unfold W
 refine wp_region_any hm (any_of_anyC (C := C) _ _ _ _ ?_)
 rw [hl]; exact h
theorem Yg (hr : Region.ready .any ops listed = []) (h : N t w) : M P n ops C N R X 0 listed t w := ⟨hr, t, rfl, h⟩
def pickB (ops : Array Oper) (listed : Array Bool) (i : Nat) : Bool := Region.noSelect ops && (Region.ready .any ops listed).contains i && Region.free .any ops listed i
theorem Ki (i : Nat) {o : Oper} {v : Value} (hi : ops[i]? = some o) (hb : pickB ops listed i = true) (hC : C w) (hy : YC P ops C o v (acts n t))
  (k : M P n ops C N R X m (listed.setIfInBounds i true) (putd o.dst v t) w) : M P n ops C N R X (m + 1) listed t w := by
 simp only [pickB, Bool.and_eq_true] at hb
 refine firstC hi (Region.noSelect_spec hb.1.1) (fun c a w h => h.elim) m listed (acts n t) w (Region.free_spec hi hb.2) (by simpa using hb.1.2) hy hC ?_
 rw [acts_put]; exact k
theorem Xo (i : Nat) {o : Option Nat} {op : Op} {v : Value} (hi : ops[i]? = some ⟨o, op, ty, pos, aft, none⟩) (hb : pickB ops listed i = true) (hC : C w) (h : Pu P n t C ⟨o, op, ty, pos, aft, none⟩ v)
  (k : M P n ops C N R X m (listed.setIfInBounds i true) (putd o v t) w) : M P n ops C N R X (m + 1) listed t w :=
 Ki i hi hb hC (.inl ⟨by simp [Region.wanted], fun w hw => by rw [acts_evalf]; exact h w hw⟩) k
theorem Zo {i : Nat} {o : Oper} {K : Ps} (hi : ops[i]? = some o) (h : L P n ops K R X [o] t w) : wpOp P ops (post n N R X) i (fun a' w' => ∃ t', a' = acts n t' ∧ K t' w') (acts n t) w := by
 unfold wpOp
 simp only [hi]
 unfold L wpList at h
 by_cases hw : Region.wanted o (yielded ops (acts n t).tmps) = true
 ·rw [if_pos hw] at h ⊢
  rcases h with h | ⟨ha, hb⟩
  ·refine .inl ?_
   unfold Oper.wp at *
   generalize (execOp (acts n t).eval o).run P w = r at *
   cases r with
   | ok x w' =>
    cases x <;> simp only [Oper.upon] at h ⊢
    case value u => exact h
    case skip => exact h
    case defer d => exact h
    case enter f args =>
     refine Calls.mono h fun e w'' he => ?_
     cases e with
     | returned u => exact he
     | panicked c => exact he
     | outgrown => exact he
    case row row args => exact Rows.mono h fun u w'' he => he
   | halt x w' =>
    cases x <;> simp only [Oper.upon] at h ⊢
    case panic u => exact h
  ·exact .inr ⟨ha, hb⟩
 ·rw [if_neg hw] at h ⊢
  exact h
theorem Xq (i : Nat) {o : Oper} (hr : Region.ready .any ops listed = [i]) (hi : ops[i]? = some o)
  (k : L P n ops (fun t' w' => C w' ∧ M P n ops C N R X m (listed.setIfInBounds i true) t' w') R X [o] t w) : M P n ops C N R X (m + 1) listed t w := by
 refine ⟨fun h => (by rw [hr] at h; cases h), fun j hj => ?_⟩
 rw [hr] at hj
 obtain rfl : j = i := by simpa using hj
 exact wpOp_mono (fun a' w' ⟨t', e, h⟩ => by rw [e]; exact h) (Zo hi k)
theorem Yw (i j : Nat) {o o' : Oper} (hr : Region.ready .any ops listed = [i, j]) (hi : ops[i]? = some o) (hj : ops[j]? = some o')
  (k : L P n ops (fun t' w' => C w' ∧ M P n ops C N R X m (listed.setIfInBounds i true) t' w') R X [o] t w)
  (k' : L P n ops (fun t' w' => C w' ∧ M P n ops C N R X m (listed.setIfInBounds j true) t' w') R X [o'] t w) : M P n ops C N R X (m + 1) listed t w := by
 refine ⟨fun h => (by rw [hr] at h; cases h), fun l hl => ?_⟩
 rw [hr] at hl
 rcases (by simpa using hl : l = i ∨ l = j) with rfl | rfl
 ·exact wpOp_mono (fun a' w' ⟨t', e, h⟩ => by rw [e]; exact h) (Zo hi k)
 ·exact wpOp_mono (fun a' w' ⟨t', e, h⟩ => by rw [e]; exact h) (Zo hj k')
end
section
variable {P : Program} {n : Nat} {N R : Ps} {X : Nat → Ps} {t : Tm} {w w' w1 : World} {ops : Array Oper} {listed : Array Bool} {k : Nat} {r : Option Nat} {ty : TypeId} {pos : String} {aft : Array Edge} {d : Nat} {x : Operand} {L O m : Ob} {w0 : World} {C : World → Prop}
theorem Gm.cell {rs : Ob} (h : Gm w w' rs) {a : Addr} {v : Value} (hc : w.cell? a = some v) (hn : some a.block ∉ rs) : w'.cell? a = some v := by
 have hb : a.block < w.heap.size := by
  rcases Nat.lt_or_ge a.block w.heap.size with h | h
  ·exact h
  ·unfold World.cell? at hc; rw [Array.getElem?_eq_none h] at hc; cases hc
 have := h.block a.block hb hn
 unfold World.cell? at hc ⊢
 rw [this]; exact hc
theorem Yy {i : Nat} {l : List Oper} (k : Nat) (rs : Ob) (hm : P.follows .mixedOrders = true) (hl : l.toArray.size = k)
  (h : ∀ w1, Gr w w1 none → Gm w1 w1 rs → M P n l.toArray (fun x => Gm w1 x rs) N R X k (Array.replicate k false) t w1) : W P n (.region i l.toArray true) N R X t w :=
 Kh k (fun x => Gm { w with drawn := w.drawn + 1 } x rs) hm hl (h _ (Gr.drew w) (Gm.refl _ _))
theorem hv_mem {rs : Ob} {v : Option Nat} (i : Nat) (h : rs[i]? = some v) : ∀ b, v = some b → b < w1.heap.size → some b ∈ rs := fun b e _ => by rw [← e]; exact List.mem_of_getElem? h
theorem hv_new {rs : Ob} {v : Option Nat} (h : Gm w1 w rs) (hr : ∀ b, v = some b → w.heap.size ≤ b) : ∀ b, v = some b → b < w1.heap.size → some b ∈ rs := fun b e hb => by have := hr b e; have := h.size; omega
theorem hv_hge {rs ns : Ob} {v : Option Nat} {q : Nat} (h : Gm w1 w rs) (hr : ∀ b, some b ∈ ns → w.heap.size ≤ b) (hq : ns[q]? = some v) : ∀ b, v = some b → b < w1.heap.size → some b ∈ rs := hv_new h fun b e => hr b (by rw [← e]; exact List.mem_of_getElem? hq)
theorem jg_nil {a : Nat} : ∀ b, some b ∈ ([] : Ob) → a ≤ b := fun b h => by cases h
theorem jg_cons {a : Nat} {v : Option Nat} {R : Ob} (hs : a ≤ w1.heap.size) (hv : ∀ b, v = some b → b < w1.heap.size → some b ∈ ([] : Ob)) (h : ∀ b, some b ∈ R → a ≤ b) : ∀ b, some b ∈ v :: R → a ≤ b := fun b hb => by
 rcases List.mem_cons.1 hb with e | hb
 ·rcases Nat.lt_or_ge b w1.heap.size with g | g
  ·cases hv b e.symm g
  ·omega
 ·exact h b hb
theorem nm_nil {x : Option Nat} : x ∉ ([] : Ob) := fun h => by cases h
theorem nm_cons {x r : Option Nat} {rs : Ob} (h : x ≠ r) (k : x ∉ rs) : x ∉ r :: rs := fun hm => (List.mem_cons.1 hm).elim h k
theorem hv_app {rs : Ob} {i : Nat} {v v' : Option Nat} (h : Gm w1 w rs) (hL : L[i]? = some v) (hv : ∀ b, v = some b → b < w1.heap.size → some b ∈ rs) (s : St w (L ++ O) w' (L.set i v' ++ O)) (c : Ct m w0 w' (L.set i v') O) :
  ∀ b, v' = some b → b < w1.heap.size → some b ∈ rs := fun b e hb => by
 have hil : i < L.length := (List.getElem?_eq_some_iff.1 hL).1
 have hb' : b < w.heap.size := Nat.lt_of_lt_of_le hb h.size
 by_cases hm : some b ∈ L ++ O
 ·obtain ⟨j, hj⟩ := List.getElem?_of_mem hm
  by_cases hij : i = j
  ·subst hij
   rw [get_app hL] at hj
   exact hv b (Option.some.inj hj) hb
  ·have h1 : (L.set i v' ++ O)[i]? = some v' := by rw [List.getElem?_append_left (by simpa using hil)]; simp [hil]
   have h2 : (L.set i v' ++ O)[j]? = some (some b) := by
    by_cases hjl : j < L.length
    ·rw [List.getElem?_append_left hjl] at hj; rw [List.getElem?_append_left (by simpa using hjl), List.getElem?_set_ne hij]; exact hj
    ·rw [List.getElem?_append_right OM] at hj; rw [List.getElem?_append_right (by simpa using hjl)]; simpa using hj
   exact absurd rfl (Dj.ne c.dj h1 h2 hij b e)
 ·exact absurd (List.mem_append_left _ (List.mem_of_getElem? (l := L.set i v') (i := i) (by simp [hil, e]))) (s.sub b hb' hm)
theorem fr_ne {b i : Nat} (h : Fr (L ++ O) b) (hr : L[i]? = some r) : some b ≠ r := fun e => h (by rw [e]; exact List.mem_append_left _ (List.mem_of_getElem? hr))
theorem fr_nem {b : Nat} (c : Ct [r] w0 w L O) (h : Fr (L ++ O) b) : some b ≠ r := fun e => h (List.mem_append_right _ (c.mo b (row1 b e.symm)).1)
theorem bx_ne {b i j : Nat} (c : Ct m w0 w L O) (hb : L[j]? = some (some b)) (hr : L[i]? = some r) (hij : j ≠ i) : some b ≠ r := fun e => Dj.ne c.dj (get_app hb) (get_app hr) hij b rfl e.symm
theorem bx_nem {b j : Nat} (c : Ct [r] w0 w L O) (hb : L[j]? = some (some b)) : some b ≠ r := fun e => by
 have h1 := c.ge b (List.mem_of_getElem? hb)
 have h2 := (c.mo b (row1 b e.symm)).2
 omega
theorem ow_ne {A : Option Addr} {ad : Addr} {i j : Nat} (c : Ct m w0 w L O) (hb : L[j]? = some (bk A)) (hA : A = some ad) (hr : L[i]? = some r) (hij : j ≠ i) : some ad.block ≠ r := by
 subst hA; exact bx_ne c hb hr hij
theorem Y5 {T : TypeId} (hT : IsAgg P T false) {w1 : World} {rs : Ob} (hC : ∀ x, C x → Gm w1 x rs) (a : Addr) (v : Value) (hx : evt n t x = .pointer (some a)) (hc0 : w1.cell? a = some v) (hne : some a.block ∉ rs) : Pu P n t C ⟨some d, .load T x, ty, pos, aft, none⟩ v := fun w hw =>
 (by have hc := Gm.cell (hC w hw) hc0 hne; simp [execOp, hx, Instr.loadAt, Instr.sureAddr, loadVar, hT w, hc])
theorem Y2 {T : TypeId} {s : Nat} (hT : IsAgg P T true) (hs : SizeOf P T s) {w1 : World} {rs : Ob} (hC : ∀ x, C x → Gm w1 x rs) (a : Addr) (cs : List Value) (hx : evt n t x = .pointer (some a)) (hl : cs.length = s) (hc0 : ∀ j u, cs[j]? = some u → w1.cell? (a.add j) = some u) (hne : some a.block ∉ rs) : Pu P n t C ⟨some d, .load T x, ty, pos, aft, none⟩ (.agg cs.toArray) := fun w hw =>
 (by have hc := fun j u hu => Gm.cell (hC w hw) (hc0 j u hu) (by rw [add_block]; exact hne); subst hl; simp [execOp, hx, Instr.loadAt, Instr.sureAddr, loadVar, hT w, hs w, loadCells_run w a cs hc])
theorem cR {rs : Ob} : ∀ x, (fun x => Gm w x rs) x → Gm w x rs := fun x e => e
theorem Ze (i0 : Nat) {T e : TypeId} {α : Type} {kd : Kd α} {lo hi : Option Operand} (ho : ops[i0]? = some ⟨some d, .slice T x lo hi none, ty, pos, aft, none⟩) (hb : pickB ops listed i0 = true) (hC : C w) (hu : P.underlying T = some (.slice e)) (hs : SizeOf P e kd.sz) {S : Sp} (A : Option Addr) (l c : Nat) (xs : List α) (hx : evt n t x = .slice A l c) (hS : Sl kd w S (.slice A l c) xs)
  (i j : Int) (hlo : bound n t lo 0 i) (hhi : bound n t hi l j) (hij : 0 ≤ i ∧ i ≤ j ∧ j ≤ (xs.length : Int))
  (q : ∀ A' m' c', Sl kd w S (.slice A' m' c') ((xs.drop i.toNat).take (j.toNat - i.toNat)) → M P n ops C N R X k (listed.setIfInBounds i0 true) (upd d (.slice A' m' c') t) w) :
  M P n ops C N R X (k + 1) listed t w := by
 obtain rfl := hS.len
 have hc : xs.length ≤ c := by obtain ⟨_, _, _, e, h, _⟩ := hS; cases e; exact h.1
 have h1 := hS.cut i.toNat j.toNat OM OM
 refine Xo i0 ho hb hC (Zt hu hs A xs.length c hx i j hlo hhi OM) ?_
 obtain ⟨A', c', e⟩ := h1.shape
 rw [e] at h1 ⊢
 exact q A' _ c' h1
end
theorem sliced0 (A : Option Addr) (j c s : Nat) : sliced A 0 j c s = .slice A j c := by
 have h : (fun a : Addr => a.add 0) = id := by funext a; unfold Addr.add; simp
 simp only [sliced, Nat.zero_mul, Nat.sub_zero]
 split
 ·rfl
 ·rw [h]; cases A <;> rfl
theorem Ow.cut {α : Type} {k : Kd α} {e : TypeId} {w : World} {O : Ob} {A : Option Addr} {m c : Nat} {xs : List α} (h : Ow k e w O (.slice A m c) xs) (j : Nat) (hj : j ≤ xs.length) : Ow k e w O (.slice A j c) (xs.take j) := by
 obtain ⟨cells, ⟨h1, h2⟩, h3, h4⟩ := h
 have hlen : (xs.take j).length = j := by simp; omega
 refine ⟨cells.take (j * k.sz), ⟨by rw [List.length_take, h1, hlen]; exact Nat.min_eq_left (Nat.mul_le_mul_right _ hj), ?_⟩, h3.take j, h4⟩
 rw [hlen]
 rcases h2 with ⟨he, h0⟩ | ⟨g, cap, cur, he, hb, hh, hnc, hcm, hcs, ht⟩
 ·cases he
  exact .inl ⟨by rw [show j = 0 by omega], OM⟩
 ·cases he
  refine .inr ⟨g, c, cur, rfl, hb, hh, OM, hcm, hcs, ?_⟩
  rw [← ht, List.take_take, Nat.min_eq_left (Nat.mul_le_mul_right _ hj)]
section
variable {P : Program} {n : Nat} {N R : Ps} {X : Nat → Ps} {t : Tm} {w : World} {ops : Array Oper} {rest tail : List Oper} {listed : Array Bool} {q : Nat} {ty : TypeId} {pos : String} {aft : Array Edge} {d : Nat} {x : Operand} {O : Ob} {C : World → Prop}
theorem Ow.cap {α : Type} {kd : Kd α} {e : TypeId} {A : Option Addr} {m c : Nat} {xs : List α} (h : Ow kd e w O (.slice A m c) xs) : xs.length ≤ c := by
 obtain ⟨_, c', _, e', h, _⟩ := h.sl (fun _ => True) (fun _ _ _ => trivial)
 cases e'; exact h.1
theorem Kj {T e : TypeId} {α : Type} {kd : Kd α} (hu : P.underlying T = some (.slice e)) (hs : SizeOf P e kd.sz) {lo hi : Option Operand} (A : Option Addr) (m c : Nat) (xs : List α) (hx : evt n t x = .slice A m c) (hO : Ow kd e w O (.slice A m c) xs)
  (j : Int) (hlo : bound n t lo 0 0) (hhi : bound n t hi m j) (hij : 0 ≤ j ∧ j ≤ (xs.length : Int)) : Pu P n t C ⟨some d, .slice T x lo hi none, ty, pos, aft, none⟩ (.slice A j.toNat c) := by
 have h := Zt (C := C) (d := d) (ty := ty) (pos := pos) (aft := aft) hu hs A m c hx 0 j hlo hhi (by have := hO.cap; omega)
 rw [show (0 : Int).toNat = 0 from rfl, sliced0] at h
 exact h
theorem Kk {T e : TypeId} {α : Type} {kd : Kd α} (hu : P.underlying T = some (.slice e)) (hs : SizeOf P e kd.sz) {lo hi : Option Operand} (A : Option Addr) (m c : Nat) (xs : List α) (hx : evt n t x = .slice A m c) (hO : Ow kd e w O (.slice A m c) xs)
  (j : Int) (hlo : bound n t lo 0 0) (hhi : bound n t hi m j) (hij : 0 ≤ j ∧ j ≤ (xs.length : Int))
  (k : ∀ l, Ow kd e w O (.slice A l c) (xs.take j.toNat) → L P n ops N R X rest (upd d (.slice A l c) t) w) : L P n ops N R X (⟨some d, .slice T x lo hi none, ty, pos, aft, none⟩ :: rest) t w :=
 Xa (Kj hu hs A m c xs hx hO j hlo hhi hij) (k _ (hO.cut _ OM))
def Sh (P : Program) (n : Nat) (ops : Array Oper) (N R : Ps) (X : Nat → Ps) (w : World) (tail l : List Oper) (t : Tm) : Prop := wpStill P ops w (fun a => wpList P ops (post n N R X) tail a w) l (acts n t)
theorem Z1 {i : Nat} {l : List Oper} (n0 : Nat) (hm : P.follows .mixedOrders = true) (hB : Region.lexTailB .any l.toArray n0 = true) (h : ∀ w1, Gr w w1 none → Sh P n l.toArray N R X w1 (l.drop n0) (l.take n0) t) : W P n (.region i l.toArray true) N R X t w := by
 unfold W; exact wp_region_still_tail n0 hm hB (h _ (Gr.drew w))
theorem Z2 (h : L P n ops N R X tail t w) : Sh P n ops N R X w tail [] t := by unfold L at h; exact h
theorem Yj {o : Option Nat} {op : Op} {v : Value} (h : Pu P n t (fun x => x = w) ⟨o, op, ty, pos, aft, none⟩ v) (k : Sh P n ops N R X w tail rest (putd o v t)) : Sh P n ops N R X w tail (⟨o, op, ty, pos, aft, none⟩ :: rest) t := by
 unfold Sh wpStill
 rw [if_pos (by simp [Region.wanted])]
 unfold Oper.still
 rw [acts_evalf, h w rfl]
 simp only [Oper.stillUpon]
 exact ⟨trivial, by rw [acts_put]; exact k⟩
theorem Kl {f : FuncId} (hg : Goes P f) {ax : Array Operand} {ts : Array TypeId} (args : List Value) (ha0 : ax.toList.map (evt n t) = args) (v : Value) (h : Ret P f args w fun u w'' => u = v ∧ w'' = w) (k : Sh P n ops N R X w tail rest (upd d v t)) :
  Sh P n ops N R X w tail (⟨some d, .call ⟨.value (.func f), ax, ts⟩, ty, pos, aft, none⟩ :: rest) t := by
 have ha : ax.map (evt n t) = args.toArray := by rw [← ha0]; exact map_toL _ _
 unfold Sh wpStill
 rw [if_pos (by simp [Region.wanted])]
 unfold Oper.still
 have : (execOp (acts n t).eval ⟨some d, .call ⟨.value (.func f), ax, ts⟩, ty, pos, aft, none⟩).run P w = .ok (.enter f args.toArray) w := by
  rw [acts_evalf]
  simp [execOp, resolve, evt, Deferred.ofValue, invoke, ha, hg.run]
 rw [this]
 simp only [Oper.stillUpon]
 refine ⟨trivial, v, Calls.mono h fun e w' ⟨u, he, hu, hc⟩ => ⟨by rw [he, hu], hc⟩, by rw [acts_put]; exact k⟩
end
attribute [irreducible] M Sh
end
section
def Kd.raw : Kd Value where
 sz := 1
 R := fun _ _ x cs => cs = [x] ∧ x.oneCell' = true
 len := fun h => by rw [h.1]; rfl
 one := fun h u hu => by rw [h.1] at hu; simp at hu; subst hu; exact h.2
 keep := fun h _ => h
 mono := fun h _ => h
def Tb {α : Type} (k : Kd α) (e1 e2 : TypeId) (w : World) (B : Ob) (v : Value) (vs : List Value) (xss : List (List α)) : Prop :=
 Ow Kd.raw e1 w B v vs ∧ vs.length = xss.length ∧ ∀ j u, vs[j]? = some u → Ow k e2 w B u (xss.getD j [])
section
variable {α : Type} {k : Kd α} {e1 e2 : TypeId} {w0 w w' : World} {B L O : Ob} {v u : Value} {vs : List Value} {xss : List (List α)} {m : Ob}
theorem Tb.k0 (h : Tb k e1 e2 w B v vs xss) (g : Gr w w' none) : Tb k e1 e2 w' B v vs xss := ⟨h.1.sn g, h.2.1, fun j u hu => (h.2.2 j u hu).sn g⟩
theorem Tb.own (h : Tb k e1 e2 w B v vs xss) (r : Option Nat) (g : Gr w w' none) (hr : ∀ b, r = some b → w.heap.size ≤ b) : Tb k e1 e2 w' (r :: B) v vs xss := ⟨h.1.so r g hr, h.2.1, fun j u hu => (h.2.2 j u hu).so r g hr⟩
theorem Tb.len {A : Option Addr} {n c : Nat} (h : Tb k e1 e2 w B (.slice A n c) vs xss) : n = xss.length := h.1.len.trans h.2.1
theorem Tb.le (h : Tb k e1 e2 w B v vs xss) : xss.length ≤ 9223372036854775807 := by rw [← h.2.1]; exact h.1.le
theorem Tb.get {A : Option Addr} {n c : Nat} (h : Tb k e1 e2 w B (.slice A n c) vs xss) (i : Int) (hi : 0 ≤ i ∧ i < (xss.length : Int)) :
  ∃ ad A' n' c', A = some ad ∧ vs[i.toNat]? = some (.slice A' n' c') ∧ (∀ j u, [Value.slice A' n' c'][j]? = some u → w.cell? ((ad.add (i.toNat * 1)).add j) = some u) ∧ Ow k e2 w B (.slice A' n' c') (nth xss i) := by
 have hv : i.toNat < vs.length := by rw [h.2.1]; omega
 obtain ⟨ad, cs, hA, hR, hcell⟩ := h.1.get (default : Value) RD i (by rw [h.2.1]; exact hi)
 have hu : vs[i.toNat]? = some vs[i.toNat] := List.getElem?_eq_getElem hv
 have ho := h.2.2 _ _ hu
 obtain ⟨A', c', e⟩ := ho.shape
 rw [e] at hu ho
 have hcs := hR.1
 rw [List.getD_eq_getElem?_getD, hu, Option.getD_some] at hcs
 subst hcs
 refine ⟨ad, A', _, c', hA, hu, hcell, ?_⟩
 have e2 : xss.getD i.toNat [] = nth xss i := rfl
 rw [← e2]; exact ho
theorem Tb.sl (h : Tb k e1 e2 w (blk v :: vs.map blk ++ O) v vs xss) (c : Ct m w0 w (blk v :: vs.map blk) O) : Sl (Kd.sl k) w (Fr ([] ++ O)) v xss := by
 have key : ∀ u ∈ vs, ∀ b, blk u = some b → some b ∉ O := fun u hu b hb hm => by
  have h1 : some b ∈ blk v :: vs.map blk := List.mem_cons_of_mem _ (List.mem_map.2 ⟨u, hu, hb⟩)
  have : Dj ((blk v :: vs.map blk) ++ O) := c.dj
  obtain ⟨i, hi⟩ := List.getElem?_of_mem h1
  obtain ⟨j, hj⟩ := List.getElem?_of_mem hm
  exact Dj.ne this (get_app hi) (by rw [List.getElem?_append_right (i := (blk v :: vs.map blk).length + j) OM]; simpa using hj) (by have := (List.getElem?_eq_some_iff.1 hi).1; omega) b rfl rfl
 have keyv : ∀ b, blk v = some b → some b ∉ O := fun b hb hm => by
  have : Dj (blk v :: (vs.map blk ++ O)) := c.dj
  exact this.1 b hb (List.mem_append_right _ hm)
 obtain ⟨A, n, rfl⟩ := h.1.shape
 obtain ⟨⟨cells, h1, h2, h3⟩, hlen, hin⟩ := h
 have hc : vs.length ≤ n ∧ n ≤ 9223372036854775807 := by
  rcases h1.2 with ⟨e, e'⟩ | ⟨g, cap, cur, e, _, _, h, hm, _⟩
  ·simp only [Value.slice.injEq] at e; omega
  ·cases e; exact ⟨h, hm⟩
 have harr : ∀ (vs : List Value) (xss : List (List α)) (cells : List Value), vs.length = xss.length → Arr Kd.raw w (Fr (blk (.slice A vs.length n) :: vs.map blk ++ O)) vs cells → (∀ u ∈ vs, ∀ b, blk u = some b → some b ∉ O) →
   (∀ j u, vs[j]? = some u → ∃ B, Ow k e2 w B u (xss.getD j []) ∧ ∀ b, b < w.heap.size → some b ∉ B → some b ∉ O) → Arr (Kd.sl k) w (Fr ([] ++ O)) xss cells := by
  intro vs
  have gen : ∀ (vs : List Value) (S : Sp) (xss : List (List α)) (cells : List Value), vs.length = xss.length → Arr Kd.raw w S vs cells → (∀ u ∈ vs, ∀ b, blk u = some b → some b ∉ O) →
   (∀ j u, vs[j]? = some u → ∃ B, Ow k e2 w B u (xss.getD j []) ∧ ∀ b, b < w.heap.size → some b ∉ B → some b ∉ O) → Arr (Kd.sl k) w (Fr ([] ++ O)) xss cells := by
   intro vs S
   induction vs with
   | nil =>
    intro xss cells hl ha _ _
    cases xss with
    | nil => exact ha
    | cons => cases hl
   | cons u vs ih =>
    intro xss cells hl ha hb hi
    cases xss with
    | nil => cases hl
    | cons x xss =>
     obtain ⟨c1, c2, e, h1, h2⟩ := ha
     obtain ⟨B, ho, hB⟩ := hi 0 u rfl
     have hx : Sl k w (Fr ([] ++ O)) u x := ho.sl _ fun b hlt hh hm => by
      rcases hh with hh | hh
      ·exact hB b hlt hh hm
      ·exact hb u (by simp) b hh hm
     exact ⟨c1, c2, e, ⟨u, h1.1, hx⟩, ih xss c2 (by simpa using hl) h2 (fun u hu => hb u (by simp [hu])) (fun j u hu => hi (j + 1) u hu)⟩
  exact gen vs _
 have := harr vs xss cells hlen h2 key (fun j u hu => ⟨_, hin j u hu, fun b _ hn hm => hn (List.mem_append_right _ hm)⟩)
 refine ⟨A, n, cells, by rw [hlen], by rw [← hlen]; exact hc, this, fun j u hu => ?_⟩
 rcases h1.2 with ⟨e, e'⟩ | ⟨g, cap, cur, e, _, hg, h, _⟩
 ·have := h1.1
  have hl : cells = [] := List.length_eq_zero_iff.1 (by rw [this, e']; simp)
  subst hl; simp at hu
 ·cases e
  exact ⟨_, rfl, keyv _ rfl, World.ownsRow.cells h1 (g := g) rfl j u hu⟩
theorem Ct.clear (c : Ct m w0 w L O) : Ct m w0 w [] O :=
 ⟨c.gr, by
  have := c.dj
  clear c
  induction L with
  | nil => exact this
  | cons a L ih => exact ih this.2, fun b hb => c.lt b (List.mem_append_right _ hb), fun b hb => by simp at hb, c.mo⟩
theorem St.clear : St w (L ++ O) w ([] ++ O) := ⟨rfl, rfl, rfl, Nat.le_refl _, fun _ _ _ => rfl, fun _ _ hn hm => hn (List.mem_append_right _ hm)⟩
theorem Dj.nones {n : Nat} (h : Dj O) : Dj (List.replicate n none ++ O) := by
 induction n with
 | zero => exact h
 | succ n ih => rw [List.replicate_succ, List.cons_append]; exact ⟨fun b e => (by cases e), ih⟩
theorem nones_mem {n b : Nat} (h : some b ∈ List.replicate n (none : Option Nat) ++ O) : some b ∈ O := by
 rcases List.mem_append.1 h with h | h
 ·have := List.eq_of_mem_replicate h; cases this
 ·exact h
theorem St.nones {r : Option Nat} {n : Nat} : St w ([r] ++ O) w ((r :: (List.replicate n (Value.slice none 0 0)).map blk) ++ O) := ⟨rfl, rfl, rfl, Nat.le_refl _, fun _ _ _ => rfl, fun b _ hn hm => hn (by
 rcases List.mem_cons.1 hm with hm | hm
 ·exact List.mem_cons.2 (.inl hm)
 ·rw [List.map_replicate] at hm; exact List.mem_cons_of_mem _ (nones_mem hm))⟩
theorem map_nones (n : Nat) : (List.replicate n (Value.slice none 0 0)).map blk = List.replicate n none := by rw [List.map_replicate]; rfl
theorem Ct.nones {r : Option Nat} (c : Ct m w0 w [r] O) (n : Nat) : Ct m w0 w (r :: (List.replicate n (Value.slice none 0 0)).map blk) O := by
 rw [map_nones]
 have hmem : ∀ b, some b ∈ (r :: List.replicate n none) ++ O → some b ∈ [r] ++ O := fun b hb => by
  rcases List.mem_cons.1 hb with hb | hb
  ·exact List.mem_cons.2 (.inl hb)
  ·exact List.mem_cons_of_mem _ (nones_mem hb)
 refine ⟨c.gr, ⟨fun b e hm => c.dj.1 b e (nones_mem hm), c.dj.2.nones⟩, fun b hb => c.lt b (hmem b hb), fun b hb => c.ge b ?_, c.mo⟩
 rcases List.mem_cons.1 hb with hb | hb
 ·exact List.mem_cons.2 (.inl hb)
 ·have := List.eq_of_mem_replicate hb; cases this
theorem Ow.nones {A : Option Addr} {l c n : Nat} (h : Ow Kd.raw e1 w ([blk (.slice A l c)] ++ O) (.slice A l c) (List.replicate n (.slice none 0 0))) :
  Tb k e1 e2 w ((blk (.slice A l c) :: (List.replicate n (Value.slice none 0 0)).map blk) ++ O) (.slice A l c) (List.replicate n (.slice none 0 0)) (List.replicate n []) := by
 have hm : ∀ b, some b ∈ [blk (.slice A l c)] ++ O ↔ some b ∈ (blk (.slice A l c) :: (List.replicate n (Value.slice none 0 0)).map blk) ++ O := fun b => by
  rw [map_nones]
  constructor
  ·intro hb
   rcases List.mem_cons.1 hb with hb | hb
   ·exact List.mem_cons.2 (.inl hb)
   ·exact List.mem_cons_of_mem _ (List.mem_append_right _ hb)
  ·intro hb
   rcases List.mem_cons.1 hb with hb | hb
   ·exact List.mem_cons.2 (.inl hb)
   ·exact List.mem_cons_of_mem _ (nones_mem hb)
 refine ⟨h.st ⟨rfl, rfl, rfl, Nat.le_refl _, fun _ _ _ => rfl, fun b _ hn hx => hn ((hm b).2 hx)⟩ fun b hb => ⟨rfl, (hm b).1 (h.choose_spec.2.2 b hb)⟩, by simp, fun j u hu => ?_⟩
 have e : u = .slice none 0 0 := by
  rw [List.getElem?_replicate] at hu; split at hu <;> simp_all
 subst e
 have e2 : (List.replicate n ([] : List α)).getD j [] = [] := by
  rw [List.getD_eq_getElem?_getD, List.getElem?_replicate]; split <;> rfl
 rw [e2]; exact Ow.nil k _ w _
theorem bs_ne {i j : Nat} {a b : Value} (c : Ct m w0 w (blk v :: vs.map blk) O) (hi : vs[i]? = some a) (hj : vs[j]? = some b) (hij : i ≠ j) : ∀ x, blk a = some x → blk b ≠ some x :=
 c.dj.ne (i := i + 1) (j := j + 1) (get_app (by simp [hi])) (get_app (by simp [hj])) OM
theorem bs_nev {i : Nat} {a : Value} (c : Ct m w0 w (blk v :: vs.map blk) O) (hi : vs[i]? = some a) : ∀ x, blk a = some x → blk v ≠ some x :=
 c.dj.ne (i := i + 1) (j := 0) (get_app (by simp [hi])) (get_app rfl) OM
theorem Ct.tb (c : Ct m w0 w (blk v :: vs.map blk) O) {i : Nat} (hi : vs[i]? = some u) (g : Gr w w' (blk u)) : Ct m w0 w' (blk v :: vs.map blk) O := c.wr (i + 1) (by simp [hi]) g
theorem St.tb (hi : ∃ i : Nat, vs[i]? = some u) (g : Gr w w' (blk u)) : St w ((blk v :: vs.map blk) ++ O) w' ((blk v :: vs.map blk) ++ O) :=
 ⟨g.os, g.tape, g.output, g.size, fun b hb hn => g.block b hb fun e => hn (by
  obtain ⟨i, hi⟩ := hi
  exact List.mem_append_left _ (List.mem_cons_of_mem _ (List.mem_map.2 ⟨u, List.mem_of_getElem? hi, e.symm⟩))), fun _ _ h => h⟩
theorem Tb.ste (h : Tb k e1 e2 w ((blk v :: vs.map blk) ++ O) v vs xss) (c : Ct m w0 w (blk v :: vs.map blk) O) {i : Int} (hi : vs[i.toNat]? = some u) (g : Gr w w' (blk u)) {x : List α} (hw : Ow k e2 w' ((blk v :: vs.map blk) ++ O) u x) :
  Tb k e1 e2 w' ((blk v :: vs.map blk) ++ O) v vs (xss.set i.toNat x) := by
 have st : St w ((blk v :: vs.map blk) ++ O) w' ((blk v :: vs.map blk) ++ O) := .tb ⟨_, hi⟩ g
 have hil : i.toNat < vs.length := (List.getElem?_eq_some_iff.1 hi).1
 refine ⟨h.1.st1 st g (fun b hb e => bs_nev c hi b e hb) h.1.choose_spec.2.2, by rw [List.length_set]; exact h.2.1, fun j a ha => ?_⟩
 by_cases hij : i.toNat = j
 ·subst hij
  rw [hi] at ha; cases ha
  rw [List.getD_eq_getElem?_getD, List.getElem?_set_self (by rw [← h.2.1]; exact hil)]; exact hw
 ·rw [List.getD_eq_getElem?_getD, List.getElem?_set_ne hij, ← List.getD_eq_getElem?_getD]
  have := h.2.2 j a ha
  exact this.st1 st g (fun b hb e => bs_ne c hi ha hij b e hb) this.choose_spec.2.2
theorem set_map (vs : List Value) (i : Nat) (u : Value) : (vs.set i u).map blk = (vs.map blk).set i (blk u) := by rw [List.map_set]
theorem Ct.sto (c : Ct m w0 w (blk u :: blk v :: vs.map blk) O) (i : Int) (hi : 0 ≤ i ∧ i < (vs.length : Int)) (g : Gr w w' (blk v)) : Ct m w0 w' (blk v :: (vs.set i.toNat u).map blk) O := by
 have c' := c.wr 1 rfl g
 have hil : i.toNat < vs.length := by omega
 have hd : Dj ((blk v :: vs.map blk) ++ O) := c'.dj.2
 have hset : ((blk v :: vs.map blk) ++ O).set (i.toNat + 1) (blk u) = (blk v :: (vs.set i.toNat u).map blk) ++ O := by
  rw [set_map, List.cons_append, List.set_cons_succ, List.set_append_left _ _ (by simpa using hil)]; rfl
 have hmem : ∀ b, some b ∈ (blk v :: (vs.set i.toNat u).map blk) ++ O → some b ∈ (blk u :: blk v :: vs.map blk) ++ O := fun b hb => by
  rw [← hset] at hb
  rcases List.mem_or_eq_of_mem_set hb with hb | hb
  ·exact List.mem_cons_of_mem _ hb
  ·exact List.mem_cons.2 (.inl hb)
 refine ⟨c'.gr, ?_, fun b hb => c'.lt b (hmem b hb), fun b hb => c'.ge b ?_, c'.mo⟩
 ·rw [← hset]
  exact hd.set (i := i.toNat + 1) (r := ((blk v :: vs.map blk) ++ O)[i.toNat + 1]'(by simp; omega)) (List.getElem?_eq_getElem _) (.inr fun b e => c'.dj.1 b e)
 ·rcases List.mem_cons.1 hb with hb | hb
  ·exact List.mem_cons_of_mem _ (List.mem_cons.2 (.inl hb))
  ·rw [set_map] at hb
   rcases List.mem_or_eq_of_mem_set hb with hb | hb
   ·exact List.mem_cons_of_mem _ (List.mem_cons_of_mem _ hb)
   ·exact List.mem_cons.2 (.inl hb)
theorem St.sto (i : Int) (g : Gr w w' (blk v)) : St w ((blk u :: blk v :: vs.map blk) ++ O) w' ((blk v :: (vs.set i.toNat u).map blk) ++ O) :=
 ⟨g.os, g.tape, g.output, g.size, fun b hb hn => g.block b hb fun e => hn (List.mem_append_left _ (List.mem_cons_of_mem _ (List.mem_cons.2 (.inl e)))), fun b _ hn hm => hn (by
  rcases List.mem_append.1 hm with hm | hm
  ·rcases List.mem_cons.1 hm with hm | hm
   ·exact List.mem_append_left _ (List.mem_cons_of_mem _ (List.mem_cons.2 (.inl hm)))
   ·rw [set_map] at hm
    rcases List.mem_or_eq_of_mem_set hm with hm | hm
    ·exact List.mem_append_left _ (List.mem_cons_of_mem _ (List.mem_cons_of_mem _ hm))
    ·exact List.mem_append_left _ (List.mem_cons.2 (.inl hm))
  ·exact List.mem_append_right _ hm)⟩
theorem Tb.sto (h : Tb k e1 e2 w ((blk u :: blk v :: vs.map blk) ++ O) v vs xss) (c : Ct m w0 w (blk u :: blk v :: vs.map blk) O) {x : List α} (hu : Ow k e2 w ((blk u :: blk v :: vs.map blk) ++ O) u x) (i : Int) (hi : 0 ≤ i ∧ i < (xss.length : Int)) (g : Gr w w' (blk v))
  (hw : Ow Kd.raw e1 w' ((blk u :: blk v :: vs.map blk) ++ O) v (vs.set i.toNat u)) : Tb k e1 e2 w' ((blk v :: (vs.set i.toNat u).map blk) ++ O) v (vs.set i.toNat u) (xss.set i.toNat x) := by
 have hil : i.toNat < vs.length := by rw [h.2.1]; omega
 have st := St.sto (u := u) (vs := vs) (O := O) i g
 have st' : St w' ((blk u :: blk v :: vs.map blk) ++ O) w' ((blk v :: (vs.set i.toNat u).map blk) ++ O) := ⟨rfl, rfl, rfl, Nat.le_refl _, fun _ _ _ => rfl, fun b hb hn hm => by
  rcases List.mem_append.1 hm with hm | hm
  ·rcases List.mem_cons.1 hm with hm | hm
   ·exact hn (List.mem_append_left _ (List.mem_cons_of_mem _ (List.mem_cons.2 (.inl hm))))
   ·rw [set_map] at hm
    rcases List.mem_or_eq_of_mem_set hm with hm | hm
    ·exact hn (List.mem_append_left _ (List.mem_cons_of_mem _ (List.mem_cons_of_mem _ hm)))
    ·exact hn (List.mem_append_left _ (List.mem_cons.2 (.inl hm)))
  ·exact hn (List.mem_append_right _ hm)⟩
 refine ⟨hw.st0 st' (Gr.refl _ _) fun b hb => List.mem_append_left _ (List.mem_cons.2 (.inl hb.symm)), by rw [List.length_set, List.length_set]; exact h.2.1, fun j a ha => ?_⟩
 by_cases hij : i.toNat = j
 ·subst hij
  rw [List.getElem?_set_self hil] at ha; cases ha
  rw [List.getD_eq_getElem?_getD, List.getElem?_set_self (by rw [← h.2.1]; exact hil)]
  refine hu.st1 st g (fun b hb e => c.dj.1 b hb (by rw [← e]; exact List.mem_cons_self)) fun b hb => List.mem_append_left _ (List.mem_cons_of_mem _ ?_)
  rw [← hb, set_map]; exact List.mem_set (by simpa using hil) _
 ·rw [List.getElem?_set_ne hij] at ha
  rw [List.getD_eq_getElem?_getD, List.getElem?_set_ne hij, ← List.getD_eq_getElem?_getD]
  refine (h.2.2 j a ha).st1 st g (fun b hb e => c.dj.ne (i := j + 2) (j := 1) (get_app (by simp [ha])) (get_app rfl) OM b hb e) fun b hb => List.mem_append_left _ (List.mem_cons_of_mem _ ?_)
  rw [← hb, set_map]
  refine List.mem_of_getElem? (i := j) ?_
  rw [List.getElem?_set_ne hij]; simp [ha]
end
end
section
def Kd.cells (n : Nat) : Kd (List Value) where
 sz := n
 R := fun _ _ x cs => cs = x ∧ x.length = n ∧ ∀ u ∈ x, u.oneCell' = true
 len := fun h => by rw [h.1]; exact h.2.1
 one := fun h u hu => h.2.2 u (by rw [← h.1]; exact hu)
 keep := fun h _ => h
 mono := fun h _ => h
theorem Kd.cells.op {n : Nat} {w : World} {S : Sp} {x cs : List Value} (h : (Kd.cells n).R w S x cs) : cs = x := h.1
theorem cells_flat (n : Nat) : (Kd.cells n).Flat := fun _ _ _ _ _ _ h => h
theorem Dj.right : ∀ {A B : Ob}, Dj (A ++ B) → Dj B
 | [], _, d => d
 | _ :: _, _, d => Dj.right d.2
theorem Dj.disj : ∀ {A B : Ob}, Dj (A ++ B) → ∀ b, some b ∈ A → some b ∉ B
 | [], _, _, b, h => by cases h
 | a :: A, B, d, b, h => fun hB => by
  rcases List.mem_cons.1 h with e | h
  ·exact d.1 b e.symm (List.mem_append_right _ hB)
  ·exact Dj.disj d.2 b h hB
theorem Ow.flto {α : Type} {k : Kd α} (hf : k.Flat) {e : TypeId} {w w' : World} {O O' : Ob} {v : Value} {xs : List α} (h : Ow k e w O v xs) (hb : ∀ b, blk v = some b → w'.heap[b]? = w.heap[b]? ∧ some b ∈ O') : Ow k e w' O' v xs := by
 obtain ⟨cells, h1, h2, h3⟩ := h
 refine ⟨cells, ⟨h1.1, ?_⟩, h2.fl hf, fun b hv => (hb b hv).2⟩
 rcases h1.2 with hn | ⟨g, cap, cur, hv, h0, hg, rest⟩
 ·exact .inl hn
 ·exact .inr ⟨g, cap, cur, hv, h0, by rw [(hb g (by rw [hv]; rfl)).1]; exact hg, rest⟩
structure Dd {α : Type} (k : Kd α) where
 D : World → Ob → α → List Value → Prop
 keep : ∀ {w w' : World} {rs : Ob} {x : α} {cs : List Value}, D w rs x cs → (∀ b, some b ∈ rs → w'.heap[b]? = w.heap[b]?) → D w' rs x cs
 lt : ∀ {w : World} {rs : Ob} {x : α} {cs : List Value}, D w rs x cs → ∀ b, some b ∈ rs → b < w.heap.size
 toR : ∀ {w : World} {rs : Ob} {x : α} {cs : List Value} {S : Sp}, D w rs x cs → (∀ b, some b ∈ rs → S b) → k.R w S x cs
def Dd.flat {α : Type} {k : Kd α} (hf : k.Flat) : Dd k where
 D := fun w rs x cs => rs = [] ∧ k.R w (fun _ => True) x cs
 keep := fun h _ => ⟨h.1, hf _ _ _ _ _ _ h.2⟩
 lt := fun h b hb => by rw [h.1] at hb; cases hb
 toR := fun h _ => hf _ _ _ _ _ _ h.2
def Dd.pair {α β : Type} {a : Kd α} {b : Kd β} (p : Dd a) (q : Dd b) : Dd (Kd.pair a b) where
 D := fun w rs x cs => ∃ r1 r2 c1 c2, rs = r1 ++ r2 ∧ cs = c1 ++ c2 ∧ p.D w r1 x.1 c1 ∧ q.D w r2 x.2 c2
 keep := fun ⟨r1, r2, c1, c2, e, e', h1, h2⟩ g => ⟨r1, r2, c1, c2, e, e', p.keep h1 fun b hb => g b (by rw [e]; exact List.mem_append_left _ hb), q.keep h2 fun b hb => g b (by rw [e]; exact List.mem_append_right _ hb)⟩
 lt := fun ⟨r1, r2, c1, c2, e, e', h1, h2⟩ b hb => by
  rw [e] at hb; rcases List.mem_append.1 hb with hb | hb
  ·exact p.lt h1 b hb
  ·exact q.lt h2 b hb
 toR := fun ⟨r1, r2, c1, c2, e, e', h1, h2⟩ g => ⟨c1, c2, e', p.toR h1 fun b hb => g b (by rw [e]; exact List.mem_append_left _ hb), q.toR h2 fun b hb => g b (by rw [e]; exact List.mem_append_right _ hb)⟩
def Dd.iso {α β : Type} {a : Kd α} (p : Dd a) (f : β → α) : Dd (Kd.iso a f) where
 D := fun w rs x cs => p.D w rs (f x) cs
 keep := p.keep
 lt := p.lt
 toR := p.toR
theorem Dd.raw {α : Type} {k : Kd α} (d : Dd k) {w : World} {rs : Ob} {x : α} {cs : List Value} {S : Sp} (h : d.D w rs x cs) : (Kd.cells k.sz).R w S cs cs :=
 have hR := d.toR (S := fun _ => True) h fun _ _ => trivial
 ⟨rfl, k.len hR, fun u hu => k.one hR u hu⟩
def DArr {α : Type} {k : Kd α} (d : Dd k) (w : World) : Ob → List α → List (List Value) → Prop
 | rr, [], [] => rr = []
 | rr, x :: xs, c :: cs => ∃ r1 r2, rr = r1 ++ r2 ∧ d.D w r1 x c ∧ DArr d w r2 xs cs
 | _, _, _ => False
section
variable {α : Type} {k : Kd α} {d : Dd k} {w w' : World} {rr r1 r2 : Ob} {xs ys : List α} {ra rb : List (List Value)}
theorem DArr.len : ∀ {xs : List α} {ra : List (List Value)} {rr : Ob}, DArr d w rr xs ra → ra.length = xs.length
 | [], [], _, _ => rfl
 | _ :: _, _ :: _, _, ⟨_, _, _, _, h⟩ => by rw [List.length_cons, List.length_cons, DArr.len h]
theorem DArr.lt : ∀ {xs : List α} {ra : List (List Value)} {rr : Ob}, DArr d w rr xs ra → ∀ b, some b ∈ rr → b < w.heap.size
 | [], [], _, h, b, hb => by simp only [DArr] at h; rw [h] at hb; cases hb
 | _ :: _, _ :: _, _, ⟨_, _, e, h1, h2⟩, b, hb => by
  rw [e] at hb; rcases List.mem_append.1 hb with hb | hb
  ·exact d.lt h1 b hb
  ·exact DArr.lt h2 b hb
theorem DArr.keep : ∀ {xs : List α} {ra : List (List Value)} {rr : Ob}, DArr d w rr xs ra → (∀ b, some b ∈ rr → w'.heap[b]? = w.heap[b]?) → DArr d w' rr xs ra
 | [], [], _, h, _ => h
 | _ :: _, _ :: _, _, ⟨r1, r2, e, h1, h2⟩, g => ⟨r1, r2, e, d.keep h1 fun b hb => g b (by rw [e]; exact List.mem_append_left _ hb), DArr.keep h2 fun b hb => g b (by rw [e]; exact List.mem_append_right _ hb)⟩
theorem DArr.k0 (h : DArr d w rr xs ra) (g : Gr w w' none) : DArr d w' rr xs ra := h.keep fun b hb => g.block b (h.lt b hb) (by simp)
theorem DArr.single {x : α} {c : List Value} {r : Ob} (h : d.D w r x c) : DArr d w r [x] [c] := ⟨r, [], by simp, h, rfl⟩
theorem DArr.app : ∀ {xs : List α} {ra : List (List Value)} {r1 : Ob}, DArr d w r1 xs ra → DArr d w r2 ys rb → DArr d w (r1 ++ r2) (xs ++ ys) (ra ++ rb)
 | [], [], _, h, g => by simp only [DArr] at h; rw [h]; exact g
 | _ :: _, _ :: _, _, ⟨p, q, e, h1, h2⟩, g => ⟨p, q ++ r2, by rw [e, List.append_assoc], h1, DArr.app h2 g⟩
theorem DArr.arr {S S' : Sp} : ∀ {xs : List α} {ra : List (List Value)} {rr : Ob} {cs : List Value}, DArr d w rr xs ra → Arr (Kd.cells k.sz) w S' ra cs → (∀ b, some b ∈ rr → S b) → Arr k w S xs cs
 | [], [], _, _, _, h, _ => h
 | _ :: _, _ :: _, _, _, ⟨p, q, e, h1, h2⟩, ⟨c1, c2, e', hc, h3⟩, g => ⟨c1, c2, e', by
   rw [hc.1]; exact d.toR h1 fun b hb => g b (by rw [e]; exact List.mem_append_left _ hb), DArr.arr h2 h3 fun b hb => g b (by rw [e]; exact List.mem_append_right _ hb)⟩
theorem DArr.at_ : ∀ {xs : List α} {ra : List (List Value)} {rr : Ob} (i : Nat) (z : α), DArr d w rr xs ra → i < xs.length →
  ∃ r, (∀ b, some b ∈ r → some b ∈ rr) ∧ (Dj rr → Dj r) ∧ d.D w r (xs.getD i z) (ra.getD i default) ∧
   ∀ w' y c, Dj rr → (∀ b, some b ∈ rr → some b ∉ r → w'.heap[b]? = w.heap[b]?) → d.D w' r y c → DArr d w' rr (xs.set i y) (ra.set i c)
 | [], [], _, _, _, _, h => absurd h (by simp)
 | x :: xs, c :: ra, _, 0, _, ⟨p, q, e, h1, h2⟩, _ => ⟨p, fun b hb => by rw [e]; exact List.mem_append_left _ hb, fun dj => by rw [e] at dj; exact dj.left, h1, fun w' y c' dj g hy => ⟨p, q, e, hy, h2.keep fun b hb => g b (by rw [e]; exact List.mem_append_right _ hb) fun hp => by rw [e] at dj; exact dj.disj b hp hb⟩⟩
 | x :: xs, c :: ra, _, i + 1, z, ⟨p, q, e, h1, h2⟩, hi => by
  obtain ⟨r, a1, a2, a3, a4⟩ := DArr.at_ i z h2 (by simpa using hi)
  refine ⟨r, fun b hb => by rw [e]; exact List.mem_append_right _ (a1 b hb), fun dj => by rw [e] at dj; exact a2 dj.right, by simpa using a3, fun w' y c' dj g hy => ?_⟩
  rw [e] at dj
  exact ⟨p, q, e, d.keep h1 fun b hb => g b (by rw [e]; exact List.mem_append_left _ hb) fun hr => dj.disj b hb (a1 b hr), a4 w' y c' dj.right (fun b hb hn => g b (by rw [e]; exact List.mem_append_right _ hb) hn) hy⟩
theorem DArr.fnil {hf : k.Flat} : ∀ {xs : List α} {ra : List (List Value)} {rr : Ob}, DArr (Dd.flat hf) w rr xs ra → rr = []
 | [], [], _, h => h
 | _ :: _, _ :: _, _, ⟨p, q, e, h1, h2⟩ => by rw [e, h1.1, DArr.fnil h2]; rfl
theorem DArr.of_flat (hf : k.Flat) {S : Sp} : ∀ {xs : List α} {cs : List Value}, Arr k w S xs cs → ∃ ra, DArr (Dd.flat hf) w [] xs ra ∧ ∀ S', Arr (Kd.cells k.sz) w S' ra cs
 | [], _, h => ⟨[], rfl, fun _ => h⟩
 | _ :: _, _, ⟨c1, c2, e, h1, h2⟩ => by
  obtain ⟨ra, a1, a2⟩ := DArr.of_flat hf h2
  exact ⟨c1 :: ra, ⟨[], [], rfl, ⟨rfl, hf _ _ _ _ _ _ h1⟩, a1⟩, fun S' => ⟨c1, c2, e, ⟨rfl, k.len h1, fun u hu => k.one h1 u hu⟩, a2 S'⟩⟩
end
def Ds {α : Type} {k : Kd α} (d : Dd k) (e : TypeId) (w : World) (rs : Ob) (v : Value) (xs : List α) : Prop :=
 ∃ ra rr, rs = blk v :: rr ∧ Ow (Kd.cells k.sz) e w [blk v] v ra ∧ DArr d w rr xs ra
section
variable {α : Type} {k : Kd α} {d : Dd k} {e : TypeId} {w w' w0 w1 : World} {rr rs r1 r2 O O' L m : Ob} {xs ys : List α} {ra rb : List (List Value)} {v : Value} {r : Option Nat} {i j : Nat}
theorem Ow.csl (hw : Ow (Kd.cells k.sz) e w O v ra) (hd : DArr d w rr xs ra) (S : Sp) (h1 : ∀ b, blk v = some b → S b) (h2 : ∀ b, some b ∈ rr → S b) : Sl k w S v xs := by
 have hl := hd.len
 obtain ⟨cells, o1, o2, o3⟩ := hw
 obtain ⟨A, c, rfl⟩ := ownsRow.shape o1
 have hc : ra.length ≤ c ∧ c ≤ 9223372036854775807 := by
  rcases o1.2 with ⟨e, e'⟩ | ⟨g, cap, cur, e, _, _, h, hm, _⟩
  ·simp only [Value.slice.injEq] at e; omega
  ·cases e; exact ⟨h, hm⟩
 refine ⟨A, c, cells, by rw [hl], by rw [← hl]; exact hc, hd.arr o2 h2, fun j u hu => ?_⟩
 rcases o1.2 with ⟨e, e'⟩ | ⟨g, cap, cur, e, _, hg, h, _⟩
 ·have := o1.1
  have hl : cells = [] := List.length_eq_zero_iff.1 (by rw [this, e']; simp)
  subst hl; simp at hu
 ·cases e
  have hcell := World.ownsRow.cells o1 (g := g) rfl j u hu
  exact ⟨_, rfl, h1 _ rfl, hcell⟩
theorem Ds.mk (hw : Ow (Kd.cells k.sz) e w O v ra) (hd : DArr d w rr xs ra) : Ds d e w (blk v :: rr) v xs :=
 ⟨ra, rr, rfl, hw.flto (cells_flat _) fun b hb => ⟨rfl, by rw [← hb]; exact List.mem_cons_self⟩, hd⟩
theorem Ds.ofOw (hf : k.Flat) (h : Ow k e w O v xs) : Ds (Dd.flat hf) e w [blk v] v xs := by
 obtain ⟨cells, o1, o2, o3⟩ := h
 obtain ⟨ra, a1, a2⟩ := DArr.of_flat hf o2
 exact ⟨ra, [], rfl, ⟨cells, by rw [a1.len]; exact o1, a2 _, fun b hb => by rw [← hb]; exact List.mem_cons_self⟩, a1⟩
theorem Ds.upf {hf : k.Flat} (h : Ds (Dd.flat hf) e w rs v xs) (h' : Ow k e w' O v ys) : Ds (Dd.flat hf) e w' rs v ys := by
 obtain ⟨ra, rr, e1, _, hd⟩ := h
 rw [e1, hd.fnil]; exact Ds.ofOw hf h'
theorem Ds.shape (h : Ds d e w rs v xs) : ∃ A n c, v = .slice A n c := by
 obtain ⟨ra, rr, e1, ho, hd⟩ := h
 obtain ⟨A, c, e⟩ := ho.shape
 exact ⟨A, _, c, e⟩
end
def Dd.sl {α : Type} {k : Kd α} (d : Dd k) (e : TypeId) : Dd (Kd.sl k) where
 D := fun w rs x cs => ∃ v, cs = [v] ∧ Ds d e w rs v x
 keep := fun ⟨v, e1, ra, rr, e2, ho, hd⟩ g => ⟨v, e1, ra, rr, e2, ho.flto (cells_flat _) fun b hb => ⟨g b (by rw [e2, hb]; exact List.mem_cons_self), by rw [← hb]; exact List.mem_cons_self⟩, hd.keep fun b hb => g b (by rw [e2]; exact List.mem_cons_of_mem _ hb)⟩
 lt := fun ⟨v, e1, ra, rr, e2, ho, hd⟩ b hb => by
  rw [e2] at hb; rcases List.mem_cons.1 hb with hb | hb
  ·exact ho.ltb b hb.symm
  ·exact hd.lt b hb
 toR := fun ⟨v, e1, ra, rr, e2, ho, hd⟩ g => ⟨v, e1, ho.csl hd _ (fun b hb => g b (by rw [e2, hb]; exact List.mem_cons_self)) fun b hb => g b (by rw [e2]; exact List.mem_cons_of_mem _ hb)⟩
def Foc {α β : Type} {k : Kd α} {k' : Kd β} (d : Dd k) (d' : Dd k') (off : Nat) (get : α → β) (put : α → β → α) : Prop :=
 ∀ w r x cs, d.D w r x cs → ∃ r' pre c post, (∀ b, some b ∈ r' → some b ∈ r) ∧ (Dj r → Dj r') ∧ cs = pre ++ c ++ post ∧ pre.length = off ∧ d'.D w r' (get x) c ∧
  ∀ w' y c', Dj r → (∀ b, some b ∈ r → some b ∉ r' → w'.heap[b]? = w.heap[b]?) → d'.D w' r' y c' → d.D w' r (put x y) (pre ++ c' ++ post)
theorem Foc.left {α β : Type} {a : Kd α} {b : Kd β} {p : Dd a} {q : Dd b} : Foc (p.pair q) p 0 (fun x => x.1) (fun x y => (y, x.2)) := fun w r x cs ⟨r1, r2, c1, c2, e, e', h1, h2⟩ =>
 ⟨r1, [], c1, c2, fun b hb => by rw [e]; exact List.mem_append_left _ hb, fun dj => by rw [e] at dj; exact dj.left, by simpa using e', rfl, h1, fun w' y c' dj g hy =>
  ⟨r1, r2, c', c2, e, by simp, hy, q.keep h2 fun b hb => g b (by rw [e]; exact List.mem_append_right _ hb) fun hp => by rw [e] at dj; exact dj.disj b hp hb⟩⟩
theorem Foc.right {α β : Type} {a : Kd α} {b : Kd β} {p : Dd a} {q : Dd b} : Foc (p.pair q) q a.sz (fun x => x.2) (fun x y => (x.1, y)) := fun w r x cs ⟨r1, r2, c1, c2, e, e', h1, h2⟩ =>
 ⟨r2, c1, c2, [], fun b hb => by rw [e]; exact List.mem_append_right _ hb, fun dj => by rw [e] at dj; exact dj.right, by simpa using e', a.len (p.toR (S := fun _ => True) h1 fun _ _ => trivial), h2, fun w' y c' dj g hy =>
  ⟨r1, r2, c1, c', e, by simp, p.keep h1 fun b hb => g b (by rw [e]; exact List.mem_append_left _ hb) fun hp => by rw [e] at dj; exact dj.disj b hb hp, hy⟩⟩
theorem Foc.iso {α β γ : Type} {a : Kd α} {k' : Kd γ} {p : Dd a} {d' : Dd k'} {f : β → α} (g : α → β) (hg : ∀ y, f (g y) = y) {off : Nat} {get : α → γ} {put : α → γ → α} (h : Foc p d' off get put) : Foc (p.iso f) d' off (fun x => get (f x)) (fun x y => g (put (f x) y)) := fun w r x cs hD => by
 obtain ⟨r', pre, c, post, h1, h2, h3, h4, h5, h6⟩ := h w r (f x) cs hD
 exact ⟨r', pre, c, post, h1, h2, h3, h4, h5, fun w' y c' dj q hy => by
  have := h6 w' y c' dj q hy
  show p.D w' r (f (g (put (f x) y))) _
  rw [hg]; exact this⟩
theorem Foc.trans {α β γ : Type} {a : Kd α} {b : Kd β} {c0 : Kd γ} {d1 : Dd a} {d2 : Dd b} {d3 : Dd c0} {o1 o2 : Nat} {g1 : α → β} {s1 : α → β → α} {g2 : β → γ} {s2 : β → γ → β} (h : Foc d1 d2 o1 g1 s1) (h' : Foc d2 d3 o2 g2 s2) :
  Foc d1 d3 (o1 + o2) (fun x => g2 (g1 x)) (fun x y => s1 x (s2 (g1 x) y)) := fun w r x cs hD => by
 obtain ⟨r', pre, c, post, h1, h2, h3, h4, h5, h6⟩ := h w r x cs hD
 obtain ⟨r'', pre', c', post', k1, k2, k3, k4, k5, k6⟩ := h' w r' (g1 x) c h5
 refine ⟨r'', pre ++ pre', c', post' ++ post, fun b hb => h1 b (k1 b hb), fun dj => k2 (h2 dj), by rw [h3, k3]; simp, by simp [h4, k4], k5, fun w' y cy dj g hy => ?_⟩
 have := h6 w' _ _ dj (fun b hb hn => g b hb fun hm => hn (k1 b hm)) (k6 w' y cy (h2 dj) (fun b hb hn => g b (h1 b hb) hn) hy)
 simpa using this
section
variable {α : Type} {k : Kd α} {d : Dd k} {e : TypeId} {w w' w0 w1 : World} {rr qq rs O L L' m : Ob} {xs ys : List α} {ra rb : List (List Value)} {v u : Value} {r : Option Nat} {i j : Nat}
theorem Ct.nin (c : Ct m w0 w L O) (hi : L[i]? = some r) {b : Nat} (hm : some b ∈ L.drop (i + 1)) : r ≠ some b := fun e => by
 obtain ⟨j, hj⟩ := List.getElem?_of_mem hm
 rw [List.getElem?_drop] at hj
 exact Dj.ne c.dj (get_app hi) (get_app hj) OM b e rfl
theorem DArr.sm (h : DArr d w rr xs ra) (c : Ct m w0 w L O) (hi : L[i]? = some r) (hm : ∀ b, some b ∈ rr → some b ∈ L.drop (i + 1)) (g : Gr w w' r) : DArr d w' rr xs ra :=
 h.keep fun b hb => g.block b (h.lt b hb) fun e => c.nin hi (hm b hb) e.symm
theorem DArr.swm (h : DArr d w rr xs ra) (c : Ct m w0 w L O) (hm : ∀ b, some b ∈ rr → some b ∈ L) (hr : ∀ b, r = some b → some b ∈ m) (g : Gr w w' r) : DArr d w' rr xs ra :=
 h.keep fun b hb => g.block b (h.lt b hb) fun e => by have := c.ge b (hm b hb); have := (c.mo b (hr b e.symm)).2; omega
theorem Dp.gv (hw : Ow (Kd.cells k.sz) e w (L ++ O) v ra) (hd : DArr d w rr xs ra) (c : Ct m w0 w L O) (p : L.Perm (blk v :: (rr ++ L'))) : Sl k w (Fr (L' ++ O)) v xs ∧ Ct m w0 w L' O ∧ St w (L ++ O) w (L' ++ O) := by
 have c' := c.perm p
 have dj : Dj (blk v :: (rr ++ (L' ++ O))) := by have := c'.dj; simpa using this
 refine ⟨hw.csl hd _ (fun b hb hm => dj.1 b hb (List.mem_append_right _ hm)) fun b hb hm => dj.2.disj b hb hm, ⟨c'.gr, dj.2.right, fun b hb => c'.lt b ?_, fun b hb => c'.ge b ?_, c'.mo⟩, ⟨rfl, rfl, rfl, Nat.le_refl _, fun _ _ _ => rfl, fun b _ hn hm => hn ?_⟩⟩
 ·rcases List.mem_append.1 hb with hb | hb
  ·exact List.mem_append_left _ (List.mem_cons_of_mem _ (List.mem_append_right _ hb))
  ·exact List.mem_append_right _ hb
 ·exact List.mem_cons_of_mem _ (List.mem_append_right _ hb)
 ·rcases List.mem_append.1 hm with hm | hm
  ·exact List.mem_append_left _ (p.mem_iff.2 (List.mem_cons_of_mem _ (List.mem_append_right _ hm)))
  ·exact List.mem_append_right _ hm
theorem Dp.own (hw : Ow (Kd.cells k.sz) e w (L ++ O) v ra) (hd : DArr d w rr xs ra) (c : Ct m w0 w L O) (p : L.Perm (rr ++ L')) (hv : ∀ b, blk v = some b → some b ∈ L') : Ow k e w (L' ++ O) v xs ∧ Ct m w0 w L' O ∧ St w (L ++ O) w (L' ++ O) := by
 have c' := c.perm p
 have dj : Dj (rr ++ (L' ++ O)) := by have := c'.dj; simpa using this
 have hd' : ∀ b, some b ∈ rr → Fr (L' ++ O) b := fun b hb hm => dj.disj b hb hm
 refine ⟨?_, ⟨c'.gr, dj.right, fun b hb => c'.lt b ?_, fun b hb => c'.ge b ?_, c'.mo⟩, ⟨rfl, rfl, rfl, Nat.le_refl _, fun _ _ _ => rfl, fun b _ hn hm => hn ?_⟩⟩
 ·obtain ⟨cells, o1, o2, o3⟩ := hw
  exact ⟨cells, by rw [← hd.len]; exact o1, hd.arr o2 hd', fun b hb => List.mem_append_left _ (hv b hb)⟩
 ·rcases List.mem_append.1 hb with hb | hb
  ·exact List.mem_append_left _ (List.mem_append_right _ hb)
  ·exact List.mem_append_right _ hb
 ·exact List.mem_append_right _ hb
 ·rcases List.mem_append.1 hm with hm | hm
  ·exact List.mem_append_left _ (p.mem_iff.2 (List.mem_append_right _ hm))
  ·exact List.mem_append_right _ hm
theorem Ct.drops (c : Ct m w0 w L O) (p : L.Perm (rs ++ L')) : Ct m w0 w L' O := by
 have c' := c.perm p
 have dj : Dj (rs ++ (L' ++ O)) := by have := c'.dj; simpa using this
 refine ⟨c'.gr, dj.right, fun b hb => c'.lt b ?_, fun b hb => c'.ge b ?_, c'.mo⟩
 ·rcases List.mem_append.1 hb with hb | hb
  ·exact List.mem_append_left _ (List.mem_append_right _ hb)
  ·exact List.mem_append_right _ hb
 ·exact List.mem_append_right _ hb
theorem St.drops (w : World) (O : Ob) (p : L.Perm (rs ++ L')) : St w (L ++ O) w (L' ++ O) := ⟨rfl, rfl, rfl, Nat.le_refl _, fun _ _ _ => rfl, fun b _ hn hm => hn (by
 rcases List.mem_append.1 hm with hm | hm
 ·exact List.mem_append_left _ (p.mem_iff.2 (List.mem_append_right _ hm))
 ·exact List.mem_append_right _ hm)⟩
theorem Ow.drops {β : Type} {k' : Kd β} {zs : List β} (h : Ow k' e w (L ++ O) u zs) (p : L.Perm (rs ++ L')) (hi : ∀ b, blk u = some b → some b ∈ L') : Ow k' e w (L' ++ O) u zs :=
 h.st0 (.drops w O p) (Gr.refl _ _) fun b hb => List.mem_append_left _ (hi b hb)
theorem memi {x : Option Nat} (i : Nat) (h : L[i]? = some x) : ∀ b, x = some b → some b ∈ L := fun b e => by rw [← e]; exact List.mem_of_getElem? h
theorem Ct.odr {β : Type} {k' : Kd β} {zs : List β} {rs L' : Ob} (c : Ct m w0 w L O) (h : Ow k' e w (L ++ O) u zs) (p : L.Perm (rs ++ L')) (j : Nat) (hj : L'[j]? = some (blk u)) : Ow k' e w (L' ++ O) u zs := Ow.drops h p (memi j hj)
theorem Dp.len {A : Option Addr} {n c : Nat} (hw : Ow (Kd.cells k.sz) e w O (.slice A n c) ra) (hd : DArr d w rr xs ra) : n = xs.length := hw.len.trans hd.len
theorem Dp.le (hw : Ow (Kd.cells k.sz) e w O v ra) (hd : DArr d w rr xs ra) : xs.length ≤ 9223372036854775807 := by rw [← hd.len]; exact hw.le
theorem Dj.none : ∀ {qs B : Ob}, (∀ x ∈ qs, x = none) → Dj B → Dj (qs ++ B)
 | [], _, _, d => d
 | a :: qs, B, h, d => ⟨fun b e => (by rw [h a List.mem_cons_self] at e; cases e), Dj.none (fun x hx => h x (List.mem_cons_of_mem _ hx)) d⟩
theorem DArr.rep {z : α} {c : List Value} {r : Ob} (h : d.D w r z c) : ∀ n, DArr d w (List.replicate n r).flatten (List.replicate n z) (List.replicate n c)
 | 0 => rfl
 | n + 1 => ⟨r, _, rfl, h, DArr.rep h n⟩
theorem Ds.nil : Ds d e w [none] (.slice none 0 0) [] := ⟨[], [], rfl, Ow.nil _ _ _ _, rfl⟩
theorem DArr.put {y : α} {c : List Value} {rn : Ob} (hy : d.D w rn y c) : ∀ {xs : List α} {ra : List (List Value)} {rr : Ob} (i : Nat), DArr d w rr xs ra → i < xs.length → ∃ rr' ro, (rr ++ rn).Perm (ro ++ rr') ∧ DArr d w rr' (xs.set i y) (ra.set i c)
 | [], [], _, _, _, h => absurd h (by simp)
 | x :: xs, c0 :: ra, _, 0, ⟨p, q, e, h1, h2⟩, _ => ⟨rn ++ q, p, by rw [e, List.append_assoc]; exact (List.perm_append_comm).append_left p, rn, q, rfl, hy, h2⟩
 | x :: xs, c0 :: ra, _, i + 1, ⟨p, q, e, h1, h2⟩, hi => by
  obtain ⟨rr', ro, pp, h⟩ := DArr.put hy i h2 (by simpa using hi)
  refine ⟨p ++ rr', ro, ?_, p, rr', rfl, h1, h⟩
  rw [e, List.append_assoc]
  refine (pp.append_left p).trans ?_
  rw [← List.append_assoc, ← List.append_assoc]
  exact (List.perm_append_comm).append_right rr'
end
section
variable {P : Program} {n : Nat} {N R : Ps} {X : Nat → Ps} {t : Tm} {w : World} {ops : Array Oper} {rest : List Oper} {ty : TypeId} {pos : String} {aft : Array Edge} {x y : Operand}
end
section
variable {P : Program} {n : Nat} {t : Tm} {C : World → Prop} {x : Operand} {dd : Nat} {ty : TypeId} {pos : String} {aft : Array Edge}
end
theorem int_flat (kd : IntKind) : (Kd.int kd).Flat := fun _ _ _ _ _ _ h => h
theorem bool_flat : Kd.bool.Flat := fun _ _ _ _ _ _ h => h
theorem str_flat : Kd.str.Flat := fun _ _ _ _ _ _ h => h
theorem pair_flat {α β : Type} {a : Kd α} {b : Kd β} (ha : a.Flat) (hb : b.Flat) : (Kd.pair a b).Flat := fun w S w' S' x cs ⟨c1, c2, e, h1, h2⟩ => ⟨c1, c2, e, ha _ _ _ _ _ _ h1, hb _ _ _ _ _ _ h2⟩
theorem iso_flat {α β : Type} {a : Kd α} (ha : a.Flat) (f : β → α) : (Kd.iso a f).Flat := fun w S w' S' x cs h => ha _ _ _ _ _ _ h
end
section
def upf (f : Nat → Bool) (i : Nat) : Nat → Bool := fun j => bif Nat.beq j i then true else f j
theorem upf_self (f : Nat → Bool) (i : Nat) : upf f i i = true := by unfold upf; rw [Nat.beq_refl]; rfl
theorem upf_ne (f : Nat → Bool) {i j : Nat} (h : j ≠ i) : upf f i j = f j := by unfold upf; rw [beq_ne h]; rfl
def Rl (ops : Array Oper) (listed : Array Bool) (S : List Nat) (f : Nat → Bool) (ls : Array Bool) : Prop := ls.size = ops.size ∧ ∀ j, j < ops.size → ls.getD j true = (listed.getD j true || (S.contains j && f j))
section
variable {P : Program} {n : Nat} {N R : Ps} {X : Nat → Ps} {ops : Array Oper} {C : World → Prop} {listed : Array Bool} {m : Nat} {S fin : List Nat}
theorem Rl.set {f : Nat → Bool} {ls : Array Bool} (h : Rl ops listed S f ls) {i : Nat} (hi : i ∈ S) (hl : i < ops.size) : Rl ops listed S (upf f i) (ls.setIfInBounds i true) := by
 refine ⟨by rw [Array.size_setIfInBounds]; exact h.1, fun j hj => ?_⟩
 by_cases e : j = i
 ·subst e
  have : S.contains j = true := List.contains_iff_mem.2 hi
  rw [this, upf_self]
  have hl' : j < ls.size := by rw [h.1]; exact hl
  simp [Array.getD, hl']
 ·rw [getD_set_ne true (Ne.symm e), upf_ne f e]; exact h.2 j hj
end
end
section
theorem nb {i j : Nat} (h : Nat.beq i j = false) : i ≠ j := fun e => by subst e; rw [Nat.beq_refl] at h; cases h
section
variable {α : Type} {k : Kd α} {e : TypeId} {w w' w0 : World} {v : Value} {xs : List α} {O L L' m rs : Ob} {r r' : Option Nat} {b : Nat} {cs : List Value}
theorem Ct.stn (c : Ct m w0 w L O) (g : Gr w w' none) : St w (L ++ O) w' (L ++ O) := .new _ g
theorem Ct.stown (c : Ct m w0 w L O) (r : Option Nat) (g : Gr w w' none) (hr : ∀ b, r = some b → w.heap.size ≤ b) : St w (L ++ O) w' (r :: L ++ O) := .own _ r g hr
theorem Ct.stw (c : Ct m w0 w L O) (j : Nat) (hj : L[j]? = some r) (g : Gr w w' r) : St w (L ++ O) w' (L ++ O) := .wl hj g
theorem Ct.stm (c : Ct [r] w0 w L O) (g : Gr w w' r) : St w (L ++ O) w' (L ++ O) := .wm c g
theorem Ct.std (c : Ct m w0 w L O) (j : Nat) (hj : Nat.blt j L.length = true) : St w (L ++ O) w (L.eraseIdx j ++ O) := .dr w hj
theorem Ct.stp (c : Ct m w0 w L O) (p : L.Perm L') : St w (L ++ O) w (L' ++ O) := .perm p
theorem Ct.stos (c : Ct m w0 w L O) (g : Gr w w' none) (hr : ∀ b, some b ∈ rs → w.heap.size ≤ b) : St w (L ++ O) w' (rs ++ (L ++ O)) := .owns _ g hr
theorem Ct.stow (c : Ct m w0 w L O) (j : Nat) (hj : L[j]? = some r) (g : Gr w w' r) (hge : ∀ b, some b ∈ rs → w.heap.size ≤ b) : St w (L ++ O) w' (rs ++ (L ++ O)) := .ownw hj g hge
theorem Ct.st0n (c : Ct m w0 w L O) : St w (L ++ O) w (none :: L ++ O) := .own _ none (Gr.refl _ none) (by simp)
theorem Ct.sw (c : Ct m w0 w L O) (h : Ow k e w (L ++ O) v xs) (i j : Nat) (hi : L[i]? = some (blk v)) (hj : L[j]? = some r) (hij : Nat.beq i j = false) (g : Gr w w' r) : Ow k e w' (L ++ O) v xs := h.sw c hi hj (nb hij) g
theorem Ct.swm (c : Ct [r] w0 w L O) (h : Ow k e w (L ++ O) v xs) (i : Nat) (hi : L[i]? = some (blk v)) (g : Gr w w' r) : Ow k e w' (L ++ O) v xs := Ow.swm h c hi g
theorem Ct.sm (c : Ct m w0 w L O) (h : Ow k e w (L ++ O) v xs) (i j : Nat) (hi : L[i]? = some (blk v)) (hj : L[j]? = some r) (hij : Nat.beq i j = false) (g : Gr w w' r) (s : St w (L ++ O) w' (L.set j r' ++ O)) : Ow k e w' (L.set j r' ++ O) v xs := h.sm c hi hj (nb hij) g s
theorem Ct.sd (c : Ct m w0 w L O) (h : Ow k e w (L ++ O) v xs) (i j : Nat) (hi : L[i]? = some (blk v)) (hj : Nat.blt j L.length = true) (hij : Nat.beq i j = false) : Ow k e w (L.eraseIdx j ++ O) v xs := h.sd hi hj (nb hij)
theorem Ct.sp (c : Ct m w0 w L O) (h : Ow k e w (L ++ O) v xs) (p : L.Perm L') : Ow k e w (L' ++ O) v xs := Ow.sp h p
theorem Ct.bm (c : Ct m w0 w L O) (h : Bx w b cs) (i j : Nat) (hi : L[i]? = some (some b)) (hj : L[j]? = some r) (hij : Nat.beq i j = false) (g : Gr w w' r) : Bx w' b cs := h.sm c hi hj (nb hij) g
theorem Ct.bwm (c : Ct [r] w0 w L O) (h : Bx w b cs) (i : Nat) (hi : L[i]? = some (some b)) (g : Gr w w' r) : Bx w' b cs := Bx.swm h c hi g
theorem Ct.bmo (c : Ct [some b] w0 w L O) (h : Bx w b cs) (j : Nat) (hj : L[j]? = some r) (g : Gr w w' r) : Bx w' b cs := Bx.mo h c hj g
theorem Ct.gv (c : Ct m w0 w L O) (h : Ow k e w (L ++ O) v xs) (i : Nat) (hi : L[i]? = some (blk v)) : Sl k w (Fr (L.eraseIdx i ++ O)) v xs := Ow.gv h c hi
theorem Ct.bgv (c : Ct m w0 w L O) (h : Bx w b cs) (i : Nat) (hi : L[i]? = some (some b)) : Fb w (L.eraseIdx i ++ O) b cs := Bx.gv h c hi
theorem Ct.fne (c : Ct m w0 w L O) (i : Nat) (h : Fr (L ++ O) b) (hr : L[i]? = some r) : some b ≠ r := fr_ne h hr
end
end
structure l12Rd where
 b : List UInt8
 p : Int
 deriving Inhabited, DecidableEq
def kl12Rd : Kd l12Rd := Kd.iso (Kd.pair (Kd.sl Kd.byte) (Kd.int .i64)) (fun x => (x.b, x.p))
theorem kl12Rd.mk (w : World) (S : Sp) (x : l12Rd) {A0 : Option Addr} {n0 c0 : Nat} (h0 : Sl Kd.byte w S (.slice A0 n0 c0) x.b) : kl12Rd.R w S x [.slice A0 n0 c0, vi x.p] := ⟨[.slice A0 n0 c0], [vi x.p], rfl, ⟨_, rfl, h0⟩, rfl⟩
theorem kl12Rd.op {w : World} {S : Sp} {x : l12Rd} {cs : List Value} (h : kl12Rd.R w S x cs) : ∃ A0 n0 c0, cs = [.slice A0 n0 c0, vi x.p] ∧ Sl Kd.byte w S (.slice A0 n0 c0) x.b := by
 obtain ⟨_, _, rfl, ⟨_, rfl, h1⟩, rfl⟩ := h
 obtain ⟨A901, c901, rfl⟩ := h1.shape
 exact ⟨A901, _, c901, rfl, h1⟩
structure Pt where
 X : Int
 Y : Int
 deriving Inhabited, DecidableEq
def kPt : Kd Pt := Kd.iso (Kd.pair (Kd.int .i64) (Kd.int .i64)) (fun x => (x.X, x.Y))
theorem kPt_flat : kPt.Flat := iso_flat (pair_flat (int_flat _) (int_flat _)) _
theorem kPt.mk (w : World) (S : Sp) (x : Pt) : kPt.R w S x [vi x.X, vi x.Y] := ⟨[vi x.X], [vi x.Y], rfl, rfl, rfl⟩
theorem kPt.op {w : World} {S : Sp} {x : Pt} {cs : List Value} (h : kPt.R w S x cs) : cs = [vi x.X, vi x.Y] := by
 obtain ⟨_, _, rfl, rfl, rfl⟩ := h
 exact rfl
structure Shape where
 Kind : Int
 Pts : List Pt
 deriving Inhabited, DecidableEq
def kShape : Kd Shape := Kd.iso (Kd.pair (Kd.int .i64) (Kd.sl kPt)) (fun x => (x.Kind, x.Pts))
theorem kShape.mk (w : World) (S : Sp) (x : Shape) {A1 : Option Addr} {n1 c1 : Nat} (h1 : Sl kPt w S (.slice A1 n1 c1) x.Pts) : kShape.R w S x [vi x.Kind, .slice A1 n1 c1] := ⟨[vi x.Kind], [.slice A1 n1 c1], rfl, rfl, ⟨_, rfl, h1⟩⟩
theorem kShape.op {w : World} {S : Sp} {x : Shape} {cs : List Value} (h : kShape.R w S x cs) : ∃ A1 n1 c1, cs = [vi x.Kind, .slice A1 n1 c1] ∧ Sl kPt w S (.slice A1 n1 c1) x.Pts := by
 obtain ⟨_, _, rfl, rfl, ⟨_, rfl, h1⟩⟩ := h
 obtain ⟨A901, c901, rfl⟩ := h1.shape
 exact ⟨A901, _, c901, rfl, h1⟩
structure Tag where
 Key : Str
 Val : Str
 deriving Inhabited, DecidableEq
def kTag : Kd Tag := Kd.iso (Kd.pair Kd.str Kd.str) (fun x => (x.Key, x.Val))
theorem kTag_flat : kTag.Flat := iso_flat (pair_flat str_flat str_flat) _
theorem kTag.mk (w : World) (S : Sp) (x : Tag) (h0 : Lim x.Key) (h1 : Lim x.Val) : kTag.R w S x [vs x.Key, vs x.Val] := ⟨[vs x.Key], [vs x.Val], rfl, ⟨rfl, h0⟩, ⟨rfl, h1⟩⟩
theorem kTag.op {w : World} {S : Sp} {x : Tag} {cs : List Value} (h : kTag.R w S x cs) : cs = [vs x.Key, vs x.Val] ∧ Lim x.Key ∧ Lim x.Val := by
 obtain ⟨_, _, rfl, ⟨rfl, h1⟩, ⟨rfl, h2⟩⟩ := h
 exact ⟨rfl, h1, h2⟩
structure Feat where
 Id : Str
 Shape : Shape
 Tags : List Tag
 deriving Inhabited, DecidableEq
def kFeat : Kd Feat := Kd.iso (Kd.pair Kd.str (Kd.pair kShape (Kd.sl kTag))) (fun x => (x.Id, x.Shape, x.Tags))
theorem kFeat.mk (w : World) (S : Sp) (x : Feat) {A2 : Option Addr} {n2 c2 : Nat} {A3 : Option Addr} {n3 c3 : Nat} (h0 : Lim x.Id) (h2 : Sl kPt w S (.slice A2 n2 c2) x.Shape.Pts) (h3 : Sl kTag w S (.slice A3 n3 c3) x.Tags) : kFeat.R w S x [vs x.Id, vi x.Shape.Kind, .slice A2 n2 c2, .slice A3 n3 c3] := ⟨[vs x.Id], (([vi x.Shape.Kind] ++ [.slice A2 n2 c2]) ++ [.slice A3 n3 c3]), rfl, ⟨rfl, h0⟩, ⟨([vi x.Shape.Kind] ++ [.slice A2 n2 c2]), [.slice A3 n3 c3], rfl, ⟨[vi x.Shape.Kind], [.slice A2 n2 c2], rfl, rfl, ⟨_, rfl, h2⟩⟩, ⟨_, rfl, h3⟩⟩⟩
theorem kFeat.op {w : World} {S : Sp} {x : Feat} {cs : List Value} (h : kFeat.R w S x cs) : ∃ A2 n2 c2 A3 n3 c3, cs = [vs x.Id, vi x.Shape.Kind, .slice A2 n2 c2, .slice A3 n3 c3] ∧ Lim x.Id ∧ Sl kPt w S (.slice A2 n2 c2) x.Shape.Pts ∧ Sl kTag w S (.slice A3 n3 c3) x.Tags := by
 obtain ⟨_, _, rfl, ⟨rfl, h1⟩, ⟨_, _, rfl, ⟨_, _, rfl, rfl, ⟨_, rfl, h2⟩⟩, ⟨_, rfl, h3⟩⟩⟩ := h
 obtain ⟨A901, c901, rfl⟩ := h2.shape
 obtain ⟨A902, c902, rfl⟩ := h3.shape
 exact ⟨A901, _, c901, A902, _, c902, rfl, h1, h2, h3⟩
structure Change where
 Id : Str
 Had : Bool
 Was : Feat
 Has : Bool
 Now : Feat
 deriving Inhabited, DecidableEq
def kChange : Kd Change := Kd.iso (Kd.pair Kd.str (Kd.pair Kd.bool (Kd.pair kFeat (Kd.pair Kd.bool kFeat)))) (fun x => (x.Id, x.Had, x.Was, x.Has, x.Now))
theorem kChange.mk (w : World) (S : Sp) (x : Change) {A4 : Option Addr} {n4 c4 : Nat} {A5 : Option Addr} {n5 c5 : Nat} {A9 : Option Addr} {n9 c9 : Nat} {A10 : Option Addr} {n10 c10 : Nat} (h0 : Lim x.Id) (h2 : Lim x.Was.Id) (h4 : Sl kPt w S (.slice A4 n4 c4) x.Was.Shape.Pts) (h5 : Sl kTag w S (.slice A5 n5 c5) x.Was.Tags) (h7 : Lim x.Now.Id) (h9 : Sl kPt w S (.slice A9 n9 c9) x.Now.Shape.Pts) (h10 : Sl kTag w S (.slice A10 n10 c10) x.Now.Tags) : kChange.R w S x [vs x.Id, vb x.Had, vs x.Was.Id, vi x.Was.Shape.Kind, .slice A4 n4 c4, .slice A5 n5 c5, vb x.Has, vs x.Now.Id, vi x.Now.Shape.Kind, .slice A9 n9 c9, .slice A10 n10 c10] := ⟨[vs x.Id], ([vb x.Had] ++ (([vs x.Was.Id] ++ (([vi x.Was.Shape.Kind] ++ [.slice A4 n4 c4]) ++ [.slice A5 n5 c5])) ++ ([vb x.Has] ++ ([vs x.Now.Id] ++ (([vi x.Now.Shape.Kind] ++ [.slice A9 n9 c9]) ++ [.slice A10 n10 c10]))))), rfl, ⟨rfl, h0⟩, ⟨[vb x.Had], (([vs x.Was.Id] ++ (([vi x.Was.Shape.Kind] ++ [.slice A4 n4 c4]) ++ [.slice A5 n5 c5])) ++ ([vb x.Has] ++ ([vs x.Now.Id] ++ (([vi x.Now.Shape.Kind] ++ [.slice A9 n9 c9]) ++ [.slice A10 n10 c10])))), rfl, rfl, ⟨([vs x.Was.Id] ++ (([vi x.Was.Shape.Kind] ++ [.slice A4 n4 c4]) ++ [.slice A5 n5 c5])), ([vb x.Has] ++ ([vs x.Now.Id] ++ (([vi x.Now.Shape.Kind] ++ [.slice A9 n9 c9]) ++ [.slice A10 n10 c10]))), rfl, ⟨[vs x.Was.Id], (([vi x.Was.Shape.Kind] ++ [.slice A4 n4 c4]) ++ [.slice A5 n5 c5]), rfl, ⟨rfl, h2⟩, ⟨([vi x.Was.Shape.Kind] ++ [.slice A4 n4 c4]), [.slice A5 n5 c5], rfl, ⟨[vi x.Was.Shape.Kind], [.slice A4 n4 c4], rfl, rfl, ⟨_, rfl, h4⟩⟩, ⟨_, rfl, h5⟩⟩⟩, ⟨[vb x.Has], ([vs x.Now.Id] ++ (([vi x.Now.Shape.Kind] ++ [.slice A9 n9 c9]) ++ [.slice A10 n10 c10])), rfl, rfl, ⟨[vs x.Now.Id], (([vi x.Now.Shape.Kind] ++ [.slice A9 n9 c9]) ++ [.slice A10 n10 c10]), rfl, ⟨rfl, h7⟩, ⟨([vi x.Now.Shape.Kind] ++ [.slice A9 n9 c9]), [.slice A10 n10 c10], rfl, ⟨[vi x.Now.Shape.Kind], [.slice A9 n9 c9], rfl, rfl, ⟨_, rfl, h9⟩⟩, ⟨_, rfl, h10⟩⟩⟩⟩⟩⟩⟩
theorem kChange.op {w : World} {S : Sp} {x : Change} {cs : List Value} (h : kChange.R w S x cs) : ∃ A4 n4 c4 A5 n5 c5 A9 n9 c9 A10 n10 c10, cs = [vs x.Id, vb x.Had, vs x.Was.Id, vi x.Was.Shape.Kind, .slice A4 n4 c4, .slice A5 n5 c5, vb x.Has, vs x.Now.Id, vi x.Now.Shape.Kind, .slice A9 n9 c9, .slice A10 n10 c10] ∧ Lim x.Id ∧ Lim x.Was.Id ∧ Sl kPt w S (.slice A4 n4 c4) x.Was.Shape.Pts ∧ Sl kTag w S (.slice A5 n5 c5) x.Was.Tags ∧ Lim x.Now.Id ∧ Sl kPt w S (.slice A9 n9 c9) x.Now.Shape.Pts ∧ Sl kTag w S (.slice A10 n10 c10) x.Now.Tags := by
 obtain ⟨_, _, rfl, ⟨rfl, h1⟩, ⟨_, _, rfl, rfl, ⟨_, _, rfl, ⟨_, _, rfl, ⟨rfl, h2⟩, ⟨_, _, rfl, ⟨_, _, rfl, rfl, ⟨_, rfl, h3⟩⟩, ⟨_, rfl, h4⟩⟩⟩, ⟨_, _, rfl, rfl, ⟨_, _, rfl, ⟨rfl, h5⟩, ⟨_, _, rfl, ⟨_, _, rfl, rfl, ⟨_, rfl, h6⟩⟩, ⟨_, rfl, h7⟩⟩⟩⟩⟩⟩⟩ := h
 obtain ⟨A901, c901, rfl⟩ := h3.shape
 obtain ⟨A902, c902, rfl⟩ := h4.shape
 obtain ⟨A903, c903, rfl⟩ := h6.shape
 obtain ⟨A904, c904, rfl⟩ := h7.shape
 exact ⟨A901, _, c901, A902, _, c902, A903, _, c903, A904, _, c904, rfl, h1, h2, h3, h4, h5, h6, h7⟩
structure Pair where
 A : Int
 B : Int
 deriving Inhabited, DecidableEq
def kPair : Kd Pair := Kd.iso (Kd.pair (Kd.int .i64) (Kd.int .i64)) (fun x => (x.A, x.B))
theorem kPair.mk (w : World) (S : Sp) (x : Pair) : kPair.R w S x [vi x.A, vi x.B] := ⟨[vi x.A], [vi x.B], rfl, rfl, rfl⟩
theorem kPair.op {w : World} {S : Sp} {x : Pair} {cs : List Value} (h : kPair.R w S x cs) : cs = [vi x.A, vi x.B] := by
 obtain ⟨_, _, rfl, rfl, rfl⟩ := h
 exact rfl
structure value where
 has : Bool
 val : Str
 deriving Inhabited, DecidableEq
def kvalue : Kd value := Kd.iso (Kd.pair Kd.bool Kd.str) (fun x => (x.has, x.val))
theorem kvalue.mk (w : World) (S : Sp) (x : value) (h1 : Lim x.val) : kvalue.R w S x [vb x.has, vs x.val] := ⟨[vb x.has], [vs x.val], rfl, rfl, ⟨rfl, h1⟩⟩
theorem kvalue.op {w : World} {S : Sp} {x : value} {cs : List Value} (h : kvalue.R w S x cs) : cs = [vb x.has, vs x.val] ∧ Lim x.val := by
 obtain ⟨_, _, rfl, rfl, ⟨rfl, h1⟩⟩ := h
 exact ⟨rfl, h1⟩
theorem ag102 : IsAgg Tryz.prog 102 true := IsAgg_mk Tryz.underlying102
theorem ag167 : IsAgg Tryz.prog 167 false := IsAgg_mk Tryz.underlying167
theorem ag173 : IsAgg Tryz.prog 173 true := IsAgg_mk Tryz.underlying173
theorem ag22 : IsAgg Tryz.prog 22 false := IsAgg_mk Tryz.underlying22
theorem ag3 : IsAgg Tryz.prog 3 false := IsAgg_mk Tryz.underlying3
theorem ag39 : IsAgg Tryz.prog 39 false := IsAgg_mk Tryz.underlying39
theorem ag4 : IsAgg Tryz.prog 4 false := IsAgg_mk Tryz.underlying4
theorem ag41 : IsAgg Tryz.prog 41 true := IsAgg_mk Tryz.underlying41
theorem ag42 : IsAgg Tryz.prog 42 false := IsAgg_mk Tryz.underlying42
theorem ag44 : IsAgg Tryz.prog 44 true := IsAgg_mk Tryz.underlying44
theorem ag49 : IsAgg Tryz.prog 49 true := IsAgg_mk Tryz.underlying49
theorem ag5 : IsAgg Tryz.prog 5 false := IsAgg_mk Tryz.underlying5
theorem ag50 : IsAgg Tryz.prog 50 false := IsAgg_mk Tryz.underlying50
theorem ag9 : IsAgg Tryz.prog 9 false := IsAgg_mk Tryz.underlying9
theorem ag93 : IsAgg Tryz.prog 93 true := IsAgg_mk Tryz.underlying93
def dShape_41 : Dd kShape := Dd.iso (Dd.pair (Dd.flat (k := (Kd.int .i64)) (int_flat _)) (Dd.sl (Dd.flat kPt_flat) 49)) (fun x : Shape => (x.Kind, x.Pts))
theorem dShape_41.mk (w : World) (x : Shape) {A1 : Option Addr} {n1 c1 : Nat} {r1 : Ob} (h1 : Ds (Dd.flat kPt_flat) 49 w r1 (.slice A1 n1 c1) x.Pts) : dShape_41.D w ([] ++ r1) x [vi x.Kind, .slice A1 n1 c1] := ⟨_, _, [vi x.Kind], [.slice A1 n1 c1], rfl, rfl, ⟨rfl, rfl⟩, ⟨_, rfl, h1⟩⟩
def dFeat_44 : Dd kFeat := Dd.iso (Dd.pair (Dd.flat (k := Kd.str) str_flat) (Dd.pair dShape_41 (Dd.sl (Dd.flat kTag_flat) 93))) (fun x : Feat => (x.Id, x.Shape, x.Tags))
theorem dFeat_44.mk (w : World) (x : Feat) {A2 : Option Addr} {n2 c2 : Nat} {A3 : Option Addr} {n3 c3 : Nat} {r2 : Ob} {r3 : Ob} (h0 : Lim x.Id) (h2 : Ds (Dd.flat kPt_flat) 49 w r2 (.slice A2 n2 c2) x.Shape.Pts) (h3 : Ds (Dd.flat kTag_flat) 93 w r3 (.slice A3 n3 c3) x.Tags) : dFeat_44.D w ([] ++ (([] ++ r2) ++ r3)) x [vs x.Id, vi x.Shape.Kind, .slice A2 n2 c2, .slice A3 n3 c3] := ⟨_, _, [vs x.Id], (([vi x.Shape.Kind] ++ [.slice A2 n2 c2]) ++ [.slice A3 n3 c3]), rfl, rfl, ⟨rfl, rfl, h0⟩, ⟨_, _, ([vi x.Shape.Kind] ++ [.slice A2 n2 c2]), [.slice A3 n3 c3], rfl, rfl, ⟨_, _, [vi x.Shape.Kind], [.slice A2 n2 c2], rfl, rfl, ⟨rfl, rfl⟩, ⟨_, rfl, h2⟩⟩, ⟨_, rfl, h3⟩⟩⟩
def dChange_62 : Dd kChange := Dd.iso (Dd.pair (Dd.flat (k := Kd.str) str_flat) (Dd.pair (Dd.flat (k := Kd.bool) bool_flat) (Dd.pair dFeat_44 (Dd.pair (Dd.flat (k := Kd.bool) bool_flat) dFeat_44)))) (fun x : Change => (x.Id, x.Had, x.Was, x.Has, x.Now))
theorem dChange_62.mk (w : World) (x : Change) {A4 : Option Addr} {n4 c4 : Nat} {A5 : Option Addr} {n5 c5 : Nat} {A9 : Option Addr} {n9 c9 : Nat} {A10 : Option Addr} {n10 c10 : Nat} {r4 : Ob} {r5 : Ob} {r9 : Ob} {r10 : Ob} (h0 : Lim x.Id) (h2 : Lim x.Was.Id) (h4 : Ds (Dd.flat kPt_flat) 49 w r4 (.slice A4 n4 c4) x.Was.Shape.Pts) (h5 : Ds (Dd.flat kTag_flat) 93 w r5 (.slice A5 n5 c5) x.Was.Tags) (h7 : Lim x.Now.Id) (h9 : Ds (Dd.flat kPt_flat) 49 w r9 (.slice A9 n9 c9) x.Now.Shape.Pts) (h10 : Ds (Dd.flat kTag_flat) 93 w r10 (.slice A10 n10 c10) x.Now.Tags) : dChange_62.D w ([] ++ ([] ++ (([] ++ (([] ++ r4) ++ r5)) ++ ([] ++ ([] ++ (([] ++ r9) ++ r10)))))) x [vs x.Id, vb x.Had, vs x.Was.Id, vi x.Was.Shape.Kind, .slice A4 n4 c4, .slice A5 n5 c5, vb x.Has, vs x.Now.Id, vi x.Now.Shape.Kind, .slice A9 n9 c9, .slice A10 n10 c10] := ⟨_, _, [vs x.Id], ([vb x.Had] ++ (([vs x.Was.Id] ++ (([vi x.Was.Shape.Kind] ++ [.slice A4 n4 c4]) ++ [.slice A5 n5 c5])) ++ ([vb x.Has] ++ ([vs x.Now.Id] ++ (([vi x.Now.Shape.Kind] ++ [.slice A9 n9 c9]) ++ [.slice A10 n10 c10]))))), rfl, rfl, ⟨rfl, rfl, h0⟩, ⟨_, _, [vb x.Had], (([vs x.Was.Id] ++ (([vi x.Was.Shape.Kind] ++ [.slice A4 n4 c4]) ++ [.slice A5 n5 c5])) ++ ([vb x.Has] ++ ([vs x.Now.Id] ++ (([vi x.Now.Shape.Kind] ++ [.slice A9 n9 c9]) ++ [.slice A10 n10 c10])))), rfl, rfl, ⟨rfl, rfl⟩, ⟨_, _, ([vs x.Was.Id] ++ (([vi x.Was.Shape.Kind] ++ [.slice A4 n4 c4]) ++ [.slice A5 n5 c5])), ([vb x.Has] ++ ([vs x.Now.Id] ++ (([vi x.Now.Shape.Kind] ++ [.slice A9 n9 c9]) ++ [.slice A10 n10 c10]))), rfl, rfl, ⟨_, _, [vs x.Was.Id], (([vi x.Was.Shape.Kind] ++ [.slice A4 n4 c4]) ++ [.slice A5 n5 c5]), rfl, rfl, ⟨rfl, rfl, h2⟩, ⟨_, _, ([vi x.Was.Shape.Kind] ++ [.slice A4 n4 c4]), [.slice A5 n5 c5], rfl, rfl, ⟨_, _, [vi x.Was.Shape.Kind], [.slice A4 n4 c4], rfl, rfl, ⟨rfl, rfl⟩, ⟨_, rfl, h4⟩⟩, ⟨_, rfl, h5⟩⟩⟩, ⟨_, _, [vb x.Has], ([vs x.Now.Id] ++ (([vi x.Now.Shape.Kind] ++ [.slice A9 n9 c9]) ++ [.slice A10 n10 c10])), rfl, rfl, ⟨rfl, rfl⟩, ⟨_, _, [vs x.Now.Id], (([vi x.Now.Shape.Kind] ++ [.slice A9 n9 c9]) ++ [.slice A10 n10 c10]), rfl, rfl, ⟨rfl, rfl, h7⟩, ⟨_, _, ([vi x.Now.Shape.Kind] ++ [.slice A9 n9 c9]), [.slice A10 n10 c10], rfl, rfl, ⟨_, _, [vi x.Now.Shape.Kind], [.slice A9 n9 c9], rfl, rfl, ⟨rfl, rfl⟩, ⟨_, rfl, h9⟩⟩, ⟨_, rfl, h10⟩⟩⟩⟩⟩⟩⟩
theorem Zp : EI Tryz.prog 139 173 2 16 [.int .i64 0, .int .i64 0] := EI_mk (z := .agg #[.int .i64 0, .int .i64 0]) Tryz.underlying139 RK rfl rfl RD RD
theorem Km : EI Tryz.prog 142 42 1 24 [.slice none 0 0] := EI_mk (z := .slice none 0 0) Tryz.underlying142 RK rfl rfl RD RD
theorem Zk : EI Tryz.prog 167 3 1 8 [.int .i64 0] := EI_mk (z := .int .i64 0) Tryz.underlying167 RK rfl rfl RD RD
theorem Kn : EI Tryz.prog 170 167 1 24 [.slice none 0 0] := EI_mk (z := .slice none 0 0) Tryz.underlying170 RK rfl rfl RD RD
theorem Ye : EI Tryz.prog 39 49 2 16 [.int .i64 0, .int .i64 0] := EI_mk (z := .agg #[.int .i64 0, .int .i64 0]) Tryz.underlying39 RK rfl rfl RD RD
theorem Yl : EI Tryz.prog 42 93 2 32 [vs [], vs []] := EI_mk (z := .agg #[vs [], vs []]) Tryz.underlying42 RK rfl rfl RD RD
theorem Yu : EI Tryz.prog 50 9 1 16 [vs []] := EI_mk (z := vs []) Tryz.underlying50 RK rfl rfl RD RD
theorem Z3 : SizeOf Tryz.prog 173 2 := SizeOf_mk RK
theorem Z9 : SizeOf Tryz.prog 42 1 := SizeOf_mk RK
theorem Y9 : SizeOf Tryz.prog 3 1 := SizeOf_mk RK
theorem Zf : SizeOf Tryz.prog 167 1 := SizeOf_mk RK
theorem Zy : SizeOf Tryz.prog 5 1 := SizeOf_mk RK
theorem Yh : SizeOf Tryz.prog 49 2 := SizeOf_mk RK
theorem Yx : SizeOf Tryz.prog 93 2 := SizeOf_mk RK
theorem Zl : SizeOf Tryz.prog 9 1 := SizeOf_mk RK
def eqvalue (a b : value) : Bool := (a.has == b.has) && (a.val == b.val)
theorem eqvalue_is (x y : value) : eqvalue x y = decide (x = y) := by
 obtain ⟨a, b⟩ := x; obtain ⟨c, d⟩ := y
 simp only [eqvalue, value.mk.injEq, Bool.decide_and]
 by_cases h1 : a = c <;> by_cases h2 : b = d <;> simp [h1, h2]
theorem qt102 (a b : value) : EqT Tryz.prog 102 [vb a.has, vs a.val] [vb b.has, vs b.val] (eqvalue a b) := EqT_mk2 Tryz.underlying102 RK RK RD (cmp1_bool Tryz.underlying4 _ _) (cmp1_str Tryz.underlying9 _ _)
def eqPt (a b : Pt) : Bool := (a.X == b.X) && (a.Y == b.Y)
theorem eqPt_is (x y : Pt) : eqPt x y = decide (x = y) := by
 obtain ⟨a, b⟩ := x; obtain ⟨c, d⟩ := y
 simp only [eqPt, Pt.mk.injEq, Bool.decide_and]
 by_cases h1 : a = c <;> by_cases h2 : b = d <;> simp [h1, h2]
theorem qt49 (a b : Pt) : EqT Tryz.prog 49 [vi a.X, vi a.Y] [vi b.X, vi b.Y] (eqPt a b) := EqT_mk2 Tryz.underlying49 RK RK RD (cmp1_int Tryz.underlying3 _ _) (cmp1_int Tryz.underlying3 _ _)
def eqTag (a b : Tag) : Bool := (a.Key == b.Key) && (a.Val == b.Val)
theorem eqTag_is (x y : Tag) : eqTag x y = decide (x = y) := by
 obtain ⟨a, b⟩ := x; obtain ⟨c, d⟩ := y
 simp only [eqTag, Tag.mk.injEq, Bool.decide_and]
 by_cases h1 : a = c <;> by_cases h2 : b = d <;> simp [h1, h2]
theorem qt93 (a b : Tag) : EqT Tryz.prog 93 [vs a.Key, vs a.Val] [vs b.Key, vs b.Val] (eqTag a b) := EqT_mk2 Tryz.underlying93 RK RK RD (cmp1_str Tryz.underlying9 _ _) (cmp1_str Tryz.underlying9 _ _)
theorem fa102_0 : FA Tryz.prog 102 0 0 := FA_mk 1 0 Tryz.underlying102 rfl RK RD rfl
theorem fa102_1 : FA Tryz.prog 102 1 1 := FA_mk 1 1 Tryz.underlying102 rfl RK RD rfl
theorem fa122_0 : FA Tryz.prog 122 0 0 := FA_mk 1 0 Tryz.underlying122 rfl RK RD rfl
theorem fa122_1 : FA Tryz.prog 122 1 1 := FA_mk 1 1 Tryz.underlying122 rfl RK RD rfl
theorem fa173_0 : FA Tryz.prog 173 0 0 := FA_mk 1 0 Tryz.underlying173 rfl RK RD rfl
theorem fa173_1 : FA Tryz.prog 173 1 1 := FA_mk 1 1 Tryz.underlying173 rfl RK RD rfl
theorem fa41_0 : FA Tryz.prog 41 0 0 := FA_mk 1 0 Tryz.underlying41 rfl RK RD rfl
theorem fa41_1 : FA Tryz.prog 41 1 1 := FA_mk 1 1 Tryz.underlying41 rfl RK RD rfl
theorem fa44_0 : FA Tryz.prog 44 0 0 := FA_mk 1 0 Tryz.underlying44 rfl RK RD rfl
theorem fa44_1 : FA Tryz.prog 44 1 1 := FA_mk 2 1 Tryz.underlying44 rfl RK RD rfl
theorem fa44_2 : FA Tryz.prog 44 2 3 := FA_mk 1 3 Tryz.underlying44 rfl RK RD rfl
theorem fa49_0 : FA Tryz.prog 49 0 0 := FA_mk 1 0 Tryz.underlying49 rfl RK RD rfl
theorem fa49_1 : FA Tryz.prog 49 1 1 := FA_mk 1 1 Tryz.underlying49 rfl RK RD rfl
theorem fa93_0 : FA Tryz.prog 93 0 0 := FA_mk 1 0 Tryz.underlying93 rfl RK RD rfl
theorem fa93_1 : FA Tryz.prog 93 1 1 := FA_mk 1 1 Tryz.underlying93 rfl RK RD rfl
theorem go100 : Goes Tryz.prog 100 := ⟨_, Tryz.func100, RK, rfl⟩
theorem go101 : Goes Tryz.prog 101 := ⟨_, Tryz.func101, RK, rfl⟩
theorem go102 : Goes Tryz.prog 102 := ⟨_, Tryz.func102, RK, rfl⟩
theorem go103 : Goes Tryz.prog 103 := ⟨_, Tryz.func103, RK, rfl⟩
theorem go106 : Goes Tryz.prog 106 := ⟨_, Tryz.func106, RK, rfl⟩
theorem go113 : Goes Tryz.prog 113 := ⟨_, Tryz.func113, RK, rfl⟩
theorem go114 : Goes Tryz.prog 114 := ⟨_, Tryz.func114, RK, rfl⟩
theorem go115 : Goes Tryz.prog 115 := ⟨_, Tryz.func115, RK, rfl⟩
theorem go116 : Goes Tryz.prog 116 := ⟨_, Tryz.func116, RK, rfl⟩
theorem go117 : Goes Tryz.prog 117 := ⟨_, Tryz.func117, RK, rfl⟩
theorem go118 : Goes Tryz.prog 118 := ⟨_, Tryz.func118, RK, rfl⟩
theorem go119 : Goes Tryz.prog 119 := ⟨_, Tryz.func119, RK, rfl⟩
theorem go120 : Goes Tryz.prog 120 := ⟨_, Tryz.func120, RK, rfl⟩
theorem go121 : Goes Tryz.prog 121 := ⟨_, Tryz.func121, RK, rfl⟩
theorem go122 : Goes Tryz.prog 122 := ⟨_, Tryz.func122, RK, rfl⟩
theorem go123 : Goes Tryz.prog 123 := ⟨_, Tryz.func123, RK, rfl⟩
theorem go124 : Goes Tryz.prog 124 := ⟨_, Tryz.func124, RK, rfl⟩
theorem go125 : Goes Tryz.prog 125 := ⟨_, Tryz.func125, RK, rfl⟩
theorem go126 : Goes Tryz.prog 126 := ⟨_, Tryz.func126, RK, rfl⟩
theorem go131 : Goes Tryz.prog 131 := ⟨_, Tryz.func131, RK, rfl⟩
theorem go134 : Goes Tryz.prog 134 := ⟨_, Tryz.func134, RK, rfl⟩
theorem go146 : Goes Tryz.prog 146 := ⟨_, Tryz.func146, RK, rfl⟩
theorem go147 : Goes Tryz.prog 147 := ⟨_, Tryz.func147, RK, rfl⟩
theorem go148 : Goes Tryz.prog 148 := ⟨_, Tryz.func148, RK, rfl⟩
theorem go149 : Goes Tryz.prog 149 := ⟨_, Tryz.func149, RK, rfl⟩
theorem go150 : Goes Tryz.prog 150 := ⟨_, Tryz.func150, RK, rfl⟩
theorem go151 : Goes Tryz.prog 151 := ⟨_, Tryz.func151, RK, rfl⟩
theorem go152 : Goes Tryz.prog 152 := ⟨_, Tryz.func152, RK, rfl⟩
theorem go153 : Goes Tryz.prog 153 := ⟨_, Tryz.func153, RK, rfl⟩
theorem go163 : Goes Tryz.prog 163 := ⟨_, Tryz.func163, RK, rfl⟩
theorem go171 : Goes Tryz.prog 171 := ⟨_, Tryz.func171, RK, rfl⟩
theorem go172 : Goes Tryz.prog 172 := ⟨_, Tryz.func172, RK, rfl⟩
theorem go173 : Goes Tryz.prog 173 := ⟨_, Tryz.func173, RK, rfl⟩
theorem go179 : Goes Tryz.prog 179 := ⟨_, Tryz.func179, RK, rfl⟩
theorem go180 : Goes Tryz.prog 180 := ⟨_, Tryz.func180, RK, rfl⟩
theorem go186 : Goes Tryz.prog 186 := ⟨_, Tryz.func186, RK, rfl⟩
theorem go23 : Goes Tryz.prog 23 := ⟨_, Tryz.func23, RK, rfl⟩
theorem go24 : Goes Tryz.prog 24 := ⟨_, Tryz.func24, RK, rfl⟩
theorem go25 : Goes Tryz.prog 25 := ⟨_, Tryz.func25, RK, rfl⟩
theorem go26 : Goes Tryz.prog 26 := ⟨_, Tryz.func26, RK, rfl⟩
theorem go27 : Goes Tryz.prog 27 := ⟨_, Tryz.func27, RK, rfl⟩
theorem go28 : Goes Tryz.prog 28 := ⟨_, Tryz.func28, RK, rfl⟩
theorem go29 : Goes Tryz.prog 29 := ⟨_, Tryz.func29, RK, rfl⟩
theorem go40 : Goes Tryz.prog 40 := ⟨_, Tryz.func40, RK, rfl⟩
theorem go47 : Goes Tryz.prog 47 := ⟨_, Tryz.func47, RK, rfl⟩
theorem go51 : Goes Tryz.prog 51 := ⟨_, Tryz.func51, RK, rfl⟩
theorem go55 : Goes Tryz.prog 55 := ⟨_, Tryz.func55, RK, rfl⟩
theorem go56 : Goes Tryz.prog 56 := ⟨_, Tryz.func56, RK, rfl⟩
theorem go61 : Goes Tryz.prog 61 := ⟨_, Tryz.func61, RK, rfl⟩
theorem go62 : Goes Tryz.prog 62 := ⟨_, Tryz.func62, RK, rfl⟩
theorem go63 : Goes Tryz.prog 63 := ⟨_, Tryz.func63, RK, rfl⟩
theorem go64 : Goes Tryz.prog 64 := ⟨_, Tryz.func64, RK, rfl⟩
theorem go65 : Goes Tryz.prog 65 := ⟨_, Tryz.func65, RK, rfl⟩
theorem go66 : Goes Tryz.prog 66 := ⟨_, Tryz.func66, RK, rfl⟩
theorem go67 : Goes Tryz.prog 67 := ⟨_, Tryz.func67, RK, rfl⟩
theorem go68 : Goes Tryz.prog 68 := ⟨_, Tryz.func68, RK, rfl⟩
theorem go69 : Goes Tryz.prog 69 := ⟨_, Tryz.func69, RK, rfl⟩
theorem go70 : Goes Tryz.prog 70 := ⟨_, Tryz.func70, RK, rfl⟩
theorem go71 : Goes Tryz.prog 71 := ⟨_, Tryz.func71, RK, rfl⟩
theorem go72 : Goes Tryz.prog 72 := ⟨_, Tryz.func72, RK, rfl⟩
theorem go73 : Goes Tryz.prog 73 := ⟨_, Tryz.func73, RK, rfl⟩
theorem go74 : Goes Tryz.prog 74 := ⟨_, Tryz.func74, RK, rfl⟩
theorem go75 : Goes Tryz.prog 75 := ⟨_, Tryz.func75, RK, rfl⟩
theorem go76 : Goes Tryz.prog 76 := ⟨_, Tryz.func76, RK, rfl⟩
theorem go77 : Goes Tryz.prog 77 := ⟨_, Tryz.func77, RK, rfl⟩
theorem go78 : Goes Tryz.prog 78 := ⟨_, Tryz.func78, RK, rfl⟩
theorem go79 : Goes Tryz.prog 79 := ⟨_, Tryz.func79, RK, rfl⟩
theorem go80 : Goes Tryz.prog 80 := ⟨_, Tryz.func80, RK, rfl⟩
theorem go96 : Goes Tryz.prog 96 := ⟨_, Tryz.func96, RK, rfl⟩
theorem go98 : Goes Tryz.prog 98 := ⟨_, Tryz.func98, RK, rfl⟩
theorem sz102 : SizeOf Tryz.prog 102 2 := SizeOf_mk RK
theorem sz167 : SizeOf Tryz.prog 167 1 := SizeOf_mk RK
theorem sz173 : SizeOf Tryz.prog 173 2 := SizeOf_mk RK
theorem sz3 : SizeOf Tryz.prog 3 1 := SizeOf_mk RK
theorem sz39 : SizeOf Tryz.prog 39 1 := SizeOf_mk RK
theorem sz41 : SizeOf Tryz.prog 41 2 := SizeOf_mk RK
theorem sz42 : SizeOf Tryz.prog 42 1 := SizeOf_mk RK
theorem sz44 : SizeOf Tryz.prog 44 4 := SizeOf_mk RK
theorem sz49 : SizeOf Tryz.prog 49 2 := SizeOf_mk RK
theorem sz9 : SizeOf Tryz.prog 9 1 := SizeOf_mk RK
theorem sz93 : SizeOf Tryz.prog 93 2 := SizeOf_mk RK
theorem ze102 : ZeroOf Tryz.prog 102 [vb false, vs []] := ZeroOf_mk (z := .agg #[vb false, vs []]) RK rfl
theorem ze173 : ZeroOf Tryz.prog 173 [.int .i64 0, .int .i64 0] := ZeroOf_mk (z := .agg #[.int .i64 0, .int .i64 0]) RK rfl
theorem ze41 : ZeroOf Tryz.prog 41 [.int .i64 0, .slice none 0 0] := ZeroOf_mk (z := .agg #[.int .i64 0, .slice none 0 0]) RK rfl
theorem ze44 : ZeroOf Tryz.prog 44 [vs [], .int .i64 0, .slice none 0 0, .slice none 0 0] := ZeroOf_mk (z := .agg #[vs [], .int .i64 0, .slice none 0 0, .slice none 0 0]) RK rfl
theorem ze49 : ZeroOf Tryz.prog 49 [.int .i64 0, .int .i64 0] := ZeroOf_mk (z := .agg #[.int .i64 0, .int .i64 0]) RK rfl
theorem ze93 : ZeroOf Tryz.prog 93 [vs [], vs []] := ZeroOf_mk (z := .agg #[vs [], vs []]) RK rfl
section
class Bulk (α : Type) where
 bulk : α → Nat
def bulk {α : Type} [Bulk α] : α → Nat := Bulk.bulk
instance : Bulk Int := ⟨fun _ => 0⟩
instance : Bulk Bool := ⟨fun _ => 0⟩
instance : Bulk UInt8 := ⟨fun _ => 0⟩
def bulkL {α : Type} [Bulk α] : List α → Nat
 | [] => 0
 | x :: l => 1 + Bulk.bulk x + bulkL l
instance {α : Type} [Bulk α] : Bulk (List α) := ⟨bulkL⟩
section
variable {α : Type} [Bulk α]
theorem bulk_cons (x : α) (l : List α) : bulk (x :: l) = 1 + bulk x + bulk l := rfl
theorem bulk_len (l : List α) : l.length ≤ bulk l := by
 induction l with
 | nil => exact Nat.zero_le _
 | cons x l ih => rw [bulk_cons, List.length_cons]; omega
theorem bulk_mem {l : List α} {x : α} (h : x ∈ l) : 1 + bulk x ≤ bulk l := by
 induction l with
 | nil => cases h
 | cons y l ih =>
  rw [bulk_cons]
  rcases List.mem_cons.1 h with rfl | h
  ·omega
  ·have := ih h; omega
theorem bulk_flat (h : ∀ x : α, bulk x = 0) (l : List α) : bulk l = l.length := by
 induction l with
 | nil => rfl
 | cons x l ih => rw [bulk_cons, h, ih, List.length_cons]; omega
theorem bulk_str (l : Str) : bulk l = l.length := bulk_flat (fun _ => rfl) l
end
section
variable {α : Type} [Inhabited α]
theorem nth_nat (l : List α) {k : Nat} (h : k < l.length) : nth l (k : Int) = l[k] := by
 unfold nth; rw [Int.toNat_natCast, List.getD_eq_getElem?_getD, List.getElem?_eq_getElem h]; rfl
theorem nth_mem (l : List α) {k : Nat} (h : k < l.length) : nth l (k : Int) ∈ l := by rw [nth_nat l h]; exact List.getElem_mem h
theorem nth_memi (l : List α) {i : Int} (h0 : 0 ≤ i) (h : i < (l.length : Int)) : nth l i ∈ l := by
 obtain ⟨k, rfl⟩ := Int.eq_ofNat_of_zero_le h0
 exact nth_mem l OM
theorem take_nth (l : List α) {k : Nat} (h : k < l.length) : l.take (k + 1) = l.take k ++ [nth l (k : Int)] := by rw [nth_nat l h]; exact List.take_succ_eq_append_getElem h
theorem ext_nth {l m : List α} (h : l.length = m.length) (g : ∀ k, k < l.length → nth l (k : Int) = nth m (k : Int)) : l = m := by
 refine List.ext_getElem h fun k h1 h2 => ?_
 have := g k h1
 rwa [nth_nat l h1, nth_nat m h2] at this
end
theorem eqS_shape {α : Type} [Inhabited α] [DecidableEq α] (el : α → α → Bool) (hel : ∀ x y, el x y = decide (x = y)) (a b : List α) (Q : Bool → Prop) (hq : Q (decide (a = b))) :
  (if (a.length : Int) != (b.length : Int) then Q false else (∃ (I32 : Int → Prop) (mu33 : Int → Nat), I32 0 ∧ ∀ (i2 : Int), I32 i2 → (if decide (i2 < (a.length : Int)) then ((0 : Int) ≤ i2 ∧ i2 < (a.length : Int)) ∧ ((0 : Int) ≤ i2 ∧ i2 < (b.length : Int)) ∧ (if !(el (nth a i2) (nth b i2)) then Q false else (-9223372036854775808 ≤ i2) ∧ I32 (i2 + 1) ∧ mu33 (i2 + 1) < mu33 i2) else Q true))) := by
 by_cases hl : a.length = b.length
 ·rw [if_neg (by simp [hl])]
  refine ⟨fun i => ∃ k : Nat, i = k ∧ k ≤ a.length ∧ ∀ j, j < k → nth a (j : Int) = nth b (j : Int), fun i => (a.length - i).toNat, ⟨0, rfl, OM, fun j hj => absurd hj OM⟩, ?_⟩
  rintro _ ⟨k, rfl, hk, ht⟩
  by_cases hki : (k : Int) < (a.length : Int)
  ·rw [if_pos (by simpa using hki)]
   refine ⟨⟨OM, hki⟩, ⟨OM, OM⟩, ?_⟩
   rw [hel]
   by_cases he : nth a (k : Int) = nth b (k : Int)
   ·rw [if_neg (by rw [decide_eq_true he]; exact Bool.false_ne_true)]
    refine ⟨OM, ⟨k + 1, OM, OM, fun j hj => ?_⟩, by dsimp only; omega⟩
    by_cases hjk : j = k
    ·subst hjk; exact he
    ·exact ht j OM
   ·rw [if_pos (by rw [decide_eq_false he]; rfl)]
    have : decide (a = b) = false := by
     simp only [decide_eq_false_iff_not]; rintro rfl; exact he rfl
    rw [this] at hq; exact hq
  ·rw [if_neg (by simpa using hki)]
   have : a = b := ext_nth hl fun j hj => ht j OM
   rw [decide_eq_true this] at hq; exact hq
 ·rw [if_pos (by simp; omega)]
  have : decide (a = b) = false := by
   simp only [decide_eq_false_iff_not]; rintro rfl; exact hl rfl
  rw [this] at hq; exact hq
theorem eqI_shape {α : Type} [Inhabited α] [DecidableEq α] (el : α → α → Bool) (hel : ∀ x y, el x y = decide (x = y)) (a b : List α) (Q : Bool → Prop) (hb : a.length ≤ 1048576) (hq : Q (decide (a = b))) :
  (if (a.length : Int) != (b.length : Int) then Q false else (∃ (I32 : Int → Prop) (mu33 : Int → Nat), I32 0 ∧ ∀ (i2 : Int), I32 i2 → (if decide (i2 < (a.length : Int)) then ((0 : Int) ≤ i2 ∧ i2 < (a.length : Int)) ∧ ((0 : Int) ≤ i2 ∧ i2 < (b.length : Int)) ∧ (if !(el (nth a i2) (nth b i2)) then Q false else (I64 (i2 + 1)) ∧ I32 (i2 + 1) ∧ mu33 (i2 + 1) < mu33 i2) else Q true))) := by
 have h := eqS_shape el hel a b Q hq
 by_cases hl : ((a.length : Int) != (b.length : Int)) = true
 ·rw [if_pos hl] at h ⊢; exact h
 ·rw [if_neg hl] at h ⊢
  obtain ⟨I, mu, h0, h1⟩ := h
  refine ⟨fun i => 0 ≤ i ∧ I i, mu, ⟨OM, h0⟩, fun i ⟨hp, hi⟩ => ?_⟩
  have h2 := h1 i hi
  by_cases hc : decide (i < (a.length : Int)) = true
  ·rw [if_pos hc] at h2 ⊢
   have hc' : i < (a.length : Int) := by simpa using hc
   refine ⟨h2.1, h2.2.1, ?_⟩
   have h3 := h2.2.2
   by_cases he : (!(el (nth a i) (nth b i))) = true
   ·rw [if_pos he] at h3 ⊢; exact h3
   ·rw [if_neg he] at h3 ⊢
    exact ⟨by unfold I64; omega, ⟨OM, h3.2.1⟩, h3.2.2⟩
  ·rw [if_neg hc] at h2 ⊢; exact h2
end
instance : Bulk l12Rd := ⟨fun x => bulk x.b + bulk x.p⟩
instance : Bulk Pt := ⟨fun x => bulk x.X + bulk x.Y⟩
instance : Bulk Shape := ⟨fun x => bulk x.Kind + bulk x.Pts⟩
instance : Bulk Tag := ⟨fun x => bulk x.Key + bulk x.Val⟩
instance : Bulk Feat := ⟨fun x => bulk x.Id + bulk x.Shape + bulk x.Tags⟩
instance : Bulk Change := ⟨fun x => bulk x.Id + bulk x.Had + bulk x.Was + bulk x.Has + bulk x.Now⟩
instance : Bulk Pair := ⟨fun x => bulk x.A + bulk x.B⟩
instance : Bulk value := ⟨fun x => bulk x.has + bulk x.val⟩
theorem Z {α : Sort _} {a : α} : a = a := rfl
abbrev G := Go.Value.slice
theorem Xv {P : Program} {n : Nat} {t : Tm} {ty : TypeId} {pos : String} {aft : Array Edge} {d : Nat} {x y z : Operand} {C : World → Prop} (b : Bool) (v : Value) {c : Bool} (e : c = b) (h : (evt n t x, (bif b then evt n t y else evt n t z)) = (vb c, v)) : Pu P n t C ⟨some d, .pick x y z, ty, pos, aft, none⟩ v := by
  simp only [Prod.mk.injEq] at h
  exact Yv b v (h.1.trans (congrArg Value.bool e)) h.2
abbrev u22_ := @Tryz.underlying22
abbrev u3_ := @Tryz.underlying3
abbrev u167_ := @Tryz.underlying167
abbrev u39_ := @Tryz.underlying39
abbrev u50_ := @Tryz.underlying50
abbrev u42_ := @Tryz.underlying42
abbrev u9_ := @Tryz.underlying9
abbrev u170_ := @Tryz.underlying170
abbrev u139_ := @Tryz.underlying139
abbrev u142_ := @Tryz.underlying142
abbrev u4_ := @Tryz.underlying4
theorem RP {l m : Ob} (h : l.Perm m := by exact (pc fun a => by (try simp only [pca, pcc, pcn, Nat.add_zero, Nat.zero_add]); first | done | ac_rfl)) : l.Perm m := h
abbrev Gk (w0 w' : World) (L O : Ob) (R : Prop) : Prop := Gr w0 w' none ∧ Ok w' (L ++ O) ∧ (∀ b, some b ∈ L → w0.heap.size ≤ b) ∧ R
theorem Xs {P : Program} {n : Nat} {N R : Ps} {X : Nat → Ps} {t : Tm} {w : World} {ops : Array Oper} {rest : List Oper} {ty : TypeId} {pos : String} {aft : Array Edge} {d : Nat} {f : FuncId} (hg : Goes P f) {ax : Array Operand} {ts : Array TypeId} {args : List Value} {Q : Value → World → Prop} (h : Ret P f args w Q) (ha0 : ax.toList.map (evt n t) = args) (k : ∀ v w', Q v w' → L P n ops N R X rest (upd d v t) w') :
  L P n ops N R X (⟨some d, .call ⟨.value (.func f), ax, ts⟩, ty, pos, aft, none⟩ :: rest) t w := Z0 hg args ha0 (h.mono k)
abbrev Pz (b : Nat) : Value := .pointer (some ⟨b, 0, none⟩)
abbrev Ad (b o : Nat) : Addr := ⟨b, o, none⟩
abbrev Cw (r : Ob) (w0 w : World) (L O : Ob) (R : Ob → Prop) : Prop := Ct r w0 w L O ∧ R (L ++ O)
theorem Kq {P : Program} {n : Nat} {t : Tm} {ty : TypeId} {pos : String} {aft : Array Edge} {d : Nat} {x : Operand} {C : World → Prop} {T : TypeId} {s : Nat} (hT : IsAgg P T true) (hs : SizeOf P T s) {w1 : World} (hC : ∀ x, C x → Gr w1 x none) {b : Nat} {cs : List Value} (hB : Bx w1 b cs) (hx : evt n t x = .pointer (some ⟨b, 0, none⟩)) (hl : cs.length = s) : Pu P n t C ⟨some d, .load T x, ty, pos, aft, none⟩ (.agg cs.toArray) :=
  Xr hT hs hC _ cs hx hl (hB.cells (off := 0) (by simp))
section
variable {P : Program} {n : Nat} {N R : Ps} {X : Nat → Ps} {t : Tm} {w : World} {ops : Array Oper} {rest : List Oper} {ty : TypeId} {pos : String} {aft : Array Edge} {x y : Operand}
theorem Yq {T : TypeId} {b : Nat} {cs : List Value} (off : Nat) (us cs' : List Value) (hB : Bx w b cs) (hx : evt n t x = .pointer (some ⟨b, off, none⟩)) (hy : (evt n t y).cells = us.toArray) (hs : SizeOf P T us.length) (h1' : us.all Value.oneCell' = true)
  (hl' : Nat.ble (off + us.length) cs.length = true) (hcs : cs.take off ++ us ++ cs.drop (off + us.length) = cs') (k : ∀ w', Gr w w' (some b) → Bx w' b cs' → L P n ops N R X rest t w') :
  L P n ops N R X (⟨none, .store T x y, ty, pos, aft, none⟩ :: rest) t w := Z7 b off cs us cs' hx hB hy hs h1' hl' hcs k
theorem Xw {T : TypeId} {b : Nat} {cs : List Value} (us : List Value) (hB : Bx w b cs) (hx : evt n t x = .pointer (some ⟨b, 0, none⟩)) (hy : (evt n t y).cells = us.toArray) (hs : SizeOf P T us.length) (h1' : us.all Value.oneCell' = true)
  (hl : us.length = cs.length) (k : ∀ w', Gr w w' (some b) → Bx w' b us → L P n ops N R X rest t w') :
  L P n ops N R X (⟨none, .store T x y, ty, pos, aft, none⟩ :: rest) t w := Z7 b 0 cs us us hx hB hy hs h1' (Nat.ble_eq_true_of_le (by omega)) (by rw [Nat.zero_add, hl]; simp) k
end
variable {O : Ob} {w0 : World}
def F67.E (code : List UInt8) (Q : List UInt8 → Int → Prop) : Prop :=
 (if decide ((code.length : Int) > 2000) then ((0 : Int) ≤ 0 ∧ (0 : Int) ≤ 2000 ∧ 2000 ≤ (code.length : Int)) ∧ Q ((code.drop (0 : Int).toNat).take ((2000 : Int).toNat - (0 : Int).toNat)) 0 else Q code 0)
theorem F67.calls {code : List UInt8} {A1 : Option Addr} {n2 c3 : Nat} {Q : List UInt8 → Int → Prop} (H : F67.E code Q) (hO : Ok w0 O) (hp4 : Sl Kd.byte w0 (Fr O) (G A1 n2 c3) code) :
  Ret Tryz.prog 40 [G A1 n2 c3] w0 (fun v w' => ∃ (r0_b : List UInt8) (r0_p : Int) (b0 : Nat) (Aw1 : Option Addr) (nw1 cw1 : Nat), v = Pz b0 ∧ Q r0_b r0_p ∧ Gk w0 w' [some b0] O (Bx w' b0 [G Aw1 nw1 cw1, vi r0_p] ∧ Sl Kd.byte w' (Fr ([some b0] ++ O)) (G Aw1 nw1 cw1) r0_b)) := by
 unfold F67.E at H;have hc0 := Ct.init hO;refine Yd Tryz.func40 Z 11 Z [.tmp 2] Z Z ?_;refine Xc (Xd (Xf (.pointer none) Z (Xb (Xc (Xc (Xd (Xe (G A1 n2 c3) Z ?_)))))));have hl6 := hp4.le;refine Xa (X4 u22_ A1 n2 c3 hp4.len Z) (Xa (Xx (code.length : Int) 2000 (decide ((code.length : Int) > 2000)) Z Z Z) (Xb ?_));refine Xu (decide ((code.length : Int) > 2000)) Z (fun hq7 => ?_) (fun hq7 => ?_)
 ·have H := Xi H hq7;refine Xd (Xe (G A1 n2 c3) Z ?_);obtain ⟨hb8, H⟩ := H;refine Zu u22_ Zy A1 n2 c3 code Z hp4 0 2000 Z Z hb8 fun A9 aa ab ag => ?_;refine Xf (G A9 aa ab) Z (Xb (Xc (Xd (Xe (G A9 aa ab) Z (Xa (Yi (.agg #[G A9 aa ab, vi 0]) RF) (Yk [G A9 aa ab, vi 0] Z fun an ac ah hu18 ai aj => ?_))))));have ad := hc0.own ai (some ac) (X9 ah hu18);exact Xf (Pz ac) Z (Xb (Xk ⟨[Pz ac], ⟨_, Z, Z⟩, ((code.drop (0 : Int).toNat).take ((2000 : Int).toNat - (0 : Int).toNat)), 0, ac, A9, aa, ab, Z, H, ad.gr.g0, ad.ok, ad.ge, aj, (ag.st ad.st)⟩))
 have H := Xj H hq7;refine Xz (Xc (Xd (Xe (G A1 n2 c3) Z (Xa (Yi (.agg #[G A1 n2 c3, vi 0]) RF) (Yk [G A1 n2 c3, vi 0] Z fun ao ae ak hu26 al am => ?_)))));have af := hc0.own al (some ae) (X9 ak hu26);exact Xf (Pz ae) Z (Xb (Xk ⟨[Pz ae], ⟨_, Z, Z⟩, code, 0, ae, A1, n2, c3, Z, H, af.gr.g0, af.ok, af.ge, am, (hp4.st af.st)⟩))
def F21.E (r_b : List UInt8) (r_p n : Int) (Q : Int → Int → Prop) : Prop :=
 (I64 (r_p + 1)) ∧ (if decide (n < 1) then Q 0 (r_p + 1) else (if (r_b.length : Int) == 0 then Q 0 (r_p + 1) else ((r_b.length : Int) ≤ 9223372036854775807 → I64 (r_p + 1 - 1)) ∧ (if decide (r_p + 1 - 1 < (r_b.length : Int)) then ((0 : Int) ≤ r_p + 1 - 1 ∧ r_p + 1 - 1 < (r_b.length : Int)) ∧ ((0 : Int) ≤ ((nth r_b (r_p + 1 - 1)).toNat : Int) ∧ (0 : Int) < n) ∧ Q (((nth r_b (r_p + 1 - 1)).toNat : Int) % n) (r_p + 1) else ((0 : Int) ≤ r_p + 1 - 1 ∧ (0 : Int) < (r_b.length : Int)) ∧ ((0 : Int) ≤ (r_p + 1 - 1) % (r_b.length : Int) ∧ (r_p + 1 - 1) % (r_b.length : Int) < (r_b.length : Int)) ∧ ((r_b.length : Int) ≤ 9223372036854775807 → I64 (((nth r_b ((r_p + 1 - 1) % (r_b.length : Int))).toNat : Int) * 131)) ∧ ((r_b.length : Int) ≤ 9223372036854775807 → I64 ((r_p + 1 - 1) * 7)) ∧ ((r_b.length : Int) ≤ 9223372036854775807 → I64 ((r_p + 1 - 1) * 7 + 3)) ∧ ((0 : Int) ≤ (r_p + 1 - 1) * 7 + 3 ∧ (0 : Int) < (r_b.length : Int)) ∧ ((0 : Int) ≤ ((r_p + 1 - 1) * 7 + 3) % (r_b.length : Int) ∧ ((r_p + 1 - 1) * 7 + 3) % (r_b.length : Int) < (r_b.length : Int)) ∧ ((r_b.length : Int) ≤ 9223372036854775807 → I64 (((nth r_b (((r_p + 1 - 1) * 7 + 3) % (r_b.length : Int))).toNat : Int) * 1117)) ∧ ((r_b.length : Int) ≤ 9223372036854775807 → I64 (((nth r_b ((r_p + 1 - 1) % (r_b.length : Int))).toNat : Int) * 131 + ((nth r_b (((r_p + 1 - 1) * 7 + 3) % (r_b.length : Int))).toNat : Int) * 1117)) ∧ ((r_b.length : Int) ≤ 9223372036854775807 → I64 ((r_p + 1 - 1) * 29)) ∧ ((r_b.length : Int) ≤ 9223372036854775807 → I64 (((nth r_b ((r_p + 1 - 1) % (r_b.length : Int))).toNat : Int) * 131 + ((nth r_b (((r_p + 1 - 1) * 7 + 3) % (r_b.length : Int))).toNat : Int) * 1117 + (r_p + 1 - 1) * 29)) ∧ (((0 : Int) ≤ r_p + 1 - 1 ∧ r_p + 1 - 1 ≤ (9223372036854775807 : Int)) ∧ (0 : Int) < (r_b.length : Int)) ∧ ((r_b.length : Int) ≤ 9223372036854775807 → I64 (((r_p + 1 - 1) / (r_b.length : Int)) * 53)) ∧ ((r_b.length : Int) ≤ 9223372036854775807 → I64 (((nth r_b ((r_p + 1 - 1) % (r_b.length : Int))).toNat : Int) * 131 + ((nth r_b (((r_p + 1 - 1) * 7 + 3) % (r_b.length : Int))).toNat : Int) * 1117 + (r_p + 1 - 1) * 29 + ((r_p + 1 - 1) / (r_b.length : Int)) * 53)) ∧ (((0 : Int) ≤ ((nth r_b ((r_p + 1 - 1) % (r_b.length : Int))).toNat : Int) * 131 + ((nth r_b (((r_p + 1 - 1) * 7 + 3) % (r_b.length : Int))).toNat : Int) * 1117 + (r_p + 1 - 1) * 29 + ((r_p + 1 - 1) / (r_b.length : Int)) * 53 ∧ ((nth r_b ((r_p + 1 - 1) % (r_b.length : Int))).toNat : Int) * 131 + ((nth r_b (((r_p + 1 - 1) * 7 + 3) % (r_b.length : Int))).toNat : Int) * 1117 + (r_p + 1 - 1) * 29 + ((r_p + 1 - 1) / (r_b.length : Int)) * 53 ≤ (9223372036854775807 : Int)) ∧ (0 : Int) < 64) ∧ ((0 : Int) ≤ xor64 (((nth r_b ((r_p + 1 - 1) % (r_b.length : Int))).toNat : Int) * 131 + ((nth r_b (((r_p + 1 - 1) * 7 + 3) % (r_b.length : Int))).toNat : Int) * 1117 + (r_p + 1 - 1) * 29 + ((r_p + 1 - 1) / (r_b.length : Int)) * 53) ((((nth r_b ((r_p + 1 - 1) % (r_b.length : Int))).toNat : Int) * 131 + ((nth r_b (((r_p + 1 - 1) * 7 + 3) % (r_b.length : Int))).toNat : Int) * 1117 + (r_p + 1 - 1) * 29 + ((r_p + 1 - 1) / (r_b.length : Int)) * 53) / 64) ∧ (0 : Int) < n) ∧ Q ((xor64 (((nth r_b ((r_p + 1 - 1) % (r_b.length : Int))).toNat : Int) * 131 + ((nth r_b (((r_p + 1 - 1) * 7 + 3) % (r_b.length : Int))).toNat : Int) * 1117 + (r_p + 1 - 1) * 29 + ((r_p + 1 - 1) / (r_b.length : Int)) * 53) ((((nth r_b ((r_p + 1 - 1) % (r_b.length : Int))).toNat : Int) * 131 + ((nth r_b (((r_p + 1 - 1) * 7 + 3) % (r_b.length : Int))).toNat : Int) * 1117 + (r_p + 1 - 1) * 29 + ((r_p + 1 - 1) / (r_b.length : Int)) * 53) / 64)) % n) (r_p + 1))))
theorem F21.calls {b : Nat} {r_b : List UInt8} {A2 : Option Addr} {n3 c4 : Nat} {r_p : Int} {n : Int} {Q : Int → Int → Prop} (H : F21.E r_b r_p n Q) (hO : Ok w0 O) (hp5 : Sl Kd.byte w0 (Fr O) (G A2 n3 c4) r_b) (hp0 : Bx w0 b [G A2 n3 c4, vi r_p]) (hm : some b ∈ O) :
  Ret Tryz.prog 47 [Pz b, vi n] w0 (fun v w' => ∃ (r0 m0 : Int), v = vi r0 ∧ Q r0 m0 ∧ Gr w0 w' (some b) ∧ Bx w' b [G A2 n3 c4, vi m0]) := by
 unfold F21.E at H;have hc0 := Ct.initm1 (r := some b) hO (by intro b e; cases e; exact hm);refine Yd Tryz.func47 Z 99 Z [.tmp 4] Z Z ?_;refine Xc (Xd (Xf (vi 0) Z (Xb (Xc (Xd (Xe (Pz b) Z (Xe (Pz b) Z (Xa (Zb (Pz b) Z _ Z) ?_))))))));refine Xa (Xm fa122_1 (Ad b 0) (Ad b 1) Z Z) (Xa (Xp ag3 cL (Ad b 1) (vi r_p) Z (hp0.cell Z)) ?_);obtain ⟨hb7, H⟩ := H;refine Xa (X6 r_p 1 Z Z hb7) (Xa (Zb (Pz b) Z _ Z) (Xa (Xm fa122_1 (Ad b 0) (Ad b 1) Z Z) (Yq 1 [vi (r_p + 1)] [G A2 n3 c4, vi (r_p + 1)] hp0 Z Z sz3 Z Z Z fun w8 g9 ac => ?_)));have ab := hc0.wm g9;refine Xb (Xc (Xc (Xd (Xe (vi n) Z (Xa (Xx n 1 (decide (n < 1)) Z Z Z) (Xe (vb (decide (n < 1))) Z ?_))))));rcases Yb (decide (n < 1)) with aa | aa
 ·have H := Xi H aa;refine Xn aa Z (Xn aa Z (Xn aa Z (Xn aa Z (Xn aa Z (Xn aa Z (Xa (Xv true (vb true) aa Z) (Xb (Yp (b := true) Z Z ?_))))))));exact Xc (Xd (Xf (vi 0) Z (Xb (Xk ⟨[vi 0], ⟨_, Z, Z⟩, 0, r_p + 1, Z, H, ab.gr.g1, ac⟩))))
 have H := Xj H aa;refine Xl aa Z (Xe (Pz b) Z (Xl aa Z (Xa (Zb (Pz b) Z _ Z) (Xl aa Z (Xa (Xm fa122_0 (Ad b 0) (Ad b 0) Z Z) (Xl aa Z (Xa (Xp ag22 cL (Ad b 0) (G A2 n3 c4) Z (ac.cell Z)) (Xl aa Z ?_))))))));have ad := (hp5.st ab.st).le;refine Xa (X4 u22_ A2 n3 c4 (hp5.st ab.st).len Z) (Xl aa Z (Xa (Xx (r_b.length : Int) 0 ((r_b.length : Int) == 0) Z Z Z) (Xa (Xv false (vb ((r_b.length : Int) == 0)) aa Z) (Xb ?_))));refine Xu ((r_b.length : Int) == 0) Z (fun ae => ?_) (fun ae => ?_)
 ·have H := Xi H ae;exact Xc (Xd (Xf (vi 0) Z (Xb (Xk ⟨[vi 0], ⟨_, Z, Z⟩, 0, r_p + 1, Z, H, ab.gr.g1, ac⟩))))
 have H := Xj H ae;refine Xz (Xc (Xd (Xe (Pz b) Z (Xa (Zb (Pz b) Z _ Z) (Xa (Xm fa122_1 (Ad b 0) (Ad b 1) Z Z) (Xa (Xp ag3 cL (Ad b 1) (vi (r_p + 1)) Z (ac.cell Z)) ?_))))));obtain ⟨an, H⟩ := H;have ao := an (len_le ad);refine Xa (Yt (r_p + 1) 1 Z Z ao) (Xf (vi (r_p + 1 - 1)) Z (Xb (Xc (Xc (Xd (Xe (vi (r_p + 1 - 1)) Z (Xe (Pz b) Z (Xa (Zb (Pz b) Z _ Z) ?_))))))));refine Xa (Xm fa122_0 (Ad b 0) (Ad b 0) Z Z) (Xa (Xp ag22 cL (Ad b 0) (G A2 n3 c4) Z (ac.cell Z)) (Xa (X4 u22_ A2 n3 c4 (hp5.st ab.st).len Z) (Xa (Xx (r_p + 1 - 1) (r_b.length : Int) (decide (r_p + 1 - 1 < (r_b.length : Int))) Z Z Z) (Xb ?_))));refine Xu (decide (r_p + 1 - 1 < (r_b.length : Int))) Z (fun af => ?_) (fun af => ?_)
 ·have H := Xi H af;refine Xc (Xd (Xe (Pz b) Z (Xa (Zb (Pz b) Z _ Z) (Xa (Xm fa122_0 (Ad b 0) (Ad b 0) Z Z) (Xa (Xp ag22 cL (Ad b 0) (G A2 n3 c4) Z (ac.cell Z)) (Xe (vi (r_p + 1 - 1)) Z ?_))))));obtain ⟨ag, H⟩ := H;obtain ⟨ah, br, ap, bs, aq, ar⟩ := (hp5.st ab.st).get default RD (r_p + 1 - 1) ag;obtain rfl := Kd.byte.op aq;refine Xa (X3 u22_ Zy A2 ah n3 c4 (hp5.st ab.st).len (r_p + 1 - 1) Z ap Z ag) (Xa (Xp ag5 cL (ah.add ((r_p + 1 - 1).toNat * 1)) (v8 (nth r_b (r_p + 1 - 1))) Z (ar 0 _ Z)) (Xa (Zz Tryz.underlying5 u3_ ((nth r_b (r_p + 1 - 1)).toNat : Int) Z (i64_byte _)) (Xe (vi n) Z ?_)));obtain ⟨au, H⟩ := H;exact Xa (Zv ((nth r_b (r_p + 1 - 1)).toNat : Int) n Z Z au) (Xf (vi (((nth r_b (r_p + 1 - 1)).toNat : Int) % n)) Z (Xb (Xk ⟨[vi (((nth r_b (r_p + 1 - 1)).toNat : Int) % n)], ⟨_, Z, Z⟩, ((nth r_b (r_p + 1 - 1)).toNat : Int) % n, r_p + 1, Z, H, ab.gr.g1, ac⟩)))
 have H := Xj H af;refine Xz (Xc (Yz (fun x => Gr w8 x none) RK RK (Gr.drew _) ?_));refine X1 (Pz b) Z (Xh (Zb (Pz b) Z _ Z) (Xh (Xm fa122_0 (Ad b 0) (Ad b 0) Z Z) (Xh (Xp ag22 cQ (Ad b 0) (G A2 n3 c4) Z (ac.cell Z)) (X1 (vi (r_p + 1 - 1)) Z (X1 (Pz b) Z (Xh (Zb (Pz b) Z _ Z) (Xh (Xm fa122_0 (Ad b 0) (Ad b 0) Z Z) (Xh (Xp ag22 cQ (Ad b 0) (G A2 n3 c4) Z (ac.cell Z)) ?_))))))));refine Xh (X4 u22_ A2 n3 c4 (hp5.st ab.st).len Z) ?_;obtain ⟨av, H⟩ := H;refine Xh (Zv (r_p + 1 - 1) (r_b.length : Int) Z Z av) ?_;obtain ⟨ai, H⟩ := H;obtain ⟨aj, bt, aw, bu, ax, ay⟩ := (hp5.st ab.st).get default RD ((r_p + 1 - 1) % (r_b.length : Int)) ai;obtain rfl := Kd.byte.op ax;refine Xh (X3 u22_ Zy A2 aj n3 c4 (hp5.st ab.st).len ((r_p + 1 - 1) % (r_b.length : Int)) Z aw Z ai) (Xh (Xp ag5 cQ (aj.add (((r_p + 1 - 1) % (r_b.length : Int)).toNat * 1)) (v8 (nth r_b ((r_p + 1 - 1) % (r_b.length : Int)))) Z (ay 0 _ Z)) (Xh (Zz Tryz.underlying5 u3_ ((nth r_b ((r_p + 1 - 1) % (r_b.length : Int))).toNat : Int) Z (i64_byte _)) ?_));obtain ⟨az, H⟩ := H;have a0 := az (len_le ad);refine Xh (Zr ((nth r_b ((r_p + 1 - 1) % (r_b.length : Int))).toNat : Int) 131 Z Z a0) (X1 (Pz b) Z (Xh (Zb (Pz b) Z _ Z) (Xh (Xm fa122_0 (Ad b 0) (Ad b 0) Z Z) (Xh (Xp ag22 cQ (Ad b 0) (G A2 n3 c4) Z (ac.cell Z)) (X1 (vi (r_p + 1 - 1)) Z ?_)))));obtain ⟨a1, H⟩ := H;have a2 := a1 (len_le ad);refine Xh (Zr (r_p + 1 - 1) 7 Z Z a2) ?_;obtain ⟨a3, H⟩ := H;have a4 := a3 (len_le ad);refine Xh (X6 ((r_p + 1 - 1) * 7) 3 Z Z a4) (X1 (Pz b) Z (Xh (Zb (Pz b) Z _ Z) (Xh (Xm fa122_0 (Ad b 0) (Ad b 0) Z Z) (Xh (Xp ag22 cQ (Ad b 0) (G A2 n3 c4) Z (ac.cell Z)) (Xh (X4 u22_ A2 n3 c4 (hp5.st ab.st).len Z) ?_)))));obtain ⟨a5, H⟩ := H;refine Xh (Zv ((r_p + 1 - 1) * 7 + 3) (r_b.length : Int) Z Z a5) ?_;obtain ⟨ak, H⟩ := H;obtain ⟨al, bv, a6, bw, a7, a8⟩ := (hp5.st ab.st).get default RD (((r_p + 1 - 1) * 7 + 3) % (r_b.length : Int)) ak;obtain rfl := Kd.byte.op a7;refine Xh (X3 u22_ Zy A2 al n3 c4 (hp5.st ab.st).len (((r_p + 1 - 1) * 7 + 3) % (r_b.length : Int)) Z a6 Z ak) (Xh (Xp ag5 cQ (al.add ((((r_p + 1 - 1) * 7 + 3) % (r_b.length : Int)).toNat * 1)) (v8 (nth r_b (((r_p + 1 - 1) * 7 + 3) % (r_b.length : Int)))) Z (a8 0 _ Z)) (Xh (Zz Tryz.underlying5 u3_ ((nth r_b (((r_p + 1 - 1) * 7 + 3) % (r_b.length : Int))).toNat : Int) Z (i64_byte _)) ?_));obtain ⟨a9, H⟩ := H;have ba := a9 (len_le ad);refine Xh (Zr ((nth r_b (((r_p + 1 - 1) * 7 + 3) % (r_b.length : Int))).toNat : Int) 1117 Z Z ba) ?_;obtain ⟨bb, H⟩ := H;have bc := bb (len_le ad);refine Xh (X6 (((nth r_b ((r_p + 1 - 1) % (r_b.length : Int))).toNat : Int) * 131) (((nth r_b (((r_p + 1 - 1) * 7 + 3) % (r_b.length : Int))).toNat : Int) * 1117) Z Z bc) (X1 (vi (r_p + 1 - 1)) Z ?_);obtain ⟨bd, H⟩ := H;have be := bd (len_le ad);refine Xh (Zr (r_p + 1 - 1) 29 Z Z be) ?_;obtain ⟨bf, H⟩ := H;have bg := bf (len_le ad);refine Xh (X6 (((nth r_b ((r_p + 1 - 1) % (r_b.length : Int))).toNat : Int) * 131 + ((nth r_b (((r_p + 1 - 1) * 7 + 3) % (r_b.length : Int))).toNat : Int) * 1117) ((r_p + 1 - 1) * 29) Z Z bg) (X1 (vi (r_p + 1 - 1)) Z (X1 (Pz b) Z (Xh (Zb (Pz b) Z _ Z) (Xh (Xm fa122_0 (Ad b 0) (Ad b 0) Z Z) (Xh (Xp ag22 cQ (Ad b 0) (G A2 n3 c4) Z (ac.cell Z)) (Xh (X4 u22_ A2 n3 c4 (hp5.st ab.st).len Z) ?_))))));obtain ⟨bh, H⟩ := H;refine Xh (Z6 (r_p + 1 - 1) (r_b.length : Int) Z Z bh) ?_;obtain ⟨bi, H⟩ := H;have bj := bi (len_le ad);refine Xh (Zr ((r_p + 1 - 1) / (r_b.length : Int)) 53 Z Z bj) ?_;obtain ⟨bl, H⟩ := H;have bm := bl (len_le ad);refine Xh (X6 (((nth r_b ((r_p + 1 - 1) % (r_b.length : Int))).toNat : Int) * 131 + ((nth r_b (((r_p + 1 - 1) * 7 + 3) % (r_b.length : Int))).toNat : Int) * 1117 + (r_p + 1 - 1) * 29) (((r_p + 1 - 1) / (r_b.length : Int)) * 53) Z Z bm) (Y3 (vi (((nth r_b ((r_p + 1 - 1) % (r_b.length : Int))).toNat : Int) * 131 + ((nth r_b (((r_p + 1 - 1) * 7 + 3) % (r_b.length : Int))).toNat : Int) * 1117 + (r_p + 1 - 1) * 29 + ((r_p + 1 - 1) / (r_b.length : Int)) * 53)) Z (Yn fun bx am => ?_));have bn := ab.k0 am;refine Xc (Xd (Xe (vi (((nth r_b ((r_p + 1 - 1) % (r_b.length : Int))).toNat : Int) * 131 + ((nth r_b (((r_p + 1 - 1) * 7 + 3) % (r_b.length : Int))).toNat : Int) * 1117 + (r_p + 1 - 1) * 29 + ((r_p + 1 - 1) / (r_b.length : Int)) * 53)) Z (Xe (vi (((nth r_b ((r_p + 1 - 1) % (r_b.length : Int))).toNat : Int) * 131 + ((nth r_b (((r_p + 1 - 1) * 7 + 3) % (r_b.length : Int))).toNat : Int) * 1117 + (r_p + 1 - 1) * 29 + ((r_p + 1 - 1) / (r_b.length : Int)) * 53)) Z ?_)));obtain ⟨bo, H⟩ := H;refine Xa (Z6 (((nth r_b ((r_p + 1 - 1) % (r_b.length : Int))).toNat : Int) * 131 + ((nth r_b (((r_p + 1 - 1) * 7 + 3) % (r_b.length : Int))).toNat : Int) * 1117 + (r_p + 1 - 1) * 29 + ((r_p + 1 - 1) / (r_b.length : Int)) * 53) 64 Z Z bo) (Xa (Kc (((nth r_b ((r_p + 1 - 1) % (r_b.length : Int))).toNat : Int) * 131 + ((nth r_b (((r_p + 1 - 1) * 7 + 3) % (r_b.length : Int))).toNat : Int) * 1117 + (r_p + 1 - 1) * 29 + ((r_p + 1 - 1) / (r_b.length : Int)) * 53) ((((nth r_b ((r_p + 1 - 1) % (r_b.length : Int))).toNat : Int) * 131 + ((nth r_b (((r_p + 1 - 1) * 7 + 3) % (r_b.length : Int))).toNat : Int) * 1117 + (r_p + 1 - 1) * 29 + ((r_p + 1 - 1) / (r_b.length : Int)) * 53) / 64) Z Z) (Xf (vi (xor64 (((nth r_b ((r_p + 1 - 1) % (r_b.length : Int))).toNat : Int) * 131 + ((nth r_b (((r_p + 1 - 1) * 7 + 3) % (r_b.length : Int))).toNat : Int) * 1117 + (r_p + 1 - 1) * 29 + ((r_p + 1 - 1) / (r_b.length : Int)) * 53) ((((nth r_b ((r_p + 1 - 1) % (r_b.length : Int))).toNat : Int) * 131 + ((nth r_b (((r_p + 1 - 1) * 7 + 3) % (r_b.length : Int))).toNat : Int) * 1117 + (r_p + 1 - 1) * 29 + ((r_p + 1 - 1) / (r_b.length : Int)) * 53) / 64))) Z (Xb (Xc (Xd (Xe (vi (xor64 (((nth r_b ((r_p + 1 - 1) % (r_b.length : Int))).toNat : Int) * 131 + ((nth r_b (((r_p + 1 - 1) * 7 + 3) % (r_b.length : Int))).toNat : Int) * 1117 + (r_p + 1 - 1) * 29 + ((r_p + 1 - 1) / (r_b.length : Int)) * 53) ((((nth r_b ((r_p + 1 - 1) % (r_b.length : Int))).toNat : Int) * 131 + ((nth r_b (((r_p + 1 - 1) * 7 + 3) % (r_b.length : Int))).toNat : Int) * 1117 + (r_p + 1 - 1) * 29 + ((r_p + 1 - 1) / (r_b.length : Int)) * 53) / 64))) Z (Xe (vi n) Z ?_)))))));obtain ⟨bp, H⟩ := H;refine Xa (Zv (xor64 (((nth r_b ((r_p + 1 - 1) % (r_b.length : Int))).toNat : Int) * 131 + ((nth r_b (((r_p + 1 - 1) * 7 + 3) % (r_b.length : Int))).toNat : Int) * 1117 + (r_p + 1 - 1) * 29 + ((r_p + 1 - 1) / (r_b.length : Int)) * 53) ((((nth r_b ((r_p + 1 - 1) % (r_b.length : Int))).toNat : Int) * 131 + ((nth r_b (((r_p + 1 - 1) * 7 + 3) % (r_b.length : Int))).toNat : Int) * 1117 + (r_p + 1 - 1) * 29 + ((r_p + 1 - 1) / (r_b.length : Int)) * 53) / 64)) n Z Z bp) (Xf (vi ((xor64 (((nth r_b ((r_p + 1 - 1) % (r_b.length : Int))).toNat : Int) * 131 + ((nth r_b (((r_p + 1 - 1) * 7 + 3) % (r_b.length : Int))).toNat : Int) * 1117 + (r_p + 1 - 1) * 29 + ((r_p + 1 - 1) / (r_b.length : Int)) * 53) ((((nth r_b ((r_p + 1 - 1) % (r_b.length : Int))).toNat : Int) * 131 + ((nth r_b (((r_p + 1 - 1) * 7 + 3) % (r_b.length : Int))).toNat : Int) * 1117 + (r_p + 1 - 1) * 29 + ((r_p + 1 - 1) / (r_b.length : Int)) * 53) / 64)) % n)) Z (Xb (Xk ?_)));have bq := (ac.k0 am);exact ⟨[vi ((xor64 (((nth r_b ((r_p + 1 - 1) % (r_b.length : Int))).toNat : Int) * 131 + ((nth r_b (((r_p + 1 - 1) * 7 + 3) % (r_b.length : Int))).toNat : Int) * 1117 + (r_p + 1 - 1) * 29 + ((r_p + 1 - 1) / (r_b.length : Int)) * 53) ((((nth r_b ((r_p + 1 - 1) % (r_b.length : Int))).toNat : Int) * 131 + ((nth r_b (((r_p + 1 - 1) * 7 + 3) % (r_b.length : Int))).toNat : Int) * 1117 + (r_p + 1 - 1) * 29 + ((r_p + 1 - 1) / (r_b.length : Int)) * 53) / 64)) % n)], ⟨_, Z, Z⟩, (xor64 (((nth r_b ((r_p + 1 - 1) % (r_b.length : Int))).toNat : Int) * 131 + ((nth r_b (((r_p + 1 - 1) * 7 + 3) % (r_b.length : Int))).toNat : Int) * 1117 + (r_p + 1 - 1) * 29 + ((r_p + 1 - 1) / (r_b.length : Int)) * 53) ((((nth r_b ((r_p + 1 - 1) % (r_b.length : Int))).toNat : Int) * 131 + ((nth r_b (((r_p + 1 - 1) * 7 + 3) % (r_b.length : Int))).toNat : Int) * 1117 + (r_p + 1 - 1) * 29 + ((r_p + 1 - 1) / (r_b.length : Int)) * 53) / 64)) % n, r_p + 1, Z, H, bn.gr.g1, bq⟩
def F36.E (r_b : List UInt8) (r_p : Int) (list : List Int) (Q : Int → Int → Prop) : Prop :=
 F21.E r_b r_p (list.length : Int) (fun r2 m => ((0 : Int) ≤ r2 ∧ r2 < (list.length : Int)) ∧ Q (nth list r2) m)
theorem F36.calls {b : Nat} {r_b : List UInt8} {A2 : Option Addr} {n3 c4 : Nat} {r_p : Int} {list : List Int} {A7 : Option Addr} {n8 c9 : Nat} {Q : Int → Int → Prop} (H : F36.E r_b r_p list Q) (hO : Ok w0 O) (hp5 : Sl Kd.byte w0 (Fr O) (G A2 n3 c4) r_b) (hp0 : Bx w0 b [G A2 n3 c4, vi r_p]) (hm : some b ∈ O) (aa : Sl (Kd.int .i64) w0 (Fr O) (G A7 n8 c9) list) :
  Ret Tryz.prog 146 [Pz b, G A7 n8 c9] w0 (fun v w' => ∃ (r0 m0 : Int), v = vi r0 ∧ Q r0 m0 ∧ Gr w0 w' (some b) ∧ Bx w' b [G A2 n3 c4, vi m0]) := by
 unfold F36.E at H;have hc0 := Ct.initm1 (r := some b) hO (by intro b e; cases e; exact hm);refine Yd Tryz.func146 Z 12 Z [.tmp 4] Z Z ?_;refine Xc (Xd (Xf (vi 0) Z (Xb (Xc (Xd (Xe (G A7 n8 c9) Z (Xe (Pz b) Z (Xe (G A7 n8 c9) Z ?_))))))));have aj := aa.le;refine Xa (X4 u167_ A7 n8 c9 aa.len Z) ?_;refine Xs go47 (F21.calls H hc0.ok hp5 hp0 hm) Z ?_;rintro _ ak ⟨r2, m, rfl, H, ae, af⟩;have ab := hc0.wm ae;obtain ⟨ac, H⟩ := H;obtain ⟨ad, al, ag, am, ah, ai⟩ := (aa.st ab.st).get default RD r2 ac;obtain rfl := Kd.int.op ah;exact Xa (X3 u167_ Y9 A7 ad n8 c9 (aa.st ab.st).len r2 Z ag Z ac) (Xa (Xp ag3 cL (ad.add (r2.toNat * 1)) (vi (nth list r2)) Z (ai 0 _ Z)) (Xf (vi (nth list r2)) Z (Xb (Xk ⟨[vi (nth list r2)], ⟨_, Z, Z⟩, (nth list r2), m, Z, H, ab.gr.g1, af⟩))))
def F121.E (a b : Int) (Q : Int → Prop) : Prop :=
 (if decide (a < b) then Q a else Q b)
theorem F121.calls {a : Int} {b : Int} {Q : Int → Prop} (H : F121.E a b Q) (hO : Ok w0 O) :
  Ret Tryz.prog 147 [vi a, vi b] w0 (fun v w' => ∃ (r0 : Int), v = vi r0 ∧ Q r0 ∧ Gr w0 w' none ∧ w' = w0) := by
 unfold F121.E at H;have hc0 := Ct.init hO;refine Yd Tryz.func147 Z 10 Z [.tmp 4] Z Z ?_;refine Xc (Xd (Xf (vi 0) Z (Xb (Xc (Xc (Xd (Xe (vi a) Z (Xe (vi b) Z ?_))))))));refine Xa (Xx a b (decide (a < b)) Z Z Z) (Xb ?_);refine Xu (decide (a < b)) Z (fun hq1 => ?_) (fun hq1 => ?_)
 ·have H := Xi H hq1;exact Xc (Xd (Xe (vi a) Z (Xf (vi a) Z (Xb (Xk ⟨[vi a], ⟨_, Z, Z⟩, a, Z, H, hc0.gr.g0, Z⟩)))))
 have H := Xj H hq1;exact Xz (Xc (Xd (Xe (vi b) Z (Xf (vi b) Z (Xb (Xk ⟨[vi b], ⟨_, Z, Z⟩, b, Z, H, hc0.gr.g0, Z⟩))))))
def F121.m (a b : Int) : Int := (if decide (a < b) then a else b)
theorem F121.fn (a b : Int) : F121.E a b (fun r => r = F121.m a b) := by
 unfold F121.E F121.m;(repeat' split) <;> simp_all
def F138.E (r_b : List UInt8) (r_p : Int) (Q : Pt → Int → Prop) : Prop :=
 F21.E r_b r_p 4 (fun r2 m => F36.E r_b m ([0, 1, 2, 5] : List Int) (fun r3 m2 => Q (⟨r2, r3⟩ : Pt) m2))
theorem F138.calls {b : Nat} {r_b : List UInt8} {A2 : Option Addr} {n3 c4 : Nat} {r_p : Int} {Q : Pt → Int → Prop} (H : F138.E r_b r_p Q) (hO : Ok w0 O) (hp5 : Sl Kd.byte w0 (Fr O) (G A2 n3 c4) r_b) (hp0 : Bx w0 b [G A2 n3 c4, vi r_p]) (hm : some b ∈ O) :
  Ret Tryz.prog 134 [Pz b] w0 (fun v w' => ∃ (r0 : Pt) (m0 : Int), v = .agg #[vi r0.X, vi r0.Y] ∧ Q r0 m0 ∧ Gr w0 w' (some b) ∧ Bx w' b [G A2 n3 c4, vi m0]) := by
 unfold F138.E at H;have hc0 := Ct.initm1 (r := some b) hO (by intro b e; cases e; exact hm);refine Yd Tryz.func134 Z 9 Z [.cell 2 49] Z Z ?_;refine Xc (Xd (Ya [.int .i64 0, .int .i64 0] ze49 fun w7 b8 an hu11 g9 ao => ?_));have aa := hc0.own g9 (some b8) (X9 an hu11);refine Xb (Xc (Xd (Xe (Pz b) Z ?_)));have ap := (hp0.k0 g9);refine Xs go47 (F21.calls H aa.ok (hp5.st aa.st) ap (List.mem_append_right _ hm)) Z ?_;rintro _ a6 ⟨r2, m, rfl, H, ac, aq⟩;have ar := aa.wm ac;refine Xe (Pz b) Z (X7 (kd := (Kd.int .i64)) Zk ar ([0, 1, 2, 5] : List Int) (cells := [vi 0, vi 1, vi 2, vi 5]) ⟨[vi 0], _, Z, Z, ⟨[vi 1], _, Z, Z, ⟨[vi 2], _, Z, Z, ⟨[vi 5], _, Z, Z, Z⟩⟩⟩⟩ RF fun au ad ae af ag hr27 ab av => ?_);have aw := ab.gv av 0 Z;have ah := ab.drop 0 Z;have ax := (aq.k0 ag);refine Xs go146 (F36.calls H ah.ok (hp5.st ah.st) ax (List.mem_append_right _ hm) aw) Z ?_;rintro _ a7 ⟨r3, m2, rfl, H, ai, ay⟩;have aj := ab.wm ai;refine Xa (Yi (.agg #[vi r2, vi r3]) RF) ?_;have az := (ab.bwm ((aa.bwm ao 0 Z ac).k0 ag) 1 Z ai);refine Xw [vi r2, vi r3] az Z Z sz49 Z Z fun a8 ak a0 => ?_;have al := aj.wr 1 Z ak;refine Xb (Xk ?_);have a1 := al.bgv a0 1 Z;have am := al.drop 1 Z;have a2 := am.drop 0 Z;have a3 := am.std 0 Z;have a4 := (a1.st a3);have a5 := (aj.bmo ay 1 Z ak);exact ⟨[.agg #[vi r2, vi r3]], ⟨_, _, Z, a4.1.res Z ag49 sz49, Z⟩, (⟨r2, r3⟩ : Pt), m2, Z, H, a2.gr.g1, a5⟩
def F122.E (n : Int) (Q : Bool → Prop) : Prop :=
 (if decide (n ≥ (-1000)) then Q (decide (n ≤ 1000)) else Q false)
theorem F122.calls {n : Int} {Q : Bool → Prop} (H : F122.E n Q) (hO : Ok w0 O) :
  Ret Tryz.prog 148 [vi n] w0 (fun v w' => ∃ (r0 : Bool), v = vb r0 ∧ Q r0 ∧ Gr w0 w' none ∧ w' = w0) := by
 unfold F122.E at H;have hc0 := Ct.init hO;refine Yd Tryz.func148 Z 9 Z [.tmp 2] Z Z ?_;refine Xc (Xd (Xf (vb false) Z (Xb (Xc (Xd (Xe (vi n) Z (Xa (Xx n (-1000) (decide (n ≥ (-1000))) Z Z Z) (Xe (vb (decide (n ≥ (-1000)))) Z ?_))))))));rcases Yb (decide (n ≥ (-1000))) with hq1 | hq1
 ·have H := Xi H hq1;exact Xl hq1 Z (Xe (vi n) Z (Xl hq1 Z (Xa (Xx n 1000 (decide (n ≤ 1000)) Z Z Z) (Xa (Xv true (vb (decide (n ≤ 1000))) hq1 Z) (Xf (vb (decide (n ≤ 1000))) Z (Xb (Xk ⟨[vb (decide (n ≤ 1000))], ⟨_, Z, Z⟩, decide (n ≤ 1000), Z, H, hc0.gr.g0, Z⟩)))))))
 have H := Xj H hq1;exact Xn hq1 Z (Xn hq1 Z (Xa (Xv false (vb false) hq1 Z) (Xf (vb false) Z (Xb (Xk ⟨[vb false], ⟨_, Z, Z⟩, false, Z, H, hc0.gr.g0, Z⟩)))))
def F122.m (n : Int) : Bool := (if decide (n ≥ (-1000)) then (decide (n ≤ 1000)) else false)
theorem F122.fn (n : Int) : F122.E n (fun r => r = F122.m n) := by
 unfold F122.E F122.m;(repeat' split) <;> simp_all
def F123.E (p : List Pt) (Q : Bool → Prop) : Prop :=
 (∃ (I18 : Int → Prop) (mu19 : Int → Nat), I18 0 ∧ ∀ (i2 : Int), I18 i2 → (if decide (i2 < (p.length : Int)) then ((0 : Int) ≤ i2 ∧ i2 < (p.length : Int)) ∧ (if !(F122.m ((nth p i2).X)) then Q false else ((0 : Int) ≤ i2 ∧ i2 < (p.length : Int)) ∧ (if !(F122.m ((nth p i2).Y)) then Q false else (if decide (i2 > 0) then ((0 : Int) ≤ i2 ∧ i2 < (p.length : Int)) ∧ ((p.length : Int) ≤ 9223372036854775807 → I64 (i2 - 1)) ∧ ((0 : Int) ≤ i2 - 1 ∧ i2 - 1 < (p.length : Int)) ∧ (if eqPt (nth p i2) (nth p (i2 - 1)) then Q false else (-9223372036854775808 ≤ i2) ∧ I18 (i2 + 1) ∧ mu19 (i2 + 1) < mu19 i2) else (-9223372036854775808 ≤ i2) ∧ I18 (i2 + 1) ∧ mu19 (i2 + 1) < mu19 i2))) else Q (decide ((p.length : Int) ≤ 6))))
theorem F123.calls {p : List Pt} {A1 : Option Addr} {n2 c3 : Nat} {Q : Bool → Prop} (H : F123.E p Q) (hO : Ok w0 O) (hp4 : Sl kPt w0 (Fr O) (G A1 n2 c3) p) :
  Ret Tryz.prog 116 [G A1 n2 c3] w0 (fun v w' => ∃ (r0 : Bool), v = vb r0 ∧ Q r0 ∧ Gr w0 w' none) := by
 unfold F123.E at H;have hc0 := Ct.init hO;refine Yd Tryz.func116 Z 45 Z [.tmp 2] Z Z ?_;refine Xc (Xd (Xf (vb false) Z (Xb (Xc (Xc (Xd (Xf (vi 0) Z (Xb ?_))))))));refine X8 ?_;obtain ⟨ax, ay, aj, H⟩ := H;refine Ys (α := Int) (fun (sv__ : Int) t ag => match sv__ with | i2 => ax i2 ∧ Has t [(0, G A1 n2 c3), (3, vi i2)] ∧ Ct [] w0 ag [] O ∧ Sl kPt ag (Fr ([] ++ O)) (G A1 n2 c3) p) (fun (sv__ : Int) => match sv__ with | i2 => ay i2) 0 ⟨aj, (Xt Z), hc0, hp4⟩ ?_;rintro i2 _ ag ⟨aj, az, ae, ad⟩;obtain ⟨bu, rfl⟩ := Has.ins az;have H := H i2 aj;refine Xc (Xc (Xd (Xe (vi i2) Z (Xe (G A1 n2 c3) Z ?_))));have ak := ad.le;refine Xa (X4 u39_ A1 n2 c3 ad.len Z) (Xa (Xx i2 (p.length : Int) (decide (i2 < (p.length : Int))) Z Z Z) (Xb ?_));refine Xu (decide (i2 < (p.length : Int))) Z (fun af => ?_) (fun af => ?_)
 ·have H := Xi H af;refine Xz (Xc (X8 (Xc (Yz (fun x => Gr ag x none) RK RK (Gr.drew _) ?_))));refine X1 (G A1 n2 c3) Z (X1 (vi i2) Z ?_);obtain ⟨am, H⟩ := H;obtain ⟨ah, bv, a0, bw, a1, a2⟩ := ad.get default RD i2 am;obtain rfl := kPt.op a1;refine Xh (X3 u39_ Yh A1 ah n2 c3 ad.len i2 Z a0 Z am) (Xh (Xm fa49_0 (ah.add (i2.toNat * 2)) ((ah.add (i2.toNat * 2)).add 0) Z Z) (Xh (Xp ag3 cQ ((ah.add (i2.toNat * 2)).add 0) (vi ((nth p i2).X)) Z (a2 0 _ Z)) ?_));refine Y6 go148 [vi ((nth p i2).X)] Z (vb (F122.m ((nth p i2).X))) (fun w g => (F122.calls (F122.fn ((nth p i2).X)) (ae.k0 g).ok).mono ?_) ?_
  ·rintro _ w ⟨r, rfl, rfl, g2, _⟩;exact ⟨Z, Gr.t0 g g2⟩
  refine Xh (Yr (F122.m ((nth p i2).X)) Z) (X1 (vb (!(F122.m ((nth p i2).X)))) Z ?_);rcases Yb (!(F122.m ((nth p i2).X))) with ab | ab
  ·have H := Xi H ab;refine X0 ab Z (X0 ab Z (X0 ab Z (X0 ab Z (X0 ab Z (X0 ab Z (X0 ab Z (Xh (Xv true (vb true) ab Z) (X1 (vb true) Z ?_))))))));refine Y8 (dj := 26) Z Z (.inl Z) (Y8 (dj := 26) Z Z (.inl Z) (Y8 (dj := 26) Z Z (.inl Z) (X5 Z (X5 Z (X5 Z (X5 Z (X5 Z (X5 Z ?_))))))));refine X5 Z (X5 Z (X5 Z (X5 Z (Y8 (dj := 26) Z Z (.inl Z) (Xh (Xv true (vb true) Z Z) (Yn fun bx a3 => ?_))))));have a4 := ae.k0 a3;refine Yp (b := true) Z Z ?_;exact Xc (Xd (Xf (vb false) Z (Xb (Xk ⟨[vb false], ⟨_, Z, Z⟩, false, Z, H, a4.gr.g0⟩))))
  have H := Xj H ab;refine Xy ab Z (X1 (G A1 n2 c3) Z (Xy ab Z (X1 (vi i2) Z (Xy ab Z ?_))));obtain ⟨an, H⟩ := H;obtain ⟨ai, bz, a5, b0, a6, a7⟩ := ad.get default RD i2 an;obtain rfl := kPt.op a6;refine Xh (X3 u39_ Yh A1 ai n2 c3 ad.len i2 Z a5 Z an) (Xy ab Z (Xh (Xm fa49_1 (ai.add (i2.toNat * 2)) ((ai.add (i2.toNat * 2)).add 1) Z Z) (Xy ab Z (Xh (Xp ag3 cQ ((ai.add (i2.toNat * 2)).add 1) (vi ((nth p i2).Y)) Z (a7 1 _ Z)) (Xy ab Z ?_)))));refine Y6 go148 [vi ((nth p i2).Y)] Z (vb (F122.m ((nth p i2).Y))) (fun w g => (F122.calls (F122.fn ((nth p i2).Y)) (ae.k0 g).ok).mono ?_) ?_
  ·rintro _ w ⟨r, rfl, rfl, g2, _⟩;exact ⟨Z, Gr.t0 g g2⟩
  refine Xy ab Z (Xh (Yr (F122.m ((nth p i2).Y)) Z) (Xh (Yv false (vb (!(F122.m ((nth p i2).Y)))) (by exact congrArg Value.bool ab) Z) (X1 (vb (!(F122.m ((nth p i2).Y)))) Z ?_)));rcases Yb (!(F122.m ((nth p i2).Y))) with ac | ac
  ·have H := Xi H ac;refine X0 ac Z (X0 ac Z (X0 ac Z (X5 Z (X5 Z (X5 Z (X5 Z (X5 Z (X5 Z ?_))))))));refine X5 Z (X5 Z (X5 Z (X5 Z (X0 ac Z (Xh (Xv true (vb true) ac Z) (Yn fun b1 a8 => ?_))))));have a9 := ae.k0 a8;refine Yp (b := true) Z Z ?_;exact Xc (Xd (Xf (vb false) Z (Xb (Xk ⟨[vb false], ⟨_, Z, Z⟩, false, Z, H, a9.gr.g0⟩))))
  have H := Xj H ac;refine Xy ac Z (X1 (vi i2) Z (Xy ac Z (Xh (Xx i2 0 (decide (i2 > 0)) Z Z Z) (Xy ac Z (X1 (vb (decide (i2 > 0))) Z ?_)))));rcases Yb (decide (i2 > 0)) with aa | aa
  ·have H := Xi H aa;refine Xy aa Z (X1 (G A1 n2 c3) Z (Xy aa Z (X1 (vi i2) Z (Xy aa Z ?_))));obtain ⟨ao, H⟩ := H;obtain ⟨ap, b2, ba, b3, bb, bc⟩ := ad.get default RD i2 ao;obtain rfl := kPt.op bb;refine Xh (X3 u39_ Yh A1 ap n2 c3 ad.len i2 Z ba Z ao) (Xy aa Z (Xh (Xr ag49 sz49 cQ (ap.add (i2.toNat * 2)) [vi ((nth p i2).X), vi ((nth p i2).Y)] Z Z bc) (Xy aa Z (X1 (G A1 n2 c3) Z (Xy aa Z (X1 (vi i2) Z (Xy aa Z ?_)))))));obtain ⟨bd, H⟩ := H;have be := bd (len_le ak);refine Xh (Yt i2 1 Z Z be) (Xy aa Z ?_);obtain ⟨aq, H⟩ := H;obtain ⟨ar, b4, bf, b5, bg, bh⟩ := ad.get default RD (i2 - 1) aq;obtain rfl := kPt.op bg;refine Xh (X3 u39_ Yh A1 ar n2 c3 ad.len (i2 - 1) Z bf Z aq) (Xy aa Z (Xh (Xr ag49 sz49 cQ (ar.add ((i2 - 1).toNat * 2)) [vi ((nth p (i2 - 1)).X), vi ((nth p (i2 - 1)).Y)] Z Z bh) (Xy aa Z (Xh (Zi _ _ (eqPt (nth p i2) (nth p (i2 - 1))) (qt49 (nth p i2) (nth p (i2 - 1))) Z Z) (Xy ac Z (Xh (Yv true (vb (eqPt (nth p i2) (nth p (i2 - 1)))) (by exact congrArg Value.bool aa) Z) (Xh (Yv false (vb (eqPt (nth p i2) (nth p (i2 - 1)))) (by exact congrArg Value.bool ac) Z) (Yn fun b6 au => ?_))))))));have av := ae.k0 au;refine Xu (eqPt (nth p i2) (nth p (i2 - 1))) Z (fun al => ?_) (fun al => ?_)
   ·have H := Xi H al;exact Xc (Xd (Xf (vb false) Z (Xb (Xk ⟨[vb false], ⟨_, Z, Z⟩, false, Z, H, av.gr.g0⟩))))
   have H := Xj H al;refine Xz (Xd (Xe (vi i2) Z ?_));obtain ⟨bi, H⟩ := H;have bj : I64 (i2 + 1) := i64_succ (of_decide_eq_true af) ak bi;refine Xa (X6 i2 1 Z Z bj) (Xf (vi (i2 + 1)) Z (Xb ?_));obtain ⟨bl, bm⟩ := H;have bn := ae.stn au;exact ⟨i2 + 1, bm, bl, (Xt Z), av, (ad.st bn)⟩
  have H := Xj H aa;refine X0 aa Z (X0 aa Z (X0 aa Z (X0 aa Z (X0 aa Z (X0 aa Z (X0 aa Z (X0 aa Z (X0 aa Z ?_))))))));refine X0 aa Z (Xy ac Z (Xh (Xv false (vb false) aa Z) (Xh (Xv false (vb false) ac Z) (Yn fun b7 aw => ?_))));have bo := ae.k0 aw;refine Y4 (b := false) Z Z ?_;refine Xz (Xd (Xe (vi i2) Z ?_));obtain ⟨bp, H⟩ := H;have bq : I64 (i2 + 1) := i64_succ (of_decide_eq_true af) ak bp;refine Xa (X6 i2 1 Z Z bq) (Xf (vi (i2 + 1)) Z (Xb ?_));obtain ⟨br, bs⟩ := H;have bt := ae.stn aw;exact ⟨i2 + 1, bs, br, (Xt Z), bo, (ad.st bt)⟩
 have H := Xj H af;refine Ym (xin_hit ?_);exact Xc (Xd (Xe (G A1 n2 c3) Z (Xa (X4 u39_ A1 n2 c3 ad.len Z) (Xa (Xx (p.length : Int) 6 (decide ((p.length : Int) ≤ 6)) Z Z Z) (Xf (vb (decide ((p.length : Int) ≤ 6))) Z (Xb (Xk ⟨[vb (decide ((p.length : Int) ≤ 6))], ⟨_, Z, Z⟩, decide ((p.length : Int) ≤ 6), Z, H, ae.gr.g0⟩)))))))
def F68.E (s : Shape) (Q : Bool → Prop) : Prop :=
 F123.E s.Pts (fun r => (if !r then Q false else (if s.Kind == 1 then Q ((s.Pts.length : Int) == 1) else (if s.Kind == 2 then Q (decide ((s.Pts.length : Int) ≥ 2)) else (if s.Kind == 3 then (if decide ((s.Pts.length : Int) ≥ 3) then ((0 : Int) ≤ 0 ∧ 0 < (s.Pts.length : Int)) ∧ ((s.Pts.length : Int) ≤ 9223372036854775807 → I64 ((s.Pts.length : Int) - 1)) ∧ ((0 : Int) ≤ (s.Pts.length : Int) - 1 ∧ (s.Pts.length : Int) - 1 < (s.Pts.length : Int)) ∧ Q (!(eqPt (nth s.Pts 0) (nth s.Pts ((s.Pts.length : Int) - 1)))) else Q false) else Q false)))))
theorem F68.calls {s : Shape} {A1 : Option Addr} {n2 c3 : Nat} {Q : Bool → Prop} (H : F68.E s Q) (hO : Ok w0 O) (hp4 : Sl kPt w0 (Fr O) (G A1 n2 c3) s.Pts) :
  Ret Tryz.prog 66 [.agg #[vi s.Kind, G A1 n2 c3]] w0 (fun v w' => ∃ (r0 : Bool), v = vb r0 ∧ Q r0 ∧ Gr w0 w' none) := by
 unfold F68.E at H;have hc0 := Ct.init hO;refine Yd Tryz.func66 Z 38 Z [.tmp 2] Z Z ?_;refine Xc (Xd (Yk [vi s.Kind, G A1 n2 c3] Z fun w6 b7 hl9 hu10 g8 ao => ?_));have ad := Fb.mk hc0.ok hl9 ao;have ac := hc0.k0 g8;refine Xf (vb false) Z (Xb (Xc (Xd (Xa (Xm fa41_1 (Ad b7 0) (Ad b7 1) Z Z) (Xa (Xp ag39 cL (Ad b7 1) (G A1 n2 c3) Z (ad.cell Z)) ?_)))));have ap := (hp4.st ac.st).le;refine Xa (X4 u39_ A1 n2 c3 (hp4.st ac.st).len Z) (Xf (vi (s.Pts.length : Int)) Z (Xb (Xc (Xc (Xd (Xa (Xm fa41_1 (Ad b7 0) (Ad b7 1) Z Z) (Xa (Xp ag39 cL (Ad b7 1) (G A1 n2 c3) Z (ad.cell Z)) ?_)))))));refine Xs go116 (F123.calls H ac.ok (hp4.st ac.st)) Z ?_;rintro _ aq ⟨r, rfl, H, aj⟩;have ab := ac.k0 aj;refine Xa (Yr r Z) (Xb ?_);refine Xu (!r) Z (fun ae => ?_) (fun ae => ?_)
 ·have H := Xi H ae;exact Xc (Xd (Xf (vb false) Z (Xb (Xk ⟨[vb false], ⟨_, Z, Z⟩, false, Z, H, ab.gr.g0⟩))))
 have H := Xj H ae;refine Xz (Xc (Xc (Xd (Xa (Xm fa41_0 (Ad b7 0) (Ad b7 0) Z Z) ?_))));have ar := ac.stn aj;have af := (ad.st ar);refine Xa (Xp ag3 cL (Ad b7 0) (vi s.Kind) Z (af.cell Z)) (Xb (X8 (Xc (Xd (Xa (Xx s.Kind 1 (s.Kind == 1) Z Z Z) (Xf (vb (s.Kind == 1)) Z (Xb ?_)))))));refine Xu (s.Kind == 1) Z (fun ag => ?_) (fun ag => ?_)
 ·have H := Xi H ag;exact Xc (Xd (Xe (vi (s.Pts.length : Int)) Z (Xa (Xx (s.Pts.length : Int) 1 ((s.Pts.length : Int) == 1) Z Z Z) (Xf (vb ((s.Pts.length : Int) == 1)) Z (Xb (Xk ⟨[vb ((s.Pts.length : Int) == 1)], ⟨_, Z, Z⟩, (s.Pts.length : Int) == 1, Z, H, ab.gr.g0⟩))))))
 have H := Xj H ag;refine Xc (Xd (Xa (Xx s.Kind 2 (s.Kind == 2) Z Z Z) (Xf (vb (s.Kind == 2)) Z (Xb ?_))));refine Xu (s.Kind == 2) Z (fun ah => ?_) (fun ah => ?_)
 ·have H := Xi H ah;exact Xc (Xd (Xe (vi (s.Pts.length : Int)) Z (Xa (Xx (s.Pts.length : Int) 2 (decide ((s.Pts.length : Int) ≥ 2)) Z Z Z) (Xf (vb (decide ((s.Pts.length : Int) ≥ 2))) Z (Xb (Xk ⟨[vb (decide ((s.Pts.length : Int) ≥ 2))], ⟨_, Z, Z⟩, decide ((s.Pts.length : Int) ≥ 2), Z, H, ab.gr.g0⟩))))))
 have H := Xj H ah;refine Xc (Xd (Xa (Xx s.Kind 3 (s.Kind == 3) Z Z Z) (Xf (vb (s.Kind == 3)) Z (Xb ?_))));refine Xu (s.Kind == 3) Z (fun ai => ?_) (fun ai => ?_)
 ·have H := Xi H ai;refine Xc (Yz (fun x => Gr aq x none) RK RK (Gr.drew _) ?_);refine X1 (vi (s.Pts.length : Int)) Z (Xh (Xx (s.Pts.length : Int) 3 (decide ((s.Pts.length : Int) ≥ 3)) Z Z Z) (X1 (vb (decide ((s.Pts.length : Int) ≥ 3))) Z ?_));rcases Yb (decide ((s.Pts.length : Int) ≥ 3)) with aa | aa
  ·have H := Xi H aa;refine Xy aa Z (Xh (Xm fa41_1 (Ad b7 0) (Ad b7 1) Z Z) (Xy aa Z (Xh (Xp ag39 cQ (Ad b7 1) (G A1 n2 c3) Z (af.cell Z)) (Xy aa Z ?_))));obtain ⟨ak, H⟩ := H;obtain ⟨al, a6, au, a7, av, aw⟩ := (hp4.st ab.st).get default RD 0 ak;obtain rfl := kPt.op av;refine Xh (X3 u39_ Yh A1 al n2 c3 (hp4.st ab.st).len 0 Z au Z ak) (Xy aa Z (Xh (Xr ag49 sz49 cQ (al.add ((0 : Int).toNat * 2)) [vi ((nth s.Pts 0).X), vi ((nth s.Pts 0).Y)] Z Z aw) (Xy aa Z (Xh (Xm fa41_1 (Ad b7 0) (Ad b7 1) Z Z) (Xy aa Z (Xh (Xp ag39 cQ (Ad b7 1) (G A1 n2 c3) Z (af.cell Z)) (Xy aa Z (X1 (vi (s.Pts.length : Int)) Z ?_))))))));refine Xy aa Z ?_;obtain ⟨ax, H⟩ := H;have ay := ax (len_le ap);refine Xh (Yt (s.Pts.length : Int) 1 Z Z ay) (Xy aa Z ?_);obtain ⟨am, H⟩ := H;obtain ⟨an, a8, az, a9, a0, a1⟩ := (hp4.st ab.st).get default RD ((s.Pts.length : Int) - 1) am;obtain rfl := kPt.op a0;refine Xh (X3 u39_ Yh A1 an n2 c3 (hp4.st ab.st).len ((s.Pts.length : Int) - 1) Z az Z am) (Xy aa Z (Xh (Xr ag49 sz49 cQ (an.add (((s.Pts.length : Int) - 1).toNat * 2)) [vi ((nth s.Pts ((s.Pts.length : Int) - 1)).X), vi ((nth s.Pts ((s.Pts.length : Int) - 1)).Y)] Z Z a1) (Xy aa Z (Xh (Zj _ _ (eqPt (nth s.Pts 0) (nth s.Pts ((s.Pts.length : Int) - 1))) (qt49 (nth s.Pts 0) (nth s.Pts ((s.Pts.length : Int) - 1))) Z Z) (Xh (Yv true (vb (!(eqPt (nth s.Pts 0) (nth s.Pts ((s.Pts.length : Int) - 1))))) (by exact congrArg Value.bool aa) Z) (Y3 (vb (!(eqPt (nth s.Pts 0) (nth s.Pts ((s.Pts.length : Int) - 1))))) Z (Yn fun ba a2 => ?_)))))));have a3 := ab.k0 a2;exact Xk ⟨[vb (!(eqPt (nth s.Pts 0) (nth s.Pts ((s.Pts.length : Int) - 1))))], ⟨_, Z, Z⟩, !(eqPt (nth s.Pts 0) (nth s.Pts ((s.Pts.length : Int) - 1))), Z, H, a3.gr.g0⟩
  have H := Xj H aa;refine X0 aa Z (X0 aa Z (X0 aa Z (X0 aa Z (X0 aa Z (X0 aa Z (X0 aa Z (X0 aa Z (X0 aa Z ?_))))))));refine X0 aa Z (X0 aa Z (Xh (Xv false (vb false) aa Z) (Y3 (vb false) Z (Yn fun bb a4 => ?_))));have a5 := ab.k0 a4;exact Xk ⟨[vb false], ⟨_, Z, Z⟩, false, Z, H, a5.gr.g0⟩
 have H := Xj H ai;exact Xz (Xc (Xd (Xf (vb false) Z (Xb (Xk ⟨[vb false], ⟨_, Z, Z⟩, false, Z, H, ab.gr.g0⟩)))))
def F69.E (r_b : List UInt8) (r_p : Int) (Q : Shape → Int → Prop) : Prop :=
 F36.E r_b r_p ([1, 2, 2, 3, 3] : List Int) (fun r2 m => F21.E r_b m 4 (fun r3 m2 => (I64 (r2 + r3)) ∧ (∃ (J69 : Int → Prop), ((if r2 == 1 then J69 1 else J69 (r2 + r3))) ∧ ∀ (want : Int), J69 want → (∃ (I123 : Int → (List Pt) → Int → Prop) (mu124 : Int → (List Pt) → Int → Nat), I123 0 [] m2 ∧ ∀ (i2 : Int) (xs2 : List Pt) (z2 : Int), I123 i2 xs2 z2 → (if decide (i2 < 12) then (if decide ((xs2.length : Int) < (F121.m want 6)) then F138.E r_b z2 (fun r5 m3 => (∃ (J180 : Bool → Prop), ((if (xs2.length : Int) == 0 then J180 true else ((xs2.length : Int) ≤ 9223372036854775807 → I64 ((xs2.length : Int) - 1)) ∧ ((0 : Int) ≤ (xs2.length : Int) - 1 ∧ (xs2.length : Int) - 1 < (xs2.length : Int)) ∧ (if !(eqPt (nth xs2 ((xs2.length : Int) - 1)) r5) then (if r2 != 3 then J180 true else ((0 : Int) ≤ 0 ∧ 0 < (xs2.length : Int)) ∧ J180 (!(eqPt (nth xs2 0) r5))) else J180 false))) ∧ ∀ (v : Bool), J180 v → (∃ (J279 : (List Pt) → Prop), ((if v then (xs2.length + ([r5] : List Pt).length ≤ 268435456) ∧ J279 (xs2 ++ ([r5] : List Pt)) else J279 xs2)) ∧ ∀ (xs3 : List Pt), J279 xs3 → (I64 (i2 + 1)) ∧ I123 (i2 + 1) xs3 m3 ∧ mu124 (i2 + 1) xs3 m3 < mu124 i2 xs2 z2))) else F68.E (⟨r2, xs2⟩ : Shape) (fun r6 => (if !r6 then F138.E r_b z2 (fun r7 m4 => Q (⟨1, ([r7] : List Pt)⟩ : Shape) m4) else Q (⟨r2, xs2⟩ : Shape) z2))) else F68.E (⟨r2, xs2⟩ : Shape) (fun r8 => (if !r8 then F138.E r_b z2 (fun r9 m5 => Q (⟨1, ([r9] : List Pt)⟩ : Shape) m5) else Q (⟨r2, xs2⟩ : Shape) z2)))))))
theorem F69.calls {b : Nat} {r_b : List UInt8} {A2 : Option Addr} {n3 c4 : Nat} {r_p : Int} {Q : Shape → Int → Prop} (H : F69.E r_b r_p Q) (hO : Ok w0 O) (hp5 : Sl Kd.byte w0 (Fr O) (G A2 n3 c4) r_b) (hp0 : Bx w0 b [G A2 n3 c4, vi r_p]) (hm : some b ∈ O) :
  Ret Tryz.prog 113 [Pz b] w0 (fun v w' => ∃ (r0 : Shape) (m0 : Int) (Aw0 : Option Addr) (nw0 cw0 : Nat), v = .agg #[vi r0.Kind, G Aw0 nw0 cw0] ∧ Q r0 m0 ∧ Gr w0 w' (some b) ∧ Bx w' b [G A2 n3 c4, vi m0] ∧ Ok w' ([bk Aw0] ++ O) ∧ (∀ b, some b ∈ [bk Aw0] → w0.heap.size ≤ b) ∧ Ow kPt 49 w' ([bk Aw0] ++ O) (G Aw0 nw0 cw0) r0.Pts) := by
 unfold F69.E at H;have hc0 := Ct.initm1 (r := some b) hO (by intro b e; cases e; exact hm);refine Yd Tryz.func113 Z 76 Z [.cell 2 41] Z Z ?_;refine Xc (Xd (Ya [.int .i64 0, G none 0 0] ze41 fun w7 b8 d8 hu11 g9 dh => ?_));have d9 := hc0.own g9 (some b8) (X9 d8 hu11);refine Xb (Xc (Xd (Xe (Pz b) Z (X7 (kd := (Kd.int .i64)) Zk d9 ([1, 2, 2, 3, 3] : List Int) (cells := [vi 1, vi 2, vi 2, vi 3, vi 3]) ⟨[vi 1], _, Z, Z, ⟨[vi 2], _, Z, Z, ⟨[vi 2], _, Z, Z, ⟨[vi 3], _, Z, Z, ⟨[vi 3], _, Z, Z, Z⟩⟩⟩⟩⟩ RF fun ea di dj dk cf hr20 bn eb => ?_))));have ec := bn.gv eb 0 Z;have dl := bn.drop 0 Z;have ed := ((hp0.k0 g9).k0 cf);refine Xs go146 (F36.calls H dl.ok (hp5.st dl.st) ed (List.mem_append_right _ hm) ec) Z ?_;rintro _ kf ⟨r2, m, rfl, H, cg, ee⟩;have ef := bn.wm cg;refine Xa (Yi (.agg #[vi r2, G none 0 0]) RF) (Ya [.int .i64 0, G none 0 0] ze41 fun kg aa eg hu38 bz eh => ?_);have b0 := ef.own bz (some aa) (X9 eg hu38);refine Xw [vi r2, G none 0 0] eh Z Z sz41 Z Z fun kh b1 ei => ?_;have ej := b0.wr 0 Z b1;refine Xb (Xc ?_);have ek := ej.drop 1 Z;refine Yy 6 [some b] RK Z fun el bo b2 => ?_;have a8 := ek.k0 bo;refine Xo 0 Z RK b2 (Xm fa41_0 (Ad aa 0) (Ad aa 0) Z Z) ?_;have dm := (ei.k0 bo);refine Xo 1 Z RK b2 (Y5 ag3 cR (Ad aa 0) (vi r2) Z (dm.cell Z) (nm_cons (bx_nem a8 (j := 0) Z) nm_nil)) ?_;refine Xo 2 Z RK b2 (Yc (Pz b) Z) ?_;refine Xq 3 RK Z ?_;have em := ((b0.bmo (ee.k0 bz) 0 Z b1).k0 bo);refine Xs go47 (F21.calls H a8.ok (hp5.st a8.st) em (List.mem_append_right _ hm)) Z ?_;rintro _ ki ⟨r3, m2, rfl, H, bp, dn⟩;have b3 := a8.wm bp;have ch := Gm.tq b2 bp (hv_mem 0 Z);refine Xb ⟨ch, ?_⟩;obtain ⟨en, H⟩ := H;refine Xo 4 Z RK ch (X6 r2 r3 Z Z en) ?_;refine Xo 5 Z RK ch (Y7 (vi (r2 + r3)) Z) ?_;refine Yg RK ?_;refine Xc (Xc (Xd (Xa (Xm fa41_0 (Ad aa 0) (Ad aa 0) Z Z) ?_)));have ci := (a8.bwm dm 0 Z bp);refine Xa (Xp ag3 cL (Ad aa 0) (vi r2) Z (ci.cell Z)) (Xa (Xx r2 1 (r2 == 1) Z Z Z) (Xb ?_));obtain ⟨eo, H, ep⟩ := H;refine Y1 (J := (fun t aw => ∃ (want : Int), eo want ∧ Has t [(0, Pz b), (2, Pz b8), (3, Pz aa), (4, vi want)] ∧ Ct [some b] w0 aw [some aa, some b8] O ∧ Sl Kd.byte aw (Fr ([some aa, some b8] ++ O)) (G A2 n3 c4) r_b ∧ Bx aw b [G A2 n3 c4, vi m2] ∧ Bx aw b8 [vi 0, G none 0 0] ∧ Bx aw aa [vi r2, G none 0 0])) ?_ ?_
 ·refine Xu (r2 == 1) Z (fun cj => ?_) (fun cj => ?_)
  ·have H := Xi H cj;refine Xd (Xf (vi 1) Z (Xb ?_));have eq := (a8.bwm ((b0.bm ((bn.bwm (dh.k0 cf) 1 Z cg).k0 bz) 2 0 Z Z Z b1).k0 bo) 1 Z bp);exact ⟨1, H, (Xt Z), b3, (hp5.st b3.st), dn, eq, ci⟩
  have H := Xj H cj;refine Xz ?_;have er := (a8.bwm ((b0.bm ((bn.bwm (dh.k0 cf) 1 Z cg).k0 bz) 2 0 Z Z Z b1).k0 bo) 1 Z bp);exact ⟨r2 + r3, H, (Xt Z), b3, (hp5.st b3.st), dn, er, ci⟩
 rintro kj aw ⟨want, es, et, dp, eu, ev, ew, ex⟩;obtain ⟨kk, rfl⟩ := Has.ins et;have H := ep want es;refine Xc (Xc (Xd (Xf (vi 0) Z (Xb (X8 ?_)))));have dq := dp.own (Gr.refl _ none) none (by simp);have ey : Ow kPt 49 aw ([bk none, some aa, some b8] ++ O) (G none 0 0) [] := Ow.nil _ _ _ _;have ez := dq.own (Gr.refl _ none) none (by simp);have e0 : Ow kPt 49 aw ([bk none, bk none, some aa, some b8] ++ O) (G none 0 0) [] := Ow.nil _ _ _ _;obtain ⟨e1, e2, ck, H⟩ := H;have e3 := dp.st0n;have e4 := dq.st0n;have e5 := ((eu.st e3).st e4);have e6 := (ey.so none (Gr.refl _ none) (by simp));have e7 := ev;have e8 := ew;have e9 := ex;refine Ys (α := Int × (List Pt) × (Option Addr) × Nat × Nat × Int) (fun (i2, xs2, ab, ac, ad, z2) t aq => e1 i2 xs2 z2 ∧ Has t [(0, Pz b), (2, Pz b8), (3, Pz aa), (4, vi want), (5, vi i2)] ∧ Cw [some b] w0 aq [bk ab, bk none, some aa, some b8] O fun M => Sl Kd.byte aq (Fr M) (G A2 n3 c4) r_b ∧ Ow kPt 49 aq M (G none 0 0) ([] : List Pt) ∧ Ow kPt 49 aq M (G ab ac ad) xs2 ∧ Bx aq b [G A2 n3 c4, vi z2] ∧ Bx aq b8 [vi 0, G none 0 0] ∧ Bx aq aa [vi r2, G ab ac ad]) (fun (i2, xs2, _, _, _, z2) => e2 i2 xs2 z2) (0, ([] : List Pt), none, 0, 0, m2) ⟨ck, (Xt Z), ez, e5, e6, e0, e7, e8, e9⟩ ?_;rintro ⟨i2, xs2, ab, ac, ad, z2⟩ _ aq ⟨ck, fa, bb, a9, b4, ba, bq, ax, b5⟩;obtain ⟨kl, rfl⟩ := Has.ins fa;have H := H i2 xs2 z2 ck;refine Xc (Xc (Yz (fun x => Gr aq x none) RK RK (Gr.drew _) ?_));refine X1 (vi i2) Z (Xh (Xx i2 12 (decide (i2 < 12)) Z Z Z) (X1 (vb (decide (i2 < 12))) Z ?_));rcases Yb (decide (i2 < 12)) with ak | ak
 ·have H := Xi H ak;refine Xy ak Z (Xh (Xm fa41_1 (Ad aa 0) (Ad aa 1) Z Z) (Xy ak Z (Xh (Xp ag39 cQ (Ad aa 1) (G ab ac ad) Z (b5.cell Z)) (Xy ak Z ?_))));have fb := ba.le;refine Xh (X4 u39_ ab ac ad ba.len Z) (Xy ak Z (X1 (vi want) Z (Xy ak Z ?_)));refine Y6 go147 [vi want, vi 6] Z (vi (F121.m want 6)) (fun w g => (F121.calls (F121.fn want 6) (bb.k0 g).ok).mono ?_) ?_
  ·rintro _ w ⟨r, rfl, rfl, g2, _⟩;exact ⟨Z, Gr.t0 g g2⟩
  refine Xy ak Z (Xh (Xx (xs2.length : Int) (F121.m want 6) (decide ((xs2.length : Int) < (F121.m want 6))) Z Z Z) (Xh (Yv true (vb (decide ((xs2.length : Int) < (F121.m want 6)))) (by exact congrArg Value.bool ak) Z) (Yn fun dr af => ?_)));have ag := bb.k0 af;refine Xu (decide ((xs2.length : Int) < (F121.m want 6))) Z (fun cl => ?_) (fun cl => ?_)
  ·have H := Xi H cl;refine Xz (Xc (X8 (Xc (Xd (Xe (Pz b) Z ?_)))));have br := bb.stn af;have fc := (bq.k0 af);refine Xs go134 (F138.calls H ag.ok (a9.st br) fc (List.mem_append_right _ hm)) Z ?_;rintro _ km ⟨r5, m3, rfl, H, an, b6⟩;have bs := ag.wm an;refine Ya [.int .i64 0, .int .i64 0] ze49 fun kn ao ap hu160 ah fd => ?_;have ai := bs.own ah (some ao) (X9 ap hu160);refine Xw [vi r5.X, vi r5.Y] fd Z Z sz49 Z Z fun fe aj bc => ?_;have ay := ai.wr 0 Z aj;refine Xb (Xc (Xd (Xa (Xm fa41_1 (Ad aa 0) (Ad aa 1) Z Z) ?_)));have az := (ai.bm ((ag.bwm (b5.k0 af) 2 Z an).k0 ah) 3 0 Z Z Z aj);refine Xa (Xp ag39 cL (Ad aa 1) (G ab ac ad) Z (az.cell Z)) ?_;have ar := (ai.sw ((ag.swm (ba.sn af) 0 Z an).so _ ah (Xg ap)) 1 0 Z Z Z aj);refine Xa (X4 u39_ ab ac ad ar.len Z) (Xf (vi (xs2.length : Int)) Z (Xb (Xc ?_)));obtain ⟨ff, H, fg⟩ := H;refine Y1 (J := (fun t au => ∃ (v : Bool), ff v ∧ Has t [(0, Pz b), (2, Pz b8), (3, Pz aa), (4, vi want), (5, vi i2), (6, Pz ao), (61, vb v)] ∧ Cw [some b] w0 au [some ao, bk ab, bk none, some aa, some b8] O fun M => Sl Kd.byte au (Fr M) (G A2 n3 c4) r_b ∧ Ow kPt 49 au M (G none 0 0) ([] : List Pt) ∧ Ow kPt 49 au M (G ab ac ad) xs2 ∧ Bx au b [G A2 n3 c4, vi m3] ∧ Bx au b8 [vi 0, G none 0 0] ∧ Bx au aa [vi r2, G ab ac ad] ∧ Bx au ao [vi r5.X, vi r5.Y])) ?_ ?_
   ·refine Yz (fun x => Gr fe x none) RK RK (Gr.drew _) ?_;refine X1 (vi (xs2.length : Int)) Z (Xh (Xx (xs2.length : Int) 0 ((xs2.length : Int) == 0) Z Z Z) (X1 (vb ((xs2.length : Int) == 0)) Z ?_));rcases Yb ((xs2.length : Int) == 0) with ae | ae
    ·have H := Xi H ae;refine X0 ae Z (X0 ae Z (X0 ae Z (X0 ae Z (X0 ae Z (X0 ae Z (X0 ae Z (X0 ae Z (X0 ae Z ?_))))))));refine X5 Z (X5 Z (X5 Z (X5 Z (X5 Z (X5 Z (X5 Z (X5 Z (X5 Z ?_))))))));refine X5 Z (X5 Z (X0 ae Z (Xh (Xv true (vb true) ae Z) (Yn fun ko a0 => ?_))));have fh := ay.k0 a0;have fi := ag.stm an;have fj := bs.stown _ ah (Xg ap);have fk := ai.stw 0 Z aj;have fl := ay.stn a0;have fm := (((((a9.st br).st fi).st fj).st fk).st fl);have fo := ((ai.sw ((ag.swm (b4.sn af) 1 Z an).so _ ah (Xg ap)) 2 0 Z Z Z aj).sn a0);have fp := (ar.sn a0);have fq := ((ai.bmo (b6.k0 ah) 0 Z aj).k0 a0);have fr := ((ai.bm ((ag.bwm (ax.k0 af) 3 Z an).k0 ah) 4 0 Z Z Z aj).k0 a0);have fs := (az.k0 a0);have ft := (bc.k0 a0);exact ⟨true, H, (Xt Z), fh, fm, fo, fp, fq, fr, fs, ft⟩
    have H := Xj H ae;refine Xy ae Z (Xh (Xm fa41_1 (Ad aa 0) (Ad aa 1) Z Z) (Xy ae Z (Xh (Xp ag39 cQ (Ad aa 1) (G ab ac ad) Z (az.cell Z)) (Xy ae Z (X1 (vi (xs2.length : Int)) Z (Xy ae Z ?_))))));obtain ⟨fu, H⟩ := H;have fv := fu (len_le fb);refine Xh (Yt (xs2.length : Int) 1 Z Z fv) (Xy ae Z ?_);obtain ⟨ds, H⟩ := H;obtain ⟨dt, kp, fw, fx, fy⟩ := ar.get default RD ((xs2.length : Int) - 1) ds;obtain rfl := kPt.op fx;refine Xh (X3 u39_ Yh ab dt ac ad ar.len ((xs2.length : Int) - 1) Z fw Z ds) (Xy ae Z (Xh (Xr ag49 sz49 cQ (dt.add (((xs2.length : Int) - 1).toNat * 2)) [vi ((nth xs2 ((xs2.length : Int) - 1)).X), vi ((nth xs2 ((xs2.length : Int) - 1)).Y)] Z Z fy) (Xy ae Z (Xh (Xr ag49 sz49 cQ (Ad ao 0) [vi r5.X, vi r5.Y] Z Z (bc.cells (off := 00) Z)) (Xy ae Z (Xh (Zj _ _ (eqPt (nth xs2 ((xs2.length : Int) - 1)) r5) (qt49 (nth xs2 ((xs2.length : Int) - 1)) r5) Z Z) (Xy ae Z (X1 (vb (!(eqPt (nth xs2 ((xs2.length : Int) - 1)) r5))) Z ?_))))))));rcases Yb (!(eqPt (nth xs2 ((xs2.length : Int) - 1)) r5)) with al | al
    ·have H := Xi H al;refine Xy al Z (Xh (Xm fa41_0 (Ad aa 0) (Ad aa 0) Z Z) (Xy al Z (Xh (Xp ag3 cQ (Ad aa 0) (vi r2) Z (az.cell Z)) (Xy al Z (Xh (Xx r2 3 (r2 != 3) Z Z Z) (Xy al Z (X1 (vb (r2 != 3)) Z ?_)))))));rcases Yb (r2 != 3) with am | am
     ·have H := Xi H am;refine X0 am Z (X0 am Z (X0 am Z (X0 am Z (X0 am Z (X0 am Z (Xy al Z (Xh (Xv true (vb true) am Z) (Xy ae Z ?_))))))));refine Xh (Xv true (vb true) al Z) (Xh (Xv false (vb true) ae Z) (Yn fun kq a1 => ?_));have fz := ay.k0 a1;have f0 := ag.stm an;have f1 := bs.stown _ ah (Xg ap);have f2 := ai.stw 0 Z aj;have f3 := ay.stn a1;have f4 := (((((a9.st br).st f0).st f1).st f2).st f3);have f5 := ((ai.sw ((ag.swm (b4.sn af) 1 Z an).so _ ah (Xg ap)) 2 0 Z Z Z aj).sn a1);have f6 := (ar.sn a1);have f7 := ((ai.bmo (b6.k0 ah) 0 Z aj).k0 a1);have f8 := ((ai.bm ((ag.bwm (ax.k0 af) 3 Z an).k0 ah) 4 0 Z Z Z aj).k0 a1);have f9 := (az.k0 a1);have ga := (bc.k0 a1);exact ⟨true, H, (Xt Z), fz, f4, f5, f6, f7, f8, f9, ga⟩
     have H := Xj H am;refine Xy am Z (Xh (Xm fa41_1 (Ad aa 0) (Ad aa 1) Z Z) (Xy am Z (Xh (Xp ag39 cQ (Ad aa 1) (G ab ac ad) Z (az.cell Z)) (Xy am Z ?_))));obtain ⟨du, H⟩ := H;obtain ⟨dv, kr, gb, gc, gd⟩ := ar.get default RD 0 du;obtain rfl := kPt.op gc;refine Xh (X3 u39_ Yh ab dv ac ad ar.len 0 Z gb Z du) (Xy am Z (Xh (Xr ag49 sz49 cQ (dv.add ((0 : Int).toNat * 2)) [vi ((nth xs2 0).X), vi ((nth xs2 0).Y)] Z Z gd) (Xy am Z (Xh (Xr ag49 sz49 cQ (Ad ao 0) [vi r5.X, vi r5.Y] Z Z (bc.cells (off := 00) Z)) (Xy am Z (Xh (Zj _ _ (eqPt (nth xs2 0) r5) (qt49 (nth xs2 0) r5) Z Z) (Xy al Z (Xh (Yv false (vb (!(eqPt (nth xs2 0) r5))) (by exact congrArg Value.bool am) Z) ?_))))))));refine Xy ae Z (Xh (Yv true (vb (!(eqPt (nth xs2 0) r5))) (by exact congrArg Value.bool al) Z) (Xh (Yv false (vb (!(eqPt (nth xs2 0) r5))) (by exact congrArg Value.bool ae) Z) (Yn fun ks a2 => ?_)));have gf := ay.k0 a2;have gg := ag.stm an;have gh := bs.stown _ ah (Xg ap);have gi := ai.stw 0 Z aj;have gj := ay.stn a2;have gk := (((((a9.st br).st gg).st gh).st gi).st gj);have gl := ((ai.sw ((ag.swm (b4.sn af) 1 Z an).so _ ah (Xg ap)) 2 0 Z Z Z aj).sn a2);have gm := (ar.sn a2);have gn := ((ai.bmo (b6.k0 ah) 0 Z aj).k0 a2);have gp := ((ai.bm ((ag.bwm (ax.k0 af) 3 Z an).k0 ah) 4 0 Z Z Z aj).k0 a2);have gq := (az.k0 a2);have gs := (bc.k0 a2);exact ⟨!(eqPt (nth xs2 0) r5), H, (Xt Z), gf, gk, gl, gm, gn, gp, gq, gs⟩
    have H := Xj H al;refine X0 al Z (X0 al Z (X0 al Z (X0 al Z (X5 Z (X5 Z (X5 Z (X5 Z (X5 Z ?_))))))));refine X5 Z (X0 al Z (Xy ae Z (Xh (Xv false (vb false) al Z) (Xh (Xv false (vb false) ae Z) (Yn fun kt a3 => ?_)))));have gt := ay.k0 a3;have gu := ag.stm an;have gw := bs.stown _ ah (Xg ap);have gx := ai.stw 0 Z aj;have gy := ay.stn a3;have gz := (((((a9.st br).st gu).st gw).st gx).st gy);have g0 := ((ai.sw ((ag.swm (b4.sn af) 1 Z an).so _ ah (Xg ap)) 2 0 Z Z Z aj).sn a3);have g3 := (ar.sn a3);have g4 := ((ai.bmo (b6.k0 ah) 0 Z aj).k0 a3);have g5 := ((ai.bm ((ag.bwm (ax.k0 af) 3 Z an).k0 ah) 4 0 Z Z Z aj).k0 a3);have g6 := (az.k0 a3);have g7 := (bc.k0 a3);exact ⟨false, H, (Xt Z), gt, gz, g0, g3, g4, g5, g6, g7⟩
   rintro ku au ⟨v, g8, ha, bd, dw, dx, dy, dz, d0, cm, hb⟩;obtain ⟨kv, rfl⟩ := Has.ins ha;have H := fg v g8;obtain ⟨hc, H, hd⟩ := H;refine Y1 (J := (fun t a4 => ∃ (xs3 : List Pt) (a5 : Option Addr) (b7 b9 : Nat), hc xs3 ∧ Has t [(0, Pz b), (2, Pz b8), (3, Pz aa), (4, vi want), (5, vi i2)] ∧ Cw [some b] w0 a4 [bk a5, bk none, some aa, some b8] O fun M => Sl Kd.byte a4 (Fr M) (G A2 n3 c4) r_b ∧ Ow kPt 49 a4 M (G none 0 0) ([] : List Pt) ∧ Ow kPt 49 a4 M (G a5 b7 b9) xs3 ∧ Bx a4 b [G A2 n3 c4, vi m3] ∧ Bx a4 b8 [vi 0, G none 0 0] ∧ Bx a4 aa [vi r2, G a5 b7 b9])) ?_ ?_
   ·refine Xu v Z (fun cn => ?_) (fun cn => ?_)
    ·have H := Xi H cn;refine Xd (Xa (Xm fa41_1 (Ad aa 0) (Ad aa 1) Z Z) (Xa (Xp ag39 cL (Ad aa 1) (G ab ac ad) Z (cm.cell Z)) (Xa (Xr ag49 sz49 cL (Ad ao 0) [vi r5.X, vi r5.Y] Z Z (hb.cells (off := 00) Z)) (X7 (kd := kPt) Ye bd ([r5] : List Pt) (cells := [vi r5.X, vi r5.Y]) ⟨[vi r5.X, vi r5.Y], _, Z, (kPt.mk _ _ r5), Z⟩ RF fun kx he hf hg be hr288 bt hh => ?_))));obtain ⟨hi, H⟩ := H;have hj := (dy.so _ be hr288);refine Yf Ye bt (G ab ac ad) xs2 ([r5] : List Pt) Z hj (G he hf hg) Z hh.sx 2 Z hi fun ky ca co cp cb d1 bf hk => ?_;refine Xa (Xm fa41_1 (Ad aa 0) (Ad aa 1) Z Z) ?_;have hl := (bt.bm (cm.k0 be) 4 2 Z Z Z cb);refine Yq 1 [G ca co cp] [vi r2, G ca co cp] hl Z Z sz39 Z Z Z fun hn bg ho => ?_;have cc := bf.wr 4 Z bg;refine Xb ?_;have cd := cc.drop 0 Z;have hp : Ct [some b] w0 hn [bk ca, bk none, some aa, some b8] O := cd.drop 0 Z;have hq := bd.stown _ be hr288;have hr := bf.stw 4 Z bg;have hs := cc.std 0 Z;have ht := cd.std 0 Z;have hu := (((((dw.st hq).st d1).st hr).st hs).st ht);have hv := (cd.sd (cc.sd (bf.sw (bt.sm (dx.so _ be hr288) 3 2 Z Z Z cb d1) 3 4 Z Z Z bg) 3 0 Z Z Z) 2 0 Z Z Z);have hw := (cd.sd (cc.sd (bf.sw hk 2 4 Z Z Z bg) 2 0 Z Z Z) 1 0 Z Z Z);have hx := (bf.bmo (bt.bmo (dz.k0 be) 2 Z cb) 4 Z bg);have hy := (bf.bm (bt.bm (d0.k0 be) 5 2 Z Z Z cb) 5 4 Z Z Z bg);have hz := ho;exact ⟨(xs2 ++ ([r5] : List Pt)), ca, co, cp, H, (Xt Z), hp, hu, hv, hw, hx, hy, hz⟩
    have H := Xj H cn;refine Xz ?_;have h0 := bd.drop 0 Z;have h1 := bd.std 0 Z;have h2 := (bd.sd dx 2 0 Z Z Z);have h3 := (bd.sd dy 1 0 Z Z Z);have h4 := dz;have h5 := d0;have h6 := cm;exact ⟨xs2, ab, ac, ad, H, (Xt Z), h0, (dw.st h1), h2, h3, h4, h5, h6⟩
   rintro kz a4 ⟨xs3, a5, b7, b9, h7, h8, h9, ia, ib, ic, id, ie, ig⟩;obtain ⟨k1, rfl⟩ := Has.ins h8;have H := hd xs3 h7;refine Xd (Xe (vi i2) Z ?_);obtain ⟨ih, H⟩ := H;refine Xa (X6 i2 1 Z Z ih) (Xf (vi (i2 + 1)) Z (Xb ?_));obtain ⟨ii, ij⟩ := H;exact ⟨(i2 + 1, xs3, a5, b7, b9, m3), ij, ii, (Xt Z), h9, ia, ib, ic, id, ie, ig⟩
  have H := Xj H cl;refine Ym (xin_hit ?_);refine Xc (Xc (Xd ?_));have d2 := (b5.k0 af);refine Xa (Xr ag41 sz41 cL (Ad aa 0) [vi r2, G ab ac ad] Z Z (d2.cells (off := 00) Z)) ?_;have ik := (ba.sn af);have il := ag.gv ik 0 Z;have im := ag.drop 0 Z;refine Xs go66 (F68.calls H im.ok il) Z ?_;rintro _ io ⟨r6, rfl, H, a6⟩;have bh := ag.k0 a6;refine Xa (Yr r6 Z) (Xb ?_);refine Xu (!r6) Z (fun cq => ?_) (fun cq => ?_)
  ·have H := Xi H cq;refine Xc (Xd (Xe (Pz b) Z ?_));have ip := bb.stn af;have iq := ag.stn a6;have ir := ((a9.st ip).st iq);have it := ((bq.k0 af).k0 a6);refine Xs go134 (F138.calls H bh.ok ir it (List.mem_append_right _ hm)) Z ?_;rintro _ k2 ⟨r7, m4, rfl, H, d3, iu⟩;have iv := bh.wm d3;refine X7 (kd := kPt) Ye iv ([r7] : List Pt) (cells := [vi r7.X, vi r7.Y]) ⟨[vi r7.X, vi r7.Y], _, Z, (kPt.mk _ _ r7), Z⟩ RF fun k3 bi bu bv d4 hr360 cr iw => ?_;refine Xa (Yi (.agg #[vi 1, G bi bu bv]) RF) ?_;have ix := ((bh.bwm ((ax.k0 af).k0 a6) 3 Z d3).k0 d4);refine Xw [vi 1, G bi bu bv] ix Z Z sz41 Z Z fun iy cs iz => ?_;have ct := cr.wr 4 Z cs;refine Xb (Xk ?_);have i0 := ct.bgv iz 4 Z;have cu := ct.drop 4 Z;have cv : Ct [some b] w0 iy [bk bi, bk none, some aa] O := cu.drop 1 Z;have cw := cv.drop 1 Z;have cx := cw.drop 1 Z;have i1 := cu.std 1 Z;have i3 := cv.std 1 Z;have i4 := cw.std 1 Z;have i5 := (((i0.st i1).st i3).st i4);have i6 := (cw.sd (cv.sd (cu.sd (ct.sd (cr.sw iw 0 4 Z Z Z cs) 0 4 Z Z Z) 0 1 Z Z Z) 0 1 Z Z Z) 0 1 Z Z Z);have i7 := (cr.bmo (iu.k0 d4) 4 Z cs);exact ⟨[.agg #[vi 1, G bi bu bv]], ⟨_, _, Z, i5.1.res Z ag41 sz41, Z⟩, (⟨1, ([r7] : List Pt)⟩ : Shape), m4, bi, bu, bv, Z, H, cx.gr.g1, i7, cx.ok, cx.ge, i6⟩
  have H := Xj H cq;refine Xz (Xc (Xd ?_));have i8 := (d2.k0 a6);refine Xa (Xr ag41 sz41 cL (Ad aa 0) [vi r2, G ab ac ad] Z Z (i8.cells (off := 00) Z)) ?_;have i9 := ((ax.k0 af).k0 a6);refine Xw [vi r2, G ab ac ad] i9 Z Z sz41 Z Z fun ja cy jb => ?_;have cz := bh.wr 3 Z cy;refine Xb (Xk ?_);have jc := cz.bgv jb 3 Z;have c0 := cz.drop 3 Z;have c1 : Ct [some b] w0 ja [bk ab, some aa] O := c0.drop 1 Z;have c2 := c1.drop 1 Z;have jd := c0.std 1 Z;have je := c1.std 1 Z;have jf := ((jc.st jd).st je);have jg := (c1.sd (c0.sd (cz.sd (bh.sw ((ba.sn af).sn a6) 0 3 Z Z Z cy) 0 3 Z Z Z) 0 1 Z Z Z) 0 1 Z Z Z);have jh := (bh.bmo ((bq.k0 af).k0 a6) 3 Z cy);exact ⟨[.agg #[vi r2, G ab ac ad]], ⟨_, _, Z, jf.1.res Z ag41 sz41, Z⟩, (⟨r2, xs2⟩ : Shape), z2, ab, ac, ad, Z, H, c2.gr.g1, jh, c2.ok, c2.ge, jg⟩
 have H := Xj H ak;refine X0 ak Z (X0 ak Z (X0 ak Z (X0 ak Z (X0 ak Z (X0 ak Z (Xh (Xv false (vb false) ak Z) (Yn fun ji av => ?_)))))));have ce := bb.k0 av;refine Y4 (b := false) Z Z ?_;refine Ym (xin_hit ?_);refine Xc (Xc (Xd ?_));have d5 := (b5.k0 av);refine Xa (Xr ag41 sz41 cL (Ad aa 0) [vi r2, G ab ac ad] Z Z (d5.cells (off := 00) Z)) ?_;have jj := (ba.sn av);have jk := ce.gv jj 0 Z;have jl := ce.drop 0 Z;refine Xs go66 (F68.calls H jl.ok jk) Z ?_;rintro _ jm ⟨r8, rfl, H, a7⟩;have bj := ce.k0 a7;refine Xa (Yr r8 Z) (Xb ?_);refine Xu (!r8) Z (fun c3 => ?_) (fun c3 => ?_)
 ·have H := Xi H c3;refine Xc (Xd (Xe (Pz b) Z ?_));have jn := bb.stn av;have jo := ce.stn a7;have jp := ((a9.st jn).st jo);have jq := ((bq.k0 av).k0 a7);refine Xs go134 (F138.calls H bj.ok jp jq (List.mem_append_right _ hm)) Z ?_;rintro _ k4 ⟨r9, m5, rfl, H, d6, jr⟩;have js := bj.wm d6;refine X7 (kd := kPt) Ye js ([r9] : List Pt) (cells := [vi r9.X, vi r9.Y]) ⟨[vi r9.X, vi r9.Y], _, Z, (kPt.mk _ _ r9), Z⟩ RF fun k5 bl bw bx d7 hr426 c5 jt => ?_;refine Xa (Yi (.agg #[vi 1, G bl bw bx]) RF) ?_;have ju := ((bj.bwm ((ax.k0 av).k0 a7) 3 Z d6).k0 d7);refine Xw [vi 1, G bl bw bx] ju Z Z sz41 Z Z fun jv c6 jw => ?_;have c7 := c5.wr 4 Z c6;refine Xb (Xk ?_);have jx := c7.bgv jw 4 Z;have c8 := c7.drop 4 Z;have c9 : Ct [some b] w0 jv [bk bl, bk none, some aa] O := c8.drop 1 Z;have da := c9.drop 1 Z;have db := da.drop 1 Z;have jy := c8.std 1 Z;have jz := c9.std 1 Z;have j0 := da.std 1 Z;have j1 := (((jx.st jy).st jz).st j0);have j2 := (da.sd (c9.sd (c8.sd (c7.sd (c5.sw jt 0 4 Z Z Z c6) 0 4 Z Z Z) 0 1 Z Z Z) 0 1 Z Z Z) 0 1 Z Z Z);have j3 := (c5.bmo (jr.k0 d7) 4 Z c6);exact ⟨[.agg #[vi 1, G bl bw bx]], ⟨_, _, Z, j1.1.res Z ag41 sz41, Z⟩, (⟨1, ([r9] : List Pt)⟩ : Shape), m5, bl, bw, bx, Z, H, db.gr.g1, j3, db.ok, db.ge, j2⟩
 have H := Xj H c3;refine Xz (Xc (Xd ?_));have j4 := (d5.k0 a7);refine Xa (Xr ag41 sz41 cL (Ad aa 0) [vi r2, G ab ac ad] Z Z (j4.cells (off := 00) Z)) ?_;have j5 := ((ax.k0 av).k0 a7);refine Xw [vi r2, G ab ac ad] j5 Z Z sz41 Z Z fun j6 dc j7 => ?_;have dd := bj.wr 3 Z dc;refine Xb (Xk ?_);have j8 := dd.bgv j7 3 Z;have de := dd.drop 3 Z;have df : Ct [some b] w0 j6 [bk ab, some aa] O := de.drop 1 Z;have dg := df.drop 1 Z;have j9 := de.std 1 Z;have ka := df.std 1 Z;have kb := ((j8.st j9).st ka);have kc := (df.sd (de.sd (dd.sd (bj.sw ((ba.sn av).sn a7) 0 3 Z Z Z dc) 0 3 Z Z Z) 0 1 Z Z Z) 0 1 Z Z Z);have ke := (bj.bmo ((bq.k0 av).k0 a7) 3 Z dc);exact ⟨[.agg #[vi r2, G ab ac ad]], ⟨_, _, Z, kb.1.res Z ag41 sz41, Z⟩, (⟨r2, xs2⟩ : Shape), z2, ab, ac, ad, Z, H, dg.gr.g1, ke, dg.ok, dg.ge, kc⟩
def F44.E (r_b : List UInt8) (r_p : Int) (list : List Str) (Q : Str → Int → Prop) : Prop :=
 F21.E r_b r_p (list.length : Int) (fun r2 m => ((0 : Int) ≤ r2 ∧ r2 < (list.length : Int)) ∧ Q (nth list r2) m)
theorem F44.calls {b : Nat} {r_b : List UInt8} {A2 : Option Addr} {n3 c4 : Nat} {r_p : Int} {list : List Str} {A7 : Option Addr} {n8 c9 : Nat} {Q : Str → Int → Prop} (H : F44.E r_b r_p list Q) (hO : Ok w0 O) (hp5 : Sl Kd.byte w0 (Fr O) (G A2 n3 c4) r_b) (hp0 : Bx w0 b [G A2 n3 c4, vi r_p]) (hm : some b ∈ O) (aa : Sl Kd.str w0 (Fr O) (G A7 n8 c9) list) :
  Ret Tryz.prog 96 [Pz b, G A7 n8 c9] w0 (fun v w' => ∃ (r0 : Str) (m0 : Int), v = vs r0 ∧ Q r0 m0 ∧ Gr w0 w' (some b) ∧ Bx w' b [G A2 n3 c4, vi m0] ∧ Lim r0) := by
 unfold F44.E at H;have hc0 := Ct.initm1 (r := some b) hO (by intro b e; cases e; exact hm);refine Yd Tryz.func96 Z 12 Z [.tmp 4] Z Z ?_;refine Xc (Xd (Xf (vs []) Z (Xb (Xc (Xd (Xe (G A7 n8 c9) Z (Xe (Pz b) Z (Xe (G A7 n8 c9) Z ?_))))))));have ak := aa.le;refine Xa (X4 u50_ A7 n8 c9 aa.len Z) ?_;refine Xs go47 (F21.calls H hc0.ok hp5 hp0 hm) Z ?_;rintro _ al ⟨r2, m, rfl, H, ae, af⟩;have ab := hc0.wm ae;obtain ⟨ac, H⟩ := H;obtain ⟨ad, am, ag, an, ah, ai⟩ := (aa.st ab.st).get default RD r2 ac;obtain ⟨rfl, aj⟩ := Kd.str.op ah;exact Xa (X3 u50_ Zl A7 ad n8 c9 (aa.st ab.st).len r2 Z ag Z ac) (Xa (Xp ag9 cL (ad.add (r2.toNat * 1)) (vs (nth list r2)) Z (ai 0 _ Z)) (Xf (vs (nth list r2)) Z (Xb (Xk ⟨[vs (nth list r2)], ⟨_, Z, Z⟩, (nth list r2), m, Z, H, ab.gr.g1, af, aj⟩))))
def F124.E (r_b : List UInt8) (r_p : Int) (Q : Str → Int → Prop) : Prop :=
 F44.E r_b r_p ([([110, 97, 109, 101] : Str), ([107, 105, 110, 100] : Str), ([117, 115, 101] : Str), ([116, 111, 110, 101] : Str)] : List Str) (fun r2 m => Q r2 m)
theorem F124.calls {b : Nat} {r_b : List UInt8} {A2 : Option Addr} {n3 c4 : Nat} {r_p : Int} {Q : Str → Int → Prop} (H : F124.E r_b r_p Q) (hO : Ok w0 O) (hp5 : Sl Kd.byte w0 (Fr O) (G A2 n3 c4) r_b) (hp0 : Bx w0 b [G A2 n3 c4, vi r_p]) (hm : some b ∈ O) :
  Ret Tryz.prog 101 [Pz b] w0 (fun v w' => ∃ (r0 : Str) (m0 : Int), v = vs r0 ∧ Q r0 m0 ∧ Gr w0 w' (some b) ∧ Bx w' b [G A2 n3 c4, vi m0] ∧ Lim r0) := by
 unfold F124.E at H;have hc0 := Ct.initm1 (r := some b) hO (by intro b e; cases e; exact hm);refine Yd Tryz.func101 Z 6 Z [.tmp 2] Z Z ?_;refine Xc (Xd (Xf (vs []) Z (Xb (Xc (Xd (Xe (Pz b) Z (X7 (kd := Kd.str) Yu hc0 ([([110, 97, 109, 101] : Str), ([107, 105, 110, 100] : Str), ([117, 115, 101] : Str), ([116, 111, 110, 101] : Str)] : List Str) (cells := [vs ([110, 97, 109, 101] : Str), vs ([107, 105, 110, 100] : Str), vs ([117, 115, 101] : Str), vs ([116, 111, 110, 101] : Str)]) ⟨[vs ([110, 97, 109, 101] : Str)], _, Z, ⟨Z, (by decide : Lim ([110, 97, 109, 101] : Str))⟩, ⟨[vs ([107, 105, 110, 100] : Str)], _, Z, ⟨Z, (by decide : Lim ([107, 105, 110, 100] : Str))⟩, ⟨[vs ([117, 115, 101] : Str)], _, Z, ⟨Z, (by decide : Lim ([117, 115, 101] : Str))⟩, ⟨[vs ([116, 111, 110, 101] : Str)], _, Z, ⟨Z, (by decide : Lim ([116, 111, 110, 101] : Str))⟩, Z⟩⟩⟩⟩ RF fun w7 A8 n9 ab ad hr12 aa ae => ?_)))))));have af := aa.gv ae 0 Z;have ac := aa.drop 0 Z;have ag := (hp0.k0 ad);refine Xs go96 (F44.calls H ac.ok (hp5.st ac.st) ag hm af) Z ?_;rintro _ an ⟨r2, m, rfl, H, ah, ai, aj⟩;have ak := aa.wm ah;refine Xf (vs r2) Z (Xb (Xk ?_));have al := ak.drop 0 Z;have am := ai;exact ⟨[vs r2], ⟨_, Z, Z⟩, r2, m, Z, H, al.gr.g1, am, aj⟩
def F125.E (r_b : List UInt8) (r_p : Int) (Q : Str → Int → Prop) : Prop :=
 F44.E r_b r_p ([([97] : Str), ([98] : Str), ([111, 97, 107] : Str), ([97, 115, 104] : Str), ([114, 111, 97, 100] : Str)] : List Str) (fun r2 m => Q r2 m)
theorem F125.calls {b : Nat} {r_b : List UInt8} {A2 : Option Addr} {n3 c4 : Nat} {r_p : Int} {Q : Str → Int → Prop} (H : F125.E r_b r_p Q) (hO : Ok w0 O) (hp5 : Sl Kd.byte w0 (Fr O) (G A2 n3 c4) r_b) (hp0 : Bx w0 b [G A2 n3 c4, vi r_p]) (hm : some b ∈ O) :
  Ret Tryz.prog 102 [Pz b] w0 (fun v w' => ∃ (r0 : Str) (m0 : Int), v = vs r0 ∧ Q r0 m0 ∧ Gr w0 w' (some b) ∧ Bx w' b [G A2 n3 c4, vi m0] ∧ Lim r0) := by
 unfold F125.E at H;have hc0 := Ct.initm1 (r := some b) hO (by intro b e; cases e; exact hm);refine Yd Tryz.func102 Z 6 Z [.tmp 2] Z Z ?_;refine Xc (Xd (Xf (vs []) Z (Xb (Xc (Xd (Xe (Pz b) Z (X7 (kd := Kd.str) Yu hc0 ([([97] : Str), ([98] : Str), ([111, 97, 107] : Str), ([97, 115, 104] : Str), ([114, 111, 97, 100] : Str)] : List Str) (cells := [vs ([97] : Str), vs ([98] : Str), vs ([111, 97, 107] : Str), vs ([97, 115, 104] : Str), vs ([114, 111, 97, 100] : Str)]) ⟨[vs ([97] : Str)], _, Z, ⟨Z, (by decide : Lim ([97] : Str))⟩, ⟨[vs ([98] : Str)], _, Z, ⟨Z, (by decide : Lim ([98] : Str))⟩, ⟨[vs ([111, 97, 107] : Str)], _, Z, ⟨Z, (by decide : Lim ([111, 97, 107] : Str))⟩, ⟨[vs ([97, 115, 104] : Str)], _, Z, ⟨Z, (by decide : Lim ([97, 115, 104] : Str))⟩, ⟨[vs ([114, 111, 97, 100] : Str)], _, Z, ⟨Z, (by decide : Lim ([114, 111, 97, 100] : Str))⟩, Z⟩⟩⟩⟩⟩ RF fun w7 A8 n9 ab ad hr12 aa ae => ?_)))))));have af := aa.gv ae 0 Z;have ac := aa.drop 0 Z;have ag := (hp0.k0 ad);refine Xs go96 (F44.calls H ac.ok (hp5.st ac.st) ag hm af) Z ?_;rintro _ an ⟨r2, m, rfl, H, ah, ai, aj⟩;have ak := aa.wm ah;refine Xf (vs r2) Z (Xb (Xk ?_));have al := ak.drop 0 Z;have am := ai;exact ⟨[vs r2], ⟨_, Z, Z⟩, r2, m, Z, H, al.gr.g1, am, aj⟩
end Go.Proofs.YtlaaehjcooonfaaGreatDoor