/-
  One operation says what state comes of it; what is done with that state is another matter.
-/
import Derived.Test.YtilkenfgjljknaaOps16
namespace Go.D

section
variable {C : Cx} {R : Type} {st : St} {K : St → Option R}

theorem putK_nat (dst : Option Nat) (st : St) (v : V) (K : St → Option R) : putK C dst st v K = (putK C dst st v some).bind K := by
  cases dst with
  | none => rfl
  | some d => simp only [putK]; cases Nat.blt d C.nt <;> rfl

theorem newK_nat (dst : Option Nat) (st : St) (r : Nat) (c : RowC) (v : V) (K : St → Option R) : newK C dst st r c v K = (newK C dst st r c v some).bind K := putK_nat _ _ _ _

theorem loadCells_nat {K1 : V → Option St} {K2 : V → Option R} (h : ∀ v, K2 v = (K1 v).bind K) (ag : Bool) (n : Nat) (cs : List V) (off : Nat) : loadCells ag n cs off K2 = (loadCells ag n cs off K1).bind K := by
  cases ag <;> simp only [loadCells, cond_true, cond_false]
  · split
    · exact h _
    · rfl
  · cases Nat.ble (off + n) cs.length
    · rfl
    · exact h _

theorem binK_nat {K1 : V → Option St} {K2 : V → Option R} (h : ∀ v, K2 v = (K1 v).bind K) (op : BinOp) (x y : V) : binK op x y K2 = (binK op x y K1).bind K := by
  have hb : ∀ (b : Bool) (v : V), (bif b then none else K2 v) = (bif b then none else K1 v : Option St).bind K := fun b v => by cases b; exact h v; rfl
  have hb' : ∀ (b : Bool) (v : V), (bif b then K2 v else none) = (bif b then K1 v else none : Option St).bind K := fun b v => by cases b; rfl; exact h v
  unfold binK
  split
  · rename_i k a k' b
    cases decide (k = k')
    · rfl
    · exact hb _ _
  · rename_i k a k' b
    cases decide (k = k')
    · rfl
    · exact hb _ _
  · exact hb _ _
  · exact hb _ _
  · exact hb' _ _
  · split
    · exact h _
    · rfl

theorem chainK_nat {f1 : Nat → Option St} {f2 : Nat → Option R} (h : ∀ k, f2 k = (f1 k).bind K) (i : Int) : ∀ (n k : Nat), chainK f2 i k n = (chainK f1 i k n).bind K
  | 0, k => rfl
  | n + 1, k => by
    simp only [chainK]
    cases i == (k : Int)
    · exact chainK_nat h i n (k + 1)
    · exact h k

theorem cutV_nat {K1 : V → Option St} {K2 : V → Option R} (h : ∀ v, K2 v = (K1 v).bind K) (d : TypeDesc) (tk : TypeId → TN → Bool) (hp : Nat → Option Row) (x : V) (lo hi : Option V) :
    cutV d tk hp x lo hi K2 = (cutV d tk hp x lo hi K1).bind K := by
  have hb' : ∀ (b : Bool) (v : V), (bif b then K2 v else none) = (bif b then K1 v else none : Option St).bind K := fun b v => by cases b; rfl; exact h v
  unfold cutV
  split
  · rfl
  split
  case h_2 => rfl
  rename_i len _ _ _ a b _ _
  cases decide (0 ≤ a) && decide (a ≤ b) && decide (b ≤ (len : Int))
  · rfl
  simp only [cond_true]
  split
  · exact hb' _ _
  · exact h _
  · split
    · exact hb' _ _
    · rfl
  · exact hb' _ _
  · rfl

theorem bind_nat {α : Type} (x : Option α) {f1 : α → Option St} {f2 : α → Option R} (h : ∀ v, f2 v = (f1 v).bind K) : Option.bind x f2 = (Option.bind x f1).bind K := by
  cases x with
  | none => rfl
  | some v => exact h v

theorem cond_nat (b : Bool) {x1 : Option St} {x2 : Option R} (h : x2 = x1.bind K) : (bif b then x2 else none) = (bif b then x1 else none : Option St).bind K := by
  cases b
  · rfl
  · exact h

theorem ncond_nat (b : Bool) {x1 : Option St} {x2 : Option R} (h : x2 = x1.bind K) : (bif b then none else x2) = (bif b then none else x1 : Option St).bind K := by
  cases b
  · exact h
  · rfl

theorem callK_nat (i : Nat) (dst : Option Nat) (f : Nat) (as : List V) : callK C i dst st f as K = (callK C i dst st f as some).bind K := by
  unfold callK
  split
  · rfl
  split
  · rfl
  exact bind_nat _ fun _ => bind_nat _ fun _ => cond_nat _ (putK_nat _ _ _ _)

theorem stepK_nat (i : Nat) (o : Oper) : stepK C i o st K = (stepK C i o st some).bind K := by
  unfold stepK
  repeat' first
    | rfl
    | exact putK_nat _ _ _ _
    | exact newK_nat _ _ _ _ _ _
    | exact callK_nat _ _ _ _
    | refine loadCells_nat (fun _ => ?_) _ _ _ _
    | refine binK_nat (fun _ => ?_) _ _ _
    | refine chainK_nat (fun _ => ?_) _ _ _
    | refine cutV_nat (fun _ => ?_) _ _ _ _ _ _
    | refine cond_nat _ ?_
    | refine ncond_nat _ ?_
    | refine bind_nat _ (fun _ => ?_)
    | split
end
end Go.D
