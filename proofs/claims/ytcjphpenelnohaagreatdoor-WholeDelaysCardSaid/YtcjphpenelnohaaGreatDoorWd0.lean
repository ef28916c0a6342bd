/- WholeDelays: part 0. -/
import GoSem.Op.String
import GoSem.Op.IntArith
import Derived.Test.YtcjphpenelnohaaGreatDoorProg
import Derived.WalkKit
import Derived.WalkSpells
import Derived.WalkLawsBesides
import Derived.OrdersHeld
import Derived.Deep.RegionHeld3
import Derived.Deep.AppendLies
import Derived.ArgAppend
import Derived.Maps.Own
import Derived.Maps.RangeRun
import Derived.Maps.Keyed
import Derived.DeepKeys4
import Derived.Laws.StructEq
import Derived.Lib.AppendStr
import Derived.Shelf.Small.Bits
import Derived.Shelf.Small.Strs
import Derived.Shelf.Strconv.Itoa0
import Derived.Shelf.Strconv.Itoa1
import Derived.Shelf.LaysM
import Derived.Shelf.Strconv.Itoa2
import Derived.Shelf.Strconv.Itoa3
import Derived.Shelf.Strings.Search1
import Derived.Shelf.Strings.Search2
import Derived.Shelf.Strings.Search3
import Derived.Shelf.Strings.Cut
import Derived.Shelf.Strings.Count
import Derived.Shelf.Strings.Split
import Derived.Shelf.Slices.CompactS
import Derived.Ground.Names2Prog
import Derived.Shelf.Slices.Cells
import Derived.Shelf.Strconv.AtoiAll
import Derived.Shelf.Strconv.ErrVarAll
set_option linter.all false
set_option linter.unusedVariables false
set_option linter.unusedSimpArgs false
set_option linter.unusedSectionVars false
set_option linter.unnecessarySimpa false
set_option linter.deprecated false
/- The words of the models: strings as lists of bytes, the values of package value. No program in sight. -/
namespace Go.Proofs.YtcjphpenelnohaaGreatDoor

abbrev Bs := List UInt8
/-- How long anything may grow. -/
def LIM : Nat := 2147483648
/-- How many rounds a model may take. -/
def FUEL : Nat := 4294967296
def mx (a b : Int) : Int := if a < b then b else a
def mn (a b : Int) : Int := if b < a then b else a
/-- A byte of a string. -/
def bat (s : Bs) (i : Int) : Int := ((s.getD i.toNat 0).toNat : Int)

/-- The values of package value; a map's entries rise by their keys. -/
inductive J where
  | null
  | later
  | bool (b : Bool)
  | int (n : Int)
  | point (re im : Int)
  | text (s : Bs)
  | list (l : List J)
  | table (m : List (Bs × J))
  deriving Inhabited

namespace J
def isBool : J → Bool | .bool _ => true | _ => false
def isInt : J → Bool | .int _ => true | _ => false
def isPoint : J → Bool | .point _ _ => true | _ => false
def isText : J → Bool | .text _ => true | _ => false
def isList : J → Bool | .list _ => true | _ => false
def isTab : J → Bool | .table _ => true | _ => false
def boolv : J → Bool | .bool b => b | _ => false
def intv : J → Int | .int n => n | _ => 0
def re : J → Int | .point a _ => a | _ => 0
def im : J → Int | .point _ b => b | _ => 0
def txt : J → Bs | .text s => s | _ => []
def lst : J → List J | .list l => l | _ => []
def tab : J → List (Bs × J) | .table m => m | _ => []
def kind : J → Int
  | .null => 0 | .later => 1 | .bool _ => 2 | .int _ => 3 | .point _ _ => 4 | .text _ => 5 | .list _ => 6 | .table _ => 7
end J
/-- A key's value. -/
def has (m : List (Bs × J)) (k : Bs) : Bool := m.any fun p => p.1 == k
def look (m : List (Bs × J)) (k : Bs) : J := ((m.find? fun p => p.1 == k).map (·.2)).getD .null
/-- An entry is put in, in its place. -/
def ins (k : Bs) (x : J) : List (Bs × J) → List (Bs × J)
  | [] => [(k, x)]
  | p :: m => if k < p.1 then (k, x) :: p :: m else if k = p.1 then (k, x) :: m else p :: ins k x m
/-- A step into a value. -/
structure Step where
  key : Bs
  at_ : Int
  deriving DecidableEq, Inhabited
end Go.Proofs.YtcjphpenelnohaaGreatDoor
/- The engine's base: a frame as a list of slots, one lemma a kind of operation, worlds that grow. -/
namespace Go.Proofs.YtcjphpenelnohaaGreatDoor
open Go.RowKit

/-! ### frames -/
def lk : List (Nat × Value) → Nat → Option Value
  | [], _ => none
  | (j, v) :: r, i => match Nat.beq i j with
    | true => some v
    | false => lk r i

def fr (n : Nat) (l : List (Nat × Value)) (ds : List Deferred) : Act :=
  ⟨((List.range n).map fun i => (lk l i).getD undef).toArray, ds⟩

theorem fr_getD (n : Nat) (l : List (Nat × Value)) (ds : List Deferred) (i : Nat) :
    (fr n l ds).tmps.getD i undef = if i < n then (lk l i).getD undef else undef := by
  unfold fr
  by_cases h : i < n
  · simp [Array.getD_eq_getD_getElem?, h]
  · simp [Array.getD_eq_getD_getElem?, h]

theorem lk_cons (j : Nat) (v : Value) (r : List (Nat × Value)) (i : Nat) : lk ((j, v) :: r) i = if i = j then some v else lk r i := by
  by_cases h : i = j
  · subst h; simp [lk]
  · have : Nat.beq i j = false := by
      cases hb : Nat.beq i j with
      | false => rfl
      | true => exact absurd (Nat.eq_of_beq_eq_true hb) h
    simp [lk, this, h]

theorem fr_put (n : Nat) (l : List (Nat × Value)) (ds : List Deferred) (d : Nat) (v : Value) :
    (fr n l ds).put (some d) v = fr n ((d, v) :: l) ds := by
  unfold fr Act.put
  simp only [Act.mk.injEq, and_true]
  apply Array.ext
  · simp
  · intro i h1 h2
    simp at h1 h2
    simp only [List.setIfInBounds_toArray, List.getElem_toArray, List.getElem_set, List.getElem_map, List.getElem_range, lk_cons]
    by_cases e : d = i
    · subst e; simp
    · simp [e, Ne.symm e]

/-- The arguments' slots. -/
def argl : Nat → List Value → List (Nat × Value)
  | _, [] => []
  | i, v :: vs => (i, v) :: argl (i + 1) vs
theorem lk_argl : ∀ (k : Nat) (vs : List Value) (i : Nat), lk (argl k vs) i = if k ≤ i ∧ i - k < vs.length then vs[i - k]? else none
  | k, [], i => by simp [argl, lk]
  | k, v :: vs, i => by
    rw [argl, lk_cons, lk_argl (k + 1) vs i]
    by_cases h : i = k
    · subst h; simp
    · rw [if_neg h]
      by_cases h2 : k + 1 ≤ i
      · have e : i - k = (i - (k + 1)) + 1 := by omega
        have h3 : k ≤ i := by omega
        simp [h2, h3, e]
      · have h3 : ¬ k ≤ i := by omega
        simp [h2, h3]

/-- An operand's value; 'none': nothing was put there. -/
def ev (n : Nat) (l : List (Nat × Value)) : Operand → Option Value
  | .tmp t => match Nat.blt t n with
    | true => lk l t
    | false => none
  | .const v => some v
  | .global g => some (.pointer (some ⟨g, 0, none⟩))
  | .func f => some (.func (.func f) #[] #[])

theorem ev_eval {n : Nat} {l : List (Nat × Value)} {ds : List Deferred} {o : Operand} {v : Value} (h : ev n l o = some v) : (fr n l ds).eval o = v := by
  cases o with
  | tmp t =>
    simp only [ev] at h
    split at h
    · rename_i hb
      have ht : t < n := by simpa [Nat.blt_eq] using hb
      show (fr n l ds).tmps.getD t undef = v
      rw [fr_getD, if_pos ht, h]; rfl
    · cases h
  | const v => simpa [ev, Act.eval] using h
  | global g => simpa [ev, Act.eval] using h
  | func f => simpa [ev, Act.eval] using h

end Go.Proofs.YtcjphpenelnohaaGreatDoor
/- One lemma a kind of operation that leaves the world alone: from the operands' slots to the slot of the result. -/
namespace Go.Proofs.YtcjphpenelnohaaGreatDoor
open Go.RowKit

/-! ### strings as lists of bytes -/
abbrev mk (l : Bs) : ByteArray := ⟨⟨l⟩⟩
theorem size_mk (l : Bs) : (mk l).size = l.length := rfl
theorem toList_mk (l : Bs) : (mk l).toList = l := by
  rw [ByteArray.toList_eq]
theorem mk_append (a b : Bs) : mk a ++ mk b = mk (a ++ b) := by
  apply ByteArray.ext
  simp

theorem yielded_fr {ops : Array Oper} {n : Nat} {l : List (Nat × Value)} {ds : List Deferred} {j : Nat} {oj : Oper} {dj : Nat} {c : Bool} (hj : ops[j]? = some oj) (hd : oj.dst = some dj) (hv : ev n l (.tmp dj) = some (.bool c)) :
    yielded ops (fr n l ds).tmps j = some c := by
  have h : (fr n l ds).tmps.getD dj undef = .bool c := ev_eval (ds := ds) hv
  have h' : (fr n l ds).tmps[dj]? = some (.bool c) := by
    rw [Array.getD_eq_getD_getElem?] at h
    cases e : (fr n l ds).tmps[dj]? with
    | some v => rw [e] at h; exact congrArg some h
    | none => rw [e] at h; cases h
  simp [yielded, hj, hd, h']
theorem wanted_of {ops : Array Oper} {n : Nat} {l : List (Nat × Value)} {ds : List Deferred} {o : Oper} {j : Nat} {oj : Oper} {dj : Nat} {b c : Bool} (hg : o.guard = some (j, b)) (hj : ops[j]? = some oj) (hd : oj.dst = some dj)
    (hv : ev n l (.tmp dj) = some (.bool c)) (hc : c = b) : Region.wanted o (yielded ops (fr n l ds).tmps) = true := by
  simp [Region.wanted, hg, yielded_fr (ds := ds) hj hd hv, hc]
theorem unwanted_of {ops : Array Oper} {n : Nat} {l : List (Nat × Value)} {ds : List Deferred} {o : Oper} {j : Nat} {oj : Oper} {dj : Nat} {b c : Bool} (hg : o.guard = some (j, b)) (hj : ops[j]? = some oj) (hd : oj.dst = some dj)
    (hv : ev n l (.tmp dj) = some (.bool c)) (hc : c = !b) : Region.wanted o (yielded ops (fr n l ds).tmps) = false := by
  simp [Region.wanted, hg, yielded_fr (ds := ds) hj hd hv, hc]

theorem unwanted_und {ops : Array Oper} {n : Nat} {l : List (Nat × Value)} {ds : List Deferred} {o : Oper} {j : Nat} {oj : Oper} {dj : Nat} {b : Bool} (hg : o.guard = some (j, b)) (hj : ops[j]? = some oj) (hd : oj.dst = some dj)
    (hv : ev n l (.tmp dj) = some undef) : Region.wanted o (yielded ops (fr n l ds).tmps) = false := by
  have h : (fr n l ds).tmps.getD dj undef = undef := ev_eval (ds := ds) hv
  have h' : yielded ops (fr n l ds).tmps j = none := by
    unfold yielded
    simp only [hj, Option.bind_some, hd]
    rw [Array.getD_eq_getD_getElem?] at h
    cases e : (fr n l ds).tmps[dj]? with
    | none => rfl
    | some v =>
      rw [e] at h
      have h2 : v = undef := h
      rw [h2]; rfl
  simp [Region.wanted, hg, h']

section
variable {P : Program} {ops : Array Oper} {Q : Exit → Act → World → Prop} {rest : List Oper} {n : Nat} {l : List (Nat × Value)} {ds : List Deferred} {w w' : World}
  {d : Nat} {x y c : Operand} {ty : TypeId} {pos : String} {aft : Array Edge} {v u : Value} {o : Op} {g : Option (Nat × Bool)}

/-- An operation that comes to a value. -/
theorem o_val {K : Act → World → Prop} (hr : (execOp (fr n l ds).eval ⟨some d, o, ty, pos, aft, g⟩).run P w = .ok (.value v) w')
    (k : K (fr n ((d, v) :: l) ds) w') : Oper.wp P ⟨some d, o, ty, pos, aft, g⟩ (fr n l ds) w K Q := by
  unfold Oper.wp
  rw [hr]
  show K ((fr n l ds).put (some d) v) w'
  rw [fr_put]; exact k

/-- An operation without a result. -/
theorem o_skip {K : Act → World → Prop} (hr : (execOp (fr n l ds).eval ⟨none, o, ty, pos, aft, g⟩).run P w = .ok .skip w')
    (k : K (fr n l ds) w') : Oper.wp P ⟨none, o, ty, pos, aft, g⟩ (fr n l ds) w K Q := by
  unfold Oper.wp
  rw [hr]
  exact k

/-- A call. -/
theorem o_call {K : Act → World → Prop} {f : FuncId} {args : Array Value} {R : Ending → World → Prop} (hr : (execOp (fr n l ds).eval ⟨some d, o, ty, pos, aft, g⟩).run P w = .ok (.enter f args) w)
    (hc : Calls P f args w R)
    (k : ∀ e w', R e w' → ∃ v, e = .returned v ∧ K (fr n ((d, v) :: l) ds) w') : Oper.wp P ⟨some d, o, ty, pos, aft, g⟩ (fr n l ds) w K Q := by
  unfold Oper.wp
  rw [hr]
  simp only [Oper.upon]
  refine hc.mono fun e w' h => ?_
  obtain ⟨v, rfl, hk⟩ := k e w' h
  show K ((fr n l ds).put (some d) v) w'
  rw [fr_put]; exact hk

/-- A region in the order of its text (closed: Lean is not to run it). -/
structure WL (P : Program) (ops : Array Oper) (Q : Exit → Act → World → Prop) (rest : List Oper) (a : Act) (w : World) : Prop where
  out : wpList P ops Q rest a w
/-- .. one operation. -/
theorem wl {o : Oper} {a : Act} (hg : o.guard = none) (h : o.wp P a w (WL P ops Q rest) Q) : WL P ops Q (o :: rest) a w := by
  refine ⟨?_⟩
  unfold wpList
  rw [if_pos (by simp [Region.wanted, hg])]
  exact .inl (Oper.wp_mono (fun _ _ h => h.out) h)
/-- .. a guarded one, that is carried out; that is not. -/
theorem wlT {o : Oper} {j : Nat} {oj : Oper} {dj : Nat} {b c : Bool} (hg : o.guard = some (j, b)) (hj : ops[j]? = some oj) (hd : oj.dst = some dj) (hv : ev n l (.tmp dj) = some (.bool c)) (hc : c = b)
    (h : o.wp P (fr n l ds) w (WL P ops Q rest) Q) : WL P ops Q (o :: rest) (fr n l ds) w := by
  refine ⟨?_⟩
  unfold wpList
  rw [if_pos (wanted_of hg hj hd hv hc)]
  exact .inl (Oper.wp_mono (fun _ _ h => h.out) h)
theorem wlF {o : Oper} {j : Nat} {oj : Oper} {dj : Nat} {b c : Bool} (hg : o.guard = some (j, b)) (hj : ops[j]? = some oj) (hd : oj.dst = some dj) (hv : ev n l (.tmp dj) = some (.bool c)) (hc : c = !b) {d : Nat} (ho : o.dst = some d)
    (h : WL P ops Q rest (fr n ((d, undef) :: l) ds) w) : WL P ops Q (o :: rest) (fr n l ds) w := by
  refine ⟨?_⟩
  unfold wpList
  rw [if_neg (by rw [unwanted_of hg hj hd hv hc]; simp), ho, fr_put]
  exact h.out
theorem wlU {o : Oper} {j : Nat} {oj : Oper} {dj : Nat} {b : Bool} (hg : o.guard = some (j, b)) (hj : ops[j]? = some oj) (hd : oj.dst = some dj) (hv : ev n l (.tmp dj) = some undef) {d : Nat} (ho : o.dst = some d)
    (h : WL P ops Q rest (fr n ((d, undef) :: l) ds) w) : WL P ops Q (o :: rest) (fr n l ds) w := by
  refine ⟨?_⟩
  unfold wpList
  rw [if_neg (by rw [unwanted_und hg hj hd hv]; simp), ho, fr_put]
  exact h.out
theorem wn {a : Act} (h : Q .normal a w) : WL P ops Q [] a w := ⟨h⟩
/-- An operation that comes to a value, in the order of the text. -/
theorem sv (hr : (execOp (fr n l ds).eval ⟨some d, o, ty, pos, aft, none⟩).run P w = .ok (.value v) w')
    (k : WL P ops Q rest (fr n ((d, v) :: l) ds) w') : WL P ops Q (⟨some d, o, ty, pos, aft, none⟩ :: rest) (fr n l ds) w :=
  wl rfl (o_val hr k)

theorem r_move (hx : ev n l x = some v) :
    (execOp (fr n l ds).eval ⟨some d, .move x, ty, pos, aft, g⟩).run P w = .ok (.value (v)) w := (by simp [execOp, ev_eval hx])
theorem r_assign (hx : ev n l x = some v) :
    (execOp (fr n l ds).eval ⟨some d, .assign x, ty, pos, aft, g⟩).run P w = .ok (.value (v)) w := (by simp [execOp, ev_eval hx])
theorem r_extract {vs : Array Value} {i : Nat} (hx : ev n l x = some (.tuple vs)) (hi : vs[i]? = some v) :
    (execOp (fr n l ds).eval ⟨some d, .extract x i, ty, pos, aft, g⟩).run P w = .ok (.value (v)) w := (by simp [execOp, ev_eval hx, Instr.extract, hi])
theorem r_nilCheck {a : Addr} (hx : ev n l x = some (.pointer (some a))) :
    (execOp (fr n l ds).eval ⟨some d, .nilCheck x, ty, pos, aft, g⟩).run P w = .ok (.value (.pointer (some a))) w := (by simp [execOp, ev_eval hx])
theorem r_not {t : TypeId} {b : Bool} (hx : ev n l x = some (.bool b)) :
    (execOp (fr n l ds).eval ⟨some d, .unOp .not t x, ty, pos, aft, g⟩).run P w = .ok (.value (.bool (!b))) w := (by simp [execOp, ev_eval hx, Op.unary])
theorem r_lss {t t' : TypeId} {kd : IntKind} {a b : Int} (hx : ev n l x = some (.int kd a)) (hy : ev n l y = some (.int kd b)) :
    (execOp (fr n l ds).eval ⟨some d, .binOp .lss t x y t', ty, pos, aft, g⟩).run P w = .ok (.value (.bool (decide (a < b)))) w := (by simp [execOp, ev_eval hx, ev_eval hy, binOp_lss, eqGuard_at_int])
theorem r_leq {t t' : TypeId} {kd : IntKind} {a b : Int} (hx : ev n l x = some (.int kd a)) (hy : ev n l y = some (.int kd b)) :
    (execOp (fr n l ds).eval ⟨some d, .binOp .leq t x y t', ty, pos, aft, g⟩).run P w = .ok (.value (.bool (decide (a ≤ b)))) w := (by simp [execOp, ev_eval hx, ev_eval hy, binOp_leq, eqGuard_at_int])
theorem r_gtr {t t' : TypeId} {kd : IntKind} {a b : Int} (hx : ev n l x = some (.int kd a)) (hy : ev n l y = some (.int kd b)) :
    (execOp (fr n l ds).eval ⟨some d, .binOp .gtr t x y t', ty, pos, aft, g⟩).run P w = .ok (.value (.bool (decide (b < a)))) w := (by simp [execOp, ev_eval hx, ev_eval hy, binOp_gtr, eqGuard_at_int])
theorem r_geq {t t' : TypeId} {kd : IntKind} {a b : Int} (hx : ev n l x = some (.int kd a)) (hy : ev n l y = some (.int kd b)) :
    (execOp (fr n l ds).eval ⟨some d, .binOp .geq t x y t', ty, pos, aft, g⟩).run P w = .ok (.value (.bool (decide (b ≤ a)))) w := (by simp [execOp, ev_eval hx, ev_eval hy, binOp_geq, eqGuard_at_int])
theorem r_eqi {t t' : TypeId} {kd : IntKind} {a b : Int} (hx : ev n l x = some (.int kd a)) (hy : ev n l y = some (.int kd b)) :
    (execOp (fr n l ds).eval ⟨some d, .binOp .eql t x y t', ty, pos, aft, g⟩).run P w = .ok (.value (.bool (a == b))) w := (by simp [execOp, ev_eval hx, ev_eval hy, binOp_eql, eqGuard_at_int])
theorem r_nei {t t' : TypeId} {kd : IntKind} {a b : Int} (hx : ev n l x = some (.int kd a)) (hy : ev n l y = some (.int kd b)) :
    (execOp (fr n l ds).eval ⟨some d, .binOp .neq t x y t', ty, pos, aft, g⟩).run P w = .ok (.value (.bool (a != b))) w := (by simp [execOp, ev_eval hx, ev_eval hy, binOp_neq, eqGuard_at_int])
theorem r_add {t t' : TypeId} {kd : IntKind} {a b : Int} (hx : ev n l x = some (.int kd a)) (hy : ev n l y = some (.int kd b)) :
    (execOp (fr n l ds).eval ⟨some d, .binOp .add t x y t', ty, pos, aft, g⟩).run P w = .ok (.value (.int kd (kd.wrap (a + b)))) w := (by simp [execOp, ev_eval hx, ev_eval hy, binOp_add, eqGuard_add, Op.intArith])
theorem r_sub {t t' : TypeId} {kd : IntKind} {a b : Int} (hx : ev n l x = some (.int kd a)) (hy : ev n l y = some (.int kd b)) :
    (execOp (fr n l ds).eval ⟨some d, .binOp .sub t x y t', ty, pos, aft, g⟩).run P w = .ok (.value (.int kd (kd.wrap (a - b)))) w := (by simp [execOp, ev_eval hx, ev_eval hy, binOp_sub, eqGuard_sub, Op.intArith])
theorem r_mul {t t' : TypeId} {kd : IntKind} {a b : Int} (hx : ev n l x = some (.int kd a)) (hy : ev n l y = some (.int kd b)) :
    (execOp (fr n l ds).eval ⟨some d, .binOp .mul t x y t', ty, pos, aft, g⟩).run P w = .ok (.value (.int kd (kd.wrap (a * b)))) w := (by simp [execOp, ev_eval hx, ev_eval hy, binOp_mul, eqGuard_mul, Op.intArith])
/-- Strings: as lists of bytes. -/
theorem r_eqs {t t' : TypeId} {a b : Bs} (hx : ev n l x = some (.string (mk a))) (hy : ev n l y = some (.string (mk b))) :
    (execOp (fr n l ds).eval ⟨some d, .binOp .eql t x y t', ty, pos, aft, g⟩).run P w = .ok (.value (.bool (a == b))) w := (by simp [execOp, ev_eval hx, ev_eval hy, eqGuard_at_string, binOp, Op.stringOp])
theorem r_nes {t t' : TypeId} {a b : Bs} (hx : ev n l x = some (.string (mk a))) (hy : ev n l y = some (.string (mk b))) :
    (execOp (fr n l ds).eval ⟨some d, .binOp .neq t x y t', ty, pos, aft, g⟩).run P w = .ok (.value (.bool (!(a == b)))) w := (by simp [execOp, ev_eval hx, ev_eval hy, eqGuard_at_string, binOp, Op.stringOp])
theorem r_cat {t t' : TypeId} {a b : Bs} (hb : a.length + b.length ≤ LIM) (hx : ev n l x = some (.string (mk a))) (hy : ev n l y = some (.string (mk b))) :
    (execOp (fr n l ds).eval ⟨some d, .binOp .add t x y t', ty, pos, aft, g⟩).run P w = .ok (.value (.string (mk (a ++ b)))) w := (by
    unfold LIM at hb
    have h : ¬ (9223372036854775807 : Int) < ((a.length + b.length : Nat) : Int) := by omega
    simp only [Int.natCast_add] at h
    simp [execOp, ev_eval hx, ev_eval hy, eqGuard_at_string, binOp, Op.stringOp, mk_append, size_mk, h])
theorem r_lens {tt : Array TypeId} {t : TypeId} {s : Bs} (ht : tt[0]? = some t) (hu : P.underlying t = some .string) (hx : ev n l x = some (.string (mk s))) :
    (execOp (fr n l ds).eval ⟨some d, .call ⟨.builtin .len, #[x], tt⟩, ty, pos, aft, g⟩).run P w = .ok (.value (.int .i64 s.length)) w := (by simp [execOp, resolve, invoke, builtin, Builtin.len_, ev_eval hx, ht, run_underlying hu, goInt, size_mk])

theorem s_cond {thn els : Code} {b : Bool} (hc : ev n l c = some (.bool b)) (ht : b = true → thn.wp P Q (fr n l ds) w) (hf : b = false → els.wp P Q (fr n l ds) w) :
    (Code.cond c thn els).wp P Q (fr n l ds) w := wp_cond_split (ev_eval hc) ht hf
end

end Go.Proofs.YtcjphpenelnohaaGreatDoor
/- Worlds: what is settled (a part of the heap, that never turns), what a call owns, what it may turn. -/
namespace Go.Proofs.YtcjphpenelnohaaGreatDoor
open Go.RowKit

/-- What is settled: blocks that nobody writes any more. -/
abbrev Hp := Nat → Option Obj
def Hle (H H' : Hp) : Prop := ∀ b o, H b = some o → H' b = some o
theorem Hle.refl (H : Hp) : Hle H H := fun _ _ h => h
theorem Hle.trans {A B C : Hp} (h : Hle A B) (k : Hle B C) : Hle A C := fun b o e => k b o (h b o e)
def Imm (H : Hp) (w : World) : Prop := ∀ b o, H b = some o → w.heap[b]? = some o
theorem Imm.lt {H : Hp} {w : World} (h : Imm H w) {b : Nat} {o : Obj} (hb : H b = some o) : b < w.heap.size := by
  have := h b o hb
  exact (Array.getElem?_eq_some_iff.1 this).1

/-- From one state to a later one: only the blocks of X, and new ones, have turned. -/
structure Ext (X : List Nat) (H : Hp) (w : World) (H' : Hp) (w' : World) : Prop where
  os : w'.os = w.os
  tape : w'.tape = w.tape
  output : w'.output = w.output
  size : w.heap.size ≤ w'.heap.size
  block : ∀ b, b < w.heap.size → b ∉ X → w'.heap[b]? = w.heap[b]?
  imm : Imm H' w'
  le : Hle H H'
  old : ∀ b, b < w.heap.size → b ∉ X → H b = none → H' b = none

theorem Ext.refl {X : List Nat} {H : Hp} {w : World} (h : Imm H w) : Ext X H w H w :=
  ⟨rfl, rfl, rfl, Nat.le_refl _, fun _ _ _ => rfl, h, Hle.refl H, fun _ _ _ h => h⟩
theorem Ext.trans {X : List Nat} {A B C : Hp} {a b c : World} (h : Ext X A a B b) (k : Ext X B b C c) : Ext X A a C c :=
  ⟨k.os.trans h.os, k.tape.trans h.tape, k.output.trans h.output, Nat.le_trans h.size k.size,
    fun i hi hx => (k.block i (Nat.lt_of_lt_of_le hi h.size) hx).trans (h.block i hi hx), k.imm, h.le.trans k.le,
    fun i hi hx hn => k.old i (Nat.lt_of_lt_of_le hi h.size) hx (h.old i hi hx hn)⟩

/-- What a call owns and may write. -/
inductive Rs where
  | gone
  | cel (b : Nat) (c : List Value) (t : TypeId)
  | obj (b : Nat) (o : Obj)
  | row (v : Value) (e size n : Nat) (xs : List Value)
  | two (r s : Rs)
def Rs.foot : Rs → List Nat
  | .gone => []
  | .cel b _ _ => [b]
  | .obj b _ => [b]
  | .row v _ _ _ _ => v.ownBlock.toList
  | .two r s => r.foot ++ s.foot
def Rs.holds (w : World) : Rs → Prop
  | .gone => True
  | .cel b c t => w.heap[b]? = some (.cells c.toArray t (0, 0))
  | .obj b o => w.heap[b]? = some o
  | .row v e size n xs => w.ownsRow 0 e size v n xs
  | .two r s => Rs.holds w r ∧ Rs.holds w s ∧ ∀ b ∈ r.foot, b ∉ s.foot

theorem Rs.lt {w : World} : ∀ {r : Rs} (_ : r.holds w), ∀ b ∈ r.foot, b < w.heap.size
  | .gone, _, b, hb => by simp [Rs.foot] at hb
  | .cel b' c t, h, b, hb => by simp [Rs.foot] at hb; subst hb; exact (Array.getElem?_eq_some_iff.1 h).1
  | .obj b' o, h, b, hb => by simp [Rs.foot] at hb; subst hb; exact (Array.getElem?_eq_some_iff.1 h).1
  | .row v e size n xs, h, b, hb => by
    simp only [Rs.foot, Option.mem_toList] at hb
    exact (World.ownsRow.lt h b hb).2
  | .two r s, h, b, hb => by
    rcases List.mem_append.1 hb with hb | hb
    · exact Rs.lt h.1 b hb
    · exact Rs.lt h.2.1 b hb
theorem Rs.kept {w w' : World} : ∀ {r : Rs} (_ : r.holds w) (_ : ∀ b ∈ r.foot, w'.heap[b]? = w.heap[b]?), r.holds w'
  | .gone, _, _ => trivial
  | .cel b' c t, h, hk => (hk b' (by simp [Rs.foot])).trans h
  | .obj b' o, h, hk => (hk b' (by simp [Rs.foot])).trans h
  | .row v e size n xs, h, hk => by
    obtain ⟨h1, h2⟩ := h
    refine ⟨h1, ?_⟩
    rcases h2 with h2 | ⟨g, cap, cur, hv, hg, hh, r⟩
    · exact .inl h2
    · refine .inr ⟨g, cap, cur, hv, hg, ?_, r⟩
      rw [hk g (by subst hv; simp [Rs.foot, Value.ownBlock])]; exact hh
  | .two r s, h, hk => ⟨Rs.kept h.1 fun b hb => hk b (List.mem_append_left _ hb), Rs.kept h.2.1 fun b hb => hk b (List.mem_append_right _ hb), h.2.2⟩

/-- The resource under a number; the newest entry counts. -/
def sk : List (Nat × Rs) → Nat → Option Rs
  | [], _ => none
  | (j, v) :: r, i => match Nat.beq i j with
    | true => some v
    | false => sk r i
theorem sk_cons (j : Nat) (v : Rs) (r : List (Nat × Rs)) (i : Nat) : sk ((j, v) :: r) i = if i = j then some v else sk r i := by
  by_cases h : i = j
  · subst h; simp [sk]
  · have : Nat.beq i j = false := by
      cases hb : Nat.beq i j with
      | false => rfl
      | true => exact absurd (Nat.eq_of_beq_eq_true hb) h
    simp [sk, this, h]

/-- The state inside a call that began at (H0, w0) and may turn X. -/
structure L (X : List Nat) (H0 : Hp) (w0 : World) (S : List (Nat × Rs)) (H : Hp) (w : World) : Prop where
  ext : Ext X H0 w0 H w
  own : ∀ i r, sk S i = some r → r.holds w
  non : ∀ i r, sk S i = some r → ∀ b ∈ r.foot, H b = none ∧ (b ∈ X ∨ w0.heap.size ≤ b)
  dis : ∀ i j r r', i ≠ j → sk S i = some r → sk S j = some r' → ∀ b ∈ r.foot, b ∉ r'.foot

theorem L.imm {X : List Nat} {H0 H : Hp} {w0 w : World} {S : List (Nat × Rs)} (h : L X H0 w0 S H w) : Imm H w := h.ext.imm

theorem L.start {H0 : Hp} {w0 : World} (h : Imm H0 w0) : L [] H0 w0 [] H0 w0 :=
  ⟨Ext.refl h, (fun _ _ h => by cases h), (fun _ _ h => by cases h), (fun _ _ _ _ _ h => by cases h)⟩

/-- What one resource is replaced by: its blocks are among those that it had, or new. -/
theorem L.step {X : List Nat} {H0 H H' : Hp} {w0 w w' : World} {S : List (Nat × Rs)} (h : L X H0 w0 S H w) (Y : List Nat) (i : Nat) (r : Rs)
    (hY : ∀ b ∈ Y, ∃ r0, sk S i = some r0 ∧ b ∈ r0.foot) (hx : Ext Y H w H' w') (hr : r.holds w')
    (hf : ∀ b ∈ r.foot, H' b = none ∧ (b ∈ Y ∨ w.heap.size ≤ b)) : L X H0 w0 ((i, r) :: S) H' w' := by
  have hYn : ∀ b ∈ Y, H b = none ∧ (b ∈ X ∨ w0.heap.size ≤ b) := fun b hb => by
    obtain ⟨r0, e, hb'⟩ := hY b hb
    exact h.non i r0 e b hb'
  have hoth : ∀ j rj, j ≠ i → sk S j = some rj → ∀ b ∈ rj.foot, b < w.heap.size ∧ b ∉ Y := fun j rj hj e b hb => by
    refine ⟨Rs.lt (h.own j rj e) b hb, fun hy => ?_⟩
    obtain ⟨r0, e0, hb0⟩ := hY b hy
    exact h.dis j i rj r0 hj e e0 b hb hb0
  refine ⟨?_, ?_, ?_, ?_⟩
  · refine ⟨hx.os.trans h.ext.os, hx.tape.trans h.ext.tape, hx.output.trans h.ext.output, Nat.le_trans h.ext.size hx.size, ?_, hx.imm, h.ext.le.trans hx.le, ?_⟩
    · intro b hb hbX
      rw [hx.block b (Nat.lt_of_lt_of_le hb h.ext.size) (fun hy => ?_)]
      · exact h.ext.block b hb hbX
      · rcases (hYn b hy).2 with h1 | h1
        · exact hbX h1
        · omega
    · intro b hb hbX hn
      refine hx.old b (Nat.lt_of_lt_of_le hb h.ext.size) (fun hy => ?_) (h.ext.old b hb hbX hn)
      rcases (hYn b hy).2 with h1 | h1
      · exact hbX h1
      · omega
  · intro j rj e
    rw [sk_cons] at e
    by_cases hj : j = i
    · rw [if_pos hj] at e; cases e; exact hr
    · rw [if_neg hj] at e
      exact Rs.kept (h.own j rj e) fun b hb => hx.block b (hoth j rj hj e b hb).1 (hoth j rj hj e b hb).2
  · intro j rj e b hb
    rw [sk_cons] at e
    by_cases hj : j = i
    · rw [if_pos hj] at e; cases e
      refine ⟨(hf b hb).1, ?_⟩
      rcases (hf b hb).2 with h1 | h1
      · exact (hYn b h1).2
      · exact .inr (Nat.le_trans h.ext.size h1)
    · rw [if_neg hj] at e
      exact ⟨hx.old b (hoth j rj hj e b hb).1 (hoth j rj hj e b hb).2 (h.non j rj e b hb).1, (h.non j rj e b hb).2⟩
  · intro j k rj rk hjk ej ek b hb
    rw [sk_cons] at ej ek
    by_cases hj : j = i
    · rw [if_pos hj] at ej; cases ej
      have hk : k ≠ i := fun e => hjk (hj.trans e.symm)
      rw [if_neg hk] at ek
      intro hbk
      have := hoth k rk hk ek b hbk
      rcases (hf b hb).2 with h1 | h1
      · exact this.2 h1
      · omega
    · rw [if_neg hj] at ej
      by_cases hk : k = i
      · rw [if_pos hk] at ek; cases ek
        intro hbk
        have := hoth j rj hj ej b hb
        rcases (hf b hbk).2 with h1 | h1
        · exact this.2 h1
        · omega
      · rw [if_neg hk] at ek
        exact h.dis j k rj rk hjk ej ek b hb

/-- A step that owns nothing new. -/
theorem L.call {X : List Nat} {H0 H H' : Hp} {w0 w w' : World} {S : List (Nat × Rs)} (h : L X H0 w0 S H w) (hx : Ext [] H w H' w') : L X H0 w0 S H' w' := by
  have h1 := h.step [] 0 .gone (by simp) hx trivial (by simp [Rs.foot])
  refine ⟨h1.ext, ?_, ?_, ?_⟩
  · intro i r e
    exact Rs.kept (h.own i r e) fun b hb => hx.block b (Rs.lt (h.own i r e) b hb) (by simp)
  · intro i r e b hb
    exact ⟨hx.old b (Rs.lt (h.own i r e) b hb) (by simp) (h.non i r e b hb).1, (h.non i r e b hb).2⟩
  · exact h.dis

/-- A new block. -/
theorem Ext.alloc {X : List Nat} {H : Hp} {w : World} (h : Imm H w) (o : Obj) : Ext X H w H (w.alloc o) := by
  refine ⟨rfl, rfl, rfl, by simp, fun b hb _ => Below.heap_alloc w o b hb, ?_, Hle.refl H, fun _ _ _ h => h⟩
  intro b o' e
  rw [Below.heap_alloc w o b (h.lt e)]; exact h b o' e
theorem Imm.fresh {H : Hp} {w : World} (h : Imm H w) {b : Nat} (hb : w.heap.size ≤ b) : H b = none := by
  cases e : H b with
  | none => rfl
  | some o => have := h.lt e; omega
theorem L.alloc {X : List Nat} {H0 H : Hp} {w0 w : World} {S : List (Nat × Rs)} (h : L X H0 w0 S H w) (i : Nat) (c : List Value) (t : TypeId) :
    L X H0 w0 ((i, .cel w.heap.size c t) :: S) H (w.alloc (.cells c.toArray t)) :=
  h.step [] i (.cel w.heap.size c t) (by simp) (Ext.alloc h.imm _) (by show (w.heap.push _)[w.heap.size]? = _; simp)
    (fun b hb => by simp [Rs.foot] at hb; subst hb; exact ⟨h.imm.fresh (Nat.le_refl _), .inr (Nat.le_refl _)⟩)

/-- A store into a block of one's own. -/
theorem L.set {X : List Nat} {H0 H : Hp} {w0 w : World} {S : List (Nat × Rs)} (h : L X H0 w0 S H w) (i : Nat) {b : Nat} {c c' : List Value} {t : TypeId}
    (hs : sk S i = some (.cel b c t)) (off : Nat) (v : Value) (hc : c.set off v = c') : L X H0 w0 ((i, .cel b c' t) :: S) H (w.setCell ⟨b, off, none⟩ v) := by
  have hb : w.heap[b]? = some (.cells c.toArray t (0, 0)) := h.own i _ hs
  have hlt := (Array.getElem?_eq_some_iff.1 hb).1
  have hn := (h.non i _ hs b (by simp [Rs.foot])).1
  refine h.step [b] i (.cel b c' t) (fun b' hb' => ⟨_, hs, by simpa [Rs.foot] using hb'⟩) ⟨rfl, rfl, rfl, by simp [World.setCell], ?_, ?_, Hle.refl H, fun _ _ _ h => h⟩ ?_ ?_
  · intro b' _ hne
    exact Below.heap_setCell w ⟨b, off, none⟩ v b' (by simpa using hne)
  · intro b' o e
    have : b' ≠ b := fun e' => by subst e'; rw [hn] at e; cases e
    rw [Below.heap_setCell w ⟨b, off, none⟩ v b' this]; exact h.imm b' o e
  · show (w.setCell ⟨b, off, none⟩ v).heap[b]? = _
    simp [World.setCell, Array.getElem?_modify, hb, ← hc]
  · intro b' hb'
    simp [Rs.foot] at hb'; subst hb'
    exact ⟨hn, .inl (by simp)⟩

/-- Two resources, as one; one, as two. -/
theorem L.merge {X : List Nat} {H0 H : Hp} {w0 w : World} {S : List (Nat × Rs)} (h : L X H0 w0 S H w) (i j : Nat) {r s : Rs} (hij : Nat.beq i j = false) (hi : sk S i = some r) (hj : sk S j = some s) : L X H0 w0 ((i, .two r s) :: (j, .gone) :: S) H w := by
  have hne : i ≠ j := fun e => by subst e; simp at hij
  have hd := h.dis i j r s hne hi hj
  have key : ∀ q rq, sk ((i, Rs.two r s) :: (j, .gone) :: S) q = some rq → (q = i ∧ rq = .two r s) ∨ (q = j ∧ rq = .gone) ∨ (q ≠ i ∧ q ≠ j ∧ sk S q = some rq) := by
    intro q rq e
    rw [sk_cons] at e
    by_cases hq : q = i
    · rw [if_pos hq] at e; cases e; exact .inl ⟨hq, rfl⟩
    · rw [if_neg hq, sk_cons] at e
      by_cases hq' : q = j
      · rw [if_pos hq'] at e; cases e; exact .inr (.inl ⟨hq', rfl⟩)
      · rw [if_neg hq'] at e; exact .inr (.inr ⟨hq, hq', e⟩)
  refine ⟨h.ext, ?_, ?_, ?_⟩
  · intro q rq e
    rcases key q rq e with ⟨_, rfl⟩ | ⟨_, rfl⟩ | ⟨_, _, e⟩
    · exact ⟨h.own i r hi, h.own j s hj, hd⟩
    · trivial
    · exact h.own q rq e
  · intro q rq e b hb
    rcases key q rq e with ⟨_, rfl⟩ | ⟨_, rfl⟩ | ⟨_, _, e⟩
    · rcases List.mem_append.1 hb with hb | hb
      · exact h.non i r hi b hb
      · exact h.non j s hj b hb
    · simp [Rs.foot] at hb
    · exact h.non q rq e b hb
  · intro p q rp rq hpq ep eq b hb
    rcases key p rp ep with ⟨rfl, rfl⟩ | ⟨rfl, rfl⟩ | ⟨hp1, hp2, ep'⟩ <;> rcases key q rq eq with ⟨rfl, rfl⟩ | ⟨rfl, rfl⟩ | ⟨hq1, hq2, eq'⟩
    · exact absurd rfl hpq
    · simp [Rs.foot]
    · rcases List.mem_append.1 hb with hb | hb
      · exact h.dis _ q r rq hpq hi eq' b hb
      · exact h.dis _ q s rq (Ne.symm hq2) hj eq' b hb
    · simp [Rs.foot] at hb
    · exact absurd rfl hpq
    · simp [Rs.foot] at hb
    · intro hb'
      rcases List.mem_append.1 hb' with hb' | hb'
      · exact h.dis p _ rp r hp1 ep' hi b hb hb'
      · exact h.dis p _ rp s hp2 ep' hj b hb hb'
    · simp [Rs.foot]
    · exact h.dis p q rp rq hpq ep' eq' b hb
theorem L.split {X : List Nat} {H0 H : Hp} {w0 w : World} {S : List (Nat × Rs)} (h : L X H0 w0 S H w) (i j : Nat) {r s : Rs} (hij : Nat.beq i j = false) (hi : sk S i = some (.two r s)) (hj : sk S j = none ∨ sk S j = some .gone) : L X H0 w0 ((i, r) :: (j, s) :: S) H w := by
  have hne : i ≠ j := fun e => by subst e; simp at hij
  have ho := h.own i _ hi
  have key : ∀ q rq, sk ((i, r) :: (j, s) :: S) q = some rq → (q = i ∧ rq = r) ∨ (q = j ∧ rq = s) ∨ (q ≠ i ∧ q ≠ j ∧ sk S q = some rq) := by
    intro q rq e
    rw [sk_cons] at e
    by_cases hq : q = i
    · rw [if_pos hq] at e; cases e; exact .inl ⟨hq, rfl⟩
    · rw [if_neg hq, sk_cons] at e
      by_cases hq' : q = j
      · rw [if_pos hq'] at e; cases e; exact .inr (.inl ⟨hq', rfl⟩)
      · rw [if_neg hq'] at e; exact .inr (.inr ⟨hq, hq', e⟩)
  refine ⟨h.ext, ?_, ?_, ?_⟩
  · intro q rq e
    rcases key q rq e with ⟨_, rfl⟩ | ⟨_, rfl⟩ | ⟨_, _, e⟩
    · exact ho.1
    · exact ho.2.1
    · exact h.own q rq e
  · intro q rq e b hb
    rcases key q rq e with ⟨_, rfl⟩ | ⟨_, rfl⟩ | ⟨_, _, e⟩
    · exact h.non i _ hi b (List.mem_append_left _ hb)
    · exact h.non i _ hi b (List.mem_append_right _ hb)
    · exact h.non q rq e b hb
  · intro p q rp rq hpq ep eq b hb
    rcases key p rp ep with ⟨rfl, rfl⟩ | ⟨rfl, rfl⟩ | ⟨hp1, hp2, ep'⟩ <;> rcases key q rq eq with ⟨rfl, rfl⟩ | ⟨rfl, rfl⟩ | ⟨hq1, hq2, eq'⟩
    · exact absurd rfl hpq
    · exact ho.2.2 b hb
    · exact h.dis _ q _ rq hpq hi eq' b (List.mem_append_left _ hb)
    · exact fun hb' => ho.2.2 b hb' hb
    · exact absurd rfl hpq
    · exact h.dis i q _ rq (Ne.symm hq1) hi eq' b (List.mem_append_right _ hb)
    · exact fun hb' => h.dis p _ rp _ hp1 ep' hi b hb (List.mem_append_left _ hb')
    · exact fun hb' => h.dis p i rp _ hp1 ep' hi b hb (List.mem_append_right _ hb')
    · exact h.dis p q rp rq hpq ep' eq' b hb
/-- A place for a resource to come. -/
theorem L.room {X : List Nat} {H0 H : Hp} {w0 w : World} {S : List (Nat × Rs)} (h : L X H0 w0 S H w) (i : Nat) : L X H0 w0 ((i, .gone) :: S) H w :=
  h.step [] i .gone (by simp) (Ext.refl h.imm) trivial (by simp [Rs.foot])

end Go.Proofs.YtcjphpenelnohaaGreatDoor
/- Operations on memory, in the state L. -/
namespace Go.Proofs.YtcjphpenelnohaaGreatDoor
open Go.RowKit

/-! ### closed facts on types -/
def aggD : TypeDesc → Bool
  | .struct _ | .array _ _ => true
  | _ => false
/-- A type of one cell that is no struct and no array. -/
structure Sc (P : Program) (t : TypeId) : Prop where
  out : ∃ d i, P.underlying t = some d ∧ aggD d = false ∧ P.info? t = some i ∧ i.size = 1
structure Ag (P : Program) (t : TypeId) (k : Nat) : Prop where
  out : ∃ d i, P.underlying t = some d ∧ aggD d = true ∧ P.info? t = some i ∧ i.size = k
structure Ze (P : Program) (t : TypeId) (v : Value) : Prop where
  out : ∃ i, P.info? t = some i ∧ i.zero = some v
structure Fl (P : Program) (t : TypeId) (f off : Nat) : Prop where
  out : ∃ fs g i, P.underlying t = some (.struct fs) ∧ fs[f]? = some g ∧ g.offset = off ∧ P.info? g.type = some i ∧ i.size ≠ 0

theorem run_isAgg {P : Program} {t : TypeId} {d : TypeDesc} (h : P.underlying t = some d) (w : World) : (isAgg t).run P w = .ok (aggD d) w := by
  simp only [isAgg, Sem.run_bind, run_underlying h, Result.andThen_ok]
  cases d <;> rfl
theorem run_sizeOf {P : Program} {t : TypeId} {i : TypeInfo} (h : P.info? t = some i) (w : World) : (sizeOf t).run P w = .ok i.size w := by
  simp [sizeOf, typeInfo, h]
theorem run_zero {P : Program} {t : TypeId} {v : Value} (h : Ze P t v) (w : World) : (zeroValue t).run P w = .ok v w := by
  obtain ⟨i, h1, h2⟩ := h.out
  simp [zeroValue, typeInfo, h1, h2]

theorem cell_of_heap {w : World} {b off : Nat} {c : List Value} {t : TypeId} {fz : Nat × Nat} (h : w.heap[b]? = some (.cells c.toArray t fz)) : w.cell? ⟨b, off, none⟩ = c[off]? := by
  simp [World.cell?, h]

theorem loadCellsFrom_run {P : Program} {w : World} (a : Addr) : ∀ (k i : Nat) (acc : Array Value) (vs : List Value), vs.length = k → (∀ j v, vs[j]? = some v → w.cell? (a.add (i + j)) = some v) →
    (loadCellsFrom a i k acc).run P w = .ok (acc ++ vs.toArray) w := by
  intro k
  induction k with
  | zero => intro i acc vs h _; simp [loadCellsFrom, List.length_eq_zero_iff.1 h]
  | succ k ih =>
    intro i acc vs h hc
    match vs, h with
    | v :: vs, h =>
      have h0 := hc 0 v rfl
      simp only [Nat.add_zero] at h0
      simp only [loadCellsFrom, Sem.run_bind, run_load, h0, Result.andThen_ok]
      rw [ih (i + 1) (acc.push v) vs (by simpa using h) (fun j u e => by have := hc (j + 1) u (by simpa using e); rw [show i + 1 + j = i + (j + 1) from by omega]; exact this)]
      simp

theorem run_loadVar_one {P : Program} {w : World} {t : TypeId} {a : Addr} {v : Value} (ht : Sc P t) (hc : w.cell? a = some v) : (loadVar t a).run P w = .ok v w := by
  obtain ⟨d, i, h1, h2, _⟩ := ht.out
  simp [loadVar, run_isAgg h1, h2, hc]
theorem run_loadVar_agg {P : Program} {w : World} {t : TypeId} {a : Addr} {k : Nat} {vs : List Value} (ht : Ag P t k) (hl : vs.length = k) (hc : ∀ j v, vs[j]? = some v → w.cell? (a.add j) = some v) :
    (loadVar t a).run P w = .ok (.agg vs.toArray) w := by
  obtain ⟨d, i, h1, h2, h3, h4⟩ := ht.out
  simp only [loadVar, Sem.run_bind, run_isAgg h1, h2, Result.andThen_ok, if_true, run_sizeOf h3, loadCells]
  rw [loadCellsFrom_run a i.size 0 #[] vs (hl.trans h4.symm) (fun j v e => by rw [Nat.zero_add]; exact hc j v e)]
  simp

theorem add_off (b off j : Nat) : (⟨b, off, none⟩ : Addr).add j = ⟨b, off + j, none⟩ := by
  unfold Addr.add; split <;> simp_all

section
variable {P : Program} {Q : Exit → Act → World → Prop} {n : Nat} {l : List (Nat × Value)} {ds : List Deferred} {w w0 : World}
  {d : Nat} {x y : Operand} {ty : TypeId} {pos : String} {aft : Array Edge} {v u : Value} {g : Option (Nat × Bool)} {K : Act → World → Prop} {X : List Nat} {H0 H : Hp} {S : List (Nat × Rs)}

theorem r_fieldAddr {t : TypeId} {f off off' : Nat} {b : Nat} (hF : Fl P t f off') (hx : ev n l x = some (.pointer (some ⟨b, off, none⟩))) :
    (execOp (fr n l ds).eval ⟨some d, .fieldAddr t x f, ty, pos, aft, g⟩).run P w = .ok (.value (.pointer (some ⟨b, off + off', none⟩))) w := by
  obtain ⟨fs, gf, i, h1, h2, h3, h4, h5⟩ := hF.out
  have h5' : ¬ i.size = 0 := h5
  simp only [execOp, ev_eval hx, Instr.fieldAt, Instr.sureAddr, Sem.run_bind, run_underlying h1, Result.andThen_ok, h2, fieldPlace, run_sizeOf h4, Sem.run_pure, h3, if_neg h5', add_off, Sem.run_ite]

theorem r_load1 {t : TypeId} {b off : Nat} {c : List Value} {T : TypeId} (hb : Rs.holds w (.cel b c T)) (ht : Sc P t) (hx : ev n l x = some (.pointer (some ⟨b, off, none⟩)))
    (hc : c[off]? = some v) :
    (execOp (fr n l ds).eval ⟨some d, .load t x, ty, pos, aft, g⟩).run P w = .ok (.value v) w := by
  simp only [execOp, ev_eval hx, Instr.loadAt, Instr.sureAddr, Sem.run_bind, Sem.run_pure, Result.andThen_ok]
  rw [run_loadVar_one ht ((cell_of_heap hb).trans hc)]; rfl

theorem r_loadk {t : TypeId} {m b off : Nat} {c vs : List Value} {T : TypeId} (hb : Rs.holds w (.cel b c T)) (ht : Ag P t m) (hx : ev n l x = some (.pointer (some ⟨b, off, none⟩)))
    (hc : (c.drop off).take m = vs) (hm : vs.length = m) :
    (execOp (fr n l ds).eval ⟨some d, .load t x, ty, pos, aft, g⟩).run P w = .ok (.value (.agg vs.toArray)) w := by
  simp only [execOp, ev_eval hx, Instr.loadAt, Instr.sureAddr, Sem.run_bind, Sem.run_pure, Result.andThen_ok]
  rw [run_loadVar_agg ht hm (fun j v e => by
    rw [add_off, cell_of_heap hb]
    rw [← hc, List.getElem?_take] at e
    split at e
    · rw [List.getElem?_drop] at e; exact e
    · cases e)]; rfl

theorem o_box {t : TypeId} (i : Nat) {c : List Value} (hL : L X H0 w0 S H w) (hx : ev n l x = some v) (hc : v.cells = c.toArray)
    (k : ∀ b w', L X H0 w0 ((i, .cel b c t) :: S) H w' → K (fr n ((d, .pointer (some ⟨b, 0, none⟩)) :: l) ds) w') :
    Oper.wp P ⟨some d, .box t x, ty, pos, aft, g⟩ (fr n l ds) w K Q := by
  refine o_val (w' := w.alloc (.cells c.toArray t)) ?_ (k _ _ (hL.alloc i c t))
  simp only [execOp, ev_eval hx, Instr.box, newVar, newRow, hc, Sem.run_bind, run_newObj, Result.andThen_ok, Sem.run_pure]
  rfl

theorem o_alloc {t : TypeId} (i : Nat) {z : Value} {c : List Value} (hL : L X H0 w0 S H w) (hz : Ze P t z) (hc : z.cells = c.toArray)
    (k : ∀ b w', L X H0 w0 ((i, .cel b c t) :: S) H w' → K (fr n ((d, .pointer (some ⟨b, 0, none⟩)) :: l) ds) w') :
    Oper.wp P ⟨some d, .alloc t, ty, pos, aft, g⟩ (fr n l ds) w K Q := by
  refine o_val (w' := w.alloc (.cells c.toArray t)) ?_ (k _ _ (hL.alloc i c t))
  simp only [execOp, Instr.alloc, run_zero hz, newVar, newRow, hc, Sem.run_bind, run_newObj, Result.andThen_ok, Sem.run_pure]
  rfl

/-- How a store of one cell runs. -/
theorem run_store_own {w : World} {b off : Nat} {c : List Value} {t : TypeId} {u v : Value} (hb : w.heap[b]? = some (.cells c.toArray t (0, 0))) (hc : c[off]? = some u) (hv : v.oneCell' = true) :
    (store ⟨b, off, none⟩ v).run P w = .ok () (w.setCell ⟨b, off, none⟩ v) := by
  have h1 : w.cell? ⟨b, off, none⟩ = some u := (cell_of_heap hb).trans hc
  have h2 : w.frozen? ⟨b, off, none⟩ = false := by simp [World.frozen?, hb]
  rw [run_store P w _ v _ hv]; simp [h1, h2]

theorem o_store1 {t : TypeId} {i b off : Nat} {c c' : List Value} {T : TypeId} (hL : L X H0 w0 S H w) (ht : Sc P t) (hx : ev n l x = some (.pointer (some ⟨b, off, none⟩))) (hy : ev n l y = some v)
    (hs : sk S i = some (.cel b c T)) (hc : c[off]? = some u) (hv : v.oneCell' = true) (hc' : c.set off v = c') (k : ∀ w', L X H0 w0 ((i, .cel b c' T) :: S) H w' → K (fr n l ds) w') :
    Oper.wp P ⟨none, .store t x y, ty, pos, aft, g⟩ (fr n l ds) w K Q := by
  have hk := k _ (hL.set i hs off v hc')
  obtain ⟨dd, ii, h1, h2, h3, h4⟩ := ht.out
  refine o_skip (w' := w.setCell ⟨b, off, none⟩ v) ?_ hk
  have hb := hL.own i _ hs
  have hcells : v.cells = #[v] := by cases v <;> first | rfl | (simp [Value.oneCell'] at hv)
  simp only [execOp, ev_eval hx, ev_eval hy, Instr.storeAt, Instr.sureAddr, Sem.run_bind, Sem.run_pure, Result.andThen_ok, storeVar, run_sizeOf h3, h4, hcells, List.size_toArray, List.length_cons, List.length_nil, ne_eq,
    not_true, if_false, storeCells, add_off, Nat.add_zero, Nat.zero_add, Sem.run_ite]
  rw [run_store_own hb hc hv]; rfl

theorem storeCells_run {b : Nat} {t : TypeId} : ∀ (vs : List Value) (c : List Value) (off j : Nat) (w : World), w.heap[b]? = some (.cells c.toArray t (0, 0)) → off + j + vs.length ≤ c.length → (∀ v ∈ vs, v.oneCell' = true) →
    ∃ w', (storeCells ⟨b, off, none⟩ vs j).run P w = .ok () w' ∧ w'.heap[b]? = some (.cells (c.take (off + j) ++ vs ++ c.drop (off + j + vs.length)).toArray t (0, 0)) ∧
      w'.os = w.os ∧ w'.tape = w.tape ∧ w'.output = w.output ∧ w'.heap.size = w.heap.size ∧ ∀ k, k ≠ b → w'.heap[k]? = w.heap[k]? := by
  intro vs
  induction vs with
  | nil => intro c off j w hb _ _; exact ⟨w, by simp [storeCells], by simpa using hb, rfl, rfl, rfl, rfl, fun _ _ => rfl⟩
  | cons v vs ih =>
    intro c off j w hb hl hv
    simp only [List.length_cons] at hl
    have hlt : off + j < c.length := by omega
    have hb1 : (w.setCell ⟨b, off + j, none⟩ v).heap[b]? = some (.cells (c.set (off + j) v).toArray t (0, 0)) := by
      simp [World.setCell, Array.getElem?_modify, hb]
    obtain ⟨w', h1, h2, h3, h4, h5, h6, h7⟩ := ih (c.set (off + j) v) off (j + 1) _ hb1 (by simp; omega) (fun u hu => hv u (by simp [hu]))
    refine ⟨w', ?_, ?_, h3, h4, h5, h6.trans (by simp [World.setCell]), fun k hk => (h7 k hk).trans (Below.heap_setCell w ⟨b, off + j, none⟩ v k hk)⟩
    · simp only [storeCells, Sem.run_bind, add_off]
      rw [run_store_own hb (List.getElem?_eq_getElem hlt) (hv v (by simp))]
      exact h1
    · rw [h2]
      congr 3
      rw [show off + (j + 1) = off + j + 1 from by omega, List.take_set, List.drop_set, if_pos (by omega), List.take_succ_eq_append_getElem hlt, List.set_append]
      simp only [List.length_take, Nat.min_eq_left (Nat.le_of_lt hlt), Nat.lt_irrefl, if_false, Nat.sub_self, List.set_cons_zero, List.append_assoc, List.cons_append, List.nil_append, List.length_cons]
      rw [show off + j + 1 + vs.length = off + j + (vs.length + 1) from by omega]

theorem o_storek {t : TypeId} {m i b off : Nat} {c c' vs : List Value} {T : TypeId} (hL : L X H0 w0 S H w) (ht : Ag P t m) (hx : ev n l x = some (.pointer (some ⟨b, off, none⟩))) (hy : ev n l y = some (.agg vs.toArray))
    (hs : sk S i = some (.cel b c T)) (hm : vs.length = m) (hl : off + m ≤ c.length) (hv : ∀ v ∈ vs, v.oneCell' = true) (hc' : c.take off ++ vs ++ c.drop (off + m) = c')
    (k : ∀ w', L X H0 w0 ((i, .cel b c' T) :: S) H w' → K (fr n l ds) w') :
    Oper.wp P ⟨none, .store t x y, ty, pos, aft, g⟩ (fr n l ds) w K Q := by
  obtain ⟨dd, ii, h1, h2, h3, h4⟩ := ht.out
  have hb := hL.own i _ hs
  have hn := (hL.non i _ hs b (by simp [Rs.foot])).1
  subst hm
  obtain ⟨w', r1, r2, r3, r4, r5, r6, r7⟩ := storeCells_run (P := P) vs c off 0 w hb (by omega) hv
  simp only [Nat.add_zero] at r2
  rw [hc'] at r2
  have hk := k w' (hL.step [b] i (.cel b c' T) (fun b' hb' => ⟨_, hs, by simpa [Rs.foot] using hb'⟩)
    ⟨r3, r4, r5, by omega, fun b' _ hne => r7 b' (by simpa using hne), (fun b' o e => by
      have : b' ≠ b := fun e' => by subst e'; rw [hn] at e; cases e
      rw [r7 b' this]; exact hL.imm b' o e), Hle.refl H, fun _ _ _ h => h⟩ r2 (fun b' hb' => by
      simp [Rs.foot] at hb'; subst hb'
      exact ⟨hn, .inl (by simp)⟩))
  refine o_skip (w' := w') ?_ hk
  simp only [execOp, ev_eval hx, ev_eval hy, Instr.storeAt, Instr.sureAddr, Sem.run_bind, Sem.run_pure, Result.andThen_ok, storeVar, run_sizeOf h3, h4, Value.cells, List.size_toArray, ne_eq,
    not_true, if_false, Sem.run_ite]
  rw [r1]; rfl
end

end Go.Proofs.YtcjphpenelnohaaGreatDoor
/- Regions that draw their order: a chosen order serves, if what only reads reads what nobody in the region writes. -/
namespace Go.Proofs.YtcjphpenelnohaaGreatDoor
open Go.RowKit

section
variable {P : Program} {ops : Array Oper} {Q : Exit → Act → World → Prop} {S : World → Prop}

/-- May the operations come up in this order: 'true': it only reads, and is taken first; 'false': it alone may come up. -/
def chk (md : Region.Mode) (ops : Array Oper) : List (Nat × Bool) → Array Bool → Bool
  | [], listed => (Region.ready md ops listed).isEmpty
  | (i, true) :: r, listed => Region.free md ops listed i && (Region.ready md ops listed).contains i && chk md ops r (listed.setIfInBounds i true)
  | (i, false) :: r, listed => (Region.ready md ops listed == [i]) && chk md ops r (listed.setIfInBounds i true)

/-- The walk of such an order. -/
def W (P : Program) (S : World → Prop) (ops : Array Oper) (Q : Exit → Act → World → Prop) : List (Nat × Bool) → Act → World → Prop
  | [], a, w => Q .normal a w
  | (i, true) :: r, a, w => ∃ o v, ops[i]? = some o ∧ YieldsIf P ops S o v a ∧ W P S ops Q r (a.put o.dst v) w
  | (i, false) :: r, a, w => wpOp P ops Q i (fun a' w' => S w' ∧ W P S ops Q r a' w') a w

theorem W_held (hs : Region.noSelect ops = true) (hQ : ∀ c a d v w, Q (.panic c) (a.put d v) w → Q (.panic c) a w) : ∀ (r : List (Nat × Bool)) (listed : Array Bool) (a : Act) (w : World), chk .any ops r listed = true → S w → W P S ops Q r a w →
    wpAnyH P .any ops Q S r.length listed a w
  | [], listed, a, w, hc, _, h => wpAnyH_done (by simpa [chk, List.isEmpty_iff] using hc) h 0
  | (i, true) :: r, listed, a, w, hc, hS, h => by
    simp only [chk, Bool.and_eq_true] at hc
    obtain ⟨o, v, ho, hy, hw⟩ := h
    exact wpAnyH_take ho hs hc.1.1 hc.1.2 (fun c a w => hQ c a o.dst v w) hy hS (W_held hs hQ r _ _ _ hc.2 hS hw)
  | (i, false) :: r, listed, a, w, hc, hS, h => by
    simp only [chk, Bool.and_eq_true, beq_iff_eq] at hc
    refine wpAnyH_all hc.1 (by simp) fun j hj => ?_
    simp only [List.mem_singleton] at hj
    subst hj
    exact wpOp_mono (fun a' w' ⟨h1, h2⟩ => ⟨h1, W_held hs hQ r _ _ _ hc.2 h1 h2⟩) h

/-- A region that draws its order. -/
theorem wp_region_W {id : Nat} {l : List Oper} {a : Act} {w : World} (S : World → Prop) (r : List (Nat × Bool)) (hm : P.follows .mixedOrders = true)
    (hb : (Region.noSelect l.toArray && (r.length == l.length) && chk .any l.toArray r (Array.replicate l.length false)) = true)
    (hS : S { w with drawn := w.drawn + 1 }) (h : W P S l.toArray (NoPanic Q) r a { w with drawn := w.drawn + 1 }) : (Code.region id l.toArray true).wp P Q a w := by
  simp only [Bool.and_eq_true, beq_iff_eq] at hb
  refine wp_region_noPanic (wp_region_held (S := S) hm ?_)
  have := W_held hb.1.1 (fun c a d v w h => h) r _ a _ hb.2 hS h
  simpa [hb.1.2] using this

variable {n : Nat} {l : List (Nat × Value)} {ds : List Deferred} {w w' : World} {r : List (Nat × Bool)} {i d : Nat} {op : Op} {ty : TypeId} {pos : String} {aft : Array Edge} {v : Value} {g : Option (Nat × Bool)}

/-- What only reads. -/
theorem dv (hi : ops[i]? = some ⟨some d, op, ty, pos, aft, none⟩) (hr : ∀ w, S w → (execOp (fr n l ds).eval ⟨some d, op, ty, pos, aft, none⟩).run P w = .ok (.value v) w)
    (k : W P S ops Q r (fr n ((d, v) :: l) ds) w) : W P S ops Q ((i, true) :: r) (fr n l ds) w :=
  ⟨_, v, hi, .inl ⟨by simp [Region.wanted], hr⟩, by rw [fr_put]; exact k⟩
/-- .. guarded. -/
theorem dvT {j : Nat} {oj : Oper} {dj : Nat} {b c : Bool} (hi : ops[i]? = some ⟨some d, op, ty, pos, aft, some (j, b)⟩) (hj : ops[j]? = some oj) (hd : oj.dst = some dj) (hv : ev n l (.tmp dj) = some (.bool c)) (hc : c = b)
    (hr : ∀ w, S w → (execOp (fr n l ds).eval ⟨some d, op, ty, pos, aft, some (j, b)⟩).run P w = .ok (.value v) w)
    (k : W P S ops Q r (fr n ((d, v) :: l) ds) w) : W P S ops Q ((i, true) :: r) (fr n l ds) w :=
  ⟨_, v, hi, .inl ⟨wanted_of rfl hj hd hv hc, hr⟩, by rw [fr_put]; exact k⟩
/-- .. not carried out. -/
theorem dvF {j : Nat} {oj : Oper} {dj : Nat} {b c : Bool} (hi : ops[i]? = some ⟨some d, op, ty, pos, aft, some (j, b)⟩) (hj : ops[j]? = some oj) (hd : oj.dst = some dj) (hv : ev n l (.tmp dj) = some (.bool c)) (hc : c = !b)
    (k : W P S ops Q r (fr n ((d, undef) :: l) ds) w) : W P S ops Q ((i, true) :: r) (fr n l ds) w :=
  ⟨_, undef, hi, .inr ⟨unwanted_of rfl hj hd hv hc, rfl⟩, by rw [fr_put]; exact k⟩
/-- What alone may come up. -/
theorem dh {o : Oper} {a : Act} (hi : ops[i]? = some o) (hg : o.guard = none) (h : o.wp P a w (fun a' w' => S w' ∧ W P S ops Q r a' w') Q) : W P S ops Q ((i, false) :: r) a w := by
  show wpOp P ops Q i _ a w
  unfold wpOp
  simp only [hi]
  rw [if_pos (by simp [Region.wanted, hg])]
  exact .inl h
theorem dhT {o : Oper} {j : Nat} {oj : Oper} {dj : Nat} {b c : Bool} (hi : ops[i]? = some o) (hg : o.guard = some (j, b)) (hj : ops[j]? = some oj) (hd : oj.dst = some dj) (hv : ev n l (.tmp dj) = some (.bool c)) (hc : c = b)
    (h : o.wp P (fr n l ds) w (fun a' w' => S w' ∧ W P S ops Q r a' w') Q) : W P S ops Q ((i, false) :: r) (fr n l ds) w := by
  show wpOp P ops Q i _ (fr n l ds) w
  unfold wpOp
  simp only [hi]
  rw [if_pos (wanted_of hg hj hd hv hc)]
  exact .inl h
theorem dhF {o : Oper} {j : Nat} {oj : Oper} {dj : Nat} {b c : Bool} (hi : ops[i]? = some o) (hg : o.guard = some (j, b)) (hj : ops[j]? = some oj) (hd : oj.dst = some dj) (hv : ev n l (.tmp dj) = some (.bool c)) (hc : c = !b) (ho : o.dst = some d)
    (hS : S w) (h : W P S ops Q r (fr n ((d, undef) :: l) ds) w) : W P S ops Q ((i, false) :: r) (fr n l ds) w := by
  show wpOp P ops Q i _ (fr n l ds) w
  unfold wpOp
  simp only [hi]
  rw [if_neg (by rw [unwanted_of hg hj hd hv hc]; simp), ho, fr_put]
  exact ⟨hS, h⟩
theorem dvU {j : Nat} {oj : Oper} {dj : Nat} {b : Bool} (hi : ops[i]? = some ⟨some d, op, ty, pos, aft, some (j, b)⟩) (hj : ops[j]? = some oj) (hd : oj.dst = some dj) (hv : ev n l (.tmp dj) = some undef)
    (k : W P S ops Q r (fr n ((d, undef) :: l) ds) w) : W P S ops Q ((i, true) :: r) (fr n l ds) w :=
  ⟨_, undef, hi, .inr ⟨unwanted_und rfl hj hd hv, rfl⟩, by rw [fr_put]; exact k⟩
theorem dhU {o : Oper} {j : Nat} {oj : Oper} {dj : Nat} {b : Bool} (hi : ops[i]? = some o) (hg : o.guard = some (j, b)) (hj : ops[j]? = some oj) (hd : oj.dst = some dj) (hv : ev n l (.tmp dj) = some undef) (ho : o.dst = some d)
    (hS : S w) (h : W P S ops Q r (fr n ((d, undef) :: l) ds) w) : W P S ops Q ((i, false) :: r) (fr n l ds) w := by
  show wpOp P ops Q i _ (fr n l ds) w
  unfold wpOp
  simp only [hi]
  rw [if_neg (by rw [unwanted_und hg hj hd hv]; simp), ho, fr_put]
  exact ⟨hS, h⟩
theorem dn {a : Act} (h : Q .normal a w) : W P S ops (NoPanic Q) [] a w := h
end

end Go.Proofs.YtcjphpenelnohaaGreatDoor
/- Calls, tests, loops, the beginning and the end of a function; the model's side. -/
namespace Go.Proofs.YtcjphpenelnohaaGreatDoor
open Go.RowKit

/-! ### the model's side -/
theorem bnd {α β : Type} {o : Option α} {f : α → Option β} {r : β} (h : o.bind f = some r) : ∃ x, o = some x ∧ f x = some r := Option.bind_eq_some_iff.1 h
theorem grd {b : Bool} {α : Type} {A : Option α} {r : α} (h : (bif b then A else none) = some r) : b = true ∧ A = some r := by
  cases b with
  | true => exact ⟨rfl, h⟩
  | false => cases h
theorem ends {α : Type} {x r : α} (h : some x = some r) : x = r := Option.some.inj h

/-- The state inside a draw. -/
theorem L.drew {X : List Nat} {H0 H : Hp} {w0 w : World} {S : List (Nat × Rs)} (h : L X H0 w0 S H w) : L X H0 w0 S H { w with drawn := w.drawn + 1 } :=
  ⟨⟨h.ext.os, h.ext.tape, h.ext.output, h.ext.size, h.ext.block, h.ext.imm, h.ext.le, h.ext.old⟩, fun i r e => Rs.kept (w := w) (h.own i r e) (fun _ _ => rfl), h.non, h.dis⟩

/-- What holds all through a region: what is settled, and some of what is owned. -/
def Hd (w : World) : List Rs → Prop
  | [] => True
  | r :: rs => r.holds w ∧ Hd w rs
def Sd (H : Hp) (rs : List Rs) (w : World) : Prop := Imm H w ∧ Hd w rs
theorem Hd.of {X : List Nat} {H0 H : Hp} {w0 w : World} {S : List (Nat × Rs)} (h : L X H0 w0 S H w) : ∀ (ks : List Nat) (rs : List Rs), ks.map (sk S) = rs.map some → Hd w rs
  | [], [], _ => trivial
  | k :: ks, r :: rs, e => by
    simp only [List.map_cons, List.cons.injEq] at e
    exact ⟨h.own k r e.1, Hd.of h ks rs e.2⟩
  | [], _ :: _, e => by simp at e
  | _ :: _, [], e => by simp at e
theorem Sd.of {X : List Nat} {H0 H H' : Hp} {w0 w : World} {S : List (Nat × Rs)} {rs : List Rs} (h : L X H0 w0 S H' w) (hle : Hle H H') (ks : List Nat) (e : ks.map (sk S) = rs.map some) : Sd H rs w :=
  ⟨fun b o hb => h.imm b o (hle b o hb), Hd.of h ks rs e⟩

/-- A contract: the call returns; what has turned; what is said of the value. -/
def Ct (P : Program) (f : FuncId) (args : List Value) (X : List Nat) (H : Hp) (w : World) (R : Value → Hp → World → Prop) : Prop :=
  Calls P f args.toArray w fun e w' => ∃ v H', e = .returned v ∧ Ext X H w H' w' ∧ R v H' w'
/-- Function f has a body. -/
def Fn (P : Program) (f : FuncId) : Prop := ∀ (args : Array Value) (w : World), (callFunc f args).run P w = .ok (.enter f args) w

def evs (n : Nat) (l : List (Nat × Value)) : List Operand → Option (List Value)
  | [] => some []
  | o :: os => match ev n l o, evs n l os with
    | some v, some vs => some (v :: vs)
    | _, _ => none
theorem evs_eval {n : Nat} {l : List (Nat × Value)} {ds : List Deferred} : ∀ {os : List Operand} {vs : List Value}, evs n l os = some vs → os.map (fr n l ds).eval = vs
  | [], vs, h => by simp [evs] at h; simp [h]
  | o :: os, vs, h => by
    simp only [evs] at h
    cases e1 : ev n l o with
    | none => rw [e1] at h; cases h
    | some v =>
      cases e2 : evs n l os with
      | none => rw [e1, e2] at h; cases h
      | some us => rw [e1, e2] at h; cases h; simp [ev_eval e1, evs_eval e2]

section
variable {P : Program} {Q : Exit → Act → World → Prop} {n : Nat} {l : List (Nat × Value)} {ds : List Deferred} {w w0 : World}
  {d : Nat} {x y : Operand} {ty : TypeId} {pos : String} {aft : Array Edge} {v u : Value} {g : Option (Nat × Bool)} {K : Act → World → Prop} {X : List Nat} {H0 H : Hp} {S : List (Nat × Rs)}

theorem r_call {f : FuncId} {os : List Operand} {tt : Array TypeId} {vs : List Value} (hf : Fn P f) (ha : evs n l os = some vs) :
    (execOp (fr n l ds).eval ⟨some d, .call ⟨.value (.func f), os.toArray, tt⟩, ty, pos, aft, g⟩).run P w = .ok (.enter f vs.toArray) w := by
  have h := evs_eval (ds := ds) ha
  have h2 := hf vs.toArray w
  simp only [execOp, resolve, Deferred.ofValue, invoke, Act.eval, List.map_toArray, h, Sem.run_bind, Sem.run_pure, Result.andThen_ok, Array.empty_append, Array.append_empty]
  simpa using h2

/-- A call that owns nothing of ours. -/
theorem o_call0 {f : FuncId} {os : List Operand} {tt : Array TypeId} {vs : List Value} {R : Value → Hp → World → Prop} (hL : L X H0 w0 S H w) (hf : Fn P f) (ha : evs n l os = some vs) (hc : Ct P f vs [] H w R)
    (k : ∀ v H' w', Hle H H' → L X H0 w0 S H' w' → R v H' w' → K (fr n ((d, v) :: l) ds) w') :
    Oper.wp P ⟨some d, .call ⟨.value (.func f), os.toArray, tt⟩, ty, pos, aft, g⟩ (fr n l ds) w K Q :=
  o_call (r_call hf ha) hc fun _ w' ⟨v, H', he, hx, hR⟩ => ⟨v, he, k v H' w' hx.le (hL.call hx) hR⟩

/-- A call that is handed one thing that we own. -/
theorem o_call1 {f : FuncId} {os : List Operand} {tt : Array TypeId} {vs : List Value} {R : Value → Hp → World → Prop} (i : Nat) {r0 r1 : Rs} (hL : L X H0 w0 S H w) (hf : Fn P f) (ha : evs n l os = some vs)
    (hs : sk S i = some r0) (hc : Ct P f vs r0.foot H w fun v H' w' => R v H' w' ∧ r1.holds w' ∧ ∀ b ∈ r1.foot, H' b = none ∧ (b ∈ r0.foot ∨ w.heap.size ≤ b))
    (k : ∀ v H' w', Hle H H' → L X H0 w0 ((i, r1) :: S) H' w' → R v H' w' → K (fr n ((d, v) :: l) ds) w') :
    Oper.wp P ⟨some d, .call ⟨.value (.func f), os.toArray, tt⟩, ty, pos, aft, g⟩ (fr n l ds) w K Q :=
  o_call (r_call hf ha) hc fun _ w' ⟨v, H', he, hx, hR, hr, hb⟩ => ⟨v, he, k v H' w' hx.le (hL.step r0.foot i r1 (fun _ hb => ⟨r0, hs, hb⟩) hx hr hb) hR⟩

/-- .. and what comes back depends on things that the contract finds. -/
theorem o_callE {ι : Type} {f : FuncId} {os : List Operand} {tt : Array TypeId} {vs : List Value} {R : ι → Value → Hp → World → Prop} (i : Nat) {r0 : Rs} {r1 : ι → Rs} (hL : L X H0 w0 S H w) (hf : Fn P f) (ha : evs n l os = some vs)
    (hs : sk S i = some r0) (hc : Ct P f vs r0.foot H w fun v H' w' => ∃ x : ι, R x v H' w' ∧ (r1 x).holds w' ∧ ∀ b ∈ (r1 x).foot, H' b = none ∧ (b ∈ r0.foot ∨ w.heap.size ≤ b))
    (k : ∀ x v H' w', Hle H H' → L X H0 w0 ((i, r1 x) :: S) H' w' → R x v H' w' → K (fr n ((d, v) :: l) ds) w') :
    Oper.wp P ⟨some d, .call ⟨.value (.func f), os.toArray, tt⟩, ty, pos, aft, g⟩ (fr n l ds) w K Q :=
  o_call (r_call hf ha) hc fun _ w' ⟨v, H', he, hx, x, hR, hr, hb⟩ => ⟨v, he, k x v H' w' hx.le (hL.step r0.foot i (r1 x) (fun _ hb => ⟨r0, hs, hb⟩) hx hr hb) hR⟩

/-- A test. -/
theorem c_if {c : Operand} {thn els : Code} {b : Bool} {ρ : Type} {A B : Option ρ} {r : ρ} (hm : (bif b then A else B) = some r) (hc : ev n l c = some (.bool b))
    (ht : b = true → A = some r → thn.wp P Q (fr n l ds) w) (hf : b = false → B = some r → els.wp P Q (fr n l ds) w) : (Code.cond c thn els).wp P Q (fr n l ds) w := by
  cases b with
  | true => exact wp_cond (ev_eval hc) (ht rfl hm)
  | false => exact wp_cond (ev_eval hc) (hf rfl hm)
theorem then_n {next : Act → World → Prop} {a : Act} (h : next a w) : Exit.then next Q .normal a w := h
theorem then_o {next : Act → World → Prop} {a : Act} {e : Exit} (he : e ≠ .normal) (h : Q e a w) : Exit.then next Q e a w := by
  cases e <;> first | exact h | exact absurd rfl he
theorem rg {ops : List Oper} {id : Nat} {a : Act} (h : WL P ops.toArray Q ops a w) : (Code.region id ops.toArray false).wp P Q a w := wp_region_lit h.out

/-- A region that draws its order, in the state L. -/
theorem rd {ops : List Oper} {id : Nat} {a : Act} (hL : L X H0 w0 S H w) (ks : List Nat) (rs : List Rs) (r : List (Nat × Bool)) (hm : P.follows .mixedOrders = true) (hks : ks.map (sk S) = rs.map some)
    (hb : (Region.noSelect ops.toArray && (r.length == ops.length) && chk .any ops.toArray r (Array.replicate ops.length false)) = true)
    (h : ∀ w, L X H0 w0 S H w → W P (Sd H rs) ops.toArray (NoPanic Q) r a w) : (Code.region id ops.toArray true).wp P Q a w :=
  wp_region_W (Sd H rs) r hm hb (Sd.of hL.drew (Hle.refl H) ks hks) (h _ hL.drew)

/-- The least number with a property. -/
theorem least (p : Nat → Prop) (h : ∃ k, p k) : ∃ k, p k ∧ ∀ j, p j → k ≤ j := by
  obtain ⟨k, hk⟩ := h
  induction k using Nat.strongRecOn with
  | _ k ih =>
    by_cases hj : ∃ j, j < k ∧ p j
    · obtain ⟨j, h1, h2⟩ := hj; exact ih j h1 h2
    · exact ⟨k, hk, fun j hpj => Nat.le_of_not_lt fun hlt => hj ⟨j, hlt, hpj⟩⟩
/-- A loop, by the rounds that its model has left. -/
theorem wp_loop_fuel {c : Code} (I : Nat → Act → World → Prop) {k : Nat} {a : Act} (h0 : I k a w)
    (round : ∀ k a w, I k a w → c.wp P (Exit.then (fun a' w' => ∃ k', k' < k ∧ I k' a' w') Q) a w) : (Code.loop c).wp P Q a w := by
  have hex : ∀ a w, (∃ k, I k a w) → ∃ k, I k a w ∧ ∀ j, I j a w → k ≤ j := fun a w h => least (fun k => I k a w) h
  refine wp_loop (fun a w => ∃ k, I k a w) (fun a w => open Classical in if h : ∃ k, I k a w then (hex a w h).choose else 0) ⟨k, h0⟩ ?_
  intro a w h
  have hs := (hex a w h).choose_spec
  refine wp_mono (round _ a w hs.1) fun e a' w' hq => ?_
  cases e with
  | normal =>
    obtain ⟨k', hlt, hI⟩ := hq
    refine ⟨⟨k', hI⟩, ?_⟩
    have h' : ∃ k, I k a' w' := ⟨k', hI⟩
    rw [dif_pos h', dif_pos h]
    exact Nat.lt_of_le_of_lt ((hex a' w' h').choose_spec.2 k' hI) hlt
  | _ => exact hq

/-- The beginning of a function. -/
theorem ct_of {f : FuncId} {fn : Func} {c : Code} {args : List Value} {R : Value → Hp → World → Prop} {l : List (Nat × Value)} (hf : P.funcs[f]? = some fn) (hb : fn.body = some c) (hn : fn.ntmps = n) (hl : argl 0 args = l) (hle : args.length ≤ n)
    (h : c.wp P (bodyPost P fn fun e w' => ∃ v H', e = .returned v ∧ Ext X H w H' w' ∧ R v H' w') (fr n l []) w) : Ct P f args X H w R := by
  refine calls_of_wp hf hb ?_
  have e : ({ tmps := args.toArray ++ Array.replicate (fn.ntmps - args.toArray.size) undef, defers := [] } : Act) = fr n l [] := by
    subst hl hn
    simp only [fr, Act.mk.injEq, and_true]
    apply Array.ext
    · simp; omega
    · intro i h1 h2
      simp only [List.getElem_toArray, List.getElem_map, List.getElem_range]
      rw [lk_argl 0 args i]
      simp only [Nat.zero_le, true_and, Nat.sub_zero]
      by_cases hi : i < args.length
      · simp [hi]
      · simp [hi, Array.getElem_append]
  rw [e]; exact h
/-- The end of a function with one result in a slot. -/
theorem ret1 {fn : Func} {t : Nat} {R : Ending → World → Prop} (h : fn.results = #[.tmp t]) (ht : ev n l (.tmp t) = some v) (hR : R (.returned v) w) : bodyPost P fn R .ret (fr n l []) w :=
  bodyPost_ret (v := v) (by rw [results_tmp h]; exact congrArg (Result.ok · w) (ev_eval (ds := []) ht)) rfl hR
theorem end0 {fn : Func} {R : Ending → World → Prop} (h : fn.results = #[]) (hR : R (.returned (.tuple #[])) w) : bodyPost P fn R .normal (fr n l []) w :=
  bodyPost_end (results_none h _ _ _) rfl hR
theorem ret0 {fn : Func} {R : Ending → World → Prop} (h : fn.results = #[]) (hR : R (.returned (.tuple #[])) w) : bodyPost P fn R .ret (fr n l []) w :=
  bodyPost_ret (results_none h _ _ _) rfl hR
theorem ret2 {fn : Func} {t s : Nat} {R : Ending → World → Prop} (h : fn.results = #[.tmp t, .tmp s]) (ht : ev n l (.tmp t) = some v) (hs : ev n l (.tmp s) = some u) (hR : R (.returned (.tuple #[v, u])) w) : bodyPost P fn R .ret (fr n l []) w :=
  bodyPost_ret (v := .tuple #[v, u]) (by
    have e1 : (fr n l []).tmps.getD t undef = v := ev_eval (ds := []) ht
    have e2 : (fr n l []).tmps.getD s undef = u := ev_eval (ds := []) hs
    rw [results_tmp2 h, e1, e2]) rfl hR
theorem ret3 {fn : Func} {t s z : Nat} {v3 : Value} {R : Ending → World → Prop} (h : fn.results = #[.tmp t, .tmp s, .tmp z]) (ht : ev n l (.tmp t) = some v) (hs : ev n l (.tmp s) = some u) (hz : ev n l (.tmp z) = some v3)
    (hR : R (.returned (.tuple #[v, u, v3])) w) : bodyPost P fn R .ret (fr n l []) w :=
  bodyPost_ret (v := .tuple #[v, u, v3]) (by
    have e1 : (fr n l []).tmps.getD t undef = v := ev_eval (ds := []) ht
    have e2 : (fr n l []).tmps.getD s undef = u := ev_eval (ds := []) hs
    have e3 : (fr n l []).tmps.getD z undef = v3 := ev_eval (ds := []) hz
    rw [results_tmp3 h, e1, e2, e3]) rfl hR
end

end Go.Proofs.YtcjphpenelnohaaGreatDoor
/- Results, closed facts by computation, loops' heads. -/
namespace Go.Proofs.YtcjphpenelnohaaGreatDoor
open Go.RowKit

/-! ### closed facts, by computation -/
def scB (P : Program) (t : TypeId) : Bool := match P.underlying t, P.info? t with
  | some d, some i => !aggD d && i.size == 1
  | _, _ => false
theorem sc_of {P : Program} {t : TypeId} (h : scB P t = true) : Sc P t := by
  unfold scB at h
  split at h
  · rename_i d i h1 h2
    simp at h
    exact ⟨d, i, h1, h.1, h2, h.2⟩
  · cases h
def agB (P : Program) (t : TypeId) (k : Nat) : Bool := match P.underlying t, P.info? t with
  | some d, some i => aggD d && i.size == k
  | _, _ => false
theorem ag_of {P : Program} {t : TypeId} {k : Nat} (h : agB P t k = true) : Ag P t k := by
  unfold agB at h
  split at h
  · rename_i d i h1 h2
    simp at h
    exact ⟨d, i, h1, h.1, h2, h.2⟩
  · cases h
theorem ze_of {P : Program} {t : TypeId} {v : Value} (h : (P.info? t).bind (·.zero) = some v) : Ze P t v := by
  cases e : P.info? t with
  | none => rw [e] at h; cases h
  | some i => rw [e] at h; exact ⟨i, e, h⟩
def flB (P : Program) (t : TypeId) (f off : Nat) : Bool := match P.underlying t with
  | some (.struct fs) => match fs[f]? with
    | some g => match P.info? g.type with
      | some i => g.offset == off && i.size != 0
      | none => false
    | none => false
  | _ => false
theorem fl_of {P : Program} {t : TypeId} {f off : Nat} (h : flB P t f off = true) : Fl P t f off := by
  unfold flB at h
  split at h
  · rename_i fs h1
    split at h
    · rename_i g h2
      split at h
      · rename_i i h3
        simp at h
        exact ⟨fs, g, i, h1, h2, h.1, h3, h.2⟩
      · cases h
    · cases h
  · cases h

/-! ### results -/
inductive Res (P : Program) (w : World) (n : Nat) (l : List (Nat × Value)) : List ResultVar → List Value → Prop
  | nil : Res P w n l [] []
  | tmp {t : Nat} {v : Value} {rs vs} (h : ev n l (.tmp t) = some v) (k : Res P w n l rs vs) : Res P w n l (.tmp t :: rs) (v :: vs)
  | one {t : Nat} {T : TypeId} {b off : Nat} {c : List Value} {T' : TypeId} {v : Value} {rs vs} (hb : Rs.holds w (.cel b c T')) (ht : Sc P T) (h : ev n l (.tmp t) = some (.pointer (some ⟨b, off, none⟩)))
      (hc : c[off]? = some v) (k : Res P w n l rs vs) : Res P w n l (.cell t T :: rs) (v :: vs)
  | agg {t : Nat} {T : TypeId} {b off m : Nat} {c us : List Value} {T' : TypeId} {rs vs} (hb : Rs.holds w (.cel b c T')) (ht : Ag P T m) (h : ev n l (.tmp t) = some (.pointer (some ⟨b, off, none⟩)))
      (hc : (c.drop off).take m = us) (hm : us.length = m) (k : Res P w n l rs vs) : Res P w n l (.cell t T :: rs) (.agg us.toArray :: vs)

def packR : List Value → Value
  | [v] => v
  | vs => .tuple vs.toArray

theorem run_asAddr (P : Program) (w : World) (a : Addr) : (asAddr (.pointer (some a))).run P w = .ok a w := rfl
theorem mapM_res {P : Program} {w : World} {n : Nat} {l : List (Nat × Value)} {ds : List Deferred} {rs : List ResultVar} {vs : List Value} (h : Res P w n l rs vs) :
    (rs.mapM fun (r : ResultVar) => (match r with
      | .tmp t => pure ((fr n l ds).tmps.getD t undef)
      | .cell a t => do loadVar t (← asAddr ((fr n l ds).tmps.getD a undef)) : Sem Value)).run P w = .ok vs w := by
  induction h with
  | nil => rfl
  | tmp h k ih =>
    have e : (fr n l ds).tmps.getD _ undef = _ := ev_eval (ds := ds) h
    simp only [List.mapM_cons, Sem.run_bind, e, Sem.run_pure, Result.andThen_ok, ih]
  | one hb ht h hc k ih =>
    have e : (fr n l ds).tmps.getD _ undef = _ := ev_eval (ds := ds) h
    simp only [List.mapM_cons, Sem.run_bind, e, run_asAddr, Result.andThen_ok]
    rw [run_loadVar_one ht ((cell_of_heap hb).trans hc)]
    simp only [Result.andThen_ok, ih, Sem.run_pure]
  | agg hb ht h hc hm k ih =>
    have e : (fr n l ds).tmps.getD _ undef = _ := ev_eval (ds := ds) h
    simp only [List.mapM_cons, Sem.run_bind, e, run_asAddr, Result.andThen_ok]
    rw [run_loadVar_agg ht hm (fun j v e => by
      rw [add_off, cell_of_heap hb]
      rw [← hc, List.getElem?_take] at e
      split at e
      · rw [List.getElem?_drop] at e; exact e
      · cases e)]
    simp only [Result.andThen_ok, ih, Sem.run_pure]

theorem run_results {P : Program} {w : World} {n : Nat} {l : List (Nat × Value)} {ds : List Deferred} {fn : Func} {rs : List ResultVar} {vs : List Value} (hr : fn.results = rs.toArray) (h : Res P w n l rs vs) :
    (results fn (fr n l ds).tmps).run P w = .ok (packR vs) w := by
  unfold results
  rw [hr, List.mapM_toArray]
  simp only [Sem.run_bind, Sem.run_map]
  erw [mapM_res (ds := ds) h]
  simp only [Result.andThen_ok, Sem.run_pure]
  match vs with
  | [] => rfl
  | [v] => rfl
  | v :: u :: r => simp [packR]

section
variable {P : Program} {n : Nat} {l : List (Nat × Value)} {w : World} {X : List Nat} {H0 H : Hp} {w0 : World} {S : List (Nat × Rs)}
theorem rt {fn : Func} {rs : List ResultVar} {vs : List Value} {R : Ending → World → Prop} (hr : fn.results = rs.toArray) (h : Res P w n l rs vs) (hR : R (.returned (packR vs)) w) : bodyPost P fn R .ret (fr n l []) w :=
  bodyPost_ret (run_results hr h) rfl hR
theorem rtN {fn : Func} {rs : List ResultVar} {vs : List Value} {R : Ending → World → Prop} (hr : fn.results = rs.toArray) (h : Res P w n l rs vs) (hR : R (.returned (packR vs)) w) : bodyPost P fn R .normal (fr n l []) w :=
  bodyPost_end (run_results hr h) rfl hR

/-! ### the way out of nested code -/
theorem then_e {Q : Exit → Act → World → Prop} {next : Act → World → Prop} {a : Act} {i : Nat} (h : Q (.exit i) a w) : Exit.then next Q (.exit i) a w := h
theorem then_r {Q : Exit → Act → World → Prop} {next : Act → World → Prop} {a : Act} (h : Q .ret a w) : Exit.then next Q .ret a w := h
theorem blk_n {Q : Exit → Act → World → Prop} {a : Act} {i : Nat} (h : Q .normal a w) : Exit.inBlock i Q .normal a w := h
theorem blk_r {Q : Exit → Act → World → Prop} {a : Act} {i : Nat} (h : Q .ret a w) : Exit.inBlock i Q .ret a w := h
theorem blk_e {Q : Exit → Act → World → Prop} {a : Act} {i : Nat} (h : Q .normal a w) : Exit.inBlock i Q (.exit i) a w := by
  simpa [Exit.inBlock] using h
theorem blk_o {Q : Exit → Act → World → Prop} {a : Act} {i j : Nat} (hne : Nat.beq j i = false) (h : Q (.exit j) a w) : Exit.inBlock i Q (.exit j) a w := by
  have : j ≠ i := fun e => by subst e; simp at hne
  simpa [Exit.inBlock, this] using h

/-! ### a loop's head -/
theorem fr_pre {ds : List Deferred} (ks : List (Nat × Value)) (h : ks.map (fun p => lk l p.1) = ks.map (fun p => some p.2)) : fr n l ds = fr n (ks ++ l) ds := by
  have key : ∀ (ks : List (Nat × Value)), (∀ p ∈ ks, lk l p.1 = some p.2) → ∀ i, lk (ks ++ l) i = lk l i := by
    intro ks
    induction ks with
    | nil => intro _ i; rfl
    | cons p ks ih =>
      intro hk i
      obtain ⟨j, v⟩ := p
      rw [List.cons_append, lk_cons]
      by_cases hi : i = j
      · subst hi; rw [if_pos rfl]; exact (hk (i, v) (by simp)).symm
      · rw [if_neg hi]; exact ih (fun p hp => hk p (by simp [hp])) i
  have hk : ∀ p ∈ ks, lk l p.1 = some p.2 := by
    intro p hp
    have := List.map_inj_left.1 h p hp
    exact this
  unfold fr
  simp only [key ks hk]

theorem L.pick (h : L X H0 w0 S H w) (S' : List (Nat × Rs)) (e : S'.map (fun p => sk S p.1) = S'.map (fun p => some p.2)) : L X H0 w0 S' H w := by
  have hk : ∀ p ∈ S', sk S p.1 = some p.2 := fun p hp => List.map_inj_left.1 e p hp
  have hs : ∀ i r, sk S' i = some r → sk S i = some r := by
    clear e
    intro i r
    induction S' with
    | nil => intro h; cases h
    | cons p S' ih =>
      obtain ⟨j, v⟩ := p
      rw [sk_cons]
      by_cases hi : i = j
      · subst hi; rw [if_pos rfl]; intro e; rw [← e]; exact hk (i, v) (by simp)
      · rw [if_neg hi]; exact ih (fun p hp => hk p (by simp [hp]))
  exact ⟨h.ext, fun i r e => h.own i r (hs i r e), fun i r e => h.non i r (hs i r e), fun i j r r' hij e1 e2 => h.dis i j r r' hij (hs i r e1) (hs j r' e2)⟩

theorem L.one {r : Rs} (hI : Imm H w) (hr : r.holds w) (hn : ∀ b ∈ r.foot, H b = none) : L r.foot H w [(0, r)] H w := by
  refine ⟨Ext.refl hI, ?_, ?_, ?_⟩
  · intro i r' e
    rw [sk_cons] at e
    by_cases hi : i = 0
    · rw [if_pos hi] at e; cases e; exact hr
    · rw [if_neg hi] at e; cases e
  · intro i r' e b hb
    rw [sk_cons] at e
    by_cases hi : i = 0
    · rw [if_pos hi] at e; cases e; exact ⟨hn b hb, .inl hb⟩
    · rw [if_neg hi] at e; cases e
  · intro i j r' r'' hij e1 e2
    rw [sk_cons] at e1 e2
    by_cases hi : i = 0
    · rw [if_neg (fun h => hij (hi.trans h.symm))] at e2; cases e2
    · rw [if_neg hi] at e1; cases e1
theorem L.give {i : Nat} {r : Rs} (h : L X H0 w0 S H w) (hs : sk S i = some r) : r.holds w ∧ ∀ b' ∈ r.foot, H b' = none ∧ (b' ∈ X ∨ w0.heap.size ≤ b') :=
  ⟨h.own i r hs, fun b' hb' => h.non i r hs b' hb'⟩
/-- What is handed back of one's own. -/
theorem L.back {i : Nat} {r : Rs} {b : Nat} (h : L [b] H0 w0 S H w) (hs : sk S i = some r) (hf : ∀ b' ∈ r.foot, b' = b) : r.holds w ∧ ∀ b' ∈ r.foot, H b' = none ∧ (b' ∈ [b] ∨ w0.heap.size ≤ b') :=
  ⟨h.own i r hs, fun b' hb' => ⟨(h.non i r hs b' hb').1, .inl (by simp [hf b' hb'])⟩⟩
end

theorem mixed : Tryz.prog.follows .mixedOrders = true := by kernel_rfl

/-! ### more operations that leave the world alone -/
section
variable {P : Program} {n : Nat} {l : List (Nat × Value)} {ds : List Deferred} {w : World} {d : Nat} {x y z : Operand} {ty : TypeId} {pos : String} {aft : Array Edge} {v u : Value} {g : Option (Nat × Bool)}
theorem r_pickT {b : Bool} (hb : b = true) (hx : ev n l x = some (.bool b)) (hy : ev n l y = some v) :
    (execOp (fr n l ds).eval ⟨some d, .pick x y z, ty, pos, aft, g⟩).run P w = .ok (.value v) w := by
  simp [execOp, ev_eval hx, ev_eval hy, asBool, hb]
theorem r_pickF {b : Bool} (hb : b = false) (hx : ev n l x = some (.bool b)) (hz : ev n l z = some v) :
    (execOp (fr n l ds).eval ⟨some d, .pick x y z, ty, pos, aft, g⟩).run P w = .ok (.value v) w := by
  simp [execOp, ev_eval hx, ev_eval hz, asBool, hb]
theorem r_index {t : TypeId} {k : IntKind} {s : Bs} {i : Int} (hu : P.underlying t = some .string) (hi : decide (0 ≤ i ∧ i < s.length) = true) (hx : ev n l x = some (.string (mk s))) (hy : ev n l y = some (.int k i)) :
    (execOp (fr n l ds).eval ⟨some d, .index t x y, ty, pos, aft, g⟩).run P w = .ok (.value (.int .u8 (bat s i))) w := by
  have hi' := of_decide_eq_true hi
  have h1 : i.toNat < s.length := by omega
  have h2 : (mk s)[i.toNat]? = some s[i.toNat] := by
    show (if h : i.toNat < (mk s).size then some ((mk s)[i.toNat]'h) else none) = _
    rw [dif_pos (show i.toNat < (mk s).size from h1)]; rfl
  simp only [execOp, ev_eval hx, ev_eval hy, Instr.index, asIntOf, Sem.run_bind, Sem.run_pure, Result.andThen_ok, run_underlying hu, hi'.1, if_true, h2]
  simp [bat, h1]
theorem run_bound {k : IntKind} {i : Int} {y : Nat} {c : BoundsCode} (h0 : 0 ≤ i) (h1 : i ≤ (y : Int)) : (Instr.sliceBound (.int k i) y c).run P w = .ok i.toNat w := by
  simp [Instr.sliceBound, asIntOf, h0, h1]
theorem r_slices {t : TypeId} {s : Bs} {lo hi : Option Operand} {a b : Int} (hu : P.underlying t = some .string) (hb : decide (0 ≤ a ∧ a ≤ b ∧ b ≤ s.length) = true) (hx : ev n l x = some (.string (mk s)))
    (hlo : (∃ o k, lo = some o ∧ ev n l o = some (.int k a)) ∨ (lo = none ∧ a = 0)) (hhi : (∃ o k, hi = some o ∧ ev n l o = some (.int k b)) ∨ (hi = none ∧ b = s.length)) :
    (execOp (fr n l ds).eval ⟨some d, .slice t x lo hi none, ty, pos, aft, g⟩).run P w = .ok (.value (.string (mk ((s.take b.toNat).drop a.toNat)))) w := by
  have hb' := of_decide_eq_true hb
  have hex : (mk s).extract a.toNat b.toNat = mk ((s.take b.toNat).drop a.toNat) := by
    apply ByteArray.ext
    apply Array.ext'
    simp [List.drop_take]
  have hu' : ∀ w, (underlying t).run P w = .ok .string w := fun w => run_underlying hu w
  have hH : (Instr.sliceBounds false (mk s).size (mk s).size (lo.map (fr n l ds).eval) (hi.map (fr n l ds).eval) none).run P w = .ok (a.toNat, b.toNat, (mk s).size) w := by
    have h1 : 0 ≤ b ∧ b ≤ ((mk s).size : Int) := ⟨by omega, by rw [size_mk]; omega⟩
    have h2 : 0 ≤ a ∧ a ≤ (b.toNat : Int) := ⟨by omega, by omega⟩
    have hz : ((mk s).size : Int) = (s.length : Int) := rfl
    rcases hlo with ⟨o, k, rfl, ho⟩ | ⟨rfl, rfl⟩ <;> rcases hhi with ⟨o', k', rfl, ho'⟩ | ⟨rfl, rfl⟩
    · simp only [Instr.sliceBounds, Option.map_some, ev_eval ho, ev_eval ho', Sem.run_bind, Sem.run_pure, Result.andThen_ok, Bool.false_eq_true, if_false, run_bound h1.1 h1.2, run_bound h2.1 h2.2, Option.isSome_none]
    · simp only [Instr.sliceBounds, Option.map_some, Option.map_none, ev_eval ho, Sem.run_bind, Sem.run_pure, Result.andThen_ok, Bool.false_eq_true, if_false, run_bound hb'.1 hb'.2.1, Option.isSome_none, Int.toNat_natCast, size_mk]
    · simp only [Instr.sliceBounds, Option.map_some, Option.map_none, ev_eval ho', Sem.run_bind, Sem.run_pure, Result.andThen_ok, Bool.false_eq_true, if_false, run_bound h1.1 h1.2, Int.toNat_zero]
    · simp only [Instr.sliceBounds, Option.map_none, Sem.run_bind, Sem.run_pure, Result.andThen_ok, Int.toNat_zero, Int.toNat_natCast, size_mk]
  simp only [execOp, ev_eval hx, Instr.sliceAt, Sem.run_bind, hu', Result.andThen_ok, Instr.slice, Option.map_none, Option.isSome_none, Bool.false_eq_true, if_false, hH, hex, Sem.run_pure]
end

end Go.Proofs.YtcjphpenelnohaaGreatDoor
/- Closed facts on types and functions (by tools/facts.py). -/
namespace Go.Proofs.YtcjphpenelnohaaGreatDoor
theorem sc_3 : Sc Tryz.prog 3 := sc_of (by kernel_rfl)
theorem sc_4 : Sc Tryz.prog 4 := sc_of (by kernel_rfl)
theorem sc_5 : Sc Tryz.prog 5 := sc_of (by kernel_rfl)
theorem sc_9 : Sc Tryz.prog 9 := sc_of (by kernel_rfl)
theorem sc_20 : Sc Tryz.prog 20 := sc_of (by kernel_rfl)
theorem sc_21 : Sc Tryz.prog 21 := sc_of (by kernel_rfl)
theorem sc_27 : Sc Tryz.prog 27 := sc_of (by kernel_rfl)
theorem sc_30 : Sc Tryz.prog 30 := sc_of (by kernel_rfl)
theorem sc_37 : Sc Tryz.prog 37 := sc_of (by kernel_rfl)
theorem sc_39 : Sc Tryz.prog 39 := sc_of (by kernel_rfl)
theorem sc_51 : Sc Tryz.prog 51 := sc_of (by kernel_rfl)
theorem sc_85 : Sc Tryz.prog 85 := sc_of (by kernel_rfl)
theorem sc_87 : Sc Tryz.prog 87 := sc_of (by kernel_rfl)
theorem sc_113 : Sc Tryz.prog 113 := sc_of (by kernel_rfl)
theorem sc_125 : Sc Tryz.prog 125 := sc_of (by kernel_rfl)
theorem sc_128 : Sc Tryz.prog 128 := sc_of (by kernel_rfl)
theorem sc_137 : Sc Tryz.prog 137 := sc_of (by kernel_rfl)
theorem sc_152 : Sc Tryz.prog 152 := sc_of (by kernel_rfl)
theorem sc_153 : Sc Tryz.prog 153 := sc_of (by kernel_rfl)
theorem sc_162 : Sc Tryz.prog 162 := sc_of (by kernel_rfl)
theorem sc_173 : Sc Tryz.prog 173 := sc_of (by kernel_rfl)
theorem sc_178 : Sc Tryz.prog 178 := sc_of (by kernel_rfl)
theorem sc_189 : Sc Tryz.prog 189 := sc_of (by kernel_rfl)
theorem sc_199 : Sc Tryz.prog 199 := sc_of (by kernel_rfl)
theorem sc_203 : Sc Tryz.prog 203 := sc_of (by kernel_rfl)
theorem sc_239 : Sc Tryz.prog 239 := sc_of (by kernel_rfl)
theorem sc_247 : Sc Tryz.prog 247 := sc_of (by kernel_rfl)
theorem sc_261 : Sc Tryz.prog 261 := sc_of (by kernel_rfl)
theorem sc_272 : Sc Tryz.prog 272 := sc_of (by kernel_rfl)
theorem sc_320 : Sc Tryz.prog 320 := sc_of (by kernel_rfl)
theorem sc_464 : Sc Tryz.prog 464 := sc_of (by kernel_rfl)
theorem ag_33 : Ag Tryz.prog 33 1 := ag_of (by kernel_rfl)
theorem ag_35 : Ag Tryz.prog 35 2 := ag_of (by kernel_rfl)
theorem ag_41 : Ag Tryz.prog 41 6 := ag_of (by kernel_rfl)
theorem ag_50 : Ag Tryz.prog 50 4 := ag_of (by kernel_rfl)
theorem ag_53 : Ag Tryz.prog 53 5 := ag_of (by kernel_rfl)
theorem ag_70 : Ag Tryz.prog 70 4 := ag_of (by kernel_rfl)
theorem ag_77 : Ag Tryz.prog 77 2 := ag_of (by kernel_rfl)
theorem ag_89 : Ag Tryz.prog 89 10 := ag_of (by kernel_rfl)
theorem ag_97 : Ag Tryz.prog 97 8 := ag_of (by kernel_rfl)
theorem ag_115 : Ag Tryz.prog 115 5 := ag_of (by kernel_rfl)
theorem ag_155 : Ag Tryz.prog 155 3 := ag_of (by kernel_rfl)
theorem ag_164 : Ag Tryz.prog 164 1 := ag_of (by kernel_rfl)
theorem ag_166 : Ag Tryz.prog 166 2 := ag_of (by kernel_rfl)
theorem ag_186 : Ag Tryz.prog 186 7 := ag_of (by kernel_rfl)
theorem ag_191 : Ag Tryz.prog 191 2 := ag_of (by kernel_rfl)
theorem ag_201 : Ag Tryz.prog 201 2 := ag_of (by kernel_rfl)
theorem ag_220 : Ag Tryz.prog 220 2 := ag_of (by kernel_rfl)
theorem ag_241 : Ag Tryz.prog 241 7 := ag_of (by kernel_rfl)
theorem ag_251 : Ag Tryz.prog 251 4 := ag_of (by kernel_rfl)
theorem ag_256 : Ag Tryz.prog 256 2 := ag_of (by kernel_rfl)
theorem ag_263 : Ag Tryz.prog 263 2 := ag_of (by kernel_rfl)
theorem ag_271 : Ag Tryz.prog 271 2 := ag_of (by kernel_rfl)
theorem ag_276 : Ag Tryz.prog 276 4 := ag_of (by kernel_rfl)
theorem ag_317 : Ag Tryz.prog 317 5 := ag_of (by kernel_rfl)
theorem ag_322 : Ag Tryz.prog 322 4 := ag_of (by kernel_rfl)
theorem ag_328 : Ag Tryz.prog 328 4 := ag_of (by kernel_rfl)
theorem ag_339 : Ag Tryz.prog 339 2 := ag_of (by kernel_rfl)
theorem ag_436 : Ag Tryz.prog 436 24 := ag_of (by kernel_rfl)
theorem ag_445 : Ag Tryz.prog 445 3 := ag_of (by kernel_rfl)
theorem ag_457 : Ag Tryz.prog 457 3 := ag_of (by kernel_rfl)
theorem ag_473 : Ag Tryz.prog 473 65 := ag_of (by kernel_rfl)
theorem ag_479 : Ag Tryz.prog 479 1 := ag_of (by kernel_rfl)
theorem ag_487 : Ag Tryz.prog 487 2 := ag_of (by kernel_rfl)
theorem ze_3 : Ze Tryz.prog 3 (.int .i64 0) := ze_of (by kernel_rfl)
theorem ze_4 : Ze Tryz.prog 4 (.bool false) := ze_of (by kernel_rfl)
theorem ze_5 : Ze Tryz.prog 5 (.int .u8 0) := ze_of (by kernel_rfl)
theorem ze_9 : Ze Tryz.prog 9 (.string (mk [])) := ze_of (by kernel_rfl)
theorem ze_27 : Ze Tryz.prog 27 (.int .i64 0) := ze_of (by kernel_rfl)
theorem ze_30 : Ze Tryz.prog 30 (.slice none 0 0) := ze_of (by kernel_rfl)
theorem ze_33 : Ze Tryz.prog 33 (.agg #[.nilIface]) := ze_of (by kernel_rfl)
theorem ze_35 : Ze Tryz.prog 35 (.agg #[.int .i64 0, .string (mk [])]) := ze_of (by kernel_rfl)
theorem ze_37 : Ze Tryz.prog 37 (.slice none 0 0) := ze_of (by kernel_rfl)
theorem ze_39 : Ze Tryz.prog 39 (.pointer none) := ze_of (by kernel_rfl)
theorem ze_41 : Ze Tryz.prog 41 (.agg #[.string (mk []), .pointer none, .bool false, .bool false, .bool false, .bool false]) := ze_of (by kernel_rfl)
theorem ze_50 : Ze Tryz.prog 50 (.agg #[.string (mk []), .string (mk []), .string (mk []), .int .i64 0]) := ze_of (by kernel_rfl)
theorem ze_51 : Ze Tryz.prog 51 (.slice none 0 0) := ze_of (by kernel_rfl)
theorem ze_53 : Ze Tryz.prog 53 (.agg #[.string (mk []), .string (mk []), .string (mk []), .int .i64 0, .slice none 0 0]) := ze_of (by kernel_rfl)
theorem ze_70 : Ze Tryz.prog 70 (.agg #[.int .i64 0, .int .i64 0, .int .i64 0, .int .i64 0]) := ze_of (by kernel_rfl)
theorem ze_77 : Ze Tryz.prog 77 (.agg #[.bool false, .int .i32 0]) := ze_of (by kernel_rfl)
theorem ze_85 : Ze Tryz.prog 85 (.pointer none) := ze_of (by kernel_rfl)
theorem ze_87 : Ze Tryz.prog 87 (.slice none 0 0) := ze_of (by kernel_rfl)
theorem ze_89 : Ze Tryz.prog 89 (.agg #[.bool false, .string (mk []), .string (mk []), .string (mk []), .string (mk []), .int .i64 0, .int .i64 0, .string (mk []), .slice none 0 0, .slice none 0 0]) := ze_of (by kernel_rfl)
theorem ze_97 : Ze Tryz.prog 97 (.agg #[.string (mk []), .string (mk []), .string (mk []), .int .i64 0, .int .i64 0, .nilIface, .slice none 0 0, .slice none 0 0]) := ze_of (by kernel_rfl)
theorem ze_113 : Ze Tryz.prog 113 (.slice none 0 0) := ze_of (by kernel_rfl)
theorem ze_115 : Ze Tryz.prog 115 (.agg #[.slice none 0 0, .nilIface, .nilIface, .bool false, .bool false]) := ze_of (by kernel_rfl)
theorem ze_128 : Ze Tryz.prog 128 (.int .u64 0) := ze_of (by kernel_rfl)
theorem ze_155 : Ze Tryz.prog 155 (.agg #[.int .i64 0, .slice none 0 0, .map none]) := ze_of (by kernel_rfl)
theorem ze_164 : Ze Tryz.prog 164 (.agg #[.slice none 0 0]) := ze_of (by kernel_rfl)
theorem ze_166 : Ze Tryz.prog 166 (.agg #[.slice none 0 0, .pointer none]) := ze_of (by kernel_rfl)
theorem ze_169 : Ze Tryz.prog 169 (.agg #[]) := ze_of (by kernel_rfl)
theorem ze_170 : Ze Tryz.prog 170 (.complex .f64 0 0) := ze_of (by kernel_rfl)
theorem ze_171 : Ze Tryz.prog 171 (.slice none 0 0) := ze_of (by kernel_rfl)
theorem ze_173 : Ze Tryz.prog 173 (.map none) := ze_of (by kernel_rfl)
theorem ze_186 : Ze Tryz.prog 186 (.agg #[.int .i64 0, .int .i64 0, .int .i64 0, .int .i64 0, .int .i64 0, .int .i64 0, .bool false]) := ze_of (by kernel_rfl)
theorem ze_191 : Ze Tryz.prog 191 (.agg #[.map none, .int .i64 0]) := ze_of (by kernel_rfl)
theorem ze_201 : Ze Tryz.prog 201 (.agg #[.pointer none, .slice none 0 0]) := ze_of (by kernel_rfl)
theorem ze_220 : Ze Tryz.prog 220 (.agg #[.string (mk []), .int .i64 0]) := ze_of (by kernel_rfl)
theorem ze_239 : Ze Tryz.prog 239 (.pointer none) := ze_of (by kernel_rfl)
theorem ze_241 : Ze Tryz.prog 241 (.agg #[.pointer none, .string (mk []), .string (mk []), .string (mk []), .int .i64 0, .int .i64 0, .int .i64 0]) := ze_of (by kernel_rfl)
theorem ze_249 : Ze Tryz.prog 249 (.agg #[.string (mk []), .int .i64 0, .int .i64 0]) := ze_of (by kernel_rfl)
theorem ze_251 : Ze Tryz.prog 251 (.agg #[.string (mk []), .int .i64 0, .int .i64 0, .int .i64 0]) := ze_of (by kernel_rfl)
theorem ze_256 : Ze Tryz.prog 256 (.agg #[.slice none 0 0, .bool false]) := ze_of (by kernel_rfl)
theorem ze_263 : Ze Tryz.prog 263 (.agg #[.int .i64 0, .slice none 0 0]) := ze_of (by kernel_rfl)
theorem ze_271 : Ze Tryz.prog 271 (.agg #[.int .i64 0, .slice none 0 0]) := ze_of (by kernel_rfl)
theorem ze_274 : Ze Tryz.prog 274 (.agg #[.string (mk []), .int .i64 0, .int .i64 0]) := ze_of (by kernel_rfl)
theorem ze_276 : Ze Tryz.prog 276 (.agg #[.string (mk []), .int .i64 0, .int .i64 0, .int .i64 0]) := ze_of (by kernel_rfl)
theorem ze_317 : Ze Tryz.prog 317 (.agg #[.string (mk []), .string (mk []), .string (mk []), .string (mk []), .string (mk [])]) := ze_of (by kernel_rfl)
theorem ze_322 : Ze Tryz.prog 322 (.agg #[.int .i64 0, .slice none 0 0, .slice none 0 0, .slice none 0 0]) := ze_of (by kernel_rfl)
theorem ze_328 : Ze Tryz.prog 328 (.agg #[.int .i64 0, .bool false, .int .u64 0, .slice none 0 0]) := ze_of (by kernel_rfl)
theorem ze_339 : Ze Tryz.prog 339 (.agg #[.slice none 0 0, .int .i64 0]) := ze_of (by kernel_rfl)
theorem ze_418 : Ze Tryz.prog 418 (.agg #[.bool false, .bool false, .bool false, .bool false]) := ze_of (by kernel_rfl)
theorem ze_419 : Ze Tryz.prog 419 (.agg #[.string (mk []), .string (mk []), .string (mk []), .string (mk [])]) := ze_of (by kernel_rfl)
theorem ze_436 : Ze Tryz.prog 436 (.agg #[.int .u8 0, .int .u8 0, .int .u8 0, .int .u8 0, .int .u8 0, .int .u8 0, .int .u8 0, .int .u8 0, .int .u8 0, .int .u8 0, .int .u8 0, .int .u8 0, .int .u8 0, .int .u8 0, .int .u8 0, .int .u8 0, .int .u8 0, .int .u8 0, .int .u8 0, .int .u8 0, .int .u8 0, .int .u8 0, .int .u8 0, .int .u8 0]) := ze_of (by kernel_rfl)
theorem ze_445 : Ze Tryz.prog 445 (.agg #[.string (mk []), .int .i64 0, .bool false]) := ze_of (by kernel_rfl)
theorem ze_457 : Ze Tryz.prog 457 (.agg #[.string (mk []), .string (mk []), .nilIface]) := ze_of (by kernel_rfl)
theorem ze_464 : Ze Tryz.prog 464 (.int .u64 0) := ze_of (by kernel_rfl)
theorem ze_473 : Ze Tryz.prog 473 (.agg #[.int .u8 0, .int .u8 0, .int .u8 0, .int .u8 0, .int .u8 0, .int .u8 0, .int .u8 0, .int .u8 0, .int .u8 0, .int .u8 0, .int .u8 0, .int .u8 0, .int .u8 0, .int .u8 0, .int .u8 0, .int .u8 0, .int .u8 0, .int .u8 0, .int .u8 0, .int .u8 0, .int .u8 0, .int .u8 0, .int .u8 0, .int .u8 0, .int .u8 0, .int .u8 0, .int .u8 0, .int .u8 0, .int .u8 0, .int .u8 0, .int .u8 0, .int .u8 0, .int .u8 0, .int .u8 0, .int .u8 0, .int .u8 0, .int .u8 0, .int .u8 0, .int .u8 0, .int .u8 0, .int .u8 0, .int .u8 0, .int .u8 0, .int .u8 0, .int .u8 0, .int .u8 0, .int .u8 0, .int .u8 0, .int .u8 0, .int .u8 0, .int .u8 0, .int .u8 0, .int .u8 0, .int .u8 0, .int .u8 0, .int .u8 0, .int .u8 0, .int .u8 0, .int .u8 0, .int .u8 0, .int .u8 0, .int .u8 0, .int .u8 0, .int .u8 0, .int .u8 0]) := ze_of (by kernel_rfl)
theorem ze_479 : Ze Tryz.prog 479 (.agg #[.string (mk [])]) := ze_of (by kernel_rfl)
theorem ze_487 : Ze Tryz.prog 487 (.agg #[.int .u8 0, .int .u8 0]) := ze_of (by kernel_rfl)
theorem fl_33_0 : Fl Tryz.prog 33 0 0 := fl_of (by kernel_rfl)
theorem fl_35_0 : Fl Tryz.prog 35 0 0 := fl_of (by kernel_rfl)
theorem fl_35_1 : Fl Tryz.prog 35 1 1 := fl_of (by kernel_rfl)
theorem fl_41_0 : Fl Tryz.prog 41 0 0 := fl_of (by kernel_rfl)
theorem fl_41_1 : Fl Tryz.prog 41 1 1 := fl_of (by kernel_rfl)
theorem fl_41_2 : Fl Tryz.prog 41 2 2 := fl_of (by kernel_rfl)
theorem fl_41_3 : Fl Tryz.prog 41 3 3 := fl_of (by kernel_rfl)
theorem fl_41_4 : Fl Tryz.prog 41 4 4 := fl_of (by kernel_rfl)
theorem fl_41_5 : Fl Tryz.prog 41 5 5 := fl_of (by kernel_rfl)
theorem fl_50_0 : Fl Tryz.prog 50 0 0 := fl_of (by kernel_rfl)
theorem fl_50_1 : Fl Tryz.prog 50 1 1 := fl_of (by kernel_rfl)
theorem fl_50_2 : Fl Tryz.prog 50 2 2 := fl_of (by kernel_rfl)
theorem fl_50_3 : Fl Tryz.prog 50 3 3 := fl_of (by kernel_rfl)
theorem fl_53_0 : Fl Tryz.prog 53 0 0 := fl_of (by kernel_rfl)
theorem fl_53_1 : Fl Tryz.prog 53 1 4 := fl_of (by kernel_rfl)
theorem fl_70_0 : Fl Tryz.prog 70 0 0 := fl_of (by kernel_rfl)
theorem fl_70_1 : Fl Tryz.prog 70 1 1 := fl_of (by kernel_rfl)
theorem fl_70_2 : Fl Tryz.prog 70 2 2 := fl_of (by kernel_rfl)
theorem fl_70_3 : Fl Tryz.prog 70 3 3 := fl_of (by kernel_rfl)
theorem fl_77_0 : Fl Tryz.prog 77 0 0 := fl_of (by kernel_rfl)
theorem fl_77_1 : Fl Tryz.prog 77 1 1 := fl_of (by kernel_rfl)
theorem fl_89_0 : Fl Tryz.prog 89 0 0 := fl_of (by kernel_rfl)
theorem fl_89_1 : Fl Tryz.prog 89 1 1 := fl_of (by kernel_rfl)
theorem fl_89_2 : Fl Tryz.prog 89 2 2 := fl_of (by kernel_rfl)
theorem fl_89_3 : Fl Tryz.prog 89 3 6 := fl_of (by kernel_rfl)
theorem fl_89_4 : Fl Tryz.prog 89 4 7 := fl_of (by kernel_rfl)
theorem fl_89_5 : Fl Tryz.prog 89 5 8 := fl_of (by kernel_rfl)
theorem fl_89_6 : Fl Tryz.prog 89 6 9 := fl_of (by kernel_rfl)
theorem fl_97_0 : Fl Tryz.prog 97 0 0 := fl_of (by kernel_rfl)
theorem fl_97_1 : Fl Tryz.prog 97 1 4 := fl_of (by kernel_rfl)
theorem fl_97_2 : Fl Tryz.prog 97 2 5 := fl_of (by kernel_rfl)
theorem fl_97_3 : Fl Tryz.prog 97 3 6 := fl_of (by kernel_rfl)
theorem fl_97_4 : Fl Tryz.prog 97 4 7 := fl_of (by kernel_rfl)
theorem fl_115_0 : Fl Tryz.prog 115 0 0 := fl_of (by kernel_rfl)
theorem fl_115_1 : Fl Tryz.prog 115 1 1 := fl_of (by kernel_rfl)
theorem fl_115_2 : Fl Tryz.prog 115 2 2 := fl_of (by kernel_rfl)
theorem fl_115_3 : Fl Tryz.prog 115 3 3 := fl_of (by kernel_rfl)
theorem fl_115_4 : Fl Tryz.prog 115 4 4 := fl_of (by kernel_rfl)
theorem fl_155_0 : Fl Tryz.prog 155 0 0 := fl_of (by kernel_rfl)
theorem fl_155_1 : Fl Tryz.prog 155 1 1 := fl_of (by kernel_rfl)
theorem fl_155_2 : Fl Tryz.prog 155 2 2 := fl_of (by kernel_rfl)
theorem fl_164_0 : Fl Tryz.prog 164 0 0 := fl_of (by kernel_rfl)
theorem fl_166_0 : Fl Tryz.prog 166 0 0 := fl_of (by kernel_rfl)
theorem fl_166_1 : Fl Tryz.prog 166 1 1 := fl_of (by kernel_rfl)
theorem fl_186_0 : Fl Tryz.prog 186 0 0 := fl_of (by kernel_rfl)
theorem fl_186_1 : Fl Tryz.prog 186 1 4 := fl_of (by kernel_rfl)
theorem fl_186_2 : Fl Tryz.prog 186 2 5 := fl_of (by kernel_rfl)
theorem fl_186_3 : Fl Tryz.prog 186 3 6 := fl_of (by kernel_rfl)
theorem fl_191_0 : Fl Tryz.prog 191 0 0 := fl_of (by kernel_rfl)
theorem fl_191_1 : Fl Tryz.prog 191 1 1 := fl_of (by kernel_rfl)
theorem fl_201_0 : Fl Tryz.prog 201 0 0 := fl_of (by kernel_rfl)
theorem fl_201_1 : Fl Tryz.prog 201 1 1 := fl_of (by kernel_rfl)
theorem fl_220_0 : Fl Tryz.prog 220 0 0 := fl_of (by kernel_rfl)
theorem fl_220_1 : Fl Tryz.prog 220 1 1 := fl_of (by kernel_rfl)
theorem fl_241_0 : Fl Tryz.prog 241 0 0 := fl_of (by kernel_rfl)
theorem fl_241_1 : Fl Tryz.prog 241 1 1 := fl_of (by kernel_rfl)
theorem fl_241_2 : Fl Tryz.prog 241 2 5 := fl_of (by kernel_rfl)
theorem fl_241_3 : Fl Tryz.prog 241 3 6 := fl_of (by kernel_rfl)
theorem fl_249_0 : Fl Tryz.prog 249 0 0 := fl_of (by kernel_rfl)
theorem fl_249_1 : Fl Tryz.prog 249 1 1 := fl_of (by kernel_rfl)
theorem fl_249_2 : Fl Tryz.prog 249 2 2 := fl_of (by kernel_rfl)
theorem fl_251_0 : Fl Tryz.prog 251 0 0 := fl_of (by kernel_rfl)
theorem fl_251_1 : Fl Tryz.prog 251 1 3 := fl_of (by kernel_rfl)
theorem fl_256_0 : Fl Tryz.prog 256 0 0 := fl_of (by kernel_rfl)
theorem fl_256_1 : Fl Tryz.prog 256 1 1 := fl_of (by kernel_rfl)
theorem fl_260_0 : Fl Tryz.prog 260 0 0 := fl_of (by kernel_rfl)
theorem fl_263_0 : Fl Tryz.prog 263 0 0 := fl_of (by kernel_rfl)
theorem fl_263_1 : Fl Tryz.prog 263 1 1 := fl_of (by kernel_rfl)
theorem fl_271_0 : Fl Tryz.prog 271 0 0 := fl_of (by kernel_rfl)
theorem fl_271_1 : Fl Tryz.prog 271 1 1 := fl_of (by kernel_rfl)
theorem fl_274_0 : Fl Tryz.prog 274 0 0 := fl_of (by kernel_rfl)
theorem fl_274_1 : Fl Tryz.prog 274 1 1 := fl_of (by kernel_rfl)
theorem fl_274_2 : Fl Tryz.prog 274 2 2 := fl_of (by kernel_rfl)
theorem fl_276_0 : Fl Tryz.prog 276 0 0 := fl_of (by kernel_rfl)
theorem fl_276_1 : Fl Tryz.prog 276 1 3 := fl_of (by kernel_rfl)
theorem fl_322_0 : Fl Tryz.prog 322 0 0 := fl_of (by kernel_rfl)
theorem fl_322_1 : Fl Tryz.prog 322 1 1 := fl_of (by kernel_rfl)
theorem fl_322_2 : Fl Tryz.prog 322 2 2 := fl_of (by kernel_rfl)
theorem fl_322_3 : Fl Tryz.prog 322 3 3 := fl_of (by kernel_rfl)
theorem fl_328_0 : Fl Tryz.prog 328 0 0 := fl_of (by kernel_rfl)
theorem fl_328_1 : Fl Tryz.prog 328 1 1 := fl_of (by kernel_rfl)
theorem fl_328_2 : Fl Tryz.prog 328 2 2 := fl_of (by kernel_rfl)
theorem fl_328_3 : Fl Tryz.prog 328 3 3 := fl_of (by kernel_rfl)
theorem fl_339_0 : Fl Tryz.prog 339 0 0 := fl_of (by kernel_rfl)
theorem fl_339_1 : Fl Tryz.prog 339 1 1 := fl_of (by kernel_rfl)
theorem fl_445_0 : Fl Tryz.prog 445 0 0 := fl_of (by kernel_rfl)
theorem fl_445_1 : Fl Tryz.prog 445 1 1 := fl_of (by kernel_rfl)
theorem fl_445_2 : Fl Tryz.prog 445 2 2 := fl_of (by kernel_rfl)
theorem fl_457_0 : Fl Tryz.prog 457 0 0 := fl_of (by kernel_rfl)
theorem fl_457_1 : Fl Tryz.prog 457 1 1 := fl_of (by kernel_rfl)
theorem fl_457_2 : Fl Tryz.prog 457 2 2 := fl_of (by kernel_rfl)
theorem fl_479_0 : Fl Tryz.prog 479 0 0 := fl_of (by kernel_rfl)
theorem fl_487_0 : Fl Tryz.prog 487 0 0 := fl_of (by kernel_rfl)
theorem fl_487_1 : Fl Tryz.prog 487 1 1 := fl_of (by kernel_rfl)
theorem fn_2 : Fn Tryz.prog 2 := fun _ _ => by kernel_rfl
theorem fn_3 : Fn Tryz.prog 3 := fun _ _ => by kernel_rfl
theorem fn_4 : Fn Tryz.prog 4 := fun _ _ => by kernel_rfl
theorem fn_5 : Fn Tryz.prog 5 := fun _ _ => by kernel_rfl
theorem fn_6 : Fn Tryz.prog 6 := fun _ _ => by kernel_rfl
theorem fn_7 : Fn Tryz.prog 7 := fun _ _ => by kernel_rfl
theorem fn_8 : Fn Tryz.prog 8 := fun _ _ => by kernel_rfl
theorem fn_9 : Fn Tryz.prog 9 := fun _ _ => by kernel_rfl
theorem fn_10 : Fn Tryz.prog 10 := fun _ _ => by kernel_rfl
theorem fn_11 : Fn Tryz.prog 11 := fun _ _ => by kernel_rfl
theorem fn_12 : Fn Tryz.prog 12 := fun _ _ => by kernel_rfl
theorem fn_13 : Fn Tryz.prog 13 := fun _ _ => by kernel_rfl
theorem fn_14 : Fn Tryz.prog 14 := fun _ _ => by kernel_rfl
theorem fn_15 : Fn Tryz.prog 15 := fun _ _ => by kernel_rfl
theorem fn_16 : Fn Tryz.prog 16 := fun _ _ => by kernel_rfl
theorem fn_17 : Fn Tryz.prog 17 := fun _ _ => by kernel_rfl
theorem fn_18 : Fn Tryz.prog 18 := fun _ _ => by kernel_rfl
theorem fn_19 : Fn Tryz.prog 19 := fun _ _ => by kernel_rfl
theorem fn_20 : Fn Tryz.prog 20 := fun _ _ => by kernel_rfl
theorem fn_21 : Fn Tryz.prog 21 := fun _ _ => by kernel_rfl
theorem fn_22 : Fn Tryz.prog 22 := fun _ _ => by kernel_rfl
theorem fn_23 : Fn Tryz.prog 23 := fun _ _ => by kernel_rfl
theorem fn_24 : Fn Tryz.prog 24 := fun _ _ => by kernel_rfl
theorem fn_25 : Fn Tryz.prog 25 := fun _ _ => by kernel_rfl
theorem fn_26 : Fn Tryz.prog 26 := fun _ _ => by kernel_rfl
theorem fn_27 : Fn Tryz.prog 27 := fun _ _ => by kernel_rfl
theorem fn_28 : Fn Tryz.prog 28 := fun _ _ => by kernel_rfl
theorem fn_29 : Fn Tryz.prog 29 := fun _ _ => by kernel_rfl
theorem fn_30 : Fn Tryz.prog 30 := fun _ _ => by kernel_rfl
theorem fn_31 : Fn Tryz.prog 31 := fun _ _ => by kernel_rfl
theorem fn_32 : Fn Tryz.prog 32 := fun _ _ => by kernel_rfl
theorem fn_33 : Fn Tryz.prog 33 := fun _ _ => by kernel_rfl
theorem fn_34 : Fn Tryz.prog 34 := fun _ _ => by kernel_rfl
theorem fn_35 : Fn Tryz.prog 35 := fun _ _ => by kernel_rfl
theorem fn_36 : Fn Tryz.prog 36 := fun _ _ => by kernel_rfl
theorem fn_37 : Fn Tryz.prog 37 := fun _ _ => by kernel_rfl
theorem fn_38 : Fn Tryz.prog 38 := fun _ _ => by kernel_rfl
theorem fn_39 : Fn Tryz.prog 39 := fun _ _ => by kernel_rfl
theorem fn_40 : Fn Tryz.prog 40 := fun _ _ => by kernel_rfl
theorem fn_41 : Fn Tryz.prog 41 := fun _ _ => by kernel_rfl
theorem fn_42 : Fn Tryz.prog 42 := fun _ _ => by kernel_rfl
theorem fn_43 : Fn Tryz.prog 43 := fun _ _ => by kernel_rfl
theorem fn_44 : Fn Tryz.prog 44 := fun _ _ => by kernel_rfl
theorem fn_45 : Fn Tryz.prog 45 := fun _ _ => by kernel_rfl
theorem fn_46 : Fn Tryz.prog 46 := fun _ _ => by kernel_rfl
theorem fn_47 : Fn Tryz.prog 47 := fun _ _ => by kernel_rfl
theorem fn_48 : Fn Tryz.prog 48 := fun _ _ => by kernel_rfl
theorem fn_49 : Fn Tryz.prog 49 := fun _ _ => by kernel_rfl
theorem fn_50 : Fn Tryz.prog 50 := fun _ _ => by kernel_rfl
theorem fn_51 : Fn Tryz.prog 51 := fun _ _ => by kernel_rfl
theorem fn_52 : Fn Tryz.prog 52 := fun _ _ => by kernel_rfl
theorem fn_53 : Fn Tryz.prog 53 := fun _ _ => by kernel_rfl
theorem fn_54 : Fn Tryz.prog 54 := fun _ _ => by kernel_rfl
theorem fn_55 : Fn Tryz.prog 55 := fun _ _ => by kernel_rfl
theorem fn_56 : Fn Tryz.prog 56 := fun _ _ => by kernel_rfl
theorem fn_57 : Fn Tryz.prog 57 := fun _ _ => by kernel_rfl
theorem fn_58 : Fn Tryz.prog 58 := fun _ _ => by kernel_rfl
theorem fn_59 : Fn Tryz.prog 59 := fun _ _ => by kernel_rfl
theorem fn_60 : Fn Tryz.prog 60 := fun _ _ => by kernel_rfl
theorem fn_61 : Fn Tryz.prog 61 := fun _ _ => by kernel_rfl
theorem fn_62 : Fn Tryz.prog 62 := fun _ _ => by kernel_rfl
theorem fn_63 : Fn Tryz.prog 63 := fun _ _ => by kernel_rfl
theorem fn_64 : Fn Tryz.prog 64 := fun _ _ => by kernel_rfl
theorem fn_65 : Fn Tryz.prog 65 := fun _ _ => by kernel_rfl
theorem fn_66 : Fn Tryz.prog 66 := fun _ _ => by kernel_rfl
theorem fn_67 : Fn Tryz.prog 67 := fun _ _ => by kernel_rfl
theorem fn_68 : Fn Tryz.prog 68 := fun _ _ => by kernel_rfl
theorem fn_69 : Fn Tryz.prog 69 := fun _ _ => by kernel_rfl
theorem fn_70 : Fn Tryz.prog 70 := fun _ _ => by kernel_rfl
theorem fn_71 : Fn Tryz.prog 71 := fun _ _ => by kernel_rfl
theorem fn_72 : Fn Tryz.prog 72 := fun _ _ => by kernel_rfl
theorem fn_73 : Fn Tryz.prog 73 := fun _ _ => by kernel_rfl
theorem fn_74 : Fn Tryz.prog 74 := fun _ _ => by kernel_rfl
theorem fn_75 : Fn Tryz.prog 75 := fun _ _ => by kernel_rfl
theorem fn_76 : Fn Tryz.prog 76 := fun _ _ => by kernel_rfl
theorem fn_77 : Fn Tryz.prog 77 := fun _ _ => by kernel_rfl
theorem fn_78 : Fn Tryz.prog 78 := fun _ _ => by kernel_rfl
theorem fn_79 : Fn Tryz.prog 79 := fun _ _ => by kernel_rfl
theorem fn_80 : Fn Tryz.prog 80 := fun _ _ => by kernel_rfl
theorem fn_81 : Fn Tryz.prog 81 := fun _ _ => by kernel_rfl
theorem fn_82 : Fn Tryz.prog 82 := fun _ _ => by kernel_rfl
theorem fn_83 : Fn Tryz.prog 83 := fun _ _ => by kernel_rfl
theorem fn_84 : Fn Tryz.prog 84 := fun _ _ => by kernel_rfl
theorem fn_85 : Fn Tryz.prog 85 := fun _ _ => by kernel_rfl
theorem fn_86 : Fn Tryz.prog 86 := fun _ _ => by kernel_rfl
theorem fn_87 : Fn Tryz.prog 87 := fun _ _ => by kernel_rfl
theorem fn_88 : Fn Tryz.prog 88 := fun _ _ => by kernel_rfl
theorem fn_89 : Fn Tryz.prog 89 := fun _ _ => by kernel_rfl
theorem fn_90 : Fn Tryz.prog 90 := fun _ _ => by kernel_rfl
theorem fn_91 : Fn Tryz.prog 91 := fun _ _ => by kernel_rfl
theorem fn_92 : Fn Tryz.prog 92 := fun _ _ => by kernel_rfl
theorem fn_93 : Fn Tryz.prog 93 := fun _ _ => by kernel_rfl
theorem fn_94 : Fn Tryz.prog 94 := fun _ _ => by kernel_rfl
theorem fn_95 : Fn Tryz.prog 95 := fun _ _ => by kernel_rfl
theorem fn_96 : Fn Tryz.prog 96 := fun _ _ => by kernel_rfl
theorem fn_97 : Fn Tryz.prog 97 := fun _ _ => by kernel_rfl
theorem fn_98 : Fn Tryz.prog 98 := fun _ _ => by kernel_rfl
theorem fn_99 : Fn Tryz.prog 99 := fun _ _ => by kernel_rfl
theorem fn_100 : Fn Tryz.prog 100 := fun _ _ => by kernel_rfl
theorem fn_101 : Fn Tryz.prog 101 := fun _ _ => by kernel_rfl
theorem fn_102 : Fn Tryz.prog 102 := fun _ _ => by kernel_rfl
theorem fn_103 : Fn Tryz.prog 103 := fun _ _ => by kernel_rfl
theorem fn_104 : Fn Tryz.prog 104 := fun _ _ => by kernel_rfl
theorem fn_105 : Fn Tryz.prog 105 := fun _ _ => by kernel_rfl
theorem fn_106 : Fn Tryz.prog 106 := fun _ _ => by kernel_rfl
theorem fn_107 : Fn Tryz.prog 107 := fun _ _ => by kernel_rfl
theorem fn_108 : Fn Tryz.prog 108 := fun _ _ => by kernel_rfl
theorem fn_109 : Fn Tryz.prog 109 := fun _ _ => by kernel_rfl
theorem fn_110 : Fn Tryz.prog 110 := fun _ _ => by kernel_rfl
theorem fn_111 : Fn Tryz.prog 111 := fun _ _ => by kernel_rfl
theorem fn_112 : Fn Tryz.prog 112 := fun _ _ => by kernel_rfl
theorem fn_113 : Fn Tryz.prog 113 := fun _ _ => by kernel_rfl
theorem fn_114 : Fn Tryz.prog 114 := fun _ _ => by kernel_rfl
theorem fn_115 : Fn Tryz.prog 115 := fun _ _ => by kernel_rfl
theorem fn_116 : Fn Tryz.prog 116 := fun _ _ => by kernel_rfl
theorem fn_117 : Fn Tryz.prog 117 := fun _ _ => by kernel_rfl
theorem fn_118 : Fn Tryz.prog 118 := fun _ _ => by kernel_rfl
theorem fn_119 : Fn Tryz.prog 119 := fun _ _ => by kernel_rfl
theorem fn_120 : Fn Tryz.prog 120 := fun _ _ => by kernel_rfl
theorem fn_121 : Fn Tryz.prog 121 := fun _ _ => by kernel_rfl
theorem fn_122 : Fn Tryz.prog 122 := fun _ _ => by kernel_rfl
theorem fn_123 : Fn Tryz.prog 123 := fun _ _ => by kernel_rfl
theorem fn_124 : Fn Tryz.prog 124 := fun _ _ => by kernel_rfl
theorem fn_125 : Fn Tryz.prog 125 := fun _ _ => by kernel_rfl
theorem fn_126 : Fn Tryz.prog 126 := fun _ _ => by kernel_rfl
theorem fn_127 : Fn Tryz.prog 127 := fun _ _ => by kernel_rfl
theorem fn_128 : Fn Tryz.prog 128 := fun _ _ => by kernel_rfl
theorem fn_129 : Fn Tryz.prog 129 := fun _ _ => by kernel_rfl
theorem fn_130 : Fn Tryz.prog 130 := fun _ _ => by kernel_rfl
theorem fn_131 : Fn Tryz.prog 131 := fun _ _ => by kernel_rfl
theorem fn_132 : Fn Tryz.prog 132 := fun _ _ => by kernel_rfl
theorem fn_133 : Fn Tryz.prog 133 := fun _ _ => by kernel_rfl
theorem fn_134 : Fn Tryz.prog 134 := fun _ _ => by kernel_rfl
theorem fn_135 : Fn Tryz.prog 135 := fun _ _ => by kernel_rfl
theorem fn_136 : Fn Tryz.prog 136 := fun _ _ => by kernel_rfl
theorem fn_137 : Fn Tryz.prog 137 := fun _ _ => by kernel_rfl
theorem fn_138 : Fn Tryz.prog 138 := fun _ _ => by kernel_rfl
theorem fn_139 : Fn Tryz.prog 139 := fun _ _ => by kernel_rfl
theorem fn_140 : Fn Tryz.prog 140 := fun _ _ => by kernel_rfl
theorem fn_141 : Fn Tryz.prog 141 := fun _ _ => by kernel_rfl
theorem fn_142 : Fn Tryz.prog 142 := fun _ _ => by kernel_rfl
theorem fn_143 : Fn Tryz.prog 143 := fun _ _ => by kernel_rfl
theorem fn_144 : Fn Tryz.prog 144 := fun _ _ => by kernel_rfl
theorem fn_145 : Fn Tryz.prog 145 := fun _ _ => by kernel_rfl
theorem fn_146 : Fn Tryz.prog 146 := fun _ _ => by kernel_rfl
theorem fn_147 : Fn Tryz.prog 147 := fun _ _ => by kernel_rfl
theorem fn_148 : Fn Tryz.prog 148 := fun _ _ => by kernel_rfl
theorem fn_149 : Fn Tryz.prog 149 := fun _ _ => by kernel_rfl
theorem fn_150 : Fn Tryz.prog 150 := fun _ _ => by kernel_rfl
theorem fn_151 : Fn Tryz.prog 151 := fun _ _ => by kernel_rfl
theorem fn_152 : Fn Tryz.prog 152 := fun _ _ => by kernel_rfl
theorem fn_153 : Fn Tryz.prog 153 := fun _ _ => by kernel_rfl
theorem fn_154 : Fn Tryz.prog 154 := fun _ _ => by kernel_rfl
theorem fn_155 : Fn Tryz.prog 155 := fun _ _ => by kernel_rfl
theorem fn_156 : Fn Tryz.prog 156 := fun _ _ => by kernel_rfl
theorem fn_157 : Fn Tryz.prog 157 := fun _ _ => by kernel_rfl
theorem fn_158 : Fn Tryz.prog 158 := fun _ _ => by kernel_rfl
theorem fn_159 : Fn Tryz.prog 159 := fun _ _ => by kernel_rfl
theorem fn_160 : Fn Tryz.prog 160 := fun _ _ => by kernel_rfl
theorem fn_161 : Fn Tryz.prog 161 := fun _ _ => by kernel_rfl
theorem fn_162 : Fn Tryz.prog 162 := fun _ _ => by kernel_rfl
theorem fn_163 : Fn Tryz.prog 163 := fun _ _ => by kernel_rfl
theorem fn_164 : Fn Tryz.prog 164 := fun _ _ => by kernel_rfl
theorem fn_165 : Fn Tryz.prog 165 := fun _ _ => by kernel_rfl
theorem fn_166 : Fn Tryz.prog 166 := fun _ _ => by kernel_rfl
theorem fn_167 : Fn Tryz.prog 167 := fun _ _ => by kernel_rfl
theorem fn_168 : Fn Tryz.prog 168 := fun _ _ => by kernel_rfl
theorem fn_169 : Fn Tryz.prog 169 := fun _ _ => by kernel_rfl
theorem fn_170 : Fn Tryz.prog 170 := fun _ _ => by kernel_rfl
theorem fn_171 : Fn Tryz.prog 171 := fun _ _ => by kernel_rfl
theorem fn_172 : Fn Tryz.prog 172 := fun _ _ => by kernel_rfl
theorem fn_173 : Fn Tryz.prog 173 := fun _ _ => by kernel_rfl
theorem fn_174 : Fn Tryz.prog 174 := fun _ _ => by kernel_rfl
theorem fn_175 : Fn Tryz.prog 175 := fun _ _ => by kernel_rfl
theorem fn_176 : Fn Tryz.prog 176 := fun _ _ => by kernel_rfl
theorem fn_177 : Fn Tryz.prog 177 := fun _ _ => by kernel_rfl
theorem fn_178 : Fn Tryz.prog 178 := fun _ _ => by kernel_rfl
theorem fn_179 : Fn Tryz.prog 179 := fun _ _ => by kernel_rfl
theorem fn_180 : Fn Tryz.prog 180 := fun _ _ => by kernel_rfl
theorem fn_181 : Fn Tryz.prog 181 := fun _ _ => by kernel_rfl
theorem fn_182 : Fn Tryz.prog 182 := fun _ _ => by kernel_rfl
theorem fn_183 : Fn Tryz.prog 183 := fun _ _ => by kernel_rfl
theorem fn_184 : Fn Tryz.prog 184 := fun _ _ => by kernel_rfl
theorem fn_185 : Fn Tryz.prog 185 := fun _ _ => by kernel_rfl
theorem fn_186 : Fn Tryz.prog 186 := fun _ _ => by kernel_rfl
theorem fn_187 : Fn Tryz.prog 187 := fun _ _ => by kernel_rfl
theorem fn_188 : Fn Tryz.prog 188 := fun _ _ => by kernel_rfl
theorem fn_189 : Fn Tryz.prog 189 := fun _ _ => by kernel_rfl
theorem fn_190 : Fn Tryz.prog 190 := fun _ _ => by kernel_rfl
theorem fn_191 : Fn Tryz.prog 191 := fun _ _ => by kernel_rfl
theorem fn_192 : Fn Tryz.prog 192 := fun _ _ => by kernel_rfl
theorem fn_193 : Fn Tryz.prog 193 := fun _ _ => by kernel_rfl
theorem fn_194 : Fn Tryz.prog 194 := fun _ _ => by kernel_rfl
theorem fn_195 : Fn Tryz.prog 195 := fun _ _ => by kernel_rfl
theorem fn_196 : Fn Tryz.prog 196 := fun _ _ => by kernel_rfl
theorem fn_197 : Fn Tryz.prog 197 := fun _ _ => by kernel_rfl
theorem fn_198 : Fn Tryz.prog 198 := fun _ _ => by kernel_rfl
theorem fn_199 : Fn Tryz.prog 199 := fun _ _ => by kernel_rfl
theorem fn_200 : Fn Tryz.prog 200 := fun _ _ => by kernel_rfl
theorem fn_201 : Fn Tryz.prog 201 := fun _ _ => by kernel_rfl
theorem fn_202 : Fn Tryz.prog 202 := fun _ _ => by kernel_rfl
theorem fn_203 : Fn Tryz.prog 203 := fun _ _ => by kernel_rfl
theorem fn_204 : Fn Tryz.prog 204 := fun _ _ => by kernel_rfl
theorem fn_205 : Fn Tryz.prog 205 := fun _ _ => by kernel_rfl
theorem fn_206 : Fn Tryz.prog 206 := fun _ _ => by kernel_rfl
theorem fn_207 : Fn Tryz.prog 207 := fun _ _ => by kernel_rfl
theorem fn_208 : Fn Tryz.prog 208 := fun _ _ => by kernel_rfl
theorem fn_209 : Fn Tryz.prog 209 := fun _ _ => by kernel_rfl
theorem fn_210 : Fn Tryz.prog 210 := fun _ _ => by kernel_rfl
theorem fn_211 : Fn Tryz.prog 211 := fun _ _ => by kernel_rfl
theorem fn_212 : Fn Tryz.prog 212 := fun _ _ => by kernel_rfl
theorem fn_213 : Fn Tryz.prog 213 := fun _ _ => by kernel_rfl
theorem fn_214 : Fn Tryz.prog 214 := fun _ _ => by kernel_rfl
theorem fn_215 : Fn Tryz.prog 215 := fun _ _ => by kernel_rfl
theorem fn_216 : Fn Tryz.prog 216 := fun _ _ => by kernel_rfl
theorem fn_217 : Fn Tryz.prog 217 := fun _ _ => by kernel_rfl
theorem fn_218 : Fn Tryz.prog 218 := fun _ _ => by kernel_rfl
theorem fn_219 : Fn Tryz.prog 219 := fun _ _ => by kernel_rfl
theorem fn_220 : Fn Tryz.prog 220 := fun _ _ => by kernel_rfl
theorem fn_221 : Fn Tryz.prog 221 := fun _ _ => by kernel_rfl
theorem fn_222 : Fn Tryz.prog 222 := fun _ _ => by kernel_rfl
theorem fn_223 : Fn Tryz.prog 223 := fun _ _ => by kernel_rfl
theorem fn_224 : Fn Tryz.prog 224 := fun _ _ => by kernel_rfl
theorem fn_225 : Fn Tryz.prog 225 := fun _ _ => by kernel_rfl
theorem fn_226 : Fn Tryz.prog 226 := fun _ _ => by kernel_rfl
theorem fn_227 : Fn Tryz.prog 227 := fun _ _ => by kernel_rfl
theorem fn_228 : Fn Tryz.prog 228 := fun _ _ => by kernel_rfl
theorem fn_229 : Fn Tryz.prog 229 := fun _ _ => by kernel_rfl
theorem fn_230 : Fn Tryz.prog 230 := fun _ _ => by kernel_rfl
theorem fn_231 : Fn Tryz.prog 231 := fun _ _ => by kernel_rfl
theorem fn_232 : Fn Tryz.prog 232 := fun _ _ => by kernel_rfl
theorem fn_233 : Fn Tryz.prog 233 := fun _ _ => by kernel_rfl
theorem fn_234 : Fn Tryz.prog 234 := fun _ _ => by kernel_rfl
theorem fn_235 : Fn Tryz.prog 235 := fun _ _ => by kernel_rfl
theorem fn_236 : Fn Tryz.prog 236 := fun _ _ => by kernel_rfl
theorem fn_237 : Fn Tryz.prog 237 := fun _ _ => by kernel_rfl
theorem fn_238 : Fn Tryz.prog 238 := fun _ _ => by kernel_rfl
theorem fn_239 : Fn Tryz.prog 239 := fun _ _ => by kernel_rfl
theorem fn_240 : Fn Tryz.prog 240 := fun _ _ => by kernel_rfl
theorem fn_241 : Fn Tryz.prog 241 := fun _ _ => by kernel_rfl
theorem fn_242 : Fn Tryz.prog 242 := fun _ _ => by kernel_rfl
theorem fn_243 : Fn Tryz.prog 243 := fun _ _ => by kernel_rfl
theorem fn_244 : Fn Tryz.prog 244 := fun _ _ => by kernel_rfl
theorem fn_245 : Fn Tryz.prog 245 := fun _ _ => by kernel_rfl
theorem fn_246 : Fn Tryz.prog 246 := fun _ _ => by kernel_rfl
theorem fn_247 : Fn Tryz.prog 247 := fun _ _ => by kernel_rfl
theorem fn_248 : Fn Tryz.prog 248 := fun _ _ => by kernel_rfl
theorem fn_249 : Fn Tryz.prog 249 := fun _ _ => by kernel_rfl
theorem fn_250 : Fn Tryz.prog 250 := fun _ _ => by kernel_rfl
theorem fn_251 : Fn Tryz.prog 251 := fun _ _ => by kernel_rfl
theorem fn_252 : Fn Tryz.prog 252 := fun _ _ => by kernel_rfl
theorem fn_253 : Fn Tryz.prog 253 := fun _ _ => by kernel_rfl
theorem fn_254 : Fn Tryz.prog 254 := fun _ _ => by kernel_rfl
theorem fn_255 : Fn Tryz.prog 255 := fun _ _ => by kernel_rfl
theorem fn_256 : Fn Tryz.prog 256 := fun _ _ => by kernel_rfl
theorem fn_257 : Fn Tryz.prog 257 := fun _ _ => by kernel_rfl
theorem fn_258 : Fn Tryz.prog 258 := fun _ _ => by kernel_rfl
theorem fn_259 : Fn Tryz.prog 259 := fun _ _ => by kernel_rfl
theorem fn_260 : Fn Tryz.prog 260 := fun _ _ => by kernel_rfl
theorem fn_261 : Fn Tryz.prog 261 := fun _ _ => by kernel_rfl
theorem fn_262 : Fn Tryz.prog 262 := fun _ _ => by kernel_rfl
theorem fn_263 : Fn Tryz.prog 263 := fun _ _ => by kernel_rfl
theorem fn_264 : Fn Tryz.prog 264 := fun _ _ => by kernel_rfl
theorem fn_265 : Fn Tryz.prog 265 := fun _ _ => by kernel_rfl
theorem fn_266 : Fn Tryz.prog 266 := fun _ _ => by kernel_rfl
theorem fn_267 : Fn Tryz.prog 267 := fun _ _ => by kernel_rfl
theorem fn_268 : Fn Tryz.prog 268 := fun _ _ => by kernel_rfl
theorem fn_269 : Fn Tryz.prog 269 := fun _ _ => by kernel_rfl
theorem fn_270 : Fn Tryz.prog 270 := fun _ _ => by kernel_rfl
theorem fn_271 : Fn Tryz.prog 271 := fun _ _ => by kernel_rfl
theorem fn_272 : Fn Tryz.prog 272 := fun _ _ => by kernel_rfl
theorem fn_273 : Fn Tryz.prog 273 := fun _ _ => by kernel_rfl
theorem fn_274 : Fn Tryz.prog 274 := fun _ _ => by kernel_rfl
theorem fn_275 : Fn Tryz.prog 275 := fun _ _ => by kernel_rfl
theorem fn_276 : Fn Tryz.prog 276 := fun _ _ => by kernel_rfl
theorem fn_277 : Fn Tryz.prog 277 := fun _ _ => by kernel_rfl
theorem fn_278 : Fn Tryz.prog 278 := fun _ _ => by kernel_rfl
theorem fn_279 : Fn Tryz.prog 279 := fun _ _ => by kernel_rfl
theorem fn_280 : Fn Tryz.prog 280 := fun _ _ => by kernel_rfl
theorem fn_281 : Fn Tryz.prog 281 := fun _ _ => by kernel_rfl
theorem fn_282 : Fn Tryz.prog 282 := fun _ _ => by kernel_rfl
theorem fn_284 : Fn Tryz.prog 284 := fun _ _ => by kernel_rfl
theorem fn_285 : Fn Tryz.prog 285 := fun _ _ => by kernel_rfl
theorem fn_286 : Fn Tryz.prog 286 := fun _ _ => by kernel_rfl
theorem fn_287 : Fn Tryz.prog 287 := fun _ _ => by kernel_rfl
theorem fn_288 : Fn Tryz.prog 288 := fun _ _ => by kernel_rfl
theorem fn_289 : Fn Tryz.prog 289 := fun _ _ => by kernel_rfl
theorem fn_290 : Fn Tryz.prog 290 := fun _ _ => by kernel_rfl
theorem fn_291 : Fn Tryz.prog 291 := fun _ _ => by kernel_rfl
theorem fn_292 : Fn Tryz.prog 292 := fun _ _ => by kernel_rfl
theorem fn_293 : Fn Tryz.prog 293 := fun _ _ => by kernel_rfl
theorem fn_294 : Fn Tryz.prog 294 := fun _ _ => by kernel_rfl
theorem fn_295 : Fn Tryz.prog 295 := fun _ _ => by kernel_rfl
theorem fn_296 : Fn Tryz.prog 296 := fun _ _ => by kernel_rfl
theorem fn_297 : Fn Tryz.prog 297 := fun _ _ => by kernel_rfl
theorem fn_298 : Fn Tryz.prog 298 := fun _ _ => by kernel_rfl
theorem fn_299 : Fn Tryz.prog 299 := fun _ _ => by kernel_rfl
theorem fn_300 : Fn Tryz.prog 300 := fun _ _ => by kernel_rfl
theorem fn_301 : Fn Tryz.prog 301 := fun _ _ => by kernel_rfl
theorem fn_302 : Fn Tryz.prog 302 := fun _ _ => by kernel_rfl
theorem fn_303 : Fn Tryz.prog 303 := fun _ _ => by kernel_rfl
theorem fn_304 : Fn Tryz.prog 304 := fun _ _ => by kernel_rfl
theorem fn_305 : Fn Tryz.prog 305 := fun _ _ => by kernel_rfl
theorem fn_306 : Fn Tryz.prog 306 := fun _ _ => by kernel_rfl
theorem fn_307 : Fn Tryz.prog 307 := fun _ _ => by kernel_rfl
theorem fn_308 : Fn Tryz.prog 308 := fun _ _ => by kernel_rfl
theorem fn_309 : Fn Tryz.prog 309 := fun _ _ => by kernel_rfl
theorem fn_310 : Fn Tryz.prog 310 := fun _ _ => by kernel_rfl
theorem fn_311 : Fn Tryz.prog 311 := fun _ _ => by kernel_rfl
theorem fn_312 : Fn Tryz.prog 312 := fun _ _ => by kernel_rfl
theorem fn_313 : Fn Tryz.prog 313 := fun _ _ => by kernel_rfl
theorem fn_314 : Fn Tryz.prog 314 := fun _ _ => by kernel_rfl
theorem fn_315 : Fn Tryz.prog 315 := fun _ _ => by kernel_rfl
theorem fn_316 : Fn Tryz.prog 316 := fun _ _ => by kernel_rfl
theorem fn_317 : Fn Tryz.prog 317 := fun _ _ => by kernel_rfl
theorem fn_318 : Fn Tryz.prog 318 := fun _ _ => by kernel_rfl
theorem fn_319 : Fn Tryz.prog 319 := fun _ _ => by kernel_rfl
theorem fn_320 : Fn Tryz.prog 320 := fun _ _ => by kernel_rfl
theorem fn_321 : Fn Tryz.prog 321 := fun _ _ => by kernel_rfl
theorem fn_322 : Fn Tryz.prog 322 := fun _ _ => by kernel_rfl
theorem fn_323 : Fn Tryz.prog 323 := fun _ _ => by kernel_rfl
theorem fn_324 : Fn Tryz.prog 324 := fun _ _ => by kernel_rfl
theorem fn_325 : Fn Tryz.prog 325 := fun _ _ => by kernel_rfl
theorem fn_326 : Fn Tryz.prog 326 := fun _ _ => by kernel_rfl
theorem fn_327 : Fn Tryz.prog 327 := fun _ _ => by kernel_rfl
theorem fn_328 : Fn Tryz.prog 328 := fun _ _ => by kernel_rfl
theorem fn_329 : Fn Tryz.prog 329 := fun _ _ => by kernel_rfl
theorem fn_330 : Fn Tryz.prog 330 := fun _ _ => by kernel_rfl
theorem fn_331 : Fn Tryz.prog 331 := fun _ _ => by kernel_rfl
theorem fn_333 : Fn Tryz.prog 333 := fun _ _ => by kernel_rfl
theorem fn_334 : Fn Tryz.prog 334 := fun _ _ => by kernel_rfl
theorem fn_335 : Fn Tryz.prog 335 := fun _ _ => by kernel_rfl
theorem fn_336 : Fn Tryz.prog 336 := fun _ _ => by kernel_rfl
theorem fn_337 : Fn Tryz.prog 337 := fun _ _ => by kernel_rfl
theorem fn_338 : Fn Tryz.prog 338 := fun _ _ => by kernel_rfl
theorem fn_339 : Fn Tryz.prog 339 := fun _ _ => by kernel_rfl
theorem fn_340 : Fn Tryz.prog 340 := fun _ _ => by kernel_rfl
theorem fn_341 : Fn Tryz.prog 341 := fun _ _ => by kernel_rfl
theorem fn_342 : Fn Tryz.prog 342 := fun _ _ => by kernel_rfl
theorem fn_343 : Fn Tryz.prog 343 := fun _ _ => by kernel_rfl
theorem fn_344 : Fn Tryz.prog 344 := fun _ _ => by kernel_rfl
theorem fn_345 : Fn Tryz.prog 345 := fun _ _ => by kernel_rfl
theorem fn_346 : Fn Tryz.prog 346 := fun _ _ => by kernel_rfl
theorem fn_347 : Fn Tryz.prog 347 := fun _ _ => by kernel_rfl
theorem fn_348 : Fn Tryz.prog 348 := fun _ _ => by kernel_rfl
theorem fn_349 : Fn Tryz.prog 349 := fun _ _ => by kernel_rfl
theorem fn_350 : Fn Tryz.prog 350 := fun _ _ => by kernel_rfl
theorem fn_351 : Fn Tryz.prog 351 := fun _ _ => by kernel_rfl
theorem fn_352 : Fn Tryz.prog 352 := fun _ _ => by kernel_rfl
theorem fn_353 : Fn Tryz.prog 353 := fun _ _ => by kernel_rfl
theorem fn_354 : Fn Tryz.prog 354 := fun _ _ => by kernel_rfl
theorem fn_355 : Fn Tryz.prog 355 := fun _ _ => by kernel_rfl
theorem fn_356 : Fn Tryz.prog 356 := fun _ _ => by kernel_rfl
theorem fn_357 : Fn Tryz.prog 357 := fun _ _ => by kernel_rfl
theorem fn_358 : Fn Tryz.prog 358 := fun _ _ => by kernel_rfl
theorem fn_359 : Fn Tryz.prog 359 := fun _ _ => by kernel_rfl
theorem fn_360 : Fn Tryz.prog 360 := fun _ _ => by kernel_rfl
theorem fn_361 : Fn Tryz.prog 361 := fun _ _ => by kernel_rfl
theorem fn_362 : Fn Tryz.prog 362 := fun _ _ => by kernel_rfl
theorem fn_363 : Fn Tryz.prog 363 := fun _ _ => by kernel_rfl
theorem fn_364 : Fn Tryz.prog 364 := fun _ _ => by kernel_rfl
theorem fn_365 : Fn Tryz.prog 365 := fun _ _ => by kernel_rfl
theorem fn_366 : Fn Tryz.prog 366 := fun _ _ => by kernel_rfl
theorem fn_367 : Fn Tryz.prog 367 := fun _ _ => by kernel_rfl
theorem fn_368 : Fn Tryz.prog 368 := fun _ _ => by kernel_rfl
theorem fn_369 : Fn Tryz.prog 369 := fun _ _ => by kernel_rfl
theorem fn_370 : Fn Tryz.prog 370 := fun _ _ => by kernel_rfl
theorem fn_371 : Fn Tryz.prog 371 := fun _ _ => by kernel_rfl
theorem fn_372 : Fn Tryz.prog 372 := fun _ _ => by kernel_rfl
theorem fn_373 : Fn Tryz.prog 373 := fun _ _ => by kernel_rfl
theorem fn_374 : Fn Tryz.prog 374 := fun _ _ => by kernel_rfl
theorem fn_375 : Fn Tryz.prog 375 := fun _ _ => by kernel_rfl
theorem fn_376 : Fn Tryz.prog 376 := fun _ _ => by kernel_rfl
theorem fn_377 : Fn Tryz.prog 377 := fun _ _ => by kernel_rfl
theorem fn_378 : Fn Tryz.prog 378 := fun _ _ => by kernel_rfl
theorem fn_379 : Fn Tryz.prog 379 := fun _ _ => by kernel_rfl
theorem fn_380 : Fn Tryz.prog 380 := fun _ _ => by kernel_rfl
theorem fn_381 : Fn Tryz.prog 381 := fun _ _ => by kernel_rfl
theorem fn_382 : Fn Tryz.prog 382 := fun _ _ => by kernel_rfl
theorem fn_383 : Fn Tryz.prog 383 := fun _ _ => by kernel_rfl
theorem fn_384 : Fn Tryz.prog 384 := fun _ _ => by kernel_rfl
theorem fn_385 : Fn Tryz.prog 385 := fun _ _ => by kernel_rfl
theorem fn_386 : Fn Tryz.prog 386 := fun _ _ => by kernel_rfl
theorem fn_387 : Fn Tryz.prog 387 := fun _ _ => by kernel_rfl
theorem fn_388 : Fn Tryz.prog 388 := fun _ _ => by kernel_rfl
theorem fn_389 : Fn Tryz.prog 389 := fun _ _ => by kernel_rfl
theorem fn_391 : Fn Tryz.prog 391 := fun _ _ => by kernel_rfl
theorem fn_392 : Fn Tryz.prog 392 := fun _ _ => by kernel_rfl
theorem fn_393 : Fn Tryz.prog 393 := fun _ _ => by kernel_rfl
theorem fn_394 : Fn Tryz.prog 394 := fun _ _ => by kernel_rfl
theorem fn_395 : Fn Tryz.prog 395 := fun _ _ => by kernel_rfl
theorem fn_396 : Fn Tryz.prog 396 := fun _ _ => by kernel_rfl
theorem fn_398 : Fn Tryz.prog 398 := fun _ _ => by kernel_rfl
theorem fn_399 : Fn Tryz.prog 399 := fun _ _ => by kernel_rfl
theorem fn_400 : Fn Tryz.prog 400 := fun _ _ => by kernel_rfl
theorem fn_401 : Fn Tryz.prog 401 := fun _ _ => by kernel_rfl
theorem fn_402 : Fn Tryz.prog 402 := fun _ _ => by kernel_rfl
theorem fn_403 : Fn Tryz.prog 403 := fun _ _ => by kernel_rfl
theorem fn_404 : Fn Tryz.prog 404 := fun _ _ => by kernel_rfl
theorem fn_405 : Fn Tryz.prog 405 := fun _ _ => by kernel_rfl
theorem fn_406 : Fn Tryz.prog 406 := fun _ _ => by kernel_rfl
theorem fn_407 : Fn Tryz.prog 407 := fun _ _ => by kernel_rfl
theorem fn_408 : Fn Tryz.prog 408 := fun _ _ => by kernel_rfl
theorem fn_409 : Fn Tryz.prog 409 := fun _ _ => by kernel_rfl
theorem fn_410 : Fn Tryz.prog 410 := fun _ _ => by kernel_rfl
theorem fn_411 : Fn Tryz.prog 411 := fun _ _ => by kernel_rfl
theorem fn_413 : Fn Tryz.prog 413 := fun _ _ => by kernel_rfl
theorem fn_414 : Fn Tryz.prog 414 := fun _ _ => by kernel_rfl
theorem fn_415 : Fn Tryz.prog 415 := fun _ _ => by kernel_rfl
theorem fn_416 : Fn Tryz.prog 416 := fun _ _ => by kernel_rfl
theorem fn_417 : Fn Tryz.prog 417 := fun _ _ => by kernel_rfl
theorem fn_418 : Fn Tryz.prog 418 := fun _ _ => by kernel_rfl
theorem fn_419 : Fn Tryz.prog 419 := fun _ _ => by kernel_rfl
theorem fn_420 : Fn Tryz.prog 420 := fun _ _ => by kernel_rfl
theorem fn_421 : Fn Tryz.prog 421 := fun _ _ => by kernel_rfl
theorem fn_422 : Fn Tryz.prog 422 := fun _ _ => by kernel_rfl
theorem fn_423 : Fn Tryz.prog 423 := fun _ _ => by kernel_rfl
end Go.Proofs.YtcjphpenelnohaaGreatDoor
/- The model's words, and some operations more. -/
namespace Go.Proofs.YtcjphpenelnohaaGreatDoor
open Go.RowKit
theorem m_if {b : Bool} {ρ : Type} {A B : Option ρ} {r : ρ} {G : Prop} (hm : (bif b then A else B) = some r) (ht : b = true → A = some r → G) (hf : b = false → B = some r → G) : G := by
  cases b with
  | true => exact ht rfl hm
  | false => exact hf rfl hm
theorem Ext.ro {b : Nat} {H H' : Hp} {w w' : World} {c : List Value} {T : TypeId} (h : Ext [b] H w H' w') (hn : H' b = none) (h1 : Rs.holds w (.cel b c T)) (h2 : Rs.holds w' (.cel b c T)) : Ext [] H w H' w' :=
  ⟨h.os, h.tape, h.output, h.size, fun k hk _ => by
    by_cases e : k = b
    · subst e; exact h2.trans h1.symm
    · exact h.block k hk (by simpa using e), h.imm, h.le, fun k hk _ h0 => by
    by_cases e : k = b
    · subst e; exact hn
    · exact h.old k hk (by simpa using e) h0⟩
section
variable {P : Program} {Q : Exit → Act → World → Prop} {n : Nat} {l : List (Nat × Value)} {ds : List Deferred} {w : World} {d : Nat} {x y c : Operand} {ty : TypeId} {pos : String} {aft : Array Edge} {g : Option (Nat × Bool)}
theorem c_T {thn els : Code} {b : Bool} (hb : b = true) (hc : ev n l c = some (.bool b)) (k : thn.wp P Q (fr n l ds) w) : (Code.cond c thn els).wp P Q (fr n l ds) w := by
  subst hb; exact wp_cond (ev_eval hc) k
theorem c_F {thn els : Code} {b : Bool} (hb : b = false) (hc : ev n l c = some (.bool b)) (k : els.wp P Q (fr n l ds) w) : (Code.cond c thn els).wp P Q (fr n l ds) w := by
  subst hb; exact wp_cond (ev_eval hc) k
theorem r_max {tt : Array TypeId} {k : IntKind} {a b : Int} (hx : ev n l x = some (.int k a)) (hy : ev n l y = some (.int k b)) :
    (execOp (fr n l ds).eval ⟨some d, .call ⟨.builtin .max, #[x, y], tt⟩, ty, pos, aft, g⟩).run P w = .ok (.value (.int k (mx a b))) w := by
  by_cases h : a < b <;> simp [execOp, resolve, invoke, builtin, Builtin.max_, Builtin.max2, ev_eval hx, ev_eval hy, mx, h]
theorem r_min {tt : Array TypeId} {k : IntKind} {a b : Int} (hx : ev n l x = some (.int k a)) (hy : ev n l y = some (.int k b)) :
    (execOp (fr n l ds).eval ⟨some d, .call ⟨.builtin .min, #[x, y], tt⟩, ty, pos, aft, g⟩).run P w = .ok (.value (.int k (mn a b))) w := by
  by_cases h : b < a <;> simp [execOp, resolve, invoke, builtin, Builtin.min_, Builtin.min2, ev_eval hx, ev_eval hy, mn, h]
theorem r_lts {t t' : TypeId} {a b : Bs} (hx : ev n l x = some (.string (mk a))) (hy : ev n l y = some (.string (mk b))) :
    (execOp (fr n l ds).eval ⟨some d, .binOp .lss t x y t', ty, pos, aft, g⟩).run P w = .ok (.value (.bool (Op.bytesLess a b))) w := by
  simp [execOp, ev_eval hx, ev_eval hy, eqGuard_at_string, binOp, Op.stringOp]
theorem r_les {t t' : TypeId} {a b : Bs} (hx : ev n l x = some (.string (mk a))) (hy : ev n l y = some (.string (mk b))) :
    (execOp (fr n l ds).eval ⟨some d, .binOp .leq t x y t', ty, pos, aft, g⟩).run P w = .ok (.value (.bool (Op.bytesLess a b || a == b))) w := by
  simp [execOp, ev_eval hx, ev_eval hy, eqGuard_at_string, binOp, Op.stringOp]
end
end Go.Proofs.YtcjphpenelnohaaGreatDoor
/- Values: settled slices, slices of one's own; the values of package value. -/
namespace Go.Proofs.YtcjphpenelnohaaGreatDoor
open Go.RowKit

/-- Settled cells from (b, o) on. -/
def HC (H : Hp) (b o : Nat) (cs : List Value) : Prop := ∃ c T fz, H b = some (.cells c T fz) ∧ ∀ j v, cs[j]? = some v → c[o + j]? = some v
theorem HC.mono {H H' : Hp} (h : Hle H H') {b o : Nat} {cs : List Value} (hc : HC H b o cs) : HC H' b o cs :=
  let ⟨c, T, fz, h1, h2⟩ := hc; ⟨c, T, fz, h _ _ h1, h2⟩
theorem HC.cell {H : Hp} {w : World} (hI : Imm H w) {b o : Nat} {cs : List Value} (hc : HC H b o cs) (j : Nat) (v : Value) (hj : cs[j]? = some v) : w.cell? ⟨b, o + j, none⟩ = some v := by
  obtain ⟨c, T, fz, h1, h2⟩ := hc
  simp only [World.cell?, hI b _ h1]
  simpa using h2 j v hj

/-- How a number of cells reads as something of the model. -/
structure Cr (α : Type) where
  k : Nat
  C : Hp → List Value → α → Prop
  len : ∀ {H cs x}, C H cs x → cs.length = k
  mono : ∀ {H H'}, Hle H H' → ∀ {cs x}, C H cs x → C H' cs x
  one : ∀ {H cs x}, C H cs x → ∀ u ∈ cs, u.oneCell' = true

/-- A settled slice. -/
def Sl {α : Type} (K : Cr α) (H : Hp) (a : Option Addr) (c : Nat) (xs : List α) : Prop :=
  xs.length ≤ c ∧ (xs = [] ∨ ∃ b o, a = some ⟨b, o, none⟩ ∧ ∀ i x, xs[i]? = some x → ∃ cs, HC H b (o + i * K.k) cs ∧ K.C H cs x)
theorem Sl.mono {α : Type} {K : Cr α} {H H' : Hp} (h : Hle H H') {a : Option Addr} {c : Nat} {xs : List α} (hs : Sl K H a c xs) : Sl K H' a c xs := by
  obtain ⟨hc, hs⟩ := hs
  refine ⟨hc, ?_⟩
  rcases hs with hs | ⟨b, o, ha, hs⟩
  · exact .inl hs
  · refine .inr ⟨b, o, ha, fun i x hx => ?_⟩
    obtain ⟨cs, h1, h2⟩ := hs i x hx
    exact ⟨cs, h1.mono h, K.mono h h2⟩
theorem Sl.nil {α : Type} {K : Cr α} {H : Hp} {a : Option Addr} {c : Nat} : Sl K H a c ([] : List α) := ⟨Nat.zero_le _, .inl rfl⟩
/-- The element at i. -/
theorem Sl.at {α : Type} {K : Cr α} {H : Hp} {a : Option Addr} {c : Nat} {xs : List α} (hs : Sl K H a c xs) (d : α) {i : Int} (hi : decide (0 ≤ i ∧ i < (xs.length : Int)) = true) :
    ∃ b o cs, a.map (fun ad => ad.add (i.toNat * K.k)) = some ⟨b, o, none⟩ ∧ HC H b o cs ∧ K.C H cs (xs.getD i.toNat d) := by
  have hi' := of_decide_eq_true hi
  have hlt : i.toNat < xs.length := by omega
  obtain ⟨_, hs⟩ := hs
  rcases hs with hs | ⟨b, o, ha, hs⟩
  · subst hs; simp at hlt
  · obtain ⟨cs, h1, h2⟩ := hs i.toNat xs[i.toNat] (List.getElem?_eq_getElem hlt)
    refine ⟨b, o + i.toNat * K.k, cs, by rw [ha]; simp [add_off], h1, ?_⟩
    simpa [hlt] using h2
/-- A piece. -/
theorem Sl.sub {α : Type} {K : Cr α} {H : Hp} {a : Option Addr} {c c' : Nat} {xs : List α} (hs : Sl K H a c xs) (lo : Nat) (n : Nat) (hc : ((xs.drop lo).take n).length ≤ c') : Sl K H (a.map (·.add (lo * K.k))) c' ((xs.drop lo).take n) := by
  obtain ⟨_, hs⟩ := hs
  refine ⟨hc, ?_⟩
  rcases hs with hs | ⟨b, o, ha, hs⟩
  · subst hs; exact .inl (by simp)
  · refine .inr ⟨b, o + lo * K.k, by rw [ha]; simp [add_off], fun i x hx => ?_⟩
    rw [List.getElem?_take] at hx
    split at hx
    · rw [List.getElem?_drop] at hx
      obtain ⟨cs, h1, h2⟩ := hs _ x hx
      exact ⟨cs, by rw [Nat.add_mul, ← Nat.add_assoc] at h1; exact h1, h2⟩
    · cases hx

/-- Cells that read as a list. -/
inductive LC {α : Type} (K : Cr α) (H : Hp) : List Value → List α → Prop
  | nil : LC K H [] []
  | cons {cs rest : List Value} {x : α} {xs : List α} (h : K.C H cs x) (k : LC K H rest xs) : LC K H (cs ++ rest) (x :: xs)
theorem LC.mono {α : Type} {K : Cr α} {H H' : Hp} (h : Hle H H') {cs : List Value} {xs : List α} (hc : LC K H cs xs) : LC K H' cs xs := by
  induction hc with
  | nil => exact .nil
  | cons h1 _ ih => exact .cons (K.mono h h1) ih
theorem LC.length {α : Type} {K : Cr α} {H : Hp} {cs : List Value} {xs : List α} (hc : LC K H cs xs) : cs.length = xs.length * K.k := by
  induction hc with
  | nil => simp
  | cons h1 _ ih => simp [ih, K.len h1, Nat.succ_mul, Nat.add_comm]
theorem LC.one {α : Type} {K : Cr α} {H : Hp} {cs : List Value} {xs : List α} (hc : LC K H cs xs) : ∀ u ∈ cs, u.oneCell' = true := by
  induction hc with
  | nil => simp
  | cons h1 _ ih =>
    intro u hu
    rcases List.mem_append.1 hu with h | h
    · exact K.one h1 u h
    · exact ih u h
theorem LC.append {α : Type} {K : Cr α} {H : Hp} {cs ds : List Value} {xs ys : List α} (h1 : LC K H cs xs) (h2 : LC K H ds ys) : LC K H (cs ++ ds) (xs ++ ys) := by
  induction h1 with
  | nil => exact h2
  | cons h _ ih => rw [List.append_assoc]; exact .cons h ih
theorem LC.single {α : Type} {K : Cr α} {H : Hp} {cs : List Value} {x : α} (h : K.C H cs x) : LC K H cs [x] := by
  have := LC.cons h LC.nil
  simpa using this
/-- The i-th piece of such cells. -/
theorem LC.get {α : Type} {K : Cr α} {H : Hp} {cs : List Value} {xs : List α} (hc : LC K H cs xs) : ∀ (i : Nat) (x : α), xs[i]? = some x → ∃ ds, K.C H ds x ∧ ∀ j v, ds[j]? = some v → cs[i * K.k + j]? = some v := by
  induction hc with
  | nil => intro i x hx; simp at hx
  | @cons c0 rest x0 xs0 h1 _ ih =>
    intro i x hx
    cases i with
    | zero =>
      simp at hx; subst hx
      refine ⟨c0, h1, fun j v hj => ?_⟩
      have hlt := (List.getElem?_eq_some_iff.1 hj).1
      rw [Nat.zero_mul, Nat.zero_add, List.getElem?_append_left hlt]; exact hj
    | succ i =>
      obtain ⟨ds, h2, h3⟩ := ih i x (by simpa using hx)
      refine ⟨ds, h2, fun j v hj => ?_⟩
      rw [List.getElem?_append_right (by rw [K.len h1, Nat.succ_mul]; omega), K.len h1]
      rw [show (i + 1) * K.k + j - K.k = i * K.k + j from by rw [Nat.succ_mul]; omega]
      exact h3 j v hj
/-- One piece is replaced. -/
theorem LC.set {α : Type} {K : Cr α} {H : Hp} {cs : List Value} {xs : List α} (hc : LC K H cs xs) : ∀ (i : Nat) (y : α) (ds : List Value), i < xs.length → K.C H ds y → LC K H (cs.take (i * K.k) ++ ds ++ cs.drop (i * K.k + K.k)) (xs.set i y) := by
  induction hc with
  | nil => intro i y ds hi; simp at hi
  | @cons c0 rest x0 xs0 h1 h2 ih =>
    intro i y ds hi hy
    have hl := K.len h1
    cases i with
    | zero =>
      have : (c0 ++ rest).drop K.k = rest := by rw [← hl]; simp
      simp only [Nat.zero_mul, List.take_zero, List.nil_append, Nat.zero_add, this, List.set_cons_zero]
      exact .cons hy h2
    | succ i =>
      have h := ih i y ds (by simpa using hi) hy
      have e1 : (c0 ++ rest).take ((i + 1) * K.k) = c0 ++ rest.take (i * K.k) := by
        rw [List.take_append, hl, List.take_of_length_le (by rw [hl, Nat.succ_mul]; omega), show (i + 1) * K.k - K.k = i * K.k from by rw [Nat.succ_mul]; omega]
      have e2 : (c0 ++ rest).drop ((i + 1) * K.k + K.k) = rest.drop (i * K.k + K.k) := by
        rw [List.drop_append, hl, List.drop_of_length_le (by rw [hl, Nat.succ_mul]; omega), List.nil_append, show (i + 1) * K.k + K.k - K.k = i * K.k + K.k from by rw [Nat.succ_mul]; omega]
      rw [e1, e2, List.set_cons_succ, List.append_assoc, List.append_assoc]
      rw [List.append_assoc] at h
      exact .cons h1 h

/-! ### a row of one's own: settled -/
section
variable {α : Type} {K : Cr α} {X : List Nat} {H0 H : Hp} {w0 w : World} {S : List (Nat × Rs)}

theorem row_form {w : World} {e size n : Nat} {v : Value} {cs : List Value} (h : w.ownsRow 0 e size v n cs) : ∃ a c, v = .slice a n c ∧ n ≤ c ∧ (a = none → n = 0 ∧ c = 0) ∧ ∀ ad, a = some ad → ∃ g, ad = ⟨g, 0, none⟩ := by
  rcases h.2 with ⟨hv, hn⟩ | ⟨g, cap, cur, hv, _, _, hc, _⟩
  · subst hn; exact ⟨none, 0, hv, Nat.le_refl _, fun _ => ⟨rfl, rfl⟩, fun _ h => by cases h⟩
  · exact ⟨some ⟨g, 0, none⟩, cap, hv, hc, fun h => (by cases h), fun ad h => ⟨g, by cases h; rfl⟩⟩

/-- It is settled: nobody writes it any more. -/
theorem L.settle (hL : L X H0 w0 S H w) {i : Nat} {a : Option Addr} {c e : Nat} {cs : List Value} {xs : List α} (hs : sk S i = some (.row (.slice a xs.length c) e K.k xs.length cs)) (hc : LC K H cs xs) :
    ∃ H', Hle H H' ∧ L X H0 w0 ((i, .gone) :: S) H' w ∧ Sl K H' a c xs := by
  have hown := hL.own i _ hs
  have hnon := hL.non i _ hs
  rcases hown.2 with ⟨hv, hn⟩ | ⟨g, cap, cur, hv, _, hg, hcap, _, hsz, htake⟩
  · refine ⟨H, Hle.refl H, ?_, by rw [hn]; exact Nat.zero_le _, .inl (List.length_eq_zero_iff.1 hn)⟩
    exact hL.step [] i .gone (by simp) (Ext.refl hL.imm) trivial (by simp [Rs.foot])
  · simp only [Value.slice.injEq] at hv
    obtain ⟨ha, _, hcc⟩ := hv
    have hgn := hnon g (by simp [Rs.foot, Value.ownBlock, ha])
    refine ⟨fun b => if b = g then some (.cells cur e (0, 0)) else H b, ?_, ?_, ?_⟩
    · intro b o hb
      have : b ≠ g := fun e' => by subst e'; rw [hgn.1] at hb; cases hb
      simp [this, hb]
    · have hfoot : ∀ j r, j ≠ i → sk S j = some r → ∀ b ∈ r.foot, b ≠ g := fun j r hj e' b hb hbg => by
        subst hbg
        exact hL.dis j i r _ hj e' hs b hb (by simp [Rs.foot, Value.ownBlock, ha])
      have hsk : ∀ j r, sk ((i, Rs.gone) :: S) j = some r → (j = i ∧ r = .gone) ∨ (j ≠ i ∧ sk S j = some r) := fun j r e' => by
        rw [sk_cons] at e'
        by_cases hj : j = i
        · rw [if_pos hj] at e'; cases e'; exact .inl ⟨hj, rfl⟩
        · rw [if_neg hj] at e'; exact .inr ⟨hj, e'⟩
      refine ⟨⟨hL.ext.os, hL.ext.tape, hL.ext.output, hL.ext.size, hL.ext.block, ?_, ?_, ?_⟩, ?_, ?_, ?_⟩
      · intro b o hb
        by_cases h : b = g
        · subst h; simp at hb; rw [hg, hb]
        · simp [h] at hb; exact hL.imm b o hb
      · intro b o hb
        have hb' := hL.ext.le b o hb
        have : b ≠ g := fun e' => by subst e'; rw [hgn.1] at hb'; cases hb'
        simp [this, hb']
      · intro b hb hbX hn
        by_cases h : b = g
        · subst h
          rcases hgn.2 with h1 | h1
          · exact absurd h1 hbX
          · omega
        · simp [h]; exact hL.ext.old b hb hbX hn
      · intro j r e'
        rcases hsk j r e' with ⟨_, rfl⟩ | ⟨hj, e'⟩
        · trivial
        · exact hL.own j r e'
      · intro j r e' b hb
        rcases hsk j r e' with ⟨_, rfl⟩ | ⟨hj, e'⟩
        · simp [Rs.foot] at hb
        · refine ⟨?_, (hL.non j r e' b hb).2⟩
          simp [hfoot j r hj e' b hb, (hL.non j r e' b hb).1]
      · intro j k r r' hjk e1 e2 b hb
        rcases hsk j r e1 with ⟨_, rfl⟩ | ⟨hj, e1⟩
        · simp [Rs.foot] at hb
        · rcases hsk k r' e2 with ⟨_, rfl⟩ | ⟨hk, e2⟩
          · simp [Rs.foot]
          · exact hL.dis j k r r' hjk e1 e2 b hb
    · refine ⟨by rw [hcc]; exact hcap, .inr ⟨g, 0, ha, fun j x hx => ?_⟩⟩
      obtain ⟨ds, h1, h2⟩ := hc.get j x hx
      refine ⟨ds, ⟨cur, e, (0, 0), by simp, fun q v hq => ?_⟩, ?_⟩
      · have h3 := h2 q v hq
        rw [← htake, List.getElem?_take] at h3
        split at h3
        · rw [Nat.zero_add]; simpa using h3
        · cases h3
      · refine K.mono ?_ h1
        intro b o hb
        have : b ≠ g := fun e' => by subst e'; rw [hgn.1] at hb; cases hb
        simp [this, hb]
end

end Go.Proofs.YtcjphpenelnohaaGreatDoor
/- Structs and slices that are built, appended to, indexed. -/
namespace Go.Proofs.YtcjphpenelnohaaGreatDoor
open Go.RowKit

/-! ### building -/
def splice (z : List Value) (off : Nat) (cs : List Value) : List Value := z.take off ++ cs ++ z.drop (off + cs.length)
def fillL (pl : Nat → Option (Nat × Nat)) : List Value → List (Nat × List Value) → Option (List Value)
  | z, [] => some z
  | z, (i, cs) :: r => match pl i with
    | some (off, size) => match Nat.beq cs.length size && Nat.ble (off + cs.length) z.length with
      | true => fillL pl (splice z off cs) r
      | false => none
    | none => none
/-- Parts, and their cells. -/
inductive PC : List (Nat × Value) → List (Nat × List Value) → Prop
  | nil : PC [] []
  | cons {i : Nat} {v : Value} {cs : List Value} {r s} (h : v.cells = cs.toArray) (k : PC r s) : PC ((i, v) :: r) ((i, cs) :: s)

theorem foldl_set (cs : List Value) : ∀ (z : List Value) (off k : Nat), off + k + cs.length ≤ z.length →
    (cs.zipIdx k).foldl (fun (a : Array Value) (p : Value × Nat) => a.setIfInBounds (off + p.2) p.1) z.toArray = (splice z (off + k) cs).toArray := by
  induction cs with
  | nil => intro z off k h; simp [splice]
  | cons c cs ih =>
    intro z off k h
    simp only [List.length_cons] at h
    rw [List.zipIdx_cons, List.foldl_cons]
    simp only [List.setIfInBounds_toArray]
    rw [ih (z.set (off + k) c) off (k + 1) (by simp; omega)]
    congr 1
    unfold splice
    have hlt : off + k < z.length := by omega
    rw [show off + (k + 1) = off + k + 1 from by omega, List.take_set, List.drop_set, if_pos (by omega), List.take_succ_eq_append_getElem hlt, List.set_append]
    simp only [List.length_take, Nat.min_eq_left (Nat.le_of_lt hlt), Nat.lt_irrefl, if_false, Nat.sub_self, List.set_cons_zero, List.append_assoc, List.cons_append, List.nil_append, List.length_cons]
    rw [show off + k + 1 + cs.length = off + k + (cs.length + 1) from by omega]

theorem fill_run (pl : Nat → Option (Nat × Nat)) {vs : List (Nat × Value)} {css : List (Nat × List Value)} (h : PC vs css) : ∀ (z : List Value) {r : List Value}, fillL pl z css = some r → Instr.fill pl z.toArray vs = some r.toArray := by
  induction h with
  | nil => intro z r h; simp [fillL] at h; simp [Instr.fill, h]
  | @cons i v cs rv rs hv k ih =>
    intro z r h
    simp only [fillL] at h
    cases hp : pl i with
    | none => rw [hp] at h; cases h
    | some p =>
      obtain ⟨off, size⟩ := p
      rw [hp] at h
      simp only at h
      split at h
      · rename_i hb
        simp only [Bool.and_eq_true, Nat.beq_eq, Nat.ble_eq] at hb
        have hbeq : cs.length = size := by simpa using hb.1
        simp only [Instr.fill, hp, hv, List.size_toArray]
        rw [if_neg (by simp [hbeq]; omega)]
        have := foldl_set cs z off 0 (by omega)
        simp only [Nat.add_zero] at this
        rw [show (cs.toArray.zipIdx).foldl (fun a (p : Value × Nat) => a.setIfInBounds (off + p.2) p.1) z.toArray = (splice z off cs).toArray from by
          rw [← this]; simp]
        exact ih _ h
      · cases h

/-- The places of a struct's fields. -/
def Pl (P : Program) (t : TypeId) (pl : List (Nat × Nat)) : Prop := ∀ w : World, (do
    let .struct fields ← underlying t | stuck "build: struct or array type expected"
    fields.mapM fun f => do pure (f.offset, ← sizeOf f.type) : Sem (Array (Nat × Nat))).run P w = .ok pl.toArray w
structure St (P : Program) (t : TypeId) (pl : List (Nat × Nat)) : Prop where
  out : ∃ fs, P.underlying t = some (.struct fs) ∧ ∀ w : World, (fs.mapM fun f => do pure (f.offset, ← sizeOf f.type) : Sem (Array (Nat × Nat))).run P w = .ok pl.toArray w
structure Ay (P : Program) (t e len k : Nat) : Prop where
  out : ∃ i, P.underlying t = some (.array len e) ∧ P.info? e = some i ∧ i.size = k

def evp (n : Nat) (l : List (Nat × Value)) : List (Nat × Operand) → Option (List (Nat × Value))
  | [] => some []
  | (i, o) :: r => match ev n l o, evp n l r with
    | some v, some vs => some ((i, v) :: vs)
    | _, _ => none
theorem evp_eval {n : Nat} {l : List (Nat × Value)} {ds : List Deferred} : ∀ {ps : List (Nat × Operand)} {vs : List (Nat × Value)}, evp n l ps = some vs → ps.map (fun p => (p.1, (fr n l ds).eval p.2)) = vs
  | [], vs, h => by simp [evp] at h; simp [h]
  | (i, o) :: r, vs, h => by
    simp only [evp] at h
    cases e1 : ev n l o with
    | none => rw [e1] at h; cases h
    | some v =>
      cases e2 : evp n l r with
      | none => rw [e1, e2] at h; cases h
      | some us => rw [e1, e2] at h; cases h; simp [ev_eval e1, evp_eval e2]

section
variable {P : Program} {Q : Exit → Act → World → Prop} {n : Nat} {l : List (Nat × Value)} {ds : List Deferred} {w w0 : World}
  {d : Nat} {x y : Operand} {ty : TypeId} {pos : String} {aft : Array Edge} {v u : Value} {g : Option (Nat × Bool)} {K : Act → World → Prop} {X : List Nat} {H0 H : Hp} {S : List (Nat × Rs)}

theorem r_build {t : TypeId} {z cs : List Value} {pl : List (Nat × Nat)} {ps : List (Nat × Operand)} {vs : List (Nat × Value)} {css : List (Nat × List Value)} (hz : Ze P t (.agg z.toArray)) (hp : St P t pl) (he : evp n l ps = some vs) (hc : PC vs css)
    (hf : fillL (fun i => pl[i]?) z css = some cs) :
    (execOp (fr n l ds).eval ⟨some d, .build t ps.toArray, ty, pos, aft, g⟩).run P w = .ok (.value (.agg cs.toArray)) w := by
  obtain ⟨fs, h1, h2⟩ := hp.out
  have h3 := fill_run (fun i => pl[i]?) hc z hf
  have h4 := evp_eval (ds := ds) he
  simp only [execOp, Instr.build, Sem.run_bind, run_zero hz, Result.andThen_ok, Value.cells, run_underlying h1, h2, List.map_toArray, List.toList_toArray, h4, List.getElem?_toArray, h3, Sem.run_pure]
theorem r_buildA {t e len k : TypeId} {z cs : List Value} {ps : List (Nat × Operand)} {vs : List (Nat × Value)} {css : List (Nat × List Value)} (hz : Ze P t (.agg z.toArray)) (hp : Ay P t e len k) (he : evp n l ps = some vs) (hc : PC vs css)
    (hf : fillL (fun i => some (i * k, k)) z css = some cs) :
    (execOp (fr n l ds).eval ⟨some d, .build t ps.toArray, ty, pos, aft, g⟩).run P w = .ok (.value (.agg cs.toArray)) w := by
  obtain ⟨i, h1, h2, h5⟩ := hp.out
  subst h5
  have h3 := fill_run (fun j => some (j * i.size, i.size)) hc z hf
  have h4 := evp_eval (ds := ds) he
  simp only [execOp, Instr.build, Sem.run_bind, run_zero hz, Result.andThen_ok, Value.cells, run_underlying h1, run_sizeOf h2, List.map_toArray, List.toList_toArray, h4, h3, Sem.run_pure]

/-- An element type: its size, its bytes, its zero. -/
structure El (P : Program) (t e k : Nat) : Prop where
  out : ∃ i z, P.underlying t = some (.slice e) ∧ P.info? e = some i ∧ i.zero = some z ∧ i.size = k ∧ z.cells.size = k ∧ 0 < k ∧ i.bytes ≤ 65536

theorem o_buildSlice {α : Type} {C : Cr α} {t e len : Nat} {z : Value} {cs : List Value} {xs : List α} {ps : List (Nat × Operand)} {vs : List (Nat × Value)} {css : List (Nat × List Value)} (i : Nat) (hL : L X H0 w0 S H w) (he : El P t e C.k) (hz : Ze P e z)
    (hv : evp n l ps = some vs) (hc : PC vs css) (hlen : Nat.ble len 64 = true) (hk : Nat.ble C.k 16 = true) (hn : xs.length = len)
    (hf : fillL (fun i => some (i * C.k, C.k)) ((List.range (len * C.k)).map fun i => z.cells.toList.getD (i % C.k) undef) css = some cs) (hxs : LC C H cs xs)
    (k : ∀ b w', L X H0 w0 ((i, .row (.slice (some ⟨b, 0, none⟩) xs.length len) e C.k xs.length cs) :: S) H w' → K (fr n ((d, .slice (some ⟨b, 0, none⟩) xs.length len) :: l) ds) w') :
    Oper.wp P ⟨some d, .buildSlice t len ps.toArray, ty, pos, aft, g⟩ (fr n l ds) w K Q := by
  obtain ⟨ii, z', h1, h2, h3, h4, h5, h6, _⟩ := he.out
  have hzz : z' = z := by
    obtain ⟨i', e1, e2⟩ := hz.out
    rw [h2] at e1; cases e1; rw [h3] at e2; cases e2; rfl
  subst hzz
  simp only [Nat.ble_eq] at hlen hk
  have hle : len * C.k ≤ 64 * 16 := Nat.mul_le_mul hlen hk
  have hfill := fill_run (fun i => some (i * C.k, C.k)) hc _ hf
  have h4' := evp_eval (ds := ds) hv
  have hcs : cs.length = len * C.k := by rw [hxs.length, hn]
  subst hn
  refine o_val (w' := w.alloc (.cells cs.toArray e)) (v := .slice (some ⟨w.heap.size, 0, none⟩) xs.length xs.length) ?_ (k _ _ ?_)
  · simp only [execOp, Instr.buildSlice, Sem.run_bind, run_underlying h1, Result.andThen_ok, run_sizeOf h2, h4, Sem.run_ite]
    rw [if_neg (by omega)]
    simp only [Sem.run_pure, List.map_toArray, List.toList_toArray, h4']
    by_cases hne : xs.length * C.k = 0
    · simp only [hne, if_true, Result.andThen_ok, Array.range_zero', List.map_toArray, List.map_nil] at *
      simp only [List.range_zero, List.map_nil] at hfill
      rw [hfill]
      simp only [newRow, Sem.run_bind, run_newObj, Result.andThen_ok, Sem.run_pure]
      rfl
    · have hrow : ((Array.range (xs.length * C.k)).map fun j => z'.cells[j % z'.cells.size]!) = ((List.range (xs.length * C.k)).map fun i => z'.cells.toList.getD (i % C.k) undef).toArray := by
        apply Array.ext
        · simp
        · intro j hj1 hj2
          have hmod : j % C.k < C.k := Nat.mod_lt _ h6
          have hsz : j % C.k < z'.cells.size := by rw [h5]; exact hmod
          simp only [h5]
          simp [hsz]
      simp only [hne, if_false, run_zero hz, Result.andThen_ok]
      rw [hrow, hfill]
      simp only [newRow, Sem.run_bind, run_newObj, Result.andThen_ok, Sem.run_pure]
      rfl
  · refine hL.step [] i _ (by simp) (Ext.alloc hL.imm _) ?_ ?_
    · refine ⟨hcs, .inr ⟨w.heap.size, xs.length, cs.toArray, rfl, Nat.zero_le _, by show (w.heap.push _)[w.heap.size]? = _; simp, Nat.le_refl _, by unfold maxLen; omega, by simp [hcs], by rw [← hcs]; simp⟩⟩
    · intro b hb
      simp [Rs.foot, Value.ownBlock] at hb; subst hb
      exact ⟨hL.imm.fresh (Nat.le_refl _), .inr (Nat.le_refl _)⟩

/-- A nil slice, as a row. -/
theorem L.addNil (hL : L X H0 w0 S H w) (i e k : Nat) : L X H0 w0 ((i, .row (.slice none 0 0) e k 0 []) :: S) H w :=
  hL.step [] i _ (by simp) (Ext.refl hL.imm) ⟨by simp, .inl ⟨rfl, rfl⟩⟩ (by simp [Rs.foot, Value.ownBlock])

theorem grown_ext {w w' : World} {row : Option Nat} (hg : w.grownBy w' row) (hI : Imm H w) (hn : ∀ b ∈ row.toList, H b = none) : Ext row.toList H w H w' :=
  ⟨hg.os, hg.tape, hg.output, hg.size, fun b hb hx => hg.block b hb (fun e => hx (by simp [← e])), fun b o e => by
    rw [hg.block b (hI.lt e) (fun e' => by have := hn b (by simp [← e']); rw [this] at e; cases e)]; exact hI b o e, Hle.refl H, fun _ _ _ h => h⟩

/-- append: a row of one's own, and another one. -/
theorem o_append {α : Type} {C : Cr α} {t e c c' : Nat} {a a' : Option Addr} {cs es : List Value} {xs ys : List α} (i j : Nat) (hL : L X H0 w0 S H w) (he : El P t e C.k) (hx : ev n l x = some (.slice a xs.length c)) (hy : ev n l y = some (.slice a' ys.length c'))
    (hs : sk S i = some (.row (.slice a xs.length c) e C.k xs.length cs)) (hs' : sk S j = some (.row (.slice a' ys.length c') e C.k ys.length es)) (hys : LC C H es ys) (h0 : Nat.blt 0 ys.length = true)
    (hlim : decide (xs.length + ys.length ≤ LIM) = true)
    (k : ∀ b c'' w', L X H0 w0 ((i, .row (.slice (some ⟨b, 0, none⟩) (xs ++ ys).length c'') e C.k (xs ++ ys).length (cs ++ es)) :: S) H w' → K (fr n ((d, .slice (some ⟨b, 0, none⟩) (xs ++ ys).length c'') :: l) ds) w') :
    Oper.wp P ⟨some d, .call ⟨.builtin .append, #[x, y], #[t, t]⟩, ty, pos, aft, g⟩ (fr n l ds) w K Q := by
  obtain ⟨ii, z, h1, h2, h3, h4, h5, h6, h7⟩ := he.out
  have hlim' := of_decide_eq_true hlim
  unfold LIM at hlim'
  have hm : 0 < ys.length := by simpa [Nat.blt_eq] using h0
  have hown := hL.own i _ hs
  have hown' := hL.own j _ hs'
  -- the other row's cells
  have hrow : ∃ g, a' = some ⟨g, 0, none⟩ ∧ ∀ q u, es[q]? = some u → w.cell? ((⟨g, 0, none⟩ : Addr).add q) = some u := by
    rcases hown'.2 with ⟨_, hn⟩ | ⟨g, cap, cur, hv, _, hg, _, _, _, htake⟩
    · omega
    · simp only [Value.slice.injEq] at hv
      refine ⟨g, hv.1, fun q u hu => ?_⟩
      have h8 : (Value.slice a' ys.length c').ownBlock = some g := by simp [Value.ownBlock, hv.1]
      exact World.ownsRow.cells hown' h8 q u hu
  obtain ⟨g', rfl, hcell⟩ := hrow
  have hbytes : (xs.length + ys.length) * ii.bytes ≤ 140737488355328 := Nat.le_trans (Nat.mul_le_mul hlim' h7) (by decide)
  obtain ⟨g, cap, w', r1, r2, r3, r4, r5⟩ := run_append_lies (w := w) (P := P) t ty 0 e ii z C.k ii.bytes h1 h2 h3 h4 rfl h5 h6 (.slice a xs.length c) xs.length cs hown ⟨g', 0, none⟩ ys.length c' es hys.length hcell hys.one hm (by unfold maxLen; omega) hbytes (Nat.zero_le _) w.heap.size rfl
  have hnon := hL.non i _ hs
  have hstep := hL.step (Value.slice a xs.length c).ownBlock.toList i (.row (.slice (some ⟨g, 0, none⟩) (xs.length + ys.length) cap) e C.k (xs.length + ys.length) (cs ++ es)) (fun b hb => ⟨_, hs, hb⟩)
    (grown_ext r3 hL.imm fun b hb => (hnon b hb).1) r2 (fun b hb => by
      simp [Rs.foot, Value.ownBlock] at hb; subst hb
      rcases r4 with r4 | r4
      · exact ⟨(hnon b (by simp [Rs.foot, r4])).1, .inl (by simp [r4])⟩
      · subst r4; exact ⟨hL.imm.fresh (Nat.le_refl _), .inr (Nat.le_refl _)⟩)
  rw [← List.length_append] at hstep
  refine o_val (w' := w') ?_ (k g cap w' hstep)
  simp only [execOp, resolve, invoke, builtin, Sem.run_bind, Sem.run_pure, Result.andThen_ok, List.map_toArray, List.map_cons, List.map_nil, ev_eval hx, ev_eval hy, r1, List.length_append]

theorem r_lenS {tt : Array TypeId} {t e c m : Nat} {a : Option Addr} (ht : tt[0]? = some t) (hu : P.underlying t = some (.slice e)) (hx : ev n l x = some (.slice a m c)) :
    (execOp (fr n l ds).eval ⟨some d, .call ⟨.builtin .len, #[x], tt⟩, ty, pos, aft, g⟩).run P w = .ok (.value (.int .i64 m)) w := by
  simp [execOp, resolve, invoke, builtin, Builtin.len_, ev_eval hx, ht, run_underlying hu, goInt]

theorem r_indexAddr {t e k c : Nat} {kd : IntKind} {a : Option Addr} {m : Nat} {i : Int} {b o : Nat} (he : El P t e k) (hi : decide (0 ≤ i ∧ i < (m : Int)) = true) (ha : a.map (fun ad => ad.add (i.toNat * k)) = some ⟨b, o, none⟩)
    (hx : ev n l x = some (.slice a m c)) (hy : ev n l y = some (.int kd i)) :
    (execOp (fr n l ds).eval ⟨some d, .indexAddr t x y, ty, pos, aft, g⟩).run P w = .ok (.value (.pointer (some ⟨b, o, none⟩))) w := by
  obtain ⟨ii, z, h1, h2, h3, h4, h5, h6, h7⟩ := he.out
  have hi' := of_decide_eq_true hi
  cases a with
  | none => cases ha
  | some ad =>
    simp only [Option.map_some, Option.some.injEq] at ha
    have hb : (P.underlying t matches some (.array ..)) = false := by rw [h1]
    simp only [execOp, Instr.indexAt, ev_eval hx, ev_eval hy, asIntOf, Sem.run_bind, Sem.run_pure, Result.andThen_ok, run_underlying h1, hi', run_sizeOf h2, h4, ha, and_self, if_true]
theorem r_loadH1 {t : TypeId} {b o : Nat} (hI : Imm H w) (ht : Sc P t) (hx : ev n l x = some (.pointer (some ⟨b, o, none⟩))) (hc : HC H b o [v]) :
    (execOp (fr n l ds).eval ⟨some d, .load t x, ty, pos, aft, g⟩).run P w = .ok (.value v) w := by
  simp only [execOp, ev_eval hx, Instr.loadAt, Instr.sureAddr, Sem.run_bind, Sem.run_pure, Result.andThen_ok]
  rw [run_loadVar_one ht (by have := hc.cell hI 0 v rfl; simpa using this)]; rfl
theorem r_loadHk {t : TypeId} {b o k : Nat} {vs : List Value} (hI : Imm H w) (ht : Ag P t k) (hx : ev n l x = some (.pointer (some ⟨b, o, none⟩))) (hc : HC H b o vs) (hk : vs.length = k) :
    (execOp (fr n l ds).eval ⟨some d, .load t x, ty, pos, aft, g⟩).run P w = .ok (.value (.agg vs.toArray)) w := by
  simp only [execOp, ev_eval hx, Instr.loadAt, Instr.sureAddr, Sem.run_bind, Sem.run_pure, Result.andThen_ok]
  rw [run_loadVar_agg ht hk (fun j u e => by rw [add_off]; exact hc.cell hI j u e)]; rfl
end

end Go.Proofs.YtcjphpenelnohaaGreatDoor
/- The values of package value in memory. -/
namespace Go.Proofs.YtcjphpenelnohaaGreatDoor
open Go.RowKit Go.WideElems

/-- The bits of a whole number as a float64. -/
def fb (n : Int) : Nat := match (Conv.intToFloat .f64 n : Sem Value) with
  | .pure (.float _ b) => b
  | _ => 0
/-- A map's values are not looked into by the form's own reader. -/
def R0 : Value → Option (DataW Unit × List MemPlace) := fun _ => some (.nil, [])

/-- A value, and what it is. -/
inductive VR : Hp → Value → J → Prop
  | null {H : Hp} : VR H .nilIface .null
  | later {H : Hp} : VR H (.iface 169 (.agg (List.toArray []))) .later
  | bool {H : Hp} {b : Bool} : VR H (.iface 4 (.bool b)) (.bool b)
  | int {H : Hp} {n : Int} : VR H (.iface 3 (.int .i64 n)) (.int n)
  | point {H : Hp} {a b : Int} (ha : -9007199254740992 ≤ a ∧ a ≤ 9007199254740992) (hb : -9007199254740992 ≤ b ∧ b ≤ 9007199254740992) : VR H (.iface 170 (.complex .f64 (fb a) (fb b))) (.point a b)
  | text {H : Hp} {s : Bs} : VR H (.iface 9 (.string (mk s))) (.text s)
  | list {H : Hp} {a : Option Addr} {c : Nat} {l : List J} (f : Nat → Value) (hl : l.length ≤ LIM) (hc : l.length ≤ c) (h : l = [] ∨ ∃ b o, a = some ⟨b, o, none⟩ ∧ ∀ i, i < l.length → HC H b (o + i * 1) [f i])
      (hr : ∀ i x, l[i]? = some x → VR H (f i) x) : VR H (.iface 171 (.slice a l.length c)) (.list l)
  | table {H : Hp} {b clock : Nat} {es : Array MapEntry} {m : List (Bs × J)} (f : Nat → Value) (hl : m.length ≤ LIM) (hH : H b = some (.map es clock)) (hF : Fit Tryz.prog 9 R0 es clock) (ho : m.Pairwise fun p q => p.1 < q.1)
      (hk : ∀ p ∈ m, p.1.length ≤ LIM) (hs : ∀ x ∈ es.toList, ∃ i p, m[i]? = some p ∧ x.key = .string (mk p.1) ∧ x.val = .agg (List.toArray [f i])) (he : ∀ i p, m[i]? = some p → ∃ born, (⟨.string (mk p.1), .agg (List.toArray [f i]), born⟩ : MapEntry) ∈ es.toList)
      (hr : ∀ i p, m[i]? = some p → VR H (f i) p.2) : VR H (.iface 173 (.map (some b))) (.table m)

theorem VR.mono {H H' : Hp} (h : Hle H H') {v : Value} {j : J} (hv : VR H v j) : VR H' v j := by
  induction hv with
  | null => exact .null
  | later => exact .later
  | bool => exact .bool
  | int => exact .int
  | point ha hb => exact .point ha hb
  | text => exact .text
  | list f hl hc h1 _ ih =>
    refine .list f hl hc ?_ fun i x hx => ih i x hx
    rcases h1 with h1 | ⟨b, o, ha, h1⟩
    · exact .inl h1
    · exact .inr ⟨b, o, ha, fun i hi => (h1 i hi).mono h⟩
  | table f hl hH hF ho hk hs he _ ih => exact .table f hl (h _ _ hH) hF ho hk hs he fun i p hp => ih i p hp
theorem VR.one {H : Hp} {v : Value} {j : J} (hv : VR H v j) : v.oneCell' = true := by cases hv <;> rfl
theorem cells_one {v : Value} (h : v.oneCell' = true) : v.cells = (List.toArray [v]) := by cases v <;> first | rfl | (simp [Value.oneCell'] at h)

/-- One value in its cell. -/
def cJ : Cr J where
  k := 1
  C H cs x := ∃ v, cs = [v] ∧ VR H v x
  len := by rintro H cs x ⟨v, rfl, _⟩; rfl
  mono := by rintro H H' h cs x ⟨v, rfl, hv⟩; exact ⟨v, rfl, hv.mono h⟩
  one := by rintro H cs x ⟨v, rfl, hv⟩ u hu; simp at hu; subst hu; exact hv.one
def cStr : Cr Bs where
  k := 1
  C _ cs x := cs = [.string (mk x)]
  len := by rintro H cs x rfl; rfl
  mono := by rintro H H' _ cs x rfl; rfl
  one := by rintro H cs x rfl u hu; simp at hu; subst hu; rfl
def cStep : Cr Step where
  k := 2
  C _ cs x := cs = [.string (mk x.key), .int .i64 x.at_]
  len := by rintro H cs x rfl; rfl
  mono := by rintro H H' _ cs x rfl; rfl
  one := by rintro H cs x rfl u hu; simp at hu; rcases hu with rfl | rfl <;> rfl

/-- A list of values. -/
theorem VR.ofList {H : Hp} {a : Option Addr} {c : Nat} {l : List J} (hl : l.length ≤ LIM) (h : Sl cJ H a c l) : VR H (.iface 171 (.slice a l.length c)) (.list l) := by
  obtain ⟨hc, h⟩ := h
  rcases h with h | ⟨b, o, ha, h⟩
  · subst h; exact .list (fun _ => .nilIface) hl hc (.inl rfl) (by intro i x hx; simp at hx)
  · have key : ∀ i, ∃ v, ∀ x, l[i]? = some x → HC H b (o + i * 1) [v] ∧ VR H v x := by
      intro i
      cases e : l[i]? with
      | none => exact ⟨.nilIface, fun x hx => by cases hx⟩
      | some x =>
        obtain ⟨cs, h1, v, rfl, hv⟩ := h i x e
        exact ⟨v, fun y hy => by cases hy; exact ⟨h1, hv⟩⟩
    refine .list (fun i => (key i).choose) hl hc (.inr ⟨b, o, ha, fun i hi => ?_⟩) fun i x hx => ((key i).choose_spec x hx).2
    exact ((key i).choose_spec _ (List.getElem?_eq_getElem hi)).1

/-! ### type assertions, with ok -/
section
variable {P : Program} {xT T : TypeId} {w : World}
theorem run_ta_hit {d : TypeDesc} (hT : P.underlying T = some d) (hd : (d matches .interface _) = false) (v : Value) : (Instr.typeAssert (.iface T v) xT T true).run P w = .ok (.tuple (List.toArray [v, .bool true])) w := by
  cases d <;> first | (simp at hd; done) | simp [Instr.typeAssert, run_underlying hT]
theorem run_ta_miss {d : TypeDesc} {z : Value} {t : TypeId} (hT : P.underlying T = some d) (hd : (d matches .interface _) = false) (hz : Ze P T z) (hne : (t == T) = false) (v : Value) : (Instr.typeAssert (.iface t v) xT T true).run P w = .ok (.tuple (List.toArray [z, .bool false])) w := by
  have hne' : ¬ t = T := by simpa using hne
  cases d <;> first | (simp at hd; done) | simp [Instr.typeAssert, run_underlying hT, hne', run_zero hz]
theorem run_ta_nil {d : TypeDesc} {z : Value} (hT : P.underlying T = some d) (hd : (d matches .interface _) = false) (hz : Ze P T z) : (Instr.typeAssert .nilIface xT T true).run P w = .ok (.tuple (List.toArray [z, .bool false])) w := by
  cases d <;> first | (simp at hd; done) | simp [Instr.typeAssert, run_underlying hT, run_zero hz]
end

/-- A map that a value may hold. -/
inductive MR (H : Hp) : Option Nat → List (Bs × J) → Prop
  | none : MR H none []
  | some {b clock : Nat} {es : Array MapEntry} {m : List (Bs × J)} (hl : m.length ≤ LIM) (hH : H b = some (.map es clock)) (hF : Fit Tryz.prog 9 R0 es clock) (ho : m.Pairwise fun p q => p.1 < q.1) (hk : ∀ p ∈ m, p.1.length ≤ LIM) (hs : ∀ x ∈ es.toList, ∃ p ∈ m, ∃ v, x.key = .string (mk p.1) ∧ x.val = .agg (List.toArray [v]) ∧ VR H v p.2)
      (he : ∀ p ∈ m, ∃ x ∈ es.toList, x.key = .string (mk p.1)) : MR H (some b) m
theorem MR.mono {H H' : Hp} (h : Hle H H') {r : Option Nat} {m : List (Bs × J)} (hm : MR H r m) : MR H' r m := by
  cases hm with
  | none => exact .none
  | some hl hH hF ho hk hs he =>
    exact .some hl (h _ _ hH) hF ho hk (fun x hx => let ⟨p, hp, v, h1, h2, h3⟩ := hs x hx; ⟨p, hp, v, h1, h2, h3.mono h⟩) he

section
variable {xT : TypeId} {H : Hp} {v : Value} {j : J}
set_option maxRecDepth 100000 in
theorem ta_bool (h : VR H v j) : ∀ w, (Instr.typeAssert v xT 4 true).run Tryz.prog w = .ok (.tuple (List.toArray [.bool j.boolv, .bool j.isBool])) w := by
  intro w
  cases h <;> first | exact run_ta_hit Tryz.underlying4 rfl _ | exact run_ta_miss Tryz.underlying4 rfl ze_4 rfl _ | exact run_ta_nil Tryz.underlying4 rfl ze_4
set_option maxRecDepth 100000 in
theorem ta_int (h : VR H v j) : ∀ w, (Instr.typeAssert v xT 3 true).run Tryz.prog w = .ok (.tuple (List.toArray [.int .i64 j.intv, .bool j.isInt])) w := by
  intro w
  cases h <;> first | exact run_ta_hit Tryz.underlying3 rfl _ | exact run_ta_miss Tryz.underlying3 rfl ze_3 rfl _ | exact run_ta_nil Tryz.underlying3 rfl ze_3
set_option maxRecDepth 100000 in
theorem ta_text (h : VR H v j) : ∀ w, (Instr.typeAssert v xT 9 true).run Tryz.prog w = .ok (.tuple (List.toArray [.string (mk j.txt), .bool j.isText])) w := by
  intro w
  cases h <;> first | exact run_ta_hit Tryz.underlying9 rfl _ | exact run_ta_miss Tryz.underlying9 rfl ze_9 rfl _ | exact run_ta_nil Tryz.underlying9 rfl ze_9
set_option maxRecDepth 100000 in
theorem ta_later (h : VR H v j) : ∃ u, ∀ w, (Instr.typeAssert v xT 169 true).run Tryz.prog w = .ok (.tuple (List.toArray [u, .bool (j.kind == 1)])) w := by
  refine ⟨.agg (List.toArray []), fun w => ?_⟩
  cases h <;> first | exact run_ta_hit Tryz.underlying169 rfl _ | exact run_ta_miss Tryz.underlying169 rfl ze_169 rfl _ | exact run_ta_nil Tryz.underlying169 rfl ze_169
set_option maxRecDepth 100000 in
theorem ta_point (h : VR H v j) : ∃ x y, (∀ w, (Instr.typeAssert v xT 170 true).run Tryz.prog w = .ok (.tuple (List.toArray [.complex .f64 x y, .bool j.isPoint])) w) ∧ x = fb j.re ∧ y = fb j.im ∧
    (-9007199254740992 ≤ j.re ∧ j.re ≤ 9007199254740992) ∧ (-9007199254740992 ≤ j.im ∧ j.im ≤ 9007199254740992) := by
  have h0 : fb 0 = 0 := by kernel_rfl
  have zz : -9007199254740992 ≤ (0 : Int) ∧ (0 : Int) ≤ 9007199254740992 := by decide
  cases h with
  | point ha hb => exact ⟨_, _, fun w => run_ta_hit Tryz.underlying170 rfl _, rfl, rfl, ha, hb⟩
  | null => exact ⟨0, 0, fun w => run_ta_nil Tryz.underlying170 rfl ze_170, h0.symm, h0.symm, zz, zz⟩
  | _ => exact ⟨0, 0, fun w => run_ta_miss Tryz.underlying170 rfl ze_170 rfl _, h0.symm, h0.symm, zz, zz⟩
set_option maxRecDepth 100000 in
theorem ta_list (h : VR H v j) : ∃ a c, (∀ w, (Instr.typeAssert v xT 171 true).run Tryz.prog w = .ok (.tuple (List.toArray [.slice a j.lst.length c, .bool j.isList])) w) ∧ Sl cJ H a c j.lst ∧ j.lst.length ≤ LIM := by
  cases h with
  | list f hl hc h1 hr =>
    refine ⟨_, _, fun w => run_ta_hit Tryz.underlying171 rfl _, ⟨hc, ?_⟩, hl⟩
    rcases h1 with h1 | ⟨b, o, ha, h1⟩
    · exact .inl h1
    · exact .inr ⟨b, o, ha, fun i x hx => ⟨[f i], h1 i (List.getElem?_eq_some_iff.1 hx).1, f i, rfl, hr i x hx⟩⟩
  | null => exact ⟨none, 0, fun w => run_ta_nil Tryz.underlying171 rfl ze_171, Sl.nil, Nat.zero_le _⟩
  | _ => exact ⟨none, 0, fun w => run_ta_miss Tryz.underlying171 rfl ze_171 rfl _, Sl.nil, Nat.zero_le _⟩
set_option maxRecDepth 100000 in
theorem ta_tab (h : VR H v j) : ∃ r, (∀ w, (Instr.typeAssert v xT 173 true).run Tryz.prog w = .ok (.tuple (List.toArray [.map r, .bool j.isTab])) w) ∧ MR H r j.tab := by
  cases h with
  | table f hl hH hF ho hk hs he hr =>
    refine ⟨_, fun w => run_ta_hit Tryz.underlying173 rfl _, .some hl hH hF ho hk (fun x hx => ?_) fun p hp => ?_⟩
    · obtain ⟨i, p, h1, h2, h3⟩ := hs x hx
      exact ⟨p, List.mem_of_getElem? h1, f i, h2, h3, hr i p h1⟩
    · obtain ⟨i, hi⟩ := List.getElem?_of_mem hp
      obtain ⟨born, hb⟩ := he i p hi
      exact ⟨_, hb, rfl⟩
  | null => exact ⟨none, fun w => run_ta_nil Tryz.underlying173 rfl ze_173, .none⟩
  | _ => exact ⟨none, fun w => run_ta_miss Tryz.underlying173 rfl ze_173 rfl _, .none⟩
end

section
variable {P : Program} {n : Nat} {l : List (Nat × Value)} {ds : List Deferred} {w : World} {d : Nat} {x y : Operand} {ty : TypeId} {pos : String} {aft : Array Edge} {v u : Value} {g : Option (Nat × Bool)}
theorem r_ta {xT T : TypeId} (h : ∀ w, (Instr.typeAssert v xT T true).run P w = .ok u w) (hx : ev n l x = some v) :
    (execOp (fr n l ds).eval ⟨some d, .typeAssert x xT T true, ty, pos, aft, g⟩).run P w = .ok (.value u) w := by
  simp only [execOp, ev_eval hx, Sem.run_bind, h, Result.andThen_ok, Sem.run_pure]
theorem r_mkI {t : TypeId} (h : ∀ w, (Instr.makeInterface t v).run P w = .ok u w) (hx : ev n l x = some v) :
    (execOp (fr n l ds).eval ⟨some d, .makeInterface t x, ty, pos, aft, g⟩).run P w = .ok (.value u) w := by
  simp only [execOp, ev_eval hx, Sem.run_bind, h, Result.andThen_ok, Sem.run_pure]
end
end Go.Proofs.YtcjphpenelnohaaGreatDoor
/- Closed facts: places of structs, elements of slices (by tools/facts2.py). -/
namespace Go.Proofs.YtcjphpenelnohaaGreatDoor
theorem el_of {P : Program} {t e k : Nat} {i : TypeInfo} {z : Value} (h1 : P.underlying t = some (.slice e)) (h2 : P.info? e = some i) (h3 : i.zero = some z) (h4 : (i.size == k && z.cells.size == k && Nat.blt 0 k && Nat.ble i.bytes 65536) = true) : El P t e k := by
  simp only [Bool.and_eq_true, beq_iff_eq, Nat.blt_eq, Nat.ble_eq] at h4
  exact ⟨i, z, h1, h2, h3, h4.1.1.1, h4.1.1.2, h4.1.2, h4.2⟩
def elB (P : Program) (t e k : Nat) : Bool := match P.underlying t, P.info? e with
  | some (.slice e'), some i => e' == e && (match i.zero with
    | some z => i.size == k && z.cells.size == k && Nat.blt 0 k && Nat.ble i.bytes 65536
    | none => false)
  | _, _ => false
theorem el_ofB {P : Program} {t e k : Nat} (h : elB P t e k = true) : El P t e k := by
  unfold elB at h
  split at h
  · rename_i e' i h1 h2
    simp only [Bool.and_eq_true, beq_iff_eq] at h
    obtain ⟨rfl, h⟩ := h
    split at h
    · rename_i z h3; exact el_of h1 h2 h3 (by simpa using h)
    · cases h
  · cases h
theorem st_33 : St Tryz.prog 33 [(0, 1)] := ⟨_, Tryz.underlying33, fun _ => by kernel_rfl⟩
theorem st_35 : St Tryz.prog 35 [(0, 1), (1, 1)] := ⟨_, Tryz.underlying35, fun _ => by kernel_rfl⟩
theorem st_41 : St Tryz.prog 41 [(0, 1), (1, 1), (2, 1), (3, 1), (4, 1), (5, 1)] := ⟨_, Tryz.underlying41, fun _ => by kernel_rfl⟩
theorem st_50 : St Tryz.prog 50 [(0, 1), (1, 1), (2, 1), (3, 1)] := ⟨_, Tryz.underlying50, fun _ => by kernel_rfl⟩
theorem st_53 : St Tryz.prog 53 [(0, 4), (4, 1)] := ⟨_, Tryz.underlying53, fun _ => by kernel_rfl⟩
theorem st_70 : St Tryz.prog 70 [(0, 1), (1, 1), (2, 1), (3, 1)] := ⟨_, Tryz.underlying70, fun _ => by kernel_rfl⟩
theorem st_97 : St Tryz.prog 97 [(0, 4), (4, 1), (5, 1), (6, 1), (7, 1)] := ⟨_, Tryz.underlying97, fun _ => by kernel_rfl⟩
theorem st_115 : St Tryz.prog 115 [(0, 1), (1, 1), (2, 1), (3, 1), (4, 1)] := ⟨_, Tryz.underlying115, fun _ => by kernel_rfl⟩
theorem st_155 : St Tryz.prog 155 [(0, 1), (1, 1), (2, 1)] := ⟨_, Tryz.underlying155, fun _ => by kernel_rfl⟩
theorem st_164 : St Tryz.prog 164 [(0, 1)] := ⟨_, Tryz.underlying164, fun _ => by kernel_rfl⟩
theorem st_166 : St Tryz.prog 166 [(0, 1), (1, 1)] := ⟨_, Tryz.underlying166, fun _ => by kernel_rfl⟩
theorem st_169 : St Tryz.prog 169 [] := ⟨_, Tryz.underlying169, fun _ => by kernel_rfl⟩
theorem st_186 : St Tryz.prog 186 [(0, 4), (4, 1), (5, 1), (6, 1)] := ⟨_, Tryz.underlying186, fun _ => by kernel_rfl⟩
theorem st_191 : St Tryz.prog 191 [(0, 1), (1, 1)] := ⟨_, Tryz.underlying191, fun _ => by kernel_rfl⟩
theorem st_220 : St Tryz.prog 220 [(0, 1), (1, 1)] := ⟨_, Tryz.underlying220, fun _ => by kernel_rfl⟩
theorem st_241 : St Tryz.prog 241 [(0, 1), (1, 4), (5, 1), (6, 1)] := ⟨_, Tryz.underlying241, fun _ => by kernel_rfl⟩
theorem st_249 : St Tryz.prog 249 [(0, 1), (1, 1), (2, 1)] := ⟨_, Tryz.underlying249, fun _ => by kernel_rfl⟩
theorem st_251 : St Tryz.prog 251 [(0, 3), (3, 1)] := ⟨_, Tryz.underlying251, fun _ => by kernel_rfl⟩
theorem st_256 : St Tryz.prog 256 [(0, 1), (1, 1)] := ⟨_, Tryz.underlying256, fun _ => by kernel_rfl⟩
theorem st_263 : St Tryz.prog 263 [(0, 1), (1, 1)] := ⟨_, Tryz.underlying263, fun _ => by kernel_rfl⟩
theorem st_271 : St Tryz.prog 271 [(0, 1), (1, 1)] := ⟨_, Tryz.underlying271, fun _ => by kernel_rfl⟩
theorem st_274 : St Tryz.prog 274 [(0, 1), (1, 1), (2, 1)] := ⟨_, Tryz.underlying274, fun _ => by kernel_rfl⟩
theorem st_276 : St Tryz.prog 276 [(0, 3), (3, 1)] := ⟨_, Tryz.underlying276, fun _ => by kernel_rfl⟩
set_option maxRecDepth 100000 in
theorem ay_317 : Ay Tryz.prog 317 9 5 1 := ⟨_, Tryz.underlying317, rfl, by kernel_rfl⟩
theorem st_322 : St Tryz.prog 322 [(0, 1), (1, 1), (2, 1), (3, 1)] := ⟨_, Tryz.underlying322, fun _ => by kernel_rfl⟩
theorem st_328 : St Tryz.prog 328 [(0, 1), (1, 1), (2, 1), (3, 1)] := ⟨_, Tryz.underlying328, fun _ => by kernel_rfl⟩
theorem st_339 : St Tryz.prog 339 [(0, 1), (1, 1)] := ⟨_, Tryz.underlying339, fun _ => by kernel_rfl⟩
set_option maxRecDepth 100000 in
theorem ay_418 : Ay Tryz.prog 418 4 4 1 := ⟨_, Tryz.underlying418, rfl, by kernel_rfl⟩
set_option maxRecDepth 100000 in
theorem ay_419 : Ay Tryz.prog 419 9 4 1 := ⟨_, Tryz.underlying419, rfl, by kernel_rfl⟩
theorem st_445 : St Tryz.prog 445 [(0, 1), (1, 1), (2, 1)] := ⟨_, Tryz.underlying445, fun _ => by kernel_rfl⟩
theorem st_457 : St Tryz.prog 457 [(0, 1), (1, 1), (2, 1)] := ⟨_, Tryz.underlying457, fun _ => by kernel_rfl⟩
theorem st_479 : St Tryz.prog 479 [(0, 1)] := ⟨_, Tryz.underlying479, fun _ => by kernel_rfl⟩
theorem el_23 : El Tryz.prog 23 33 1 := el_ofB (by kernel_rfl)
theorem el_30 : El Tryz.prog 30 9 1 := el_ofB (by kernel_rfl)
theorem el_37 : El Tryz.prog 37 115 5 := el_ofB (by kernel_rfl)
theorem el_47 : El Tryz.prog 47 53 5 := el_ofB (by kernel_rfl)
theorem el_51 : El Tryz.prog 51 50 4 := el_ofB (by kernel_rfl)
theorem el_57 : El Tryz.prog 57 51 1 := el_ofB (by kernel_rfl)
theorem el_71 : El Tryz.prog 71 77 2 := el_ofB (by kernel_rfl)
theorem el_83 : El Tryz.prog 83 89 10 := el_ofB (by kernel_rfl)
theorem el_87 : El Tryz.prog 87 5 1 := el_ofB (by kernel_rfl)
theorem el_94 : El Tryz.prog 94 97 8 := el_ofB (by kernel_rfl)
theorem el_102 : El Tryz.prog 102 3 1 := el_ofB (by kernel_rfl)
theorem el_103 : El Tryz.prog 103 27 1 := el_ofB (by kernel_rfl)
theorem el_113 : El Tryz.prog 113 220 2 := el_ofB (by kernel_rfl)
theorem el_122 : El Tryz.prog 122 113 1 := el_ofB (by kernel_rfl)
theorem el_125 : El Tryz.prog 125 4 1 := el_ofB (by kernel_rfl)
theorem el_152 : El Tryz.prog 152 41 6 := el_ofB (by kernel_rfl)
theorem el_171 : El Tryz.prog 171 33 1 := el_ofB (by kernel_rfl)
theorem el_261 : El Tryz.prog 261 328 4 := el_ofB (by kernel_rfl)
theorem el_320 : El Tryz.prog 320 39 1 := el_ofB (by kernel_rfl)
theorem el_408 : El Tryz.prog 408 87 1 := el_ofB (by kernel_rfl)
theorem el_462 : El Tryz.prog 462 30 1 := el_ofB (by kernel_rfl)
theorem mkI_3 {v : Value} : ∀ w, (Instr.makeInterface 3 v).run Tryz.prog w = .ok (.iface 3 v) w := fun _ => by kernel_rfl
theorem mkI_4 {v : Value} : ∀ w, (Instr.makeInterface 4 v).run Tryz.prog w = .ok (.iface 4 v) w := fun _ => by kernel_rfl
theorem mkI_9 {v : Value} : ∀ w, (Instr.makeInterface 9 v).run Tryz.prog w = .ok (.iface 9 v) w := fun _ => by kernel_rfl
theorem mkI_169 {v : Value} : ∀ w, (Instr.makeInterface 169 v).run Tryz.prog w = .ok (.iface 169 v) w := fun _ => by kernel_rfl
theorem mkI_170 {v : Value} : ∀ w, (Instr.makeInterface 170 v).run Tryz.prog w = .ok (.iface 170 v) w := fun _ => by kernel_rfl
theorem mkI_171 {v : Value} : ∀ w, (Instr.makeInterface 171 v).run Tryz.prog w = .ok (.iface 171 v) w := fun _ => by kernel_rfl
theorem mkI_173 {v : Value} : ∀ w, (Instr.makeInterface 173 v).run Tryz.prog w = .ok (.iface 173 v) w := fun _ => by kernel_rfl
theorem mkI_411 {v : Value} : ∀ w, (Instr.makeInterface 411 v).run Tryz.prog w = .ok (.iface 411 v) w := fun _ => by kernel_rfl
theorem mkI_414 {v : Value} : ∀ w, (Instr.makeInterface 414 v).run Tryz.prog w = .ok (.iface 414 v) w := fun _ => by kernel_rfl
theorem mkI_477 {v : Value} : ∀ w, (Instr.makeInterface 477 v).run Tryz.prog w = .ok (.iface 477 v) w := fun _ => by kernel_rfl
end Go.Proofs.YtcjphpenelnohaaGreatDoor
/- append of a settled slice; Clone; look-ups in settled maps. -/
namespace Go.Proofs.YtcjphpenelnohaaGreatDoor
open Go.RowKit Go.WideElems

/-- The cells of a settled slice. -/
theorem Sl.cells {α : Type} {K : Cr α} {H : Hp} {b : Nat} : ∀ (xs : List α) (o : Nat), (∀ i x, xs[i]? = some x → ∃ cs, HC H b (o + i * K.k) cs ∧ K.C H cs x) →
    ∃ es, LC K H es xs ∧ ∀ w, Imm H w → ∀ q u, es[q]? = some u → w.cell? ((⟨b, o, none⟩ : Addr).add q) = some u
  | [], o, _ => ⟨[], .nil, fun w _ q u h => by simp at h⟩
  | x :: xs, o, h => by
    obtain ⟨cs, h1, h2⟩ := h 0 x rfl
    obtain ⟨es, h3, h4⟩ := Sl.cells xs (o + K.k) (fun i y hy => by
      obtain ⟨cs, h5, h6⟩ := h (i + 1) y (by simpa using hy)
      exact ⟨cs, by rw [Nat.succ_mul, Nat.add_comm (i * K.k), ← Nat.add_assoc] at h5; exact h5, h6⟩)
    refine ⟨cs ++ es, .cons h2 h3, fun w hI q u hq => ?_⟩
    have hl := K.len h2
    rw [add_off]
    rw [List.getElem?_append] at hq
    split at hq
    · have := h1.cell hI q u hq
      simpa using this
    · have := h4 w hI _ u hq
      rw [add_off, hl] at this
      rename_i hge
      rw [show o + K.k + (q - K.k) = o + q from by omega] at this
      exact this

theorem append_zero {P : Program} {t e : Nat} {i : TypeInfo} (h1 : P.underlying t = some (.slice e)) (h2 : P.info? e = some i) (ty : TypeId) (w : World) (base a : Option Addr) (n c c' : Nat) (hn : n ≤ c) :
    (Builtin.append_ #[t, t] ty #[.slice base n c, .slice a 0 c']).run P w = .ok (.slice base n c) w := by
  have hfc : (Builtin.firstCells i.size 0 (.slice a 0 c')).run P w = .ok #[] w := by
    cases a <;> simp [Builtin.firstCells, loadCells, loadCellsFrom]
  cases base with
  | none => simp [Builtin.append_, run_underlying h1, run_sizeOf h2, Builtin.lenOf, hn, hfc]
  | some b => simp [Builtin.append_, run_underlying h1, run_sizeOf h2, Builtin.lenOf, hn, hfc, storeCells]

section
variable {P : Program} {Q : Exit → Act → World → Prop} {n : Nat} {l : List (Nat × Value)} {ds : List Deferred} {w w0 : World}
  {d : Nat} {x y : Operand} {ty : TypeId} {pos : String} {aft : Array Edge} {v u : Value} {g : Option (Nat × Bool)} {K : Act → World → Prop} {X : List Nat} {H0 H : Hp} {S : List (Nat × Rs)}

/-- append: a row of one's own, and a settled slice. -/
theorem o_appendI {α : Type} {C : Cr α} {t e c c' : Nat} {a a' : Option Addr} {cs : List Value} {xs ys : List α} (i : Nat) (hL : L X H0 w0 S H w) (he : El P t e C.k) (hx : ev n l x = some (.slice a xs.length c)) (hy : ev n l y = some (.slice a' ys.length c'))
    (hs : sk S i = some (.row (.slice a xs.length c) e C.k xs.length cs)) (hys : Sl C H a' c' ys) (hlim : decide (xs.length + ys.length ≤ LIM) = true)
    (k : ∀ a'' c'' es w', LC C H es ys → L X H0 w0 ((i, .row (.slice a'' (xs ++ ys).length c'') e C.k (xs ++ ys).length (cs ++ es)) :: S) H w' → K (fr n ((d, .slice a'' (xs ++ ys).length c'') :: l) ds) w') :
    Oper.wp P ⟨some d, .call ⟨.builtin .append, #[x, y], #[t, t]⟩, ty, pos, aft, g⟩ (fr n l ds) w K Q := by
  obtain ⟨ii, z, h1, h2, h3, h4, h5, h6, h7⟩ := he.out
  have hlim' := of_decide_eq_true hlim
  unfold LIM at hlim'
  have hown := hL.own i _ hs
  by_cases hne : ys = []
  · subst hne
    have hn : xs.length ≤ c := by
      obtain ⟨a1, c1, e1, h8, _⟩ := row_form hown
      simp only [Value.slice.injEq] at e1
      omega
    have hk := k a c [] w .nil (by
      have := hL.step (Value.slice a xs.length c).ownBlock.toList i (.row (.slice a xs.length c) e C.k xs.length cs) (fun b hb => ⟨_, hs, hb⟩) (Ext.refl hL.imm) hown (fun b hb => ⟨(hL.non i _ hs b hb).1, .inl hb⟩)
      simpa using this)
    simp only [List.append_nil] at hk
    refine o_val (w' := w) ?_ hk
    simp only [execOp, resolve, invoke, builtin, Sem.run_bind, Sem.run_pure, Result.andThen_ok, List.map_toArray, List.map_cons, List.map_nil, ev_eval hx, ev_eval hy, List.length_nil]
    rw [append_zero h1 h2 ty w a a' xs.length c c' hn]; rfl
  · obtain ⟨_, hys⟩ := hys
    rcases hys with hys | ⟨b, o, rfl, hys⟩
    · exact absurd hys hne
    obtain ⟨es, hlc, hcell⟩ := Sl.cells ys o hys
    have hm : 0 < ys.length := by cases ys <;> simp_all
    have hbytes : (xs.length + ys.length) * ii.bytes ≤ 140737488355328 := Nat.le_trans (Nat.mul_le_mul hlim' h7) (by decide)
    obtain ⟨g, cap, w', r1, r2, r3, r4, r5⟩ := run_append_lies (w := w) (P := P) t ty 0 e ii z C.k ii.bytes h1 h2 h3 h4 rfl h5 h6 (.slice a xs.length c) xs.length cs hown ⟨b, o, none⟩ ys.length c' es hlc.length (hcell w hL.imm) hlc.one hm (by unfold maxLen; omega) hbytes (Nat.zero_le _) w.heap.size rfl
    have hnon := hL.non i _ hs
    have hstep := hL.step (Value.slice a xs.length c).ownBlock.toList i (.row (.slice (some ⟨g, 0, none⟩) (xs.length + ys.length) cap) e C.k (xs.length + ys.length) (cs ++ es)) (fun b hb => ⟨_, hs, hb⟩)
      (grown_ext r3 hL.imm fun b hb => (hnon b hb).1) r2 (fun b hb => by
        simp [Rs.foot, Value.ownBlock] at hb; subst hb
        rcases r4 with r4 | r4
        · exact ⟨(hnon b (by simp [Rs.foot, r4])).1, .inl (by simp [r4])⟩
        · subst r4; exact ⟨hL.imm.fresh (Nat.le_refl _), .inr (Nat.le_refl _)⟩)
    rw [← List.length_append] at hstep
    refine o_val (w' := w') ?_ (k _ cap es w' hlc hstep)
    simp only [execOp, resolve, invoke, builtin, Sem.run_bind, Sem.run_pure, Result.andThen_ok, List.map_toArray, List.map_cons, List.map_nil, ev_eval hx, ev_eval hy, r1, List.length_append]

theorem r_eqS {t e m c : Nat} {a : Option Addr} (hu : P.underlying t = some (.slice e)) (hx : ev n l x = some (.slice a m c)) (hy : ev n l y = some (.slice none 0 0)) {t' : TypeId} :
    (execOp (fr n l ds).eval ⟨some d, .binOp .eql t x y t', ty, pos, aft, g⟩).run P w = .ok (.value (.bool a.isNone)) w := by
  simp only [execOp, ev_eval hx, ev_eval hy, eqGuard_at_slice, Sem.run_bind, Sem.run_pure, Result.andThen_ok, Lib.run_eql_slice_nil w t e a m c 0 0 hu]
end
theorem Sl.nil_of_none {α : Type} {K : Cr α} {H : Hp} {c : Nat} {xs : List α} (h : Sl K H none c xs) : xs = [] := by
  obtain ⟨_, h⟩ := h
  rcases h with h | ⟨b, o, h, _⟩
  · exact h
  · cases h

/-! ### settled maps -/
theorem keyOf_str {k : Bs} (hk : k.length ≤ LIM) : keyOf Tryz.prog 9 (.string (mk k)) = some (.string k) := by
  have h : (mk k).size ≤ maxLen := by rw [size_mk]; unfold LIM at hk; unfold maxLen; omega
  simp [keyOf, Tryz.underlying9, mapKey, h]
theorem stringKeyed : Go.Maps.Keyed Tryz.prog 9 := Go.Maps.string_keyed Tryz.underlying9

theorem _root_.Go.Proofs.Tryz.underlying173' : Tryz.prog.underlying 173 = some (.map 9 33) := Tryz.underlying173
theorem find_none {m : List (Bs × J)} {k : Bs} (h : ∀ p ∈ m, p.1 ≠ k) : has m k = false ∧ look m k = .null := by
  have h1 : m.find? (fun p => p.1 == k) = none := List.find?_eq_none.2 fun p hp => by simpa using h p hp
  exact ⟨by simpa [has] using fun a b hp => h (a, b) hp, by simp [look, h1]⟩
theorem find_some {m : List (Bs × J)} (ho : m.Pairwise fun p q => p.1 < q.1) {p : Bs × J} (hp : p ∈ m) : has m p.1 = true ∧ look m p.1 = p.2 := by
  refine ⟨by simp only [has, List.any_eq_true, beq_iff_eq]; exact ⟨p, hp, rfl⟩, ?_⟩
  have : m.find? (fun q => q.1 == p.1) = some p := by
    induction m with
    | nil => cases hp
    | cons q m ih =>
      rcases List.mem_cons.1 hp with rfl | hp'
      · simp
      · have hlt := (List.pairwise_cons.1 ho).1 p hp'
        have hne : ¬ q.1 = p.1 := fun e => by rw [e] at hlt; exact List.lt_irrefl _ hlt
        rw [List.find?_cons_of_neg (by simpa using hne)]
        exact ih (List.pairwise_cons.1 ho).2 hp'
  simp [look, this]

set_option maxRecDepth 100000 in
/-- A look-up in a settled map of values. -/
theorem mr_look {H : Hp} {r : Option Nat} {m : List (Bs × J)} (hm : MR H r m) (k : Bs) (hk : decide (k.length ≤ LIM) = true) (c : Bool) : ∃ v, VR H v (look m k) ∧
    ∀ w, Imm H w → (Instr.lookup 173 (.map r) (.string (mk k)) c).run Tryz.prog w = .ok (if c then .tuple (List.toArray [.agg (List.toArray [v]), .bool (has m k)]) else .agg (List.toArray [v])) w := by
  have hk' := of_decide_eq_true hk
  have hz := fun w => run_zero (w := w) ze_33
  cases hm with
  | none =>
    refine ⟨.nilIface, .null, fun w _ => ?_⟩
    have e1 : Instr.findNow .string (.string (mk k)) [] 0 = some none := rfl
    have e2 : ∀ w, (underlying 173).run Tryz.prog w = .ok (.map 9 33) w := fun w => run_underlying Tryz.underlying173' w
    have e3 : ∀ w, (Instr.checkKey true 10000 9 (.string (mk k))).run Tryz.prog w = .ok () w := fun w => stringKeyed.check w true (keyOf_str hk')
    simp only [Instr.lookup, Sem.run_bind, e2, Sem.run_pure, Result.andThen_ok, e3, Instr.findKey, run_underlying Tryz.underlying9, e1, hz, has, Array.isEmpty_empty, List.any_nil]
  | some hl hH hF ho hks hs he =>
    rename_i b clock es
    have hkey := keyOf_str hk'
    by_cases hmem : ∃ p ∈ m, p.1 = k
    · obtain ⟨p, hp, rfl⟩ := hmem
      obtain ⟨h1, h2⟩ := find_some ho hp
      obtain ⟨x, hx, hxk⟩ := he p hp
      have key : ∀ x' ∈ es.toList, x'.key = .string (mk p.1) → ∃ v, x'.val = .agg (List.toArray [v]) ∧ VR H v p.2 := by
        intro x' hx' hk2
        obtain ⟨q, hq, v, h3, h4, h5⟩ := hs x' hx'
        have hqp : q.1 = p.1 := by rw [h3] at hk2; simpa using hk2
        have hqe : q = p := by
          have e1 := (find_some ho hq).2
          have e2 := h2
          rw [hqp] at e1
          exact Prod.ext hqp (e1.symm.trans e2)
        exact ⟨v, h4, hqe ▸ h5⟩
      have hw0 : ∀ w, Imm H w → ∃ e0 v, e0 ∈ es.toList ∧ e0.key = .string (mk p.1) ∧ e0.val = .agg (List.toArray [v]) ∧ VR H v p.2 ∧ (Instr.lookup 173 (.map (some b)) (.string (mk p.1)) c).run Tryz.prog w = .ok (if c then .tuple (List.toArray [.agg (List.toArray [v]), .bool true]) else .agg (List.toArray [v])) w := by
        intro w hI
        rcases Go.Maps.fit_look c stringKeyed Tryz.underlying173' (hz w) (hI b _ hH) hF hkey with ⟨_, hno, _⟩ | ⟨e0, y, he0, hek, hrun, _⟩
        · exact absurd hxk (hno x hx)
        · obtain ⟨v, hv1, hv2⟩ := key e0 he0 hek
          refine ⟨e0, v, he0, hek, hv1, hv2, ?_⟩
          rw [hrun, hv1]
      -- one value in every world: the entries are the same
      have huniq : ∀ e0 ∈ es.toList, ∀ e1 ∈ es.toList, e0.key = e1.key → e0.val = e1.val := by
        intro e0 h0 e1 h1 hk0
        have hp := (MapKept.stamped_iff es clock).1 hF.stamped
        have := hp.2.2
        by_cases hne : e0 = e1
        · rw [hne]
        · exfalso
          have hnd : (es.toList.map (·.key)).Nodup := hF.stamped.2.2
          obtain ⟨i, hi⟩ := List.getElem?_of_mem h0
          obtain ⟨j, hj⟩ := List.getElem?_of_mem h1
          have hij : i = j := by
            have hli : i < (es.toList.map (·.key)).length := by simpa using (List.getElem?_eq_some_iff.1 hi).1
            have hlj : j < (es.toList.map (·.key)).length := by simpa using (List.getElem?_eq_some_iff.1 hj).1
            refine (List.getElem_inj (h₀ := hli) (h₁ := hlj) hnd).1 ?_
            have e2 := (List.getElem?_eq_some_iff.1 hi).2
            have e3 := (List.getElem?_eq_some_iff.1 hj).2
            simp only [List.getElem_map, e2, e3, hk0]
          subst hij
          rw [hi] at hj; cases hj; exact hne rfl
      obtain ⟨v0, hv0, hv0r⟩ := key x hx hxk
      refine ⟨v0, by rw [h2]; exact hv0r, fun w hI => ?_⟩
      obtain ⟨e0, v, he0, hek, hv, _, hrun⟩ := hw0 w hI
      have : Value.agg (List.toArray [v]) = .agg (List.toArray [v0]) := by
        rw [← hv, ← hv0]; exact huniq e0 he0 x hx (hek.trans hxk.symm)
      simp only [Value.agg.injEq] at this
      have hvv : v = v0 := by simpa using this
      rw [hrun, h1, hvv]
    · obtain ⟨h1, h2⟩ := find_none (m := m) (k := k) fun p hp e => hmem ⟨p, hp, e⟩
      refine ⟨.nilIface, by rw [h2]; exact .null, fun w hI => ?_⟩
      rcases Go.Maps.fit_look c stringKeyed Tryz.underlying173' (hz w) (hI b _ hH) hF hkey with ⟨hrun, _, _⟩ | ⟨e0, y, he0, hek, _⟩
      · rw [hrun, h1]
      · obtain ⟨q, hq, v, h3, _⟩ := hs e0 he0
        exact absurd ⟨q, hq, by rw [h3] at hek; simpa using hek⟩ hmem
end Go.Proofs.YtcjphpenelnohaaGreatDoor
/- The words of the models: addresses, nodes, entries, types, schemas, changes; maps as lists of entries. No program in sight. -/
namespace Go.Proofs.YtcjphpenelnohaaGreatDoor

structure Ad where
  prov : Bs
  knd : Bs
  name : Bs
  idx : Int
  deriving DecidableEq, Inhabited
structure Nd where
  at_ : Ad
  needs : List Ad
  deriving DecidableEq, Inhabited
structure En where
  at_ : Ad
  ver : Int
  val : J
  priv : Bs
  needs : List Ad
  deriving Inhabited
/-- Types of package kind; 'no': the nil pointer. -/
inductive Ty where
  | no
  | mk (form : Int) (l : List Ty) (names : List Bs) (loose : List Bool)
  deriving Inhabited
namespace Ty
def isNo : Ty → Bool | .no => true | _ => false
def form : Ty → Int | .mk f _ _ _ => f | _ => 0
def lst : Ty → List Ty | .mk _ l _ _ => l | _ => []
def names : Ty → List Bs | .mk _ _ n _ => n | _ => []
def loose : Ty → List Bool | .mk _ _ _ b => b | _ => []
end Ty
structure At where
  name : Bs
  ty : Ty
  must : Bool
  own : Bool
  hide : Bool
  new : Bool
  deriving Inhabited
inductive Sch where
  | no
  | mk (ver : Int) (l : List At)
  deriving Inhabited
namespace Sch
def isNo : Sch → Bool | .no => true | _ => false
def ver : Sch → Int | .mk v _ => v | _ => 0
def lst : Sch → List At | .mk _ l => l | _ => []
end Sch
structure Chg where
  way : List Step
  a : J
  b : J
  old : Bool
  new : Bool
  deriving Inhabited

section
variable {κ α : Type} [BEq κ]
def mhas (m : List (κ × α)) (k : κ) : Bool := m.any fun p => p.1 == k
def mget (m : List (κ × α)) (k : κ) (d : α) : α := ((m.find? fun p => p.1 == k).map (·.2)).getD d
def mput (k : κ) (x : α) : List (κ × α) → List (κ × α)
  | [] => [(k, x)]
  | p :: m => if p.1 == k then (k, x) :: m else p :: mput k x m
def mdel (k : κ) (m : List (κ × α)) : List (κ × α) := m.filter fun p => !(p.1 == k)
end
section
variable {κ α : Type} [BEq κ] [LawfulBEq κ]
theorem mget_none {m : List (κ × α)} {k : κ} (h : ∀ p ∈ m, p.1 ≠ k) (d : α) : mhas m k = false ∧ mget m k d = d := by
  have h1 : m.find? (fun p => p.1 == k) = none := List.find?_eq_none.2 fun p hp => by simpa using h p hp
  exact ⟨by simpa [mhas] using fun a b hp => h (a, b) hp, by simp [mget, h1]⟩
theorem mget_some {m : List (κ × α)} (hn : (m.map (·.1)).Nodup) {p : κ × α} (hp : p ∈ m) (d : α) : mhas m p.1 = true ∧ mget m p.1 d = p.2 := by
  refine ⟨by simp only [mhas, List.any_eq_true, beq_iff_eq]; exact ⟨p, hp, rfl⟩, ?_⟩
  have : m.find? (fun q => q.1 == p.1) = some p := by
    induction m with
    | nil => cases hp
    | cons q m ih =>
      simp only [List.map_cons, List.nodup_cons] at hn
      rcases List.mem_cons.1 hp with rfl | hp'
      · simp
      · have hne : ¬ q.1 = p.1 := fun e => hn.1 (e ▸ List.mem_map.2 ⟨p, hp', rfl⟩)
        rw [List.find?_cons_of_neg (by simpa using hne)]
        exact ih hn.2 hp'
  simp [mget, this]
theorem filter_ne_self {m : List (κ × α)} {k : κ} (h : ∀ p ∈ m, p.1 ≠ k) : m.filter (fun p => !(p.1 == k)) = m :=
  List.filter_eq_self.2 fun p hp => by simpa using h p hp
theorem mput_perm (k : κ) (x : α) : ∀ {m : List (κ × α)}, (m.map (·.1)).Nodup → (mput k x m).Perm ((k, x) :: m.filter fun p => !(p.1 == k))
  | [], _ => by simp [mput]
  | p :: m, hn => by
    simp only [List.map_cons, List.nodup_cons] at hn
    unfold mput
    by_cases h : p.1 = k
    · have hm : ∀ q ∈ m, q.1 ≠ k := fun q hq e => hn.1 (by rw [h, ← e]; exact List.mem_map.2 ⟨q, hq, rfl⟩)
      simp [h, filter_ne_self hm]
    · have hb : (p.1 == k) = false := by simpa using h
      simp only [hb, Bool.false_eq_true, if_false, Bool.not_false, List.filter_cons, if_true]
      exact ((mput_perm k x hn.2).cons p).trans (List.Perm.swap _ _ _)
end
theorem ins_perm (k : Bs) (x : J) : ∀ {m : List (Bs × J)}, m.Pairwise (fun p q => p.1 < q.1) → (ins k x m).Perm ((k, x) :: m.filter fun p => !(p.1 == k))
  | [], _ => by simp [ins]
  | p :: m, ho => by
    obtain ⟨h1, h2⟩ := List.pairwise_cons.1 ho
    unfold ins
    by_cases hlt : k < p.1
    · have hm : ∀ q ∈ p :: m, q.1 ≠ k := by
        intro q hq e
        rcases List.mem_cons.1 hq with rfl | hq
        · rw [e] at hlt; exact List.lt_irrefl _ hlt
        · have := h1 q hq; rw [e] at this; exact List.lt_irrefl _ (List.lt_trans hlt this)
      rw [if_pos hlt, filter_ne_self hm]
    · rw [if_neg hlt]
      by_cases he : k = p.1
      · have hm : ∀ q ∈ m, q.1 ≠ k := fun q hq e => by have := h1 q hq; rw [e, he] at this; exact List.lt_irrefl _ this
        have hb : (!(p.1 == k)) = false := by simp [he]
        rw [if_pos he, List.filter_cons, hb, filter_ne_self hm]
        simp
      · have hb : (!(p.1 == k)) = true := by simpa using fun e => he e.symm
        rw [if_neg he, List.filter_cons, hb, if_pos rfl]
        exact ((ins_perm k x h2).cons p).trans (List.Perm.swap _ _ _)
theorem not_lt_of_ne {a b : Bs} (h : ¬ a < b) (hne : a ≠ b) : b < a := by
  rcases Std.lt_trichotomy a b with h1 | h1 | h1
  · exact absurd h1 h
  · exact absurd h1 hne
  · exact h1
theorem ins_sorted (k : Bs) (x : J) : ∀ {m : List (Bs × J)}, m.Pairwise (fun p q => p.1 < q.1) → (ins k x m).Pairwise (fun p q => p.1 < q.1)
  | [], _ => by simp [ins]
  | p :: m, ho => by
    obtain ⟨h1, h2⟩ := List.pairwise_cons.1 ho
    unfold ins
    by_cases hlt : k < p.1
    · rw [if_pos hlt]
      refine List.pairwise_cons.2 ⟨fun q hq => ?_, ho⟩
      rcases List.mem_cons.1 hq with rfl | hq
      · exact hlt
      · exact List.lt_trans hlt (h1 q hq)
    · rw [if_neg hlt]
      by_cases he : k = p.1
      · rw [if_pos he]
        exact List.pairwise_cons.2 ⟨fun q hq => by rw [he]; exact h1 q hq, h2⟩
      · rw [if_neg he]
        refine List.pairwise_cons.2 ⟨fun q hq => ?_, ins_sorted k x h2⟩
        rcases List.mem_cons.1 ((ins_perm k x h2).mem_iff.1 hq) with rfl | hq
        · exact not_lt_of_ne hlt he
        · exact h1 q (List.mem_filter.1 hq).1
theorem nodup_of_sorted {m : List (Bs × J)} (ho : m.Pairwise fun p q => p.1 < q.1) : (m.map (·.1)).Nodup := by
  rw [List.Nodup, List.pairwise_map]
  exact ho.imp fun h e => by rw [e] at h; exact List.lt_irrefl _ h
end Go.Proofs.YtcjphpenelnohaaGreatDoor
/- Maps of one's own: made, asked, written, deleted from, settled. -/
set_option linter.unusedSectionVars false
set_option linter.unusedSimpArgs false
namespace Go.Proofs.YtcjphpenelnohaaGreatDoor
open Go.RowKit Go.WideElems Go.MapKept
open Go.ChangeMaps (setBlock)

/-- A key type: how a key of the model is written. -/
structure KK (κ : Type) where
  kt : TypeId
  kv : κ → Value
  ok : κ → Bool
  keyed : Go.Maps.Keyed Tryz.prog kt
  key : ∀ k, ok k = true → ∃ l, keyOf Tryz.prog kt (kv k) = some l
  inj : ∀ a b, kv a = kv b → a = b
/-- What stands in a map. -/
structure EV (α : Type) where
  E : Hp → Value → α → Prop
  mono : ∀ {H H'}, Hle H H' → ∀ {v x}, E H v x → E H' v x
/-- .. a struct, or an array; anything else. -/
def evA {α : Type} (C : Cr α) : EV α where
  E H v x := ∃ cs, v = .agg cs.toArray ∧ C.C H cs x
  mono := by rintro H H' h v x ⟨cs, h1, h2⟩; exact ⟨cs, h1, C.mono h h2⟩
def ev1 {α : Type} (C : Cr α) : EV α where
  E H v x := C.C H [v] x
  mono := by intro H H' h v x h1; exact C.mono h h1

/-- A map's entries, and what they are. -/
structure TR {κ α : Type} [BEq κ] (K : KK κ) (V : EV α) (H : Hp) (es : Array MapEntry) (clock : Nat) (m : List (κ × α)) : Prop where
  st : Stamped es clock
  sz : es.size = m.length
  lim : m.length ≤ LIM
  ok : ∀ p ∈ m, K.ok p.1 = true
  nd : (m.map (·.1)).Nodup
  to : ∀ x ∈ es.toList, ∃ p ∈ m, x.key = K.kv p.1 ∧ V.E H x.val p.2
  fro : ∀ p ∈ m, ∃ x ∈ es.toList, x.key = K.kv p.1

section
variable {κ α : Type} [BEq κ] [LawfulBEq κ] {K : KK κ} {V : EV α} {H H' : Hp} {es : Array MapEntry} {clock : Nat} {m : List (κ × α)}
theorem TR.mono (h : Hle H H') (t : TR K V H es clock m) : TR K V H' es clock m :=
  ⟨t.st, t.sz, t.lim, t.ok, t.nd, fun x hx => let ⟨p, hp, h1, h2⟩ := t.to x hx; ⟨p, hp, h1, V.mono h h2⟩, t.fro⟩
theorem TR.nil : TR K V H #[] 0 ([] : List (κ × α)) :=
  ⟨stamped_empty 0, rfl, Nat.zero_le _, (by simp), (by simp), (by simp), (by simp)⟩
theorem TR.keys (t : TR K V H es clock m) : ∀ e ∈ es.toList, ∃ l, keyOf Tryz.prog K.kt e.key = some l := fun e he => by
  obtain ⟨p, hp, h1, _⟩ := t.to e he
  rw [h1]; exact K.key _ (t.ok p hp)
theorem TR.fit (t : TR K V H es clock m) : Fit Tryz.prog K.kt R0 es clock :=
  ⟨by rw [t.sz]; exact Nat.le_trans t.lim (by unfold LIM maxLen; omega), t.st, fun x hx => by
    obtain ⟨l, hl⟩ := t.keys x hx
    exact ⟨_, rd_mk (key := x.key) (val := x.val) (born := x.born) hl rfl⟩⟩
theorem TR.room (t : TR K V H es clock m) : es.size < maxLen := by
  rw [t.sz]; exact Nat.lt_of_le_of_lt t.lim (by unfold LIM maxLen; omega)
/-- The entry of a key. -/
theorem TR.at (t : TR K V H es clock m) {p : κ × α} (hp : p ∈ m) {x : MapEntry} (hx : x ∈ es.toList) (hk : x.key = K.kv p.1) : V.E H x.val p.2 := by
  obtain ⟨q, hq, h1, h2⟩ := t.to x hx
  have hqp : q.1 = p.1 := K.inj _ _ (h1.symm.trans hk)
  have : q = p := by
    refine Prod.ext hqp ?_
    have e1 := (mget_some t.nd hq p.2).2
    have e2 := (mget_some t.nd hp p.2).2
    rw [hqp] at e1
    exact e1.symm.trans e2
  exact this ▸ h2
theorem TR.find (t : TR K V H es clock m) {k : κ} (hk : K.ok k = true) (w : World) :
    ((Instr.findKey K.kt (K.kv k) es.toList).run Tryz.prog w = .ok none w ∧ (∀ x ∈ es.toList, x.key ≠ K.kv k) ∧ ∀ p ∈ m, p.1 ≠ k) ∨
    ∃ j e, (Instr.findKey K.kt (K.kv k) es.toList).run Tryz.prog w = .ok (some (j, e.val)) w ∧ es.toList[j]? = some e ∧ e.key = K.kv k ∧ ∃ p ∈ m, p.1 = k := by
  obtain ⟨l, hl⟩ := K.key k hk
  rcases K.keyed.find w hl es.toList t.keys with ⟨h1, h2⟩ | ⟨j, e, h1, h2, h3⟩
  · refine .inl ⟨h1, h2, fun p hp e => ?_⟩
    obtain ⟨x, hx, hxk⟩ := t.fro p hp
    exact h2 x hx (by rw [hxk, e])
  · refine .inr ⟨j, e, h1, h2, h3, ?_⟩
    obtain ⟨p, hp, h4, _⟩ := t.to e (List.mem_of_getElem? h2)
    exact ⟨p, hp, K.inj _ _ (h4.symm.trans h3)⟩
theorem len_none {k : κ} {x : α} {m' : List (κ × α)} (hp : m'.Perm ((k, x) :: m.filter fun p => !(p.1 == k))) (h : ∀ p ∈ m, p.1 ≠ k) : m'.length = m.length + 1 := by
  rw [hp.length_eq, filter_ne_self h]; rfl
theorem len_some {k : κ} {x : α} {m' : List (κ × α)} (hn : (m.map (·.1)).Nodup) (hp : m'.Perm ((k, x) :: m.filter fun p => !(p.1 == k))) (h : ∃ p ∈ m, p.1 = k) : m'.length = m.length := by
  rw [hp.length_eq, List.length_cons]
  clear hp
  induction m with
  | nil => obtain ⟨p, hp, _⟩ := h; cases hp
  | cons q m ih =>
    simp only [List.map_cons, List.nodup_cons] at hn
    by_cases hq : q.1 = k
    · have hm : ∀ p ∈ m, p.1 ≠ k := fun p hp e => hn.1 (by rw [hq, ← e]; exact List.mem_map.2 ⟨p, hp, rfl⟩)
      simp [List.filter_cons, hq, filter_ne_self hm]
    · have hb : (!(q.1 == k)) = true := by simpa using hq
      obtain ⟨p, hp, e⟩ := h
      rcases List.mem_cons.1 hp with rfl | hp
      · exact absurd e hq
      · rw [List.filter_cons, hb, if_pos rfl, List.length_cons, ih hn.2 ⟨p, hp, e⟩, List.length_cons]
theorem nodup_put {k : κ} {x : α} {m' : List (κ × α)} (hn : (m.map (·.1)).Nodup) (hp : m'.Perm ((k, x) :: m.filter fun p => !(p.1 == k))) : (m'.map (·.1)).Nodup := by
  refine (hp.map (·.1)).nodup_iff.2 ?_
  rw [List.map_cons, List.nodup_cons]
  refine ⟨fun h => ?_, (List.filter_sublist.map _).nodup hn⟩
  obtain ⟨p, hp, e⟩ := List.mem_map.1 h
  have := (List.mem_filter.1 hp).2
  simp [e] at this
theorem mem_put {k : κ} {x : α} {m' : List (κ × α)} (hp : m'.Perm ((k, x) :: m.filter fun p => !(p.1 == k))) (p : κ × α) : p ∈ m' ↔ p = (k, x) ∨ (p ∈ m ∧ p.1 ≠ k) := by
  rw [hp.mem_iff, List.mem_cons, List.mem_filter]
  simp

/-- 'm[k] = x'. -/
theorem TR.put {t e : TypeId} {b : Nat} {w : World} (T : TR K V H es clock m) (ht : Tryz.prog.underlying t = some (.map K.kt e)) (hb : w.heap[b]? = some (.map es clock)) {k : κ} (hk : K.ok k = true) {v : Value} {x : α} (hv : V.E H v x)
    {m' : List (κ × α)} (hp : m'.Perm ((k, x) :: m.filter fun p => !(p.1 == k))) (hlim : m'.length ≤ LIM) :
    ∃ es' clock', (Instr.mapUpdate t (.map (some b)) (K.kv k) v).run Tryz.prog w = .ok () (setBlock w b (.map es' clock')) ∧ TR K V H es' clock' m' := by
  obtain ⟨l, hl⟩ := K.key k hk
  have hok : ∀ p ∈ m', K.ok p.1 = true := fun p hpm => by
    rcases (mem_put hp p).1 hpm with rfl | ⟨h1, _⟩
    · exact hk
    · exact T.ok p h1
  have hkv : ∀ p ∈ m', p.1 = k → p = (k, x) := fun p hpm e => by
    rcases (mem_put hp p).1 hpm with h1 | ⟨_, h1⟩
    · exact h1
    · exact absurd e h1
  rcases T.find hk w with ⟨h1, h2, h3⟩ | ⟨j, e0, h1, h2, h3, h4⟩
  · refine ⟨es.push ⟨K.kv k, v, clock⟩, clock + 1, ?_, stamped_push T.st h2, by rw [Array.size_push, T.sz, len_none hp h3], hlim, hok, nodup_put T.nd hp, ?_, ?_⟩
    · simp [Instr.mapUpdate, run_underlying ht, MapKept.run_getObj_map hb, K.keyed.check w false hl, h1, MapKept.run_setObj_map _ hb, Result.andThen, setBlock]
    · intro y hy
      simp only [Array.toList_push, List.mem_append, List.mem_singleton] at hy
      rcases hy with hy | rfl
      · obtain ⟨p, hpm, h5, h6⟩ := T.to y hy
        exact ⟨p, (mem_put hp p).2 (.inr ⟨hpm, h3 p hpm⟩), h5, h6⟩
      · exact ⟨(k, x), (mem_put hp _).2 (.inl rfl), rfl, hv⟩
    · intro p hpm
      simp only [Array.toList_push, List.mem_append, List.mem_singleton]
      rcases (mem_put hp p).1 hpm with rfl | ⟨h5, _⟩
      · exact ⟨_, .inr rfl, rfl⟩
      · obtain ⟨y, hy, h6⟩ := T.fro p h5
        exact ⟨y, .inl hy, h6⟩
  · have hj : es[j]? = some e0 := by simpa using h2
    have hjl : j < es.toList.length := (List.getElem?_eq_some_iff.1 h2).1
    have hkeyf : ∀ e', es[j]? = some e' → ({ e' with key := K.kv k, val := v } : MapEntry).key = e'.key := fun e' he' => by rw [hj] at he'; cases he'; exact h3.symm
    have hlist : (es.modify j (fun e' => { e' with key := K.kv k, val := v })).toList = es.toList.set j { e0 with key := K.kv k, val := v } := by rw [Array.toList_modify, ChangeMaps.modify_eq_set _ _ _ _ h2]
    have who : ∀ y, y ∈ es.toList.set j { e0 with key := K.kv k, val := v } → y = { e0 with key := K.kv k, val := v } ∨ (y ∈ es.toList ∧ y.key ≠ K.kv k) := by
      intro y hy
      obtain ⟨i, hi, ey⟩ := List.getElem_of_mem hy
      rw [List.getElem_set] at ey
      split at ey
      · exact Or.inl ey.symm
      · rename_i hne
        have hi' : i < es.toList.length := by simpa using hi
        refine Or.inr ⟨ey ▸ List.getElem_mem hi', ?_⟩
        rw [← h3]
        exact other_key T.fit h2 (by rw [List.getElem?_eq_getElem hi', ey]) (fun e1 => hne e1.symm)
    refine ⟨es.modify j (fun e' => { e' with key := K.kv k, val := v }), clock, ?_, stamped_modify T.st _ _ (fun _ _ => rfl) (fun e' _ he' => hkeyf e' he'), by rw [Array.size_modify, T.sz, len_some T.nd hp h4], hlim, hok, nodup_put T.nd hp, ?_, ?_⟩
    · simp [Instr.mapUpdate, run_underlying ht, MapKept.run_getObj_map hb, K.keyed.check w false hl, h1, hj, h3, K.keyed.stays w hl, MapKept.run_setObj_map _ hb, Result.andThen, setBlock]
    · intro y hy
      rw [hlist] at hy
      rcases who y hy with rfl | ⟨hy, hne⟩
      · exact ⟨(k, x), (mem_put hp _).2 (.inl rfl), rfl, hv⟩
      · obtain ⟨p, hpm, h5, h6⟩ := T.to y hy
        exact ⟨p, (mem_put hp p).2 (.inr ⟨hpm, fun e => hne (by rw [h5, e])⟩), h5, h6⟩
    · intro p hpm
      rw [hlist]
      rcases (mem_put hp p).1 hpm with rfl | ⟨h5, hne⟩
      · exact ⟨{ e0 with key := K.kv k, val := v }, List.mem_iff_getElem.2 ⟨j, by simpa using hjl, by simp⟩, rfl⟩
      · obtain ⟨y, hy, h6⟩ := T.fro p h5
        obtain ⟨i, hi⟩ := List.getElem?_of_mem hy
        have hij : j ≠ i := fun e => by
          subst e; rw [h2] at hi; cases hi
          exact hne (K.inj _ _ (h6.symm.trans h3))
        refine ⟨y, List.mem_of_getElem? (i := i) ?_, h6⟩
        rw [List.getElem?_set, if_neg hij]; exact hi

/-- 'delete(m, k)'. -/
theorem TR.del {t e ty : TypeId} {b : Nat} {w : World} (T : TR K V H es clock m) (ht : Tryz.prog.underlying t = some (.map K.kt e)) (hb : w.heap[b]? = some (.map es clock)) {k : κ} (hk : K.ok k = true) :
    ∃ es', (Builtin.delete_ #[t, K.kt] ty #[.map (some b), K.kv k]).run Tryz.prog w = .ok (.tuple #[]) (setBlock w b (.map es' clock)) ∧ TR K V H es' clock (mdel k m) := by
  obtain ⟨l, hl⟩ := K.key k hk
  have hnd : ((mdel k m).map (·.1)).Nodup := (List.filter_sublist.map _).nodup T.nd
  have hok : ∀ p ∈ mdel k m, K.ok p.1 = true := fun p hp => T.ok p (List.mem_filter.1 hp).1
  have hlim : (mdel k m).length ≤ LIM := Nat.le_trans (List.length_filter_le _ _) T.lim
  rcases T.find hk w with ⟨h1, h2, h3⟩ | ⟨j, e0, h1, h2, h3, h4⟩
  · have hself : mdel k m = m := filter_ne_self h3
    refine ⟨es, ?_, by rw [hself]; exact T⟩
    simp [Builtin.delete_, run_underlying ht, MapKept.run_getObj_map hb, K.keyed.check w _ hl, h1, MapKept.run_setObj_map _ hb, Result.andThen, setBlock]
  · have hjl : j < es.toList.length := (List.getElem?_eq_some_iff.1 h2).1
    have hjs : j < es.size := by simpa using hjl
    have hsub : (es.eraseIdxIfInBounds j).toList = es.toList.eraseIdx j := by
      unfold Array.eraseIdxIfInBounds
      rw [dif_pos hjs]
      simp
    have hlen : m.length = (mdel k m).length + 1 := by
      obtain ⟨p, hp, e⟩ := h4
      have := len_some (m := m) (k := k) (x := p.2) T.nd (List.Perm.refl _) ⟨p, hp, e⟩
      rw [List.length_cons] at this
      exact this.symm
    have hmem : ∀ x, x ∈ es.toList.eraseIdx j ↔ (x ∈ es.toList ∧ x.key ≠ K.kv k) := by
      intro x
      rw [List.mem_eraseIdx_iff_getElem?]
      constructor
      · rintro ⟨i, hne, hi⟩
        exact ⟨List.mem_of_getElem? hi, by rw [← h3]; exact other_key T.fit h2 hi hne⟩
      · rintro ⟨hx, hne⟩
        obtain ⟨i, hi⟩ := List.getElem?_of_mem hx
        refine ⟨i, fun e1 => hne ?_, hi⟩
        rw [e1, h2] at hi
        cases hi
        exact h3
    refine ⟨es.eraseIdxIfInBounds j, ?_, stamped_erase T.st j, ?_, hlim, hok, hnd, ?_, ?_⟩
    · simp [Builtin.delete_, run_underlying ht, MapKept.run_getObj_map hb, K.keyed.check w _ hl, h1, MapKept.run_setObj_map _ hb, Result.andThen, setBlock]
    · have : (es.eraseIdxIfInBounds j).toList.length = es.toList.length - 1 := by rw [hsub, List.length_eraseIdx, if_pos hjl]
      simp only [Array.length_toList] at this
      rw [this, T.sz, hlen]; rfl
    · intro x hx
      rw [hsub] at hx
      obtain ⟨hx, hne⟩ := (hmem x).1 hx
      obtain ⟨p, hp, h5, h6⟩ := T.to x hx
      exact ⟨p, List.mem_filter.2 ⟨hp, by simpa using fun e => hne (by rw [h5, e])⟩, h5, h6⟩
    · intro p hp
      obtain ⟨hp, hne⟩ := List.mem_filter.1 hp
      obtain ⟨x, hx, h5⟩ := T.fro p hp
      refine ⟨x, ?_, h5⟩
      rw [hsub]
      exact (hmem x).2 ⟨hx, fun e => by simp [K.inj _ _ (h5.symm.trans e)] at hne⟩

/-- 'm[k]', 'm[k], ok'. -/
theorem TR.look {t e : TypeId} {b : Nat} (T : TR K V H es clock m) (ht : Tryz.prog.underlying t = some (.map K.kt e)) {z : Value} (hz : Ze Tryz.prog e z) {k : κ} (hk : K.ok k = true) {d : α} (hd : V.E H z d) (c : Bool) :
    ∃ v, V.E H v (mget m k d) ∧ ∀ w, w.heap[b]? = some (.map es clock) → (Instr.lookup t (.map (some b)) (K.kv k) c).run Tryz.prog w = .ok (if c then .tuple (List.toArray [v, .bool (mhas m k)]) else v) w := by
  obtain ⟨l, hl⟩ := K.key k hk
  by_cases hmem : ∃ p ∈ m, p.1 = k
  · obtain ⟨p, hp, rfl⟩ := hmem
    obtain ⟨h1, h2⟩ := mget_some T.nd hp d
    obtain ⟨x, hx, hxk⟩ := T.fro p hp
    refine ⟨x.val, by rw [h2]; exact T.at hp hx hxk, fun w hb => ?_⟩
    rcases T.find hk w with ⟨_, h3, _⟩ | ⟨j, e0, h3, h4, h5, _⟩
    · exact absurd hxk (h3 x hx)
    · have he : e0 = x := by
        have hnd := ((stamped_iff es clock).1 T.st).2.2
        by_cases hne : e0 = x
        · exact hne
        · exfalso
          obtain ⟨i, hi⟩ := List.getElem?_of_mem hx
          have hij : i ≠ j := fun e => by subst e; rw [h4] at hi; cases hi; exact hne rfl
          exact other_key T.fit h4 hi hij (hxk.trans h5.symm)
      subst he
      rw [h1]
      simp [Instr.lookup, run_underlying ht, MapKept.run_getObj_map hb, K.keyed.check w _ hl, h3, Result.andThen]
  · obtain ⟨h1, h2⟩ := mget_none (m := m) (k := k) (fun p hp e => hmem ⟨p, hp, e⟩) d
    refine ⟨z, by rw [h2]; exact hd, fun w hb => ?_⟩
    rcases T.find hk w with ⟨h3, _, _⟩ | ⟨j, e0, _, _, _, h3⟩
    · rw [h1]
      simp [Instr.lookup, run_underlying ht, MapKept.run_getObj_map hb, K.keyed.check w _ hl, h3, run_zero hz, Result.andThen]
    · exact absurd h3 hmem
/-- .. of the nil map. -/
theorem look_nil {t e : TypeId} {d' : TypeDesc} (ht : Tryz.prog.underlying t = some (.map K.kt e)) {z : Value} (hz : Ze Tryz.prog e z) {k : κ} (hk : K.ok k = true) (_ : Tryz.prog.underlying K.kt = some d') (c : Bool) (w : World) :
    (Instr.lookup t (.map none) (K.kv k) c).run Tryz.prog w = .ok (if c then .tuple (List.toArray [z, .bool false]) else z) w := by
  obtain ⟨l, hl⟩ := K.key k hk
  have h3 : (Instr.findKey K.kt (K.kv k) []).run Tryz.prog w = .ok none w := by
    rcases K.keyed.find w hl [] (by simp) with ⟨h, _⟩ | ⟨j, e, _, h, _⟩
    · exact h
    · simp at h
  simp [Instr.lookup, run_underlying ht, K.keyed.check w _ hl, h3, run_zero hz, Result.andThen]
end
end Go.Proofs.YtcjphpenelnohaaGreatDoor
/- The program's types lie as their lay-out says; addresses as keys. -/
namespace Go.Proofs.YtcjphpenelnohaaGreatDoor

theorem laidP : laidOutB Tryz.prog = true := by kernel_rfl
theorem wide50 : (match Tryz.prog.underlying 50 with | some (.array _ _) | some (.struct _) => true | _ => false) = true := by kernel_rfl
theorem row50 : 50 < Tryz.prog.types.size := by
  have : Nat.blt 50 Tryz.prog.types.size = true := by kernel_rfl
  simpa using this
theorem kt50 : Tryz.prog.keyTypeAt 3 50 = true := by kernel_rfl
set_option maxRecDepth 100000 in
theorem law50 : Go.Maps.Keyed Tryz.prog 50 := Go.Maps.Keyed.of_law (deep_law_laid laidP (m := 3) (by omega) row50 kt50 wide50)
end Go.Proofs.YtcjphpenelnohaaGreatDoor
/- Equality of structs; what the kit asks of key types. -/
set_option linter.unusedSectionVars false
namespace Go.Proofs.YtcjphpenelnohaaGreatDoor
open Go.RowKit Go.WideElems Go.MapKept

theorem part_at {P : Program} {e : TypeId} {cs : List Value} {off : Nat} {v : Value} (he : Sc P e) (hv : cs[off]? = some v) (w : World) : (part e cs.toArray off).run P w = .ok v w := by
  obtain ⟨d, i, h1, h2, _⟩ := he.out
  simp [part, run_isAgg h1, h2, hv]
theorem part_ag {P : Program} {e : TypeId} {cs us : List Value} {off k : Nat} (he : Ag P e k) (hv : (cs.drop off).take k = us) (w : World) : (part e cs.toArray off).run P w = .ok (.agg us.toArray) w := by
  obtain ⟨d, i, h1, h2, h3, h4⟩ := he.out
  simp [part, run_isAgg h1, h2, run_sizeOf h3, h4, ← hv, List.take_drop]
theorem eq_nil {P : Program} (d : Nat) (xs ys : Array Value) (w : World) : (Op.eqFields d xs ys []).run P w = .ok true w := by simp [Op.eqFields]
theorem eq_cons {P : Program} {d : Nat} {xs ys : Array Value} {f : Field} {fs : List Field} {w : World} {a b : Value} {r s : Bool} (hn : (f.name != "_") = true) (ha : (part f.type xs f.offset).run P w = .ok a w) (hb : (part f.type ys f.offset).run P w = .ok b w)
    (hr : (Op.equalIn d f.type a b).run P w = .ok r w) (hs : (Op.eqFields d xs ys fs).run P w = .ok s w) : (Op.eqFields d xs ys (f :: fs)).run P w = .ok (r && s) w := by
  have hn' : f.name ≠ "_" := by simpa using hn
  simp only [Op.eqFields, hn', ne_eq, not_false_eq_true, if_true, Sem.run_bind, ha, hb, hr, Result.andThen_ok]
  cases r
  · simp
  · simpa using hs
theorem eqf_s {P : Program} {t : TypeId} (h : P.underlying t = some .string) (d : Nat) (w : World) (a b : Bs) : (Op.equalIn (d + 1) t (.string (mk a)) (.string (mk b))).run P w = .ok (a == b) w := by
  rw [run_equalIn_string w d t _ _ h]; simp
theorem eqf_i {P : Program} {t : TypeId} {k : IntKind} (h : P.underlying t = some (.int k)) (d : Nat) (w : World) (a b : Int) : (Op.equalIn (d + 1) t (.int k a) (.int k b)).run P w = .ok (a == b) w :=
  run_equalIn_int w d t k k a b h
def adV (a : Ad) : List Value := [.string (mk a.prov), .string (mk a.knd), .string (mk a.name), .int .i64 a.idx]
def eqAd (p k n : Bs) (i : Int) (p' k' n' : Bs) (i' : Int) : Bool := p == p' && (k == k' && (n == n' && (i == i' && true)))
set_option maxRecDepth 100000 in
theorem eqIn50 (d : Nat) (w : World) (p k n : Bs) (i : Int) (p' k' n' : Bs) (i' : Int) :
    (Op.equalIn (d + 1 + 1) 50 (.agg (List.toArray [.string (mk p), .string (mk k), .string (mk n), .int .i64 i])) (.agg (List.toArray [.string (mk p'), .string (mk k'), .string (mk n'), .int .i64 i']))).run Tryz.prog w = .ok (eqAd p k n i p' k' n' i') w := by
  rw [run_equalIn_agg w (d + 1) 50 _ _ (by kernel_rfl) (by kernel_rfl)]
  simp only [Program.fieldsOf, Tryz.underlying50]
  exact eq_cons rfl (part_at sc_9 rfl w) (part_at sc_9 rfl w) (eqf_s Tryz.underlying9 _ w _ _) (eq_cons rfl (part_at sc_9 rfl w) (part_at sc_9 rfl w) (eqf_s Tryz.underlying9 _ w _ _)
    (eq_cons rfl (part_at sc_9 rfl w) (part_at sc_9 rfl w) (eqf_s Tryz.underlying9 _ w _ _) (eq_cons rfl (part_at sc_3 rfl w) (part_at sc_3 rfl w) (eqf_i Tryz.underlying3 _ w _ _) (eq_nil _ _ _ w))))
def eqI4 (a b c d a' b' c' d' : Int) : Bool := a == a' && (b == b' && (c == c' && (d == d' && true)))
theorem gd50 : Tryz.prog.eqGuardType Tryz.prog.depth 50 = false := by kernel_rfl
theorem gd70 : Tryz.prog.eqGuardType Tryz.prog.depth 70 = false := by kernel_rfl
set_option maxRecDepth 100000 in
theorem eqIn70 (d : Nat) (w : World) (p k n i p' k' n' i' : Int) :
    (Op.equalIn (d + 1 + 1) 70 (.agg (List.toArray [.int .i64 p, .int .i64 k, .int .i64 n, .int .i64 i])) (.agg (List.toArray [.int .i64 p', .int .i64 k', .int .i64 n', .int .i64 i']))).run Tryz.prog w = .ok (eqI4 p k n i p' k' n' i') w := by
  rw [run_equalIn_agg w (d + 1) 70 _ _ (by kernel_rfl) (by kernel_rfl)]
  simp only [Program.fieldsOf, Tryz.underlying70]
  exact eq_cons rfl (part_at sc_3 rfl w) (part_at sc_3 rfl w) (eqf_i Tryz.underlying3 _ w _ _) (eq_cons rfl (part_at sc_3 rfl w) (part_at sc_3 rfl w) (eqf_i Tryz.underlying3 _ w _ _)
    (eq_cons rfl (part_at sc_3 rfl w) (part_at sc_3 rfl w) (eqf_i Tryz.underlying3 _ w _ _) (eq_cons rfl (part_at sc_3 rfl w) (part_at sc_3 rfl w) (eqf_i Tryz.underlying3 _ w _ _) (eq_nil _ _ _ w))))
section
variable {n : Nat} {l : List (Nat × Value)} {ds : List Deferred} {w : World} {d : Nat} {x y : Operand} {ty : TypeId} {pos : String} {aft : Array Edge} {g : Option (Nat × Bool)}
theorem r_eqAd {t' : TypeId} {p k m : Bs} {i : Int} {p' k' m' : Bs} {i' : Int} (hx : ev n l x = some (.agg (List.toArray [.string (mk p), .string (mk k), .string (mk m), .int .i64 i]))) (hy : ev n l y = some (.agg (List.toArray [.string (mk p'), .string (mk k'), .string (mk m'), .int .i64 i']))) :
    (execOp (fr n l ds).eval ⟨some d, .binOp .eql 50 x y t', ty, pos, aft, g⟩).run Tryz.prog w = .ok (.value (.bool (eqAd p k m i p' k' m' i'))) w := by
  have h := eqIn50 9998 w p k m i p' k' m' i'
  simp only [execOp, ev_eval hx, ev_eval hy, Sem.run_bind, run_eqGuard_agg w .eql 50 x y _ _ gd50, Result.andThen_ok, run_eql_struct, h, Sem.run_pure]
theorem r_eqI4 {t' : TypeId} {p k m i p' k' m' i' : Int} (hx : ev n l x = some (.agg (List.toArray [.int .i64 p, .int .i64 k, .int .i64 m, .int .i64 i]))) (hy : ev n l y = some (.agg (List.toArray [.int .i64 p', .int .i64 k', .int .i64 m', .int .i64 i']))) :
    (execOp (fr n l ds).eval ⟨some d, .binOp .eql 70 x y t', ty, pos, aft, g⟩).run Tryz.prog w = .ok (.value (.bool (eqI4 p k m i p' k' m' i'))) w := by
  have h := eqIn70 9998 w p k m i p' k' m' i'
  simp only [execOp, ev_eval hx, ev_eval hy, Sem.run_bind, run_eqGuard_agg w .eql 70 x y _ _ gd70, Result.andThen_ok, run_eql_struct, h, Sem.run_pure]
end
theorem eqAd_iff (a b : Ad) : eqAd a.prov a.knd a.name a.idx b.prov b.knd b.name b.idx = (a == b) := by
  cases a; cases b
  rw [Bool.eq_iff_iff]
  simp [eqAd]
/-- May it be a map's key? -/
def okAd (a : Ad) : Bool := decide (a.prov.length ≤ LIM ∧ a.knd.length ≤ LIM ∧ a.name.length ≤ LIM ∧ -9223372036854775808 ≤ a.idx ∧ a.idx ≤ 9223372036854775807)
end Go.Proofs.YtcjphpenelnohaaGreatDoor
/- Maps at the operations; settling. -/
set_option linter.unusedSectionVars false
namespace Go.Proofs.YtcjphpenelnohaaGreatDoor
open Go.RowKit Go.WideElems Go.MapKept
open Go.ChangeMaps (setBlock)

theorem keyTy50 : Tryz.prog.keyType 50 = true := by kernel_rfl
theorem cells50 : Tryz.prog.cellsOf 50 = 4 := by kernel_rfl
theorem cells9 : Tryz.prog.cellsOf 9 = 1 := by kernel_rfl
theorem cells3 : Tryz.prog.cellsOf 3 = 1 := by kernel_rfl
theorem lit_s (d : Nat) (s : Bs) (h : s.length ≤ LIM) : Tryz.prog.keyLits (d + 1) 9 [.string (mk s)] = some [.string s] := by
  have h' : (mk s).size ≤ maxLen := by rw [size_mk]; unfold LIM at h; unfold maxLen; omega
  simp [Program.keyLits, Tryz.underlying9, h']
theorem lit_i (d : Nat) (i : Int) (h : -9223372036854775808 ≤ i ∧ i ≤ 9223372036854775807) : Tryz.prog.keyLits (d + 1) 3 [.int .i64 i] = some [.int .i64 i] := by
  have h' : (Lit.int .i64 i).wf = true := by simp [Lit.wf, IntKind.min, IntKind.max, IntKind.signed, IntKind.bits]; omega
  simp [Program.keyLits, Tryz.underlying3, h']
set_option maxRecDepth 100000 in
theorem lits50 (d : Nat) (a : Ad) (h : okAd a = true) : ∃ L, Tryz.prog.keyLits (d + 1 + 1) 50 (adV a) = some L := by
  have h' := of_decide_eq_true h
  refine ⟨[.string a.prov, .string a.knd, .string a.name, .int .i64 a.idx], ?_⟩
  unfold adV
  unfold Program.keyLits
  simp only [Tryz.underlying50, cells50, List.length_cons, List.length_nil]
  simp only [List.mapM_cons, List.mapM_nil, List.drop, List.take, cells9, cells3, lit_s d _ h'.1, lit_s d _ h'.2.1, lit_s d _ h'.2.2.1, lit_i d _ h'.2.2.2]
  rw [if_pos ⟨trivial, by simp⟩]
  rfl
set_option maxRecDepth 100000 in
theorem key50 (a : Ad) (h : okAd a = true) : ∃ l, keyOf Tryz.prog 50 (.agg (adV a).toArray) = some l := by
  have hs : ∃ d, Tryz.prog.types.size = d + 1 := ⟨503, by kernel_rfl⟩
  obtain ⟨d, hd⟩ := hs
  obtain ⟨L, hL⟩ := lits50 d a h
  refine ⟨.string (keyBytes L), ?_⟩
  have hf : (Value.agg (adV a).toArray).formed Tryz.prog 50 = true := by
    simp only [Value.formed, Tryz.underlying50, cells50]; rfl
  simp only [keyOf, Tryz.underlying50, keyTy50, hf, Value.cells, hd, List.toList_toArray, hL, Bool.and_self, if_true, Option.map_some]

def kStr : KK Bs where
  kt := 9
  kv s := .string (mk s)
  ok s := decide (s.length ≤ LIM)
  keyed := stringKeyed
  key s h := ⟨_, keyOf_str (of_decide_eq_true h)⟩
  inj a b h := by simpa using h
def kAd : KK Ad where
  kt := 50
  kv a := .agg (adV a).toArray
  ok := okAd
  keyed := law50
  key a h := key50 a h
  inj a b h := by cases a; cases b; simp [adV] at h; simp [h]

/-- A settled map of values: as a map that is one's own; and settled from one. -/
theorem MR.ofTR {H : Hp} {b clock : Nat} {es : Array MapEntry} {m : List (Bs × J)} (t : TR kStr (evA cJ) H es clock m) (hH : H b = Option.some (.map es clock)) (ho : m.Pairwise fun p q => p.1 < q.1) : MR H (Option.some b) m :=
  .some t.lim hH t.fit ho (fun p hp => of_decide_eq_true (t.ok p hp)) (fun x hx => by
    obtain ⟨p, hp, h1, cs, h2, v, rfl, h3⟩ := t.to x hx
    exact ⟨p, hp, v, h1, h2, h3⟩) t.fro
/-- The value of such a map. -/
theorem VR.ofMap {H : Hp} {b : Nat} {m : List (Bs × J)} (h : MR H (Option.some b) m) : VR H (.iface 173 (.map (Option.some b))) (.table m) := by
  cases h with
  | some hl hH hF ho hk hs he =>
    rename_i clock es
    have key : ∀ i : Nat, ∃ v : Value, ∀ p : Bs × J, m[i]? = Option.some p → VR H v p.2 ∧ ∀ x ∈ es.toList, x.key = .string (mk p.1) → x.val = .agg (List.toArray [v]) := by
      intro i
      cases e : m[i]? with
      | none => exact ⟨.nilIface, fun p hp => by cases hp⟩
      | some p =>
        have hp : p ∈ m := List.mem_of_getElem? e
        obtain ⟨x, hx, hxk⟩ := he p hp
        have hkey : ∀ x' ∈ es.toList, x'.key = .string (mk p.1) → ∃ v, x'.val = .agg (List.toArray [v]) ∧ VR H v p.2 := by
          intro x' hx' hk2
          obtain ⟨q, hq, v, h3, h4, h5⟩ := hs x' hx'
          have hqp : q.1 = p.1 := by rw [h3] at hk2; simpa using hk2
          have hqe : q = p := Prod.ext hqp (by
            have e1 := (mget_some (nodup_of_sorted ho) hq p.2).2
            have e2 := (mget_some (nodup_of_sorted ho) hp p.2).2
            rw [hqp] at e1; exact e1.symm.trans e2)
          exact ⟨v, h4, hqe ▸ h5⟩
        obtain ⟨v, hv1, hv2⟩ := hkey x hx hxk
        refine ⟨v, fun q hq => ?_⟩
        cases hq
        refine ⟨hv2, fun x' hx' hk' => ?_⟩
        have : x' = x := by
          by_cases hne : x' = x
          · exact hne
          · exfalso
            obtain ⟨i1, h1⟩ := List.getElem?_of_mem hx'
            obtain ⟨j1, h2⟩ := List.getElem?_of_mem hx
            have hij : i1 ≠ j1 := fun e => by subst e; rw [h1] at h2; cases h2; exact hne rfl
            exact other_key hF h2 h1 hij (hk'.trans hxk.symm)
        rw [this, hv1]
    refine .table (fun i => (key i).choose) hl hH hF ho hk (fun x hx => ?_) (fun i p hp => ?_) fun i p hp => ((key i).choose_spec p hp).1
    · obtain ⟨p, hp, v, h3, h4, h5⟩ := hs x hx
      obtain ⟨i, hi⟩ := List.getElem?_of_mem hp
      exact ⟨i, p, hi, h3, ((key i).choose_spec p hi).2 x hx h3⟩
    · obtain ⟨x, hx, hxk⟩ := he p (List.mem_of_getElem? hp)
      have hv := ((key i).choose_spec p hp).2 x hx hxk
      refine ⟨x.born, ?_⟩
      rw [← hv, ← hxk]; exact hx
theorem MR.toTR {H : Hp} {b : Nat} {m : List (Bs × J)} (h : MR H (Option.some b) m) : ∃ es clock, H b = Option.some (.map es clock) ∧ TR kStr (evA cJ) H es clock m ∧ m.Pairwise fun p q => p.1 < q.1 := by
  cases h with
  | some hl hH hF ho hk hs he =>
    rename_i clock es
    have hsz : es.size = m.length := by
      have h1 : (es.toList.map (·.key)).Perm (m.map fun p => Value.string (mk p.1)) := by
        refine (List.perm_ext_iff_of_nodup hF.stamped.2.2 ?_).2 fun v => ?_
        · have hnd := nodup_of_sorted ho
          rw [List.Nodup, List.pairwise_map] at hnd ⊢
          exact hnd.imp fun h e => h (by simpa using e)
        · simp only [List.mem_map]
          constructor
          · rintro ⟨x, hx, rfl⟩
            obtain ⟨p, hp, v, h3, _⟩ := hs x hx
            exact ⟨p, hp, h3.symm⟩
          · rintro ⟨p, hp, rfl⟩
            exact he p hp
      have := h1.length_eq
      simpa using this
    exact ⟨es, clock, hH, ⟨hF.stamped, hsz, hl, fun p hp => decide_eq_true (hk p hp), nodup_of_sorted ho, fun x hx => by
      obtain ⟨p, hp, v, h3, h4, h5⟩ := hs x hx
      exact ⟨p, hp, h3, _, h4, v, rfl, h5⟩, he⟩, ho⟩

section
variable {X : List Nat} {H0 H : Hp} {w0 w : World} {S : List (Nat × Rs)}
/-- A block of one's own is settled. -/
theorem L.settleB (hL : L X H0 w0 S H w) (i : Nat) {b : Nat} {o : Obj} {r : Rs} (hs : sk S i = some r) (hf : r.foot = [b]) (hw : w.heap[b]? = some o) : ∃ H', Hle H H' ∧ L X H0 w0 ((i, .gone) :: S) H' w ∧ H' b = some o := by
  have hgn := hL.non i _ hs b (by simp [hf])
  refine ⟨fun q => if q = b then some o else H q, ?_, ?_, by simp⟩
  · intro q o' hb
    have : q ≠ b := fun e' => by subst e'; rw [hgn.1] at hb; cases hb
    simp [this, hb]
  · have hfoot : ∀ j rj, j ≠ i → sk S j = some rj → ∀ q ∈ rj.foot, q ≠ b := fun j rj hj e' q hb hbg => by
      subst hbg
      exact hL.dis j i rj _ hj e' hs q hb (by simp [hf])
    have hsk : ∀ j rj, sk ((i, Rs.gone) :: S) j = some rj → (j = i ∧ rj = .gone) ∨ (j ≠ i ∧ sk S j = some rj) := fun j rj e' => by
      rw [sk_cons] at e'
      by_cases hj : j = i
      · rw [if_pos hj] at e'; cases e'; exact .inl ⟨hj, rfl⟩
      · rw [if_neg hj] at e'; exact .inr ⟨hj, e'⟩
    refine ⟨⟨hL.ext.os, hL.ext.tape, hL.ext.output, hL.ext.size, hL.ext.block, ?_, ?_, ?_⟩, ?_, ?_, ?_⟩
    · intro q o' hb
      by_cases h : q = b
      · subst h; simp at hb; rw [hw, hb]
      · simp [h] at hb; exact hL.imm q o' hb
    · intro q o' hb
      have hb' := hL.ext.le q o' hb
      have : q ≠ b := fun e' => by subst e'; rw [hgn.1] at hb'; cases hb'
      simp [this, hb']
    · intro q hb hbX hn
      by_cases h : q = b
      · subst h
        rcases hgn.2 with h1 | h1
        · exact absurd h1 hbX
        · omega
      · simp [h]; exact hL.ext.old q hb hbX hn
    · intro j rj e'
      rcases hsk j rj e' with ⟨_, rfl⟩ | ⟨hj, e'⟩
      · trivial
      · exact hL.own j rj e'
    · intro j rj e' q hb
      rcases hsk j rj e' with ⟨_, rfl⟩ | ⟨hj, e'⟩
      · simp [Rs.foot] at hb
      · refine ⟨?_, (hL.non j rj e' q hb).2⟩
        simp [hfoot j rj hj e' q hb, (hL.non j rj e' q hb).1]
    · intro j k r r' hjk e1 e2 q hb
      rcases hsk j r e1 with ⟨_, rfl⟩ | ⟨hj, e1⟩
      · simp [Rs.foot] at hb
      · rcases hsk k r' e2 with ⟨_, rfl⟩ | ⟨hk, e2⟩
        · simp [Rs.foot]
        · exact hL.dis j k r r' hjk e1 e2 q hb
theorem L.settleM (hL : L X H0 w0 S H w) (i : Nat) {b : Nat} {o : Obj} (hs : sk S i = some (.obj b o)) : ∃ H', Hle H H' ∧ L X H0 w0 ((i, .gone) :: S) H' w ∧ H' b = some o :=
  hL.settleB i hs rfl (hL.own i _ hs)
/-- Cells of one's own, settled. -/
theorem L.settleC (hL : L X H0 w0 S H w) (i : Nat) {b : Nat} {c : List Value} {t : TypeId} (hs : sk S i = some (.cel b c t)) : ∃ H', Hle H H' ∧ L X H0 w0 ((i, .gone) :: S) H' w ∧ HC H' b 0 c := by
  obtain ⟨H', h1, h2, h3⟩ := hL.settleB i hs rfl (hL.own i _ hs)
  exact ⟨H', h1, h2, c.toArray, t, (0, 0), h3, fun j v hj => by simpa using hj⟩
end

section
variable {P : Program} {Q : Exit → Act → World → Prop} {n : Nat} {l : List (Nat × Value)} {ds : List Deferred} {w w0 : World}
  {d : Nat} {x y z : Operand} {ty : TypeId} {pos : String} {aft : Array Edge} {v u mv kv : Value} {g : Option (Nat × Bool)} {K : Act → World → Prop} {X : List Nat} {H0 H : Hp} {S : List (Nat × Rs)}
theorem r_lookup {t : TypeId} {c : Bool} (h : (Instr.lookup t mv kv c).run P w = .ok u w) (hx : ev n l x = some mv) (hy : ev n l y = some kv) :
    (execOp (fr n l ds).eval ⟨some d, .lookup t x y c, ty, pos, aft, g⟩).run P w = .ok (.value u) w := by
  simp only [execOp, ev_eval hx, ev_eval hy, Sem.run_bind, h, Result.andThen_ok, Sem.run_pure]
theorem o_makeMap {t : TypeId} (i : Nat) (hL : L X H0 w0 S H w) (k : ∀ b w', L X H0 w0 ((i, .obj b (.map #[] 0)) :: S) H w' → K (fr n ((d, .map (some b)) :: l) ds) w') :
    Oper.wp P ⟨some d, .makeMap t none, ty, pos, aft, g⟩ (fr n l ds) w K Q := by
  refine o_val (w' := w.alloc (.map #[] 0)) ?_ (k w.heap.size _ (hL.step [] i (.obj w.heap.size (.map #[] 0)) (by simp) (Ext.alloc hL.imm _) (by show (w.heap.push _)[w.heap.size]? = _; simp)
    (fun b hb => by simp [Rs.foot] at hb; subst hb; exact ⟨hL.imm.fresh (Nat.le_refl _), .inr (Nat.le_refl _)⟩)))
  simp only [execOp, Instr.makeMap, Option.map_none, Sem.run_bind, run_newObj, Result.andThen_ok, Sem.run_pure]
  rfl
/-- What stands in a block of one's own is exchanged. -/
theorem L.turn {i b : Nat} {o o' : Obj} (hL : L X H0 w0 S H w) (hs : sk S i = some (.obj b o)) : L X H0 w0 ((i, .obj b o') :: S) H (setBlock w b o') := by
  have hb : w.heap[b]? = some o := hL.own i _ hs
  have hlt := (Array.getElem?_eq_some_iff.1 hb).1
  have hn := (hL.non i _ hs b (by simp [Rs.foot])).1
  have hoth : ∀ q, q ≠ b → (setBlock w b o').heap[q]? = w.heap[q]? := fun q hq => by simp [setBlock, Array.getElem?_setIfInBounds, Ne.symm hq]
  refine hL.step [b] i (.obj b o') (fun b' hb' => ⟨_, hs, by simpa [Rs.foot] using hb'⟩) ⟨rfl, rfl, rfl, by simp [setBlock], fun q _ hq => hoth q (by simpa using hq), fun q o2 e => ?_, Hle.refl H, fun _ _ _ h => h⟩ ?_ ?_
  · have : q ≠ b := fun e' => by subst e'; rw [hn] at e; cases e
    rw [hoth q this]; exact hL.imm q o2 e
  · show (setBlock w b o').heap[b]? = _
    simp [setBlock, hlt]
  · intro b' hb'
    simp [Rs.foot] at hb'; subst hb'
    exact ⟨hn, .inl (by simp)⟩
set_option maxRecDepth 100000 in
theorem o_mapUpdate {κ α : Type} [BEq κ] [LawfulBEq κ] {C : KK κ} {V : EV α} {t e : TypeId} {i b clock : Nat} {es : Array MapEntry} {m m' : List (κ × α)} {k0 : κ} {x0 : α} (hL : L X H0 w0 S H w) (T : TR C V H es clock m) (ht : Tryz.prog.underlying t = some (.map C.kt e))
    (hs : sk S i = some (.obj b (.map es clock))) (hx : ev n l x = some (.map (some b))) (hy : ev n l y = some (C.kv k0)) (hz : ev n l z = some v) (hk : C.ok k0 = true) (hv : V.E H v x0)
    (hp : m'.Perm ((k0, x0) :: m.filter fun p => !(p.1 == k0))) (hlim : decide (m'.length ≤ LIM) = true)
    (k : ∀ es' clock' w', TR C V H es' clock' m' → L X H0 w0 ((i, .obj b (.map es' clock')) :: S) H w' → K (fr n l ds) w') :
    Oper.wp Tryz.prog ⟨none, .mapUpdate t x y z, ty, pos, aft, g⟩ (fr n l ds) w K Q := by
  obtain ⟨es', clock', h1, h2⟩ := T.put ht (hL.own i _ hs) hk hv hp (of_decide_eq_true hlim)
  refine o_skip (w' := setBlock w b (.map es' clock')) ?_ (k es' clock' _ h2 (hL.turn hs))
  simp only [execOp, ev_eval hx, ev_eval hy, ev_eval hz, Sem.run_bind, h1, Result.andThen_ok, Sem.run_pure]
set_option maxRecDepth 100000 in
theorem o_delete {κ α : Type} [BEq κ] [LawfulBEq κ] {C : KK κ} {V : EV α} {t e : TypeId} {i b clock : Nat} {es : Array MapEntry} {m : List (κ × α)} {k0 : κ} (hL : L X H0 w0 S H w) (T : TR C V H es clock m) (ht : Tryz.prog.underlying t = some (.map C.kt e))
    (hs : sk S i = some (.obj b (.map es clock))) (hx : ev n l x = some (.map (some b))) (hy : ev n l y = some (C.kv k0)) (hk : C.ok k0 = true)
    (k : ∀ es' w', TR C V H es' clock (mdel k0 m) → L X H0 w0 ((i, .obj b (.map es' clock)) :: S) H w' → K (fr n ((d, .tuple #[]) :: l) ds) w') :
    Oper.wp Tryz.prog ⟨some d, .call ⟨.builtin .delete, #[x, y], #[t, C.kt]⟩, ty, pos, aft, g⟩ (fr n l ds) w K Q := by
  obtain ⟨es', h1, h2⟩ := T.del (ty := ty) ht (hL.own i _ hs) hk
  refine o_val (w' := setBlock w b (.map es' clock)) ?_ (k es' _ h2 (hL.turn hs))
  simp only [execOp, resolve, invoke, builtin, Sem.run_bind, Sem.run_pure, Result.andThen_ok, List.map_toArray, List.map_cons, List.map_nil, ev_eval hx, ev_eval hy, h1]
theorem r_lenM {tt : Array TypeId} {t k e : TypeId} {b clock : Nat} {es : Array MapEntry} {m : Nat} (ht : tt[0]? = some t) (hu : P.underlying t = some (.map k e)) (hb : Rs.holds w (.obj b (.map es clock))) (hm : es.size = m) (hx : ev n l x = some (.map (some b))) :
    (execOp (fr n l ds).eval ⟨some d, .call ⟨.builtin .len, #[x], tt⟩, ty, pos, aft, g⟩).run P w = .ok (.value (.int .i64 m)) w := by
  have hb' : w.heap[b]? = some (.map es clock) := hb
  simp [execOp, resolve, invoke, builtin, Builtin.len_, ev_eval hx, ht, run_underlying hu, goInt, MapKept.run_getObj_map hb', hm]
end
end Go.Proofs.YtcjphpenelnohaaGreatDoor
/- Elements of all kinds; pointers to what is settled; slices of slices; rows whose elements are read and written. -/
set_option linter.unusedSectionVars false
namespace Go.Proofs.YtcjphpenelnohaaGreatDoor
open Go.RowKit Go.WideElems Go.MapKept

/-! ### elements -/
def cInt : Cr Int where
  k := 1
  C _ cs x := cs = [.int .i64 x]
  len := by rintro H cs x rfl; rfl
  mono := by rintro H H' _ cs x rfl; rfl
  one := by rintro H cs x rfl u hu; simp at hu; subst hu; rfl
def cBool : Cr Bool where
  k := 1
  C _ cs x := cs = [.bool x]
  len := by rintro H cs x rfl; rfl
  mono := by rintro H H' _ cs x rfl; rfl
  one := by rintro H cs x rfl u hu; simp at hu; subst hu; rfl
def cB8 : Cr UInt8 where
  k := 1
  C _ cs x := cs = [.int .u8 (x.toNat : Int)]
  len := by rintro H cs x rfl; rfl
  mono := by rintro H H' _ cs x rfl; rfl
  one := by rintro H cs x rfl u hu; simp at hu; subst hu; rfl
def cAd : Cr Ad where
  k := 4
  C _ cs x := cs = [.string (mk x.prov), .string (mk x.knd), .string (mk x.name), .int .i64 x.idx]
  len := by rintro H cs x rfl; rfl
  mono := by rintro H H' _ cs x rfl; rfl
  one := by rintro H cs x rfl u hu; simp at hu; rcases hu with rfl | rfl | rfl | rfl <;> rfl
/-- A slice as an element. -/
def cSl {α : Type} (K : Cr α) : Cr (List α) where
  k := 1
  C H cs x := ∃ a c, cs = [.slice a x.length c] ∧ Sl K H a c x
  len := by rintro H cs x ⟨a, c, rfl, _⟩; rfl
  mono := by rintro H H' h cs x ⟨a, c, rfl, hs⟩; exact ⟨a, c, rfl, hs.mono h⟩
  one := by rintro H cs x ⟨a, c, rfl, _⟩ u hu; simp at hu; subst hu; rfl
def cNd : Cr Nd where
  k := 5
  C H cs x := ∃ a c, cs = [.string (mk x.at_.prov), .string (mk x.at_.knd), .string (mk x.at_.name), .int .i64 x.at_.idx, .slice a x.needs.length c] ∧ Sl cAd H a c x.needs
  len := by rintro H cs x ⟨a, c, rfl, _⟩; rfl
  mono := by rintro H H' h cs x ⟨a, c, rfl, hs⟩; exact ⟨a, c, rfl, hs.mono h⟩
  one := by rintro H cs x ⟨a, c, rfl, _⟩ u hu; simp at hu; rcases hu with rfl | rfl | rfl | rfl | rfl <;> rfl
def cEn : Cr En where
  k := 8
  C H cs x := ∃ v a c a' c', cs = [.string (mk x.at_.prov), .string (mk x.at_.knd), .string (mk x.at_.name), .int .i64 x.at_.idx, .int .i64 x.ver, v, .slice a x.priv.length c, .slice a' x.needs.length c'] ∧ VR H v x.val ∧ Sl cB8 H a c x.priv ∧ Sl cAd H a' c' x.needs
  len := by rintro H cs x ⟨v, a, c, a', c', rfl, _⟩; rfl
  mono := by rintro H H' h cs x ⟨v, a, c, a', c', rfl, h1, h2, h3⟩; exact ⟨v, a, c, a', c', rfl, h1.mono h, h2.mono h, h3.mono h⟩
  one := by
    rintro H cs x ⟨v, a, c, a', c', rfl, h1, _⟩ u hu; simp at hu
    rcases hu with rfl | rfl | rfl | rfl | rfl | rfl | rfl | rfl <;> first | rfl | exact h1.one
def cChg : Cr Chg where
  k := 5
  C H cs x := ∃ a c v v', cs = [.slice a x.way.length c, v, v', .bool x.old, .bool x.new] ∧ Sl cStep H a c x.way ∧ VR H v x.a ∧ VR H v' x.b
  len := by rintro H cs x ⟨a, c, v, v', rfl, _⟩; rfl
  mono := by rintro H H' h cs x ⟨a, c, v, v', rfl, h1, h2, h3⟩; exact ⟨a, c, v, v', rfl, h1.mono h, h2.mono h, h3.mono h⟩
  one := by
    rintro H cs x ⟨a, c, v, v', rfl, _, h1, h2⟩ u hu; simp at hu
    rcases hu with rfl | rfl | rfl | rfl | rfl <;> first | rfl | exact h1.one | exact h2.one

/-- A pointer to a type. -/
inductive TyR : Hp → Value → Ty → Prop
  | no {H : Hp} : TyR H (.pointer none) .no
  | mk {H : Hp} {b : Nat} {form : Int} {l : List Ty} {names : List Bs} {loose : List Bool} {a a' a'' : Option Addr} {c c' c'' : Nat} (f : Nat → Value) (hH : HC H b 0 [.int .i64 form, .slice a l.length c, .slice a' names.length c', .slice a'' loose.length c''])
      (hc : l.length ≤ c) (h : l = [] ∨ ∃ b o, a = some ⟨b, o, none⟩ ∧ ∀ i, i < l.length → HC H b (o + i * 1) [f i]) (hr : ∀ i x, l[i]? = some x → TyR H (f i) x)
      (hn : Sl cStr H a' c' names) (hb : Sl cBool H a'' c'' loose) : TyR H (.pointer (some ⟨b, 0, none⟩)) (.mk form l names loose)
theorem TyR.mono {H H' : Hp} (h : Hle H H') {v : Value} {t : Ty} (ht : TyR H v t) : TyR H' v t := by
  induction ht with
  | no => exact .no
  | mk f hH hc h1 _ hn hb ih =>
    refine .mk f (hH.mono h) hc ?_ (fun i x hx => ih i x hx) (hn.mono h) (hb.mono h)
    rcases h1 with h1 | ⟨b, o, ha, h1⟩
    · exact .inl h1
    · exact .inr ⟨b, o, ha, fun i hi => (h1 i hi).mono h⟩
theorem TyR.one {H : Hp} {v : Value} {t : Ty} (ht : TyR H v t) : v.oneCell' = true := by cases ht <;> rfl
def cTy : Cr Ty where
  k := 1
  C H cs x := ∃ v, cs = [v] ∧ TyR H v x
  len := by rintro H cs x ⟨v, rfl, _⟩; rfl
  mono := by rintro H H' h cs x ⟨v, rfl, hv⟩; exact ⟨v, rfl, hv.mono h⟩
  one := by rintro H cs x ⟨v, rfl, hv⟩ u hu; simp at hu; subst hu; exact hv.one
/-- What stands where it points. -/
theorem TyR.get {H : Hp} {v : Value} {t : Ty} (h : TyR H v t) (hn : (!t.isNo) = true) : ∃ b a c a' c' a'' c'', v = .pointer (some ⟨b, 0, none⟩) ∧ HC H b 0 [.int .i64 t.form, .slice a t.lst.length c, .slice a' t.names.length c', .slice a'' t.loose.length c''] ∧
    Sl cTy H a c t.lst ∧ Sl cStr H a' c' t.names ∧ Sl cBool H a'' c'' t.loose := by
  cases h with
  | no => cases hn
  | mk f hH hc h1 hr hn' hb =>
    refine ⟨_, _, _, _, _, _, _, rfl, hH, ⟨hc, ?_⟩, hn', hb⟩
    rcases h1 with h1 | ⟨b, o, ha, h1⟩
    · exact .inl h1
    · exact .inr ⟨b, o, ha, fun i x hx => ⟨[f i], h1 i (List.getElem?_eq_some_iff.1 hx).1, f i, rfl, hr i x hx⟩⟩
/-- .. made. -/
theorem TyR.of {H : Hp} {b : Nat} {form : Int} {l : List Ty} {names : List Bs} {loose : List Bool} {a a' a'' : Option Addr} {c c' c'' : Nat} (hH : HC H b 0 [.int .i64 form, .slice a l.length c, .slice a' names.length c', .slice a'' loose.length c''])
    (hl : Sl cTy H a c l) (hn : Sl cStr H a' c' names) (hb : Sl cBool H a'' c'' loose) : TyR H (.pointer (some ⟨b, 0, none⟩)) (.mk form l names loose) := by
  obtain ⟨hc, hl⟩ := hl
  rcases hl with hl | ⟨b1, o, ha, hl⟩
  · subst hl; exact .mk (fun _ => .pointer none) hH hc (.inl rfl) (by intro i x hx; simp at hx) hn hb
  · have key : ∀ i : Nat, ∃ v, ∀ x : Ty, l[i]? = some x → HC H b1 (o + i * 1) [v] ∧ TyR H v x := by
      intro i
      cases e : l[i]? with
      | none => exact ⟨.pointer none, fun x hx => by cases hx⟩
      | some x =>
        obtain ⟨cs, h1, v, rfl, hv⟩ := hl i x e
        exact ⟨v, fun y hy => by cases hy; exact ⟨h1, hv⟩⟩
    refine .mk (fun i => (key i).choose) hH hc (.inr ⟨b1, o, ha, fun i hi => ?_⟩) (fun i x hx => ((key i).choose_spec x hx).2) hn hb
    exact ((key i).choose_spec _ (List.getElem?_eq_getElem hi)).1
def cAt : Cr At where
  k := 6
  C H cs x := ∃ v, cs = [.string (Go.Proofs.YtcjphpenelnohaaGreatDoor.mk x.name), v, .bool x.must, .bool x.own, .bool x.hide, .bool x.new] ∧ TyR H v x.ty
  len := by rintro H cs x ⟨v, rfl, _⟩; rfl
  mono := by rintro H H' h cs x ⟨v, rfl, hv⟩; exact ⟨v, rfl, hv.mono h⟩
  one := by
    rintro H cs x ⟨v, rfl, hv⟩ u hu; simp at hu
    rcases hu with rfl | rfl | rfl | rfl | rfl | rfl <;> first | rfl | exact hv.one
/-- The places of a schema's attributes, by their names. -/
def places : Nat → List At → List (Bs × Int)
  | _, [] => []
  | i, a :: l => (a.name, (i : Int)) :: places (i + 1) l
/-- A pointer to a schema. -/
inductive ScR (H : Hp) : Value → Sch → Prop
  | no : ScR H (.pointer none) .no
  | mk {b b' clock : Nat} {ver : Int} {l : List At} {a : Option Addr} {c : Nat} {es : Array MapEntry} (hH : HC H b 0 [.int .i64 ver, .slice a l.length c, .map (some b')]) (hl : Sl cAt H a c l) (hM : H b' = some (.map es clock)) (hT : TR kStr (ev1 cInt) H es clock (places 0 l)) :
      ScR H (.pointer (some ⟨b, 0, none⟩)) (.mk ver l)
theorem ScR.mono {H H' : Hp} (h : Hle H H') {v : Value} {t : Sch} (ht : ScR H v t) : ScR H' v t := by
  cases ht with
  | no => exact .no
  | mk hH hl hM hT => exact .mk (hH.mono h) (hl.mono h) (h _ _ hM) (hT.mono h)
theorem ScR.one {H : Hp} {v : Value} {t : Sch} (ht : ScR H v t) : v.oneCell' = true := by cases ht <;> rfl
theorem ScR.get {H : Hp} {v : Value} {t : Sch} (h : ScR H v t) (hn : (!t.isNo) = true) : ∃ b a c b' es clock, v = .pointer (some ⟨b, 0, none⟩) ∧ HC H b 0 [.int .i64 t.ver, .slice a t.lst.length c, .map (some b')] ∧ Sl cAt H a c t.lst ∧
    H b' = some (.map es clock) ∧ TR kStr (ev1 cInt) H es clock (places 0 t.lst) := by
  cases h with
  | no => cases hn
  | mk hH hl hM hT => exact ⟨_, _, _, _, _, _, rfl, hH, hl, hM, hT⟩

/-- Is a pointer nil? -/
def PN (v : Value) (nb : Bool) : Prop := (v = .pointer none ∧ nb = true) ∨ ∃ a, v = .pointer (some a) ∧ nb = false
theorem TyR.pn {H : Hp} {v : Value} {t : Ty} (h : TyR H v t) : PN v t.isNo := by cases h <;> first | exact .inl ⟨rfl, rfl⟩ | exact .inr ⟨_, rfl, rfl⟩
theorem ScR.pn {H : Hp} {v : Value} {t : Sch} (h : ScR H v t) : PN v t.isNo := by cases h <;> first | exact .inl ⟨rfl, rfl⟩ | exact .inr ⟨_, rfl, rfl⟩

theorem run_equalIn_pn {P : Program} (w : World) (d : Nat) (t e : TypeId) (a : Option Addr) (h : P.underlying t = some (.pointer e)) : (Op.equalIn (d + 1) t (.pointer a) (.pointer none)).run P w = .ok a.isNone w := by
  cases a <;> simp [Op.equalIn, run_underlying h]
theorem run_equal_pn {P : Program} (w : World) (t e : TypeId) (a : Option Addr) (h : P.underlying t = some (.pointer e)) : (Op.equal t (.pointer a) (.pointer none)).run P w = .ok a.isNone w := run_equalIn_pn w 9999 t e a h
theorem HC.at {H : Hp} {b o : Nat} {cs : List Value} (h : HC H b o cs) {j : Nat} {v : Value} (hj : cs[j]? = some v) : HC H b (o + j) [v] := by
  obtain ⟨c, T, fz, h1, h2⟩ := h
  refine ⟨c, T, fz, h1, fun i u hi => ?_⟩
  match i, hi with
  | 0, hi => simp at hi; subst hi; exact h2 j v hj
theorem HC.sub {H : Hp} {b o : Nat} {cs : List Value} (h : HC H b o cs) (j k : Nat) {us : List Value} (hu : (cs.drop j).take k = us) : HC H b (o + j) us := by
  obtain ⟨c, T, fz, h1, h2⟩ := h
  refine ⟨c, T, fz, h1, fun i u hi => ?_⟩
  rw [← hu, List.getElem?_take] at hi
  split at hi
  · rw [List.getElem?_drop] at hi
    rw [Nat.add_assoc]; exact h2 _ u hi
  · cases hi
theorem ev_eq {n : Nat} {l : List (Nat × Value)} {x : Operand} {v u : Value} (h : ev n l x = some v) (e : v = u) : ev n l x = some u := e ▸ h

/-- A piece of a settled slice. -/
theorem Sl.cut {α : Type} {K : Cr α} {H : Hp} {a : Option Addr} {c : Nat} {xs : List α} (hs : Sl K H a c xs) {i j m : Int} (hb : decide (0 ≤ i ∧ i ≤ j ∧ j ≤ (xs.length : Int)) = true) (hm : j ≤ m) :
    Sl K H (if m.toNat = i.toNat then a else a.map (·.add (i.toNat * K.k))) (m.toNat - i.toNat) ((xs.take j.toNat).drop i.toNat) := by
  have hb' := of_decide_eq_true hb
  have hlen : ((xs.take j.toNat).drop i.toNat).length ≤ m.toNat - i.toNat := by simp; omega
  by_cases h : m.toNat = i.toNat
  · rw [if_pos h]
    have : (xs.take j.toNat).drop i.toNat = [] := List.length_eq_zero_iff.1 (by omega)
    rw [this]; exact Sl.nil
  · rw [if_neg h]
    have := hs.sub i.toNat (j.toNat - i.toNat) (c' := m.toNat - i.toNat) (by simp; omega)
    rw [← List.drop_take] at this
    exact this

section
variable {P : Program} {Q : Exit → Act → World → Prop} {n : Nat} {l : List (Nat × Value)} {ds : List Deferred} {w w0 : World}
  {d : Nat} {x y : Operand} {ty : TypeId} {pos : String} {aft : Array Edge} {v u : Value} {g : Option (Nat × Bool)} {K : Act → World → Prop} {X : List Nat} {H0 H : Hp} {S : List (Nat × Rs)}
theorem r_eqPN {t e : TypeId} {t' : TypeId} {nb : Bool} (hu : P.underlying t = some (.pointer e)) (hp : PN v nb) (hx : ev n l x = some v) (hy : ev n l y = some (.pointer none)) :
    (execOp (fr n l ds).eval ⟨some d, .binOp .eql t x y t', ty, pos, aft, g⟩).run P w = .ok (.value (.bool nb)) w := by
  rcases hp with ⟨rfl, rfl⟩ | ⟨a, rfl, rfl⟩ <;> simp [execOp, ev_eval hx, ev_eval hy, binOp, run_equal_pn w t e _ hu, eqGuard_at_pointer]
theorem r_nePN {t e : TypeId} {t' : TypeId} {nb : Bool} (hu : P.underlying t = some (.pointer e)) (hp : PN v nb) (hx : ev n l x = some v) (hy : ev n l y = some (.pointer none)) :
    (execOp (fr n l ds).eval ⟨some d, .binOp .neq t x y t', ty, pos, aft, g⟩).run P w = .ok (.value (.bool (!nb))) w := by
  rcases hp with ⟨rfl, rfl⟩ | ⟨a, rfl, rfl⟩ <;> simp [execOp, ev_eval hx, ev_eval hy, binOp, run_equal_pn w t e _ hu, eqGuard_at_pointer]

theorem r_sliceS {α : Type} {xs : List α} {t e k : TypeId} {a : Option Addr} {c : Nat} {lo hi : Option Operand} {i j : Int} (he : El P t e k) (hc : xs.length ≤ c) (hb : decide (0 ≤ i ∧ i ≤ j ∧ j ≤ (xs.length : Int)) = true) (hx : ev n l x = some (.slice a xs.length c))
    (hlo : (∃ o k, lo = some o ∧ ev n l o = some (.int k i)) ∨ (lo = none ∧ i = 0)) (hhi : (∃ o k, hi = some o ∧ ev n l o = some (.int k j)) ∨ (hi = none ∧ j = xs.length)) :
    (execOp (fr n l ds).eval ⟨some d, .slice t x lo hi none, ty, pos, aft, g⟩).run P w = .ok (.value (.slice (if (c : Int).toNat = i.toNat then a else a.map (·.add (i.toNat * k))) ((xs.take j.toNat).drop i.toNat).length ((c : Int).toNat - i.toNat))) w := by
  have hb' := of_decide_eq_true hb
  obtain ⟨ii, z, h1, h2, h3, h4, h5, h6, h7⟩ := he.out
  subst h4
  have hu' : ∀ w, (underlying t).run P w = .ok (.slice e) w := fun w => run_underlying h1 w
  have hl : ((xs.take j.toNat).drop i.toNat).length = j.toNat - i.toNat := by simp; omega
  have hH : (Instr.sliceBounds true xs.length c (lo.map (fr n l ds).eval) (hi.map (fr n l ds).eval) none).run P w = .ok (i.toNat, j.toNat, c) w := by
    have h1 : 0 ≤ j ∧ j ≤ (c : Int) := ⟨by omega, by omega⟩
    have h2 : 0 ≤ i ∧ i ≤ (j.toNat : Int) := ⟨by omega, by omega⟩
    rcases hlo with ⟨o, k, rfl, ho⟩ | ⟨rfl, rfl⟩ <;> rcases hhi with ⟨o', k', rfl, ho'⟩ | ⟨rfl, rfl⟩
    · simp only [Instr.sliceBounds, Option.map_some, ev_eval ho, ev_eval ho', Sem.run_bind, Sem.run_pure, Result.andThen_ok, if_true, run_bound h1.1 h1.2, run_bound h2.1 h2.2, Option.isSome_none, Bool.false_eq_true, if_false]
    · simp only [Instr.sliceBounds, Option.map_some, Option.map_none, ev_eval ho, Sem.run_bind, Sem.run_pure, Result.andThen_ok, if_true, run_bound hb'.1 hb'.2.1, Option.isSome_none, Int.toNat_natCast, Bool.false_eq_true, if_false]
    · simp only [Instr.sliceBounds, Option.map_some, Option.map_none, ev_eval ho', Sem.run_bind, Sem.run_pure, Result.andThen_ok, if_true, run_bound h1.1 h1.2, Int.toNat_zero]
    · simp only [Instr.sliceBounds, Option.map_none, Sem.run_bind, Sem.run_pure, Result.andThen_ok, Int.toNat_zero, Int.toNat_natCast]
  simp only [execOp, ev_eval hx, Instr.sliceAt, Sem.run_bind, hu', Result.andThen_ok, Instr.slice, Option.map_none, hH, run_sizeOf h2, Sem.run_pure, hl, Int.toNat_natCast]
/-- 'x[:j:j]'. -/
theorem r_slice3 {α : Type} {xs : List α} {t e k : TypeId} {a : Option Addr} {c : Nat} {oh om : Operand} {kh km : IntKind} {j : Int} (he : El P t e k) (hc : xs.length ≤ c) (hb : decide (0 ≤ (0 : Int) ∧ (0 : Int) ≤ j ∧ j ≤ (xs.length : Int)) = true) (hx : ev n l x = some (.slice a xs.length c))
    (hh : ev n l oh = some (.int kh j)) (hm : ev n l om = some (.int km j)) :
    (execOp (fr n l ds).eval ⟨some d, .slice t x none (some oh) (some om), ty, pos, aft, g⟩).run P w = .ok (.value (.slice (if j.toNat = (0 : Int).toNat then a else a.map (·.add ((0 : Int).toNat * k))) ((xs.take j.toNat).drop (0 : Int).toNat).length (j.toNat - (0 : Int).toNat))) w := by
  have hb' := of_decide_eq_true hb
  obtain ⟨ii, z, h1, h2, h3, h4, h5, h6, h7⟩ := he.out
  subst h4
  have hu' : ∀ w, (underlying t).run P w = .ok (.slice e) w := fun w => run_underlying h1 w
  have hl : ((xs.take j.toNat).drop 0).length = j.toNat := by simp; omega
  have hH : (Instr.sliceBounds true xs.length c none (some (.int kh j)) (some (.int km j))).run P w = .ok (0, j.toNat, j.toNat) w := by
    have h1 : 0 ≤ j ∧ j ≤ (c : Int) := ⟨by omega, by omega⟩
    have h2 : 0 ≤ j ∧ j ≤ (j.toNat : Int) := ⟨by omega, by omega⟩
    simp only [Instr.sliceBounds, Sem.run_bind, Sem.run_pure, Result.andThen_ok, if_true, run_bound h1.1 h1.2, run_bound h2.1 h2.2]
  simp only [execOp, ev_eval hx, Instr.sliceAt, Sem.run_bind, hu', Result.andThen_ok, Instr.slice, Option.map_none, Option.map_some, ev_eval hh, ev_eval hm, hH, run_sizeOf h2, Sem.run_pure, Int.toNat_zero, Nat.sub_zero, hl]

/-- append behind 'x[:n:n]': a new row. -/
theorem o_append3 {α : Type} {C : Cr α} {t e c' : Nat} {a a' : Option Addr} {es : List Value} {xs ys : List α} (i j : Nat) {cx : Nat} (hcx : cx = xs.length) (hL : L X H0 w0 S H w) (he : El P t e C.k) (hx : ev n l x = some (.slice a xs.length cx)) (hy : ev n l y = some (.slice a' ys.length c'))
    (hxs : Sl C H a cx xs) (hi : sk S i = none ∨ sk S i = some .gone) (hs' : sk S j = some (.row (.slice a' ys.length c') e C.k ys.length es)) (hys : LC C H es ys) (h0 : Nat.blt 0 ys.length = true)
    (hlim : decide (xs.length + ys.length ≤ LIM) = true)
    (k : ∀ b c'' cs w', LC C H cs xs → L X H0 w0 ((i, .row (.slice (some ⟨b, 0, none⟩) (xs ++ ys).length c'') e C.k (xs ++ ys).length (cs ++ es)) :: S) H w' → K (fr n ((d, .slice (some ⟨b, 0, none⟩) (xs ++ ys).length c'') :: l) ds) w') :
    Oper.wp P ⟨some d, .call ⟨.builtin .append, #[x, y], #[t, t]⟩, ty, pos, aft, g⟩ (fr n l ds) w K Q := by
  obtain ⟨ii, z, h1, h2, h3, h4, h5, h6, h7⟩ := he.out
  subst hcx
  have hlim' := of_decide_eq_true hlim
  unfold LIM at hlim'
  have hm : 0 < ys.length := by simpa [Nat.blt_eq] using h0
  have hown' := hL.own j _ hs'
  have hrow : ∃ g, a' = some ⟨g, 0, none⟩ ∧ ∀ q u, es[q]? = some u → w.cell? ((⟨g, 0, none⟩ : Addr).add q) = some u := by
    rcases hown'.2 with ⟨_, hn⟩ | ⟨g, cap, cur, hv, _, hg, _, _, _, htake⟩
    · omega
    · simp only [Value.slice.injEq] at hv
      refine ⟨g, hv.1, fun q u hu => ?_⟩
      have h8 : (Value.slice a' ys.length c').ownBlock = some g := by simp [Value.ownBlock, hv.1]
      exact World.ownsRow.cells hown' h8 q u hu
  obtain ⟨g', rfl, hcell⟩ := hrow
  have hbytes : (xs.length + ys.length) * ii.bytes ≤ 140737488355328 := Nat.le_trans (Nat.mul_le_mul hlim' h7) (by decide)
  have fin : ∀ (cs : List Value), LC C H cs xs → (∃ v' w', (Builtin.append_ #[t, t] ty #[.slice a xs.length xs.length, .slice (some ⟨g', 0, none⟩) ys.length c']).run P w = .ok v' w' ∧ w'.ownsRow 0 e C.k v' (xs.length + ys.length) (cs ++ es) ∧ w.grownBy w' none ∧ (∀ b, v'.ownBlock = some b → w.heap.size ≤ b)) →
      Oper.wp P ⟨some d, .call ⟨.builtin .append, #[x, y], #[t, t]⟩, ty, pos, aft, g⟩ (fr n l ds) w K Q := by
    rintro cs hcs ⟨v', w', r1, r2, r3, r4⟩
    have hr2 := r2.2
    rcases hr2 with ⟨_, hn⟩ | ⟨b, cap, cur, rfl, _⟩
    · omega
    · have hstep := hL.step [] i (.row (.slice (some ⟨b, 0, none⟩) (xs.length + ys.length) cap) e C.k (xs.length + ys.length) (cs ++ es)) (by simp)
        (grown_ext r3 hL.imm (by simp)) r2 (fun q hq => by
          simp [Rs.foot, Value.ownBlock] at hq; subst hq
          have := r4 q rfl
          exact ⟨hL.imm.fresh this, .inr this⟩)
      rw [← List.length_append] at hstep
      refine o_val (w' := w') ?_ (k b cap cs w' hcs hstep)
      simp only [execOp, resolve, invoke, builtin, Sem.run_bind, Sem.run_pure, Result.andThen_ok, List.map_toArray, List.map_cons, List.map_nil, ev_eval hx, ev_eval hy, r1, List.length_append]
  cases a with
  | none =>
    have hnil := Sl.nil_of_none hxs
    subst hnil
    obtain ⟨g, cap, w', r1, r2, r3, r4, r5⟩ := run_append_lies (w := w) (P := P) t ty 0 e ii z C.k ii.bytes h1 h2 h3 h4 rfl h5 h6 (.slice none 0 0) 0 [] ⟨by simp, .inl ⟨rfl, rfl⟩⟩ ⟨g', 0, none⟩ ys.length c' es hys.length hcell hys.one hm (by unfold maxLen; simp at hlim'; omega) (by simpa using hbytes) (Nat.zero_le _) w.heap.size rfl
    refine fin [] .nil ⟨_, w', r1, by simpa using r2, by simpa [Value.ownBlock] using r3, fun b hb => ?_⟩
    simp [Value.ownBlock] at hb; subst hb
    rcases r4 with r4 | r4
    · simp [Value.ownBlock] at r4
    · omega
  | some ad =>
    have hcs : ∃ cs, LC C H cs xs ∧ ∀ q u, cs[q]? = some u → w.cell? (ad.add q) = some u := by
      obtain ⟨_, hxs⟩ := hxs
      rcases hxs with rfl | ⟨b, o, hab, hxs⟩
      · exact ⟨[], .nil, by simp⟩
      · obtain ⟨cs, hc1, hc2⟩ := Sl.cells xs o hxs
        cases hab
        exact ⟨cs, hc1, fun q u hq => hc2 w hL.imm q u hq⟩
    obtain ⟨cs, hc1, hc2⟩ := hcs
    obtain ⟨v', w', r1, r2, r3⟩ := run_append_arg_grows (w := w) (P := P) t ty e ii z C.k ii.bytes h1 h2 h3 h4 rfl h5 h6 ad xs.length xs.length cs hc1.length hc2 ⟨g', 0, none⟩ ys.length c' es hys.length hcell (by omega) (by unfold maxLen; omega) hbytes
    exact fin cs hc1 ⟨v', w', r1, ⟨r2.1, r2.2.imp id fun ⟨g, cap, cur, e1, _, e2⟩ => ⟨g, cap, cur, e1, Nat.zero_le _, e2⟩⟩, r3, fun b hb => (World.ownsRow.lt r2 b hb).1⟩

/-! ### rows whose elements are read and written -/
theorem LC.at {α : Type} {C : Cr α} {cs : List Value} {xs : List α} (hc : LC C H cs xs) (d : α) {i : Int} (hi : decide (0 ≤ i ∧ i < (xs.length : Int)) = true) : ∃ us, C.C H us (xs.getD i.toNat d) ∧ ∀ q v, us[q]? = some v → cs[i.toNat * C.k + q]? = some v := by
  have hi' := of_decide_eq_true hi
  have hlt : i.toNat < xs.length := by omega
  obtain ⟨us, h1, h2⟩ := hc.get i.toNat xs[i.toNat] (List.getElem?_eq_getElem hlt)
  exact ⟨us, by simpa [hlt] using h1, h2⟩
/-- Where a row lies. -/
theorem row_at {m c e k : Nat} {a : Option Addr} {cs : List Value} (h : Rs.holds w (.row (.slice a m c) e k m cs)) {i : Int} (hi : decide (0 ≤ i ∧ i < (m : Int)) = true) : ∃ g, a = some ⟨g, 0, none⟩ ∧ a.map (fun ad => ad.add (i.toNat * k)) = some ⟨g, i.toNat * k, none⟩ := by
  have hi' := of_decide_eq_true hi
  rcases h.2 with ⟨_, hn⟩ | ⟨g, cap, cur, hv, _⟩
  · omega
  · simp only [Value.slice.injEq] at hv
    refine ⟨g, hv.1, ?_⟩
    rw [hv.1]; simp [add_off]
theorem row_cell {m c e k q b : Nat} {cs : List Value} (h : Rs.holds w (.row (.slice (some ⟨b, 0, none⟩) m c) e k m cs)) (hq : cs[q]? = some v) : w.cell? ⟨b, q, none⟩ = some v := by
  have := World.ownsRow.cells h (g := b) rfl q v hq
  simpa [add_off] using this
theorem r_loadR1 {t : TypeId} {m c e k b q : Nat} {a : Option Addr} {cs : List Value} (hb : Rs.holds w (.row (.slice a m c) e k m cs)) (ha : a = some ⟨b, 0, none⟩) (ht : Sc P t) (hx : ev n l x = some (.pointer (some ⟨b, q, none⟩))) (hc : ∀ j u, [v][j]? = some u → cs[q + j]? = some u) :
    (execOp (fr n l ds).eval ⟨some d, .load t x, ty, pos, aft, g⟩).run P w = .ok (.value v) w := by
  subst ha
  simp only [execOp, ev_eval hx, Instr.loadAt, Instr.sureAddr, Sem.run_bind, Sem.run_pure, Result.andThen_ok]
  rw [run_loadVar_one ht (row_cell hb (q := q) (hc 0 v rfl))]; rfl
theorem r_loadRk {t : TypeId} {m c e k b q s : Nat} {a : Option Addr} {cs vs : List Value} (hb : Rs.holds w (.row (.slice a m c) e k m cs)) (ha : a = some ⟨b, 0, none⟩) (ht : Ag P t s) (hx : ev n l x = some (.pointer (some ⟨b, q, none⟩))) (hc : ∀ j u, vs[j]? = some u → cs[q + j]? = some u) (hs : vs.length = s) :
    (execOp (fr n l ds).eval ⟨some d, .load t x, ty, pos, aft, g⟩).run P w = .ok (.value (.agg vs.toArray)) w := by
  subst ha
  simp only [execOp, ev_eval hx, Instr.loadAt, Instr.sureAddr, Sem.run_bind, Sem.run_pure, Result.andThen_ok]
  rw [run_loadVar_agg ht hs (fun j u e => by rw [add_off]; exact row_cell hb (hc j u e))]; rfl

/-- Cells of a row are written. -/
theorem L.setRow {α : Type} {C : Cr α} {i b m c e : Nat} {a : Option Addr} {cs us : List Value} (hL : L X H0 w0 S H w) (hs : sk S i = some (.row (.slice a m c) e C.k m cs)) (ha : a = some ⟨b, 0, none⟩) (q : Nat) (hq : q + us.length ≤ cs.length) (hu : ∀ u ∈ us, u.oneCell' = true) :
    ∃ w', (storeCells ⟨b, q, none⟩ us 0).run P w = .ok () w' ∧ L X H0 w0 ((i, .row (.slice a m c) e C.k m (cs.take q ++ us ++ cs.drop (q + us.length))) :: S) H w' := by
  subst ha
  have hown := hL.own i _ hs
  have hnon := (hL.non i _ hs b (by simp [Rs.foot, Value.ownBlock])).1
  rcases hown.2 with ⟨hv, _⟩ | ⟨g, cap, cur, hv, hg0, hg, hcap, hmax, hsz, htake⟩
  · cases hv
  · simp only [Value.slice.injEq, Option.some.injEq, Addr.mk.injEq] at hv
    obtain ⟨⟨rfl, _, _⟩, _, rfl⟩ := hv
    have hcs : cs.length = m * C.k := hown.1
    have hcur : cs.length ≤ cur.toList.length := by rw [← htake]; simp; omega
    obtain ⟨w', r1, r2, r3, r4, r5, r6, r7⟩ := storeCells_run (P := P) us cur.toList q 0 w (by simpa using hg) (by omega) hu
    simp only [Nat.add_zero] at r2
    refine ⟨w', r1, hL.step [b] i _ (fun b' hb' => ⟨_, hs, by simp [Rs.foot, Value.ownBlock]; simpa using hb'⟩) ⟨r3, r4, r5, by omega, fun b' _ hne => r7 b' (by simpa using hne), (fun b' o e => by
      have : b' ≠ b := fun e' => by subst e'; rw [hnon] at e; cases e
      rw [r7 b' this]; exact hL.imm b' o e), Hle.refl H, fun _ _ _ h => h⟩ ?_ (fun b' hb' => by
      simp [Rs.foot, Value.ownBlock] at hb'; subst hb'
      exact ⟨hnon, .inl (by simp)⟩)⟩
    refine ⟨by simp; omega, .inr ⟨b, c, _, rfl, hg0, r2, hcap, hmax, by simp; simp at hcur; omega, ?_⟩⟩
    have hN : q + us.length ≤ m * C.k := by rw [← hcs]; exact hq
    have hN' : m * C.k ≤ cur.toList.length := by rw [← hcs]; exact hcur
    rw [← htake, List.toList_toArray, List.take_append, List.take_of_length_le (by simp; omega), List.drop_take, List.take_take, Nat.min_eq_left (by omega)]
    have hq' : min q cur.toList.length = q := by omega
    congr 2
    rw [List.length_append, List.length_take, hq']
end
end Go.Proofs.YtcjphpenelnohaaGreatDoor
/- What the generator's lines use besides. -/
namespace Go.Proofs.YtcjphpenelnohaaGreatDoor
open Go.RowKit Go.WideElems Go.MapKept
/-- What is settled, in a state. -/
abbrev L.hp {X : List Nat} {H0 H : Hp} {w0 w : World} {S : List (Nat × Rs)} (_ : L X H0 w0 S H w) : Hp := H
theorem HM {H H' : Hp} (h : Hle H H') {b : Nat} {o : Obj} (e : H b = some o) : H' b = some o := h b o e
theorem cap3 {α : Type} {xs : List α} {j : Int} (hb : decide (0 ≤ (0 : Int) ∧ (0 : Int) ≤ j ∧ j ≤ (xs.length : Int)) = true) : j.toNat - (0 : Int).toNat = ((xs.take j.toNat).drop (0 : Int).toNat).length := by
  have := of_decide_eq_true hb
  simp; omega
theorem b8_of {n : Int} (h : decide (0 ≤ n ∧ n < 256) = true) {H : Hp} : cB8.C H [.int .u8 n] (UInt8.ofNat n.toNat) := by
  have h' := of_decide_eq_true h
  show _ = _
  congr 2
  simp
  omega
theorem en_default {H : Hp} : (evA cEn).E H (.agg (List.toArray [.string (mk []), .string (mk []), .string (mk []), .int .i64 0, .int .i64 0, .nilIface, .slice none 0 0, .slice none 0 0])) default :=
  ⟨_, rfl, .nilIface, none, 0, none, 0, rfl, .null, Sl.nil, Sl.nil⟩
/-- A builder's own address: none yet, or its own. -/
def BP (b : Nat) (p : Value) : Prop := p = .pointer none ∨ p = .pointer (some ⟨b, 0, none⟩)

section
variable {P : Program} {Q : Exit → Act → World → Prop} {n : Nat} {l : List (Nat × Value)} {ds : List Deferred} {w w0 : World}
  {d : Nat} {x y : Operand} {ty : TypeId} {pos : String} {aft : Array Edge} {v u : Value} {g : Option (Nat × Bool)} {K : Act → World → Prop} {X : List Nat} {H0 H : Hp} {S : List (Nat × Rs)}
/-- A store into an element of a row of one's own. -/
theorem o_storeR {α : Type} {C : Cr α} {y0 : α} {us : List Value} {t e c i b : Nat} {a : Option Addr} {cs : List Value} {xs : List α} {j : Int} (hL : L X H0 w0 S H w) (ht : (Sc P t ∧ us = [v]) ∨ (Ag P t C.k ∧ v = .agg us.toArray))
    (hx : ev n l x = some (.pointer (some ⟨b, j.toNat * C.k, none⟩))) (hy : ev n l y = some v) (hs : sk S i = some (.row (.slice a xs.length c) e C.k xs.length cs)) (ha : a = some ⟨b, 0, none⟩) (hc : LC C H cs xs)
    (hj : decide (0 ≤ j ∧ j < (xs.length : Int)) = true) (hu : C.C H us y0) (h1 : ∀ u ∈ us, u.oneCell' = true)
    (k : ∀ cs' w', LC C H cs' (xs.set j.toNat y0) → L X H0 w0 ((i, .row (.slice a (xs.set j.toNat y0).length c) e C.k (xs.set j.toNat y0).length cs') :: S) H w' → K (fr n l ds) w') :
    Oper.wp P ⟨none, .store t x y, ty, pos, aft, g⟩ (fr n l ds) w K Q := by
  have hj' := of_decide_eq_true hj
  have hlt : j.toNat < xs.length := by omega
  have hl := C.len hu
  have hcl := hc.length
  have hle : j.toNat * C.k + us.length ≤ cs.length := by
    rw [hcl, hl, ← Nat.succ_mul]; exact Nat.mul_le_mul_right _ hlt
  obtain ⟨w', r1, r2⟩ := hL.setRow (P := P) (C := C) hs ha (j.toNat * C.k) hle h1
  have hlc := LC.set hc j.toNat y0 us hlt hu
  rw [← hl] at hlc
  have r2' : L X H0 w0 ((i, .row (.slice a (xs.set j.toNat y0).length c) e C.k (xs.set j.toNat y0).length (cs.take (j.toNat * C.k) ++ us ++ cs.drop (j.toNat * C.k + us.length))) :: S) H w' := by
    rw [List.length_set]; exact r2
  refine o_skip (w' := w') ?_ (k _ w' (by rw [hl] at hlc ⊢; exact hlc) r2')
  rcases ht with ⟨ht, rfl⟩ | ⟨ht, rfl⟩
  · obtain ⟨dd, ii, e1, e2, e3, e4⟩ := ht.out
    have hv : v.oneCell' = true := h1 v (by simp)
    have hcells : v.cells = #[v] := by cases v <;> first | rfl | (simp [Value.oneCell'] at hv)
    simp only [execOp, ev_eval hx, ev_eval hy, Instr.storeAt, Instr.sureAddr, Sem.run_bind, Sem.run_pure, Result.andThen_ok, storeVar, run_sizeOf e3, e4, hcells, List.size_toArray, List.length_cons, List.length_nil, ne_eq,
      not_true, if_false, Sem.run_ite, r1]
  · obtain ⟨dd, ii, e1, e2, e3, e4⟩ := ht.out
    simp only [execOp, ev_eval hx, ev_eval hy, Instr.storeAt, Instr.sureAddr, Sem.run_bind, Sem.run_pure, Result.andThen_ok, storeVar, run_sizeOf e3, e4, Value.cells, List.size_toArray, hl, ne_eq,
      not_true, if_false, Sem.run_ite, r1]
end
theorem ok_v {v v' : Value} {w w' : World} (h : (Result.ok v w : Result Value) = .ok v' w') : v = v' := by cases h; rfl
noncomputable def b5B : Bool := match Tryz.prog.info? 5 with
  | some i => i.size == 1 && i.bytes == 1 && (match i.zero with | some (.int .u8 0) => true | _ => false)
  | none => false
theorem byte5 : ∃ i, Tryz.prog.info? 5 = some i ∧ i.zero = some (.int .u8 0) ∧ i.size = 1 ∧ i.bytes = 1 := by
  have h : b5B = true := by kernel_rfl
  unfold b5B at h
  split at h
  · rename_i i hi
    simp only [Bool.and_eq_true, beq_iff_eq] at h
    obtain ⟨⟨h1, h2⟩, h3⟩ := h
    split at h3
    · rename_i hz; exact ⟨i, hi, hz, h1, h2⟩
    · cases h3
  · cases h
theorem LC.ofBytes {H : Hp} (s : Bs) : LC cB8 H (Lib.strCells (mk s)) s := by
  rw [Lib.strCells_eq]
  show LC cB8 H (Lib.byteCells s) s
  induction s with
  | nil => exact .nil
  | cons c s ih => exact LC.cons (cs := [_]) (by rfl) ih
section
variable {Q : Exit → Act → World → Prop} {n : Nat} {l : List (Nat × Value)} {ds : List Deferred} {w w0 : World}
  {d : Nat} {x y : Operand} {ty : TypeId} {pos : String} {aft : Array Edge} {v u : Value} {g : Option (Nat × Bool)} {K : Act → World → Prop} {X : List Nat} {H0 H : Hp} {S : List (Nat × Rs)}
/-- append of a string to bytes of one's own. -/
theorem o_appendStr {t t' c : Nat} {a : Option Addr} {cs : List Value} {xs s : Bs} (i : Nat) (hL : L X H0 w0 S H w) (he : El Tryz.prog t 5 1) (hu : Tryz.prog.underlying t' = some .string) (hx : ev n l x = some (.slice a xs.length c)) (hy : ev n l y = some (.string (mk s)))
    (hs : sk S i = some (.row (.slice a xs.length c) 5 1 xs.length cs)) (hc : LC cB8 H cs xs) (hlim : decide (xs.length + s.length ≤ LIM) = true)
    (k : ∀ a'' c'' cs' w', LC cB8 H cs' (xs ++ s) → L X H0 w0 ((i, .row (.slice a'' (xs ++ s).length c'') 5 1 (xs ++ s).length cs') :: S) H w' → K (fr n ((d, .slice a'' (xs ++ s).length c'') :: l) ds) w') :
    Oper.wp Tryz.prog ⟨some d, .call ⟨.builtin .append, #[x, y], #[t, t']⟩, ty, pos, aft, g⟩ (fr n l ds) w K Q := by
  obtain ⟨_, _, h1, _⟩ := he.out
  obtain ⟨ii, h2, h3, h4, h5⟩ := byte5
  have hlim' := of_decide_eq_true hlim
  unfold LIM at hlim'
  have hown := hL.own i _ hs
  have hnon := hL.non i _ hs
  have hsz : (mk s).size = s.length := rfl
  obtain ⟨v', w', r1, r2, r3, _⟩ := Lib.run_append_own_string (P := Tryz.prog) w 0 t t' ty 5 ii h1 hu h2 h3 h4 h5 (.slice a xs.length c) xs.length cs hown (mk s) (by rw [hsz]; unfold maxLen; omega) (by rw [hsz]; omega) (Nat.zero_le _)
  rw [hsz] at r2
  obtain ⟨a', c', hv', _, _, _⟩ := row_form r2
  have hblk : ∀ b ∈ (Value.slice a' (xs.length + s.length) c').ownBlock.toList, b ∈ (Value.slice a xs.length c).ownBlock.toList ∨ w.heap.size ≤ b := by
    intro b hb
    have hb' : (Value.slice a' (xs.length + s.length) c').ownBlock = some b := by simpa using hb
    rw [← hv'] at hb'
    rcases hown.2 with ⟨hv, hn⟩ | ⟨g, cap, cur, hv, _, hg, hcap, hmax, hcur, htake⟩
    · right
      obtain ⟨v2, w2, q1, q2, _, _⟩ := Lib.run_append_own_string (P := Tryz.prog) w w.heap.size t t' ty 5 ii h1 hu h2 h3 h4 h5 (.slice none 0 0) 0 [] ⟨by simp, .inl ⟨rfl, rfl⟩⟩ (mk s) (by rw [hsz]; unfold maxLen; omega) (by rw [hsz]; omega) (Nat.le_refl _)
      rw [hv] at r1
      have : v' = v2 := ok_v (r1.symm.trans q1)
      rw [this] at hb'
      exact (World.ownsRow.lt q2 b hb').1
    · rw [hv] at r1
      have hxl : cs.length = xs.length := by simpa using hown.1
      have hcs' : cur.size = cap := by simpa using hcur
      by_cases hroom : xs.length + (mk s).size ≤ cap
      · left
        have q1 := Lib.run_append_room_string (P := Tryz.prog) w t t' ty 5 ii h1 hu h2 h4 g xs.length cap cur hg (mk s) hroom (by omega)
        have : v' = .slice (some ⟨g, 0, none⟩) (xs.length + (mk s).size) cap := ok_v (r1.symm.trans q1)
        rw [this] at hb'
        rw [hv]; simpa [Value.ownBlock, eq_comm] using hb'
      · right
        have holds : ∀ j u, cs[j]? = some u → w.cell? ((⟨g, 0, none⟩ : Addr).add j) = some u := World.ownsRow.cells hown (g := g) (by rw [hv]; rfl)
        have q1 := Lib.run_append_grow_string (P := Tryz.prog) w t t' ty 5 ii (.int .u8 0) h1 hu h2 h3 ⟨g, 0, none⟩ xs.length cap cs (by rw [h4]; simpa using hxl) holds (mk s) (by omega) (by rw [hsz]; omega) (by rw [h5, hsz]; exact growslice_fits (by omega) (by omega))
        have : v' = .slice (some ⟨w.heap.size, 0, none⟩) (xs.length + (mk s).size) (grownCap w (xs.length + (mk s).size) cap 5) := ok_v (r1.symm.trans q1)
        rw [this] at hb'
        simp [Value.ownBlock] at hb'; omega
  subst hv'
  have hstep := hL.step (Value.slice a xs.length c).ownBlock.toList i (.row (.slice a' (xs.length + s.length) c') 5 1 (xs.length + s.length) (cs ++ Lib.strCells (mk s))) (fun b hb => ⟨_, hs, hb⟩)
    (grown_ext r3 hL.imm fun b hb => (hnon b hb).1) r2 (fun b hb => by
      rcases hblk b hb with h | h
      · exact ⟨(hnon b h).1, .inl h⟩
      · exact ⟨hL.imm.fresh h, .inr h⟩)
  rw [← List.length_append] at hstep
  refine o_val (w' := w') ?_ (k a' c' _ w' (LC.append hc (LC.ofBytes s)) hstep)
  simp only [execOp, resolve, invoke, builtin, Sem.run_bind, Sem.run_pure, Result.andThen_ok, List.map_toArray, List.map_cons, List.map_nil, ev_eval hx, ev_eval hy, r1, List.length_append]
end
end Go.Proofs.YtcjphpenelnohaaGreatDoor
/-
  DERIVED: THE SHELF's CONTRACTS AT THIS DUMP, IN PLAIN WORDS (tools/lay-plain.mjs out of 'TryzShelfB.lean', which tools/lay-shelf.mjs wrote): THE SAME DECLARATIONS UNDER THE SAME NAMES: 'import', 'namespace', 'open', 'def', 'theorem' AND NOTHING ELSE: no command of the shelf's: FOR A HAND-IN. Each laying: the table of numbers ('.._ren') and one theorem, a field a fact of the dump's own or the kernel's comparison; each contract: ONE APPLICATION.
-/
namespace Go.Proofs
open Go.Shelf
def Tryz.lays137_ren : Go.Shelf.Ren := ⟨fun | 137 => 383 | 217 => 331 | 266 => 390 | n => n, fun | 9 => 9 | 5 => 5 | 3 => 3 | n => n, fun | n => n⟩
theorem Tryz.lays137 : Go.Proofs.Lays.n137 Tryz.prog Tryz.lays137_ren := {
  mixed := by kernel_rfl
  f137 := Tryz.func383.trans (congrArg some (by kernel_rfl))
  f217 := Tryz.func331.trans (congrArg some (by kernel_rfl))
  f266 := Tryz.func390.trans (congrArg some (by kernel_rfl))
  t3 := Tryz.underlying3
  a3 := Tryz.isAgg3
  z3 := Tryz.sizeOf3
  v3 := Tryz.zeroValue3
  t5 := Tryz.underlying5
  a5 := Tryz.isAgg5
  z5 := Tryz.sizeOf5
  v5 := Tryz.zeroValue5
  t9 := Tryz.underlying9
  a9 := Tryz.isAgg9
  z9 := Tryz.sizeOf9
  v9 := Tryz.zeroValue9 }
open Go.RowKit in
/-- strings.IndexByte: "IndexByte returns the index of the first instance of c in s, or -1 if c is not present in s.": IT RETURNS 'Lib.indexByte s c'; the world is as it was. (LAID: no walk: one application.) -/
theorem Tryz.strings_IndexByte (s : ByteArray) (c : Int) (w : World) :
    Calls Tryz.prog 383 #[.string s, .int .u8 c] w fun e w' => e = .returned (.int .i64 (Lib.indexByte s.data.toList c.toNat.toUInt8)) ∧ w' = w := Any.strings_IndexByte Tryz.lays137 s c w
def Tryz.laysM171_ren : Go.Shelf.Ren := ⟨fun | 171 => 121 | 243 => 194 | 246 => 284 | 283 => 368 | 284 => 369 | 285 => 370 | 286 => 371 | 129 => 355 | 317 => 408 | 318 => 409 | 319 => 410 | 320 => 411 | 337 => 422 | 338 => 423 | n => n, fun | 3 => 3 | 9 => 9 | 2 => 2 | 4 => 4 | 171 => 436 | 0 => 0 | 53 => 128 | 37 => 87 | 5 => 5 | 173 => 438 | 212 => 472 | 51 => 429 | 20 => 20 | 213 => 473 | 46 => 309 | 232 => 489 | 233 => 490 | n => n, fun | 17 => 3 | 18 => 6 | 19 => 7 | n => n⟩
theorem Tryz.laysM171 : Go.Proofs.LaysM.n171 Tryz.prog Tryz.laysM171_ren := {
  mixed := by kernel_rfl
  f129 := Tryz.func355.trans (congrArg some (by kernel_rfl))
  f171 := Tryz.func121.trans (congrArg some (by kernel_rfl))
  f243 := Tryz.func194.trans (congrArg some (by kernel_rfl))
  f246 := Tryz.func284.trans (congrArg some (by kernel_rfl))
  f283 := Tryz.func368.trans (congrArg some (by kernel_rfl))
  f284 := Tryz.func369.trans (congrArg some (by kernel_rfl))
  f285 := Tryz.func370.trans (congrArg some (by kernel_rfl))
  f286 := Tryz.func371.trans (congrArg some (by kernel_rfl))
  f317 := Tryz.func408.trans (congrArg some (by kernel_rfl))
  f318 := Tryz.func409.trans (congrArg some (by kernel_rfl))
  f319 := Tryz.func410.trans (congrArg some (by kernel_rfl))
  f320 := Tryz.func411.trans (congrArg some (by kernel_rfl))
  f337 := Tryz.func422.trans (congrArg some (by kernel_rfl))
  f338 := Tryz.func423.trans (congrArg some (by kernel_rfl))
  t0 := Tryz.underlying0
  a0 := Tryz.isAgg0
  z0 := Tryz.sizeOf0
  v0 := Tryz.zeroValue0
  t2 := Tryz.underlying2
  a2 := Tryz.isAgg2
  z2 := Tryz.sizeOf2
  v2 := Tryz.zeroValue2
  t3 := Tryz.underlying3
  a3 := Tryz.isAgg3
  z3 := Tryz.sizeOf3
  v3 := Tryz.zeroValue3
  t4 := Tryz.underlying4
  a4 := Tryz.isAgg4
  z4 := Tryz.sizeOf4
  v4 := Tryz.zeroValue4
  t5 := Tryz.underlying5
  a5 := Tryz.isAgg5
  z5 := Tryz.sizeOf5
  v5 := Tryz.zeroValue5
  t9 := Tryz.underlying9
  a9 := Tryz.isAgg9
  z9 := Tryz.sizeOf9
  v9 := Tryz.zeroValue9
  t20 := Tryz.underlying20
  a20 := Tryz.isAgg20
  z20 := Tryz.sizeOf20
  v20 := Tryz.zeroValue20
  t37 := Tryz.underlying87
  a37 := Tryz.isAgg87
  z37 := Tryz.sizeOf87
  v37 := Tryz.zeroValue87
  t46 := Tryz.underlying309
  a46 := Tryz.isAgg309
  z46 := Tryz.sizeOf309
  v46 := Tryz.zeroValue309
  t51 := Tryz.underlying429
  a51 := Tryz.isAgg429
  z51 := Tryz.sizeOf429
  v51 := Tryz.zeroValue429
  t53 := Tryz.underlying128
  a53 := Tryz.isAgg128
  z53 := Tryz.sizeOf128
  v53 := Tryz.zeroValue128
  t171 := Tryz.underlying436
  a171 := Tryz.isAgg436
  z171 := Tryz.sizeOf436
  v171 := Tryz.zeroValue436
  t173 := Tryz.underlying438
  a173 := Tryz.isAgg438
  z173 := Tryz.sizeOf438
  v173 := Tryz.zeroValue438
  t212 := Tryz.underlying472
  a212 := Tryz.isAgg472
  z212 := Tryz.sizeOf472
  v212 := Tryz.zeroValue472
  t213 := Tryz.underlying473
  a213 := Tryz.isAgg473
  z213 := Tryz.sizeOf473
  t232 := Tryz.underlying489
  a232 := Tryz.isAgg489
  z232 := Tryz.sizeOf489
  v232 := Tryz.zeroValue489
  t233 := Tryz.underlying490
  a233 := Tryz.isAgg490
  z233 := Tryz.sizeOf490
  v233 := Tryz.zeroValue490
  g17 := by kernel_rfl
  g18 := by kernel_rfl
  g19 := by kernel_rfl
  i0 := by kernel_rfl
  i2 := by kernel_rfl
  i3 := by kernel_rfl
  i4 := by kernel_rfl
  i5 := by kernel_rfl
  i9 := by kernel_rfl
  i20 := by kernel_rfl
  i37 := by kernel_rfl
  i46 := by kernel_rfl
  i51 := by kernel_rfl
  i53 := by kernel_rfl
  i171 := by kernel_rfl
  i173 := by kernel_rfl
  i212 := by kernel_rfl
  i232 := by kernel_rfl
  i233 := by kernel_rfl
  m17 := by kernel_rfl
  m18 := by kernel_rfl
  m19 := by kernel_rfl }
open Go.RowKit Go.Sort Go.Lib in
/-- strconv.Itoa: "Itoa is equivalent to FormatInt(int64(i), 10).": i's DECIMAL NUMERAL ('Lib.itoa': a '-' where i is negative, then the digits), FOR EVERY int. The world behind the call: the world before it, new blocks behind the heap (the library's 'var a [24]byte'), draws. (LAID: no walk: one application.) -/
theorem Tryz.strconv_Itoa (n : Int) (h0 : -9223372036854775808 ≤ n) (h1 : n ≤ 9223372036854775807) (w : World) (htab : Lib.TabIs Tryz.prog w "internal/strconv.uint64pow10" .u64 Lib.pow10Tab) :
    Calls Tryz.prog 121 #[.int .i64 n] w fun e w' => e = .returned (.string ⟨(Lib.itoa n).toArray⟩) ∧ ∃ k os, w' = grow (w.drewN k) os := Any.strconv_Itoa Tryz.laysM171 n h0 h1 w htab
def Tryz.lays145_ren : Go.Shelf.Ren := ⟨fun | 145 => 90 | 220 => 170 | 219 => 264 | 217 => 331 | 225 => 332 | 224 => 333 | 267 => 334 | 266 => 390 | 314 => 391 | n => n, fun | 9 => 9 | 4 => 4 | 59 => 147 | 3 => 3 | 5 => 5 | 46 => 309 | 146 => 452 | 51 => 429 | n => n, fun | 1 => 0 | n => n⟩
theorem Tryz.lays145 : Go.Proofs.Lays.n145 Tryz.prog Tryz.lays145_ren := {
  mixed := by kernel_rfl
  f145 := Tryz.func90.trans (congrArg some (by kernel_rfl))
  f217 := Tryz.func331.trans (congrArg some (by kernel_rfl))
  f219 := Tryz.func264.trans (congrArg some (by kernel_rfl))
  f220 := Tryz.func170.trans (congrArg some (by kernel_rfl))
  f224 := Tryz.func333.trans (congrArg some (by kernel_rfl))
  f225 := Tryz.func332.trans (congrArg some (by kernel_rfl))
  f266 := Tryz.func390.trans (congrArg some (by kernel_rfl))
  f267 := Tryz.func334.trans (congrArg some (by kernel_rfl))
  f314 := Tryz.func391.trans (congrArg some (by kernel_rfl))
  t3 := Tryz.underlying3
  a3 := Tryz.isAgg3
  z3 := Tryz.sizeOf3
  v3 := Tryz.zeroValue3
  t4 := Tryz.underlying4
  a4 := Tryz.isAgg4
  z4 := Tryz.sizeOf4
  v4 := Tryz.zeroValue4
  t5 := Tryz.underlying5
  a5 := Tryz.isAgg5
  z5 := Tryz.sizeOf5
  v5 := Tryz.zeroValue5
  t9 := Tryz.underlying9
  a9 := Tryz.isAgg9
  z9 := Tryz.sizeOf9
  v9 := Tryz.zeroValue9
  t46 := Tryz.underlying309
  a46 := Tryz.isAgg309
  z46 := Tryz.sizeOf309
  v46 := Tryz.zeroValue309
  t51 := Tryz.underlying429
  a51 := Tryz.isAgg429
  z51 := Tryz.sizeOf429
  v51 := Tryz.zeroValue429
  t59 := Tryz.underlying147
  a59 := Tryz.isAgg147
  z59 := Tryz.sizeOf147
  v59 := Tryz.zeroValue147
  t146 := Tryz.underlying452
  a146 := Tryz.isAgg452
  z146 := Tryz.sizeOf452
  v146 := Tryz.zeroValue452
  g1 := by kernel_rfl }
open Go.RowKit Go.Lib in
/-- strings.Cut: "Cut slices s around the first instance of sep, returning the text before and after sep. The found result reports whether sep appears in s. If sep does not appear in s, cut returns s, "", false.": IT RETURNS 'Lib.cut s sep'; the world is as it was but for the count of draws. (LAID: no walk: one application.) -/
theorem Tryz.strings_Cut (s sep : ByteArray) (m : Int) (w : World) (hs : s.size < 4294967281) (hm : w.cell? ⟨0, 0, none⟩ = some (.int .i64 m)) :
    Calls Tryz.prog 90 #[.string s, .string sep] w fun e w' => e = .returned (.tuple #[.string ⟨(Lib.cut s.data.toList sep.data.toList).1.toArray⟩, .string ⟨(Lib.cut s.data.toList sep.data.toList).2.1.toArray⟩, .bool (Lib.cut s.data.toList sep.data.toList).2.2]) ∧ ∃ n, w' = w.drewN n := Any.strings_Cut Tryz.lays145 s sep m w hs hm
def Tryz.lays146_ren : Go.Shelf.Ren := ⟨fun | 146 => 175 | 221 => 268 | 268 => 341 | 138 => 342 | 143 => 343 | 195 => 395 | 197 => 396 | 218 => 397 | 219 => 264 | 260 => 419 | 217 => 331 | 225 => 332 | 224 => 333 | 267 => 334 | 266 => 390 | 314 => 391 | n => n, fun | 9 => 9 | 31 => 30 | 3 => 3 | 4 => 4 | 0 => 0 | 105 => 460 | 21 => 21 | 5 => 5 | 46 => 309 | 119 => 485 | 139 => 488 | 138 => 487 | 146 => 452 | 51 => 429 | n => n, fun | 1 => 0 | 3 => 4 | 4 => 5 | n => n⟩
theorem Tryz.lays146 : Go.Proofs.Lays.n146 Tryz.prog Tryz.lays146_ren := {
  mixed := by kernel_rfl
  f138 := Tryz.func342.trans (congrArg some (by kernel_rfl))
  f143 := Tryz.func343.trans (congrArg some (by kernel_rfl))
  f146 := Tryz.func175.trans (congrArg some (by kernel_rfl))
  f195 := Tryz.func395.trans (congrArg some (by kernel_rfl))
  f197 := Tryz.func396.trans (congrArg some (by kernel_rfl))
  f217 := Tryz.func331.trans (congrArg some (by kernel_rfl))
  f218 := Tryz.func397.trans (congrArg some (by kernel_rfl))
  f219 := Tryz.func264.trans (congrArg some (by kernel_rfl))
  f221 := Tryz.func268.trans (congrArg some (by kernel_rfl))
  f224 := Tryz.func333.trans (congrArg some (by kernel_rfl))
  f225 := Tryz.func332.trans (congrArg some (by kernel_rfl))
  f260 := Tryz.func419.trans (congrArg some (by kernel_rfl))
  f266 := Tryz.func390.trans (congrArg some (by kernel_rfl))
  f267 := Tryz.func334.trans (congrArg some (by kernel_rfl))
  f268 := Tryz.func341.trans (congrArg some (by kernel_rfl))
  f314 := Tryz.func391.trans (congrArg some (by kernel_rfl))
  t0 := Tryz.underlying0
  a0 := Tryz.isAgg0
  z0 := Tryz.sizeOf0
  v0 := Tryz.zeroValue0
  t3 := Tryz.underlying3
  a3 := Tryz.isAgg3
  z3 := Tryz.sizeOf3
  v3 := Tryz.zeroValue3
  t4 := Tryz.underlying4
  a4 := Tryz.isAgg4
  z4 := Tryz.sizeOf4
  v4 := Tryz.zeroValue4
  t5 := Tryz.underlying5
  a5 := Tryz.isAgg5
  z5 := Tryz.sizeOf5
  v5 := Tryz.zeroValue5
  t9 := Tryz.underlying9
  a9 := Tryz.isAgg9
  z9 := Tryz.sizeOf9
  v9 := Tryz.zeroValue9
  t21 := Tryz.underlying21
  a21 := Tryz.isAgg21
  z21 := Tryz.sizeOf21
  v21 := Tryz.zeroValue21
  t31 := Tryz.underlying30
  a31 := Tryz.isAgg30
  z31 := Tryz.sizeOf30
  v31 := Tryz.zeroValue30
  t46 := Tryz.underlying309
  a46 := Tryz.isAgg309
  z46 := Tryz.sizeOf309
  v46 := Tryz.zeroValue309
  t51 := Tryz.underlying429
  a51 := Tryz.isAgg429
  z51 := Tryz.sizeOf429
  v51 := Tryz.zeroValue429
  t105 := Tryz.underlying460
  a105 := Tryz.isAgg460
  z105 := Tryz.sizeOf460
  v105 := Tryz.zeroValue460
  t119 := Tryz.underlying485
  a119 := Tryz.isAgg485
  z119 := Tryz.sizeOf485
  t138 := Tryz.underlying487
  a138 := Tryz.isAgg487
  z138 := Tryz.sizeOf487
  v138 := Tryz.zeroValue487
  t139 := Tryz.underlying488
  a139 := Tryz.isAgg488
  z139 := Tryz.sizeOf488
  v139 := Tryz.zeroValue488
  t146 := Tryz.underlying452
  a146 := Tryz.isAgg452
  z146 := Tryz.sizeOf452
  v146 := Tryz.zeroValue452
  g1 := by kernel_rfl
  g3 := by kernel_rfl
  g4 := by kernel_rfl }
open Go.RowKit Go.Lib in
/-- strings.Split. (LAID: no walk: one application.) -/
theorem Tryz.strings_Split (s sep : ByteArray) (m : Int) (w : World) (hs : s.size < 4294967281) (hm : w.cell? ⟨0, 0, none⟩ = some (.int .i64 m)) (h1 : 1 ≤ sep.size) :
    Calls Tryz.prog 175 #[.string s, .string sep] w fun e w' =>
      e = .returned (.slice (some ⟨w.heap.size, 0, none⟩) (Lib.countB s sep + 1) (Lib.countB s sep + 1)) ∧ w' = w.alloc (.cells ((Lib.splitB sep 0 (Lib.countB s sep) s).map Value.string).toArray 9) := Any.strings_Split Tryz.lays146 (by kernel_rfl) s sep m w hs hm h1
def Tryz.lays194_ren : Go.Shelf.Ren := ⟨fun | 194 => 183 | n => n, fun | 31 => 30 | 9 => 9 | 3 => 3 | 4 => 4 | 0 => 0 | n => n, fun | n => n⟩
theorem Tryz.lays194 : Go.Proofs.Lays.n194 Tryz.prog Tryz.lays194_ren := {
  mixed := by kernel_rfl
  f194 := Tryz.func183.trans (congrArg some (by kernel_rfl))
  t0 := Tryz.underlying0
  a0 := Tryz.isAgg0
  z0 := Tryz.sizeOf0
  v0 := Tryz.zeroValue0
  t3 := Tryz.underlying3
  a3 := Tryz.isAgg3
  z3 := Tryz.sizeOf3
  v3 := Tryz.zeroValue3
  t4 := Tryz.underlying4
  a4 := Tryz.isAgg4
  z4 := Tryz.sizeOf4
  v4 := Tryz.zeroValue4
  t9 := Tryz.underlying9
  a9 := Tryz.isAgg9
  z9 := Tryz.sizeOf9
  v9 := Tryz.zeroValue9
  t31 := Tryz.underlying30
  a31 := Tryz.isAgg30
  z31 := Tryz.sizeOf30
  v31 := Tryz.zeroValue30 }
open Go.RowKit Go.Lib Go.Sort in
/-- slices.Compact at []string: "Compact replaces consecutive runs of equal elements with a single copy. This is like the uniq command found on Unix. Compact modifies the contents of the slice s and returns the modified slice, which may have a smaller length. Compact zeroes the elements between the new length and the original length. The result preserves the nilness of s.": IT RETURNS THE SLICE CUT TO 'Lib.compact zs'; ITS CELLS HOLD 'Lib.compact zs', THEN ZERO VALUES up to the old length; all else is as it was, but for the count of draws. IN THE WORDS OF slices.Sort's CONTRACT ('Holds', 'putRow'): so the everyday 'slices.Sort(xs); xs = slices.Compact(xs)' goes from the one contract to the other. It asks 'zs.length ≤ cap' (every slice's: the reslicing 's[:k]' looks at it). Length 0, nil: '.._empty'. (LAID: no walk: one application.) -/
theorem Tryz.slices_Compact_string (blk off cap : Nat) (zs : List (List UInt8)) (w : World) (hH : Holds encStr w blk off zs.toArray) (hsz : zs.length ≤ 9223372036854775807) (hcap : zs.length ≤ cap) :
    Calls Tryz.prog 183 #[.slice (some ⟨blk, off, none⟩) zs.length cap] w fun e w' => e = .returned (.slice (some ⟨blk, off, none⟩) (Lib.compact zs).length cap) ∧ ∃ q, w' = putRow encStr (Sort.ahead w q) blk off (Lib.compact zs ++ List.replicate (zs.length - (Lib.compact zs).length) []).toArray := Any.slices_Compact_string Tryz.lays194 blk off cap zs w hH hsz hcap
open Go.RowKit Go.Lib Go.Sort in
/-- The same at a slice of length 0, a nil one too: it comes back as it is. (LAID: no walk: one application.) -/
theorem Tryz.slices_Compact_string_empty (a : Option Addr) (cap : Nat) (w : World) :
    Calls Tryz.prog 183 #[.slice a 0 cap] w fun e w' => e = .returned (.slice a 0 cap) ∧ w' = w := Any.slices_Compact_string_empty Tryz.lays194 a cap w
def Tryz.laysC172_ren : Go.Shelf.Ren := ⟨fun | 172 => 172 | 244 => 266 | 245 => 267 | 247 => 336 | 279 => 337 | 280 => 338 | 281 => 339 | 282 => 340 | 287 => 392 | 316 => 393 | 171 => 121 | 205 => 394 | 321 => 417 | 322 => 418 | 243 => 194 | 246 => 284 | 283 => 368 | 284 => 369 | 285 => 370 | 286 => 371 | 129 => 355 | 317 => 408 | 318 => 409 | 319 => 410 | 320 => 411 | 337 => 422 | 338 => 423 | n => n, fun | 9 => 9 | 3 => 3 | 75 => 203 | 76 => 204 | 4 => 4 | 5 => 5 | 167 => 411 | 37 => 87 | 0 => 0 | 85 => 412 | 2 => 2 | 168 => 414 | 53 => 128 | 175 => 454 | 46 => 309 | 210 => 457 | 127 => 297 | 145 => 479 | 143 => 477 | 21 => 21 | 171 => 436 | 173 => 438 | 212 => 472 | 51 => 429 | 20 => 20 | 213 => 473 | 232 => 489 | 233 => 490 | 80 => 208 | n => n, fun | 15 => 1 | 16 => 2 | 17 => 3 | 18 => 6 | 19 => 7 | n => n⟩
theorem Tryz.laysC172 : Go.Proofs.LaysC.n172 Tryz.prog Tryz.laysC172_ren := {
  mixed := by kernel_rfl
  f129 := Tryz.func355.trans (congrArg some (by kernel_rfl))
  f171 := Tryz.func121.trans (congrArg some (by kernel_rfl))
  f172 := Tryz.func172.trans (congrArg some (by kernel_rfl))
  f205 := Tryz.func394.trans (congrArg some (by kernel_rfl))
  f243 := Tryz.func194.trans (congrArg some (by kernel_rfl))
  f244 := Tryz.func266.trans (congrArg some (by kernel_rfl))
  f245 := Tryz.func267.trans (congrArg some (by kernel_rfl))
  f246 := Tryz.func284.trans (congrArg some (by kernel_rfl))
  f247 := Tryz.func336.trans (congrArg some (by kernel_rfl))
  f279 := Tryz.func337.trans (congrArg some (by kernel_rfl))
  f280 := Tryz.func338.trans (congrArg some (by kernel_rfl))
  f281 := Tryz.func339.trans (congrArg some (by kernel_rfl))
  f282 := Tryz.func340.trans (congrArg some (by kernel_rfl))
  f283 := Tryz.func368.trans (congrArg some (by kernel_rfl))
  f284 := Tryz.func369.trans (congrArg some (by kernel_rfl))
  f285 := Tryz.func370.trans (congrArg some (by kernel_rfl))
  f286 := Tryz.func371.trans (congrArg some (by kernel_rfl))
  f287 := Tryz.func392.trans (congrArg some (by kernel_rfl))
  f316 := Tryz.func393.trans (congrArg some (by kernel_rfl))
  f317 := Tryz.func408.trans (congrArg some (by kernel_rfl))
  f318 := Tryz.func409.trans (congrArg some (by kernel_rfl))
  f319 := Tryz.func410.trans (congrArg some (by kernel_rfl))
  f320 := Tryz.func411.trans (congrArg some (by kernel_rfl))
  f321 := Tryz.func417.trans (congrArg some (by kernel_rfl))
  f322 := Tryz.func418.trans (congrArg some (by kernel_rfl))
  f337 := Tryz.func422.trans (congrArg some (by kernel_rfl))
  f338 := Tryz.func423.trans (congrArg some (by kernel_rfl))
  t0 := Tryz.underlying0
  a0 := Tryz.isAgg0
  z0 := Tryz.sizeOf0
  v0 := Tryz.zeroValue0
  t2 := Tryz.underlying2
  a2 := Tryz.isAgg2
  z2 := Tryz.sizeOf2
  v2 := Tryz.zeroValue2
  t3 := Tryz.underlying3
  a3 := Tryz.isAgg3
  z3 := Tryz.sizeOf3
  v3 := Tryz.zeroValue3
  t4 := Tryz.underlying4
  a4 := Tryz.isAgg4
  z4 := Tryz.sizeOf4
  v4 := Tryz.zeroValue4
  t5 := Tryz.underlying5
  a5 := Tryz.isAgg5
  z5 := Tryz.sizeOf5
  v5 := Tryz.zeroValue5
  t9 := Tryz.underlying9
  a9 := Tryz.isAgg9
  z9 := Tryz.sizeOf9
  v9 := Tryz.zeroValue9
  t20 := Tryz.underlying20
  a20 := Tryz.isAgg20
  z20 := Tryz.sizeOf20
  v20 := Tryz.zeroValue20
  t21 := Tryz.underlying21
  a21 := Tryz.isAgg21
  z21 := Tryz.sizeOf21
  v21 := Tryz.zeroValue21
  t37 := Tryz.underlying87
  a37 := Tryz.isAgg87
  z37 := Tryz.sizeOf87
  v37 := Tryz.zeroValue87
  t46 := Tryz.underlying309
  a46 := Tryz.isAgg309
  z46 := Tryz.sizeOf309
  v46 := Tryz.zeroValue309
  t51 := Tryz.underlying429
  a51 := Tryz.isAgg429
  z51 := Tryz.sizeOf429
  v51 := Tryz.zeroValue429
  t53 := Tryz.underlying128
  a53 := Tryz.isAgg128
  z53 := Tryz.sizeOf128
  v53 := Tryz.zeroValue128
  t75 := Tryz.underlying203
  a75 := Tryz.isAgg203
  z75 := Tryz.sizeOf203
  v75 := Tryz.zeroValue203
  t76 := Tryz.underlying204
  a76 := Tryz.isAgg204
  z76 := Tryz.sizeOf204
  v76 := Tryz.zeroValue204
  t85 := Tryz.underlying412
  a85 := Tryz.isAgg412
  z85 := Tryz.sizeOf412
  v85 := Tryz.zeroValue412
  t127 := Tryz.underlying297
  a127 := Tryz.isAgg297
  z127 := Tryz.sizeOf297
  v127 := Tryz.zeroValue297
  t143 := Tryz.underlying477
  a143 := Tryz.isAgg477
  z143 := Tryz.sizeOf477
  v143 := Tryz.zeroValue477
  t145 := Tryz.underlying479
  a145 := Tryz.isAgg479
  z145 := Tryz.sizeOf479
  v145 := Tryz.zeroValue479
  t167 := Tryz.underlying411
  a167 := Tryz.isAgg411
  z167 := Tryz.sizeOf411
  v167 := Tryz.zeroValue411
  t168 := Tryz.underlying414
  a168 := Tryz.isAgg414
  z168 := Tryz.sizeOf414
  v168 := Tryz.zeroValue414
  t171 := Tryz.underlying436
  a171 := Tryz.isAgg436
  z171 := Tryz.sizeOf436
  v171 := Tryz.zeroValue436
  t173 := Tryz.underlying438
  a173 := Tryz.isAgg438
  z173 := Tryz.sizeOf438
  v173 := Tryz.zeroValue438
  t175 := Tryz.underlying454
  a175 := Tryz.isAgg454
  z175 := Tryz.sizeOf454
  v175 := Tryz.zeroValue454
  t210 := Tryz.underlying457
  a210 := Tryz.isAgg457
  z210 := Tryz.sizeOf457
  v210 := Tryz.zeroValue457
  t212 := Tryz.underlying472
  a212 := Tryz.isAgg472
  z212 := Tryz.sizeOf472
  v212 := Tryz.zeroValue472
  t213 := Tryz.underlying473
  a213 := Tryz.isAgg473
  z213 := Tryz.sizeOf473
  t232 := Tryz.underlying489
  a232 := Tryz.isAgg489
  z232 := Tryz.sizeOf489
  v232 := Tryz.zeroValue489
  t233 := Tryz.underlying490
  a233 := Tryz.isAgg490
  z233 := Tryz.sizeOf490
  v233 := Tryz.zeroValue490
  g15 := by kernel_rfl
  g16 := by kernel_rfl
  g17 := by kernel_rfl
  g18 := by kernel_rfl
  g19 := by kernel_rfl
  t80 := Tryz.underlying208
  a80 := Tryz.isAgg208
  z80 := Tryz.sizeOf208
  v80 := Tryz.zeroValue208
  i0 := by kernel_rfl
  i2 := by kernel_rfl
  i3 := by kernel_rfl
  i4 := by kernel_rfl
  i5 := by kernel_rfl
  i9 := by kernel_rfl
  i20 := by kernel_rfl
  i21 := by kernel_rfl
  i37 := by kernel_rfl
  i46 := by kernel_rfl
  i51 := by kernel_rfl
  i53 := by kernel_rfl
  i75 := by kernel_rfl
  i76 := by kernel_rfl
  i80 := by kernel_rfl
  i85 := by kernel_rfl
  i127 := by kernel_rfl
  i143 := by kernel_rfl
  i145 := by kernel_rfl
  i167 := by kernel_rfl
  i168 := by kernel_rfl
  i171 := by kernel_rfl
  i173 := by kernel_rfl
  i175 := by kernel_rfl
  i210 := by kernel_rfl
  i212 := by kernel_rfl
  i232 := by kernel_rfl
  i233 := by kernel_rfl
  m15 := by kernel_rfl
  m16 := by kernel_rfl
  m17 := by kernel_rfl
  m18 := by kernel_rfl
  m19 := by kernel_rfl
  c0 := by kernel_rfl
  c2 := by kernel_rfl
  c3 := by kernel_rfl
  c4 := by kernel_rfl
  c5 := by kernel_rfl
  c9 := by kernel_rfl
  c20 := by kernel_rfl
  c21 := by kernel_rfl
  c37 := by kernel_rfl
  c46 := by kernel_rfl
  c51 := by kernel_rfl
  c53 := by kernel_rfl
  c75 := by kernel_rfl
  c76 := by kernel_rfl
  c80 := by kernel_rfl
  c85 := by kernel_rfl
  c127 := by kernel_rfl
  c143 := by kernel_rfl
  c145 := by kernel_rfl
  c167 := by kernel_rfl
  c168 := by kernel_rfl
  c171 := by kernel_rfl
  c173 := by kernel_rfl
  c175 := by kernel_rfl
  c210 := by kernel_rfl
  c212 := by kernel_rfl
  c213 := by kernel_rfl
  c232 := by kernel_rfl
  c233 := by kernel_rfl }
end Go.Proofs
