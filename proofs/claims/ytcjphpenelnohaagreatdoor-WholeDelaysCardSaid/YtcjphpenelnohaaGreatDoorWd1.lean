/- WholeDelays: part 1. -/
import Derived.Test.YtcjphpenelnohaaGreatDoorWd0
import Derived.Lib.Index
import Derived.Lib.IndexMore
import Derived.Lib.AtoiAll
import Derived.Lib.ItoaNum
import Derived.Shelf.SlIter.Nil
import Derived.Shelf.SortM.Plain
import Derived.Shelf.SortM.SortNone
import Derived.Ground.GgzProg
import Derived.Ground.SlgmProg
import Derived.Test.YtcjphpenelnohaaGreatDoorProg
import Derived.Lib.UnsafeStr
import Derived.Lib.Builder
import Derived.Laws.Externs
import Derived.Defers
import Derived.Shelf.Strings.Builder1
import Derived.Shelf.Strings.Builder2
import Derived.Shelf.Strings.OnBuilder
import Derived.Shelf.Small.Bits
import Derived.Shelf.Small.Strs
import Derived.Shelf.Small.Wraps
import Derived.Shelf.LaysM
import Derived.Shelf.LaysC
import Derived.Ground.Names2Prog
set_option linter.all false
set_option linter.unusedVariables false
set_option linter.unusedSimpArgs false
set_option linter.unusedSectionVars false
set_option linter.unnecessarySimpa false
set_option linter.deprecated false
/- The words of the models: what Go's library answers. No program in sight. -/
namespace Go.Proofs.YtcjphpenelnohaaGreatDoor
/-- A numeral of at most f digits. -/
def digF : Nat → Nat → Bs
  | 0, _ => []
  | f + 1, u => bif decide (u < 10) then [UInt8.ofNat (48 + u)] else digF f (u / 10) ++ [UInt8.ofNat (48 + u % 10)]
theorem digF_eq : ∀ (f u : Nat), u < 10 ^ (f + 1) → digF (f + 1) u = Lib.decDigits u
  | 0, u, h => by
    have h' : u < 10 := by simpa using h
    unfold digF Lib.decDigits
    simp [h']
  | f + 1, u, h => by
    unfold digF Lib.decDigits
    by_cases h' : u < 10
    · simp [h']
    · have h2 : u / 10 < 10 ^ (f + 1) := by
        rw [Nat.div_lt_iff_lt_mul (by omega)]
        rw [Nat.pow_succ] at h; exact h
      simp only [h', decide_false, cond_false, dif_neg, not_false_eq_true]
      rw [digF_eq f (u / 10) h2]
def itoa (n : Int) : Bs := bif decide (n < 0) then 45 :: digF 19 n.natAbs else digF 19 n.toNat
theorem itoa_eq (n : Int) (h0 : -9223372036854775808 ≤ n) (h1 : n ≤ 9223372036854775807) : itoa n = Lib.itoa n := by
  unfold itoa Lib.itoa
  by_cases h : n < 0
  · have h2 : n.natAbs < 10 ^ (18 + 1) := Nat.lt_of_le_of_lt (show n.natAbs ≤ 9223372036854775808 by omega) (by decide)
    rw [if_pos h, ← digF_eq 18 _ h2]
    simp [h]
  · have h2 : n.toNat < 10 ^ (18 + 1) := Nat.lt_of_le_of_lt (show n.toNat ≤ 9223372036854775807 by omega) (by decide)
    rw [if_neg h, ← digF_eq 18 _ h2]
    simp [h]
def i64 (n : Int) : Bool := decide (-9223372036854775808 ≤ n ∧ n ≤ 9223372036854775807)
/-- strconv.Itoa -/
def m121 (n : Int) : Option Bs := bif i64 n then some (itoa n) else none
/-- strings.Cut -/
def m90 (s sep : Bs) : Option (Bs × Bs × Bool) := bif decide (s.length ≤ LIM) then some (Lib.cut s sep) else none
/-- strconv.Atoi: the number, and whether there is no error. -/
def m172 (s : Bs) : Option (Int × Bool) := bif decide (s.length ≤ LIM) then some (match Lib.atoiAll s with
  | .ok v => (v, true)
  | .range => (Lib.atoiSat s, false)
  | _ => (0, false)) else none
/-- The pieces between separators, k of them at most. -/
def pieces (sep : Bs) : Nat → Bs → List Bs
  | 0, s => [s]
  | k + 1, s => bif Lib.index s sep == -1 then [s] else s.take (Lib.index s sep).toNat :: pieces sep k (s.drop ((Lib.index s sep).toNat + sep.length))
/-- strings.Split -/
def m175 (s sep : Bs) : Option (List Bs) := bif decide (s.length ≤ LIM) && decide (1 ≤ sep.length) then some (pieces sep (Lib.count s sep) s) else none
/-- strings.IndexByte -/
def m383 (s : Bs) (c : Int) : Option Int := some (Lib.indexByte s c.toNat.toUInt8)
end Go.Proofs.YtcjphpenelnohaaGreatDoor
/- Go's library: the shelf's contracts, as contracts of the engine. -/
set_option linter.unusedVariables false
set_option linter.unusedSimpArgs false
namespace Go.Proofs.YtcjphpenelnohaaGreatDoor
open Go.RowKit Go.WideElems Go.MapKept

/-- An error: is it nil? -/
def ER (p : Value) (ok : Bool) : Prop := (p = .nilIface ∧ ok = true) ∨ ∃ t u, p = .iface t u ∧ ok = false
theorem ER.one {p : Value} {ok : Bool} (h : ER p ok) : p.oneCell' = true := by
  rcases h with ⟨rfl, _⟩ | ⟨t, u, rfl, _⟩ <;> rfl
theorem meth203 : Tryz.prog.underlying 203 = some (.interface (Tryz.prog.methodsAt 203)) := by kernel_rfl
section
variable {n : Nat} {l : List (Nat × Value)} {ds : List Deferred} {w : World} {d : Nat} {x : Operand} {ty : TypeId} {pos : String} {aft : Array Edge} {v u : Value} {g : Option (Nat × Bool)}
theorem r_eqER {t' : TypeId} {ok : Bool} (h : ER v ok) (hx : ev n l x = some v) :
    (execOp (fr n l ds).eval ⟨some d, .binOp .eql 203 x (.const .nilIface) t', ty, pos, aft, g⟩).run Tryz.prog w = .ok (.value (.bool ok)) w := by
  have hy : (fr n l ds).eval (.const .nilIface) = .nilIface := rfl
  rcases h with ⟨rfl, rfl⟩ | ⟨t, u, rfl, rfl⟩
  · simp [execOp, ev_eval hx, hy, eqGuard, run_eql_nil_nil w 203 meth203]
  · simp [execOp, ev_eval hx, hy, eqGuard_at_iface, run_eql_held_nil w 203 _ _ meth203]
theorem r_neER {t' : TypeId} {ok : Bool} (h : ER v ok) (hx : ev n l x = some v) :
    (execOp (fr n l ds).eval ⟨some d, .binOp .neq 203 x (.const .nilIface) t', ty, pos, aft, g⟩).run Tryz.prog w = .ok (.value (.bool (!ok))) w := by
  have hy : (fr n l ds).eval (.const .nilIface) = .nilIface := rfl
  rcases h with ⟨rfl, rfl⟩ | ⟨t, u, rfl, rfl⟩
  · simp [execOp, ev_eval hx, hy, eqGuard, run_neq_nil_nil w 203 meth203]
  · simp [execOp, ev_eval hx, hy, eqGuard_at_iface, run_neq_held_nil w 203 _ _ meth203]
end

/-- What start-up has laid, and nobody writes. -/
def GT (H : Hp) : Prop := ∀ w, Imm H w → (∃ m, w.cell? ⟨0, 0, none⟩ = some (.int .i64 m)) ∧ Lib.TabIs Tryz.prog w "internal/strconv.uint64pow10" .u64 Lib.pow10Tab ∧
  (∃ tp p, w.var? Tryz.prog "strconv.ErrSyntax" = some #[.iface tp p]) ∧ ∃ tp p, w.var? Tryz.prog "strconv.ErrRange" = some #[.iface tp p]
theorem GT.mono {H H' : Hp} (h : Hle H H') (g : GT H) : GT H' := fun w hI => g w fun b o e => hI b o (h b o e)

theorem ext_below {H : Hp} {w w' : World} (hI : Imm H w) (h : Below w.heap.size w w') : Ext [] H w H w' :=
  ⟨h.os, h.tape, h.output, h.size, fun b hb _ => h.block b hb, fun b o e => by rw [h.block b (hI.lt e)]; exact hI b o e, Hle.refl H, fun _ _ _ h => h⟩
theorem below_drewN' {w : World} (n : Nat) : Below w.heap.size w (w.drewN n) := ⟨rfl, rfl, rfl, Nat.le_refl _, fun _ _ => rfl⟩
theorem below_grow' {w : World} (n : Nat) (os : Array Obj) : Below w.heap.size w (Sort.grow (w.drewN n) os) :=
  ⟨rfl, rfl, rfl, by simp [Sort.grow, World.drewN], fun k hk => by simp [Sort.grow, World.drewN, Array.getElem?_append, hk]⟩

theorem lim_of {s : Bs} (h : decide (s.length ≤ LIM) = true) : (mk s).size ≤ 2147483648 := by
  have := of_decide_eq_true h
  rw [size_mk]; exact this

theorem c383 : ∀ {H0 : Hp} {w0 : World} {s : Bs} {c : Int} (_ : Imm H0 w0) {r : Int} (_ : m383 s c = some r), Ct Tryz.prog 383 [.string (mk s), .int .u8 c] [] H0 w0 fun v H' w' => v = .int .i64 r := by
  intro H0 w0 s c hI r hm
  obtain rfl := ends hm
  refine (Tryz.strings_IndexByte (mk s) c w0).mono ?_
  rintro e w' ⟨rfl, rfl⟩
  exact ⟨_, H0, rfl, Ext.refl hI, rfl⟩
theorem c121 : ∀ {H0 : Hp} {w0 : World} {n : Int} (_ : Imm H0 w0) (_ : GT H0) {r : Bs} (_ : m121 n = some r), Ct Tryz.prog 121 [.int .i64 n] [] H0 w0 fun v H' w' => v = .string (mk r) := by
  intro H0 w0 n hI hG r hm
  unfold m121 at hm
  obtain ⟨h, hm⟩ := grd hm
  obtain rfl := ends hm
  have h' := of_decide_eq_true h
  refine (Tryz.strconv_Itoa n h'.1 h'.2 w0 (hG w0 hI).2.1).mono ?_
  rintro e w' ⟨rfl, k, os, rfl⟩
  exact ⟨_, H0, rfl, ext_below hI (below_grow' k os), by rw [itoa_eq n h'.1 h'.2]⟩
theorem c90 : ∀ {H0 : Hp} {w0 : World} {s sep : Bs} (_ : Imm H0 w0) (_ : GT H0) {r : Bs × Bs × Bool} (_ : m90 s sep = some r), Ct Tryz.prog 90 [.string (mk s), .string (mk sep)] [] H0 w0 fun v H' w' => v = .tuple (List.toArray [.string (mk r.1), .string (mk r.2.1), .bool r.2.2]) := by
  intro H0 w0 s sep hI hG r hm
  unfold m90 at hm
  obtain ⟨h, hm⟩ := grd hm
  obtain rfl := ends hm
  obtain ⟨m, hm0⟩ := (hG w0 hI).1
  refine (Tryz.strings_Cut (mk s) (mk sep) m w0 (Nat.lt_of_le_of_lt (lim_of h) (by decide)) hm0).mono ?_
  rintro e w' ⟨rfl, n, rfl⟩
  exact ⟨_, H0, rfl, ext_below hI (below_drewN' n), rfl⟩
theorem c172 : ∀ {H0 : Hp} {w0 : World} {s : Bs} (_ : Imm H0 w0) (_ : GT H0) {r : Int × Bool} (_ : m172 s = some r), Ct Tryz.prog 172 [.string (mk s)] [] H0 w0 fun v H' w' => ∃ p : Value, v = .tuple (List.toArray [.int .i64 r.1, p]) ∧ ER p r.2 := by
  intro H0 w0 s hI hG r hm
  unfold m172 at hm
  obtain ⟨h, hm⟩ := grd hm
  obtain rfl := ends hm
  have hl := lim_of h
  obtain ⟨_, _, ⟨tp, p, h1⟩, tp', p', h2⟩ := hG w0 hI
  cases e : Lib.atoiAll s with
  | ok v =>
    refine (Any.strconv_Atoi_ok Tryz.laysC172 (mk s) (by omega) v e w0).mono ?_
    rintro e w' ⟨rfl, h3⟩
    refine ⟨_, H0, rfl, ?_, _, rfl, .inl ⟨rfl, rfl⟩⟩
    rcases h3 with rfl | ⟨t, rfl⟩
    · exact Ext.refl hI
    · exact ext_below hI (Lib.bytesWorld_below _ _ _)
  | range =>
    refine (Any.strconv_Atoi_range_var Tryz.laysC172 (mk s) (by omega) e tp' p' w0 h2).mono ?_
    rintro e w' ⟨N, rfl, _, _, h3⟩
    exact ⟨_, H0, rfl, ext_below hI h3, _, rfl, .inr ⟨_, _, rfl, rfl⟩⟩
  | _ =>
    refine (Any.strconv_Atoi_syntax_var Tryz.laysC172 (mk s) (by omega) e tp p w0 h1).mono ?_
    rintro e w' ⟨N, rfl, _, _, h3⟩
    exact ⟨_, H0, rfl, ext_below hI h3, _, rfl, .inr ⟨_, _, rfl, rfl⟩⟩

/-- A new block, settled at once. -/
theorem ext_new {H : Hp} {w : World} (hI : Imm H w) (o : Obj) : Ext [] H w (fun b => if b = w.heap.size then some o else H b) (w.alloc o) := by
  refine ⟨rfl, rfl, rfl, by simp, fun b hb _ => Below.heap_alloc w o b hb, ?_, ?_, ?_⟩
  · intro b o' hb
    by_cases h : b = w.heap.size
    · subst h; simp at hb; subst hb
      show (w.heap.push _)[w.heap.size]? = _; simp
    · simp [h] at hb
      rw [Below.heap_alloc w o b (hI.lt hb)]; exact hI b o' hb
  · intro b o' hb
    have := hI.lt hb
    have : b ≠ w.heap.size := by omega
    simp [this, hb]
  · intro b hb _ hn
    have : b ≠ w.heap.size := by omega
    simp [this, hn]
theorem splitB_eq (sep : Bs) : ∀ (k : Nat) (s : Bs), Lib.splitB (mk sep) 0 k (mk s) = (pieces sep k s).map mk
  | 0, s => rfl
  | k + 1, s => by
    unfold Lib.splitB pieces
    have h1 : Lib.indexB (mk s) (mk sep) = Lib.index s sep := rfl
    rw [h1]
    by_cases h : Lib.index s sep = -1
    · simp [h]
    · have hb : (Lib.index s sep == -1) = false := by simpa using h
      have hx1 : (mk s).extract 0 ((Lib.index s sep).toNat + 0) = mk (s.take (Lib.index s sep).toNat) := by
        apply ByteArray.ext; apply Array.ext'; simp
      have hx2 : (mk s).extract ((Lib.index s sep).toNat + (mk sep).size) (mk s).size = mk (s.drop ((Lib.index s sep).toNat + sep.length)) := by
        apply ByteArray.ext; apply Array.ext'; simp [size_mk]
        exact List.take_of_length_le (by simp)
      rw [hb, hx1, hx2, splitB_eq sep k]
      simp
theorem pieces_len (sep : Bs) : ∀ (k : Nat) (s : Bs), (pieces sep k s).length ≤ k + 1
  | 0, s => by simp [pieces]
  | k + 1, s => by
    unfold pieces
    cases Lib.index s sep == -1 with
    | true => simp
    | false => simpa using pieces_len sep k _
theorem c175 : ∀ {H0 : Hp} {w0 : World} {s sep : Bs} (_ : Imm H0 w0) (_ : GT H0) {r : List Bs} (_ : m175 s sep = some r), Ct Tryz.prog 175 [.string (mk s), .string (mk sep)] [] H0 w0 fun v H' w' => ∃ (a : Option Addr) (c : Nat), v = .slice a (List.length r) c ∧ Sl cStr H' a c r := by
  intro H0 w0 s sep hI hG r hm
  unfold m175 at hm
  obtain ⟨h, hm⟩ := grd hm
  obtain rfl := ends hm
  simp only [Bool.and_eq_true] at h
  obtain ⟨m, hm0⟩ := (hG w0 hI).1
  refine (Tryz.strings_Split (mk s) (mk sep) m w0 (Nat.lt_of_le_of_lt (lim_of h.1) (by decide)) hm0 (of_decide_eq_true h.2)).mono ?_
  rintro e w' ⟨rfl, rfl⟩
  have hc : Lib.countB (mk s) (mk sep) = Lib.count s sep := rfl
  have hlen := Lib.splitB_all (mk sep) (of_decide_eq_true h.2) 0 _ (mk s) hc
  rw [splitB_eq, List.length_map] at hlen
  rw [hc, splitB_eq, ← hlen]
  refine ⟨_, _, rfl, ext_new hI _, some ⟨w0.heap.size, 0, none⟩, (pieces sep (Lib.count s sep) s).length, rfl, ?_⟩
  refine ⟨Nat.le_refl _, .inr ⟨w0.heap.size, 0, rfl, fun i x hx => ⟨_, ⟨(((pieces sep (Lib.count s sep) s).map mk).map Value.string).toArray, 9, (0, 0), by simp, fun j v hj => ?_⟩, rfl⟩⟩⟩
  match j, hj with
  | 0, hj =>
    simp at hj; subst hj
    simp [hx, cStr]
end Go.Proofs.YtcjphpenelnohaaGreatDoor
/- Fu: by tools/clone.py -/
set_option linter.unusedVariables false
namespace Go.Proofs.YtcjphpenelnohaaGreatDoor
open Go.RowKit

def m169 (a0 : List J) : Option (List J) := bif decide (([] : List J).length + a0.length ≤ LIM) then some ([] ++ a0) else none
set_option maxRecDepth 100000 in
theorem c169 : ∀ {H0 : Hp} {w0 : World} {a0 : List J} {aa0 : Option Addr} {ca0 : Nat} (_ : Imm H0 w0) (_ : Sl cJ H0 aa0 ca0 a0) {r : List J} (_ : m169 a0 = some r), Ct Tryz.prog 169 [.slice aa0 (List.length a0) ca0] [] H0 w0 fun v H' w' =>
    ∃ x : (Option Addr) × Nat × (List Value), (v = .slice x.1 (List.length r) x.2.1 ∧ LC cJ H' x.2.2 r) ∧ Rs.holds w' (.row (.slice x.1 (List.length r) x.2.1) 33 1 (List.length r) x.2.2) ∧ ∀ b' ∈ Rs.foot (.row (.slice x.1 (List.length r) x.2.1) 33 1 (List.length r) x.2.2), H' b' = none ∧ (b' ∈ Rs.foot .gone ∨ w0.heap.size ≤ b') := by
  intro H0 w0 a0 aa0 ca0 hI hs r hm
  have hL := L.start hI
  refine ct_of Tryz.func169 rfl Tryz.ntmps169 rfl (Nat.le_of_ble_eq_true rfl) ?_
  unfold m169 at hm
  refine wp_seq ?_
  refine rg ?_
  refine sv (r_assign rfl) ?_
  refine wn ?_
  refine then_n ?_
  refine wp_seq ?_
  refine wp_seq ?_
  refine rg ?_
  refine sv (r_move rfl) ?_
  refine sv (r_eqS Tryz.underlying23 rfl rfl) ?_
  refine wn ?_
  refine then_n ?_
  obtain ⟨hg, hm⟩ := grd hm
  obtain rfl := ends hm
  cases aa0 with
  | none =>
    have hnil := Sl.nil_of_none hs
    subst hnil
    refine c_T (b := true) rfl rfl ?_
    refine wp_seq ?_
    refine rg ?_
    refine sv (r_assign rfl) ?_
    refine wn ?_
    refine then_n ?_
    refine wp_ret ?_
    refine then_r ?_
    have hL := hL.addNil 0 33 1
    refine rt rfl (.tmp rfl .nil) ⟨_, _, rfl, hL.ext, ?_⟩
    exact ⟨⟨none, 0, []⟩, ⟨rfl, .nil⟩, hL.give (i := 0) rfl⟩
  | some ad =>
    refine c_F (b := false) rfl rfl ?_
    refine wp_skip ?_
    refine then_n ?_
    refine wp_seq ?_
    refine rg ?_
    have hw : LC cJ H0 [] ([] : List J) := LC.nil
    refine wl rfl (o_buildSlice (C := cJ) 0 hL el_23 ze_33 rfl .nil rfl rfl rfl rfl hw fun gw w hL => ?_)
    refine sv (r_move rfl) ?_
    refine wl rfl (o_appendI (C := cJ) 0 hL el_23 rfl rfl rfl hs hg fun a c z w hz hL => ?_)
    refine sv (r_assign rfl) ?_
    refine wn ?_
    refine then_n ?_
    refine wp_ret ?_
    refine rt rfl (.tmp rfl .nil) ⟨_, _, rfl, hL.ext, ?_⟩
    exact ⟨⟨a, c, _⟩, ⟨rfl, LC.append .nil hz⟩, hL.give (i := 0) rfl⟩

def m199 (a0 : List J) : Option (List J) := bif decide (([] : List J).length + a0.length ≤ LIM) then some ([] ++ a0) else none
set_option maxRecDepth 100000 in
theorem c199 : ∀ {H0 : Hp} {w0 : World} {a0 : List J} {aa0 : Option Addr} {ca0 : Nat} (_ : Imm H0 w0) (_ : Sl cJ H0 aa0 ca0 a0) {r : List J} (_ : m199 a0 = some r), Ct Tryz.prog 199 [.slice aa0 (List.length a0) ca0] [] H0 w0 fun v H' w' =>
    ∃ x : (Option Addr) × Nat × (List Value), (v = .slice x.1 (List.length r) x.2.1 ∧ LC cJ H' x.2.2 r) ∧ Rs.holds w' (.row (.slice x.1 (List.length r) x.2.1) 33 1 (List.length r) x.2.2) ∧ ∀ b' ∈ Rs.foot (.row (.slice x.1 (List.length r) x.2.1) 33 1 (List.length r) x.2.2), H' b' = none ∧ (b' ∈ Rs.foot .gone ∨ w0.heap.size ≤ b') := by
  intro H0 w0 a0 aa0 ca0 hI hs r hm
  have hL := L.start hI
  refine ct_of Tryz.func199 rfl Tryz.ntmps199 rfl (Nat.le_of_ble_eq_true rfl) ?_
  unfold m199 at hm
  refine wp_seq ?_
  refine rg ?_
  refine sv (r_assign rfl) ?_
  refine wn ?_
  refine then_n ?_
  refine wp_seq ?_
  refine wp_seq ?_
  refine rg ?_
  refine sv (r_move rfl) ?_
  refine sv (r_eqS Tryz.underlying171 rfl rfl) ?_
  refine wn ?_
  refine then_n ?_
  obtain ⟨hg, hm⟩ := grd hm
  obtain rfl := ends hm
  cases aa0 with
  | none =>
    have hnil := Sl.nil_of_none hs
    subst hnil
    refine c_T (b := true) rfl rfl ?_
    refine wp_seq ?_
    refine rg ?_
    refine sv (r_assign rfl) ?_
    refine wn ?_
    refine then_n ?_
    refine wp_ret ?_
    refine then_r ?_
    have hL := hL.addNil 0 33 1
    refine rt rfl (.tmp rfl .nil) ⟨_, _, rfl, hL.ext, ?_⟩
    exact ⟨⟨none, 0, []⟩, ⟨rfl, .nil⟩, hL.give (i := 0) rfl⟩
  | some ad =>
    refine c_F (b := false) rfl rfl ?_
    refine wp_skip ?_
    refine then_n ?_
    refine wp_seq ?_
    refine rg ?_
    have hw : LC cJ H0 [] ([] : List J) := LC.nil
    refine wl rfl (o_buildSlice (C := cJ) 0 hL el_171 ze_33 rfl .nil rfl rfl rfl rfl hw fun gw w hL => ?_)
    refine sv (r_move rfl) ?_
    refine wl rfl (o_appendI (C := cJ) 0 hL el_171 rfl rfl rfl hs hg fun a c z w hz hL => ?_)
    refine sv (r_assign rfl) ?_
    refine wn ?_
    refine then_n ?_
    refine wp_ret ?_
    refine rt rfl (.tmp rfl .nil) ⟨_, _, rfl, hL.ext, ?_⟩
    exact ⟨⟨a, c, _⟩, ⟨rfl, LC.append .nil hz⟩, hL.give (i := 0) rfl⟩

def m136 (a0 : List Step) : Option (List Step) := bif decide (([] : List Step).length + a0.length ≤ LIM) then some ([] ++ a0) else none
set_option maxRecDepth 100000 in
theorem c136 : ∀ {H0 : Hp} {w0 : World} {a0 : List Step} {aa0 : Option Addr} {ca0 : Nat} (_ : Imm H0 w0) (_ : Sl cStep H0 aa0 ca0 a0) {r : List Step} (_ : m136 a0 = some r), Ct Tryz.prog 136 [.slice aa0 (List.length a0) ca0] [] H0 w0 fun v H' w' =>
    ∃ x : (Option Addr) × Nat × (List Value), (v = .slice x.1 (List.length r) x.2.1 ∧ LC cStep H' x.2.2 r) ∧ Rs.holds w' (.row (.slice x.1 (List.length r) x.2.1) 220 2 (List.length r) x.2.2) ∧ ∀ b' ∈ Rs.foot (.row (.slice x.1 (List.length r) x.2.1) 220 2 (List.length r) x.2.2), H' b' = none ∧ (b' ∈ Rs.foot .gone ∨ w0.heap.size ≤ b') := by
  intro H0 w0 a0 aa0 ca0 hI hs r hm
  have hL := L.start hI
  refine ct_of Tryz.func136 rfl Tryz.ntmps136 rfl (Nat.le_of_ble_eq_true rfl) ?_
  unfold m136 at hm
  refine wp_seq ?_
  refine rg ?_
  refine sv (r_assign rfl) ?_
  refine wn ?_
  refine then_n ?_
  refine wp_seq ?_
  refine wp_seq ?_
  refine rg ?_
  refine sv (r_move rfl) ?_
  refine sv (r_eqS Tryz.underlying113 rfl rfl) ?_
  refine wn ?_
  refine then_n ?_
  obtain ⟨hg, hm⟩ := grd hm
  obtain rfl := ends hm
  cases aa0 with
  | none =>
    have hnil := Sl.nil_of_none hs
    subst hnil
    refine c_T (b := true) rfl rfl ?_
    refine wp_seq ?_
    refine rg ?_
    refine sv (r_assign rfl) ?_
    refine wn ?_
    refine then_n ?_
    refine wp_ret ?_
    refine then_r ?_
    have hL := hL.addNil 0 220 2
    refine rt rfl (.tmp rfl .nil) ⟨_, _, rfl, hL.ext, ?_⟩
    exact ⟨⟨none, 0, []⟩, ⟨rfl, .nil⟩, hL.give (i := 0) rfl⟩
  | some ad =>
    refine c_F (b := false) rfl rfl ?_
    refine wp_skip ?_
    refine then_n ?_
    refine wp_seq ?_
    refine rg ?_
    have hw : LC cStep H0 [] ([] : List Step) := LC.nil
    refine wl rfl (o_buildSlice (C := cStep) 0 hL el_113 ze_220 rfl .nil rfl rfl rfl rfl hw fun gw w hL => ?_)
    refine sv (r_move rfl) ?_
    refine wl rfl (o_appendI (C := cStep) 0 hL el_113 rfl rfl rfl hs hg fun a c z w hz hL => ?_)
    refine sv (r_assign rfl) ?_
    refine wn ?_
    refine then_n ?_
    refine wp_ret ?_
    refine rt rfl (.tmp rfl .nil) ⟨_, _, rfl, hL.ext, ?_⟩
    exact ⟨⟨a, c, _⟩, ⟨rfl, LC.append .nil hz⟩, hL.give (i := 0) rfl⟩

def m27 (a0 : List Ad) : Option (List Ad) := bif decide (([] : List Ad).length + a0.length ≤ LIM) then some ([] ++ a0) else none
set_option maxRecDepth 100000 in
theorem c27 : ∀ {H0 : Hp} {w0 : World} {a0 : List Ad} {aa0 : Option Addr} {ca0 : Nat} (_ : Imm H0 w0) (_ : Sl cAd H0 aa0 ca0 a0) {r : List Ad} (_ : m27 a0 = some r), Ct Tryz.prog 27 [.slice aa0 (List.length a0) ca0] [] H0 w0 fun v H' w' =>
    ∃ x : (Option Addr) × Nat × (List Value), (v = .slice x.1 (List.length r) x.2.1 ∧ LC cAd H' x.2.2 r) ∧ Rs.holds w' (.row (.slice x.1 (List.length r) x.2.1) 50 4 (List.length r) x.2.2) ∧ ∀ b' ∈ Rs.foot (.row (.slice x.1 (List.length r) x.2.1) 50 4 (List.length r) x.2.2), H' b' = none ∧ (b' ∈ Rs.foot .gone ∨ w0.heap.size ≤ b') := by
  intro H0 w0 a0 aa0 ca0 hI hs r hm
  have hL := L.start hI
  refine ct_of Tryz.func27 rfl Tryz.ntmps27 rfl (Nat.le_of_ble_eq_true rfl) ?_
  unfold m27 at hm
  refine wp_seq ?_
  refine rg ?_
  refine sv (r_assign rfl) ?_
  refine wn ?_
  refine then_n ?_
  refine wp_seq ?_
  refine wp_seq ?_
  refine rg ?_
  refine sv (r_move rfl) ?_
  refine sv (r_eqS Tryz.underlying51 rfl rfl) ?_
  refine wn ?_
  refine then_n ?_
  obtain ⟨hg, hm⟩ := grd hm
  obtain rfl := ends hm
  cases aa0 with
  | none =>
    have hnil := Sl.nil_of_none hs
    subst hnil
    refine c_T (b := true) rfl rfl ?_
    refine wp_seq ?_
    refine rg ?_
    refine sv (r_assign rfl) ?_
    refine wn ?_
    refine then_n ?_
    refine wp_ret ?_
    refine then_r ?_
    have hL := hL.addNil 0 50 4
    refine rt rfl (.tmp rfl .nil) ⟨_, _, rfl, hL.ext, ?_⟩
    exact ⟨⟨none, 0, []⟩, ⟨rfl, .nil⟩, hL.give (i := 0) rfl⟩
  | some ad =>
    refine c_F (b := false) rfl rfl ?_
    refine wp_skip ?_
    refine then_n ?_
    refine wp_seq ?_
    refine rg ?_
    have hw : LC cAd H0 [] ([] : List Ad) := LC.nil
    refine wl rfl (o_buildSlice (C := cAd) 0 hL el_51 ze_50 rfl .nil rfl rfl rfl rfl hw fun gw w hL => ?_)
    refine sv (r_move rfl) ?_
    refine wl rfl (o_appendI (C := cAd) 0 hL el_51 rfl rfl rfl hs hg fun a c z w hz hL => ?_)
    refine sv (r_assign rfl) ?_
    refine wn ?_
    refine then_n ?_
    refine wp_ret ?_
    refine rt rfl (.tmp rfl .nil) ⟨_, _, rfl, hL.ext, ?_⟩
    exact ⟨⟨a, c, _⟩, ⟨rfl, LC.append .nil hz⟩, hL.give (i := 0) rfl⟩

def m173 (a0 : List At) : Option (List At) := bif decide (([] : List At).length + a0.length ≤ LIM) then some ([] ++ a0) else none
set_option maxRecDepth 100000 in
theorem c173 : ∀ {H0 : Hp} {w0 : World} {a0 : List At} {aa0 : Option Addr} {ca0 : Nat} (_ : Imm H0 w0) (_ : Sl cAt H0 aa0 ca0 a0) {r : List At} (_ : m173 a0 = some r), Ct Tryz.prog 173 [.slice aa0 (List.length a0) ca0] [] H0 w0 fun v H' w' =>
    ∃ x : (Option Addr) × Nat × (List Value), (v = .slice x.1 (List.length r) x.2.1 ∧ LC cAt H' x.2.2 r) ∧ Rs.holds w' (.row (.slice x.1 (List.length r) x.2.1) 41 6 (List.length r) x.2.2) ∧ ∀ b' ∈ Rs.foot (.row (.slice x.1 (List.length r) x.2.1) 41 6 (List.length r) x.2.2), H' b' = none ∧ (b' ∈ Rs.foot .gone ∨ w0.heap.size ≤ b') := by
  intro H0 w0 a0 aa0 ca0 hI hs r hm
  have hL := L.start hI
  refine ct_of Tryz.func173 rfl Tryz.ntmps173 rfl (Nat.le_of_ble_eq_true rfl) ?_
  unfold m173 at hm
  refine wp_seq ?_
  refine rg ?_
  refine sv (r_assign rfl) ?_
  refine wn ?_
  refine then_n ?_
  refine wp_seq ?_
  refine wp_seq ?_
  refine rg ?_
  refine sv (r_move rfl) ?_
  refine sv (r_eqS Tryz.underlying152 rfl rfl) ?_
  refine wn ?_
  refine then_n ?_
  obtain ⟨hg, hm⟩ := grd hm
  obtain rfl := ends hm
  cases aa0 with
  | none =>
    have hnil := Sl.nil_of_none hs
    subst hnil
    refine c_T (b := true) rfl rfl ?_
    refine wp_seq ?_
    refine rg ?_
    refine sv (r_assign rfl) ?_
    refine wn ?_
    refine then_n ?_
    refine wp_ret ?_
    refine then_r ?_
    have hL := hL.addNil 0 41 6
    refine rt rfl (.tmp rfl .nil) ⟨_, _, rfl, hL.ext, ?_⟩
    exact ⟨⟨none, 0, []⟩, ⟨rfl, .nil⟩, hL.give (i := 0) rfl⟩
  | some ad =>
    refine c_F (b := false) rfl rfl ?_
    refine wp_skip ?_
    refine then_n ?_
    refine wp_seq ?_
    refine rg ?_
    have hw : LC cAt H0 [] ([] : List At) := LC.nil
    refine wl rfl (o_buildSlice (C := cAt) 0 hL el_152 ze_41 rfl .nil rfl rfl rfl rfl hw fun gw w hL => ?_)
    refine sv (r_move rfl) ?_
    refine wl rfl (o_appendI (C := cAt) 0 hL el_152 rfl rfl rfl hs hg fun a c z w hz hL => ?_)
    refine sv (r_assign rfl) ?_
    refine wn ?_
    refine then_n ?_
    refine wp_ret ?_
    refine rt rfl (.tmp rfl .nil) ⟨_, _, rfl, hL.ext, ?_⟩
    exact ⟨⟨a, c, _⟩, ⟨rfl, LC.append .nil hz⟩, hL.give (i := 0) rfl⟩

def m263 (a0 : List UInt8) : Option (List UInt8) := bif decide (([] : List UInt8).length + a0.length ≤ LIM) then some ([] ++ a0) else none
set_option maxRecDepth 100000 in
theorem c263 : ∀ {H0 : Hp} {w0 : World} {a0 : List UInt8} {aa0 : Option Addr} {ca0 : Nat} (_ : Imm H0 w0) (_ : Sl cB8 H0 aa0 ca0 a0) {r : List UInt8} (_ : m263 a0 = some r), Ct Tryz.prog 263 [.slice aa0 (List.length a0) ca0] [] H0 w0 fun v H' w' =>
    ∃ x : (Option Addr) × Nat × (List Value), (v = .slice x.1 (List.length r) x.2.1 ∧ LC cB8 H' x.2.2 r) ∧ Rs.holds w' (.row (.slice x.1 (List.length r) x.2.1) 5 1 (List.length r) x.2.2) ∧ ∀ b' ∈ Rs.foot (.row (.slice x.1 (List.length r) x.2.1) 5 1 (List.length r) x.2.2), H' b' = none ∧ (b' ∈ Rs.foot .gone ∨ w0.heap.size ≤ b') := by
  intro H0 w0 a0 aa0 ca0 hI hs r hm
  have hL := L.start hI
  refine ct_of Tryz.func263 rfl Tryz.ntmps263 rfl (Nat.le_of_ble_eq_true rfl) ?_
  unfold m263 at hm
  refine wp_seq ?_
  refine rg ?_
  refine sv (r_assign rfl) ?_
  refine wn ?_
  refine then_n ?_
  refine wp_seq ?_
  refine wp_seq ?_
  refine rg ?_
  refine sv (r_move rfl) ?_
  refine sv (r_eqS Tryz.underlying87 rfl rfl) ?_
  refine wn ?_
  refine then_n ?_
  obtain ⟨hg, hm⟩ := grd hm
  obtain rfl := ends hm
  cases aa0 with
  | none =>
    have hnil := Sl.nil_of_none hs
    subst hnil
    refine c_T (b := true) rfl rfl ?_
    refine wp_seq ?_
    refine rg ?_
    refine sv (r_assign rfl) ?_
    refine wn ?_
    refine then_n ?_
    refine wp_ret ?_
    refine then_r ?_
    have hL := hL.addNil 0 5 1
    refine rt rfl (.tmp rfl .nil) ⟨_, _, rfl, hL.ext, ?_⟩
    exact ⟨⟨none, 0, []⟩, ⟨rfl, .nil⟩, hL.give (i := 0) rfl⟩
  | some ad =>
    refine c_F (b := false) rfl rfl ?_
    refine wp_skip ?_
    refine then_n ?_
    refine wp_seq ?_
    refine rg ?_
    have hw : LC cB8 H0 [] ([] : List UInt8) := LC.nil
    refine wl rfl (o_buildSlice (C := cB8) 0 hL el_87 ze_5 rfl .nil rfl rfl rfl rfl hw fun gw w hL => ?_)
    refine sv (r_move rfl) ?_
    refine wl rfl (o_appendI (C := cB8) 0 hL el_87 rfl rfl rfl hs hg fun a c z w hz hL => ?_)
    refine sv (r_assign rfl) ?_
    refine wn ?_
    refine then_n ?_
    refine wp_ret ?_
    refine rt rfl (.tmp rfl .nil) ⟨_, _, rfl, hL.ext, ?_⟩
    exact ⟨⟨a, c, _⟩, ⟨rfl, LC.append .nil hz⟩, hL.give (i := 0) rfl⟩

end Go.Proofs.YtcjphpenelnohaaGreatDoor
/-
  DERIVED: THE SHELF's CONTRACTS AT THIS DUMP, IN PLAIN WORDS (tools/lay-plain.mjs out of 'TryzIterB.lean', which tools/lay-shelf.mjs wrote): THE SAME DECLARATIONS UNDER THE SAME NAMES: 'import', 'namespace', 'open', 'def', 'theorem' AND NOTHING ELSE: no command of the shelf's: FOR A HAND-IN. Each laying: the table of numbers ('.._ren') and one theorem, a field a fact of the dump's own or the kernel's comparison; each contract: ONE APPLICATION.
-/
namespace Go.Proofs
open Go.Shelf
def Tryz.keys201_ren : Go.Shelf.Ren := ⟨fun | 7 => 201 | 10 => 288 | n => n, fun | 23 => 173 | 26 => 9 | 3 => 33 | 28 => 301 | 0 => 0 | 27 => 300 | 33 => 141 | 4 => 4 | n => n, fun | n => n⟩
theorem Tryz.keys201 : Go.Proofs.SlLaysZ.n7 Tryz.prog Tryz.keys201_ren := {
  mixed := by kernel_rfl
  f7 := ⟨Tryz.f201.name, by decide, Tryz.func201.trans (congrArg some (by kernel_rfl))⟩
  f10 := ⟨Tryz.f288.name, by decide, Tryz.func288.trans (congrArg some (by kernel_rfl))⟩
  t0 := Tryz.underlying0
  a0 := Tryz.isAgg0
  z0 := Tryz.sizeOf0
  v0 := Tryz.zeroValue0
  t4 := Tryz.underlying4
  a4 := Tryz.isAgg4
  z4 := Tryz.sizeOf4
  v4 := Tryz.zeroValue4
  t23 := Tryz.underlying173
  a23 := Tryz.isAgg173
  z23 := Tryz.sizeOf173
  v23 := Tryz.zeroValue173
  t26 := Tryz.underlying9
  a26 := Tryz.isAgg9
  z26 := Tryz.sizeOf9
  v26 := Tryz.zeroValue9
  t27 := Tryz.underlying300
  a27 := Tryz.isAgg300
  z27 := Tryz.sizeOf300
  v27 := Tryz.zeroValue300
  t28 := Tryz.underlying301
  a28 := Tryz.isAgg301
  z28 := Tryz.sizeOf301
  v28 := Tryz.zeroValue301
  t33 := Tryz.underlying141
  a33 := Tryz.isAgg141
  z33 := Tryz.sizeOf141
  v33 := Tryz.zeroValue141 }
def Tryz.sorted200_ren : Go.Shelf.Ren := ⟨fun | 6 => 200 | 8 => 287 | 9 => 182 | 11 => 373 | 13 => 274 | 12 => 273 | 23 => 354 | 24 => 355 | 14 => 345 | 15 => 346 | 16 => 347 | 17 => 348 | 18 => 349 | 19 => 350 | 20 => 351 | 21 => 352 | 22 => 353 | 25 => 399 | 26 => 400 | 27 => 401 | 28 => 402 | 29 => 403 | 30 => 404 | 31 => 420 | n => n, fun | 26 => 9 | 28 => 301 | 24 => 30 | 0 => 0 | 3 => 3 | 37 => 309 | 48 => 429 | 50 => 128 | 4 => 4 | 40 => 423 | 39 => 422 | 45 => 79 | 5 => 5 | 9 => 9 | 51 => 464 | 55 => 467 | 57 => 480 | 58 => 481 | 33 => 141 | n => n, fun | n => n⟩
theorem Tryz.sorted200 : Go.Proofs.SlLaysZ.n6 Tryz.prog Tryz.sorted200_ren := {
  mixed := by kernel_rfl
  f6 := ⟨Tryz.f200.name, by decide, Tryz.func200.trans (congrArg some (by kernel_rfl))⟩
  f8 := ⟨Tryz.f287.name, by decide, Tryz.func287.trans (congrArg some (by kernel_rfl))⟩
  f11 := ⟨Tryz.f373.name, by decide, Tryz.func373.trans (congrArg some (by kernel_rfl))⟩
  t0 := Tryz.underlying0
  a0 := Tryz.isAgg0
  z0 := Tryz.sizeOf0
  v0 := Tryz.zeroValue0
  t24 := Tryz.underlying30
  a24 := Tryz.isAgg30
  z24 := Tryz.sizeOf30
  v24 := Tryz.zeroValue30
  t26 := Tryz.underlying9
  a26 := Tryz.isAgg9
  z26 := Tryz.sizeOf9
  v26 := Tryz.zeroValue9
  t28 := Tryz.underlying301
  a28 := Tryz.isAgg301
  z28 := Tryz.sizeOf301
  v28 := Tryz.zeroValue301
  i26 := by kernel_rfl }
def Tryz.sort182_ren : Go.Shelf.Ren := ⟨fun | 6 => 182 | 8 => 274 | 9 => 273 | 19 => 354 | 20 => 355 | 21 => 345 | 22 => 346 | 23 => 347 | 24 => 348 | 25 => 349 | 26 => 350 | 27 => 351 | 28 => 352 | 29 => 353 | 36 => 399 | 31 => 400 | 32 => 401 | 37 => 402 | 38 => 403 | 39 => 404 | 41 => 420 | n => n, fun | 27 => 30 | 29 => 9 | 3 => 3 | 32 => 309 | 26 => 30 | 0 => 0 | 44 => 429 | 46 => 128 | 4 => 4 | 36 => 423 | 35 => 422 | 41 => 79 | 5 => 5 | 9 => 9 | 53 => 464 | 57 => 467 | 63 => 480 | 64 => 481 | n => n, fun | n => n⟩
theorem Tryz.sort182 : Go.Proofs.SlLaysM.n6 Tryz.prog Tryz.sort182_ren := {
  mixed := by kernel_rfl
  f6 := ⟨Tryz.f182.name, by decide, Tryz.func182.trans (congrArg some (by kernel_rfl))⟩
  f8 := Tryz.func274.trans (congrArg some (by kernel_rfl))
  f9 := ⟨Tryz.f273.name, by decide, Tryz.func273.trans (congrArg some (by kernel_rfl))⟩
  f19 := Tryz.func354.trans (congrArg some (by kernel_rfl))
  f20 := Tryz.func355.trans (congrArg some (by kernel_rfl))
  f21 := ⟨Tryz.f345.name, by decide, Tryz.func345.trans (congrArg some (by kernel_rfl))⟩
  f22 := ⟨Tryz.f346.name, by decide, Tryz.func346.trans (congrArg some (by kernel_rfl))⟩
  f23 := ⟨Tryz.f347.name, by decide, Tryz.func347.trans (congrArg some (by kernel_rfl))⟩
  f24 := ⟨Tryz.f348.name, by decide, Tryz.func348.trans (congrArg some (by kernel_rfl))⟩
  f25 := ⟨Tryz.f349.name, by decide, Tryz.func349.trans (congrArg some (by kernel_rfl))⟩
  f26 := ⟨Tryz.f350.name, by decide, Tryz.func350.trans (congrArg some (by kernel_rfl))⟩
  f27 := ⟨Tryz.f351.name, by decide, Tryz.func351.trans (congrArg some (by kernel_rfl))⟩
  f28 := ⟨Tryz.f352.name, by decide, Tryz.func352.trans (congrArg some (by kernel_rfl))⟩
  f29 := ⟨Tryz.f353.name, by decide, Tryz.func353.trans (congrArg some (by kernel_rfl))⟩
  f31 := Tryz.func400.trans (congrArg some (by kernel_rfl))
  f32 := Tryz.func401.trans (congrArg some (by kernel_rfl))
  f36 := ⟨Tryz.f399.name, by decide, Tryz.func399.trans (congrArg some (by kernel_rfl))⟩
  f37 := ⟨Tryz.f402.name, by decide, Tryz.func402.trans (congrArg some (by kernel_rfl))⟩
  f38 := ⟨Tryz.f403.name, by decide, Tryz.func403.trans (congrArg some (by kernel_rfl))⟩
  f39 := ⟨Tryz.f404.name, by decide, Tryz.func404.trans (congrArg some (by kernel_rfl))⟩
  f41 := ⟨Tryz.f420.name, by decide, Tryz.func420.trans (congrArg some (by kernel_rfl))⟩
  t0 := Tryz.underlying0
  a0 := Tryz.isAgg0
  z0 := Tryz.sizeOf0
  v0 := Tryz.zeroValue0
  t3 := Tryz.underlying3
  a3 := Tryz.isAgg3
  z3 := Tryz.sizeOf3
  v3 := Tryz.zeroValue3
  t4 := Tryz.underlying4
  a4 := Tryz.isAgg4
  z4 := Tryz.sizeOf4
  v4 := Tryz.zeroValue4
  t5 := Tryz.underlying5
  a5 := Tryz.isAgg5
  z5 := Tryz.sizeOf5
  v5 := Tryz.zeroValue5
  t9 := Tryz.underlying9
  a9 := Tryz.isAgg9
  z9 := Tryz.sizeOf9
  v9 := Tryz.zeroValue9
  t26 := Tryz.underlying30
  a26 := Tryz.isAgg30
  z26 := Tryz.sizeOf30
  v26 := Tryz.zeroValue30
  t27 := Tryz.underlying30
  a27 := Tryz.isAgg30
  z27 := Tryz.sizeOf30
  v27 := Tryz.zeroValue30
  t29 := Tryz.underlying9
  a29 := Tryz.isAgg9
  z29 := Tryz.sizeOf9
  v29 := Tryz.zeroValue9
  t32 := Tryz.underlying309
  a32 := Tryz.isAgg309
  z32 := Tryz.sizeOf309
  v32 := Tryz.zeroValue309
  t35 := Tryz.underlying422
  a35 := Tryz.isAgg422
  z35 := Tryz.sizeOf422
  v35 := Tryz.zeroValue422
  t36 := Tryz.underlying423
  a36 := Tryz.isAgg423
  z36 := Tryz.sizeOf423
  v36 := Tryz.zeroValue423
  t41 := Tryz.underlying79
  a41 := Tryz.isAgg79
  z41 := Tryz.sizeOf79
  v41 := Tryz.zeroValue79
  t44 := Tryz.underlying429
  a44 := Tryz.isAgg429
  z44 := Tryz.sizeOf429
  v44 := Tryz.zeroValue429
  t46 := Tryz.underlying128
  a46 := Tryz.isAgg128
  z46 := Tryz.sizeOf128
  v46 := Tryz.zeroValue128
  t53 := Tryz.underlying464
  a53 := Tryz.isAgg464
  z53 := Tryz.sizeOf464
  v53 := Tryz.zeroValue464
  t57 := Tryz.underlying467
  a57 := Tryz.isAgg467
  z57 := Tryz.sizeOf467
  v57 := Tryz.zeroValue467
  t63 := Tryz.underlying480
  a63 := Tryz.isAgg480
  z63 := Tryz.sizeOf480
  v63 := Tryz.zeroValue480
  t64 := Tryz.underlying481
  a64 := Tryz.isAgg481
  z64 := Tryz.sizeOf481
  v64 := Tryz.zeroValue481 }
open Go.RowKit Go.Maps Go.Sort Go.Shelf
/-- slices.Sort's two contracts at this dump, at the fence that asks nothing. -/
theorem Tryz.sorts200 (m : Nat) : AnyZ.SortsIn Tryz.prog Tryz.sorted200_ren Fence.wide m :=
  ⟨fun blk off cap ss W hH hblk hsz => callsIn_wide.2 (AnyM.slices_Sort_string Tryz.sort182 blk off cap ss W hH hblk hsz),
   fun p cap W => callsIn_wide.2 (AnyM.slices_Sort_string_none Tryz.sort182 p cap W)⟩

/-- **maps.Keys[flange/value.table,string,flange/value.Value], at whatever map, the nil one too:** a function value over ONE NEW BLOCK, which holds the map. -/
theorem Tryz.maps_Keys_201 (mb : Option Nat) (W : World) : CallsIn Fence.wide 5 Tryz.prog 201 #[.map mb] W fun e w' => e = .returned (.func (.func 288) #[] #[.pointer (some ⟨W.heap.size, 0, none⟩)]) ∧ w' = W.alloc (.cells #[.map mb] 173) :=
  AnyZ.keys_in Tryz.keys201 Fence.wide 5 trivial rfl mb W

set_option maxHeartbeats 1000000 in
/-- **slices.Sorted[string] AT WHAT maps.Keys[flange/value.table,string,flange/value.Value] HANDED BACK FOR A MAP THAT IS NOT nil** ('w': the world AHEAD of maps.Keys' call): A NEW SLICE THAT HOLDS THE MAP's KEYS, SORTED; nil just where it has none; nothing that lay before has turned. -/
theorem Tryz.slices_Sorted_keys_200_201 {H : Type} (b nn : Nat) (D0 : DataW H) (R : Value → Option (DataW H × List MemPlace)) (w : World) (hown : w.ownsMap Tryz.prog 9 R b nn D0) (hmax : Maps.size D0 ≤ maxLen) (hbytes : Maps.size D0 * 16 ≤ 140737488355328) :
    CallsIn Fence.wide 5 Tryz.prog 200 #[.func (.func 288) #[] #[.pointer (some ⟨w.heap.size, 0, none⟩)]] (w.alloc (.cells #[.map (some b)] 173)) fun e w' => ∃ (v : Value) (ss : List (List UInt8)), e = .returned v ∧ ss.Perm (strKeys D0) ∧
      w'.ownsRow (w.alloc (.cells #[.map (some b)] 173)).heap.size 9 1 v ss.length ((ss.mergeSort (fun x y => decide (x ≤ y))).map encStr) ∧ (v = .slice none 0 0 ↔ ss = []) ∧ Below (w.alloc (.cells #[.map (some b)] 173)).heap.size (w.alloc (.cells #[.map (some b)] 173)) w' := by
  have hbl := hown.lt
  have hseq : SeqGives Fence.wide 2 Tryz.prog 288 #[.pointer (some ⟨w.heap.size, 0, none⟩)] encStr (fun ss => ss.Perm (strKeys D0)) (Maps.size D0) (w.alloc (.cells #[.map (some b)] 173)) :=
    AnyZ.keys_gives (ρ := Tryz.keys201_ren) { Tryz.keys201 with } Fence.wide _ trivial rfl (by omega) w.heap.size b nn D0 _ (by simp) (by simp) (by
      obtain ⟨es, clock, hb, Ft, hs, hD⟩ := hown
      exact ⟨es, clock, (Below.heap_alloc _ _ b hbl).trans hb, Ft, hs, hD⟩)
  exact AnyZ.sorted_in Tryz.sorted200 Fence.wide 5 trivial trivial trivial trivial rfl (by omega) (Tryz.sorts200 _) (enters_of Tryz.func182 (by kernel_rfl) rfl) 288 #[.pointer (some ⟨w.heap.size, 0, none⟩)] trivial (enters_of Tryz.func288 (by kernel_rfl) rfl) _ _ hmax hbytes _ hseq

set_option maxHeartbeats 1000000 in
/-- **.. AND FOR THE nil MAP: nil.** -/
theorem Tryz.slices_Sorted_keys_nil_200_201 (w : World) :
    CallsIn Fence.wide 5 Tryz.prog 200 #[.func (.func 288) #[] #[.pointer (some ⟨w.heap.size, 0, none⟩)]] (w.alloc (.cells #[.map none] 173)) fun e w' => ∃ (v : Value) (ss : List (List UInt8)), e = .returned v ∧ ss = [] ∧
      w'.ownsRow (w.alloc (.cells #[.map none] 173)).heap.size 9 1 v ss.length ((ss.mergeSort (fun x y => decide (x ≤ y))).map encStr) ∧ (v = .slice none 0 0 ↔ ss = []) ∧ Below (w.alloc (.cells #[.map none] 173)).heap.size (w.alloc (.cells #[.map none] 173)) w' := by
  have hseq : SeqGives Fence.wide 2 Tryz.prog 288 #[.pointer (some ⟨w.heap.size, 0, none⟩)] encStr (fun ss : List (List UInt8) => ss = []) 0 (w.alloc (.cells #[.map none] 173)) :=
    AnyZ.keys_gives_nil (ρ := Tryz.keys201_ren) { Tryz.keys201 with } Fence.wide _ trivial rfl w.heap.size _ (by simp) (by simp)
  exact AnyZ.sorted_in Tryz.sorted200 Fence.wide 5 trivial trivial trivial trivial rfl (by omega) (Tryz.sorts200 _) (enters_of Tryz.func182 (by kernel_rfl) rfl) 288 #[.pointer (some ⟨w.heap.size, 0, none⟩)] trivial (enters_of Tryz.func288 (by kernel_rfl) rfl) _ 0 (Nat.zero_le _) (by omega) _ hseq

end Go.Proofs
/- A map's keys, rising. -/
set_option linter.unusedVariables false
namespace Go.Proofs.YtcjphpenelnohaaGreatDoor
open Go.RowKit Go.WideElems Go.MapKept

theorem le_trans_b {a b c : Bs} (h1 : a ≤ b) (h2 : b ≤ c) : a ≤ c := List.le_trans h1 h2
theorem sorted_keys {l ss : List Bs} (ho : l.Pairwise (· < ·)) (h : ss.Perm l) : ss.mergeSort (fun x y => decide (x ≤ y)) = l := by
  refine List.Perm.eq_of_pairwise (le := fun a b => decide (a ≤ b) = true) (fun a b _ _ h1 h2 => ?_) (List.pairwise_mergeSort (le := fun x y => decide (x ≤ y)) ?_ ?_ ss) (ho.imp fun h => ?_) ((List.mergeSort_perm ss _).trans h)
  · exact List.le_antisymm (of_decide_eq_true h1) (of_decide_eq_true h2)
  · intro a b c h1 h2
    exact decide_eq_true (le_trans_b (of_decide_eq_true h1) (of_decide_eq_true h2))
  · intro a b
    rcases List.le_total a b with h | h <;> simp [h]
  · exact decide_eq_true (List.le_of_lt h)

def kb : Value → Bs
  | .string b => b.data.toList
  | _ => []
set_option maxRecDepth 100000 in
theorem MR.owns {H : Hp} {b : Nat} {m : List (Bs × J)} (hm : MR H (Option.some b) m) {w : World} (hI : Imm H w) : ∃ D0 : DataW Unit, w.ownsMap Tryz.prog 9 R0 b m.length D0 ∧ Maps.size D0 = m.length ∧ (strKeys D0).Perm (m.map (·.1)) := by
  obtain ⟨es, clock, hH, T, ho⟩ := hm.toTR
  have hsz := T.sz
  refine ⟨_, ⟨es, clock, hI b _ hH, T.fit, Nat.le_of_eq hsz, rfl⟩, ?_, ?_⟩
  · rw [Maps.size_eq, length_sorted]; simpa using hsz
  · show (((es.toList.map (Go.WideElems.rg Tryz.prog 9 R0)).foldr DataW.insert []).map fun p => strOf p.1).Perm _
    refine ((WideShapes.sorted_perm _).map _).trans ?_
    rw [List.map_map]
    have h1 : es.toList.map ((fun p : Lit × DataW Unit => strOf p.1) ∘ Go.WideElems.rg Tryz.prog 9 R0) = es.toList.map (fun x => kb x.key) := by
      refine List.map_congr_left fun x hx => ?_
      obtain ⟨p, hp, h2, _⟩ := T.to x hx
      have h3 : keyOf Tryz.prog 9 x.key = Option.some (.string p.1) := by rw [h2]; exact keyOf_str (of_decide_eq_true (T.ok p hp))
      have h4 : Go.WideElems.rg Tryz.prog 9 R0 x = (.string p.1, DataW.nil) := rg_of (rd_mk (key := x.key) (val := x.val) (born := x.born) (yv := (DataW.nil, [])) h3 rfl)
      simp only [Function.comp, h4, strOf, h2, kStr, kb]
    rw [h1]
    have h5 : (es.toList.map (·.key)).Perm (m.map fun p => Value.string (mk p.1)) := by
      refine (List.perm_ext_iff_of_nodup T.st.2.2 ?_).2 fun v => ?_
      · have hnd := nodup_of_sorted ho
        rw [List.Nodup, List.pairwise_map] at hnd ⊢
        exact hnd.imp fun h e => h (by simpa using e)
      · simp only [List.mem_map]
        constructor
        · rintro ⟨x, hx, rfl⟩
          obtain ⟨p, hp, h3, _⟩ := T.to x hx
          exact ⟨p, hp, h3.symm⟩
        · rintro ⟨p, hp, rfl⟩
          exact T.fro p hp
    have h6 := h5.map kb
    rw [List.map_map, List.map_map] at h6
    exact h6
/-- slices.Sorted(maps.Keys(m)). -/
theorem keys200 {H : Hp} {q : Option Nat} {m : List (Bs × J)} (hm : MR H q m) {w : World} (hI : Imm H w) :
    Calls Tryz.prog 200 #[.func (.func 288) #[] #[.pointer (some ⟨w.heap.size, 0, none⟩)]] (w.alloc (.cells #[.map q] 173)) fun e w' => ∃ v, e = .returned v ∧ w'.ownsRow (w.heap.size + 1) 9 1 v m.length (m.map fun p => .string (mk p.1)) ∧
      Below (w.heap.size + 1) (w.alloc (.cells #[.map q] 173)) w' := by
  have hs1 : (w.alloc (.cells #[.map q] 173)).heap.size = w.heap.size + 1 := by simp
  cases q with
  | none =>
    cases hm
    refine (callsIn_wide.1 (Tryz.slices_Sorted_keys_nil_200_201 w)).mono ?_
    rintro e w' ⟨v, ss, rfl, rfl, h1, _, h2⟩
    rw [hs1] at h1 h2
    exact ⟨v, rfl, by simpa using h1, h2⟩
  | some b =>
    obtain ⟨_, _, _, T, ho⟩ := hm.toTR
    have hlim := T.lim
    unfold LIM at hlim
    have hsort : (m.map (·.1)).Pairwise (· < ·) := by rw [List.pairwise_map]; exact ho
    obtain ⟨D0, h1, h2, h3⟩ := hm.owns hI
    refine (callsIn_wide.1 (Tryz.slices_Sorted_keys_200_201 b m.length D0 R0 w h1 (by rw [h2]; unfold maxLen; omega) (by rw [h2]; omega))).mono ?_
    rintro e w' ⟨v, ss, rfl, h4, h5, _, h6⟩
    rw [hs1] at h5 h6
    refine ⟨v, rfl, ?_, h6⟩
    have hp := h4.trans h3
    have hl := hp.length_eq
    rw [List.length_map] at hl
    rw [sorted_keys hsort hp, hl, List.map_map] at h5
    exact h5
theorem enc_row {H : Hp} : ∀ (l : List Bs), LC cStr H (l.map fun s => Value.string (mk s)) l
  | [] => .nil
  | s :: l => LC.cons (cs := [_]) rfl (enc_row l)
theorem _root_.Go.World.ownsRow.mono0 {w : World} {base : Nat} {e : TypeId} {size : Nat} {v : Value} {n : Nat} {xs : List Value} (h : w.ownsRow base e size v n xs) : w.ownsRow 0 e size v n xs :=
  ⟨h.1, h.2.imp id fun ⟨g, cap, cur, e1, _, e2⟩ => ⟨g, cap, cur, e1, Nat.zero_le _, e2⟩⟩
/-- (Value).Keys -/
def m131 (j : J) : Option (List Bs) := some (j.tab.map (·.1))
set_option maxRecDepth 100000 in
theorem c131 : ∀ {H0 : Hp} {w0 : World} {a0_0 : J} {xa0_0 : Value} (_ : Imm H0 w0) (_ : VR H0 xa0_0 a0_0) {r : List Bs} (_ : m131 a0_0 = some r), Ct Tryz.prog 131 [.agg (List.toArray [xa0_0])] [] H0 w0 fun v H' w' => ∃ (a : Option Addr) (c : Nat), v = .slice a (List.length r) c ∧ Sl cStr H' a c r := by
  intro H0 w0 a0_0 xa0_0 hI ha0_0 r hm
  have hL := L.start hI
  refine ct_of Tryz.func131 rfl Tryz.ntmps131 rfl (Nat.le_of_ble_eq_true rfl) ?_
  obtain rfl := ends hm
  refine wp_seq ?_
  refine rg ?_
  refine wl rfl (o_box 0 (c := [_]) hL rfl rfl fun b0 w hL => ?_)
  refine sv (r_assign rfl) ?_
  refine wn ?_
  refine then_n ?_
  refine wp_seq ?_
  refine rg ?_
  refine sv (r_fieldAddr fl_33_0 rfl) ?_
  refine sv (r_load1 (hL.own 0 _ rfl) sc_20 rfl rfl) ?_
  obtain ⟨q, hu, hq⟩ := ta_tab ha0_0
  refine sv (r_ta hu rfl) ?_
  refine sv (r_move rfl) ?_
  refine sv (r_extract rfl rfl) ?_
  refine sv (r_extract rfl rfl) ?_
  refine sv (r_assign rfl) ?_
  refine sv (r_assign rfl) ?_
  refine wn ?_
  refine then_n ?_
  refine wp_seq ?_
  refine rg ?_
  refine sv (r_move rfl) ?_
  refine wl rfl (o_call (r_call fn_201 rfl) (callsIn_wide.1 (Tryz.maps_Keys_201 q w)) ?_)
  rintro e w1 ⟨rfl, rfl⟩
  refine ⟨_, rfl, ?_⟩
  have hL1 := hL.alloc 1 [.map q] 173
  have hz : (w.alloc (.cells #[.map q] 173)).heap.size = w.heap.size + 1 := by simp
  refine wl rfl (o_call (r_call fn_200 rfl) (keys200 hq hL.imm) ?_)
  rintro e w2 ⟨v, rfl, hrow, hb⟩
  refine ⟨_, rfl, ?_⟩
  obtain ⟨a, c, rfl, _, _, _⟩ := row_form (World.ownsRow.mono0 hrow)
  have hx : Ext [] _ _ _ w2 := ext_below hL1.imm (by rw [hz]; exact hb)
  have hL2 := hL1.step [] 2 (.row (.slice a a0_0.tab.length c) 9 cStr.k a0_0.tab.length (a0_0.tab.map fun p => .string (mk p.1))) (by simp) hx (World.ownsRow.mono0 hrow) (fun b hb' => by
    simp [Rs.foot, Value.ownBlock] at hb'
    have h1 := (World.ownsRow.lt hrow b (by simp [Value.ownBlock, hb'])).1
    exact ⟨hL1.imm.fresh (by rw [hz]; exact h1), .inr (by rw [hz]; exact h1)⟩)
  have hlen : a0_0.tab.length = (a0_0.tab.map (·.1)).length := (List.length_map _).symm
  have hmap : (a0_0.tab.map fun p => Value.string (mk p.1)) = (a0_0.tab.map (·.1)).map fun s => Value.string (mk s) := by rw [List.map_map]; rfl
  rw [hmap, hlen] at hL2
  rw [hlen]
  obtain ⟨H, hle, hL, hs⟩ := hL2.settle (i := 2) (K := cStr) rfl (enc_row _)
  refine sv (r_assign rfl) ?_
  refine wn ?_
  refine then_n ?_
  refine wp_ret ?_
  exact rt rfl (.tmp rfl .nil) ⟨_, _, rfl, hL.ext, a, c, rfl, hs⟩
end Go.Proofs.YtcjphpenelnohaaGreatDoor
/- (*strings.Builder).copyCheck and String (by tools/builder.py) -/
set_option linter.unusedVariables false
namespace Go.Proofs.YtcjphpenelnohaaGreatDoor
open Go.RowKit
noncomputable def i201B : Bool := match Tryz.prog.info? 201 with
  | some j => j.size == 2
  | none => false
theorem info201 : ∃ j, Tryz.prog.info? 201 = some j ∧ j.size = 2 := by
  have h : i201B = true := by kernel_rfl
  unfold i201B at h
  split at h
  · rename_i j hj; exact ⟨j, hj, by simpa using h⟩
  · cases h
theorem lies201 : liesAt Tryz.prog Tryz.prog.depth 201 (2 / Tryz.prog.cellsOf 201) 0 201 1 = true := by kernel_rfl
theorem shape_cel {w : World} {b : Nat} {c : List Value} {T : TypeId} (h : Rs.holds w (.cel b c T)) : w.shape? b = some (T, c.length) := by
  have h' : w.heap[b]? = some (.cells c.toArray T (0, 0)) := h
  simp [World.shape?, h']
section
variable {n : Nat} {l : List (Nat × Value)} {ds : List Deferred} {w : World} {d : Nat} {x y : Operand} {ty : TypeId} {pos : String} {aft : Array Edge} {v u : Value} {g : Option (Nat × Bool)}
theorem r_conv {P : Program} {s t : TypeId} (h : (convert s t v).run P w = .ok u w) (hx : ev n l x = some v) :
    (execOp (fr n l ds).eval ⟨some d, .convert s t x, ty, pos, aft, g⟩).run P w = .ok (.value u) w := by
  simp only [execOp, ev_eval hx, Sem.run_bind, h, Result.andThen_ok, Sem.run_pure]
set_option maxRecDepth 100000 in
theorem ext283 (args : Array Value) (w : World) : (callFunc 283 args).run Tryz.prog w = ((Extern.AbiNoEscape.same args).run Tryz.prog w).andThen fun v w' => .ok (.value v) w' :=
  run_callFunc_extern Tryz.func283 (by kernel_rfl) (by kernel_rfl) (by kernel_rfl) (e := Extern.AbiNoEscape.same) (by kernel_rfl) args w
theorem r_noEsc {tt : Array TypeId} (hx : ev n l x = some v) :
    (execOp (fr n l ds).eval ⟨some d, .call ⟨.value (.func 283), #[x], tt⟩, ty, pos, aft, g⟩).run Tryz.prog w = .ok (.value v) w := by
  have h2 := ext283 #[v] w
  rw [Lib.run_noEscape] at h2
  have h : [x].map (fr n l ds).eval = [v] := by simp [ev_eval hx]
  simp only [execOp, resolve, Deferred.ofValue, invoke, Act.eval, List.map_toArray, h, Sem.run_bind, Sem.run_pure, Result.andThen_ok, Array.empty_append, Array.append_empty]
  exact h2
theorem r_nePp {a : Addr} {t e : TypeId} {t' : TypeId} {j : TypeInfo} {P : Program} (hp : P.underlying t = some (.pointer e)) (he : P.info? e = some j) (hx : ev n l x = some (.pointer (some a))) (hy : ev n l y = some (.pointer (some a))) :
    (execOp (fr n l ds).eval ⟨some d, .binOp .neq t x y t', ty, pos, aft, g⟩).run P w = .ok (.value (.bool false)) w := by
  simp only [execOp, ev_eval hx, ev_eval hy, eqGuard_at_pointer, Sem.run_bind, Sem.run_pure, Result.andThen_ok, Lib.run_neq_ptr_same w a hp he]
end
def m193 (s1 : Bs) : Option Unit := some ()
set_option maxRecDepth 100000 in
theorem c193 : ∀ {H0 : Hp} {w0 : World} {s1 : Bs} {po00 : Value} {ao01 : Option Addr} {co01 : Nat} {zo01 : List Value} {b0 : Nat} (_ : Imm H0 w0) (_ : Rs.holds w0 (.two (.cel b0 (po00 :: (.slice ao01 (List.length s1) co01) :: []) 201) (.row (.slice ao01 (List.length s1) co01) 5 1 (List.length s1) zo01))) (_ : ∀ b' ∈ Rs.foot (.two (.cel b0 (po00 :: (.slice ao01 (List.length s1) co01) :: []) 201) (.row (.slice ao01 (List.length s1) co01) 5 1 (List.length s1) zo01)), H0 b' = none) (_ : BP b0 po00) (_ : LC cB8 H0 zo01 s1) {r : Unit} (_ : m193 s1 = some r), Ct Tryz.prog 193 [.pointer (some ⟨b0, 0, none⟩)] (Rs.foot (.two (.cel b0 (po00 :: (.slice ao01 (List.length s1) co01) :: []) 201) (.row (.slice ao01 (List.length s1) co01) 5 1 (List.length s1) zo01))) H0 w0 fun v H' w' => ∃ x : Value, (v = .tuple (List.toArray []) ∧ BP b0 x) ∧ Rs.holds w' (.two (.cel b0 ((x) :: (.slice ao01 (List.length s1) co01) :: []) 201) (.row (.slice ao01 (List.length s1) co01) 5 1 (List.length s1) zo01)) ∧ ∀ b' ∈ Rs.foot (.two (.cel b0 ((x) :: (.slice ao01 (List.length s1) co01) :: []) 201) (.row (.slice ao01 (List.length s1) co01) 5 1 (List.length s1) zo01)), H' b' = none ∧ (b' ∈ Rs.foot (.two (.cel b0 (po00 :: (.slice ao01 (List.length s1) co01) :: []) 201) (.row (.slice ao01 (List.length s1) co01) 5 1 (List.length s1) zo01)) ∨ w0.heap.size ≤ b') := by
  intro H0 w0 s1 po00 ao01 co01 zo01 b0  hI hb hn ho00 ho01 r hm
  have hL := L.one hI hb hn
  have hL := hL.split 0 1 rfl rfl (.inl rfl)
  refine ct_of Tryz.func193 rfl Tryz.ntmps193 rfl (Nat.le_of_ble_eq_true rfl) ?_
  obtain ⟨j, hj, hj2⟩ := info201
  refine wp_seq ?_
  refine rg ?_
  refine sv (r_move rfl) ?_
  refine sv (r_nilCheck rfl) ?_
  refine sv (r_fieldAddr fl_201_0 rfl) ?_
  refine sv (r_load1 (hL.own 0 _ rfl) sc_199 rfl rfl) ?_
  rcases ho00 with rfl | rfl
  · refine sv (r_eqPN Tryz.underlying199 (.inl ⟨rfl, rfl⟩) rfl rfl) ?_
    refine wn ?_
    refine then_n ?_
    refine c_T (b := true) rfl rfl ?_
    refine rg ?_
    refine sv (r_move rfl) ?_
    refine sv (r_move rfl) ?_
    refine sv (r_conv (Lib.run_to_unsafe _ ⟨b0, 0, none⟩ Tryz.underlying199 Tryz.underlying370 hj (by rw [hj2]; decide) (shape_cel (hL.own 0 _ rfl)) (Nat.zero_lt_succ 1)) rfl) ?_
    refine sv (r_noEsc rfl) ?_
    refine sv (r_conv (Lib.run_from_unsafe _ ⟨b0, 0, none⟩ Tryz.underlying370 Tryz.underlying199 hj (shape_cel (hL.own 0 _ rfl)) lies201) rfl) ?_
    refine sv (r_nilCheck rfl) ?_
    refine sv (r_fieldAddr fl_201_0 rfl) ?_
    refine wl rfl (o_store1 (i := 0) hL sc_199 rfl rfl rfl rfl rfl (c' := _ :: _ :: []) rfl fun w hL => ?_)
    refine wn ?_
    refine rtN rfl .nil ⟨_, _, rfl, hL.ext, ?_⟩
    have hL := hL.merge 0 1 rfl rfl rfl
    exact ⟨.pointer (some ⟨b0, 0, none⟩), ⟨rfl, .inr rfl⟩, hL.give (i := 0) rfl⟩
  · refine sv (r_eqPN Tryz.underlying199 (.inr ⟨_, rfl, rfl⟩) rfl rfl) ?_
    refine wn ?_
    refine then_n ?_
    refine c_F (b := false) rfl rfl ?_
    refine wp_seq ?_
    refine rg ?_
    refine sv (r_move rfl) ?_
    refine sv (r_nilCheck rfl) ?_
    refine sv (r_fieldAddr fl_201_0 rfl) ?_
    refine sv (r_load1 (hL.own 0 _ rfl) sc_199 rfl rfl) ?_
    refine sv (r_move rfl) ?_
    refine sv (r_nePp Tryz.underlying199 hj rfl rfl) ?_
    refine wn ?_
    refine then_n ?_
    refine c_F (b := false) rfl rfl ?_
    refine wp_skip ?_
    refine rtN rfl .nil ⟨_, _, rfl, hL.ext, ?_⟩
    have hL := hL.merge 0 1 rfl rfl rfl
    exact ⟨.pointer (some ⟨b0, 0, none⟩), ⟨rfl, .inr rfl⟩, hL.give (i := 0) rfl⟩
section
variable {P : Program} {n : Nat} {l : List (Nat × Value)} {ds : List Deferred} {w w' : World} {d : Nat} {x y : Operand} {ty : TypeId} {pos : String} {aft : Array Edge} {v u z : Value} {g : Option (Nat × Bool)}
theorem r_usd {ts : Array TypeId} (h : (Builtin.unsafeSliceData_ ts ty #[v]).run P w = .ok u w') (hx : ev n l x = some v) :
    (execOp (fr n l ds).eval ⟨some d, .call ⟨.builtin .unsafeSliceData, #[x], ts⟩, ty, pos, aft, g⟩).run P w = .ok (.value u) w' := by
  simp only [execOp, resolve, invoke, builtin, Sem.run_bind, Sem.run_pure, Result.andThen_ok, List.map_toArray, List.map_cons, List.map_nil, ev_eval hx, h]
theorem r_ust {ts : Array TypeId} (h : (Builtin.unsafeString_ ts ty #[v, z]).run P w = .ok u w') (hx : ev n l x = some v) (hy : ev n l y = some z) :
    (execOp (fr n l ds).eval ⟨some d, .call ⟨.builtin .unsafeString, #[x, y], ts⟩, ty, pos, aft, g⟩).run P w = .ok (.value u) w' := by
  simp only [execOp, resolve, invoke, builtin, Sem.run_bind, Sem.run_pure, Result.andThen_ok, List.map_toArray, List.map_cons, List.map_nil, ev_eval hx, ev_eval hy, h]
end
/-- A row of bytes goes: its block is frozen. -/
theorem L.frozen {X : List Nat} {H0 H : Hp} {w0 w : World} {S : List (Nat × Rs)} (hL : L X H0 w0 S H w) (i : Nat) {r : Rs} {b k : Nat} (hs : sk S i = some r) (hb : b ∈ r.foot) : L X H0 w0 ((i, .gone) :: S) H (w.freeze ⟨b, 0, none⟩ k) := by
  have hn := (hL.non i r hs b hb).1
  have hoth : ∀ q, q ≠ b → (w.freeze ⟨b, 0, none⟩ k).heap[q]? = w.heap[q]? := fun q hq => by
    unfold World.freeze
    split
    · rfl
    · simp [Array.getElem?_modify, Ne.symm hq]
  have hsz : (w.freeze ⟨b, 0, none⟩ k).heap.size = w.heap.size := by unfold World.freeze; split <;> simp
  refine hL.step [b] i .gone (fun b' hb' => ⟨r, hs, by simp at hb'; subst hb'; exact hb⟩) ⟨by unfold World.freeze; split <;> rfl, by unfold World.freeze; split <;> rfl, by unfold World.freeze; split <;> rfl, by rw [hsz]; exact Nat.le_refl _, fun q _ hq => hoth q (by simpa using hq), fun q o e => ?_, Hle.refl H, fun _ _ _ h => h⟩ trivial (by simp [Rs.foot])
  have : q ≠ b := fun e' => by subst e'; rw [hn] at e; cases e
  rw [hoth q this]; exact hL.imm q o e
/-- A block more. -/
theorem L.grew {X : List Nat} {H0 H : Hp} {w0 w : World} {S : List (Nat × Rs)} (hL : L X H0 w0 S H w) (o : Obj) : L X H0 w0 S H (w.alloc o) := hL.call (Ext.alloc hL.imm o)
theorem lc_bytes {H : Hp} {cs : List Value} {s : Bs} (h : LC cB8 H cs s) : cs = Lib.byteCells s := by
  induction h with
  | nil => rfl
  | cons h1 _ ih =>
    have : _ = _ := h1
    rw [ih, this]; rfl
def m123 (s1 : Bs) : Option Bs := some s1
set_option maxRecDepth 100000 in
theorem c123 : ∀ {H0 : Hp} {w0 : World} {s1 : Bs} {po00 : Value} {ao01 : Option Addr} {co01 : Nat} {zo01 : List Value} {b0 : Nat} (_ : Imm H0 w0) (_ : Rs.holds w0 (.two (.cel b0 (po00 :: (.slice ao01 (List.length s1) co01) :: []) 201) (.row (.slice ao01 (List.length s1) co01) 5 1 (List.length s1) zo01))) (_ : ∀ b' ∈ Rs.foot (.two (.cel b0 (po00 :: (.slice ao01 (List.length s1) co01) :: []) 201) (.row (.slice ao01 (List.length s1) co01) 5 1 (List.length s1) zo01)), H0 b' = none) (_ : BP b0 po00) (_ : LC cB8 H0 zo01 s1) {r : Bs} (_ : m123 s1 = some r), Ct Tryz.prog 123 [.pointer (some ⟨b0, 0, none⟩)] (Rs.foot (.two (.cel b0 (po00 :: (.slice ao01 (List.length s1) co01) :: []) 201) (.row (.slice ao01 (List.length s1) co01) 5 1 (List.length s1) zo01))) H0 w0 fun v H' w' => (v = .string (mk r)) ∧ Rs.holds w' (.gone) ∧ ∀ b' ∈ Rs.foot (.gone), H' b' = none ∧ (b' ∈ Rs.foot (.two (.cel b0 (po00 :: (.slice ao01 (List.length s1) co01) :: []) 201) (.row (.slice ao01 (List.length s1) co01) 5 1 (List.length s1) zo01)) ∨ w0.heap.size ≤ b') := by
  intro H0 w0 s1 po00 ao01 co01 zo01 b0  hI hb hn ho00 ho01 r hm
  have hL := L.one hI hb hn
  have hL := hL.split 0 1 rfl rfl (.inl rfl)
  refine ct_of Tryz.func123 rfl Tryz.ntmps123 rfl (Nat.le_of_ble_eq_true rfl) ?_
  obtain rfl := ends hm
  refine wp_seq ?_
  refine rg ?_
  refine sv (r_assign rfl) ?_
  refine wn ?_
  refine then_n ?_
  refine wp_seq ?_
  refine rd hL [0] [_] [(0, true), (1, true), (2, true), (3, true), (5, true), (6, true), (7, true), (8, true), (9, true), (4, false), (10, false), (11, true)] mixed rfl (by kernel_rfl) fun w hL => ?_
  refine dv rfl (fun w hS => r_move rfl) ?_
  refine dv rfl (fun w hS => r_nilCheck rfl) ?_
  refine dv rfl (fun w hS => r_fieldAddr fl_201_1 rfl) ?_
  refine dv rfl (fun w hS => r_load1 hS.2.1 sc_87 rfl rfl) ?_
  refine dv rfl (fun w hS => r_move rfl) ?_
  refine dv rfl (fun w hS => r_nilCheck rfl) ?_
  refine dv rfl (fun w hS => r_fieldAddr fl_201_1 rfl) ?_
  refine dv rfl (fun w hS => r_load1 hS.2.1 sc_87 rfl rfl) ?_
  refine dv rfl (fun w hS => r_lenS rfl Tryz.underlying87 rfl) ?_
  have hrow := hL.own 1 _ rfl
  have hbytes := lc_bytes ho01
  subst hbytes
  have fin : ∀ {l : List (Nat × Value)} {S : List (Nat × Rs)} {w : World}, L (Rs.foot (.two (.cel b0 (po00 :: (.slice ao01 (List.length s1) co01) :: []) 201) (.row (.slice ao01 (List.length s1) co01) 5 1 (List.length s1) (Lib.byteCells s1)))) H0 w0 S H0 w →
      bodyPost Tryz.prog Tryz.f123 (fun e w' => ∃ v H', e = .returned v ∧ Ext (Rs.foot (.two (.cel b0 (po00 :: (.slice ao01 (List.length s1) co01) :: []) 201) (.row (.slice ao01 (List.length s1) co01) 5 1 (List.length s1) (Lib.byteCells s1)))) H0 w0 H' w' ∧
        ((v = .string (mk s1)) ∧ Rs.holds w' .gone ∧ ∀ b' ∈ Rs.foot .gone, H' b' = none ∧ (b' ∈ Rs.foot (.two (.cel b0 (po00 :: (.slice ao01 (List.length s1) co01) :: []) 201) (.row (.slice ao01 (List.length s1) co01) 5 1 (List.length s1) (Lib.byteCells s1))) ∨ w0.heap.size ≤ b'))) .ret (fr 14 ((2, .string (mk s1)) :: l) []) w :=
    fun hL => rt rfl (.tmp rfl .nil) ⟨_, _, rfl, hL.ext, rfl, trivial, by simp [Rs.foot]⟩
  by_cases hne : s1 = []
  · subst hne
    have h2 : ∃ p w', (Builtin.unsafeSliceData_ #[87] 297 #[.slice ao01 (List.length ([] : Bs)) co01]).run Tryz.prog w = .ok (.pointer p) w' ∧ Ext [] H0 w H0 w' := by
      rcases hrow.2 with ⟨hv, _⟩ | ⟨g, cap, cur, hv, _, hg, _⟩
      · simp only [Value.slice.injEq] at hv
        obtain ⟨rfl, _, rfl⟩ := hv
        exact ⟨none, w, Lib.run_unsafeSliceData_nil _ _ _ _ _, Ext.refl hL.imm⟩
      · simp only [Value.slice.injEq] at hv
        obtain ⟨rfl, _, rfl⟩ := hv
        by_cases hc : co01 = 0
        · subst hc
          exact ⟨_, _, Lib.run_unsafeSliceData_zero _ _ _ 5 Tryz.underlying297 ⟨g, 0, none⟩ _ (5, cur.size) (by simp [World.shape?, hg]), Ext.alloc hL.imm _⟩
        · exact ⟨_, w, Lib.run_unsafeSliceData_row _ _ _ _ _ _ hc, Ext.refl hL.imm⟩
    obtain ⟨p, w1, hr, hx⟩ := h2
    have hL := hL.call hx
    refine dh rfl rfl (o_val (r_usd hr rfl) ⟨Sd.of hL (Hle.refl _) [0] rfl, ?_⟩)
    refine dh rfl rfl (o_val (r_ust (Lib.run_unsafeString_none _ 297 3 9 p) rfl rfl) ⟨Sd.of hL (Hle.refl _) [0] rfl, ?_⟩)
    refine dv rfl (fun w hS => r_assign rfl) ?_
    refine dn ?_
    refine then_n ?_
    refine wp_ret ?_
    exact fin hL
  · rcases hrow.2 with ⟨_, hn0⟩ | ⟨g, cap, cur, hv, _, hg, hcap, _, hsz, htake⟩
    · exact absurd (List.length_eq_zero_iff.1 hn0) hne
    · simp only [Value.slice.injEq] at hv
      obtain ⟨rfl, _, rfl⟩ := hv
      have hpos : 0 < s1.length := by cases s1 <;> simp_all
      refine dh rfl rfl (o_val (r_usd (Lib.run_unsafeSliceData_row w #[87] 297 ⟨g, 0, none⟩ s1.length co01 (by omega)) rfl) ⟨Sd.of hL (Hle.refl _) [0] rfl, ?_⟩)
      have hcell : ∀ j x, s1[j]? = some x → w.cell? ((⟨g, 0, none⟩ : Addr).add j) = some (.int .u8 x.toNat) := by
        intro j x hx
        have := World.ownsRow.cells hrow (g := g) rfl j (.int .u8 x.toNat) (by simp [Lib.byteCells, hx])
        exact this
      have hL' := hL.frozen 1 (k := s1.length) (b := g) rfl (by simp [Rs.foot, Value.ownBlock])
      have hlim : s1.length ≤ 9223372036854775807 := by
        have := hrow.2
        unfold maxLen at *
        omega
      refine dh rfl rfl (o_val (r_ust (Lib.run_unsafeString_row w 297 3 9 5 Tryz.underlying297 (by kernel_rfl) g cur.size (by simp [World.shape?, hg]) s1 hne (by omega) hlim hcell) rfl rfl) ⟨Sd.of hL' (Hle.refl _) [0] rfl, ?_⟩)
      refine dv rfl (fun w hS => r_assign rfl) ?_
      refine dn ?_
      refine then_n ?_
      refine wp_ret ?_
      exact fin hL'
end Go.Proofs.YtcjphpenelnohaaGreatDoor
/- Regions that draw their order, once more: what holds may end on the way, and two operations that turn the world may stand side by side. -/
namespace Go.Proofs.YtcjphpenelnohaaGreatDoor
open Go.RowKit

section
variable {P : Program} {ops : Array Oper} {Q : Exit → Act → World → Prop} {S : Array Bool → World → Prop}

/-- All that a listed operation waits for is listed. -/
def Cl (ops : Array Oper) (l : Array Bool) : Prop := l.size ≤ ops.size ∧ ∀ h o, ops[h]? = some o → l.getD h false = true → ∀ e ∈ o.after, Region.binds .any e = true → l.getD e.on false = true
theorem getD_ff {l : Array Bool} {i : Nat} (h : l.getD i true = false) : l.getD i false = false := by
  rcases Nat.lt_or_ge i l.size with h' | h'
  · simp [h'] at h ⊢; exact h
  · simp [Array.getElem?_eq_none h'] at h
theorem Cl.start (ops : Array Oper) (n : Nat) (hn : n ≤ ops.size) : Cl ops (Array.replicate n false) := by
  refine ⟨by simpa using hn, ?_⟩
  intro h o _ hl
  rcases Nat.lt_or_ge h n with h' | h'
  · simp [h'] at hl
  · simp [h'] at hl
theorem Cl.step {l : Array Bool} (hc : Cl ops l) {j : Nat} (hj : j ∈ Region.ready .any ops l) : Cl ops (l.setIfInBounds j true) := by
  refine ⟨by simpa using hc.1, ?_⟩
  intro h o ho hl e he hb
  by_cases hh : j = h
  · subst hh
    obtain ⟨_, o', ho', hall⟩ := mem_ready.1 hj
    rw [ho] at ho'; cases ho'
    exact getD_set_true (hall e he hb)
  · rw [getD_set_ne false hh] at hl
    exact getD_set_true (hc.2 h o ho hl e he hb)

/-- Whatever order is picked; S hangs on what is listed. -/
def wpAnyG (P : Program) (ops : Array Oper) (Q : Exit → Act → World → Prop) (S : Array Bool → World → Prop) : Nat → Array Bool → Act → World → Prop
  | 0, listed, a, w => Region.ready .any ops listed = [] ∧ Q .normal a w
  | fuel + 1, listed, a, w =>
    (Region.ready .any ops listed = [] → Q .normal a w) ∧
    ∀ i ∈ Region.ready .any ops listed, wpOp P ops Q i (fun a' w' => S (listed.setIfInBounds i true) w' ∧ wpAnyG P ops Q S fuel (listed.setIfInBounds i true) a' w') a w
theorem wpAny_of_G : ∀ (fuel : Nat) (listed : Array Bool) (a : Act) (w : World), wpAnyG P ops Q S fuel listed a w → wpAny P .any ops Q fuel listed a w
  | 0, _, _, _, h => h
  | fuel + 1, _, _, _, h => ⟨h.1, fun i hi => wpOp_mono (fun a' w' h' => wpAny_of_G fuel _ a' w' h'.2) (h.2 i hi)⟩

/-- What holds as long as i is not listed. -/
def Sof (ops : Array Oper) (S : Array Bool → World → Prop) (i : Nat) (w : World) : Prop := ∃ l, Cl ops l ∧ l.getD i false = false ∧ S l w

theorem wpAnyG_first {i : Nat} {oi : Oper} {v : Value} (hi : ops[i]? = some oi) (hsel : ∀ (j : Nat) (o : Oper) cs b, ops[j]? = some o → o.op ≠ .select cs b)
    (hQ : ∀ c a w, Q (.panic c) (a.put oi.dst v) w → Q (.panic c) a w) (hA : ∀ l j w, S l w → S (l.setIfInBounds j true) w) (hI : ∀ l w, S (l.setIfInBounds i true) w → S l w) :
    ∀ (fuel : Nat) (listed : Array Bool) (a : Act) (w : World),
      (∀ j oj, ops[j]? = some oj → j ≠ i → listed.getD j true = false → (∀ e ∈ oj.after, Region.binds .any e = true → e.on ≠ i) → oi.apart ops oj = true) →
      i ∈ Region.ready .any ops listed → Cl ops listed → YieldsIf P ops (Sof ops S i) oi v a → S listed w →
      wpAnyG P ops Q S fuel (listed.setIfInBounds i true) (a.put oi.dst v) w → wpAnyG P ops Q S (fuel + 1) listed a w := by
  intro fuel
  induction fuel with
  | zero =>
    intro listed a w _ hr hcl hy hS H
    refine ⟨fun h => (by rw [h] at hr; cases hr), fun j hj => ?_⟩
    by_cases hji : j = i
    · subst hji; exact hy.wpOp hi ⟨listed, hcl, getD_ff (mem_ready.1 hr).1, hS⟩ ⟨hA _ _ _ hS, H⟩
    · have := ready_mono hj hji
      rw [H.1] at this
      cases this
  | succ fuel ih =>
    intro listed a w hfree hr hcl hy hS H
    refine ⟨fun h => (by rw [h] at hr; cases hr), fun j hj => ?_⟩
    by_cases hji : j = i
    · subst hji; exact hy.wpOp hi ⟨listed, hcl, getD_ff (mem_ready.1 hr).1, hS⟩ ⟨hA _ _ _ hS, H⟩
    · have h1 := H.2 j (ready_mono hj hji)
      obtain ⟨hjun, oj, hoj, hall⟩ := mem_ready.1 hj
      have hnot : ∀ e ∈ oj.after, Region.binds .any e = true → e.on ≠ i := fun e he hb heq => by
        have h1 := hall e he hb
        have h0 := (mem_ready.1 hr).1
        rw [heq] at h1
        rw [getD_ff h0] at h1
        cases h1
      have h2 := wpOp_putIf hoj (hfree j oj hoj hji hjun hnot) (fun cs b => hsel i oi cs b hi) (fun cs b => hsel j oj cs b hoj) hQ hy h1
      have hfree' : ∀ k ok, ops[k]? = some ok → k ≠ i → (listed.setIfInBounds j true).getD k true = false →
          (∀ e ∈ ok.after, Region.binds .any e = true → e.on ≠ i) → oi.apart ops ok = true := fun k ok hk hki hun hno => by
        refine hfree k ok hk hki ?_ hno
        by_cases hjk : j = k
        · subst hjk; exact hjun
        · rw [getD_set_ne true hjk] at hun; exact hun
      refine wpOp_mono (fun a' w' h3 => ?_) h2
      have h3S : S (listed.setIfInBounds j true) w' := by
        have := h3.2.1
        rw [Array.setIfInBounds_comm _ _ (Ne.symm hji)] at this
        exact hI _ _ this
      refine ⟨h3S, ih (listed.setIfInBounds j true) a' w' hfree' (ready_mono hr (Ne.symm hji)) (hcl.step hj) h3.1 h3S ?_⟩
      rw [Array.setIfInBounds_comm _ _ hji]
      exact h3.2.2

/-- The order of a region: taken first, with the places of what it leans on; alone, with the places of what holds behind it; two side by side. -/
inductive Od
  | dn
  | lt (i : Nat) (al : List Nat) (r : Od)
  | hv (i : Nat) (al : List Nat) (r : Od)
  | two (i : Nat) (al : List Nat) (r : Od) (j : Nat) (bl : List Nat) (s : Od)

def edgeOn (ops : Array Oper) (h i : Nat) : Bool := match ops[h]? with
  | some o => o.after.any fun e => Region.binds .any e && e.on == i
  | none => true
/-- All that must hold behind is among those told. -/
def alive (gh : List Nat) (l : Array Bool) (al : List Nat) : Bool := (List.range gh.length).all fun p => l.getD (gh.getD p 0) false || al.contains p
def Od.len : Od → Nat
  | .dn => 0
  | .lt _ _ r => r.len + 1
  | .hv _ _ r => r.len + 1
  | .two _ _ r _ _ _ => r.len + 1
def chkO (ops : Array Oper) (gh : List Nat) : Od → Array Bool → Bool
  | .dn, l => (Region.ready .any ops l).isEmpty
  | .lt i al r, l => Region.free .any ops l i && (Region.ready .any ops l).contains i && !gh.contains i && al.all (fun p => Nat.blt p gh.length && edgeOn ops (gh.getD p 0) i) && chkO ops gh r (l.setIfInBounds i true)
  | .hv i al r, l => (Region.ready .any ops l == [i]) && alive gh (l.setIfInBounds i true) al && chkO ops gh r (l.setIfInBounds i true)
  | .two i al r j bl s, l => (r.len == s.len) && (Region.ready .any ops l == [i, j]) && alive gh (l.setIfInBounds i true) al && alive gh (l.setIfInBounds j true) bl && chkO ops gh r (l.setIfInBounds i true) && chkO ops gh s (l.setIfInBounds j true)
/-- Those of what holds that stand at some places. -/
def Sa (H : Hp) (rs : List Rs) (al : List Nat) (w : World) : Prop := Sd H (al.map fun p => rs.getD p .gone) w
/-- The walk of such an order. -/
def WO (P : Program) (H : Hp) (rs : List Rs) (ops : Array Oper) (Q : Exit → Act → World → Prop) : Od → Act → World → Prop
  | .dn, a, w => Q .normal a w
  | .lt i al r, a, w => ∃ o v, ops[i]? = some o ∧ YieldsIf P ops (Sa H rs al) o v a ∧ WO P H rs ops Q r (a.put o.dst v) w
  | .hv i al r, a, w => wpOp P ops Q i (fun a' w' => Sa H rs al w' ∧ WO P H rs ops Q r a' w') a w
  | .two i al r j bl s, a, w => wpOp P ops Q i (fun a' w' => Sa H rs al w' ∧ WO P H rs ops Q r a' w') a w ∧ wpOp P ops Q j (fun a' w' => Sa H rs bl w' ∧ WO P H rs ops Q s a' w') a w

/-- What holds: while the operation that ends it is not listed. -/
def Sg (H : Hp) (gh : List Nat) (rs : List Rs) (l : Array Bool) (w : World) : Prop := Imm H w ∧ ∀ p, p < gh.length → l.getD (gh.getD p 0) false = false → (rs.getD p .gone).holds w

theorem Hd_iff {w : World} : ∀ (l : List Rs), Hd w l ↔ ∀ r ∈ l, r.holds w
  | [] => by simp [Hd]
  | r :: l => by simp [Hd, Hd_iff l]
theorem Sa_of {H : Hp} {rs : List Rs} {al : List Nat} {w : World} (hI : Imm H w) (h : ∀ p ∈ al, (rs.getD p .gone).holds w) : Sa H rs al w :=
  ⟨hI, (Hd_iff _).2 fun r hr => by obtain ⟨p, hp, rfl⟩ := List.mem_map.1 hr; exact h p hp⟩
theorem Sg_of {H : Hp} {gh : List Nat} {rs : List Rs} {al : List Nat} {l : Array Bool} {w : World} (ha : alive gh l al = true) (h : Sa H rs al w) : Sg H gh rs l w := by
  refine ⟨h.1, fun p hp hl => ?_⟩
  have := List.all_eq_true.1 ha p (List.mem_range.2 hp)
  rw [hl, Bool.false_or] at this
  exact (Hd_iff _).1 h.2 _ (List.mem_map.2 ⟨p, by simpa using this, rfl⟩)
theorem Sg_mono {H : Hp} {gh : List Nat} {rs : List Rs} (l : Array Bool) (j : Nat) (w : World) (h : Sg H gh rs l w) : Sg H gh rs (l.setIfInBounds j true) w :=
  ⟨h.1, fun p hp hl => h.2 p hp (by
    cases e : l.getD (gh.getD p 0) false with
    | false => rfl
    | true => rw [getD_set_true e] at hl; cases hl)⟩
theorem Sg_same {H : Hp} {gh : List Nat} {rs : List Rs} {i : Nat} (hi : (!gh.contains i) = true) (l : Array Bool) (w : World) (h : Sg H gh rs (l.setIfInBounds i true) w) : Sg H gh rs l w :=
  ⟨h.1, fun p hp hl => h.2 p hp (by
    have hne : i ≠ gh.getD p 0 := fun e => by
      have : gh.contains i = true := by rw [e, List.getD_eq_getElem?_getD, List.getElem?_eq_getElem hp]; simp
      rw [this] at hi; cases hi
    rw [getD_set_ne false hne]; exact hl)⟩

theorem WO_any {H : Hp} {gh : List Nat} {rs : List Rs} (hs : Region.noSelect ops = true) (hQ : ∀ c a d v w, Q (.panic c) (a.put d v) w → Q (.panic c) a w) : ∀ (t : Od) (l : Array Bool) (a : Act) (w : World),
    chkO ops gh t l = true → Cl ops l → Sg H gh rs l w → WO P H rs ops Q t a w → wpAnyG P ops Q (Sg H gh rs) t.len l a w
  | .dn, l, a, w, hc, _, _, h => ⟨by simpa [chkO, List.isEmpty_iff] using hc, h⟩
  | .lt i al r, l, a, w, hc, hcl, hS, h => by
    simp only [chkO, Bool.and_eq_true] at hc
    obtain ⟨⟨⟨⟨h1, h2⟩, h3⟩, h4⟩, h5⟩ := hc
    obtain ⟨o, v, ho, hy, hw⟩ := h
    have hr : i ∈ Region.ready .any ops l := by simpa using h2
    have hy' : YieldsIf P ops (Sof ops (Sg H gh rs) i) o v a := by
      refine hy.imp (fun ⟨k1, k2⟩ => ⟨k1, fun w' ⟨l', hcl', hun, hS'⟩ => k2 w' (Sa_of hS'.1 fun p hp => ?_)⟩) id
      have := List.all_eq_true.1 h4 p hp
      simp only [Bool.and_eq_true, Nat.blt_eq] at this
      refine hS'.2 p this.1 ?_
      cases e : l'.getD (gh.getD p 0) false with
      | false => rfl
      | true =>
        have h6 := this.2
        unfold edgeOn at h6
        cases e2 : ops[gh.getD p 0]? with
        | none =>
          rw [e2] at h6
          have hge : ops.size ≤ gh.getD p 0 := by simpa using e2
          have hge' : l'.size ≤ gh.getD p 0 := Nat.le_trans hcl'.1 hge
          rw [Array.getD_eq_getD_getElem?, Array.getElem?_eq_none hge'] at e
          cases e
        | some oh =>
          rw [e2] at h6
          obtain ⟨e', he', hb⟩ := Array.any_eq_true'.1 h6
          simp only [Bool.and_eq_true, beq_iff_eq] at hb
          have := hcl'.2 _ oh e2 e e' he' hb.1
          rw [hb.2, hun] at this; cases this
    exact wpAnyG_first ho (Region.noSelect_spec hs) (fun c a w => hQ c a o.dst v w) Sg_mono (Sg_same h3) _ l a w (Region.free_spec ho h1) hr hcl hy' hS (WO_any hs hQ r _ _ _ h5 (hcl.step hr) (Sg_mono _ _ _ hS) hw)
  | .hv i al r, l, a, w, hc, hcl, hS, h => by
    simp only [chkO, Bool.and_eq_true, beq_iff_eq] at hc
    obtain ⟨⟨h1, h2⟩, h3⟩ := hc
    have hr : i ∈ Region.ready .any ops l := by rw [h1]; simp
    refine ⟨fun h0 => (by rw [h1] at h0; cases h0), fun j hj => ?_⟩
    rw [h1] at hj
    simp only [List.mem_singleton] at hj
    subst hj
    exact wpOp_mono (fun a' w' ⟨k1, k2⟩ => ⟨Sg_of h2 k1, WO_any hs hQ r _ _ _ h3 (hcl.step hr) (Sg_of h2 k1) k2⟩) h
  | .two i al r j bl s, l, a, w, hc, hcl, hS, h => by
    simp only [chkO, Bool.and_eq_true, beq_iff_eq] at hc
    obtain ⟨⟨⟨⟨⟨h0, h1⟩, h2⟩, h3⟩, h4⟩, h5⟩ := hc
    have hri : i ∈ Region.ready .any ops l := by rw [h1]; simp
    have hrj : j ∈ Region.ready .any ops l := by rw [h1]; simp
    refine ⟨fun h0 => (by rw [h1] at h0; cases h0), fun q hq => ?_⟩
    rw [h1] at hq
    simp only [List.mem_cons, List.not_mem_nil, or_false] at hq
    rcases hq with rfl | rfl
    · exact wpOp_mono (fun a' w' ⟨k1, k2⟩ => ⟨Sg_of h2 k1, WO_any hs hQ r _ _ _ h4 (hcl.step hri) (Sg_of h2 k1) k2⟩) h.1
    · exact wpOp_mono (fun a' w' ⟨k1, k2⟩ => ⟨Sg_of h3 k1, h0 ▸ WO_any hs hQ s _ _ _ h5 (hcl.step hrj) (Sg_of h3 k1) k2⟩) h.2

/-- A region that draws its order. -/
theorem wp_region_WO {H : Hp} {gh : List Nat} {rs : List Rs} {id : Nat} {l : List Oper} {a : Act} {w : World} (t : Od) (hm : P.follows .mixedOrders = true)
    (hb : (Region.noSelect l.toArray && (t.len == l.length) && (gh.length == rs.length) && chkO l.toArray gh t (Array.replicate l.length false)) = true)
    (hI : Imm H { w with drawn := w.drawn + 1 }) (hS : Hd { w with drawn := w.drawn + 1 } rs) (h : WO P H rs l.toArray (NoPanic Q) t a { w with drawn := w.drawn + 1 }) : (Code.region id l.toArray true).wp P Q a w := by
  simp only [Bool.and_eq_true, beq_iff_eq] at hb
  obtain ⟨⟨⟨h1, h2⟩, h4⟩, h3⟩ := hb
  refine wp_region_noPanic (wp_region_any hm (wpAny_of_G (S := Sg H gh rs) _ _ _ _ ?_))
  have hs : Sg H gh rs (Array.replicate l.length false) { w with drawn := w.drawn + 1 } := by
    refine ⟨hI, fun p hp _ => (Hd_iff rs).1 hS _ ?_⟩
    have hp' : p < rs.length := by omega
    rw [List.getD_eq_getElem?_getD, List.getElem?_eq_getElem hp']
    exact List.getElem_mem hp'
  have := WO_any h1 (fun c a d v w h => h) t _ a _ h3 (Cl.start _ _ (by simp)) hs h
  simpa [h2] using this

variable {n : Nat} {l : List (Nat × Value)} {ds : List Deferred} {w w' : World} {r : Od} {al : List Nat} {i d : Nat} {op : Op} {ty : TypeId} {pos : String} {aft : Array Edge} {v : Value} {g : Option (Nat × Bool)} {H : Hp} {rs : List Rs}
/-- What only reads. -/
theorem ov (hi : ops[i]? = some ⟨some d, op, ty, pos, aft, none⟩) (hr : ∀ w, Sa H rs al w → (execOp (fr n l ds).eval ⟨some d, op, ty, pos, aft, none⟩).run P w = .ok (.value v) w)
    (k : WO P H rs ops Q r (fr n ((d, v) :: l) ds) w) : WO P H rs ops Q (.lt i al r) (fr n l ds) w :=
  ⟨_, v, hi, .inl ⟨by simp [Region.wanted], hr⟩, by rw [fr_put]; exact k⟩
theorem ovT {j : Nat} {oj : Oper} {dj : Nat} {b c : Bool} (hi : ops[i]? = some ⟨some d, op, ty, pos, aft, some (j, b)⟩) (hj : ops[j]? = some oj) (hd : oj.dst = some dj) (hv : ev n l (.tmp dj) = some (.bool c)) (hc : c = b)
    (hr : ∀ w, Sa H rs al w → (execOp (fr n l ds).eval ⟨some d, op, ty, pos, aft, some (j, b)⟩).run P w = .ok (.value v) w)
    (k : WO P H rs ops Q r (fr n ((d, v) :: l) ds) w) : WO P H rs ops Q (.lt i al r) (fr n l ds) w :=
  ⟨_, v, hi, .inl ⟨wanted_of rfl hj hd hv hc, hr⟩, by rw [fr_put]; exact k⟩
theorem ovF {j : Nat} {oj : Oper} {dj : Nat} {b c : Bool} (hi : ops[i]? = some ⟨some d, op, ty, pos, aft, some (j, b)⟩) (hj : ops[j]? = some oj) (hd : oj.dst = some dj) (hv : ev n l (.tmp dj) = some (.bool c)) (hc : c = !b)
    (k : WO P H rs ops Q r (fr n ((d, undef) :: l) ds) w) : WO P H rs ops Q (.lt i al r) (fr n l ds) w :=
  ⟨_, undef, hi, .inr ⟨unwanted_of rfl hj hd hv hc, rfl⟩, by rw [fr_put]; exact k⟩
theorem ovU {j : Nat} {oj : Oper} {dj : Nat} {b : Bool} (hi : ops[i]? = some ⟨some d, op, ty, pos, aft, some (j, b)⟩) (hj : ops[j]? = some oj) (hd : oj.dst = some dj) (hv : ev n l (.tmp dj) = some undef)
    (k : WO P H rs ops Q r (fr n ((d, undef) :: l) ds) w) : WO P H rs ops Q (.lt i al r) (fr n l ds) w :=
  ⟨_, undef, hi, .inr ⟨unwanted_und rfl hj hd hv, rfl⟩, by rw [fr_put]; exact k⟩
/-- What alone may come up. -/
theorem oh' {o : Oper} {a : Act} {K : Act → World → Prop} (hi : ops[i]? = some o) (hg : o.guard = none) (h : o.wp P a w K Q) : wpOp P ops Q i K a w := by
  unfold wpOp
  simp only [hi]
  rw [if_pos (by simp [Region.wanted, hg])]
  exact .inl h
theorem ohT' {K : Act → World → Prop} {o : Oper} {j : Nat} {oj : Oper} {dj : Nat} {b c : Bool} (hi : ops[i]? = some o) (hg : o.guard = some (j, b)) (hj : ops[j]? = some oj) (hd : oj.dst = some dj) (hv : ev n l (.tmp dj) = some (.bool c)) (hc : c = b)
    (h : o.wp P (fr n l ds) w K Q) : wpOp P ops Q i K (fr n l ds) w := by
  unfold wpOp
  simp only [hi]
  rw [if_pos (wanted_of hg hj hd hv hc)]
  exact .inl h
theorem oh {o : Oper} {a : Act} (hi : ops[i]? = some o) (hg : o.guard = none) (h : o.wp P a w (fun a' w' => Sa H rs al w' ∧ WO P H rs ops Q r a' w') Q) : WO P H rs ops Q (.hv i al r) a w := oh' hi hg h
theorem ohT {o : Oper} {j : Nat} {oj : Oper} {dj : Nat} {b c : Bool} (hi : ops[i]? = some o) (hg : o.guard = some (j, b)) (hj : ops[j]? = some oj) (hd : oj.dst = some dj) (hv : ev n l (.tmp dj) = some (.bool c)) (hc : c = b)
    (h : o.wp P (fr n l ds) w (fun a' w' => Sa H rs al w' ∧ WO P H rs ops Q r a' w') Q) : WO P H rs ops Q (.hv i al r) (fr n l ds) w := ohT' hi hg hj hd hv hc h
theorem ohF {o : Oper} {j : Nat} {oj : Oper} {dj : Nat} {b c : Bool} (hi : ops[i]? = some o) (hg : o.guard = some (j, b)) (hj : ops[j]? = some oj) (hd : oj.dst = some dj) (hv : ev n l (.tmp dj) = some (.bool c)) (hc : c = !b) (ho : o.dst = some d)
    (hS : Sa H rs al w) (h : WO P H rs ops Q r (fr n ((d, undef) :: l) ds) w) : WO P H rs ops Q (.hv i al r) (fr n l ds) w := by
  show wpOp P ops Q i _ (fr n l ds) w
  unfold wpOp
  simp only [hi]
  rw [if_neg (by rw [unwanted_of hg hj hd hv hc]; simp), ho, fr_put]
  exact ⟨hS, h⟩
theorem ohU {o : Oper} {j : Nat} {oj : Oper} {dj : Nat} {b : Bool} (hi : ops[i]? = some o) (hg : o.guard = some (j, b)) (hj : ops[j]? = some oj) (hd : oj.dst = some dj) (hv : ev n l (.tmp dj) = some undef) (ho : o.dst = some d)
    (hS : Sa H rs al w) (h : WO P H rs ops Q r (fr n ((d, undef) :: l) ds) w) : WO P H rs ops Q (.hv i al r) (fr n l ds) w := by
  show wpOp P ops Q i _ (fr n l ds) w
  unfold wpOp
  simp only [hi]
  rw [if_neg (by rw [unwanted_und hg hj hd hv]; simp), ho, fr_put]
  exact ⟨hS, h⟩
/-- Two that may come up, either first. -/
theorem otw {j : Nat} {bl : List Nat} {s : Od} {a : Act} (h1 : WO P H rs ops Q (.hv i al r) a w) (h2 : WO P H rs ops Q (.hv j bl s) a w) : WO P H rs ops Q (.two i al r j bl s) a w := ⟨h1, h2⟩
theorem on {a : Act} (h : Q .normal a w) : WO P H rs ops (NoPanic Q) .dn a w := h
variable {X : List Nat} {H0 : Hp} {w0 : World} {SS : List (Nat × Rs)}
/-- A region that draws its order, in the state L. -/
theorem rdO {ops : List Oper} {id : Nat} {a : Act} (hL : L X H0 w0 SS H w) (ks gh : List Nat) (rs : List Rs) (t : Od) (hm : P.follows .mixedOrders = true) (hks : ks.map (sk SS) = rs.map some)
    (hb : (Region.noSelect ops.toArray && (t.len == ops.length) && (gh.length == rs.length) && chkO ops.toArray gh t (Array.replicate ops.length false)) = true)
    (h : ∀ w, L X H0 w0 SS H w → WO P H rs ops.toArray (NoPanic Q) t a w) : (Code.region id ops.toArray true).wp P Q a w :=
  wp_region_WO t hm hb hL.drew.imm (Hd.of hL.drew ks rs hks) (h _ hL.drew)
theorem Sa.of {H H' : Hp} {rs : List Rs} {al : List Nat} (h : L X H0 w0 SS H' w) (hle : Hle H H') (ks : List Nat) (e : ks.map (sk SS) = (al.map fun p => rs.getD p .gone).map some) : Sa H rs al w :=
  Sd.of h hle ks e
end
end Go.Proofs.YtcjphpenelnohaaGreatDoor
/- Function values, deferred calls, arrays, more operations. -/
namespace Go.Proofs.YtcjphpenelnohaaGreatDoor
open Go.RowKit

/-- A contract of a function that is deferred. -/
def CtD (P : Program) (f : FuncId) (args : List Value) (X : List Nat) (H : Hp) (w : World) (R : Value → Hp → World → Prop) : Prop :=
  ∀ u, CallsD P f args.toArray u w fun e u' w' => u' = u ∧ ∃ v H', e = .returned v ∧ Ext X H w H' w' ∧ R v H' w'

section
variable {P : Program} {Q : Exit → Act → World → Prop} {n : Nat} {l : List (Nat × Value)} {ds : List Deferred} {w w0 : World}
  {d : Nat} {x y z : Operand} {ty : TypeId} {pos : String} {aft : Array Edge} {v u : Value} {g : Option (Nat × Bool)} {K : Act → World → Prop} {X : List Nat} {H0 H : Hp} {S : List (Nat × Rs)}

theorem r_makeFunc {f : FuncId} {cs : List Operand} {vs : List Value} (ha : evs n l cs = some vs) :
    (execOp (fr n l ds).eval ⟨some d, .makeFunc (.func f) #[] cs.toArray, ty, pos, aft, g⟩).run P w = .ok (.value (.func (.func f) #[] vs.toArray)) w := by
  have h := evs_eval (ds := ds) ha
  simp only [execOp, Instr.makeFunc, List.map_toArray, h, Sem.run_bind, Sem.run_pure, Result.andThen_ok]
  rfl
theorem r_callv {f : FuncId} {os : List Operand} {tt : Array TypeId} {vs cs : List Value} (hx : ev n l x = some (.func (.func f) #[] cs.toArray)) (hf : Fn P f) (ha : evs n l os = some vs) :
    (execOp (fr n l ds).eval ⟨some d, .call ⟨.value x, os.toArray, tt⟩, ty, pos, aft, g⟩).run P w = .ok (.enter f (vs ++ cs).toArray) w := by
  have h := evs_eval (ds := ds) ha
  have h2 := hf (vs ++ cs).toArray w
  have hx' := ev_eval (ds := ds) hx
  simp only [execOp, resolve, Deferred.ofValue, hx', invoke, List.map_toArray, h, Sem.run_bind, Sem.run_pure, Result.andThen_ok, Array.empty_append]
  simpa using h2

/-- Calls of function values. -/
theorem v_call0 {f : FuncId} {os : List Operand} {tt : Array TypeId} {vs cs : List Value} {R : Value → Hp → World → Prop} (hx : ev n l x = some (.func (.func f) #[] cs.toArray)) (hL : L X H0 w0 S H w) (hf : Fn P f) (ha : evs n l os = some vs) (hc : Ct P f (vs ++ cs) [] H w R)
    (k : ∀ v H' w', Hle H H' → L X H0 w0 S H' w' → R v H' w' → K (fr n ((d, v) :: l) ds) w') :
    Oper.wp P ⟨some d, .call ⟨.value x, os.toArray, tt⟩, ty, pos, aft, g⟩ (fr n l ds) w K Q :=
  o_call (r_callv hx hf ha) hc fun _ w' ⟨v, H', he, hx, hR⟩ => ⟨v, he, k v H' w' hx.le (hL.call hx) hR⟩
theorem v_call1 {f : FuncId} {os : List Operand} {tt : Array TypeId} {vs cs : List Value} {R : Value → Hp → World → Prop} (hx : ev n l x = some (.func (.func f) #[] cs.toArray)) (i : Nat) {r0 r1 : Rs} (hL : L X H0 w0 S H w) (hf : Fn P f) (ha : evs n l os = some vs)
    (hs : sk S i = some r0) (hc : Ct P f (vs ++ cs) r0.foot H w fun v H' w' => R v H' w' ∧ r1.holds w' ∧ ∀ b ∈ r1.foot, H' b = none ∧ (b ∈ r0.foot ∨ w.heap.size ≤ b))
    (k : ∀ v H' w', Hle H H' → L X H0 w0 ((i, r1) :: S) H' w' → R v H' w' → K (fr n ((d, v) :: l) ds) w') :
    Oper.wp P ⟨some d, .call ⟨.value x, os.toArray, tt⟩, ty, pos, aft, g⟩ (fr n l ds) w K Q :=
  o_call (r_callv hx hf ha) hc fun _ w' ⟨v, H', he, hx, hR, hr, hb⟩ => ⟨v, he, k v H' w' hx.le (hL.step r0.foot i r1 (fun _ hb => ⟨r0, hs, hb⟩) hx hr hb) hR⟩
theorem v_callE {ι : Type} {f : FuncId} {os : List Operand} {tt : Array TypeId} {vs cs : List Value} {R : ι → Value → Hp → World → Prop} (hx : ev n l x = some (.func (.func f) #[] cs.toArray)) (i : Nat) {r0 : Rs} {r1 : ι → Rs} (hL : L X H0 w0 S H w) (hf : Fn P f) (ha : evs n l os = some vs)
    (hs : sk S i = some r0) (hc : Ct P f (vs ++ cs) r0.foot H w fun v H' w' => ∃ x : ι, R x v H' w' ∧ (r1 x).holds w' ∧ ∀ b ∈ (r1 x).foot, H' b = none ∧ (b ∈ r0.foot ∨ w.heap.size ≤ b))
    (k : ∀ x v H' w', Hle H H' → L X H0 w0 ((i, r1 x) :: S) H' w' → R x v H' w' → K (fr n ((d, v) :: l) ds) w') :
    Oper.wp P ⟨some d, .call ⟨.value x, os.toArray, tt⟩, ty, pos, aft, g⟩ (fr n l ds) w K Q :=
  o_call (r_callv hx hf ha) hc fun _ w' ⟨v, H', he, hx, x, hR, hr, hb⟩ => ⟨v, he, k x v H' w' hx.le (hL.step r0.foot i (r1 x) (fun _ hb => ⟨r0, hs, hb⟩) hx hr hb) hR⟩

/-- A call is deferred. -/
theorem o_defer {f : FuncId} {os : List Operand} {tt : Array TypeId} {vs cs : List Value} (hx : ev n l x = some (.func (.func f) #[] cs.toArray)) (ha : evs n l os = some vs)
    (k : K (fr n l (⟨.fn (.func f) cs.toArray, vs.toArray⟩ :: ds)) w) : Oper.wp P ⟨none, .defer ⟨.value x, os.toArray, tt⟩, ty, pos, aft, g⟩ (fr n l ds) w K Q := by
  have h := evs_eval (ds := ds) ha
  have hx' := ev_eval (ds := ds) hx
  unfold Oper.wp
  simp only [execOp, resolve, Deferred.ofValue, hx', List.map_toArray, h, Sem.run_bind, Sem.run_pure, Result.andThen_ok, Array.empty_append]
  exact k
/-- .. of a function. -/
theorem o_deferF {f : FuncId} {os : List Operand} {tt : Array TypeId} {vs : List Value} (ha : evs n l os = some vs)
    (k : K (fr n l (⟨.fn (.func f) #[], vs.toArray⟩ :: ds)) w) : Oper.wp P ⟨none, .defer ⟨.value (.func f), os.toArray, tt⟩, ty, pos, aft, g⟩ (fr n l ds) w K Q := by
  have h := evs_eval (ds := ds) ha
  unfold Oper.wp
  simp only [execOp, resolve, Deferred.ofValue, Act.eval, List.map_toArray, h, Sem.run_bind, Sem.run_pure, Result.andThen_ok, Array.empty_append]
  exact k

theorem act_of {args : List Value} {l : List (Nat × Value)} {k : Nat} (hn : k = n) (hl : argl 0 args = l) (hle : args.length ≤ n) :
    ({ tmps := args.toArray ++ Array.replicate (k - args.toArray.size) undef, defers := [] } : Act) = fr n l [] := by
  subst hl hn
  simp only [fr, Act.mk.injEq, and_true]
  apply Array.ext
  · simp; omega
  · intro i h1 h2
    simp only [List.getElem_toArray, List.getElem_map, List.getElem_range]
    rw [lk_argl 0 args i]
    simp only [Nat.zero_le, true_and, Nat.sub_zero]
    by_cases hi : i < args.length
    · simp [hi]
    · simp [hi, Array.getElem_append]
/-- The beginning of a function that defers. -/
theorem ct_ofD {f : FuncId} {fn : Func} {c : Code} {args : List Value} {R : Value → Hp → World → Prop} {l : List (Nat × Value)} (hf : P.funcs[f]? = some fn) (hb : fn.body = some c) (hn : fn.ntmps = n) (hl : argl 0 args = l) (hle : args.length ≤ n)
    (h : c.wp P (bodyPostD P fn fun e w' => ∃ v H', e = .returned v ∧ Ext X H w H' w' ∧ R v H' w') (fr n l []) w) : Ct P f args X H w R := by
  refine calls_of_wp_defers hf hb ?_
  rw [act_of hn hl hle]; exact h
/-- The beginning of a function that is deferred. -/
theorem ctd_of {f : FuncId} {fn : Func} {c : Code} {args : List Value} {R : Value → Hp → World → Prop} {l : List (Nat × Value)} (hf : P.funcs[f]? = some fn) (hb : fn.body = some c) (hn : fn.ntmps = n) (hl : argl 0 args = l) (hle : args.length ≤ n)
    (h : c.wp P (bodyPost P fn fun e w' => ∃ v H', e = .returned v ∧ Ext X H w H' w' ∧ R v H' w') (fr n l []) w) : CtD P f args X H w R := by
  intro u
  refine callsD_of_wp hf hb ?_
  rw [act_of hn hl hle]; exact h
/-- The end of a function that defers: nothing is deferred (any more). -/
theorem rtL {fn : Func} {rs : List ResultVar} {vs : List Value} {R : Ending → World → Prop} (hr : fn.results = rs.toArray) (h : Res P w n l rs vs) (hR : R (.returned (packR vs)) w) : Leaves P fn (fr n l ds).tmps R [] .returning w :=
  ⟨_, run_results hr h, hR⟩
theorem rtD {fn : Func} {rs : List ResultVar} {vs : List Value} {R : Ending → World → Prop} (hr : fn.results = rs.toArray) (h : Res P w n l rs vs) (hR : R (.returned (packR vs)) w) : bodyPostD P fn R .ret (fr n l []) w :=
  ⟨_, run_results hr h, hR⟩
/-- One call is deferred; it is handed one thing that we own. -/
theorem d_call1 {fn : Func} {R : Ending → World → Prop} {f : FuncId} {vs cs : List Value} {R1 : Value → Hp → World → Prop} (i : Nat) {r0 r1 : Rs} (hL : L X H0 w0 S H w) (hf : Fn P f)
    (hs : sk S i = some r0) (hc : CtD P f (vs ++ cs) r0.foot H w fun v H' w' => R1 v H' w' ∧ r1.holds w' ∧ ∀ b ∈ r1.foot, H' b = none ∧ (b ∈ r0.foot ∨ w.heap.size ≤ b))
    (k : ∀ v H' w', Hle H H' → L X H0 w0 ((i, r1) :: S) H' w' → R1 v H' w' → Leaves P fn (fr n l []).tmps R [] .returning w') :
    bodyPostD P fn R .ret (fr n l [⟨.fn (.func f) cs.toArray, vs.toArray⟩]) w := by
  refine leaves_cons (f := f) (args := (vs ++ cs).toArray) (by simp) ?_ ?_
  · have := hf (vs ++ cs).toArray w
    simpa [invoke] using this
  · refine (hc .returning).mono fun e u' w' ⟨hu, v, H', he, hx, hR, hr, hb⟩ => ?_
    subst he hu
    exact k v H' w' hx.le (hL.step r0.foot i r1 (fun _ hb => ⟨r0, hs, hb⟩) hx hr hb) hR

/-! ### arrays -/
theorem run_index_agg {t e len : Nat} {vs : List Value} {kd : IntKind} {i : Int} {v : Value} (hu : P.underlying t = some (.array len e)) (hs : Sc P e) (hi : decide (0 ≤ i ∧ i < (len : Int)) = true) (hv : vs[i.toNat]? = some v) :
    (Instr.index t (.agg vs.toArray) (.int kd i)).run P w = .ok v w := by
  obtain ⟨dd, ii, h1, h2, h3, h4⟩ := hs.out
  have hi' := of_decide_eq_true hi
  have h5 : (underlying t).run P w = .ok (.array len e) w := run_underlying hu w
  simp only [Instr.index, asIntOf, Sem.run_bind, Sem.run_pure, Result.andThen_ok, h5, hi', and_self, if_true, run_sizeOf h3, h4, Nat.mul_one, part, run_isAgg h1, h2, Bool.false_eq_true, if_false]
  simp [hv]
theorem r_indexAs {t e len : Nat} {kd : IntKind} {i : Int} (ss : List Bs) (hu : P.underlying t = some (.array len e)) (hs : Sc P e) (hl : ss.length = len) (hi : decide (0 ≤ i ∧ i < (len : Int)) = true)
    (hx : ev n l x = some (.agg (List.toArray (ss.map fun s => .string (mk s))))) (hy : ev n l y = some (.int kd i)) :
    (execOp (fr n l ds).eval ⟨some d, .index t x y, ty, pos, aft, g⟩).run P w = .ok (.value (.string (mk (ss.getD i.toNat [])))) w := by
  have hi' := of_decide_eq_true hi
  have hlt : i.toNat < ss.length := by omega
  have h := run_index_agg (P := P) (w := w) (kd := kd) (vs := ss.map fun s => .string (mk s)) hu hs hi (by rw [List.getElem?_map, List.getElem?_eq_getElem hlt]; rfl)
  simp only [execOp, ev_eval hx, ev_eval hy, Sem.run_bind, h, Result.andThen_ok, Sem.run_pure]
  simp [hlt]
theorem r_indexAb {t e len : Nat} {kd : IntKind} {i : Int} (ss : List Bool) (hu : P.underlying t = some (.array len e)) (hs : Sc P e) (hl : ss.length = len) (hi : decide (0 ≤ i ∧ i < (len : Int)) = true)
    (hx : ev n l x = some (.agg (List.toArray (ss.map fun s => .bool s)))) (hy : ev n l y = some (.int kd i)) :
    (execOp (fr n l ds).eval ⟨some d, .index t x y, ty, pos, aft, g⟩).run P w = .ok (.value (.bool (ss.getD i.toNat false))) w := by
  have hi' := of_decide_eq_true hi
  have hlt : i.toNat < ss.length := by omega
  have h := run_index_agg (P := P) (w := w) (kd := kd) (vs := ss.map fun s => .bool s) hu hs hi (by rw [List.getElem?_map, List.getElem?_eq_getElem hlt]; rfl)
  simp only [execOp, ev_eval hx, ev_eval hy, Sem.run_bind, h, Result.andThen_ok, Sem.run_pure]
  simp [hlt]

/-! ### conversions -/
theorem r_convI {t t' : TypeId} {dd : TypeDesc} {k k' : IntKind} {a : Int} (hu : P.underlying t = some dd) (hu' : P.underlying t' = some (.int k')) (hx : ev n l x = some (.int k a)) :
    (execOp (fr n l ds).eval ⟨some d, .convert t t' x, ty, pos, aft, g⟩).run P w = .ok (.value (.int k' (k'.wrap a))) w := by
  have h1 : (underlying t).run P w = .ok dd w := run_underlying hu w
  have h2 : (underlying t').run P w = .ok (.int k') w := run_underlying hu' w
  simp only [execOp, ev_eval hx, convert, Sem.run_bind, h1, h2, Result.andThen_ok, Conv.intToInt, Sem.run_pure]
theorem r_quo {t t' : TypeId} {kd : IntKind} {a b : Int} (hb : (b != 0) = true) (hx : ev n l x = some (.int kd a)) (hy : ev n l y = some (.int kd b)) :
    (execOp (fr n l ds).eval ⟨some d, .binOp .quo t x y t', ty, pos, aft, g⟩).run P w = .ok (.value (.int kd (kd.wrap (a.tdiv b)))) w := by
  have hb' : ¬ b = 0 := by simpa using hb
  simp [execOp, ev_eval hx, ev_eval hy, eqGuard, binOp, Op.intDiv, hb']
theorem r_rem {t t' : TypeId} {kd : IntKind} {a b : Int} (hb : (b != 0) = true) (hx : ev n l x = some (.int kd a)) (hy : ev n l y = some (.int kd b)) :
    (execOp (fr n l ds).eval ⟨some d, .binOp .rem t x y t', ty, pos, aft, g⟩).run P w = .ok (.value (.int kd (a.tmod b))) w := by
  have hb' : ¬ b = 0 := by simpa using hb
  simp [execOp, ev_eval hx, ev_eval hy, eqGuard, binOp, Op.intDiv, hb']
/-- Bits of two whole numbers. -/
def ibits (op : BinOp) (k : IntKind) (a b : Int) : Int := match op with
  | .and => k.wrap (BitVec.ofInt k.bits a &&& BitVec.ofInt k.bits b).toNat
  | .or => k.wrap (BitVec.ofInt k.bits a ||| BitVec.ofInt k.bits b).toNat
  | .xor => k.wrap (BitVec.ofInt k.bits a ^^^ BitVec.ofInt k.bits b).toNat
  | _ => 0
theorem r_and {t t' : TypeId} {kd : IntKind} {a b : Int} (hx : ev n l x = some (.int kd a)) (hy : ev n l y = some (.int kd b)) :
    (execOp (fr n l ds).eval ⟨some d, .binOp .and t x y t', ty, pos, aft, g⟩).run P w = .ok (.value (.int kd (ibits .and kd a b))) w := by
  simp [execOp, ev_eval hx, ev_eval hy, eqGuard, binOp, Op.intBits, ibits]
theorem r_or {t t' : TypeId} {kd : IntKind} {a b : Int} (hx : ev n l x = some (.int kd a)) (hy : ev n l y = some (.int kd b)) :
    (execOp (fr n l ds).eval ⟨some d, .binOp .or t x y t', ty, pos, aft, g⟩).run P w = .ok (.value (.int kd (ibits .or kd a b))) w := by
  simp [execOp, ev_eval hx, ev_eval hy, eqGuard, binOp, Op.intBits, ibits]
theorem r_xor {t t' : TypeId} {kd : IntKind} {a b : Int} (hx : ev n l x = some (.int kd a)) (hy : ev n l y = some (.int kd b)) :
    (execOp (fr n l ds).eval ⟨some d, .binOp .xor t x y t', ty, pos, aft, g⟩).run P w = .ok (.value (.int kd (ibits .xor kd a b))) w := by
  simp [execOp, ev_eval hx, ev_eval hy, eqGuard, binOp, Op.intBits, ibits]
theorem r_shl {t t' : TypeId} {kd k2 : IntKind} {a b : Int} (hb : decide (0 ≤ b) = true) (hx : ev n l x = some (.int kd a)) (hy : ev n l y = some (.int k2 b)) :
    (execOp (fr n l ds).eval ⟨some d, .binOp .shl t x y t', ty, pos, aft, g⟩).run P w = .ok (.value (.int kd (kd.wrap (a * 2 ^ (min b.toNat kd.bits))))) w := by
  have hb' : ¬ b < 0 := by have := of_decide_eq_true hb; omega
  simp [execOp, ev_eval hx, ev_eval hy, eqGuard, binOp, Op.shift, hb']
theorem r_shr {t t' : TypeId} {kd k2 : IntKind} {a b : Int} (hb : decide (0 ≤ b) = true) (hx : ev n l x = some (.int kd a)) (hy : ev n l y = some (.int k2 b)) :
    (execOp (fr n l ds).eval ⟨some d, .binOp .shr t x y t', ty, pos, aft, g⟩).run P w = .ok (.value (.int kd (a.fdiv (2 ^ (min b.toNat kd.bits))))) w := by
  have hb' : ¬ b < 0 := by have := of_decide_eq_true hb; omega
  simp [execOp, ev_eval hx, ev_eval hy, eqGuard, binOp, Op.shift, hb']
/-- Bytes of one's own, as a string. -/
theorem r_convRow {t t' e : TypeId} {m c : Nat} {a : Option Addr} {cs : List Value} {s : Bs} (hb : Rs.holds w (.row (.slice a m c) e 1 m cs)) (hc : LC cB8 H cs s) (hm : m = s.length) (hs : P.underlying t = some (.slice e)) (he : P.underlying e = some (.int .u8)) (hd : P.underlying t' = some .string)
    (hx : ev n l x = some (.slice a m c)) :
    (execOp (fr n l ds).eval ⟨some d, .convert t t' x, ty, pos, aft, g⟩).run P w = .ok (.value (.string (mk s))) w := by
  subst hm
  have key : (convert t t' (.slice a s.length c)).run P w = .ok (.string (mk s)) w := by
    cases a with
    | none =>
      obtain ⟨a', c', h1, h2, h3, h4⟩ := row_form hb
      cases h1
      have hs0 : s = [] := List.length_eq_zero_iff.1 (h3 rfl).1
      subst hs0
      have h1 : (underlying t).run P w = .ok (.slice e) w := run_underlying hs w
      have h2 : (underlying t').run P w = .ok .string w := run_underlying hd w
      have h3 : (underlying e).run P w = .ok (.int .u8) w := run_underlying he w
      simp only [convert, Sem.run_bind, h1, h2, h3, Result.andThen_ok, Conv.bytesToString, Sem.run_pure]
      rfl
    | some ad =>
      obtain ⟨a', c', h1, h2, h3, h4⟩ := row_form hb
      cases h1
      obtain ⟨gb, rfl⟩ := h4 ad rfl
      refine run_convert_bytes_back w t t' e ⟨gb, 0, none⟩ c s hs he hd fun j hj => ?_
      obtain ⟨us, hu, hg⟩ := hc.get j s[j] (List.getElem?_eq_getElem hj)
      have hu' : us = [.int .u8 (s[j].toNat : Int)] := hu
      subst hu'
      have := row_cell hb (hg 0 _ rfl)
      rw [add_off, Nat.zero_add]
      simpa [show cB8.k = 1 from rfl] using this
  simp only [execOp, ev_eval hx, Sem.run_bind, key, Result.andThen_ok, Sem.run_pure]
/-- A slice of an array of one's own. -/
theorem r_sliceArr {t e len k b : Nat} (hu : P.underlying t = some (.array len e)) (hi : ∃ i, P.info? e = some i ∧ i.size = k) (hx : ev n l x = some (.pointer (some ⟨b, 0, none⟩))) :
    (execOp (fr n l ds).eval ⟨some d, .slice t x none none none, ty, pos, aft, g⟩).run P w = .ok (.value (.slice (some ⟨b, 0, none⟩) len len)) w := by
  obtain ⟨i, hi1, hi2⟩ := hi
  have h1 : (underlying t).run P w = .ok (.array len e) w := run_underlying hu w
  simp only [execOp, ev_eval hx, Option.map_none, Instr.sliceAt, Sem.run_bind, h1, Result.andThen_ok, Instr.sureAddr, Sem.run_pure, Instr.sliceBounds, Option.isSome_none, Bool.false_eq_true, if_false, run_sizeOf hi1]
  by_cases h0 : len = 0
  · simp [h0]
  · simp [h0, add_off]
theorem Sl.ofHC {α : Type} {C : Cr α} {H : Hp} {b : Nat} {cs : List Value} {xs : List α} {c : Nat} (h : HC H b 0 cs) (hc : LC C H cs xs) (hl : xs.length ≤ c) : Sl C H (some ⟨b, 0, none⟩) c xs := by
  refine ⟨hl, .inr ⟨b, 0, rfl, fun i x hi => ?_⟩⟩
  obtain ⟨us, hu, hg⟩ := hc.get i x hi
  obtain ⟨cc, T, fz, h1, h2⟩ := h
  exact ⟨us, ⟨cc, T, fz, h1, fun j v hj => by rw [Nat.zero_add]; have := h2 _ v (hg j v hj); rwa [Nat.zero_add] at this⟩, hu⟩
theorem Sc.inf {t : TypeId} (h : Sc P t) : ∃ i, P.info? t = some i ∧ i.size = 1 := by
  obtain ⟨_, i, _, _, h3, h4⟩ := h.out
  exact ⟨i, h3, h4⟩
/-- A cut: where a code's several ways meet again. -/
theorem w_join {c rest : Code} {a : Act} (I : Act → World → Prop) (k : ∀ a w, I a w → rest.wp P Q a w) (h : c.wp P (Exit.then I Q) a w) : (Code.seq c rest).wp P Q a w := by
  refine wp_seq (wp_mono h fun e a' w' he => ?_)
  cases e with
  | normal => exact k a' w' he
  | _ => exact he
theorem r_convF {t t' : TypeId} {dd : TypeDesc} {k : IntKind} {a : Int} (hu : P.underlying t = some dd) (hu' : P.underlying t' = some (.float .f64)) (hx : ev n l x = some (.int k a)) :
    (execOp (fr n l ds).eval ⟨some d, .convert t t' x, ty, pos, aft, g⟩).run P w = .ok (.value (.float .f64 (fb a))) w := by
  have h1 : (underlying t).run P w = .ok dd w := run_underlying hu w
  have h2 : (underlying t').run P w = .ok (.float .f64) w := run_underlying hu' w
  simp only [execOp, ev_eval hx, convert, Sem.run_bind, h1, h2, Result.andThen_ok, Conv.intToFloat, Sem.run_pure]
  rfl
theorem r_complex {tt : Array TypeId} {a b : Nat} (hx : ev n l x = some (.float .f64 a)) (hy : ev n l y = some (.float .f64 b)) :
    (execOp (fr n l ds).eval ⟨some d, .call ⟨.builtin .complex, #[x, y], tt⟩, ty, pos, aft, g⟩).run P w = .ok (.value (.complex .f64 a b)) w := by
  have key : ∀ (T : Array TypeId) (u : TypeId), (Builtin.complex_ T u #[.float .f64 a, .float .f64 b]).run P w = .ok (.complex .f64 a b) w := fun _ _ => rfl
  simp only [execOp, resolve, invoke, builtin, ev_eval hx, ev_eval hy, List.map_toArray, List.map_cons, List.map_nil, Sem.run_bind, Sem.run_pure, Result.andThen_ok, key]
theorem r_real {tt : Array TypeId} {a b : Nat} (hx : ev n l x = some (.complex .f64 a b)) :
    (execOp (fr n l ds).eval ⟨some d, .call ⟨.builtin .real, #[x], tt⟩, ty, pos, aft, g⟩).run P w = .ok (.value (.float .f64 a)) w := by
  have key : ∀ (T : Array TypeId) (u : TypeId), (Builtin.real_ T u #[.complex .f64 a b]).run P w = .ok (.float .f64 a) w := fun _ _ => rfl
  simp only [execOp, resolve, invoke, builtin, ev_eval hx, List.map_toArray, List.map_cons, List.map_nil, Sem.run_bind, Sem.run_pure, Result.andThen_ok, key]
theorem r_imag {tt : Array TypeId} {a b : Nat} (hx : ev n l x = some (.complex .f64 a b)) :
    (execOp (fr n l ds).eval ⟨some d, .call ⟨.builtin .imag, #[x], tt⟩, ty, pos, aft, g⟩).run P w = .ok (.value (.float .f64 b)) w := by
  have key : ∀ (T : Array TypeId) (u : TypeId), (Builtin.imag_ T u #[.complex .f64 a b]).run P w = .ok (.float .f64 b) w := fun _ _ => rfl
  simp only [execOp, resolve, invoke, builtin, ev_eval hx, List.map_toArray, List.map_cons, List.map_nil, Sem.run_bind, Sem.run_pure, Result.andThen_ok, key]
/-- Settled bytes, as a string. -/
theorem r_convSl {t t' e : TypeId} {c : Nat} {a : Option Addr} {s : Bs} (hI : Imm H w) (hs' : Sl cB8 H a c s) (hs : P.underlying t = some (.slice e)) (he : P.underlying e = some (.int .u8)) (hd : P.underlying t' = some .string)
    (hx : ev n l x = some (.slice a s.length c)) :
    (execOp (fr n l ds).eval ⟨some d, .convert t t' x, ty, pos, aft, g⟩).run P w = .ok (.value (.string (mk s))) w := by
  have key : (convert t t' (.slice a s.length c)).run P w = .ok (.string (mk s)) w := by
    rcases hs'.2 with rfl | ⟨b, o, rfl, hc⟩
    · cases a with
      | none =>
        have h1 : (underlying t).run P w = .ok (.slice e) w := run_underlying hs w
        have h2 : (underlying t').run P w = .ok .string w := run_underlying hd w
        have h3 : (underlying e).run P w = .ok (.int .u8) w := run_underlying he w
        simp only [convert, Sem.run_bind, h1, h2, h3, Result.andThen_ok, Conv.bytesToString, Sem.run_pure]
        rfl
      | some ad => exact run_convert_bytes_back w t t' e ad c [] hs he hd fun j hj => absurd hj (by simp)
    · refine run_convert_bytes_back w t t' e ⟨b, o, none⟩ c s hs he hd fun j hj => ?_
      obtain ⟨us, h1, hu⟩ := hc j s[j] (List.getElem?_eq_getElem hj)
      have hu' : us = [.int .u8 (s[j].toNat : Int)] := hu
      subst hu'
      have := h1.cell hI 0 _ rfl
      rw [add_off]
      simpa [show cB8.k = 1 from rfl] using this
  simp only [execOp, ev_eval hx, Sem.run_bind, key, Result.andThen_ok, Sem.run_pure]
theorem r_gts {t t' : TypeId} {a b : Bs} (hx : ev n l x = some (.string (mk a))) (hy : ev n l y = some (.string (mk b))) :
    (execOp (fr n l ds).eval ⟨some d, .binOp .gtr t x y t', ty, pos, aft, g⟩).run P w = .ok (.value (.bool (!Op.bytesLess a b && !a == b))) w := by
  simp [execOp, ev_eval hx, ev_eval hy, eqGuard_at_string, binOp, Op.stringOp]
theorem sl_len {α : Type} (a : Option Addr) (c : Nat) (xs : List α) (i : Nat) (y : α) : Value.slice a xs.length c = Value.slice a (xs.set i y).length c := by rw [List.length_set]
theorem sl_len2 {α : Type} (a : Option Addr) (c : Nat) {xs ys : List α} (h : xs.length = ys.length) : Value.slice a ys.length c = Value.slice a xs.length c := by rw [h]
/-- Two steps in one. -/
theorem wt {ops : Array Oper} {next : Act → World → Prop} {a : Act} (h : next a w) : WL P ops (Exit.then next Q) [] a w := wn (then_n h)
theorem sr {ops : List Oper} {id : Nat} {rest : Code} {a : Act} (h : WL P ops.toArray (Exit.then (fun a w => rest.wp P Q a w) Q) ops a w) : (Code.seq (Code.region id ops.toArray false) rest).wp P Q a w := wp_seq (rg h)
end
end Go.Proofs.YtcjphpenelnohaaGreatDoor
/- Values compared: '==' between two interface values. -/
namespace Go.Proofs.YtcjphpenelnohaaGreatDoor
open Go.RowKit
def isPt : J → Bool
  | .point _ _ => true
  | _ => false
/-- '==' between values that are no lists and no maps. -/
def eqJ : J → J → Bool
  | .null, .null => true
  | .later, .later => true
  | .bool a, .bool b => a == b
  | .int a, .int b => a == b
  | .point a b, .point c d => a == c && b == d
  | .text a, .text b => a == b
  | _, _ => false
theorem mk_beq (a b : Bs) : (mk a == mk b) = (a == b) := by
  have h1 : ∀ x y : ByteArray, (x == y) = (x.data == y.data) := fun x y => rfl
  rw [h1]; show ((⟨a⟩ : Array UInt8) == ⟨b⟩) = (a == b); simp
section
variable {n : Nat} {l : List (Nat × Value)} {ds : List Deferred} {w : World} {d : Nat} {i j : Nat} {ty : TypeId} {pos : String} {aft : Array Edge} {v u : Value} {g : Option (Nat × Bool)} {H : Hp} {a b : J}
set_option maxRecDepth 100000 in
theorem run_eqJ (h1 : VR H v a) (h2 : VR H u b) (ha : a.isList = false) (ha' : a.isTab = false) (hb : b.isList = false) (hb' : b.isTab = false) (hp : (!(isPt a && isPt b)) = true) :
    (do eqGuard .eql 20 (.tmp i) (.tmp j) v u; binOp .eql 20 v u : Sem Value).run Tryz.prog w = .ok (.bool (eqJ a b)) w := by
  cases h1 with
  | null => cases h2 <;> first | (simp [J.isList, J.isTab] at *; done) | kernel_rfl
  | later => cases h2 <;> first | (simp [J.isList, J.isTab] at *; done) | kernel_rfl
  | bool => cases h2 <;> first | (simp [J.isList, J.isTab] at *; done) | kernel_rfl
  | int => cases h2 <;> first | (simp [J.isList, J.isTab] at *; done) | kernel_rfl
  | text =>
    cases h2 with
    | text => simp only [eqJ, ← mk_beq]; kernel_rfl
    | list => simp [J.isList] at hb
    | table => simp [J.isTab] at hb'
    | _ => kernel_rfl
  | @point a1 b1 k1 k2 =>
    cases h2 with
    | point => simp [isPt] at hp
    | list => simp [J.isList] at hb
    | table => simp [J.isTab] at hb'
    | _ => kernel_rfl
  | list => simp [J.isList] at ha
  | table => simp [J.isTab] at ha'
theorem r_eqJ (h1 : VR H v a) (h2 : VR H u b) (ha : a.isList = false) (ha' : a.isTab = false) (hb : b.isList = false) (hb' : b.isTab = false) (hp : (!(isPt a && isPt b)) = true) (hx : ev n l (.tmp i) = some v) (hy : ev n l (.tmp j) = some u) {t' : TypeId} :
    (execOp (fr n l ds).eval ⟨some d, .binOp .eql 20 (.tmp i) (.tmp j) t', ty, pos, aft, g⟩).run Tryz.prog w = .ok (.value (.bool (eqJ a b))) w := by
  have e := run_eqJ (i := i) (j := j) (w := w) h1 h2 ha ha' hb hb' hp
  simp only [execOp, ev_eval hx, ev_eval hy]
  simp only [Sem.run_bind] at e ⊢
  rw [e]; rfl
end
end Go.Proofs.YtcjphpenelnohaaGreatDoor
/-
  DERIVED: THE SHELF's CONTRACTS AT THIS DUMP, IN PLAIN WORDS (tools/lay-plain.mjs out of 'TryzShelfD.lean', which tools/lay-shelf.mjs wrote): THE SAME DECLARATIONS UNDER THE SAME NAMES: 'import', 'namespace', 'open', 'def', 'theorem' AND NOTHING ELSE: no command of the shelf's: FOR A HAND-IN. Each laying: the table of numbers ('.._ren') and one theorem, a field a fact of the dump's own or the kernel's comparison; each contract: ONE APPLICATION.
-/
namespace Go.Proofs
open Go.Shelf
def Tryz.lays156_ren : Go.Shelf.Ren := ⟨fun | 156 => 195 | 165 => 285 | 166 => 120 | 169 => 123 | 240 => 193 | 241 => 372 | 276 => 283 | 277 => 412 | n => n, fun | 31 => 30 | 9 => 9 | 3 => 3 | 4 => 4 | 0 => 0 | 20 => 20 | 72 => 201 | 76 => 204 | 70 => 199 | 37 => 87 | 75 => 203 | 127 => 297 | 164 => 370 | 5 => 5 | 80 => 208 | n => n, fun | n => n⟩
theorem Tryz.lays156 : Go.Proofs.Lays.n156 Tryz.prog Tryz.lays156_ren := {
  mixed := by kernel_rfl
  f156 := Tryz.func195.trans (congrArg some (by kernel_rfl))
  f165 := Tryz.func285.trans (congrArg some (by kernel_rfl))
  f166 := Tryz.func120.trans (congrArg some (by kernel_rfl))
  f169 := Tryz.func123.trans (congrArg some (by kernel_rfl))
  f240 := Tryz.func193.trans (congrArg some (by kernel_rfl))
  f241 := Tryz.func372.trans (congrArg some (by kernel_rfl))
  f276 := Tryz.func283.trans (congrArg some (by kernel_rfl))
  f277 := Tryz.func412.trans (congrArg some (by kernel_rfl))
  t0 := Tryz.underlying0
  a0 := Tryz.isAgg0
  z0 := Tryz.sizeOf0
  v0 := Tryz.zeroValue0
  t3 := Tryz.underlying3
  a3 := Tryz.isAgg3
  z3 := Tryz.sizeOf3
  v3 := Tryz.zeroValue3
  t4 := Tryz.underlying4
  a4 := Tryz.isAgg4
  z4 := Tryz.sizeOf4
  v4 := Tryz.zeroValue4
  t9 := Tryz.underlying9
  a9 := Tryz.isAgg9
  z9 := Tryz.sizeOf9
  v9 := Tryz.zeroValue9
  t20 := Tryz.underlying20
  a20 := Tryz.isAgg20
  z20 := Tryz.sizeOf20
  v20 := Tryz.zeroValue20
  t31 := Tryz.underlying30
  a31 := Tryz.isAgg30
  z31 := Tryz.sizeOf30
  v31 := Tryz.zeroValue30
  t37 := Tryz.underlying87
  a37 := Tryz.isAgg87
  z37 := Tryz.sizeOf87
  v37 := Tryz.zeroValue87
  t70 := Tryz.underlying199
  a70 := Tryz.isAgg199
  z70 := Tryz.sizeOf199
  v70 := Tryz.zeroValue199
  t72 := Tryz.underlying201
  a72 := Tryz.isAgg201
  z72 := Tryz.sizeOf201
  v72 := Tryz.zeroValue201
  t75 := Tryz.underlying203
  a75 := Tryz.isAgg203
  z75 := Tryz.sizeOf203
  v75 := Tryz.zeroValue203
  t76 := Tryz.underlying204
  a76 := Tryz.isAgg204
  z76 := Tryz.sizeOf204
  v76 := Tryz.zeroValue204
  t127 := Tryz.underlying297
  a127 := Tryz.isAgg297
  z127 := Tryz.sizeOf297
  v127 := Tryz.zeroValue297
  t164 := Tryz.underlying370
  a164 := Tryz.isAgg370
  z164 := Tryz.sizeOf370
  v164 := Tryz.zeroValue370 }
theorem Tryz.Builder_Extra_156 : Builder.Extra Tryz.prog Tryz.lays156_ren := {
  sizeBuilder := by kernel_rfl
  liesBuilder := by kernel_rfl
  t5 := Tryz.underlying5
  a5 := Tryz.isAgg5
  z5 := Tryz.sizeOf5
  v5 := Tryz.zeroValue5
  infoByte := by kernel_rfl
  cellsByte := by kernel_rfl
  sizeByte := by kernel_rfl
  neB5 := by decide }
open Go.RowKit in
/-- No element: the empty string; the world is as it was. (Whatever the slice's address and capacity: a nil slice too.) (LAID: no walk: one application.) -/
theorem Tryz.strings_Join_none (a : Option Addr) (c : Nat) (sep : ByteArray) (w : World) :
    Calls Tryz.prog 195 #[.slice a 0 c, .string sep] w fun e w' => e = .returned (.string ⟨#[]⟩) ∧ w' = w := Any.strings_Join_none Tryz.lays156 Tryz.Builder_Extra_156 a c sep w
open Go.RowKit in
/-- strings.Join: "Join concatenates the elements of its first argument to create a single string. The separator string sep is placed between elements in the resulting string.": HOWEVER MANY ELEMENTS. Below the heap's end the world is as it was. (LAID: no walk: one application.) -/
theorem Tryz.strings_Join (bk o c : Nat) (xs : List ByteArray) (sep : ByteArray) (w : World) (hcells : ∀ (j : Nat) x, xs[j]? = some x → w.cell? ⟨bk, o + j, none⟩ = some (.string x)) (hbk : bk < w.heap.size) (hN : xs.length ≤ 140737488355328) (hcap : xs.length ≤ c) (hlen : (Lib.join (xs.map (·.data.toList)) sep.data.toList).length ≤ 140737488355328) :
    Calls Tryz.prog 195 #[.slice (some ⟨bk, o, none⟩) xs.length c, .string sep] w fun e w' => e = .returned (.string ⟨(Lib.join (xs.map (·.data.toList)) sep.data.toList).toArray⟩) ∧ Below w.heap.size w w' := Any.strings_Join Tryz.lays156 Tryz.Builder_Extra_156 bk o c xs sep w hcells hbk hN hcap hlen
def Tryz.lays125_ren : Go.Shelf.Ren := ⟨fun | 125 => 274 | 128 => 354 | 129 => 355 | n => n, fun | 46 => 309 | 3 => 3 | 51 => 429 | 53 => 128 | 4 => 4 | 5 => 5 | 9 => 9 | n => n, fun | n => n⟩
theorem Tryz.lays125 : Go.Proofs.Lays.n125 Tryz.prog Tryz.lays125_ren := {
  mixed := by kernel_rfl
  f125 := Tryz.func274.trans (congrArg some (by kernel_rfl))
  f128 := Tryz.func354.trans (congrArg some (by kernel_rfl))
  f129 := Tryz.func355.trans (congrArg some (by kernel_rfl))
  t3 := Tryz.underlying3
  a3 := Tryz.isAgg3
  z3 := Tryz.sizeOf3
  v3 := Tryz.zeroValue3
  t4 := Tryz.underlying4
  a4 := Tryz.isAgg4
  z4 := Tryz.sizeOf4
  v4 := Tryz.zeroValue4
  t5 := Tryz.underlying5
  a5 := Tryz.isAgg5
  z5 := Tryz.sizeOf5
  v5 := Tryz.zeroValue5
  t9 := Tryz.underlying9
  a9 := Tryz.isAgg9
  z9 := Tryz.sizeOf9
  v9 := Tryz.zeroValue9
  t46 := Tryz.underlying309
  a46 := Tryz.isAgg309
  z46 := Tryz.sizeOf309
  v46 := Tryz.zeroValue309
  t51 := Tryz.underlying429
  a51 := Tryz.isAgg429
  z51 := Tryz.sizeOf429
  v51 := Tryz.zeroValue429
  t53 := Tryz.underlying128
  a53 := Tryz.isAgg128
  z53 := Tryz.sizeOf128
  v53 := Tryz.zeroValue128 }
/-- bits.Len: "Len returns the minimum number of bits required to represent x; the result is 0 for x == 0.": IT RETURNS 'Lib.bitLen x'; the world is as it was. (A uint has 64 bits in the model.) ITS CALLEE bits.Len64 IS MET BY ITS OWN CONTRACT OFF THE SHELF (lay that first). (LAID: no walk: one application.) -/
theorem Tryz.bits_Len (x : Int) (w : World) (h0 : 0 ≤ x) (h1 : x ≤ 18446744073709551615) :
    Calls Tryz.prog 274 #[.int .u64 x] w fun e w' => e = .returned (.int .i64 (Lib.bitLen x.toNat)) ∧ w' = w := Any.bits_Len Tryz.lays125 x w h0 h1
def Tryz.lays121_ren : Go.Shelf.Ren := ⟨fun | 121 => 138 | 214 => 205 | n => n, fun | 4 => 4 | 9 => 9 | n => n, fun | n => n⟩
theorem Tryz.lays121 : Go.Proofs.Lays.n121 Tryz.prog Tryz.lays121_ren := {
  mixed := by kernel_rfl
  f121 := Tryz.func138.trans (congrArg some (by kernel_rfl))
  f214 := Tryz.func205.trans (congrArg some (by kernel_rfl))
  t4 := Tryz.underlying4
  a4 := Tryz.isAgg4
  z4 := Tryz.sizeOf4
  v4 := Tryz.zeroValue4
  t9 := Tryz.underlying9
  a9 := Tryz.isAgg9
  z9 := Tryz.sizeOf9
  v9 := Tryz.zeroValue9 }
open Go.RowKit in
/-- strconv.FormatBool: "FormatBool returns "true" or "false" according to the value of b.": IT RETURNS 'Lib.formatBool b'; the world is as it was. (LAID: no walk: one application.) -/
theorem Tryz.strconv_FormatBool (b : Bool) (w : World) :
    Calls Tryz.prog 138 #[.bool b] w fun e w' => e = .returned (.string ⟨(Lib.formatBool b).toArray⟩) ∧ w' = w := Any.strconv_FormatBool Tryz.lays121 b w
end Go.Proofs
/- Go's library: more of the shelf's contracts, as contracts of the engine. -/
namespace Go.Proofs.YtcjphpenelnohaaGreatDoor
open Go.RowKit
/-- strings.Join -/
def m195 (l : List Bs) (sep : Bs) : Option Bs := bif decide (l.length ≤ LIM) && decide ((Lib.join l sep).length ≤ LIM) then some (Lib.join l sep) else none
/-- strconv.FormatBool -/
def m138 (b : Bool) : Option Bs := some (Lib.formatBool b)
/-- bits.Len -/
def m274 (x : Int) : Option Int := bif decide (0 ≤ x ∧ x ≤ 18446744073709551615) then some (Lib.bitLen x.toNat) else none
theorem c138 : ∀ {H0 : Hp} {w0 : World} {b : Bool} (_ : Imm H0 w0) {r : Bs} (_ : m138 b = some r), Ct Tryz.prog 138 [.bool b] [] H0 w0 fun v H' w' => v = .string (mk r) := by
  intro H0 w0 b hI r hm
  obtain rfl := ends hm
  refine (Tryz.strconv_FormatBool b w0).mono fun e w' ⟨he, hw⟩ => ?_
  subst hw
  exact ⟨_, H0, he, Ext.refl hI, rfl⟩
theorem c274 : ∀ {H0 : Hp} {w0 : World} {x : Int} (_ : Imm H0 w0) {r : Int} (_ : m274 x = some r), Ct Tryz.prog 274 [.int .u64 x] [] H0 w0 fun v H' w' => v = .int .i64 r := by
  intro H0 w0 x hI r hm
  obtain ⟨hg, hm⟩ := grd hm
  obtain rfl := ends hm
  have hg' := of_decide_eq_true hg
  refine (Tryz.bits_Len x w0 hg'.1 hg'.2).mono fun e w' ⟨he, hw⟩ => ?_
  subst hw
  exact ⟨_, H0, he, Ext.refl hI, rfl⟩
theorem c195 : ∀ {H0 : Hp} {w0 : World} {l : List Bs} {sep : Bs} {a : Option Addr} {c : Nat} (_ : Imm H0 w0) (_ : Sl cStr H0 a c l) {r : Bs} (_ : m195 l sep = some r), Ct Tryz.prog 195 [.slice a (List.length l) c, .string (mk sep)] [] H0 w0 fun v H' w' => v = .string (mk r) := by
  intro H0 w0 l sep a c hI hs r hm
  obtain ⟨hg, hm⟩ := grd hm
  obtain rfl := ends hm
  simp only [Bool.and_eq_true, decide_eq_true_eq] at hg
  unfold LIM at hg
  obtain ⟨hc, hs⟩ := hs
  have hmap : (l.map mk).map (fun x : ByteArray => x.data.toList) = l := by
    rw [List.map_map]; exact List.map_id'' (fun x => rfl) l
  rcases hs with rfl | ⟨b, o, rfl, hx⟩
  · refine (Tryz.strings_Join_none a c (mk sep) w0).mono fun e w' ⟨he, hw⟩ => ?_
    subst hw
    exact ⟨_, H0, he, Ext.refl hI, rfl⟩
  · cases l with
    | nil =>
      refine (Tryz.strings_Join_none _ c (mk sep) w0).mono fun e w' ⟨he, hw⟩ => ?_
      subst hw
      exact ⟨_, H0, he, Ext.refl hI, rfl⟩
    | cons s l' =>
      have hcells : ∀ (j : Nat) x, ((s :: l').map mk)[j]? = some x → w0.cell? ⟨b, o + j, none⟩ = some (.string x) := by
        intro j x hj
        rw [List.getElem?_map] at hj
        cases e : (s :: l')[j]? with
        | none => rw [e] at hj; cases hj
        | some y =>
          rw [e] at hj
          cases hj
          obtain ⟨cs, h1, h2⟩ := hx j y e
          have h2' : cs = [.string (mk y)] := h2
          subst h2'
          have := h1.cell hI 0 _ rfl
          simpa [show cStr.k = 1 from rfl] using this
      have hlt : b < w0.heap.size := by
        obtain ⟨cs, ⟨cc, T, fz, h1, _⟩, _⟩ := hx 0 s rfl
        exact hI.lt h1
      have h := Tryz.strings_Join b o c ((s :: l').map mk) (mk sep) w0 hcells hlt (by simp at hg ⊢; omega) (by simpa using hc) (by rw [hmap]; show (Lib.join (s :: l') sep).length ≤ _; omega)
      rw [hmap, List.length_map] at h
      refine h.mono fun e w' ⟨he, hw⟩ => ⟨_, H0, he, ext_below hI hw, rfl⟩
end Go.Proofs.YtcjphpenelnohaaGreatDoor
/- Ga: by tools/gen.py -/
set_option linter.unusedVariables false
namespace Go.Proofs.YtcjphpenelnohaaGreatDoor
open Go.RowKit

/-- (*kind.place).bad -/
def m154 (s0 : Bs) (s1 : Int) (s2 : Int) : Option Bool :=
  (some ((s2 != (0 : Int))))
set_option maxHeartbeats 20000000 in
set_option maxRecDepth 100000 in
theorem c154 : ∀ {H0 : Hp} {w0 : World} {s0 : Bs} {s1 : Int} {s2 : Int} {b0 : Nat} {tl0 : List Value} {T0 : TypeId} (_ : Imm H0 w0) (_ : Rs.holds w0 (.cel b0 ((.string (mk s0)) :: (.int .i64 s1) :: (.int .i64 s2) :: tl0) T0)) (_ : ∀ b' ∈ Rs.foot (.cel b0 ((.string (mk s0)) :: (.int .i64 s1) :: (.int .i64 s2) :: tl0) T0), H0 b' = none) {r : Bool} (_ : m154 s0 s1 s2 = some r), Ct Tryz.prog 154 [.pointer (some ⟨b0, 0, none⟩)] [] H0 w0 fun v H' w' => v = .bool r := by
  intro H0 w0 s0 s1 s2 b0 tl0 T0  hI hb hn r hm
  have hL := L.one hI hb hn
  refine ct_of Tryz.func154 rfl Tryz.ntmps154 rfl (Nat.le_of_ble_eq_true rfl) ?_
  unfold m154 at hm
  refine sr <| sv (r_assign rfl) <| wt <| sr <| sv (r_move rfl) <| sv (r_nilCheck rfl) <| sv (r_fieldAddr fl_249_2 rfl) <| sv (r_load1 (hL.own 0 _ rfl) sc_27 rfl rfl) <| sv (r_nei rfl rfl) <| sv (r_assign rfl) <| wt <| wp_ret ?_
  obtain rfl := ends hm
  exact rt rfl (.tmp rfl .nil) ⟨_, _, rfl, (Ext.ro hL.ext (hL.non 0 _ rfl _ (List.mem_singleton.2 rfl)).1 hb (hL.own 0 _ rfl)), rfl⟩

/-- (*kind.place).is -/
def m217 (s0 : Bs) (s1 : Int) (s2 : Int) (a1 : Int) : Option (Bool × Int) :=
  ((m154 s0 s1 s2).bind fun t1 => (bif t1 then none else (bif (decide ((s0.length : Int) ≤ s1)) then none else (bif (decide (0 ≤ s1 ∧ s1 < (s0.length : Int))) then (bif ((bat s0 s1) != a1) then (some (false, s1)) else (some (true, (IntKind.wrap .i64 (s1 + (1 : Int)))))) else none))))
set_option maxHeartbeats 20000000 in
set_option maxRecDepth 100000 in
theorem c217 : ∀ {H0 : Hp} {w0 : World} {s0 : Bs} {s1 : Int} {s2 : Int} {a1 : Int} {b0 : Nat} {tl0 : List Value} {T0 : TypeId} (_ : Imm H0 w0) (_ : Rs.holds w0 (.cel b0 ((.string (mk s0)) :: (.int .i64 s1) :: (.int .i64 s2) :: tl0) T0)) (_ : ∀ b' ∈ Rs.foot (.cel b0 ((.string (mk s0)) :: (.int .i64 s1) :: (.int .i64 s2) :: tl0) T0), H0 b' = none) {r : (Bool × Int)} (_ : m217 s0 s1 s2 a1 = some r), Ct Tryz.prog 217 [.pointer (some ⟨b0, 0, none⟩), .int .u8 a1] (Rs.foot (.cel b0 ((.string (mk s0)) :: (.int .i64 s1) :: (.int .i64 s2) :: tl0) T0)) H0 w0 fun v H' w' => (v = .bool r.1) ∧ Rs.holds w' (.cel b0 ((.string (mk s0)) :: (.int .i64 r.2) :: (.int .i64 s2) :: tl0) T0) ∧ ∀ b' ∈ Rs.foot (.cel b0 ((.string (mk s0)) :: (.int .i64 r.2) :: (.int .i64 s2) :: tl0) T0), H' b' = none ∧ (b' ∈ Rs.foot (.cel b0 ((.string (mk s0)) :: (.int .i64 s1) :: (.int .i64 s2) :: tl0) T0) ∨ w0.heap.size ≤ b') := by
  intro H0 w0 s0 s1 s2 a1 b0 tl0 T0  hI hb hn r hm
  have hL := L.one hI hb hn
  refine ct_of Tryz.func217 rfl Tryz.ntmps217 rfl (Nat.le_of_ble_eq_true rfl) ?_
  unfold m217 at hm
  refine sr <| sv (r_assign rfl) <| wt <| wp_seq <| wp_seq <| rd hL [0] [_] [(0, true), (1, false), (2, true), (3, true), (4, true), (5, true), (6, true), (7, true), (8, true), (9, true), (10, true), (11, true), (12, true), (13, true), (14, true), (15, true), (16, true), (17, true), (18, true), (19, true), (20, true), (21, true), (22, true), (23, true), (24, true), (25, true), (26, true)] mixed rfl (by kernel_rfl) fun w hL => dv rfl (fun w hS => r_move rfl) ?_
  obtain ⟨t1, ht1, hm⟩ := bnd hm
  refine dh rfl rfl (o_call0 hL fn_154 rfl (c154 hL.imm (hL.own 0 _ rfl) (fun b' hb' => (hL.non 0 _ rfl b' hb').1) ht1) fun v H w hlet1 hL hR => ⟨Sd.of hL ((Hle.refl _).trans hlet1) [0] rfl, ?_⟩)
  obtain rfl := hR
  refine dv rfl (fun w hS => r_move rfl) ?_
  refine m_if hm (fun hg2 hm => ?_) (fun hg2 hm => ?_)
  · cases hm
  · refine dvT rfl rfl rfl rfl hg2 (fun w hS => r_move rfl) <| dvT rfl rfl rfl rfl hg2 (fun w hS => r_nilCheck rfl) <| dvT rfl rfl rfl rfl hg2 (fun w hS => r_fieldAddr fl_249_1 rfl) <| dvT rfl rfl rfl rfl hg2 (fun w hS => r_load1 hS.2.1 sc_3 rfl rfl) <| dvT rfl rfl rfl rfl hg2 (fun w hS => r_move rfl) <| dvT rfl rfl rfl rfl hg2 (fun w hS => r_nilCheck rfl) <| dvT rfl rfl rfl rfl hg2 (fun w hS => r_fieldAddr fl_249_0 rfl) <| dvT rfl rfl rfl rfl hg2 (fun w hS => r_load1 hS.2.1 sc_9 rfl rfl) <| dvT rfl rfl rfl rfl hg2 (fun w hS => r_lens rfl Tryz.underlying9 rfl) <| dvT rfl rfl rfl rfl hg2 (fun w hS => r_geq rfl rfl) <| dv rfl (fun w hS => r_pickF hg2 rfl rfl) <| dv rfl (fun w hS => r_move rfl) ?_
    refine m_if hm (fun hg3 hm => ?_) (fun hg3 hm => ?_)
    · cases hm
    · refine dvT rfl rfl rfl rfl hg3 (fun w hS => r_move rfl) <| dvT rfl rfl rfl rfl hg3 (fun w hS => r_nilCheck rfl) <| dvT rfl rfl rfl rfl hg3 (fun w hS => r_fieldAddr fl_249_0 rfl) <| dvT rfl rfl rfl rfl hg3 (fun w hS => r_load1 hS.2.1 sc_9 rfl rfl) <| dvT rfl rfl rfl rfl hg3 (fun w hS => r_move rfl) <| dvT rfl rfl rfl rfl hg3 (fun w hS => r_nilCheck rfl) <| dvT rfl rfl rfl rfl hg3 (fun w hS => r_fieldAddr fl_249_1 rfl) <| dvT rfl rfl rfl rfl hg3 (fun w hS => r_load1 hS.2.1 sc_3 rfl rfl) ?_
      obtain ⟨hg4, hm⟩ := grd hm
      refine dvT rfl rfl rfl rfl hg3 (fun w hS => r_index Tryz.underlying9 hg4 rfl rfl) <| dvT rfl rfl rfl rfl hg3 (fun w hS => r_move rfl) <| dvT rfl rfl rfl rfl hg3 (fun w hS => r_nei rfl rfl) <| dv rfl (fun w hS => r_pickF hg3 rfl rfl) <| dn <| then_n ?_
      refine c_if hm rfl (fun hg5 hm => ?_) (fun hg5 hm => ?_)
      · refine sr <| sv (r_assign rfl) <| wt <| wp_ret <| then_r ?_
        obtain rfl := ends hm
        refine rt rfl (.tmp rfl .nil) ⟨_, _, rfl, hL.ext, ?_⟩
        exact ⟨rfl, hL.give (i := 0) rfl⟩
      · refine wp_skip <| then_n <| sr <| sv (r_move rfl) <| sv (r_nilCheck rfl) <| sv (r_fieldAddr fl_249_1 rfl) <| sv (r_load1 (hL.own 0 _ rfl) sc_3 rfl rfl) <| sv (r_add rfl rfl) <| sv (r_nilCheck rfl) <| sv (r_fieldAddr fl_249_1 rfl) ?_
        refine wl rfl (o_store1 (i := 0) hL sc_3 rfl rfl rfl rfl rfl (c' := _ :: _ :: _ :: _) rfl fun w hL => ?_)
        refine wt <| sr <| sv (r_assign rfl) <| wt <| wp_ret ?_
        obtain rfl := ends hm
        refine rt rfl (.tmp rfl .nil) ⟨_, _, rfl, hL.ext, ?_⟩
        exact ⟨rfl, hL.give (i := 0) rfl⟩

/-- (*kind.place).must -/
def m297 (s0 : Bs) (s1 : Int) (s2 : Int) (a1 : Int) : Option Int :=
  ((m154 s0 s1 s2).bind fun t1 => (bif (!t1) then ((m217 s0 s1 s2 a1).bind fun t3 => (bif (!t3.1) then none else (some (t3.2)))) else none))
set_option maxHeartbeats 20000000 in
set_option maxRecDepth 100000 in
theorem c297 : ∀ {H0 : Hp} {w0 : World} {s0 : Bs} {s1 : Int} {s2 : Int} {a1 : Int} {b0 : Nat} {tl0 : List Value} {T0 : TypeId} (_ : Imm H0 w0) (_ : Rs.holds w0 (.cel b0 ((.string (mk s0)) :: (.int .i64 s1) :: (.int .i64 s2) :: tl0) T0)) (_ : ∀ b' ∈ Rs.foot (.cel b0 ((.string (mk s0)) :: (.int .i64 s1) :: (.int .i64 s2) :: tl0) T0), H0 b' = none) {r : Int} (_ : m297 s0 s1 s2 a1 = some r), Ct Tryz.prog 297 [.pointer (some ⟨b0, 0, none⟩), .int .u8 a1] (Rs.foot (.cel b0 ((.string (mk s0)) :: (.int .i64 s1) :: (.int .i64 s2) :: tl0) T0)) H0 w0 fun v H' w' => (v = .tuple (List.toArray [])) ∧ Rs.holds w' (.cel b0 ((.string (mk s0)) :: (.int .i64 r) :: (.int .i64 s2) :: tl0) T0) ∧ ∀ b' ∈ Rs.foot (.cel b0 ((.string (mk s0)) :: (.int .i64 r) :: (.int .i64 s2) :: tl0) T0), H' b' = none ∧ (b' ∈ Rs.foot (.cel b0 ((.string (mk s0)) :: (.int .i64 s1) :: (.int .i64 s2) :: tl0) T0) ∨ w0.heap.size ≤ b') := by
  intro H0 w0 s0 s1 s2 a1 b0 tl0 T0  hI hb hn r hm
  have hL := L.one hI hb hn
  refine ct_of Tryz.func297 rfl Tryz.ntmps297 rfl (Nat.le_of_ble_eq_true rfl) ?_
  unfold m297 at hm
  refine sr <| sv (r_move rfl) ?_
  obtain ⟨t1, ht1, hm⟩ := bnd hm
  refine wl rfl (o_call0 hL fn_154 rfl (c154 hL.imm (hL.own 0 _ rfl) (fun b' hb' => (hL.non 0 _ rfl b' hb').1) ht1) fun v H w hlet1 hL hR => ?_)
  obtain rfl := hR
  refine sv (r_not rfl) <| sv (r_move rfl) ?_
  refine m_if hm (fun hg2 hm => ?_) (fun hg2 hm => ?_)
  · refine wlT rfl rfl rfl rfl hg2 (o_val (r_move rfl) ?_)
    refine wlT rfl rfl rfl rfl hg2 (o_val (r_move rfl) ?_)
    obtain ⟨t3, ht3, hm⟩ := bnd hm
    refine wlT rfl rfl rfl rfl hg2 (o_call1 0 hL fn_217 rfl rfl (c217 hL.imm (hL.own 0 _ rfl) (fun b' hb' => (hL.non 0 _ rfl b' hb').1) ht3) fun v H w hlet3 hL hR => ?_)
    obtain rfl := hR
    refine wlT rfl rfl rfl rfl hg2 (o_val (r_not rfl) ?_)
    refine sv (r_pickT hg2 rfl rfl) <| wt ?_
    refine c_if hm rfl (fun hg4 hm => ?_) (fun hg4 hm => ?_)
    · cases hm
    · refine wp_skip ?_
      obtain rfl := ends hm
      refine rtN rfl .nil ⟨_, _, rfl, hL.ext, ?_⟩
      exact ⟨rfl, hL.give (i := 0) rfl⟩
  · cases hm

/-- (*text.place).bad -/
def m164 (s0 : Bs) (s1 : Int) (s2 : Int) : Option Bool :=
  (some ((s2 != (0 : Int))))
set_option maxHeartbeats 20000000 in
set_option maxRecDepth 100000 in
theorem c164 : ∀ {H0 : Hp} {w0 : World} {s0 : Bs} {s1 : Int} {s2 : Int} {b0 : Nat} {tl0 : List Value} {T0 : TypeId} (_ : Imm H0 w0) (_ : Rs.holds w0 (.cel b0 ((.string (mk s0)) :: (.int .i64 s1) :: (.int .i64 s2) :: tl0) T0)) (_ : ∀ b' ∈ Rs.foot (.cel b0 ((.string (mk s0)) :: (.int .i64 s1) :: (.int .i64 s2) :: tl0) T0), H0 b' = none) {r : Bool} (_ : m164 s0 s1 s2 = some r), Ct Tryz.prog 164 [.pointer (some ⟨b0, 0, none⟩)] [] H0 w0 fun v H' w' => v = .bool r := by
  intro H0 w0 s0 s1 s2 b0 tl0 T0  hI hb hn r hm
  have hL := L.one hI hb hn
  refine ct_of Tryz.func164 rfl Tryz.ntmps164 rfl (Nat.le_of_ble_eq_true rfl) ?_
  unfold m164 at hm
  refine sr <| sv (r_assign rfl) <| wt <| sr <| sv (r_move rfl) <| sv (r_nilCheck rfl) <| sv (r_fieldAddr fl_274_2 rfl) <| sv (r_load1 (hL.own 0 _ rfl) sc_27 rfl rfl) <| sv (r_nei rfl rfl) <| sv (r_assign rfl) <| wt <| wp_ret ?_
  obtain rfl := ends hm
  exact rt rfl (.tmp rfl .nil) ⟨_, _, rfl, (Ext.ro hL.ext (hL.non 0 _ rfl _ (List.mem_singleton.2 rfl)).1 hb (hL.own 0 _ rfl)), rfl⟩

/-- (*text.place).fail -/
def m165 (s0 : Bs) (s1 : Int) (s2 : Int) (a1 : Int) (a2 : Int) : Option (Int × Int) :=
  (bif (s2 == (0 : Int)) then (some (a1, a2)) else none)
set_option maxHeartbeats 20000000 in
set_option maxRecDepth 100000 in
theorem c165 : ∀ {H0 : Hp} {w0 : World} {s0 : Bs} {s1 : Int} {s2 : Int} {a1 : Int} {a2 : Int} {b0 : Nat} {tl0 : List Value} {T0 : TypeId} (_ : Imm H0 w0) (_ : Rs.holds w0 (.cel b0 ((.string (mk s0)) :: (.int .i64 s1) :: (.int .i64 s2) :: tl0) T0)) (_ : ∀ b' ∈ Rs.foot (.cel b0 ((.string (mk s0)) :: (.int .i64 s1) :: (.int .i64 s2) :: tl0) T0), H0 b' = none) {r : (Int × Int)} (_ : m165 s0 s1 s2 a1 a2 = some r), Ct Tryz.prog 165 [.pointer (some ⟨b0, 0, none⟩), .int .i64 a1, .int .i64 a2] (Rs.foot (.cel b0 ((.string (mk s0)) :: (.int .i64 s1) :: (.int .i64 s2) :: tl0) T0)) H0 w0 fun v H' w' => (v = .tuple (List.toArray [])) ∧ Rs.holds w' (.cel b0 ((.string (mk s0)) :: (.int .i64 r.1) :: (.int .i64 r.2) :: tl0) T0) ∧ ∀ b' ∈ Rs.foot (.cel b0 ((.string (mk s0)) :: (.int .i64 r.1) :: (.int .i64 r.2) :: tl0) T0), H' b' = none ∧ (b' ∈ Rs.foot (.cel b0 ((.string (mk s0)) :: (.int .i64 s1) :: (.int .i64 s2) :: tl0) T0) ∨ w0.heap.size ≤ b') := by
  intro H0 w0 s0 s1 s2 a1 a2 b0 tl0 T0  hI hb hn r hm
  have hL := L.one hI hb hn
  refine ct_of Tryz.func165 rfl Tryz.ntmps165 rfl (Nat.le_of_ble_eq_true rfl) ?_
  unfold m165 at hm
  refine sr <| sv (r_move rfl) <| sv (r_nilCheck rfl) <| sv (r_fieldAddr fl_274_2 rfl) <| sv (r_load1 (hL.own 0 _ rfl) sc_27 rfl rfl) <| sv (r_eqi rfl rfl) <| wt ?_
  refine c_if hm rfl (fun hg1 hm => ?_) (fun hg1 hm => ?_)
  · refine rg <| sv (r_move rfl) <| sv (r_move rfl) <| sv (r_move rfl) <| sv (r_move rfl) <| sv (r_nilCheck rfl) <| sv (r_fieldAddr fl_274_1 rfl) ?_
    refine wl rfl (o_store1 (i := 0) hL sc_3 rfl rfl rfl rfl rfl (c' := _ :: _ :: _ :: _) rfl fun w hL => ?_)
    refine sv (r_nilCheck rfl) <| sv (r_fieldAddr fl_274_2 rfl) ?_
    refine wl rfl (o_store1 (i := 0) hL sc_27 rfl rfl rfl rfl rfl (c' := _ :: _ :: _ :: _) rfl fun w hL => ?_)
    refine wn ?_
    obtain rfl := ends hm
    refine rtN rfl .nil ⟨_, _, rfl, hL.ext, ?_⟩
    exact ⟨rfl, hL.give (i := 0) rfl⟩
  · cases hm

/-- (*text.place).peek -/
def m254 (s0 : Bs) (s1 : Int) (s2 : Int) : Option Int :=
  (bif (decide ((s0.length : Int) ≤ s1)) then (some ((0 : Int))) else (bif (decide (0 ≤ s1 ∧ s1 < (s0.length : Int))) then (some ((bat s0 s1))) else none))
set_option maxHeartbeats 20000000 in
set_option maxRecDepth 100000 in
theorem c254 : ∀ {H0 : Hp} {w0 : World} {s0 : Bs} {s1 : Int} {s2 : Int} {b0 : Nat} {tl0 : List Value} {T0 : TypeId} (_ : Imm H0 w0) (_ : Rs.holds w0 (.cel b0 ((.string (mk s0)) :: (.int .i64 s1) :: (.int .i64 s2) :: tl0) T0)) (_ : ∀ b' ∈ Rs.foot (.cel b0 ((.string (mk s0)) :: (.int .i64 s1) :: (.int .i64 s2) :: tl0) T0), H0 b' = none) {r : Int} (_ : m254 s0 s1 s2 = some r), Ct Tryz.prog 254 [.pointer (some ⟨b0, 0, none⟩)] [] H0 w0 fun v H' w' => v = .int .u8 r := by
  intro H0 w0 s0 s1 s2 b0 tl0 T0  hI hb hn r hm
  have hL := L.one hI hb hn
  refine ct_of Tryz.func254 rfl Tryz.ntmps254 rfl (Nat.le_of_ble_eq_true rfl) ?_
  unfold m254 at hm
  refine sr <| sv (r_assign rfl) <| wt <| wp_seq <| wp_seq <| rd hL [0] [_] [(0, true), (1, true), (2, true), (3, true), (4, true), (5, true), (6, true), (7, true), (8, true), (9, true)] mixed rfl (by kernel_rfl) fun w hL => dv rfl (fun w hS => r_move rfl) <| dv rfl (fun w hS => r_nilCheck rfl) <| dv rfl (fun w hS => r_fieldAddr fl_274_1 rfl) <| dv rfl (fun w hS => r_load1 hS.2.1 sc_3 rfl rfl) <| dv rfl (fun w hS => r_move rfl) <| dv rfl (fun w hS => r_nilCheck rfl) <| dv rfl (fun w hS => r_fieldAddr fl_274_0 rfl) <| dv rfl (fun w hS => r_load1 hS.2.1 sc_9 rfl rfl) <| dv rfl (fun w hS => r_lens rfl Tryz.underlying9 rfl) <| dv rfl (fun w hS => r_geq rfl rfl) <| dn <| then_n ?_
  refine c_if hm rfl (fun hg1 hm => ?_) (fun hg1 hm => ?_)
  · refine sr <| sv (r_assign rfl) <| wt <| wp_ret <| then_r ?_
    obtain rfl := ends hm
    exact rt rfl (.tmp rfl .nil) ⟨_, _, rfl, (Ext.ro hL.ext (hL.non 0 _ rfl _ (List.mem_singleton.2 rfl)).1 hb (hL.own 0 _ rfl)), rfl⟩
  · refine wp_skip <| then_n <| wp_seq <| rd hL [0] [_] [(0, true), (1, true), (2, true), (3, true), (4, true), (5, true), (6, true), (7, true), (8, true), (9, true)] mixed rfl (by kernel_rfl) fun w hL => dv rfl (fun w hS => r_move rfl) <| dv rfl (fun w hS => r_nilCheck rfl) <| dv rfl (fun w hS => r_fieldAddr fl_274_0 rfl) <| dv rfl (fun w hS => r_load1 hS.2.1 sc_9 rfl rfl) <| dv rfl (fun w hS => r_move rfl) <| dv rfl (fun w hS => r_nilCheck rfl) <| dv rfl (fun w hS => r_fieldAddr fl_274_1 rfl) <| dv rfl (fun w hS => r_load1 hS.2.1 sc_3 rfl rfl) ?_
    obtain ⟨hg2, hm⟩ := grd hm
    refine dv rfl (fun w hS => r_index Tryz.underlying9 hg2 rfl rfl) <| dv rfl (fun w hS => r_assign rfl) <| dn <| then_n <| wp_ret ?_
    obtain rfl := ends hm
    exact rt rfl (.tmp rfl .nil) ⟨_, _, rfl, (Ext.ro hL.ext (hL.non 0 _ rfl _ (List.mem_singleton.2 rfl)).1 hb (hL.own 0 _ rfl)), rfl⟩

/-- (*text.place).is -/
def m328 (s0 : Bs) (s1 : Int) (s2 : Int) (a1 : Int) : Option (Bool × Int) :=
  (bif (decide ((s0.length : Int) ≤ s1)) then (some (false, s1)) else (bif (decide (0 ≤ s1 ∧ s1 < (s0.length : Int))) then (bif ((bat s0 s1) != a1) then (some (false, s1)) else (some (true, (IntKind.wrap .i64 (s1 + (1 : Int)))))) else none))
set_option maxHeartbeats 20000000 in
set_option maxRecDepth 100000 in
theorem c328 : ∀ {H0 : Hp} {w0 : World} {s0 : Bs} {s1 : Int} {s2 : Int} {a1 : Int} {b0 : Nat} {tl0 : List Value} {T0 : TypeId} (_ : Imm H0 w0) (_ : Rs.holds w0 (.cel b0 ((.string (mk s0)) :: (.int .i64 s1) :: (.int .i64 s2) :: tl0) T0)) (_ : ∀ b' ∈ Rs.foot (.cel b0 ((.string (mk s0)) :: (.int .i64 s1) :: (.int .i64 s2) :: tl0) T0), H0 b' = none) {r : (Bool × Int)} (_ : m328 s0 s1 s2 a1 = some r), Ct Tryz.prog 328 [.pointer (some ⟨b0, 0, none⟩), .int .u8 a1] (Rs.foot (.cel b0 ((.string (mk s0)) :: (.int .i64 s1) :: (.int .i64 s2) :: tl0) T0)) H0 w0 fun v H' w' => (v = .bool r.1) ∧ Rs.holds w' (.cel b0 ((.string (mk s0)) :: (.int .i64 r.2) :: (.int .i64 s2) :: tl0) T0) ∧ ∀ b' ∈ Rs.foot (.cel b0 ((.string (mk s0)) :: (.int .i64 r.2) :: (.int .i64 s2) :: tl0) T0), H' b' = none ∧ (b' ∈ Rs.foot (.cel b0 ((.string (mk s0)) :: (.int .i64 s1) :: (.int .i64 s2) :: tl0) T0) ∨ w0.heap.size ≤ b') := by
  intro H0 w0 s0 s1 s2 a1 b0 tl0 T0  hI hb hn r hm
  have hL := L.one hI hb hn
  refine ct_of Tryz.func328 rfl Tryz.ntmps328 rfl (Nat.le_of_ble_eq_true rfl) ?_
  unfold m328 at hm
  refine sr <| sv (r_assign rfl) <| wt <| wp_seq <| wp_seq <| rd hL [0] [_] [(0, true), (1, true), (2, true), (3, true), (4, true), (5, true), (6, true), (7, true), (8, true), (9, true), (10, true), (11, true), (12, true), (13, true), (14, true), (15, true), (16, true), (17, true), (18, true), (19, true), (20, true), (21, true), (22, true)] mixed rfl (by kernel_rfl) fun w hL => dv rfl (fun w hS => r_move rfl) <| dv rfl (fun w hS => r_nilCheck rfl) <| dv rfl (fun w hS => r_fieldAddr fl_274_1 rfl) <| dv rfl (fun w hS => r_load1 hS.2.1 sc_3 rfl rfl) <| dv rfl (fun w hS => r_move rfl) <| dv rfl (fun w hS => r_nilCheck rfl) <| dv rfl (fun w hS => r_fieldAddr fl_274_0 rfl) <| dv rfl (fun w hS => r_load1 hS.2.1 sc_9 rfl rfl) <| dv rfl (fun w hS => r_lens rfl Tryz.underlying9 rfl) <| dv rfl (fun w hS => r_geq rfl rfl) <| dv rfl (fun w hS => r_move rfl) ?_
  refine m_if hm (fun hg1 hm => ?_) (fun hg1 hm => ?_)
  · refine dvF rfl rfl rfl rfl hg1 <| dvF rfl rfl rfl rfl hg1 <| dvF rfl rfl rfl rfl hg1 <| dvF rfl rfl rfl rfl hg1 <| dvF rfl rfl rfl rfl hg1 <| dvF rfl rfl rfl rfl hg1 <| dvF rfl rfl rfl rfl hg1 <| dvF rfl rfl rfl rfl hg1 <| dvF rfl rfl rfl rfl hg1 <| dvF rfl rfl rfl rfl hg1 <| dvF rfl rfl rfl rfl hg1 <| dv rfl (fun w hS => r_pickT hg1 rfl rfl) <| dn <| then_n <| c_T rfl rfl <| sr <| sv (r_assign rfl) <| wt <| wp_ret <| then_r ?_
    obtain rfl := ends hm
    refine rt rfl (.tmp rfl .nil) ⟨_, _, rfl, hL.ext, ?_⟩
    exact ⟨rfl, hL.give (i := 0) rfl⟩
  · refine dvT rfl rfl rfl rfl hg1 (fun w hS => r_move rfl) <| dvT rfl rfl rfl rfl hg1 (fun w hS => r_nilCheck rfl) <| dvT rfl rfl rfl rfl hg1 (fun w hS => r_fieldAddr fl_274_0 rfl) <| dvT rfl rfl rfl rfl hg1 (fun w hS => r_load1 hS.2.1 sc_9 rfl rfl) <| dvT rfl rfl rfl rfl hg1 (fun w hS => r_move rfl) <| dvT rfl rfl rfl rfl hg1 (fun w hS => r_nilCheck rfl) <| dvT rfl rfl rfl rfl hg1 (fun w hS => r_fieldAddr fl_274_1 rfl) <| dvT rfl rfl rfl rfl hg1 (fun w hS => r_load1 hS.2.1 sc_3 rfl rfl) ?_
    obtain ⟨hg2, hm⟩ := grd hm
    refine dvT rfl rfl rfl rfl hg1 (fun w hS => r_index Tryz.underlying9 hg2 rfl rfl) <| dvT rfl rfl rfl rfl hg1 (fun w hS => r_move rfl) <| dvT rfl rfl rfl rfl hg1 (fun w hS => r_nei rfl rfl) <| dv rfl (fun w hS => r_pickF hg1 rfl rfl) <| dn <| then_n ?_
    refine c_if hm rfl (fun hg3 hm => ?_) (fun hg3 hm => ?_)
    · refine sr <| sv (r_assign rfl) <| wt <| wp_ret <| then_r ?_
      obtain rfl := ends hm
      refine rt rfl (.tmp rfl .nil) ⟨_, _, rfl, hL.ext, ?_⟩
      exact ⟨rfl, hL.give (i := 0) rfl⟩
    · refine wp_skip <| then_n <| sr <| sv (r_move rfl) <| sv (r_nilCheck rfl) <| sv (r_fieldAddr fl_274_1 rfl) <| sv (r_load1 (hL.own 0 _ rfl) sc_3 rfl rfl) <| sv (r_add rfl rfl) <| sv (r_nilCheck rfl) <| sv (r_fieldAddr fl_274_1 rfl) ?_
      refine wl rfl (o_store1 (i := 0) hL sc_3 rfl rfl rfl rfl rfl (c' := _ :: _ :: _ :: _) rfl fun w hL => ?_)
      refine wt <| sr <| sv (r_assign rfl) <| wt <| wp_ret ?_
      obtain rfl := ends hm
      refine rt rfl (.tmp rfl .nil) ⟨_, _, rfl, hL.ext, ?_⟩
      exact ⟨rfl, hL.give (i := 0) rfl⟩

/-- (*text.place).must -/
def m327 (s0 : Bs) (s1 : Int) (s2 : Int) (a1 : Int) : Option Int :=
  ((m164 s0 s1 s2).bind fun t1 => (bif (!t1) then ((m328 s0 s1 s2 a1).bind fun t3 => (bif (!t3.1) then none else (some (t3.2)))) else none))
set_option maxHeartbeats 20000000 in
set_option maxRecDepth 100000 in
theorem c327 : ∀ {H0 : Hp} {w0 : World} {s0 : Bs} {s1 : Int} {s2 : Int} {a1 : Int} {b0 : Nat} {tl0 : List Value} {T0 : TypeId} (_ : Imm H0 w0) (_ : Rs.holds w0 (.cel b0 ((.string (mk s0)) :: (.int .i64 s1) :: (.int .i64 s2) :: tl0) T0)) (_ : ∀ b' ∈ Rs.foot (.cel b0 ((.string (mk s0)) :: (.int .i64 s1) :: (.int .i64 s2) :: tl0) T0), H0 b' = none) {r : Int} (_ : m327 s0 s1 s2 a1 = some r), Ct Tryz.prog 327 [.pointer (some ⟨b0, 0, none⟩), .int .u8 a1] (Rs.foot (.cel b0 ((.string (mk s0)) :: (.int .i64 s1) :: (.int .i64 s2) :: tl0) T0)) H0 w0 fun v H' w' => (v = .tuple (List.toArray [])) ∧ Rs.holds w' (.cel b0 ((.string (mk s0)) :: (.int .i64 r) :: (.int .i64 s2) :: tl0) T0) ∧ ∀ b' ∈ Rs.foot (.cel b0 ((.string (mk s0)) :: (.int .i64 r) :: (.int .i64 s2) :: tl0) T0), H' b' = none ∧ (b' ∈ Rs.foot (.cel b0 ((.string (mk s0)) :: (.int .i64 s1) :: (.int .i64 s2) :: tl0) T0) ∨ w0.heap.size ≤ b') := by
  intro H0 w0 s0 s1 s2 a1 b0 tl0 T0  hI hb hn r hm
  have hL := L.one hI hb hn
  refine ct_of Tryz.func327 rfl Tryz.ntmps327 rfl (Nat.le_of_ble_eq_true rfl) ?_
  unfold m327 at hm
  refine sr <| sv (r_move rfl) ?_
  obtain ⟨t1, ht1, hm⟩ := bnd hm
  refine wl rfl (o_call0 hL fn_164 rfl (c164 hL.imm (hL.own 0 _ rfl) (fun b' hb' => (hL.non 0 _ rfl b' hb').1) ht1) fun v H w hlet1 hL hR => ?_)
  obtain rfl := hR
  refine sv (r_not rfl) <| sv (r_move rfl) ?_
  refine m_if hm (fun hg2 hm => ?_) (fun hg2 hm => ?_)
  · refine wlT rfl rfl rfl rfl hg2 (o_val (r_move rfl) ?_)
    refine wlT rfl rfl rfl rfl hg2 (o_val (r_move rfl) ?_)
    obtain ⟨t3, ht3, hm⟩ := bnd hm
    refine wlT rfl rfl rfl rfl hg2 (o_call1 0 hL fn_328 rfl rfl (c328 hL.imm (hL.own 0 _ rfl) (fun b' hb' => (hL.non 0 _ rfl b' hb').1) ht3) fun v H w hlet3 hL hR => ?_)
    obtain rfl := hR
    refine wlT rfl rfl rfl rfl hg2 (o_val (r_not rfl) ?_)
    refine sv (r_pickT hg2 rfl rfl) <| wt ?_
    refine c_if hm rfl (fun hg4 hm => ?_) (fun hg4 hm => ?_)
    · cases hm
    · refine wp_skip ?_
      obtain rfl := ends hm
      refine rtN rfl .nil ⟨_, _, rfl, hL.ext, ?_⟩
      exact ⟨rfl, hL.give (i := 0) rfl⟩
  · cases hm

/-- (*text.reader).digit -/
def m330 (s0 : Bs) (s1 : Int) (s2 : Int) (s3 : Int) : Option Bool :=
  ((m254 s0 s1 s2).bind fun t1 => (bif (decide ((48 : Int) ≤ t1)) then (some ((decide (t1 ≤ (57 : Int))))) else (some (false))))
set_option maxHeartbeats 20000000 in
set_option maxRecDepth 100000 in
theorem c330 : ∀ {H0 : Hp} {w0 : World} {s0 : Bs} {s1 : Int} {s2 : Int} {s3 : Int} {b0 : Nat} {tl0 : List Value} {T0 : TypeId} (_ : Imm H0 w0) (_ : Rs.holds w0 (.cel b0 ((.string (mk s0)) :: (.int .i64 s1) :: (.int .i64 s2) :: (.int .i64 s3) :: tl0) T0)) (_ : ∀ b' ∈ Rs.foot (.cel b0 ((.string (mk s0)) :: (.int .i64 s1) :: (.int .i64 s2) :: (.int .i64 s3) :: tl0) T0), H0 b' = none) {r : Bool} (_ : m330 s0 s1 s2 s3 = some r), Ct Tryz.prog 330 [.pointer (some ⟨b0, 0, none⟩)] [] H0 w0 fun v H' w' => v = .bool r := by
  intro H0 w0 s0 s1 s2 s3 b0 tl0 T0  hI hb hn r hm
  have hL := L.one hI hb hn
  refine ct_of Tryz.func330 rfl Tryz.ntmps330 rfl (Nat.le_of_ble_eq_true rfl) ?_
  unfold m330 at hm
  refine sr <| sv (r_assign rfl) <| wt <| sr <| sv (r_move rfl) <| sv (r_nilCheck rfl) <| sv (r_fieldAddr fl_276_0 rfl) ?_
  obtain ⟨t1, ht1, hm⟩ := bnd hm
  refine wl rfl (o_call0 hL fn_254 rfl (c254 hL.imm (hL.own 0 _ rfl) (fun b' hb' => (hL.non 0 _ rfl b' hb').1) ht1) fun v H w hlet1 hL hR => ?_)
  obtain rfl := hR
  refine sv (r_assign rfl) <| wt <| sr <| sv (r_move rfl) <| sv (r_geq rfl rfl) <| sv (r_move rfl) ?_
  refine m_if hm (fun hg2 hm => ?_) (fun hg2 hm => ?_)
  · refine wlT rfl rfl rfl rfl hg2 (o_val (r_move rfl) ?_)
    refine wlT rfl rfl rfl rfl hg2 (o_val (r_leq rfl rfl) ?_)
    refine sv (r_pickT hg2 rfl rfl) <| sv (r_assign rfl) <| wt <| wp_ret ?_
    obtain rfl := ends hm
    exact rt rfl (.tmp rfl .nil) ⟨_, _, rfl, (Ext.ro hL.ext (hL.non 0 _ rfl _ (List.mem_singleton.2 rfl)).1 hb (hL.own 0 _ rfl)), rfl⟩
  · refine wlF rfl rfl rfl rfl hg2 rfl <| wlF rfl rfl rfl rfl hg2 rfl <| sv (r_pickF hg2 rfl rfl) <| sv (r_assign rfl) <| wt <| wp_ret ?_
    obtain rfl := ends hm
    exact rt rfl (.tmp rfl .nil) ⟨_, _, rfl, (Ext.ro hL.ext (hL.non 0 _ rfl _ (List.mem_singleton.2 rfl)).1 hb (hL.own 0 _ rfl)), rfl⟩

/-- (*text.place).word -/
def m255_l0 (s0 : Bs) (s2 : Int) (a1 : Bs) : Nat → Int → Int → Option Int
  | 0, _, _ => none
  | k + 1, v7_1, u0_1_1 => (bif (decide (v7_1 < (a1.length : Int))) then (bif (decide (0 ≤ v7_1 ∧ v7_1 < (a1.length : Int))) then ((m327 s0 u0_1_1 s2 (bat a1 v7_1)).bind fun t3 => (m255_l0 s0 s2 a1 k (IntKind.wrap .i64 (v7_1 + (1 : Int))) t3)) else none) else (some (u0_1_1)))
def m255 (s0 : Bs) (s1 : Int) (s2 : Int) (a1 : Bs) : Option Int :=
  (m255_l0 s0 s2 a1 FUEL (0 : Int) s1)
set_option maxHeartbeats 20000000 in
set_option maxRecDepth 100000 in
theorem c255 : ∀ {H0 : Hp} {w0 : World} {s0 : Bs} {s1 : Int} {s2 : Int} {a1 : Bs} {b0 : Nat} {tl0 : List Value} {T0 : TypeId} (_ : Imm H0 w0) (_ : Rs.holds w0 (.cel b0 ((.string (mk s0)) :: (.int .i64 s1) :: (.int .i64 s2) :: tl0) T0)) (_ : ∀ b' ∈ Rs.foot (.cel b0 ((.string (mk s0)) :: (.int .i64 s1) :: (.int .i64 s2) :: tl0) T0), H0 b' = none) {r : Int} (_ : m255 s0 s1 s2 a1 = some r), Ct Tryz.prog 255 [.pointer (some ⟨b0, 0, none⟩), .string (mk a1)] (Rs.foot (.cel b0 ((.string (mk s0)) :: (.int .i64 s1) :: (.int .i64 s2) :: tl0) T0)) H0 w0 fun v H' w' => (v = .tuple (List.toArray [])) ∧ Rs.holds w' (.cel b0 ((.string (mk s0)) :: (.int .i64 r) :: (.int .i64 s2) :: tl0) T0) ∧ ∀ b' ∈ Rs.foot (.cel b0 ((.string (mk s0)) :: (.int .i64 r) :: (.int .i64 s2) :: tl0) T0), H' b' = none ∧ (b' ∈ Rs.foot (.cel b0 ((.string (mk s0)) :: (.int .i64 s1) :: (.int .i64 s2) :: tl0) T0) ∨ w0.heap.size ≤ b') := by
  intro H0 w0 s0 s1 s2 a1 b0 tl0 T0  hI hb hn r hm
  have hL := L.one hI hb hn
  refine ct_of Tryz.func255 rfl Tryz.ntmps255 rfl (Nat.le_of_ble_eq_true rfl) ?_
  unfold m255 at hm
  refine sr <| sv (r_move rfl) <| sv (r_lens rfl Tryz.underlying9 rfl) <| sv (r_move rfl) <| wt <| wp_block <| wp_loop_fuel (k := FUEL) (fun k a w => ∃ (v7_1 : Int) (u0_1_1 : Int) (l : List (Nat × Value)) (H : Hp), a = fr 16 ([(0, .pointer (some ⟨b0, 0, none⟩)), (1, .string (mk a1)), (6, .int .i64 (a1.length : Int)), (7, .int .i64 v7_1)] ++ l) [] ∧ L (Rs.foot (.cel b0 ((.string (mk s0)) :: (.int .i64 s1) :: (.int .i64 s2) :: tl0) T0)) H0 w0 [(0, .cel b0 ((.string (mk s0)) :: (.int .i64 u0_1_1) :: (.int .i64 s2) :: tl0) T0)] H w ∧ (m255_l0 s0 s2 a1 k v7_1 u0_1_1) = some r) ⟨_, _, _, _, fr_pre _ rfl, hL.pick _ rfl, hm⟩ ?_
  rintro k0 a w ⟨v7_1, u0_1_1, l, H, rfl, hL, hm⟩
  cases k0 with
  | zero => rw [m255_l0.eq_1] at hm; cases hm
  | succ k0 =>
    rw [m255_l0.eq_2] at hm
    refine sr <| sv (r_lss rfl rfl) <| wt <| wp_seq ?_
    refine c_if hm rfl (fun hg1 hm => ?_) (fun hg1 hm => ?_)
    · refine wp_skip <| then_n <| wp_seq <| wp_block <| sr <| sv (r_move rfl) <| sv (r_assign rfl) <| wt <| rg <| sv (r_move rfl) <| sv (r_move rfl) <| sv (r_move rfl) ?_
      obtain ⟨hg2, hm⟩ := grd hm
      refine sv (r_index Tryz.underlying9 hg2 rfl rfl) ?_
      obtain ⟨t3, ht3, hm⟩ := bnd hm
      refine wl rfl (o_call1 0 hL fn_327 rfl rfl (c327 hL.imm (hL.own 0 _ rfl) (fun b' hb' => (hL.non 0 _ rfl b' hb').1) ht3) fun v H w hlet3 hL hR => ?_)
      obtain rfl := hR
      refine wn <| blk_n <| then_n <| rg <| sv (r_add rfl rfl) <| sv (r_move rfl) <| wt ?_
      exact ⟨k0, Nat.lt_succ_self k0, _, _, _, _, fr_pre _ rfl, hL.pick _ rfl, hm⟩
    · refine wp_exit <| then_e <| then_e <| blk_e ?_
      obtain rfl := ends hm
      refine rtN rfl .nil ⟨_, _, rfl, hL.ext, ?_⟩
      exact ⟨rfl, hL.give (i := 0) rfl⟩

/-- backoff.in -/
def m107 (a0 : Int) (a1 : Int) : Option Bool :=
  (bif (decide ((1 : Int) ≤ a0)) then (some ((decide (a0 ≤ a1)))) else (some (false)))
set_option maxHeartbeats 20000000 in
set_option maxRecDepth 100000 in
theorem c107 : ∀ {H0 : Hp} {w0 : World} {a0 : Int} {a1 : Int}  (_ : Imm H0 w0) {r : Bool} (_ : m107 a0 a1 = some r), Ct Tryz.prog 107 [.int .i64 a0, .int .i64 a1] [] H0 w0 fun v H' w' => v = .bool r := by
  intro H0 w0 a0 a1  hI r hm
  have hL := L.start hI
  refine ct_of Tryz.func107 rfl Tryz.ntmps107 rfl (Nat.le_of_ble_eq_true rfl) ?_
  unfold m107 at hm
  refine sr <| sv (r_assign rfl) <| wt <| sr <| sv (r_move rfl) <| sv (r_geq rfl rfl) <| sv (r_move rfl) ?_
  refine m_if hm (fun hg1 hm => ?_) (fun hg1 hm => ?_)
  · refine wlT rfl rfl rfl rfl hg1 (o_val (r_move rfl) ?_)
    refine wlT rfl rfl rfl rfl hg1 (o_val (r_move rfl) ?_)
    refine wlT rfl rfl rfl rfl hg1 (o_val (r_leq rfl rfl) ?_)
    refine sv (r_pickT hg1 rfl rfl) <| sv (r_assign rfl) <| wt <| wp_ret ?_
    obtain rfl := ends hm
    exact rt rfl (.tmp rfl .nil) ⟨_, _, rfl, hL.ext, rfl⟩
  · refine wlF rfl rfl rfl rfl hg1 rfl <| wlF rfl rfl rfl rfl hg1 rfl <| wlF rfl rfl rfl rfl hg1 rfl <| sv (r_pickF hg1 rfl rfl) <| sv (r_assign rfl) <| wt <| wp_ret ?_
    obtain rfl := ends hm
    exact rt rfl (.tmp rfl .nil) ⟨_, _, rfl, hL.ext, rfl⟩

/-- backoff.Right -/
def m36 (a0_0 : Int) (a0_1 : Int) (a0_2 : Int) (a0_3 : Int) : Option Bool :=
  (bif (eqI4 a0_0 a0_1 a0_2 a0_3 (0 : Int) (0 : Int) (0 : Int) (0 : Int)) then (some (false)) else ((m107 a0_0 a0_1).bind fun t2 => (bif t2 then ((m107 a0_1 (1000000 : Int)).bind fun t4 => (bif t4 then ((m107 a0_2 (100 : Int)).bind fun t6 => (bif t6 then ((m107 a0_3 (1000000 : Int)).bind fun t8 => (some (t8))) else (some (false)))) else (some (false)))) else (some (false)))))
set_option maxHeartbeats 20000000 in
set_option maxRecDepth 100000 in
theorem c36 : ∀ {H0 : Hp} {w0 : World} {a0_0 : Int} {a0_1 : Int} {a0_2 : Int} {a0_3 : Int}  (_ : Imm H0 w0) {r : Bool} (_ : m36 a0_0 a0_1 a0_2 a0_3 = some r), Ct Tryz.prog 36 [.agg (List.toArray [.int .i64 a0_0, .int .i64 a0_1, .int .i64 a0_2, .int .i64 a0_3])] [] H0 w0 fun v H' w' => v = .bool r := by
  intro H0 w0 a0_0 a0_1 a0_2 a0_3  hI r hm
  have hL := L.start hI
  refine ct_of Tryz.func36 rfl Tryz.ntmps36 rfl (Nat.le_of_ble_eq_true rfl) ?_
  unfold m36 at hm
  refine sr ?_
  refine wl rfl (o_box 0 (c := [_, _, _, _]) hL rfl rfl fun b0 w hL => ?_)
  refine sv (r_assign rfl) <| wt <| wp_seq <| sr <| sv (r_loadk (hL.own 0 _ rfl) ag_70 rfl (vs := [_, _, _, _]) rfl rfl) <| sv (r_build ze_70 st_70 rfl .nil (cs := [_, _, _, _]) rfl) <| sv (r_eqI4 rfl rfl) <| wt ?_
  refine c_if hm rfl (fun hg1 hm => ?_) (fun hg1 hm => ?_)
  · refine sr <| sv (r_assign rfl) <| wt <| wp_ret <| then_r ?_
    obtain rfl := ends hm
    exact rt rfl (.tmp rfl .nil) ⟨_, _, rfl, hL.ext, rfl⟩
  · refine wp_skip <| then_n <| sr <| sv (r_fieldAddr fl_70_0 rfl) <| sv (r_load1 (hL.own 0 _ rfl) sc_3 rfl rfl) <| sv (r_fieldAddr fl_70_1 rfl) <| sv (r_load1 (hL.own 0 _ rfl) sc_3 rfl rfl) ?_
    obtain ⟨t2, ht2, hm⟩ := bnd hm
    refine wl rfl (o_call0 hL fn_107 rfl (c107 hL.imm ht2) fun v H w hlet2 hL hR => ?_)
    obtain rfl := hR
    refine sv (r_move rfl) ?_
    refine m_if hm (fun hg3 hm => ?_) (fun hg3 hm => ?_)
    · refine wlT rfl rfl rfl rfl hg3 (o_val (r_fieldAddr fl_70_1 rfl) ?_)
      refine wlT rfl rfl rfl rfl hg3 (o_val (r_load1 (hL.own 0 _ rfl) sc_3 rfl rfl) ?_)
      obtain ⟨t4, ht4, hm⟩ := bnd hm
      refine wlT rfl rfl rfl rfl hg3 (o_call0 hL fn_107 rfl (c107 hL.imm ht4) fun v H w hlet4 hL hR => ?_)
      obtain rfl := hR
      refine sv (r_pickT hg3 rfl rfl) <| sv (r_move rfl) ?_
      refine m_if hm (fun hg5 hm => ?_) (fun hg5 hm => ?_)
      · refine wlT rfl rfl rfl rfl hg5 (o_val (r_fieldAddr fl_70_2 rfl) ?_)
        refine wlT rfl rfl rfl rfl hg5 (o_val (r_load1 (hL.own 0 _ rfl) sc_3 rfl rfl) ?_)
        obtain ⟨t6, ht6, hm⟩ := bnd hm
        refine wlT rfl rfl rfl rfl hg5 (o_call0 hL fn_107 rfl (c107 hL.imm ht6) fun v H w hlet6 hL hR => ?_)
        obtain rfl := hR
        refine sv (r_pickT hg5 rfl rfl) <| sv (r_move rfl) ?_
        refine m_if hm (fun hg7 hm => ?_) (fun hg7 hm => ?_)
        · refine wlT rfl rfl rfl rfl hg7 (o_val (r_fieldAddr fl_70_3 rfl) ?_)
          refine wlT rfl rfl rfl rfl hg7 (o_val (r_load1 (hL.own 0 _ rfl) sc_3 rfl rfl) ?_)
          obtain ⟨t8, ht8, hm⟩ := bnd hm
          refine wlT rfl rfl rfl rfl hg7 (o_call0 hL fn_107 rfl (c107 hL.imm ht8) fun v H w hlet8 hL hR => ?_)
          obtain rfl := hR
          refine sv (r_pickT hg7 rfl rfl) <| sv (r_assign rfl) <| wt <| wp_ret ?_
          obtain rfl := ends hm
          exact rt rfl (.tmp rfl .nil) ⟨_, _, rfl, hL.ext, rfl⟩
        · refine wlF rfl rfl rfl rfl hg7 rfl <| wlF rfl rfl rfl rfl hg7 rfl <| wlF rfl rfl rfl rfl hg7 rfl <| sv (r_pickF hg7 rfl rfl) <| sv (r_assign rfl) <| wt <| wp_ret ?_
          obtain rfl := ends hm
          exact rt rfl (.tmp rfl .nil) ⟨_, _, rfl, hL.ext, rfl⟩
      · refine wlF rfl rfl rfl rfl hg5 rfl <| wlF rfl rfl rfl rfl hg5 rfl <| wlF rfl rfl rfl rfl hg5 rfl <| sv (r_pickF hg5 rfl rfl) <| sv (r_move rfl) <| wlF rfl rfl rfl rfl rfl rfl <| wlF rfl rfl rfl rfl rfl rfl <| wlF rfl rfl rfl rfl rfl rfl <| sv (r_pickF rfl rfl rfl) <| sv (r_assign rfl) <| wt <| wp_ret ?_
        obtain rfl := ends hm
        exact rt rfl (.tmp rfl .nil) ⟨_, _, rfl, hL.ext, rfl⟩
    · refine wlF rfl rfl rfl rfl hg3 rfl <| wlF rfl rfl rfl rfl hg3 rfl <| wlF rfl rfl rfl rfl hg3 rfl <| sv (r_pickF hg3 rfl rfl) <| sv (r_move rfl) <| wlF rfl rfl rfl rfl rfl rfl <| wlF rfl rfl rfl rfl rfl rfl <| wlF rfl rfl rfl rfl rfl rfl <| sv (r_pickF rfl rfl rfl) <| sv (r_move rfl) <| wlF rfl rfl rfl rfl rfl rfl <| wlF rfl rfl rfl rfl rfl rfl <| wlF rfl rfl rfl rfl rfl rfl <| sv (r_pickF rfl rfl rfl) <| sv (r_assign rfl) <| wt <| wp_ret ?_
      obtain rfl := ends hm
      exact rt rfl (.tmp rfl .nil) ⟨_, _, rfl, hL.ext, rfl⟩

/-- clock.Clip -/
def m108 (a0 : Int) : Option Int :=
  (some ((mn (mx a0 (0 : Int)) (1152921504606846976 : Int))))
set_option maxHeartbeats 20000000 in
set_option maxRecDepth 100000 in
theorem c108 : ∀ {H0 : Hp} {w0 : World} {a0 : Int}  (_ : Imm H0 w0) {r : Int} (_ : m108 a0 = some r), Ct Tryz.prog 108 [.int .i64 a0] [] H0 w0 fun v H' w' => v = .int .i64 r := by
  intro H0 w0 a0  hI r hm
  have hL := L.start hI
  refine ct_of Tryz.func108 rfl Tryz.ntmps108 rfl (Nat.le_of_ble_eq_true rfl) ?_
  unfold m108 at hm
  refine sr <| sv (r_assign rfl) <| wt <| sr <| sv (r_move rfl) <| sv (r_max rfl rfl) <| sv (r_min rfl rfl) <| sv (r_assign rfl) <| wt <| wp_ret ?_
  obtain rfl := ends hm
  exact rt rfl (.tmp rfl .nil) ⟨_, _, rfl, hL.ext, rfl⟩

/-- clock.Add -/
def m109 (a0 : Int) (a1 : Int) : Option Int :=
  ((m108 a0).bind fun t1 => ((m108 a1).bind fun t2 => ((m108 (IntKind.wrap .i64 (t1 + t2))).bind fun t3 => (some (t3)))))
set_option maxHeartbeats 20000000 in
set_option maxRecDepth 100000 in
theorem c109 : ∀ {H0 : Hp} {w0 : World} {a0 : Int} {a1 : Int}  (_ : Imm H0 w0) {r : Int} (_ : m109 a0 a1 = some r), Ct Tryz.prog 109 [.int .i64 a0, .int .i64 a1] [] H0 w0 fun v H' w' => v = .int .i64 r := by
  intro H0 w0 a0 a1  hI r hm
  have hL := L.start hI
  refine ct_of Tryz.func109 rfl Tryz.ntmps109 rfl (Nat.le_of_ble_eq_true rfl) ?_
  unfold m109 at hm
  refine sr <| sv (r_assign rfl) <| wt <| sr <| sv (r_move rfl) ?_
  obtain ⟨t1, ht1, hm⟩ := bnd hm
  refine wl rfl (o_call0 hL fn_108 rfl (c108 hL.imm ht1) fun v H w hlet1 hL hR => ?_)
  obtain rfl := hR
  refine sv (r_move rfl) ?_
  obtain ⟨t2, ht2, hm⟩ := bnd hm
  refine wl rfl (o_call0 hL fn_108 rfl (c108 hL.imm ht2) fun v H w hlet2 hL hR => ?_)
  obtain rfl := hR
  refine sv (r_add rfl rfl) ?_
  obtain ⟨t3, ht3, hm⟩ := bnd hm
  refine wl rfl (o_call0 hL fn_108 rfl (c108 hL.imm ht3) fun v H w hlet3 hL hR => ?_)
  obtain rfl := hR
  refine sv (r_assign rfl) <| wt <| wp_ret ?_
  obtain rfl := ends hm
  exact rt rfl (.tmp rfl .nil) ⟨_, _, rfl, hL.ext, rfl⟩

/-- backoff.Delay -/
def m42_l1 (a0_1 : Int) : Nat → Int → Int → Option Int
  | 0, _, _ => none
  | k + 1, v1_2, v5_2 => (bif (decide ((1 : Int) < v1_2)) then (bif (decide (v5_2 < a0_1)) then (m42_l1 a0_1 k (IntKind.wrap .i64 (v1_2 - (1 : Int))) (IntKind.wrap .i64 (v5_2 * (2 : Int)))) else (some ((mn v5_2 a0_1)))) else (some ((mn v5_2 a0_1))))
def m42_j0 (a0_0 : Int) (a0_1 : Int) (a1 : Int) (v12_1 : Bool) : Option Int := (bif v12_1 then (some ((0 : Int))) else (m42_l1 a0_1 FUEL a1 a0_0))
def m42 (a0_0 : Int) (a0_1 : Int) (a0_2 : Int) (a0_3 : Int) (a1 : Int) : Option Int :=
  ((m36 a0_0 a0_1 a0_2 a0_3).bind fun t4 => (bif (!t4) then (m42_j0 a0_0 a0_1 a1 true) else (m42_j0 a0_0 a0_1 a1 (decide (a1 < (1 : Int))))))
set_option maxHeartbeats 20000000 in
set_option maxRecDepth 100000 in
theorem c42 : ∀ {H0 : Hp} {w0 : World} {a0_0 : Int} {a0_1 : Int} {a0_2 : Int} {a0_3 : Int} {a1 : Int}  (_ : Imm H0 w0) {r : Int} (_ : m42 a0_0 a0_1 a0_2 a0_3 a1 = some r), Ct Tryz.prog 42 [.agg (List.toArray [.int .i64 a0_0, .int .i64 a0_1, .int .i64 a0_2, .int .i64 a0_3]), .int .i64 a1] [] H0 w0 fun v H' w' => v = .int .i64 r := by
  intro H0 w0 a0_0 a0_1 a0_2 a0_3 a1  hI r hm
  have hL := L.start hI
  refine ct_of Tryz.func42 rfl Tryz.ntmps42 rfl (Nat.le_of_ble_eq_true rfl) ?_
  unfold m42 at hm
  refine sr ?_
  refine wl rfl (o_box 0 (c := [_, _, _, _]) hL rfl rfl fun b0 w hL => ?_)
  refine sv (r_assign rfl) <| wt <| wp_seq ?_
  refine w_join (fun a w => ∃ (v12_1 : Bool) (l : List (Nat × Value)) (H : Hp), a = fr 31 ([(1, .int .i64 a1), (2, .pointer (some ⟨b0, 0, none⟩)), (4, .int .i64 0), (12, .bool v12_1)] ++ l) [] ∧ L [] H0 w0 [(0, .cel b0 ((.int .i64 a0_0) :: (.int .i64 a0_1) :: (.int .i64 a0_2) :: (.int .i64 a0_3) :: []) 70)] H w ∧ (m42_j0 a0_0 a0_1 a1 v12_1) = some r) (fun a w hj => ?_) ?_
  · obtain ⟨v12_1, l, H, rfl, hL, hm⟩ := hj
    unfold m42_j0 at hm
    refine c_if hm rfl (fun hg1 hm => ?_) (fun hg1 hm => ?_)
    · refine sr <| sv (r_assign rfl) <| wt <| wp_ret <| then_r ?_
      obtain rfl := ends hm
      exact rt rfl (.tmp rfl .nil) ⟨_, _, rfl, hL.ext, rfl⟩
    · refine wp_skip <| then_n <| sr <| sv (r_fieldAddr fl_70_0 rfl) <| sv (r_load1 (hL.own 0 _ rfl) sc_3 rfl rfl) <| sv (r_assign rfl) <| wt <| wp_seq <| wp_block <| wp_loop_fuel (k := FUEL) (fun k a w => ∃ (v1_2 : Int) (v5_2 : Int) (l : List (Nat × Value)) (H : Hp), a = fr 31 ([(1, .int .i64 v1_2), (2, .pointer (some ⟨b0, 0, none⟩)), (4, .int .i64 0), (5, .int .i64 v5_2)] ++ l) [] ∧ L [] H0 w0 [(0, .cel b0 ((.int .i64 a0_0) :: (.int .i64 a0_1) :: (.int .i64 a0_2) :: (.int .i64 a0_3) :: []) 70)] H w ∧ (m42_l1 a0_1 k v1_2 v5_2) = some r) ⟨_, _, _, _, fr_pre _ rfl, hL.pick _ rfl, hm⟩ ?_
      rintro k1 a w ⟨v1_2, v5_2, l, H, rfl, hL, hm⟩
      cases k1 with
      | zero => rw [m42_l1.eq_1] at hm; cases hm
      | succ k1 =>
        rw [m42_l1.eq_2] at hm
        refine wp_seq <| sr <| sv (r_move rfl) <| sv (r_gtr rfl rfl) <| sv (r_move rfl) ?_
        refine m_if hm (fun hg2 hm => ?_) (fun hg2 hm => ?_)
        · refine wlT rfl rfl rfl rfl hg2 (o_val (r_move rfl) ?_)
          refine wlT rfl rfl rfl rfl hg2 (o_val (r_fieldAddr fl_70_1 rfl) ?_)
          refine wlT rfl rfl rfl rfl hg2 (o_val (r_load1 (hL.own 0 _ rfl) sc_3 rfl rfl) ?_)
          refine wlT rfl rfl rfl rfl hg2 (o_val (r_lss rfl rfl) ?_)
          refine sv (r_pickT hg2 rfl rfl) <| wt ?_
          refine c_if hm rfl (fun hg3 hm => ?_) (fun hg3 hm => ?_)
          · refine wp_skip <| then_n <| wp_seq <| wp_block <| rg <| sv (r_move rfl) <| sv (r_mul rfl rfl) <| sv (r_assign rfl) <| wn <| blk_n <| then_n <| rg <| sv (r_move rfl) <| sv (r_sub rfl rfl) <| sv (r_assign rfl) <| wt ?_
            exact ⟨k1, Nat.lt_succ_self k1, _, _, _, _, fr_pre _ rfl, hL.pick _ rfl, hm⟩
          · refine wp_exit <| then_e <| then_e <| blk_e <| then_n <| sr <| sv (r_move rfl) <| sv (r_fieldAddr fl_70_1 rfl) <| sv (r_load1 (hL.own 0 _ rfl) sc_3 rfl rfl) <| sv (r_min rfl rfl) <| sv (r_assign rfl) <| wt <| wp_ret ?_
            obtain rfl := ends hm
            exact rt rfl (.tmp rfl .nil) ⟨_, _, rfl, hL.ext, rfl⟩
        · refine wlF rfl rfl rfl rfl hg2 rfl <| wlF rfl rfl rfl rfl hg2 rfl <| wlF rfl rfl rfl rfl hg2 rfl <| wlF rfl rfl rfl rfl hg2 rfl <| sv (r_pickF hg2 rfl rfl) <| wt <| c_F rfl rfl <| wp_exit <| then_e <| then_e <| blk_e <| then_n <| sr <| sv (r_move rfl) <| sv (r_fieldAddr fl_70_1 rfl) <| sv (r_load1 (hL.own 0 _ rfl) sc_3 rfl rfl) <| sv (r_min rfl rfl) <| sv (r_assign rfl) <| wt <| wp_ret ?_
          obtain rfl := ends hm
          exact rt rfl (.tmp rfl .nil) ⟨_, _, rfl, hL.ext, rfl⟩
  · refine rg <| sv (r_loadk (hL.own 0 _ rfl) ag_70 rfl (vs := [_, _, _, _]) rfl rfl) ?_
    obtain ⟨t4, ht4, hm⟩ := bnd hm
    refine wl rfl (o_call0 hL fn_36 rfl (c36 hL.imm ht4) fun v H w hlet4 hL hR => ?_)
    obtain rfl := hR
    refine sv (r_not rfl) <| sv (r_move rfl) ?_
    refine m_if hm (fun hg5 hm => ?_) (fun hg5 hm => ?_)
    · refine wlF rfl rfl rfl rfl hg5 rfl <| wlF rfl rfl rfl rfl hg5 rfl <| sv (r_pickT hg5 rfl rfl) <| wt ?_
      exact ⟨_, _, _, fr_pre _ rfl, hL.pick _ rfl, hm⟩
    · refine wlT rfl rfl rfl rfl hg5 (o_val (r_move rfl) ?_)
      refine wlT rfl rfl rfl rfl hg5 (o_val (r_lss rfl rfl) ?_)
      refine sv (r_pickF hg5 rfl rfl) <| wt ?_
      exact ⟨_, _, _, fr_pre _ rfl, hL.pick _ rfl, hm⟩

/-- backoff.Total -/
def m43_j0 (a0_1 : Int) (a1 : Int) (v5_1 : Int) (v6_1 : Int) : Option Int := (bif (a0_1 != (0 : Int)) then (bif (decide ((IntKind.wrap .i64 (Int.tdiv (1152921504606846976 : Int) a0_1)) < (mx (IntKind.wrap .i64 ((IntKind.wrap .i64 (a1 - v6_1)) + (1 : Int))) (0 : Int)))) then (some ((1152921504606846976 : Int))) else ((m109 v5_1 (IntKind.wrap .i64 ((mx (IntKind.wrap .i64 ((IntKind.wrap .i64 (a1 - v6_1)) + (1 : Int))) (0 : Int)) * a0_1))).bind fun t5 => (some (t5)))) else none)
def m43_l1 (a0_0 : Int) (a0_1 : Int) (a0_2 : Int) (a0_3 : Int) (a1 : Int) : Nat → Int → Int → Option Int
  | 0, _, _ => none
  | k + 1, v5_2, v6_2 => (bif (decide (v6_2 ≤ a1)) then ((m42 a0_0 a0_1 a0_2 a0_3 v6_2).bind fun t7 => (bif (decide (t7 < a0_1)) then ((m42 a0_0 a0_1 a0_2 a0_3 v6_2).bind fun t9 => (m43_l1 a0_0 a0_1 a0_2 a0_3 a1 k (IntKind.wrap .i64 (v5_2 + t9)) (IntKind.wrap .i64 (v6_2 + (1 : Int))))) else (m43_j0 a0_1 a1 v5_2 v6_2))) else (m43_j0 a0_1 a1 v5_2 v6_2))
def m43 (a0_0 : Int) (a0_1 : Int) (a0_2 : Int) (a0_3 : Int) (a1 : Int) : Option Int :=
  ((m36 a0_0 a0_1 a0_2 a0_3).bind fun t1 => (bif (!t1) then (some ((0 : Int))) else (m43_l1 a0_0 a0_1 a0_2 a0_3 a1 FUEL (0 : Int) (1 : Int))))
set_option maxHeartbeats 20000000 in
set_option maxRecDepth 100000 in
theorem c43 : ∀ {H0 : Hp} {w0 : World} {a0_0 : Int} {a0_1 : Int} {a0_2 : Int} {a0_3 : Int} {a1 : Int}  (_ : Imm H0 w0) {r : Int} (_ : m43 a0_0 a0_1 a0_2 a0_3 a1 = some r), Ct Tryz.prog 43 [.agg (List.toArray [.int .i64 a0_0, .int .i64 a0_1, .int .i64 a0_2, .int .i64 a0_3]), .int .i64 a1] [] H0 w0 fun v H' w' => v = .int .i64 r := by
  intro H0 w0 a0_0 a0_1 a0_2 a0_3 a1  hI r hm
  have hL := L.start hI
  refine ct_of Tryz.func43 rfl Tryz.ntmps43 rfl (Nat.le_of_ble_eq_true rfl) ?_
  unfold m43 at hm
  refine sr ?_
  refine wl rfl (o_box 0 (c := [_, _, _, _]) hL rfl rfl fun b0 w hL => ?_)
  refine sv (r_assign rfl) <| wt <| wp_seq <| sr <| sv (r_loadk (hL.own 0 _ rfl) ag_70 rfl (vs := [_, _, _, _]) rfl rfl) ?_
  obtain ⟨t1, ht1, hm⟩ := bnd hm
  refine wl rfl (o_call0 hL fn_36 rfl (c36 hL.imm ht1) fun v H w hlet1 hL hR => ?_)
  obtain rfl := hR
  refine sv (r_not rfl) <| wt ?_
  refine c_if hm rfl (fun hg2 hm => ?_) (fun hg2 hm => ?_)
  · refine sr <| sv (r_assign rfl) <| wt <| wp_ret <| then_r ?_
    obtain rfl := ends hm
    exact rt rfl (.tmp rfl .nil) ⟨_, _, rfl, hL.ext, rfl⟩
  · refine wp_skip <| then_n <| sr <| sv (r_assign rfl) <| sv (r_assign rfl) <| wt ?_
    refine w_join (fun a w => ∃ (v5_1 : Int) (v6_1 : Int) (l : List (Nat × Value)) (H : Hp), a = fr 45 ([(1, .int .i64 a1), (2, .pointer (some ⟨b0, 0, none⟩)), (4, .int .i64 0), (5, .int .i64 v5_1), (6, .int .i64 v6_1)] ++ l) [] ∧ L [] H0 w0 [(0, .cel b0 ((.int .i64 a0_0) :: (.int .i64 a0_1) :: (.int .i64 a0_2) :: (.int .i64 a0_3) :: []) 70)] H w ∧ (m43_j0 a0_1 a1 v5_1 v6_1) = some r) (fun a w hj => ?_) ?_
    · obtain ⟨v5_1, v6_1, l, H, rfl, hL, hm⟩ := hj
      unfold m43_j0 at hm
      refine sr <| sv (r_move rfl) <| sv (r_move rfl) <| sv (r_sub rfl rfl) <| sv (r_add rfl rfl) <| sv (r_max rfl rfl) <| sv (r_assign rfl) <| wt <| wp_seq <| sr <| sv (r_move rfl) <| sv (r_fieldAddr fl_70_1 rfl) <| sv (r_load1 (hL.own 0 _ rfl) sc_3 rfl rfl) ?_
      obtain ⟨hg3, hm⟩ := grd hm
      refine sv (r_quo hg3 rfl rfl) <| sv (r_gtr rfl rfl) <| wt ?_
      refine c_if hm rfl (fun hg4 hm => ?_) (fun hg4 hm => ?_)
      · refine sr <| sv (r_assign rfl) <| wt <| wp_ret <| then_r ?_
        obtain rfl := ends hm
        exact rt rfl (.tmp rfl .nil) ⟨_, _, rfl, hL.ext, rfl⟩
      · refine wp_skip <| then_n <| sr <| sv (r_move rfl) <| sv (r_move rfl) <| sv (r_fieldAddr fl_70_1 rfl) <| sv (r_load1 (hL.own 0 _ rfl) sc_3 rfl rfl) <| sv (r_mul rfl rfl) ?_
        obtain ⟨t5, ht5, hm⟩ := bnd hm
        refine wl rfl (o_call0 hL fn_109 rfl (c109 hL.imm ht5) fun v H w hlet5 hL hR => ?_)
        obtain rfl := hR
        refine sv (r_assign rfl) <| wt <| wp_ret ?_
        obtain rfl := ends hm
        exact rt rfl (.tmp rfl .nil) ⟨_, _, rfl, hL.ext, rfl⟩
    · refine wp_block <| wp_loop_fuel (k := FUEL) (fun k a w => ∃ (v5_2 : Int) (v6_2 : Int) (l : List (Nat × Value)) (H : Hp), a = fr 45 ([(1, .int .i64 a1), (2, .pointer (some ⟨b0, 0, none⟩)), (4, .int .i64 0), (5, .int .i64 v5_2), (6, .int .i64 v6_2)] ++ l) [] ∧ L [] H0 w0 [(0, .cel b0 ((.int .i64 a0_0) :: (.int .i64 a0_1) :: (.int .i64 a0_2) :: (.int .i64 a0_3) :: []) 70)] H w ∧ (m43_l1 a0_0 a0_1 a0_2 a0_3 a1 k v5_2 v6_2) = some r) ⟨_, _, _, _, fr_pre _ rfl, hL.pick _ rfl, hm⟩ ?_
      rintro k1 a w ⟨v5_2, v6_2, l, H, rfl, hL, hm⟩
      cases k1 with
      | zero => rw [m43_l1.eq_1] at hm; cases hm
      | succ k1 =>
        rw [m43_l1.eq_2] at hm
        refine wp_seq <| wp_seq <| rd hL [0] [_] [(0, true), (1, true), (2, true), (3, true), (4, true), (5, true), (7, true), (8, true), (6, false), (9, true), (10, true)] mixed rfl (by kernel_rfl) fun w hL => dv rfl (fun w hS => r_move rfl) <| dv rfl (fun w hS => r_move rfl) <| dv rfl (fun w hS => r_leq rfl rfl) <| dv rfl (fun w hS => r_move rfl) ?_
        refine m_if hm (fun hg6 hm => ?_) (fun hg6 hm => ?_)
        · refine dvT rfl rfl rfl rfl hg6 (fun w hS => r_loadk hS.2.1 ag_70 rfl (vs := [_, _, _, _]) rfl rfl) <| dvT rfl rfl rfl rfl hg6 (fun w hS => r_move rfl) <| dvT rfl rfl rfl rfl hg6 (fun w hS => r_fieldAddr fl_70_1 rfl) <| dvT rfl rfl rfl rfl hg6 (fun w hS => r_load1 hS.2.1 sc_3 rfl rfl) ?_
          obtain ⟨t7, ht7, hm⟩ := bnd hm
          refine dhT rfl rfl rfl rfl rfl hg6 (o_call0 hL fn_42 rfl (c42 hL.imm ht7) fun v H w hlet7 hL hR => ⟨Sd.of hL ((Hle.refl _).trans hlet7) [0] rfl, ?_⟩)
          obtain rfl := hR
          refine dvT rfl rfl rfl rfl hg6 (fun w hS => r_lss rfl rfl) <| dv rfl (fun w hS => r_pickT hg6 rfl rfl) <| dn <| then_n ?_
          refine c_if hm rfl (fun hg8 hm => ?_) (fun hg8 hm => ?_)
          · refine wp_skip <| then_n <| wp_seq <| wp_block <| rg <| sv (r_move rfl) <| sv (r_loadk (hL.own 0 _ rfl) ag_70 rfl (vs := [_, _, _, _]) rfl rfl) <| sv (r_move rfl) ?_
            obtain ⟨t9, ht9, hm⟩ := bnd hm
            refine wl rfl (o_call0 hL fn_42 rfl (c42 hL.imm ht9) fun v H w hlet9 hL hR => ?_)
            obtain rfl := hR
            refine sv (r_add rfl rfl) <| sv (r_assign rfl) <| wn <| blk_n <| then_n <| rg <| sv (r_move rfl) <| sv (r_add rfl rfl) <| sv (r_assign rfl) <| wt ?_
            exact ⟨k1, Nat.lt_succ_self k1, _, _, _, _, fr_pre _ rfl, hL.pick _ rfl, hm⟩
          · refine wp_exit <| then_e <| then_e <| blk_e <| then_n ?_
            exact ⟨_, _, _, _, fr_pre _ rfl, hL.pick _ rfl, hm⟩
        · refine dvF rfl rfl rfl rfl hg6 <| dvF rfl rfl rfl rfl hg6 <| dvF rfl rfl rfl rfl hg6 <| dvF rfl rfl rfl rfl hg6 <| dhF rfl rfl rfl rfl rfl hg6 rfl (Sd.of hL (Hle.refl _) [0] rfl) <| dvF rfl rfl rfl rfl hg6 <| dv rfl (fun w hS => r_pickF hg6 rfl rfl) <| dn <| then_n <| c_F rfl rfl <| wp_exit <| then_e <| then_e <| blk_e <| then_n ?_
          exact ⟨_, _, _, _, fr_pre _ rfl, hL.pick _ rfl, hm⟩

/-- value.short -/
def m313 (a0 : Bs) : Option Bool :=
  (some ((decide ((a0.length : Int) ≤ (256 : Int)))))
set_option maxHeartbeats 20000000 in
set_option maxRecDepth 100000 in
theorem c313 : ∀ {H0 : Hp} {w0 : World} {a0 : Bs}  (_ : Imm H0 w0) {r : Bool} (_ : m313 a0 = some r), Ct Tryz.prog 313 [.string (mk a0)] [] H0 w0 fun v H' w' => v = .bool r := by
  intro H0 w0 a0  hI r hm
  have hL := L.start hI
  refine ct_of Tryz.func313 rfl Tryz.ntmps313 rfl (Nat.le_of_ble_eq_true rfl) ?_
  unfold m313 at hm
  refine sr <| sv (r_assign rfl) <| wt <| sr <| sv (r_move rfl) <| sv (r_lens rfl Tryz.underlying9 rfl) <| sv (r_leq rfl rfl) <| sv (r_assign rfl) <| wt <| wp_ret ?_
  obtain rfl := ends hm
  exact rt rfl (.tmp rfl .nil) ⟨_, _, rfl, hL.ext, rfl⟩

/-- value.near -/
def m323 (a0 : Int) : Option Bool :=
  (bif (decide (((-9007199254740992) : Int) ≤ a0)) then (some ((decide (a0 ≤ (9007199254740992 : Int))))) else none)
set_option maxHeartbeats 20000000 in
set_option maxRecDepth 100000 in
theorem c323 : ∀ {H0 : Hp} {w0 : World} {a0 : Int}  (_ : Imm H0 w0) {r : Bool} (_ : m323 a0 = some r), Ct Tryz.prog 323 [.int .i64 a0] [] H0 w0 fun v H' w' => v = .bool r := by
  intro H0 w0 a0  hI r hm
  have hL := L.start hI
  refine ct_of Tryz.func323 rfl Tryz.ntmps323 rfl (Nat.le_of_ble_eq_true rfl) ?_
  unfold m323 at hm
  refine sr <| sv (r_assign rfl) <| wt <| sr <| sv (r_move rfl) <| sv (r_geq rfl rfl) <| sv (r_move rfl) ?_
  refine m_if hm (fun hg1 hm => ?_) (fun hg1 hm => ?_)
  · refine wlT rfl rfl rfl rfl hg1 (o_val (r_move rfl) ?_)
    refine wlT rfl rfl rfl rfl hg1 (o_val (r_leq rfl rfl) ?_)
    refine sv (r_pickT hg1 rfl rfl) <| sv (r_assign rfl) <| wt <| wp_ret ?_
    obtain rfl := ends hm
    exact rt rfl (.tmp rfl .nil) ⟨_, _, rfl, hL.ext, rfl⟩
  · cases hm

/-- kind.Named -/
def m112_j0 (a0 : Bs) : Option Bool := (bif (!(a0 == ([] : Bs))) then (some ((decide ((a0.length : Int) ≤ (20 : Int))))) else none)
def m112_l1 (a0 : Bs) : Nat → Int → Option Bool
  | 0, _ => none
  | k + 1, v7_2 => (bif (decide (v7_2 < (a0.length : Int))) then (bif (decide (0 ≤ v7_2 ∧ v7_2 < (a0.length : Int))) then (bif (decide ((97 : Int) ≤ (bat a0 v7_2))) then (bif (decide ((bat a0 v7_2) ≤ (122 : Int))) then (m112_l1 a0 k (IntKind.wrap .i64 (v7_2 + (1 : Int)))) else none) else none) else none) else (m112_j0 a0))
def m112 (a0 : Bs) : Option Bool :=
  (m112_l1 a0 FUEL (0 : Int))
set_option maxHeartbeats 20000000 in
set_option maxRecDepth 100000 in
theorem c112 : ∀ {H0 : Hp} {w0 : World} {a0 : Bs}  (_ : Imm H0 w0) {r : Bool} (_ : m112 a0 = some r), Ct Tryz.prog 112 [.string (mk a0)] [] H0 w0 fun v H' w' => v = .bool r := by
  intro H0 w0 a0  hI r hm
  have hL := L.start hI
  refine ct_of Tryz.func112 rfl Tryz.ntmps112 rfl (Nat.le_of_ble_eq_true rfl) ?_
  unfold m112 at hm
  refine sr <| sv (r_assign rfl) <| wt ?_
  refine w_join (fun a w => ∃  (l : List (Nat × Value)) (H : Hp), a = fr 40 ([(0, .string (mk a0)), (2, .bool false)] ++ l) [] ∧ L [] H0 w0 [] H w ∧ (m112_j0 a0) = some r) (fun a w hj => ?_) ?_
  · obtain ⟨l, H, rfl, hL, hm⟩ := hj
    unfold m112_j0 at hm
    refine sr <| sv (r_move rfl) <| sv (r_nes rfl rfl) <| sv (r_move rfl) ?_
    refine m_if hm (fun hg1 hm => ?_) (fun hg1 hm => ?_)
    · refine wlT rfl rfl rfl rfl hg1 (o_val (r_move rfl) ?_)
      refine wlT rfl rfl rfl rfl hg1 (o_val (r_lens rfl Tryz.underlying9 rfl) ?_)
      refine wlT rfl rfl rfl rfl hg1 (o_val (r_leq rfl rfl) ?_)
      refine sv (r_pickT hg1 rfl rfl) <| sv (r_assign rfl) <| wt <| wp_ret ?_
      obtain rfl := ends hm
      exact rt rfl (.tmp rfl .nil) ⟨_, _, rfl, hL.ext, rfl⟩
    · cases hm
  · refine sr <| sv (r_move rfl) <| sv (r_lens rfl Tryz.underlying9 rfl) <| sv (r_move rfl) <| wt <| wp_block <| wp_loop_fuel (k := FUEL) (fun k a w => ∃ (v7_2 : Int) (l : List (Nat × Value)) (H : Hp), a = fr 40 ([(0, .string (mk a0)), (2, .bool false), (6, .int .i64 (a0.length : Int)), (7, .int .i64 v7_2)] ++ l) [] ∧ L [] H0 w0 [] H w ∧ (m112_l1 a0 k v7_2) = some r) ⟨_, _, _, fr_pre _ rfl, hL.pick _ rfl, hm⟩ ?_
    rintro k1 a w ⟨v7_2, l, H, rfl, hL, hm⟩
    cases k1 with
    | zero => rw [m112_l1.eq_1] at hm; cases hm
    | succ k1 =>
      rw [m112_l1.eq_2] at hm
      refine sr <| sv (r_lss rfl rfl) <| wt <| wp_seq ?_
      refine c_if hm rfl (fun hg2 hm => ?_) (fun hg2 hm => ?_)
      · refine wp_skip <| then_n <| wp_seq <| wp_block <| sr <| sv (r_move rfl) <| sv (r_assign rfl) <| wt <| sr <| sv (r_move rfl) <| sv (r_move rfl) ?_
        obtain ⟨hg3, hm⟩ := grd hm
        refine sv (r_index Tryz.underlying9 hg3 rfl rfl) <| sv (r_assign rfl) <| wt <| sr <| sv (r_move rfl) <| sv (r_geq rfl rfl) <| sv (r_move rfl) ?_
        refine m_if hm (fun hg4 hm => ?_) (fun hg4 hm => ?_)
        · refine wlT rfl rfl rfl rfl hg4 (o_val (r_move rfl) ?_)
          refine wlT rfl rfl rfl rfl hg4 (o_val (r_leq rfl rfl) ?_)
          refine sv (r_pickT hg4 rfl rfl) <| sv (r_move rfl) ?_
          refine m_if hm (fun hg5 hm => ?_) (fun hg5 hm => ?_)
          · refine wlF rfl rfl rfl rfl hg5 rfl <| wlF rfl rfl rfl rfl hg5 rfl <| wlF rfl rfl rfl rfl hg5 rfl <| wlU rfl rfl rfl rfl rfl <| wlU rfl rfl rfl rfl rfl <| wlF rfl rfl rfl rfl hg5 rfl <| wlF rfl rfl rfl rfl hg5 rfl <| wlU rfl rfl rfl rfl rfl <| wlU rfl rfl rfl rfl rfl <| wlF rfl rfl rfl rfl hg5 rfl <| sv (r_pickT hg5 rfl rfl) <| sv (r_not rfl) <| wt <| c_F rfl rfl <| wp_skip <| blk_n <| then_n <| rg <| sv (r_add rfl rfl) <| sv (r_move rfl) <| wt ?_
            exact ⟨k1, Nat.lt_succ_self k1, _, _, _, fr_pre _ rfl, hL.pick _ rfl, hm⟩
          · cases hm
        · cases hm
      · refine wp_exit <| then_e <| then_e <| blk_e <| then_n ?_
        exact ⟨_, _, fr_pre _ rfl, hL.pick _ rfl, hm⟩

end Go.Proofs.YtcjphpenelnohaaGreatDoor
/- Gb: by tools/gen.py -/
set_option linter.unusedVariables false
namespace Go.Proofs.YtcjphpenelnohaaGreatDoor
open Go.RowKit

/-- value.Unset -/
def m64  : Option J :=
  (some (J.null))
set_option maxHeartbeats 20000000 in
set_option maxRecDepth 100000 in
theorem c64 : ∀ {H0 : Hp} {w0 : World}   (_ : Imm H0 w0) {r : J} (_ : m64  = some r), Ct Tryz.prog 64 [] [] H0 w0 fun v H' w' => ∃ (xr0_0 : Value), v = .agg (List.toArray [xr0_0]) ∧ VR H' xr0_0 r := by
  intro H0 w0  hI r hm
  have hL := L.start hI
  refine ct_of Tryz.func64 rfl Tryz.ntmps64 rfl (Nat.le_of_ble_eq_true rfl) ?_
  unfold m64 at hm
  refine sr ?_
  refine wl rfl (o_alloc 0 (c := [_]) hL ze_33 rfl fun b0 w hL => ?_)
  refine wt <| sr <| sv (r_build ze_33 st_33 rfl .nil (cs := [_]) rfl) ?_
  refine wl rfl (o_storek (i := 0) (vs := [_]) hL ag_33 rfl rfl rfl rfl (Nat.le_of_ble_eq_true rfl) (List.forall_mem_cons.2 ⟨rfl, List.forall_mem_nil _⟩) (c' := _ :: []) rfl fun w hL => ?_)
  refine wt <| wp_ret ?_
  obtain rfl := ends hm
  exact rt rfl (.agg (hL.own 0 _ rfl) ag_33 rfl (us := [_]) rfl rfl .nil) ⟨_, _, rfl, hL.ext, ⟨_, rfl, VR.null⟩⟩

/-- (value.Value).Kind -/
def m21 (a0_0 : J) : Option Int :=
  (bif (a0_0.kind == 1) then (some ((1 : Int))) else (bif a0_0.isBool then none else (bif a0_0.isInt then (some ((3 : Int))) else (bif a0_0.isPoint then none else (bif a0_0.isText then (some ((5 : Int))) else (bif a0_0.isList then (some ((6 : Int))) else (bif a0_0.isTab then (some ((7 : Int))) else (some ((0 : Int))))))))))
set_option maxHeartbeats 20000000 in
set_option maxRecDepth 100000 in
theorem c21 : ∀ {H0 : Hp} {w0 : World} {a0_0 : J} {xa0_0 : Value}  (_ : Imm H0 w0) (_ : VR H0 xa0_0 a0_0) {r : Int} (_ : m21 a0_0 = some r), Ct Tryz.prog 21 [.agg (List.toArray [xa0_0])] [] H0 w0 fun v H' w' => v = .int .i64 r := by
  intro H0 w0 a0_0 xa0_0  hI ha0_0 r hm
  have hL := L.start hI
  refine ct_of Tryz.func21 rfl Tryz.ntmps21 rfl (Nat.le_of_ble_eq_true rfl) ?_
  unfold m21 at hm
  refine sr ?_
  refine wl rfl (o_box 0 (c := [_]) hL rfl rfl fun b0 w hL => ?_)
  refine sv (r_assign rfl) <| wt <| wp_seq <| sr <| sv (r_fieldAddr fl_33_0 rfl) <| sv (r_load1 (hL.own 0 _ rfl) sc_20 rfl rfl) <| wt <| wp_block <| sr ?_
  obtain ⟨uy1, huy1⟩ := ta_later ha0_0
  refine sv (r_ta huy1 rfl) <| sv (r_extract rfl rfl) <| sv (r_extract rfl rfl) <| wt ?_
  refine c_if hm rfl (fun hg2 hm => ?_) (fun hg2 hm => ?_)
  · refine sr <| sv (r_assign rfl) <| wt <| wp_ret <| blk_r <| then_r ?_
    obtain rfl := ends hm
    exact rt rfl (.tmp rfl .nil) ⟨_, _, rfl, hL.ext, rfl⟩
  · refine sr <| sv (r_ta (ta_bool ha0_0) rfl) <| sv (r_extract rfl rfl) <| sv (r_extract rfl rfl) <| wt ?_
    refine c_if hm rfl (fun hg4 hm => ?_) (fun hg4 hm => ?_)
    · cases hm
    · refine sr <| sv (r_ta (ta_int ha0_0) rfl) <| sv (r_extract rfl rfl) <| sv (r_extract rfl rfl) <| wt ?_
      refine c_if hm rfl (fun hg6 hm => ?_) (fun hg6 hm => ?_)
      · refine sr <| sv (r_assign rfl) <| wt <| wp_ret <| blk_r <| then_r ?_
        obtain rfl := ends hm
        exact rt rfl (.tmp rfl .nil) ⟨_, _, rfl, hL.ext, rfl⟩
      · refine sr ?_
        obtain ⟨cxy7, cyy7, huy7, hcxy7, hcyy7, hrxy7, hryy7⟩ := ta_point ha0_0
        refine sv (r_ta huy7 rfl) <| sv (r_extract rfl rfl) <| sv (r_extract rfl rfl) <| wt ?_
        refine c_if hm rfl (fun hg8 hm => ?_) (fun hg8 hm => ?_)
        · cases hm
        · refine sr <| sv (r_ta (ta_text ha0_0) rfl) <| sv (r_extract rfl rfl) <| sv (r_extract rfl rfl) <| wt ?_
          refine c_if hm rfl (fun hg10 hm => ?_) (fun hg10 hm => ?_)
          · refine sr <| sv (r_assign rfl) <| wt <| wp_ret <| blk_r <| then_r ?_
            obtain rfl := ends hm
            exact rt rfl (.tmp rfl .nil) ⟨_, _, rfl, hL.ext, rfl⟩
          · refine sr ?_
            obtain ⟨ay11, cy11, huy11, hsy11, hly11⟩ := ta_list ha0_0
            refine sv (r_ta huy11 rfl) <| sv (r_extract rfl rfl) <| sv (r_extract rfl rfl) <| wt ?_
            refine c_if hm rfl (fun hg12 hm => ?_) (fun hg12 hm => ?_)
            · refine sr <| sv (r_assign rfl) <| wt <| wp_ret <| blk_r <| then_r ?_
              obtain rfl := ends hm
              exact rt rfl (.tmp rfl .nil) ⟨_, _, rfl, hL.ext, rfl⟩
            · refine sr ?_
              obtain ⟨qy13, huy13, hqy13⟩ := ta_tab ha0_0
              refine sv (r_ta huy13 rfl) <| sv (r_extract rfl rfl) <| sv (r_extract rfl rfl) <| wt ?_
              refine c_if hm rfl (fun hg14 hm => ?_) (fun hg14 hm => ?_)
              · refine sr <| sv (r_assign rfl) <| wt <| wp_ret <| blk_r <| then_r ?_
                obtain rfl := ends hm
                exact rt rfl (.tmp rfl .nil) ⟨_, _, rfl, hL.ext, rfl⟩
              · refine wp_skip <| blk_n <| then_n <| sr <| sv (r_assign rfl) <| wt <| wp_ret ?_
                obtain rfl := ends hm
                exact rt rfl (.tmp rfl .nil) ⟨_, _, rfl, hL.ext, rfl⟩

/-- (value.Value).Int -/
def m139 (a0_0 : J) : Option (Int × Bool) :=
  (some (a0_0.intv, a0_0.isInt))
set_option maxHeartbeats 20000000 in
set_option maxRecDepth 100000 in
theorem c139 : ∀ {H0 : Hp} {w0 : World} {a0_0 : J} {xa0_0 : Value}  (_ : Imm H0 w0) (_ : VR H0 xa0_0 a0_0) {r : (Int × Bool)} (_ : m139 a0_0 = some r), Ct Tryz.prog 139 [.agg (List.toArray [xa0_0])] [] H0 w0 fun v H' w' => v = .tuple (List.toArray [.int .i64 r.1, .bool r.2]) := by
  intro H0 w0 a0_0 xa0_0  hI ha0_0 r hm
  have hL := L.start hI
  refine ct_of Tryz.func139 rfl Tryz.ntmps139 rfl (Nat.le_of_ble_eq_true rfl) ?_
  unfold m139 at hm
  refine sr ?_
  refine wl rfl (o_box 0 (c := [_]) hL rfl rfl fun b0 w hL => ?_)
  refine sv (r_assign rfl) <| sv (r_assign rfl) <| wt <| sr <| sv (r_fieldAddr fl_33_0 rfl) <| sv (r_load1 (hL.own 0 _ rfl) sc_20 rfl rfl) <| sv (r_ta (ta_int ha0_0) rfl) <| sv (r_move rfl) <| sv (r_extract rfl rfl) <| sv (r_extract rfl rfl) <| sv (r_assign rfl) <| sv (r_assign rfl) <| wt <| sr <| sv (r_move rfl) <| sv (r_move rfl) <| sv (r_assign rfl) <| sv (r_assign rfl) <| wt <| wp_ret ?_
  obtain rfl := ends hm
  exact rt rfl (.tmp rfl (.tmp rfl .nil)) ⟨_, _, rfl, hL.ext, rfl⟩

/-- (value.Value).Text -/
def m142 (a0_0 : J) : Option (Bs × Bool) :=
  (some (a0_0.txt, a0_0.isText))
set_option maxHeartbeats 20000000 in
set_option maxRecDepth 100000 in
theorem c142 : ∀ {H0 : Hp} {w0 : World} {a0_0 : J} {xa0_0 : Value}  (_ : Imm H0 w0) (_ : VR H0 xa0_0 a0_0) {r : (Bs × Bool)} (_ : m142 a0_0 = some r), Ct Tryz.prog 142 [.agg (List.toArray [xa0_0])] [] H0 w0 fun v H' w' => v = .tuple (List.toArray [.string (mk r.1), .bool r.2]) := by
  intro H0 w0 a0_0 xa0_0  hI ha0_0 r hm
  have hL := L.start hI
  refine ct_of Tryz.func142 rfl Tryz.ntmps142 rfl (Nat.le_of_ble_eq_true rfl) ?_
  unfold m142 at hm
  refine sr ?_
  refine wl rfl (o_box 0 (c := [_]) hL rfl rfl fun b0 w hL => ?_)
  refine sv (r_assign rfl) <| sv (r_assign rfl) <| wt <| sr <| sv (r_fieldAddr fl_33_0 rfl) <| sv (r_load1 (hL.own 0 _ rfl) sc_20 rfl rfl) <| sv (r_ta (ta_text ha0_0) rfl) <| sv (r_move rfl) <| sv (r_extract rfl rfl) <| sv (r_extract rfl rfl) <| sv (r_assign rfl) <| sv (r_assign rfl) <| wt <| sr <| sv (r_move rfl) <| sv (r_move rfl) <| sv (r_assign rfl) <| sv (r_assign rfl) <| wt <| wp_ret ?_
  obtain rfl := ends hm
  exact rt rfl (.tmp rfl (.tmp rfl .nil)) ⟨_, _, rfl, hL.ext, rfl⟩

/-- value.Later -/
def m125  : Option J :=
  (some (J.later))
set_option maxHeartbeats 20000000 in
set_option maxRecDepth 100000 in
theorem c125 : ∀ {H0 : Hp} {w0 : World}   (_ : Imm H0 w0) {r : J} (_ : m125  = some r), Ct Tryz.prog 125 [] [] H0 w0 fun v H' w' => ∃ (xr0_0 : Value), v = .agg (List.toArray [xr0_0]) ∧ VR H' xr0_0 r := by
  intro H0 w0  hI r hm
  have hL := L.start hI
  refine ct_of Tryz.func125 rfl Tryz.ntmps125 rfl (Nat.le_of_ble_eq_true rfl) ?_
  unfold m125 at hm
  refine sr ?_
  refine wl rfl (o_alloc 0 (c := [_]) hL ze_33 rfl fun b0 w hL => ?_)
  refine wt <| sr <| sv (r_build ze_169 st_169 rfl .nil (cs := []) rfl) <| sv (r_mkI mkI_169 rfl) <| sv (r_build ze_33 st_33 rfl (.cons rfl .nil) (cs := [_]) rfl) ?_
  refine wl rfl (o_storek (i := 0) (vs := [_]) hL ag_33 rfl rfl rfl rfl (Nat.le_of_ble_eq_true rfl) (List.forall_mem_cons.2 ⟨rfl, List.forall_mem_nil _⟩) (c' := _ :: []) rfl fun w hL => ?_)
  refine wt <| wp_ret ?_
  obtain rfl := ends hm
  exact rt rfl (.agg (hL.own 0 _ rfl) ag_33 rfl (us := [_]) rfl rfl .nil) ⟨_, _, rfl, hL.ext, ⟨_, rfl, VR.later⟩⟩

/-- value.Int -/
def m245 (a0 : Int) : Option J :=
  (some ((J.int a0)))
set_option maxHeartbeats 20000000 in
set_option maxRecDepth 100000 in
theorem c245 : ∀ {H0 : Hp} {w0 : World} {a0 : Int}  (_ : Imm H0 w0) {r : J} (_ : m245 a0 = some r), Ct Tryz.prog 245 [.int .i64 a0] [] H0 w0 fun v H' w' => ∃ (xr0_0 : Value), v = .agg (List.toArray [xr0_0]) ∧ VR H' xr0_0 r := by
  intro H0 w0 a0  hI r hm
  have hL := L.start hI
  refine ct_of Tryz.func245 rfl Tryz.ntmps245 rfl (Nat.le_of_ble_eq_true rfl) ?_
  unfold m245 at hm
  refine sr ?_
  refine wl rfl (o_alloc 0 (c := [_]) hL ze_33 rfl fun b0 w hL => ?_)
  refine wt <| sr <| sv (r_move rfl) <| sv (r_mkI mkI_3 rfl) <| sv (r_build ze_33 st_33 rfl (.cons rfl .nil) (cs := [_]) rfl) ?_
  refine wl rfl (o_storek (i := 0) (vs := [_]) hL ag_33 rfl rfl rfl rfl (Nat.le_of_ble_eq_true rfl) (List.forall_mem_cons.2 ⟨rfl, List.forall_mem_nil _⟩) (c' := _ :: []) rfl fun w hL => ?_)
  refine wt <| wp_ret ?_
  obtain rfl := ends hm
  exact rt rfl (.agg (hL.own 0 _ rfl) ag_33 rfl (us := [_]) rfl rfl .nil) ⟨_, _, rfl, hL.ext, ⟨_, rfl, VR.int⟩⟩

/-- value.Text -/
def m249 (a0 : Bs) : Option J :=
  (some ((J.text a0)))
set_option maxHeartbeats 20000000 in
set_option maxRecDepth 100000 in
theorem c249 : ∀ {H0 : Hp} {w0 : World} {a0 : Bs}  (_ : Imm H0 w0) {r : J} (_ : m249 a0 = some r), Ct Tryz.prog 249 [.string (mk a0)] [] H0 w0 fun v H' w' => ∃ (xr0_0 : Value), v = .agg (List.toArray [xr0_0]) ∧ VR H' xr0_0 r := by
  intro H0 w0 a0  hI r hm
  have hL := L.start hI
  refine ct_of Tryz.func249 rfl Tryz.ntmps249 rfl (Nat.le_of_ble_eq_true rfl) ?_
  unfold m249 at hm
  refine sr ?_
  refine wl rfl (o_alloc 0 (c := [_]) hL ze_33 rfl fun b0 w hL => ?_)
  refine wt <| sr <| sv (r_move rfl) <| sv (r_mkI mkI_9 rfl) <| sv (r_build ze_33 st_33 rfl (.cons rfl .nil) (cs := [_]) rfl) ?_
  refine wl rfl (o_storek (i := 0) (vs := [_]) hL ag_33 rfl rfl rfl rfl (Nat.le_of_ble_eq_true rfl) (List.forall_mem_cons.2 ⟨rfl, List.forall_mem_nil _⟩) (c' := _ :: []) rfl fun w hL => ?_)
  refine wt <| wp_ret ?_
  obtain rfl := ends hm
  exact rt rfl (.agg (hL.own 0 _ rfl) ag_33 rfl (us := [_]) rfl rfl .nil) ⟨_, _, rfl, hL.ext, ⟨_, rfl, VR.text⟩⟩

/-- internal/stringslite.HasPrefix -/
def m335 (a0 : Bs) (a1 : Bs) : Option Bool :=
  (bif (decide ((a1.length : Int) ≤ (a0.length : Int))) then (bif (decide (0 ≤ (0 : Int) ∧ (0 : Int) ≤ (a1.length : Int) ∧ (a1.length : Int) ≤ (a0.length : Int))) then (some ((((a0.take ((a1.length : Int)).toNat).drop ((0 : Int)).toNat) == a1))) else none) else (some (false)))
set_option maxHeartbeats 20000000 in
set_option maxRecDepth 100000 in
theorem c335 : ∀ {H0 : Hp} {w0 : World} {a0 : Bs} {a1 : Bs}  (_ : Imm H0 w0) {r : Bool} (_ : m335 a0 a1 = some r), Ct Tryz.prog 335 [.string (mk a0), .string (mk a1)] [] H0 w0 fun v H' w' => v = .bool r := by
  intro H0 w0 a0 a1  hI r hm
  have hL := L.start hI
  refine ct_of Tryz.func335 rfl Tryz.ntmps335 rfl (Nat.le_of_ble_eq_true rfl) ?_
  unfold m335 at hm
  refine sr <| sv (r_assign rfl) <| wt <| sr <| sv (r_move rfl) <| sv (r_lens rfl Tryz.underlying9 rfl) <| sv (r_move rfl) <| sv (r_lens rfl Tryz.underlying9 rfl) <| sv (r_geq rfl rfl) <| sv (r_move rfl) ?_
  refine m_if hm (fun hg1 hm => ?_) (fun hg1 hm => ?_)
  · refine wlT rfl rfl rfl rfl hg1 (o_val (r_move rfl) ?_)
    refine wlT rfl rfl rfl rfl hg1 (o_val (r_move rfl) ?_)
    refine wlT rfl rfl rfl rfl hg1 (o_val (r_lens rfl Tryz.underlying9 rfl) ?_)
    obtain ⟨hg2, hm⟩ := grd hm
    refine wlT rfl rfl rfl rfl hg1 (o_val (r_slices Tryz.underlying9 hg2 rfl (.inr ⟨rfl, rfl⟩) (.inl ⟨_, _, rfl, rfl⟩)) ?_)
    refine wlT rfl rfl rfl rfl hg1 (o_val (r_move rfl) ?_)
    refine wlT rfl rfl rfl rfl hg1 (o_val (r_eqs rfl rfl) ?_)
    refine sv (r_pickT hg1 rfl rfl) <| sv (r_assign rfl) <| wt <| wp_ret ?_
    obtain rfl := ends hm
    exact rt rfl (.tmp rfl .nil) ⟨_, _, rfl, hL.ext, rfl⟩
  · refine wlF rfl rfl rfl rfl hg1 rfl <| wlF rfl rfl rfl rfl hg1 rfl <| wlF rfl rfl rfl rfl hg1 rfl <| wlF rfl rfl rfl rfl hg1 rfl <| wlF rfl rfl rfl rfl hg1 rfl <| wlF rfl rfl rfl rfl hg1 rfl <| sv (r_pickF hg1 rfl rfl) <| sv (r_assign rfl) <| wt <| wp_ret ?_
    obtain rfl := ends hm
    exact rt rfl (.tmp rfl .nil) ⟨_, _, rfl, hL.ext, rfl⟩

/-- internal/stringslite.CutPrefix -/
def m265 (a0 : Bs) (a1 : Bs) : Option (Bs × Bool) :=
  ((m335 a0 a1).bind fun t1 => (bif (!t1) then none else (bif (decide (0 ≤ (a1.length : Int) ∧ (a1.length : Int) ≤ (a0.length : Int) ∧ (a0.length : Int) ≤ (a0.length : Int))) then (some (((a0.take ((a0.length : Int)).toNat).drop ((a1.length : Int)).toNat), true)) else none)))
set_option maxHeartbeats 20000000 in
set_option maxRecDepth 100000 in
theorem c265 : ∀ {H0 : Hp} {w0 : World} {a0 : Bs} {a1 : Bs}  (_ : Imm H0 w0) {r : (Bs × Bool)} (_ : m265 a0 a1 = some r), Ct Tryz.prog 265 [.string (mk a0), .string (mk a1)] [] H0 w0 fun v H' w' => v = .tuple (List.toArray [.string (mk r.1), .bool r.2]) := by
  intro H0 w0 a0 a1  hI r hm
  have hL := L.start hI
  refine ct_of Tryz.func265 rfl Tryz.ntmps265 rfl (Nat.le_of_ble_eq_true rfl) ?_
  unfold m265 at hm
  refine sr <| sv (r_assign rfl) <| sv (r_assign rfl) <| wt <| wp_seq <| sr <| sv (r_move rfl) <| sv (r_move rfl) ?_
  obtain ⟨t1, ht1, hm⟩ := bnd hm
  refine wl rfl (o_call0 hL fn_335 rfl (c335 hL.imm ht1) fun v H w hlet1 hL hR => ?_)
  obtain rfl := hR
  refine sv (r_not rfl) <| wt ?_
  refine c_if hm rfl (fun hg2 hm => ?_) (fun hg2 hm => ?_)
  · cases hm
  · refine wp_skip <| then_n <| sr <| sv (r_move rfl) <| sv (r_move rfl) <| sv (r_lens rfl Tryz.underlying9 rfl) ?_
    obtain ⟨hg3, hm⟩ := grd hm
    refine sv (r_slices Tryz.underlying9 hg3 rfl (.inl ⟨_, _, rfl, rfl⟩) (.inr ⟨rfl, rfl⟩)) <| sv (r_assign rfl) <| sv (r_assign rfl) <| wt <| wp_ret ?_
    obtain rfl := ends hm
    exact rt rfl (.tmp rfl (.tmp rfl .nil)) ⟨_, _, rfl, hL.ext, rfl⟩

/-- strings.CutPrefix -/
def m171 (a0 : Bs) (a1 : Bs) : Option (Bs × Bool) :=
  ((m265 a0 a1).bind fun t1 => (some (t1.1, t1.2)))
set_option maxHeartbeats 20000000 in
set_option maxRecDepth 100000 in
theorem c171 : ∀ {H0 : Hp} {w0 : World} {a0 : Bs} {a1 : Bs}  (_ : Imm H0 w0) {r : (Bs × Bool)} (_ : m171 a0 a1 = some r), Ct Tryz.prog 171 [.string (mk a0), .string (mk a1)] [] H0 w0 fun v H' w' => v = .tuple (List.toArray [.string (mk r.1), .bool r.2]) := by
  intro H0 w0 a0 a1  hI r hm
  have hL := L.start hI
  refine ct_of Tryz.func171 rfl Tryz.ntmps171 rfl (Nat.le_of_ble_eq_true rfl) ?_
  unfold m171 at hm
  refine sr <| sv (r_assign rfl) <| sv (r_assign rfl) <| wt <| sr <| sv (r_move rfl) <| sv (r_move rfl) ?_
  obtain ⟨t1, ht1, hm⟩ := bnd hm
  refine wl rfl (o_call0 hL fn_265 rfl (c265 hL.imm ht1) fun v H w hlet1 hL hR => ?_)
  obtain rfl := hR
  refine sv (r_extract rfl rfl) <| sv (r_extract rfl rfl) <| sv (r_assign rfl) <| sv (r_assign rfl) <| wt <| wp_ret ?_
  obtain rfl := ends hm
  exact rt rfl (.tmp rfl (.tmp rfl .nil)) ⟨_, _, rfl, hL.ext, rfl⟩

/-- strings.HasPrefix -/
def m299 (a0 : Bs) (a1 : Bs) : Option Bool :=
  ((m335 a0 a1).bind fun t1 => (some (t1)))
set_option maxHeartbeats 20000000 in
set_option maxRecDepth 100000 in
theorem c299 : ∀ {H0 : Hp} {w0 : World} {a0 : Bs} {a1 : Bs}  (_ : Imm H0 w0) {r : Bool} (_ : m299 a0 a1 = some r), Ct Tryz.prog 299 [.string (mk a0), .string (mk a1)] [] H0 w0 fun v H' w' => v = .bool r := by
  intro H0 w0 a0 a1  hI r hm
  have hL := L.start hI
  refine ct_of Tryz.func299 rfl Tryz.ntmps299 rfl (Nat.le_of_ble_eq_true rfl) ?_
  unfold m299 at hm
  refine sr <| sv (r_assign rfl) <| wt <| sr <| sv (r_move rfl) <| sv (r_move rfl) ?_
  obtain ⟨t1, ht1, hm⟩ := bnd hm
  refine wl rfl (o_call0 hL fn_335 rfl (c335 hL.imm ht1) fun v H w hlet1 hL hR => ?_)
  obtain rfl := hR
  refine sv (r_assign rfl) <| wt <| wp_ret ?_
  obtain rfl := ends hm
  exact rt rfl (.tmp rfl .nil) ⟨_, _, rfl, hL.ext, rfl⟩

/-- schema.version -/
def m91 (a0 : Bs) : Option (Int × Bool) :=
  ((m171 a0 [118, 101, 114, 115, 105, 111, 110, 32]).bind fun t1 => ((m172 t1.1).bind fun t2 => (bif t1.2 then (bif t2.2 then ((m121 t2.1).bind fun t5 => (some (t2.1, (t5 == t1.1)))) else none) else none)))
set_option maxHeartbeats 20000000 in
set_option maxRecDepth 100000 in
theorem c91 : ∀ {H0 : Hp} {w0 : World} {a0 : Bs}  (_ : Imm H0 w0) (_ : GT H0) {r : (Int × Bool)} (_ : m91 a0 = some r), Ct Tryz.prog 91 [.string (mk a0)] [] H0 w0 fun v H' w' => v = .tuple (List.toArray [.int .i64 r.1, .bool r.2]) := by
  intro H0 w0 a0  hI hG r hm
  have hL := L.start hI
  refine ct_of Tryz.func91 rfl Tryz.ntmps91 rfl (Nat.le_of_ble_eq_true rfl) ?_
  unfold m91 at hm
  refine sr <| sv (r_assign rfl) <| sv (r_assign rfl) <| wt <| sr <| sv (r_move rfl) ?_
  obtain ⟨t1, ht1, hm⟩ := bnd hm
  refine wl rfl (o_call0 hL fn_171 rfl (c171 hL.imm ht1) fun v H w hlet1 hL hR => ?_)
  replace hG := GT.mono hlet1 hG
  obtain rfl := hR
  refine sv (r_move rfl) <| sv (r_extract rfl rfl) <| sv (r_extract rfl rfl) <| sv (r_assign rfl) <| sv (r_assign rfl) <| wt <| sr <| sv (r_move rfl) ?_
  obtain ⟨t2, ht2, hm⟩ := bnd hm
  refine wl rfl (o_call0 hL fn_172 rfl (c172 hL.imm hG ht2) fun v H w hlet2 hL hR => ?_)
  replace hG := GT.mono hlet2 hG
  obtain ⟨pt2r1_0, rfl, ht2r1_0⟩ := hR
  refine sv (r_move rfl) <| sv (r_extract rfl rfl) <| sv (r_extract rfl rfl) <| sv (r_assign rfl) <| sv (r_assign rfl) <| wt <| sr <| sv (r_move rfl) <| sv (r_move rfl) <| sv (r_move rfl) ?_
  refine m_if hm (fun hg3 hm => ?_) (fun hg3 hm => ?_)
  · refine wlT rfl rfl rfl rfl hg3 (o_val (r_move rfl) ?_)
    refine wlT rfl rfl rfl rfl hg3 (o_val (r_eqER ht2r1_0 rfl) ?_)
    refine sv (r_pickT hg3 rfl rfl) <| sv (r_move rfl) ?_
    refine m_if hm (fun hg4 hm => ?_) (fun hg4 hm => ?_)
    · refine wlT rfl rfl rfl rfl hg4 (o_val (r_move rfl) ?_)
      obtain ⟨t5, ht5, hm⟩ := bnd hm
      refine wlT rfl rfl rfl rfl hg4 (o_call0 hL fn_121 rfl (c121 hL.imm hG ht5) fun v H w hlet5 hL hR => ?_)
      obtain rfl := hR
      refine wlT rfl rfl rfl rfl hg4 (o_val (r_move rfl) ?_)
      refine wlT rfl rfl rfl rfl hg4 (o_val (r_eqs rfl rfl) ?_)
      refine sv (r_pickT hg4 rfl rfl) <| sv (r_assign rfl) <| sv (r_assign rfl) <| wt <| wp_ret ?_
      obtain rfl := ends hm
      exact rt rfl (.tmp rfl (.tmp rfl .nil)) ⟨_, _, rfl, hL.ext, rfl⟩
    · cases hm
  · cases hm

/-- (*strings.Builder).WriteString -/
def m120 (s1 : Bs) (a1 : Bs) : Option (Int × Bool × Bs) :=
  ((m193 s1).bind fun t1 => (bif (decide (s1.length + a1.length ≤ LIM)) then (some ((a1.length : Int), true, (s1 ++ a1))) else none))
set_option maxHeartbeats 20000000 in
set_option maxRecDepth 100000 in
theorem c120 : ∀ {H0 : Hp} {w0 : World} {s1 : Bs} {a1 : Bs} {po00 : Value} {ao01 : Option Addr} {co01 : Nat} {zo01 : List Value} {b0 : Nat} (_ : Imm H0 w0) (_ : Rs.holds w0 (.two (.cel b0 (po00 :: (.slice ao01 (List.length s1) co01) :: []) 201) (.row (.slice ao01 (List.length s1) co01) 5 1 (List.length s1) zo01))) (_ : ∀ b' ∈ Rs.foot (.two (.cel b0 (po00 :: (.slice ao01 (List.length s1) co01) :: []) 201) (.row (.slice ao01 (List.length s1) co01) 5 1 (List.length s1) zo01)), H0 b' = none) (_ : BP b0 po00) (_ : LC cB8 H0 zo01 s1) {r : (Int × Bool × Bs)} (_ : m120 s1 a1 = some r), Ct Tryz.prog 120 [.pointer (some ⟨b0, 0, none⟩), .string (mk a1)] (Rs.foot (.two (.cel b0 (po00 :: (.slice ao01 (List.length s1) co01) :: []) 201) (.row (.slice ao01 (List.length s1) co01) 5 1 (List.length s1) zo01))) H0 w0 fun v H' w' => ∃ x : Value × (Option Addr) × Nat × (List Value) × Value, (v = .tuple (List.toArray [.int .i64 r.1, x.1]) ∧ ER (x.1) r.2.1 ∧ LC cB8 H' (x.2.2.2.1) r.2.2 ∧ BP b0 x.2.2.2.2) ∧ Rs.holds w' (.two (.cel b0 ((x.2.2.2.2) :: (.slice (x.2.1) (List.length r.2.2) (x.2.2.1)) :: []) 201) (.row (.slice (x.2.1) (List.length r.2.2) (x.2.2.1)) 5 1 (List.length r.2.2) (x.2.2.2.1))) ∧ ∀ b' ∈ Rs.foot (.two (.cel b0 ((x.2.2.2.2) :: (.slice (x.2.1) (List.length r.2.2) (x.2.2.1)) :: []) 201) (.row (.slice (x.2.1) (List.length r.2.2) (x.2.2.1)) 5 1 (List.length r.2.2) (x.2.2.2.1))), H' b' = none ∧ (b' ∈ Rs.foot (.two (.cel b0 (po00 :: (.slice ao01 (List.length s1) co01) :: []) 201) (.row (.slice ao01 (List.length s1) co01) 5 1 (List.length s1) zo01)) ∨ w0.heap.size ≤ b') := by
  intro H0 w0 s1 a1 po00 ao01 co01 zo01 b0  hI hb hn ho00 ho01 r hm
  have hL := L.one hI hb hn
  have hL := hL.split 0 1 rfl rfl (.inl rfl)
  refine ct_of Tryz.func120 rfl Tryz.ntmps120 rfl (Nat.le_of_ble_eq_true rfl) ?_
  unfold m120 at hm
  refine sr <| sv (r_assign rfl) <| sv (r_assign rfl) <| wt <| sr <| sv (r_move rfl) ?_
  obtain ⟨t1, ht1, hm⟩ := bnd hm
  have hL := hL.merge 0 1 rfl rfl rfl
  refine wl rfl (o_callE 0 hL fn_193 rfl rfl (c193 hL.imm (hL.own 0 _ rfl) (fun b' hb' => (hL.non 0 _ rfl b' hb').1) ho00 ho01 ht1) fun pt1m0_0 v H w hlet1 hL hR => ?_)
  try dsimp only at hL hR
  replace ho01 := LC.mono hlet1 ho01
  obtain ⟨rfl, ht1m0_0⟩ := hR
  have hL := hL.split 0 1 rfl rfl (.inr rfl)
  have hL := hL.pick [(0, .cel b0 (pt1m0_0 :: (.slice ao01 (List.length s1) co01) :: []) 201), (1, .row (.slice ao01 (List.length s1) co01) 5 1 (List.length s1) zo01)] rfl
  refine wt <| sr <| sv (r_move rfl) <| sv (r_move rfl) <| sv (r_nilCheck rfl) <| sv (r_fieldAddr fl_201_1 rfl) <| sv (r_load1 (hL.own 0 _ rfl) sc_87 rfl rfl) <| sv (r_move rfl) ?_
  obtain ⟨hg2, hm⟩ := grd hm
  refine wl rfl (o_appendStr 1 hL el_87 Tryz.underlying9 rfl rfl rfl ho01 hg2 fun aw3 cw3 zw3 w hww3 hL => ?_)
  refine sv (r_nilCheck rfl) <| sv (r_fieldAddr fl_201_1 rfl) ?_
  refine wl rfl (o_store1 (i := 0) hL sc_87 rfl rfl rfl rfl rfl (c' := _ :: _ :: []) rfl fun w hL => ?_)
  refine wt <| sr <| sv (r_move rfl) <| sv (r_lens rfl Tryz.underlying9 rfl) <| sv (r_assign rfl) <| sv (r_assign rfl) <| wt <| wp_ret ?_
  obtain rfl := ends hm
  refine rt rfl (.tmp rfl (.tmp rfl .nil)) ⟨_, _, rfl, hL.ext, ?_⟩
  have hL := hL.merge 0 1 rfl rfl rfl
  exact ⟨⟨.nilIface, aw3, cw3, zw3, pt1m0_0⟩, ⟨rfl, (.inl ⟨rfl, rfl⟩), hww3, ht1m0_0⟩, hL.give (i := 0) rfl⟩

/-- (*strings.Builder).WriteByte -/
def m206 (s1 : Bs) (a1 : Int) : Option (Bool × Bs) :=
  ((m193 s1).bind fun t1 => (bif (decide (0 ≤ a1 ∧ a1 < 256)) then (bif (decide (s1.length + ([(UInt8.ofNat (a1).toNat)] : Bs).length ≤ LIM)) then (some (true, (s1 ++ ([(UInt8.ofNat (a1).toNat)] : Bs)))) else none) else none))
set_option maxHeartbeats 20000000 in
set_option maxRecDepth 100000 in
theorem c206 : ∀ {H0 : Hp} {w0 : World} {s1 : Bs} {a1 : Int} {po00 : Value} {ao01 : Option Addr} {co01 : Nat} {zo01 : List Value} {b0 : Nat} (_ : Imm H0 w0) (_ : Rs.holds w0 (.two (.cel b0 (po00 :: (.slice ao01 (List.length s1) co01) :: []) 201) (.row (.slice ao01 (List.length s1) co01) 5 1 (List.length s1) zo01))) (_ : ∀ b' ∈ Rs.foot (.two (.cel b0 (po00 :: (.slice ao01 (List.length s1) co01) :: []) 201) (.row (.slice ao01 (List.length s1) co01) 5 1 (List.length s1) zo01)), H0 b' = none) (_ : BP b0 po00) (_ : LC cB8 H0 zo01 s1) {r : (Bool × Bs)} (_ : m206 s1 a1 = some r), Ct Tryz.prog 206 [.pointer (some ⟨b0, 0, none⟩), .int .u8 a1] (Rs.foot (.two (.cel b0 (po00 :: (.slice ao01 (List.length s1) co01) :: []) 201) (.row (.slice ao01 (List.length s1) co01) 5 1 (List.length s1) zo01))) H0 w0 fun v H' w' => ∃ x : Value × (Option Addr) × Nat × (List Value) × Value, (v = x.1 ∧ ER (x.1) r.1 ∧ LC cB8 H' (x.2.2.2.1) r.2 ∧ BP b0 x.2.2.2.2) ∧ Rs.holds w' (.two (.cel b0 ((x.2.2.2.2) :: (.slice (x.2.1) (List.length r.2) (x.2.2.1)) :: []) 201) (.row (.slice (x.2.1) (List.length r.2) (x.2.2.1)) 5 1 (List.length r.2) (x.2.2.2.1))) ∧ ∀ b' ∈ Rs.foot (.two (.cel b0 ((x.2.2.2.2) :: (.slice (x.2.1) (List.length r.2) (x.2.2.1)) :: []) 201) (.row (.slice (x.2.1) (List.length r.2) (x.2.2.1)) 5 1 (List.length r.2) (x.2.2.2.1))), H' b' = none ∧ (b' ∈ Rs.foot (.two (.cel b0 (po00 :: (.slice ao01 (List.length s1) co01) :: []) 201) (.row (.slice ao01 (List.length s1) co01) 5 1 (List.length s1) zo01)) ∨ w0.heap.size ≤ b') := by
  intro H0 w0 s1 a1 po00 ao01 co01 zo01 b0  hI hb hn ho00 ho01 r hm
  have hL := L.one hI hb hn
  have hL := hL.split 0 1 rfl rfl (.inl rfl)
  refine ct_of Tryz.func206 rfl Tryz.ntmps206 rfl (Nat.le_of_ble_eq_true rfl) ?_
  unfold m206 at hm
  refine sr <| sv (r_assign rfl) <| wt <| sr <| sv (r_move rfl) ?_
  obtain ⟨t1, ht1, hm⟩ := bnd hm
  have hL := hL.merge 0 1 rfl rfl rfl
  refine wl rfl (o_callE 0 hL fn_193 rfl rfl (c193 hL.imm (hL.own 0 _ rfl) (fun b' hb' => (hL.non 0 _ rfl b' hb').1) ho00 ho01 ht1) fun pt1m0_0 v H w hlet1 hL hR => ?_)
  try dsimp only at hL hR
  replace ho01 := LC.mono hlet1 ho01
  obtain ⟨rfl, ht1m0_0⟩ := hR
  have hL := hL.split 0 1 rfl rfl (.inr rfl)
  have hL := hL.pick [(0, .cel b0 (pt1m0_0 :: (.slice ao01 (List.length s1) co01) :: []) 201), (1, .row (.slice ao01 (List.length s1) co01) 5 1 (List.length s1) zo01)] rfl
  refine wt <| sr <| sv (r_move rfl) <| sv (r_move rfl) <| sv (r_nilCheck rfl) <| sv (r_fieldAddr fl_201_1 rfl) <| sv (r_load1 (hL.own 0 _ rfl) sc_87 rfl rfl) <| sv (r_move rfl) ?_
  obtain ⟨hg2, hm⟩ := grd hm
  have hww3 : LC cB8 hL.hp [.int .u8 a1] ([(UInt8.ofNat (a1).toNat)] : Bs) := (LC.cons (K := cB8) (cs := [.int .u8 a1]) (b8_of hg2) LC.nil)
  refine wl rfl (o_buildSlice (C := cB8) 2 hL el_87 ze_5 rfl (.cons rfl .nil) rfl rfl rfl rfl hww3 fun gw3 w hL => ?_)
  obtain ⟨hg4, hm⟩ := grd hm
  refine wl rfl (o_append (C := cB8) 1 2 hL el_87 rfl rfl rfl rfl hww3 rfl hg4 fun gw5 cw5 w hL => ?_)
  have hww5 := LC.append ho01 hww3
  refine sv (r_nilCheck rfl) <| sv (r_fieldAddr fl_201_1 rfl) ?_
  refine wl rfl (o_store1 (i := 0) hL sc_87 rfl rfl rfl rfl rfl (c' := _ :: _ :: []) rfl fun w hL => ?_)
  refine wt <| sr <| sv (r_assign rfl) <| wt <| wp_ret ?_
  obtain rfl := ends hm
  refine rt rfl (.tmp rfl .nil) ⟨_, _, rfl, hL.ext, ?_⟩
  have hL := hL.merge 0 1 rfl rfl rfl
  exact ⟨⟨.nilIface, (some ⟨gw5, 0, none⟩), cw5, (zo01 ++ [.int .u8 a1]), pt1m0_0⟩, ⟨rfl, (.inl ⟨rfl, rfl⟩), hww5, ht1m0_0⟩, hL.give (i := 0) rfl⟩

/-- (*schema.Schema).Attrs -/
def m94 (a0 : Sch) : Option (List At) :=
  (bif a0.isNo then none else ((m173 a0.lst).bind fun t3 => (some (t3))))
set_option maxHeartbeats 20000000 in
set_option maxRecDepth 100000 in
theorem c94 : ∀ {H0 : Hp} {w0 : World} {a0 : Sch} {pa0 : Value}  (_ : Imm H0 w0) (_ : ScR H0 pa0 a0) {r : List At} (_ : m94 a0 = some r), Ct Tryz.prog 94 [pa0] [] H0 w0 fun v H' w' => ∃ (ar0_0 : Option Addr) (cr0_0 : Nat), v = .slice ar0_0 (List.length r) cr0_0 ∧ Sl cAt H' ar0_0 cr0_0 r := by
  intro H0 w0 a0 pa0  hI ha0 r hm
  have hL := L.start hI
  refine ct_of Tryz.func94 rfl Tryz.ntmps94 rfl (Nat.le_of_ble_eq_true rfl) ?_
  unfold m94 at hm
  refine sr <| sv (r_assign rfl) <| wt <| wp_seq <| sr <| sv (r_move rfl) <| sv (r_eqPN Tryz.underlying26 (ScR.pn ha0) rfl rfl) <| wt ?_
  refine c_if hm rfl (fun hg1 hm => ?_) (fun hg1 hm => ?_)
  · cases hm
  · refine wp_skip <| then_n <| sr <| sv (r_move rfl) ?_
    obtain ⟨bp2, aap2, cap2, bmp2, emp2, kmp2, hvp2, hcp2, hsap2, hMp2, hTp2⟩ := ScR.get ha0 (congrArg (!·) hg1)
    refine sv (r_nilCheck (ev_eq rfl hvp2)) <| sv (r_fieldAddr fl_155_1 rfl) <| sv (r_loadH1 hL.imm sc_152 rfl (HC.sub hcp2 1 1 (us := [_]) rfl)) ?_
    obtain ⟨t3, ht3, hm⟩ := bnd hm
    have hL := hL.room 0
    refine wl rfl (o_callE 0 hL fn_173 rfl rfl (c173 hL.imm hsap2 ht3) fun x v H w hlet3 hL hR => ?_)
    obtain ⟨at3r0_0, ct3r0_0, zt3r0_0⟩ := x
    try dsimp only at hL hR
    obtain ⟨rfl, ht3r0_0⟩ := hR
    refine sv (r_assign rfl) <| wt <| wp_ret ?_
    obtain ⟨H, hlez4, hL, hsz4⟩ := hL.settle (i := 0) (K := cAt) rfl ht3r0_0
    obtain rfl := ends hm
    exact rt rfl (.tmp rfl .nil) ⟨_, _, rfl, hL.ext, ⟨_, _, rfl, hsz4⟩⟩

/-- (*schema.Schema).Find -/
def m20 (a0 : Sch) (a1 : Bs) : Option (Bs × Ty × Bool × Bool × Bool × Bool × Bool) :=
  (bif a0.isNo then none else (bif (decide (a1.length ≤ LIM)) then (bif (!(mhas (places 0 a0.lst) a1)) then none else (bif (decide (0 ≤ (mget (places 0 a0.lst) a1 0) ∧ (mget (places 0 a0.lst) a1 0) < (a0.lst.length : Int))) then (some ((a0.lst.getD ((mget (places 0 a0.lst) a1 0)).toNat default).name, (a0.lst.getD ((mget (places 0 a0.lst) a1 0)).toNat default).ty, (a0.lst.getD ((mget (places 0 a0.lst) a1 0)).toNat default).must, (a0.lst.getD ((mget (places 0 a0.lst) a1 0)).toNat default).own, (a0.lst.getD ((mget (places 0 a0.lst) a1 0)).toNat default).hide, (a0.lst.getD ((mget (places 0 a0.lst) a1 0)).toNat default).new, true)) else none)) else none))
set_option maxHeartbeats 20000000 in
set_option maxRecDepth 100000 in
theorem c20 : ∀ {H0 : Hp} {w0 : World} {a0 : Sch} {a1 : Bs} {pa0 : Value}  (_ : Imm H0 w0) (_ : ScR H0 pa0 a0) {r : (Bs × Ty × Bool × Bool × Bool × Bool × Bool)} (_ : m20 a0 a1 = some r), Ct Tryz.prog 20 [pa0, .string (mk a1)] [] H0 w0 fun v H' w' => ∃ (pr0_1 : Value), v = .tuple (List.toArray [.agg (List.toArray [.string (mk r.1), pr0_1, .bool r.2.2.1, .bool r.2.2.2.1, .bool r.2.2.2.2.1, .bool r.2.2.2.2.2.1]), .bool r.2.2.2.2.2.2]) ∧ TyR H' pr0_1 r.2.1 := by
  intro H0 w0 a0 a1 pa0  hI ha0 r hm
  have hL := L.start hI
  refine ct_of Tryz.func20 rfl Tryz.ntmps20 rfl (Nat.le_of_ble_eq_true rfl) ?_
  unfold m20 at hm
  refine sr ?_
  refine wl rfl (o_alloc 0 (c := [_, _, _, _, _, _]) hL ze_41 rfl fun b0 w hL => ?_)
  refine sv (r_assign rfl) <| wt <| wp_seq <| sr <| sv (r_move rfl) <| sv (r_eqPN Tryz.underlying26 (ScR.pn ha0) rfl rfl) <| wt ?_
  refine c_if hm rfl (fun hg1 hm => ?_) (fun hg1 hm => ?_)
  · cases hm
  · refine wp_skip <| then_n <| sr <| sv (r_move rfl) ?_
    obtain ⟨bp2, aap2, cap2, bmp2, emp2, kmp2, hvp2, hcp2, hsap2, hMp2, hTp2⟩ := ScR.get ha0 (congrArg (!·) hg1)
    refine sv (r_nilCheck (ev_eq rfl hvp2)) <| sv (r_fieldAddr fl_155_2 rfl) <| sv (r_loadH1 hL.imm sc_153 rfl (HC.sub hcp2 2 1 (us := [_]) rfl)) <| sv (r_move rfl) ?_
    obtain ⟨hg4, hm⟩ := grd hm
    obtain ⟨xy3, hqy3, hry3⟩ := TR.look hTp2 Tryz.underlying153 ze_3 (k := a1) hg4 (d := 0) rfl true
    obtain rfl := List.head_eq_of_cons_eq hqy3
    refine sv (r_lookup (hry3 _ (hL.imm _ _ hMp2)) rfl rfl) <| sv (r_move rfl) <| sv (r_extract rfl rfl) <| sv (r_extract rfl rfl) <| sv (r_assign rfl) <| sv (r_assign rfl) <| wt <| wp_seq <| sr <| sv (r_move rfl) <| sv (r_not rfl) <| wt ?_
    refine c_if hm rfl (fun hg5 hm => ?_) (fun hg5 hm => ?_)
    · cases hm
    · refine wp_skip <| then_n <| sr <| sv (r_move rfl) ?_
      obtain ⟨bp6, aap6, cap6, bmp6, emp6, kmp6, hvp6, hcp6, hsap6, hMp6, hTp6⟩ := ScR.get ha0 (congrArg (!·) hg1)
      refine sv (r_nilCheck (ev_eq rfl hvp6)) <| sv (r_fieldAddr fl_155_1 rfl) <| sv (r_loadH1 hL.imm sc_152 rfl (HC.sub hcp6 1 1 (us := [_]) rfl)) <| sv (r_move rfl) ?_
      obtain ⟨hg8, hm⟩ := grd hm
      obtain ⟨be7, oe7, _, hae7, hce7, ⟨pe71, rfl, he71⟩⟩ := Sl.at hsap6 default hg8
      refine sv (r_indexAddr el_152 hg8 hae7 rfl rfl) <| sv (r_loadHk hL.imm ag_41 rfl (vs := [_, _, _, _, _, _]) hce7 rfl) ?_
      refine wl rfl (o_storek (i := 0) (vs := [_, _, _, _, _, _]) hL ag_41 rfl rfl rfl rfl (Nat.le_of_ble_eq_true rfl) (List.forall_mem_cons.2 ⟨rfl, (List.forall_mem_cons.2 ⟨(TyR.one he71), (List.forall_mem_cons.2 ⟨rfl, (List.forall_mem_cons.2 ⟨rfl, (List.forall_mem_cons.2 ⟨rfl, (List.forall_mem_cons.2 ⟨rfl, List.forall_mem_nil _⟩)⟩)⟩)⟩)⟩)⟩) (c' := _ :: _ :: _ :: _ :: _ :: _ :: []) rfl fun w hL => ?_)
      refine sv (r_assign rfl) <| wt <| wp_ret ?_
      obtain rfl := ends hm
      exact rt rfl (.agg (hL.own 0 _ rfl) ag_41 rfl (us := [_, _, _, _, _, _]) rfl rfl (.tmp rfl .nil)) ⟨_, _, rfl, hL.ext, ⟨_, rfl, he71⟩⟩

/-- (schema.Attr).wrong -/
def m174 (a0_0 : Bs) (a0_1 : Ty) (a0_2 : Bool) (a0_3 : Bool) (a0_4 : Bool) (a0_5 : Bool) (a1 : Bs) : Option Int :=
  ((m112 a0_0).bind fun t1 => (bif (!t1) then none else (bif (a0_0 == a1) then none else (bif (Op.bytesLess a0_0 a1) then none else (bif a0_1.isNo then none else (bif a0_2 then (bif a0_3 then none else (some ((0 : Int)))) else (some ((0 : Int)))))))))
set_option maxHeartbeats 20000000 in
set_option maxRecDepth 100000 in
theorem c174 : ∀ {H0 : Hp} {w0 : World} {a0_0 : Bs} {a0_1 : Ty} {a0_2 : Bool} {a0_3 : Bool} {a0_4 : Bool} {a0_5 : Bool} {a1 : Bs} {pa0_1 : Value}  (_ : Imm H0 w0) (_ : TyR H0 pa0_1 a0_1) {r : Int} (_ : m174 a0_0 a0_1 a0_2 a0_3 a0_4 a0_5 a1 = some r), Ct Tryz.prog 174 [.agg (List.toArray [.string (mk a0_0), pa0_1, .bool a0_2, .bool a0_3, .bool a0_4, .bool a0_5]), .string (mk a1)] [] H0 w0 fun v H' w' => v = .int .i64 r := by
  intro H0 w0 a0_0 a0_1 a0_2 a0_3 a0_4 a0_5 a1 pa0_1  hI ha0_1 r hm
  have hL := L.start hI
  refine ct_of Tryz.func174 rfl Tryz.ntmps174 rfl (Nat.le_of_ble_eq_true rfl) ?_
  unfold m174 at hm
  refine sr ?_
  refine wl rfl (o_box 0 (c := [_, _, _, _, _, _]) hL rfl rfl fun b0 w hL => ?_)
  refine sv (r_assign rfl) <| wt <| wp_seq <| wp_block <| sr <| sv (r_fieldAddr fl_41_0 rfl) <| sv (r_load1 (hL.own 0 _ rfl) sc_9 rfl rfl) ?_
  obtain ⟨t1, ht1, hm⟩ := bnd hm
  refine wl rfl (o_call0 hL fn_112 rfl (c112 hL.imm ht1) fun v H w hlet1 hL hR => ?_)
  replace ha0_1 := TyR.mono hlet1 ha0_1
  obtain rfl := hR
  refine sv (r_not rfl) <| sv (r_assign rfl) <| wt ?_
  refine c_if hm rfl (fun hg2 hm => ?_) (fun hg2 hm => ?_)
  · cases hm
  · refine sr <| sv (r_fieldAddr fl_41_0 rfl) <| sv (r_load1 (hL.own 0 _ rfl) sc_9 rfl rfl) <| sv (r_move rfl) <| sv (r_eqs rfl rfl) <| sv (r_assign rfl) <| wt ?_
    refine c_if hm rfl (fun hg3 hm => ?_) (fun hg3 hm => ?_)
    · cases hm
    · refine sr <| sv (r_fieldAddr fl_41_0 rfl) <| sv (r_load1 (hL.own 0 _ rfl) sc_9 rfl rfl) <| sv (r_move rfl) <| sv (r_lts rfl rfl) <| sv (r_assign rfl) <| wt ?_
      refine c_if hm rfl (fun hg4 hm => ?_) (fun hg4 hm => ?_)
      · cases hm
      · refine sr <| sv (r_fieldAddr fl_41_1 rfl) <| sv (r_load1 (hL.own 0 _ rfl) sc_39 rfl rfl) <| sv (r_eqPN Tryz.underlying39 (TyR.pn ha0_1) rfl rfl) <| sv (r_assign rfl) <| wt ?_
        refine c_if hm rfl (fun hg5 hm => ?_) (fun hg5 hm => ?_)
        · cases hm
        · refine sr <| sv (r_fieldAddr fl_41_2 rfl) <| sv (r_load1 (hL.own 0 _ rfl) sc_4 rfl rfl) <| sv (r_move rfl) ?_
          refine m_if hm (fun hg6 hm => ?_) (fun hg6 hm => ?_)
          · refine wlT rfl rfl rfl rfl hg6 (o_val (r_fieldAddr fl_41_3 rfl) ?_)
            refine wlT rfl rfl rfl rfl hg6 (o_val (r_load1 (hL.own 0 _ rfl) sc_4 rfl rfl) ?_)
            refine sv (r_pickT hg6 rfl rfl) <| sv (r_assign rfl) <| wt ?_
            refine c_if hm rfl (fun hg7 hm => ?_) (fun hg7 hm => ?_)
            · cases hm
            · refine wp_skip <| blk_n <| then_n <| sr <| sv (r_assign rfl) <| wt <| wp_ret ?_
              obtain rfl := ends hm
              exact rt rfl (.tmp rfl .nil) ⟨_, _, rfl, hL.ext, rfl⟩
          · refine wlF rfl rfl rfl rfl hg6 rfl <| wlF rfl rfl rfl rfl hg6 rfl <| sv (r_pickF hg6 rfl rfl) <| sv (r_assign rfl) <| wt <| c_F rfl rfl <| wp_skip <| blk_n <| then_n <| sr <| sv (r_assign rfl) <| wt <| wp_ret ?_
            obtain rfl := ends hm
            exact rt rfl (.tmp rfl .nil) ⟨_, _, rfl, hL.ext, rfl⟩

/-- (value.Value).At -/
def m124 (a0_0 : J) (a1 : Bs) : Option (J × Bool) :=
  (bif (decide (a1.length ≤ LIM)) then (some ((look a0_0.tab a1), (has a0_0.tab a1))) else none)
set_option maxHeartbeats 20000000 in
set_option maxRecDepth 100000 in
theorem c124 : ∀ {H0 : Hp} {w0 : World} {a0_0 : J} {a1 : Bs} {xa0_0 : Value}  (_ : Imm H0 w0) (_ : VR H0 xa0_0 a0_0) {r : (J × Bool)} (_ : m124 a0_0 a1 = some r), Ct Tryz.prog 124 [.agg (List.toArray [xa0_0]), .string (mk a1)] [] H0 w0 fun v H' w' => ∃ (xr0_0 : Value), v = .tuple (List.toArray [.agg (List.toArray [xr0_0]), .bool r.2]) ∧ VR H' xr0_0 r.1 := by
  intro H0 w0 a0_0 a1 xa0_0  hI ha0_0 r hm
  have hL := L.start hI
  refine ct_of Tryz.func124 rfl Tryz.ntmps124 rfl (Nat.le_of_ble_eq_true rfl) ?_
  unfold m124 at hm
  refine sr ?_
  refine wl rfl (o_box 0 (c := [_]) hL rfl rfl fun b0 w hL => ?_)
  refine wl rfl (o_alloc 1 (c := [_]) hL ze_33 rfl fun b1 w hL => ?_)
  refine sv (r_assign rfl) <| wt <| sr <| sv (r_fieldAddr fl_33_0 rfl) <| sv (r_load1 (hL.own 0 _ rfl) sc_20 rfl rfl) ?_
  obtain ⟨qy1, huy1, hqy1⟩ := ta_tab ha0_0
  refine sv (r_ta huy1 rfl) <| sv (r_move rfl) <| sv (r_extract rfl rfl) <| sv (r_extract rfl rfl) <| sv (r_assign rfl) <| sv (r_assign rfl) <| wt <| sr <| sv (r_move rfl) <| sv (r_move rfl) ?_
  obtain ⟨hg3, hm⟩ := grd hm
  obtain ⟨xy2, hy2, hry2⟩ := mr_look hqy1 a1 hg3 true
  refine sv (r_lookup (hry2 _ hL.imm) rfl rfl) <| sv (r_move rfl) <| sv (r_extract rfl rfl) <| sv (r_extract rfl rfl) ?_
  refine wl rfl (o_alloc 2 (c := [_]) hL ze_33 rfl fun b2 w hL => ?_)
  refine wl rfl (o_storek (i := 2) (vs := [_]) hL ag_33 rfl rfl rfl rfl (Nat.le_of_ble_eq_true rfl) (List.forall_mem_cons.2 ⟨(VR.one hy2), List.forall_mem_nil _⟩) (c' := _ :: []) rfl fun w hL => ?_)
  refine sv (r_assign rfl) <| wt <| sr <| sv (r_loadk (hL.own 2 _ rfl) ag_33 rfl (vs := [_]) rfl rfl) <| sv (r_move rfl) ?_
  refine wl rfl (o_storek (i := 1) (vs := [_]) hL ag_33 rfl rfl rfl rfl (Nat.le_of_ble_eq_true rfl) (List.forall_mem_cons.2 ⟨(VR.one hy2), List.forall_mem_nil _⟩) (c' := _ :: []) rfl fun w hL => ?_)
  refine sv (r_assign rfl) <| wt <| wp_ret ?_
  obtain rfl := ends hm
  exact rt rfl (.agg (hL.own 1 _ rfl) ag_33 rfl (us := [_]) rfl rfl (.tmp rfl .nil)) ⟨_, _, rfl, hL.ext, ⟨_, rfl, hy2⟩⟩

/-- (value.Value).Items -/
def m130_l0 (a0_0 : J) (t6 : List Bs) : Nat → Int → List J → Option (List J)
  | 0, _, _ => none
  | k + 1, v28_1, u1R_1 => (bif (decide (v28_1 < (t6.length : Int))) then (bif (decide (0 ≤ v28_1 ∧ v28_1 < (t6.length : Int))) then (bif (decide ((t6.getD (v28_1).toNat ([] : Bs)).length ≤ LIM)) then (bif (decide (u1R_1.length + ([(look a0_0.tab (t6.getD (v28_1).toNat ([] : Bs)))] : List J).length ≤ LIM)) then (m130_l0 a0_0 t6 k (IntKind.wrap .i64 (v28_1 + (1 : Int))) (u1R_1 ++ ([(look a0_0.tab (t6.getD (v28_1).toNat ([] : Bs)))] : List J))) else none) else none) else none) else (some (u1R_1)))
def m130 (a0_0 : J) : Option (List J) :=
  (bif a0_0.isList then ((m199 a0_0.lst).bind fun t3 => (some (t3))) else ((m131 a0_0).bind fun t6 => (m130_l0 a0_0 t6 FUEL (0 : Int) ([] : List J))))
set_option maxHeartbeats 20000000 in
set_option maxRecDepth 100000 in
theorem c130 : ∀ {H0 : Hp} {w0 : World} {a0_0 : J} {xa0_0 : Value}  (_ : Imm H0 w0) (_ : VR H0 xa0_0 a0_0) {r : List J} (_ : m130 a0_0 = some r), Ct Tryz.prog 130 [.agg (List.toArray [xa0_0])] [] H0 w0 fun v H' w' => ∃ (ar0_0 : Option Addr) (cr0_0 : Nat), v = .slice ar0_0 (List.length r) cr0_0 ∧ Sl cJ H' ar0_0 cr0_0 r := by
  intro H0 w0 a0_0 xa0_0  hI ha0_0 r hm
  have hL := L.start hI
  refine ct_of Tryz.func130 rfl Tryz.ntmps130 rfl (Nat.le_of_ble_eq_true rfl) ?_
  unfold m130 at hm
  refine sr ?_
  refine wl rfl (o_box 0 (c := [_]) hL rfl rfl fun b0 w hL => ?_)
  refine sv (r_assign rfl) <| wt <| wp_seq <| sr <| sv (r_fieldAddr fl_33_0 rfl) <| sv (r_load1 (hL.own 0 _ rfl) sc_20 rfl rfl) ?_
  obtain ⟨ay1, cy1, huy1, hsy1, hly1⟩ := ta_list ha0_0
  refine sv (r_ta huy1 rfl) <| sv (r_move rfl) <| sv (r_extract rfl rfl) <| sv (r_extract rfl rfl) <| sv (r_assign rfl) <| sv (r_assign rfl) <| wt <| sr <| sv (r_move rfl) <| wt ?_
  refine c_if hm rfl (fun hg2 hm => ?_) (fun hg2 hm => ?_)
  · refine sr <| sv (r_move rfl) ?_
    obtain ⟨t3, ht3, hm⟩ := bnd hm
    have hL := hL.room 1
    refine wl rfl (o_callE 1 hL fn_199 rfl rfl (c199 hL.imm hsy1 ht3) fun x v H w hlet3 hL hR => ?_)
    obtain ⟨at3r0_0, ct3r0_0, zt3r0_0⟩ := x
    try dsimp only at hL hR
    replace ha0_0 := VR.mono hlet3 ha0_0
    obtain ⟨rfl, ht3r0_0⟩ := hR
    refine sv (r_assign rfl) <| wt <| wp_ret <| then_r ?_
    obtain ⟨H, hlez4, hL, hsz4⟩ := hL.settle (i := 1) (K := cJ) rfl ht3r0_0
    replace ha0_0 := VR.mono hlez4 ha0_0
    obtain rfl := ends hm
    exact rt rfl (.tmp rfl .nil) ⟨_, _, rfl, hL.ext, ⟨_, _, rfl, hsz4⟩⟩
  · refine wp_skip <| then_n <| sr <| sv (r_assign rfl) <| wt <| sr <| sv (r_fieldAddr fl_33_0 rfl) <| sv (r_load1 (hL.own 0 _ rfl) sc_20 rfl rfl) ?_
    obtain ⟨qy5, huy5, hqy5⟩ := ta_tab ha0_0
    refine sv (r_ta huy5 rfl) <| sv (r_move rfl) <| sv (r_extract rfl rfl) <| sv (r_extract rfl rfl) <| sv (r_assign rfl) <| sv (r_assign rfl) <| wt <| wp_seq <| sr <| sv (r_loadk (hL.own 0 _ rfl) ag_33 rfl (vs := [_]) rfl rfl) ?_
    obtain ⟨t6, ht6, hm⟩ := bnd hm
    refine wl rfl (o_call0 hL fn_131 rfl (c131 hL.imm ha0_0 ht6) fun v H w hlet6 hL hR => ?_)
    replace ha0_0 := VR.mono hlet6 ha0_0
    replace hqy5 := MR.mono hlet6 hqy5
    obtain ⟨at6r0_0, ct6r0_0, rfl, ht6r0_0⟩ := hR
    refine sv (r_lenS rfl Tryz.underlying30 rfl) <| sv (r_move rfl) <| wt <| wp_block ?_
    have hL := hL.addNil 1 33 1
    refine wp_loop_fuel (k := FUEL) (fun k a w => ∃ (v28_1 : Int) (u1R_1 : List J) (au1R_1 : Option Addr) (cu1R_1 : Nat) (zu1R_1 : List Value) (l : List (Nat × Value)) (H : Hp), a = fr 40 ([(2, .slice none 0 0), (5, .slice au1R_1 (List.length u1R_1) cu1R_1), (6, .map qy5), (26, .slice at6r0_0 (List.length t6) ct6r0_0), (27, .int .i64 (t6.length : Int)), (28, .int .i64 v28_1)] ++ l) [] ∧ L [] H0 w0 [(0, .cel b0 (xa0_0 :: []) 33), (1, .row (.slice au1R_1 (List.length u1R_1) cu1R_1) 33 1 (List.length u1R_1) zu1R_1)] H w ∧ VR H xa0_0 a0_0 ∧ MR H qy5 a0_0.tab ∧ Sl cStr H at6r0_0 ct6r0_0 t6 ∧ LC cJ H zu1R_1 u1R_1 ∧ (m130_l0 a0_0 t6 k v28_1 u1R_1) = some r) ⟨_, _, _, _, _, _, _, fr_pre _ rfl, hL.pick _ rfl, ha0_0, hqy5, ht6r0_0, LC.nil, hm⟩ ?_
    rintro k0 a w ⟨v28_1, u1R_1, au1R_1, cu1R_1, zu1R_1, l, H, rfl, hL, ha0_0, hqy5, ht6r0_0, hu1R_1, hm⟩
    cases k0 with
    | zero => rw [m130_l0.eq_1] at hm; cases hm
    | succ k0 =>
      rw [m130_l0.eq_2] at hm
      refine sr <| sv (r_lss rfl rfl) <| wt <| wp_seq ?_
      refine c_if hm rfl (fun hg7 hm => ?_) (fun hg7 hm => ?_)
      · refine wp_skip <| then_n <| wp_seq <| wp_block <| sr ?_
        obtain ⟨hg9, hm⟩ := grd hm
        obtain ⟨be8, oe8, _, hae8, hce8, rfl⟩ := Sl.at ht6r0_0 ([] : Bs) hg9
        refine sv (r_indexAddr el_30 hg9 hae8 rfl rfl) <| sv (r_loadH1 hL.imm sc_9 rfl hce8) <| sv (r_assign rfl) <| wt <| rg <| sv (r_move rfl) <| sv (r_move rfl) <| sv (r_move rfl) ?_
        obtain ⟨hg11, hm⟩ := grd hm
        obtain ⟨xy10, hy10, hry10⟩ := mr_look hqy5 (t6.getD (v28_1).toNat ([] : Bs)) hg11 false
        refine sv (r_lookup (hry10 _ hL.imm) rfl rfl) ?_
        have hww12 : LC cJ hL.hp [xy10] ([(look a0_0.tab (t6.getD (v28_1).toNat ([] : Bs)))] : List J) := (LC.cons (K := cJ) (cs := [xy10]) ⟨_, rfl, hy10⟩ LC.nil)
        refine wl rfl (o_buildSlice (C := cJ) 2 hL el_23 ze_33 rfl (.cons rfl .nil) rfl rfl rfl rfl hww12 fun gw12 w hL => ?_)
        obtain ⟨hg13, hm⟩ := grd hm
        refine wl rfl (o_append (C := cJ) 1 2 hL el_23 rfl rfl rfl rfl hww12 rfl hg13 fun gw14 cw14 w hL => ?_)
        have hww14 := LC.append hu1R_1 hww12
        refine sv (r_assign rfl) <| wn <| blk_n <| then_n <| rg <| sv (r_add rfl rfl) <| sv (r_move rfl) <| wt ?_
        exact ⟨k0, Nat.lt_succ_self k0, _, _, _, _, _, _, _, fr_pre _ rfl, hL.pick _ rfl, ha0_0, hqy5, ht6r0_0, hww14, hm⟩
      · refine wp_exit <| then_e <| then_e <| blk_e <| then_n <| sr <| sv (r_move rfl) <| sv (r_assign rfl) <| wt <| wp_ret ?_
        obtain ⟨H, hlez15, hL, hsz15⟩ := hL.settle (i := 1) (K := cJ) rfl hu1R_1
        obtain rfl := ends hm
        exact rt rfl (.tmp rfl .nil) ⟨_, _, rfl, hL.ext, ⟨_, _, rfl, hsz15⟩⟩

/-- (*kind.Type).Holds -/
def m224 (a0 : Ty) : Option Int :=
  (bif a0.isNo then none else (bif (decide (a0.form < (5 : Int))) then (some ((0 : Int))) else (bif (a0.form == (6 : Int)) then none else (bif (a0.form == (8 : Int)) then none else (some ((6 : Int)))))))
set_option maxHeartbeats 20000000 in
set_option maxRecDepth 100000 in
theorem c224 : ∀ {H0 : Hp} {w0 : World} {a0 : Ty} {pa0 : Value}  (_ : Imm H0 w0) (_ : TyR H0 pa0 a0) {r : Int} (_ : m224 a0 = some r), Ct Tryz.prog 224 [pa0] [] H0 w0 fun v H' w' => v = .int .i64 r := by
  intro H0 w0 a0 pa0  hI ha0 r hm
  have hL := L.start hI
  refine ct_of Tryz.func224 rfl Tryz.ntmps224 rfl (Nat.le_of_ble_eq_true rfl) ?_
  unfold m224 at hm
  refine sr <| sv (r_assign rfl) <| wt <| wp_seq <| wp_block <| sr <| sv (r_move rfl) <| sv (r_eqPN Tryz.underlying39 (TyR.pn ha0) rfl rfl) <| sv (r_move rfl) ?_
  refine m_if hm (fun hg1 hm => ?_) (fun hg1 hm => ?_)
  · cases hm
  · refine wlT rfl rfl rfl rfl hg1 (o_val (r_move rfl) ?_)
    obtain ⟨bp2, aap2, cap2, abp2, cbp2, acp2, ccp2, hvp2, hcp2, hsap2, hsbp2, hscp2⟩ := TyR.get ha0 (congrArg (!·) hg1)
    refine wlT rfl rfl rfl rfl hg1 (o_val (r_nilCheck (ev_eq rfl hvp2)) ?_)
    refine wlT rfl rfl rfl rfl hg1 (o_val (r_fieldAddr fl_322_0 rfl) ?_)
    refine wlT rfl rfl rfl rfl hg1 (o_val (r_loadH1 hL.imm sc_3 rfl (HC.sub hcp2 0 1 (us := [_]) rfl)) ?_)
    refine wlT rfl rfl rfl rfl hg1 (o_val (r_lss rfl rfl) ?_)
    refine sv (r_pickF hg1 rfl rfl) <| sv (r_assign rfl) <| wt ?_
    refine c_if hm rfl (fun hg3 hm => ?_) (fun hg3 hm => ?_)
    · refine sr <| sv (r_assign rfl) <| wt <| wp_ret <| blk_r <| then_r ?_
      obtain rfl := ends hm
      exact rt rfl (.tmp rfl .nil) ⟨_, _, rfl, hL.ext, rfl⟩
    · refine sr <| sv (r_move rfl) ?_
      obtain ⟨bp4, aap4, cap4, abp4, cbp4, acp4, ccp4, hvp4, hcp4, hsap4, hsbp4, hscp4⟩ := TyR.get ha0 (congrArg (!·) hg1)
      refine sv (r_nilCheck (ev_eq rfl hvp4)) <| sv (r_fieldAddr fl_322_0 rfl) <| sv (r_loadH1 hL.imm sc_3 rfl (HC.sub hcp4 0 1 (us := [_]) rfl)) <| sv (r_eqi rfl rfl) <| sv (r_move rfl) ?_
      refine m_if hm (fun hg5 hm => ?_) (fun hg5 hm => ?_)
      · cases hm
      · refine wlT rfl rfl rfl rfl hg5 (o_val (r_move rfl) ?_)
        obtain ⟨bp6, aap6, cap6, abp6, cbp6, acp6, ccp6, hvp6, hcp6, hsap6, hsbp6, hscp6⟩ := TyR.get ha0 (congrArg (!·) hg1)
        refine wlT rfl rfl rfl rfl hg5 (o_val (r_nilCheck (ev_eq rfl hvp6)) ?_)
        refine wlT rfl rfl rfl rfl hg5 (o_val (r_fieldAddr fl_322_0 rfl) ?_)
        refine wlT rfl rfl rfl rfl hg5 (o_val (r_loadH1 hL.imm sc_3 rfl (HC.sub hcp6 0 1 (us := [_]) rfl)) ?_)
        refine wlT rfl rfl rfl rfl hg5 (o_val (r_eqi rfl rfl) ?_)
        refine sv (r_pickF hg5 rfl rfl) <| sv (r_assign rfl) <| wt ?_
        refine c_if hm rfl (fun hg7 hm => ?_) (fun hg7 hm => ?_)
        · cases hm
        · refine wp_skip <| blk_n <| then_n <| sr <| sv (r_assign rfl) <| wt <| wp_ret ?_
          obtain rfl := ends hm
          exact rt rfl (.tmp rfl .nil) ⟨_, _, rfl, hL.ext, rfl⟩

end Go.Proofs.YtcjphpenelnohaaGreatDoor
/- Gc: by tools/gen.py -/
set_option linter.unusedVariables false
namespace Go.Proofs.YtcjphpenelnohaaGreatDoor
open Go.RowKit

/-- value.Map -/
def m126_l0 (a0 : List Bs) (a1 : List J) : Nat → Int → List (Bs × J) → Option (J × Int)
  | 0, _, _ => none
  | k + 1, v20_1, u1R_1 => (bif (decide (v20_1 < (a0.length : Int))) then (bif (decide (0 ≤ v20_1 ∧ v20_1 < (a0.length : Int))) then (bif (decide ((a0.getD (v20_1).toNat ([] : Bs)).length ≤ LIM)) then (bif (mhas u1R_1 (a0.getD (v20_1).toNat ([] : Bs))) then none else (bif (decide (0 ≤ v20_1 ∧ v20_1 < (a1.length : Int))) then (bif (decide (List.length (ins (a0.getD (v20_1).toNat ([] : Bs)) (a1.getD (v20_1).toNat J.null) u1R_1) ≤ LIM)) then (m126_l0 a0 a1 k (IntKind.wrap .i64 (v20_1 + (1 : Int))) (ins (a0.getD (v20_1).toNat ([] : Bs)) (a1.getD (v20_1).toNat J.null) u1R_1)) else none) else none)) else none) else none) else (some ((J.table u1R_1), (0 : Int))))
def m126 (a0 : List Bs) (a1 : List J) : Option (J × Int) :=
  (bif ((a0.length : Int) != (a1.length : Int)) then none else (m126_l0 a0 a1 FUEL (0 : Int) ([] : List (Bs × J))))
set_option maxHeartbeats 20000000 in
set_option maxRecDepth 100000 in
theorem c126 : ∀ {H0 : Hp} {w0 : World} {a0 : List Bs} {a1 : List J} {aa0 : Option Addr} {ca0 : Nat} {aa1 : Option Addr} {ca1 : Nat}  (_ : Imm H0 w0) (_ : Sl cStr H0 aa0 ca0 a0) (_ : Sl cJ H0 aa1 ca1 a1) {r : (J × Int)} (_ : m126 a0 a1 = some r), Ct Tryz.prog 126 [.slice aa0 (List.length a0) ca0, .slice aa1 (List.length a1) ca1] [] H0 w0 fun v H' w' => ∃ (xr0_0 : Value), v = .tuple (List.toArray [.agg (List.toArray [xr0_0]), .int .i64 r.2]) ∧ VR H' xr0_0 r.1 := by
  intro H0 w0 a0 a1 aa0 ca0 aa1 ca1  hI ha0 ha1 r hm
  have hL := L.start hI
  refine ct_of Tryz.func126 rfl Tryz.ntmps126 rfl (Nat.le_of_ble_eq_true rfl) ?_
  unfold m126 at hm
  refine sr ?_
  refine wl rfl (o_alloc 0 (c := [_]) hL ze_33 rfl fun b0 w hL => ?_)
  refine sv (r_assign rfl) <| wt <| wp_seq <| sr <| sv (r_move rfl) <| sv (r_lenS rfl Tryz.underlying30 rfl) <| sv (r_move rfl) <| sv (r_lenS rfl Tryz.underlying23 rfl) <| sv (r_nei rfl rfl) <| wt ?_
  refine c_if hm rfl (fun hg1 hm => ?_) (fun hg1 hm => ?_)
  · cases hm
  · refine wp_skip <| then_n <| sr ?_
    refine wl rfl (o_makeMap 1 hL fun g1 w hL => ?_)
    have hww2 : TR kStr (evA cJ) hL.hp #[] 0 ([] : List (Bs × J)) := TR.nil
    have how2 : List.Pairwise (fun p q => p.1 < q.1) ([] : List (Bs × J)) := .nil
    refine sv (r_assign rfl) <| wt <| wp_seq <| sr <| sv (r_move rfl) <| sv (r_lenS rfl Tryz.underlying30 rfl) <| sv (r_move rfl) <| wt <| wp_block <| wp_loop_fuel (k := FUEL) (fun k a w => ∃ (v20_1 : Int) (u1R_1 : List (Bs × J)) (eu1R_1 : Array MapEntry) (ku1R_1 : Nat) (l : List (Nat × Value)) (H : Hp), a = fr 43 ([(1, .slice aa1 (List.length a1) ca1), (4, .pointer (some ⟨b0, 0, none⟩)), (5, .int .i64 0), (6, .map (some g1)), (18, .slice aa0 (List.length a0) ca0), (19, .int .i64 (a0.length : Int)), (20, .int .i64 v20_1)] ++ l) [] ∧ L [] H0 w0 [(0, .cel b0 (.nilIface :: []) 33), (1, .obj g1 (.map eu1R_1 ku1R_1))] H w ∧ Sl cStr H aa0 ca0 a0 ∧ Sl cJ H aa1 ca1 a1 ∧ TR kStr (evA cJ) H eu1R_1 ku1R_1 u1R_1 ∧ List.Pairwise (fun p q => p.1 < q.1) u1R_1 ∧ (m126_l0 a0 a1 k v20_1 u1R_1) = some r) ⟨_, _, _, _, _, _, fr_pre _ rfl, hL.pick _ rfl, ha0, ha1, hww2, how2, hm⟩ ?_
    rintro k0 a w ⟨v20_1, u1R_1, eu1R_1, ku1R_1, l, H, rfl, hL, ha0, ha1, hu1R_1, ou1R_1, hm⟩
    cases k0 with
    | zero => rw [m126_l0.eq_1] at hm; cases hm
    | succ k0 =>
      rw [m126_l0.eq_2] at hm
      refine sr <| sv (r_lss rfl rfl) <| wt <| wp_seq ?_
      refine c_if hm rfl (fun hg3 hm => ?_) (fun hg3 hm => ?_)
      · refine wp_skip <| then_n <| wp_seq <| wp_block <| sr <| sv (r_move rfl) ?_
        obtain ⟨hg5, hm⟩ := grd hm
        obtain ⟨be4, oe4, _, hae4, hce4, rfl⟩ := Sl.at ha0 ([] : Bs) hg5
        refine sv (r_indexAddr el_30 hg5 hae4 rfl rfl) <| sv (r_loadH1 hL.imm sc_9 rfl hce4) <| sv (r_assign rfl) <| sv (r_assign rfl) <| wt <| wp_seq <| sr <| sv (r_move rfl) <| sv (r_move rfl) ?_
        obtain ⟨hg7, hm⟩ := grd hm
        obtain ⟨_, ⟨_, rfl, ⟨xy60, rfl, hy60⟩⟩, hry6⟩ := TR.look hu1R_1 Tryz.underlying173 ze_33 (k := (a0.getD (v20_1).toNat ([] : Bs))) hg7 (d := J.null) ⟨_, rfl, _, rfl, VR.null⟩ true
        refine sv (r_lookup (hry6 _ (hL.own 1 _ rfl)) rfl rfl) <| sv (r_move rfl) <| sv (r_extract rfl rfl) <| sv (r_extract rfl rfl) ?_
        refine wl rfl (o_alloc 2 (c := [_]) hL ze_33 rfl fun b2 w hL => ?_)
        refine wl rfl (o_storek (i := 2) (vs := [_]) hL ag_33 rfl rfl rfl rfl (Nat.le_of_ble_eq_true rfl) (List.forall_mem_cons.2 ⟨(VR.one hy60), List.forall_mem_nil _⟩) (c' := _ :: []) rfl fun w hL => ?_)
        refine sv (r_assign rfl) <| wt <| sr <| sv (r_move rfl) <| wt ?_
        refine c_if hm rfl (fun hg8 hm => ?_) (fun hg8 hm => ?_)
        · cases hm
        · refine wp_skip <| then_n <| rg <| sv (r_move rfl) <| sv (r_move rfl) <| sv (r_move rfl) <| sv (r_move rfl) ?_
          obtain ⟨hg10, hm⟩ := grd hm
          obtain ⟨be9, oe9, _, hae9, hce9, ⟨xe90, rfl, he90⟩⟩ := Sl.at ha1 J.null hg10
          refine sv (r_indexAddr el_23 hg10 hae9 rfl rfl) <| sv (r_loadHk hL.imm ag_33 rfl (vs := [_]) hce9 rfl) ?_
          obtain ⟨hg11, hm⟩ := grd hm
          refine wl rfl (o_mapUpdate (i := 1) (k0 := (a0.getD (v20_1).toNat ([] : Bs))) (x0 := (a1.getD (v20_1).toNat J.null)) hL hu1R_1 Tryz.underlying173 rfl rfl rfl rfl hg7 ⟨_, rfl, ⟨_, rfl, he90⟩⟩ (ins_perm _ _ ou1R_1) hg11 fun ew12 kw12 w hww12 hL => ?_)
          have how12 := ins_sorted (a0.getD (v20_1).toNat ([] : Bs)) (a1.getD (v20_1).toNat J.null) ou1R_1
          refine wn <| blk_n <| then_n <| rg <| sv (r_add rfl rfl) <| sv (r_move rfl) <| wt ?_
          exact ⟨k0, Nat.lt_succ_self k0, _, _, _, _, _, _, fr_pre _ rfl, hL.pick _ rfl, ha0, ha1, hww12, how12, hm⟩
      · refine wp_exit <| then_e <| then_e <| blk_e <| then_n <| sr <| sv (r_move rfl) ?_
        obtain ⟨H, hlez13, hL, hbz13⟩ := hL.settleM 1 rfl
        replace hu1R_1 := TR.mono hlez13 hu1R_1
        have hqz13 := MR.ofTR hu1R_1 hbz13 ou1R_1
        have hy14 := VR.ofMap hqz13
        refine sv (r_mkI mkI_173 rfl) <| sv (r_build ze_33 st_33 rfl (.cons rfl .nil) (cs := [_]) rfl) ?_
        refine wl rfl (o_storek (i := 0) (vs := [_]) hL ag_33 rfl rfl rfl rfl (Nat.le_of_ble_eq_true rfl) (List.forall_mem_cons.2 ⟨rfl, List.forall_mem_nil _⟩) (c' := _ :: []) rfl fun w hL => ?_)
        refine sv (r_assign rfl) <| wt <| wp_ret ?_
        obtain rfl := ends hm
        exact rt rfl (.agg (hL.own 0 _ rfl) ag_33 rfl (us := [_]) rfl rfl (.tmp rfl .nil)) ⟨_, _, rfl, hL.ext, ⟨_, rfl, hy14⟩⟩

/-- (diff.way).behind -/
def m272 (a0_0 : List Step) (a1_0 : Bs) (a1_1 : Int) : Option (List Step) :=
  (bif (decide (0 ≤ (0 : Int) ∧ (0 : Int) ≤ (a0_0.length : Int) ∧ (a0_0.length : Int) ≤ (a0_0.length : Int))) then (bif (decide (((a0_0.take ((a0_0.length : Int)).toNat).drop ((0 : Int)).toNat).length + ([(Step.mk a1_0 a1_1)] : List Step).length ≤ LIM)) then (some ((((a0_0.take ((a0_0.length : Int)).toNat).drop ((0 : Int)).toNat) ++ ([(Step.mk a1_0 a1_1)] : List Step)))) else none) else none)
set_option maxHeartbeats 20000000 in
set_option maxRecDepth 100000 in
theorem c272 : ∀ {H0 : Hp} {w0 : World} {a0_0 : List Step} {a1_0 : Bs} {a1_1 : Int} {aa0_0 : Option Addr} {ca0_0 : Nat}  (_ : Imm H0 w0) (_ : Sl cStep H0 aa0_0 ca0_0 a0_0) {r : List Step} (_ : m272 a0_0 a1_0 a1_1 = some r), Ct Tryz.prog 272 [.agg (List.toArray [.slice aa0_0 (List.length a0_0) ca0_0]), .agg (List.toArray [.string (mk a1_0), .int .i64 a1_1])] [] H0 w0 fun v H' w' => ∃ (ar0_0 : Option Addr) (cr0_0 : Nat), v = .agg (List.toArray [.slice ar0_0 (List.length r) cr0_0]) ∧ Sl cStep H' ar0_0 cr0_0 r := by
  intro H0 w0 a0_0 a1_0 a1_1 aa0_0 ca0_0  hI ha0_0 r hm
  have hL := L.start hI
  refine ct_of Tryz.func272 rfl Tryz.ntmps272 rfl (Nat.le_of_ble_eq_true rfl) ?_
  unfold m272 at hm
  refine sr ?_
  refine wl rfl (o_box 0 (c := [_]) hL rfl rfl fun b0 w hL => ?_)
  refine wl rfl (o_box 1 (c := [_, _]) hL rfl rfl fun b1 w hL => ?_)
  refine wl rfl (o_alloc 2 (c := [_]) hL ze_164 rfl fun b2 w hL => ?_)
  refine wt <| wp_seq <| rd hL [0, 1] [_, _] [(0, true), (1, true), (2, true), (3, true), (4, true), (5, true), (6, true), (7, true), (8, true), (9, true), (10, false), (11, false), (12, true), (13, false)] mixed rfl (by kernel_rfl) fun w hL => dv rfl (fun w hS => r_fieldAddr fl_164_0 rfl) <| dv rfl (fun w hS => r_load1 hS.2.1 sc_113 rfl rfl) <| dv rfl (fun w hS => r_fieldAddr fl_164_0 rfl) <| dv rfl (fun w hS => r_load1 hS.2.1 sc_113 rfl rfl) <| dv rfl (fun w hS => r_lenS rfl Tryz.underlying113 rfl) <| dv rfl (fun w hS => r_fieldAddr fl_164_0 rfl) <| dv rfl (fun w hS => r_load1 hS.2.1 sc_113 rfl rfl) <| dv rfl (fun w hS => r_lenS rfl Tryz.underlying113 rfl) ?_
  obtain ⟨hg1, hm⟩ := grd hm
  have hsy2 := Sl.cut ha0_0 hg1 (m := (a0_0.length : Int)) (Int.le_refl _)
  refine dv rfl (fun w hS => r_slice3 (k := cStep.k) el_113 ha0_0.1 hg1 rfl rfl rfl) <| dv rfl (fun w hS => r_loadk hS.2.2.1 ag_220 rfl (vs := [_, _]) rfl rfl) ?_
  have hww3 : LC cStep hL.hp [.string (mk a1_0), .int .i64 a1_1] ([(Step.mk a1_0 a1_1)] : List Step) := (LC.cons (K := cStep) (cs := [.string (mk a1_0), .int .i64 a1_1]) rfl LC.nil)
  refine dh rfl rfl (o_buildSlice (C := cStep) 3 hL el_113 ze_220 rfl (.cons rfl .nil) rfl rfl rfl rfl hww3 fun gw3 w hL => ⟨Sd.of hL (Hle.refl _) [0, 1] rfl, ?_⟩)
  obtain ⟨hg4, hm⟩ := grd hm
  refine dh rfl rfl (o_append3 (C := cStep) 4 3 (cap3 hg1) hL el_113 rfl rfl hsy2 (.inl rfl) rfl hww3 rfl hg4 fun gw5 cw5 zw5 w hzw5 hL => ⟨Sd.of hL (Hle.refl _) [0, 1] rfl, ?_⟩)
  have hww5 := LC.append hzw5 hww3
  refine dv rfl (fun w hS => r_build ze_164 st_164 rfl (.cons rfl .nil) (cs := [_]) rfl) ?_
  refine dh rfl rfl (o_storek (i := 2) (vs := [_]) hL ag_164 rfl rfl rfl rfl (Nat.le_of_ble_eq_true rfl) (List.forall_mem_cons.2 ⟨rfl, List.forall_mem_nil _⟩) (c' := _ :: []) rfl fun w hL => ⟨Sd.of hL (Hle.refl _) [0, 1] rfl, ?_⟩)
  refine dn <| then_n <| wp_ret ?_
  obtain ⟨H, hlez6, hL, hsz6⟩ := hL.settle (i := 4) (K := cStep) rfl hww5
  obtain rfl := ends hm
  exact rt rfl (.agg (hL.own 2 _ rfl) ag_164 rfl (us := [_]) rfl rfl .nil) ⟨_, _, rfl, hL.ext, ⟨_, _, rfl, hsz6⟩⟩

/-- diff.key -/
def m271 (a0 : Bs) : Option (Bs × Int) :=
  (some (a0, ((-1) : Int)))
set_option maxHeartbeats 20000000 in
set_option maxRecDepth 100000 in
theorem c271 : ∀ {H0 : Hp} {w0 : World} {a0 : Bs}  (_ : Imm H0 w0) {r : (Bs × Int)} (_ : m271 a0 = some r), Ct Tryz.prog 271 [.string (mk a0)] [] H0 w0 fun v H' w' => v = .agg (List.toArray [.string (mk r.1), .int .i64 r.2]) := by
  intro H0 w0 a0  hI r hm
  have hL := L.start hI
  refine ct_of Tryz.func271 rfl Tryz.ntmps271 rfl (Nat.le_of_ble_eq_true rfl) ?_
  unfold m271 at hm
  refine sr ?_
  refine wl rfl (o_alloc 0 (c := [_, _]) hL ze_220 rfl fun b0 w hL => ?_)
  refine wt <| sr <| sv (r_move rfl) <| sv (r_build ze_220 st_220 rfl (.cons rfl (.cons rfl .nil)) (cs := [_, _]) rfl) ?_
  refine wl rfl (o_storek (i := 0) (vs := [_, _]) hL ag_220 rfl rfl rfl rfl (Nat.le_of_ble_eq_true rfl) (List.forall_mem_cons.2 ⟨rfl, (List.forall_mem_cons.2 ⟨rfl, List.forall_mem_nil _⟩)⟩) (c' := _ :: _ :: []) rfl fun w hL => ?_)
  refine wt <| wp_ret ?_
  obtain rfl := ends hm
  exact rt rfl (.agg (hL.own 0 _ rfl) ag_220 rfl (us := [_, _]) rfl rfl .nil) ⟨_, _, rfl, hL.ext, rfl⟩

/-- (address.Address).Right -/
def m191 (a0_0 : Bs) (a0_1 : Bs) (a0_2 : Bs) (a0_3 : Int) : Option Bool :=
  ((m112 a0_0).bind fun t1 => (bif t1 then ((m112 a0_1).bind fun t3 => (bif t3 then ((m112 a0_2).bind fun t5 => (bif t5 then (bif (decide (((-1) : Int) ≤ a0_3)) then (some ((decide (a0_3 ≤ (999 : Int))))) else none) else none)) else none)) else none))
set_option maxHeartbeats 20000000 in
set_option maxRecDepth 100000 in
theorem c191 : ∀ {H0 : Hp} {w0 : World} {a0_0 : Bs} {a0_1 : Bs} {a0_2 : Bs} {a0_3 : Int}  (_ : Imm H0 w0) {r : Bool} (_ : m191 a0_0 a0_1 a0_2 a0_3 = some r), Ct Tryz.prog 191 [.agg (List.toArray [.string (mk a0_0), .string (mk a0_1), .string (mk a0_2), .int .i64 a0_3])] [] H0 w0 fun v H' w' => v = .bool r := by
  intro H0 w0 a0_0 a0_1 a0_2 a0_3  hI r hm
  have hL := L.start hI
  refine ct_of Tryz.func191 rfl Tryz.ntmps191 rfl (Nat.le_of_ble_eq_true rfl) ?_
  unfold m191 at hm
  refine sr ?_
  refine wl rfl (o_box 0 (c := [_, _, _, _]) hL rfl rfl fun b0 w hL => ?_)
  refine sv (r_assign rfl) <| wt <| sr <| sv (r_fieldAddr fl_50_0 rfl) <| sv (r_load1 (hL.own 0 _ rfl) sc_9 rfl rfl) ?_
  obtain ⟨t1, ht1, hm⟩ := bnd hm
  refine wl rfl (o_call0 hL fn_112 rfl (c112 hL.imm ht1) fun v H w hlet1 hL hR => ?_)
  obtain rfl := hR
  refine sv (r_move rfl) ?_
  refine m_if hm (fun hg2 hm => ?_) (fun hg2 hm => ?_)
  · refine wlT rfl rfl rfl rfl hg2 (o_val (r_fieldAddr fl_50_1 rfl) ?_)
    refine wlT rfl rfl rfl rfl hg2 (o_val (r_load1 (hL.own 0 _ rfl) sc_9 rfl rfl) ?_)
    obtain ⟨t3, ht3, hm⟩ := bnd hm
    refine wlT rfl rfl rfl rfl hg2 (o_call0 hL fn_112 rfl (c112 hL.imm ht3) fun v H w hlet3 hL hR => ?_)
    obtain rfl := hR
    refine sv (r_pickT hg2 rfl rfl) <| sv (r_move rfl) ?_
    refine m_if hm (fun hg4 hm => ?_) (fun hg4 hm => ?_)
    · refine wlT rfl rfl rfl rfl hg4 (o_val (r_fieldAddr fl_50_2 rfl) ?_)
      refine wlT rfl rfl rfl rfl hg4 (o_val (r_load1 (hL.own 0 _ rfl) sc_9 rfl rfl) ?_)
      obtain ⟨t5, ht5, hm⟩ := bnd hm
      refine wlT rfl rfl rfl rfl hg4 (o_call0 hL fn_112 rfl (c112 hL.imm ht5) fun v H w hlet5 hL hR => ?_)
      obtain rfl := hR
      refine sv (r_pickT hg4 rfl rfl) <| sv (r_move rfl) ?_
      refine m_if hm (fun hg6 hm => ?_) (fun hg6 hm => ?_)
      · refine wlT rfl rfl rfl rfl hg6 (o_val (r_fieldAddr fl_50_3 rfl) ?_)
        refine wlT rfl rfl rfl rfl hg6 (o_val (r_load1 (hL.own 0 _ rfl) sc_3 rfl rfl) ?_)
        refine wlT rfl rfl rfl rfl hg6 (o_val (r_geq rfl rfl) ?_)
        refine sv (r_pickT hg6 rfl rfl) <| sv (r_move rfl) ?_
        refine m_if hm (fun hg7 hm => ?_) (fun hg7 hm => ?_)
        · refine wlT rfl rfl rfl rfl hg7 (o_val (r_fieldAddr fl_50_3 rfl) ?_)
          refine wlT rfl rfl rfl rfl hg7 (o_val (r_load1 (hL.own 0 _ rfl) sc_3 rfl rfl) ?_)
          refine wlT rfl rfl rfl rfl hg7 (o_val (r_leq rfl rfl) ?_)
          refine sv (r_pickT hg7 rfl rfl) <| sv (r_assign rfl) <| wt <| wp_ret ?_
          obtain rfl := ends hm
          exact rt rfl (.tmp rfl .nil) ⟨_, _, rfl, hL.ext, rfl⟩
        · cases hm
      · cases hm
    · cases hm
  · cases hm

/-- value.List -/
def m87 (a0 : List J) : Option J :=
  ((m169 a0).bind fun t1 => (bif (decide (t1.length ≤ LIM)) then (some ((J.list t1))) else none))
set_option maxHeartbeats 20000000 in
set_option maxRecDepth 100000 in
theorem c87 : ∀ {H0 : Hp} {w0 : World} {a0 : List J} {aa0 : Option Addr} {ca0 : Nat}  (_ : Imm H0 w0) (_ : Sl cJ H0 aa0 ca0 a0) {r : J} (_ : m87 a0 = some r), Ct Tryz.prog 87 [.slice aa0 (List.length a0) ca0] [] H0 w0 fun v H' w' => ∃ (xr0_0 : Value), v = .agg (List.toArray [xr0_0]) ∧ VR H' xr0_0 r := by
  intro H0 w0 a0 aa0 ca0  hI ha0 r hm
  have hL := L.start hI
  refine ct_of Tryz.func87 rfl Tryz.ntmps87 rfl (Nat.le_of_ble_eq_true rfl) ?_
  unfold m87 at hm
  refine sr ?_
  refine wl rfl (o_alloc 0 (c := [_]) hL ze_33 rfl fun b0 w hL => ?_)
  refine wt <| sr <| sv (r_move rfl) ?_
  obtain ⟨t1, ht1, hm⟩ := bnd hm
  have hL := hL.room 1
  refine wl rfl (o_callE 1 hL fn_169 rfl rfl (c169 hL.imm ha0 ht1) fun x v H w hlet1 hL hR => ?_)
  obtain ⟨at1r0_0, ct1r0_0, zt1r0_0⟩ := x
  try dsimp only at hL hR
  obtain ⟨rfl, ht1r0_0⟩ := hR
  obtain ⟨H, hlez2, hL, hsz2⟩ := hL.settle (i := 1) (K := cJ) rfl ht1r0_0
  obtain ⟨hg4, hm⟩ := grd hm
  have hy3 := VR.ofList (c := ct1r0_0) (of_decide_eq_true hg4) hsz2
  refine sv (r_mkI mkI_171 rfl) <| sv (r_build ze_33 st_33 rfl (.cons rfl .nil) (cs := [_]) rfl) ?_
  refine wl rfl (o_storek (i := 0) (vs := [_]) hL ag_33 rfl rfl rfl rfl (Nat.le_of_ble_eq_true rfl) (List.forall_mem_cons.2 ⟨rfl, List.forall_mem_nil _⟩) (c' := _ :: []) rfl fun w hL => ?_)
  refine wt <| wp_ret ?_
  obtain rfl := ends hm
  exact rt rfl (.agg (hL.own 0 _ rfl) ag_33 rfl (us := [_]) rfl rfl .nil) ⟨_, _, rfl, hL.ext, ⟨_, rfl, hy3⟩⟩

/-- (*kind.Type).Item -/
def m301 (a0 : Ty) (a1 : Int) : Option (Int × Bool) :=
  ((m224 a0).bind fun t1 => (bif (t1 != (6 : Int)) then none else (bif (!a0.isNo) then (bif (a0.form == (7 : Int)) then none else (some (((-1) : Int), (decide ((0 : Int) ≤ a1))))) else none)))
set_option maxHeartbeats 20000000 in
set_option maxRecDepth 100000 in
theorem c301 : ∀ {H0 : Hp} {w0 : World} {a0 : Ty} {a1 : Int} {pa0 : Value}  (_ : Imm H0 w0) (_ : TyR H0 pa0 a0) {r : (Int × Bool)} (_ : m301 a0 a1 = some r), Ct Tryz.prog 301 [pa0, .int .i64 a1] [] H0 w0 fun v H' w' => v = .tuple (List.toArray [.int .i64 r.1, .bool r.2]) := by
  intro H0 w0 a0 a1 pa0  hI ha0 r hm
  have hL := L.start hI
  refine ct_of Tryz.func301 rfl Tryz.ntmps301 rfl (Nat.le_of_ble_eq_true rfl) ?_
  unfold m301 at hm
  refine sr <| sv (r_assign rfl) <| sv (r_assign rfl) <| wt <| wp_seq <| wp_block <| sr <| sv (r_move rfl) ?_
  obtain ⟨t1, ht1, hm⟩ := bnd hm
  refine wl rfl (o_call0 hL fn_224 rfl (c224 hL.imm ha0 ht1) fun v H w hlet1 hL hR => ?_)
  replace ha0 := TyR.mono hlet1 ha0
  obtain rfl := hR
  refine sv (r_nei rfl rfl) <| sv (r_assign rfl) <| wt ?_
  refine c_if hm rfl (fun hg2 hm => ?_) (fun hg2 hm => ?_)
  · cases hm
  · refine sr <| sv (r_move rfl) ?_
    obtain ⟨hg3, hm⟩ := grd hm
    obtain ⟨bp4, aap4, cap4, abp4, cbp4, acp4, ccp4, hvp4, hcp4, hsap4, hsbp4, hscp4⟩ := TyR.get ha0 hg3
    refine sv (r_nilCheck (ev_eq rfl hvp4)) <| sv (r_fieldAddr fl_322_0 rfl) <| sv (r_loadH1 hL.imm sc_3 rfl (HC.sub hcp4 0 1 (us := [_]) rfl)) <| sv (r_eqi rfl rfl) <| sv (r_assign rfl) <| wt ?_
    refine c_if hm rfl (fun hg5 hm => ?_) (fun hg5 hm => ?_)
    · cases hm
    · refine wp_skip <| blk_n <| then_n <| sr <| sv (r_move rfl) <| sv (r_geq rfl rfl) <| sv (r_assign rfl) <| sv (r_assign rfl) <| wt <| wp_ret ?_
      obtain rfl := ends hm
      exact rt rfl (.tmp rfl (.tmp rfl .nil)) ⟨_, _, rfl, hL.ext, rfl⟩

/-- (*kind.Type).Place -/
def m304 (a0 : Ty) (a1 : Int) : Option (Ty × Bool) :=
  ((m224 a0).bind fun t1 => (bif (t1 != (6 : Int)) then none else (bif (decide (a1 < (0 : Int))) then none else (bif (!a0.isNo) then (bif (a0.form == (7 : Int)) then none else (bif (decide (0 ≤ (mn a1 (IntKind.wrap .i64 ((a0.lst.length : Int) - (1 : Int)))) ∧ (mn a1 (IntKind.wrap .i64 ((a0.lst.length : Int) - (1 : Int)))) < (a0.lst.length : Int))) then (some ((a0.lst.getD ((mn a1 (IntKind.wrap .i64 ((a0.lst.length : Int) - (1 : Int))))).toNat Ty.no), true)) else none)) else none))))
set_option maxHeartbeats 20000000 in
set_option maxRecDepth 100000 in
theorem c304 : ∀ {H0 : Hp} {w0 : World} {a0 : Ty} {a1 : Int} {pa0 : Value}  (_ : Imm H0 w0) (_ : TyR H0 pa0 a0) {r : (Ty × Bool)} (_ : m304 a0 a1 = some r), Ct Tryz.prog 304 [pa0, .int .i64 a1] [] H0 w0 fun v H' w' => ∃ (pr0_0 : Value), v = .tuple (List.toArray [pr0_0, .bool r.2]) ∧ TyR H' pr0_0 r.1 := by
  intro H0 w0 a0 a1 pa0  hI ha0 r hm
  have hL := L.start hI
  refine ct_of Tryz.func304 rfl Tryz.ntmps304 rfl (Nat.le_of_ble_eq_true rfl) ?_
  unfold m304 at hm
  refine sr <| sv (r_assign rfl) <| sv (r_assign rfl) <| wt <| wp_seq <| sr <| sv (r_move rfl) ?_
  obtain ⟨t1, ht1, hm⟩ := bnd hm
  refine wl rfl (o_call0 hL fn_224 rfl (c224 hL.imm ha0 ht1) fun v H w hlet1 hL hR => ?_)
  replace ha0 := TyR.mono hlet1 ha0
  obtain rfl := hR
  refine sv (r_nei rfl rfl) <| sv (r_move rfl) ?_
  refine m_if hm (fun hg2 hm => ?_) (fun hg2 hm => ?_)
  · cases hm
  · refine wlT rfl rfl rfl rfl hg2 (o_val (r_move rfl) ?_)
    refine wlT rfl rfl rfl rfl hg2 (o_val (r_lss rfl rfl) ?_)
    refine sv (r_pickF hg2 rfl rfl) <| sv (r_move rfl) ?_
    refine m_if hm (fun hg3 hm => ?_) (fun hg3 hm => ?_)
    · cases hm
    · refine wlT rfl rfl rfl rfl hg3 (o_val (r_move rfl) ?_)
      obtain ⟨hg4, hm⟩ := grd hm
      obtain ⟨bp5, aap5, cap5, abp5, cbp5, acp5, ccp5, hvp5, hcp5, hsap5, hsbp5, hscp5⟩ := TyR.get ha0 hg4
      refine wlT rfl rfl rfl rfl hg3 (o_val (r_nilCheck (ev_eq rfl hvp5)) ?_)
      refine wlT rfl rfl rfl rfl hg3 (o_val (r_fieldAddr fl_322_0 rfl) ?_)
      refine wlT rfl rfl rfl rfl hg3 (o_val (r_loadH1 hL.imm sc_3 rfl (HC.sub hcp5 0 1 (us := [_]) rfl)) ?_)
      refine wlT rfl rfl rfl rfl hg3 (o_val (r_eqi rfl rfl) ?_)
      refine wlT rfl rfl rfl rfl hg3 (o_val (r_move rfl) ?_)
      refine m_if hm (fun hg6 hm => ?_) (fun hg6 hm => ?_)
      · cases hm
      · refine wlF rfl rfl rfl rfl hg6 rfl <| wlF rfl rfl rfl rfl hg6 rfl <| wlF rfl rfl rfl rfl hg6 rfl <| wlF rfl rfl rfl rfl hg6 rfl <| wlF rfl rfl rfl rfl hg6 rfl <| wlF rfl rfl rfl rfl hg6 rfl <| wlF rfl rfl rfl rfl hg6 rfl ?_
        refine wlT rfl rfl rfl rfl hg3 (o_val (r_pickF hg6 rfl rfl) ?_)
        refine sv (r_pickF hg3 rfl rfl) <| wt <| c_F rfl rfl <| wp_skip <| then_n <| wp_seq <| rd hL [] [] [(0, true), (1, true), (2, true), (3, true), (4, true), (5, true), (6, true), (7, true), (8, true), (9, true), (10, true), (11, true), (12, true), (13, true), (14, true), (15, true)] mixed rfl (by kernel_rfl) fun w hL => dv rfl (fun w hS => r_move rfl) ?_
        obtain ⟨bp7, aap7, cap7, abp7, cbp7, acp7, ccp7, hvp7, hcp7, hsap7, hsbp7, hscp7⟩ := TyR.get ha0 hg4
        refine dv rfl (fun w hS => r_nilCheck (ev_eq rfl hvp7)) <| dv rfl (fun w hS => r_fieldAddr fl_322_1 rfl) <| dv rfl (fun w hS => r_loadH1 hS.1 sc_320 rfl (HC.sub hcp7 1 1 (us := [_]) rfl)) <| dv rfl (fun w hS => r_move rfl) <| dv rfl (fun w hS => r_move rfl) ?_
        obtain ⟨bp8, aap8, cap8, abp8, cbp8, acp8, ccp8, hvp8, hcp8, hsap8, hsbp8, hscp8⟩ := TyR.get ha0 hg4
        refine dv rfl (fun w hS => r_nilCheck (ev_eq rfl hvp8)) <| dv rfl (fun w hS => r_fieldAddr fl_322_1 rfl) <| dv rfl (fun w hS => r_loadH1 hS.1 sc_320 rfl (HC.sub hcp8 1 1 (us := [_]) rfl)) <| dv rfl (fun w hS => r_lenS rfl Tryz.underlying320 rfl) <| dv rfl (fun w hS => r_sub rfl rfl) <| dv rfl (fun w hS => r_min rfl rfl) ?_
        obtain ⟨hg10, hm⟩ := grd hm
        obtain ⟨be9, oe9, _, hae9, hce9, ⟨pe90, rfl, he90⟩⟩ := Sl.at hsap7 Ty.no hg10
        refine dv rfl (fun w hS => r_indexAddr el_320 hg10 hae9 rfl rfl) <| dv rfl (fun w hS => r_loadH1 hS.1 sc_39 rfl hce9) <| dv rfl (fun w hS => r_assign rfl) <| dv rfl (fun w hS => r_assign rfl) <| dn <| then_n <| wp_ret ?_
        obtain rfl := ends hm
        exact rt rfl (.tmp rfl (.tmp rfl .nil)) ⟨_, _, rfl, hL.ext, ⟨_, rfl, he90⟩⟩

/-- (*text.reader).number -/
def m260_j0 (s0 : Bs) (s1 : Int) (u0_1_1 : Int) (u0_2_1 : Int) : Option (Int × Int × Int) := ((m164 s0 u0_1_1 u0_2_1).bind fun t2 => (bif t2 then (some ((0 : Int), u0_1_1, u0_2_1)) else (bif (decide (0 ≤ s1 ∧ s1 ≤ u0_1_1 ∧ u0_1_1 ≤ (s0.length : Int))) then ((m172 ((s0.take (u0_1_1).toNat).drop (s1).toNat)).bind fun t5 => (bif (!t5.2) then none else (some (t5.1, u0_1_1, u0_2_1)))) else none)))
def m260_l2 (s0 : Bs) (s1 : Int) (s2 : Int) (s3 : Int) : Nat → Int → Option (Int × Int × Int)
  | 0, _ => none
  | k + 1, u0_1_3 => ((m330 s0 u0_1_3 s2 s3).bind fun t11 => (bif t11 then (m260_l2 s0 s1 s2 s3 k (IntKind.wrap .i64 (u0_1_3 + (1 : Int)))) else (m260_j0 s0 s1 u0_1_3 s2)))
def m260_j1 (s0 : Bs) (s1 : Int) (s2 : Int) (s3 : Int) (t1 : (Bool × Int)) (v27_2 : Bool) : Option (Int × Int × Int) := (bif v27_2 then ((m165 s0 t1.2 s2 t1.2 (4 : Int)).bind fun t8 => (m260_j0 s0 s1 t8.1 t8.2)) else ((m328 s0 t1.2 s2 (48 : Int)).bind fun t9 => (bif t9.1 then none else (m260_l2 s0 s1 s2 s3 FUEL t9.2))))
def m260 (s0 : Bs) (s1 : Int) (s2 : Int) (s3 : Int) : Option (Int × Int × Int) :=
  ((m328 s0 s1 s2 (45 : Int)).bind fun t1 => ((m330 s0 t1.2 s2 s3).bind fun t13 => (bif (!t13) then (m260_j1 s0 s1 s2 s3 t1 true) else (bif t1.1 then ((m254 s0 t1.2 s2).bind fun t16 => (m260_j1 s0 s1 s2 s3 t1 (t16 == (48 : Int)))) else (m260_j1 s0 s1 s2 s3 t1 false)))))
set_option maxHeartbeats 20000000 in
set_option maxRecDepth 100000 in
theorem c260 : ∀ {H0 : Hp} {w0 : World} {s0 : Bs} {s1 : Int} {s2 : Int} {s3 : Int} {b0 : Nat} {tl0 : List Value} {T0 : TypeId} (_ : Imm H0 w0) (_ : GT H0) (_ : Rs.holds w0 (.cel b0 ((.string (mk s0)) :: (.int .i64 s1) :: (.int .i64 s2) :: (.int .i64 s3) :: tl0) T0)) (_ : ∀ b' ∈ Rs.foot (.cel b0 ((.string (mk s0)) :: (.int .i64 s1) :: (.int .i64 s2) :: (.int .i64 s3) :: tl0) T0), H0 b' = none) {r : (Int × Int × Int)} (_ : m260 s0 s1 s2 s3 = some r), Ct Tryz.prog 260 [.pointer (some ⟨b0, 0, none⟩)] (Rs.foot (.cel b0 ((.string (mk s0)) :: (.int .i64 s1) :: (.int .i64 s2) :: (.int .i64 s3) :: tl0) T0)) H0 w0 fun v H' w' => (v = .int .i64 r.1) ∧ Rs.holds w' (.cel b0 ((.string (mk s0)) :: (.int .i64 r.2.1) :: (.int .i64 r.2.2) :: (.int .i64 s3) :: tl0) T0) ∧ ∀ b' ∈ Rs.foot (.cel b0 ((.string (mk s0)) :: (.int .i64 r.2.1) :: (.int .i64 r.2.2) :: (.int .i64 s3) :: tl0) T0), H' b' = none ∧ (b' ∈ Rs.foot (.cel b0 ((.string (mk s0)) :: (.int .i64 s1) :: (.int .i64 s2) :: (.int .i64 s3) :: tl0) T0) ∨ w0.heap.size ≤ b') := by
  intro H0 w0 s0 s1 s2 s3 b0 tl0 T0  hI hG hb hn r hm
  have hL := L.one hI hb hn
  refine ct_of Tryz.func260 rfl Tryz.ntmps260 rfl (Nat.le_of_ble_eq_true rfl) ?_
  unfold m260 at hm
  refine sr <| sv (r_assign rfl) <| wt <| sr <| sv (r_move rfl) <| sv (r_nilCheck rfl) <| sv (r_fieldAddr fl_276_0 rfl) <| sv (r_fieldAddr fl_274_1 rfl) <| sv (r_load1 (hL.own 0 _ rfl) sc_3 rfl rfl) <| sv (r_assign rfl) <| wt <| sr <| sv (r_move rfl) <| sv (r_nilCheck rfl) <| sv (r_fieldAddr fl_276_0 rfl) ?_
  obtain ⟨t1, ht1, hm⟩ := bnd hm
  refine wl rfl (o_call1 0 hL fn_328 rfl rfl (c328 hL.imm (hL.own 0 _ rfl) (fun b' hb' => (hL.non 0 _ rfl b' hb').1) ht1) fun v H w hlet1 hL hR => ?_)
  replace hG := GT.mono hlet1 hG
  obtain rfl := hR
  refine sv (r_assign rfl) <| wt ?_
  refine w_join (fun a w => ∃ (u0_1_1 : Int) (u0_2_1 : Int) (l : List (Nat × Value)) (H : Hp), a = fr 83 ([(0, .pointer (some ⟨b0, 0, none⟩)), (2, .int .i64 0), (3, .int .i64 s1)] ++ l) [] ∧ L (Rs.foot (.cel b0 ((.string (mk s0)) :: (.int .i64 s1) :: (.int .i64 s2) :: (.int .i64 s3) :: tl0) T0)) H0 w0 [(0, .cel b0 ((.string (mk s0)) :: (.int .i64 u0_1_1) :: (.int .i64 u0_2_1) :: (.int .i64 s3) :: tl0) T0)] H w ∧ GT H ∧ (m260_j0 s0 s1 u0_1_1 u0_2_1) = some r) (fun a w hj => ?_) ?_
  · obtain ⟨u0_1_1, u0_2_1, l, H, rfl, hL, hG, hm⟩ := hj
    unfold m260_j0 at hm
    refine wp_seq <| sr <| sv (r_move rfl) <| sv (r_nilCheck rfl) <| sv (r_fieldAddr fl_276_0 rfl) ?_
    obtain ⟨t2, ht2, hm⟩ := bnd hm
    refine wl rfl (o_call0 hL fn_164 rfl (c164 hL.imm (hL.own 0 _ rfl) (fun b' hb' => (hL.non 0 _ rfl b' hb').1) ht2) fun v H w hlet2 hL hR => ?_)
    replace hG := GT.mono hlet2 hG
    obtain rfl := hR
    refine wt ?_
    refine c_if hm rfl (fun hg3 hm => ?_) (fun hg3 hm => ?_)
    · refine sr <| sv (r_assign rfl) <| wt <| wp_ret <| then_r ?_
      obtain rfl := ends hm
      refine rt rfl (.tmp rfl .nil) ⟨_, _, rfl, hL.ext, ?_⟩
      exact ⟨rfl, hL.give (i := 0) rfl⟩
    · refine wp_skip <| then_n <| wp_seq <| rd hL [0] [_] [(0, true), (1, true), (2, true), (3, true), (4, true), (5, true), (6, true), (7, true), (8, true), (9, true), (10, true), (11, true), (12, false), (13, true), (14, true), (15, true), (16, true), (17, true)] mixed rfl (by kernel_rfl) fun w hL => dv rfl (fun w hS => r_move rfl) <| dv rfl (fun w hS => r_nilCheck rfl) <| dv rfl (fun w hS => r_fieldAddr fl_276_0 rfl) <| dv rfl (fun w hS => r_fieldAddr fl_274_0 rfl) <| dv rfl (fun w hS => r_load1 hS.2.1 sc_9 rfl rfl) <| dv rfl (fun w hS => r_move rfl) <| dv rfl (fun w hS => r_move rfl) <| dv rfl (fun w hS => r_nilCheck rfl) <| dv rfl (fun w hS => r_fieldAddr fl_276_0 rfl) <| dv rfl (fun w hS => r_fieldAddr fl_274_1 rfl) <| dv rfl (fun w hS => r_load1 hS.2.1 sc_3 rfl rfl) ?_
      obtain ⟨hg4, hm⟩ := grd hm
      refine dv rfl (fun w hS => r_slices Tryz.underlying9 hg4 rfl (.inl ⟨_, _, rfl, rfl⟩) (.inl ⟨_, _, rfl, rfl⟩)) ?_
      obtain ⟨t5, ht5, hm⟩ := bnd hm
      refine dh rfl rfl (o_call0 hL fn_172 rfl (c172 hL.imm hG ht5) fun v H w hlet5 hL hR => ⟨Sd.of hL ((Hle.refl _).trans hlet5) [0] rfl, ?_⟩)
      replace hG := GT.mono hlet5 hG
      obtain ⟨pt5r1_0, rfl, ht5r1_0⟩ := hR
      refine dv rfl (fun w hS => r_move rfl) <| dv rfl (fun w hS => r_extract rfl rfl) <| dv rfl (fun w hS => r_extract rfl rfl) <| dv rfl (fun w hS => r_assign rfl) <| dv rfl (fun w hS => r_assign rfl) <| dn <| then_n <| wp_seq <| sr <| sv (r_move rfl) <| sv (r_neER ht5r1_0 rfl) <| wt ?_
      refine c_if hm rfl (fun hg6 hm => ?_) (fun hg6 hm => ?_)
      · cases hm
      · refine wp_skip <| then_n <| sr <| sv (r_move rfl) <| sv (r_assign rfl) <| wt <| wp_ret ?_
        obtain rfl := ends hm
        refine rt rfl (.tmp rfl .nil) ⟨_, _, rfl, hL.ext, ?_⟩
        exact ⟨rfl, hL.give (i := 0) rfl⟩
  · refine wp_block ?_
    refine w_join (fun a w => ∃ (v27_2 : Bool) (l : List (Nat × Value)) (H : Hp), a = fr 83 ([(0, .pointer (some ⟨b0, 0, none⟩)), (2, .int .i64 0), (3, .int .i64 s1), (27, .bool v27_2)] ++ l) [] ∧ L (Rs.foot (.cel b0 ((.string (mk s0)) :: (.int .i64 s1) :: (.int .i64 s2) :: (.int .i64 s3) :: tl0) T0)) H0 w0 [(0, .cel b0 ((.string (mk s0)) :: (.int .i64 t1.2) :: (.int .i64 s2) :: (.int .i64 s3) :: tl0) T0)] H w ∧ GT H ∧ (m260_j1 s0 s1 s2 s3 t1 v27_2) = some r) (fun a w hj => ?_) ?_
    · obtain ⟨v27_2, l, H, rfl, hL, hG, hm⟩ := hj
      unfold m260_j1 at hm
      refine c_if hm rfl (fun hg7 hm => ?_) (fun hg7 hm => ?_)
      · refine rdO hL [0] [8] [_] (.lt 0 [] (.lt 1 [] (.lt 2 [] (.lt 3 [] (.lt 4 [] (.lt 5 [] (.lt 6 [] (.lt 7 [0] (.hv 8 [] .dn))))))))) mixed rfl (by kernel_rfl) fun w hL => ov rfl (fun w hS => r_move rfl) <| ov rfl (fun w hS => r_nilCheck rfl) <| ov rfl (fun w hS => r_fieldAddr fl_276_0 rfl) <| ov rfl (fun w hS => r_move rfl) <| ov rfl (fun w hS => r_nilCheck rfl) <| ov rfl (fun w hS => r_fieldAddr fl_276_0 rfl) <| ov rfl (fun w hS => r_fieldAddr fl_274_1 rfl) <| ov rfl (fun w hS => r_load1 hS.2.1 sc_3 rfl rfl) ?_
        obtain ⟨t8, ht8, hm⟩ := bnd hm
        refine oh rfl rfl (o_call1 0 hL fn_165 rfl rfl (c165 hL.imm (hL.own 0 _ rfl) (fun b' hb' => (hL.non 0 _ rfl b' hb').1) ht8) fun v H w hlet8 hL hR => ⟨Sa.of hL ((Hle.refl _).trans hlet8) [] rfl, ?_⟩)
        replace hG := GT.mono hlet8 hG
        obtain rfl := hR
        refine on <| blk_n <| then_n ?_
        exact ⟨_, _, _, _, fr_pre _ rfl, hL.pick _ rfl, hG, hm⟩
      · refine sr <| sv (r_move rfl) <| sv (r_nilCheck rfl) <| sv (r_fieldAddr fl_276_0 rfl) ?_
        obtain ⟨t9, ht9, hm⟩ := bnd hm
        refine wl rfl (o_call1 0 hL fn_328 rfl rfl (c328 hL.imm (hL.own 0 _ rfl) (fun b' hb' => (hL.non 0 _ rfl b' hb').1) ht9) fun v H w hlet9 hL hR => ?_)
        replace hG := GT.mono hlet9 hG
        obtain rfl := hR
        refine sv (r_assign rfl) <| wt ?_
        refine c_if hm rfl (fun hg10 hm => ?_) (fun hg10 hm => ?_)
        · cases hm
        · refine wp_block <| wp_loop_fuel (k := FUEL) (fun k a w => ∃ (u0_1_3 : Int) (l : List (Nat × Value)) (H : Hp), a = fr 83 ([(0, .pointer (some ⟨b0, 0, none⟩)), (2, .int .i64 0), (3, .int .i64 s1)] ++ l) [] ∧ L (Rs.foot (.cel b0 ((.string (mk s0)) :: (.int .i64 s1) :: (.int .i64 s2) :: (.int .i64 s3) :: tl0) T0)) H0 w0 [(0, .cel b0 ((.string (mk s0)) :: (.int .i64 u0_1_3) :: (.int .i64 s2) :: (.int .i64 s3) :: tl0) T0)] H w ∧ GT H ∧ (m260_l2 s0 s1 s2 s3 k u0_1_3) = some r) ⟨_, _, _, fr_pre _ rfl, hL.pick _ rfl, hG, hm⟩ ?_
          rintro k2 a w ⟨u0_1_3, l, H, rfl, hL, hG, hm⟩
          cases k2 with
          | zero => rw [m260_l2.eq_1] at hm; cases hm
          | succ k2 =>
            rw [m260_l2.eq_2] at hm
            refine wp_seq <| sr <| sv (r_move rfl) ?_
            obtain ⟨t11, ht11, hm⟩ := bnd hm
            refine wl rfl (o_call0 hL fn_330 rfl (c330 hL.imm (hL.own 0 _ rfl) (fun b' hb' => (hL.non 0 _ rfl b' hb').1) ht11) fun v H w hlet11 hL hR => ?_)
            replace hG := GT.mono hlet11 hG
            obtain rfl := hR
            refine wt ?_
            refine c_if hm rfl (fun hg12 hm => ?_) (fun hg12 hm => ?_)
            · refine wp_skip <| then_n <| wp_block <| rg <| sv (r_move rfl) <| sv (r_nilCheck rfl) <| sv (r_fieldAddr fl_276_0 rfl) <| sv (r_fieldAddr fl_274_1 rfl) <| sv (r_load1 (hL.own 0 _ rfl) sc_3 rfl rfl) <| sv (r_add rfl rfl) <| sv (r_nilCheck rfl) <| sv (r_fieldAddr fl_276_0 rfl) <| sv (r_fieldAddr fl_274_1 rfl) ?_
              refine wl rfl (o_store1 (i := 0) hL sc_3 rfl rfl rfl rfl rfl (c' := _ :: _ :: _ :: _ :: _) rfl fun w hL => ?_)
              refine wn <| blk_n <| then_n ?_
              exact ⟨k2, Nat.lt_succ_self k2, _, _, _, fr_pre _ rfl, hL.pick _ rfl, hG, hm⟩
            · refine wp_exit <| then_e <| then_e <| blk_e <| blk_n <| then_n ?_
              exact ⟨_, _, _, _, fr_pre _ rfl, hL.pick _ rfl, hG, hm⟩
    · refine rg <| sv (r_move rfl) ?_
      obtain ⟨t13, ht13, hm⟩ := bnd hm
      refine wl rfl (o_call0 hL fn_330 rfl (c330 hL.imm (hL.own 0 _ rfl) (fun b' hb' => (hL.non 0 _ rfl b' hb').1) ht13) fun v H w hlet13 hL hR => ?_)
      replace hG := GT.mono hlet13 hG
      obtain rfl := hR
      refine sv (r_not rfl) <| sv (r_move rfl) ?_
      refine m_if hm (fun hg14 hm => ?_) (fun hg14 hm => ?_)
      · refine wlF rfl rfl rfl rfl hg14 rfl <| wlF rfl rfl rfl rfl hg14 rfl <| wlU rfl rfl rfl rfl rfl <| wlU rfl rfl rfl rfl rfl <| wlU rfl rfl rfl rfl rfl <| wlU rfl rfl rfl rfl rfl <| wlU rfl rfl rfl rfl rfl <| wlF rfl rfl rfl rfl hg14 rfl <| sv (r_pickT hg14 rfl rfl) <| sv (r_assign rfl) <| wt ?_
        exact ⟨_, _, _, fr_pre _ rfl, hL.pick _ rfl, hG, hm⟩
      · refine wlT rfl rfl rfl rfl hg14 (o_val (r_move rfl) ?_)
        refine wlT rfl rfl rfl rfl hg14 (o_val (r_move rfl) ?_)
        refine m_if hm (fun hg15 hm => ?_) (fun hg15 hm => ?_)
        · refine wlT rfl rfl rfl rfl hg15 (o_val (r_move rfl) ?_)
          refine wlT rfl rfl rfl rfl hg15 (o_val (r_nilCheck rfl) ?_)
          refine wlT rfl rfl rfl rfl hg15 (o_val (r_fieldAddr fl_276_0 rfl) ?_)
          obtain ⟨t16, ht16, hm⟩ := bnd hm
          refine wlT rfl rfl rfl rfl hg15 (o_call0 hL fn_254 rfl (c254 hL.imm (hL.own 0 _ rfl) (fun b' hb' => (hL.non 0 _ rfl b' hb').1) ht16) fun v H w hlet16 hL hR => ?_)
          replace hG := GT.mono hlet16 hG
          obtain rfl := hR
          refine wlT rfl rfl rfl rfl hg15 (o_val (r_eqi rfl rfl) ?_)
          refine wlT rfl rfl rfl rfl hg14 (o_val (r_pickT hg15 rfl rfl) ?_)
          refine sv (r_pickF hg14 rfl rfl) <| sv (r_assign rfl) <| wt ?_
          exact ⟨_, _, _, fr_pre _ rfl, hL.pick _ rfl, hG, hm⟩
        · refine wlF rfl rfl rfl rfl hg15 rfl <| wlF rfl rfl rfl rfl hg15 rfl <| wlF rfl rfl rfl rfl hg15 rfl <| wlF rfl rfl rfl rfl hg15 rfl <| wlF rfl rfl rfl rfl hg15 rfl ?_
          refine wlT rfl rfl rfl rfl hg14 (o_val (r_pickF hg15 rfl rfl) ?_)
          refine sv (r_pickF hg14 rfl rfl) <| sv (r_assign rfl) <| wt ?_
          exact ⟨_, _, _, fr_pre _ rfl, hL.pick _ rfl, hG, hm⟩

/-- flangetop.wakesMap -/
def m88  : Option J :=
  ((m126 ([] : List Bs) ([] : List J)).bind fun t1 => (some (t1.1)))
set_option maxHeartbeats 20000000 in
set_option maxRecDepth 100000 in
theorem c88 : ∀ {H0 : Hp} {w0 : World}   (_ : Imm H0 w0) {r : J} (_ : m88  = some r), Ct Tryz.prog 88 [] [] H0 w0 fun v H' w' => ∃ (xr0_0 : Value), v = .agg (List.toArray [xr0_0]) ∧ VR H' xr0_0 r := by
  intro H0 w0  hI r hm
  have hL := L.start hI
  refine ct_of Tryz.func88 rfl Tryz.ntmps88 rfl (Nat.le_of_ble_eq_true rfl) ?_
  unfold m88 at hm
  refine sr ?_
  refine wl rfl (o_alloc 0 (c := [_]) hL ze_33 rfl fun b0 w hL => ?_)
  refine wt <| sr ?_
  obtain ⟨t1, ht1, hm⟩ := bnd hm
  refine wl rfl (o_call0 hL fn_126 rfl (c126 hL.imm Sl.nil Sl.nil ht1) fun v H w hlet1 hL hR => ?_)
  obtain ⟨xt1r0_0, rfl, ht1r0_0⟩ := hR
  refine sv (r_move rfl) <| sv (r_extract rfl rfl) <| sv (r_extract rfl rfl) ?_
  refine wl rfl (o_alloc 1 (c := [_]) hL ze_33 rfl fun b1 w hL => ?_)
  refine wl rfl (o_storek (i := 1) (vs := [_]) hL ag_33 rfl rfl rfl rfl (Nat.le_of_ble_eq_true rfl) (List.forall_mem_cons.2 ⟨(VR.one ht1r0_0), List.forall_mem_nil _⟩) (c' := _ :: []) rfl fun w hL => ?_)
  refine sv (r_assign rfl) <| wt <| sr <| sv (r_loadk (hL.own 1 _ rfl) ag_33 rfl (vs := [_]) rfl rfl) ?_
  refine wl rfl (o_storek (i := 0) (vs := [_]) hL ag_33 rfl rfl rfl rfl (Nat.le_of_ble_eq_true rfl) (List.forall_mem_cons.2 ⟨(VR.one ht1r0_0), List.forall_mem_nil _⟩) (c' := _ :: []) rfl fun w hL => ?_)
  refine wt <| wp_ret ?_
  obtain rfl := ends hm
  exact rt rfl (.agg (hL.own 0 _ rfl) ag_33 rfl (us := [_]) rfl rfl .nil) ⟨_, _, rfl, hL.ext, ⟨_, rfl, ht1r0_0⟩⟩

end Go.Proofs.YtcjphpenelnohaaGreatDoor
