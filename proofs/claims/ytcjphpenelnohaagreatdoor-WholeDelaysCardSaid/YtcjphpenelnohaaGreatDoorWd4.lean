/- WholeDelays: part 4. -/
import Derived.Test.YtcjphpenelnohaaGreatDoorWd3
import Derived.WideKeyEntry
import Derived.StringKeys
import Derived.IntWalk
import Derived.Test.YtcjphpenelnohaaGreatDoorTie
import Derived.Test.YtcjphpenelnohaaGreatDoorCards
import Derived.WalkKit
import Derived.ProofKit
import Derived.OpenShut
import Derived.Carry
import Derived.Deep.DeepHandedRow
import Derived.Deep.SlicePairs
import Derived.Lib.LaidTab
import Derived.Lib.SmallJoins
import Derived.Stop.LaidErr
import Derived.Lay
import Derived.MakeChecks
import Derived.JoinedCond
import Derived.KernelRfl
import Derived.SevenTiedAt
set_option linter.all false
set_option linter.unusedVariables false
set_option linter.unusedSimpArgs false
set_option linter.unusedSectionVars false
set_option linter.unnecessarySimpa false
set_option linter.deprecated false
/- schema.Make: maps' entries; a schema whose attributes' row is still one's own. -/
set_option linter.unusedVariables false
namespace Go.Proofs.YtcjphpenelnohaaGreatDoor
open Go.RowKit Go.WideElems Go.MapKept
open Go.ChangeMaps (setBlock)
section
variable {Q : Exit → Act → World → Prop} {n : Nat} {l : List (Nat × Value)} {ds : List Deferred} {w w0 : World}
  {d : Nat} {x y z : Operand} {ty : TypeId} {pos : String} {aft : Array Edge} {v u : Value} {g : Option (Nat × Bool)} {K : Act → World → Prop} {X : List Nat} {H0 H : Hp} {S : List (Nat × Rs)}
  {α : Type} {V : EV α} {es : Array MapEntry} {clock b : Nat} {m : List (Bs × α)}
/-- What an entry's store will do. -/
def Est (V : EV α) (H : Hp) (t : TypeId) (b : Nat) (m : List (Bs × α)) (k0 : Bs) (st : Nat) (es1 : Array MapEntry) (clock1 : Nat) : Prop :=
  ∀ (H' : Hp) (val : Value) (x : α) (m' : List (Bs × α)), Hle H H' → V.E H' val x → m'.Perm ((k0, x) :: m.filter fun p => !(p.1 == k0)) → m'.length ≤ LIM → ∀ w2 : World, w2.heap[b]? = some (.map es1 clock1) →
    ∃ es' clock', (Instr.entryStore t (.map (some b)) (goInt st) val).run Tryz.prog w2 = .ok () (setBlock w2 b (.map es' clock')) ∧ TR kStr V H' es' clock' m'
theorem setBlock_inj {w : World} {b : Nat} {o o' : Obj} (hb : b < w.heap.size) (h : setBlock w b o = setBlock w b o') : o = o' := by
  have := congrArg (fun w : World => w.heap[b]?) h
  simpa [setBlock, hb] using this
set_option maxRecDepth 100000 in
theorem o_mapEntry {t e : TypeId} {i : Nat} {z0 : Value} {k0 : Bs} (hL : L X H0 w0 S H w) (T : TR kStr V H es clock m) (ht : Tryz.prog.underlying t = some (.map 9 e)) (hz : Ze Tryz.prog e z0)
    (hs : sk S i = some (.obj b (.map es clock))) (hx : ev n l x = some (.map (some b))) (hy : ev n l y = some (.string (mk k0))) (hk : kStr.ok k0 = true)
    (k : ∀ v0 st es1 clock1 w', Est V H t b m k0 st es1 clock1 → L X H0 w0 ((i, .obj b (.map es1 clock1)) :: S) H w' → K (fr n ((d, .tuple (List.toArray [v0, goInt st])) :: l) ds) w') :
    Oper.wp Tryz.prog ⟨some d, .mapEntry t x y, ty, pos, aft, g⟩ (fr n l ds) w K Q := by
  have hb := hL.own i _ hs
  have hb' : w.heap[b]? = some (.map es clock) := hb
  have hblt := (Array.getElem?_eq_some_iff.1 hb').1
  obtain ⟨kl, hkl⟩ := kStr.key k0 hk
  obtain ⟨v0, st, es1, clock1, h1, _, h3⟩ := entry_then_store (Go.WideMaps.string_law Tryz.underlying9) ht (fun u => run_zero hz u) hb' T.fit hkl
  refine o_val (w' := setBlock w b (.map es1 clock1)) ?_ (k v0 st es1 clock1 _ ?_ (hL.turn hs))
  · have hy' : (fr n l ds).eval y = .string (mk k0) := ev_eval hy
    have h1' : (Instr.mapEntry t (.map (some b)) (.string (mk k0))).run Tryz.prog w = _ := h1
    simp only [execOp, ev_eval hx, hy', Sem.run_bind, h1', Result.andThen_ok, Sem.run_pure]
  · intro H' val x m' hle hv hp hlim w2 hw2
    obtain ⟨es', clock', h4, h5⟩ := h3 w2 val hw2
    obtain ⟨es2, clock2, h6, h7⟩ := (T.mono hle).put (K := kStr) (V := V) ht hb' hk hv hp hlim
    have h8 := h5.symm.trans h6
    have h9 := setBlock_inj hblt (Result.ok.inj h8).2
    cases h9
    exact ⟨_, _, h4, h7⟩
set_option maxRecDepth 100000 in
theorem o_entryStore {t : TypeId} {i : Nat} {st : Nat} {k0 : Bs} {x0 : α} {m' : List (Bs × α)} {es1 : Array MapEntry} {clock1 : Nat} (hL : L X H0 w0 S H w) (hE : Est V H t b m k0 st es1 clock1) (hs : sk S i = some (.obj b (.map es1 clock1)))
    (hx : ev n l x = some (.map (some b))) (hy : ev n l y = some (goInt st)) (hz : ev n l z = some v) (hv : V.E H v x0) (hp : m'.Perm ((k0, x0) :: m.filter fun p => !(p.1 == k0))) (hlim : m'.length ≤ LIM)
    (k : ∀ es' clock' w', TR kStr V H es' clock' m' → L X H0 w0 ((i, .obj b (.map es' clock')) :: S) H w' → K (fr n l ds) w') :
    Oper.wp Tryz.prog ⟨none, .entryStore t x y z, ty, pos, aft, g⟩ (fr n l ds) w K Q := by
  obtain ⟨es', clock', h1, h2⟩ := hE H v x0 m' (Hle.refl H) hv hp hlim w (hL.own i _ hs)
  refine o_skip (w' := setBlock w b (.map es' clock')) ?_ (k es' clock' _ h2 (hL.turn hs))
  simp only [execOp, ev_eval hx, ev_eval hy, ev_eval hz, Sem.run_bind, h1, Result.andThen_ok, Sem.run_pure]
end
/-- A schema just made: its attributes' row is still one's own. -/
def SmR (H : Hp) (p : Value) (a : Option Addr) (c : Nat) : Sch → Prop
  | .no => p = .pointer none ∧ a = none ∧ c = 0
  | .mk ver l => ∃ b b' es clock, p = .pointer (some ⟨b, 0, none⟩) ∧ HC H b 0 [.int .i64 ver, .slice a l.length c, .map (some b')] ∧ H b' = some (.map es clock) ∧ TR kStr (ev1 cInt) H es clock (places 0 l)
theorem SmR.mono {H H' : Hp} (h : Hle H H') {p : Value} {a : Option Addr} {c : Nat} {t : Sch} (ht : SmR H p a c t) : SmR H' p a c t := by
  cases t with
  | no => exact ht
  | mk ver l =>
    obtain ⟨b, b', es, clock, h1, h2, h3, h4⟩ := ht
    exact ⟨b, b', es, clock, h1, h2.mono h, h _ _ h3, h4.mono h⟩
theorem SmR.sc {H : Hp} {p : Value} {a : Option Addr} {c : Nat} {t : Sch} (ht : SmR H p a c t) (hs : Sl cAt H a c t.lst) : ScR H p t := by
  cases t with
  | no => rw [ht.1]; exact .no
  | mk ver l =>
    obtain ⟨b, b', es, clock, rfl, h2, h3, h4⟩ := ht
    exact .mk h2 hs h3 h4
theorem places_app : ∀ (l : List At) (i : Nat) (a : At), places i (l ++ [a]) = places i l ++ [(a.name, ((i + l.length : Nat) : Int))]
  | [], i, a => by simp [places]
  | x :: l, i, a => by
    simp only [List.cons_append, places, places_app l (i + 1) a, List.length_cons]
    rw [show i + 1 + l.length = i + (l.length + 1) by omega]
theorem places_key : ∀ (l : List At) (i : Nat) (p : Bs × Int), p ∈ places i l → ∃ x ∈ l, x.name = p.1
  | [], _, _, h => by cases h
  | x :: l, i, p, h => by
    rcases List.mem_cons.1 h with rfl | h
    · exact ⟨x, by simp, rfl⟩
    · obtain ⟨y, hy, e⟩ := places_key l (i + 1) p h
      exact ⟨y, by simp [hy], e⟩
theorem places_len : ∀ (l : List At) (i : Nat), (places i l).length = l.length
  | [], _ => rfl
  | x :: l, i => by simp [places, places_len l (i + 1)]
theorem filter_new {m : List (Bs × Int)} {k0 : Bs} (h : ∀ p ∈ m, p.1 ≠ k0) : (m.filter fun p => !(p.1 == k0)) = m := List.filter_eq_self.2 fun p hp => by simpa using h p hp
def m92_l1 (a0 : Int) (a1 : List At) : Nat → Bs → Int → Option (Sch × Int)
  | 0, _, _ => none
  | k + 1, v7_2, v30_2 => (bif (decide (v30_2 < (a1.length : Int))) then (bif (decide (0 ≤ v30_2 ∧ v30_2 < (a1.length : Int))) then ((m174 ((a1.getD (v30_2).toNat default).name) ((a1.getD (v30_2).toNat default).ty) ((a1.getD (v30_2).toNat default).must) ((a1.getD (v30_2).toNat default).own) ((a1.getD (v30_2).toNat default).hide) ((a1.getD (v30_2).toNat default).new) v7_2).bind fun t8 => (bif (t8 != (0 : Int)) then (some (Sch.no, t8)) else (bif (decide ((a1.getD (v30_2).toNat default).name.length ≤ LIM ∧ a1.length ≤ LIM ∧ v7_2 < (a1.getD (v30_2).toNat default).name)) then (m92_l1 a0 a1 k ((a1.getD (v30_2).toNat default).name) (IntKind.wrap .i64 (v30_2 + (1 : Int)))) else none))) else none) else (some (Sch.mk a0 a1, (0 : Int))))
def m92_j0 (a0 : Int) (a1 : List At) (v11_1 : Bool) : Option (Sch × Int) := (bif v11_1 then (some (Sch.no, (2 : Int))) else (bif (decide ((16 : Int) < (a1.length : Int))) then (some (Sch.no, (3 : Int))) else ((m173 a1).bind fun t3 => (m92_l1 a0 a1 FUEL ([] : Bs) (0 : Int)))))
/-- schema.Make -/
def m92 (a0 : Int) (a1 : List At) : Option (Sch × Int) :=
  (bif (decide (a0 < (0 : Int))) then (m92_j0 a0 a1 true) else (m92_j0 a0 a1 (decide ((1000 : Int) < a0))))
set_option maxHeartbeats 20000000 in
set_option maxRecDepth 100000 in
theorem c92 : ∀ {H0 : Hp} {w0 : World} {a0 : Int} {a1 : List At} {aa1 : Option Addr} {ca1 : Nat}  (_ : Imm H0 w0) (_ : Sl cAt H0 aa1 ca1 a1) {r : (Sch × Int)} (_ : m92 a0 a1 = some r), Ct Tryz.prog 92 [.int .i64 a0, .slice aa1 (List.length a1) ca1] [] H0 w0 fun v H' w' => ∃ x : Value × (Option Addr) × Nat × (List Value), (v = .tuple (List.toArray [x.1, .int .i64 r.2]) ∧ SmR H' x.1 x.2.1 x.2.2.1 r.1 ∧ LC cAt H' x.2.2.2 r.1.lst) ∧ Rs.holds w' (.row (.slice x.2.1 r.1.lst.length x.2.2.1) 41 6 r.1.lst.length x.2.2.2) ∧ ∀ b' ∈ Rs.foot (.row (.slice x.2.1 r.1.lst.length x.2.2.1) 41 6 r.1.lst.length x.2.2.2), H' b' = none ∧ (b' ∈ ([] : List Nat) ∨ w0.heap.size ≤ b') := by
  intro H0 w0 a0 a1 aa1 ca1  hI ha1 r hm
  have hL := L.start hI
  refine ct_of Tryz.func92 rfl Tryz.ntmps92 rfl (Nat.le_of_ble_eq_true rfl) ?_
  unfold m92 at hm
  refine sr <| sv (r_assign rfl) <| sv (r_assign rfl) <| wt <| wp_seq <| wp_block ?_
  refine w_join (fun a w => ∃ (v11_1 : Bool) (l : List (Nat × Value)) (H : Hp), a = fr 54 ([(0, .int .i64 a0), (1, .slice aa1 (List.length a1) ca1), (4, .pointer none), (5, .int .i64 0), (11, .bool v11_1)] ++ l) [] ∧ L [] H0 w0 [] H w ∧ Sl cAt H aa1 ca1 a1 ∧ (m92_j0 a0 a1 v11_1) = some r) (fun a w hj => ?_) ?_
  · obtain ⟨v11_1, l, H, rfl, hL, ha1, hm⟩ := hj
    unfold m92_j0 at hm
    refine c_if hm rfl (fun hg1 hm => ?_) (fun hg1 hm => ?_)
    · refine sr <| sv (r_assign rfl) <| sv (r_assign rfl) <| wt <| wp_ret <| blk_r <| then_r ?_
      obtain rfl := ends hm
      have hL := hL.addNil 9 41 6
      exact rt rfl (.tmp rfl (.tmp rfl .nil)) ⟨_, _, rfl, hL.ext, ⟨_, _, _, _⟩, ⟨rfl, ⟨rfl, rfl, rfl⟩, LC.nil⟩, hL.give (i := 9) rfl⟩
    · refine sr <| sv (r_move rfl) <| sv (r_lenS rfl Tryz.underlying152 rfl) <| sv (r_gtr rfl rfl) <| sv (r_assign rfl) <| wt ?_
      refine c_if hm rfl (fun hg2 hm => ?_) (fun hg2 hm => ?_)
      · refine sr <| sv (r_assign rfl) <| sv (r_assign rfl) <| wt <| wp_ret <| blk_r <| then_r ?_
        obtain rfl := ends hm
        have hL := hL.addNil 9 41 6
        exact rt rfl (.tmp rfl (.tmp rfl .nil)) ⟨_, _, rfl, hL.ext, ⟨_, _, _, _⟩, ⟨rfl, ⟨rfl, rfl, rfl⟩, LC.nil⟩, hL.give (i := 9) rfl⟩
      · refine wp_skip <| blk_n <| then_n <| sr <| sv (r_move rfl) <| sv (r_move rfl) ?_
        obtain ⟨t3, ht3, hm⟩ := bnd hm
        have hL := hL.room 0
        refine wl rfl (o_callE 0 hL fn_173 rfl rfl (c173 hL.imm ha1 ht3) fun x v H w hlet3 hL hR => ?_)
        obtain ⟨at3r0_0, ct3r0_0, zt3r0_0⟩ := x
        try dsimp only at hL hR
        replace ha1 := Sl.mono hlet3 ha1
        obtain ⟨rfl, ht3r0_0⟩ := hR
        refine wl rfl (o_makeMap 1 hL fun g1 w hL => ?_)
        have hww4 : TR kStr (ev1 cInt) hL.hp #[] 0 ([] : List (Bs × Int)) := TR.nil
        refine sv (r_build ze_155 st_155 rfl (.cons rfl (.cons rfl (.cons rfl .nil))) (cs := [_, _, _]) rfl) ?_
        refine wl rfl (o_box 2 (c := [_, _, _]) hL rfl rfl fun b2 w hL => ?_)
        refine sv (r_assign rfl) <| wt <| sr <| sv (r_assign rfl) <| wt <| wp_seq <| sr <| sv (r_move rfl) <| sv (r_lenS rfl Tryz.underlying152 rfl) <| sv (r_move rfl) <| wt <| wp_block <| wp_loop_fuel (k := FUEL) (fun k a w => ∃ (v7_2 : Bs) (v30_2 : Int) (i : Nat) (es : Array MapEntry) (ck : Nat) (l : List (Nat × Value)) (H : Hp), a = fr 54 ([(4, .pointer none), (5, .int .i64 0), (6, .pointer (some ⟨b2, 0, none⟩)), (7, .string (mk v7_2)), (28, .slice aa1 (List.length a1) ca1), (29, .int .i64 (a1.length : Int)), (30, .int .i64 v30_2)] ++ l) [] ∧ L [] H0 w0 [(0, .row (.slice at3r0_0 (List.length t3) ct3r0_0) 41 6 (List.length t3) zt3r0_0), (1, .obj g1 (.map es ck)), (2, .cel b2 ((.int .i64 a0) :: (.slice at3r0_0 (List.length t3) ct3r0_0) :: (.map (some g1)) :: []) 155)] H w ∧ Sl cAt H aa1 ca1 a1 ∧ LC cAt H zt3r0_0 t3 ∧ TR kStr (ev1 cInt) H es ck (places 0 (a1.take i)) ∧ v30_2 = (i : Int) ∧ i ≤ a1.length ∧ (∀ x ∈ a1.take i, x.name ≤ v7_2) ∧ (m92_l1 a0 a1 k v7_2 v30_2) = some r) ⟨_, _, 0, #[], 0, _, _, fr_pre _ rfl, hL.pick _ rfl, ha1, ht3r0_0, hww4, rfl, Nat.zero_le _, (fun x hx => by cases hx), hm⟩ ?_
        rintro k1 a w ⟨v7_2, v30_2, i, es, ck, l, H, rfl, hL, ha1, ht3r0_0, hww4, hi, hile, hnm, hm⟩
        cases k1 with
        | zero => rw [m92_l1.eq_1] at hm; cases hm
        | succ k1 =>
          rw [m92_l1.eq_2] at hm
          refine sr <| sv (r_lss rfl rfl) <| wt <| wp_seq ?_
          refine c_if hm rfl (fun hg5 hm => ?_) (fun hg5 hm => ?_)
          · refine wp_skip <| then_n <| wp_seq <| wp_block <| sr <| sv (r_move rfl) ?_
            obtain ⟨hg7, hm⟩ := grd hm
            obtain ⟨be6, oe6, _, hae6, hce6, ⟨pe61, rfl, he61⟩⟩ := Sl.at ha1 default hg7
            refine sv (r_indexAddr el_152 hg7 hae6 rfl rfl) <| sv (r_loadHk hL.imm ag_41 rfl (vs := [_, _, _, _, _, _]) hce6 rfl) ?_
            refine wl rfl (o_alloc 3 (c := [_, _, _, _, _, _]) hL ze_41 rfl fun b3 w hL => ?_)
            refine sv (r_assign rfl) ?_
            refine wl rfl (o_storek (i := 3) (vs := [_, _, _, _, _, _]) hL ag_41 rfl rfl rfl rfl (Nat.le_of_ble_eq_true rfl) (List.forall_mem_cons.2 ⟨rfl, (List.forall_mem_cons.2 ⟨(TyR.one he61), (List.forall_mem_cons.2 ⟨rfl, (List.forall_mem_cons.2 ⟨rfl, (List.forall_mem_cons.2 ⟨rfl, (List.forall_mem_cons.2 ⟨rfl, List.forall_mem_nil _⟩)⟩)⟩)⟩)⟩)⟩) (c' := _ :: _ :: _ :: _ :: _ :: _ :: []) rfl fun w hL => ?_)
            refine wt <| wp_seq <| sr <| sv (r_loadk (hL.own 3 _ rfl) ag_41 rfl (vs := [_, _, _, _, _, _]) rfl rfl) <| sv (r_move rfl) ?_
            obtain ⟨t8, ht8, hm⟩ := bnd hm
            refine wl rfl (o_call0 hL fn_174 rfl (c174 hL.imm he61 ht8) fun v H w hlet8 hL hR => ?_)
            replace ha1 := Sl.mono hlet8 ha1
            replace ht3r0_0 := LC.mono hlet8 ht3r0_0
            replace hww4 := TR.mono hlet8 hww4
            obtain rfl := hR
            refine sv (r_assign rfl) <| wt <| sr <| sv (r_move rfl) <| sv (r_nei rfl rfl) <| wt ?_
            refine c_if hm rfl (fun hg9 hm => ?_) (fun hg9 hm => ?_)
            · refine sr <| sv (r_move rfl) <| sv (r_assign rfl) <| sv (r_assign rfl) <| wt <| wp_ret <| then_r <| blk_r <| then_r <| then_r <| blk_r <| then_r ?_
              obtain rfl := ends hm
              have hL := hL.addNil 9 41 6
              exact rt rfl (.tmp rfl (.tmp rfl .nil)) ⟨_, _, rfl, hL.ext, ⟨_, _, _, _⟩, ⟨rfl, ⟨rfl, rfl, rfl⟩, LC.nil⟩, hL.give (i := 9) rfl⟩
            · refine wp_skip <| then_n <| rd hL [2, 3] [_, _] [(0, true), (1, true), (2, true), (3, true), (4, true), (5, true), (6, true), (7, true), (8, true), (9, false), (10, true), (11, false), (12, true)] mixed rfl (by kernel_rfl) fun w hL => dv rfl (fun w hS => r_move rfl) <| dv rfl (fun w hS => r_nilCheck rfl) <| dv rfl (fun w hS => r_fieldAddr fl_155_2 rfl) <| dv rfl (fun w hS => r_load1 hS.2.1 sc_153 rfl rfl) <| dv rfl (fun w hS => r_fieldAddr fl_41_0 rfl) <| dv rfl (fun w hS => r_load1 hS.2.2.1 sc_9 rfl rfl) <| dv rfl (fun w hS => r_move rfl) <| dv rfl (fun w hS => r_fieldAddr fl_41_0 rfl) <| dv rfl (fun w hS => r_load1 hS.2.2.1 sc_9 rfl rfl) ?_
              obtain ⟨hg11, hm⟩ := grd hm
              have hg12 := of_decide_eq_true hg11
              have hg7' := of_decide_eq_true hg7
              have hilt : i < a1.length := by omega
              have e7 : (v30_2).toNat = i := by omega
              have htk : a1.take (i + 1) = a1.take i ++ [a1.getD (v30_2).toNat default] := by
                rw [e7, List.take_add_one, List.getElem?_eq_getElem hilt]; simp [List.getD_eq_getElem?_getD, List.getElem?_eq_getElem hilt]
              have hnew : ∀ p ∈ places 0 (a1.take i), p.1 ≠ (a1.getD (v30_2).toNat default).name := fun p hp e => by
                obtain ⟨x, hx, e'⟩ := places_key _ _ p hp
                have h1 := hnm x hx
                rw [e', e] at h1
                exact List.not_lt.2 h1 hg12.2.2
              refine dh rfl rfl (o_mapEntry (i := 1) (k0 := (a1.getD (v30_2).toNat default).name) hL hww4 Tryz.underlying153 ze_3 rfl rfl rfl (decide_eq_true hg12.1) fun v0 st es1 ck1 w hE hL => ?_)
              refine ⟨Sd.of hL (Hle.refl _) [2, 3] rfl, ?_⟩
              refine dv rfl (fun w hS => r_extract rfl rfl) ?_
              refine dh rfl rfl (o_entryStore (i := 1) (x0 := (i : Int)) (m' := places 0 (a1.take (i + 1))) hL hE rfl rfl rfl rfl (by rw [hi]; rfl) ?_ ?_ fun es2 ck2 w hww5 hL => ?_)
              · rw [filter_new hnew, htk, places_app]
                simp [List.length_take, Nat.min_eq_left hile, List.perm_append_comm]
              · rw [places_len, List.length_take]; have := hg12.2.1; omega
              refine ⟨Sd.of hL (Hle.refl _) [2, 3] rfl, ?_⟩
              refine dv rfl (fun w hS => r_assign rfl) <| dn <| blk_n <| then_n <| rg <| sv (r_add rfl rfl) <| sv (r_move rfl) <| wt ?_
              have hw : IntKind.wrap .i64 (v30_2 + (1 : Int)) = ((i + 1 : Nat) : Int) := by
                have := hg12.2.1
                unfold LIM at this
                have e : IntKind.wrap .i64 ((i : Int) + 1) = (i : Int) + 1 := by rw [IntKind.wrap_i64]; omega
                rw [hi, e]; rfl
              refine ⟨k1, Nat.lt_succ_self k1, _, _, i + 1, es2, ck2, _, _, fr_pre _ rfl, hL.pick _ rfl, ha1, ht3r0_0, hww5, hw, hilt, fun x hx => ?_, hm⟩
              rw [htk] at hx
              rcases List.mem_append.1 hx with hx | hx
              · exact List.le_trans (hnm x hx) (List.le_of_lt hg12.2.2)
              · rw [List.mem_singleton.1 hx]; exact List.le_refl _
          · refine wp_exit <| then_e <| then_e <| blk_e <| then_n <| sr <| sv (r_move rfl) <| sv (r_assign rfl) <| sv (r_assign rfl) <| wt <| wp_ret ?_
            obtain rfl := ends hm
            have e3 : a1 = t3 := ends (grd ht3).2
            have hq4 := hww4
            subst e3
            have hge : a1.take i = a1 := List.take_of_length_le (by have := of_decide_eq_false hg5; omega)
            rw [hge] at hq4
            obtain ⟨H1, hle1, hL, hM⟩ := hL.settleM 1 rfl
            obtain ⟨H2, hle2, hL, hC⟩ := hL.settleC 2 rfl
            exact rt rfl (.tmp rfl (.tmp rfl .nil)) ⟨_, _, rfl, hL.ext, ⟨_, _, _, _⟩, ⟨rfl, ⟨_, _, _, _, rfl, hC, hle2 _ _ hM, hq4.mono (hle1.trans hle2)⟩, LC.mono (hle1.trans hle2) ht3r0_0⟩, hL.give (i := 0) rfl⟩
  · refine rg <| sv (r_move rfl) <| sv (r_lss rfl rfl) <| sv (r_move rfl) ?_
    refine m_if hm (fun hg10 hm => ?_) (fun hg10 hm => ?_)
    · refine wlF rfl rfl rfl rfl hg10 rfl <| wlF rfl rfl rfl rfl hg10 rfl <| sv (r_pickT hg10 rfl rfl) <| sv (r_assign rfl) <| wt ?_
      exact ⟨_, _, _, fr_pre _ rfl, hL.pick _ rfl, ha1, hm⟩
    · refine wlT rfl rfl rfl rfl hg10 (o_val (r_move rfl) ?_)
      refine wlT rfl rfl rfl rfl hg10 (o_val (r_gtr rfl rfl) ?_)
      refine sv (r_pickF hg10 rfl rfl) <| sv (r_assign rfl) <| wt ?_
      exact ⟨_, _, _, fr_pre _ rfl, hL.pick _ rfl, ha1, hm⟩
end Go.Proofs.YtcjphpenelnohaaGreatDoor
/- schema.Parse. -/
set_option linter.unusedVariables false
namespace Go.Proofs.YtcjphpenelnohaaGreatDoor
open Go.RowKit
theorem SmR.get {H : Hp} {p : Value} {a : Option Addr} {c : Nat} {t : Sch} (h : SmR H p a c t) (hn : (!t.isNo) = true) : ∃ b b' es clock, p = .pointer (some ⟨b, 0, none⟩) ∧ HC H b 0 [.int .i64 t.ver, .slice a t.lst.length c, .map (some b')] ∧
    H b' = some (.map es clock) ∧ TR kStr (ev1 cInt) H es clock (places 0 t.lst) := by
  cases t with
  | no => cases hn
  | mk ver l => exact h
def m16_j3 (nx1 : Bs → Bool → Sch → Int → Int → Option (Sch × Int × Int)) (t3 : (Int × Bool)) (v10_2 : Sch) (v12_2 : Int) (t7 : (Bs × Bs × Bool)) (t8 : (Bs × Ty × Bool × Bool × Bool × Bool × Bool)) (v65_4 : Bool) : Option (Sch × Int × Int) := (bif v65_4 then (some (Sch.no, v12_2, (4 : Int))) else (bif (!v10_2.isNo) then (bif (decide (v10_2.lst.length + ([(At.mk t8.1 t8.2.1 t8.2.2.1 t8.2.2.2.1 t8.2.2.2.2.1 t8.2.2.2.2.2.1)] : List At).length ≤ LIM)) then ((m92 t3.1 (v10_2.lst ++ ([(At.mk t8.1 t8.2.1 t8.2.2.1 t8.2.2.2.1 t8.2.2.2.2.1 t8.2.2.2.2.2.1)] : List At))).bind fun t16 => (bif (t16.2 != (0 : Int)) then (some (Sch.no, v12_2, t16.2)) else (nx1 t7.2.1 t7.2.2 t16.1 t16.2 (IntKind.wrap .i64 (v12_2 + (1 : Int)))))) else none) else none))
def m16_j2 (nx1 : Bs → Bool → Sch → Int → Int → Option (Sch × Int × Int)) (t3 : (Int × Bool)) (v6_2 : Bs) (v10_2 : Sch) (v11_2 : Int) (v12_2 : Int) (v46_3 : Bool) : Option (Sch × Int × Int) := (bif v46_3 then ((m90 v6_2 [10]).bind fun t7 => ((m93 t7.1).bind fun t8 => (bif (!t7.2.2) then (m16_j3 nx1 t3 v10_2 v12_2 t7 t8 true) else (m16_j3 nx1 t3 v10_2 v12_2 t7 t8 (!t8.2.2.2.2.2.2))))) else (bif (v11_2 != (0 : Int)) then (some (Sch.no, (1 : Int), v11_2)) else (some (v10_2, (0 : Int), (0 : Int)))))
def m16_l1 (t3 : (Int × Bool)) : Nat → Bs → Bool → Sch → Int → Int → Option (Sch × Int × Int)
  | 0, _, _, _, _, _ => none
  | k + 1, v6_2, v7_2, v10_2, v11_2, v12_2 => (bif (v11_2 == (0 : Int)) then (m16_j2 (m16_l1 t3 k) t3 v6_2 v10_2 v11_2 v12_2 (!(v6_2 == ([] : Bs)))) else (m16_j2 (m16_l1 t3 k) t3 v6_2 v10_2 v11_2 v12_2 false))
def m16_j0 (t2 : (Bs × Bs × Bool)) (t3 : (Int × Bool)) (v35_1 : Bool) : Option (Sch × Int × Int) := (bif v35_1 then (some (Sch.no, (1 : Int), (4 : Int))) else ((m92 t3.1 ([] : List At)).bind fun t5 => (m16_l1 t3 FUEL t2.2.1 t2.2.2 t5.1 t5.2 (2 : Int))))
def m16 (a0 : Bs) : Option (Sch × Int × Int) :=
  (bif (decide ((1048576 : Int) < (a0.length : Int))) then (some (Sch.no, (0 : Int), (3 : Int))) else ((m90 a0 [10]).bind fun t2 => ((m91 t2.1).bind fun t3 => (bif (!t2.2.2) then (m16_j0 t2 t3 true) else (m16_j0 t2 t3 (!t3.2))))))
set_option maxHeartbeats 20000000 in
set_option maxRecDepth 100000 in
theorem c16 : ∀ {H0 : Hp} {w0 : World} {a0 : Bs}  (_ : Imm H0 w0) (_ : GT H0) {r : (Sch × Int × Int)} (_ : m16 a0 = some r), Ct Tryz.prog 16 [.string (mk a0)] [] H0 w0 fun v H' w' => ∃ (pr0_0 : Value), v = .tuple (List.toArray [pr0_0, .int .i64 r.2.1, .int .i64 r.2.2]) ∧ ScR H' pr0_0 r.1 := by
  intro H0 w0 a0  hI hG r hm
  have hL := L.start hI
  refine ct_of Tryz.func16 rfl Tryz.ntmps16 rfl (Nat.le_of_ble_eq_true rfl) ?_
  unfold m16 at hm
  refine sr <| sv (r_assign rfl) <| sv (r_assign rfl) <| sv (r_assign rfl) <| wt <| wp_seq <| sr <| sv (r_move rfl) <| sv (r_lens rfl Tryz.underlying9 rfl) <| sv (r_gtr rfl rfl) <| wt ?_
  refine c_if hm rfl (fun hg1 hm => ?_) (fun hg1 hm => ?_)
  · refine sr <| sv (r_assign rfl) <| sv (r_assign rfl) <| sv (r_assign rfl) <| wt <| wp_ret <| then_r ?_
    obtain rfl := ends hm
    exact rt rfl (.tmp rfl (.tmp rfl (.tmp rfl .nil))) ⟨_, _, rfl, hL.ext, ⟨_, rfl, ScR.no⟩⟩
  · refine wp_skip <| then_n <| sr <| sv (r_move rfl) ?_
    obtain ⟨t2, ht2, hm⟩ := bnd hm
    refine wl rfl (o_call0 hL fn_90 rfl (c90 hL.imm hG ht2) fun v H w hlet2 hL hR => ?_)
    replace hG := GT.mono hlet2 hG
    obtain rfl := hR
    refine sv (r_move rfl) <| sv (r_extract rfl rfl) <| sv (r_extract rfl rfl) <| sv (r_extract rfl rfl) <| sv (r_assign rfl) <| sv (r_assign rfl) <| sv (r_assign rfl) <| wt <| sr <| sv (r_move rfl) ?_
    obtain ⟨t3, ht3, hm⟩ := bnd hm
    refine wl rfl (o_call0 hL fn_91 rfl (c91 hL.imm hG ht3) fun v H w hlet3 hL hR => ?_)
    replace hG := GT.mono hlet3 hG
    obtain rfl := hR
    refine sv (r_move rfl) <| sv (r_extract rfl rfl) <| sv (r_extract rfl rfl) <| sv (r_assign rfl) <| sv (r_assign rfl) <| wt <| wp_seq ?_
    refine w_join (fun a w => ∃ (v35_1 : Bool) (l : List (Nat × Value)) (H : Hp), a = fr 87 ([(2, .pointer none), (3, .int .i64 0), (4, .int .i64 0), (6, .string (mk t2.2.1)), (7, .bool t2.2.2), (8, .int .i64 t3.1), (35, .bool v35_1)] ++ l) [] ∧ L [] H0 w0 [] H w ∧ GT H ∧ (m16_j0 t2 t3 v35_1) = some r) (fun a w hj => ?_) ?_
    · obtain ⟨v35_1, l, H, rfl, hL, hG, hm⟩ := hj
      unfold m16_j0 at hm
      refine c_if hm rfl (fun hg4 hm => ?_) (fun hg4 hm => ?_)
      · refine sr <| sv (r_assign rfl) <| sv (r_assign rfl) <| sv (r_assign rfl) <| wt <| wp_ret <| then_r ?_
        obtain rfl := ends hm
        exact rt rfl (.tmp rfl (.tmp rfl (.tmp rfl .nil))) ⟨_, _, rfl, hL.ext, ⟨_, rfl, ScR.no⟩⟩
      · refine wp_skip <| then_n <| sr <| sv (r_move rfl) ?_
        obtain ⟨t5, ht5, hm⟩ := bnd hm
        have hL := hL.room 7
        refine wl rfl (o_callE 7 hL fn_92 rfl rfl (c92 hL.imm Sl.nil ht5) fun x v H w hlet5 hL hR => ?_)
        obtain ⟨pt5r0_0, at5, ct5, zt5⟩ := x
        try dsimp only at hL hR
        replace hG := GT.mono hlet5 hG
        obtain ⟨rfl, ht5r0_0, hlc5⟩ := hR
        refine sv (r_move rfl) <| sv (r_extract rfl rfl) <| sv (r_extract rfl rfl) <| sv (r_assign rfl) <| sv (r_assign rfl) <| wt <| wp_seq <| sr <| sv (r_assign rfl) <| wt <| wp_block <| wp_loop_fuel (k := FUEL) (fun k a w => ∃ (v6_2 : Bs) (v7_2 : Bool) (v10_2 : Sch) (v11_2 : Int) (v12_2 : Int) (pv10_2 : Value) (av : Option Addr) (cv : Nat) (zv : List Value) (l : List (Nat × Value)) (H : Hp), a = fr 87 ([(2, .pointer none), (3, .int .i64 0), (4, .int .i64 0), (6, .string (mk v6_2)), (7, .bool v7_2), (8, .int .i64 t3.1), (10, pv10_2), (11, .int .i64 v11_2), (12, .int .i64 v12_2)] ++ l) [] ∧ L [] H0 w0 [(7, .row (.slice av (List.length v10_2.lst) cv) 41 6 (List.length v10_2.lst) zv)] H w ∧ GT H ∧ SmR H pv10_2 av cv v10_2 ∧ LC cAt H zv v10_2.lst ∧ (m16_l1 t3 k v6_2 v7_2 v10_2 v11_2 v12_2) = some r) ⟨_, _, _, _, _, _, _, _, _, _, _, fr_pre _ rfl, hL.pick _ rfl, hG, ht5r0_0, hlc5, hm⟩ ?_
        rintro k1 a w ⟨v6_2, v7_2, v10_2, v11_2, v12_2, pv10_2, av, cv, zv, l, H, rfl, hL, hG, hv10_2, hlc, hm⟩
        cases k1 with
        | zero => rw [m16_l1.eq_1] at hm; cases hm
        | succ k1 =>
          rw [m16_l1.eq_2] at hm
          refine wp_seq ?_
          refine w_join (fun a w => ∃ (v46_3 : Bool) (l : List (Nat × Value)) (H : Hp), a = fr 87 ([(2, .pointer none), (3, .int .i64 0), (4, .int .i64 0), (6, .string (mk v6_2)), (7, .bool v7_2), (8, .int .i64 t3.1), (10, pv10_2), (11, .int .i64 v11_2), (12, .int .i64 v12_2), (41, .int .i64 v11_2), (42, .bool (v11_2 == (0 : Int))), (43, .bool (v11_2 == (0 : Int))), (46, .bool v46_3)] ++ l) [] ∧ L [] H0 w0 [(7, .row (.slice av (List.length v10_2.lst) cv) 41 6 (List.length v10_2.lst) zv)] H w ∧ GT H ∧ SmR H pv10_2 av cv v10_2 ∧ LC cAt H zv v10_2.lst ∧ (m16_j2 (m16_l1 t3 k1) t3 v6_2 v10_2 v11_2 v12_2 v46_3) = some r) (fun a w hj => ?_) ?_
          · obtain ⟨v46_3, l, H, rfl, hL, hG, hv10_2, hlc, hm⟩ := hj
            unfold m16_j2 at hm
            refine c_if hm rfl (fun hg6 hm => ?_) (fun hg6 hm => ?_)
            · refine wp_skip <| then_n <| wp_seq <| wp_block <| sr <| sv (r_assign rfl) <| wt <| sr <| sv (r_move rfl) ?_
              obtain ⟨t7, ht7, hm⟩ := bnd hm
              refine wl rfl (o_call0 hL fn_90 rfl (c90 hL.imm hG ht7) fun v H w hlet7 hL hR => ?_)
              replace hG := GT.mono hlet7 hG
              replace hv10_2 := SmR.mono hlet7 hv10_2
              replace hlc := LC.mono hlet7 hlc
              obtain rfl := hR
              refine sv (r_move rfl) <| sv (r_extract rfl rfl) <| sv (r_extract rfl rfl) <| sv (r_extract rfl rfl) <| sv (r_assign rfl) <| sv (r_assign rfl) <| sv (r_assign rfl) <| wt <| sr <| sv (r_move rfl) ?_
              obtain ⟨t8, ht8, hm⟩ := bnd hm
              refine wl rfl (o_call0 hL fn_93 rfl (c93 hL.imm hG ht8) fun v H w hlet8 hL hR => ?_)
              replace hG := GT.mono hlet8 hG
              replace hv10_2 := SmR.mono hlet8 hv10_2
              replace hlc := LC.mono hlet8 hlc
              obtain ⟨pt8r0_1, rfl, ht8r0_1⟩ := hR
              refine sv (r_move rfl) <| sv (r_extract rfl rfl) <| sv (r_extract rfl rfl) ?_
              refine wl rfl (o_alloc 0 (c := [_, _, _, _, _, _]) hL ze_41 rfl fun b0 w hL => ?_)
              refine wl rfl (o_storek (i := 0) (vs := [_, _, _, _, _, _]) hL ag_41 rfl rfl rfl rfl (Nat.le_of_ble_eq_true rfl) (List.forall_mem_cons.2 ⟨rfl, (List.forall_mem_cons.2 ⟨(TyR.one ht8r0_1), (List.forall_mem_cons.2 ⟨rfl, (List.forall_mem_cons.2 ⟨rfl, (List.forall_mem_cons.2 ⟨rfl, (List.forall_mem_cons.2 ⟨rfl, List.forall_mem_nil _⟩)⟩)⟩)⟩)⟩)⟩) (c' := _ :: _ :: _ :: _ :: _ :: _ :: []) rfl fun w hL => ?_)
              refine sv (r_assign rfl) <| wt <| wp_seq ?_
              refine w_join (fun a w => ∃ (v65_4 : Bool) (l : List (Nat × Value)) (H : Hp), a = fr 87 ([(2, .pointer none), (3, .int .i64 0), (4, .int .i64 0), (6, .string (mk t7.2.1)), (7, .bool t7.2.2), (8, .int .i64 t3.1), (10, pv10_2), (11, .int .i64 v11_2), (12, .int .i64 v12_2), (13, .string (mk t7.1)), (14, .pointer (some ⟨b0, 0, none⟩)), (15, .bool t8.2.2.2.2.2.2), (41, .int .i64 v11_2), (42, .bool (v11_2 == (0 : Int))), (43, .bool (v11_2 == (0 : Int))), (46, .bool v46_3), (49, .tuple (List.toArray [.string (mk t7.1), .string (mk t7.2.1), .bool t7.2.2])), (50, .string (mk v6_2)), (51, .tuple (List.toArray [.string (mk t7.1), .string (mk t7.2.1), .bool t7.2.2])), (52, .string (mk t7.1)), (53, .string (mk t7.2.1)), (54, .bool t7.2.2), (55, .tuple (List.toArray [.agg (List.toArray [.string (mk t8.1), pt8r0_1, .bool t8.2.2.1, .bool t8.2.2.2.1, .bool t8.2.2.2.2.1, .bool t8.2.2.2.2.2.1]), .bool t8.2.2.2.2.2.2])), (56, .string (mk t7.1)), (57, .tuple (List.toArray [.agg (List.toArray [.string (mk t8.1), pt8r0_1, .bool t8.2.2.1, .bool t8.2.2.2.1, .bool t8.2.2.2.2.1, .bool t8.2.2.2.2.2.1]), .bool t8.2.2.2.2.2.2])), (58, .agg (List.toArray [.string (mk t8.1), pt8r0_1, .bool t8.2.2.1, .bool t8.2.2.2.1, .bool t8.2.2.2.2.1, .bool t8.2.2.2.2.2.1])), (59, .bool t8.2.2.2.2.2.2), (60, .bool t7.2.2), (61, .bool (!t7.2.2)), (62, .bool (!t7.2.2)), (65, .bool v65_4)] ++ l) [] ∧ L [] H0 w0 [(0, .cel b0 ((.string (mk t8.1)) :: pt8r0_1 :: (.bool t8.2.2.1) :: (.bool t8.2.2.2.1) :: (.bool t8.2.2.2.2.1) :: (.bool t8.2.2.2.2.2.1) :: []) 41), (7, .row (.slice av (List.length v10_2.lst) cv) 41 6 (List.length v10_2.lst) zv)] H w ∧ GT H ∧ SmR H pv10_2 av cv v10_2 ∧ LC cAt H zv v10_2.lst ∧ TyR H pt8r0_1 t8.2.1 ∧ (m16_j3 (m16_l1 t3 k1) t3 v10_2 v12_2 t7 t8 v65_4) = some r) (fun a w hj => ?_) ?_
              · obtain ⟨v65_4, l, H, rfl, hL, hG, hv10_2, hlc, ht8r0_1, hm⟩ := hj
                unfold m16_j3 at hm
                refine c_if hm rfl (fun hg9 hm => ?_) (fun hg9 hm => ?_)
                · refine sr <| sv (r_move rfl) <| sv (r_assign rfl) <| sv (r_assign rfl) <| sv (r_assign rfl) <| wt <| wp_ret <| then_r <| blk_r <| then_r <| then_r <| blk_r <| then_r ?_
                  obtain rfl := ends hm
                  exact rt rfl (.tmp rfl (.tmp rfl (.tmp rfl .nil))) ⟨_, _, rfl, hL.ext, ⟨_, rfl, ScR.no⟩⟩
                · refine wp_skip <| then_n <| wp_seq <| rd hL [0] [_] [(0, true), (1, true), (2, true), (3, true), (4, true), (5, true), (6, false), (7, false), (8, false), (9, true), (10, true), (11, true), (12, true), (13, true)] mixed rfl (by kernel_rfl) fun w hL => dv rfl (fun w hS => r_move rfl) <| dv rfl (fun w hS => r_move rfl) ?_
                  obtain ⟨hg10, hm⟩ := grd hm
                  obtain ⟨bp11, bmp11, emp11, kmp11, hvp11, hcp11, hMp11, hTp11⟩ := SmR.get hv10_2 hg10
                  refine dv rfl (fun w hS => r_nilCheck (ev_eq rfl hvp11)) <| dv rfl (fun w hS => r_fieldAddr fl_155_1 rfl) <| dv rfl (fun w hS => r_loadH1 hS.1 sc_152 rfl (HC.sub hcp11 1 1 (us := [_]) rfl)) <| dv rfl (fun w hS => r_loadk hS.2.1 ag_41 rfl (vs := [_, _, _, _, _, _]) rfl rfl) ?_
                  have hww12 : LC cAt hL.hp [.string (mk t8.1), pt8r0_1, .bool t8.2.2.1, .bool t8.2.2.2.1, .bool t8.2.2.2.2.1, .bool t8.2.2.2.2.2.1] ([(At.mk t8.1 t8.2.1 t8.2.2.1 t8.2.2.2.1 t8.2.2.2.2.1 t8.2.2.2.2.2.1)] : List At) := (LC.cons (K := cAt) (cs := [.string (mk t8.1), pt8r0_1, .bool t8.2.2.1, .bool t8.2.2.2.1, .bool t8.2.2.2.2.1, .bool t8.2.2.2.2.2.1]) ⟨_, rfl, ht8r0_1⟩ LC.nil)
                  refine dh rfl rfl (o_buildSlice (C := cAt) 1 hL el_152 ze_41 rfl (.cons rfl .nil) rfl rfl rfl rfl hww12 fun gw12 w hL => ⟨Sd.of hL (Hle.refl _) [0] rfl, ?_⟩)
                  obtain ⟨hg13, hm⟩ := grd hm
                  refine dh rfl rfl (o_append (C := cAt) 7 1 hL el_152 rfl rfl rfl rfl hww12 rfl hg13 fun gw14 cw14 w hL => ⟨Sd.of hL (Hle.refl _) [0] rfl, ?_⟩)
                  have hww14 := LC.append hlc hww12
                  obtain ⟨H, hlez15, hL, hsz15⟩ := hL.settle (i := 7) (K := cAt) rfl hww14
                  replace hG := GT.mono hlez15 hG
                  replace ht8r0_1 := TyR.mono hlez15 ht8r0_1
                  obtain ⟨t16, ht16, hm⟩ := bnd hm
                  have hL := hL.room 7
                  refine dh rfl rfl (o_callE 7 hL fn_92 rfl rfl (c92 hL.imm hsz15 ht16) fun x v H w hlet16 hL hR => ⟨Sd.of hL (((Hle.refl _).trans hlez15).trans hlet16) [0] rfl, ?_⟩)
                  replace hG := GT.mono hlet16 hG
                  replace ht8r0_1 := TyR.mono hlet16 ht8r0_1
                  obtain ⟨pt16r0_0, at16, ct16, zt16⟩ := x
                  try dsimp only at hL hR
                  obtain ⟨rfl, ht16r0_0, hlc16⟩ := hR
                  refine dv rfl (fun w hS => r_move rfl) <| dv rfl (fun w hS => r_extract rfl rfl) <| dv rfl (fun w hS => r_extract rfl rfl) <| dv rfl (fun w hS => r_assign rfl) <| dv rfl (fun w hS => r_assign rfl) <| dn <| then_n <| sr <| sv (r_move rfl) <| sv (r_nei rfl rfl) <| wt ?_
                  refine c_if hm rfl (fun hg17 hm => ?_) (fun hg17 hm => ?_)
                  · refine sr <| sv (r_move rfl) <| sv (r_move rfl) <| sv (r_assign rfl) <| sv (r_assign rfl) <| sv (r_assign rfl) <| wt <| wp_ret <| blk_r <| then_r <| then_r <| blk_r <| then_r ?_
                    obtain rfl := ends hm
                    exact rt rfl (.tmp rfl (.tmp rfl (.tmp rfl .nil))) ⟨_, _, rfl, hL.ext, ⟨_, rfl, ScR.no⟩⟩
                  · refine wp_skip <| blk_n <| then_n <| rg <| sv (r_move rfl) <| sv (r_add rfl rfl) <| sv (r_assign rfl) <| wt ?_
                    exact ⟨k1, Nat.lt_succ_self k1, _, _, _, _, _, _, _, _, _, _, _, fr_pre _ rfl, hL.pick _ rfl, hG, ht16r0_0, hlc16, hm⟩
              · refine rg <| sv (r_move rfl) <| sv (r_not rfl) <| sv (r_move rfl) ?_
                refine m_if hm (fun hg18 hm => ?_) (fun hg18 hm => ?_)
                · refine wlF rfl rfl rfl rfl hg18 rfl <| wlF rfl rfl rfl rfl hg18 rfl <| sv (r_pickT hg18 rfl rfl) <| wt ?_
                  exact ⟨_, _, _, fr_pre _ rfl, hL.pick _ rfl, hG, hv10_2, hlc, ht8r0_1, hm⟩
                · refine wlT rfl rfl rfl rfl hg18 (o_val (r_move rfl) ?_)
                  refine wlT rfl rfl rfl rfl hg18 (o_val (r_not rfl) ?_)
                  refine sv (r_pickF hg18 rfl rfl) <| wt ?_
                  exact ⟨_, _, _, fr_pre _ rfl, hL.pick _ rfl, hG, hv10_2, hlc, ht8r0_1, hm⟩
            · refine wp_exit <| then_e <| then_e <| blk_e <| then_n <| wp_seq <| sr <| sv (r_move rfl) <| sv (r_nei rfl rfl) <| wt ?_
              refine c_if hm rfl (fun hg19 hm => ?_) (fun hg19 hm => ?_)
              · refine sr <| sv (r_move rfl) <| sv (r_assign rfl) <| sv (r_assign rfl) <| sv (r_assign rfl) <| wt <| wp_ret <| then_r ?_
                obtain rfl := ends hm
                exact rt rfl (.tmp rfl (.tmp rfl (.tmp rfl .nil))) ⟨_, _, rfl, hL.ext, ⟨_, rfl, ScR.no⟩⟩
              · refine wp_skip <| then_n <| sr <| sv (r_move rfl) <| sv (r_assign rfl) <| sv (r_assign rfl) <| sv (r_assign rfl) <| wt <| wp_ret ?_
                obtain rfl := ends hm
                obtain ⟨H, hlez, hL, hsz⟩ := hL.settle (i := 7) (K := cAt) rfl hlc
                exact rt rfl (.tmp rfl (.tmp rfl (.tmp rfl .nil))) ⟨_, _, rfl, hL.ext, ⟨_, rfl, (hv10_2.mono hlez).sc hsz⟩⟩
          · refine rg <| sv (r_move rfl) <| sv (r_eqi rfl rfl) <| sv (r_move rfl) ?_
            refine m_if hm (fun hg20 hm => ?_) (fun hg20 hm => ?_)
            · refine wlT rfl rfl rfl rfl hg20 (o_val (r_move rfl) ?_)
              refine wlT rfl rfl rfl rfl hg20 (o_val (r_nes rfl rfl) ?_)
              refine sv (r_pickT hg20 rfl rfl) <| wt ?_
              exact ⟨_, _, _, fr_pre _ rfl, hL.pick _ rfl, hG, hv10_2, hlc, hm⟩
            · refine wlF rfl rfl rfl rfl hg20 rfl <| wlF rfl rfl rfl rfl hg20 rfl <| sv (r_pickF hg20 rfl rfl) <| wt ?_
              exact ⟨_, _, _, fr_pre _ rfl, hL.pick _ rfl, hG, hv10_2, hlc, hm⟩
    · refine rg <| sv (r_move rfl) <| sv (r_not rfl) <| sv (r_move rfl) ?_
      refine m_if hm (fun hg21 hm => ?_) (fun hg21 hm => ?_)
      · refine wlF rfl rfl rfl rfl hg21 rfl <| wlF rfl rfl rfl rfl hg21 rfl <| sv (r_pickT hg21 rfl rfl) <| wt ?_
        exact ⟨_, _, _, fr_pre _ rfl, hL.pick _ rfl, hG, hm⟩
      · refine wlT rfl rfl rfl rfl hg21 (o_val (r_move rfl) ?_)
        refine wlT rfl rfl rfl rfl hg21 (o_val (r_not rfl) ?_)
        refine sv (r_pickF hg21 rfl rfl) <| wt ?_
        exact ⟨_, _, _, fr_pre _ rfl, hL.pick _ rfl, hG, hm⟩
end Go.Proofs.YtcjphpenelnohaaGreatDoor
/- A field of a struct's value. -/
namespace Go.Proofs.YtcjphpenelnohaaGreatDoor
open Go.RowKit
structure Fs (P : Program) (t : TypeId) (f off : Nat) (ft : TypeId) : Prop where
  out : ∃ fs g, P.underlying t = some (.struct fs) ∧ fs[f]? = some g ∧ g.offset = off ∧ g.type = ft
section
variable {P : Program} {n : Nat} {l : List (Nat × Value)} {ds : List Deferred} {w : World}
  {d : Nat} {x : Operand} {ty : TypeId} {pos : String} {aft : Array Edge} {v : Value} {g : Option (Nat × Bool)}
theorem r_field1 {t ft : TypeId} {f off : Nat} {vs : List Value} (hF : Fs P t f off ft) (hs : Sc P ft) (hx : ev n l x = some (.agg vs.toArray)) (hv : vs[off]? = some v) :
    (execOp (fr n l ds).eval ⟨some d, .field t x f, ty, pos, aft, g⟩).run P w = .ok (.value v) w := by
  obtain ⟨fs, gf, h1, h2, h3, h4⟩ := hF.out
  obtain ⟨dd, i, h5, h6, h7, h8⟩ := hs.out
  subst h4
  have hv' : vs.toArray[off]? = some v := by simpa using hv
  simp only [execOp, ev_eval hx, Instr.field, Sem.run_bind, run_underlying h1, Result.andThen_ok, h2, asAgg, Sem.run_pure, part, run_isAgg h5, h6, h3, Bool.false_eq_true, if_false]
  simp [hv']
theorem run_equalIn_b {P : Program} (w : World) (d : Nat) (t : TypeId) (a b : Bool) (h : P.underlying t = some .bool) : (Op.equalIn (d + 1) t (.bool a) (.bool b)).run P w = .ok (a == b) w := by
  simp [Op.equalIn, run_underlying h]
theorem run_equal_b {P : Program} (w : World) (t : TypeId) (a b : Bool) (h : P.underlying t = some .bool) : (Op.equal t (.bool a) (.bool b)).run P w = .ok (a == b) w := run_equalIn_b w 9999 t a b h
theorem r_neb {y : Operand} {t t' : TypeId} {a b : Bool} (hu : P.underlying t = some .bool) (hx : ev n l x = some (.bool a)) (hy : ev n l y = some (.bool b)) :
    (execOp (fr n l ds).eval ⟨some d, .binOp .neq t x y t', ty, pos, aft, g⟩).run P w = .ok (.value (.bool (a != b))) w := by
  have h : (eqGuard .neq t x y (.bool a) (.bool b)) = pure () := rfl
  have h2 := run_equal_b w t a b hu
  simp only [execOp, ev_eval hx, ev_eval hy, h, binOp, Sem.run_bind, Sem.run_pure, Result.andThen_ok, h2]
  rfl
end
theorem fs_35_0 : Fs Tryz.prog 35 0 0 3 := ⟨_, _, Tryz.underlying35, rfl, rfl, rfl⟩
end Go.Proofs.YtcjphpenelnohaaGreatDoor
/- Gs: by tools/gen.py -/
set_option linter.unusedVariables false
namespace Go.Proofs.YtcjphpenelnohaaGreatDoor
open Go.RowKit

/-- (*store.Store).Len -/
def m89 (s0 : List (Ad × En)) (s1 : Int) : Option Int :=
  (some ((s0.length : Int)))
set_option maxHeartbeats 20000000 in
set_option maxRecDepth 100000 in
theorem c89 : ∀ {H0 : Hp} {w0 : World} {s0 : List (Ad × En)} {s1 : Int} {go00 : Nat} {eo00 : Array MapEntry} {ko00 : Nat} {b0 : Nat} {tl0 : List Value} {T0 : TypeId} (_ : Imm H0 w0) (_ : Rs.holds w0 (.two (.cel b0 ((.map (some go00)) :: (.int .i64 s1) :: tl0) T0) (.obj go00 (.map eo00 ko00)))) (_ : ∀ b' ∈ Rs.foot (.two (.cel b0 ((.map (some go00)) :: (.int .i64 s1) :: tl0) T0) (.obj go00 (.map eo00 ko00))), H0 b' = none) (_ : TR kAd (evA cEn) H0 eo00 ko00 s0) {r : Int} (_ : m89 s0 s1 = some r), Ct Tryz.prog 89 [.pointer (some ⟨b0, 0, none⟩)] (Rs.foot (.two (.cel b0 ((.map (some go00)) :: (.int .i64 s1) :: tl0) T0) (.obj go00 (.map eo00 ko00)))) H0 w0 fun v H' w' => (v = .int .i64 r) ∧ Rs.holds w' (.two (.cel b0 ((.map (some go00)) :: (.int .i64 s1) :: tl0) T0) (.obj go00 (.map eo00 ko00))) ∧ ∀ b' ∈ Rs.foot (.two (.cel b0 ((.map (some go00)) :: (.int .i64 s1) :: tl0) T0) (.obj go00 (.map eo00 ko00))), H' b' = none ∧ (b' ∈ Rs.foot (.two (.cel b0 ((.map (some go00)) :: (.int .i64 s1) :: tl0) T0) (.obj go00 (.map eo00 ko00))) ∨ w0.heap.size ≤ b') := by
  intro H0 w0 s0 s1 go00 eo00 ko00 b0 tl0 T0  hI hb hn ho00 r hm
  have hL := L.one hI hb hn
  have hL := hL.split 0 1 rfl rfl (.inl rfl)
  refine ct_of Tryz.func89 rfl Tryz.ntmps89 rfl (Nat.le_of_ble_eq_true rfl) ?_
  unfold m89 at hm
  refine sr <| sv (r_assign rfl) <| wt <| wp_seq <| sr <| sv (r_move rfl) <| sv (r_eqPN Tryz.underlying85 (.inr ⟨_, rfl, rfl⟩) rfl rfl) <| wt <| c_F rfl rfl <| wp_skip <| then_n <| sr <| sv (r_move rfl) <| sv (r_nilCheck rfl) <| sv (r_fieldAddr fl_191_0 rfl) <| sv (r_load1 (hL.own 0 _ rfl) sc_189 rfl rfl) <| sv (r_lenM rfl Tryz.underlying189 (hL.own 1 _ rfl) ho00.sz rfl) <| sv (r_assign rfl) <| wt <| wp_ret ?_
  obtain rfl := ends hm
  refine rt rfl (.tmp rfl .nil) ⟨_, _, rfl, hL.ext, ?_⟩
  have hL := hL.merge 0 1 rfl rfl rfl
  exact ⟨rfl, hL.give (i := 0) rfl⟩

/-- flangetop.wakes11 -/
def m14  : Option Bool :=
  ((m84 [123, 34, 97, 34, 58, 91, 49, 44, 40, 50, 44, 45, 51, 41, 44, 63, 93, 125]).bind fun t1 => ((m75 [108, 105, 115, 116, 40, 105, 110, 116, 41]).bind fun t2 => ((m84 [91, 34, 49, 34, 44, 50, 93]).bind fun t3 => (bif (t1.2.2 != (0 : Int)) then none else (bif (t2.2.2 != (0 : Int)) then none else (bif (t3.2.2 != (0 : Int)) then none else (bif (t1.2.1 != (18 : Int)) then none else ((m82 t1.1).bind fun t8 => (bif (t8 != (5 : Int)) then none else (bif t2.1.isNo then none else ((m76 t2.1 t3.1).bind fun t11 => ((m16 [118, 101, 114, 115, 105, 111, 110, 32, 49, 10, 97, 116, 116, 114, 32, 105, 100, 32, 116, 101, 120, 116, 32, 111, 119, 110, 10, 97, 116, 116, 114, 32, 115, 105, 122, 101, 32, 105, 110, 116, 32, 109, 117, 115, 116, 32, 110, 101, 119, 10]).bind fun t12 => ((m84 [123, 34, 115, 105, 122, 101, 34, 58, 51, 125]).bind fun t13 => (bif (t11.2.2 != (0 : Int)) then none else (bif (t12.2.2 != (0 : Int)) then none else (bif (t13.2.2 != (0 : Int)) then none else ((m67 t11.1).bind fun t17 => (bif (!(t17 == [91, 49, 44, 50, 93])) then none else (bif t12.1.isNo then none else ((m59 t12.1 t13.1).bind fun t20 => (m45.bind fun t21 => (bif (t20.2 != (0 : Int)) then none else ((m67 t20.1).bind fun t23 => (bif (!(t23 == [123, 34, 105, 100, 34, 58, 63, 44, 34, 115, 105, 122, 101, 34, 58, 51, 125])) then none else ((m19 t13.1 t20.1).bind fun t25 => ((m85 t25).bind fun t26 => (bif (!(t26 == [43, 32, 46, 34, 105, 100, 34, 32, 63, 10])) then none else ((m25 ([(Nd.mk (Ad.mk [112] [118, 109] [97] ((-1) : Int)) ([] : List Ad))] : List Nd)).bind fun t30 => (bif (t30.2 == (0 : Int)) then (bif ((t30.1.length : Int) == (1 : Int)) then (bif (decide (0 ≤ (0 : Int) ∧ (0 : Int) < (t30.1.length : Int))) then (bif (eqAd ((t30.1.getD ((0 : Int)).toNat default).prov) ((t30.1.getD ((0 : Int)).toNat default).knd) ((t30.1.getD ((0 : Int)).toNat default).name) ((t30.1.getD ((0 : Int)).toNat default).idx) [112] [118, 109] [97] ((-1) : Int)) then ((m42 (2 : Int) (10 : Int) (9 : Int) (9 : Int) (3 : Int)).bind fun t36 => (bif (t36 == (8 : Int)) then ((m87 ([] : List J)).bind fun t38 => ((m86 t21.1 t21.2 [112] [112] [118, 109] [97] ((-1) : Int) (0 : Int) t38 ([] : Bs) ([] : List Ad)).bind fun t39 => (bif (t39.1 == (6 : Int)) then (m88.bind fun t41 => ((m86 t39.2.1 t39.2.2 [112] [112] [118, 109] [97] ((-1) : Int) (0 : Int) t41 ([] : Bs) ([] : List Ad)).bind fun t42 => (bif (t42.1 == (0 : Int)) then ((m89 t42.2.1 t42.2.2).bind fun t44 => (bif (t44 == (1 : Int)) then (m64.bind fun t46 => ((m18 t12.1 t20.1 t46 t20.1 ([] : List Bs)).bind fun t47 => (some ((t47.1 == (0 : Int)))))) else none)) else none))) else none))) else none)) else none) else none) else none) else none)))))))))))))))))))))))))))))
set_option maxHeartbeats 20000000 in
set_option maxRecDepth 100000 in
theorem c14 : ∀ {H0 : Hp} {w0 : World}   (_ : Imm H0 w0) (_ : GT H0) {r : Bool} (_ : m14  = some r), Ct Tryz.prog 14 [] [] H0 w0 fun v H' w' => v = .bool r := by
  intro H0 w0  hI hG r hm
  have hL := L.start hI
  refine ct_of Tryz.func14 rfl Tryz.ntmps14 rfl (Nat.le_of_ble_eq_true rfl) ?_
  unfold m14 at hm
  refine sr <| sv (r_assign rfl) <| wt <| sr ?_
  obtain ⟨t1, ht1, hm⟩ := bnd hm
  refine wl rfl (o_call0 hL fn_84 rfl (c84 hL.imm hG ht1) fun v H w hlet1 hL hR => ?_)
  replace hG := GT.mono hlet1 hG
  obtain ⟨xt1r0_0, rfl, ht1r0_0⟩ := hR
  refine sv (r_move rfl) <| sv (r_extract rfl rfl) <| sv (r_extract rfl rfl) <| sv (r_extract rfl rfl) ?_
  refine wl rfl (o_alloc 0 (c := [_]) hL ze_33 rfl fun b0 w hL => ?_)
  refine wl rfl (o_storek (i := 0) (vs := [_]) hL ag_33 rfl rfl rfl rfl (Nat.le_of_ble_eq_true rfl) (List.forall_mem_cons.2 ⟨(VR.one ht1r0_0), List.forall_mem_nil _⟩) (c' := _ :: []) rfl fun w hL => ?_)
  refine sv (r_assign rfl) <| sv (r_assign rfl) <| wt <| sr ?_
  obtain ⟨t2, ht2, hm⟩ := bnd hm
  refine wl rfl (o_call0 hL fn_75 rfl (c75 hL.imm ht2) fun v H w hlet2 hL hR => ?_)
  replace hG := GT.mono hlet2 hG
  replace ht1r0_0 := VR.mono hlet2 ht1r0_0
  obtain ⟨pt2r0_0, rfl, ht2r0_0⟩ := hR
  refine sv (r_move rfl) <| sv (r_extract rfl rfl) <| sv (r_extract rfl rfl) <| sv (r_extract rfl rfl) <| sv (r_assign rfl) <| sv (r_assign rfl) <| sv (r_assign rfl) <| wt <| sr ?_
  obtain ⟨t3, ht3, hm⟩ := bnd hm
  refine wl rfl (o_call0 hL fn_84 rfl (c84 hL.imm hG ht3) fun v H w hlet3 hL hR => ?_)
  replace hG := GT.mono hlet3 hG
  replace ht1r0_0 := VR.mono hlet3 ht1r0_0
  replace ht2r0_0 := TyR.mono hlet3 ht2r0_0
  obtain ⟨xt3r0_0, rfl, ht3r0_0⟩ := hR
  refine sv (r_move rfl) <| sv (r_extract rfl rfl) <| sv (r_extract rfl rfl) <| sv (r_extract rfl rfl) ?_
  refine wl rfl (o_alloc 1 (c := [_]) hL ze_33 rfl fun b1 w hL => ?_)
  refine wl rfl (o_storek (i := 1) (vs := [_]) hL ag_33 rfl rfl rfl rfl (Nat.le_of_ble_eq_true rfl) (List.forall_mem_cons.2 ⟨(VR.one ht3r0_0), List.forall_mem_nil _⟩) (c' := _ :: []) rfl fun w hL => ?_)
  refine sv (r_assign rfl) <| sv (r_assign rfl) <| wt <| wp_seq <| sr <| sv (r_move rfl) <| sv (r_nei rfl rfl) <| sv (r_move rfl) ?_
  refine m_if hm (fun hg4 hm => ?_) (fun hg4 hm => ?_)
  · cases hm
  · refine wlT rfl rfl rfl rfl hg4 (o_val (r_move rfl) ?_)
    refine wlT rfl rfl rfl rfl hg4 (o_val (r_nei rfl rfl) ?_)
    refine sv (r_pickF hg4 rfl rfl) <| sv (r_move rfl) ?_
    refine m_if hm (fun hg5 hm => ?_) (fun hg5 hm => ?_)
    · cases hm
    · refine wlT rfl rfl rfl rfl hg5 (o_val (r_move rfl) ?_)
      refine wlT rfl rfl rfl rfl hg5 (o_val (r_nei rfl rfl) ?_)
      refine sv (r_pickF hg5 rfl rfl) <| sv (r_move rfl) ?_
      refine m_if hm (fun hg6 hm => ?_) (fun hg6 hm => ?_)
      · cases hm
      · refine wlT rfl rfl rfl rfl hg6 (o_val (r_move rfl) ?_)
        refine wlT rfl rfl rfl rfl hg6 (o_val (r_nei rfl rfl) ?_)
        refine sv (r_pickF hg6 rfl rfl) <| sv (r_move rfl) ?_
        refine m_if hm (fun hg7 hm => ?_) (fun hg7 hm => ?_)
        · cases hm
        · refine wlT rfl rfl rfl rfl hg7 (o_val (r_loadk (hL.own 0 _ rfl) ag_33 rfl (vs := [_]) rfl rfl) ?_)
          obtain ⟨t8, ht8, hm⟩ := bnd hm
          refine wlT rfl rfl rfl rfl hg7 (o_call0 hL fn_82 rfl (c82 hL.imm ht1r0_0 ht8) fun v H w hlet8 hL hR => ?_)
          replace hG := GT.mono hlet8 hG
          replace ht2r0_0 := TyR.mono hlet8 ht2r0_0
          replace ht3r0_0 := VR.mono hlet8 ht3r0_0
          obtain rfl := hR
          refine wlT rfl rfl rfl rfl hg7 (o_val (r_nei rfl rfl) ?_)
          refine sv (r_pickF hg7 rfl rfl) <| sv (r_move rfl) ?_
          refine m_if hm (fun hg9 hm => ?_) (fun hg9 hm => ?_)
          · cases hm
          · refine wlT rfl rfl rfl rfl hg9 (o_val (r_move rfl) ?_)
            refine wlT rfl rfl rfl rfl hg9 (o_val (r_eqPN Tryz.underlying39 (TyR.pn ht2r0_0) rfl rfl) ?_)
            refine sv (r_pickF hg9 rfl rfl) <| wt ?_
            refine c_if hm rfl (fun hg10 hm => ?_) (fun hg10 hm => ?_)
            · cases hm
            · refine wp_skip <| then_n <| sr <| sv (r_move rfl) <| sv (r_loadk (hL.own 1 _ rfl) ag_33 rfl (vs := [_]) rfl rfl) ?_
              obtain ⟨t11, ht11, hm⟩ := bnd hm
              refine wl rfl (o_call0 hL fn_76 rfl (c76 hL.imm hG ht2r0_0 ht3r0_0 ht11) fun v H w hlet11 hL hR => ?_)
              replace hG := GT.mono hlet11 hG
              obtain ⟨xt11r0_0, at11r1_0, ct11r1_0, rfl, ht11r0_0, ht11r1_0⟩ := hR
              refine sv (r_move rfl) <| sv (r_extract rfl rfl) <| sv (r_extract rfl rfl) <| sv (r_extract rfl rfl) ?_
              refine wl rfl (o_alloc 2 (c := [_]) hL ze_33 rfl fun b2 w hL => ?_)
              refine wl rfl (o_storek (i := 2) (vs := [_]) hL ag_33 rfl rfl rfl rfl (Nat.le_of_ble_eq_true rfl) (List.forall_mem_cons.2 ⟨(VR.one ht11r0_0), List.forall_mem_nil _⟩) (c' := _ :: []) rfl fun w hL => ?_)
              refine sv (r_assign rfl) <| sv (r_assign rfl) <| wt <| sr ?_
              obtain ⟨t12, ht12, hm⟩ := bnd hm
              refine wl rfl (o_call0 hL fn_16 rfl (c16 hL.imm hG ht12) fun v H w hlet12 hL hR => ?_)
              replace hG := GT.mono hlet12 hG
              replace ht11r0_0 := VR.mono hlet12 ht11r0_0
              obtain ⟨pt12r0_0, rfl, ht12r0_0⟩ := hR
              refine sv (r_move rfl) <| sv (r_extract rfl rfl) <| sv (r_extract rfl rfl) <| sv (r_extract rfl rfl) <| sv (r_assign rfl) <| sv (r_assign rfl) <| sv (r_assign rfl) <| wt <| sr ?_
              obtain ⟨t13, ht13, hm⟩ := bnd hm
              refine wl rfl (o_call0 hL fn_84 rfl (c84 hL.imm hG ht13) fun v H w hlet13 hL hR => ?_)
              replace hG := GT.mono hlet13 hG
              replace ht11r0_0 := VR.mono hlet13 ht11r0_0
              replace ht12r0_0 := ScR.mono hlet13 ht12r0_0
              obtain ⟨xt13r0_0, rfl, ht13r0_0⟩ := hR
              refine sv (r_move rfl) <| sv (r_extract rfl rfl) <| sv (r_extract rfl rfl) <| sv (r_extract rfl rfl) ?_
              refine wl rfl (o_alloc 3 (c := [_]) hL ze_33 rfl fun b3 w hL => ?_)
              refine wl rfl (o_storek (i := 3) (vs := [_]) hL ag_33 rfl rfl rfl rfl (Nat.le_of_ble_eq_true rfl) (List.forall_mem_cons.2 ⟨(VR.one ht13r0_0), List.forall_mem_nil _⟩) (c' := _ :: []) rfl fun w hL => ?_)
              refine sv (r_assign rfl) <| sv (r_assign rfl) <| wt <| wp_seq <| sr <| sv (r_move rfl) <| sv (r_nei rfl rfl) <| sv (r_move rfl) ?_
              refine m_if hm (fun hg14 hm => ?_) (fun hg14 hm => ?_)
              · cases hm
              · refine wlT rfl rfl rfl rfl hg14 (o_val (r_move rfl) ?_)
                refine wlT rfl rfl rfl rfl hg14 (o_val (r_nei rfl rfl) ?_)
                refine sv (r_pickF hg14 rfl rfl) <| sv (r_move rfl) ?_
                refine m_if hm (fun hg15 hm => ?_) (fun hg15 hm => ?_)
                · cases hm
                · refine wlT rfl rfl rfl rfl hg15 (o_val (r_move rfl) ?_)
                  refine wlT rfl rfl rfl rfl hg15 (o_val (r_nei rfl rfl) ?_)
                  refine sv (r_pickF hg15 rfl rfl) <| sv (r_move rfl) ?_
                  refine m_if hm (fun hg16 hm => ?_) (fun hg16 hm => ?_)
                  · cases hm
                  · refine wlT rfl rfl rfl rfl hg16 (o_val (r_loadk (hL.own 2 _ rfl) ag_33 rfl (vs := [_]) rfl rfl) ?_)
                    obtain ⟨t17, ht17, hm⟩ := bnd hm
                    refine wlT rfl rfl rfl rfl hg16 (o_call0 hL fn_67 rfl (c67 hL.imm hG ht11r0_0 ht17) fun v H w hlet17 hL hR => ?_)
                    replace hG := GT.mono hlet17 hG
                    replace ht12r0_0 := ScR.mono hlet17 ht12r0_0
                    replace ht13r0_0 := VR.mono hlet17 ht13r0_0
                    obtain rfl := hR
                    refine wlT rfl rfl rfl rfl hg16 (o_val (r_nes rfl rfl) ?_)
                    refine sv (r_pickF hg16 rfl rfl) <| sv (r_move rfl) ?_
                    refine m_if hm (fun hg18 hm => ?_) (fun hg18 hm => ?_)
                    · cases hm
                    · refine wlT rfl rfl rfl rfl hg18 (o_val (r_move rfl) ?_)
                      refine wlT rfl rfl rfl rfl hg18 (o_val (r_eqPN Tryz.underlying26 (ScR.pn ht12r0_0) rfl rfl) ?_)
                      refine sv (r_pickF hg18 rfl rfl) <| wt ?_
                      refine c_if hm rfl (fun hg19 hm => ?_) (fun hg19 hm => ?_)
                      · cases hm
                      · refine wp_skip <| then_n <| sr <| sv (r_move rfl) <| sv (r_loadk (hL.own 3 _ rfl) ag_33 rfl (vs := [_]) rfl rfl) ?_
                        obtain ⟨t20, ht20, hm⟩ := bnd hm
                        refine wl rfl (o_call0 hL fn_59 rfl (c59 hL.imm ht12r0_0 ht13r0_0 ht20) fun v H w hlet20 hL hR => ?_)
                        replace hG := GT.mono hlet20 hG
                        replace ht12r0_0 := ScR.mono hlet20 ht12r0_0
                        replace ht13r0_0 := VR.mono hlet20 ht13r0_0
                        obtain ⟨xt20r0_0, rfl, ht20r0_0⟩ := hR
                        refine sv (r_move rfl) <| sv (r_extract rfl rfl) <| sv (r_extract rfl rfl) ?_
                        refine wl rfl (o_alloc 4 (c := [_]) hL ze_33 rfl fun b4 w hL => ?_)
                        refine wl rfl (o_storek (i := 4) (vs := [_]) hL ag_33 rfl rfl rfl rfl (Nat.le_of_ble_eq_true rfl) (List.forall_mem_cons.2 ⟨(VR.one ht20r0_0), List.forall_mem_nil _⟩) (c' := _ :: []) rfl fun w hL => ?_)
                        refine sv (r_assign rfl) <| wt <| sr <| sv (r_build ze_50 st_50 rfl (.cons rfl (.cons rfl (.cons rfl (.cons rfl .nil)))) (cs := [_, _, _, _]) rfl) ?_
                        refine wl rfl (o_alloc 5 (c := [_, _, _, _]) hL ze_50 rfl fun b5 w hL => ?_)
                        refine wl rfl (o_storek (i := 5) (vs := [_, _, _, _]) hL ag_50 rfl rfl rfl rfl (Nat.le_of_ble_eq_true rfl) (List.forall_mem_cons.2 ⟨rfl, (List.forall_mem_cons.2 ⟨rfl, (List.forall_mem_cons.2 ⟨rfl, (List.forall_mem_cons.2 ⟨rfl, List.forall_mem_nil _⟩)⟩)⟩)⟩) (c' := _ :: _ :: _ :: _ :: []) rfl fun w hL => ?_)
                        refine wt <| sr ?_
                        obtain ⟨t21, ht21, hm⟩ := bnd hm
                        have hL := hL.room 6
                        refine wl rfl (o_callE 6 hL fn_45 rfl rfl (c45 hL.imm ht21) fun x v H w hlet21 hL hR => ?_)
                        obtain ⟨b6, gt21r0_0_0, et21r0_0_0, kt21r0_0_0⟩ := x
                        try dsimp only at hL hR
                        replace hG := GT.mono hlet21 hG
                        replace ht12r0_0 := ScR.mono hlet21 ht12r0_0
                        replace ht13r0_0 := VR.mono hlet21 ht13r0_0
                        replace ht20r0_0 := VR.mono hlet21 ht20r0_0
                        obtain ⟨rfl, ht21r0_0_0⟩ := hR
                        have hL := hL.split 6 7 rfl rfl (.inl rfl)
                        have hL := hL.pick [(0, .cel b0 (xt1r0_0 :: []) 33), (1, .cel b1 (xt3r0_0 :: []) 33), (2, .cel b2 (xt11r0_0 :: []) 33), (3, .cel b3 (xt13r0_0 :: []) 33), (4, .cel b4 (xt20r0_0 :: []) 33), (5, .cel b5 ((.string (mk [112])) :: (.string (mk [118, 109])) :: (.string (mk [97])) :: (.int .i64 (-1)) :: []) 50), (6, .cel b6 ((.map (some gt21r0_0_0)) :: (.int .i64 t21.2) :: []) 191), (7, .obj gt21r0_0_0 (.map et21r0_0_0 kt21r0_0_0))] rfl
                        refine sv (r_assign rfl) <| wt <| wp_seq <| sr <| sv (r_move rfl) <| sv (r_eqPN Tryz.underlying85 (.inr ⟨_, rfl, rfl⟩) rfl rfl) <| sv (r_move rfl) ?_
                        refine wlT rfl rfl rfl rfl rfl (o_val (r_move rfl) ?_)
                        refine wlT rfl rfl rfl rfl rfl (o_val (r_nei rfl rfl) ?_)
                        refine sv (r_pickF rfl rfl rfl) <| sv (r_move rfl) ?_
                        refine m_if hm (fun hg22 hm => ?_) (fun hg22 hm => ?_)
                        · cases hm
                        · refine wlT rfl rfl rfl rfl hg22 (o_val (r_loadk (hL.own 4 _ rfl) ag_33 rfl (vs := [_]) rfl rfl) ?_)
                          obtain ⟨t23, ht23, hm⟩ := bnd hm
                          refine wlT rfl rfl rfl rfl hg22 (o_call0 hL fn_67 rfl (c67 hL.imm hG ht20r0_0 ht23) fun v H w hlet23 hL hR => ?_)
                          replace hG := GT.mono hlet23 hG
                          replace ht12r0_0 := ScR.mono hlet23 ht12r0_0
                          replace ht13r0_0 := VR.mono hlet23 ht13r0_0
                          replace ht20r0_0 := VR.mono hlet23 ht20r0_0
                          replace ht21r0_0_0 := TR.mono hlet23 ht21r0_0_0
                          obtain rfl := hR
                          refine wlT rfl rfl rfl rfl hg22 (o_val (r_nes rfl rfl) ?_)
                          refine sv (r_pickF hg22 rfl rfl) <| sv (r_move rfl) ?_
                          refine m_if hm (fun hg24 hm => ?_) (fun hg24 hm => ?_)
                          · cases hm
                          · refine wlT rfl rfl rfl rfl hg24 (o_val (r_loadk (hL.own 3 _ rfl) ag_33 rfl (vs := [_]) rfl rfl) ?_)
                            refine wlT rfl rfl rfl rfl hg24 (o_val (r_loadk (hL.own 4 _ rfl) ag_33 rfl (vs := [_]) rfl rfl) ?_)
                            obtain ⟨t25, ht25, hm⟩ := bnd hm
                            refine wlT rfl rfl rfl rfl hg24 (o_call0 hL fn_19 rfl (c19 hL.imm ht13r0_0 ht20r0_0 ht25) fun v H w hlet25 hL hR => ?_)
                            replace hG := GT.mono hlet25 hG
                            replace ht12r0_0 := ScR.mono hlet25 ht12r0_0
                            replace ht20r0_0 := VR.mono hlet25 ht20r0_0
                            replace ht21r0_0_0 := TR.mono hlet25 ht21r0_0_0
                            obtain ⟨at25r0_0, ct25r0_0, rfl, ht25r0_0⟩ := hR
                            obtain ⟨t26, ht26, hm⟩ := bnd hm
                            refine wlT rfl rfl rfl rfl hg24 (o_call0 hL fn_85 rfl (c85 hL.imm hG ht25r0_0 ht26) fun v H w hlet26 hL hR => ?_)
                            replace ht12r0_0 := ScR.mono hlet26 ht12r0_0
                            replace ht20r0_0 := VR.mono hlet26 ht20r0_0
                            replace ht21r0_0_0 := TR.mono hlet26 ht21r0_0_0
                            obtain rfl := hR
                            refine wlT rfl rfl rfl rfl hg24 (o_val (r_nes rfl rfl) ?_)
                            refine sv (r_pickF hg24 rfl rfl) <| wt ?_
                            refine c_if hm rfl (fun hg27 hm => ?_) (fun hg27 hm => ?_)
                            · cases hm
                            · refine wp_skip <| then_n <| sr <| sv (r_loadk (hL.own 5 _ rfl) ag_50 rfl (vs := [_, _, _, _]) rfl rfl) <| sv (r_build ze_53 st_53 rfl (.cons rfl .nil) (cs := [_, _, _, _, _]) rfl) ?_
                              have hww28 : LC cNd hL.hp [.string (mk [112]), .string (mk [118, 109]), .string (mk [97]), .int .i64 (-1), .slice none (List.length ([] : List Ad)) 0] ([(Nd.mk (Ad.mk [112] [118, 109] [97] ((-1) : Int)) ([] : List Ad))] : List Nd) := (LC.cons (K := cNd) (cs := [.string (mk [112]), .string (mk [118, 109]), .string (mk [97]), .int .i64 (-1), .slice none (List.length ([] : List Ad)) 0]) ⟨_, _, rfl, Sl.nil⟩ LC.nil)
                              refine wl rfl (o_buildSlice (C := cNd) 8 hL el_47 ze_53 rfl (.cons rfl .nil) rfl rfl rfl rfl hww28 fun gw28 w hL => ?_)
                              obtain ⟨H, hlez29, hL, hsz29⟩ := hL.settle (i := 8) (K := cNd) rfl hww28
                              replace ht12r0_0 := ScR.mono hlez29 ht12r0_0
                              replace ht20r0_0 := VR.mono hlez29 ht20r0_0
                              replace ht21r0_0_0 := TR.mono hlez29 ht21r0_0_0
                              obtain ⟨t30, ht30, hm⟩ := bnd hm
                              refine wl rfl (o_call0 hL fn_25 rfl (c25 hL.imm hsz29 ht30) fun v H w hlet30 hL hR => ?_)
                              replace ht12r0_0 := ScR.mono hlet30 ht12r0_0
                              replace ht20r0_0 := VR.mono hlet30 ht20r0_0
                              replace ht21r0_0_0 := TR.mono hlet30 ht21r0_0_0
                              obtain ⟨at30r0_0, ct30r0_0, rfl, ht30r0_0⟩ := hR
                              refine sv (r_move rfl) <| sv (r_extract rfl rfl) <| sv (r_extract rfl rfl) <| sv (r_assign rfl) <| sv (r_assign rfl) <| wt <| wp_seq <| rd hL [4, 5] [_, _] [(0, true), (1, true), (2, true), (3, true), (4, true), (5, true), (6, true), (7, true), (8, true), (9, true), (10, true), (11, true), (12, true), (13, true), (14, true), (15, true), (16, false), (17, true), (18, true), (19, true), (20, true), (21, true), (22, false), (23, true), (24, false), (25, true), (26, true), (27, true), (28, true), (29, true), (30, false), (31, true), (32, false), (33, true), (34, true), (35, true), (36, true), (37, false), (38, true), (39, true), (40, true), (41, true), (42, true), (44, true), (43, false), (45, false), (46, true), (47, true), (48, true), (49, true)] mixed rfl (by kernel_rfl) fun w hL => dv rfl (fun w hS => r_move rfl) <| dv rfl (fun w hS => r_eqi rfl rfl) <| dv rfl (fun w hS => r_move rfl) ?_
                              refine m_if hm (fun hg31 hm => ?_) (fun hg31 hm => ?_)
                              · refine dvT rfl rfl rfl rfl hg31 (fun w hS => r_move rfl) <| dvT rfl rfl rfl rfl hg31 (fun w hS => r_lenS rfl Tryz.underlying51 rfl) <| dvT rfl rfl rfl rfl hg31 (fun w hS => r_eqi rfl rfl) <| dv rfl (fun w hS => r_pickT hg31 rfl rfl) <| dv rfl (fun w hS => r_move rfl) ?_
                                refine m_if hm (fun hg32 hm => ?_) (fun hg32 hm => ?_)
                                · refine dvT rfl rfl rfl rfl hg32 (fun w hS => r_move rfl) ?_
                                  obtain ⟨hg34, hm⟩ := grd hm
                                  obtain ⟨be33, oe33, _, hae33, hce33, rfl⟩ := Sl.at ht30r0_0 default hg34
                                  refine dvT rfl rfl rfl rfl hg32 (fun w hS => r_indexAddr el_51 hg34 hae33 rfl rfl) <| dvT rfl rfl rfl rfl hg32 (fun w hS => r_loadHk hS.1 ag_50 rfl (vs := [_, _, _, _]) hce33 rfl) <| dvT rfl rfl rfl rfl hg32 (fun w hS => r_loadk hS.2.2.1 ag_50 rfl (vs := [_, _, _, _]) rfl rfl) <| dvT rfl rfl rfl rfl hg32 (fun w hS => r_eqAd rfl rfl) <| dv rfl (fun w hS => r_pickT hg32 rfl rfl) <| dv rfl (fun w hS => r_move rfl) ?_
                                  refine m_if hm (fun hg35 hm => ?_) (fun hg35 hm => ?_)
                                  · refine dvT rfl rfl rfl rfl hg35 (fun w hS => r_build ze_70 st_70 rfl (.cons rfl (.cons rfl (.cons rfl (.cons rfl .nil)))) (cs := [_, _, _, _]) rfl) ?_
                                    obtain ⟨t36, ht36, hm⟩ := bnd hm
                                    refine dhT rfl rfl rfl rfl rfl hg35 (o_call0 hL fn_42 rfl (c42 hL.imm ht36) fun v H w hlet36 hL hR => ⟨Sd.of hL ((Hle.refl _).trans hlet36) [4, 5] rfl, ?_⟩)
                                    replace ht12r0_0 := ScR.mono hlet36 ht12r0_0
                                    replace ht20r0_0 := VR.mono hlet36 ht20r0_0
                                    replace ht21r0_0_0 := TR.mono hlet36 ht21r0_0_0
                                    obtain rfl := hR
                                    refine dvT rfl rfl rfl rfl hg35 (fun w hS => r_eqi rfl rfl) <| dv rfl (fun w hS => r_pickT hg35 rfl rfl) <| dv rfl (fun w hS => r_move rfl) ?_
                                    refine m_if hm (fun hg37 hm => ?_) (fun hg37 hm => ?_)
                                    · refine dvT rfl rfl rfl rfl hg37 (fun w hS => r_move rfl) <| dvT rfl rfl rfl rfl hg37 (fun w hS => r_loadk hS.2.2.1 ag_50 rfl (vs := [_, _, _, _]) rfl rfl) ?_
                                      obtain ⟨t38, ht38, hm⟩ := bnd hm
                                      refine dhT rfl rfl rfl rfl rfl hg37 (o_call0 hL fn_87 rfl (c87 hL.imm Sl.nil ht38) fun v H w hlet38 hL hR => ⟨Sd.of hL (((Hle.refl _).trans hlet36).trans hlet38) [4, 5] rfl, ?_⟩)
                                      replace ht12r0_0 := ScR.mono hlet38 ht12r0_0
                                      replace ht20r0_0 := VR.mono hlet38 ht20r0_0
                                      replace ht21r0_0_0 := TR.mono hlet38 ht21r0_0_0
                                      obtain ⟨xt38r0_0, rfl, ht38r0_0⟩ := hR
                                      refine dvT rfl rfl rfl rfl hg37 (fun w hS => r_build ze_97 st_97 rfl (.cons rfl (.cons rfl .nil)) (cs := [_, _, _, _, _, _, _, _]) rfl) ?_
                                      obtain ⟨t39, ht39, hm⟩ := bnd hm
                                      have hL := hL.merge 6 7 rfl rfl rfl
                                      refine dhT rfl rfl rfl rfl rfl hg37 (o_callE 6 hL fn_86 rfl rfl (c86 hL.imm (hL.own 6 _ rfl) (fun b' hb' => (hL.non 6 _ rfl b' hb').1) ht21r0_0_0 ht38r0_0 Sl.nil Sl.nil ht39) fun x v H w hlet39 hL hR => ⟨Sd.of hL ((((Hle.refl _).trans hlet36).trans hlet38).trans hlet39) [4, 5] rfl, ?_⟩)
                                      obtain ⟨gt39m0_0, et39m0_0, kt39m0_0⟩ := x
                                      try dsimp only at hL hR
                                      replace ht12r0_0 := ScR.mono hlet39 ht12r0_0
                                      replace ht20r0_0 := VR.mono hlet39 ht20r0_0
                                      obtain ⟨rfl, ht39m0_0⟩ := hR
                                      have hL := hL.split 6 7 rfl rfl (.inr rfl)
                                      have hL := hL.pick [(0, .cel b0 (xt1r0_0 :: []) 33), (1, .cel b1 (xt3r0_0 :: []) 33), (2, .cel b2 (xt11r0_0 :: []) 33), (3, .cel b3 (xt13r0_0 :: []) 33), (4, .cel b4 (xt20r0_0 :: []) 33), (5, .cel b5 ((.string (mk [112])) :: (.string (mk [118, 109])) :: (.string (mk [97])) :: (.int .i64 (-1)) :: []) 50), (6, .cel b6 ((.map (some gt39m0_0)) :: (.int .i64 t39.2.2) :: []) 191), (7, .obj gt39m0_0 (.map et39m0_0 kt39m0_0)), (8, .gone)] rfl
                                      refine dvT rfl rfl rfl rfl hg37 (fun w hS => r_eqi rfl rfl) <| dv rfl (fun w hS => r_pickT hg37 rfl rfl) <| dv rfl (fun w hS => r_move rfl) ?_
                                      refine m_if hm (fun hg40 hm => ?_) (fun hg40 hm => ?_)
                                      · refine dvT rfl rfl rfl rfl hg40 (fun w hS => r_move rfl) <| dvT rfl rfl rfl rfl hg40 (fun w hS => r_loadk hS.2.2.1 ag_50 rfl (vs := [_, _, _, _]) rfl rfl) ?_
                                        obtain ⟨t41, ht41, hm⟩ := bnd hm
                                        refine dhT rfl rfl rfl rfl rfl hg40 (o_call0 hL fn_88 rfl (c88 hL.imm ht41) fun v H w hlet41 hL hR => ⟨Sd.of hL (((((Hle.refl _).trans hlet36).trans hlet38).trans hlet39).trans hlet41) [4, 5] rfl, ?_⟩)
                                        replace ht12r0_0 := ScR.mono hlet41 ht12r0_0
                                        replace ht20r0_0 := VR.mono hlet41 ht20r0_0
                                        replace ht39m0_0 := TR.mono hlet41 ht39m0_0
                                        obtain ⟨xt41r0_0, rfl, ht41r0_0⟩ := hR
                                        refine dvT rfl rfl rfl rfl hg40 (fun w hS => r_build ze_97 st_97 rfl (.cons rfl (.cons rfl .nil)) (cs := [_, _, _, _, _, _, _, _]) rfl) ?_
                                        obtain ⟨t42, ht42, hm⟩ := bnd hm
                                        have hL := hL.merge 6 7 rfl rfl rfl
                                        refine dhT rfl rfl rfl rfl rfl hg40 (o_callE 6 hL fn_86 rfl rfl (c86 hL.imm (hL.own 6 _ rfl) (fun b' hb' => (hL.non 6 _ rfl b' hb').1) ht39m0_0 ht41r0_0 Sl.nil Sl.nil ht42) fun x v H w hlet42 hL hR => ⟨Sd.of hL ((((((Hle.refl _).trans hlet36).trans hlet38).trans hlet39).trans hlet41).trans hlet42) [4, 5] rfl, ?_⟩)
                                        obtain ⟨gt42m0_0, et42m0_0, kt42m0_0⟩ := x
                                        try dsimp only at hL hR
                                        replace ht12r0_0 := ScR.mono hlet42 ht12r0_0
                                        replace ht20r0_0 := VR.mono hlet42 ht20r0_0
                                        obtain ⟨rfl, ht42m0_0⟩ := hR
                                        have hL := hL.split 6 7 rfl rfl (.inr rfl)
                                        have hL := hL.pick [(0, .cel b0 (xt1r0_0 :: []) 33), (1, .cel b1 (xt3r0_0 :: []) 33), (2, .cel b2 (xt11r0_0 :: []) 33), (3, .cel b3 (xt13r0_0 :: []) 33), (4, .cel b4 (xt20r0_0 :: []) 33), (5, .cel b5 ((.string (mk [112])) :: (.string (mk [118, 109])) :: (.string (mk [97])) :: (.int .i64 (-1)) :: []) 50), (6, .cel b6 ((.map (some gt42m0_0)) :: (.int .i64 t42.2.2) :: []) 191), (7, .obj gt42m0_0 (.map et42m0_0 kt42m0_0)), (8, .gone)] rfl
                                        refine dvT rfl rfl rfl rfl hg40 (fun w hS => r_eqi rfl rfl) <| dv rfl (fun w hS => r_pickT hg40 rfl rfl) <| dv rfl (fun w hS => r_move rfl) ?_
                                        refine m_if hm (fun hg43 hm => ?_) (fun hg43 hm => ?_)
                                        · refine dvT rfl rfl rfl rfl hg43 (fun w hS => r_move rfl) ?_
                                          obtain ⟨t44, ht44, hm⟩ := bnd hm
                                          have hL := hL.merge 6 7 rfl rfl rfl
                                          refine dhT rfl rfl rfl rfl rfl hg43 (o_call1 6 hL fn_89 rfl rfl (c89 hL.imm (hL.own 6 _ rfl) (fun b' hb' => (hL.non 6 _ rfl b' hb').1) ht42m0_0 ht44) fun v H w hlet44 hL hR => ⟨Sd.of hL (((((((Hle.refl _).trans hlet36).trans hlet38).trans hlet39).trans hlet41).trans hlet42).trans hlet44) [4, 5] rfl, ?_⟩)
                                          replace ht12r0_0 := ScR.mono hlet44 ht12r0_0
                                          replace ht20r0_0 := VR.mono hlet44 ht20r0_0
                                          obtain rfl := hR
                                          have hL := hL.split 6 7 rfl rfl (.inr rfl)
                                          have hL := hL.pick [(0, .cel b0 (xt1r0_0 :: []) 33), (1, .cel b1 (xt3r0_0 :: []) 33), (2, .cel b2 (xt11r0_0 :: []) 33), (3, .cel b3 (xt13r0_0 :: []) 33), (4, .cel b4 (xt20r0_0 :: []) 33), (5, .cel b5 ((.string (mk [112])) :: (.string (mk [118, 109])) :: (.string (mk [97])) :: (.int .i64 (-1)) :: []) 50), (6, .cel b6 ((.map (some gt42m0_0)) :: (.int .i64 t42.2.2) :: []) 191), (7, .obj gt42m0_0 (.map et42m0_0 kt42m0_0)), (8, .gone)] rfl
                                          refine dvT rfl rfl rfl rfl hg43 (fun w hS => r_eqi rfl rfl) <| dv rfl (fun w hS => r_pickT hg43 rfl rfl) <| dv rfl (fun w hS => r_move rfl) ?_
                                          refine m_if hm (fun hg45 hm => ?_) (fun hg45 hm => ?_)
                                          · refine dvT rfl rfl rfl rfl hg45 (fun w hS => r_move rfl) <| dvT rfl rfl rfl rfl hg45 (fun w hS => r_loadk hS.2.1 ag_33 rfl (vs := [_]) rfl rfl) <| dvT rfl rfl rfl rfl hg45 (fun w hS => r_loadk hS.2.1 ag_33 rfl (vs := [_]) rfl rfl) ?_
                                            obtain ⟨t46, ht46, hm⟩ := bnd hm
                                            refine dhT rfl rfl rfl rfl rfl hg45 (o_call0 hL fn_64 rfl (c64 hL.imm ht46) fun v H w hlet46 hL hR => ⟨Sd.of hL ((((((((Hle.refl _).trans hlet36).trans hlet38).trans hlet39).trans hlet41).trans hlet42).trans hlet44).trans hlet46) [4, 5] rfl, ?_⟩)
                                            replace ht12r0_0 := ScR.mono hlet46 ht12r0_0
                                            replace ht20r0_0 := VR.mono hlet46 ht20r0_0
                                            obtain ⟨xt46r0_0, rfl, ht46r0_0⟩ := hR
                                            obtain ⟨t47, ht47, hm⟩ := bnd hm
                                            refine dhT rfl rfl rfl rfl rfl hg45 (o_call0 hL fn_18 rfl (c18 hL.imm ht12r0_0 ht20r0_0 ht46r0_0 ht20r0_0 Sl.nil ht47) fun v H w hlet47 hL hR => ⟨Sd.of hL (((((((((Hle.refl _).trans hlet36).trans hlet38).trans hlet39).trans hlet41).trans hlet42).trans hlet44).trans hlet46).trans hlet47) [4, 5] rfl, ?_⟩)
                                            obtain rfl := hR
                                            refine dvT rfl rfl rfl rfl hg45 (fun w hS => r_field1 fs_35_0 sc_3 rfl rfl) <| dvT rfl rfl rfl rfl hg45 (fun w hS => r_eqi rfl rfl) <| dv rfl (fun w hS => r_pickT hg45 rfl rfl) <| dv rfl (fun w hS => r_assign rfl) <| dn <| then_n <| wp_ret ?_
                                            obtain rfl := ends hm
                                            exact rt rfl (.tmp rfl .nil) ⟨_, _, rfl, hL.ext, rfl⟩
                                          · cases hm
                                        · cases hm
                                      · cases hm
                                    · cases hm
                                  · cases hm
                                · cases hm
                              · cases hm

end Go.Proofs.YtcjphpenelnohaaGreatDoor
/- The chapters' examples are as told. -/
namespace Go.Proofs.YtcjphpenelnohaaGreatDoor
open Go.RowKit
set_option maxRecDepth 1000000 in
theorem m14_true : m14 = some true := by kernel_rfl
end Go.Proofs.YtcjphpenelnohaaGreatDoor
/- Beats: what the law of delays is told. -/
namespace Go.Proofs.YtcjphpenelnohaaGreatDoor
open Go.RowKit
structure Bt where
  start : Bool
  now : Int
  deriving Inhabited
def cBt : Cr Bt where
  k := 2
  C _ cs x := cs = [.bool x.start, .int .i32 x.now]
  len := by rintro H cs x rfl; rfl
  mono := by rintro H H' _ cs x rfl; rfl
  one := by rintro H cs x rfl u hu; simp at hu; rcases hu with rfl | rfl <;> rfl
end Go.Proofs.YtcjphpenelnohaaGreatDoor
/- La: by tools/gen.py -/
set_option linter.unusedVariables false
namespace Go.Proofs.YtcjphpenelnohaaGreatDoor
open Go.RowKit

/-- backoff.New -/
def m37 (a0_0 : Int) (a0_1 : Int) (a0_2 : Int) (a0_3 : Int) : Option (Int × Int × Int × Int × Int × Int × Bool × Int) :=
  ((m36 a0_0 a0_1 a0_2 a0_3).bind fun t1 => (bif (!t1) then none else (some (a0_0, a0_1, a0_2, a0_3, (0 : Int), (0 : Int), false, (0 : Int)))))
set_option maxHeartbeats 20000000 in
set_option maxRecDepth 100000 in
theorem c37 : ∀ {H0 : Hp} {w0 : World} {a0_0 : Int} {a0_1 : Int} {a0_2 : Int} {a0_3 : Int}  (_ : Imm H0 w0) {r : (Int × Int × Int × Int × Int × Int × Bool × Int)} (_ : m37 a0_0 a0_1 a0_2 a0_3 = some r), Ct Tryz.prog 37 [.agg (List.toArray [.int .i64 a0_0, .int .i64 a0_1, .int .i64 a0_2, .int .i64 a0_3])] [] H0 w0 fun v H' w' => ∃ x : Nat, (v = .tuple (List.toArray [.pointer (some ⟨x, 0, none⟩), .int .i64 r.2.2.2.2.2.2.2])) ∧ Rs.holds w' (.cel x ((.int .i64 r.1) :: (.int .i64 r.2.1) :: (.int .i64 r.2.2.1) :: (.int .i64 r.2.2.2.1) :: (.int .i64 r.2.2.2.2.1) :: (.int .i64 r.2.2.2.2.2.1) :: (.bool r.2.2.2.2.2.2.1) :: []) 186) ∧ ∀ b' ∈ Rs.foot (.cel x ((.int .i64 r.1) :: (.int .i64 r.2.1) :: (.int .i64 r.2.2.1) :: (.int .i64 r.2.2.2.1) :: (.int .i64 r.2.2.2.2.1) :: (.int .i64 r.2.2.2.2.2.1) :: (.bool r.2.2.2.2.2.2.1) :: []) 186), H' b' = none ∧ (b' ∈ Rs.foot .gone ∨ w0.heap.size ≤ b') := by
  intro H0 w0 a0_0 a0_1 a0_2 a0_3  hI r hm
  have hL := L.start hI
  refine ct_of Tryz.func37 rfl Tryz.ntmps37 rfl (Nat.le_of_ble_eq_true rfl) ?_
  unfold m37 at hm
  refine sr ?_
  refine wl rfl (o_box 0 (c := [_, _, _, _]) hL rfl rfl fun b0 w hL => ?_)
  refine sv (r_assign rfl) <| sv (r_assign rfl) <| wt <| wp_seq <| sr <| sv (r_loadk (hL.own 0 _ rfl) ag_70 rfl (vs := [_, _, _, _]) rfl rfl) ?_
  obtain ⟨t1, ht1, hm⟩ := bnd hm
  refine wl rfl (o_call0 hL fn_36 rfl (c36 hL.imm ht1) fun v H w hlet1 hL hR => ?_)
  obtain rfl := hR
  refine sv (r_not rfl) <| wt ?_
  refine c_if hm rfl (fun hg2 hm => ?_) (fun hg2 hm => ?_)
  · refine sr <| sv (r_assign rfl) <| sv (r_assign rfl) <| wn ?_
    cases hm
  · refine wp_skip <| then_n <| sr <| sv (r_loadk (hL.own 0 _ rfl) ag_70 rfl (vs := [_, _, _, _]) rfl rfl) <| sv (r_build ze_186 st_186 rfl (.cons rfl .nil) (cs := [_, _, _, _, _, _, _]) rfl) ?_
    refine wl rfl (o_box 1 (c := [_, _, _, _, _, _, _]) hL rfl rfl fun b1 w hL => ?_)
    refine sv (r_assign rfl) <| sv (r_assign rfl) <| wt <| wp_ret ?_
    obtain rfl := ends hm
    refine rt rfl (.tmp rfl (.tmp rfl .nil)) ⟨_, _, rfl, hL.ext, ?_⟩
    exact ⟨b1, rfl, hL.give (i := 1) rfl⟩

/-- (*backoff.State).Start -/
def m38 (s0 : Int) (s1 : Int) (s2 : Int) (s3 : Int) (s4 : Int) (s5 : Int) (s6 : Bool) (a1 : Int) : Option (Int × Int) :=
  (bif s6 then (some ((11 : Int), s4)) else ((m108 a1).bind fun t2 => (some ((0 : Int), t2))))
set_option maxHeartbeats 20000000 in
set_option maxRecDepth 100000 in
theorem c38 : ∀ {H0 : Hp} {w0 : World} {s0 : Int} {s1 : Int} {s2 : Int} {s3 : Int} {s4 : Int} {s5 : Int} {s6 : Bool} {a1 : Int} {b0 : Nat} {tl0 : List Value} {T0 : TypeId} (_ : Imm H0 w0) (_ : Rs.holds w0 (.cel b0 ((.int .i64 s0) :: (.int .i64 s1) :: (.int .i64 s2) :: (.int .i64 s3) :: (.int .i64 s4) :: (.int .i64 s5) :: (.bool s6) :: tl0) T0)) (_ : ∀ b' ∈ Rs.foot (.cel b0 ((.int .i64 s0) :: (.int .i64 s1) :: (.int .i64 s2) :: (.int .i64 s3) :: (.int .i64 s4) :: (.int .i64 s5) :: (.bool s6) :: tl0) T0), H0 b' = none) {r : (Int × Int)} (_ : m38 s0 s1 s2 s3 s4 s5 s6 a1 = some r), Ct Tryz.prog 38 [.pointer (some ⟨b0, 0, none⟩), .int .i64 a1] (Rs.foot (.cel b0 ((.int .i64 s0) :: (.int .i64 s1) :: (.int .i64 s2) :: (.int .i64 s3) :: (.int .i64 s4) :: (.int .i64 s5) :: (.bool s6) :: tl0) T0)) H0 w0 fun v H' w' => (v = .int .i64 r.1) ∧ Rs.holds w' (.cel b0 ((.int .i64 s0) :: (.int .i64 s1) :: (.int .i64 s2) :: (.int .i64 s3) :: (.int .i64 r.2) :: (.int .i64 s5) :: (.bool s6) :: tl0) T0) ∧ ∀ b' ∈ Rs.foot (.cel b0 ((.int .i64 s0) :: (.int .i64 s1) :: (.int .i64 s2) :: (.int .i64 s3) :: (.int .i64 r.2) :: (.int .i64 s5) :: (.bool s6) :: tl0) T0), H' b' = none ∧ (b' ∈ Rs.foot (.cel b0 ((.int .i64 s0) :: (.int .i64 s1) :: (.int .i64 s2) :: (.int .i64 s3) :: (.int .i64 s4) :: (.int .i64 s5) :: (.bool s6) :: tl0) T0) ∨ w0.heap.size ≤ b') := by
  intro H0 w0 s0 s1 s2 s3 s4 s5 s6 a1 b0 tl0 T0  hI hb hn r hm
  have hL := L.one hI hb hn
  refine ct_of Tryz.func38 rfl Tryz.ntmps38 rfl (Nat.le_of_ble_eq_true rfl) ?_
  unfold m38 at hm
  refine sr <| sv (r_assign rfl) <| wt <| wp_seq <| sr <| sv (r_move rfl) <| sv (r_eqPN Tryz.underlying73 (.inr ⟨_, rfl, rfl⟩) rfl rfl) <| sv (r_move rfl) ?_
  refine wlT rfl rfl rfl rfl rfl (o_val (r_move rfl) ?_)
  refine wlT rfl rfl rfl rfl rfl (o_val (r_nilCheck rfl) ?_)
  refine wlT rfl rfl rfl rfl rfl (o_val (r_fieldAddr fl_186_3 rfl) ?_)
  refine wlT rfl rfl rfl rfl rfl (o_val (r_load1 (hL.own 0 _ rfl) sc_4 rfl rfl) ?_)
  refine sv (r_pickF rfl rfl rfl) <| wt ?_
  refine c_if hm rfl (fun hg1 hm => ?_) (fun hg1 hm => ?_)
  · refine sr <| sv (r_assign rfl) <| wt <| wp_ret <| then_r ?_
    obtain rfl := ends hm
    refine rt rfl (.tmp rfl .nil) ⟨_, _, rfl, hL.ext, ?_⟩
    exact ⟨rfl, hL.give (i := 0) rfl⟩
  · refine wp_skip <| then_n <| sr <| sv (r_move rfl) <| sv (r_move rfl) ?_
    obtain ⟨t2, ht2, hm⟩ := bnd hm
    refine wl rfl (o_call0 hL fn_108 rfl (c108 hL.imm ht2) fun v H w hlet2 hL hR => ?_)
    obtain rfl := hR
    refine sv (r_nilCheck rfl) <| sv (r_fieldAddr fl_186_1 rfl) ?_
    refine wl rfl (o_store1 (i := 0) hL sc_3 rfl rfl rfl rfl rfl (c' := _ :: _ :: _ :: _ :: _ :: _ :: _ :: _) rfl fun w hL => ?_)
    refine wt <| sr <| sv (r_assign rfl) <| wt <| wp_ret ?_
    obtain rfl := ends hm
    refine rt rfl (.tmp rfl .nil) ⟨_, _, rfl, hL.ext, ?_⟩
    exact ⟨rfl, hL.give (i := 0) rfl⟩

/-- (*backoff.State).Fail -/
def m39_j0 (s0 : Int) (s1 : Int) (s2 : Int) (s3 : Int) (s6 : Bool) (u0_5_1 : Int) : Option (Int × Bool × Int × Bool) := (bif (decide (s2 ≤ (IntKind.wrap .i64 (u0_5_1 + (1 : Int))))) then (some ((0 : Int), false, (IntKind.wrap .i64 (u0_5_1 + (1 : Int))), true)) else ((m42 s0 s1 s2 s3 (IntKind.wrap .i64 (u0_5_1 + (1 : Int)))).bind fun t3 => (some (t3, true, (IntKind.wrap .i64 (u0_5_1 + (1 : Int))), s6))))
def m39 (s0 : Int) (s1 : Int) (s2 : Int) (s3 : Int) (s4 : Int) (s5 : Int) (s6 : Bool) (a1 : Int) : Option (Int × Bool × Int × Bool) :=
  (bif s6 then (some ((0 : Int), false, s5, s6)) else ((m108 a1).bind fun t4 => (bif (decide (s3 < (IntKind.wrap .i64 (t4 - s4)))) then (m39_j0 s0 s1 s2 s3 s6 (0 : Int)) else (m39_j0 s0 s1 s2 s3 s6 s5))))
set_option maxHeartbeats 20000000 in
set_option maxRecDepth 100000 in
theorem c39 : ∀ {H0 : Hp} {w0 : World} {s0 : Int} {s1 : Int} {s2 : Int} {s3 : Int} {s4 : Int} {s5 : Int} {s6 : Bool} {a1 : Int} {b0 : Nat} {tl0 : List Value} {T0 : TypeId} (_ : Imm H0 w0) (_ : Rs.holds w0 (.cel b0 ((.int .i64 s0) :: (.int .i64 s1) :: (.int .i64 s2) :: (.int .i64 s3) :: (.int .i64 s4) :: (.int .i64 s5) :: (.bool s6) :: tl0) T0)) (_ : ∀ b' ∈ Rs.foot (.cel b0 ((.int .i64 s0) :: (.int .i64 s1) :: (.int .i64 s2) :: (.int .i64 s3) :: (.int .i64 s4) :: (.int .i64 s5) :: (.bool s6) :: tl0) T0), H0 b' = none) {r : (Int × Bool × Int × Bool)} (_ : m39 s0 s1 s2 s3 s4 s5 s6 a1 = some r), Ct Tryz.prog 39 [.pointer (some ⟨b0, 0, none⟩), .int .i64 a1] (Rs.foot (.cel b0 ((.int .i64 s0) :: (.int .i64 s1) :: (.int .i64 s2) :: (.int .i64 s3) :: (.int .i64 s4) :: (.int .i64 s5) :: (.bool s6) :: tl0) T0)) H0 w0 fun v H' w' => (v = .tuple (List.toArray [.int .i64 r.1, .bool r.2.1])) ∧ Rs.holds w' (.cel b0 ((.int .i64 s0) :: (.int .i64 s1) :: (.int .i64 s2) :: (.int .i64 s3) :: (.int .i64 s4) :: (.int .i64 r.2.2.1) :: (.bool r.2.2.2) :: tl0) T0) ∧ ∀ b' ∈ Rs.foot (.cel b0 ((.int .i64 s0) :: (.int .i64 s1) :: (.int .i64 s2) :: (.int .i64 s3) :: (.int .i64 s4) :: (.int .i64 r.2.2.1) :: (.bool r.2.2.2) :: tl0) T0), H' b' = none ∧ (b' ∈ Rs.foot (.cel b0 ((.int .i64 s0) :: (.int .i64 s1) :: (.int .i64 s2) :: (.int .i64 s3) :: (.int .i64 s4) :: (.int .i64 s5) :: (.bool s6) :: tl0) T0) ∨ w0.heap.size ≤ b') := by
  intro H0 w0 s0 s1 s2 s3 s4 s5 s6 a1 b0 tl0 T0  hI hb hn r hm
  have hL := L.one hI hb hn
  refine ct_of Tryz.func39 rfl Tryz.ntmps39 rfl (Nat.le_of_ble_eq_true rfl) ?_
  unfold m39 at hm
  refine sr <| sv (r_assign rfl) <| sv (r_assign rfl) <| wt <| wp_seq <| sr <| sv (r_move rfl) <| sv (r_eqPN Tryz.underlying73 (.inr ⟨_, rfl, rfl⟩) rfl rfl) <| sv (r_move rfl) ?_
  refine wlT rfl rfl rfl rfl rfl (o_val (r_move rfl) ?_)
  refine wlT rfl rfl rfl rfl rfl (o_val (r_nilCheck rfl) ?_)
  refine wlT rfl rfl rfl rfl rfl (o_val (r_fieldAddr fl_186_3 rfl) ?_)
  refine wlT rfl rfl rfl rfl rfl (o_val (r_load1 (hL.own 0 _ rfl) sc_4 rfl rfl) ?_)
  refine sv (r_pickF rfl rfl rfl) <| wt ?_
  refine c_if hm rfl (fun hg1 hm => ?_) (fun hg1 hm => ?_)
  · refine sr <| sv (r_assign rfl) <| sv (r_assign rfl) <| wt <| wp_ret <| then_r ?_
    obtain rfl := ends hm
    refine rt rfl (.tmp rfl (.tmp rfl .nil)) ⟨_, _, rfl, hL.ext, ?_⟩
    exact ⟨rfl, hL.give (i := 0) rfl⟩
  · refine wp_skip <| then_n ?_
    refine w_join (fun a w => ∃ (u0_5_1 : Int) (l : List (Nat × Value)) (H : Hp), a = fr 59 ([(0, .pointer (some ⟨b0, 0, none⟩)), (4, .int .i64 0), (5, .bool false)] ++ l) [] ∧ L (Rs.foot (.cel b0 ((.int .i64 s0) :: (.int .i64 s1) :: (.int .i64 s2) :: (.int .i64 s3) :: (.int .i64 s4) :: (.int .i64 s5) :: (.bool s6) :: tl0) T0)) H0 w0 [(0, .cel b0 ((.int .i64 s0) :: (.int .i64 s1) :: (.int .i64 s2) :: (.int .i64 s3) :: (.int .i64 s4) :: (.int .i64 u0_5_1) :: (.bool s6) :: tl0) T0)] H w ∧ (m39_j0 s0 s1 s2 s3 s6 u0_5_1) = some r) (fun a w hj => ?_) ?_
    · obtain ⟨u0_5_1, l, H, rfl, hL, hm⟩ := hj
      unfold m39_j0 at hm
      refine sr <| sv (r_move rfl) <| sv (r_nilCheck rfl) <| sv (r_fieldAddr fl_186_2 rfl) <| sv (r_load1 (hL.own 0 _ rfl) sc_3 rfl rfl) <| sv (r_add rfl rfl) <| sv (r_nilCheck rfl) <| sv (r_fieldAddr fl_186_2 rfl) ?_
      refine wl rfl (o_store1 (i := 0) hL sc_3 rfl rfl rfl rfl rfl (c' := _ :: _ :: _ :: _ :: _ :: _ :: _ :: _) rfl fun w hL => ?_)
      refine wt <| wp_seq <| wp_seq <| rd hL [0] [_] [(0, true), (1, true), (2, true), (3, true), (4, true), (5, true), (6, true), (7, true), (8, true), (9, true)] mixed rfl (by kernel_rfl) fun w hL => dv rfl (fun w hS => r_move rfl) <| dv rfl (fun w hS => r_nilCheck rfl) <| dv rfl (fun w hS => r_fieldAddr fl_186_2 rfl) <| dv rfl (fun w hS => r_load1 hS.2.1 sc_3 rfl rfl) <| dv rfl (fun w hS => r_move rfl) <| dv rfl (fun w hS => r_nilCheck rfl) <| dv rfl (fun w hS => r_fieldAddr fl_186_0 rfl) <| dv rfl (fun w hS => r_fieldAddr fl_70_2 rfl) <| dv rfl (fun w hS => r_load1 hS.2.1 sc_3 rfl rfl) <| dv rfl (fun w hS => r_geq rfl rfl) <| dn <| then_n ?_
      refine c_if hm rfl (fun hg2 hm => ?_) (fun hg2 hm => ?_)
      · refine sr <| sv (r_move rfl) <| sv (r_nilCheck rfl) <| sv (r_fieldAddr fl_186_3 rfl) ?_
        refine wl rfl (o_store1 (i := 0) hL sc_4 rfl rfl rfl rfl rfl (c' := _ :: _ :: _ :: _ :: _ :: _ :: _ :: _) rfl fun w hL => ?_)
        refine wt <| sr <| sv (r_assign rfl) <| sv (r_assign rfl) <| wt <| wp_ret <| then_r ?_
        obtain rfl := ends hm
        refine rt rfl (.tmp rfl (.tmp rfl .nil)) ⟨_, _, rfl, hL.ext, ?_⟩
        exact ⟨rfl, hL.give (i := 0) rfl⟩
      · refine wp_skip <| then_n <| wp_seq <| rd hL [0] [_] [(0, true), (1, true), (2, true), (3, true), (4, true), (5, true), (6, true), (7, true), (8, false), (9, true), (10, true)] mixed rfl (by kernel_rfl) fun w hL => dv rfl (fun w hS => r_move rfl) <| dv rfl (fun w hS => r_nilCheck rfl) <| dv rfl (fun w hS => r_fieldAddr fl_186_0 rfl) <| dv rfl (fun w hS => r_loadk hS.2.1 ag_70 rfl (vs := [_, _, _, _]) rfl rfl) <| dv rfl (fun w hS => r_move rfl) <| dv rfl (fun w hS => r_nilCheck rfl) <| dv rfl (fun w hS => r_fieldAddr fl_186_2 rfl) <| dv rfl (fun w hS => r_load1 hS.2.1 sc_3 rfl rfl) ?_
        obtain ⟨t3, ht3, hm⟩ := bnd hm
        refine dh rfl rfl (o_call0 hL fn_42 rfl (c42 hL.imm ht3) fun v H w hlet3 hL hR => ⟨Sd.of hL ((Hle.refl _).trans hlet3) [0] rfl, ?_⟩)
        obtain rfl := hR
        refine dv rfl (fun w hS => r_assign rfl) <| dv rfl (fun w hS => r_assign rfl) <| dn <| then_n <| wp_ret ?_
        obtain rfl := ends hm
        refine rt rfl (.tmp rfl (.tmp rfl .nil)) ⟨_, _, rfl, hL.ext, ?_⟩
        exact ⟨rfl, hL.give (i := 0) rfl⟩
    · refine wp_seq <| rd hL [0] [_] [(0, true), (2, true), (3, true), (4, true), (5, true), (7, true), (8, true), (9, true), (10, true), (11, true), (1, false), (6, true), (12, true)] mixed rfl (by kernel_rfl) fun w hL => dv rfl (fun w hS => r_move rfl) <| dv rfl (fun w hS => r_move rfl) <| dv rfl (fun w hS => r_nilCheck rfl) <| dv rfl (fun w hS => r_fieldAddr fl_186_1 rfl) <| dv rfl (fun w hS => r_load1 hS.2.1 sc_3 rfl rfl) <| dv rfl (fun w hS => r_move rfl) <| dv rfl (fun w hS => r_nilCheck rfl) <| dv rfl (fun w hS => r_fieldAddr fl_186_0 rfl) <| dv rfl (fun w hS => r_fieldAddr fl_70_3 rfl) <| dv rfl (fun w hS => r_load1 hS.2.1 sc_3 rfl rfl) ?_
      obtain ⟨t4, ht4, hm⟩ := bnd hm
      refine dh rfl rfl (o_call0 hL fn_108 rfl (c108 hL.imm ht4) fun v H w hlet4 hL hR => ⟨Sd.of hL ((Hle.refl _).trans hlet4) [0] rfl, ?_⟩)
      obtain rfl := hR
      refine dv rfl (fun w hS => r_sub rfl rfl) <| dv rfl (fun w hS => r_gtr rfl rfl) <| dn <| then_n ?_
      refine c_if hm rfl (fun hg5 hm => ?_) (fun hg5 hm => ?_)
      · refine rg <| sv (r_move rfl) <| sv (r_nilCheck rfl) <| sv (r_fieldAddr fl_186_2 rfl) ?_
        refine wl rfl (o_store1 (i := 0) hL sc_3 rfl rfl rfl rfl rfl (c' := _ :: _ :: _ :: _ :: _ :: _ :: _ :: _) rfl fun w hL => ?_)
        refine wt ?_
        exact ⟨_, _, _, fr_pre _ rfl, hL.pick _ rfl, hm⟩
      · refine wp_skip <| then_n ?_
        exact ⟨_, _, _, fr_pre _ rfl, hL.pick _ rfl, hm⟩

/-- (*backoff.State).Count -/
def m40 (s0 : Int) (s1 : Int) (s2 : Int) (s3 : Int) (s4 : Int) (s5 : Int) (s6 : Bool) : Option Int :=
  (some (s5))
set_option maxHeartbeats 20000000 in
set_option maxRecDepth 100000 in
theorem c40 : ∀ {H0 : Hp} {w0 : World} {s0 : Int} {s1 : Int} {s2 : Int} {s3 : Int} {s4 : Int} {s5 : Int} {s6 : Bool} {b0 : Nat} {tl0 : List Value} {T0 : TypeId} (_ : Imm H0 w0) (_ : Rs.holds w0 (.cel b0 ((.int .i64 s0) :: (.int .i64 s1) :: (.int .i64 s2) :: (.int .i64 s3) :: (.int .i64 s4) :: (.int .i64 s5) :: (.bool s6) :: tl0) T0)) (_ : ∀ b' ∈ Rs.foot (.cel b0 ((.int .i64 s0) :: (.int .i64 s1) :: (.int .i64 s2) :: (.int .i64 s3) :: (.int .i64 s4) :: (.int .i64 s5) :: (.bool s6) :: tl0) T0), H0 b' = none) {r : Int} (_ : m40 s0 s1 s2 s3 s4 s5 s6 = some r), Ct Tryz.prog 40 [.pointer (some ⟨b0, 0, none⟩)] [] H0 w0 fun v H' w' => v = .int .i64 r := by
  intro H0 w0 s0 s1 s2 s3 s4 s5 s6 b0 tl0 T0  hI hb hn r hm
  have hL := L.one hI hb hn
  refine ct_of Tryz.func40 rfl Tryz.ntmps40 rfl (Nat.le_of_ble_eq_true rfl) ?_
  unfold m40 at hm
  refine sr <| sv (r_assign rfl) <| wt <| wp_seq <| sr <| sv (r_move rfl) <| sv (r_eqPN Tryz.underlying73 (.inr ⟨_, rfl, rfl⟩) rfl rfl) <| wt <| c_F rfl rfl <| wp_skip <| then_n <| sr <| sv (r_move rfl) <| sv (r_nilCheck rfl) <| sv (r_fieldAddr fl_186_2 rfl) <| sv (r_load1 (hL.own 0 _ rfl) sc_3 rfl rfl) <| sv (r_assign rfl) <| wt <| wp_ret ?_
  obtain rfl := ends hm
  exact rt rfl (.tmp rfl .nil) ⟨_, _, rfl, (Ext.ro hL.ext (hL.non 0 _ rfl _ (List.mem_singleton.2 rfl)).1 hb (hL.own 0 _ rfl)), rfl⟩

/-- (*backoff.State).Lost -/
def m41 (s0 : Int) (s1 : Int) (s2 : Int) (s3 : Int) (s4 : Int) (s5 : Int) (s6 : Bool) : Option Bool :=
  (some (s6))
set_option maxHeartbeats 20000000 in
set_option maxRecDepth 100000 in
theorem c41 : ∀ {H0 : Hp} {w0 : World} {s0 : Int} {s1 : Int} {s2 : Int} {s3 : Int} {s4 : Int} {s5 : Int} {s6 : Bool} {b0 : Nat} {tl0 : List Value} {T0 : TypeId} (_ : Imm H0 w0) (_ : Rs.holds w0 (.cel b0 ((.int .i64 s0) :: (.int .i64 s1) :: (.int .i64 s2) :: (.int .i64 s3) :: (.int .i64 s4) :: (.int .i64 s5) :: (.bool s6) :: tl0) T0)) (_ : ∀ b' ∈ Rs.foot (.cel b0 ((.int .i64 s0) :: (.int .i64 s1) :: (.int .i64 s2) :: (.int .i64 s3) :: (.int .i64 s4) :: (.int .i64 s5) :: (.bool s6) :: tl0) T0), H0 b' = none) {r : Bool} (_ : m41 s0 s1 s2 s3 s4 s5 s6 = some r), Ct Tryz.prog 41 [.pointer (some ⟨b0, 0, none⟩)] [] H0 w0 fun v H' w' => v = .bool r := by
  intro H0 w0 s0 s1 s2 s3 s4 s5 s6 b0 tl0 T0  hI hb hn r hm
  have hL := L.one hI hb hn
  refine ct_of Tryz.func41 rfl Tryz.ntmps41 rfl (Nat.le_of_ble_eq_true rfl) ?_
  unfold m41 at hm
  refine sr <| sv (r_assign rfl) <| wt <| sr <| sv (r_move rfl) <| sv (r_nePN Tryz.underlying73 (.inr ⟨_, rfl, rfl⟩) rfl rfl) <| sv (r_move rfl) ?_
  refine wlT rfl rfl rfl rfl rfl (o_val (r_move rfl) ?_)
  refine wlT rfl rfl rfl rfl rfl (o_val (r_nilCheck rfl) ?_)
  refine wlT rfl rfl rfl rfl rfl (o_val (r_fieldAddr fl_186_3 rfl) ?_)
  refine wlT rfl rfl rfl rfl rfl (o_val (r_load1 (hL.own 0 _ rfl) sc_4 rfl rfl) ?_)
  refine sv (r_pickT rfl rfl rfl) <| sv (r_assign rfl) <| wt <| wp_ret ?_
  obtain rfl := ends hm
  exact rt rfl (.tmp rfl .nil) ⟨_, _, rfl, (Ext.ro hL.ext (hL.non 0 _ rfl _ (List.mem_singleton.2 rfl)).1 hb (hL.own 0 _ rfl)), rfl⟩

/-- flangetop.WholeDelays -/
def m5_j3 (nx2 : Int → Int → Int → Bool → Int → Int → Bool → Option Bool) (a0_0 : Int) (a0_1 : Int) (a0_2 : Int) (a0_3 : Int) (a2 : Int) (t4 : (Int × Int × Int × Int × Int × Int × Bool × Int)) (t5 : (Int × Int × Int × Int × Int × Int × Bool × Int)) (v79_3 : Int) (u2_4_4 : Int) (u2_5_4 : Int) (u2_6_4 : Bool) (u3_4_4 : Int) (u3_5_4 : Int) (u3_6_4 : Bool) : Option Bool := ((m40 t4.1 t4.2.1 t4.2.2.1 t4.2.2.2.1 u2_4_4 u2_5_4 u2_6_4).bind fun t10 => ((m40 t5.1 t5.2.1 t5.2.2.1 t5.2.2.2.1 u3_4_4 u3_5_4 u3_6_4).bind fun t11 => (bif (t10 != t11) then (some (false)) else ((m41 t4.1 t4.2.1 t4.2.2.1 t4.2.2.2.1 u2_4_4 u2_5_4 u2_6_4).bind fun t13 => ((m41 t5.1 t5.2.1 t5.2.2.1 t5.2.2.2.1 u3_4_4 u3_5_4 u3_6_4).bind fun t14 => (bif (t13 != t14) then (some (false)) else ((m42 a0_0 a0_1 a0_2 a0_3 v79_3).bind fun t16 => ((m42 (IntKind.wrap .i64 (a0_0 * (IntKind.wrap .i64 ((1 : Int) + (IntKind.wrap .i64 (Int.tmod a2 (20 : Int))))))) (IntKind.wrap .i64 (a0_1 * (IntKind.wrap .i64 ((1 : Int) + (IntKind.wrap .i64 (Int.tmod a2 (20 : Int))))))) a0_2 (IntKind.wrap .i64 (a0_3 * (IntKind.wrap .i64 ((1 : Int) + (IntKind.wrap .i64 (Int.tmod a2 (20 : Int))))))) v79_3).bind fun t17 => (bif ((IntKind.wrap .i64 (t16 * (IntKind.wrap .i64 ((1 : Int) + (IntKind.wrap .i64 (Int.tmod a2 (20 : Int))))))) != t17) then (some (false)) else ((m43 a0_0 a0_1 a0_2 a0_3 v79_3).bind fun t19 => ((m43 (IntKind.wrap .i64 (a0_0 * (IntKind.wrap .i64 ((1 : Int) + (IntKind.wrap .i64 (Int.tmod a2 (20 : Int))))))) (IntKind.wrap .i64 (a0_1 * (IntKind.wrap .i64 ((1 : Int) + (IntKind.wrap .i64 (Int.tmod a2 (20 : Int))))))) a0_2 (IntKind.wrap .i64 (a0_3 * (IntKind.wrap .i64 ((1 : Int) + (IntKind.wrap .i64 (Int.tmod a2 (20 : Int))))))) v79_3).bind fun t20 => (bif ((IntKind.wrap .i64 (t19 * (IntKind.wrap .i64 ((1 : Int) + (IntKind.wrap .i64 (Int.tmod a2 (20 : Int))))))) != t20) then (some (false)) else (nx2 (IntKind.wrap .i64 (v79_3 + (1 : Int))) u2_4_4 u2_5_4 u2_6_4 u3_4_4 u3_5_4 u3_6_4)))))))))))))
def m5_l2 (a0_0 : Int) (a0_1 : Int) (a0_2 : Int) (a0_3 : Int) (a1 : List Bt) (a2 : Int) (t4 : (Int × Int × Int × Int × Int × Int × Bool × Int)) (t5 : (Int × Int × Int × Int × Int × Int × Bool × Int)) : Nat → Int → Int → Int → Bool → Int → Int → Bool → Option Bool
  | 0, _, _, _, _, _, _, _ => none
  | k + 1, v79_3, u2_4_3, u2_5_3, u2_6_3, u3_4_3, u3_5_3, u3_6_3 => (bif (decide (v79_3 < (a1.length : Int))) then (bif (decide (0 ≤ v79_3 ∧ v79_3 < (a1.length : Int))) then (bif (a1.getD (v79_3).toNat default).start then ((m38 t4.1 t4.2.1 t4.2.2.1 t4.2.2.2.1 u2_4_3 u2_5_3 u2_6_3 (IntKind.wrap .i64 ((a1.getD (v79_3).toNat default).now))).bind fun t23 => ((m38 t5.1 t5.2.1 t5.2.2.1 t5.2.2.2.1 u3_4_3 u3_5_3 u3_6_3 (IntKind.wrap .i64 ((IntKind.wrap .i64 ((a1.getD (v79_3).toNat default).now)) * (IntKind.wrap .i64 ((1 : Int) + (IntKind.wrap .i64 (Int.tmod a2 (20 : Int)))))))).bind fun t24 => (bif (t23.1 != t24.1) then (some (false)) else (m5_j3 (m5_l2 a0_0 a0_1 a0_2 a0_3 a1 a2 t4 t5 k) a0_0 a0_1 a0_2 a0_3 a2 t4 t5 v79_3 t23.2 u2_5_3 u2_6_3 t24.2 u3_5_3 u3_6_3)))) else ((m39 t4.1 t4.2.1 t4.2.2.1 t4.2.2.2.1 u2_4_3 u2_5_3 u2_6_3 (IntKind.wrap .i64 ((a1.getD (v79_3).toNat default).now))).bind fun t26 => ((m39 t5.1 t5.2.1 t5.2.2.1 t5.2.2.2.1 u3_4_3 u3_5_3 u3_6_3 (IntKind.wrap .i64 ((IntKind.wrap .i64 ((a1.getD (v79_3).toNat default).now)) * (IntKind.wrap .i64 ((1 : Int) + (IntKind.wrap .i64 (Int.tmod a2 (20 : Int)))))))).bind fun t27 => (bif (t26.2.1 != t27.2.1) then (some (false)) else (bif ((IntKind.wrap .i64 (t26.1 * (IntKind.wrap .i64 ((1 : Int) + (IntKind.wrap .i64 (Int.tmod a2 (20 : Int))))))) != t27.1) then (some (false)) else (m5_j3 (m5_l2 a0_0 a0_1 a0_2 a0_3 a1 a2 t4 t5 k) a0_0 a0_1 a0_2 a0_3 a2 t4 t5 v79_3 u2_4_3 t26.2.2.1 t26.2.2.2 u3_4_3 t27.2.2.1 t27.2.2.2)))))) else none) else (some (true)))
def m5_j1 (a0_0 : Int) (a0_1 : Int) (a0_2 : Int) (a0_3 : Int) (a1 : List Bt) (a2 : Int) (t4 : (Int × Int × Int × Int × Int × Int × Bool × Int)) (t5 : (Int × Int × Int × Int × Int × Int × Bool × Int)) (v76_2 : Bool) : Option Bool := (bif v76_2 then (some (false)) else (m5_l2 a0_0 a0_1 a0_2 a0_3 a1 a2 t4 t5 FUEL (0 : Int) t4.2.2.2.2.1 t4.2.2.2.2.2.1 t4.2.2.2.2.2.2.1 t5.2.2.2.2.1 t5.2.2.2.2.2.1 t5.2.2.2.2.2.2.1))
def m5_j0 (a0_0 : Int) (a0_1 : Int) (a0_2 : Int) (a0_3 : Int) (a1 : List Bt) (a2 : Int) (v52_1 : Bool) : Option Bool := (bif v52_1 then (some (true)) else ((m37 a0_0 a0_1 a0_2 a0_3).bind fun t4 => ((m37 (IntKind.wrap .i64 (a0_0 * (IntKind.wrap .i64 ((1 : Int) + (IntKind.wrap .i64 (Int.tmod a2 (20 : Int))))))) (IntKind.wrap .i64 (a0_1 * (IntKind.wrap .i64 ((1 : Int) + (IntKind.wrap .i64 (Int.tmod a2 (20 : Int))))))) a0_2 (IntKind.wrap .i64 (a0_3 * (IntKind.wrap .i64 ((1 : Int) + (IntKind.wrap .i64 (Int.tmod a2 (20 : Int)))))))).bind fun t5 => (bif (t4.2.2.2.2.2.2.2 != (0 : Int)) then (m5_j1 a0_0 a0_1 a0_2 a0_3 a1 a2 t4 t5 true) else (bif (t5.2.2.2.2.2.2.2 != (0 : Int)) then (m5_j1 a0_0 a0_1 a0_2 a0_3 a1 a2 t4 t5 true) else (m5_j1 a0_0 a0_1 a0_2 a0_3 a1 a2 t4 t5 false))))))
def m5 (a0_0 : Int) (a0_1 : Int) (a0_2 : Int) (a0_3 : Int) (a1 : List Bt) (a2 : Int) : Option Bool :=
  (m14.bind fun t1 => (bif (!t1) then (some (false)) else (bif (decide ((100 : Int) < (a1.length : Int))) then (m5_j0 a0_0 a0_1 a0_2 a0_3 a1 a2 true) else ((m36 a0_0 a0_1 a0_2 a0_3).bind fun t33 => (bif (!t33) then (m5_j0 a0_0 a0_1 a0_2 a0_3 a1 a2 true) else ((m36 (IntKind.wrap .i64 (a0_0 * (IntKind.wrap .i64 ((1 : Int) + (IntKind.wrap .i64 (Int.tmod a2 (20 : Int))))))) (IntKind.wrap .i64 (a0_1 * (IntKind.wrap .i64 ((1 : Int) + (IntKind.wrap .i64 (Int.tmod a2 (20 : Int))))))) a0_2 (IntKind.wrap .i64 (a0_3 * (IntKind.wrap .i64 ((1 : Int) + (IntKind.wrap .i64 (Int.tmod a2 (20 : Int)))))))).bind fun t35 => (m5_j0 a0_0 a0_1 a0_2 a0_3 a1 a2 (!t35))))))))
set_option maxHeartbeats 20000000 in
set_option maxRecDepth 100000 in
theorem c5 : ∀ {H0 : Hp} {w0 : World} {a0_0 : Int} {a0_1 : Int} {a0_2 : Int} {a0_3 : Int} {a1 : List Bt} {a2 : Int} {aa1 : Option Addr} {ca1 : Nat}  (_ : Imm H0 w0) (_ : GT H0) (_ : Sl cBt H0 aa1 ca1 a1) {r : Bool} (_ : m5 a0_0 a0_1 a0_2 a0_3 a1 a2 = some r), Ct Tryz.prog 5 [.agg (List.toArray [.int .i64 a0_0, .int .i64 a0_1, .int .i64 a0_2, .int .i64 a0_3]), .slice aa1 (List.length a1) ca1, .int .u8 a2] [] H0 w0 fun v H' w' => v = .bool r := by
  intro H0 w0 a0_0 a0_1 a0_2 a0_3 a1 a2 aa1 ca1  hI hG ha1 r hm
  have hL := L.start hI
  refine ct_of Tryz.func5 rfl Tryz.ntmps5 rfl (Nat.le_of_ble_eq_true rfl) ?_
  unfold m5 at hm
  refine sr ?_
  refine wl rfl (o_box 0 (c := [_, _, _, _]) hL rfl rfl fun b0 w hL => ?_)
  refine sv (r_assign rfl) <| wt <| wp_seq <| sr ?_
  obtain ⟨t1, ht1, hm⟩ := bnd hm
  refine wl rfl (o_call0 hL fn_14 rfl (c14 hL.imm hG ht1) fun v H w hlet1 hL hR => ?_)
  replace hG := GT.mono hlet1 hG
  replace ha1 := Sl.mono hlet1 ha1
  obtain rfl := hR
  refine sv (r_not rfl) <| wt ?_
  refine c_if hm rfl (fun hg2 hm => ?_) (fun hg2 hm => ?_)
  · refine sr <| sv (r_assign rfl) <| wt <| wp_ret <| then_r ?_
    obtain rfl := ends hm
    exact rt rfl (.tmp rfl .nil) ⟨_, _, rfl, hL.ext, rfl⟩
  · refine wp_skip <| then_n <| sr <| sv (r_move rfl) <| sv (r_rem rfl rfl rfl) <| sv (r_convI Tryz.underlying5 Tryz.underlying3 rfl) <| sv (r_add rfl rfl) <| sv (r_assign rfl) <| wt <| sr <| sv (r_fieldAddr fl_70_0 rfl) <| sv (r_load1 (hL.own 0 _ rfl) sc_3 rfl rfl) <| sv (r_move rfl) <| sv (r_mul rfl rfl) <| sv (r_fieldAddr fl_70_1 rfl) <| sv (r_load1 (hL.own 0 _ rfl) sc_3 rfl rfl) <| sv (r_move rfl) <| sv (r_mul rfl rfl) <| sv (r_fieldAddr fl_70_2 rfl) <| sv (r_load1 (hL.own 0 _ rfl) sc_3 rfl rfl) <| sv (r_fieldAddr fl_70_3 rfl) <| sv (r_load1 (hL.own 0 _ rfl) sc_3 rfl rfl) <| sv (r_move rfl) <| sv (r_mul rfl rfl) <| sv (r_build ze_70 st_70 rfl (.cons rfl (.cons rfl (.cons rfl (.cons rfl .nil)))) (cs := [_, _, _, _]) rfl) ?_
    refine wl rfl (o_alloc 1 (c := [_, _, _, _]) hL ze_70 rfl fun b1 w hL => ?_)
    refine wl rfl (o_storek (i := 1) (vs := [_, _, _, _]) hL ag_70 rfl rfl rfl rfl (Nat.le_of_ble_eq_true rfl) (List.forall_mem_cons.2 ⟨rfl, (List.forall_mem_cons.2 ⟨rfl, (List.forall_mem_cons.2 ⟨rfl, (List.forall_mem_cons.2 ⟨rfl, List.forall_mem_nil _⟩)⟩)⟩)⟩) (c' := _ :: _ :: _ :: _ :: []) rfl fun w hL => ?_)
    refine wt <| wp_seq ?_
    refine w_join (fun a w => ∃ (v52_1 : Bool) (l : List (Nat × Value)) (H : Hp), a = fr 162 ([(1, .slice aa1 (List.length a1) ca1), (3, .pointer (some ⟨b0, 0, none⟩)), (6, .bool false), (7, .int .i64 (IntKind.wrap .i64 ((1 : Int) + (IntKind.wrap .i64 (Int.tmod a2 (20 : Int)))))), (8, .pointer (some ⟨b1, 0, none⟩)), (52, .bool v52_1)] ++ l) [] ∧ L [] H0 w0 [(0, .cel b0 ((.int .i64 a0_0) :: (.int .i64 a0_1) :: (.int .i64 a0_2) :: (.int .i64 a0_3) :: []) 70), (1, .cel b1 ((.int .i64 (IntKind.wrap .i64 (a0_0 * (IntKind.wrap .i64 ((1 : Int) + (IntKind.wrap .i64 (Int.tmod a2 (20 : Int)))))))) :: (.int .i64 (IntKind.wrap .i64 (a0_1 * (IntKind.wrap .i64 ((1 : Int) + (IntKind.wrap .i64 (Int.tmod a2 (20 : Int)))))))) :: (.int .i64 a0_2) :: (.int .i64 (IntKind.wrap .i64 (a0_3 * (IntKind.wrap .i64 ((1 : Int) + (IntKind.wrap .i64 (Int.tmod a2 (20 : Int)))))))) :: []) 70)] H w ∧ GT H ∧ Sl cBt H aa1 ca1 a1 ∧ (m5_j0 a0_0 a0_1 a0_2 a0_3 a1 a2 v52_1) = some r) (fun a w hj => ?_) ?_
    · obtain ⟨v52_1, l, H, rfl, hL, hG, ha1, hm⟩ := hj
      unfold m5_j0 at hm
      refine c_if hm rfl (fun hg3 hm => ?_) (fun hg3 hm => ?_)
      · refine sr <| sv (r_assign rfl) <| wt <| wp_ret <| then_r ?_
        obtain rfl := ends hm
        exact rt rfl (.tmp rfl .nil) ⟨_, _, rfl, hL.ext, rfl⟩
      · refine wp_skip <| then_n <| sr <| sv (r_loadk (hL.own 0 _ rfl) ag_70 rfl (vs := [_, _, _, _]) rfl rfl) ?_
        obtain ⟨t4, ht4, hm⟩ := bnd hm
        have hL := hL.room 2
        refine wl rfl (o_callE 2 hL fn_37 rfl rfl (c37 hL.imm ht4) fun b2 v H w hlet4 hL hR => ?_)
        try dsimp only at hL hR
        replace hG := GT.mono hlet4 hG
        replace ha1 := Sl.mono hlet4 ha1
        obtain rfl := hR
        refine sv (r_move rfl) <| sv (r_extract rfl rfl) <| sv (r_extract rfl rfl) <| sv (r_assign rfl) <| sv (r_assign rfl) <| wt <| sr <| sv (r_loadk (hL.own 1 _ rfl) ag_70 rfl (vs := [_, _, _, _]) rfl rfl) ?_
        obtain ⟨t5, ht5, hm⟩ := bnd hm
        have hL := hL.room 3
        refine wl rfl (o_callE 3 hL fn_37 rfl rfl (c37 hL.imm ht5) fun b3 v H w hlet5 hL hR => ?_)
        try dsimp only at hL hR
        replace hG := GT.mono hlet5 hG
        replace ha1 := Sl.mono hlet5 ha1
        obtain rfl := hR
        refine sv (r_move rfl) <| sv (r_extract rfl rfl) <| sv (r_extract rfl rfl) <| sv (r_assign rfl) <| sv (r_assign rfl) <| wt <| wp_seq ?_
        refine w_join (fun a w => ∃ (v76_2 : Bool) (l : List (Nat × Value)) (H : Hp), a = fr 162 ([(1, .slice aa1 (List.length a1) ca1), (3, .pointer (some ⟨b0, 0, none⟩)), (6, .bool false), (7, .int .i64 (IntKind.wrap .i64 ((1 : Int) + (IntKind.wrap .i64 (Int.tmod a2 (20 : Int)))))), (8, .pointer (some ⟨b1, 0, none⟩)), (9, .pointer (some ⟨b2, 0, none⟩)), (11, .pointer (some ⟨b3, 0, none⟩)), (76, .bool v76_2)] ++ l) [] ∧ L [] H0 w0 [(0, .cel b0 ((.int .i64 a0_0) :: (.int .i64 a0_1) :: (.int .i64 a0_2) :: (.int .i64 a0_3) :: []) 70), (1, .cel b1 ((.int .i64 (IntKind.wrap .i64 (a0_0 * (IntKind.wrap .i64 ((1 : Int) + (IntKind.wrap .i64 (Int.tmod a2 (20 : Int)))))))) :: (.int .i64 (IntKind.wrap .i64 (a0_1 * (IntKind.wrap .i64 ((1 : Int) + (IntKind.wrap .i64 (Int.tmod a2 (20 : Int)))))))) :: (.int .i64 a0_2) :: (.int .i64 (IntKind.wrap .i64 (a0_3 * (IntKind.wrap .i64 ((1 : Int) + (IntKind.wrap .i64 (Int.tmod a2 (20 : Int)))))))) :: []) 70), (2, .cel b2 ((.int .i64 t4.1) :: (.int .i64 t4.2.1) :: (.int .i64 t4.2.2.1) :: (.int .i64 t4.2.2.2.1) :: (.int .i64 t4.2.2.2.2.1) :: (.int .i64 t4.2.2.2.2.2.1) :: (.bool t4.2.2.2.2.2.2.1) :: []) 186), (3, .cel b3 ((.int .i64 t5.1) :: (.int .i64 t5.2.1) :: (.int .i64 t5.2.2.1) :: (.int .i64 t5.2.2.2.1) :: (.int .i64 t5.2.2.2.2.1) :: (.int .i64 t5.2.2.2.2.2.1) :: (.bool t5.2.2.2.2.2.2.1) :: []) 186)] H w ∧ GT H ∧ Sl cBt H aa1 ca1 a1 ∧ (m5_j1 a0_0 a0_1 a0_2 a0_3 a1 a2 t4 t5 v76_2) = some r) (fun a w hj => ?_) ?_
        · obtain ⟨v76_2, l, H, rfl, hL, hG, ha1, hm⟩ := hj
          unfold m5_j1 at hm
          refine c_if hm rfl (fun hg6 hm => ?_) (fun hg6 hm => ?_)
          · refine sr <| sv (r_assign rfl) <| wt <| wp_ret <| then_r ?_
            obtain rfl := ends hm
            exact rt rfl (.tmp rfl .nil) ⟨_, _, rfl, hL.ext, rfl⟩
          · refine wp_skip <| then_n <| wp_seq <| sr <| sv (r_move rfl) <| sv (r_lenS rfl Tryz.underlying71 rfl) <| sv (r_move rfl) <| wt <| wp_block <| wp_loop_fuel (k := FUEL) (fun k a w => ∃ (v79_3 : Int) (u2_4_3 : Int) (u2_5_3 : Int) (u2_6_3 : Bool) (u3_4_3 : Int) (u3_5_3 : Int) (u3_6_3 : Bool) (l : List (Nat × Value)) (H : Hp), a = fr 162 ([(3, .pointer (some ⟨b0, 0, none⟩)), (6, .bool false), (7, .int .i64 (IntKind.wrap .i64 ((1 : Int) + (IntKind.wrap .i64 (Int.tmod a2 (20 : Int)))))), (8, .pointer (some ⟨b1, 0, none⟩)), (9, .pointer (some ⟨b2, 0, none⟩)), (11, .pointer (some ⟨b3, 0, none⟩)), (77, .slice aa1 (List.length a1) ca1), (78, .int .i64 (a1.length : Int)), (79, .int .i64 v79_3)] ++ l) [] ∧ L [] H0 w0 [(0, .cel b0 ((.int .i64 a0_0) :: (.int .i64 a0_1) :: (.int .i64 a0_2) :: (.int .i64 a0_3) :: []) 70), (1, .cel b1 ((.int .i64 (IntKind.wrap .i64 (a0_0 * (IntKind.wrap .i64 ((1 : Int) + (IntKind.wrap .i64 (Int.tmod a2 (20 : Int)))))))) :: (.int .i64 (IntKind.wrap .i64 (a0_1 * (IntKind.wrap .i64 ((1 : Int) + (IntKind.wrap .i64 (Int.tmod a2 (20 : Int)))))))) :: (.int .i64 a0_2) :: (.int .i64 (IntKind.wrap .i64 (a0_3 * (IntKind.wrap .i64 ((1 : Int) + (IntKind.wrap .i64 (Int.tmod a2 (20 : Int)))))))) :: []) 70), (2, .cel b2 ((.int .i64 t4.1) :: (.int .i64 t4.2.1) :: (.int .i64 t4.2.2.1) :: (.int .i64 t4.2.2.2.1) :: (.int .i64 u2_4_3) :: (.int .i64 u2_5_3) :: (.bool u2_6_3) :: []) 186), (3, .cel b3 ((.int .i64 t5.1) :: (.int .i64 t5.2.1) :: (.int .i64 t5.2.2.1) :: (.int .i64 t5.2.2.2.1) :: (.int .i64 u3_4_3) :: (.int .i64 u3_5_3) :: (.bool u3_6_3) :: []) 186)] H w ∧ GT H ∧ Sl cBt H aa1 ca1 a1 ∧ (m5_l2 a0_0 a0_1 a0_2 a0_3 a1 a2 t4 t5 k v79_3 u2_4_3 u2_5_3 u2_6_3 u3_4_3 u3_5_3 u3_6_3) = some r) ⟨_, _, _, _, _, _, _, _, _, fr_pre _ rfl, hL.pick _ rfl, hG, ha1, hm⟩ ?_
            rintro k2 a w ⟨v79_3, u2_4_3, u2_5_3, u2_6_3, u3_4_3, u3_5_3, u3_6_3, l, H, rfl, hL, hG, ha1, hm⟩
            cases k2 with
            | zero => rw [m5_l2.eq_1] at hm; cases hm
            | succ k2 =>
              rw [m5_l2.eq_2] at hm
              refine sr <| sv (r_lss rfl rfl) <| wt <| wp_seq ?_
              refine c_if hm rfl (fun hg7 hm => ?_) (fun hg7 hm => ?_)
              · refine wp_skip <| then_n <| wp_seq <| wp_block <| sr <| sv (r_move rfl) ?_
                obtain ⟨hg9, hm⟩ := grd hm
                obtain ⟨be8, oe8, _, hae8, hce8, rfl⟩ := Sl.at ha1 default hg9
                refine sv (r_indexAddr el_71 hg9 hae8 rfl rfl) <| sv (r_loadHk hL.imm ag_77 rfl (vs := [_, _]) hce8 rfl) ?_
                refine wl rfl (o_alloc 4 (c := [_, _]) hL ze_77 rfl fun b4 w hL => ?_)
                refine sv (r_assign rfl) ?_
                refine wl rfl (o_storek (i := 4) (vs := [_, _]) hL ag_77 rfl rfl rfl rfl (Nat.le_of_ble_eq_true rfl) (List.forall_mem_cons.2 ⟨rfl, (List.forall_mem_cons.2 ⟨rfl, List.forall_mem_nil _⟩)⟩) (c' := _ :: _ :: []) rfl fun w hL => ?_)
                refine wt ?_
                refine w_join (fun a w => ∃ (u2_4_4 : Int) (u2_5_4 : Int) (u2_6_4 : Bool) (u3_4_4 : Int) (u3_5_4 : Int) (u3_6_4 : Bool) (l : List (Nat × Value)) (H : Hp), a = fr 162 ([(3, .pointer (some ⟨b0, 0, none⟩)), (6, .bool false), (7, .int .i64 (IntKind.wrap .i64 ((1 : Int) + (IntKind.wrap .i64 (Int.tmod a2 (20 : Int)))))), (8, .pointer (some ⟨b1, 0, none⟩)), (9, .pointer (some ⟨b2, 0, none⟩)), (11, .pointer (some ⟨b3, 0, none⟩)), (13, .int .i64 v79_3), (14, .pointer (some ⟨b4, 0, none⟩)), (77, .slice aa1 (List.length a1) ca1), (78, .int .i64 (a1.length : Int)), (79, .int .i64 v79_3), (80, .bool (decide (v79_3 < (a1.length : Int)))), (81, .int .i64 v79_3), (82, .pointer (some ⟨be8, oe8, none⟩)), (83, .agg (List.toArray [.bool ((a1.getD (v79_3).toNat default).start), .int .i32 ((a1.getD (v79_3).toNat default).now)])), (84, .pointer (some ⟨b4, 0, none⟩)), (85, .bool ((a1.getD (v79_3).toNat default).start))] ++ l) [] ∧ L [] H0 w0 [(0, .cel b0 ((.int .i64 a0_0) :: (.int .i64 a0_1) :: (.int .i64 a0_2) :: (.int .i64 a0_3) :: []) 70), (1, .cel b1 ((.int .i64 (IntKind.wrap .i64 (a0_0 * (IntKind.wrap .i64 ((1 : Int) + (IntKind.wrap .i64 (Int.tmod a2 (20 : Int)))))))) :: (.int .i64 (IntKind.wrap .i64 (a0_1 * (IntKind.wrap .i64 ((1 : Int) + (IntKind.wrap .i64 (Int.tmod a2 (20 : Int)))))))) :: (.int .i64 a0_2) :: (.int .i64 (IntKind.wrap .i64 (a0_3 * (IntKind.wrap .i64 ((1 : Int) + (IntKind.wrap .i64 (Int.tmod a2 (20 : Int)))))))) :: []) 70), (2, .cel b2 ((.int .i64 t4.1) :: (.int .i64 t4.2.1) :: (.int .i64 t4.2.2.1) :: (.int .i64 t4.2.2.2.1) :: (.int .i64 u2_4_4) :: (.int .i64 u2_5_4) :: (.bool u2_6_4) :: []) 186), (3, .cel b3 ((.int .i64 t5.1) :: (.int .i64 t5.2.1) :: (.int .i64 t5.2.2.1) :: (.int .i64 t5.2.2.2.1) :: (.int .i64 u3_4_4) :: (.int .i64 u3_5_4) :: (.bool u3_6_4) :: []) 186), (4, .cel b4 ((.bool ((a1.getD (v79_3).toNat default).start)) :: (.int .i32 ((a1.getD (v79_3).toNat default).now)) :: []) 77)] H w ∧ GT H ∧ Sl cBt H aa1 ca1 a1 ∧ HC H be8 oe8 [.bool ((a1.getD (v79_3).toNat default).start), .int .i32 ((a1.getD (v79_3).toNat default).now)] ∧ (m5_j3 (m5_l2 a0_0 a0_1 a0_2 a0_3 a1 a2 t4 t5 k2) a0_0 a0_1 a0_2 a0_3 a2 t4 t5 v79_3 u2_4_4 u2_5_4 u2_6_4 u3_4_4 u3_5_4 u3_6_4) = some r) (fun a w hj => ?_) ?_
                · obtain ⟨u2_4_4, u2_5_4, u2_6_4, u3_4_4, u3_5_4, u3_6_4, l, H, rfl, hL, hG, ha1, hce8, hm⟩ := hj
                  unfold m5_j3 at hm
                  refine wp_seq <| rd hL [0, 1] [_, _] [(0, true), (2, true), (1, false), (3, false), (4, true), (5, true), (6, true), (8, true), (7, false), (9, false), (10, true), (11, true), (12, true), (13, true), (14, true), (16, true), (18, true), (19, true), (15, false), (17, true), (20, false), (21, true), (22, true), (23, true), (24, true), (25, true), (27, true), (29, true), (30, true), (26, false), (28, true), (31, false), (32, true), (33, true)] mixed rfl (by kernel_rfl) fun w hL => dv rfl (fun w hS => r_move rfl) <| dv rfl (fun w hS => r_move rfl) ?_
                  obtain ⟨t10, ht10, hm⟩ := bnd hm
                  refine dh rfl rfl (o_call0 hL fn_40 rfl (c40 hL.imm (hL.own 2 _ rfl) (fun b' hb' => (hL.non 2 _ rfl b' hb').1) ht10) fun v H w hlet10 hL hR => ⟨Sd.of hL ((Hle.refl _).trans hlet10) [0, 1] rfl, ?_⟩)
                  replace hG := GT.mono hlet10 hG
                  replace ha1 := Sl.mono hlet10 ha1
                  replace hce8 := HC.mono hlet10 hce8
                  obtain rfl := hR
                  obtain ⟨t11, ht11, hm⟩ := bnd hm
                  refine dh rfl rfl (o_call0 hL fn_40 rfl (c40 hL.imm (hL.own 3 _ rfl) (fun b' hb' => (hL.non 3 _ rfl b' hb').1) ht11) fun v H w hlet11 hL hR => ⟨Sd.of hL (((Hle.refl _).trans hlet10).trans hlet11) [0, 1] rfl, ?_⟩)
                  replace hG := GT.mono hlet11 hG
                  replace ha1 := Sl.mono hlet11 ha1
                  replace hce8 := HC.mono hlet11 hce8
                  obtain rfl := hR
                  refine dv rfl (fun w hS => r_nei rfl rfl) <| dv rfl (fun w hS => r_move rfl) ?_
                  refine m_if hm (fun hg12 hm => ?_) (fun hg12 hm => ?_)
                  · refine dvF rfl rfl rfl rfl hg12 <| dvF rfl rfl rfl rfl hg12 <| dhF rfl rfl rfl rfl rfl hg12 rfl (Sd.of hL (((Hle.refl _).trans hlet10).trans hlet11) [0, 1] rfl) <| dhF rfl rfl rfl rfl rfl hg12 rfl (Sd.of hL (((Hle.refl _).trans hlet10).trans hlet11) [0, 1] rfl) <| dvF rfl rfl rfl rfl hg12 <| dv rfl (fun w hS => r_pickT hg12 rfl rfl) <| dv rfl (fun w hS => r_move rfl) <| dvF rfl rfl rfl rfl rfl <| dvF rfl rfl rfl rfl rfl <| dvF rfl rfl rfl rfl rfl <| dvF rfl rfl rfl rfl rfl <| dvF rfl rfl rfl rfl rfl <| dhF rfl rfl rfl rfl rfl rfl rfl (Sd.of hL (((Hle.refl _).trans hlet10).trans hlet11) [0, 1] rfl) <| dvF rfl rfl rfl rfl rfl <| dhF rfl rfl rfl rfl rfl rfl rfl (Sd.of hL (((Hle.refl _).trans hlet10).trans hlet11) [0, 1] rfl) <| dvF rfl rfl rfl rfl rfl <| dv rfl (fun w hS => r_pickT rfl rfl rfl) <| dv rfl (fun w hS => r_move rfl) <| dvF rfl rfl rfl rfl rfl <| dvF rfl rfl rfl rfl rfl <| dvF rfl rfl rfl rfl rfl <| dvF rfl rfl rfl rfl rfl <| dvF rfl rfl rfl rfl rfl <| dhF rfl rfl rfl rfl rfl rfl rfl (Sd.of hL (((Hle.refl _).trans hlet10).trans hlet11) [0, 1] rfl) <| dvF rfl rfl rfl rfl rfl <| dhF rfl rfl rfl rfl rfl rfl rfl (Sd.of hL (((Hle.refl _).trans hlet10).trans hlet11) [0, 1] rfl) <| dvF rfl rfl rfl rfl rfl <| dv rfl (fun w hS => r_pickT rfl rfl rfl) <| dn <| then_n ?_
                    refine c_T rfl rfl <| sr <| sv (r_assign rfl) <| wt <| wp_ret <| blk_r <| then_r <| then_r <| blk_r <| then_r ?_
                    obtain rfl := ends hm
                    exact rt rfl (.tmp rfl .nil) ⟨_, _, rfl, hL.ext, rfl⟩
                  · refine dvT rfl rfl rfl rfl hg12 (fun w hS => r_move rfl) <| dvT rfl rfl rfl rfl hg12 (fun w hS => r_move rfl) ?_
                    obtain ⟨t13, ht13, hm⟩ := bnd hm
                    refine dhT rfl rfl rfl rfl rfl hg12 (o_call0 hL fn_41 rfl (c41 hL.imm (hL.own 2 _ rfl) (fun b' hb' => (hL.non 2 _ rfl b' hb').1) ht13) fun v H w hlet13 hL hR => ⟨Sd.of hL ((((Hle.refl _).trans hlet10).trans hlet11).trans hlet13) [0, 1] rfl, ?_⟩)
                    replace hG := GT.mono hlet13 hG
                    replace ha1 := Sl.mono hlet13 ha1
                    replace hce8 := HC.mono hlet13 hce8
                    obtain rfl := hR
                    obtain ⟨t14, ht14, hm⟩ := bnd hm
                    refine dhT rfl rfl rfl rfl rfl hg12 (o_call0 hL fn_41 rfl (c41 hL.imm (hL.own 3 _ rfl) (fun b' hb' => (hL.non 3 _ rfl b' hb').1) ht14) fun v H w hlet14 hL hR => ⟨Sd.of hL (((((Hle.refl _).trans hlet10).trans hlet11).trans hlet13).trans hlet14) [0, 1] rfl, ?_⟩)
                    replace hG := GT.mono hlet14 hG
                    replace ha1 := Sl.mono hlet14 ha1
                    replace hce8 := HC.mono hlet14 hce8
                    obtain rfl := hR
                    refine dvT rfl rfl rfl rfl hg12 (fun w hS => r_neb Tryz.underlying4 rfl rfl) <| dv rfl (fun w hS => r_pickF hg12 rfl rfl) <| dv rfl (fun w hS => r_move rfl) ?_
                    refine m_if hm (fun hg15 hm => ?_) (fun hg15 hm => ?_)
                    · refine dvF rfl rfl rfl rfl hg15 <| dvF rfl rfl rfl rfl hg15 <| dvF rfl rfl rfl rfl hg15 <| dvF rfl rfl rfl rfl hg15 <| dvF rfl rfl rfl rfl hg15 <| dhF rfl rfl rfl rfl rfl hg15 rfl (Sd.of hL (((((Hle.refl _).trans hlet10).trans hlet11).trans hlet13).trans hlet14) [0, 1] rfl) <| dvF rfl rfl rfl rfl hg15 <| dhF rfl rfl rfl rfl rfl hg15 rfl (Sd.of hL (((((Hle.refl _).trans hlet10).trans hlet11).trans hlet13).trans hlet14) [0, 1] rfl) <| dvF rfl rfl rfl rfl hg15 <| dv rfl (fun w hS => r_pickT hg15 rfl rfl) <| dv rfl (fun w hS => r_move rfl) <| dvF rfl rfl rfl rfl rfl <| dvF rfl rfl rfl rfl rfl <| dvF rfl rfl rfl rfl rfl <| dvF rfl rfl rfl rfl rfl <| dvF rfl rfl rfl rfl rfl <| dhF rfl rfl rfl rfl rfl rfl rfl (Sd.of hL (((((Hle.refl _).trans hlet10).trans hlet11).trans hlet13).trans hlet14) [0, 1] rfl) <| dvF rfl rfl rfl rfl rfl <| dhF rfl rfl rfl rfl rfl rfl rfl (Sd.of hL (((((Hle.refl _).trans hlet10).trans hlet11).trans hlet13).trans hlet14) [0, 1] rfl) <| dvF rfl rfl rfl rfl rfl <| dv rfl (fun w hS => r_pickT rfl rfl rfl) <| dn <| then_n <| c_T rfl rfl <| sr <| sv (r_assign rfl) <| wt <| wp_ret ?_
                      refine blk_r <| then_r <| then_r <| blk_r <| then_r ?_
                      obtain rfl := ends hm
                      exact rt rfl (.tmp rfl .nil) ⟨_, _, rfl, hL.ext, rfl⟩
                    · refine dvT rfl rfl rfl rfl hg15 (fun w hS => r_loadk hS.2.1 ag_70 rfl (vs := [_, _, _, _]) rfl rfl) <| dvT rfl rfl rfl rfl hg15 (fun w hS => r_move rfl) <| dvT rfl rfl rfl rfl hg15 (fun w hS => r_move rfl) <| dvT rfl rfl rfl rfl hg15 (fun w hS => r_loadk hS.2.2.1 ag_70 rfl (vs := [_, _, _, _]) rfl rfl) <| dvT rfl rfl rfl rfl hg15 (fun w hS => r_move rfl) ?_
                      obtain ⟨t16, ht16, hm⟩ := bnd hm
                      refine dhT rfl rfl rfl rfl rfl hg15 (o_call0 hL fn_42 rfl (c42 hL.imm ht16) fun v H w hlet16 hL hR => ⟨Sd.of hL ((((((Hle.refl _).trans hlet10).trans hlet11).trans hlet13).trans hlet14).trans hlet16) [0, 1] rfl, ?_⟩)
                      replace hG := GT.mono hlet16 hG
                      replace ha1 := Sl.mono hlet16 ha1
                      replace hce8 := HC.mono hlet16 hce8
                      obtain rfl := hR
                      refine dvT rfl rfl rfl rfl hg15 (fun w hS => r_mul rfl rfl) ?_
                      obtain ⟨t17, ht17, hm⟩ := bnd hm
                      refine dhT rfl rfl rfl rfl rfl hg15 (o_call0 hL fn_42 rfl (c42 hL.imm ht17) fun v H w hlet17 hL hR => ⟨Sd.of hL (((((((Hle.refl _).trans hlet10).trans hlet11).trans hlet13).trans hlet14).trans hlet16).trans hlet17) [0, 1] rfl, ?_⟩)
                      replace hG := GT.mono hlet17 hG
                      replace ha1 := Sl.mono hlet17 ha1
                      replace hce8 := HC.mono hlet17 hce8
                      obtain rfl := hR
                      refine dvT rfl rfl rfl rfl hg15 (fun w hS => r_nei rfl rfl) <| dv rfl (fun w hS => r_pickF hg15 rfl rfl) <| dv rfl (fun w hS => r_move rfl) ?_
                      refine m_if hm (fun hg18 hm => ?_) (fun hg18 hm => ?_)
                      · refine dvF rfl rfl rfl rfl hg18 <| dvF rfl rfl rfl rfl hg18 <| dvF rfl rfl rfl rfl hg18 <| dvF rfl rfl rfl rfl hg18 <| dvF rfl rfl rfl rfl hg18 <| dhF rfl rfl rfl rfl rfl hg18 rfl (Sd.of hL (((((((Hle.refl _).trans hlet10).trans hlet11).trans hlet13).trans hlet14).trans hlet16).trans hlet17) [0, 1] rfl) <| dvF rfl rfl rfl rfl hg18 <| dhF rfl rfl rfl rfl rfl hg18 rfl (Sd.of hL (((((((Hle.refl _).trans hlet10).trans hlet11).trans hlet13).trans hlet14).trans hlet16).trans hlet17) [0, 1] rfl) <| dvF rfl rfl rfl rfl hg18 <| dv rfl (fun w hS => r_pickT hg18 rfl rfl) <| dn <| then_n <| c_T rfl rfl <| sr <| sv (r_assign rfl) <| wt <| wp_ret <| blk_r <| then_r <| then_r <| blk_r <| then_r ?_
                        obtain rfl := ends hm
                        exact rt rfl (.tmp rfl .nil) ⟨_, _, rfl, hL.ext, rfl⟩
                      · refine dvT rfl rfl rfl rfl hg18 (fun w hS => r_loadk hS.2.1 ag_70 rfl (vs := [_, _, _, _]) rfl rfl) <| dvT rfl rfl rfl rfl hg18 (fun w hS => r_move rfl) <| dvT rfl rfl rfl rfl hg18 (fun w hS => r_move rfl) <| dvT rfl rfl rfl rfl hg18 (fun w hS => r_loadk hS.2.2.1 ag_70 rfl (vs := [_, _, _, _]) rfl rfl) <| dvT rfl rfl rfl rfl hg18 (fun w hS => r_move rfl) ?_
                        obtain ⟨t19, ht19, hm⟩ := bnd hm
                        refine dhT rfl rfl rfl rfl rfl hg18 (o_call0 hL fn_43 rfl (c43 hL.imm ht19) fun v H w hlet19 hL hR => ⟨Sd.of hL ((((((((Hle.refl _).trans hlet10).trans hlet11).trans hlet13).trans hlet14).trans hlet16).trans hlet17).trans hlet19) [0, 1] rfl, ?_⟩)
                        replace hG := GT.mono hlet19 hG
                        replace ha1 := Sl.mono hlet19 ha1
                        replace hce8 := HC.mono hlet19 hce8
                        obtain rfl := hR
                        refine dvT rfl rfl rfl rfl hg18 (fun w hS => r_mul rfl rfl) ?_
                        obtain ⟨t20, ht20, hm⟩ := bnd hm
                        refine dhT rfl rfl rfl rfl rfl hg18 (o_call0 hL fn_43 rfl (c43 hL.imm ht20) fun v H w hlet20 hL hR => ⟨Sd.of hL (((((((((Hle.refl _).trans hlet10).trans hlet11).trans hlet13).trans hlet14).trans hlet16).trans hlet17).trans hlet19).trans hlet20) [0, 1] rfl, ?_⟩)
                        replace hG := GT.mono hlet20 hG
                        replace ha1 := Sl.mono hlet20 ha1
                        replace hce8 := HC.mono hlet20 hce8
                        obtain rfl := hR
                        refine dvT rfl rfl rfl rfl hg18 (fun w hS => r_nei rfl rfl) <| dv rfl (fun w hS => r_pickF hg18 rfl rfl) <| dn <| then_n ?_
                        refine c_if hm rfl (fun hg21 hm => ?_) (fun hg21 hm => ?_)
                        · refine sr <| sv (r_assign rfl) <| wt <| wp_ret <| blk_r <| then_r <| then_r <| blk_r <| then_r ?_
                          obtain rfl := ends hm
                          exact rt rfl (.tmp rfl .nil) ⟨_, _, rfl, hL.ext, rfl⟩
                        · refine wp_skip <| blk_n <| then_n <| rg <| sv (r_add rfl rfl) <| sv (r_move rfl) <| wt ?_
                          exact ⟨k2, Nat.lt_succ_self k2, _, _, _, _, _, _, _, _, _, fr_pre _ rfl, hL.pick _ rfl, hG, ha1, hm⟩
                · refine sr <| sv (r_fieldAddr fl_77_0 rfl) <| sv (r_load1 (hL.own 4 _ rfl) sc_4 rfl rfl) <| wt ?_
                  refine c_if hm rfl (fun hg22 hm => ?_) (fun hg22 hm => ?_)
                  · refine wp_seq <| rd hL [4] [_] [(0, true), (1, true), (2, true), (3, true), (5, true), (6, true), (7, true), (8, true), (9, true), (10, true), (4, false), (11, false), (12, true)] mixed rfl (by kernel_rfl) fun w hL => dv rfl (fun w hS => r_move rfl) <| dv rfl (fun w hS => r_fieldAddr fl_77_1 rfl) <| dv rfl (fun w hS => r_load1 hS.2.1 sc_21 rfl rfl) <| dv rfl (fun w hS => r_convI Tryz.underlying21 Tryz.underlying3 rfl) <| dv rfl (fun w hS => r_move rfl) <| dv rfl (fun w hS => r_fieldAddr fl_77_1 rfl) <| dv rfl (fun w hS => r_load1 hS.2.1 sc_21 rfl rfl) <| dv rfl (fun w hS => r_convI Tryz.underlying21 Tryz.underlying3 rfl) <| dv rfl (fun w hS => r_move rfl) <| dv rfl (fun w hS => r_mul rfl rfl) ?_
                    obtain ⟨t23, ht23, hm⟩ := bnd hm
                    refine dh rfl rfl (o_call1 2 hL fn_38 rfl rfl (c38 hL.imm (hL.own 2 _ rfl) (fun b' hb' => (hL.non 2 _ rfl b' hb').1) ht23) fun v H w hlet23 hL hR => ⟨Sd.of hL ((Hle.refl _).trans hlet23) [4] rfl, ?_⟩)
                    replace hG := GT.mono hlet23 hG
                    replace ha1 := Sl.mono hlet23 ha1
                    replace hce8 := HC.mono hlet23 hce8
                    obtain rfl := hR
                    obtain ⟨t24, ht24, hm⟩ := bnd hm
                    refine dh rfl rfl (o_call1 3 hL fn_38 rfl rfl (c38 hL.imm (hL.own 3 _ rfl) (fun b' hb' => (hL.non 3 _ rfl b' hb').1) ht24) fun v H w hlet24 hL hR => ⟨Sd.of hL (((Hle.refl _).trans hlet23).trans hlet24) [4] rfl, ?_⟩)
                    replace hG := GT.mono hlet24 hG
                    replace ha1 := Sl.mono hlet24 ha1
                    replace hce8 := HC.mono hlet24 hce8
                    obtain rfl := hR
                    refine dv rfl (fun w hS => r_nei rfl rfl) <| dn <| then_n ?_
                    refine c_if hm rfl (fun hg25 hm => ?_) (fun hg25 hm => ?_)
                    · refine sr <| sv (r_assign rfl) <| wt <| wp_ret <| then_r <| blk_r <| then_r <| then_r <| blk_r <| then_r ?_
                      obtain rfl := ends hm
                      exact rt rfl (.tmp rfl .nil) ⟨_, _, rfl, hL.ext, rfl⟩
                    · refine wp_skip <| then_n ?_
                      exact ⟨_, _, _, _, _, _, _, _, fr_pre _ rfl, hL.pick _ rfl, hG, ha1, hce8, hm⟩
                  · refine sr <| sv (r_move rfl) <| sv (r_fieldAddr fl_77_1 rfl) <| sv (r_load1 (hL.own 4 _ rfl) sc_21 rfl rfl) <| sv (r_convI Tryz.underlying21 Tryz.underlying3 rfl) ?_
                    obtain ⟨t26, ht26, hm⟩ := bnd hm
                    refine wl rfl (o_call1 2 hL fn_39 rfl rfl (c39 hL.imm (hL.own 2 _ rfl) (fun b' hb' => (hL.non 2 _ rfl b' hb').1) ht26) fun v H w hlet26 hL hR => ?_)
                    replace hG := GT.mono hlet26 hG
                    replace ha1 := Sl.mono hlet26 ha1
                    replace hce8 := HC.mono hlet26 hce8
                    obtain rfl := hR
                    refine sv (r_move rfl) <| sv (r_extract rfl rfl) <| sv (r_extract rfl rfl) <| sv (r_assign rfl) <| sv (r_assign rfl) <| wt <| sr <| sv (r_move rfl) <| sv (r_fieldAddr fl_77_1 rfl) <| sv (r_load1 (hL.own 4 _ rfl) sc_21 rfl rfl) <| sv (r_convI Tryz.underlying21 Tryz.underlying3 rfl) <| sv (r_move rfl) <| sv (r_mul rfl rfl) ?_
                    obtain ⟨t27, ht27, hm⟩ := bnd hm
                    refine wl rfl (o_call1 3 hL fn_39 rfl rfl (c39 hL.imm (hL.own 3 _ rfl) (fun b' hb' => (hL.non 3 _ rfl b' hb').1) ht27) fun v H w hlet27 hL hR => ?_)
                    replace hG := GT.mono hlet27 hG
                    replace ha1 := Sl.mono hlet27 ha1
                    replace hce8 := HC.mono hlet27 hce8
                    obtain rfl := hR
                    refine sv (r_move rfl) <| sv (r_extract rfl rfl) <| sv (r_extract rfl rfl) <| sv (r_assign rfl) <| sv (r_assign rfl) <| wt <| sr <| sv (r_move rfl) <| sv (r_move rfl) <| sv (r_neb Tryz.underlying4 rfl rfl) <| sv (r_move rfl) ?_
                    refine m_if hm (fun hg28 hm => ?_) (fun hg28 hm => ?_)
                    · refine wlF rfl rfl rfl rfl hg28 rfl <| wlF rfl rfl rfl rfl hg28 rfl <| wlF rfl rfl rfl rfl hg28 rfl <| wlF rfl rfl rfl rfl hg28 rfl <| wlF rfl rfl rfl rfl hg28 rfl <| sv (r_pickT hg28 rfl rfl) <| wt <| c_T rfl rfl <| sr <| sv (r_assign rfl) <| wt <| wp_ret <| then_r <| blk_r <| then_r <| then_r <| blk_r <| then_r ?_
                      obtain rfl := ends hm
                      exact rt rfl (.tmp rfl .nil) ⟨_, _, rfl, hL.ext, rfl⟩
                    · refine wlT rfl rfl rfl rfl hg28 (o_val (r_move rfl) ?_)
                      refine wlT rfl rfl rfl rfl hg28 (o_val (r_move rfl) ?_)
                      refine wlT rfl rfl rfl rfl hg28 (o_val (r_mul rfl rfl) ?_)
                      refine wlT rfl rfl rfl rfl hg28 (o_val (r_move rfl) ?_)
                      refine wlT rfl rfl rfl rfl hg28 (o_val (r_nei rfl rfl) ?_)
                      refine sv (r_pickF hg28 rfl rfl) <| wt ?_
                      refine c_if hm rfl (fun hg29 hm => ?_) (fun hg29 hm => ?_)
                      · refine sr <| sv (r_assign rfl) <| wt <| wp_ret <| then_r <| blk_r <| then_r <| then_r <| blk_r <| then_r ?_
                        obtain rfl := ends hm
                        exact rt rfl (.tmp rfl .nil) ⟨_, _, rfl, hL.ext, rfl⟩
                      · refine wp_skip <| then_n ?_
                        exact ⟨_, _, _, _, _, _, _, _, fr_pre _ rfl, hL.pick _ rfl, hG, ha1, hce8, hm⟩
              · refine wp_exit <| then_e <| then_e <| blk_e <| then_n <| sr <| sv (r_assign rfl) <| wt <| wp_ret ?_
                obtain rfl := ends hm
                exact rt rfl (.tmp rfl .nil) ⟨_, _, rfl, hL.ext, rfl⟩
        · refine rg <| sv (r_move rfl) <| sv (r_nei rfl rfl) <| sv (r_move rfl) ?_
          refine m_if hm (fun hg30 hm => ?_) (fun hg30 hm => ?_)
          · refine wlF rfl rfl rfl rfl hg30 rfl <| wlF rfl rfl rfl rfl hg30 rfl <| sv (r_pickT hg30 rfl rfl) <| sv (r_move rfl) <| wlF rfl rfl rfl rfl rfl rfl <| wlF rfl rfl rfl rfl rfl rfl <| sv (r_pickT rfl rfl rfl) <| sv (r_move rfl) <| wlF rfl rfl rfl rfl rfl rfl <| wlF rfl rfl rfl rfl rfl rfl <| sv (r_pickT rfl rfl rfl) <| wt ?_
            exact ⟨_, _, _, fr_pre _ rfl, hL.pick _ rfl, hG, ha1, hm⟩
          · refine wlT rfl rfl rfl rfl hg30 (o_val (r_move rfl) ?_)
            refine wlT rfl rfl rfl rfl hg30 (o_val (r_nei rfl rfl) ?_)
            refine sv (r_pickF hg30 rfl rfl) <| sv (r_move rfl) ?_
            refine m_if hm (fun hg31 hm => ?_) (fun hg31 hm => ?_)
            · refine wlF rfl rfl rfl rfl hg31 rfl <| wlF rfl rfl rfl rfl hg31 rfl <| sv (r_pickT hg31 rfl rfl) <| sv (r_move rfl) <| wlF rfl rfl rfl rfl rfl rfl <| wlF rfl rfl rfl rfl rfl rfl <| sv (r_pickT rfl rfl rfl) <| wt ?_
              exact ⟨_, _, _, fr_pre _ rfl, hL.pick _ rfl, hG, ha1, hm⟩
            · refine wlT rfl rfl rfl rfl hg31 (o_val (r_move rfl) ?_)
              refine wlT rfl rfl rfl rfl hg31 (o_val (r_eqPN Tryz.underlying73 (.inr ⟨_, rfl, rfl⟩) rfl rfl) ?_)
              refine sv (r_pickF hg31 rfl rfl) <| sv (r_move rfl) ?_
              refine wlT rfl rfl rfl rfl rfl (o_val (r_move rfl) ?_)
              refine wlT rfl rfl rfl rfl rfl (o_val (r_eqPN Tryz.underlying73 (.inr ⟨_, rfl, rfl⟩) rfl rfl) ?_)
              refine sv (r_pickF rfl rfl rfl) <| wt ?_
              exact ⟨_, _, _, fr_pre _ rfl, hL.pick _ rfl, hG, ha1, hm⟩
    · refine rg <| sv (r_move rfl) <| sv (r_lenS rfl Tryz.underlying71 rfl) <| sv (r_gtr rfl rfl) <| sv (r_move rfl) ?_
      refine m_if hm (fun hg32 hm => ?_) (fun hg32 hm => ?_)
      · refine wlF rfl rfl rfl rfl hg32 rfl <| wlF rfl rfl rfl rfl hg32 rfl <| wlF rfl rfl rfl rfl hg32 rfl <| sv (r_pickT hg32 rfl rfl) <| sv (r_move rfl) <| wlF rfl rfl rfl rfl rfl rfl <| wlF rfl rfl rfl rfl rfl rfl <| wlF rfl rfl rfl rfl rfl rfl <| sv (r_pickT rfl rfl rfl) <| wt ?_
        exact ⟨_, _, _, fr_pre _ rfl, hL.pick _ rfl, hG, ha1, hm⟩
      · refine wlT rfl rfl rfl rfl hg32 (o_val (r_loadk (hL.own 0 _ rfl) ag_70 rfl (vs := [_, _, _, _]) rfl rfl) ?_)
        obtain ⟨t33, ht33, hm⟩ := bnd hm
        refine wlT rfl rfl rfl rfl hg32 (o_call0 hL fn_36 rfl (c36 hL.imm ht33) fun v H w hlet33 hL hR => ?_)
        replace hG := GT.mono hlet33 hG
        replace ha1 := Sl.mono hlet33 ha1
        obtain rfl := hR
        refine wlT rfl rfl rfl rfl hg32 (o_val (r_not rfl) ?_)
        refine sv (r_pickF hg32 rfl rfl) <| sv (r_move rfl) ?_
        refine m_if hm (fun hg34 hm => ?_) (fun hg34 hm => ?_)
        · refine wlF rfl rfl rfl rfl hg34 rfl <| wlF rfl rfl rfl rfl hg34 rfl <| wlF rfl rfl rfl rfl hg34 rfl <| sv (r_pickT hg34 rfl rfl) <| wt ?_
          exact ⟨_, _, _, fr_pre _ rfl, hL.pick _ rfl, hG, ha1, hm⟩
        · refine wlT rfl rfl rfl rfl hg34 (o_val (r_loadk (hL.own 1 _ rfl) ag_70 rfl (vs := [_, _, _, _]) rfl rfl) ?_)
          obtain ⟨t35, ht35, hm⟩ := bnd hm
          refine wlT rfl rfl rfl rfl hg34 (o_call0 hL fn_36 rfl (c36 hL.imm ht35) fun v H w hlet35 hL hR => ?_)
          replace hG := GT.mono hlet35 hG
          replace ha1 := Sl.mono hlet35 ha1
          obtain rfl := hR
          refine wlT rfl rfl rfl rfl hg34 (o_val (r_not rfl) ?_)
          refine sv (r_pickF hg34 rfl rfl) <| wt ?_
          exact ⟨_, _, _, fr_pre _ rfl, hL.pick _ rfl, hG, ha1, hm⟩

end Go.Proofs.YtcjphpenelnohaaGreatDoor
/- WholeDelays, over numbers: delays and totals scale with the rule's ticks. -/
namespace Go.Proofs.YtcjphpenelnohaaGreatDoor
open Go.RowKit
theorem w64 {n : Int} (h : -9223372036854775808 ≤ n ∧ n ≤ 9223372036854775807) : IntKind.wrap .i64 n = n := IntWalk.i64_in n h
def Rt (b c t m : Int) : Prop := 1 ≤ b ∧ b ≤ c ∧ c ≤ 1000000 ∧ 1 ≤ t ∧ t ≤ 100 ∧ 1 ≤ m ∧ m ≤ 1000000
instance (b c t m : Int) : Decidable (Rt b c t m) := by unfold Rt; infer_instance
theorem m36_eq (b c t m : Int) : m36 b c t m = some (decide (Rt b c t m)) := by
  unfold m36 m107 eqI4 Rt
  by_cases h0 : (1 : Int) ≤ b
  · have hb : (b == 0) = false := by simp; omega
    simp only [hb, Bool.false_and, cond_false, decide_eq_true h0, cond_true, Option.bind_some]
    by_cases h1 : b ≤ c
    · have hc : (1 : Int) ≤ c := by omega
      simp only [decide_eq_true h1, decide_eq_true hc, cond_true, Option.bind_some]
      by_cases h2 : c ≤ 1000000
      · simp only [decide_eq_true h2, cond_true]
        by_cases h3 : (1 : Int) ≤ t
        · simp only [decide_eq_true h3, cond_true, Option.bind_some]
          by_cases h4 : t ≤ 100
          · simp only [decide_eq_true h4, cond_true]
            by_cases h5 : (1 : Int) ≤ m
            · simp [h0, h1, h2, h3, h4, h5]
            · simp [h5]
          · simp [h4]
        · simp [h3]
      · simp [h2]
    · simp [h1]
  · have hn : decide ((1 : Int) ≤ b) = false := by simpa using h0
    simp only [hn, cond_false, Option.bind_some]
    have : decide (1 ≤ b ∧ b ≤ c ∧ c ≤ 1000000 ∧ 1 ≤ t ∧ t ≤ 100 ∧ 1 ≤ m ∧ m ≤ 1000000) = false := by simp [h0]
    rw [this]
    cases (b == 0 && (c == 0 && (t == 0 && (m == 0 && true)))) <;> rfl
theorem Rt_ok {b c t m : Int} (hr : Rt b c t m) : m36 b c t m = some true := by rw [m36_eq, decide_eq_true hr]
theorem m108_in {a : Int} (h : 0 ≤ a ∧ a ≤ 1152921504606846976) : m108 a = some a := by
  unfold m108 mn mx
  rw [if_neg (by omega), if_neg (by omega)]
theorem tdiv_big {c : Int} (h : 1 ≤ c ∧ c ≤ 1000000) : 1000 ≤ Int.tdiv 1152921504606846976 c ∧ Int.tdiv 1152921504606846976 c ≤ 1152921504606846976 := by
  rw [Int.tdiv_eq_ediv_of_nonneg (by omega)]
  constructor
  · exact (Int.le_ediv_iff_mul_le (by omega)).2 (by omega)
  · exact Int.ediv_le_self _ (by omega)
section
variable {s : Int} (h1 : 1 ≤ s) (h2 : s ≤ 20)
include h1 h2
theorem ms_lt {a b : Int} : decide (a * s < b * s) = decide (a < b) := by
  have := Int.mul_lt_mul_right (a := s) (b := a) (c := b) (by omega)
  simp [this]
theorem ms_b {a : Int} (ha : 0 ≤ a) : a ≤ a * s ∧ a * s ≤ a * 20 := by
  constructor
  · have := Int.mul_le_mul_of_nonneg_left h1 ha; omega
  · exact Int.mul_le_mul_of_nonneg_left h2 ha
theorem mn_s (a b : Int) : mn (a * s) (b * s) = mn a b * s := by
  unfold mn
  have := Int.mul_lt_mul_right (a := s) (b := b) (c := a) (by omega)
  by_cases h : b < a <;> simp [this, h]
theorem dly {C : Int} (hC : 1 ≤ C ∧ C ≤ 1000000) : ∀ (k : Nat) (n d : Int), n < k → 0 ≤ n → n ≤ 1000 → 1 ≤ d → d ≤ 2000000 → ∃ x, m42_l1 C k n d = some x ∧ m42_l1 (C * s) k n (d * s) = some (x * s) ∧ 1 ≤ x ∧ x ≤ C
  | 0, n, _, hk, hn, _, _, _ => by simp at hk; omega
  | k + 1, n, d, hk, hn, hn2, hd, hd2 => by
    rw [m42_l1.eq_2, m42_l1.eq_2, ms_lt h1 h2, mn_s h1 h2]
    have hmn : 1 ≤ mn d C ∧ mn d C ≤ C := by unfold mn; split <;> omega
    cases e1 : decide ((1 : Int) < n) with
    | false => exact ⟨_, rfl, rfl, hmn⟩
    | true =>
      cases e2 : decide (d < C) with
      | false => exact ⟨_, rfl, rfl, hmn⟩
      | true =>
        have g1 := of_decide_eq_true e1
        have g2 := of_decide_eq_true e2
        have hb := ms_b h1 h2 (a := d) (by omega)
        have w1 : IntKind.wrap .i64 (n - 1) = n - 1 := w64 (by omega)
        have w2 : IntKind.wrap .i64 (d * 2) = d * 2 := w64 (by omega)
        have w3 : IntKind.wrap .i64 (d * s * 2) = d * 2 * s := by rw [w64 (by omega), Int.mul_right_comm]
        simp only [cond_true, w1, w2, w3]
        exact dly hC k (n - 1) (d * 2) (by omega) (by omega) (by omega) (by omega) (by omega)
theorem delay2 {b c t m : Int} (hr : Rt b c t m) (hq : Rt (b * s) (c * s) t (m * s)) {n : Int} (hn : n ≤ 1000) : ∃ x, m42 b c t m n = some x ∧ m42 (b * s) (c * s) t (m * s) n = some (x * s) ∧ 0 ≤ x ∧ x ≤ c := by
  unfold m42
  rw [Rt_ok hr, Rt_ok hq]
  simp only [Option.bind_some, Bool.not_true, cond_false]
  unfold m42_j0
  obtain ⟨r1, r2, r3, r4, r5, r6, r7⟩ := hr
  by_cases h : n < 1
  · simp only [decide_eq_true h, cond_true]
    exact ⟨0, rfl, by simp, by omega, by omega⟩
  · simp only [decide_eq_false h, cond_false]
    obtain ⟨x, e1, e2, e3, e4⟩ := dly h1 h2 (C := c) (by omega) FUEL n b (by unfold FUEL; omega) (by omega) hn (by omega) (by omega)
    exact ⟨x, e1, e2, by omega, e4⟩
theorem rest2 {b c t m : Int} (hr : Rt b c t m) (hq : Rt (b * s) (c * s) t (m * s)) {n v5 v6 : Int} (hn : 0 ≤ n ∧ n ≤ 100) (h5 : 0 ≤ v5 ∧ v5 ≤ 200000000) (h6 : 1 ≤ v6 ∧ v6 ≤ n + 1) : ∃ x, m43_j0 c n v5 v6 = some x ∧ m43_j0 (c * s) n (v5 * s) v6 = some (x * s) ∧ 0 ≤ x ∧ x ≤ 400000000 := by
  obtain ⟨r1, r2, r3, _⟩ := hr
  obtain ⟨q1, q2, q3, _⟩ := hq
  have hc : 1 ≤ c := by omega
  have hcs : 1 ≤ c * s := by omega
  unfold m43_j0
  have e0 : (c != 0) = true := by simp; omega
  have e0' : (c * s != 0) = true := by simp only [bne_iff_ne, ne_eq]; omega
  have w1 : IntKind.wrap .i64 (n - v6) = n - v6 := w64 (by omega)
  have w2 : IntKind.wrap .i64 (n - v6 + 1) = n - v6 + 1 := w64 (by omega)
  have em : mx (n - v6 + 1) 0 = n - v6 + 1 := by unfold mx; rw [if_neg (by omega)]
  have t1 := tdiv_big (c := c) (by omega)
  have t2 := tdiv_big (c := c * s) (by omega)
  have w3 := w64 (n := Int.tdiv 1152921504606846976 c) (by omega)
  have w4 := w64 (n := Int.tdiv 1152921504606846976 (c * s)) (by omega)
  simp only [e0, e0', w1, w2, em, w3, w4, cond_true]
  have d1 : decide (Int.tdiv 1152921504606846976 c < n - v6 + 1) = false := by simp only [decide_eq_false_iff_not]; omega
  have d2 : decide (Int.tdiv 1152921504606846976 (c * s) < n - v6 + 1) = false := by simp only [decide_eq_false_iff_not]; omega
  simp only [d1, d2, cond_false]
  generalize hR : n - v6 + 1 = R
  have hR0 : 0 ≤ R ∧ R ≤ 101 := by omega
  have b1 : 0 ≤ R * c := Int.mul_nonneg hR0.1 (by omega)
  have b2 : R * c ≤ 101 * 1000000 := Int.mul_le_mul hR0.2 r3 (by omega) (by omega)
  have b3 : 0 ≤ R * (c * s) := Int.mul_nonneg hR0.1 (by omega)
  have b4 : R * (c * s) ≤ 101 * 1000000 := Int.mul_le_mul hR0.2 q3 (by omega) (by omega)
  have b5 := ms_b h1 h2 (a := v5) h5.1
  rw [w64 (n := R * c) (by omega), w64 (n := R * (c * s)) (by omega)]
  unfold m109
  rw [m108_in (a := v5) (by omega), m108_in (a := R * c) (by omega), m108_in (a := v5 * s) (by omega), m108_in (a := R * (c * s)) (by omega)]
  simp only [Option.bind_some]
  rw [w64 (n := v5 + R * c) (by omega), w64 (n := v5 * s + R * (c * s)) (by omega), m108_in (a := v5 + R * c) (by omega), m108_in (a := v5 * s + R * (c * s)) (by omega)]
  refine ⟨v5 + R * c, rfl, ?_, by omega, by omega⟩
  rw [Int.add_mul, Int.mul_assoc]
  rfl
theorem total_l {b c t m : Int} (hr : Rt b c t m) (hq : Rt (b * s) (c * s) t (m * s)) {n : Int} (hn : 0 ≤ n ∧ n ≤ 100) : ∀ (k : Nat) (v5 v6 : Int), n + 1 - v6 < k → 1 ≤ v6 → v6 ≤ n + 1 → 0 ≤ v5 → v5 ≤ (v6 - 1) * 1000000 → ∃ x, m43_l1 b c t m n k v5 v6 = some x ∧ m43_l1 (b * s) (c * s) t (m * s) n k (v5 * s) v6 = some (x * s) ∧ 0 ≤ x ∧ x ≤ 400000000
  | 0, v5, v6, hk, h6, h6', _, _ => by simp at hk; omega
  | k + 1, v5, v6, hk, h6, h6', h5, h5' => by
    rw [m43_l1.eq_2, m43_l1.eq_2]
    have hrest := rest2 h1 h2 hr hq (n := n) (v5 := v5) (v6 := v6) hn (by omega) (by omega)
    cases e1 : decide (v6 ≤ n) with
    | false => exact hrest
    | true =>
      have g1 := of_decide_eq_true e1
      obtain ⟨x, x1, x2, x3, x4⟩ := delay2 h1 h2 hr hq (n := v6) (by omega)
      simp only [cond_true, x1, x2, Option.bind_some, ms_lt h1 h2]
      cases e2 : decide (x < c) with
      | false => exact hrest
      | true =>
        have g2 := of_decide_eq_true e2
        have hc := hr.2.2.1
        have b1 := ms_b h1 h2 (a := v5) h5
        have b2 := ms_b h1 h2 (a := x) x3
        have w1 : IntKind.wrap .i64 (v5 + x) = v5 + x := w64 (by omega)
        have w2 : IntKind.wrap .i64 (v5 * s + x * s) = (v5 + x) * s := by rw [w64 (by omega), Int.add_mul]
        have w3 : IntKind.wrap .i64 (v6 + 1) = v6 + 1 := w64 (by omega)
        simp only [cond_true, w1, w2, w3]
        exact total_l hr hq hn k (v5 + x) (v6 + 1) (by omega) (by omega) (by omega) (by omega) (by omega)
theorem total2 {b c t m : Int} (hr : Rt b c t m) (hq : Rt (b * s) (c * s) t (m * s)) {n : Int} (hn : 0 ≤ n ∧ n ≤ 100) : ∃ x, m43 b c t m n = some x ∧ m43 (b * s) (c * s) t (m * s) n = some (x * s) ∧ 0 ≤ x ∧ x ≤ 400000000 := by
  unfold m43
  rw [Rt_ok hr, Rt_ok hq]
  simp only [Option.bind_some, Bool.not_true, cond_false]
  have := total_l h1 h2 hr hq hn FUEL 0 1 (by unfold FUEL; omega) (by omega) (by omega) (by omega) (by omega)
  simpa using this
theorem clip2 {n : Int} (hn : -2147483648 ≤ n ∧ n ≤ 2147483647) : ∃ y, m108 n = some y ∧ m108 (IntKind.wrap .i64 (n * s)) = some (y * s) ∧ 0 ≤ y ∧ y ≤ 2147483647 := by
  by_cases h : 0 ≤ n
  · have b := ms_b h1 h2 (a := n) h
    rw [w64 (by omega), m108_in (by omega), m108_in (by omega)]
    exact ⟨n, rfl, rfl, h, hn.2⟩
  · have b := ms_b h1 h2 (a := -n) (by omega)
    rw [Int.neg_mul] at b
    have e : ∀ z : Int, z < 0 → m108 z = some 0 := fun z hz => by
      unfold m108 mn mx
      rw [if_pos hz, if_neg (by omega)]
    rw [w64 (by omega), e n (by omega), e (n * s) (by omega)]
    exact ⟨0, rfl, by simp, by omega, by omega⟩
theorem fail_j {b c t m : Int} (hr : Rt b c t m) (hq : Rt (b * s) (c * s) t (m * s)) (lo : Bool) {u : Int} (hu : 0 ≤ u ∧ u ≤ 900) : ∃ d ok ct' lo', m39_j0 b c t m lo u = some (d, ok, ct', lo') ∧ m39_j0 (b * s) (c * s) t (m * s) lo u = some (d * s, ok, ct', lo') ∧ 0 ≤ d ∧ d ≤ 1000000 ∧ 0 ≤ ct' ∧ ct' ≤ u + 1 := by
  unfold m39_j0
  have w1 : IntKind.wrap .i64 (u + 1) = u + 1 := w64 (by omega)
  rw [w1]
  cases e : decide (t ≤ u + 1) with
  | true => exact ⟨0, false, u + 1, true, rfl, by simp, by omega, by omega, by omega, by omega⟩
  | false =>
    obtain ⟨x, x1, x2, x3, x4⟩ := delay2 h1 h2 hr hq (n := u + 1) (by omega)
    simp only [cond_false, x1, x2, Option.bind_some]
    have hc := hr.2.2.1
    exact ⟨x, true, u + 1, lo, rfl, rfl, x3, by omega, by omega, by omega⟩
theorem fail2 {b c t m : Int} (hr : Rt b c t m) (hq : Rt (b * s) (c * s) t (m * s)) (lo : Bool) {st ct n : Int} (hst : 0 ≤ st ∧ st ≤ 2147483647) (hct : 0 ≤ ct ∧ ct ≤ 900) (hn : -2147483648 ≤ n ∧ n ≤ 2147483647) :
    ∃ d ok ct' lo', m39 b c t m st ct lo n = some (d, ok, ct', lo') ∧ m39 (b * s) (c * s) t (m * s) (st * s) ct lo (IntKind.wrap .i64 (n * s)) = some (d * s, ok, ct', lo') ∧ 0 ≤ d ∧ d ≤ 1000000 ∧ 0 ≤ ct' ∧ ct' ≤ ct + 1 := by
  unfold m39
  cases lo with
  | true => exact ⟨0, false, ct, true, rfl, by simp, by omega, by omega, by omega, by omega⟩
  | false =>
    obtain ⟨y, y1, y2, y3, y4⟩ := clip2 h1 h2 hn
    have b1 := ms_b h1 h2 (a := y) y3
    have b2 := ms_b h1 h2 (a := st) hst.1
    simp only [cond_false, y1, y2, Option.bind_some]
    have w1 : IntKind.wrap .i64 (y - st) = y - st := w64 (by omega)
    have w2 : IntKind.wrap .i64 (y * s - st * s) = (y - st) * s := by rw [w64 (by omega), Int.sub_mul]
    rw [w1, w2, ms_lt h1 h2]
    cases e : decide (m < y - st) with
    | true =>
      obtain ⟨d, ok, ct', lo', e1, e2, e3, e4, e5, e6⟩ := fail_j h1 h2 hr hq false (u := 0) (by omega)
      exact ⟨d, ok, ct', lo', e1, e2, e3, e4, e5, by omega⟩
    | false => exact fail_j h1 h2 hr hq false hct
theorem start2 {b c t m : Int} (lo : Bool) {st ct n : Int} (hst : 0 ≤ st ∧ st ≤ 2147483647) (hn : -2147483648 ≤ n ∧ n ≤ 2147483647) :
    ∃ e st', m38 b c t m st ct lo n = some (e, st') ∧ m38 (b * s) (c * s) t (m * s) (st * s) ct lo (IntKind.wrap .i64 (n * s)) = some (e, st' * s) ∧ 0 ≤ st' ∧ st' ≤ 2147483647 := by
  unfold m38
  cases lo with
  | true => exact ⟨11, st, rfl, rfl, hst.1, hst.2⟩
  | false =>
    obtain ⟨y, y1, y2, y3, y4⟩ := clip2 h1 h2 hn
    simp only [cond_false, y1, y2, Option.bind_some]
    exact ⟨0, y, rfl, rfl, y3, y4⟩
/-- behind a beat: the counts, the delays and the totals agree -/
theorem beat_j {b c t m k : Int} (hr : Rt b c t m) (hq : Rt (b * s) (c * s) t (m * s)) (hk : IntKind.wrap .i64 ((1 : Int) + (IntKind.wrap .i64 (Int.tmod k (20 : Int)))) = s) {nx : Int → Int → Int → Bool → Int → Int → Bool → Option Bool} {i st ct : Int} {lo : Bool} (hi : 0 ≤ i ∧ i ≤ 100)
    (hnx : nx (i + 1) st ct lo (st * s) ct lo = some true) :
    m5_j3 nx b c t m k (b, c, t, m, 0, 0, false, 0) (b * s, c * s, t, m * s, 0, 0, false, 0) i st ct lo (st * s) ct lo = some true := by
  unfold m5_j3 m40 m41
  have hb := hr.1
  have hc := hr.2.1
  have hc2 := hr.2.2.1
  have hm := hr.2.2.2.2.2.1
  have hm2 := hr.2.2.2.2.2.2
  have bb := ms_b h1 h2 (a := b) (by omega)
  have bc := ms_b h1 h2 (a := c) (by omega)
  have bm := ms_b h1 h2 (a := m) (by omega)
  have wb : IntKind.wrap .i64 (b * s) = b * s := w64 (by omega)
  have wc : IntKind.wrap .i64 (c * s) = c * s := w64 (by omega)
  have wm : IntKind.wrap .i64 (m * s) = m * s := w64 (by omega)
  obtain ⟨x, x1, x2, x3, x4⟩ := delay2 h1 h2 hr hq (n := i) (by omega)
  obtain ⟨y, y1, y2, y3, y4⟩ := total2 h1 h2 hr hq hi
  have bx := ms_b h1 h2 (a := x) x3
  have by_ := ms_b h1 h2 (a := y) y3
  have wx : IntKind.wrap .i64 (x * s) = x * s := w64 (by omega)
  have wy : IntKind.wrap .i64 (y * s) = y * s := w64 (by omega)
  have wi : IntKind.wrap .i64 (i + 1) = i + 1 := w64 (by omega)
  simp only [hk, wb, wc, wm, x1, x2, y1, y2, wx, wy, wi, Option.bind_some, bne_self_eq_false, cond_false, hnx]
theorem loop2 {b c t m k : Int} (hr : Rt b c t m) (hq : Rt (b * s) (c * s) t (m * s)) (hk : IntKind.wrap .i64 ((1 : Int) + (IntKind.wrap .i64 (Int.tmod k (20 : Int)))) = s) {l : List Bt} (hll : l.length ≤ 100) (hl : ∀ x ∈ l, -2147483648 ≤ x.now ∧ x.now ≤ 2147483647) :
    ∀ (K : Nat) (i st ct : Int) (lo : Bool), (l.length : Int) - i < K → 0 ≤ i → i ≤ l.length → 0 ≤ st → st ≤ 2147483647 → 0 ≤ ct → ct ≤ i → m5_l2 b c t m l k (b, c, t, m, 0, 0, false, 0) (b * s, c * s, t, m * s, 0, 0, false, 0) K i st ct lo (st * s) ct lo = some true
  | 0, i, st, ct, lo, hK, hi, hi2, _, _, _, _ => by simp at hK; omega
  | K + 1, i, st, ct, lo, hK, hi, hi2, hs1, hs2, hc1, hc2 => by
    rw [m5_l2.eq_2]
    cases e : decide (i < (l.length : Int)) with
    | false => rfl
    | true =>
      have g := of_decide_eq_true e
      have e2 : decide (0 ≤ i ∧ i < (l.length : Int)) = true := decide_eq_true ⟨hi, g⟩
      have hx : l.getD i.toNat default ∈ l := by
        have hlt : i.toNat < l.length := by omega
        rw [List.getD_eq_getElem?_getD, List.getElem?_eq_getElem hlt]
        exact List.getElem_mem hlt
      have hb := hl _ hx
      have wn : IntKind.wrap .i64 (l.getD i.toNat default).now = (l.getD i.toNat default).now := w64 (by omega)
      simp only [e2, cond_true, wn, hk]
      cases (l.getD i.toNat default).start with
      | true =>
        obtain ⟨er, st', e3, e4, e5, e6⟩ := start2 h1 h2 (b := b) (c := c) (t := t) (m := m) lo (st := st) (ct := ct) ⟨hs1, hs2⟩ hb
        simp only [cond_true, e3, e4, Option.bind_some, bne_self_eq_false, cond_false]
        exact beat_j h1 h2 hr hq hk ⟨hi, by omega⟩ (loop2 hr hq hk hll hl K (i + 1) st' ct lo (by omega) (by omega) (by omega) e5 e6 hc1 (by omega))
      | false =>
        obtain ⟨d, ok, ct', lo', e3, e4, e5, e6, e7, e8⟩ := fail2 h1 h2 hr hq lo (st := st) (ct := ct) ⟨hs1, hs2⟩ ⟨hc1, by omega⟩ hb
        have bd := ms_b h1 h2 (a := d) e5
        have wd : IntKind.wrap .i64 (d * s) = d * s := w64 (by omega)
        simp only [cond_false, e3, e4, Option.bind_some, bne_self_eq_false, wd]
        exact beat_j h1 h2 hr hq hk ⟨hi, by omega⟩ (loop2 hr hq hk hll hl K (i + 1) st ct' lo' (by omega) (by omega) (by omega) hs1 hs2 e7 (by omega))
end
/-- TICKS HAVE NO LENGTH. -/
theorem delays_true (b c t m : Int) (l : List Bt) (k : Int) (hl : ∀ x ∈ l, -2147483648 ≤ x.now ∧ x.now ≤ 2147483647) (hk : 0 ≤ k ∧ k ≤ 255) : m5 b c t m l k = some true := by
  unfold m5
  rw [m14_true]
  have hmod : Int.tmod k 20 = k % 20 := Int.tmod_eq_emod_of_nonneg hk.1
  have h0 : 0 ≤ k % 20 ∧ k % 20 < 20 := ⟨Int.emod_nonneg _ (by omega), Int.emod_lt_of_pos _ (by omega)⟩
  obtain ⟨s, hs⟩ : ∃ s, s = 1 + k % 20 := ⟨_, rfl⟩
  have hw : IntKind.wrap .i64 ((1 : Int) + (IntKind.wrap .i64 (Int.tmod k (20 : Int)))) = s := by
    have a1 : IntKind.wrap .i64 (k % 20) = k % 20 := w64 (by omega)
    rw [hmod, a1, w64 (by omega)]; exact hs.symm
  have h1 : 1 ≤ s := by omega
  have h2 : s ≤ 20 := by omega
  simp only [Option.bind_some, Bool.not_true, cond_false, hw]
  have ht : m5_j0 b c t m l k true = some true := rfl
  cases e : decide ((100 : Int) < (l.length : Int)) with
  | true => exact ht
  | false =>
    have hll := of_decide_eq_false e
    simp only [cond_false, m36_eq, Option.bind_some]
    cases er : decide (Rt b c t m) with
    | false => exact ht
    | true =>
      have hr := of_decide_eq_true er
      have hb := hr.1
      have hc := hr.2.1
      have hc2 := hr.2.2.1
      have hm := hr.2.2.2.2.2.1
      have hm2 := hr.2.2.2.2.2.2
      have bb := ms_b h1 h2 (a := b) (by omega)
      have bc := ms_b h1 h2 (a := c) (by omega)
      have bm := ms_b h1 h2 (a := m) (by omega)
      have wb : IntKind.wrap .i64 (b * s) = b * s := w64 (by omega)
      have wc : IntKind.wrap .i64 (c * s) = c * s := w64 (by omega)
      have wm : IntKind.wrap .i64 (m * s) = m * s := w64 (by omega)
      simp only [Bool.not_true, cond_false, wb, wc, wm]
      cases eq : decide (Rt (b * s) (c * s) t (m * s)) with
      | false => exact ht
      | true =>
        have hq := of_decide_eq_true eq
        simp only [Bool.not_true]
        unfold m5_j0 m37
        simp only [cond_false, hw, wb, wc, wm, Rt_ok hr, Rt_ok hq, Option.bind_some, Bool.not_true, bne_self_eq_false]
        unfold m5_j1
        simp only [cond_false]
        have := loop2 h1 h2 hr hq hw (l := l) (by omega) hl FUEL 0 0 0 false (by unfold FUEL; omega) (by omega) (by omega) (by omega) (by omega) (by omega) (by omega)
        simpa using this
end Go.Proofs.YtcjphpenelnohaaGreatDoor
/- What every card of this seat needs: what the listed variables give, the witness, the arguments read again. -/
namespace Go.Proofs.YtcjphpenelnohaaGreatDoor
open Go.RowKit Go.ChangeShapes Go.WideShapes Go.ChangeAt
theorem own : ownKnob Tryz.prog.godebug = none := by kernel_rfl
theorem laidOut : laidOutB Tryz.prog = true := by kernel_rfl
theorem gErrR : Tryz.prog.globalNamed "strconv.ErrRange" = some 2 := by kernel_rfl
theorem gErrS : Tryz.prog.globalNamed "strconv.ErrSyntax" = some 1 := by kernel_rfl
theorem gPow : Tryz.prog.globalNamed "internal/strconv.uint64pow10" = some 3 := by kernel_rfl
theorem gErrRt : (Tryz.prog.globals[2]?).map (·.type) = some 203 := by kernel_rfl
theorem gErrSt : (Tryz.prog.globals[1]?).map (·.type) = some 203 := by kernel_rfl
theorem gPowt : (Tryz.prog.globals[3]?).map (·.type) = some 472 := by kernel_rfl
theorem cells472 : Tryz.prog.cellsOf 472 = 20 := by kernel_rfl
theorem cells128 : Tryz.prog.cellsOf 128 = 1 := by kernel_rfl
theorem cells479 : Tryz.prog.cellsOf 479 = 1 := by kernel_rfl
theorem star : "*" ++ "errors.errorString" = "*errors.errorString" := by decide
theorem row477 (u : TypeId) (h : Tryz.prog.typeName? 3 u = some "*errors.errorString") : u = 477 :=
  typeName_ptr_named (nm := "errors.errorString") (by rw [star]; kernel_rfl) (by kernel_rfl) (by decide) u (by rw [star]; exact h)
theorem var_imm {W w : World} (hI : Imm (fun b => W.heap[b]?) w) {n : String} {cs : Array Value} (h : W.var? Tryz.prog n = some cs) : w.var? Tryz.prog n = some cs := by
  unfold World.var? at h ⊢
  cases hg : Tryz.prog.globalNamed n with
  | none => simp [hg] at h
  | some g =>
    simp only [hg, Option.bind_some] at h ⊢
    cases e : W.heap[g]? with
    | none => rw [e] at h; cases h
    | some o => rw [hI g o e]; rw [e] at h; exact h
theorem shape0 : ((begin Tryz.prog (fun _ _ => 0) default).world.heap[0]?).bind Obj.row? = some (#[.int .i64 0], 3) := by kernel_rfl
theorem int_of_shape {P : Program} {w : World} {g : Nat} {t : TypeId} {k : IntKind} {zero : Array Value} (h : w.ShapedOpen P) (hg : g < P.globals.size)
    (h0 : ((begin P (fun _ _ => 0) default).world.heap[g]?).bind Obj.row? = some (zero, t)) (hz : zero.size = 1)
    (hb : P.buildable t = true) (hc : P.cellTypes P.depth t = some [t]) (hu : P.underlying t = some (.int k)) : ∃ p, w.cell? ⟨g, 0, none⟩ = some (.int k p) := by
  obtain ⟨cs, hh, hs, hr⟩ := h.1 g zero t hg h0
  obtain ⟨ts, hts, _, hall⟩ := hr hb
  rw [hc] at hts
  cases hts
  have h1 : 0 < cs.size := by omega
  obtain ⟨u, hu', hok⟩ := hall 0 cs[0] (by simp [h1])
  have : u = t := by simpa using hu'.symm
  subst this
  have hcell : w.cell? ⟨g, 0, none⟩ = some cs[0] := by simp [World.cell?, hh, h1]
  rw [hcell]
  unfold Cell.ok at hok
  rw [hu] at hok
  cases hv : cs[0] <;> rw [hv] at hok <;> first | exact ⟨_, rfl⟩ | (simp at hok; done) | (simp at hok; obtain ⟨rfl, _⟩ := hok; exact ⟨_, rfl⟩)
theorem gsize : Tryz.prog.globals.size = 8 := by kernel_rfl
theorem maxLen_cell {W : World} (h : W.ShapedOpen Tryz.prog) : ∃ m, W.cell? ⟨0, 0, none⟩ = some (.int .i64 m) :=
  int_of_shape h (by rw [gsize]; omega) shape0 rfl (by kernel_rfl) (by kernel_rfl) Tryz.underlying3
theorem cell_imm {W w : World} (hI : Imm (fun b => W.heap[b]?) w) {a : Addr} {v : Value} (h : W.cell? a = some v) : w.cell? a = some v := by
  unfold World.cell? at h ⊢
  cases e : W.heap[a.block]? with
  | none => rw [e] at h; cases h
  | some o => rw [hI a.block o e]; rw [e] at h; exact h
theorem GT_of_laid {W : World} (h : laidMetH Tryz.prog Rows.wholeDelaysRow.laid W) (hs : W.ShapedOpen Tryz.prog) : GT (fun b => W.heap[b]?) := by
  rw [MakeChecks.laidMetH_plain _ _ _ (by kernel_rfl)] at h
  have h3 := h.tail.tail
  have h5 := h3.tail.tail
  have h6 := h5.tail
  have hp : Lib.TabIs Tryz.prog W "internal/strconv.uint64pow10" .u64 Lib.pow10Tab := Lib.tabIs_of_head gPow gPowt Tryz.underlying472 Tryz.underlying128 cells128 cells472 h3
  obtain ⟨a1, s1, hR, _⟩ := laid_sentinel h5 gErrR gErrRt Tryz.underlying203 row477 Tryz.underlying477 Tryz.underlying479 rfl rfl Tryz.underlying9 cells479 cells9
  obtain ⟨a2, s2, hS, _⟩ := laid_sentinel h6 gErrS gErrSt Tryz.underlying203 row477 Tryz.underlying477 Tryz.underlying479 rfl rfl Tryz.underlying9 cells479 cells9
  obtain ⟨m, hm⟩ := maxLen_cell hs
  intro w hI
  exact ⟨⟨m, cell_imm hI hm⟩, var_imm hI hp, ⟨_, _, var_imm hI hS⟩, ⟨_, _, var_imm hI hR⟩⟩
end Go.Proofs.YtcjphpenelnohaaGreatDoor
/- From a contract that answers true to what a law's row asks. -/
namespace Go.Proofs.YtcjphpenelnohaaGreatDoor
open Go.RowKit Go.ChangeShapes Go.WideShapes Go.ChangeAt
theorem trodAll_below {H : Type} {enc : TypeId × Value → H} {W W' : World} (hb : Below W.heap.size W W') : ∀ {ts : List TypeId} {vs : List Value} {ds : List (DataW H)} {ps : List MemPlace}, (∀ t ∈ ts, Tryz.prog.readableRec t = true ∧ t < Tryz.prog.types.size) →
    DataW.TrodAll enc Tryz.prog W 0 (fun _ => true) true ts vs ds ps → (∀ x ∈ ps, x.block < W.heap.size) → DataW.TrodAll enc Tryz.prog W' 0 (fun b => decide (b < W.heap.size)) true ts vs ds ps
  | [], [], [], _, _, h, _ => h
  | [], _ :: _, _, _, _, h, _ => h.elim
  | [], [], _ :: _, _, _, h, _ => h.elim
  | _ :: _, [], _, _, _, h, _ => h.elim
  | _ :: _, _ :: _, [], _, _, h, _ => h.elim
  | t :: ts, v :: vs, d :: ds, ps, hr, ⟨p, q, h1, h2, e⟩, hlt => by
    subst e
    obtain ⟨r1, r2⟩ := hr t (by simp)
    exact ⟨p, q, Below.trod laidOut r1 r2 h1 hb (fun x hx => hlt x (by simp [hx])), trodAll_below hb (fun t ht => hr t (by simp [ht])) h2 (fun x hx => hlt x (by simp [hx])), rfl⟩
theorem below_of_ext {w w' : World} {H' : Hp} (h : Ext [] (fun b => w.heap[b]?) w H' w') : Below w.heap.size w w' :=
  ⟨h.os, h.tape, h.output, h.size, fun b hb => h.block b hb (by simp)⟩
theorem post_of_ct {H : Type} {enc : TypeId × Value → H} {f : FuncId} {fn : Func} {s : ChangeSpec} {W : World} {args : Array Value} {ds : List (DataW H)} {before : List MemPlace}
    (hc : Ct Tryz.prog f args.toList [] (fun b => W.heap[b]?) W fun v _ _ => v = .bool true)
    (hW : DataW.Whole enc Tryz.prog fn.params.toList s.vars false W args.toList ds [] before) (hv : s.vars = []) (hres : s.fn H (ds ++ []) = { results := [.lit (.bool true)], args := ds })
    (hrt : fn.resultTypes = #[4]) (hr : ∀ t ∈ fn.params.toList, Tryz.prog.readableRec t = true ∧ t < Tryz.prog.types.size) :
    Calls Tryz.prog f args W fun e W' => ∃ v, e = .returned v ∧ s.post enc Tryz.prog fn false true false false W args v W' := by
  have hW' := hW
  obtain ⟨p, q, hA, hV, rfl, hfz, hnd⟩ := hW
  rw [hv] at hV
  obtain rfl : q = [] := hV
  have hlt := hW'.lt
  simp only [List.append_nil] at hlt hW'
  have e : args.toList.toArray = args := by simp
  unfold Ct at hc
  rw [e] at hc
  refine hc.mono fun e W' ⟨v, H', he, hx, hv2⟩ => ?_
  subst he hv2
  have hb := below_of_ext hx
  refine ⟨_, rfl, ds, [], p, [], p, [], hW', ?_, ?_, ?_, hb.frame _, fun h => by cases h⟩
  · rw [hrt, hres]; exact trodAll_mk1 (shut_bool Tryz.underlying4 _)
  · rw [hres]; exact trodAll_below hb hr hA (fun x hx => hlt x hx)
  · rw [hres, hv]; rfl
end Go.Proofs.YtcjphpenelnohaaGreatDoor
/- The closed facts of WholeDelays' row. -/
namespace Go.Proofs.YtcjphpenelnohaaGreatDoor
open Go
set_option maxRecDepth 100000 in
set_option maxHeartbeats 4000000 in
theorem closed5 : joinedFacts Tryz.prog 5 Tryz.f5 (OpenSpec.ofChange Rows.wholeDelaysSpec).bare Rows.wholeDelaysRow = true := by
  unfold joinedFacts
  simp only [Bool.and_eq_true]
  refine ⟨⟨⟨⟨⟨⟨⟨⟨⟨⟨⟨⟨⟨⟨⟨⟨⟨⟨⟨⟨⟨⟨⟨⟨⟨⟨⟨⟨⟨⟨⟨?_, ?_⟩, ?_⟩, ?_⟩, ?_⟩, ?_⟩, ?_⟩, ?_⟩, ?_⟩, ?_⟩, ?_⟩, ?_⟩, ?_⟩, ?_⟩, ?_⟩, ?_⟩, ?_⟩, ?_⟩, ?_⟩, ?_⟩, ?_⟩, ?_⟩, ?_⟩, ?_⟩, ?_⟩, ?_⟩, ?_⟩, ?_⟩, ?_⟩, ?_⟩, ?_⟩, ?_⟩
  all_goals as_aux_lemma => kernel_rfl
theorem named5 : Tryz.prog.funcNamed "flange/flangetop.WholeDelays" = some 5 := by kernel_rfl
end Go.Proofs.YtcjphpenelnohaaGreatDoor
/- More closed facts of WholeDelays' row and card. -/
namespace Go.Proofs.YtcjphpenelnohaaGreatDoor
open Go
theorem wf5 : Rows.wholeDelaysRow.wfByText (OpenSpec.ofChange Rows.wholeDelaysSpec) = true := by kernel_rfl
theorem main5 : Tryz.prog.mainIs = some (true, "3c43f17109cb3d08567c70e8ada6a11904f328128c58912f636baefadca35eef".toList) := by kernel_rfl
theorem goes5 : false = Rows.wholeDelaysRow.goesBy Tryz.prog := by kernel_rfl
theorem looks5 : true = Tryz.prog.looks [] := by kernel_rfl
theorem stand5 : ([70, 71, 5].all fun u => !Tryz.prog.wantsStandIn u) = true := by kernel_rfl
theorem inst5 : Tryz.f5.isInstance Tryz.prog Rows.wholeDelaysRow.origin Rows.wholeDelaysRow.targs := of_decide_eq_true (by kernel_rfl)
theorem wrap5 : Tryz.f5.isWrapper Tryz.prog Rows.wholeDelaysRow.wrapper Rows.wholeDelaysRow.mainSum := by
  unfold Func.isWrapper; first | (rw [if_pos (by decide +kernel)]; kernel_rfl) | (rw [if_neg (by decide +kernel)]; exact ⟨rfl, rfl⟩)
end Go.Proofs.YtcjphpenelnohaaGreatDoor
/- The card of WholeDelays. -/
namespace Go.Proofs.YtcjphpenelnohaaGreatDoor
open Go.RowKit Go.ChangeShapes Go.WideShapes Go.ChangeAt Go.Deep Go.Joins
theorem cells77 : Tryz.prog.cellsOf 77 = 2 := by kernel_rfl
theorem cells4 : Tryz.prog.cellsOf 4 = 1 := by kernel_rfl
theorem cells21 : Tryz.prog.cellsOf 21 = 1 := by kernel_rfl
theorem cells70 : Tryz.prog.cellsOf 70 = 4 := by kernel_rfl
theorem cell_pair {W : World} {a : Addr} {i : Nat} {v0 v1 : Value} (h0 : W.cell? (a.add (i * 2)) = some v0) (h1 : W.cell? (a.add (i * 2 + 1)) = some v1) : HC (fun b => W.heap[b]?) a.block (a.off + i * 2) [v0, v1] := by
  have hb : ∀ n, (a.add n).block = a.block ∧ (a.add n).off = a.off + n := fun n => by unfold Addr.add; split <;> simp_all
  unfold World.cell? at h0 h1
  rw [(hb _).1] at h0 h1
  cases e : W.heap[a.block]? with
  | none => rw [e] at h0; cases h0
  | some o =>
    rw [e] at h0 h1
    cases o with
    | cells c T fz =>
      simp only [(hb _).2] at h0 h1
      split at h0
      · cases h0
      · split at h1
        · cases h1
        · refine ⟨c, T, fz, e, fun j v hj => ?_⟩
          match j, hj with
          | 0, hj => simp at hj; subst hj; exact h0
          | 1, hj => simp at hj; subst hj; exact h1
    | _ => cases h0
theorem spot_none {W : World} {a : Addr} {v : Value} (h : W.cell? (a.add 0) = some v) : a.spot = none := by
  unfold World.cell? Addr.add at h
  simp only [if_true] at h
  split at h
  · split at h
    · cases h
    · rename_i hs; simpa using hs
  · cases h
def bOf : Value → Bool
  | .bool b => b
  | _ => false
def iOf : Value → Int
  | .int _ n => n
  | _ => 0
set_option maxRecDepth 100000 in
theorem beats {H : Type} {enc : TypeId × Value → H} {W : World} {v : Value} {d : DataW H} {ps : List MemPlace} {b0 : Nat} (hval : Value.okWide Tryz.prog W .any b0 71 v) (h : DataW.Trod enc Tryz.prog W 0 (fun _ => true) true 71 v d ps) :
    ∃ (a : Option Addr) (c : Nat) (l : List Bt), v = .slice a l.length c ∧ Sl cBt (fun b => W.heap[b]?) a c l ∧ ∀ x ∈ l, -2147483648 ≤ x.now ∧ x.now ≤ 2147483647 := by
  obtain ⟨a, len, cap, rfl⟩ := okWide_slice Tryz.underlying71 hval
  obtain ⟨fuel, hf⟩ := h
  rcases open_slice_pairs Tryz.underlying71 Tryz.underlying77 cells77 rfl rfl cells4 cells21 hf with ⟨hc, _⟩ | ⟨a, len, cap, m, n, V0, V1, D0, D1, P0, P1, hcs, _, hl, hm, hmm, hx, hall⟩
  · have hc' : [Value.slice a len cap] = [.slice none 0 0] := hc
    cases hc'
    exact ⟨none, 0, [], rfl, Sl.nil, fun x hx => by cases hx⟩
  · have hc' : [Value.slice _ _ _] = [.slice (some a) len cap] := hcs
    cases hc'
    simp only [if_true] at hmm
    subst hmm
    have key : ∀ i, i < m → ∃ b z, V0 i = .bool b ∧ V1 i = .int .i32 z ∧ (Lit.int .i32 z).wf = true ∧ HC (fun b => W.heap[b]?) a.block (a.off + i * 2) [.bool b, .int .i32 z] := fun i hi => by
      obtain ⟨h0, h1, t0, t1⟩ := hall i hi
      obtain ⟨b, e0, _⟩ := DataW.trod_bool Tryz.underlying4 t0
      obtain ⟨z, e1, _, hw⟩ := DataW.trod_int Tryz.underlying21 t1
      simp only [List.cons.injEq, and_true] at e0 e1
      rw [e0] at h0; rw [e1] at h1
      exact ⟨b, z, e0, e1, hw, cell_pair h0 h1⟩
    refine ⟨some a, m, (List.range len).map fun i => ⟨bOf (V0 i), iOf (V1 i)⟩, by simp, ⟨by simpa using hl, ?_⟩, ?_⟩
    · by_cases hz : len = 0
      · exact .inl (by simp [hz])
      · have hs : a.spot = none := spot_none (by have := (hall 0 (by omega)).1; simpa using this)
        refine .inr ⟨a.block, a.off, by cases a; simp at hs; subst hs; rfl, fun i x hi => ?_⟩
        have hil : i < len := by
          have := (List.getElem?_eq_some_iff.1 hi).1
          simpa using this
        rw [List.getElem?_map, List.getElem?_range hil] at hi
        obtain rfl := Option.some.inj hi
        obtain ⟨b, z, e0, e1, _, hc⟩ := key i (by omega)
        refine ⟨_, hc, ?_⟩
        show cBt.C _ _ ⟨bOf (V0 i), iOf (V1 i)⟩
        rw [e0, e1]; rfl
    · intro x hx
      obtain ⟨i, hi, rfl⟩ := List.mem_map.1 hx
      obtain ⟨b, z, e0, e1, hw, _⟩ := key i (by have := List.mem_range.1 hi; omega)
      rw [e1]
      simpa [iOf, Lit.wf, IntKind.min, IntKind.max, IntKind.signed, IntKind.bits] using hw
theorem one_int {H : Type} {enc : TypeId × Value → H} {W : World} {v : Value} {y : DataW H × List MemPlace} {n : Nat} (h : DataW.trod enc Tryz.prog W 0 (fun _ => true) true n 3 [v] = some y) : ∃ z, v = .int .i64 z ∧ -9223372036854775808 ≤ z ∧ z ≤ 9223372036854775807 := by
  obtain ⟨z, e1, _, hw⟩ := DataW.trod_int Tryz.underlying3 h
  simp only [List.cons.injEq, and_true] at e1
  exact ⟨z, e1, by simpa [Lit.wf, IntKind.min, IntKind.max, IntKind.signed, IntKind.bits] using hw⟩
theorem reads5 : ([70, 71, 5].all fun t => Tryz.prog.readableRec t && decide (t < Tryz.prog.types.size)) = true := by kernel_rfl
set_option maxRecDepth 100000 in
theorem contract (H : Type) (enc : TypeId × Value → H) (W : World) (base : Nat) (args : Array Value) (ds gs : List (DataW H)) (before : List MemPlace)
    (hval : ∀ (j : Nat) t v, Tryz.f5.params[j]? = some t → args[j]? = some v → Value.okWide Tryz.prog W .any base t v)
    (hW : DataW.Whole enc Tryz.prog Tryz.f5.params.toList Rows.wholeDelaysSpec.vars false W args.toList ds gs before) (hL : laidMetH Tryz.prog Rows.wholeDelaysRow.laid W) (hS : W.ShapedOpen Tryz.prog) :
    Calls Tryz.prog 5 args W fun e W' => ∃ v, e = .returned v ∧ Rows.wholeDelaysSpec.post enc Tryz.prog Tryz.f5 false true false false W args v W' := by
  have hW' := hW
  obtain ⟨p, q, hA0, hV, rfl, hfz, hnd⟩ := hW
  have hA : DataW.TrodAll enc Tryz.prog W 0 (fun _ => true) true Tryz.f5.params.toList args.toList ds p := hA0
  rw [Tryz.params5] at hA hval
  obtain ⟨v0, vs0, d0, ds0, p0, q0, hargs, rfl, rfl, h0, r0⟩ := trodAll_cons hA
  obtain ⟨v1, vs1, d1, ds1, p1, q1, rfl, rfl, rfl, h1, r1⟩ := trodAll_cons r0
  obtain ⟨v2, vs2, d2, ds2, p2, q2, rfl, rfl, rfl, h2, r2⟩ := trodAll_cons r1
  obtain ⟨rfl, rfl, rfl⟩ := trodAll_nil r2
  obtain rfl : args = #[v0, v1, v2] := by cases args; simp_all
  obtain ⟨rfl, rfl⟩ := trodVars_none hV
  obtain ⟨x0, x1, x2, x3, y0, y1, y2, y3, n, rfl, _, _, t0, t1, t2, t3⟩ := open_agg4 Tryz.underlying70 (by kernel_rfl) cells70 (hval 0 70 _ rfl rfl) h0
  obtain ⟨b, rfl, hb⟩ := one_int t0
  obtain ⟨c, rfl, hc⟩ := one_int t1
  obtain ⟨t, rfl, ht⟩ := one_int t2
  obtain ⟨m, rfl, hm⟩ := one_int t3
  obtain ⟨a, cp, l, rfl, hsl, hl⟩ := beats (hval 1 71 _ rfl rfl) h1
  obtain ⟨k, rfl, rfl, rfl, hk⟩ := open_int Tryz.underlying5 (hval 2 5 _ rfl rfl) h2
  have hk' : 0 ≤ k ∧ k ≤ 255 := by simpa [Lit.wf, IntKind.min, IntKind.max, IntKind.signed, IntKind.bits] using hk
  exact post_of_ct (c5 (fun b o h => h) (GT_of_laid hL hS) hsl (delays_true b c t m l k hl hk')) hW' rfl rfl (by kernel_rfl) (fun t ht => by
    rw [Tryz.params5] at ht
    have h := List.all_eq_true.1 reads5 t ht
    simp only [Bool.and_eq_true, decide_eq_true_eq] at h
    exact h)
noncomputable def laidWorld (os : Os) : World := World.laidAll Tryz.prog os Rows.wholeDelaysRow.laid
def args0 : Array Value := #[.agg #[.int .i64 0, .int .i64 0, .int .i64 0, .int .i64 0], .slice none 0 0, .int .u8 0]
theorem laid_met (os : Os) : laidMetH Tryz.prog Rows.wholeDelaysRow.laid ((laidWorld os).forCall (fun _ _ => 0) ⟨#[], args0, []⟩).memory := by
  rw [MakeChecks.laidMetH_plain _ _ _ (by kernel_rfl)]
  exact laidMet_laidAll _ (by kernel_rfl) (by kernel_rfl)
theorem whole0 (os : Os) {H : Type} (enc : TypeId × Value → H) : ∃ places, DataW.whole enc Tryz.prog ((laidWorld os).forCall (fun _ _ => 0) ⟨#[], args0, []⟩).memory Tryz.f5.params.toList Rows.wholeDelaysSpec.vars false args0.toList 8 =
    some ([.agg [.lit (.int .i64 0), .lit (.int .i64 0), .lit (.int .i64 0), .lit (.int .i64 0)], .nil, .lit (.int .u8 0)], [], places) := ⟨[], by kernel_rfl⟩
set_option maxRecDepth 100000 in
theorem lifted (os : Os) (started : os.Started) (H : Type) (enc : TypeId × Value → H) (F : Stop.Interp) :
    ReturnsInHanded {} Tryz.checked os 5 .any ((OpenSpec.ofChange Rows.wholeDelaysSpec).preRow enc Tryz.prog Tryz.f5 Rows.wholeDelaysRow.domain false Rows.wholeDelaysRow.laid) (((OpenSpec.ofChange Rows.wholeDelaysSpec).at F).post enc Tryz.prog Tryz.f5 false true false false) := by
  obtain ⟨places, hx⟩ := whole0 os enc
  have hok : Input.okWideB Tryz.prog ((laidWorld os).forCall (fun _ _ => 0) ⟨#[], args0, []⟩) 5 ⟨#[], args0, []⟩ = true := by kernel_rfl
  refine returnsInHanded_of_row (C := Tryz.checked) (s := OpenSpec.ofChange Rows.wholeDelaysSpec) own started (by kernel_rfl) Tryz.func5
    ⟨laidWorld os, fun _ _ => 0, ⟨#[], args0, []⟩, World.laidAll_os _ _ _, World.shaped_of_ZipB (by kernel_rfl) (by kernel_rfl), (Input.okWide_of_okWideB (base := 0) hok).1, (Input.okWide_of_okWideB hok).2,
      OpenSpec.preRow_of_cond 8 hx (by kernel_rfl) (fun k hk => by cases hk) (by kernel_rfl) (laid_met os), by
        simp only [Assume.holds]
        exact ⟨by simp, by simp, fun _ => Modest.zero, by simp, by simp⟩⟩ ?_
  intro W base args ds gs before hval hW _ _ _ hL hS _
  exact contract H enc W base args ds gs before hval hW hL hS
theorem eqp : Tryz.pinned.checked.prog = Tryz.prog := by kernel_rfl
theorem named5p : Tryz.pinned.checked.prog.funcNamed "flange/flangetop.WholeDelays" = some 5 := by rw [eqp]; exact named5
theorem func5p : Tryz.pinned.checked.prog.funcs[5]? = some Tryz.f5 := by rw [eqp]; exact Tryz.func5
theorem closed5p : joinedFacts Tryz.pinned.checked.prog 5 Tryz.f5 (OpenSpec.ofChange Rows.wholeDelaysSpec).bare Rows.wholeDelaysRow = true := by rw [eqp]; exact closed5
theorem inst5p : Tryz.f5.isInstance Tryz.pinned.checked.prog Rows.wholeDelaysRow.origin Rows.wholeDelaysRow.targs := by rw [eqp]; exact inst5
theorem wrap5p : Tryz.f5.isWrapper Tryz.pinned.checked.prog Rows.wholeDelaysRow.wrapper Rows.wholeDelaysRow.mainSum := by rw [eqp]; exact wrap5
theorem main5p : Tryz.pinned.checked.prog.mainIs = some (true, "3c43f17109cb3d08567c70e8ada6a11904f328128c58912f636baefadca35eef".toList) := by rw [eqp]; exact main5
theorem goes5p : false = Rows.wholeDelaysRow.goesBy Tryz.pinned.checked.prog := by rw [eqp]; exact goes5
theorem looks5p : true = Tryz.pinned.checked.prog.looks [] := by rw [eqp]; exact looks5
set_option maxRecDepth 100000 in
theorem said : Rows.WholeDelaysSaid :=
  OpenClaim.holds_of_cond (p := Tryz.pinned) (c := Rows.wholeDelaysRow) 5 Tryz.f5 rfl rfl rfl rfl rfl rfl rfl ⟨rfl, rfl, rfl, rfl, rfl⟩ rfl rfl rfl rfl rfl named5p func5p closed5p inst5p wrap5p
    (fun os started H enc _ F => by rw [OpenClaim.pre_eq_preRow]; exact lifted os started H enc F)
theorem plain (f : FuncId) (fn : Func) (hf : Tryz.pinned.checked.prog.funcNamed "flange/flangetop.WholeDelays" = some f) (hfn : Tryz.pinned.checked.prog.funcs[f]? = some fn) :
    true = Tryz.pinned.checked.prog.looks [] ∧ ∀ (j : Nat) t, fn.params[j]? = some t → Tryz.pinned.checked.prog.wantsStandIn t = false := by
  obtain rfl : f = 5 := Option.some.inj (named5p.symm.trans hf) |>.symm
  obtain rfl : fn = Tryz.f5 := (Option.some.inj (func5p.symm.trans hfn)).symm
  refine ⟨looks5p, fun j t ht => ?_⟩
  rw [Tryz.params5] at ht
  have hm : t ∈ [70, 71, 5] := by simpa using Array.mem_of_getElem? ht
  rw [eqp]
  simpa using List.all_eq_true.1 stand5 t hm
set_option maxRecDepth 100000 in
theorem wholeDelays_card : Rows.WholeDelaysCardSaid :=
  Claim7.holds_tied_plain_at .later (p := Tryz.pinned) (c := Rows.wholeDelaysRow) [] _ _ _ _ said (fun _ h => by cases h) wf5 (fun _ h => by cases h) wholeDelays_row_tie rfl ⟨rfl, rfl⟩ main5p rfl plain goes5p
end Go.Proofs.YtcjphpenelnohaaGreatDoor
