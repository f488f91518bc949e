/- The compact code of the functions is this seat's program's: what the machine calls good, the program does. -/
import Derived.Test.YtkcgdmjdkbgmkaaRows
import Derived.KernelRfl
import Derived.RangeFuncBox
import Derived.RangeFuncCalls
import Derived.RangeFuncLeaves
import Derived.RangeFuncFrom
import Derived.RangeFuncWrites
import Derived.Shelf.Abstract
import Derived.Shelf.RegionOpen
import Derived.WalkKit
import Derived.OwnWalkIn
import Derived.TacticsInMore
import Derived.LoopNIn
import Derived.LoopIn
import Derived.Test.YtkcgdmjdkbgmkaaM4
import Derived.Test.YtkcgdmjdkbgmkaaYeA
import Derived.Test.YtkcgdmjdkbgmkaaP1
namespace Go.Proofs.Ytkcgdmjdkbgmkaa.Tie
open Go.Mch
def fmL : List Nat := [0, 3, 0, 0, 0, 0, 0, 10, 0, 13, 0, 0, 0, 0, 7, 8, 9, 11, 12, 0, 0, 44, 0, 0, 0, 0, 0, 37, 0, 0, 39, 119, 40, 0, 0, 57, 0, 38, 41, 42, 43, 85, 25, 0, 0, 84, 94, 0, 0, 0, 90, 0, 0, 86, 87, 88, 112, 113, 114, 51, 60, 61, 0, 116, 117, 0, 0, 107, 128, 0, 132]
def fm (k : Nat) : Nat := fmL.getD k 0
theorem k1 : (Try.prog.funcs[3]?).any (okF Try.prog fm (lw_wpN 15 17)) = true := by kernel_rfl
theorem k14 : (Try.prog.funcs[7]?).any (okF Try.prog fm c_laws_szSolution) = true := by kernel_rfl
theorem k15 : (Try.prog.funcs[8]?).any (okF Try.prog fm c_spec_ActWord) = true := by kernel_rfl
theorem k16 : (Try.prog.funcs[9]?).any (okF Try.prog fm c_laws_toSolution) = true := by kernel_rfl
theorem k7 : (Try.prog.funcs[10]?).any (okF Try.prog fm c_laws_toInt64S) = true := by kernel_rfl
theorem k18 : (Try.prog.funcs[12]?).any (okF Try.prog fm c_laws_eqSolution) = true := by kernel_rfl
theorem k9 : (Try.prog.funcs[13]?).any (okF Try.prog fm c_laws_eqInt64S) = true := by kernel_rfl
theorem k42 : (Try.prog.funcs[25]?).any (okF Try.prog fm c_impl_IsSolution) = true := by kernel_rfl
theorem k27 : (Try.prog.funcs[37]?).any (okF Try.prog fm c_laws_szInt64SS) = true := by kernel_rfl
theorem k37 : (Try.prog.funcs[38]?).any (okF Try.prog fm c_spec_l09Code) = true := by kernel_rfl
theorem k30 : (Try.prog.funcs[39]?).any (okF Try.prog fm c_spec_l01In) = true := by kernel_rfl
theorem k32 : (Try.prog.funcs[40]?).any (okF Try.prog fm c_laws_toInt64SS) = true := by kernel_rfl
theorem k38 : (Try.prog.funcs[41]?).any (okF Try.prog fm c_impl_checkWords) = true := by kernel_rfl
theorem k39 : (Try.prog.funcs[42]?).any (okF Try.prog fm c_impl_areElements) = true := by kernel_rfl
theorem k40 : (Try.prog.funcs[43]?).any (okF Try.prog fm c_slices_Backward___int64_int64_) = true := by kernel_rfl
theorem k21 : (Try.prog.funcs[44]?).any (okF Try.prog fm c_laws_eqInt64SS) = true := by kernel_rfl
theorem k59 : (Try.prog.funcs[51]?).any (okF Try.prog fm c_impl_IsPairMap) = true := by kernel_rfl
theorem k35 : (Try.prog.funcs[57]?).any (okF Try.prog fm c_impl_within) = true := by kernel_rfl
theorem k60 : (Try.prog.funcs[60]?).any (okF Try.prog fm c_impl_collisionOf) = true := by kernel_rfl
theorem k61 : (Try.prog.funcs[61]?).any (okF Try.prog fm c_impl_equationFault) = true := by kernel_rfl
theorem k45 : (Try.prog.funcs[84]?).any (okF Try.prog fm c_laws_szInt64S) = true := by kernel_rfl
theorem k41 : (Try.prog.funcs[85]?).any (okF Try.prog fm c_spec_l02Is) = true := by kernel_rfl
theorem k53 : (Try.prog.funcs[86]?).any (okF Try.prog fm c_spec_l09Word) = true := by kernel_rfl
theorem k54 : (Try.prog.funcs[87]?).any (okF Try.prog fm c_impl_allWithin) = true := by kernel_rfl
theorem k50 : (Try.prog.funcs[90]?).any (okF Try.prog fm c_impl_IsTable) = true := by kernel_rfl
theorem k46 : (Try.prog.funcs[94]?).any (okF Try.prog fm c_spec_l01Table) = true := by kernel_rfl
theorem k67 : (Try.prog.funcs[107]?).any (okF Try.prog fm c_spec_l01Same) = true := by kernel_rfl
theorem k56 : (Try.prog.funcs[112]?).any (okF Try.prog fm c_spec_l02Map) = true := by kernel_rfl
theorem k57 : (Try.prog.funcs[113]?).any (okF Try.prog fm c_spec_l02Collision) = true := by kernel_rfl
theorem k58 : (Try.prog.funcs[114]?).any (okF Try.prog fm c_spec_l02Fault) = true := by kernel_rfl
theorem k63 : (Try.prog.funcs[116]?).any (okF Try.prog fm c_slices_ContainsFunc_____int64___int64_) = true := by kernel_rfl
theorem k64 : (Try.prog.funcs[117]?).any (okF Try.prog fm c_impl_IsTable_1) = true := by kernel_rfl
theorem k31 : (Try.prog.funcs[119]?).any (okF Try.prog fm c_spec_l01Own) = true := by kernel_rfl
theorem k68 : (Try.prog.funcs[128]?).any (okF Try.prog fm c_spec_l02Do) = true := by kernel_rfl
theorem k70 : (Try.prog.funcs[132]?).any (okF Try.prog fm c_slices_IndexFunc_____int64___int64_) = true := by kernel_rfl
def tab : List (Nat × F) := [(1, (lw_wpN 15 17)), (14, c_laws_szSolution), (15, c_spec_ActWord), (16, c_laws_toSolution), (7, c_laws_toInt64S), (18, c_laws_eqSolution), (9, c_laws_eqInt64S), (42, c_impl_IsSolution), (27, c_laws_szInt64SS), (37, c_spec_l09Code), (30, c_spec_l01In), (32, c_laws_toInt64SS), (38, c_impl_checkWords), (39, c_impl_areElements), (40, c_slices_Backward___int64_int64_), (21, c_laws_eqInt64SS), (59, c_impl_IsPairMap), (35, c_impl_within), (60, c_impl_collisionOf), (61, c_impl_equationFault), (45, c_laws_szInt64S), (41, c_spec_l02Is), (53, c_spec_l09Word), (54, c_impl_allWithin), (50, c_impl_IsTable), (46, c_spec_l01Table), (67, c_spec_l01Same), (56, c_spec_l02Map), (57, c_spec_l02Collision), (58, c_spec_l02Fault), (63, c_slices_ContainsFunc_____int64___int64_), (64, c_impl_IsTable_1), (31, c_spec_l01Own), (68, c_spec_l02Do), (70, c_slices_IndexFunc_____int64___int64_)]
def pg0 : Pg := { fn := fun f => (tab.find? fun x => x.1 == f).map (·.2) }
theorem all_ok : ∀ x, x ∈ tab → (Try.prog.funcs[fm x.1]?).any (okF Try.prog fm x.2) = true := by
 intro x hx
 unfold tab at hx
 simp only [List.mem_cons, List.not_mem_nil, or_false] at hx
 rcases hx with rfl | rfl | rfl | rfl | rfl | rfl | rfl | rfl | rfl | rfl | rfl | rfl | rfl | rfl | rfl | rfl | rfl | rfl | rfl | rfl | rfl | rfl | rfl | rfl | rfl | rfl | rfl | rfl | rfl | rfl | rfl | rfl | rfl | rfl | rfl
 · exact k1
 · exact k14
 · exact k15
 · exact k16
 · exact k7
 · exact k18
 · exact k9
 · exact k42
 · exact k27
 · exact k37
 · exact k30
 · exact k32
 · exact k38
 · exact k39
 · exact k40
 · exact k21
 · exact k59
 · exact k35
 · exact k60
 · exact k61
 · exact k45
 · exact k41
 · exact k53
 · exact k54
 · exact k50
 · exact k46
 · exact k67
 · exact k56
 · exact k57
 · exact k58
 · exact k63
 · exact k64
 · exact k31
 · exact k68
 · exact k70
theorem follows : Try.prog.follows .mixedOrders = true := by kernel_rfl
theorem prog_ok0 : ∀ f F, pg0.fn f = some F → ∃ fn, Try.prog.funcs[fm f]? = some fn ∧ okF Try.prog fm F fn = true := by
 intro f F h
 simp only [pg0, Option.map_eq_some_iff] at h
 obtain ⟨x, h1, rfl⟩ := h
 have hm := List.mem_of_find?_eq_some h1
 have he := List.find?_some h1
 simp only [beq_iff_eq] at he
 have := all_ok x hm
 rw [he] at this
 rw [Option.any_eq_true] at this
 exact this
theorem pact0 {f : Nat} {args args' : List T} {r : T} (h : Go.Mch.Call pg0 f args args' r) : Pact Try.prog fm f args args' r :=
 sound follows (fun _ _ _ _ h => False.elim h) prog_ok0 h
def pg : Pg := { fn := pg0.fn, prim := fun f args args' r => f = 17 ∧ actP (Go.Mch.Call pg0) args args' r }
theorem act_call : ∀ args args' r, actP (Go.Mch.Call pg0) args args' r → Go.Mch.Call pg 17 args args' r := fun _ _ _ h _ hp _ => hp 17 _ _ _ ⟨rfl, h⟩
section
open Go.RowKit Go.Shelf
attribute [local go_sem] Oper.semAt_some
theorem lit38 (t : Array Value) (h : t.size = 38) : t = #[t.getD 0 undef, t.getD 1 undef, t.getD 2 undef, t.getD 3 undef, t.getD 4 undef, t.getD 5 undef, t.getD 6 undef, t.getD 7 undef, t.getD 8 undef, t.getD 9 undef, t.getD 10 undef, t.getD 11 undef, t.getD 12 undef, t.getD 13 undef, t.getD 14 undef, t.getD 15 undef, t.getD 16 undef, t.getD 17 undef, t.getD 18 undef, t.getD 19 undef, t.getD 20 undef, t.getD 21 undef, t.getD 22 undef, t.getD 23 undef, t.getD 24 undef, t.getD 25 undef, t.getD 26 undef, t.getD 27 undef, t.getD 28 undef, t.getD 29 undef, t.getD 30 undef, t.getD 31 undef, t.getD 32 undef, t.getD 33 undef, t.getD 34 undef, t.getD 35 undef, t.getD 36 undef, t.getD 37 undef] := by
 have h2 : t = ((List.range 38).map fun i => t.getD i undef).toArray := by
  refine Array.ext (by simp [h]) fun i hi _ => ?_
  simp [Array.getD_eq_getD_getElem?, hi]
 exact h2

/-- What has come when k rounds are over. -/
def bkTo {α : Type} (nth : Nat → α) (k : Nat) : List α := (List.range k).map nth
theorem bkTo_succ {α : Type} (nth : Nat → α) (k : Nat) : bkTo nth (k + 1) = bkTo nth k ++ [nth k] := by simp [bkTo, List.range_succ]
theorem bkTo_length {α : Type} (nth : Nat → α) (k : Nat) : (bkTo nth k).length = k := by simp [bkTo]

set_option maxRecDepth 100000 in
set_option maxHeartbeats 2000000 in
theorem back_in {α : Type} (F : Fence) (n : Nat) (h8 : F.fn 88) (hro : F.round = none) (hn : 1 ≤ n) (l Bs ob b off cap : Nat) (zs : List Nat) (enc : α → Int × Int) (nth : Nat → α)
 (hnth : ∀ j, j < zs.length → enc (nth j) = ((zs.length : Int) - 1 - j, ((zs[zs.length - 1 - j]?.getD 0 : Nat) : Int))) (hreach : zs.length ≤ 1073741824) (Kp : World → World → Prop) (J Jx : List α → World → Prop)
 (hY : ∀ pre x W, J pre W → pre.length < zs.length → YieldAt F (n - 1) Try.prog l #[.int .i64 (enc x).1, .int .i64 (enc x).2] W fun e W' =>
  (e = .returned (.bool true) ∧ J (pre ++ [x]) W' ∧ Kp W W') ∨ (e = .returned (.bool false) ∧ Jx (pre ++ [x]) W'))
 (W : World) (hrefl : Kp W W) (htr : ∀ A B, Kp W A → Kp A B → Kp W B)
 (hBs : ∀ A, Kp W A → A.cell? ⟨Bs, ob, none⟩ = some (.slice (some ⟨b, off, none⟩) zs.length cap)) (hc : ∀ A, Kp W A → ∀ j, j < zs.length → A.cell? ⟨b, off + j, none⟩ = some (.int .i64 ((zs[j]?.getD 0 : Nat) : Int))) (h0 : J [] W) :
 CallsIn F n Try.prog 88 #[.func (.yield l) #[] #[], .pointer (some ⟨Bs, ob, none⟩)] W fun e W' => (∃ v, e = .returned v) ∧
  ((∃ ys, ys = bkTo nth zs.length ∧ J ys W') ∨ (∃ pre, True ∧ Jx pre W')) := by
 refine callsIn_of_wp Try.func88 rfl h8 ?_ hro
 simp only [Try.ntmps88, List.size_toArray, List.length_cons, List.length_nil, Nat.reduceAdd, Nat.reduceSub, Array.replicate_succ, Array.replicate_zero, List.push_toArray, List.append_toArray, List.nil_append, List.cons_append]
 have hBs0 := hBs W hrefl
 gi_wp2
 gi_loopw [3] (fun i wr => ∃ k : Nat, k ≤ zs.length ∧ i = .int .i64 ((zs.length : Int) - 1 - k) ∧ J (bkTo nth k) wr ∧ Kp W wr)
  (fun i _ => (intOf i + 1).toNat)
 case atStart => exact ⟨0, Nat.zero_le _, by simp, h0, hrefl⟩
 case round =>
  obtain ⟨k, hk, rfl, hJs, hnx⟩ := hrel
  have hBsr := hBs wr hnx
  by_cases hlt : k < zs.length
  · have hcx := hc wr hnx (zs.length - 1 - k) (by omega)
    obtain ⟨fn, tmps, assign, body, hy, hR⟩ := hY _ (nth k) wr hJs (by rw [bkTo_length]; exact hlt)
    rw [hnth k hlt] at hy
    dsimp only at hy
    gi_wp2
    refine hR.mono ?_
    rintro e W3 (⟨rfl, hJ3, hk3⟩ | ⟨rfl, hJx3⟩)
    · gi_wp2
      go_roundw
      case rel => exact ⟨k + 1, by omega, by simp; omega, by rw [bkTo_succ]; exact hJ3, htr _ _ hnx hk3⟩
      case measure => simp [intOf]; omega
    · gi_wp2
      refine bodyPost_ret (results_none rfl _ _ _) rfl ?_
      exact ⟨⟨_, rfl⟩, .inr ⟨_, trivial, hJx3⟩⟩
  · obtain rfl : k = zs.length := by omega
    gi_wp2
    go_end0
    exact ⟨⟨_, rfl⟩, .inl ⟨_, rfl, hJs⟩⟩

set_option maxRecDepth 100000 in
set_option maxHeartbeats 1000000 in
theorem back_nil_in {α : Type} (F : Fence) (n : Nat) (h8 : F.fn 88) (hro : F.round = none) (l Bs ob cap : Nat) (ad : Option Addr) (J : List α → World → Prop) (W : World) (hBs : W.cell? ⟨Bs, ob, none⟩ = some (.slice ad 0 cap)) (h0 : J [] W) :
 CallsIn F n Try.prog 88 #[.func (.yield l) #[] #[], .pointer (some ⟨Bs, ob, none⟩)] W fun e W' => (∃ v, e = .returned v) ∧ J [] W' := by
 refine callsIn_of_wp Try.func88 rfl h8 ?_ hro
 simp only [Try.ntmps88, List.size_toArray, List.length_cons, List.length_nil, Nat.reduceAdd, Nat.reduceSub, Array.replicate_succ, Array.replicate_zero, List.push_toArray, List.append_toArray, List.nil_append, List.cons_append]
 gi_wp2
 gi_loopw [3] (fun i wr => i = .int .i64 (-1) ∧ J [] wr) (fun _ _ => 0)
 case atStart => exact ⟨rfl, h0⟩
 case round =>
  obtain ⟨rfl, hJs⟩ := hrel
  gi_wp2
  go_end0
  exact ⟨⟨_, rfl⟩, hJs⟩

/-- What a round keeps: all blocks that lay but one. -/
def keepBut (N B : Nat) (W W' : World) : Prop := ∀ b, b < N → b ≠ B → W'.heap[b]? = W.heap[b]?

theorem back_stops {w1 w0 : World} {M : Nat → Prop} {v3 v5 v26 : Value} {g B5 o5 Bs os x0 n : Nat} {sv : Value} {tab : Nat → Nat → Nat} {zs : List Nat} (h : ActAt w1 w0 M v3 v5 v26 g B5 o5 Bs os x0 n sv tab zs) {α : Type} {m : Nat} (hm : 1 ≤ m) (enc : α → Int × Int) (nth : Nat → α)
 (hnth : ∀ j, j < zs.length → enc (nth j) = ((zs.length : Int) - 1 - j, ((zs[zs.length - 1 - j]?.getD 0 : Nat) : Int))) (hreach : zs.length ≤ 1073741824) :
 SeqStopsK Fence.wide m Try.prog 88 #[.pointer (some ⟨Bs, os, none⟩)] (fun x => #[.int .i64 (enc x).1, .int .i64 (enc x).2]) (keepBut w1.heap.size B5) (fun ys => ys = bkTo nth zs.length) (fun _ => True) zs.length w1 := by
 intro l J Jx W hW _ _ hY h0
 have hcell : ∀ A, keepBut w1.heap.size B5 W A → ∀ (b o : Nat) (v : Value), b ≠ B5 → w1.cell? ⟨b, o, none⟩ = some v → A.cell? ⟨b, o, none⟩ = some v := fun A hA b o v hb hc => by
  have hlt : b < w1.heap.size := blk_lt hc
  rw [World.cell?_of_block (a := ⟨b, o, none⟩) ((hA b hlt hb).trans (hW.block b hlt))]
  exact hc
 have hrefl : keepBut w1.heap.size B5 W W := fun _ _ _ => rfl
 have hcS := h.cS
 rcases h.sl with ⟨hz, ad, cap, rfl⟩ | ⟨b, off, cap, hb, rfl, hc⟩
 · refine (back_nil_in (α := α) Fence.wide m trivial rfl l Bs os cap ad J W (hcell W hrefl _ _ _ h.neS hcS) h0).mono ?_
   rintro e W' ⟨he, hj⟩
   exact ⟨he, .inl ⟨_, by rw [hz]; rfl, hj⟩⟩
 · refine (back_in Fence.wide m trivial rfl hm l Bs os b off cap zs enc nth hnth hreach (keepBut w1.heap.size B5) J Jx hY W hrefl (fun A B h1 h2 b hb hb5 => (h2 b hb hb5).trans (h1 b hb hb5))
    (fun A hA => hcell A hA _ _ _ h.neS hcS) (fun A hA j hj => hcell A hA _ _ _ hb (hc j hj)) h0).mono ?_
   rintro e W' ⟨he, hj⟩
   exact ⟨he, hj⟩

theorem bk_fold (tab : Nat → Nat → Nat) {x0 n : Nat} (hx0 : x0 < n) {zs : List Nat} (hzn : ∀ z ∈ zs, z < n) :
 (bkTo (fun j => (((zs.length : Int) - 1 - j, if h : zs[zs.length - 1 - j]?.getD 0 < n then ⟨_, h⟩ else ⟨x0, hx0⟩) : Int × Fin n)) zs.length).foldl (fun x p => tab p.2.val x) x0 = zs.foldr (fun l x => tab l x) x0 := by
 have h1 : (bkTo (fun j => (((zs.length : Int) - 1 - j, if h : zs[zs.length - 1 - j]?.getD 0 < n then ⟨_, h⟩ else ⟨x0, hx0⟩) : Int × Fin n)) zs.length).map (fun p => p.2.val) = zs.reverse := by
  refine List.ext_getElem (by simp [bkTo]) fun i hi hi2 => ?_
  simp only [List.length_reverse] at hi2
  have hlt : zs.length - 1 - i < zs.length := by omega
  have hm : zs[zs.length - 1 - i] < n := hzn _ (List.getElem_mem hlt)
  simp [bkTo, hlt, hm]
 rw [← List.foldl_reverse, ← h1, List.foldl_map]

theorem act_step {N B5 o5 : Nat} {W : World} {u v : Value} (hc : W.cell? ⟨B5, o5, none⟩ = some u) (hf : W.frozen? ⟨B5, o5, none⟩ = false) :
 KeepsOthers W (W.setCell ⟨B5, o5, none⟩ v).drew ∧ keepBut N B5 W (W.setCell ⟨B5, o5, none⟩ v).drew ∧ (W.setCell ⟨B5, o5, none⟩ v).drew.cell? ⟨B5, o5, none⟩ = some v ∧ (W.setCell ⟨B5, o5, none⟩ v).drew.frozen? ⟨B5, o5, none⟩ = false ∧
  (W.setCell ⟨B5, o5, none⟩ v).drew.heap.size = W.heap.size :=
 ⟨(KeepsOthers.setCell _ _ _).trans (KeepsOthers.drew _), fun b _ hb => Below.heap_setCell _ _ _ _ (fun e => hb e), World.cell?_setCell_same' _ _ _ (by rw [hc]; rfl), by rw [frozen_drew_own, World.frozen?_setCell]; exact hf, by simp [World.drew, World.setCell]⟩

def seqL : Code → Code
 | .seq a _ => a
 | c => c
def seqR : Code → Code
 | .seq _ b => b
 | c => c

set_option maxRecDepth 100000 in
set_option maxHeartbeats 4000000 in
theorem act_pact {fm : Nat → Nat} {G : Rl} (hP : Try.prog.follows .mixedOrders = true) (hG : ∀ f args args' r, G f args args' r → Pact Try.prog fm f args args' r) (h17 : fm 17 = 11) (h55 : fm 55 = 88)
 (okA : okC Try.prog fm 38 actA (seqL (Try.f11.body.getD .skip)) = true) (okB : okC Try.prog fm 38 actB (seqL (seqR (Try.f11.body.getD .skip))) = true) (okC' : okC Try.prog fm 38 actC (seqL (seqR (seqR (Try.f11.body.getD .skip)))) = true) (okD : okC Try.prog fm 38 actD (seqL (seqL (seqR (seqR (seqR (Try.f11.body.getD .skip)))))) = true)
 {args args' : List T} {r : T} (h : actP G args args' r) : Pact Try.prog fm 17 args args' r := by
 obtain ⟨h3, hno, hargs, hw⟩ := h
 have hargs := hargs.symm
 subst hargs
 refine ⟨⟨Try.f11, by rw [h17]; exact Try.func11, rfl, by kernel_rfl⟩, fun w vs A M hA hsz hM hR => ?_⟩
 rw [h17]
 have hsz3 : vs.size = 3 := hsz.trans h3
 refine (callsIn_wide (n := 9)).1 ?_
 refine callsIn_of_wp_marks Try.func11 rfl trivial ?_ rfl
 have hnt : Try.f11.ntmps = 38 := by kernel_rfl
 rw [hnt]
 have hrel : Rel (cx0 fm w A M hA) 38 (init args) { tmps := vs ++ Array.replicate (38 - vs.size) undef, defers := [] } w := by
  refine ⟨hR.congr fun s x hx => ?_, fun j hj => ?_, by simp; omega, rfl⟩
  · obtain ⟨t, ht, _⟩ := init_some hx
    have hs : s < vs.size := by
     rw [hsz]
     rcases Nat.lt_or_ge s args.length with h' | h'
     · exact h'
     · rw [List.getElem?_eq_none h'] at ht; cases ht
    simp only [vlA, Array.getD_eq_getD_getElem?]
    rw [Array.getElem?_append_left hs]
  · unfold init
    rw [List.getElem?_eq_none (by omega)]
    rfl
 have hm2 : K.fresh = K.fresh → ∀ b, ¬ (cx0 fm w A M hA).M b := fun _ => hM (by unfold kindOf; rw [if_pos hno])
 have hrs : okRs Try.prog [.t 6, .t 7] Try.f11.results.toList = true := by kernel_rfl
 have hret : ∀ (e : Env) (a : Act) (w' : World), actR args r .ret e → Rel (cx0 fm w A M hA) 38 e a w' → bodyPostM Fence.wide 9 Try.prog Try.f11 (Back fm args args r w vs A M hA) .ret a w' := fun e a w' hp hr =>
  leave_ok hrs (by omega) hno hr (x := .ret) (fun _ => rfl) hp
 simp only [wp] at hw
 refine pre_in (cx := cx0 fm w A M hA) (n := 9) (A := actA) hP hG (fun _ h => h) (by decide) hm2 okA hw hrel (fun e1 a1 w1 hw1 hr1 => ?_) hret (fun _ _ h => h)
 refine pre_in (cx := cx0 fm w A M hA) (n := 9) (A := actB) hP hG (fun _ h => h) (by decide) hm2 okB hw1 hr1 (fun e2 a2 w2 hw2 hr2 => ?_) hret (fun _ _ h => h)
 refine pre_in (cx := cx0 fm w A M hA) (n := 9) (A := actC) hP hG (fun _ h => h) (by decide) hm2 okC' hw2 hr2 (fun e3 a3 w3 hw3 hr3 => ?_) hret (fun _ _ h => h)
 refine wpIn_seq ?_
 refine pre_in (cx := cx0 fm w A M hA) (n := 9) (A := actD) hP hG (fun _ h => h) (by decide) hm2 okD hw3 hr3 (fun e4 a4 w4 hw4 hr4 => ?_) (fun e a w' h1 h2 => hret e a w' h1 h2) (fun _ _ h => h)
 obtain ⟨B5, o5, Bs, os, x0, n, sv, tab, zs, hat, hx0, hz, hzn, rfl⟩ := act_at hr4 hw4
 obtain ⟨B3, o3, bF, oF, capF, hv3, hB3, hbF, hc3, hrows⟩ := hat.box
 have hsz4 := hr4.size
 have hdf4 := hr4.defers
 have hv5 := hat.e5
 have hv26 := hat.e26
 rw [h55] at hv26
 obtain ⟨tm, df⟩ := a4
 have hv3' : tm.getD 3 undef = .pointer (some ⟨B3, o3, none⟩) := hv3
 have hv5' : tm.getD 5 undef = .pointer (some ⟨B5, o5, none⟩) := hv5
 have hv26' : tm.getD 26 undef = .func (.func 88) #[] #[.pointer (some ⟨Bs, os, none⟩)] := hv26
 have ht := lit38 tm hsz4
 rw [hv3', hv5', hv26'] at ht
 generalize tm.getD 0 undef = v0 at ht
 generalize tm.getD 1 undef = v1 at ht
 generalize tm.getD 2 undef = v2 at ht
 generalize tm.getD 4 undef = v4 at ht
 generalize tm.getD 6 undef = v6 at ht
 generalize tm.getD 7 undef = v7 at ht
 generalize tm.getD 8 undef = v8 at ht
 generalize tm.getD 9 undef = v9 at ht
 generalize tm.getD 10 undef = v10 at ht
 generalize tm.getD 11 undef = v11 at ht
 generalize tm.getD 12 undef = v12 at ht
 generalize tm.getD 13 undef = v13 at ht
 generalize tm.getD 14 undef = v14 at ht
 generalize tm.getD 15 undef = v15 at ht
 generalize tm.getD 16 undef = v16 at ht
 generalize tm.getD 17 undef = v17 at ht
 generalize tm.getD 18 undef = v18 at ht
 generalize tm.getD 19 undef = v19 at ht
 generalize tm.getD 20 undef = v20 at ht
 generalize tm.getD 21 undef = v21 at ht
 generalize tm.getD 22 undef = v22 at ht
 generalize tm.getD 23 undef = v23 at ht
 generalize tm.getD 24 undef = v24 at ht
 generalize tm.getD 25 undef = v25 at ht
 generalize tm.getD 27 undef = v27 at ht
 generalize tm.getD 28 undef = v28 at ht
 generalize tm.getD 29 undef = v29 at ht
 generalize tm.getD 30 undef = v30 at ht
 generalize tm.getD 31 undef = v31 at ht
 generalize tm.getD 32 undef = v32 at ht
 generalize tm.getD 33 undef = v33 at ht
 generalize tm.getD 34 undef = v34 at ht
 generalize tm.getD 35 undef = v35 at ht
 generalize tm.getD 36 undef = v36 at ht
 generalize tm.getD 37 undef = v37 at ht
 replace hat : ActAt w4 w M (.pointer (some ⟨B3, o3, none⟩)) (.pointer (some ⟨B5, o5, none⟩)) (.func (.func 88) #[] #[.pointer (some ⟨Bs, os, none⟩)]) 88 B5 o5 Bs os x0 n sv tab zs := by
  have := hat
  rw [hv3, hv5, hv26, h55] at this
  exact this
 clear hv3 hv5 hv26 hv3' hv5' hv26' hr4 hw4 hsz4
 subst ht
 replace hdf4 : df = [] := hdf4
 subst hdf4
 refine wpIn_block ?_
 refine wpIn_rangeFunc_ownF rfl (by omega) (gf := 88) (lb := #[.pointer (some ⟨Bs, os, none⟩)]) rfl trivial (enters_of Try.func88 (by kernel_rfl) rfl)
  (back_stops hat (m := 8) (by omega) (α := Int × Fin n) (fun x => (x.1, ((x.2.val : Nat) : Int))) (fun j => ((zs.length : Int) - 1 - j, if h : zs[zs.length - 1 - j]?.getD 0 < n then ⟨_, h⟩ else ⟨x0, hx0⟩)) ?nth hz)
  (fun h k b hb hb5 => (k b hb hb5).trans (h b hb hb5)) (fun W l o o' hl _ _ _ b hb _ => World.putObj_heap_other (by omega)) (Below.refl _ _) (fun _ => rfl)
  (fun pre W => ∃ y, y < n ∧ y = pre.foldl (fun x p => tab p.2.val x) x0 ∧ W.cell? ⟨B5, o5, none⟩ = some (.int .i64 ((y : Nat) : Int)) ∧ W.frozen? ⟨B5, o5, none⟩ = false ∧ W.os = w4.os ∧ W.tape = w4.tape ∧ W.output = w4.output ∧ w4.heap.size ≤ W.heap.size ∧ keepBut w4.heap.size B5 w4 W)
  (fun _ _ _ => False)
  (fun s A B row hs hg hr => ?own) (fun _ _ _ _ _ hs _ _ => hs) ⟨x0, hx0, rfl, hat.c5, hat.fz, rfl, rfl, rfl, Nat.le_refl _, fun _ _ _ => rfl⟩
  (fun x => { tmps := #[v0, v1, v2, .pointer (some ⟨B3, o3, none⟩), v4, .pointer (some ⟨B5, o5, none⟩), v6, v7, v8, v9, .int .i64 ((x.2.val : Nat) : Int), v11, v12, v13, v14, v15, v16, v17, v18, v19, v20, v21, v22, v23, v24, v25, .func (.func 88) #[] #[.pointer (some ⟨Bs, os, none⟩)], .int .i64 x.1, .int .i64 ((x.2.val : Nat) : Int), v29, v30, v31, v32, v33, v34, v35, v36, v37], defers := [] }) ?assign ?body ?done ?stop
 case nth =>
  intro j hj
  have hlt : zs.length - 1 - j < zs.length := by omega
  have hm : zs[zs.length - 1 - j] < n := hzn _ (List.getElem_mem hlt)
  simp [hlt, hm]
 case own =>
  obtain ⟨y, h1, h2, h3, h4, h5, h6, h7, h8, h9⟩ := hs
  refine ⟨y, h1, h2, cell_kept h3 hg (fun r e => (hr r e).2), (frozen_kept h3 hg (fun r e => (hr r e).2)).trans h4, hg.os.trans h5, hg.tape.trans h6, hg.output.trans h7, Nat.le_trans h8 hg.size, fun b hb hb5 => ?_⟩
  rw [← h9 b hb hb5]
  exact hg.block b (by omega) (fun e => by have := (hr b e.symm).1; omega)
 case assign =>
  intro l x W K hK
  gi_wp2
  exact hK
 case body =>
  rintro l pre x W ⟨_, hy, rfl, hc5, hfz, hos, htape, hout, hsz, hkb⟩ _
  have hcell : ∀ (b o : Nat) (v : Value), b ≠ B5 → w4.cell? ⟨b, o, none⟩ = some v → W.cell? ⟨b, o, none⟩ = some v := fun b o v hb hc => by
   rw [World.cell?_of_block (a := ⟨b, o, none⟩) (hkb b (blk_lt hc) hb)]
   exact hc
  obtain ⟨bR, oR, capR, hbR, hcR, hrow⟩ := hrows x.2.val x.2.isLt
  obtain ⟨hty, hcy⟩ := hrow _ hy
  have g3 := hcell _ _ _ hB3 hc3
  have gR := hcell _ _ _ hbF hcR
  have gy := hcell _ _ _ hbR hcy
  have hxl : x.2.val < n := x.2.isLt
  gi_wp2
  gi_region
  all_goals gi_wp2
  all_goals
   obtain ⟨q1, q2, q3, q4, q5⟩ := act_step (N := w4.heap.size) (v := .int .i64 ((tab x.2.val (pre.foldl (fun x p => tab p.2.val x) x0) : Nat) : Int)) hc5 hfz
   exact ⟨q1, q2, _, hty, by rw [List.foldl_append]; rfl, q3, q4, hos, htape, hout, by rw [q5]; exact hsz, fun b hb hb5 => (q2 b hb hb5).trans (hkb b hb hb5)⟩
 case done =>
  rintro D xs W hD rfl ⟨_, hy, rfl, hc5, hfz, hos, htape, hout, hsz, hkb⟩ hK
  rw [bk_fold tab hx0 hzn] at hc5
  gi_wp2
  refine ⟨by simp, .inl ⟨_, _, rfl, run_takeDeferred hK, ?_⟩⟩
  refine ⟨.tuple #[.int .i64 ((zs.foldr (fun l x => tab l x) x0 : Nat) : Int), .int .i64 0], by simp [results, Try.f11, go_sem], leave_act (w' := W.putObj D (.deferred none)) hno ⟨hos.trans hat.keeps.os, htape.trans hat.keeps.tape, hout.trans hat.keeps.output, ?_, fun b hb hM' => ?_⟩⟩
  · have := hat.keeps.size
    simp
    omega
  · have hs := hat.keeps.size
    have hb5 : b ≠ B5 := fun e => by
     rcases hat.free with h | h
     · omega
     · exact hM' (by rw [e]; exact h)
    rw [World.putObj_heap_other (by omega), hkb b (by omega) hb5]
    exact hat.keeps.block b hb hM'
 case stop =>
  rintro D c pre W _ _ h _
  exact h.elim
end
theorem okA : okC Try.prog fm 38 actA (seqL (Try.f11.body.getD .skip)) = true := by kernel_rfl
theorem okB : okC Try.prog fm 38 actB (seqL (seqR (Try.f11.body.getD .skip))) = true := by kernel_rfl
theorem okC' : okC Try.prog fm 38 actC (seqL (seqR (seqR (Try.f11.body.getD .skip)))) = true := by kernel_rfl
theorem okD : okC Try.prog fm 38 actD (seqL (seqL (seqR (seqR (seqR (Try.f11.body.getD .skip)))))) = true := by kernel_rfl
theorem pact {f : Nat} {args args' : List T} {r : T} (h : Go.Mch.Call pg f args args' r) : Pact Try.prog fm f args args' r :=
 sound (pg := pg) follows (fun _ _ _ _ h => by obtain ⟨rfl, h⟩ := h; exact act_pact follows (fun _ _ _ _ => pact0) (by kernel_rfl) (by kernel_rfl) okA okB okC' okD h) prog_ok0 h
end Go.Proofs.Ytkcgdmjdkbgmkaa.Tie
