/- The law FnSolutionGroups returns true for all arguments that hold together at most 1048576 values. -/
import Derived.Test.YtkcgdmjdkbgmkaaGreatTie
import Derived.Test.YtkcgdmjdkbgmkaaGreatP1
import Derived.Test.YtkcgdmjdkbgmkaaGreatP2
namespace Go.Proofs.YtkcgdmjdkbgmkaaGreat.fnSolutionGroups
open Go.Mch Tie
theorem s_big:S_big pg:=t_big (show pg.fn 128=some _ from rfl)
theorem s_from:S_from pg:=t_from (show pg.fn 269=some _ from rfl)
theorem s_nxt:S_nxt pg:=t_nxt (show pg.fn 336=some _ from rfl)
theorem s_aff:S_aff pg:=t_aff (show pg.fn 424=some _ from rfl)
theorem s_in_30:S_in pg 30:=t_l01In (show pg.fn 30=some _ from rfl)
theorem s_table_46:S_table pg 46:=t_l01Table (show pg.fn 46=some _ from rfl) s_in_30
theorem s_index:S_index pg:=t_index (show pg.fn 69=some _ from rfl)
theorem s_has:S_has pg:=t_has (show pg.fn 62=some _ from rfl) s_index
theorem s_perm_47:S_perm pg 47:=t_l01Perm (show pg.fn 47=some _ from rfl) s_in_30 s_has
theorem s_l01Rows:S_l01Rows pg:=t_l01Rows (show pg.fn 410=some _ from rfl) s_perm_47
theorem s_sqs:S_sqs pg:=t_sqs (show pg.fn 417=some _ from rfl)
theorem s_flt:S_flt pg:=t_flt (show pg.fn 418=some _ from rfl)
theorem s_cyI:S_cyI pg:=t_cyI (show pg.fn 363=some _ from rfl) s_table_46 s_l01Rows s_sqs s_perm_47 s_flt
theorem s_unit:S_unit pg:=t_unit (show pg.fn 334=some _ from rfl)
theorem s_own:S_own pg:=t_own (show pg.fn 31=some _ from rfl)
theorem s_twst:S_twst pg:=t_twst (show pg.fn 425=some _ from rfl) s_own
theorem s_flp:S_flp pg:=t_flp (show pg.fn 449=some _ from rfl) s_unit s_twst
theorem s_poly:S_poly pg:=t_poly (show pg.fn 423=some _ from rfl)
theorem s_prd:S_prd pg:=t_prd (show pg.fn 458=some _ from rfl)
theorem s_drw:S_drw pg:=t_drw (show pg.fn 368=some _ from rfl) s_nxt s_unit
theorem s_then_279:S_then pg 279:=t_l01Then (show pg.fn 279=some _ from rfl)
theorem s_twd:S_twd pg:=t_twd (show pg.fn 459=some _ from rfl) s_nxt s_drw s_unit s_then_279 s_twst
theorem s_uni:S_uni pg:=t_uni (show pg.fn 460=some _ from rfl)
theorem s_copyT_280:S_copyT pg 280:=t_l01Own2 (show pg.fn 280=some _ from rfl) s_own
theorem s_ivl:S_ivl pg:=t_ivl (show pg.fn 461=some _ from rfl) s_copyT_280 s_index
theorem s_empty:S_empty pg:=t_l02Empty (show pg.fn 398=some _ from rfl)
theorem s_invW:S_invW pg:=t_invW (show pg.fn 406=some _ from rfl) s_empty
theorem s_any:S_any pg:=t_any (show pg.fn 445=some _ from rfl) s_nxt s_flp s_poly s_prd s_twd s_uni s_ivl s_invW
theorem s_image_367:S_image pg 367:=t_rename (show pg.fn 367=some _ from rfl)
theorem s_renS:S_renS pg:=t_renS (show pg.fn 422=some _ from rfl) s_image_367
theorem s_dr2:S_dr2 pg:=t_dr2 (show pg.fn 412=some _ from rfl) s_nxt s_any s_drw s_renS
theorem s_column:S_column pg:=t_column (show pg.fn 375=some _ from rfl)
theorem s_turn_265:S_turn pg 265:=t_l01Turn (show pg.fn 265=some _ from rfl) s_column
theorem s_nonDeg_350:S_nonDeg pg 350:=t_l02Good (show pg.fn 350=some _ from rfl) s_l01Rows s_turn_265
theorem s_twice_351:S_twice pg 351:=t_l02Twice (show pg.fn 351=some _ from rfl)
theorem s_inv_304:S_inv pg 304:=t_l01Back (show pg.fn 304=some _ from rfl)
theorem s_cyc:S_cyc pg:=t_cyc (show pg.fn 364=some _ from rfl) s_inv_304
theorem s_cyD_427:S_cyD pg 427:=t_cyA (show pg.fn 427=some _ from rfl) s_nxt s_aff s_cyI s_dr2 s_nonDeg_350 s_twice_351 s_cyc s_flp
theorem s_cyD_378:S_cyD pg 378:=t_cyDr (show pg.fn 378=some _ from rfl) s_nxt s_cyD_427 s_drw s_image_367
theorem s_cys:S_cys pg:=t_cys (show pg.fn 366=some _ from rfl) s_empty s_index
theorem s_tbs:S_tbs pg:=t_tbs (show pg.fn 428=some _ from rfl) s_nxt s_drw
theorem s_pick:S_pick pg:=t_pick (show pg.fn 292=some _ from rfl) s_nxt
theorem s_bad:S_bad pg:=t_bad (show pg.fn 413=some _ from rfl) s_nxt s_tbs s_unit s_pick
theorem s_spl_379:S_spl pg 379:=t_spl (show pg.fn 379=some _ from rfl) s_nxt s_dr2 s_drw s_tbs s_bad
theorem s_spl_268:S_spl pg 268:=t_spl7 (show pg.fn 268=some _ from rfl) s_nxt s_cyD_378 s_cys s_spl_379
theorem s_drS_129:S_drS pg 129:=t_dWG (show pg.fn 129=some _ from rfl) s_from s_spl_268
theorem s_in_35:S_in pg 35:=t_within (show pg.fn 35=some _ from rfl)
theorem s_allWithin:S_allWithin pg:=t_allWithin (show pg.fn 54=some _ from rfl) s_in_35
theorem s_isTable1:S_isTable1 pg:=t_isTable1 (show pg.fn 64=some _ from rfl) s_allWithin
theorem s_indexFunc:S_indexFunc pg:=t_indexFunc (show pg.fn 70=some _ from rfl)
theorem s_containsFunc:S_containsFunc pg:=t_containsFunc (show pg.fn 63=some _ from rfl) s_indexFunc
theorem s_table_50:S_table pg 50:=t_isTable (show pg.fn 50=some _ from rfl) s_in_35 s_isTable1 s_containsFunc
theorem s_pairMap_59:S_pairMap pg 59:=t_isPairMap (show pg.fn 59=some _ from rfl) s_table_50
theorem s_coll60:S_coll60 pg:=t_coll60 (show pg.fn 60=some _ from rfl)
theorem s_fault61:S_fault61 pg:=t_fault61 (show pg.fn 61=some _ from rfl)
theorem s_isSol_42:S_isSol pg 42:=t_IsSolution (show pg.fn 42=some _ from rfl) s_pairMap_59 s_coll60 s_fault61
theorem s_isPermuted:S_isPermuted pg:=t_isPermuted (show pg.fn 66=some _ from rfl) s_in_35
theorem s_permRows1:S_permRows1 pg:=t_permRows1 (show pg.fn 65=some _ from rfl) s_isPermuted
theorem s_permRows:S_permRows pg:=t_permRows (show pg.fn 51=some _ from rfl) s_permRows1 s_containsFunc
theorem s_tableBy:S_tableBy pg:=t_tableBy (show pg.fn 376=some _ from rfl)
theorem s_turn1:S_turn1 pg:=t_turn1 (show pg.fn 377=some _ from rfl)
theorem s_turn_267:S_turn pg 267:=t_transposed (show pg.fn 267=some _ from rfl) s_tableBy s_turn1
theorem s_nonDeg_285:S_nonDeg pg 285:=t_isNondeg (show pg.fn 285=some _ from rfl) s_permRows s_turn_267
theorem s_reg_266:S_reg pg 266:=t_isRegular (show pg.fn 266=some _ from rfl) s_isSol_42 s_nonDeg_285
theorem s_grow:S_grow pg:=t_grow (show pg.fn 429=some _ from rfl)
theorem s_concat:S_concat pg:=t_concat (show pg.fn 381=some _ from rfl) s_grow
theorem s_whole:S_whole pg:=t_whole (show pg.fn 271=some _ from rfl) s_turn_267 s_concat
theorem s_identity:S_identity pg:=t_identity (show pg.fn 335=some _ from rfl)
theorem s_text:S_text pg:=t_digitsText (show pg.fn 312=some _ from rfl)
theorem s_then_277:S_then pg 277:=t_then (show pg.fn 277=some _ from rfl)
theorem s_order:S_order pg:=t_groupOrder (show pg.fn 380=some _ from rfl) s_identity s_text s_then_277
theorem s_limited:S_limited pg:=t_limitedOrder (show pg.fn 270=some _ from rfl) s_order
theorem s_goB_130:S_goB pg 130:=t_goB_impl (show pg.fn 130=some _ from rfl) s_reg_266 s_whole s_limited
theorem s_pairMap_56:S_pairMap pg 56:=t_l02Map (show pg.fn 56=some _ from rfl) s_table_46
theorem s_coll57:S_coll57 pg:=t_coll57 (show pg.fn 57=some _ from rfl)
theorem s_do_68:S_do pg 68:=do_of (show pg.fn 68=some _ from rfl) s_own
theorem s_same:S_same pg:=t_same (show pg.fn 67=some _ from rfl)
theorem s_fault58:S_fault58 pg:=t_fault58 (show pg.fn 58=some _ from rfl) s_do_68 s_same
theorem s_isSol_41:S_isSol pg 41:=t_l02Is (show pg.fn 41=some _ from rfl) s_pairMap_56 s_coll57 s_fault58
theorem s_reg_264:S_reg pg 264:=t_l07Is (show pg.fn 264=some _ from rfl) s_isSol_41 s_nonDeg_350
theorem s_both:S_both pg:=t_l07Both (show pg.fn 273=some _ from rfl) s_copyT_280 s_turn_265
theorem s_less:S_less pg:=t_l01Less (show pg.fn 408=some _ from rfl)
theorem s_put:S_put pg:=t_l01Put (show pg.fn 349=some _ from rfl) s_less s_same
theorem s_group:S_group pg:=t_l01Group (show pg.fn 343=some _ from rfl) s_unit s_then_279 s_put s_copyT_280
theorem s_l07Order:S_l07Order pg:=t_l07Order (show pg.fn 272=some _ from rfl) s_group
theorem s_goB_131:S_goB pg 131:=t_goB_spec (show pg.fn 131=some _ from rfl) s_reg_264 s_both s_l07Order
theorem s_equal:S_equal pg:=t_equal (show pg.fn 276=some _ from rfl)
theorem s_equalTo_382:S_equalTo pg 382:=t_group1 (show pg.fn 382=some _ from rfl) s_equal
theorem s_len_442:S_len pg 442:=t_len64 (show pg.fn 442=some _ from rfl)
theorem s_len_394:S_len pg 394:=t_len (show pg.fn 394=some _ from rfl) s_len_442
theorem s_nan:S_nan pg:=t_isNaN (show pg.fn 443=some _ from rfl)
theorem s_cmpI:S_cmpI pg:=t_cmpI (show pg.fn 395=some _ from rfl) s_nan
theorem s_cmpL:S_cmpL pg:=t_cmpL (show pg.fn 314=some _ from rfl) s_cmpI
theorem s_insSort:S_insSort pg:=t_insSort (show pg.fn 433=some _ from rfl) s_cmpL
theorem s_sift:S_sift pg:=t_siftDown (show pg.fn 450=some _ from rfl) s_cmpL
theorem s_heap:S_heap pg:=t_heapSort (show pg.fn 434=some _ from rfl) s_sift
theorem s_np2:S_np2 pg:=t_nextPowerOfTwo (show pg.fn 451=some _ from rfl) s_len_394
theorem s_next:S_next pg:=t_next (show pg.fn 452=some _ from rfl)
theorem s_brk:S_brk pg:=t_breakPatterns (show pg.fn 435=some _ from rfl) s_np2 s_next
theorem s_ord2:S_ord2 pg:=t_order2 (show pg.fn 465=some _ from rfl) s_cmpL
theorem s_med:S_med pg:=t_median (show pg.fn 454=some _ from rfl) s_ord2
theorem s_madj:S_madj pg:=t_medianAdjacent (show pg.fn 453=some _ from rfl) s_med
theorem s_piv:S_piv pg:=t_choosePivot (show pg.fn 436=some _ from rfl) s_madj s_med
theorem s_revR:S_revR pg:=t_reverseRange (show pg.fn 437=some _ from rfl)
theorem s_pins:S_pins pg:=t_partialInsertionSort (show pg.fn 438=some _ from rfl) s_cmpL
theorem s_part:S_part pg:=t_partition (show pg.fn 440=some _ from rfl) s_cmpL
theorem s_pdq:S_pdq pg:=t_pdq (show pg.fn 393=some _ from rfl) s_insSort s_heap s_brk s_piv s_revR s_pins s_part s_cmpL
theorem s_sort:S_sort pg:=t_sortFunc (show pg.fn 313=some _ from rfl) s_len_394 s_pdq
theorem s_group274:S_group274 pg:=t_groupElements (show pg.fn 274=some _ from rfl) s_identity s_then_277 s_containsFunc s_equalTo_382 s_sort
theorem s_lg_132:S_lg pg 132:=t_lg_impl (show pg.fn 132=some _ from rfl) s_reg_266 s_group274
theorem s_goL_133:S_goL pg 133:=t_goL_impl (show pg.fn 133=some _ from rfl) s_reg_266 s_limited
theorem s_goR_134:S_goR pg 134:=t_goR_impl (show pg.fn 134=some _ from rfl) s_reg_266 s_turn_267 s_limited
theorem s_clone:S_clone pg:=t_clone (show pg.fn 36=some _ from rfl)
theorem s_copyT_275:S_copyT pg 275:=t_cloneTable (show pg.fn 275=some _ from rfl) s_clone
theorem s_lambda_135:S_lambda pg 135:=t_lam_impl (show pg.fn 135=some _ from rfl) s_reg_266 s_copyT_275
theorem s_rho_127:S_rho pg 127:=t_rho_impl (show pg.fn 127=some _ from rfl) s_reg_266 s_turn_267
theorem s_abel_136:S_abel pg 136:=t_abel_impl (show pg.fn 136=some _ from rfl) s_reg_266 s_then_277 s_equal
theorem s_likeI:S_likeI pg:=t_likeI (show pg.fn 141=some _ from rfl)
theorem s_likeT:S_likeT pg:=t_likeT (show pg.fn 137=some _ from rfl) s_likeI
theorem s_hr5:S_hr5 pg:=t_hr5 (show pg.fn 138=some _ from rfl) s_likeI
theorem s_roll:S_roll pg:=t_roll (show pg.fn 139=some _ from rfl)
theorem s_below:S_below pg:=t_below (show pg.fn 140=some _ from rfl)
theorem s_isPm:S_isPm pg:=t_isPm (show pg.fn 346=some _ from rfl) s_in_35 s_isPermuted
theorem s_thP:S_thP pg:=t_thP (show pg.fn 278=some _ from rfl) s_isPm s_then_277
theorem s_th5:S_th5 pg:=t_th5 (show pg.fn 142=some _ from rfl) s_thP
theorem s_law73:S_law73 pg:=t_law73 (show pg.fn 73=some _ from rfl) s_big s_drS_129 s_goB_130 s_goB_131 s_lg_132 s_goL_133 s_goR_134 s_lambda_135 s_rho_127 s_abel_136 s_likeT s_hr5 s_roll s_below s_th5 s_likeI
theorem own:ownKnob Tryz.prog.godebug=none:=by kernel_rfl
theorem part_le {H:Type} {d:DataW H} {l:List (DataW H)} (h:d∈l):Rows.uptoBulk d≤Rows.uptoBulkAll l:=by
 induction l with
 | nil=>cases h
 | cons x r ih =>
  simp only [Rows.uptoBulkAll]
  cases List.mem_cons.1 h with
  | inl e=>subst e;omega
  | inr e=>have:=ih e;omega
theorem one_le {H:Type} (d:DataW H):1≤Rows.uptoBulk d:=by
 cases d with
 | lit l=>cases l <;> simp [Rows.uptoBulk]
 | _=>simp [Rows.uptoBulk]
theorem length_le {H:Type} (l:List (DataW H)):l.length≤Rows.uptoBulkAll l:=by
 induction l with
 | nil=>simp [Rows.uptoBulkAll]
 | cons x r ih=>have:=one_le x;simp only [Rows.uptoBulkAll,List.length_cons];omega
theorem bulk {H:Type}:Bulk (H:=H) Rows.uptoBulk :=
 ⟨fun es rest=>by have:=length_le es;simp only [Rows.uptoBulk];omega,
  fun es rest d h=>by have:=part_le h;simp only [Rows.uptoBulk];omega,
  fun ps d h=>by have:=part_le h;simp only [Rows.uptoBulk];omega⟩
theorem bound {H:Type} {l:List (DataW H)} (hk:Rows.uptoSmall H l=true):Rows.uptoBulkAll l≤1048576:=by
 simpa [Rows.uptoSmall] using hk
theorem laid:laidOutB Tryz.prog=true:=by kernel_rfl
theorem read22:Tryz.prog.readableRec 22=true∧22<Tryz.prog.types.size:=⟨by kernel_rfl,of_decide_eq_true (by kernel_rfl)⟩
set_option maxRecDepth 100000 in
theorem contract (H:Type) (enc:TypeId×Value→H) (W:World) (base:Nat) (args:Array Value) (ds gs:List (DataW H)) (before:List MemPlace)
 (hval:∀ (j:Nat) t v,Tryz.f3.params[j]?=some t→args[j]?=some v→Value.okWide Tryz.prog W .any base t v)
 (hW:DataW.Whole enc Tryz.prog Tryz.f3.params.toList Rows.fnSolutionGroupsSpec.vars false W args.toList ds gs before) (hk:Rows.uptoSmall H (ds++gs)=true) :
 Calls Tryz.prog 3 args W fun e W'=>∃ v,e=.returned v∧Rows.fnSolutionGroupsSpec.post enc Tryz.prog Tryz.f3 false true false false W args v W':=by
 have hW':=hW
 obtain ⟨p,q,hA,hV,rfl,hfz,hnd⟩:=hW
 rw [Tryz.params3] at hA hval
 obtain ⟨v0,vs0,d0,ds0,p0,q0,hargs,rfl,rfl,h0,r0⟩:=Go.ChangeShapes.trodAll_cons hA
 obtain ⟨rfl,rfl,rfl⟩:=Go.ChangeShapes.trodAll_nil r0
 obtain rfl:args=#[v0]:=by cases args;simp_all
 have hb:=bound hk
 have hb0:Rows.uptoBulk d0≤1048576:=Nat.le_trans (part_le (by simp)) hb
 obtain ⟨a0,g0,x0⟩:=open_argB (fm:=fm) bulk Tryz.underlying22 Tryz.underlying5 (by kernel_rfl) (hval 0 22 v0 rfl rfl) h0
 obtain ⟨args',hc⟩:=s_law73 a0 ⟨Nat.le_trans x0.1 hb0,x0.2⟩
 refine (run_true (pact hc) (by simp) rfl (fun s t ht=>?_)).mono fun e W' ⟨he,hg⟩=>?_
 · match s,ht with
   | 0,ht =>
    cases ht
    exact g0
 · subst he
   exact ⟨_,rfl,post_true hW' hg rfl rfl (by kernel_rfl) laid (fun t ht=>by rw [Tryz.params3] at ht;simp at ht;rcases ht with rfl <;> first | exact read22) rfl⟩
set_option maxRecDepth 100000 in
theorem lifted (os:Os) (started:os.Started) (H:Type) (enc:TypeId×Value→H) (F:Stop.Interp) :
 ReturnsInHanded {} Tryz.checked os 3 .any ((Rows.OpenSpec.upto Rows.fnSolutionGroupsSpec).pre6 enc Tryz.prog Tryz.f3 Rows.fnSolutionGroupsUptoRow.domain false) (((Rows.OpenSpec.upto Rows.fnSolutionGroupsSpec).at F).post enc Tryz.prog Tryz.f3 false true false false):=by
 refine returnsInHanded_of_cond (C:=Tryz.checked) (s:=Rows.OpenSpec.upto Rows.fnSolutionGroupsSpec) (k:=Rows.uptoSmall) rfl own started (by kernel_rfl) Tryz.func3
  (OpenSpec.witness (enc:=enc) (C:=Tryz.checked) (s:=Rows.OpenSpec.upto Rows.fnSolutionGroupsSpec) (k:=Rows.uptoSmall) rfl false ⟨#[],#[.slice none 0 0],[]⟩ 8 (by kernel_rfl) (by kernel_rfl) (by kernel_rfl)
   (x:=([.nil],[],[])) (by kernel_rfl) rfl (by kernel_rfl)) ?_
 intro W base args ds gs before hval hW _ hk _
 exact contract H enc W base args ds gs before hval hW hk
theorem over:Rows.fnSolutionGroupsUptoRow.holds Tryz.pinned (Rows.OpenSpec.upto Rows.fnSolutionGroupsSpec) :=
 OpenClaim.holds_of_cond 3 Tryz.f3 rfl rfl rfl rfl rfl rfl rfl ⟨rfl,rfl,rfl,rfl,rfl⟩ rfl rfl rfl rfl rfl (by kernel_rfl) Tryz.func3 (by kernel_rfl)
  (of_decide_eq_true (by kernel_rfl)) (by unfold Func.isWrapper;first | (rw [if_pos (by decide +kernel)];kernel_rfl) | (rw [if_neg (by decide +kernel)];exact ⟨rfl,rfl⟩))
  (fun os started H enc _ F=>lifted os started H enc F)
theorem proved:Rows.FnSolutionGroupsUptoSaid :=
 over
end Go.Proofs.YtkcgdmjdkbgmkaaGreat.fnSolutionGroups
