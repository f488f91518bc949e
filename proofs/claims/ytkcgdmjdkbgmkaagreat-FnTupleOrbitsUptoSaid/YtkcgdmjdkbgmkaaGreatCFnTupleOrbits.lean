/- The law FnTupleOrbits returns true for all arguments that hold together at most 1048576 values. -/
import Derived.Test.YtkcgdmjdkbgmkaaGreatTie
import Derived.Test.YtkcgdmjdkbgmkaaGreatP1
import Derived.Test.YtkcgdmjdkbgmkaaGreatP3
namespace Go.Proofs.YtkcgdmjdkbgmkaaGreat.fnTupleOrbits
open Go.Mch Tie
theorem s_big:S_big pg:=t_big (show pg.fn 128=some _ from rfl)
theorem s_from:S_from pg:=t_from (show pg.fn 269=some _ from rfl)
theorem s_nxt:S_nxt pg:=t_nxt (show pg.fn 336=some _ from rfl)
theorem s_dpm:S_dpm pg:=t_dpm (show pg.fn 338=some _ from rfl) s_nxt
theorem s_own:S_own pg:=t_own (show pg.fn 31=some _ from rfl)
theorem s_alx:S_alx pg:=t_alx (show pg.fn 455=some _ from rfl)
theorem s_cop:S_cop pg:=t_cop (show pg.fn 456=some _ from rfl)
theorem s_index:S_index pg:=t_index (show pg.fn 69=some _ from rfl)
theorem s_has:S_has pg:=t_has (show pg.fn 62=some _ from rfl) s_index
theorem s_grw_3:S_grw pg 3:=t_grw3 (show pg.fn 466=some _ from rfl) s_has s_own
theorem s_perms3:S_perms3 pg:=t_perms3 (show pg.fn 457=some _ from rfl) s_grw_3
theorem s_inv_304:S_inv pg 304:=t_l01Back (show pg.fn 304=some _ from rfl)
theorem s_then_279:S_then pg 279:=t_l01Then (show pg.fn 279=some _ from rfl)
theorem s_same:S_same pg:=t_same (show pg.fn 67=some _ from rfl)
theorem s_dtb:S_dtb pg:=t_dtb (show pg.fn 444=some _ from rfl) s_nxt s_dpm s_own s_alx s_cop s_perms3 s_inv_304 s_then_279 s_same
theorem s_copyT_280:S_copyT pg 280:=t_l01Own2 (show pg.fn 280=some _ from rfl) s_own
theorem s_image_303:S_image pg 303:=t_l03Image (show pg.fn 303=some _ from rfl) s_copyT_280
theorem s_d3:S_d3 pg:=t_d3 (show pg.fn 401=some _ from rfl) s_nxt s_dtb s_dpm s_image_303
theorem s_s3:S_s3 pg:=t_s3 (show pg.fn 324=some _ from rfl) s_copyT_280
theorem s_in_30:S_in pg 30:=t_l01In (show pg.fn 30=some _ from rfl)
theorem s_table_46:S_table pg 46:=t_l01Table (show pg.fn 46=some _ from rfl) s_in_30
theorem s_perm_47:S_perm pg 47:=t_l01Perm (show pg.fn 47=some _ from rfl) s_in_30 s_has
theorem s_rackFault_48:S_rackFault pg 48:=t_rf48 (show pg.fn 48=some _ from rfl)
theorem s_isRk_28:S_isRk pg 28:=t_l03Is (show pg.fn 28=some _ from rfl) s_table_46 s_perm_47 s_rackFault_48
theorem s_eqTb_302:S_eqTb pg 302:=t_l01Same2 (show pg.fn 302=some _ from rfl) s_same
theorem s_tw_170:S_tw pg 170:=t_tw_spec (show pg.fn 170=some _ from rfl) s_isRk_28 s_perm_47 s_image_303 s_eqTb_302 s_inv_304
theorem s_unit:S_unit pg:=t_unit (show pg.fn 334=some _ from rfl)
theorem s_twst:S_twst pg:=t_twst (show pg.fn 425=some _ from rfl) s_own
theorem s_flp:S_flp pg:=t_flp (show pg.fn 449=some _ from rfl) s_unit s_twst
theorem s_poly:S_poly pg:=t_poly (show pg.fn 423=some _ from rfl)
theorem s_prd:S_prd pg:=t_prd (show pg.fn 458=some _ from rfl)
theorem s_drw:S_drw pg:=t_drw (show pg.fn 368=some _ from rfl) s_nxt s_unit
theorem s_twd:S_twd pg:=t_twd (show pg.fn 459=some _ from rfl) s_nxt s_drw s_unit s_then_279 s_twst
theorem s_uni:S_uni pg:=t_uni (show pg.fn 460=some _ from rfl)
theorem s_ivl:S_ivl pg:=t_ivl (show pg.fn 461=some _ from rfl) s_copyT_280 s_index
theorem s_empty:S_empty pg:=t_l02Empty (show pg.fn 398=some _ from rfl)
theorem s_invW:S_invW pg:=t_invW (show pg.fn 406=some _ from rfl) s_empty
theorem s_any:S_any pg:=t_any (show pg.fn 445=some _ from rfl) s_nxt s_flp s_poly s_prd s_twd s_uni s_ivl s_invW
theorem s_image_367:S_image pg 367:=t_rename (show pg.fn 367=some _ from rfl)
theorem s_renS:S_renS pg:=t_renS (show pg.fn 422=some _ from rfl) s_image_367
theorem s_dr2:S_dr2 pg:=t_dr2 (show pg.fn 412=some _ from rfl) s_nxt s_any s_drw s_renS
theorem s_d6:S_d6 pg:=t_d6 (show pg.fn 354=some _ from rfl) s_nxt s_d3 s_s3 s_tw_170 s_dr2
theorem s_drS_233:S_drS pg 233:=t_dDR (show pg.fn 233=some _ from rfl) s_from s_nxt s_d6
theorem s_dtu:S_dtu pg:=t_dtu (show pg.fn 311=some _ from rfl) s_nxt
theorem s_drU_175:S_drU pg 175:=t_dTO (show pg.fn 175=some _ from rfl) s_from s_drS_233 s_dtu
theorem s_in_35:S_in pg 35:=t_within (show pg.fn 35=some _ from rfl)
theorem s_allWithin:S_allWithin pg:=t_allWithin (show pg.fn 54=some _ from rfl) s_in_35
theorem s_isTable1:S_isTable1 pg:=t_isTable1 (show pg.fn 64=some _ from rfl) s_allWithin
theorem s_indexFunc:S_indexFunc pg:=t_indexFunc (show pg.fn 70=some _ from rfl)
theorem s_containsFunc:S_containsFunc pg:=t_containsFunc (show pg.fn 63=some _ from rfl) s_indexFunc
theorem s_table_50:S_table pg 50:=t_isTable (show pg.fn 50=some _ from rfl) s_in_35 s_isTable1 s_containsFunc
theorem s_pairMap_59:S_pairMap pg 59:=t_isPairMap (show pg.fn 59=some _ from rfl) s_table_50
theorem s_coll60:S_coll60 pg:=t_coll60 (show pg.fn 60=some _ from rfl)
theorem s_fault61:S_fault61 pg:=t_fault61 (show pg.fn 61=some _ from rfl)
theorem s_isSol_42:S_isSol pg 42:=t_IsSolution (show pg.fn 42=some _ from rfl) s_pairMap_59 s_coll60 s_fault61
theorem s_areElements:S_areElements pg:=t_areElements (show pg.fn 39=some _ from rfl) s_allWithin
theorem s_tuple_34:S_tuple pg 34:=t_isTuple (show pg.fn 34=some _ from rfl) s_areElements
theorem s_clone:S_clone pg:=t_clone (show pg.fn 36=some _ from rfl)
theorem s_text:S_text pg:=t_digitsText (show pg.fn 312=some _ from rfl)
theorem s_do_44:S_do pg 44:=t_moved (show pg.fn 44=some _ from rfl) s_clone
theorem s_len_442:S_len pg 442:=t_len64 (show pg.fn 442=some _ from rfl)
theorem s_len_394:S_len pg 394:=t_len (show pg.fn 394=some _ from rfl) s_len_442
theorem s_nan:S_nan pg:=t_isNaN (show pg.fn 443=some _ from rfl)
theorem s_cmpI:S_cmpI pg:=t_cmpI (show pg.fn 395=some _ from rfl) s_nan
theorem s_cmpL:S_cmpL pg:=t_cmpL (show pg.fn 314=some _ from rfl) s_cmpI
theorem s_insSort:S_insSort pg:=t_insSort (show pg.fn 433=some _ from rfl) s_cmpL
theorem s_sift:S_sift pg:=t_siftDown (show pg.fn 450=some _ from rfl) s_cmpL
theorem s_heap:S_heap pg:=t_heapSort (show pg.fn 434=some _ from rfl) s_sift
theorem s_np2:S_np2 pg:=t_nextPowerOfTwo (show pg.fn 451=some _ from rfl) s_len_394
theorem s_next:S_next pg:=t_next (show pg.fn 452=some _ from rfl)
theorem s_brk:S_brk pg:=t_breakPatterns (show pg.fn 435=some _ from rfl) s_np2 s_next
theorem s_ord2:S_ord2 pg:=t_order2 (show pg.fn 465=some _ from rfl) s_cmpL
theorem s_med:S_med pg:=t_median (show pg.fn 454=some _ from rfl) s_ord2
theorem s_madj:S_madj pg:=t_medianAdjacent (show pg.fn 453=some _ from rfl) s_med
theorem s_piv:S_piv pg:=t_choosePivot (show pg.fn 436=some _ from rfl) s_madj s_med
theorem s_revR:S_revR pg:=t_reverseRange (show pg.fn 437=some _ from rfl)
theorem s_pins:S_pins pg:=t_partialInsertionSort (show pg.fn 438=some _ from rfl) s_cmpL
theorem s_part:S_part pg:=t_partition (show pg.fn 440=some _ from rfl) s_cmpL
theorem s_pdq:S_pdq pg:=t_pdq (show pg.fn 393=some _ from rfl) s_insSort s_heap s_brk s_piv s_revR s_pins s_part s_cmpL
theorem s_sort:S_sort pg:=t_sortFunc (show pg.fn 313=some _ from rfl) s_len_394 s_pdq
theorem s_to_176:S_to pg 176:=t_to_impl (show pg.fn 176=some _ from rfl) s_isSol_42 s_tuple_34 s_clone s_text s_do_44 s_sort
theorem s_pairMap_56:S_pairMap pg 56:=t_l02Map (show pg.fn 56=some _ from rfl) s_table_46
theorem s_coll57:S_coll57 pg:=t_coll57 (show pg.fn 57=some _ from rfl)
theorem s_do_68:S_do pg 68:=do_of (show pg.fn 68=some _ from rfl) s_own
theorem s_fault58:S_fault58 pg:=t_fault58 (show pg.fn 58=some _ from rfl) s_do_68 s_same
theorem s_isSol_41:S_isSol pg 41:=t_l02Is (show pg.fn 41=some _ from rfl) s_pairMap_56 s_coll57 s_fault58
theorem s_elements:S_elements pg:=t_elements (show pg.fn 49=some _ from rfl) s_in_30
theorem s_tuple_29:S_tuple pg 29:=t_l06Tuple (show pg.fn 29=some _ from rfl) s_elements
theorem s_do_43:S_do pg 43:=do_of (show pg.fn 43=some _ from rfl) s_own
theorem s_less:S_less pg:=t_l01Less (show pg.fn 408=some _ from rfl)
theorem s_search:S_search pg:=t_l03Search (show pg.fn 396=some _ from rfl) s_less
theorem s_reach:S_reach pg:=t_l06Reach (show pg.fn 315=some _ from rfl) s_own s_do_43 s_search s_same
theorem s_to_177:S_to pg 177:=t_to_spec (show pg.fn 177=some _ from rfl) s_isSol_41 s_tuple_29 s_reach s_copyT_280
theorem s_likeI:S_likeI pg:=t_likeI (show pg.fn 141=some _ from rfl)
theorem s_same9:S_same9 pg:=t_same9 (show pg.fn 178=some _ from rfl) s_likeI
theorem s_roll:S_roll pg:=t_roll (show pg.fn 139=some _ from rfl)
theorem s_below:S_below pg:=t_below (show pg.fn 140=some _ from rfl)
theorem s_tm_26:S_tm pg 26:=t_tm26 (show pg.fn 26=some _ from rfl) s_isSol_42 s_tuple_34 s_in_35 s_do_44
theorem s_pick:S_pick pg:=t_pick (show pg.fn 292=some _ from rfl) s_nxt
theorem s_drK_179:S_drK pg 179:=t_dCT (show pg.fn 179=some _ from rfl) s_from s_drS_233 s_pick
theorem s_digI:S_digI pg:=t_tupleOf (show pg.fn 262=some _ from rfl)
theorem s_numI:S_numI pg:=t_numberOf (show pg.fn 263=some _ from rfl)
theorem s_ct_125:S_ct pg 125:=t_ct_impl (show pg.fn 125=some _ from rfl) s_isSol_42 s_in_35 s_digI s_do_44 s_numI
theorem s_digS:S_digS pg:=t_digits (show pg.fn 260=some _ from rfl)
theorem s_numS:S_numS pg:=t_number (show pg.fn 261=some _ from rfl)
theorem s_ct_124:S_ct pg 124:=t_ct_spec (show pg.fn 124=some _ from rfl) s_isSol_41 s_in_30 s_digS s_do_43 s_numS
theorem s_isPermuted:S_isPermuted pg:=t_isPermuted (show pg.fn 66=some _ from rfl) s_in_35
theorem s_permRows1:S_permRows1 pg:=t_permRows1 (show pg.fn 65=some _ from rfl) s_isPermuted
theorem s_permRows:S_permRows pg:=t_permRows (show pg.fn 51=some _ from rfl) s_permRows1 s_containsFunc
theorem s_tableBy:S_tableBy pg:=t_tableBy (show pg.fn 376=some _ from rfl)
theorem s_turn1:S_turn1 pg:=t_turn1 (show pg.fn 377=some _ from rfl)
theorem s_turn_267:S_turn pg 267:=t_transposed (show pg.fn 267=some _ from rfl) s_tableBy s_turn1
theorem s_nonDeg_285:S_nonDeg pg 285:=t_isNondeg (show pg.fn 285=some _ from rfl) s_permRows s_turn_267
theorem s_indexIn_384:S_indexIn pg 384:=t_slicesIndex (show pg.fn 384=some _ from rfl)
theorem s_indexIn_287:S_indexIn pg 287:=t_indexIn (show pg.fn 287=some _ from rfl) s_indexIn_384
theorem s_raV:S_raV pg:=t_raV (show pg.fn 383=some _ from rfl) s_indexIn_287
theorem s_rackOf_286:S_rackOf pg 286:=t_derivedRack (show pg.fn 286=some _ from rfl) s_tableBy s_raV
theorem s_dr_148:S_dr pg 148:=t_dr_impl (show pg.fn 148=some _ from rfl) s_isSol_42 s_nonDeg_285 s_rackOf_286
theorem s_rackFault_52:S_rackFault pg 52:=t_rf52 (show pg.fn 52=some _ from rfl)
theorem s_isRk_33:S_isRk pg 33:=t_IsRack (show pg.fn 33=some _ from rfl) s_table_50 s_permRows s_rackFault_52
theorem s_inv_307:S_inv pg 307:=t_inverse (show pg.fn 307=some _ from rfl)
theorem s_ren1:S_ren1 pg:=t_renamed1 (show pg.fn 390=some _ from rfl)
theorem s_image_306:S_image pg 306:=t_renamed (show pg.fn 306=some _ from rfl) s_inv_307 s_tableBy s_ren1
theorem s_cmpT1:S_cmpT1 pg:=t_cmpT1 (show pg.fn 432=some _ from rfl) s_cmpL
theorem s_cmpF:S_cmpF pg:=t_cmpF (show pg.fn 431=some _ from rfl) s_cmpT1
theorem s_cmpT:S_cmpT pg:=t_compareTables (show pg.fn 389=some _ from rfl) s_cmpF
theorem s_eqTb_305:S_eqTb pg 305:=t_equalTables (show pg.fn 305=some _ from rfl) s_cmpT
theorem s_sol1_391_false:S_sol1 pg 391 false:=t_solutionBy1 (show pg.fn 391=some _ from rfl)
theorem s_sol1_392_true:S_sol1 pg 392 true:=t_solutionBy2 (show pg.fn 392=some _ from rfl)
theorem s_solBy:S_solBy pg:=t_solutionBy (show pg.fn 308=some _ from rfl) s_tableBy s_sol1_391_false s_sol1_392_true
theorem s_tw1:S_tw1 pg:=t_tw1 (show pg.fn 309=some _ from rfl)
theorem s_tw_171:S_tw pg 171:=t_tw_impl (show pg.fn 171=some _ from rfl) s_isRk_33 s_isPermuted s_image_306 s_eqTb_305 s_inv_307 s_solBy s_tw1
theorem s_law88:S_law88 pg:=t_law88 (show pg.fn 88=some _ from rfl) s_big s_drU_175 s_to_176 s_to_177 s_same9 s_roll s_below s_tm_26 s_likeI s_drK_179 s_ct_125 s_ct_124 s_dr_148 s_tw_171
theorem own:ownKnob Tryz.prog.godebug=none:=by kernel_rfl
theorem part_le {H:Type} {d:DataW H} {l:List (DataW H)} (h:d∈l):Rows.uptoBulk d≤Rows.uptoBulkAll l:=by
 induction l with
 | nil=>cases h
 | cons x r ih =>
  simp only [Rows.uptoBulkAll]
  cases List.mem_cons.1 h with
  | inl e=>subst e;omega
  | inr e=>have:=ih e;omega
theorem one_le {H:Type} (d:DataW H):1≤Rows.uptoBulk d:=by
 cases d with
 | lit l=>cases l <;> simp [Rows.uptoBulk]
 | _=>simp [Rows.uptoBulk]
theorem length_le {H:Type} (l:List (DataW H)):l.length≤Rows.uptoBulkAll l:=by
 induction l with
 | nil=>simp [Rows.uptoBulkAll]
 | cons x r ih=>have:=one_le x;simp only [Rows.uptoBulkAll,List.length_cons];omega
theorem bulk {H:Type}:Bulk (H:=H) Rows.uptoBulk :=
 ⟨fun es rest=>by have:=length_le es;simp only [Rows.uptoBulk];omega,
  fun es rest d h=>by have:=part_le h;simp only [Rows.uptoBulk];omega,
  fun ps d h=>by have:=part_le h;simp only [Rows.uptoBulk];omega⟩
theorem bound {H:Type} {l:List (DataW H)} (hk:Rows.uptoSmall H l=true):Rows.uptoBulkAll l≤1048576:=by
 simpa [Rows.uptoSmall] using hk
theorem laid:laidOutB Tryz.prog=true:=by kernel_rfl
theorem read22:Tryz.prog.readableRec 22=true∧22<Tryz.prog.types.size:=⟨by kernel_rfl,of_decide_eq_true (by kernel_rfl)⟩
set_option maxRecDepth 100000 in
theorem contract (H:Type) (enc:TypeId×Value→H) (W:World) (base:Nat) (args:Array Value) (ds gs:List (DataW H)) (before:List MemPlace)
 (hval:∀ (j:Nat) t v,Tryz.f5.params[j]?=some t→args[j]?=some v→Value.okWide Tryz.prog W .any base t v)
 (hW:DataW.Whole enc Tryz.prog Tryz.f5.params.toList Rows.fnTupleOrbitsSpec.vars false W args.toList ds gs before) (hk:Rows.uptoSmall H (ds++gs)=true) :
 Calls Tryz.prog 5 args W fun e W'=>∃ v,e=.returned v∧Rows.fnTupleOrbitsSpec.post enc Tryz.prog Tryz.f5 false true false false W args v W':=by
 have hW':=hW
 obtain ⟨p,q,hA,hV,rfl,hfz,hnd⟩:=hW
 rw [Tryz.params5] at hA hval
 obtain ⟨v0,vs0,d0,ds0,p0,q0,hargs,rfl,rfl,h0,r0⟩:=Go.ChangeShapes.trodAll_cons hA
 obtain ⟨rfl,rfl,rfl⟩:=Go.ChangeShapes.trodAll_nil r0
 obtain rfl:args=#[v0]:=by cases args;simp_all
 have hb:=bound hk
 have hb0:Rows.uptoBulk d0≤1048576:=Nat.le_trans (part_le (by simp)) hb
 obtain ⟨a0,g0,x0⟩:=open_argB (fm:=fm) bulk Tryz.underlying22 Tryz.underlying5 (by kernel_rfl) (hval 0 22 v0 rfl rfl) h0
 obtain ⟨args',hc⟩:=s_law88 a0 ⟨Nat.le_trans x0.1 hb0,x0.2⟩
 refine (run_true (pact hc) (by simp) rfl (fun s t ht=>?_)).mono fun e W' ⟨he,hg⟩=>?_
 · match s,ht with
   | 0,ht =>
    cases ht
    exact g0
 · subst he
   exact ⟨_,rfl,post_true hW' hg rfl rfl (by kernel_rfl) laid (fun t ht=>by rw [Tryz.params5] at ht;simp at ht;rcases ht with rfl <;> first | exact read22) rfl⟩
set_option maxRecDepth 100000 in
theorem lifted (os:Os) (started:os.Started) (H:Type) (enc:TypeId×Value→H) (F:Stop.Interp) :
 ReturnsInHanded {} Tryz.checked os 5 .any ((Rows.OpenSpec.upto Rows.fnTupleOrbitsSpec).pre6 enc Tryz.prog Tryz.f5 Rows.fnTupleOrbitsUptoRow.domain false) (((Rows.OpenSpec.upto Rows.fnTupleOrbitsSpec).at F).post enc Tryz.prog Tryz.f5 false true false false):=by
 refine returnsInHanded_of_cond (C:=Tryz.checked) (s:=Rows.OpenSpec.upto Rows.fnTupleOrbitsSpec) (k:=Rows.uptoSmall) rfl own started (by kernel_rfl) Tryz.func5
  (OpenSpec.witness (enc:=enc) (C:=Tryz.checked) (s:=Rows.OpenSpec.upto Rows.fnTupleOrbitsSpec) (k:=Rows.uptoSmall) rfl false ⟨#[],#[.slice none 0 0],[]⟩ 8 (by kernel_rfl) (by kernel_rfl) (by kernel_rfl)
   (x:=([.nil],[],[])) (by kernel_rfl) rfl (by kernel_rfl)) ?_
 intro W base args ds gs before hval hW _ hk _
 exact contract H enc W base args ds gs before hval hW hk
theorem over:Rows.fnTupleOrbitsUptoRow.holds Tryz.pinned (Rows.OpenSpec.upto Rows.fnTupleOrbitsSpec) :=
 OpenClaim.holds_of_cond 5 Tryz.f5 rfl rfl rfl rfl rfl rfl rfl ⟨rfl,rfl,rfl,rfl,rfl⟩ rfl rfl rfl rfl rfl (by kernel_rfl) Tryz.func5 (by kernel_rfl)
  (of_decide_eq_true (by kernel_rfl)) (by unfold Func.isWrapper;first | (rw [if_pos (by decide +kernel)];kernel_rfl) | (rw [if_neg (by decide +kernel)];exact ⟨rfl,rfl⟩))
  (fun os started H enc _ F=>lifted os started H enc F)
theorem proved:Rows.FnTupleOrbitsUptoSaid :=
 over
end Go.Proofs.YtkcgdmjdkbgmkaaGreat.fnTupleOrbits
