/- The law FnDualCycles returns true for all arguments that hold together at most 1048576 values. -/
import Derived.Test.YtmlknafdnccddaaGreatTie
import Derived.Test.YtmlknafdnccddaaGreatP3
namespace Go.Proofs.YtmlknafdnccddaaGreat.fnDualCycles
open Go.Mch Tie
theorem s_big:S_big pg:=t_big (show pg.fn 128=some _ from rfl)
theorem s_from:S_from pg:=t_from (show pg.fn 269=some _ from rfl)
theorem s_nxt:S_nxt pg:=t_nxt (show pg.fn 336=some _ from rfl)
theorem s_aff:S_aff pg:=t_aff (show pg.fn 424=some _ from rfl)
theorem s_in_30:S_in pg 30:=t_l01In (show pg.fn 30=some _ from rfl)
theorem s_table_46:S_table pg 46:=t_l01Table (show pg.fn 46=some _ from rfl) s_in_30
theorem s_index:S_index pg:=t_index (show pg.fn 69=some _ from rfl)
theorem s_has:S_has pg:=t_has (show pg.fn 62=some _ from rfl) s_index
theorem s_perm_47:S_perm pg 47:=t_l01Perm (show pg.fn 47=some _ from rfl) s_in_30 s_has
theorem s_l01Rows:S_l01Rows pg:=t_l01Rows (show pg.fn 410=some _ from rfl) s_perm_47
theorem s_sqs:S_sqs pg:=t_sqs (show pg.fn 417=some _ from rfl)
theorem s_flt:S_flt pg:=t_flt (show pg.fn 418=some _ from rfl)
theorem s_cyI:S_cyI pg:=t_cyI (show pg.fn 363=some _ from rfl) s_table_46 s_l01Rows s_sqs s_perm_47 s_flt
theorem s_unit:S_unit pg:=t_unit (show pg.fn 334=some _ from rfl)
theorem s_own:S_own pg:=t_own (show pg.fn 31=some _ from rfl)
theorem s_twst:S_twst pg:=t_twst (show pg.fn 425=some _ from rfl) s_own
theorem s_flp:S_flp pg:=t_flp (show pg.fn 449=some _ from rfl) s_unit s_twst
theorem s_poly:S_poly pg:=t_poly (show pg.fn 423=some _ from rfl)
theorem s_prd:S_prd pg:=t_prd (show pg.fn 458=some _ from rfl)
theorem s_drw:S_drw pg:=t_drw (show pg.fn 368=some _ from rfl) s_nxt s_unit
theorem s_then_279:S_then pg 279:=t_l01Then (show pg.fn 279=some _ from rfl)
theorem s_twd:S_twd pg:=t_twd (show pg.fn 459=some _ from rfl) s_nxt s_drw s_unit s_then_279 s_twst
theorem s_uni:S_uni pg:=t_uni (show pg.fn 460=some _ from rfl)
theorem s_copyT_280:S_copyT pg 280:=t_l01Own2 (show pg.fn 280=some _ from rfl) s_own
theorem s_ivl:S_ivl pg:=t_ivl (show pg.fn 461=some _ from rfl) s_copyT_280 s_index
theorem s_empty:S_empty pg:=t_l02Empty (show pg.fn 398=some _ from rfl)
theorem s_invW:S_invW pg:=t_invW (show pg.fn 406=some _ from rfl) s_empty
theorem s_any:S_any pg:=t_any (show pg.fn 445=some _ from rfl) s_nxt s_flp s_poly s_prd s_twd s_uni s_ivl s_invW
theorem s_image_367:S_image pg 367:=t_rename (show pg.fn 367=some _ from rfl)
theorem s_renS:S_renS pg:=t_renS (show pg.fn 422=some _ from rfl) s_image_367
theorem s_dr2:S_dr2 pg:=t_dr2 (show pg.fn 412=some _ from rfl) s_nxt s_any s_drw s_renS
theorem s_column:S_column pg:=t_column (show pg.fn 375=some _ from rfl)
theorem s_turn_265:S_turn pg 265:=t_l01Turn (show pg.fn 265=some _ from rfl) s_column
theorem s_nonDeg_350:S_nonDeg pg 350:=t_l02Good (show pg.fn 350=some _ from rfl) s_l01Rows s_turn_265
theorem s_twice_351:S_twice pg 351:=t_l02Twice (show pg.fn 351=some _ from rfl)
theorem s_inv_304:S_inv pg 304:=t_l01Back (show pg.fn 304=some _ from rfl)
theorem s_cyc:S_cyc pg:=t_cyc (show pg.fn 364=some _ from rfl) s_inv_304
theorem s_cyD_427:S_cyD pg 427:=t_cyA (show pg.fn 427=some _ from rfl) s_nxt s_aff s_cyI s_dr2 s_nonDeg_350 s_twice_351 s_cyc s_flp
theorem s_cyD_378:S_cyD pg 378:=t_cyDr (show pg.fn 378=some _ from rfl) s_nxt s_cyD_427 s_drw s_image_367
theorem s_tbs:S_tbs pg:=t_tbs (show pg.fn 428=some _ from rfl) s_nxt s_drw
theorem s_pick:S_pick pg:=t_pick (show pg.fn 292=some _ from rfl) s_nxt
theorem s_bad:S_bad pg:=t_bad (show pg.fn 413=some _ from rfl) s_nxt s_tbs s_unit s_pick
theorem s_cySp:S_cySp pg:=t_cySp (show pg.fn 359=some _ from rfl) s_nxt s_cyD_378 s_drw s_bad
theorem s_drC:S_drC pg:=t_drC (show pg.fn 242=some _ from rfl) s_from s_cySp
theorem s_in_35:S_in pg 35:=t_within (show pg.fn 35=some _ from rfl)
theorem s_allWithin:S_allWithin pg:=t_allWithin (show pg.fn 54=some _ from rfl) s_in_35
theorem s_isTable1:S_isTable1 pg:=t_isTable1 (show pg.fn 64=some _ from rfl) s_allWithin
theorem s_indexFunc:S_indexFunc pg:=t_indexFunc (show pg.fn 70=some _ from rfl)
theorem s_containsFunc:S_containsFunc pg:=t_containsFunc (show pg.fn 63=some _ from rfl) s_indexFunc
theorem s_table_50:S_table pg 50:=t_isTable (show pg.fn 50=some _ from rfl) s_in_35 s_isTable1 s_containsFunc
theorem s_isPermuted:S_isPermuted pg:=t_isPermuted (show pg.fn 66=some _ from rfl) s_in_35
theorem s_permRows1:S_permRows1 pg:=t_permRows1 (show pg.fn 65=some _ from rfl) s_isPermuted
theorem s_permRows:S_permRows pg:=t_permRows (show pg.fn 51=some _ from rfl) s_permRows1 s_containsFunc
theorem s_sqI:S_sqI pg:=t_sqI (show pg.fn 414=some _ from rfl)
theorem s_cfI:S_cfI pg:=t_cfI (show pg.fn 415=some _ from rfl)
theorem s_isCy_360:S_isCy pg 360:=t_isCyI (show pg.fn 360=some _ from rfl) s_table_50 s_permRows s_sqI s_isPermuted s_cfI
theorem s_tableBy:S_tableBy pg:=t_tableBy (show pg.fn 376=some _ from rfl)
theorem s_sol1_391_false:S_sol1 pg 391 false:=t_solutionBy1 (show pg.fn 391=some _ from rfl)
theorem s_sol1_392_true:S_sol1 pg 392 true:=t_solutionBy2 (show pg.fn 392=some _ from rfl)
theorem s_solBy:S_solBy pg:=t_solutionBy (show pg.fn 308=some _ from rfl) s_tableBy s_sol1_391_false s_sol1_392_true
theorem s_indexIn_384:S_indexIn pg 384:=t_slicesIndex (show pg.fn 384=some _ from rfl)
theorem s_indexIn_287:S_indexIn pg 287:=t_indexIn (show pg.fn 287=some _ from rfl) s_indexIn_384
theorem s_cs1:S_cs1 pg:=t_cs1 (show pg.fn 416=some _ from rfl) s_indexIn_287
theorem s_cySol_361:S_cySol pg 361:=t_cySolI (show pg.fn 361=some _ from rfl) s_solBy s_cs1
theorem s_pairMap_59:S_pairMap pg 59:=t_isPairMap (show pg.fn 59=some _ from rfl) s_table_50
theorem s_turn1:S_turn1 pg:=t_turn1 (show pg.fn 377=some _ from rfl)
theorem s_turn_267:S_turn pg 267:=t_transposed (show pg.fn 267=some _ from rfl) s_tableBy s_turn1
theorem s_mirI:S_mirI pg:=t_mirI (show pg.fn 246=some _ from rfl) s_pairMap_59 s_turn_267
theorem s_inv_307:S_inv pg 307:=t_inverse (show pg.fn 307=some _ from rfl)
theorem s_solCy_362:S_solCy pg 362:=t_solCyI (show pg.fn 362=some _ from rfl) s_inv_307
theorem s_dualT_243:S_dualT pg 243:=t_dualI (show pg.fn 243=some _ from rfl) s_isCy_360 s_cySol_361 s_mirI s_solCy_362
theorem s_sqS:S_sqS pg:=t_sqS (show pg.fn 417=some _ from rfl)
theorem s_cfS:S_cfS pg:=t_cfS (show pg.fn 418=some _ from rfl)
theorem s_isCy_363:S_isCy pg 363:=t_isCyS (show pg.fn 363=some _ from rfl) s_table_46 s_l01Rows s_sqS s_perm_47 s_cfS
theorem s_cySol_366:S_cySol pg 366:=t_cySolS (show pg.fn 366=some _ from rfl) s_empty s_index
theorem s_mirS:S_mirS pg:=t_mirS (show pg.fn 365=some _ from rfl) s_turn_265
theorem s_solCy_364:S_solCy pg 364:=t_solCyS (show pg.fn 364=some _ from rfl) s_inv_304
theorem s_dualT_244:S_dualT pg 244:=t_dualS (show pg.fn 244=some _ from rfl) s_isCy_363 s_cySol_366 s_mirS s_solCy_364
theorem s_likeI:S_likeI pg:=t_likeI (show pg.fn 141=some _ from rfl)
theorem s_likeT:S_likeT pg:=t_likeT (show pg.fn 137=some _ from rfl) s_likeI
theorem s_socs:S_socs pg:=t_socs (show pg.fn 245=some _ from rfl) s_isCy_360 s_cySol_361
theorem s_likeS:S_likeS pg:=t_likeS (show pg.fn 218=some _ from rfl) s_likeT
theorem s_drP:S_drP pg:=t_drP (show pg.fn 247=some _ from rfl) s_from s_cySp s_isCy_363 s_nxt s_drw s_image_367
theorem z_in_35:S_in pg0 35:=t_within (show pg0.fn 35=some _ from rfl)
theorem z_allWithin:S_allWithin pg0:=t_allWithin (show pg0.fn 54=some _ from rfl) z_in_35
theorem z_isTable1:S_isTable1 pg0:=t_isTable1 (show pg0.fn 64=some _ from rfl) z_allWithin
theorem z_indexFunc:S_indexFunc pg0:=t_indexFunc (show pg0.fn 70=some _ from rfl)
theorem z_containsFunc:S_containsFunc pg0:=t_containsFunc (show pg0.fn 63=some _ from rfl) z_indexFunc
theorem z_table_50:S_table pg0 50:=t_isTable (show pg0.fn 50=some _ from rfl) z_in_35 z_isTable1 z_containsFunc
theorem z_isPermuted:S_isPermuted pg0:=t_isPermuted (show pg0.fn 66=some _ from rfl) z_in_35
theorem z_permRows1:S_permRows1 pg0:=t_permRows1 (show pg0.fn 65=some _ from rfl) z_isPermuted
theorem z_permRows:S_permRows pg0:=t_permRows (show pg0.fn 51=some _ from rfl) z_permRows1 z_containsFunc
theorem z_sqI:S_sqI pg0:=t_sqI (show pg0.fn 414=some _ from rfl)
theorem z_cfI:S_cfI pg0:=t_cfI (show pg0.fn 415=some _ from rfl)
theorem z_isCy_360:S_isCy pg0 360:=t_isCyI (show pg0.fn 360=some _ from rfl) z_table_50 z_permRows z_sqI z_isPermuted z_cfI
theorem z_isos:S_isos pg0:=t_isos (show pg0.fn 369=some _ from rfl)
theorem s_cyIso_248:S_cyIso pg 248:=cyc_impl cyc_call z_isCy_360 z_isos
theorem s_pairMap_56:S_pairMap pg 56:=t_l02Map (show pg.fn 56=some _ from rfl) s_table_46
theorem s_mark:S_mark pg:=t_mark (show pg.fn 467=some _ from rfl)
theorem s_less:S_less pg:=t_l01Less (show pg.fn 408=some _ from rfl)
theorem s_same:S_same pg:=t_same (show pg.fn 67=some _ from rfl)
theorem s_refine:S_refine pg:=t_refine (show pg.fn 463=some _ from rfl) s_mark s_less s_same
theorem s_own0:S_own0 pg:=t_own0 (show pg.fn 31=some _ from rfl)
theorem s_idx0:S_idx0 pg:=t_idx0 (show pg.fn 69=some _ from rfl)
theorem s_has0:S_has0 pg:=t_has0 (show pg.fn 62=some _ from rfl) s_idx0
theorem s_fits:S_fits pg:=t_fits (show pg.fn 462=some _ from rfl)
theorem s_seek:S_seek pg:=t_seek (show pg.fn 464=some _ from rfl) s_own s_has s_fits s_refine
theorem s_seek0:S_seek0 pg:=t_seek0 (show pg.fn 464=some _ from rfl) s_own s_own0 s_has0 s_fits s_refine s_seek
theorem s_maps:S_maps pg:=t_maps (show pg.fn 448=some _ from rfl) s_refine s_seek0
theorem s_l02Maps:S_l02Maps pg:=t_l02Maps (show pg.fn 421=some _ from rfl) s_maps
theorem s_soIso_370:S_soIso pg 370:=t_soIsoS (show pg.fn 370=some _ from rfl) s_pairMap_56 s_l02Maps
theorem s_cyIso_249:S_cyIso pg 249:=t_cyIsoS (show pg.fn 249=some _ from rfl) s_isCy_363 s_cySol_366 s_soIso_370
theorem s_isPc:S_isPc pg:=t_isPc (show pg.fn 346=some _ from rfl) s_in_35 s_isPermuted
theorem s_ren1:S_ren1 pg:=t_renamed1 (show pg.fn 390=some _ from rfl)
theorem s_image_306:S_image pg 306:=t_renamed (show pg.fn 306=some _ from rfl) s_inv_307 s_tableBy s_ren1
theorem s_renT:S_renT pg:=t_renT (show pg.fn 250=some _ from rfl) s_table_50 s_isPc s_image_306
theorem z_pairMap_59:S_pairMap pg0 59:=t_isPairMap (show pg0.fn 59=some _ from rfl) z_table_50
theorem s_soIso_251:S_soIso pg 251:=sol_impl sol_call z_pairMap_59 z_isos
theorem s_law119:S_law119 pg:=t_law119 (show pg.fn 119=some _ from rfl) s_big s_drC s_dualT_243 s_dualT_244 s_likeT s_socs s_mirI s_likeS s_drP s_cyIso_248 s_cyIso_249 s_likeI s_renT s_soIso_251
theorem own:ownKnob Tryz.prog.godebug=none:=by kernel_rfl
theorem part_le {H:Type} {d:DataW H} {l:List (DataW H)} (h:d∈l):Rows.uptoBulk d≤Rows.uptoBulkAll l:=by
 induction l with
 | nil=>cases h
 | cons x r ih =>
  simp only [Rows.uptoBulkAll]
  cases List.mem_cons.1 h with
  | inl e=>subst e;omega
  | inr e=>have:=ih e;omega
theorem one_le {H:Type} (d:DataW H):1≤Rows.uptoBulk d:=by
 cases d with
 | lit l=>cases l <;> simp [Rows.uptoBulk]
 | _=>simp [Rows.uptoBulk]
theorem length_le {H:Type} (l:List (DataW H)):l.length≤Rows.uptoBulkAll l:=by
 induction l with
 | nil=>simp [Rows.uptoBulkAll]
 | cons x r ih=>have:=one_le x;simp only [Rows.uptoBulkAll,List.length_cons];omega
theorem bulk {H:Type}:Bulk (H:=H) Rows.uptoBulk :=
 ⟨fun es rest=>by have:=length_le es;simp only [Rows.uptoBulk];omega,
  fun es rest d h=>by have:=part_le h;simp only [Rows.uptoBulk];omega,
  fun ps d h=>by have:=part_le h;simp only [Rows.uptoBulk];omega⟩
theorem bound {H:Type} {l:List (DataW H)} (hk:Rows.uptoSmall H l=true):Rows.uptoBulkAll l≤1048576:=by
 simpa [Rows.uptoSmall] using hk
theorem laid:laidOutB Tryz.prog=true:=by kernel_rfl
theorem read22:Tryz.prog.readableRec 22=true∧22<Tryz.prog.types.size:=⟨by kernel_rfl,of_decide_eq_true (by kernel_rfl)⟩
set_option maxRecDepth 100000 in
theorem contract (H:Type) (enc:TypeId×Value→H) (W:World) (base:Nat) (args:Array Value) (ds gs:List (DataW H)) (before:List MemPlace)
 (hval:∀ (j:Nat) t v,Tryz.f3.params[j]?=some t→args[j]?=some v→Value.okWide Tryz.prog W .any base t v)
 (hW:DataW.Whole enc Tryz.prog Tryz.f3.params.toList Rows.fnDualCyclesSpec.vars false W args.toList ds gs before) (hk:Rows.uptoSmall H (ds++gs)=true) :
 Calls Tryz.prog 3 args W fun e W'=>∃ v,e=.returned v∧Rows.fnDualCyclesSpec.post enc Tryz.prog Tryz.f3 false true false false W args v W':=by
 have hW':=hW
 obtain ⟨p,q,hA,hV,rfl,hfz,hnd⟩:=hW
 rw [Tryz.params3] at hA hval
 obtain ⟨v0,vs0,d0,ds0,p0,q0,hargs,rfl,rfl,h0,r0⟩:=Go.ChangeShapes.trodAll_cons hA
 obtain ⟨rfl,rfl,rfl⟩:=Go.ChangeShapes.trodAll_nil r0
 obtain rfl:args=#[v0]:=by cases args;simp_all
 have hb:=bound hk
 have hb0:Rows.uptoBulk d0≤1048576:=Nat.le_trans (part_le (by simp)) hb
 obtain ⟨a0,g0,x0⟩:=open_argB (fm:=fm) bulk Tryz.underlying22 Tryz.underlying5 (by kernel_rfl) (hval 0 22 v0 rfl rfl) h0
 obtain ⟨args',hc⟩:=s_law119 a0 ⟨Nat.le_trans x0.1 hb0,x0.2⟩
 refine (run_true (pact hc) (by simp) rfl (fun s t ht=>?_)).mono fun e W' ⟨he,hg⟩=>?_
 · match s,ht with
   | 0,ht =>
    cases ht
    exact g0
 · subst he
   exact ⟨_,rfl,post_true hW' hg rfl rfl (by kernel_rfl) laid (fun t ht=>by rw [Tryz.params3] at ht;simp at ht;rcases ht with rfl <;> first | exact read22) rfl⟩
set_option maxRecDepth 100000 in
theorem lifted (os:Os) (started:os.Started) (H:Type) (enc:TypeId×Value→H) (F:Stop.Interp) :
 ReturnsInHanded {} Tryz.checked os 3 .any ((Rows.OpenSpec.upto Rows.fnDualCyclesSpec).pre6 enc Tryz.prog Tryz.f3 Rows.fnDualCyclesUptoRow.domain false) (((Rows.OpenSpec.upto Rows.fnDualCyclesSpec).at F).post enc Tryz.prog Tryz.f3 false true false false):=by
 refine returnsInHanded_of_cond (C:=Tryz.checked) (s:=Rows.OpenSpec.upto Rows.fnDualCyclesSpec) (k:=Rows.uptoSmall) rfl own started (by kernel_rfl) Tryz.func3
  (OpenSpec.witness (enc:=enc) (C:=Tryz.checked) (s:=Rows.OpenSpec.upto Rows.fnDualCyclesSpec) (k:=Rows.uptoSmall) rfl false ⟨#[],#[.slice none 0 0],[]⟩ 8 (by kernel_rfl) (by kernel_rfl) (by kernel_rfl)
   (x:=([.nil],[],[])) (by kernel_rfl) rfl (by kernel_rfl)) ?_
 intro W base args ds gs before hval hW _ hk _
 exact contract H enc W base args ds gs before hval hW hk
theorem over:Rows.fnDualCyclesUptoRow.holds Tryz.pinned (Rows.OpenSpec.upto Rows.fnDualCyclesSpec) :=
 OpenClaim.holds_of_cond 3 Tryz.f3 rfl rfl rfl rfl rfl rfl rfl ⟨rfl,rfl,rfl,rfl,rfl⟩ rfl rfl rfl rfl rfl (by kernel_rfl) Tryz.func3 (by kernel_rfl)
  (of_decide_eq_true (by kernel_rfl)) (by unfold Func.isWrapper;first | (rw [if_pos (by decide +kernel)];kernel_rfl) | (rw [if_neg (by decide +kernel)];exact ⟨rfl,rfl⟩))
  (fun os started H enc _ F=>lifted os started H enc F)
theorem proved:Rows.FnDualCyclesUptoSaid :=
 over
end Go.Proofs.YtmlknafdnccddaaGreat.fnDualCycles
