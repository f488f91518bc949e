/- The law FnClasses returns true for all arguments that hold together at most 1048576 values. -/
import Derived.Test.YtkcgdmjdkbgmkaaGreatTie
import Derived.Test.YtkcgdmjdkbgmkaaGreatP1
import Derived.Test.YtkcgdmjdkbgmkaaGreatP2
namespace Go.Proofs.YtkcgdmjdkbgmkaaGreat.fnClasses
open Go.Mch Tie
theorem s_big:S_big pg:=t_big (show pg.fn 128=some _ from rfl)
theorem s_from:S_from pg:=t_from (show pg.fn 269=some _ from rfl)
theorem s_nxt:S_nxt pg:=t_nxt (show pg.fn 336=some _ from rfl)
theorem s_aff:S_aff pg:=t_aff (show pg.fn 424=some _ from rfl)
theorem s_in_30:S_in pg 30:=t_l01In (show pg.fn 30=some _ from rfl)
theorem s_table_46:S_table pg 46:=t_l01Table (show pg.fn 46=some _ from rfl) s_in_30
theorem s_index:S_index pg:=t_index (show pg.fn 69=some _ from rfl)
theorem s_has:S_has pg:=t_has (show pg.fn 62=some _ from rfl) s_index
theorem s_perm_47:S_perm pg 47:=t_l01Perm (show pg.fn 47=some _ from rfl) s_in_30 s_has
theorem s_l01Rows:S_l01Rows pg:=t_l01Rows (show pg.fn 410=some _ from rfl) s_perm_47
theorem s_sqs:S_sqs pg:=t_sqs (show pg.fn 417=some _ from rfl)
theorem s_flt:S_flt pg:=t_flt (show pg.fn 418=some _ from rfl)
theorem s_cyI:S_cyI pg:=t_cyI (show pg.fn 363=some _ from rfl) s_table_46 s_l01Rows s_sqs s_perm_47 s_flt
theorem s_unit:S_unit pg:=t_unit (show pg.fn 334=some _ from rfl)
theorem s_own:S_own pg:=t_own (show pg.fn 31=some _ from rfl)
theorem s_twst:S_twst pg:=t_twst (show pg.fn 425=some _ from rfl) s_own
theorem s_flp:S_flp pg:=t_flp (show pg.fn 449=some _ from rfl) s_unit s_twst
theorem s_poly:S_poly pg:=t_poly (show pg.fn 423=some _ from rfl)
theorem s_prd:S_prd pg:=t_prd (show pg.fn 458=some _ from rfl)
theorem s_drw:S_drw pg:=t_drw (show pg.fn 368=some _ from rfl) s_nxt s_unit
theorem s_then_279:S_then pg 279:=t_l01Then (show pg.fn 279=some _ from rfl)
theorem s_twd:S_twd pg:=t_twd (show pg.fn 459=some _ from rfl) s_nxt s_drw s_unit s_then_279 s_twst
theorem s_uni:S_uni pg:=t_uni (show pg.fn 460=some _ from rfl)
theorem s_copyT_280:S_copyT pg 280:=t_l01Own2 (show pg.fn 280=some _ from rfl) s_own
theorem s_ivl:S_ivl pg:=t_ivl (show pg.fn 461=some _ from rfl) s_copyT_280 s_index
theorem s_empty:S_empty pg:=t_l02Empty (show pg.fn 398=some _ from rfl)
theorem s_invW:S_invW pg:=t_invW (show pg.fn 406=some _ from rfl) s_empty
theorem s_any:S_any pg:=t_any (show pg.fn 445=some _ from rfl) s_nxt s_flp s_poly s_prd s_twd s_uni s_ivl s_invW
theorem s_image_367:S_image pg 367:=t_rename (show pg.fn 367=some _ from rfl)
theorem s_renS:S_renS pg:=t_renS (show pg.fn 422=some _ from rfl) s_image_367
theorem s_dr2:S_dr2 pg:=t_dr2 (show pg.fn 412=some _ from rfl) s_nxt s_any s_drw s_renS
theorem s_column:S_column pg:=t_column (show pg.fn 375=some _ from rfl)
theorem s_turn_265:S_turn pg 265:=t_l01Turn (show pg.fn 265=some _ from rfl) s_column
theorem s_nonDeg_350:S_nonDeg pg 350:=t_l02Good (show pg.fn 350=some _ from rfl) s_l01Rows s_turn_265
theorem s_twice_351:S_twice pg 351:=t_l02Twice (show pg.fn 351=some _ from rfl)
theorem s_inv_304:S_inv pg 304:=t_l01Back (show pg.fn 304=some _ from rfl)
theorem s_cyc:S_cyc pg:=t_cyc (show pg.fn 364=some _ from rfl) s_inv_304
theorem s_cyD_427:S_cyD pg 427:=t_cyA (show pg.fn 427=some _ from rfl) s_nxt s_aff s_cyI s_dr2 s_nonDeg_350 s_twice_351 s_cyc s_flp
theorem s_cyD_378:S_cyD pg 378:=t_cyDr (show pg.fn 378=some _ from rfl) s_nxt s_cyD_427 s_drw s_image_367
theorem s_cys:S_cys pg:=t_cys (show pg.fn 366=some _ from rfl) s_empty s_index
theorem s_tbs:S_tbs pg:=t_tbs (show pg.fn 428=some _ from rfl) s_nxt s_drw
theorem s_pick:S_pick pg:=t_pick (show pg.fn 292=some _ from rfl) s_nxt
theorem s_bad:S_bad pg:=t_bad (show pg.fn 413=some _ from rfl) s_nxt s_tbs s_unit s_pick
theorem s_spl_379:S_spl pg 379:=t_spl (show pg.fn 379=some _ from rfl) s_nxt s_dr2 s_drw s_tbs s_bad
theorem s_spl_268:S_spl pg 268:=t_spl7 (show pg.fn 268=some _ from rfl) s_nxt s_cyD_378 s_cys s_spl_379
theorem s_sz9:S_sz9 pg:=t_sz9 (show pg.fn 374=some _ from rfl)
theorem s_dw9:S_dw9 pg:=t_dw9 (show pg.fn 373=some _ from rfl) s_nxt s_pick
theorem s_drV_257:S_drV pg 257:=t_dCW (show pg.fn 257=some _ from rfl) s_from s_spl_268 s_sz9 s_pick s_dw9
theorem s_in_35:S_in pg 35:=t_within (show pg.fn 35=some _ from rfl)
theorem s_allWithin:S_allWithin pg:=t_allWithin (show pg.fn 54=some _ from rfl) s_in_35
theorem s_isTable1:S_isTable1 pg:=t_isTable1 (show pg.fn 64=some _ from rfl) s_allWithin
theorem s_indexFunc:S_indexFunc pg:=t_indexFunc (show pg.fn 70=some _ from rfl)
theorem s_containsFunc:S_containsFunc pg:=t_containsFunc (show pg.fn 63=some _ from rfl) s_indexFunc
theorem s_table_50:S_table pg 50:=t_isTable (show pg.fn 50=some _ from rfl) s_in_35 s_isTable1 s_containsFunc
theorem s_pairMap_59:S_pairMap pg 59:=t_isPairMap (show pg.fn 59=some _ from rfl) s_table_50
theorem s_coll60:S_coll60 pg:=t_coll60 (show pg.fn 60=some _ from rfl)
theorem s_fault61:S_fault61 pg:=t_fault61 (show pg.fn 61=some _ from rfl)
theorem s_isSol_42:S_isSol pg 42:=t_IsSolution (show pg.fn 42=some _ from rfl) s_pairMap_59 s_coll60 s_fault61
theorem s_areElements:S_areElements pg:=t_areElements (show pg.fn 39=some _ from rfl) s_allWithin
theorem s_chk38:S_chk38 pg:=t_checkWords (show pg.fn 38=some _ from rfl) s_isSol_42 s_areElements
theorem s_clone:S_clone pg:=t_clone (show pg.fn 36=some _ from rfl)
theorem s_copyT_275:S_copyT pg 275:=t_cloneTable (show pg.fn 275=some _ from rfl) s_clone
theorem s_inv411:S_inv411 pg:=t_InverseSolution (show pg.fn 411=some _ from rfl) s_isSol_42 s_copyT_275
theorem s_text:S_text pg:=t_digitsText (show pg.fn 312=some _ from rfl)
theorem s_do_44:S_do pg 44:=t_moved (show pg.fn 44=some _ from rfl) s_clone
theorem s_len_442:S_len pg 442:=t_len64 (show pg.fn 442=some _ from rfl)
theorem s_len_394:S_len pg 394:=t_len (show pg.fn 394=some _ from rfl) s_len_442
theorem s_nan:S_nan pg:=t_isNaN (show pg.fn 443=some _ from rfl)
theorem s_cmpI:S_cmpI pg:=t_cmpI (show pg.fn 395=some _ from rfl) s_nan
theorem s_cmpL:S_cmpL pg:=t_cmpL (show pg.fn 314=some _ from rfl) s_cmpI
theorem s_insSort:S_insSort pg:=t_insSort (show pg.fn 433=some _ from rfl) s_cmpL
theorem s_sift:S_sift pg:=t_siftDown (show pg.fn 450=some _ from rfl) s_cmpL
theorem s_heap:S_heap pg:=t_heapSort (show pg.fn 434=some _ from rfl) s_sift
theorem s_np2:S_np2 pg:=t_nextPowerOfTwo (show pg.fn 451=some _ from rfl) s_len_394
theorem s_next:S_next pg:=t_next (show pg.fn 452=some _ from rfl)
theorem s_brk:S_brk pg:=t_breakPatterns (show pg.fn 435=some _ from rfl) s_np2 s_next
theorem s_ord2:S_ord2 pg:=t_order2 (show pg.fn 465=some _ from rfl) s_cmpL
theorem s_med:S_med pg:=t_median (show pg.fn 454=some _ from rfl) s_ord2
theorem s_madj:S_madj pg:=t_medianAdjacent (show pg.fn 453=some _ from rfl) s_med
theorem s_piv:S_piv pg:=t_choosePivot (show pg.fn 436=some _ from rfl) s_madj s_med
theorem s_revR:S_revR pg:=t_reverseRange (show pg.fn 437=some _ from rfl)
theorem s_pins:S_pins pg:=t_partialInsertionSort (show pg.fn 438=some _ from rfl) s_cmpL
theorem s_part:S_part pg:=t_partition (show pg.fn 440=some _ from rfl) s_cmpL
theorem s_pdq:S_pdq pg:=t_pdq (show pg.fn 393=some _ from rfl) s_insSort s_heap s_brk s_piv s_revR s_pins s_part s_cmpL
theorem s_sort:S_sort pg:=t_sortFunc (show pg.fn 313=some _ from rfl) s_len_394 s_pdq
theorem s_wordClass:S_wordClass pg:=t_wordClass (show pg.fn 352=some _ from rfl) s_inv411 s_clone s_text s_do_44 s_sort
theorem s_lim:S_lim pg:=t_limitedClass (show pg.fn 297=some _ from rfl) s_wordClass
theorem s_cw_158:S_cw pg 158:=t_cw_impl (show pg.fn 158=some _ from rfl) s_chk38 s_lim
theorem s_pairMap_56:S_pairMap pg 56:=t_l02Map (show pg.fn 56=some _ from rfl) s_table_46
theorem s_coll57:S_coll57 pg:=t_coll57 (show pg.fn 57=some _ from rfl)
theorem s_do_68:S_do pg 68:=do_of (show pg.fn 68=some _ from rfl) s_own
theorem s_same:S_same pg:=t_same (show pg.fn 67=some _ from rfl)
theorem s_fault58:S_fault58 pg:=t_fault58 (show pg.fn 58=some _ from rfl) s_do_68 s_same
theorem s_isSol_41:S_isSol pg 41:=t_l02Is (show pg.fn 41=some _ from rfl) s_pairMap_56 s_coll57 s_fault58
theorem s_word:S_word pg:=t_l09Word (show pg.fn 53=some _ from rfl) s_in_30
theorem s_code37:S_code37 pg:=t_l09Code (show pg.fn 37=some _ from rfl) s_isSol_41 s_word
theorem s_inv406:S_inv406 pg:=t_l02Inverse (show pg.fn 406=some _ from rfl) s_empty
theorem s_less:S_less pg:=t_l01Less (show pg.fn 408=some _ from rfl)
theorem s_put:S_put pg:=t_l01Put (show pg.fn 349=some _ from rfl) s_less s_same
theorem s_class:S_class pg:=t_l09Class (show pg.fn 339=some _ from rfl) s_inv406 s_own s_do_68 s_put s_copyT_280
theorem s_cw_215:S_cw pg 215:=t_cw_spec (show pg.fn 215=some _ from rfl) s_code37 s_class
theorem s_likeI:S_likeI pg:=t_likeI (show pg.fn 141=some _ from rfl)
theorem s_likeT:S_likeT pg:=t_likeT (show pg.fn 137=some _ from rfl) s_likeI
theorem s_roll:S_roll pg:=t_roll (show pg.fn 139=some _ from rfl)
theorem s_below:S_below pg:=t_below (show pg.fn 140=some _ from rfl)
theorem s_ap:S_ap pg:=t_ap (show pg.fn 258=some _ from rfl) s_pairMap_59 s_areElements
theorem s_hr5:S_hr5 pg:=t_hr5 (show pg.fn 138=some _ from rfl) s_likeI
theorem s_nwI:S_nwI pg:=t_normalWord (show pg.fn 342=some _ from rfl) s_lim
theorem s_nw_221:S_nw pg 221:=t_nw_impl (show pg.fn 221=some _ from rfl) s_chk38 s_nwI
theorem s_equal:S_equal pg:=t_equal (show pg.fn 276=some _ from rfl)
theorem s_eqTo407:S_eqTo407 pg:=t_listIndex1 (show pg.fn 407=some _ from rfl) s_equal
theorem s_listIndex:S_listIndex pg:=t_listIndex (show pg.fn 341=some _ from rfl) s_indexFunc s_eqTo407
theorem s_ae_214:S_ae pg 214:=t_ae_impl (show pg.fn 214=some _ from rfl) s_chk38 s_lim s_listIndex
theorem z_in_35:S_in pg0 35:=t_within (show pg0.fn 35=some _ from rfl)
theorem z_allWithin:S_allWithin pg0:=t_allWithin (show pg0.fn 54=some _ from rfl) z_in_35
theorem z_isTable1:S_isTable1 pg0:=t_isTable1 (show pg0.fn 64=some _ from rfl) z_allWithin
theorem z_indexFunc:S_indexFunc pg0:=t_indexFunc (show pg0.fn 70=some _ from rfl)
theorem z_containsFunc:S_containsFunc pg0:=t_containsFunc (show pg0.fn 63=some _ from rfl) z_indexFunc
theorem z_table_50:S_table pg0 50:=t_isTable (show pg0.fn 50=some _ from rfl) z_in_35 z_isTable1 z_containsFunc
theorem z_pairMap_59:S_pairMap pg0 59:=t_isPairMap (show pg0.fn 59=some _ from rfl) z_table_50
theorem z_coll60:S_coll60 pg0:=t_coll60 (show pg0.fn 60=some _ from rfl)
theorem z_fault61:S_fault61 pg0:=t_fault61 (show pg0.fn 61=some _ from rfl)
theorem z_isSol_42:S_isSol pg0 42:=t_IsSolution (show pg0.fn 42=some _ from rfl) z_pairMap_59 z_coll60 z_fault61
theorem z_areElements:S_areElements pg0:=t_areElements (show pg0.fn 39=some _ from rfl) z_allWithin
theorem z_chk38:S_chk38 pg0:=t_checkWords (show pg0.fn 38=some _ from rfl) z_isSol_42 z_areElements
theorem z_back:S_back pg0:=t_back (show pg0.fn 40=some _ from rfl)
theorem s_aw_17:S_aw pg 17:=aw_impl act_call z_chk38 z_areElements z_back
theorem s_ls5:S_ls5 pg:=t_ls5 (show pg.fn 259=some _ from rfl) s_below
theorem s_law123:S_law123 pg:=t_law123 (show pg.fn 123=some _ from rfl) s_big s_drV_257 s_cw_158 s_cw_215 s_likeT s_roll s_below s_ap s_hr5 s_nw_221 s_ae_214 s_likeI s_aw_17 s_ls5
theorem own:ownKnob Tryz.prog.godebug=none:=by kernel_rfl
theorem part_le {H:Type} {d:DataW H} {l:List (DataW H)} (h:d∈l):Rows.uptoBulk d≤Rows.uptoBulkAll l:=by
 induction l with
 | nil=>cases h
 | cons x r ih =>
  simp only [Rows.uptoBulkAll]
  cases List.mem_cons.1 h with
  | inl e=>subst e;omega
  | inr e=>have:=ih e;omega
theorem one_le {H:Type} (d:DataW H):1≤Rows.uptoBulk d:=by
 cases d with
 | lit l=>cases l <;> simp [Rows.uptoBulk]
 | _=>simp [Rows.uptoBulk]
theorem length_le {H:Type} (l:List (DataW H)):l.length≤Rows.uptoBulkAll l:=by
 induction l with
 | nil=>simp [Rows.uptoBulkAll]
 | cons x r ih=>have:=one_le x;simp only [Rows.uptoBulkAll,List.length_cons];omega
theorem bulk {H:Type}:Bulk (H:=H) Rows.uptoBulk :=
 ⟨fun es rest=>by have:=length_le es;simp only [Rows.uptoBulk];omega,
  fun es rest d h=>by have:=part_le h;simp only [Rows.uptoBulk];omega,
  fun ps d h=>by have:=part_le h;simp only [Rows.uptoBulk];omega⟩
theorem bound {H:Type} {l:List (DataW H)} (hk:Rows.uptoSmall H l=true):Rows.uptoBulkAll l≤1048576:=by
 simpa [Rows.uptoSmall] using hk
theorem laid:laidOutB Tryz.prog=true:=by kernel_rfl
theorem read22:Tryz.prog.readableRec 22=true∧22<Tryz.prog.types.size:=⟨by kernel_rfl,of_decide_eq_true (by kernel_rfl)⟩
set_option maxRecDepth 100000 in
theorem contract (H:Type) (enc:TypeId×Value→H) (W:World) (base:Nat) (args:Array Value) (ds gs:List (DataW H)) (before:List MemPlace)
 (hval:∀ (j:Nat) t v,Tryz.f9.params[j]?=some t→args[j]?=some v→Value.okWide Tryz.prog W .any base t v)
 (hW:DataW.Whole enc Tryz.prog Tryz.f9.params.toList Rows.fnClassesSpec.vars false W args.toList ds gs before) (hk:Rows.uptoSmall H (ds++gs)=true) :
 Calls Tryz.prog 9 args W fun e W'=>∃ v,e=.returned v∧Rows.fnClassesSpec.post enc Tryz.prog Tryz.f9 false true false false W args v W':=by
 have hW':=hW
 obtain ⟨p,q,hA,hV,rfl,hfz,hnd⟩:=hW
 rw [Tryz.params9] at hA hval
 obtain ⟨v0,vs0,d0,ds0,p0,q0,hargs,rfl,rfl,h0,r0⟩:=Go.ChangeShapes.trodAll_cons hA
 obtain ⟨rfl,rfl,rfl⟩:=Go.ChangeShapes.trodAll_nil r0
 obtain rfl:args=#[v0]:=by cases args;simp_all
 have hb:=bound hk
 have hb0:Rows.uptoBulk d0≤1048576:=Nat.le_trans (part_le (by simp)) hb
 obtain ⟨a0,g0,x0⟩:=open_argB (fm:=fm) bulk Tryz.underlying22 Tryz.underlying5 (by kernel_rfl) (hval 0 22 v0 rfl rfl) h0
 obtain ⟨args',hc⟩:=s_law123 a0 ⟨Nat.le_trans x0.1 hb0,x0.2⟩
 refine (run_true (pact hc) (by simp) rfl (fun s t ht=>?_)).mono fun e W' ⟨he,hg⟩=>?_
 · match s,ht with
   | 0,ht =>
    cases ht
    exact g0
 · subst he
   exact ⟨_,rfl,post_true hW' hg rfl rfl (by kernel_rfl) laid (fun t ht=>by rw [Tryz.params9] at ht;simp at ht;rcases ht with rfl <;> first | exact read22) rfl⟩
set_option maxRecDepth 100000 in
theorem lifted (os:Os) (started:os.Started) (H:Type) (enc:TypeId×Value→H) (F:Stop.Interp) :
 ReturnsInHanded {} Tryz.checked os 9 .any ((Rows.OpenSpec.upto Rows.fnClassesSpec).pre6 enc Tryz.prog Tryz.f9 Rows.fnClassesUptoRow.domain false) (((Rows.OpenSpec.upto Rows.fnClassesSpec).at F).post enc Tryz.prog Tryz.f9 false true false false):=by
 refine returnsInHanded_of_cond (C:=Tryz.checked) (s:=Rows.OpenSpec.upto Rows.fnClassesSpec) (k:=Rows.uptoSmall) rfl own started (by kernel_rfl) Tryz.func9
  (OpenSpec.witness (enc:=enc) (C:=Tryz.checked) (s:=Rows.OpenSpec.upto Rows.fnClassesSpec) (k:=Rows.uptoSmall) rfl false ⟨#[],#[.slice none 0 0],[]⟩ 8 (by kernel_rfl) (by kernel_rfl) (by kernel_rfl)
   (x:=([.nil],[],[])) (by kernel_rfl) rfl (by kernel_rfl)) ?_
 intro W base args ds gs before hval hW _ hk _
 exact contract H enc W base args ds gs before hval hW hk
theorem over:Rows.fnClassesUptoRow.holds Tryz.pinned (Rows.OpenSpec.upto Rows.fnClassesSpec) :=
 OpenClaim.holds_of_cond 9 Tryz.f9 rfl rfl rfl rfl rfl rfl rfl ⟨rfl,rfl,rfl,rfl,rfl⟩ rfl rfl rfl rfl rfl (by kernel_rfl) Tryz.func9 (by kernel_rfl)
  (of_decide_eq_true (by kernel_rfl)) (by unfold Func.isWrapper;first | (rw [if_pos (by decide +kernel)];kernel_rfl) | (rw [if_neg (by decide +kernel)];exact ⟨rfl,rfl⟩))
  (fun os started H enc _ F=>lifted os started H enc F)
theorem proved:Rows.FnClassesUptoSaid :=
 over
end Go.Proofs.YtkcgdmjdkbgmkaaGreat.fnClasses
