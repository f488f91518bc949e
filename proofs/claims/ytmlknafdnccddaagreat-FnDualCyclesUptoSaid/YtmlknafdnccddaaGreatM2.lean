/- Our texts YbH YbI YbJ YbK YbL YbN YbO YbP YbQ YbR YbS YbT,end to end. -/
import Derived.Test.YtmlknafdnccddaaGreatM1
import Derived.Laws.BytesString
namespace Go.Mch

def okOpds (fm:Nat→Nat):List Opd→List Operand→Bool
 | [],[]=>true
 | x::xs,y::ys=>okOpd fm x y&&okOpds fm xs ys
 | _,_=>false

def okOpt (fm:Nat→Nat):Option Opd→Option Operand→Bool
 | none,none=>true
 | some x,some y=>okOpd fm x y
 | _,_=>false

def okParts (P:Program) (fm:Nat→Nat) (t:TypeId):List (Nat×Nat×Opd)→List (Nat×Operand)→Bool
 | [],[]=>true
 | (i,n,x)::xs,(j,y)::ys=>(fieldOf P t j).any (fun f=>f.offset == i&&szOf P f.type == some n)&&okOpd fm x y&&okParts P fm t xs ys
 | _,_=>false

def okModes (fm:Nat→Nat):List (Opd×Mode)→List Operand→Bool
 | [],[]=>true
 | x::xs,y::ys=>okOpd fm x.1 y&&okModes fm xs ys
 | _,_=>false

def isSlice (P:Program) (t:TypeId):Bool:=(elOf P t).isSome

def okSet (P:Program) (t:TypeId):Bool :=
 match P.underlying t with
 | some (.map kt vt)=>(match P.underlying kt with | some .string=>true | _=>false)&&(match (P.info? vt).bind (·.zero) with | some (.bool false)=>true | _=>false)
 | _=>false

def okPartsA (fm:Nat→Nat) (sz:Nat):List (Nat×Nat×Opd)→List (Nat×Operand)→Bool
 | [],[]=>true
 | (i,n,x)::xs,(j,y)::ys=>i == j*sz&&n == sz&&okOpd fm x y&&okPartsA fm sz xs ys
 | _,_=>false

def okQ (P:Program) (fm:Nat→Nat):Q→Op→Bool
 | .mv x,.move y=>okOpd fm x y
 | .asg x,.assign y=>okOpd fm x y
 | .mvw x,.move y=>okOpd fm x y
 | .sts a x,.store t a' x'=>szOf P t == some 1&&okOpd fm a a'&&okOpd fm x x'
 | .stsw a x _,.store t a' x'=>szOf P t == some 1&&okOpd fm a a'&&okOpd fm x x'
 | .mv x,.assign y=>okOpd fm x y
 | .pick c a b,.pick c' a' b'=>okOpd fm c c'&&okOpd fm a a'&&okOpd fm b b'
 | .bin op x y,.binOp op' _ x' y' _=>op == op'&&okOpd fm x x'&&okOpd fm y y'
 | .beq neg x y,.binOp op t x' y' _=>op == (if neg then .neq else .eql)&&(match P.underlying t with | some .bool=>true | _=>false)&&okOpd fm x x'&&okOpd fm y y'
 | .isnil neg x,.binOp op t x' y' _=>op == (if neg then .neq else .eql)&&isSlice P t&&okOpd fm x x'&&okOpd fm (.c (.slice none 0 0)) y'
 | .un op x,.unOp op' _ x'=>op == op'&&okOpd fm x x'
 | .conv k x,.convert s d x'=>(match P.underlying s,P.underlying d with | some (.int _),some (.int k')=>k == k' | _,_=>false)&&okOpd fm x x'
 | .len x,.call ⟨.builtin .len,as,ts⟩=>(match as.toList,ts.toList with | [x'],[t]=>isSlice P t&&okOpd fm x x' | _,_=>false)
 | .slen x,.call ⟨.builtin .len,as,ts⟩=>(match as.toList,ts.toList with | [x'],[t]=>(match P.underlying t with | some .string=>true | _=>false)&&okOpd fm x x' | _,_=>false)
 | .idx sz x i,.indexAddr t x' i'=>(elOf P t).any (fun e=>szOf P e == some sz)&&okOpd fm x x'&&okOpd fm i i'
 | .at x i,.index t x' i'=>(match P.underlying t with | some .string=>true | _=>false)&&okOpd fm x x'&&okOpd fm i i'
 | .fld off x,.fieldAddr t x' f=>(fieldOf P t f).any (fun f=>f.offset == off&&(szOf P f.type).any (fun n=>n != 0))&&okOpd fm x x'
 | .fldv off n x,.field t x' f=>(fieldOf P t f).any (fun f=>f.offset == off&&okN P f.type n)&&okOpd fm x x'
 | .ld n a,.load t a'=>okN P t n&&okOpd fm a a'
 | .st n a x,.store t a' x'=>szOf P t == some (n.getD 1)&&okOpd fm a a'&&okOpd fm x x'
 | .stk _ n a x,.store t a' x'=>szOf P t == some (n.getD 1)&&okOpd fm a a'&&okOpd fm x x'
 | .nilck x,.nilCheck x'=>okOpd fm x x'
 | .alloc zs,.alloc t=>(zeroOf P t).any (eqCL zs ·)
 | .box x,.box _ x'=>okOpd fm x x'
 | .build zs ps,.build t ps'=>(zeroOf P t).any (eqCL zs ·)&&(match P.underlying t with | some (.struct fs)=>fs.all (fun f=>(szOf P f.type).isSome)&&okParts P fm t ps ps'.toList | some (.array _ el)=>(szOf P el).any (fun sz=>okPartsA fm sz ps ps'.toList) | _=>false)
 | .mks z n,.makeSlice t l c=>(elOf P t).any (fun e=>szOf P e == some 1&&(zeroOf P e).any (eqCL [z] ·)&&(byOf P e).any (fun b=>decide (b≤65536)))&&okOpd fm n l&&okOpd fm n c
 | .bsl ps,.buildSlice t n ps'=>(elOf P t).any (fun e=>szOf P e == some 1&&(zeroOf P e).any (fun z=>z.length == 1))&&decide (n≤16777216)&&ps'.toList.map (·.1) == List.range n&&okOpds fm ps (ps'.toList.map (·.2))
 | .app _ sz x y,.call ⟨.builtin .append,as,ts⟩=>(match as.toList,ts.toList with | [x',y'],[t,u]=>(elOf P t).any (fun e=>szOf P e == some sz&&(zeroOf P e).any (fun z=>z.length == sz)&&(byOf P e).any (fun b=>decide (b≤32768*sz)))&&decide (0<sz)&&isSlice P u&&okOpd fm x x'&&okOpd fm y y' | _,_=>false)
 | .sl sz x lo hi,.slice t x' lo' hi' none=>(elOf P t).any (fun e=>szOf P e == some sz)&&decide (0<sz)&&okOpd fm x x'&&okOpt fm lo lo'&&okOpt fm hi hi'
 | .ext x i,.extract x' i'=>i == i'&&okOpd fm x x'
 | .fnc f caps,.makeFunc (.func g) first caps'=>fm f == g&&okOpds fm caps caps'.toList&&first.toList.isEmpty
 | .fncl f x,.makeFunc (.func g) first caps'=>fm f == g&&okOpds fm [x] caps'.toList&&first.toList.isEmpty
 | .call f args,.call ⟨.value f',args',_⟩=>okOpd fm f f'&&okModes fm args args'.toList&&args.all (fun x=>x.2 == .r)
 | .callm f args _,.call ⟨.value f',args',_⟩=>okOpd fm f f'&&okOpds fm (args.map (·.1)) args'.toList
 | .boxk s,.box _ x'=>okOpd fm (.t s) x'
 | .bslk x _,.buildSlice t n ps'=>(elOf P t).any (fun e=>szOf P e == some 1&&(zeroOf P e).any (fun z=>z.length == 1))&&decide (n≤16777216)&&ps'.toList.map (·.1) == List.range n&&okOpds fm [x] (ps'.toList.map (·.2))
 | .appk x y _,.call ⟨.builtin .append,as,ts⟩=>(match as.toList,ts.toList with | [x',y'],[t,u]=>(elOf P t).any (fun e=>szOf P e == some 1&&(zeroOf P e).any (fun z=>z.length == 1)&&(byOf P e).any (fun b=>decide (b≤32768*1)))&&decide (0<1)&&isSlice P u&&okOpd fm x x'&&okOpd fm y y' | _,_=>false)
 | .mm mx x y,.call ⟨.builtin b,as,_⟩=>b == (if mx then .max else .min)&&(match as.toList with | [x',y']=>okOpd fm x x'&&okOpd fm y y' | _=>false)
 | .cap0 x,.call ⟨.builtin .cap,as,ts⟩=>(match as.toList,ts.toList with | [x'],[t]=>isSlice P t&&okOpd fm x x' | _,_=>false)
 | .bstr x,.convert s d x'=>(elOf P s).any (fun el=>(match P.underlying el,P.underlying d with | some (.int .u8),some .string=>true | _,_=>false))&&okOpd fm x x'
 | .bsls sz _ _ ps,.buildSlice t n ps' | .bslv sz ps,.buildSlice t n ps'=>(elOf P t).any (fun e=>szOf P e == some sz&&(zeroOf P e).any (fun z=>z.length == sz))&&decide (0<sz)&&decide (n*sz≤16777216)&&ps'.toList.map (·.1) == List.range n&&okOpds fm ps (ps'.toList.map (·.2))
 | .arr sz len x i,.index t x' i'=>(match P.underlying t with | some (.array len' el)=>len' == len&&szOf P el == some sz&&aggOf P el == some true | _=>false)&&decide (0<sz)&&okOpd fm x x'&&okOpd fm i i'
 | .fld off x,.indexAddr t x' i'=>(match P.underlying t,i' with | some (.array len el),.const (.int _ i)=>decide (0≤i)&&decide (i<(len:Int))&&(szOf P el).any (fun sz=>off == i.toNat*sz) | _,_=>false)&&okOpd fm x x'
 | .mkset,.makeMap _ none=>true
 | .tk1 none s,.move x'=>okOpd fm (.t s) x'
 | .tk1 none s,.assign x'=>okOpd fm (.t s) x'
 | .tk1 (some sz) s,.buildSlice t n ps'=>(elOf P t).any (fun e=>szOf P e == some sz&&(zeroOf P e).any (fun z=>z.length == sz))&&decide (0<sz)&&decide (n*sz≤16777216)&&ps'.toList.map (·.1) == List.range n&&okOpds fm [.t s] (ps'.toList.map (·.2))
 | .exts s i,.extract x' i'=>i == i'&&okOpd fm (.t s) x'
 | .mvs s,.move x'=>okOpd fm (.t s) x'
 | .calls f x _ xs,.call ⟨.value f',args',_⟩=>okOpd fm f f'&&okOpds fm (x::xs) args'.toList
 | .bslw sz ps,.buildSlice t n ps'=>(elOf P t).any (fun e=>szOf P e == some sz&&(zeroOf P e).any (fun z=>z.length == sz))&&decide (0<sz)&&decide (n*sz≤16777216)&&ps'.toList.map (·.1) == List.range n&&okOpds fm ps (ps'.toList.map (·.2))
 | .bsl1 s,.buildSlice t n ps'=>(elOf P t).any (fun e=>szOf P e == some 1&&(zeroOf P e).any (fun z=>z.length == 1))&&decide (n≤16777216)&&ps'.toList.map (·.1) == List.range n&&okOpds fm [.t s] (ps'.toList.map (·.2))
 | .apz z x n,.call ⟨.builtin .append,as,ts⟩=>(match as.toList,ts.toList with | [x',n'],[t,u]=>(match P.underlying u with | some (.int _)=>true | _=>false)&&(elOf P t).any (fun e=>szOf P e == some 1&&(zeroOf P e).any (eqCL [z] ·)&&(byOf P e).any (fun b=>decide (b≤32768)))&&okOpd fm x x'&&okOpd fm n n' | _,_=>false)
 | .look x k,.lookup t x' k' false=>okSet P t&&okOpd fm x x'&&okOpd fm k k'
 | .upd x k,.mapUpdate t m k' v=>okSet P t&&okOpd fm x m&&okOpd fm k k'&&okOpd fm (.c (.bool true)) v
 | .upd x k,.insert t m k' v=>okSet P t&&okOpd fm x m&&okOpd fm k k'&&okOpd fm (.c (.bool true)) v
 | _,_=>false

section
variable {P:Program} {cx:Cx} {nt:Nat} {Kt:Env→Prop} {o:Oper} {a:Act} {w:World} {e:Env} {d:Nat}

theorem good_move {x:Opd} {y:Operand} {v:V} (h:Rel cx nt e a w) (hop:o.op=.move y∨o.op=.assign y) (ho:okOpd cx.fm x y=true) (hd:o.dst=some d) (hlt:d<nt) (he:e.opd x=some v) (hK:Kt (e.setD (some d) v)):Good P cx nt Kt o a w:=by
 refine good_read h hd hlt ?_ (h.opd ho he) hK
 rcases hop with hop | hop <;> simp [execOp,hop]

theorem good_pick {c x y:Opd} {c' x' y':Operand} {t:Bool} {v:V} (h:Rel cx nt e a w) (hop:o.op=.pick c' x' y') (hc:okOpd cx.fm c c'=true) (hx:okOpd cx.fm x x'=true) (hy:okOpd cx.fm y y'=true)
 (hd:o.dst=some d) (hlt:d<nt) (ht:(e.opd c).bind asB=some t) (he:e.opd (if t then x else y)=some v) (hK:Kt (e.setD (some d) v)):Good P cx nt Kt o a w:=by
 have h1:=ar_sc (h.opd hc (asB_spec ht))
 cases t
 · refine good_read h hd hlt ?_ (h.opd hy he) hK
   simp [execOp,hop,h1,asBool]
 · refine good_read h hd hlt ?_ (h.opd hx he) hK
   simp [execOp,hop,h1,asBool]

theorem good_bin {op:BinOp} {x y:Opd} {x' y':Operand} {t u:TypeId} {p q v:V} (h:Rel cx nt e a w) (hop:o.op=.binOp op t x' y' u) (hx:okOpd cx.fm x x'=true) (hy:okOpd cx.fm y y'=true)
 (hd:o.dst=some d) (hlt:d<nt) (h1:e.opd x=some p) (h2:e.opd y=some q) (h3:binV op p q=some v) (hK:Kt (e.setD (some d) v)):Good P cx nt Kt o a w:=by
 unfold binV at h3
 split at h3
 · rename_i k m k' n
   split at h3
   · rename_i hk
     subst hk
     cases hb:binSc op k m n with
     | none=>rw [hb] at h3;cases h3
     | some r =>
      rw [hb] at h3
      cases h3
      have e1:=ar_sc (h.opd hx h1)
      have e2:=ar_sc (h.opd hy h2)
      obtain ⟨hr,hs⟩:=binSc_spec hb P w t
      refine good_read h hd hlt ?_ (ar_mk hs) hK
      simp [execOp,hop,e1,e2,eqGuard_int,hr]
   · cases hb:shSc op k m n with
     | none=>rw [hb] at h3;cases h3
     | some r =>
      rw [hb] at h3
      cases h3
      have e1:=ar_sc (h.opd hx h1)
      have e2:=ar_sc (h.opd hy h2)
      obtain ⟨hr,hs⟩:=shSc_spec (k':=k') hb P w t
      refine good_read h hd hlt ?_ (ar_mk hs) hK
      simp [execOp,hop,e1,e2,eqGuard_int,hr]
 · cases h3

theorem guard_no {op:BinOp} {t:TypeId} {x y:Operand} {p q:Value} (h:(∀ cs,p≠.agg cs)∧p≠.nilIface):(eqGuard op t x y p q).run P w=.ok () w:=by
 unfold eqGuard
 cases op <;> first | rfl | skip
 all_goals
  simp only [Bool.not_true,Bool.false_eq_true,if_false]
  split
  · exact (h.2 rfl).elim
  · exact (h.1 _ rfl).elim
  · rfl

theorem eqIn_bool {t:TypeId} (ht:P.underlying t=some .bool) (n:Nat) (p q:Bool):(Op.equalIn (n+1) t (.bool p) (.bool q)).run P w=.ok (p == q) w:=by
 simp only [Op.equalIn,Sem.run_bind,run_und ht,Result.andThen_ok,Sem.run_pure]

theorem eqIn_slice {t el:TypeId} (ht:P.underlying t=some (.slice el)) (n:Nat) (ad:Option Addr) (l c:Nat):(Op.equalIn (n+1) t (.slice ad l c) (.slice none 0 0)).run P w=.ok ad.isNone w:=by
 cases ad <;> simp only [Op.equalIn,Sem.run_bind,run_und ht,Result.andThen_ok,Sem.run_pure] <;> rfl

theorem good_beq {neg:Bool} {op:BinOp} {x y:Opd} {x' y':Operand} {t u:TypeId} {p q:Bool} (h:Rel cx nt e a w) (hop:o.op=.binOp op t x' y' u) (hn:op=if neg then .neq else .eql) (ht:P.underlying t=some .bool)
 (hx:okOpd cx.fm x x'=true) (hy:okOpd cx.fm y y'=true) (hd:o.dst=some d) (hlt:d<nt) (h1:(e.opd x).bind asB=some p) (h2:(e.opd y).bind asB=some q) (hK:Kt (e.setD (some d) (.val (.sc (.bool ((p == q) != neg)))))):Good P cx nt Kt o a w:=by
 have e1:=ar_sc (h.opd hx (asB_spec h1))
 have e2:=ar_sc (h.opd hy (asB_spec h2))
 refine good_read h hd hlt ?_ (ar_mk rfl) hK
 subst hn
 have h9:=eqIn_bool (w:=w) ht 9999 p q
 cases neg
 · have hb:binOp .eql t (.bool p) (.bool q)=(do pure (.bool (← Op.equalIn (9999+1) t (.bool p) (.bool q)))):=rfl
   simp only [execOp,hop,e1,e2,if_false,Bool.false_eq_true,hb,Sem.run_bind,guard_no (P:=P) (w:=w) (p:=.bool p) ⟨fun _=>by simp,by simp⟩,h9,Result.andThen_ok,Sem.run_pure]
   cases (p == q) <;> rfl
 · have hb:binOp .neq t (.bool p) (.bool q)=(do pure (.bool (!(← Op.equalIn (9999+1) t (.bool p) (.bool q))))):=rfl
   simp only [execOp,hop,e1,e2,if_true,hb,Sem.run_bind,guard_no (P:=P) (w:=w) (p:=.bool p) ⟨fun _=>by simp,by simp⟩,h9,Result.andThen_ok,Sem.run_pure]
   cases (p == q) <;> rfl

theorem slice_of_nil {cx:Cx} {e:Env} {a:Act} {w:World} {v:Value} {x:V} {b:Bool} (h:AR cx e a w v x) (hx:x.isNil=some b):∃ ad n c,v=.slice ad n c∧ad.isNone=b:=by
 unfold V.isNil at hx
 split at hx
 · cases hx;exact ⟨none,0,0,ar_sc h,rfl⟩
 · cases hx;exact ⟨_,0,0,ar_sc h,rfl⟩
 · rename_i k sz ts
   cases hx
   have h2:=h.2
   rw [rep_mem] at h2
   obtain ⟨⟨⟨len,h3,_⟩,_⟩,_⟩:=h2
   exact ⟨_,_,_,h3,rfl⟩
 · cases hx
   simp only [AR,arep] at h
   obtain ⟨_,t,ts,_,_,_,o',h3,_⟩:=h
   exact ⟨_,_,_,h3,rfl⟩
 · cases hx

theorem good_isnil {neg:Bool} {op:BinOp} {x:Opd} {x' y':Operand} {t u:TypeId} {b:Bool} (h:Rel cx nt e a w) (hop:o.op=.binOp op t x' y' u) (hn:op=if neg then .neq else .eql) (ht:isSlice P t=true)
 (hx:okOpd cx.fm x x'=true) (hy:okOpd cx.fm (.c (.slice none 0 0)) y'=true) (hd:o.dst=some d) (hlt:d<nt) (h1:(e.opd x).bind V.isNil=some b) (hK:Kt (e.setD (some d) (.val (.sc (.bool (b != neg)))))):Good P cx nt Kt o a w:=by
 obtain ⟨el,hel⟩:=Option.isSome_iff_exists.1 ht
 have hu:=elOf_spec hel
 cases hxo:e.opd x with
 | none=>rw [hxo] at h1;cases h1
 | some vx =>
  rw [hxo] at h1
  obtain ⟨ad,n,c,e1,e2⟩:=slice_of_nil (h.opd hx hxo) h1
  have e3:=ar_sc (h.opd hy (by rfl))
  refine good_read h hd hlt ?_ (ar_mk rfl) hK
  subst hn
  have h9:=eqIn_slice (w:=w) hu 9999 ad n c
  subst e2
  cases neg
  · have hb:binOp .eql t (.slice ad n c) (.slice none 0 0)=(do pure (.bool (← Op.equalIn (9999+1) t (.slice ad n c) (.slice none 0 0)))):=rfl
    simp only [execOp,hop,e1,e3,if_false,Bool.false_eq_true,hb,Sem.run_bind,guard_no (P:=P) (w:=w) (p:=.slice ad n c) ⟨fun _=>by simp,by simp⟩,h9,Result.andThen_ok,Sem.run_pure]
    cases ad.isNone <;> rfl
  · have hb:binOp .neq t (.slice ad n c) (.slice none 0 0)=(do pure (.bool (!(← Op.equalIn (9999+1) t (.slice ad n c) (.slice none 0 0))))):=rfl
    simp only [execOp,hop,e1,e3,if_true,hb,Sem.run_bind,guard_no (P:=P) (w:=w) (p:=.slice ad n c) ⟨fun _=>by simp,by simp⟩,h9,Result.andThen_ok,Sem.run_pure]
    cases ad.isNone <;> rfl

theorem good_un {op:UnOp} {x:Opd} {x':Operand} {t:TypeId} {p v:V} (h:Rel cx nt e a w) (hop:o.op=.unOp op t x') (hx:okOpd cx.fm x x'=true) (hd:o.dst=some d) (hlt:d<nt)
 (h1:e.opd x=some p) (h3:unV op p=some v) (hK:Kt (e.setD (some d) v)):Good P cx nt Kt o a w:=by
 unfold unV at h3
 split at h3
 · split at h3
   · rename_i hh
     subst hh
     cases h3
     have e1:=ar_sc (h.opd hx h1)
     exact good_read h hd hlt (by simp [execOp,hop,e1,Op.unary]) (ar_mk rfl) hK
   · cases h3
 · split at h3
   · rename_i k n hh
     subst hh
     cases hb:arith k (0-n) with
     | none=>rw [hb] at h3;cases h3
     | some r =>
      rw [hb] at h3
      cases h3
      have e1:=ar_sc (h.opd hx h1)
      have e2:=arith_spec hb
      subst e2
      exact good_read h hd hlt (by simp [execOp,hop,e1,Op.unary,Op.intArith]) (ar_mk rfl) hK
   · cases h3
 · cases h3

theorem good_conv {k k0:IntKind} {x:Opd} {x':Operand} {s t:TypeId} {n:Int} (h:Rel cx nt e a w) (hop:o.op=.convert s t x') (hs:P.underlying s=some (.int k0)) (ht:P.underlying t=some (.int k)) (hx:okOpd cx.fm x x'=true)
 (hd:o.dst=some d) (hlt:d<nt) (h1:(e.opd x).bind asI=some n) (hK:Kt (e.setD (some d) (.val (.sc (.int k (k.wrap n)))))):Good P cx nt Kt o a w:=by
 obtain ⟨kx,h2⟩:=asI_spec h1
 have e1:=ar_sc (h.opd hx h2)
 refine good_read h hd hlt ?_ (ar_mk rfl) hK
 simp [execOp,hop,e1,convert,run_und hs,run_und ht,Conv.intToInt]

theorem len_spec {cx:Cx} {e:Env} {a:Act} {w:World} {v:Value} {x:V} {n:Nat} (h:AR cx e a w v x) (hx:lenV x=some n):∃ ad c,v=.slice ad n c:=by
 unfold lenV at hx
 split at hx
 · cases hx;exact ⟨none,0,ar_sc h⟩
 · cases hx;exact ⟨_,0,ar_sc h⟩
 · rename_i k sz ts
   cases hx
   have h2:=h.2
   rw [rep_mem] at h2
   obtain ⟨⟨⟨len,h3,h4,h5,_⟩,_⟩,_⟩:=h2
   rw [h4,Nat.mul_div_cancel _ h5]
   exact ⟨_,_,h3⟩
 · cases hx
   simp only [AR,arep] at h
   obtain ⟨_,t,ts,_,_,_,o',h3,_⟩:=h
   exact ⟨_,_,h3⟩
 · cases hx

theorem good_len {x:Opd} {x':Operand} {t:TypeId} {n:Nat} (h:Rel cx nt e a w) (hop:o.op=.call ⟨.builtin .len,#[x'],#[t]⟩) (ht:isSlice P t=true) (hx:okOpd cx.fm x x'=true)
 (hd:o.dst=some d) (hlt:d<nt) (h1:(e.opd x).bind lenV=some n) (hK:Kt (e.setD (some d) (.val (.sc (.int .i64 n))))):Good P cx nt Kt o a w:=by
 obtain ⟨el,hel⟩:=Option.isSome_iff_exists.1 ht
 have hu:=elOf_spec hel
 cases hxo:e.opd x with
 | none=>rw [hxo] at h1;cases h1
 | some vx =>
  rw [hxo] at h1
  obtain ⟨ad,c,e1⟩:=len_spec (h.opd hx hxo) h1
  refine good_read h hd hlt ?_ (ar_mk rfl) hK
  simp [execOp,hop,resolve,invoke,builtin,Builtin.len_,e1,run_und hu,goInt]

theorem good_slen {x:Opd} {x':Operand} {t:TypeId} {n:Nat} (h:Rel cx nt e a w) (hop:o.op=.call ⟨.builtin .len,#[x'],#[t]⟩) (ht:P.underlying t=some .string) (hx:okOpd cx.fm x x'=true)
 (hd:o.dst=some d) (hlt:d<nt) (h1:(e.opd x).bind slenV=some n) (hK:Kt (e.setD (some d) (.val (.sc (.int .i64 n))))):Good P cx nt Kt o a w:=by
 cases hxo:e.opd x with
 | none=>rw [hxo] at h1;cases h1
 | some vx =>
  rw [hxo] at h1
  simp only [Option.bind_some] at h1
  unfold slenV at h1
  split at h1
  · cases h1
    have e1:=ar_sc (h.opd hx hxo)
    refine good_read h hd hlt ?_ (ar_mk rfl) hK
    simp [execOp,hop,resolve,invoke,builtin,Builtin.len_,e1,run_und ht,goInt]
  · cases h1

theorem addr_add (b o n:Nat):(⟨b,o,none⟩:Addr).add n=⟨b,o+n,none⟩:=by
 unfold Addr.add
 split
 · rename_i h;rw [h];rfl
 · rfl

theorem imm_rep {cx:Cx} {e:Env} {a:Act} {w:World} {v:Value} {k:K} {s:Option Nat} {ts:List T} (h:AR cx e a w v (.val (.mem k s ts))) :
 k≠.own∧T.noOwnL ts=true∧shp w v s ts.length∧(ts≠[]→okR cx (Own e (vlA a) w) k (blk v))∧repL cx.fm (okR cx (Own e (vlA a) w)) w (kid w v) 0 ts:=by
 obtain ⟨h1,h2⟩:=h
 simp only [T.noOwn,Bool.and_eq_true,bne_iff_ne,ne_eq] at h1
 rw [rep_mem] at h2
 exact ⟨h1.1,h1.2,h2.1,fun h=>h2.2.1 (.inr h),h2.2.2.2.2⟩

theorem noOwnL_win {ts:List T} {i n:Nat} (h:T.noOwnL ts=true):T.noOwnL (win ts i n)=true:=by
 rw [win_split ts i n] at h
 simp only [noOwnL_append,Bool.and_eq_true] at h
 exact h.2.1

theorem imm_sub {cx:Cx} {e:Env} {a:Act} {w:World} {v v':Value} {k:K} {s:Option Nat} {ts:List T} {i n:Nat} (h:AR cx e a w v (.val (.mem k s ts))) (hin:i+n≤ts.length)
 (hv:v'=.pointer (some ⟨blk v,ofs v+i,none⟩)):AR cx e a w v' (.val (.mem k none (win ts i n))):=by
 obtain ⟨h1,h2,h3,h4,h5⟩:=imm_rep h
 refine ⟨by simp [T.noOwn,h1,noOwnL_win h2],?_⟩
 have hl:=win_length (ts:=ts) (a:=i) (n:=n) hin
 have hk:∀ j,j<ts.length→kid w v j=(w.cell? ⟨blk v,ofs v+j,none⟩).getD undef:=by
  intro j _
  have:=h3.1
  cases s with
  | none=>simp only at this;rw [this];simp [kid,blk,ofs]
  | some sz=>simp only at this;obtain ⟨len,h6,_⟩:=this;rw [h6];simp [kid,blk,ofs]
 rw [rep_mem]
 subst hv
 refine ⟨⟨rfl,fun j hj=>?_⟩,fun hh=>?_,fun hh=>(h1 hh).elim,fun _=>noOwnL_win h2,?_⟩
 · rw [hl] at hj
   have:=h3.2 (i+j) (by omega)
   simpa [blk,ofs,Nat.add_assoc] using this
 · rcases hh with hh | hh
   · exact (h1 hh).elim
   · exact h4 fun e'=>hh (by rw [e'];simp [win])
 · refine repL_congr _ 0 (fun j _ hj=>?_) (repL_win n (by omega) h5)
   rw [hl] at hj
   rw [hk (j+i) (by omega)]
   simp [kid,Nat.add_assoc,Nat.add_comm j i]

theorem good_idx {sz:Nat} {x i:Opd} {x' i':Operand} {t el:TypeId} {p v:V} {n:Int} (h:Rel cx nt e a w) (hop:o.op=.indexAddr t x' i') (hel:elOf P t=some el) (hsz:szOf P el=some sz) (hx:okOpd cx.fm x x'=true) (hi:okOpd cx.fm i i'=true)
 (hd:o.dst=some d) (hlt:d<nt) (h1:e.opd x=some p) (h2:(e.opd i).bind asI=some n) (h3:idxV sz p n=some v) (hK:Kt (e.setD (some d) v)):Good P cx nt Kt o a w:=by
 have hu:=elOf_spec hel
 obtain ⟨ki,h4⟩:=asI_spec h2
 have e2:=ar_sc (h.opd hi h4)
 have e1:=h.opd hx h1
 unfold idxV at h3
 split at h3
 · rename_i k sz' ts
   split at h3
   · rename_i hc
     obtain ⟨rfl,hn0,hn1⟩:=hc
     cases h3
     obtain ⟨_,_,⟨⟨len,g1,g2,g3,g4⟩,_⟩,_⟩:=imm_rep e1
     have hlen:ts.length / sz'=len:=by rw [g2];exact Nat.mul_div_cancel _ g3
     rw [hlen] at hn1
     have hlt':n.toNat<len:=by omega
     have hmul:(n.toNat+1)*sz'≤len*sz':=Nat.mul_le_mul_right _ hlt'
     rw [Nat.add_mul,Nat.one_mul] at hmul
     refine good_read (v:=.pointer (some ⟨blk (a.eval x'),ofs (a.eval x')+n.toNat*sz',none⟩)) h hd hlt ?_ (imm_sub e1 (by omega) rfl) hK
     simp only [execOp,hop,Instr.indexAt]
     rw [e2,g1]
     simp [asIntOf,run_und hu,run_szOf hsz,hn0,hn1,addr_add]
     simp [blk,ofs]
   · cases h3
 · rename_i r p sz' off len
   split at h3
   · rename_i hc
     obtain ⟨rfl,hn0,hn1⟩:=hc
     cases h3
     simp only [AR,arep] at e1
     obtain ⟨g0,t0,ts,g1,g2,g3,o',g4,g5,g6,g7⟩:=e1
     have hlt':n.toNat<len:=by omega
     have ho:o'=ofs (nodeV w (vlA a r) p)+off*sz':=g7 (by omega)
     have hmul:(off+n.toNat)*sz'≤(off+len)*sz':=Nat.mul_le_mul_right _ (by omega)
     refine good_read (v:=.pointer (some ⟨blk (nodeV w (vlA a r) p),ofs (nodeV w (vlA a r) p)+(off+n.toNat)*sz',none⟩)) h hd hlt ?_ ?_ hK
     · simp only [execOp,hop,Instr.indexAt]
       rw [e2,g4,ho]
       simp [asIntOf,run_und hu,run_szOf hsz,hn0,hn1,addr_add,Nat.add_mul,Nat.add_assoc]
     · exact ⟨t0,_,ts,g1,g2,by omega,rfl⟩
   · cases h3
 · cases h3

theorem good_at {x i:Opd} {x' i':Operand} {t:TypeId} {s:ByteArray} {n:Int} {b:UInt8} (h:Rel cx nt e a w) (hop:o.op=.index t x' i') (ht:P.underlying t=some .string) (hx:okOpd cx.fm x x'=true) (hi:okOpd cx.fm i i'=true)
 (hd:o.dst=some d) (hlt:d<nt) (h1:e.opd x=some (.val (.sc (.string s)))) (h2:(e.opd i).bind asI=some n) (h3:(if 0≤n then s[n.toNat]? else none)=some b) (hK:Kt (e.setD (some d) (.val (.sc (.int .u8 b.toNat))))):Good P cx nt Kt o a w:=by
 obtain ⟨ki,h4⟩:=asI_spec h2
 have e2:=ar_sc (h.opd hi h4)
 have e1:=ar_sc (h.opd hx h1)
 refine good_read h hd hlt ?_ (ar_mk rfl) hK
 simp only [execOp,hop,Instr.index]
 rw [e2,e1]
 simp only [asIntOf,Sem.run_bind,Sem.run_pure,Result.andThen_ok,run_und ht,h3]

theorem fieldOf_spec {t:TypeId} {i:Nat} {f:Field} (h:fieldOf P t i=some f):∃ fs,P.underlying t=some (.struct fs)∧fs[i]?=some f:=by
 unfold fieldOf at h;split at h
 · exact ⟨_,by assumption,h⟩
 · cases h

theorem good_fld {x:Opd} {x':Operand} {t:TypeId} {i n:Nat} {f:Field} {p v:V} (h:Rel cx nt e a w) (hop:o.op=.fieldAddr t x' i) (hf:fieldOf P t i=some f) (hn:szOf P f.type=some n) (hn0:n≠0) (hx:okOpd cx.fm x x'=true)
 (hd:o.dst=some d) (hlt:d<nt) (h1:e.opd x=some p) (h3:e.fld f.offset p=some v) (hK:Kt (e.setD (some d) v)):Good P cx nt Kt o a w:=by
 obtain ⟨fs,hu,hfi⟩:=fieldOf_spec hf
 have e1:=h.opd hx h1
 have hrun:∀ b o',a.eval x'=.pointer (some ⟨b,o',none⟩)→(execOp a.eval o).run P w=.ok (.value (.pointer (some ⟨b,o'+f.offset,none⟩))) w:=by
  intro b o' hv
  simp only [execOp,hop,Instr.fieldAt,hv]
  simp [run_und hu,hfi,Instr.sureAddr,fieldPlace,run_szOf hn,hn0,addr_add]
 unfold Env.fld at h3
 split at h3
 · rename_i k ts
   split at h3
   · rename_i hle
     cases h3
     obtain ⟨_,_,⟨g1,_⟩,_⟩:=imm_rep e1
     have hw:win ts f.offset (ts.length-f.offset)=ts.drop f.offset:=by
      unfold win
      exact List.take_of_length_le (by simp)
     refine good_read h hd hlt (hrun _ _ g1) ?_ hK
     have:=imm_sub (i:=f.offset) (n:=ts.length-f.offset) e1 (by omega) rfl
     rwa [hw] at this
   · cases h3
 · rename_i r q off
   split at h3
   · rename_i s ts htr
     split at h3
     · rename_i hle
       cases h3
       simp only [AR,arep] at e1
       obtain ⟨t0,s',ts',g1,g2,g3,g4⟩:=e1
       have:e.tree r q=some (.mem .own s' ts'):=by simp [Env.tree,g1,g2]
       rw [this] at htr
       cases htr
       exact good_read (x:=.pref r q (off+f.offset)) h hd hlt (hrun _ _ g4) ⟨t0,s,ts,g1,g2,hle,by rw [Nat.add_assoc]⟩ hK
     · cases h3
   · cases h3
 · cases h3

theorem good_fldA {x:Opd} {x':Operand} {t el:TypeId} {k:IntKind} {i:Int} {len sz:Nat} {p v:V} (h:Rel cx nt e a w) (hop:o.op=.indexAddr t x' (.const (.int k i))) (hu:P.underlying t=some (.array len el)) (hsz:szOf P el=some sz) (hi0:0≤i) (hi1:i<(len:Int)) (hx:okOpd cx.fm x x'=true)
 (hd:o.dst=some d) (hlt:d<nt) (h1:e.opd x=some p) (h3:e.fld (i.toNat*sz) p=some v) (hK:Kt (e.setD (some d) v)):Good P cx nt Kt o a w:=by
 have e1:=h.opd hx h1
 have hrun:∀ b o',a.eval x'=.pointer (some ⟨b,o',none⟩)→(execOp a.eval o).run P w=.ok (.value (.pointer (some ⟨b,o'+i.toNat*sz,none⟩))) w:=by
  intro b o' hv
  have hc:a.eval (.const (.int k i))=.int k i:=rfl
  simp only [execOp,hop,Instr.indexAt,hv,hc,asIntOf,Sem.run_bind,Sem.run_pure,Result.andThen_ok,run_und hu,Instr.sureAddr]
  rw [if_pos ⟨hi0,hi1⟩]
  simp [run_szOf hsz,addr_add]
 generalize i.toNat*sz=off at *
 unfold Env.fld at h3
 split at h3
 · rename_i k' ts
   split at h3
   · rename_i hle
     cases h3
     obtain ⟨_,_,⟨g1,_⟩,_⟩:=imm_rep e1
     have hw:win ts off (ts.length-off)=ts.drop off:=by
      unfold win
      exact List.take_of_length_le (by simp)
     refine good_read h hd hlt (hrun _ _ g1) ?_ hK
     have:=imm_sub (i:=off) (n:=ts.length-off) e1 (by omega) rfl
     rwa [hw] at this
   · cases h3
 · rename_i r q off'
   split at h3
   · rename_i s ts htr
     split at h3
     · rename_i hle
       cases h3
       simp only [AR,arep] at e1
       obtain ⟨t0,s',ts',g1,g2,g3,g4⟩:=e1
       have:e.tree r q=some (.mem .own s' ts'):=by simp [Env.tree,g1,g2]
       rw [this] at htr
       cases htr
       exact good_read (x:=.pref r q (off'+off)) h hd hlt (hrun _ _ g4) ⟨t0,s,ts,g1,g2,hle,by rw [Nat.add_assoc]⟩ hK
     · cases h3
   · cases h3
 · cases h3

theorem arepL_get {fm:Nat→Nat} {ok:K→Nat→Prop} {e:Env} {vl:Vl} {g:Nat→Value}:∀ (vs:List V) (i j:Nat) {x:V},arepL fm ok e vl w g i vs→vs[j]?=some x→arep fm ok e vl w (g (i+j)) x
 | [],_,_,_,_,h=>by simp at h
 | u::vs,i,0,x,hr,h=>by simp at h;subst h;exact hr.1
 | u::vs,i,j+1,x,hr,h=>by
  have:=arepL_get vs (i+1) j hr.2 (by simpa using h)
  rwa [show i+1+j=i+(j+1) from by omega] at this

theorem arepL_shift {fm:Nat→Nat} {ok:K→Nat→Prop} {e:Env} {vl:Vl} {g:Nat→Value}:∀ (vs:List V) (i k:Nat),arepL fm ok e vl w g (i+k) vs↔arepL fm ok e vl w (fun j=>g (j+k)) i vs
 | [],_,_=>Iff.rfl
 | t::vs,i,k=>by
  simp only [arepL]
  rw [show i+k+1=(i+1)+k from by omega,arepL_shift vs (i+1) k]

theorem arepL_congr {fm:Nat→Nat} {ok:K→Nat→Prop} {e:Env} {vl:Vl} {g g':Nat→Value}:∀ (vs:List V) (i:Nat),(∀ j,i≤j→j<i+vs.length→g j=g' j)→arepL fm ok e vl w g i vs→arepL fm ok e vl w g' i vs
 | [],_,_,_=>trivial
 | t::vs,i,h,hr=>by
  simp only [arepL] at hr ⊢
  refine ⟨?_,arepL_congr vs (i+1) (fun j h1 h2=>h j (by omega) (by simp only [List.length_cons];omega)) hr.2⟩
  rw [← h i (Nat.le_refl _) (by simp)];exact hr.1

theorem arepL_append {fm:Nat→Nat} {ok:K→Nat→Prop} {e:Env} {vl:Vl} {g:Nat→Value}:∀ (vs us:List V) (i:Nat),arepL fm ok e vl w g i (vs++us)↔arepL fm ok e vl w g i vs∧arepL fm ok e vl w g (i+vs.length) us
 | [],us,i=>by simp [arepL]
 | t::vs,us,i=>by
  simp only [List.cons_append,arepL,arepL_append vs us (i+1),List.length_cons,and_assoc]
  rw [show i+1+vs.length=i+(vs.length+1) from by omega]

theorem arepL_win {fm:Nat→Nat} {ok:K→Nat→Prop} {e:Env} {vl:Vl} {g:Nat→Value} {vs:List V} {i n:Nat} (hi:i≤vs.length) (h:arepL fm ok e vl w g 0 vs):arepL fm ok e vl w (fun j=>g (j+i)) 0 ((vs.drop i).take n):=by
 have hs:vs=vs.take i++((vs.drop i).take n++(vs.drop i).drop n):=by rw [List.take_append_drop,List.take_append_drop]
 rw [hs,arepL_append,arepL_append] at h
 have h2:=h.2.1
 rw [List.length_take,Nat.min_eq_left hi] at h2
 exact (arepL_shift _ 0 i).1 (by rwa [Nat.zero_add] at h2 ⊢)

theorem okN_none {t:TypeId} (h:okN P t none=true):aggOf P t=some false∧szOf P t=some 1:=by
 simpa [okN] using h
theorem okN_some {t:TypeId} {n:Nat} (h:okN P t (some n)=true):aggOf P t=some true∧szOf P t=some n:=by
 simpa [okN] using h

theorem good_fldv {x:Opd} {x':Operand} {t:TypeId} {i:Nat} {n:Option Nat} {f:Field} {p v:V} (h:Rel cx nt e a w) (hop:o.op=.field t x' i) (hf:fieldOf P t i=some f) (hn:okN P f.type n=true) (hx:okOpd cx.fm x x'=true)
 (hd:o.dst=some d) (hlt:d<nt) (h1:e.opd x=some p) (h3:fldvV f.offset n p=some v) (hK:Kt (e.setD (some d) v)):Good P cx nt Kt o a w:=by
 obtain ⟨fs,hu,hfi⟩:=fieldOf_spec hf
 have e1:=h.opd hx h1
 unfold fldvV at h3
 split at h3
 · rename_i vs
   simp only [AR,arep] at e1
   obtain ⟨⟨cs,g1,g2⟩,g3⟩:=e1
   rw [g1] at g3
   cases n with
   | none =>
    simp only at h3
    obtain ⟨hag,_⟩:=okN_none hn
    have hlt':f.offset<vs.length:=by
     rcases Nat.lt_or_ge f.offset vs.length with h' | h'
     · exact h'
     · rw [List.getElem?_eq_none h'] at h3;cases h3
    have hv:=arepL_get vs 0 f.offset g3 h3
    have hl2:f.offset<cs.size:=by omega
    have hkd:kid w (.agg cs) (0+f.offset)=cs[f.offset]:=by simp [kid,hl2]
    rw [hkd] at hv
    refine good_read (v:=cs[f.offset]) h hd hlt ?_ hv hK
    have hc:cs[f.offset]?=some cs[f.offset]:=Array.getElem?_eq_getElem hl2
    simp only [execOp,hop,Instr.field,g1]
    simp [run_und hu,hfi,asAgg,part,run_aggOf hag,hc]
   | some n =>
    simp only at h3
    obtain ⟨hag,hsz⟩:=okN_some hn
    split at h3
    · rename_i hle
      cases h3
      refine good_read (v:=.agg (cs.extract f.offset (f.offset+n))) h hd hlt ?_ ?_ hK
      · simp only [execOp,hop,Instr.field,g1]
        simp [run_und hu,hfi,asAgg,part,run_aggOf hag,run_szOf hsz]
      · simp only [AR,arep]
        refine ⟨⟨_,rfl,by simp;omega⟩,arepL_congr _ 0 (fun j _ hj=>?_) (arepL_win (n:=n) (by omega) g3)⟩
        simp only [List.length_take,List.length_drop] at hj
        simp only [kid,Array.getD_eq_getD_getElem?]
        rw [Array.getElem?_extract]
        rw [if_pos (by omega),Nat.add_comm]
    · cases h3
 · cases h3

theorem good_ext {x:Opd} {x':Operand} {i:Nat} {p v:V} (h:Rel cx nt e a w) (hop:o.op=.extract x' i) (hx:okOpd cx.fm x x'=true)
 (hd:o.dst=some d) (hlt:d<nt) (h1:e.opd x=some p) (h3:extV i p=some v) (hK:Kt (e.setD (some d) v)):Good P cx nt Kt o a w:=by
 have e1:=h.opd hx h1
 unfold extV at h3
 split at h3
 · rename_i vs
   simp only [AR,arep] at e1
   obtain ⟨⟨cs,g1,g2⟩,g3⟩:=e1
   rw [g1] at g3
   have hlt':i<vs.length:=by
    rcases Nat.lt_or_ge i vs.length with h' | h'
    · exact h'
    · rw [List.getElem?_eq_none h'] at h3;cases h3
   have hv:=arepL_get vs 0 i g3 h3
   have hl2:i<cs.size:=by omega
   have hkd:kid w (.tuple cs) (0+i)=cs[i]:=by simp [kid,hl2]
   rw [hkd] at hv
   refine good_read (v:=cs[i]) h hd hlt ?_ hv hK
   have hc:cs[i]?=some cs[i]:=Array.getElem?_eq_getElem hl2
   simp only [execOp,hop,Instr.extract,g1]
   simp [hc]
 · cases h3

theorem good_nilck {x:Opd} {x':Operand} {p:V} (h:Rel cx nt e a w) (hop:o.op=.nilCheck x') (hx:okOpd cx.fm x x'=true)
 (hd:o.dst=some d) (hlt:d<nt) (h1:e.opd x=some p) (h3:(∃ r q off,p=.pref r q off)∨∃ k ts,p=.val (.mem k none ts)) (hK:Kt (e.setD (some d) p)):Good P cx nt Kt o a w:=by
 have e1:=h.opd hx h1
 have hv:∃ ad,a.eval x'=.pointer (some ad):=by
  rcases h3 with ⟨r,q,off,rfl⟩ | ⟨k,ts,rfl⟩
  · simp only [AR,arep] at e1
    obtain ⟨_,_,_,_,_,_,g⟩:=e1
    exact ⟨_,g⟩
  · obtain ⟨_,_,⟨g,_⟩,_⟩:=imm_rep e1
    exact ⟨_,g⟩
 obtain ⟨ad,hv⟩:=hv
 refine good_read h hd hlt ?_ e1 hK
 simp [execOp,hop,hv]

theorem node_rep {cx:Cx} {e:Env} {a:Act} {w:World} (h:R cx e (vlA a) w) {r:Nat} {p:List Nat} {u:T} (ht:e.tree r p=some u):Mch.rep cx.fm (okR cx (Own e (vlA a) w)) w (nodeV w (vlA a r) p) u:=by
 obtain ⟨t,h1,h2⟩:=tree_some ht
 exact (focus p t _ (srep_val h h1) h2).1

theorem kid_mem {w:World} {nv:Value} {s:Option Nat} {n i:Nat} (h:shp w nv s n):kid w nv i=(w.cell? ⟨blk nv,ofs nv+i,none⟩).getD undef:=by
 obtain ⟨h,_⟩:=h
 cases s with
 | none=>simp only at h;rw [h];simp [kid,blk,ofs]
 | some sz=>simp only at h;obtain ⟨len,h6,_⟩:=h;rw [h6];simp [kid,blk,ofs]

theorem cell_kid {w:World} {nv:Value} {s:Option Nat} {n i:Nat} (h:shp w nv s n) (hi:i<n):w.cell? ⟨blk nv,ofs nv+i,none⟩=some (kid w nv i):=by
 rw [kid_mem h]
 obtain ⟨u,hu⟩:=Option.isSome_iff_exists.1 (h.2 i hi)
 rw [hu];rfl

theorem run_load_at {t:TypeId} {n:Option Nat} (hn:okN P t n=true) {b o':Nat} {f:Nat→Value} (hc:∀ i,i<n.getD 1→w.cell? ⟨b,o'+i,none⟩=some (f i)) :
 (Instr.loadAt t (.pointer (some ⟨b,o',none⟩))).run P w=.ok (match n with | none=>f 0 | some n=>.agg ((List.range n).map f).toArray) w:=by
 cases n with
 | none =>
  obtain ⟨hag,_⟩:=okN_none hn
  have:=hc 0 (by simp)
  simp only [Nat.add_zero] at this
  simp [Instr.loadAt,Instr.sureAddr,loadVar,run_aggOf hag,run_load,this]
 | some n =>
  obtain ⟨hag,hsz⟩:=okN_some hn
  have:=run_loadCells (P:=P) w ⟨b,o',none⟩ n f (fun j hj=>by rw [addr_add];exact hc j (by simpa using hj))
  simp [Instr.loadAt,Instr.sureAddr,loadVar,run_aggOf hag,run_szOf hsz,this]

theorem ld_read {pv:Value} {t:TypeId} {n:Option Nat} {p v:V} (h:Rel cx nt e a w) (hn:okN P t n=true) (e1:AR cx e a w pv p) (h3:e.ld n p=some v):∃ x,(Instr.loadAt t pv).run P w=.ok x w∧AR cx e a w x v:=by
 unfold Env.ld at h3
 split at h3
 · rename_i k ts
   obtain ⟨g1,g2,g3,g4,g5⟩:=imm_rep e1
   have hcell:∀ i,i<ts.length→w.cell? ⟨blk pv,ofs pv+i,none⟩=some (kid w pv i):=fun i hi=>cell_kid g3 hi
   have hno:∀ (i:Nat) (u:T),ts[i]?=some u→u.noOwn=true:=fun i u hi=>by
    have:=g2
    rw [← List.take_append_drop i ts] at this
    simp only [noOwnL_append,Bool.and_eq_true] at this
    have hd':ts.drop i=u::ts.drop (i+1):=by
     have hl:i<ts.length:=by
      rcases Nat.lt_or_ge i ts.length with h' | h'
      · exact h'
      · rw [List.getElem?_eq_none h'] at hi;cases hi
     rw [List.drop_eq_getElem_cons hl]
     congr 1
     rw [List.getElem?_eq_getElem hl] at hi
     exact Option.some.inj hi
    rw [hd'] at this
    simp only [T.noOwnL,Bool.and_eq_true] at this
    exact this.2.1
   have hp:pv=.pointer (some ⟨blk pv,ofs pv,none⟩):=g3.1
   cases n with
   | none =>
    simp only [Option.map_eq_some_iff] at h3
    obtain ⟨u,hu,rfl⟩:=h3
    have hl:0<ts.length:=by
     rcases Nat.lt_or_ge 0 ts.length with h' | h'
     · exact h'
     · rw [List.getElem?_eq_none h'] at hu;cases hu
    have hr:=run_load_at (P:=P) (w:=w) (n:=none) hn (b:=blk pv) (o':=ofs pv) (f:=kid w pv) (fun i hi=>hcell i (by simp at hi;omega))
    refine ⟨kid w pv 0,?_,hno 0 u hu,?_⟩
    · rw [← hp] at hr
      exact hr
    · have:=repL_get ts 0 0 g5 hu
      simpa using this
   | some n =>
    simp only at h3
    split at h3
    · rename_i hle
      cases h3
      have hr:=run_load_at (P:=P) (w:=w) (n:=some n) hn (b:=blk pv) (o':=ofs pv) (f:=kid w pv) (fun i hi=>hcell i (by simp at hi;omega))
      refine ⟨.agg ((List.range n).map (kid w pv)).toArray,?_,?_⟩
      · rw [← hp] at hr
        exact hr
      · simp only [AR,arep]
        refine ⟨⟨_,rfl,by simp;omega⟩,?_⟩
        refine arepL_congr (g:=kid w pv) _ 0 (fun j _ hj=>?_) ?_
        · simp only [List.length_map,List.length_take] at hj
          have hjn:j<n:=by omega
          simp [kid,Array.getD_eq_getD_getElem?,hjn]
        · have g6:repL cx.fm (okR cx (Own e (vlA a) w)) w (kid w pv) 0 (ts.take n):=by
           rw [← List.take_append_drop n ts,repL_append] at g5;exact g5.1
          have g7:T.noOwnL (ts.take n)=true:=by
           rw [← List.take_append_drop n ts,noOwnL_append,Bool.and_eq_true] at g2;exact g2.1
          exact vals_arep (ts.take n) 0 g7 g6
    · cases h3
 · rename_i r q off
   split at h3
   · rename_i s ts htr
     have hnode:=node_rep h.r htr
     simp only [AR,arep] at e1
     obtain ⟨t0,s',ts',g1,g2,g3,g4⟩:=e1
     have htr':e.tree r q=some (.mem .own s' ts'):=by simp [Env.tree,g1,g2]
     rw [htr'] at htr
     cases htr
     rw [rep_mem] at hnode
     obtain ⟨k1,_,_,_,k5⟩:=hnode
     have hcell:∀ i,off+i<ts.length→w.cell? ⟨blk (nodeV w (vlA a r) q),ofs (nodeV w (vlA a r) q)+off+i,none⟩=some (kid w (nodeV w (vlA a r) q) (off+i)):=fun i hi=>by
      rw [Nat.add_assoc];exact cell_kid k1 hi
     cases n with
     | none =>
      simp only [Option.map_eq_some_iff] at h3
      obtain ⟨u,hu,rfl⟩:=h3
      have hl:off<ts.length:=by
       rcases Nat.lt_or_ge off ts.length with h' | h'
       · exact h'
       · rw [List.getElem?_eq_none h'] at hu;cases hu
      have hr:=run_load_at (P:=P) (w:=w) (n:=none) hn (b:=blk (nodeV w (vlA a r) q)) (o':=ofs (nodeV w (vlA a r) q)+off) (f:=fun i=>kid w (nodeV w (vlA a r) q) (off+i)) (fun i hi=>hcell i (by simp at hi;omega))
      have hat:t0.at (q++[off])=some u:=by
       rw [R.replaceAt.at_append q [off] t0 g2]
       simp only [T.at,T.kids,hu,Option.bind_some]
      have hnd:nodeV w (vlA a r) (q++[off])=kid w (nodeV w (vlA a r) q) off:=by rw [R.replaceAt.nodeV_append];rfl
      refine ⟨kid w (nodeV w (vlA a r) q) off,?_,?_⟩
      · rw [g4];simpa using hr
      · rw [← hnd]
        refine peek_arep (vl:=vlA a) g1 u (q++[off]) hat ?_
        rw [hnd]
        have:=repL_get ts 0 off k5 hu
        rwa [Nat.zero_add] at this
     | some n =>
      simp only at h3
      split at h3
      · rename_i hle
        cases h3
        have hr:=run_load_at (P:=P) (w:=w) (n:=some n) hn (b:=blk (nodeV w (vlA a r) q)) (o':=ofs (nodeV w (vlA a r) q)+off) (f:=fun i=>kid w (nodeV w (vlA a r) q) (off+i)) (fun i hi=>hcell i (by simp at hi;omega))
        refine ⟨.agg ((List.range n).map fun i=>kid w (nodeV w (vlA a r) q) (off+i)).toArray,?_,?_⟩
        · rw [g4];exact hr
        · have hwl:(win ts off n).length=n:=win_length hle
          simp only [AR,arep]
          refine ⟨⟨_,rfl,by rw [peekL_length,hwl];simp⟩,?_⟩
          have k6:repL cx.fm (okR cx (Own e (vlA a) w)) w (kid w (nodeV w (vlA a r) q)) off (win ts off n):=by
           have:=(repL_shift (fm:=cx.fm) (ok:=okR cx (Own e (vlA a) w)) (w:=w) (g:=kid w (nodeV w (vlA a r) q)) (win ts off n) 0 off).2 (repL_win n (by omega) k5)
           rwa [Nat.zero_add] at this
          have k7:=peekL_arep (vl:=vlA a) g1 (win ts off n) q (.mem .own s ts) g2 off (fun j u hj=>by
           simp only [win_getElem?] at hj
           split at hj
           · simpa [T.kids] using hj
           · cases hj) k6
          have k8:=(arepL_shift (w:=w) (T.peekL r q off (win ts off n)) 0 off).1 (by rwa [Nat.zero_add])
          refine arepL_congr _ 0 (fun j _ hj=>?_) k8
          rw [peekL_length,hwl] at hj
          have hjn:j<n:=by omega
          simp [kid,Array.getD_eq_getD_getElem?,hjn,Nat.add_comm]
      · cases h3
   · cases h3
 · cases h3
where
 vals_arep {cx:Cx} {e:Env} {a:Act} {w:World} {g:Nat→Value}:∀ (ts:List T) (i:Nat),T.noOwnL ts=true→repL cx.fm (okR cx (Own e (vlA a) w)) w g i ts→arepL cx.fm (okR cx (Own e (vlA a) w)) e (vlA a) w g i (ts.map .val)
  | [],_,_,_=>trivial
  | t::ts,i,h1,h2=>by
   simp only [T.noOwnL,Bool.and_eq_true] at h1
   exact ⟨⟨h1.1,h2.1⟩,vals_arep ts (i+1) h1.2 h2.2⟩

theorem good_ld {x:Opd} {x':Operand} {t:TypeId} {n:Option Nat} {p v:V} (h:Rel cx nt e a w) (hop:o.op=.load t x') (hn:okN P t n=true) (hx:okOpd cx.fm x x'=true)
 (hd:o.dst=some d) (hlt:d<nt) (h1:e.opd x=some p) (h3:e.ld n p=some v) (hK:Kt (e.setD (some d) v)):Good P cx nt Kt o a w:=by
 obtain ⟨u,hr,hu⟩:=ld_read (P:=P) h hn (h.opd hx h1) h3
 exact good_read h hd hlt (by simp only [execOp,hop,Sem.run_bind,hr,Result.andThen_ok,Sem.run_pure]) hu hK

end
end Go.Mch
namespace Go.Mch

theorem heap_alloc_lt (w:World) (o:Obj) {b:Nat} (hb:b<w.heap.size):(w.alloc o).heap[b]?=w.heap[b]?:=by
 show (w.heap.push o)[b]?=_
 rw [Array.getElem?_push,if_neg (by omega)]

theorem heap_alloc_at (w:World) (o:Obj):(w.alloc o).heap[w.heap.size]?=some o:=by
 show (w.heap.push o)[w.heap.size]?=_
 rw [Array.getElem?_push,if_pos rfl]

theorem Keeps.alloc {M:Nat→Prop} {w0 w:World} (h:Keeps M w0 w) (o:Obj):Keeps M w0 (w.alloc o) :=
 ⟨h.os,h.tape,h.output,by have:=h.size;simp;omega,fun b hb hm=>by rw [heap_alloc_lt _ _ (by have:=h.size;omega)];exact h.block b hb hm⟩

theorem Keeps.drew {M:Nat→Prop} {w0 w:World} (h:Keeps M w0 w):Keeps M w0 w.drew:=⟨h.os,h.tape,h.output,h.size,h.block⟩

theorem R.drew {cx:Cx} {e:Env} {vl:Vl} {w:World} (h:R cx e vl w):R cx e vl w.drew :=
 h.world (w':=w.drew) (touch:=fun _=>False) (fun _ _ _=>rfl) (fun _ _ _ _ h=>h) (fun _ _ _ _ h=>h.elim) h.keeps.drew (fun _ hb=>.inl hb)

def roomN (c n:Nat):Option Nat→Nat
 | none=>n
 | some sz=>c*sz

theorem R.alloc {cx:Cx} {e:Env} {vl:Vl} {w:World} {q:Nat} {us:List T} {ys arr:Array Value} {elem:TypeId} {s:Option Nat} {v':Value} (h:R cx (e.add q (.val (.tup us))) vl w) (hc:Clr e q) (hN:∀ b,¬cx.N b)
 (hy:vl q=.tuple ys) (harr:∀ i,i<us.length→arr[i]?=some (ys.getD i undef)) (hb:blk v'=w.heap.size) (ho:ofs v'=0)
 (hs:match s with
  | none=>v'=.pointer (some ⟨w.heap.size,0,none⟩)
  | some sz=>∃ len,v'=.slice (some ⟨w.heap.size,0,none⟩) len (capOf v')∧us.length=len*sz∧0<sz∧len≤capOf v')
 (hroom:roomN (capOf v') us.length s≤arr.size) :
 R cx (e.add q (.val (.mem .own s us))) (vadd vl q v') (w.alloc (.cells arr elem)):=by
 have h1:=h.world (w':=w.alloc (.cells arr elem)) (touch:=fun _=>False) (N:=fun b=>b=w.heap.size) (fun b hb _=>heap_alloc_lt _ _ hb) (fun _ _ _ _ h=>h) (fun _ _ _ _ h=>h.elim) (h.keeps.alloc _)
  (fun b hb=>.inr (by omega))
 obtain ⟨who,hw⟩:=h1.who
 have hnew:=heap_alloc_at w (.cells arr elem)
 have hr:=srep_val h1 (add_self ..)
 rw [hy] at hr
 simp only [Mch.rep] at hr
 obtain ⟨⟨_,hyy,hsz⟩,hr⟩:=hr
 cases hyy
 have hcell:∀ i,i<us.length→(w.alloc (.cells arr elem)).cell? ⟨w.heap.size,i,none⟩=some (ys.getD i undef):=fun i hi=>by
  simp only [World.cell?,hnew]
  exact harr i hi
 have hkid:∀ i,i<us.length→kid (w.alloc (.cells arr elem)) v' i=ys.getD i undef:=fun i hi=>by
  have hcl:=hcell i hi
  cases s with
  | none=>simp only at hs;rw [hs];simp [kid,hcl]
  | some sz=>simp only at hs;obtain ⟨len,h6,_⟩:=hs;rw [h6];simp [kid,hcl]
 have hcnt:∀ b,cnt (w.alloc (.cells arr elem)) v' b (.mem .own s us)=(if w.heap.size=b then 1 else 0)+cnt (w.alloc (.cells arr elem)) (vl q) b (.tup us):=fun b=>by
  rw [cnt_own,hb,hy]
  congr 1
  simp only [cnt]
  exact cntL_congr us 0 fun j _ hj=>by rw [hkid j (by omega)];rfl
 have hnot:∀ b,Own (e.add q (.val (.tup us))) vl (w.alloc (.cells arr elem)) b→b<w.heap.size:=by
  rintro b ⟨s',t,ht,hc'⟩
  have hz:Own (e.add q (.val (.tup us))) vl w b:=⟨s',t,ht,by
   have:=(frame (w':=w.alloc (.cells arr elem)) (touch:=fun _=>False) (fun b hb _=>heap_alloc_lt _ _ hb) (fun _ _ _ _ h=>h) t _ (srep_val h ht) (fun _ h=>h.elim)).2 b
   omega⟩
  obtain ⟨s'',t',ht',hc''⟩:=hz
  exact (rep_owned t' _ (srep_val h ht') b hc'').2
 have h2:=h1.retag (w':=w.alloc (.cells arr elem)) (touch:=fun _=>False) (q:=q) (d:=q) (t':=.mem .own s us) (v':=v') (e':=e.add q (.val (.mem .own s us))) (add_self ..) (fun _ _ _=>rfl) (fun _ h=>h.elim) h1.keeps ?_ ?_ ?_ (add_self ..) ?_
 · have h3:=h2.unN (N:=cx.N) (fun b hb=>(hN b hb).elim)
   exact h3
 · rw [rep_mem]
   refine ⟨⟨?_,fun i hi=>?_⟩,fun _=>?_,fun _=>⟨arr,elem,by rw [hb];exact hnew,by rw [ho,Nat.zero_add];cases s <;> exact hroom⟩,fun hk=>(hk rfl).elim,?_⟩
   · cases s with
     | none=>simp only at hs ⊢;rw [hb,ho];exact hs
     | some sz=>simp only at hs ⊢;rw [hb,ho];exact hs
   · rw [hb,ho,Nat.zero_add,hcell i hi];rfl
   · rw [hb]
     exact ⟨fun hA=>by have:=cx.hA _ hA;have:=h.keeps.size;omega,fun _=>.inl h.keeps.size,fun hk=>(by cases hk),fun hk=>(hk rfl).elim⟩
   · refine repL_congr (g:=kid (w.alloc (.cells arr elem)) (.tuple ys)) us 0 (fun j _ hj=>by rw [hkid j (by omega)];rfl) ?_
     refine repL_ok (fun k b hk _ ho=>⟨ho.1,ho.2.1,ho.2.2.1,fun hk=>⟨fun h3=>?_,(ho.2.2.2 hk).2⟩⟩) us _ 0 (fun b _ _ ho=>⟨ho.1,ho.2.1,ho.2.2.1,fun hk=>(hk rfl).elim⟩) hr
     rcases h3 with ⟨s',u,hs',hu,h4⟩ | h4
     · exact (ho.2.2.2 hk).1 ⟨s',u,hu,h4⟩
     · rw [hcnt] at h4
       by_cases hb':w.heap.size=b
       · exact (ho.2.2.2 hk).2 hb'.symm
       · rw [if_neg hb'] at h4
         exact (ho.2.2.2 hk).1 ⟨q,_,add_self ..,by omega⟩
 · intro b
   rw [hcnt]
   have h3:=(hw q _ (add_self ..) b).1
   by_cases hb':w.heap.size=b
   · rcases Nat.eq_zero_or_pos (cnt (w.alloc (.cells arr elem)) (vl q) b (.tup us)) with h4 | h4
     · rw [if_pos hb'];omega
     · have:=hnot b ⟨q,_,add_self ..,h4⟩
       omega
   · rw [if_neg hb'];omega
 · intro b h3
   rw [hcnt] at h3
   by_cases hb':w.heap.size=b
   · exact .inr ⟨hb'.symm,fun h4=>by have:=hnot b h4;omega⟩
   · rw [if_neg hb'] at h3
     exact .inl (by omega)
 · intro s' x hs' hx
   rw [add_ne hs'] at hx
   refine ⟨hs',by rw [add_ne hs'];exact hx,fun r hrr=>?_⟩
   have hne:r≠q:=fun e'=>by subst e';rw [(hc r (Nat.le_refl _)).2 s' x hx] at hrr;cases hrr
   exact ⟨hne,hne,by rw [add_ne hne,add_ne hne]⟩

theorem isCell_oneCell {fm:Nat→Nat} {ok:K→Nat→Prop} {w:World} {v:Value} {t:T} (h:rep fm ok w v t) (hc:t.isCell=true):v.oneCell'=true∧v.cells=#[v]:=by
 cases t <;> simp only [T.isCell] at hc <;> try cases hc
 · simp only [rep] at h
   obtain ⟨rfl,h⟩:=h
   cases v <;> simp_all [scal,Value.oneCell',Value.cells]
 · rename_i k s ts
   rw [rep_mem] at h
   obtain ⟨⟨h,_⟩,_⟩:=h
   cases s with
   | none=>simp only at h;rw [h];exact ⟨rfl,rfl⟩
   | some sz=>simp only at h;obtain ⟨len,h,_⟩:=h;rw [h];exact ⟨rfl,rfl⟩
 · simp only [rep] at h
   obtain ⟨⟨cs,rfl,_⟩,_⟩:=h
   exact ⟨rfl,rfl⟩

theorem R.cells {cx:Cx} {e:Env} {vl:Vl} {w:World} {q:Nat} {t:T} (h:R cx (e.add q (.val t)) vl w) (hc:Clr e q) (hcell:t.cells.all T.isCell=true) :
 R cx (e.add q (.val (.tup t.cells))) (vadd vl q (.tuple (vl q).cells)) w∧(vl q).cells.size=t.cells.length∧∀ i,i<t.cells.length→((vl q).cells.getD i undef).oneCell'=true:=by
 have hr:=srep_val h (add_self ..)
 have hone:∀ (ts:List T) (g:Nat→Value) (i:Nat),ts.all T.isCell=true→repL cx.fm (okR cx (Own (e.add q (.val t)) vl w)) w g i ts→∀ j,j<ts.length→(g (i+j)).oneCell'=true:=by
  intro ts
  induction ts with
  | nil=>intro g i _ _ j hj;simp at hj
  | cons u ts ih =>
   intro g i ha hr j hj
   simp only [List.all_cons,Bool.and_eq_true] at ha
   cases j with
   | zero=>exact (isCell_oneCell hr.1 ha.1).1
   | succ j =>
    have:=ih g (i+1) ha.2 hr.2 j (by simpa using hj)
    rwa [show i+1+j=i+(j+1) from by omega] at this
 by_cases hag:∃ ts,t=.agg ts
 · obtain ⟨ts,rfl⟩:=hag
   simp only [T.cells] at hcell ⊢
   simp only [Mch.rep] at hr
   obtain ⟨⟨cs,hv,hsz⟩,hr⟩:=hr
   rw [hv] at hr ⊢
   simp only [Value.cells]
   refine ⟨h.refit hc ?_ fun b=>?_,hsz,fun i hi=>?_⟩
   · simp only [Mch.rep];exact ⟨⟨cs,rfl,hsz⟩,hr⟩
   · rw [hv];exact Nat.le_refl _
   · have:=hone ts _ 0 hcell hr i hi
     simpa [kid] using this
 · have ht:t.cells=[t]:=by
    cases t <;> try rfl
    exact (hag ⟨_,rfl⟩).elim
   rw [ht] at hcell ⊢
   simp only [List.all_cons,List.all_nil,Bool.and_true] at hcell
   obtain ⟨h1,h2⟩:=isCell_oneCell hr hcell
   rw [h2]
   refine ⟨h.refit hc ?_ fun b=>?_,rfl,fun i hi=>?_⟩
   · simp only [Mch.rep,repL]
     exact ⟨⟨_,rfl,rfl⟩,by simpa [kid] using hr,trivial⟩
   · simp [cnt,cntL,kid]
   · simp at hi;subst hi;simpa using h1

section
variable {P:Program} {cx:Cx} {nt:Nat} {Kt:Env→Prop} {o:Oper} {a:Act} {w:World} {e:Env} {d:Nat}

theorem good_make {v:Value} {w':World} {e1:Env} {vl:Vl} {t:T} (h:Rel cx nt e a w) (hd:o.dst=some d) (hlt:d<nt) (hrun:(execOp a.eval o).run P w=.ok (.value v) w') (hr:R cx (e1.add nt (.val t)) vl w') (hc:Clr e1 nt)
 (hv:∀ s,s<nt→vl s=vlA a s) (hvn:vl nt=v) (hK:Kt (e1.setD (some d) (.val t))):Good P cx nt Kt o a w :=
 good_value hrun hK (by rw [hd,← hvn];exact Rel.land h.size h.defers hr hc hv hlt)

theorem Rel.take {cx:Cx} {nt:Nat} {e:Env} {a:Act} {w:World} (h:Rel cx nt e a w) {v:Value} {x:V} {t:T} {e1:Env} (hx:AR cx e a w v x) (ht:e.take x=some (t,e1)) :
 ∃ vl,(∀ s,s<nt→vl s=vlA a s)∧vl nt=v∧R cx (e1.add nt (.val t)) vl w∧Clr e1 nt:=by
 obtain ⟨vl,h1,h2,h3,h4,_⟩:=take_sound x v nt e (vlA a) h.r h.clr (Nat.le_refl _) (arw_of h.dom x v hx) ht
 exact ⟨vl,h1,h2,h3,h4⟩

theorem good_asg {x:Opd} {x':Operand} {v:V} {t:T} {e1:Env} (h:Rel cx nt e a w) (hop:o.op=.assign x') (ho:okOpd cx.fm x x'=true) (hd:o.dst=some d) (hlt:d<nt) (he:e.opd x=some v) (ht:e.take v=some (t,e1))
 (hK:Kt (e1.setD (some d) (.val t))):Good P cx nt Kt o a w:=by
 obtain ⟨vl,h1,h2,h3,h4⟩:=h.take (h.opd ho he) ht
 refine good_make h hd hlt ?_ h3 h4 h1 h2 hK
 simp [execOp,hop]

theorem zeroOf_spec {t:TypeId} {zs:List Value} (h:(zeroOf P t).any (eqCL zs ·)=true):∃ i z,P.info? t=some i∧i.zero=some z∧z.cells.toList=zs∧∀ x∈zs,scal x=true:=by
 unfold zeroOf at h
 cases hi:P.info? t with
 | none=>rw [hi] at h;simp at h
 | some i =>
  rw [hi] at h
  cases hz:i.zero with
  | none=>simp [hz] at h
  | some z =>
   simp only [Option.bind_some,hz,Option.map_some,Option.any_some] at h
   obtain ⟨h1,h2⟩:=eqCL_spec h
   exact ⟨i,z,rfl,hz,h1.symm,h2⟩

theorem run_zero {t:TypeId} {i:TypeInfo} {z:Value} (hi:P.info? t=some i) (hz:i.zero=some z):(zeroValue t).run P w=.ok z w:=by
 simp [zeroValue,typeInfo,hi,hz]

theorem noOwnL_sc (zs:List Value):T.noOwnL (zs.map .sc)=true:=by
 induction zs with
 | nil=>rfl
 | cons z zs ih=>simp [T.noOwn,ih]

theorem Rel.consts {cx:Cx} {nt:Nat} {e:Env} {a:Act} {w:World} (h:Rel cx nt e a w) (arr:Array Value) (hs:∀ x∈arr.toList,scal x=true) :
 R cx (e.add nt (.val (.tup (arr.toList.map .sc)))) (vadd (vlA a) nt (.tuple arr)) w:=by
 refine h.r.addA (h.dom nt (Nat.le_refl _)) ⟨by simpa [T.noOwn] using noOwnL_sc arr.toList,?_⟩
 simp only [Mch.rep]
 refine ⟨⟨arr,rfl,by simp⟩,?_⟩
 have:∀ (zs:List Value) (g:Nat→Value) (i:Nat),(∀ j,j<zs.length→g (i+j)=zs.getD j undef)→(∀ x∈zs,scal x=true)→repL cx.fm (okR cx (Own e (vlA a) w)) w g i (zs.map .sc):=by
  intro zs
  induction zs with
  | nil=>intros;trivial
  | cons z zs ih =>
   intro g i hg hz
   refine ⟨⟨by have:=hg 0 (by simp);simpa using this,hz z (by simp)⟩,ih g (i+1) (fun j hj=>?_) (fun x hx=>hz x (by simp [hx]))⟩
   have:=hg (j+1) (by simpa using hj)
   rw [show i+1+j=i+(j+1) from by omega]
   simpa using this
 exact this arr.toList _ 0 (fun j hj=>by simp [kid,Array.getD_eq_getD_getElem?,List.getD_eq_getElem?_getD]) hs

theorem good_alloc {t:TypeId} {zs:List Value} (hN:∀ b,¬cx.N b) (h:Rel cx nt e a w) (hop:o.op=.alloc t) (hz:(zeroOf P t).any (eqCL zs ·)=true) (hd:o.dst=some d) (hlt:d<nt)
 (hK:Kt (e.setD (some d) (.val (.mem .own none (zs.map .sc))))):Good P cx nt Kt o a w:=by
 obtain ⟨i,z,hi,hz1,rfl,hsc⟩:=zeroOf_spec hz
 have h1:=h.consts z.cells hsc
 have h2:=h1.alloc (s:=none) (v':=.pointer (some ⟨w.heap.size,0,none⟩)) (arr:=z.cells) (elem:=t) h.clr hN (vadd_self ..) (fun j hj=>by
  simp only [List.length_map,Array.length_toList] at hj
  simp [hj]) rfl rfl rfl (by simp [roomN])
 refine good_make h hd hlt ?_ h2 h.clr (fun s hs=>by rw [vadd_ne (by omega),vadd_ne (by omega)]) (vadd_self ..) hK
 simp [execOp,hop,Instr.alloc,run_zero hi hz1,newVar,newRow]

theorem good_box {x:Opd} {x':Operand} {ty:TypeId} {v:V} {t:T} {e1:Env} (hN:∀ b,¬cx.N b) (h:Rel cx nt e a w) (hop:o.op=.box ty x') (ho:okOpd cx.fm x x'=true) (hd:o.dst=some d) (hlt:d<nt) (he:e.opd x=some v) (ht:e.take v=some (t,e1))
 (hcell:t.cells.all T.isCell=true) (hK:Kt (e1.setD (some d) (.val (.mem .own none t.cells)))):Good P cx nt Kt o a w:=by
 obtain ⟨vl,h1,h2,h3,h4⟩:=h.take (h.opd ho he) ht
 obtain ⟨h5,h6,_⟩:=h3.cells h4 hcell
 have h7:=h5.alloc (s:=none) (v':=.pointer (some ⟨w.heap.size,0,none⟩)) (arr:=(vl nt).cells) (elem:=ty) h4 hN (vadd_self ..) (fun j hj=>by
  have hj':j<(vl nt).cells.size:=by omega
  simp [hj']) rfl rfl rfl (by simp [roomN,h6])
 refine good_make h hd hlt ?_ h7 h4 (fun s hs=>by rw [vadd_ne (by omega),vadd_ne (by omega)];exact h1 s hs) (vadd_self ..) hK
 simp [execOp,hop,Instr.box,newVar,newRow,h2]

theorem good_mks {n:Opd} {l c:Operand} {t el:TypeId} {z:Value} {m:Int} {by_:Nat} (hN:∀ b,¬cx.N b) (h:Rel cx nt e a w) (hop:o.op=.makeSlice t l c) (hel:elOf P t=some el) (hsz:szOf P el=some 1) (hz:(zeroOf P el).any (eqCL [z] ·)=true) (hby:byOf P el=some by_) (hb:by_≤65536)
 (hl:okOpd cx.fm n l=true) (hc:okOpd cx.fm n c=true) (hd:o.dst=some d) (hlt:d<nt) (he:(e.opd n).bind asI=some m) (h0:0≤m) (h1:m≤(roomy:Int))
 (hK:Kt (e.setD (some d) (.val (.mem .own (some 1) (List.replicate m.toNat (.sc z)))))):Good P cx nt Kt o a w:=by
 obtain ⟨k,hk⟩:=asI_spec he
 have e1:=ar_sc (h.opd hl hk)
 have e2:=ar_sc (h.opd hc hk)
 obtain ⟨i,zv,hi,hzv,hzc,hsc⟩:=zeroOf_spec hz
 have hisz:i.size=1:=by simpa [szOf,hi] using hsz
 have hiby:i.bytes=by_:=by simpa [byOf,hi] using hby
 unfold roomy at h1
 have hmk:=run_make (P:=P) w t el i zv (elOf_spec hel) hi hzv k k m m h0 (Int.le_refl _) (by
  rw [hiby]
  have:(by_:Int)*m≤65536*4294967296:=Int.mul_le_mul (by omega) h1 h0 (by omega)
  omega) (by omega)
 have hz1:zv.cells=#[z]:=by rw [← Array.toList_inj];exact hzc
 have hcells:madeCells zv.cells (m.toNat*i.size)=Array.replicate m.toNat z:=by
  rw [hz1,hisz,Nat.mul_one]
  apply Array.ext
  · simp [madeCells]
  · intro j h1 h2
    simp [madeCells,Nat.mod_one]
 have h3:=h.consts (Array.replicate m.toNat z) (fun x hx=>by
  simp at hx
  rw [hx.2]
  exact hsc z (by simp))
 simp only [Array.toList_replicate,List.map_replicate] at h3
 have h4:=h3.alloc (s:=some 1) (v':=.slice (some ⟨w.heap.size,0,none⟩) m.toNat m.toNat) (arr:=Array.replicate m.toNat z) (elem:=el) h.clr hN (vadd_self ..) (fun j hj=>by
  simp only [List.length_replicate] at hj
  simp [hj]) rfl rfl ⟨m.toNat,rfl,by simp,by omega,Nat.le_refl _⟩ (by simp [roomN,capOf])
 refine good_make h hd hlt ?_ h4 h.clr (fun s hs=>by rw [vadd_ne (by omega),vadd_ne (by omega)]) (vadd_self ..) hK
 simp only [execOp,hop,e1,e2,Sem.run_bind,hmk,Result.andThen_ok,Sem.run_pure,hcells]

end
end Go.Mch
namespace Go.Mch

def segSet (ts:List T) (off:Nat):List T→List T
 | []=>ts
 | u::us=>segSet (ts.set off u) (off+1) us

theorem segSet_length:∀ (us ts:List T) (off:Nat),(segSet ts off us).length=ts.length
 | [],_,_=>rfl
 | u::us,ts,off=>by rw [segSet,segSet_length us];simp

theorem segSet_get:∀ (us ts:List T) (off i:Nat),off+us.length≤ts.length→(segSet ts off us)[i]?=if off≤i∧i<off+us.length then us[i-off]? else ts[i]?
 | [],ts,off,i,_=>by
  simp only [segSet,List.length_nil,Nat.add_zero]
  rw [if_neg (by omega)]
 | u::us,ts,off,i,h=>by
  simp only [List.length_cons] at h
  rw [segSet,segSet_get us _ (off+1) i (by simp;omega)]
  by_cases h1:i=off
  · subst h1
    rw [if_neg (by omega),if_pos (by simp),List.getElem?_set_self (by omega),Nat.sub_self]
    rfl
  · by_cases h2:off+1≤i∧i<off+1+us.length
    · rw [if_pos h2,if_pos (by simp;omega)]
      rw [show i-off=(i-(off+1))+1 from by omega]
      simp
    · rw [if_neg h2,if_neg (by simp;omega),List.getElem?_set_ne (by omega)]

theorem puts_spec:∀ (us:List T) (e:Env) (r:Nat) (p:List Nat) (off:Nat) (t:T) (s:Option Nat) (ts:List T),e r=some (.val t)→t.at p=some (.mem .own s ts)→off+us.length≤ts.length →
 e.puts r p off us r=some (.val (t.setAt p (.mem .own s (segSet ts off us)))) ∧
  ∀ s' y,s'≠r→e.puts r p off us s'=some y→e s'=some y∧∀ j,j<us.length→y.hits r (p++[off+j])=false
 | [],e,r,p,off,t,s,ts,hr,hp,_=>by
  refine ⟨?_,fun s' y _ h=>⟨h,fun j hj=>by simp at hj⟩⟩
  simp only [Env.puts,segSet]
  rw [hr,setAt_same p t hp]
 | u::us,e,r,p,off,t,s,ts,hr,hp,hl=>by
  simp only [List.length_cons] at hl
  have h1:(e.setTree r (p++[off]) u) r=some (.val (t.setAt p (.mem .own s (ts.set off u)))):=by
   rw [setTree_self hr,setAt_append p t off u hp]
   rfl
  have h2:(t.setAt p (.mem .own s (ts.set off u))).at p=some (.mem .own s (ts.set off u)):=R.replaceAt.at_setAt_self p t hp
  obtain ⟨h3,h4⟩:=puts_spec us (e.setTree r (p++[off]) u) r p (off+1) _ s _ h1 h2 (by simp;omega)
  refine ⟨?_,fun s' y hs hy=>?_⟩
  · simp only [Env.puts,segSet]
    rw [h3,setAt_setAt p t hp]
  · simp only [Env.puts] at hy
    obtain ⟨h5,h6⟩:=h4 s' y hs hy
    rcases setTree_some hr h5 with ⟨rfl,_⟩ | ⟨_,h7,h8⟩
    · exact (hs rfl).elim
    · refine ⟨h7,fun j hj=>?_⟩
      cases j with
      | zero=>exact h8
      | succ j =>
       have:=h6 j (by simpa using hj)
       rwa [show off+1+j=off+(j+1) from by omega] at this
where
 setAt_same:∀ (p:List Nat) (t:T) {u:T},t.at p=some u→t.setAt p u=t
  | [],t,u,h=>by simp only [T.at,Option.some.injEq] at h;exact h.symm
  | i::p,t,u,h=>by
   simp only [T.at] at h
   cases hi:t.kids[i]? with
   | none=>rw [hi] at h;cases h
   | some c =>
    rw [hi] at h
    simp only [Option.bind_some] at h
    have hgd:t.kids.getD i .gone=c:=by rw [List.getD_eq_getElem?_getD,hi];rfl
    simp only [T.setAt,hgd,setAt_same p c h]
    have hs:t.kids.set i c=t.kids:=by
     apply List.ext_getElem?
     intro j
     by_cases hj:i=j
     · subst hj
       have hlt:i<t.kids.length:=by
        rcases Nat.lt_or_ge i t.kids.length with h' | h'
        · exact h'
        · rw [List.getElem?_eq_none h'] at hi;cases hi
       rw [List.getElem?_set_self hlt,hi]
     · rw [List.getElem?_set_ne hj]
    rw [hs]
    cases t with
    | mem k s ts=>cases k <;> simp [T.kids] at hi <;> rfl
    | agg ts=>rfl
    | tup ts=>rfl
    | _=>simp [T.kids] at hi
 setAt_setAt:∀ (p:List Nat) (t:T) {u x y:T},t.at p=some u→(t.setAt p x).setAt p y=t.setAt p y
  | [],_,_,_,_,_=>rfl
  | i::p,t,u,x,y,h=>by
   simp only [T.at] at h
   cases hi:t.kids[i]? with
   | none=>rw [hi] at h;cases h
   | some c =>
    rw [hi] at h
    simp only [Option.bind_some] at h
    have hgd:t.kids.getD i .gone=c:=by rw [List.getD_eq_getElem?_getD,hi];rfl
    have hlt:i<t.kids.length:=by
     rcases Nat.lt_or_ge i t.kids.length with h' | h'
     · exact h'
     · rw [List.getElem?_eq_none h'] at hi;cases hi
    have hk:∀ z,(t.setAt (i::p) z).kids=t.kids.set i (c.setAt p z):=fun z=>by
     cases t with
     | mem k s ts=>cases k <;> simp [T.setAt,T.withKids,T.kids] at hi hgd ⊢ <;> rw [hgd]
     | agg ts=>simp only [T.setAt,T.withKids,T.kids] at hgd ⊢;rw [hgd]
     | tup ts=>simp only [T.setAt,T.withKids,T.kids] at hgd ⊢;rw [hgd]
     | _=>simp [T.kids] at hi
    have hwk:∀ z w',(t.setAt (i::p) z).withKids w'=t.withKids w':=fun z w'=>by cases t <;> rfl
    have e1:(t.setAt (i::p) x).kids.getD i .gone=c.setAt p x:=by
     rw [hk,List.getD_eq_getElem?_getD,List.getElem?_set_self hlt];rfl
    conv=>lhs;rw [T.setAt]
    rw [e1,hk,hwk,setAt_setAt p c h]
    conv=>rhs;rw [T.setAt]
    rw [hgd,List.set_set]

theorem segRep {fm:Nat→Nat} {ok:K→Nat→Prop} {w:World} {g g' f:Nat→Value}:∀ (us ts:List T) (off:Nat),off+us.length≤ts.length→repL fm ok w g 0 ts→repL fm ok w f 0 us →
 (∀ i,i<ts.length→g' i=if off≤i∧i<off+us.length then f (i-off) else g i) →
 repL fm ok w g' 0 (segSet ts off us)∧∀ b,cntL w g' b 0 (segSet ts off us)≤cntL w g b 0 ts+cntL w f b 0 us
 | [],ts,off,_,h,_,hg=>by
  simp only [segSet,List.length_nil,Nat.add_zero] at hg ⊢
  have hg':∀ j,0≤j→j<0+ts.length→g j=g' j:=fun j _ hj=>by rw [hg j (by omega),if_neg (by omega)]
  exact ⟨repL_congr ts 0 hg' h,fun b=>by rw [cntL_congr ts 0 hg'];simp [cntL]⟩
 | u::us,ts,off,hl,h,hu,hg=>by
  simp only [List.length_cons] at hl hg
  simp only [segSet]
  have hset:=setRep (fm:=fm) (ok:=ok) (w:=w) (g:=g) (x:=f 0) ts 0 off h (by omega) hu.1
  simp only [Nat.zero_add] at hset
  have ih:=segRep (fm:=fm) (ok:=ok) (w:=w) (g:=fun j=>if j=off then f 0 else g j) (g':=g') (f:=fun j=>f (j+1)) us (ts.set off u) (off+1) (by simp;omega) hset.1
   ((repL_shift us 0 1).1 hu.2) (fun i hi=>by
    simp only [List.length_set] at hi
    rw [hg i hi]
    by_cases h1:i=off
    · subst h1
      rw [if_pos (by omega),if_neg (by omega),if_pos rfl]
      simp
    · by_cases h2:off+1≤i∧i<off+1+us.length
      · rw [if_pos (by omega),if_pos h2]
        congr 1
        omega
      · rw [if_neg (by omega),if_neg h2,if_neg h1])
  refine ⟨ih.1,fun b=>?_⟩
  have h1:=ih.2 b
  have h2:=hset.2 b
  have h3:cntL w f b 0 (u::us)=cnt w (f 0) b u+cntL w (fun j=>f (j+1)) b 0 us:=by
   simp only [cntL]
   rw [cntL_shift us 0 1]
  omega
where
 setRep {fm:Nat→Nat} {ok:K→Nat→Prop} {w:World} {g:Nat→Value} {x:Value} {u:T}:∀ (ts:List T) (k i:Nat),repL fm ok w g k ts→i<ts.length→rep fm ok w x u →
  repL fm ok w (fun j=>if j=k+i then x else g j) k (ts.set i u)∧∀ b,cntL w (fun j=>if j=k+i then x else g j) b k (ts.set i u)≤cntL w g b k ts+cnt w x b u
  | [],_,_,_,h,_=>by simp at h
  | t::ts,k,0,h,_,hx=>by
   simp only [List.set_cons_zero,repL,cntL,Nat.add_zero,if_true]
   have hg:∀ j,k+1≤j→j<k+1+ts.length→g j=(if j=k then x else g j):=fun j h1 _=>by rw [if_neg (by omega)]
   refine ⟨⟨hx,repL_congr ts (k+1) hg h.2⟩,fun b=>?_⟩
   rw [← cntL_congr (g:=g) ts (k+1) hg]
   omega
  | t::ts,k,i+1,h,hi,hx=>by
   simp only [List.set_cons_succ,repL,cntL]
   have ih:=setRep ts (k+1) i h.2 (by simpa using hi) hx
   have e1:(fun j=>if j=k+1+i then x else g j)=fun j=>if j=k+(i+1) then x else g j:=by
    funext j;rw [show k+1+i=k+(i+1) from by omega]
   rw [e1] at ih
   rw [if_neg (by omega)]
   exact ⟨⟨h.1,ih.1⟩,fun b=>by have:=ih.2 b;omega⟩

theorem R.store {cx:Cx} {e:Env} {vl:Vl} {w:World} {q r off:Nat} {p:List Nat} {us ts:List T} {ys:Array Value} {s:Option Nat} {arr:Array Value} {elem:TypeId} (h:R cx (e.add q (.val (.tup us))) vl w) (hc:Clr e q)
 (hrq:r≠q) (hy:vl q=.tuple ys) (ht:e.tree r p=some (.mem .own s ts)) (hl:off+us.length≤ts.length) (harr:w.heap[blk (nodeV w (vl r) p)]?=some (.cells arr elem))
 (hone:us.length=ys.size) :
 R cx (e.puts r p off us) vl (w.setRow (blk (nodeV w (vl r) p)) (arr.toList.take (ofs (nodeV w (vl r) p)+off)++ys.toList++arr.toList.drop (ofs (nodeV w (vl r) p)+off+ys.size)).toArray):=by
 obtain ⟨t,hr,hp⟩:=tree_some ht
 obtain ⟨hp1,hp2⟩:=puts_spec us e r p off t s ts hr hp hl
 have hr':e.add q (.val (.tup us)) r=some (.val t):=by rw [add_ne hrq];exact hr
 have hrep:=srep_val h hr'
 have hf:=focus p t (vl r) hrep hp
 obtain ⟨who,hw⟩:=h.who
 generalize hnv:nodeV w (vl r) p=nv at *
 have hnode:=hf.1
 rw [rep_mem] at hnode
 obtain ⟨k1,k2,k3,_,k5⟩:=hnode
 have hqr:=srep_val h (add_self ..)
 rw [hy] at hqr
 simp only [Mch.rep] at hqr
 obtain ⟨⟨_,hyy,hsz⟩,hqr⟩:=hqr
 cases hyy
 obtain ⟨arr',elem',hh,hroom⟩:=k3 rfl
 rw [harr] at hh
 cases hh
 have hfit:ofs nv+off+ys.size≤arr.size:=by
  have hts:ofs nv+ts.length≤arr.size:=by
   cases s with
   | none=>exact hroom
   | some sz =>
    obtain ⟨⟨len,_,h2,_,h4⟩,_⟩:=k1
    have:len*sz≤capOf nv*sz:=Nat.mul_le_mul_right _ h4
    simp only at hroom
    omega
  omega
 generalize hnew:(arr.toList.take (ofs nv+off)++ys.toList++arr.toList.drop (ofs nv+off+ys.size)).toArray=narr
 have hnsz:narr.size=arr.size:=by
  rw [← hnew];simp;omega
 have hnget:∀ i,narr[i]?=if ofs nv+off≤i∧i<ofs nv+off+ys.size then ys[i-(ofs nv+off)]? else arr[i]?:=fun i=>by
  rw [← hnew]
  simp only [List.getElem?_toArray]
  rw [List.append_assoc,List.getElem?_append]
  have hlt:(arr.toList.take (ofs nv+off)).length=ofs nv+off:=by simp;omega
  rw [hlt]
  by_cases h1:i<ofs nv+off
  · rw [if_pos h1,if_neg (by omega),List.getElem?_take,if_pos h1];simp
  · rw [if_neg h1,List.getElem?_append]
    by_cases h2:i<ofs nv+off+ys.size
    · rw [if_pos (by simp;omega),if_pos (by omega)];simp
    · rw [if_neg (by simp;omega),if_neg (by omega),List.getElem?_drop]
      simp only [Array.length_toList,Array.getElem?_toList]
      congr 1
      omega
 have hsome:∀ k,narr[k]?.isSome=arr[k]?.isSome:=fun k=>by
  by_cases hk:k<arr.size
  · rw [Array.getElem?_eq_getElem hk,Array.getElem?_eq_getElem (by rw [hnsz];exact hk)];rfl
  · rw [Array.getElem?_eq_none (by omega),Array.getElem?_eq_none (by omega)]
 have hheap:(w.setRow (blk nv) narr).heap[blk nv]?=some (.cells narr elem):=setRow_heap w _ arr narr elem (0,0) harr
 have hsame:∀ b,b<w.heap.size→¬b=blk nv→(w.setRow (blk nv) narr).heap[b]?=w.heap[b]?:=fun b _ hb=>setRow_other w _ b narr hb
 have hcount:∀ b,cnt w nv b (.mem .own s ts)=(if blk nv=b then 1 else 0)+cntL w (kid w nv) b 0 ts:=fun b=>cnt_own
 have hle1:∀ b,cnt w nv b (.mem .own s ts)≤1:=fun b=>Nat.le_trans (hf.2 b) (hw r t hr' b).1
 have hkz:∀ b,b=blk nv→cntL w (kid w nv) b 0 ts=0:=fun b hb=>by have h1:=hcount b;have h2:=hle1 b;rw [if_pos hb.symm] at h1;omega
 have hqz:∀ b,b=blk nv→cntL w (kid w (.tuple ys)) b 0 us=0:=fun b hb=>by
  have h1:=hcount b
  rw [if_pos hb.symm] at h1
  have h2:=(hw r t hr' b).2 (by have:=hf.2 b;omega)
  rcases Nat.eq_zero_or_pos (cntL w (kid w (.tuple ys)) b 0 us) with h3 | h3
  · exact h3
  · have:=(hw q _ (add_self ..) b).2 (by rw [hy];exact h3)
    exact (hrq (h2.symm.trans this)).elim
 have himm:∀ k b,k≠.own→okR cx (Own (e.add q (.val (.tup us))) vl w) k b→¬b=blk nv:=fun k b hk ho hb=>by
  refine (ho.2.2.2 hk).1 ⟨r,t,hr',?_⟩
  have h1:=hcount b
  rw [if_pos hb.symm] at h1
  have:=hf.2 b
  omega
 have hfr1:=frameL hsame himm ts (kid w nv) 0 k5 (fun b hb=>hkz b hb)
 have hfr2:=frameL hsame himm us (kid w (.tuple ys)) 0 hqr (fun b hb=>hqz b hb)
 have hkid:∀ i,i<ts.length→kid (w.setRow (blk nv) narr) nv i=if off≤i∧i<off+us.length then kid w (.tuple ys) (i-off) else kid w nv i:=fun i hi=>by
  have k1':shp (w.setRow (blk nv) narr) nv s ts.length:=⟨k1.1,fun j hj=>by
   have:=k1.2 j hj
   simp only [World.cell?,hheap,harr] at this ⊢
   simp only [Option.isSome_none,Bool.false_eq_true,if_false] at this ⊢
   rw [hsome];exact this⟩
  rw [kid_mem k1',kid_mem k1]
  simp only [World.cell?,hheap,harr,Option.isSome_none,Bool.false_eq_true,if_false]
  rw [hnget]
  by_cases h1:off≤i∧i<off+us.length
  · rw [if_pos (by omega),if_pos h1]
    simp only [kid,Array.getD_eq_getD_getElem?]
    rw [show ofs nv+i-(ofs nv+off)=i-off from by omega]
  · rw [if_neg (by omega),if_neg h1]
 have hseg:=segRep (g:=kid w nv) (g':=kid (w.setRow (blk nv) narr) nv) (f:=kid w (.tuple ys)) us ts off hl hfr1.1 hfr2.1 hkid
 have hnv':nodeV w (vl r) p=nv:=hnv
 refine h.replaceAt (r:=r) (q:=q) (p:=p) (pks:=(List.range us.length).map fun j=>p++[off+j]) (t:=t) (u:=.mem .own s ts) (x:=.mem .own s (segSet ts off us)) (touch:=fun b=>b=blk nv) hr' hp (add_self ..) hrq hsame (fun b hb=>?_) ?_ ?_ (fun b=>?_) ?_ (fun _ h=>by cases h) hp1 (fun s' y hs hy=>?_)
 · rw [hnv',hcount,if_pos hb.symm];omega
 · refine ⟨h.keeps.os,h.keeps.tape,h.keeps.output,by rw [setRow_size];exact h.keeps.size,fun b hb hm=>?_⟩
   by_cases hbn:b=blk nv
   · subst hbn
     rcases (k2 (.inl rfl)).2.1 rfl with h1 | h1
     · omega
     · exact (hm h1).elim
   · rw [setRow_other w _ b narr hbn];exact h.keeps.block b hb hm
 · rw [hnv',rep_mem]
   refine ⟨⟨by rw [segSet_length];exact k1.1,fun i hi=>?_⟩,fun _=>k2 (.inl rfl),fun _=>⟨narr,elem,hheap,by rw [hnsz,segSet_length];exact hroom⟩,fun hk=>(hk rfl).elim,hseg.1⟩
   rw [segSet_length] at hi
   have:=k1.2 i hi
   simp only [World.cell?,hheap,harr] at this ⊢
   simp only [Option.isSome_none,Bool.false_eq_true,if_false] at this ⊢
   rw [hsome];exact this
 · rw [hnv',hcount,cnt_own,hy]
   have h1:=hseg.2 b
   rw [hfr1.2 b,hfr2.2 b] at h1
   simp only [cnt]
   omega
 · intro rest hpk s' ts' hrest
   rw [hnv']
   cases rest with
   | nil =>
    simp only [T.at,Option.some.injEq,T.mem.injEq,true_and] at hrest
    obtain ⟨rfl,rfl⟩:=hrest
    exact ⟨segSet ts off us,rfl,segSet_length ..,rfl⟩
   | cons i rest =>
    simp only [T.at,T.kids] at hrest ⊢
    cases hi:ts[i]? with
    | none=>rw [hi] at hrest;cases hrest
    | some c =>
     rw [hi] at hrest
     simp only [Option.bind_some] at hrest
     have hlt:i<ts.length:=by
      rcases Nat.lt_or_ge i ts.length with h' | h'
      · exact h'
      · rw [List.getElem?_eq_none h'] at hi;cases hi
     have hout:¬(off≤i∧i<off+us.length):=fun hio=>by
      have:=hpk (p++[off+(i-off)]) (List.mem_map.2 ⟨i-off,by simp;omega,rfl⟩)
      rw [show off+(i-off)=i from by omega] at this
      have h1:(p++[i]).isPrefixOf (p++i::rest)=true:=by
       rw [List.isPrefixOf_iff_prefix]
       exact ⟨rest,by simp⟩
      rw [h1] at this;cases this
     rw [segSet_get us ts off i hl,if_neg hout,hi]
     simp only [Option.bind_some,nodeV]
     rw [hkid i hlt,if_neg hout]
     refine ⟨ts',hrest,rfl,?_⟩
     have hrc:=repL_get ts 0 i k5 hi
     rw [Nat.zero_add] at hrc
     refine frame_node hsame rest c (kid w nv i) hrc (fun b hb=>?_) hrest
     have h1:=cntL_get (w:=w) (g:=kid w nv) (b:=b) ts 0 i hi
     rw [Nat.zero_add] at h1
     have h2:=hkz b hb
     omega
 · obtain ⟨h1,h2⟩:=hp2 s' y hs hy
   have hsq:s'≠q:=fun e'=>by subst e';rw [(hc s' (Nat.le_refl _)).1] at h1;cases h1
   refine ⟨hsq,by rw [add_ne hsq];exact h1,fun pk hpk=>?_,fun r' hr''=>?_⟩
   · obtain ⟨j,hj,rfl⟩:=List.mem_map.1 hpk
     exact h2 j (by simpa using hj)
   · have hrq':r'≠q:=fun e'=>by subst e';rw [(hc r' (Nat.le_refl _)).2 s' y h1] at hr'';cases hr''
     refine ⟨hrq',fun hrr=>?_⟩
     obtain ⟨u',hu'⟩:=h.root (s:=s') (x:=y) (by rw [add_ne hsq];exact h1) hr''
     have hu2:e r'=some (.val u'):=by rwa [add_ne hrq'] at hu'
     rw [hu',puts_other us e r p off t s ts hr hp hl r' hrr u' hu2]
where
 puts_other:∀ (us:List T) (e:Env) (r:Nat) (p:List Nat) (off:Nat) (t:T) (s:Option Nat) (ts:List T),e r=some (.val t)→t.at p=some (.mem .own s ts)→off+us.length≤ts.length→∀ r',r'≠r→∀ u',e r'=some (.val u')→e.puts r p off us r'=some (.val u')
  | [],e,r,p,off,t,s,ts,_,_,_,r',_,u',h=>h
  | u::us,e,r,p,off,t,s,ts,hr,hp,hl,r',hne,u',h=>by
   simp only [List.length_cons] at hl
   simp only [Env.puts]
   have h1:(e.setTree r (p++[off]) u) r=some (.val (t.setAt p (.mem .own s (ts.set off u)))):=by
    rw [setTree_self hr,setAt_append p t off u hp]
    rfl
   have h2:(t.setAt p (.mem .own s (ts.set off u))).at p=some (.mem .own s (ts.set off u)):=R.replaceAt.at_setAt_self p t hp
   exact puts_other us _ r p (off+1) _ s _ h1 h2 (by simp;omega) r' hne u' (setTree_ne hne h rfl)

end Go.Mch
namespace Go.Mch

section
variable {P:Program} {cx:Cx} {nt:Nat} {Kt:Env→Prop} {o:Oper} {a:Act} {w:World} {e:Env} {d:Nat}

theorem good_stA {n:Option Nat} {x' y':Operand} {t:TypeId} {v:V} {t1:T} {e1:Env} {r off:Nat} {p:List Nat} {s:Option Nat} {ts:List T} (h:Rel cx nt e a w) (hop:o.op=.store t x' y') (hsz:szOf P t=some (n.getD 1))
 (hd:o.dst=none) (hax:AR cx e a w (a.eval x') (.pref r p off)) (hav:AR cx e a w (a.eval y') v) (h3:e.take v=some (t1,e1)) (h4:e1.tree r p=some (.mem .own s ts))
 (hn:t1.cells.length=n.getD 1) (hl:off+t1.cells.length≤ts.length) (hcell:t1.cells.all T.isCell=true) (hK:Kt (e1.puts r p off t1.cells)):Good P cx nt Kt o a w:=by
 obtain ⟨vl,g1,g2,g3,g4⟩:=h.take hav h3
 obtain ⟨g5,g6,g7⟩:=g3.cells g4 hcell
 simp only [AR,arep] at hax
 obtain ⟨t0,s0,ts0,k1,k2,k3,k4⟩:=hax
 have hrn:r<nt:=by
  rcases Nat.lt_or_ge r nt with h' | h'
  · exact h'
  · rw [h.dom r h'] at k1;cases k1
 have hvr:vadd vl nt (.tuple (vl nt).cells) r=vlA a r:=by rw [vadd_ne (by omega)];exact g1 r hrn
 have htr':(e1.add nt (.val (.tup t1.cells))).tree r p=some (.mem .own s ts):=by rw [tree_add (by omega)];exact h4
 obtain ⟨t2,q1,q2⟩:=tree_some htr'
 have hnode:=(focus p t2 _ (srep_val g5 q1) q2).1
 rw [hvr,rep_mem] at hnode
 obtain ⟨_,_,m3,_,_⟩:=hnode
 obtain ⟨arr,elem,m4,m5⟩:=m3 rfl
 have hst:=g5.store (r:=r) (p:=p) (off:=off) (arr:=arr) (elem:=elem) g4 (by omega) (vadd_self ..) h4 hl (by rw [hvr];exact m4) g6.symm
 rw [hvr] at hst
 obtain ⟨t3,q3,q4⟩:=tree_some h4
 obtain ⟨_,hp2⟩:=puts_spec t1.cells e1 r p off t3 s ts q3 q4 hl
 refine good_skip (e':=e1.puts r p off t1.cells) (w':=w.setRow (blk (nodeV w (vlA a r) p)) (arr.toList.take (ofs (nodeV w (vlA a r) p)+off)++(vl nt).cells.toList++arr.toList.drop (ofs (nodeV w (vlA a r) p)+off+(vl nt).cells.size)).toArray) ?_ hK ?_
 · have hfit:ofs (nodeV w (vlA a r) p)+off+(vl nt).cells.size≤arr.size:=by
    have hshp:=(focus p t2 _ (srep_val g5 q1) q2).1
    rw [hvr,rep_mem] at hshp
    obtain ⟨⟨z1,_⟩,_⟩:=hshp
    have hts:ofs (nodeV w (vlA a r) p)+ts.length≤arr.size:=by
     cases s with
     | none=>exact m5
     | some sz =>
      obtain ⟨len,_,h2,_,h4⟩:=z1
      have:len*sz≤capOf (nodeV w (vlA a r) p)*sz:=Nat.mul_le_mul_right _ h4
      simp only at m5
      omega
    omega
   have hrun:=run_storeCells_at P (blk (nodeV w (vlA a r) p)) (ofs (nodeV w (vlA a r) p)+off) elem (vl nt).cells.toList 0 arr w m4 (by simpa using hfit) (fun v hv=>by
    obtain ⟨i,hi,rfl⟩:=List.getElem_of_mem hv
    have:=g7 i (by simp at hi;omega)
    simp only [Array.getD_eq_getD_getElem?] at this
    simp only [Array.length_toList] at hi
    rw [Array.getElem?_eq_getElem hi] at this
    simpa using this)
   simp only [Nat.add_zero,Array.length_toList] at hrun
   have hcs:(a.eval y').cells.size=n.getD 1:=by rw [← g2,g6,hn]
   simp only [execOp,hop,Instr.storeAt,k4,Instr.sureAddr,storeVar,Sem.run_bind,Sem.run_pure,Result.andThen_ok,run_szOf hsz,hcs,ne_eq,not_true,if_false]
   rw [g2] at hrun
   rw [hrun]
   simp [g2]
 · rw [hd]
   refine ⟨?_,fun j hj=>?_,h.size,h.defers⟩
   · refine hst.congr fun s' y hy=>?_
     have hs':s'<nt:=by
      rcases Nat.lt_or_ge s' nt with h' | h'
      · exact h'
      · have:=(hp2 s' y (by omega) hy).1
        rw [(g4 s' h').1] at this;cases this
     show vlA a s'=_
     rw [vadd_ne (by omega)];exact (g1 s' hs').symm
   · cases hj':e1.puts r p off t1.cells j with
     | none=>rfl
     | some y =>
      have:=(hp2 j y (by omega) hj').1
      rw [(g4 j hj).1] at this;cases this

theorem good_st {n:Option Nat} {x y:Opd} {x' y':Operand} {t:TypeId} {v:V} {t1:T} {e1:Env} {r off:Nat} {p:List Nat} {s:Option Nat} {ts:List T} (h:Rel cx nt e a w) (hop:o.op=.store t x' y') (hsz:szOf P t=some (n.getD 1))
 (hx:okOpd cx.fm x x'=true) (hy:okOpd cx.fm y y'=true) (hd:o.dst=none) (h1:e.opd x=some (.pref r p off)) (h2:e.opd y=some v) (h3:e.take v=some (t1,e1)) (h4:e1.tree r p=some (.mem .own s ts))
 (hn:t1.cells.length=n.getD 1) (hl:off+t1.cells.length≤ts.length) (hcell:t1.cells.all T.isCell=true) (hK:Kt (e1.puts r p off t1.cells)):Good P cx nt Kt o a w :=
 good_stA h hop hsz hd (h.opd hx h1) (h.opd hy h2) h3 h4 hn hl hcell hK

theorem opt_asI {e:Env} {lo:Option Opd} {l:Option Int} (h:e.optI lo=some l) :
 (lo=none∧l=none)∨∃ i n,lo=some i∧l=some n∧(e.opd i).bind asI=some n:=by
 cases lo with
 | none=>simp only [Env.optI,Option.some.injEq] at h;exact .inl ⟨rfl,h.symm⟩
 | some i =>
  simp only [Env.optI] at h
  cases hi:(e.opd i).bind asI with
  | none=>rw [hi] at h;cases h
  | some n=>rw [hi] at h;simp only [Option.map_some,Option.some.injEq] at h;exact .inr ⟨i,n,rfl,h.symm,hi⟩

theorem run_bounds {P:Program} {w:World} {len cap:Nat} {lo hi:Option Value} {l h:Int} (hlo:lo=none∧l=0∨∃ k,lo=some (.int k l)) (hhi:hi=none∧h=(len:Int)∨∃ k,hi=some (.int k h)) (h0:0≤l) (h1:l≤h) (h2:h≤(cap:Int)) :
 (Instr.sliceBounds true len cap lo hi none).run P w=.ok (l.toNat,h.toNat,cap) w:=by
 have hl:l≤(h.toNat:Int):=by omega
 rcases hlo with ⟨rfl,rfl⟩ | ⟨k,rfl⟩ <;> rcases hhi with ⟨rfl,rfl⟩ | ⟨k',rfl⟩ <;> simp [Instr.sliceBounds,Instr.sliceBound,asIntOf] <;> (try (have hh:0≤h:=by omega)) <;> simp_all <;> (intros;omega)

theorem good_sl {sz:Nat} {x:Opd} {lo hi:Option Opd} {x':Operand} {lo' hi':Option Operand} {t el:TypeId} {p v:V} {l hh:Option Int} (h:Rel cx nt e a w) (hop:o.op=.slice t x' lo' hi' none) (hel:elOf P t=some el) (hsz:szOf P el=some sz) (hz:0<sz)
 (hx:okOpd cx.fm x x'=true) (hlo:okOpt cx.fm lo lo'=true) (hhi:okOpt cx.fm hi hi'=true) (hd:o.dst=some d) (hlt:d<nt) (h1:e.opd x=some p)
 (h2:e.optI lo=some l) (h3:e.optI hi=some hh) (h4:slV sz p l hh=some v) (hK:Kt (e.setD (some d) v)):Good P cx nt Kt o a w:=by
 have hu:=elOf_spec hel
 have hev:∀ {i:Option Opd} {i':Option Operand} {m:Option Int},okOpt cx.fm i i'=true→e.optI i=some m →
  (i'.map a.eval=none∧m=none)∨∃ k n,i'.map a.eval=some (.int k n)∧m=some n:=by
  intro i i' m ho hm
  rcases opt_asI hm with ⟨rfl,rfl⟩ | ⟨j,n,rfl,rfl,hj⟩
  · cases i' <;> simp [okOpt] at ho
    exact .inl ⟨rfl,rfl⟩
  · cases i' with
    | none=>simp [okOpt] at ho
    | some j' =>
     simp only [okOpt] at ho
     obtain ⟨k,hk⟩:=asI_spec hj
     exact .inr ⟨k,n,by simp [ar_sc (h.opd ho hk)],rfl⟩
 have e1:=h.opd hx h1
 have hl:=hev hlo h2
 have hr:=hev hhi h3
 have hrun:∀ (ad:Addr) (len cap:Nat),ad.spot=none→a.eval x'=.slice (some ad) len cap→0≤l.getD 0→l.getD 0≤hh.getD (len:Int)→hh.getD (len:Int)≤(cap:Int) →
  (execOp a.eval o).run P w=.ok (.value (.slice (some (if cap=(l.getD 0).toNat then ad else ⟨ad.block,ad.off+(l.getD 0).toNat*sz,none⟩)) ((hh.getD (len:Int)).toNat-(l.getD 0).toNat) (cap-(l.getD 0).toNat))) w:=by
  intro ad len cap hsp hv g0 g1 g2
  have hb:=run_bounds (P:=P) (w:=w) (len:=len) (cap:=cap) (lo:=lo'.map a.eval) (hi:=hi'.map a.eval) (l:=l.getD 0) (h:=hh.getD (len:Int))
   (by rcases hl with ⟨q1,q2⟩ | ⟨k,n,q1,q2⟩ <;> rw [q1,q2] <;> simp) (by rcases hr with ⟨q1,q2⟩ | ⟨k,n,q1,q2⟩ <;> rw [q1,q2] <;> simp) g0 g1 g2
  obtain ⟨b,o',sp⟩:=ad
  simp only at hsp
  subst hsp
  simp only [execOp,hop,Instr.sliceAt,Option.map_none,Sem.run_bind,run_und hu,Result.andThen_ok,Instr.slice,hv,hb,run_szOf hsz,Sem.run_pure]
  split <;> simp [addr_add]
 unfold slV at h4
 split at h4
 · rename_i k sz' ts
   simp only at h4
   split at h4
   · rename_i hc
     obtain ⟨rfl,c1,c2,c3⟩:=hc
     cases h4
     obtain ⟨m1,m2,m3,m4,m5⟩:=imm_rep e1
     obtain ⟨⟨len,s1,s2,s3,s4⟩,s5⟩:=m3
     have hlen:ts.length / sz'=len:=by rw [s2];exact Nat.mul_div_cancel _ s3
     rw [hlen] at c2 c3 hK
     have hres:=hrun _ len _ rfl s1 c1 c2 (by omega)
     refine good_read (x:=.val (.mem k (some sz') (win ts ((l.getD 0).toNat*sz') (((hh.getD (len:Int)).toNat-(l.getD 0).toNat)*sz')))) h hd hlt hres ⟨by simp [T.noOwn,m1,noOwnL_win m2],?_⟩ (by rw [← hlen] at hK ⊢;exact hK)
     have hle:(l.getD 0).toNat≤(hh.getD (len:Int)).toNat:=by omega
     have hle2:(hh.getD (len:Int)).toNat≤len:=by omega
     generalize (l.getD 0).toNat=L at *
     generalize (hh.getD (len:Int)).toNat=H at *
     have hin:L*sz'+(H-L)*sz'≤ts.length:=by
      rw [← Nat.add_mul,s2]
      exact Nat.mul_le_mul_right _ (by omega)
     have hwl:=win_length (ts:=ts) (a:=L*sz') (n:=(H-L)*sz') hin
     generalize hv':Value.slice (some (if capOf (a.eval x')=L then (⟨blk (a.eval x'),ofs (a.eval x'),none⟩:Addr) else ⟨blk (a.eval x'),ofs (a.eval x')+L*sz',none⟩)) (H-L) (capOf (a.eval x')-L)=v'
     have hbv:blk v'=blk (a.eval x'):=by rw [← hv'];simp only [blk];split <;> rfl
     have hcv:capOf v'=capOf (a.eval x')-L:=by rw [← hv'];rfl
     have hov:∀ i,i<(H-L)*sz'→ofs v'=ofs (a.eval x')+L*sz':=fun i hi=>by
      have hne:capOf (a.eval x')≠L:=fun e'=>by
       have:H-L=0:=by omega
       rw [this,Nat.zero_mul] at hi;omega
      rw [← hv'];simp only [ofs];rw [if_neg hne]
     have hshape:v'=.slice (some ⟨blk v',ofs v',none⟩) (H-L) (capOf v'):=by
      rw [hbv,hcv,← hv'];simp only [ofs];split <;> rfl
     rw [rep_mem]
     refine ⟨⟨⟨H-L,hshape,hwl,s3,by rw [hcv];omega⟩,fun i hi=>?_⟩,fun hk=>?_,fun hk=>(m1 hk).elim,fun _=>noOwnL_win m2,?_⟩
     · rw [hwl] at hi
       rw [hbv,hov i hi]
       have:=s5 (L*sz'+i) (by omega)
       rwa [Nat.add_assoc]
     · rcases hk with hk | hk
       · exact (m1 hk).elim
       · rw [hbv];exact m4 fun e'=>hk (by rw [e'];simp [win])
     · refine repL_congr _ 0 (fun j _ hj=>?_) (repL_win ((H-L)*sz') (by omega) m5)
       rw [hwl] at hj
       have q1:kid w v' j=(w.cell? ⟨blk v',ofs v'+j,none⟩).getD undef:=by rw [hshape];rfl
       have q2:kid w (a.eval x') (j+L*sz')=(w.cell? ⟨blk (a.eval x'),ofs (a.eval x')+(j+L*sz'),none⟩).getD undef:=by rw [s1];rfl
       rw [q1,q2,hbv,hov j (by omega)]
       congr 3
       omega
   · cases h4
 · rename_i r p sz' off len
   simp only at h4
   split at h4
   · rename_i hc
     obtain ⟨rfl,c1,c2,c3⟩:=hc
     cases h4
     simp only [AR,arep] at e1
     obtain ⟨_,t0,ts,g1,g2,g3,o',g4,g5,g6,g7⟩:=e1
     have hres:=hrun _ len _ rfl g4 c1 c2 (by omega)
     refine good_read h hd hlt hres ?_ hK
     have hle:(l.getD 0).toNat≤(hh.getD (len:Int)).toNat:=by omega
     have hle2:(hh.getD (len:Int)).toNat≤len:=by omega
     generalize (l.getD 0).toNat=L at *
     generalize (hh.getD (len:Int)).toNat=H at *
     have hmul:(off+L+(H-L))*sz'≤(off+len)*sz':=Nat.mul_le_mul_right _ (by omega)
     refine ⟨hz,t0,ts,g1,g2,by omega,?_⟩
     refine ⟨if capOf (nodeV w (vlA a r) p)-off=L then o' else o'+L*sz',?_,by omega,?_,fun hlt'=>?_⟩
     · rw [Nat.sub_add_eq]
       split <;> rfl
     · rw [Nat.add_mul]
       split
       · omega
       · omega
     · by_cases h0:off+L=0
       · have hL0:L=0:=by omega
         have hoff:off=0:=by omega
         subst hL0
         subst hoff
         have:=g7 (.inr rfl)
         simp only [Nat.zero_mul,Nat.add_zero] at this ⊢
         split <;> exact this
       · rw [if_neg (by omega),g7 (by omega),Nat.add_mul]
         omega
   · cases h4
 · split at h4
   · rename_i hc
     cases h4
     have hv:=ar_sc e1
     have hb:=run_bounds (P:=P) (w:=w) (len:=0) (cap:=0) (lo:=lo'.map a.eval) (hi:=hi'.map a.eval) (l:=l.getD 0) (h:=hh.getD ((0:Nat):Int))
      (by rcases hl with ⟨q1,q2⟩ | ⟨k,n,q1,q2⟩ <;> rw [q1,q2] <;> simp) (by rcases hr with ⟨q1,q2⟩ | ⟨k,n,q1,q2⟩ <;> rw [q1,q2] <;> simp) (by omega) (by simp only [Int.natCast_zero];omega) (by simp only [Int.natCast_zero];omega)
     have h5:hh.getD ((0:Nat):Int)=0:=hc.2
     rw [hc.1,h5] at hb
     refine good_read h hd hlt (v:=.slice none 0 0) ?_ (ar_mk rfl) hK
     simp only [execOp,hop,Instr.sliceAt,Option.map_none,Sem.run_bind,run_und hu,Result.andThen_ok,Instr.slice,hv,hb,run_szOf hsz,Sem.run_pure]
     simp
   · cases h4
 · cases h4

end
end Go.Mch
namespace Go.Mch

theorem foldl_put:∀ (l:List (Value×Nat)) (k off:Nat) (cells:Array Value),l.map (·.2)=List.range' k l.length→off+k+l.length≤cells.size →
 ∃ out,l.foldl (fun cs (x:Value×Nat)=>cs.setIfInBounds (off+x.2) x.1) cells=out∧out.size=cells.size∧∀ i,out[i]?=if off+k≤i∧i<off+k+l.length then (l[i-(off+k)]?).map (·.1) else cells[i]?
 | [],k,off,cells,_,_=>⟨cells,rfl,rfl,fun i=>by rw [if_neg (by simp only [List.length_nil];omega)]⟩
 | (v,j)::l,k,off,cells,hl,hs=>by
  simp only [List.map_cons,List.length_cons,List.range'_succ,List.cons.injEq] at hl hs
  obtain ⟨rfl,hl⟩:=hl
  obtain ⟨out,h1,h2,h3⟩:=foldl_put l (j+1) off (cells.setIfInBounds (off+j) v) hl (by simp;omega)
  refine ⟨out,h1,by rw [h2];simp,fun i=>?_⟩
  rw [h3]
  by_cases hi:i=off+j
  · subst hi
    rw [if_neg (by omega),if_pos (by simp),Array.getElem?_setIfInBounds_self_of_lt (by omega),Nat.sub_self]
    rfl
  · by_cases h4:off+(j+1)≤i∧i<off+(j+1)+l.length
    · rw [if_pos h4,if_pos (by simp;omega),show i-(off+j)=(i-(off+(j+1)))+1 from by omega]
      simp
    · rw [if_neg h4,if_neg (by simp;omega),Array.getElem?_setIfInBounds_ne (by omega)]

theorem zip_put (cs cells:Array Value) (off:Nat) (h:off+cs.size≤cells.size) :
 ∃ out,cs.zipIdx.foldl (fun x (c,j)=>x.setIfInBounds (off+j) c) cells=out∧out.size=cells.size∧∀ i,out[i]?=if off≤i∧i<off+cs.size then cs[i-off]? else cells[i]?:=by
 obtain ⟨out,h1,h2,h3⟩:=foldl_put cs.toList.zipIdx 0 off cells (by simp [List.zipIdx_map_snd]) (by simpa using h)
 refine ⟨out,?_,h2,fun i=>?_⟩
 · rw [← h1]
   rw [← Array.foldl_toList]
   simp
 · rw [h3]
   simp only [Nat.add_zero,List.length_zipIdx,Array.length_toList]
   split
   · simp only [List.getElem?_zipIdx,Array.getElem?_toList,Option.map_map]
     cases cs[i-off]? <;> rfl
   · rfl

theorem fill_ones:∀ (l:List (Nat×Value)) (k:Nat) (cells:Array Value),l.map (·.1)=List.range' k l.length→(∀ p,p∈l→p.2.cells=#[p.2])→k+l.length≤cells.size →
 ∃ out,Instr.fill (fun i=>some (i*1,1)) cells l=some out∧out.size=cells.size∧∀ i,out[i]?=if k≤i∧i<k+l.length then (l[i-k]?).map (·.2) else cells[i]?
 | [],k,cells,_,_,_=>⟨cells,rfl,rfl,fun i=>by rw [if_neg (by simp only [List.length_nil];omega)]⟩
 | (j,v)::l,k,cells,hl,h1,hs=>by
  simp only [List.map_cons,List.length_cons,List.range'_succ,List.cons.injEq] at hl hs
  obtain ⟨rfl,hl⟩:=hl
  have hv:v.cells=#[v]:=h1 (j,v) (by simp)
  obtain ⟨out,g1,g2,g3⟩:=fill_ones l (j+1) (cells.setIfInBounds j v) hl (fun p hp=>h1 p (by simp [hp])) (by simp;omega)
  refine ⟨out,?_,by rw [g2];simp,fun i=>?_⟩
  · simp only [Instr.fill,Nat.mul_one,hv,List.size_toArray,List.length_cons,List.length_nil]
    rw [if_neg (by simp;omega)]
    simpa using g1
  · rw [g3]
    by_cases hi:i=j
    · subst hi
      rw [if_neg (by omega),if_pos (by simp),Array.getElem?_setIfInBounds_self_of_lt (by omega),Nat.sub_self]
      rfl
    · by_cases h4:j+1≤i∧i<j+1+l.length
      · rw [if_pos h4,if_pos (by simp;omega),show i-j=(i-(j+1))+1 from by omega]
        simp
      · rw [if_neg h4,if_neg (by simp;omega),Array.getElem?_setIfInBounds_ne (by omega)]

section
variable {P:Program} {cx:Cx} {nt:Nat} {Kt:Env→Prop} {o:Oper} {a:Act} {w:World} {e:Env} {d:Nat}

theorem Rel.opds (h:Rel cx nt e a w):∀ (xs:List Opd) (ys:List Operand) {vs:List V},okOpds cx.fm xs ys=true→e.opds xs=some vs →
 vs.length=ys.length∧∀ (g:Nat→Value) (i:Nat),(∀ j,j<ys.length→g (i+j)=(ys.map a.eval).getD j undef)→arepL cx.fm (okR cx (Own e (vlA a) w)) e (vlA a) w g i vs
 | [],[],vs,_,h2=>by
  simp only [Env.opds,Option.some.injEq] at h2
  subst h2
  exact ⟨rfl,fun _ _ _=>trivial⟩
 | x::xs,y::ys,vs,h1,h2=>by
  simp only [okOpds,Bool.and_eq_true] at h1
  simp only [Env.opds] at h2
  cases hx:e.opd x with
  | none=>rw [hx] at h2;cases h2
  | some v =>
   rw [hx] at h2
   simp only [Option.bind_some] at h2
   cases hxs:e.opds xs with
   | none=>rw [hxs] at h2;cases h2
   | some vs' =>
    rw [hxs] at h2
    simp only [Option.map_some,Option.some.injEq] at h2
    subst h2
    obtain ⟨g1,g2⟩:=h.opds xs ys h1.2 hxs
    refine ⟨by simp [g1],fun g i hg=>⟨?_,g2 g (i+1) fun j hj=>?_⟩⟩
    · have:=hg 0 (by simp)
      simp only [Nat.add_zero,List.map_cons,List.getD_cons_zero] at this
      rw [this]
      exact h.opd h1.1 hx
    · have:=hg (j+1) (by simpa using hj)
      simp only [List.map_cons,List.getD_cons_succ] at this
      rw [← this,show i+1+j=i+(j+1) from by omega]
 | [],_::_,_,h1,_=>by simp [okOpds] at h1
 | _::_,[],_,h1,_=>by simp [okOpds] at h1

mutual
theorem still_take (e:Env):∀ (v:V) {t:T},V.still v=some t→e.take v=some (t,e)
 | .val u,t,h=>by
  simp only [V.still] at h
  split at h
  · rename_i hn;cases h;simp [Env.take,hn]
  · cases h
 | .vagg vs,t,h=>by
  simp only [V.still] at h
  obtain ⟨ts,h1,rfl⟩:=Option.map_eq_some_iff.1 h
  simp [Env.take,still_takeL e vs h1]
 | .sref ..,t,h=>by simp [V.still] at h
 | .pref ..,t,h=>by simp [V.still] at h
 | .vtup _,t,h=>by simp [V.still] at h
 | .same _,t,h=>by simp [V.still] at h
 | .vfn _ _,t,h=>by simp [V.still] at h
theorem still_takeL (e:Env):∀ (vs:List V) {ts:List T},V.stillL vs=some ts→e.takeL vs=some (ts,e)
 | [],ts,h=>by simp only [V.stillL,Option.some.injEq] at h;subst h;rfl
 | v::vs,ts,h=>by
  simp only [V.stillL] at h
  obtain ⟨t,h1,h2⟩:=Option.bind_eq_some_iff.1 h
  obtain ⟨us,h3,rfl⟩:=Option.map_eq_some_iff.1 h2
  simp [Env.takeL,still_take e v h1,still_takeL e vs h3]
end

theorem cells_spec (e:Env) {sz:Nat}:∀ (vs:List V) {ts:List T},V.cells sz vs=some ts→∃ us,e.takeL vs=some (us,e)∧us.all (fun t=>t.cells.length == sz&&t.cells.all T.isCell)=true∧us.flatMap T.cells=ts
 | [],_,h=>by simp only [V.cells,Option.some.injEq] at h;subst h;exact ⟨[],rfl,rfl,rfl⟩
 | v::vs,ts,h=>by
  simp only [V.cells] at h
  obtain ⟨t,h1,h2⟩:=Option.bind_eq_some_iff.1 h
  split at h2
  · rename_i hc
    obtain ⟨us,h3,rfl⟩:=Option.map_eq_some_iff.1 h2
    obtain ⟨r,r1,r2,r3⟩:=cells_spec e vs h3
    exact ⟨t::r,by simp [Env.takeL,still_take e v h1,r1],by simp only [List.all_cons,r2,Bool.and_true,hc.2,beq_iff_eq];exact hc.1,by simp [r3]⟩
  · cases h2

theorem good_bsl {ps:List Opd} {ps':Array (Nat×Operand)} {n:Nat} {t el:TypeId} {vs:List V} {ts:List T} {e1:Env} (hN:∀ b,¬cx.N b) (h:Rel cx nt e a w) (hop:o.op=.buildSlice t n ps') (hel:elOf P t=some el) (hsz:szOf P el=some 1)
 (hz:(zeroOf P el).any (fun z=>z.length == 1)=true) (hn:n≤16777216) (hr:ps'.toList.map (·.1)=List.range n) (hps:okOpds cx.fm ps (ps'.toList.map (·.2))=true) (hd:o.dst=some d) (hlt:d<nt)
 (h1:e.opds ps=some vs) (h2:e.takeL vs=some (ts,e1)) (hcell:ts.all T.isCell=true) (hK:Kt (e1.setD (some d) (.val (.mem .own (some 1) ts)))):Good P cx nt Kt o a w:=by
 obtain ⟨g1,g2⟩:=h.opds ps _ hps h1
 have hlen:ps'.toList.length=n:=by have:=congrArg List.length hr;simpa using this
 have hlen2:vs.length=n:=by rw [g1];simpa using hlen
 have g3:=g2 (fun j=>((ps'.toList.map (·.2)).map a.eval).getD j undef) 0 (fun j _=>by rw [Nat.zero_add])
 obtain ⟨vl,k1,⟨us,k2,k3,k4⟩,k5,k6,k7,_⟩:=takeL_sound vs _ 0 nt e (vlA a) h.r h.clr (Nat.le_refl _) (arwL_of h.dom vs _ 0 g3) h2
 have hone:∀ j,j<n→(us.getD j undef).cells=#[us.getD j undef]:=by
  have hq:=srep_val k5 (add_self ..)
  rw [k2] at hq
  simp only [Mch.rep] at hq
  have:∀ (ts:List T) (g:Nat→Value) (i:Nat),ts.all T.isCell=true→repL cx.fm (okR cx (Own (e1.add nt (.val (.tup ts))) vl w)) w g i ts→True:=fun _ _ _ _ _=>trivial
  intro j hj
  have hget:∃ t,ts[j]?=some t:=⟨_,List.getElem?_eq_getElem (by omega)⟩
  obtain ⟨t,ht⟩:=hget
  have hrt:=repL_get ts 0 j hq.2 ht
  have hct:t.isCell=true:=by
   rw [List.all_eq_true] at hcell
   exact hcell t (List.mem_of_getElem? ht)
  have:=(isCell_oneCell hrt hct).2
  simpa [kid] using this
 have hu:=elOf_spec hel
 obtain ⟨iz,hiz⟩:∃ i,P.info? el=some i:=by
  unfold szOf at hsz
  cases hi:P.info? el with
  | none=>rw [hi] at hsz;cases hsz
  | some i=>exact ⟨i,rfl⟩
 have hisz:iz.size=1:=by simpa [szOf,hiz] using hsz
 obtain ⟨z,hzv⟩:∃ z,iz.zero=some z:=by
  unfold zeroOf at hz
  rw [hiz] at hz
  cases hz':iz.zero with
  | none=>simp [hz'] at hz
  | some z=>exact ⟨z,rfl⟩
 generalize hzc:(Array.range (n*1)).map ((if n=0 then #[] else z.cells)[· % (if n=0 then #[] else z.cells).size]!)=cells0
 have hc0:cells0.size=n:=by rw [← hzc];simp
 obtain ⟨out,f1,f2,f3⟩:=fill_ones (ps'.map fun (i,x)=>(i,a.eval x)).toList 0 cells0 (by
  rw [Array.toList_map,List.map_map]
  simp only [List.length_map]
  rw [hlen,← List.range_eq_range',← hr]
  rfl) (fun p hp=>by
  rw [Array.toList_map] at hp
  obtain ⟨q,hq,rfl⟩:=List.mem_map.1 hp
  obtain ⟨j,hj,rfl⟩:=List.getElem_of_mem hq
  have:=hone j (by omega)
  rw [k4 j (by omega)] at this
  simp only [Nat.zero_add,List.map_map,List.getD_eq_getElem?_getD,List.getElem?_map,List.getElem?_eq_getElem hj,Option.map_some,Option.getD_some,Function.comp] at this
  exact this) (by simp only [Array.toList_map,List.length_map,hlen,hc0,Nat.zero_add];exact Nat.le_refl _)
 simp only [Nat.zero_add,Nat.zero_le,true_and,Nat.sub_zero] at f3
 have hal:=k5.alloc (s:=some 1) (v':=.slice (some ⟨w.heap.size,0,none⟩) n n) (arr:=out) (elem:=el) k6 hN k2 (fun j hj=>by
  have hj':j<n:=by omega
  rw [f3,if_pos (by simp only [Array.toList_map,List.length_map,hlen];exact hj'),k4 j (by omega)]
  have hjl:j<ps'.toList.length:=by omega
  simp only [Nat.zero_add,List.map_map,List.getD_eq_getElem?_getD,List.getElem?_map,List.getElem?_eq_getElem hjl,Option.map_some,Option.getD_some,Function.comp,Array.toList_map]) rfl rfl
  ⟨n,rfl,by omega,by omega,Nat.le_refl _⟩ (by simp only [roomN,capOf];omega)
 refine good_make h hd hlt ?_ hal k6 (fun s hs=>by rw [vadd_ne (by omega)];exact k1 s hs) (vadd_self ..) hK
 have hbs:(Instr.buildSlice t n (ps'.map fun (i,x)=>(i,a.eval x))).run P w=.ok (.slice (some ⟨w.heap.size,0,none⟩) n n) (w.alloc (.cells out el)):=by
  have hbig:¬(n*1>2 ^ 24):=by omega
  simp only [Instr.buildSlice,Sem.run_bind,run_und hu,Result.andThen_ok,run_szOf hsz]
  rw [if_neg hbig]
  by_cases hn0:n=0
  · rw [if_pos (by omega)]
    simp only [hn0] at hzc f1
    simp only [Sem.run_bind,Sem.run_pure,Result.andThen_ok,hn0,if_true] at hzc ⊢
    simp only [Nat.zero_mul] at hzc
    rw [hzc,f1]
    simp [newRow]
  · rw [if_neg (by omega)]
    simp only [Sem.run_bind,run_zero hiz hzv,Sem.run_pure,Result.andThen_ok]
    rw [if_neg hn0] at hzc
    rw [hzc,f1]
    simp [newRow]
 simp only [execOp,hop,Sem.run_bind,hbs,Result.andThen_ok,Sem.run_pure]

end
end Go.Mch
namespace Go.Mch

section
variable {P:Program} {cx:Cx} {nt:Nat} {Kt:Env→Prop} {o:Oper} {a:Act} {w:World} {e:Env} {d:Nat}

theorem arepL_seg {fm:Nat→Nat} {ok:K→Nat→Prop} {vl:Vl} {g g' f:Nat→Value} {vs us:List V} {i:Nat} (h:arepL fm ok e vl w g 0 vs) (hu:arepL fm ok e vl w f 0 us) (hl:i+us.length≤vs.length)
 (hg:∀ j,j<vs.length→g' j=if i≤j∧j<i+us.length then f (j-i) else g j):arepL fm ok e vl w g' 0 (vs.take i++us++vs.drop (i+us.length)):=by
 have hs:vs=vs.take i++((vs.drop i).take us.length++vs.drop (i+us.length)):=by
  rw [← List.drop_drop,List.take_append_drop,List.take_append_drop]
 have h':=h
 rw [hs,arepL_append,arepL_append] at h'
 obtain ⟨h1,_,h3⟩:=h'
 have hti:(vs.take i).length=i:=by simp;omega
 have htu:((vs.drop i).take us.length).length=us.length:=by simp;omega
 rw [hti,htu,Nat.zero_add] at h3
 rw [arepL_append,arepL_append]
 refine ⟨⟨arepL_congr _ 0 (fun j _ hj=>?_) h1,?_⟩,?_⟩
 · rw [hti] at hj
   rw [hg j (by omega),if_neg (by omega)]
 · rw [hti,arepL_shift]
   refine arepL_congr us 0 (fun j _ hj=>?_) hu
   rw [hg (j+i) (by omega),if_pos (by omega),Nat.add_sub_cancel]
 · simp only [List.length_append,hti,Nat.zero_add]
   refine arepL_congr _ _ (fun j hj1 hj2=>?_) h3
   simp only [List.length_drop] at hj2
   rw [hg j (by omega),if_neg (by omega)]

def pairs (P:Program) (cx:Cx) (e:Env) (a:Act) (w:World) (place:Nat→Option (Nat×Nat)):List (Nat×Nat×V)→List (Nat×Value)→Prop
 | [],[]=>True
 | (i,n,x)::ps,(j,v)::l=>place j=some (i,n)∧AR cx e a w v x∧pairs P cx e a w place ps l
 | _,_=>False

theorem arep_one {v:Value} {x:V} (h:AR cx e a w v x) (hx:match x with | .vagg _=>False | .vtup _=>False | .val (.agg _)=>False | .val .gone=>False | .val .nul=>False | .val (.tup _)=>False | .val (.set _)=>False | .same _=>False | .vfn _ _=>False | _=>True):v.cells=#[v]:=by
 cases x with
 | val t =>
  cases t with
  | agg ts=>exact hx.elim
  | gone=>exact hx.elim
  | nul=>exact hx.elim
  | tup ts=>exact hx.elim
  | sc x=>exact (isCell_oneCell h.2 rfl).2
  | mem k s ts=>exact (isCell_oneCell h.2 rfl).2
  | fn f caps=>exact (isCell_oneCell h.2 rfl).2
  | set ks=>exact hx.elim
 | sref r p sz off len =>
  simp only [AR,arep] at h
  obtain ⟨_,_,_,_,_,_,o',h,_⟩:=h
  rw [h];rfl
 | pref r p off =>
  simp only [AR,arep] at h
  obtain ⟨_,_,_,_,_,_,h⟩:=h
  rw [h];rfl
 | vagg vs=>exact hx.elim
 | vtup vs=>exact hx.elim
 | same r=>exact hx.elim
 | vfn f r=>exact hx.elim

theorem fill_spec {place:Nat→Option (Nat×Nat)}:∀ (ps:List (Nat×Nat×V)) (l:List (Nat×Value)) (vs out:List V) (cells:Array Value),pairs P cx e a w place ps l→vs.length=cells.size →
 arepL cx.fm (okR cx (Own e (vlA a) w)) e (vlA a) w (fun j=>cells.getD j undef) 0 vs→fillV vs ps=some out →
 ∃ cells',Instr.fill place cells l=some cells'∧out.length=cells'.size∧arepL cx.fm (okR cx (Own e (vlA a) w)) e (vlA a) w (fun j=>cells'.getD j undef) 0 out
 | [],[],vs,out,cells,_,hl,h,hf=>by
  simp only [fillV,Option.some.injEq] at hf
  subst hf
  exact ⟨cells,rfl,hl,h⟩
 | (i,n,x)::ps,(j,v)::l,vs,out,cells,hp,hl,h,hf=>by
  obtain ⟨h1,h2,h3⟩:=hp
  have step:∀ (us:List V),us.length=n→i+n≤vs.length→v.cells.size=us.length→arepL cx.fm (okR cx (Own e (vlA a) w)) e (vlA a) w (fun j=>v.cells.getD j undef) 0 us →
   fillV (vs.take i++us++vs.drop (i+n)) ps=some out→∃ cells',Instr.fill place cells ((j,v)::l)=some cells'∧out.length=cells'.size∧arepL cx.fm (okR cx (Own e (vlA a) w)) e (vlA a) w (fun j=>cells'.getD j undef) 0 out:=by
   intro us hn hin hsz hus hf'
   obtain ⟨c1,g1,g2,g3⟩:=zip_put v.cells cells i (by omega)
   have hseg:=arepL_seg (g':=fun j=>c1.getD j undef) h hus (i:=i) (by omega) (fun j' hj'=>by
    simp only [Array.getD_eq_getD_getElem?]
    rw [g3,hsz]
    split <;> rfl)
   rw [hn] at hseg
   obtain ⟨c2,k1,k2,k3⟩:=fill_spec ps l _ out c1 h3 (by rw [g2,← hl];simp;omega) hseg hf'
   refine ⟨c2,?_,k2,k3⟩
   simp only [Instr.fill,h1]
   rw [if_neg (by simp only [Bool.or_eq_true,decide_eq_true_eq,ne_eq,not_or];omega)]
   rw [g1]
   exact k1
  have one:n=1∧i+n≤vs.length→v.cells=#[v]→fillV (vs.take i++[x]++vs.drop (i+n)) ps=some out→∃ cells',Instr.fill place cells ((j,v)::l)=some cells'∧out.length=cells'.size∧arepL cx.fm (okR cx (Own e (vlA a) w)) e (vlA a) w (fun j=>cells'.getD j undef) 0 out:=by
   intro hc hv hf'
   refine step [x] (by simp [hc.1]) hc.2 (by rw [hv];rfl) ?_ hf'
   rw [hv]
   exact ⟨by simpa using h2,trivial⟩
  cases x with
  | vagg us =>
   simp only [fillV] at hf
   split at hf
   · rename_i hc
     simp only [AR,arep] at h2
     obtain ⟨⟨cs,rfl,hsz⟩,h2⟩:=h2
     refine step us hc.1 hc.2 hsz ?_ hf
     exact arepL_congr us 0 (fun j' _ _=>rfl) h2
   · cases hf
  | vtup us=>simp [fillV] at hf
  | same r=>simp [fillV] at hf
  | vfn f r=>simp [fillV] at hf
  | sref r p sz off len =>
   simp only [fillV] at hf
   split at hf
   · rename_i hc;exact one hc (arep_one h2 trivial) hf
   · cases hf
  | pref r p off =>
   simp only [fillV] at hf
   split at hf
   · rename_i hc;exact one hc (arep_one h2 trivial) hf
   · cases hf
  | val t =>
   cases t with
   | agg ts=>simp [fillV] at hf
   | gone=>simp [fillV] at hf
   | nul=>simp [fillV] at hf
   | tup ts=>simp [fillV] at hf
   | set ks=>simp [fillV] at hf
   | sc y =>
    simp only [fillV] at hf
    split at hf
    · rename_i hc;exact one hc (arep_one h2 trivial) hf
    · cases hf
   | mem k s ts =>
    simp only [fillV] at hf
    split at hf
    · rename_i hc;exact one hc (arep_one h2 trivial) hf
    · cases hf
   | fn f caps =>
    simp only [fillV] at hf
    split at hf
    · rename_i hc;exact one hc (arep_one h2 trivial) hf
    · cases hf
 | [],_::_,_,_,_,h,_,_,_=>h.elim
 | _::_,[],_,_,_,h,_,_,_=>h.elim

theorem Rel.parts (h:Rel cx nt e a w) {t:TypeId} {fs:Array Field} {places:Array (Nat×Nat)} (hu:P.underlying t=some (.struct fs)) (hpl:∀ (j:Nat) (f:Field),fs[j]?=some f→∃ n,szOf P f.type=some n∧places[j]?=some (f.offset,n)) :
 ∀ (xs:List (Nat×Nat×Opd)) (ys:List (Nat×Operand)) {ps:List (Nat×Nat×V)},okParts P cx.fm t xs ys=true→e.parts xs=some ps→pairs P cx e a w (places[·]?) ps (ys.map fun (i,x)=>(i,a.eval x))
 | [],[],ps,_,h2=>by
  simp only [Env.parts,Option.some.injEq] at h2
  subst h2
  trivial
 | (i,n,x)::xs,(j,y)::ys,ps,h1,h2=>by
  simp only [okParts,Bool.and_eq_true] at h1
  simp only [Env.parts] at h2
  cases hx:e.opd x with
  | none=>rw [hx] at h2;cases h2
  | some v =>
   rw [hx] at h2
   simp only [Option.bind_some] at h2
   cases hxs:e.parts xs with
   | none=>rw [hxs] at h2;cases h2
   | some ps' =>
    rw [hxs] at h2
    simp only [Option.map_some,Option.some.injEq] at h2
    subst h2
    refine ⟨?_,h.opd h1.1.2 hx,h.parts hu hpl xs ys h1.2 hxs⟩
    have hf:=h1.1.1
    rw [Option.any_eq_true] at hf
    obtain ⟨f,hf1,hf2⟩:=hf
    simp only [Bool.and_eq_true,beq_iff_eq] at hf2
    obtain ⟨fs',hu',hfj⟩:=fieldOf_spec hf1
    rw [hu] at hu'
    cases hu'
    obtain ⟨m,hm1,hm2⟩:=hpl j f hfj
    rw [hf2.2] at hm1
    cases hm1
    show places[j]?=_
    rw [hm2,hf2.1]
 | [],_::_,_,h1,_=>by simp [okParts] at h1
 | _::_,[],_,h1,_=>by simp [okParts] at h1

theorem Rel.partsA (h:Rel cx nt e a w) {sz:Nat} :
 ∀ (xs:List (Nat×Nat×Opd)) (ys:List (Nat×Operand)) {ps:List (Nat×Nat×V)},okPartsA cx.fm sz xs ys=true→e.parts xs=some ps→pairs P cx e a w (fun i=>some (i*sz,sz)) ps (ys.map fun (i,x)=>(i,a.eval x))
 | [],[],ps,_,h2=>by
  simp only [Env.parts,Option.some.injEq] at h2
  subst h2
  trivial
 | (i,n,x)::xs,(j,y)::ys,ps,h1,h2=>by
  simp only [okPartsA,Bool.and_eq_true,beq_iff_eq] at h1
  simp only [Env.parts] at h2
  cases hx:e.opd x with
  | none=>rw [hx] at h2;cases h2
  | some v =>
   rw [hx] at h2
   simp only [Option.bind_some] at h2
   cases hxs:e.parts xs with
   | none=>rw [hxs] at h2;cases h2
   | some ps' =>
    rw [hxs] at h2
    simp only [Option.map_some,Option.some.injEq] at h2
    subst h2
    refine ⟨?_,h.opd h1.1.2 hx,h.partsA xs ys h1.2 hxs⟩
    rw [h1.1.1.1,h1.1.1.2]
 | [],_::_,_,h1,_=>by simp [okPartsA] at h1
 | _::_,[],_,h1,_=>by simp [okPartsA] at h1

theorem run_placesA {P:Program} {w:World}:∀ (fs:List Field),(∀ f,f∈fs→(szOf P f.type).isSome=true) →
 ∃ places:List (Nat×Nat),(fs.mapM fun f=>(do pure (f.offset,← sizeOf f.type):Sem (Nat×Nat))).run P w=.ok places w∧∀ (j:Nat) (f:Field),fs[j]?=some f→∃ n,szOf P f.type=some n∧places[j]?=some (f.offset,n)
 | [],_=>⟨[],by simp,fun j f hf=>by simp at hf⟩
 | f::fs,h=>by
  obtain ⟨pl,h1,h2⟩:=run_placesA (w:=w) fs (fun f hf=>h f (by simp [hf]))
  obtain ⟨n,hn⟩:=Option.isSome_iff_exists.1 (h f (by simp))
  refine ⟨(f.offset,n)::pl,?_,fun j g hg=>?_⟩
  · simp only [List.mapM_cons,Sem.run_bind,run_szOf hn,Result.andThen_ok,Sem.run_pure,h1]
  · cases j with
    | zero=>simp at hg;subst hg;exact ⟨n,hn,rfl⟩
    | succ j=>exact h2 j g (by simpa using hg)

theorem arepL_scal:∀ (zs:List Value) (g:Nat→Value) (i:Nat),(∀ j,j<zs.length→g (i+j)=zs.getD j undef)→(∀ x,x∈zs→scal x=true)→arepL cx.fm (okR cx (Own e (vlA a) w)) e (vlA a) w g i (zs.map fun z=>V.val (.sc z)):=by
 intro zs
 induction zs with
 | nil=>intros;trivial
 | cons z zs ih =>
  intro g i hg hz
  refine ⟨⟨rfl,by have:=hg 0 (by simp);simpa using this,hz z (by simp)⟩,ih g (i+1) (fun j hj=>?_) (fun x hx=>hz x (by simp [hx]))⟩
  have:=hg (j+1) (by simpa using hj)
  rw [show i+1+j=i+(j+1) from by omega]
  simpa using this

theorem good_buildA {zs:List Value} {ps:List (Nat×Nat×Opd)} {ps':Array (Nat×Operand)} {t el:TypeId} {len sz:Nat} {vps:List (Nat×Nat×V)} {vs:List V} (h:Rel cx nt e a w) (hop:o.op=.build t ps') (hz:(zeroOf P t).any (eqCL zs ·)=true)
 (hu:P.underlying t=some (.array len el)) (hsz:szOf P el=some sz) (hp:okPartsA cx.fm sz ps ps'.toList=true) (hd:o.dst=some d) (hlt:d<nt)
 (h1:e.parts ps=some vps) (h2:fillV (zs.map fun z=>.val (.sc z)) vps=some vs) (hK:Kt (e.setD (some d) (.vagg vs))):Good P cx nt Kt o a w:=by
 obtain ⟨i,z,hi,hzv,hzc,hsc⟩:=zeroOf_spec hz
 have hpairs:=h.partsA (P:=P) ps ps'.toList hp h1
 have hz0:arepL cx.fm (okR cx (Own e (vlA a) w)) e (vlA a) w (fun j=>z.cells.getD j undef) 0 (zs.map fun z=>V.val (.sc z)):=by
  refine arepL_scal zs _ 0 (fun j hj=>?_) hsc
  subst hzc
  simp [Array.getD_eq_getD_getElem?,List.getD_eq_getElem?_getD]
 obtain ⟨cells',k1,k2,k3⟩:=fill_spec (P:=P) vps _ _ vs z.cells hpairs (by rw [← hzc];simp) hz0 h2
 refine good_read (v:=.agg cells') h hd hlt ?_ ?_ hK
 · simp only [execOp,hop,Instr.build,Sem.run_bind,run_zero hi hzv,Result.andThen_ok,run_und hu,run_szOf hsz]
   simp only [Array.toList_map]
   rw [k1]
   simp
 · simp only [AR,arep]
   exact ⟨⟨cells',rfl,k2.symm⟩,arepL_congr vs 0 (fun j _ _=>rfl) k3⟩

theorem good_build {zs:List Value} {ps:List (Nat×Nat×Opd)} {ps':Array (Nat×Operand)} {t:TypeId} {fs:Array Field} {vps:List (Nat×Nat×V)} {vs:List V} (h:Rel cx nt e a w) (hop:o.op=.build t ps') (hz:(zeroOf P t).any (eqCL zs ·)=true)
 (hu:P.underlying t=some (.struct fs)) (hfs:fs.all (fun f=>(szOf P f.type).isSome)=true) (hp:okParts P cx.fm t ps ps'.toList=true) (hd:o.dst=some d) (hlt:d<nt)
 (h1:e.parts ps=some vps) (h2:fillV (zs.map fun z=>.val (.sc z)) vps=some vs) (hK:Kt (e.setD (some d) (.vagg vs))):Good P cx nt Kt o a w:=by
 obtain ⟨i,z,hi,hzv,hzc,hsc⟩:=zeroOf_spec hz
 obtain ⟨places,g1,g2⟩:=run_placesA (P:=P) (w:=w) fs.toList (fun f hf=>by
  rw [Array.all_eq_true'] at hfs
  exact hfs f (by simpa using hf))
 have hpairs:=h.parts (places:=places.toArray) hu (fun j f hf=>by
  obtain ⟨n,k1,k2⟩:=g2 j f (by simpa using hf)
  exact ⟨n,k1,by simpa using k2⟩) ps ps'.toList hp h1
 have hz0:arepL cx.fm (okR cx (Own e (vlA a) w)) e (vlA a) w (fun j=>z.cells.getD j undef) 0 (zs.map fun z=>V.val (.sc z)):=by
  have:∀ (zs:List Value) (g:Nat→Value) (i:Nat),(∀ j,j<zs.length→g (i+j)=zs.getD j undef)→(∀ x,x∈zs→scal x=true)→arepL cx.fm (okR cx (Own e (vlA a) w)) e (vlA a) w g i (zs.map fun z=>V.val (.sc z)):=by
   intro zs
   induction zs with
   | nil=>intros;trivial
   | cons z zs ih =>
    intro g i hg hz
    refine ⟨⟨rfl,by have:=hg 0 (by simp);simpa using this,hz z (by simp)⟩,ih g (i+1) (fun j hj=>?_) (fun x hx=>hz x (by simp [hx]))⟩
    have:=hg (j+1) (by simpa using hj)
    rw [show i+1+j=i+(j+1) from by omega]
    simpa using this
  refine this zs _ 0 (fun j hj=>?_) hsc
  subst hzc
  simp [Array.getD_eq_getD_getElem?,List.getD_eq_getElem?_getD]
 obtain ⟨cells',k1,k2,k3⟩:=fill_spec (P:=P) vps _ _ vs z.cells hpairs (by rw [← hzc];simp) hz0 h2
 refine good_read (v:=.agg cells') h hd hlt ?_ ?_ hK
 · have g1':(fs.mapM fun f=>(do pure (f.offset,← sizeOf f.type):Sem (Nat×Nat))).run P w=.ok places.toArray w:=by
    rw [Array.mapM_eq_mapM_toList]
    simp only [Sem.run_map,g1,Result.andThen_ok]
   simp only [execOp,hop,Instr.build,Sem.run_bind,run_zero hi hzv,Result.andThen_ok,run_und hu]
   rw [g1']
   simp only [Result.andThen_ok,Array.toList_map]
   rw [k1]
   simp
 · simp only [AR,arep]
   exact ⟨⟨cells',rfl,k2.symm⟩,arepL_congr vs 0 (fun j _ _=>rfl) k3⟩

end
end Go.Mch
namespace Go.Mch

section
variable {P:Program} {w:World}

theorem run_app_room {t u ty el:TypeId} {eu:TypeId} {size n m c:Nat} {ad:Addr} {vy:Value} {news:List Value} {w':World} (ht:P.underlying t=some (.slice el)) (hu:P.underlying u=some (.slice eu)) (hs:szOf P el=some size)
 (hlen:(Builtin.lenOf vy).run P w=.ok m w) (hfirst:(Builtin.firstCells size m vy).run P w=.ok news.toArray w) (hroom:n+m≤c) (hst:(storeCells (ad.add (n*size)) news).run P w=.ok () w') :
 (Builtin.append_ #[t,u] ty #[.slice (some ad) n c,vy]).run P w=.ok (.slice (some ad) (n+m) c) w':=by
 simp [Builtin.append_,run_und ht,run_und hu,run_szOf hs,hlen,hroom,hfirst,hst]

theorem run_app_nil {t u ty el:TypeId} {eu:TypeId} {size:Nat} {vy:Value} (ht:P.underlying t=some (.slice el)) (hu:P.underlying u=some (.slice eu)) (hs:szOf P el=some size)
 (hlen:(Builtin.lenOf vy).run P w=.ok 0 w) (hfirst:(Builtin.firstCells size 0 vy).run P w=.ok #[] w) :
 (Builtin.append_ #[t,u] ty #[.slice none 0 0,vy]).run P w=.ok (.slice none 0 0) w:=by
 simp [Builtin.append_,run_und ht,run_und hu,run_szOf hs,hlen,hfirst]

theorem run_app_grow {t u ty el:TypeId} {eu:TypeId} {i:TypeInfo} {z:Value} {n m c:Nat} {ad:Option Addr} {vy:Value} {olds news:List Value} (ht:P.underlying t=some (.slice el)) (hu:P.underlying u=some (.slice eu)) (hi:P.info? el=some i) (hz:i.zero=some z)
 (hlen:(Builtin.lenOf vy).run P w=.ok m w) (hold:(Builtin.firstCells i.size n (.slice ad n c)).run P w.drew=.ok olds.toArray w.drew) (hfirst:(Builtin.firstCells i.size m vy).run P w.drew=.ok news.toArray w.drew)
 (hg:c<n+m) (h63:((n+m:Nat):Int)≤9223372036854775807) (hfit:Builtin.nextslicecap (n+m) c*i.bytes≤281474976710656) :
 (Builtin.append_ #[t,u] ty #[.slice ad n c,vy]).run P w =
  .ok (.slice (some ⟨w.heap.size,0,none⟩) (n+m) (grownCap w (n+m) c el)) (w.drew.alloc (.cells (olds.toArray++news.toArray++Builtin.zeroCells z.cells (grownCap w (n+m) c el-(n+m))) el)):=by
 have hn:¬(n+m≤c):=by omega
 have h63':¬(9223372036854775807<((n:Int)+(m:Int))):=by omega
 have h48':¬(281474976710656<Builtin.nextslicecap (n+m) c*i.bytes):=by omega
 simp [Builtin.append_,run_und ht,run_und hu,sizeOf,typeInfo,zeroValue,hi,hz,hlen,hn,h63',h48',Question.forced,hold,hfirst,newRow,grownCap]
 congr 2
 apply Array.ext'
 simp [List.append_assoc]

end

theorem src_add {fm:Nat→Nat} {ok:K→Nat→Prop} {q0:Nat} {vl:Vl} {w:World} {q:Nat} {t:T} {mv:Bool} {sz:Nat} (hq:q0≤q) {x:V} {v:Value} {e:Env} (h:arw fm ok q0 vl w v x) :
 (e.add q (.val t)).src mv sz x=(e.src mv sz x).map fun y=>(y.1,y.2.add q (.val t)):=by
 cases x with
 | val u =>
  cases u with
  | sc y=>simp only [Env.src];split <;> first | rfl | (rename_i hh;cases hh)
  | mem k s ts =>
   cases s with
   | none=>rfl
   | some sz'=>simp only [Env.src];split <;> rfl
  | _=>rfl
 | sref r p sz' off len =>
  simp only [arw] at h
  have hr:r≠q:=by omega
  have hd:(e.add q (.val t)).del r=(e.del r).add q (.val t):=clear_add (p:=[]) hr
  simp only [Env.src,tree_add hr,hd]
  split
  · split
    · split
      · split <;> rfl
      · split <;> rfl
    · rfl
  · rfl
 | pref r p off=>rfl
 | vagg vs=>rfl
 | vtup vs=>rfl
 | same r=>rfl
 | vfn f r=>rfl

def arrOf (n:Nat) (g:Nat→Value):Array Value:=((List.range n).map g).toArray

theorem arrOf_get {n:Nat} {g:Nat→Value} {i:Nat} (h:i<n):(arrOf n g).getD i undef=g i:=by
 simp [arrOf,Array.getD_eq_getD_getElem?,h]
theorem arrOf_size {n:Nat} {g:Nat→Value}:(arrOf n g).size=n:=by simp [arrOf]
theorem arrOf_toList {n:Nat} {g:Nat→Value}:(arrOf n g).toList=(List.range n).map g:=by simp [arrOf]

theorem rep_row {fm:Nat→Nat} {ok:K→Nat→Prop} {w:World} {g:Nat→Value} {us:List T} (h:repL fm ok w g 0 us):rep fm ok w (.tuple (arrOf us.length g)) (.tup us):=by
 simp only [rep]
 exact ⟨⟨_,rfl,arrOf_size⟩,repL_congr us 0 (fun j _ hj=>by simp only [kid];rw [arrOf_get (by omega)]) h⟩

theorem cnt_row {w:World} {g:Nat→Value} {us:List T} {b:Nat}:cnt w (.tuple (arrOf us.length g)) b (.tup us)=cntL w g b 0 us:=by
 simp only [cnt]
 exact cntL_congr us 0 fun j _ hj=>by simp only [kid];rw [arrOf_get (by omega)]

theorem src_sound {cx:Cx} {e e1:Env} {vl:Vl} {w:World} {q q0 sz:Nat} {mv:Bool} {us:List T} {x:V} {vy:Value} (h:R cx e vl w) (hc:Clr e q) (hq:q0≤q) (hb:arw cx.fm (okR cx (Own e vl w)) q0 vl w vy x)
 (hs:e.src mv sz x=some (us,e1)) (hz:0<sz) :
 ∃ (vl':Vl) (g:Nat→Value) (m c:Nat) (ad:Option Addr),(∀ s,s<q→vl' s=vl s)∧vl' q=.tuple (arrOf us.length g)∧R cx (e1.add q (.val (.tup us))) vl' w∧Clr e1 q∧us.length=m*sz∧vy=.slice ad m c ∧
  (∀ i,i<us.length→∃ a',ad=some a'∧w.cell? (a'.add i)=some (g i)):=by
 unfold Env.src at hs
 split at hs
 · cases hs
   refine ⟨_,fun _=>undef,0,0,none,fun s hs=>vadd_ne (by omega),vadd_self ..,h.addA (hc q (Nat.le_refl _)).1 ⟨rfl,rep_row (us:=[]) trivial⟩,hc,by simp,hb.2.1,fun i hi=>by simp at hi⟩
 · rename_i k sz' ts
   split at hs
   · rename_i hcond
     obtain ⟨hk,rfl,hno,hmod⟩:=hcond
     cases hs
     have h2:=hb.2
     rw [rep_mem] at h2
     obtain ⟨h3,h4,_,_,h5⟩:=h2
     obtain ⟨⟨len,h6,h7,_⟩,h8⟩:=h3
     refine ⟨_,kid w vy,len,capOf vy,_,fun s hs=>vadd_ne (by omega),vadd_self ..,h.addA (hc q (Nat.le_refl _)).1 ⟨by simpa [T.noOwn] using hno,rep_row h5⟩,hc,h7,h6,fun i hi=>⟨_,rfl,?_⟩⟩
     rw [addr_add]
     exact cell_kid (s:=some sz') ⟨⟨len,h6,h7,by omega⟩,h8⟩ hi
   · cases hs
 · rename_i r p sz' off len
   split at hs
   · rename_i s0 ts htr
     split at hs
     · rename_i hcond
       obtain ⟨rfl,hfit⟩:=hcond
       simp only [arw] at hb
       obtain ⟨hrq,o',hv,w1,w2,w3⟩:=hb
       obtain ⟨t0,q1,q2⟩:=tree_some htr
       have hnode:=(focus p t0 _ (srep_val h q1) q2).1
       have hnode':=hnode
       rw [rep_mem] at hnode
       obtain ⟨k1,_,_,_,k5⟩:=hnode
       have hmul:(off+len)*sz'=off*sz'+len*sz':=Nat.add_mul ..
       have hwl:(win ts (off*sz') (len*sz')).length=len*sz':=win_length (by omega)
       have hrw:=repL_win (a:=off*sz') (len*sz') (by omega) k5
       have hcells:∀ i,i<(win ts (off*sz') (len*sz')).length→∃ a',some (⟨blk (nodeV w (vl r) p),o',none⟩:Addr)=some a'∧w.cell? (a'.add i)=some ((fun j=>kid w (nodeV w (vl r) p) (j+off*sz')) i):=fun i hi=>by
        rw [hwl] at hi
        refine ⟨_,rfl,?_⟩
        have hpos:0<len:=by
         rcases Nat.eq_zero_or_pos len with h0 | h0
         · rw [h0,Nat.zero_mul] at hi;omega
         · exact h0
        rw [addr_add,w3 (by omega),Nat.add_assoc,Nat.add_comm (off*sz') i]
        exact cell_kid k1 (by omega)
       split at hs
       · split at hs
         · rename_i hp
           subst hp
           cases hs
           have hm:=h.moveAt htr (hc q (Nat.le_refl _)).1
           have hcl:Clr (e.clear r []) q:=clr_clear hc (by omega)
           have hrf:=hm.refit (t':=.tup (win ts (off*sz') (len*sz'))) (v':=.tuple (arrOf (win ts (off*sz') (len*sz')).length fun j=>kid w (nodeV w (vl r) []) (j+off*sz'))) hcl (by
            have hq:=srep_val hm (add_self ..)
            rw [vadd_self,rep_mem] at hq
            exact rep_row (repL_win (len*sz') (by omega) hq.2.2.2.2)) (fun b=>by
            rw [vadd_self,cnt_row,cnt_own]
            have:=cntL_win (w:=w) (g:=kid w (nodeV w (vl r) [])) (b:=b) (ts:=ts) (a:=off*sz') (len*sz') (by omega)
            omega)
           exact ⟨_,_,len,_,_,fun s hs=>by rw [vadd_ne (by omega),vadd_ne (by omega)],vadd_self ..,hrf,hcl,hwl,hv,hcells⟩
         · cases hs
       · split at hs
         · rename_i hno
           cases hs
           exact ⟨_,_,len,_,_,fun s hs=>vadd_ne (by omega),vadd_self ..,h.addA (hc q (Nat.le_refl _)).1 ⟨by simpa [T.noOwn] using hno,rep_row hrw⟩,hc,hwl,hv,hcells⟩
         · cases hs
     · cases hs
   · cases hs
 · cases hs

theorem R.extend {cx:Cx} {e:Env} {vl:Vl} {w:World} {q sz L:Nat} {ts us:List T} {ys:Array Value} {arr:Array Value} {elem:TypeId} {vx:Value} (h:R cx (e.add q (.val (.tup (.mem .own (some sz) ts::us)))) vl w) (hc:Clr e q)
 (hy:vl q=.tuple (#[vx]++ys)) (hvx:vx=.slice (some ⟨blk vx,ofs vx,none⟩) L (capOf vx)) {m:Nat} (hum:us.length=m*sz) (hroom:L+m≤capOf vx) (harr:w.heap[blk vx]?=some (.cells arr elem)) (hys:ys.size=us.length) (hz:0<sz) :
 R cx (e.add q (.val (.mem .own (some sz) (ts++us)))) (vadd vl q (.slice (some ⟨blk vx,ofs vx,none⟩) (L+m) (capOf vx)))
  (w.setRow (blk vx) (arr.toList.take (ofs vx+L*sz)++ys.toList++arr.toList.drop (ofs vx+L*sz+ys.size)).toArray):=by
 obtain ⟨who,hw⟩:=h.who
 have hr:=srep_val h (add_self ..)
 rw [hy] at hr
 simp only [Mch.rep] at hr
 obtain ⟨⟨_,hyy,hsz⟩,hr⟩:=hr
 cases hyy
 simp only [repL] at hr
 have hk0:kid w (.tuple (#[vx]++ys)) 0=vx:=by
  simp only [kid,Array.getD_eq_getD_getElem?]
  rw [Array.getElem?_append_left (by simp)]
  simp
 have hk1:∀ j,kid w (.tuple (#[vx]++ys)) (j+1)=ys.getD j undef:=fun j=>by
  simp only [kid,Array.getD_eq_getD_getElem?]
  rw [Array.getElem?_append_right (by simp)]
  simp
 obtain ⟨hr1,hr2⟩:=hr
 rw [hk0] at hr1
 have hr2':=(repL_shift us 0 1).1 hr2
 simp only [hk1] at hr2'
 rw [rep_mem] at hr1
 obtain ⟨k1,k2,k3,_,k5⟩:=hr1
 obtain ⟨⟨L',hL',hts,_,_⟩,hcells⟩:=k1
 have hLL:L'=L:=by rw [hvx] at hL';simp only [capOf] at hL';cases hL';rfl
 subst hLL
 obtain ⟨arr',elem',hh,hrm⟩:=k3 rfl
 rw [harr] at hh
 cases hh
 simp only at hrm
 have hcm:(L'+m)*sz≤capOf vx*sz:=Nat.mul_le_mul_right _ hroom
 rw [Nat.add_mul] at hcm
 have hcnt:∀ b,cnt w (vl q) b (.tup (.mem .own (some sz) ts::us))=((if blk vx=b then 1 else 0)+cntL w (kid w vx) b 0 ts)+cntL w (fun j=>ys.getD j undef) b 0 us:=fun b=>by
  rw [hy]
  simp only [cnt,cntL,if_true,hk0]
  rw [cntL_shift us 0 1]
  simp only [hk1]
 have hle:=fun b=>(hw q _ (add_self ..) b).1
 have hz1:∀ b,b=blk vx→cntL w (kid w vx) b 0 ts=0:=fun b hb=>by have h1:=hcnt b;have h2:=hle b;rw [if_pos hb.symm] at h1;omega
 have hz2:∀ b,b=blk vx→cntL w (fun j=>ys.getD j undef) b 0 us=0:=fun b hb=>by have h1:=hcnt b;have h2:=hle b;rw [if_pos hb.symm] at h1;omega
 generalize hnew:(arr.toList.take (ofs vx+L'*sz)++ys.toList++arr.toList.drop (ofs vx+L'*sz+ys.size)).toArray=narr
 have hnsz:narr.size=arr.size:=by
  rw [← hnew];simp;omega
 have hnget:∀ i,narr[i]?=if ofs vx+L'*sz≤i∧i<ofs vx+L'*sz+ys.size then ys[i-(ofs vx+L'*sz)]? else arr[i]?:=fun i=>by
  rw [← hnew]
  simp only [List.getElem?_toArray]
  rw [List.append_assoc,List.getElem?_append]
  have hlt:(arr.toList.take (ofs vx+L'*sz)).length=ofs vx+L'*sz:=by simp;omega
  rw [hlt]
  by_cases h1:i<ofs vx+L'*sz
  · rw [if_pos h1,if_neg (by omega),List.getElem?_take,if_pos h1];simp
  · rw [if_neg h1,List.getElem?_append]
    by_cases h2:i<ofs vx+L'*sz+ys.size
    · rw [if_pos (by simp;omega),if_pos (by omega)];simp
    · rw [if_neg (by simp;omega),if_neg (by omega),List.getElem?_drop]
      simp only [Array.length_toList,Array.getElem?_toList]
      congr 1
      omega
 have hheap:(w.setRow (blk vx) narr).heap[blk vx]?=some (.cells narr elem):=setRow_heap w _ arr narr elem (0,0) harr
 have hsame:∀ b,b<w.heap.size→¬b=blk vx→(w.setRow (blk vx) narr).heap[b]?=w.heap[b]?:=fun b _ hb=>setRow_other w _ b narr hb
 have himm:∀ k b,k≠.own→okR cx (Own (e.add q (.val (.tup (.mem .own (some sz) ts::us)))) vl w) k b→¬b=blk vx:=fun k b hk ho hb=>by
  refine (ho.2.2.2 hk).1 ⟨q,_,add_self ..,?_⟩
  have h1:=hcnt b
  rw [if_pos hb.symm] at h1
  omega
 have hfr1:=frameL hsame himm ts (kid w vx) 0 k5 (fun b hb=>hz1 b hb)
 have hfr2:=frameL hsame himm us (fun j=>ys.getD j undef) 0 hr2' (fun b hb=>hz2 b hb)
 generalize hv':Value.slice (some (⟨blk vx,ofs vx,none⟩:Addr)) (L'+m) (capOf vx)=v'
 have hb':blk v'=blk vx:=by rw [← hv'];rfl
 have ho':ofs v'=ofs vx:=by rw [← hv'];rfl
 have hc':capOf v'=capOf vx:=by rw [← hv'];rfl
 have hkid:∀ i,i<ts.length+us.length→kid (w.setRow (blk vx) narr) v' i=if i<ts.length then kid w vx i else ys.getD (i-ts.length) undef:=fun i hi=>by
  have hkv:kid (w.setRow (blk vx) narr) v' i=((w.setRow (blk vx) narr).cell? ⟨blk vx,ofs vx+i,none⟩).getD undef:=by rw [← hv'];rfl
  rw [hkv]
  simp only [World.cell?,hheap,Option.isSome_none,Bool.false_eq_true,if_false]
  rw [hnget]
  by_cases h1:i<ts.length
  · have hkx:kid w vx i=(w.cell? ⟨blk vx,ofs vx+i,none⟩).getD undef:=by rw [hL'];rfl
    rw [if_neg (by omega),if_pos h1,hkx]
    simp only [World.cell?,harr,Option.isSome_none,Bool.false_eq_true,if_false]
  · rw [if_pos (by omega),if_neg h1,Array.getD_eq_getD_getElem?]
    rw [show ofs vx+i-(ofs vx+L'*sz)=i-ts.length from by omega]
 have hcnt':∀ b,cnt (w.setRow (blk vx) narr) v' b (.mem .own (some sz) (ts++us))=cnt w (vl q) b (.tup (.mem .own (some sz) ts::us)):=fun b=>by
  rw [hcnt,cnt_own,hb',cntL_append,Nat.zero_add,cntL_congr (g':=kid w vx) ts 0 (fun j _ hj=>by rw [hkid j (by omega),if_pos (by omega)]),hfr1.2]
  have:=cntL_shift (w:=w.setRow (blk vx) narr) (g:=kid (w.setRow (blk vx) narr) v') (b:=b) us 0 ts.length
  rw [Nat.zero_add] at this
  rw [this,cntL_congr (g':=fun j=>ys.getD j undef) us 0 (fun j _ hj=>by rw [hkid (j+ts.length) (by omega),if_neg (by omega),Nat.add_sub_cancel]),hfr2.2]
  omega
 refine h.retag (q:=q) (d:=q) (touch:=fun b=>b=blk vx) (add_self ..) hsame (fun b hb=>?_) ?_ ?_ (fun b=>by rw [hcnt'];exact hle b) (fun b hb=>.inl (by rw [← hcnt'];exact hb)) (add_self ..) (fun s' x hs' hx=>?_)
 · rw [hcnt,if_pos hb.symm];omega
 · refine ⟨h.keeps.os,h.keeps.tape,h.keeps.output,by rw [setRow_size];exact h.keeps.size,fun b hb hm=>?_⟩
   by_cases hbn:b=blk vx
   · subst hbn
     rcases (k2 (.inl rfl)).2.1 rfl with h1 | h1
     · omega
     · exact (hm h1).elim
   · rw [setRow_other w _ b narr hbn];exact h.keeps.block b hb hm
 · rw [rep_mem]
   refine ⟨⟨⟨L'+m,by rw [hb',ho',hc',hv'],by rw [List.length_append,Nat.add_mul,hts,hum],hz,by rw [hc'];exact hroom⟩,fun i hi=>?_⟩,fun _=>?_,fun _=>⟨narr,elem,by rw [hb'];exact hheap,by simp only [ho',hc',hnsz];exact hrm⟩,fun hk=>(hk rfl).elim,?_⟩
   · rw [List.length_append] at hi
     rw [hb',ho']
     simp only [World.cell?,hheap,Option.isSome_none,Bool.false_eq_true,if_false]
     rw [Array.getElem?_eq_getElem (by omega)]
     rfl
   · rw [hb']
     obtain ⟨x1,x2,x3,_⟩:=k2 (.inl rfl)
     exact ⟨x1,x2,fun hk=>(by cases hk),fun hk=>(hk rfl).elim⟩
   · have hok:∀ (xs:List T) (g:Nat→Value) (i:Nat),repL cx.fm (okR cx (Own (e.add q (.val (.tup (.mem .own (some sz) ts::us)))) vl w)) (w.setRow (blk vx) narr) g i xs →
      repL cx.fm (okR cx (fun b=>(∃ s u,s≠q∧e.add q (.val (.tup (.mem .own (some sz) ts::us))) s=some (.val u)∧1≤cnt w (vl s) b u)∨1≤cnt (w.setRow (blk vx) narr) v' b (.mem .own (some sz) (ts++us)))) (w.setRow (blk vx) narr) g i xs:=fun xs g i hx =>
      repL_ok (fun k b hk _ ho=>okR_mono (fun hb=>by
       rcases hb with ⟨s,u,_,hu,h1⟩ | h1
       · exact ⟨s,u,hu,h1⟩
       · rw [hcnt'] at h1;exact ⟨q,_,add_self ..,h1⟩) ho) xs g i (fun b _ _ ho=>⟨ho.1,ho.2.1,ho.2.2.1,fun hk=>(hk rfl).elim⟩) hx
     rw [repL_append,Nat.zero_add]
     refine ⟨repL_congr ts 0 (fun j _ hj=>by rw [hkid j (by omega),if_pos (by omega)]) (hok ts _ 0 hfr1.1),?_⟩
     have h9:=(repL_shift (fm:=cx.fm) (ok:=okR cx (fun b=>(∃ s u,s≠q∧e.add q (.val (.tup (.mem .own (some sz) ts::us))) s=some (.val u)∧1≤cnt w (vl s) b u)∨1≤cnt (w.setRow (blk vx) narr) v' b (.mem .own (some sz) (ts++us)))) (w:=w.setRow (blk vx) narr) (g:=kid (w.setRow (blk vx) narr) v') us 0 ts.length).2
     rw [Nat.zero_add] at h9
     refine h9 (repL_congr us 0 (fun j _ hj=>?_) (hok us _ 0 hfr2.1))
     rw [hkid (j+ts.length) (by omega),if_neg (by omega),Nat.add_sub_cancel]
 · rw [add_ne hs'] at hx
   refine ⟨hs',by rw [add_ne hs'];exact hx,fun r hrr=>?_⟩
   have hne:r≠q:=fun e'=>by subst e';rw [(hc r (Nat.le_refl _)).2 s' x hx] at hrr;cases hrr
   exact ⟨hne,hne,by rw [add_ne hne,add_ne hne]⟩

end Go.Mch
namespace Go.Mch

theorem src_frame {e e1:Env} {mv:Bool} {sz:Nat} {x:V} {us:List T} (h:e.src mv sz x=some (us,e1)):e1=e∨∃ r,e1=e.del r:=by
 unfold Env.src at h
 split at h
 · cases h;exact .inl rfl
 · split at h
   · cases h;exact .inl rfl
   · cases h
 · split at h
   · split at h
     · split at h
       · split at h
         · cases h;exact .inr ⟨_,rfl⟩
         · cases h
       · split at h
         · cases h;exact .inl rfl
         · cases h
     · cases h
   · cases h
 · cases h

theorem clr_del {e:Env} {r q:Nat} (h:Clr e q):Clr (e.del r) q:=fun j hj=>by
 have hj':=h j hj
 refine ⟨by simp only [Env.del,Env.kill];split;rfl;rw [hj'.1],fun s x hx=>hj'.2 s x (del_some hx).2.1⟩

theorem clr_src {e e1:Env} {mv:Bool} {sz q:Nat} {x:V} {us:List T} (hc:Clr e q) (h:e.src mv sz x=some (us,e1)):Clr e1 q:=by
 rcases src_frame h with rfl | ⟨r,rfl⟩
 · exact hc
 · exact clr_del hc

section
variable {P:Program} {cx:Cx} {nt:Nat} {Kt:Env→Prop} {o:Oper} {a:Act} {w:World} {e:Env} {d:Nat}

theorem lenOf_slice {ad:Option Addr} {m c:Nat}:(Builtin.lenOf (.slice ad m c)).run P w=.ok m w:=rfl

theorem first_arr {sz m c:Nat} {ad:Option Addr} {g:Nat→Value} {us:List T} (hl:us.length=m*sz) (hc:∀ i,i<us.length→∃ a',ad=some a'∧w.cell? (a'.add i)=some (g i)) :
 (Builtin.firstCells sz m (.slice ad m c)).run P w=.ok (arrOf us.length g).toList.toArray w:=by
 cases ad with
 | none =>
  have h0:us.length=0:=by
   rcases Nat.eq_zero_or_pos us.length with h | h
   · exact h
   · obtain ⟨a',h1,_⟩:=hc 0 h;cases h1
  rw [h0]
  exact run_firstCells_none ..
 | some ad =>
  refine run_firstCells_some w sz m ad m c _ (by simp [arrOf_toList,hl]) fun j v hj=>?_
  rw [arrOf_toList] at hj
  simp only [List.getElem?_map] at hj
  rcases Nat.lt_or_ge j us.length with hlt | hge
  · rw [List.getElem?_range hlt] at hj
    cases hj
    obtain ⟨a',h1,h2⟩:=hc j hlt
    cases h1
    exact h2
  · rw [List.getElem?_eq_none (by simpa using hge)] at hj
    cases hj

theorem fit_bytes {n by_ sz c:Nat} (h:n*sz≤roomy) (hb:by_≤32768*sz) (hg:c<n):Builtin.nextslicecap n c*by_≤281474976710656:=by
 refine growslice_fits hg ?_
 have h1:n*by_≤n*(32768*sz):=Nat.mul_le_mul_left _ hb
 have h2:n*(32768*sz)=32768*(n*sz):=Nat.mul_left_comm ..
 unfold roomy at h
 omega

theorem R.join {q sz:Nat} {ts us:List T} {vl:Vl} {vx:Value} {ys:Array Value} (h:R cx (e.add q (.val (.tup (.mem .own (some sz) ts::us)))) vl w) (hc:Clr e q) (hy:vl q=.tuple (#[vx]++ys)) (hys:ys.size=us.length) :
 R cx (e.add q (.val (.tup (ts++us)))) (vadd vl q (.tuple (arrOf ts.length (kid w vx)++ys))) w:=by
 have hr:=srep_val h (add_self ..)
 rw [hy] at hr
 simp only [Mch.rep] at hr
 obtain ⟨_,hr⟩:=hr
 simp only [repL] at hr
 have hk0:kid w (.tuple (#[vx]++ys)) 0=vx:=by
  simp only [kid,Array.getD_eq_getD_getElem?]
  rw [Array.getElem?_append_left (by simp)]
  simp
 have hk1:∀ j,kid w (.tuple (#[vx]++ys)) (j+1)=ys.getD j undef:=fun j=>by
  simp only [kid,Array.getD_eq_getD_getElem?]
  rw [Array.getElem?_append_right (by simp)]
  simp
 obtain ⟨hr1,hr2⟩:=hr
 rw [hk0,rep_mem] at hr1
 have hr2':=(repL_shift us 0 1).1 hr2
 simp only [hk1] at hr2'
 have ha:∀ j,j<ts.length→kid w (.tuple (arrOf ts.length (kid w vx)++ys)) j=kid w vx j:=fun j hj=>by
  show (arrOf ts.length (kid w vx)++ys).getD j undef=_
  rw [Array.getD_eq_getD_getElem?,Array.getElem?_append_left (by rw [arrOf_size];exact hj),← Array.getD_eq_getD_getElem?,arrOf_get hj]
 have hb:∀ j,kid w (.tuple (arrOf ts.length (kid w vx)++ys)) (j+ts.length)=ys.getD j undef:=fun j=>by
  show (arrOf ts.length (kid w vx)++ys).getD (j+ts.length) undef=_
  rw [Array.getD_eq_getD_getElem?,Array.getElem?_append_right (by rw [arrOf_size];omega),arrOf_size,Nat.add_sub_cancel,← Array.getD_eq_getD_getElem?]
 refine h.refit hc ?_ fun b=>?_
 · simp only [Mch.rep]
   refine ⟨⟨_,rfl,by simp [arrOf_size,hys]⟩,?_⟩
   rw [repL_append]
   refine ⟨repL_congr ts 0 (fun j _ hj=>(ha j (by omega)).symm) hr1.2.2.2.2,?_⟩
   refine (repL_shift us 0 ts.length).2 ?_
   simp only [hb]
   exact hr2'
 · rw [hy]
   simp only [cnt,cntL,if_true,hk0]
   rw [cntL_append,cntL_congr (g':=kid w vx) ts 0 (fun j _ hj=>ha j (by omega)),cntL_shift us 0 ts.length,cntL_shift us 0 1]
   simp only [hb,hk1]
   omega

theorem good_app {mv:Bool} {sz by_:Nat} {x y:Opd} {x' y':Operand} {t u el:TypeId} {p q:V} {z:Option (List T)×Env} {us:List T} {e1:Env} (hN:∀ b,¬cx.N b) (h:Rel cx nt e a w)
 (hop:o.op=.call ⟨.builtin .append,#[x',y'],#[t,u]⟩) (hel:elOf P t=some el) (hsz:szOf P el=some sz) (hzo:(zeroOf P el).any (fun z=>z.length == sz)=true) (hby:byOf P el=some by_) (hb:by_≤32768*sz) (hz:0<sz)
 (hu:isSlice P u=true) (hx:okOpd cx.fm x x'=true) (hy:okOpd cx.fm y y'=true) (hd:o.dst=some d) (hlt:d<nt) (h1:e.opd x=some p) (h2:e.opd y=some q) (h3:e.base sz p=some z) (h4:z.2.src mv sz q=some (us,e1))
 (hl:(z.1.getD []).length+us.length≤roomy) (hcell:us.all T.isCell=true)
 (hK0:z.1=none→us=[]→Kt (e1.setD (some d) (.val (.sc (.slice none 0 0))))) (hK1:z.1=none→us≠[]→Kt (e1.setD (some d) (.val (.mem .own (some sz) us))))
 (hK2:∀ ts,z.1=some ts→Kt (e1.setD (some d) (.val (.mem .own (some sz) (ts++us))))):Good P cx nt Kt o a w:=by
 have hut:=elOf_spec hel
 obtain ⟨eu,heu⟩:=Option.isSome_iff_exists.1 hu
 have huu:=elOf_spec heu
 obtain ⟨i,hi,hisz⟩:∃ i,P.info? el=some i∧i.size=sz:=by
  unfold szOf at hsz
  cases hi:P.info? el with
  | none=>rw [hi] at hsz;cases hsz
  | some i=>rw [hi] at hsz;exact ⟨i,rfl,by simpa using hsz⟩
 have hibt:i.bytes=by_:=by simpa [byOf,hi] using hby
 obtain ⟨zv,hzv⟩:∃ z,i.zero=some z:=by
  unfold zeroOf at hzo
  rw [hi] at hzo
  cases hz':i.zero with
  | none=>simp [hz'] at hzo
  | some z=>exact ⟨z,rfl⟩
 have hex:=h.opd hx h1
 have hey:=h.opd hy h2
 subst hisz
 unfold Env.base at h3
 split at h3
 · -- onto nil
   cases h3
   have hvx:=ar_sc hex
   obtain ⟨vl,g,m,c,ad,g1,g2,g3,g4,g5,g6,g7⟩:=src_sound h.r h.clr (Nat.le_refl _) (arw_of h.dom q _ hey) h4 hz
   simp only [Option.getD_none,List.length_nil,Nat.zero_add] at hl
   rcases Nat.eq_zero_or_pos us.length with h0 | h0
   · have hus:us=[]:=List.length_eq_zero_iff.1 h0
     subst hus
     have hm:m=0:=by
      rcases Nat.eq_zero_or_pos m with hm | hm
      · exact hm
      · have:0<m*i.size:=Nat.mul_pos hm hz
        simp at g5;omega
     subst hm
     have h9:=g3.refit (t':=.sc (.slice none 0 0)) (v':=.slice none 0 0) g4 ⟨rfl,rfl⟩ (fun b=>by simp [cnt])
     refine good_make h hd hlt ?_ h9 g4 (fun s hs=>by rw [vadd_ne (by omega)];exact g1 s hs) (vadd_self ..) (hK0 rfl rfl)
     have hfc:=first_arr (P:=P) (w:=w) (c:=c) g5 g7
     simp only [List.length_nil,arrOf,List.range_zero,List.map_nil] at hfc
     simp only [execOp,hop,resolve,invoke,builtin,List.map_toArray,List.map_cons,List.map_nil,hvx,g6,Sem.run_bind,run_app_nil hut huu hsz (lenOf_slice (w:=w)) hfc,Result.andThen_ok,Sem.run_pure]
     try rfl
   · have hne:us≠[]:=fun e'=>by rw [e'] at h0;simp at h0
     have hm:0<m:=by
      rcases Nat.eq_zero_or_pos m with hm | hm
      · rw [hm,Nat.zero_mul] at g5;omega
      · exact hm
     have hml:m≤us.length:=by rw [g5];exact Nat.le_mul_of_pos_right _ hz
     have hge:=grownCap_ge w (0+m) 0 el
     have hrun:=run_app_grow (P:=P) (w:=w) (ty:=o.type) (n:=0) (m:=m) (c:=0) (ad:=none) (vy:=.slice ad m c) (olds:=[]) (news:=(arrOf us.length g).toList) hut huu hi hzv (lenOf_slice (w:=w)) (run_firstCells_none ..)
      (first_arr (P:=P) (w:=w.drew) (c:=c) g5 g7) (by omega) (by unfold roomy at hl;omega) (fit_bytes (by rw [Nat.zero_add,← g5];exact hl) (by rw [hibt];exact hb) (by omega))
     generalize hmc:grownCap w (0+m) 0 el=gc at hrun hge
     have hal:=g3.drew.alloc (s:=some i.size) (v':=.slice (some ⟨w.heap.size,0,none⟩) (0+m) gc) (arr:=#[]++(arrOf us.length g).toList.toArray++Builtin.zeroCells zv.cells (gc-(0+m))) (elem:=el) g4 hN g2 (fun j hj=>by
      rw [Array.getElem?_append_left (by simp [arrOf_size];omega)]
      have:=arrOf_get (g:=g) hj
      simp only [Array.empty_append,Array.toArray_toList]
      rw [Array.getD_eq_getD_getElem?,Array.getElem?_eq_getElem (by rw [arrOf_size];exact hj)] at this ⊢
      rfl) rfl rfl ⟨0+m,rfl,by rw [g5];simp,hz,hge⟩ (by
      simp only [roomN,capOf,Array.size_append,List.size_toArray,Array.length_toList,arrOf_size,size_zeroCells,g5]
      have hzs:zv.cells.size=i.size:=by
       unfold zeroOf at hzo
       rw [hi] at hzo
       simpa [hzv] using hzo
      rw [hzs]
      have:gc*i.size=m*i.size+(gc-(0+m))*i.size:=by rw [← Nat.add_mul];congr 1;omega
      have e0:([]:List Value).length=0:=rfl
      omega)
     refine good_make h hd hlt ?_ hal g4 (fun s hs=>by rw [vadd_ne (by omega)];exact g1 s hs) (vadd_self ..) (hK1 rfl hne)
     simp only [execOp,hop,resolve,invoke,builtin,List.map_toArray,List.map_cons,List.map_nil,hvx,g6,Sem.run_bind,hrun,Result.andThen_ok,Sem.run_pure]
     try rfl
 · -- onto own memory
   rename_i r pp sz0 off len
   split at h3
   · rename_i sz1 ts e' htake
     split at h3
     · rename_i hs1
       subst hs1
       cases h3
       simp only [Option.getD_some] at hl
       obtain ⟨vl1,g1,g2,g3,g4,g4'⟩:=take_sound _ _ nt e (vlA a) h.r h.clr (Nat.le_refl _) (arw_of h.dom _ _ hex) htake
       have hy1:=arw_gen (vl':=vl1) (fun s hs=>g1 s hs) (fun v t _ ht=>rep_less g4' ht) q _ (arw_of h.dom q _ hey)
       have hsrc:=src_add (q:=nt) (t:=.mem .own (some i.size) ts) (mv:=mv) (sz:=i.size) (Nat.le_refl _) (e:=e') hy1
       rw [h4] at hsrc
       simp only [Option.map_some] at hsrc
       obtain ⟨vl2,g,m,c,ad,k1,k2,k3,k4,k5,k6,k7⟩:=src_sound g3 (g4.add _) (Nat.le_succ _) hy1 hsrc hz
       have hc1:Clr e1 nt:=clr_src g4 h4
       have hvq:vl2 nt=a.eval x':=by rw [k1 nt (by omega),g2]
       have hp:=k3.pair (q1:=nt) (q2:=nt+1) (d:=nt) (t:=.mem .own (some i.size) ts) (ts:=us) (vs:=arrOf us.length g) (e':=e1.add nt (.val (.tup (.mem .own (some i.size) ts::us)))) (by rw [add_ne (by omega)];exact add_self ..) (add_self ..) (by omega) k2
        (fun s x hs hx=>by
         rw [add_ne hs] at hx
         have hsq1:s≠nt+1:=fun e'=>by
          subst e'
          rw [(hc1 (nt+1) (by omega)).1] at hx;cases hx
         refine ⟨hs,hsq1,by rw [add_ne hsq1,add_ne hs];exact hx,fun r hr=>?_⟩
         have hr1:r≠nt:=fun e'=>by subst e';rw [(hc1 r (Nat.le_refl _)).2 s x hx] at hr;cases hr
         have hr2:r≠nt+1:=fun e'=>by subst e';rw [(hc1 (nt+1) (by omega)).2 s x hx] at hr;cases hr
         exact ⟨hr1,by rw [add_ne hr1,add_ne hr2,add_ne hr1]⟩)
        (add_self ..)
       rw [hvq] at hp
       have hv9:∀ s,s<nt→vadd vl2 nt (.tuple (#[a.eval x']++arrOf us.length g)) s=vlA a s:=fun s hs=>by rw [vadd_ne (by omega),k1 s (by omega)];exact g1 s hs
       generalize hvv:vadd vl2 nt (.tuple (#[a.eval x']++arrOf us.length g))=vl at hp hv9
       have hvl:vl nt=.tuple (#[a.eval x']++arrOf us.length g):=by rw [← hvv];exact vadd_self ..
       -- the pointer's own shape
       have hr:=srep_val hp (add_self ..)
       rw [hvl] at hr
       simp only [Mch.rep] at hr
       obtain ⟨_,hr⟩:=hr
       simp only [repL] at hr
       have hk0:kid w (.tuple (#[a.eval x']++arrOf us.length g)) 0=a.eval x':=by
        simp only [kid,Array.getD_eq_getD_getElem?]
        rw [Array.getElem?_append_left (by simp)]
        simp
       obtain ⟨hr1,hr2⟩:=hr
       rw [hk0,rep_mem] at hr1
       obtain ⟨⟨⟨L,hL,hts,_,hLc⟩,hcl⟩,_,hroom,_,_⟩:=hr1
       obtain ⟨arr,elem,harr,hrm⟩:=hroom rfl
       simp only at hrm
       by_cases hfit:L+m≤capOf (a.eval x')
       · have hex':=hp.extend (L:=L) (m:=m) (arr:=arr) (elem:=elem) hc1 hvl hL k5 hfit harr arrOf_size hz
         refine good_make h hd hlt ?_ hex' hc1 (fun s hs=>by rw [vadd_ne (by omega)];exact hv9 s hs) (vadd_self ..) (hK2 ts rfl)
         have hone:∀ v∈(arrOf us.length g).toList,v.oneCell'=true:=fun v hv=>by
          obtain ⟨j,hj,rfl⟩:=List.getElem_of_mem hv
          simp only [Array.length_toList,arrOf_size] at hj
          have hget:us[j]?=some us[j]:=List.getElem?_eq_getElem hj
          have h8:=repL_get us 1 j hr2 hget
          have h9:kid w (.tuple (#[a.eval x']++arrOf us.length g)) (1+j)=g j:=by
           simp only [kid,Array.getD_eq_getD_getElem?]
           rw [Array.getElem?_append_right (by simp)]
           have:=arrOf_get (g:=g) hj
           rw [Array.getD_eq_getD_getElem?] at this
           simp only [List.size_toArray,List.length_cons,List.length_nil,Nat.zero_add,Nat.add_sub_cancel_left]
           exact this
          rw [h9] at h8
          rw [List.all_eq_true] at hcell
          have:=(isCell_oneCell h8 (hcell _ (List.mem_of_getElem? hget))).1
          simpa [arrOf_toList] using this
         have hmul:(L+m)*i.size≤capOf (a.eval x')*i.size:=Nat.mul_le_mul_right _ hfit
         rw [Nat.add_mul] at hmul
         have hst:=run_storeCells_at P (blk (a.eval x')) (ofs (a.eval x')+L*i.size) elem (arrOf us.length g).toList 0 arr w harr (by simp only [Array.length_toList,arrOf_size];omega) hone
         simp only [Nat.add_zero,Array.length_toList] at hst
         have hrun:=run_app_room (P:=P) (w:=w) (ty:=o.type) (n:=L) (m:=m) (c:=capOf (a.eval x')) (ad:=⟨blk (a.eval x'),ofs (a.eval x'),none⟩) (vy:=a.eval y') (news:=(arrOf us.length g).toList) hut huu hsz
          (by rw [k6];exact lenOf_slice) (by rw [k6];exact first_arr k5 k7) hfit (by rw [addr_add];exact hst)
         rw [← hL] at hrun
         simp only [execOp,hop,resolve,invoke,builtin,List.map_toArray,List.map_cons,List.map_nil,Sem.run_bind,Sem.run_pure,Result.andThen_ok,hrun]
       · have hj:=hp.join hc1 hvl arrOf_size
         have hge:=grownCap_ge w (L+m) (capOf (a.eval x')) el
         have hrun:=run_app_grow (P:=P) (w:=w) (ty:=o.type) (n:=L) (m:=m) (c:=capOf (a.eval x')) (ad:=some ⟨blk (a.eval x'),ofs (a.eval x'),none⟩) (vy:=a.eval y') (olds:=(arrOf ts.length (kid w (a.eval x'))).toList) (news:=(arrOf us.length g).toList) hut huu hi hzv
          (by rw [k6];exact lenOf_slice) (by
           refine run_firstCells_some _ i.size L _ L _ _ (by simp [arrOf_toList,hts]) fun j v hj=>?_
           rw [arrOf_toList,List.getElem?_map] at hj
           rcases Nat.lt_or_ge j ts.length with hlt | hge
           · rw [List.getElem?_range hlt] at hj
             cases hj
             rw [addr_add]
             exact cell_kid (s:=some i.size) ⟨⟨L,hL,hts,hz,hLc⟩,hcl⟩ hlt
           · rw [List.getElem?_eq_none (by simpa using hge)] at hj
             cases hj) (by rw [k6];exact first_arr (P:=P) (w:=w.drew) k5 k7) (by omega) (by
           have q1:L≤ts.length:=by rw [hts];exact Nat.le_mul_of_pos_right _ hz
           have q2:m≤us.length:=by rw [k5];exact Nat.le_mul_of_pos_right _ hz
           unfold roomy at hl;omega) (fit_bytes (by rw [Nat.add_mul,← hts,← k5];exact hl) (by rw [hibt];exact hb) (by omega))
         generalize hmc:grownCap w (L+m) (capOf (a.eval x')) el=gc at hrun hge
         have hal:=hj.drew.alloc (s:=some i.size) (v':=.slice (some ⟨w.heap.size,0,none⟩) (L+m) gc) (arr:=(arrOf ts.length (kid w (a.eval x'))).toList.toArray++(arrOf us.length g).toList.toArray++Builtin.zeroCells zv.cells (gc-(L+m))) (elem:=el) hc1 hN (vadd_self ..) (fun j hj=>by
          rw [List.length_append] at hj
          rw [Array.getElem?_append_left (by simp [arrOf_size];omega)]
          simp only [Array.toArray_toList]
          rw [Array.getD_eq_getD_getElem?,Array.getElem?_eq_getElem (by simp [arrOf_size];omega)]
          rfl) rfl rfl ⟨L+m,rfl,by rw [List.length_append,Nat.add_mul,hts,k5],hz,hge⟩ (by
          simp only [roomN,capOf,Array.size_append,List.size_toArray,Array.length_toList,arrOf_size,size_zeroCells,hts,k5]
          have hzs:zv.cells.size=i.size:=by
           unfold zeroOf at hzo
           rw [hi] at hzo
           simpa [hzv] using hzo
          rw [hzs]
          have:gc*i.size=(L+m)*i.size+(gc-(L+m))*i.size:=by rw [← Nat.add_mul];congr 1;omega
          rw [Nat.add_mul] at this
          omega)
         refine good_make h hd hlt ?_ hal hc1 (fun s hs=>by rw [vadd_ne (by omega),vadd_ne (by omega)];exact hv9 s hs) (vadd_self ..) (hK2 ts rfl)
         rw [← hL] at hrun
         simp only [execOp,hop,resolve,invoke,builtin,List.map_toArray,List.map_cons,List.map_nil,Sem.run_bind,Sem.run_pure,Result.andThen_ok,hrun]
     · cases h3
   · cases h3
 · cases h3

end
end Go.Mch
namespace Go.Mch

mutual
theorem frz_noOwn {k:K} (hk:k≠.own):∀ t:T,t.noOwn=true→t.frz k=t
 | .sc _,_=>rfl
 | .gone,_=>rfl
 | .nul,_=>rfl
 | .fn _ _,_=>rfl
 | .mem k' s ts,h=>by
  simp only [T.noOwn,Bool.and_eq_true,bne_iff_ne,ne_eq] at h
  simp only [T.frz,frzL_noOwn hk ts h.2,h.1,if_false]
 | .agg ts,h=>by simp only [T.noOwn] at h;simp only [T.frz,frzL_noOwn hk ts h]
 | .tup ts,h=>by simp only [T.noOwn] at h;simp only [T.frz,frzL_noOwn hk ts h]
theorem frzL_noOwn {k:K} (hk:k≠.own):∀ ts:List T,T.noOwnL ts=true→T.frzL k ts=ts
 | [],_=>rfl
 | t::ts,h=>by
  simp only [T.noOwnL,Bool.and_eq_true] at h
  simp only [T.frzL,frz_noOwn hk t h.1,frzL_noOwn hk ts h.2]
end

theorem frzL_length {k:K}:∀ ts:List T,(T.frzL k ts).length=ts.length
 | []=>rfl
 | t::ts=>by simp [T.frzL,frzL_length ts]

mutual
theorem noOwn_frz {fm:Nat→Nat} {ok:K→Nat→Prop} {w:World} {k:K} (hk:k≠.own):∀ (t:T) (v:Value),rep fm ok w v t→(t.frz k).noOwn=true
 | .sc _,_,_=>rfl
 | .gone,_,_=>rfl
 | .nul,_,_=>rfl
 | .fn f caps,v,h=>by
  simp only [rep] at h
  simpa [T.frz,T.noOwn] using h.2.1
 | .mem k' s ts,v,h=>by
  rw [rep_mem] at h
  simp only [T.frz,T.noOwn,Bool.and_eq_true,bne_iff_ne,ne_eq]
  refine ⟨?_,noOwnL_frz hk ts _ 0 h.2.2.2.2⟩
  split
  · exact hk
  · rename_i hn;exact hn
 | .agg ts,v,h=>by
  simp only [rep] at h
  simpa [T.frz,T.noOwn] using noOwnL_frz hk ts _ 0 h.2
 | .tup ts,v,h=>by
  simp only [rep] at h
  simpa [T.frz,T.noOwn] using noOwnL_frz hk ts _ 0 h.2
 | .set _,_,_=>rfl
theorem noOwnL_frz {fm:Nat→Nat} {ok:K→Nat→Prop} {w:World} {k:K} (hk:k≠.own):∀ (ts:List T) (g:Nat→Value) (i:Nat),repL fm ok w g i ts→T.noOwnL (T.frzL k ts)=true
 | [],_,_,_=>rfl
 | t::ts,g,i,h=>by
  simp only [repL] at h
  simp only [T.frzL,T.noOwnL,noOwn_frz hk t _ h.1,noOwnL_frz hk ts g (i+1) h.2,Bool.and_self]
end

mutual
theorem rep_frz {fm:Nat→Nat} {ok ok':K→Nat→Prop} {w:World} {k:K} (hk:k≠.own) (himm:∀ k' b,k'≠.own→ok k' b→ok' k' b) :
 ∀ (t:T) (v:Value),(∀ b,1≤cnt w v b t→ok .own b→ok' k b)→rep fm ok w v t→rep fm ok' w v (t.frz k)
 | .sc _,_,_,h=>h
 | .gone,_,_,_=>trivial
 | .nul,_,_,h=>h
 | .fn f caps,v,_,h=>by
  simp only [rep,T.frz] at h ⊢
  exact ⟨h.1,h.2.1,repL_ok (fun k b hk _=>himm k b hk) caps _ 0 (fun b hb=>by rw [cntL_noOwn w _ b caps 0 h.2.1] at hb;omega) h.2.2⟩
 | .agg ts,v,ho,h=>by
  simp only [rep,cnt,T.frz] at h ho ⊢
  exact ⟨by rw [frzL_length];exact h.1,repL_frz hk himm ts _ 0 ho h.2⟩
 | .tup ts,v,ho,h=>by
  simp only [rep,cnt,T.frz] at h ho ⊢
  exact ⟨by rw [frzL_length];exact h.1,repL_frz hk himm ts _ 0 ho h.2⟩
 | .set _,_,_,_=>trivial
 | .mem k' s ts,v,ho,h=>by
  have hno:=noOwnL_frz (fm:=fm) (ok:=ok) (w:=w) hk ts (kid w v) 0 (by rw [rep_mem] at h;exact h.2.2.2.2)
  simp only [T.frz]
  rw [rep_mem,frzL_length]
  rw [rep_mem] at h
  obtain ⟨h1,h2,h3,h4,h5⟩:=h
  by_cases hkk:k'=.own
  · subst hkk
    rw [if_pos rfl]
    simp only [cnt_own] at ho
    exact ⟨h1,fun _=>ho _ (by simp) (h2 (.inl rfl)),fun hh=>(hk hh).elim,fun _=>hno,repL_frz hk himm ts _ 0 (fun b hb=>ho b (by omega)) h5⟩
  · rw [if_neg hkk]
    refine ⟨h1,fun hh=>?_,fun hh=>(hkk hh).elim,fun _=>hno,repL_frz hk himm ts _ 0 (fun b hb=>by rw [cntL_noOwn w _ b ts 0 (h4 hkk)] at hb;omega) h5⟩
    rcases hh with hh | hh
    · exact (hkk hh).elim
    · refine himm k' _ hkk (h2 (.inr fun e'=>hh (by rw [e'];rfl)))
theorem repL_frz {fm:Nat→Nat} {ok ok':K→Nat→Prop} {w:World} {k:K} (hk:k≠.own) (himm:∀ k' b,k'≠.own→ok k' b→ok' k' b) :
 ∀ (ts:List T) (g:Nat→Value) (i:Nat),(∀ b,1≤cntL w g b i ts→ok .own b→ok' k b)→repL fm ok w g i ts→repL fm ok' w g i (T.frzL k ts)
 | [],_,_,_,_=>trivial
 | t::ts,g,i,ho,h=>by
  simp only [repL,cntL,T.frzL] at h ho ⊢
  exact ⟨rep_frz hk himm t _ (fun b hb=>ho b (by omega)) h.1,repL_frz hk himm ts g (i+1) (fun b hb=>ho b (by omega)) h.2⟩
end

theorem freeze_some {e e':Env} {k:K} {s:Nat} (h:e.freeze k s=some e'):∃ t,e s=some (.val t)∧e' s=some (.val (t.frz k))∧∀ x y,x≠s→e' x=some y→e x=some y∧y.hits s []=false:=by
 unfold Env.freeze at h
 split at h
 · rename_i t ht
   cases h
   refine ⟨t,ht,by simp,fun x y hx hy=>?_⟩
   simp only [if_neg hx,Env.kill] at hy
   cases hex:e x with
   | none=>rw [hex] at hy;cases hy
   | some z =>
    rw [hex] at hy
    simp only at hy
    split at hy
    · cases hy
    · rename_i hh
      cases hy
      exact ⟨rfl,by simpa using hh⟩
 · cases h

theorem R.freeze {cx:Cx} {e e':Env} {vl:Vl} {w:World} {k:K} {s:Nat} (h:R cx e vl w) (hN:∀ b,¬cx.N b) (hk:k≠.own) (hm:k=.fresh→∀ b,¬cx.M b) (hf:e.freeze k s=some e') :
 R cx e' vl w∧(∀ b,Own e' vl w b→Own e vl w b)∧∀ x,e x=none→e' x=none:=by
 have hf0:=hf
 obtain ⟨t,h1,h2,h3⟩:=freeze_some hf
 have hrep:=srep_val h h1
 have hno:=noOwn_frz hk t (vl s) hrep
 obtain ⟨who,hw⟩:=h.who
 refine ⟨?_,?_,fun x hx=>?_⟩
 · have hr:=h.retag (e':=e') (q:=s) (d:=s) (t:=t) (t':=t.frz k) (v':=vl s) (touch:=fun _=>False) h1 (fun _ _ _=>rfl) (fun _ h=>h.elim) h.keeps ?_ (fun b=>by rw [cnt_noOwn _ _ _ _ hno];omega) (fun b hb=>by rw [cnt_noOwn _ _ _ _ hno] at hb;omega) h2
    (fun x y hx hy=>⟨hx,(h3 x y hx hy).1,fun r hr=>?_⟩)
   · refine hr.congr fun x y hy=>?_
     by_cases hx:x=s
     · subst hx;rw [vadd_self]
     · rw [vadd_ne hx]
   · refine rep_frz hk (fun k' b hk' ho=>⟨ho.1,ho.2.1,ho.2.2.1,fun _=>⟨fun h4=>?x1,hN b⟩⟩) t (vl s) (fun b hb ho=>⟨ho.1,fun hh=>(hk hh).elim,fun hh=>?x2,fun _=>⟨fun h4=>?x3,hN b⟩⟩) hrep
     case x1 =>
      rcases h4 with ⟨s',u,_,hu,h5⟩ | h5
      · exact (ho.2.2.2 hk').1 ⟨s',u,hu,h5⟩
      · rw [cnt_noOwn _ _ _ _ hno] at h5;omega
     case x2 =>
      rcases ho.2.1 rfl with h4 | h4
      · exact h4
      · exact (hm hh b h4).elim
     case x3 =>
      rcases h4 with ⟨s',u,hs',hu,h5⟩ | h5
      · exact hs' (((hw s' u hu b).2 h5).symm.trans ((hw s t h1 b).2 hb))
      · rw [cnt_noOwn _ _ _ _ hno] at h5;omega
   · have hne:r≠s:=fun e1=>by subst e1;rw [(h3 x y hx hy).2] at hr;cases hr
     refine ⟨hne,hne,?_⟩
     obtain ⟨u,hu⟩:=h.root (h3 x y hx hy).1 hr
     rw [hu]
     simp only [Env.freeze,h1,Option.some.injEq] at hf0
     rw [← hf0]
     simp [hne,Env.kill,hu,V.hits]
 · rintro b ⟨x,u,hu,h4⟩
   by_cases hx:x=s
   · subst hx
     rw [h2] at hu
     cases hu
     rw [cnt_noOwn _ _ _ _ hno] at h4;omega
   · exact ⟨x,u,(h3 x _ hx hu).1,h4⟩
 · cases hx':e' x with
   | none=>rfl
   | some y =>
    by_cases hs:x=s
    · subst hs;rw [h1] at hx;cases hx
    · rw [(h3 x y hs hx').1] at hx;cases hx

def Env.freezeIn (e:Env) (k:K) (s:Nat):Option Env :=
 match e s with
 | some (.val (.mem .own sz ts))=>some (fun x=>if x=s then some (.val (.mem .own sz (T.frzL k ts))) else e.kill s [] x)
 | _=>none

theorem freezeIn_some {e e':Env} {k:K} {s:Nat} (h:e.freezeIn k s=some e'):∃ sz ts,e s=some (.val (.mem .own sz ts))∧e' s=some (.val (.mem .own sz (T.frzL k ts)))∧∀ x y,x≠s→e' x=some y→e x=some y∧y.hits s []=false:=by
 unfold Env.freezeIn at h
 split at h
 · rename_i sz ts ht
   cases h
   refine ⟨sz,ts,ht,by simp,fun x y hx hy=>?_⟩
   simp only [if_neg hx,Env.kill] at hy
   cases hex:e x with
   | none=>rw [hex] at hy;cases hy
   | some z =>
    rw [hex] at hy
    simp only at hy
    split at hy
    · cases hy
    · rename_i hh
      cases hy
      exact ⟨rfl,by simpa using hh⟩
 · cases h

theorem R.freezeIn {cx:Cx} {e e':Env} {vl:Vl} {w:World} {k:K} {s:Nat} (h:R cx e vl w) (hN:∀ b,¬cx.N b) (hk:k≠.own) (hm:k=.fresh→∀ b,¬cx.M b) (hf:e.freezeIn k s=some e') :
 R cx e' vl w∧∀ x,e x=none→e' x=none:=by
 have hf0:=hf
 obtain ⟨sz,ts,h1,h2,h3⟩:=freezeIn_some hf
 have hrep:=srep_val h h1
 have hrep':=hrep
 rw [rep_mem] at hrep'
 have hno:T.noOwnL (T.frzL k ts)=true:=noOwnL_frz hk ts _ 0 hrep'.2.2.2.2
 have hcnt:∀ b,cnt w (vl s) b (.mem .own sz (T.frzL k ts))=if blk (vl s)=b then 1 else 0:=fun b=>by
  rw [cnt_own,cntL_noOwn w _ b _ 0 hno];rfl
 have hle:∀ b,cnt w (vl s) b (.mem .own sz (T.frzL k ts))≤cnt w (vl s) b (.mem .own sz ts):=fun b=>by
  rw [hcnt,cnt_own];omega
 obtain ⟨who,hw⟩:=h.who
 have hone:∀ b,blk (vl s)=b→cntL w (kid w (vl s)) b 0 ts=0:=fun b hb=>by
  have:=(hw s _ h1 b).1
  rw [cnt_own,if_pos hb] at this
  omega
 refine ⟨?_,fun x hx=>?_⟩
 · have hr:=h.retag (e':=e') (q:=s) (d:=s) (t:=.mem .own sz ts) (t':=.mem .own sz (T.frzL k ts)) (v':=vl s) (touch:=fun _=>False) h1 (fun _ _ _=>rfl) (fun _ h=>h.elim) h.keeps ?_ (fun b=>Nat.le_trans (hle b) (hw s _ h1 b).1)
    (fun b hb=>.inl (Nat.le_trans hb (hle b))) h2 (fun x y hx hy=>⟨hx,(h3 x y hx hy).1,fun r hr=>?_⟩)
   · refine hr.congr fun x y hy=>?_
     by_cases hx:x=s
     · subst hx;rw [vadd_self]
     · rw [vadd_ne hx]
   · rw [rep_mem,frzL_length]
     obtain ⟨g1,g2,g3,g4,g5⟩:=hrep'
     have hown':∀ b,((∃ s' u,s'≠s∧e s'=some (.val u)∧1≤cnt w (vl s') b u)∨1≤cnt w (vl s) b (.mem .own sz (T.frzL k ts)))→Own e vl w b:=by
      rintro b (⟨s',u,_,hu,h5⟩ | h5)
      · exact ⟨s',u,hu,h5⟩
      · exact ⟨s,_,h1,Nat.le_trans h5 (hle b)⟩
     refine ⟨g1,fun _=>?_,g3,fun hh=>(hh rfl).elim,repL_frz hk (fun k' b hk' ho=>⟨ho.1,ho.2.1,ho.2.2.1,fun _=>⟨fun h4=>?x1,hN b⟩⟩) ts _ 0 (fun b hb ho=>⟨ho.1,fun hh=>(hk hh).elim,fun hh=>?x2,fun _=>⟨fun h4=>?x3,hN b⟩⟩) g5⟩
     · have:=g2 (.inl rfl)
       exact ⟨this.1,this.2.1,this.2.2.1,fun hh=>(hh rfl).elim⟩
     case x1=>exact (ho.2.2.2 hk').1 (hown' b h4)
     case x2 =>
      rcases ho.2.1 rfl with h4 | h4
      · exact h4
      · exact (hm hh b h4).elim
     case x3 =>
      rcases h4 with ⟨s',u,hs',hu,h5⟩ | h5
      · exact hs' (((hw s' u hu b).2 h5).symm.trans ((hw s _ h1 b).2 (by rw [cnt_own];omega)))
      · rw [hcnt] at h5
        split at h5
        · rename_i hb'
          have:=hone b hb'
          omega
        · omega
   · have hne:r≠s:=fun e1=>by subst e1;rw [(h3 x y hx hy).2] at hr;cases hr
     refine ⟨hne,hne,?_⟩
     obtain ⟨u,hu⟩:=h.root (h3 x y hx hy).1 hr
     rw [hu]
     simp only [Env.freezeIn,h1,Option.some.injEq] at hf0
     rw [← hf0]
     simp [hne,Env.kill,hu,V.hits]
 · cases hx':e' x with
   | none=>rfl
   | some y =>
    by_cases hs:x=s
    · subst hs;rw [h1] at hx;cases hx
    · rw [(h3 x y hs hx').1] at hx;cases hx

section
variable {P:Program} {cx:Cx} {nt:Nat} {Kt:Env→Prop} {o:Oper} {a:Act} {w:World} {e:Env} {d:Nat}

theorem Rel.freeze {k:K} {s:Nat} {e':Env} (h:Rel cx nt e a w) (hN:∀ b,¬cx.N b) (hk:k≠.own) (hm:k=.fresh→∀ b,¬cx.M b) (hf:e.freeze k s=some e'):Rel cx nt e' a w:=by
 obtain ⟨h1,_,h3⟩:=h.r.freeze hN hk hm hf
 exact ⟨h1,fun j hj=>h3 j (h.dom j hj),h.size,h.defers⟩

theorem Rel.freezeIn {k:K} {s:Nat} {e':Env} (h:Rel cx nt e a w) (hN:∀ b,¬cx.N b) (hk:k≠.own) (hm:k=.fresh→∀ b,¬cx.M b) (hf:e.freezeIn k s=some e'):Rel cx nt e' a w:=by
 obtain ⟨h1,h3⟩:=h.r.freezeIn hN hk hm hf
 exact ⟨h1,fun j hj=>h3 j (h.dom j hj),h.size,h.defers⟩

theorem caps_spec {k:K} (hN:∀ b,¬cx.N b) (hk:k≠.own) (hm:k=.fresh→∀ b,¬cx.M b):∀ (xs:List Opd) (ys:List Operand) (e:Env) {ts:List T} {e':Env},Rel cx nt e a w→okOpds cx.fm xs ys=true→Env.caps k e xs=some (ts,e') →
 Rel cx nt e' a w∧(∀ b,Own e' (vlA a) w b→Own e (vlA a) w b)∧T.noOwnL ts=true∧ts.length=ys.length∧∀ g i,(∀ j,j<ys.length→g (i+j)=a.eval (ys.getD j (.const undef)))→repL cx.fm (okR cx (Own e' (vlA a) w)) w g i ts
 | [],[],e,ts,e',h,_,hc=>by
  simp only [Env.caps] at hc
  cases hc
  exact ⟨h,fun _ h=>h,rfl,rfl,fun _ _ _=>trivial⟩
 | x::xs,y::ys,e,ts,e',h,ho,hc=>by
  simp only [okOpds,Bool.and_eq_true] at ho
  simp only [Env.caps] at hc
  cases hx:e.opd x with
  | none=>rw [hx] at hc;cases hc
  | some v =>
   rw [hx] at hc
   simp only [Option.bind_some] at hc
   have har:=h.opd ho.1 hx
   have fin:∀ (e1:Env) (t:T) (ts':List T),Rel cx nt e1 a w→(∀ b,Own e1 (vlA a) w b→Own e (vlA a) w b)→t.noOwn=true→Mch.rep cx.fm (okR cx (Own e1 (vlA a) w)) w (a.eval y) t→Env.caps k e1 xs=some (ts',e')→ts=t::ts' →
    Rel cx nt e' a w∧(∀ b,Own e' (vlA a) w b→Own e (vlA a) w b)∧T.noOwnL ts=true∧ts.length=(y::ys).length∧∀ g i,(∀ j,j<(y::ys).length→g (i+j)=a.eval ((y::ys).getD j (.const undef)))→repL cx.fm (okR cx (Own e' (vlA a) w)) w g i ts:=by
    intro e1 t ts' r1 o1 n1 p1 c1 hts
    obtain ⟨q1,q2,q3,q4,q5⟩:=caps_spec hN hk hm xs ys e1 r1 ho.2 c1
    subst hts
    refine ⟨q1,fun b hb=>o1 b (q2 b hb),by simp [T.noOwnL,n1,q3],by simp [q4],fun g i hg=>⟨?_,q5 g (i+1) fun j hj=>?_⟩⟩
    · have:=hg 0 (by simp)
      simp only [Nat.add_zero,List.getD_cons_zero] at this
      rw [this]
      exact rep_less q2 p1
    · have:=hg (j+1) (by simpa using hj)
      simp only [List.getD_cons_succ] at this
      rw [← this,show i+1+j=i+(j+1) from by omega]
   split at hc
   · rename_i k' us
     split at hc
     · rename_i hcond
       cases hcc:Env.caps k e xs with
       | none=>rw [hcc] at hc;cases hc
       | some z =>
        rw [hcc] at hc
        cases hc
        exact fin e _ _ h (fun _ h=>h) har.1 har.2 hcc rfl
     · cases hc
   · rename_i r
     cases hfz:e.freeze k r with
     | none=>rw [hfz] at hc;cases hc
     | some e1 =>
      rw [hfz] at hc
      simp only [Option.bind_some] at hc
      have hr1:=h.freeze hN hk hm hfz
      obtain ⟨_,ho1,_⟩:=h.r.freeze hN hk hm hfz
      split at hc
      · rename_i k' us hus
        cases hcc:Env.caps k e1 xs with
        | none=>rw [hcc] at hc;cases hc
        | some z =>
         rw [hcc] at hc
         cases hc
         obtain ⟨t0,f1,f2,_⟩:=freeze_some hfz
         rw [hus] at f2
         simp only [Option.some.injEq,V.val.injEq] at f2
         have hrt:=srep_val hr1.r hus
         have hno:(T.mem k' none us).noOwn=true:=by
          have hn:=noOwn_frz hk t0 (vlA a r) (srep_val h.r f1)
          rw [← f2] at hn
          exact hn
         have hval:a.eval y=vlA a r:=by
          simp only [AR,arep] at har
          obtain ⟨_,_,_,_,_,_,hv⟩:=har
          rw [rep_mem] at hrt
          have:=hrt.1.1
          simp only at this
          rw [hv,this]
          simp [nodeV,blk,ofs]
         exact fin e1 _ _ hr1 ho1 hno (by rw [hval];exact hrt) hcc rfl
      · cases hc
   · cases hc
 | [],_::_,_,_,_,_,h,_=>by simp [okOpds] at h
 | _::_,[],_,_,_,_,h,_=>by simp [okOpds] at h

theorem good_fnc {k:K} {f g:Nat} {xs:List Opd} {ys:Array Operand} {ts:List T} {e1:Env} (hN:∀ b,¬cx.N b) (hk:k≠.own) (hm:k=.fresh→∀ b,¬cx.M b) (h:Rel cx nt e a w) (hop:o.op=.makeFunc (.func g) #[] ys) (hfm:cx.fm f=g) (ho:okOpds cx.fm xs ys.toList=true)
 (hd:o.dst=some d) (hlt:d<nt) (hc:Env.caps k e xs=some (ts,e1)) (hK:Kt (e1.setD (some d) (.val (.fn f ts)))):Good P cx nt Kt o a w:=by
 obtain ⟨h1,_,h3,h4,h5⟩:=caps_spec hN hk hm xs ys.toList e h ho hc
 refine good_read (v:=.func (.func g) #[] (ys.map a.eval)) (x:=.val (.fn f ts)) h1 hd hlt ?_ ⟨by simpa [T.noOwn] using h3,?_⟩ hK
 · simp [execOp,hop,Instr.makeFunc]
 · simp only [Mch.rep]
   refine ⟨⟨_,by rw [hfm],by simpa using h4.symm⟩,h3,h5 _ 0 fun j hj=>?_⟩
   simp only [Array.length_toList] at hj
   simp [kid,Array.getD_eq_getD_getElem?,hj]

theorem good_fncl {f g r:Nat} {x:Opd} {ys:Array Operand} {v:V} (h:Rel cx nt e a w) (hop:o.op=.makeFunc (.func g) #[] ys) (hfm:cx.fm f=g) (ho:okOpds cx.fm [x] ys.toList=true)
 (hd:o.dst=some d) (hlt:d<nt) (h1:e.opd x=some v) (h2:e.vcap v=some r) (hK:Kt (e.setD (some d) (.vfn f r))):Good P cx nt Kt o a w:=by
 cases hys:ys.toList with
 | nil=>rw [hys] at ho;simp [okOpds] at ho
 | cons y l =>
  cases l with
  | cons=>rw [hys] at ho;simp [okOpds] at ho
  | nil =>
   rw [hys] at ho
   simp only [okOpds,Bool.and_eq_true] at ho
   have har:=h.opd ho.1 h1
   unfold Env.vcap at h2
   split at h2
   · rename_i r'
     split at h2
     · rename_i ts htr
       cases h2
       obtain ⟨t0,f1,f2⟩:=tree_some htr
       simp only [T.at,Option.some.injEq] at f2
       subst f2
       have hrt:=srep_val h.r f1
       have hval:a.eval y=vlA a r:=by
        simp only [AR,arep] at har
        obtain ⟨_,_,_,_,_,_,hv⟩:=har
        rw [rep_mem] at hrt
        have:=hrt.1.1
        simp only at this
        rw [hv,this]
        simp [nodeV,blk,ofs]
       have hya:ys=#[y]:=by
        apply Array.toList_inj.1
        rw [hys]
       refine good_read (v:=.func (.func g) #[] (ys.map a.eval)) (x:=.vfn f r) h hd hlt ?_ ?_ hK
       · simp [execOp,hop,Instr.makeFunc]
       · simp only [AR,arep]
         refine ⟨?_,ts,f1⟩
         rw [hya,hfm]
         simp [hval]
     · cases h2
   · cases h2

end
end Go.Mch
namespace Go.Mch

mutual
theorem ery_noOwn {k:K} (hk:k≠.own):∀ t:T,(t.ery k).noOwn=true
 | .sc _=>rfl
 | .gone=>rfl
 | .nul=>rfl
 | .fn f caps=>by simpa [T.ery,T.noOwn] using eryL_noOwn hk caps
 | .mem k' s ts=>by simp [T.ery,T.noOwn,hk,eryL_noOwn hk ts]
 | .agg ts=>by simpa [T.ery,T.noOwn] using eryL_noOwn hk ts
 | .tup ts=>by simpa [T.ery,T.noOwn] using eryL_noOwn hk ts
 | .set _=>rfl
theorem eryL_noOwn {k:K} (hk:k≠.own):∀ ts:List T,T.noOwnL (T.eryL k ts)=true
 | []=>rfl
 | t::ts=>by simp [T.eryL,ery_noOwn hk t,eryL_noOwn hk ts]
end

theorem eryL_length {k:K}:∀ ts:List T,(T.eryL k ts).length=ts.length
 | []=>rfl
 | t::ts=>by simp [T.eryL,eryL_length ts]

mutual
theorem rep_ery {fm:Nat→Nat} {ok ok':K→Nat→Prop} {w:World} (hok:∀ k b,k≠.own→ok k b→ok' .old b) :
 ∀ (t:T) (v:Value),(t.noOwn=true∨∀ b,ok .own b→ok' .old b)→rep fm ok w v t→rep fm ok' w v (t.ery .old)
 | .sc _,_,_,h=>h
 | .gone,_,_,_=>trivial
 | .nul,_,_,h=>h
 | .fn f caps,v,_,h=>by
  simp only [rep,T.ery] at h ⊢
  exact ⟨by rw [eryL_length];exact h.1,eryL_noOwn (by decide) caps,repL_ery hok caps _ 0 (.inl h.2.1) h.2.2⟩
 | .agg ts,v,ho,h=>by
  simp only [rep,T.ery,T.noOwn] at h ho ⊢
  exact ⟨by rw [eryL_length];exact h.1,repL_ery hok ts _ 0 ho h.2⟩
 | .tup ts,v,ho,h=>by
  simp only [rep,T.ery,T.noOwn] at h ho ⊢
  exact ⟨by rw [eryL_length];exact h.1,repL_ery hok ts _ 0 ho h.2⟩
 | .set _,_,_,_=>trivial
 | .mem k' s ts,v,ho,h=>by
  simp only [T.ery]
  rw [rep_mem] at h ⊢
  rw [eryL_length]
  simp only [T.noOwn,Bool.and_eq_true,bne_iff_ne,ne_eq] at ho
  obtain ⟨h1,h2,h3,h4,h5⟩:=h
  refine ⟨h1,fun hh=>?_,fun hh=>(by cases hh),fun _=>eryL_noOwn (by decide) ts,repL_ery hok ts _ 0 (ho.imp (fun h=>h.2) id) h5⟩
  rcases hh with hh | hh
  · cases hh
  · by_cases hk:k'=.own
    · subst hk
      rcases ho with ho | ho
      · exact (ho.1 rfl).elim
      · exact ho _ (h2 (.inl rfl))
    · exact hok k' _ hk (h2 (.inr fun e'=>hh (by rw [e'];rfl)))
theorem repL_ery {fm:Nat→Nat} {ok ok':K→Nat→Prop} {w:World} (hok:∀ k b,k≠.own→ok k b→ok' .old b) :
 ∀ (ts:List T) (g:Nat→Value) (i:Nat),(T.noOwnL ts=true∨∀ b,ok .own b→ok' .old b)→repL fm ok w g i ts→repL fm ok' w g i (T.eryL .old ts)
 | [],_,_,_,_=>trivial
 | t::ts,g,i,ho,h=>by
  simp only [repL,T.eryL,T.noOwnL,Bool.and_eq_true] at h ho ⊢
  exact ⟨rep_ery hok t _ (ho.imp (fun h=>h.1) id) h.1,repL_ery hok ts g (i+1) (ho.imp (fun h=>h.2) id) h.2⟩
end

mutual
theorem res_noOwn {e:Env}:∀ (x:V) {t:T},e.res x=some t→t.noOwn=true
 | .val u,t,h=>by
  simp only [Env.res] at h
  split at h
  · cases h;exact ery_noOwn (by decide) u
  · cases h
 | .sref r p sz off len,t,h=>by
  simp only [Env.res] at h
  split at h
  · split at h
    · cases h;simp [T.noOwn,eryL_noOwn (k:=.old) (by decide)]
    · cases h
  · cases h
 | .pref r p off,t,h=>by
  simp only [Env.res] at h
  split at h
  · split at h
    · cases h;simp [T.noOwn,eryL_noOwn (k:=.old) (by decide)]
    · cases h
  · cases h
 | .vagg vs,t,h=>by
  simp only [Env.res,Option.map_eq_some_iff] at h
  obtain ⟨ts,h1,rfl⟩:=h
  simpa [T.noOwn] using resL_noOwn vs h1
 | .vtup vs,t,h=>by
  simp only [Env.res,Option.map_eq_some_iff] at h
  obtain ⟨ts,h1,rfl⟩:=h
  simpa [T.noOwn] using resL_noOwn vs h1
 | .vfn f r,t,h=>by
  simp only [Env.res] at h
  split at h
  · cases h;simp [T.noOwn,T.noOwnL,eryL_noOwn (k:=.old) (by decide)]
  · cases h
theorem resL_noOwn {e:Env}:∀ (vs:List V) {ts:List T},e.resL vs=some ts→T.noOwnL ts=true
 | [],ts,h=>by simp only [Env.resL,Option.some.injEq] at h;subst h;rfl
 | v::vs,ts,h=>by
  simp only [Env.resL] at h
  cases h1:e.res v with
  | none=>rw [h1] at h;cases h
  | some t =>
   rw [h1] at h
   simp only [Option.bind_some,Option.map_eq_some_iff] at h
   obtain ⟨ts',h2,rfl⟩:=h
   simp [T.noOwnL,res_noOwn v h1,resL_noOwn vs h2]
end

theorem repL_drop {fm:Nat→Nat} {ok:K→Nat→Prop} {w:World} {g:Nat→Value} {ts:List T} {a:Nat} (ha:a≤ts.length) (h:repL fm ok w g 0 ts):repL fm ok w (fun j=>g (j+a)) 0 (ts.drop a):=by
 rw [← List.take_append_drop a ts,repL_append] at h
 have h2:=h.2
 rw [List.length_take,Nat.min_eq_left ha] at h2
 exact (repL_shift _ 0 a).1 h2

mutual
theorem res_rep {cx:Cx} {e:Env} {vl:Vl} {w:World} {ok':K→Nat→Prop} (h:R cx e vl w) (hok:∀ k b,k≠.own→okR cx (Own e vl w) k b→ok' .old b) :
 ∀ (x:V) (v:Value) {t:T},(x.lent=true→∀ b,ok' .old b)→arep cx.fm (okR cx (Own e vl w)) e vl w v x→e.res x=some t→rep cx.fm ok' w v t
 | .val u,v,t,_,hx,hr=>by
  simp only [Env.res] at hr
  split at hr
  · rename_i hn
    cases hr
    exact rep_ery hok u v (.inl hn) hx.2
  · cases hr
 | .sref r p sz off len,v,t,hl,hx,hr=>by
  simp only [Env.res] at hr
  split at hr
  · rename_i s0 ts htr
    split at hr
    · rename_i hfit
      cases hr
      simp only [arep] at hx
      obtain ⟨hz,t0,ts0,g1,g2,g3,o',g4,g5,g6,g7⟩:=hx
      have:e.tree r p=some (.mem .own (some sz) ts0):=by simp [Env.tree,g1,g2]
      rw [htr] at this
      cases this
      have hnode:=(focus p t0 _ (srep_val h g1) g2).1
      rw [rep_mem] at hnode
      obtain ⟨k1,_,_,_,k5⟩:=hnode
      have hmul:(off+len)*sz=off*sz+len*sz:=Nat.add_mul ..
      have hwl:(win ts (off*sz) (len*sz)).length=len*sz:=win_length (by omega)
      have hpos:∀ i,i<len*sz→o'=ofs (nodeV w (vl r) p)+off*sz:=fun i hi=>g7 (.inl (by
       rcases Nat.eq_zero_or_pos len with h0 | h0
       · rw [h0,Nat.zero_mul] at hi;omega
       · omega))
      obtain ⟨⟨L,hL,_⟩,hcl⟩:=k1
      have hb:blk v=blk (nodeV w (vl r) p):=by rw [g4];rfl
      have ho:ofs v=o':=by rw [g4];rfl
      have hc:capOf v=capOf (nodeV w (vl r) p)-off:=by rw [g4];rfl
      have hv:v=.slice (some ⟨blk v,ofs v,none⟩) len (capOf v):=by rw [hb,ho,hc];exact g4
      rw [rep_mem,eryL_length,hwl]
      refine ⟨⟨⟨len,hv,rfl,hz,by omega⟩,fun i hi=>?_⟩,fun _=>hl rfl _,fun hh=>(by cases hh),fun _=>eryL_noOwn (by decide) _,?_⟩
      · rw [hb,ho,hpos i hi]
        have:=hcl (off*sz+i) (by omega)
        rwa [Nat.add_assoc]
      · refine repL_ery hok _ _ 0 (.inr fun b _=>hl rfl b) (repL_congr _ 0 (fun j _ hj=>?_) (repL_win (len*sz) (by omega) k5))
        rw [hwl] at hj
        have q1:kid w v j=(w.cell? ⟨blk v,ofs v+j,none⟩).getD undef:=by rw [hv];rfl
        have q2:kid w (nodeV w (vl r) p) (j+off*sz)=(w.cell? ⟨blk (nodeV w (vl r) p),ofs (nodeV w (vl r) p)+(j+off*sz),none⟩).getD undef:=by rw [hL];rfl
        rw [q1,q2,hb,ho,hpos j (by omega)]
        congr 3
        omega
    · cases hr
  · cases hr
 | .pref r p off,v,t,hl,hx,hr=>by
  simp only [Env.res] at hr
  split at hr
  · rename_i s0 ts htr
    split at hr
    · rename_i hfit
      cases hr
      simp only [arep] at hx
      obtain ⟨t0,s1,ts0,g1,g2,g3,g4⟩:=hx
      have:e.tree r p=some (.mem .own s1 ts0):=by simp [Env.tree,g1,g2]
      rw [htr] at this
      cases this
      have hnode:=(focus p t0 _ (srep_val h g1) g2).1
      rw [rep_mem] at hnode
      obtain ⟨k1,_,_,_,k5⟩:=hnode
      have hb:blk v=blk (nodeV w (vl r) p):=by rw [g4];rfl
      have ho:ofs v=ofs (nodeV w (vl r) p)+off:=by rw [g4];rfl
      have hv:v=.pointer (some ⟨blk v,ofs v,none⟩):=by rw [hb,ho];exact g4
      rw [rep_mem,eryL_length,List.length_drop]
      refine ⟨⟨hv,fun i hi=>?_⟩,fun _=>hl rfl _,fun hh=>(by cases hh),fun _=>eryL_noOwn (by decide) _,?_⟩
      · rw [hb,ho,Nat.add_assoc]
        exact k1.2 (off+i) (by omega)
      · refine repL_ery hok _ _ 0 (.inr fun b _=>hl rfl b) (repL_congr _ 0 (fun j _ hj=>?_) (repL_drop hfit k5))
        rw [List.length_drop] at hj
        have q1:kid w v j=(w.cell? ⟨blk v,ofs v+j,none⟩).getD undef:=by rw [hv];rfl
        have q2:=cell_kid k1 (i:=off+j) (by omega)
        rw [q1,hb,ho,Nat.add_assoc,q2,Nat.add_comm off j]
        rfl
    · cases hr
  · cases hr
 | .vagg vs,v,t,hl,hx,hr=>by
  simp only [Env.res,Option.map_eq_some_iff] at hr
  obtain ⟨ts,h1,rfl⟩:=hr
  simp only [arep] at hx
  simp only [V.lent] at hl
  simp only [Mch.rep]
  exact ⟨by rw [resL_length vs h1];exact hx.1,resL_rep h hok vs _ 0 hl hx.2 h1⟩
 | .vtup vs,v,t,hl,hx,hr=>by
  simp only [Env.res,Option.map_eq_some_iff] at hr
  obtain ⟨ts,h1,rfl⟩:=hr
  simp only [arep] at hx
  simp only [V.lent] at hl
  simp only [Mch.rep]
  exact ⟨by rw [resL_length vs h1];exact hx.1,resL_rep h hok vs _ 0 hl hx.2 h1⟩
 | .vfn f r,v,t,hl,hx,hr=>by
  simp only [Env.res] at hr
  split at hr
  · rename_i ts htr
    cases hr
    simp only [arep] at hx
    obtain ⟨hv,ts0,g1⟩:=hx
    have:e.tree r []=some (.mem .own none ts0):=by simp [Env.tree,g1,T.at]
    rw [htr] at this
    cases this
    have hrep:=srep_val h g1
    have he:=rep_ery (ok':=ok') hok (.mem .own none ts) (vl r) (.inr fun b _=>hl rfl b) hrep
    simp only [Mch.rep]
    refine ⟨⟨_,hv,rfl⟩,by simp [T.noOwnL,T.noOwn,eryL_noOwn (k:=.old) (by decide)],?_⟩
    simp only [repL]
    refine ⟨?_,trivial⟩
    have hk:kid w v 0=vl r:=by rw [hv];rfl
    rw [hk]
    exact he
  · cases hr
theorem resL_rep {cx:Cx} {e:Env} {vl:Vl} {w:World} {ok':K→Nat→Prop} (h:R cx e vl w) (hok:∀ k b,k≠.own→okR cx (Own e vl w) k b→ok' .old b) :
 ∀ (vs:List V) (g:Nat→Value) (i:Nat) {ts:List T},(V.lentL vs=true→∀ b,ok' .old b)→arepL cx.fm (okR cx (Own e vl w)) e vl w g i vs→e.resL vs=some ts→repL cx.fm ok' w g i ts
 | [],g,i,ts,_,_,hr=>by simp only [Env.resL,Option.some.injEq] at hr;subst hr;trivial
 | x::vs,g,i,ts,hl,hx,hr=>by
  simp only [Env.resL] at hr
  simp only [arepL] at hx
  simp only [V.lentL,Bool.or_eq_true] at hl
  cases h1:e.res x with
  | none=>rw [h1] at hr;cases hr
  | some t =>
   rw [h1] at hr
   simp only [Option.bind_some,Option.map_eq_some_iff] at hr
   obtain ⟨ts',h2,rfl⟩:=hr
   exact ⟨res_rep h hok x _ (fun hh=>hl (.inl hh)) hx.1 h1,resL_rep h hok vs g (i+1) (fun hh=>hl (.inr hh)) hx.2 h2⟩
theorem resL_length {e:Env}:∀ (vs:List V) {ts:List T},e.resL vs=some ts→ts.length=vs.length
 | [],ts,h=>by simp only [Env.resL,Option.some.injEq] at h;subst h;rfl
 | v::vs,ts,h=>by
  simp only [Env.resL] at h
  cases h1:e.res v with
  | none=>rw [h1] at h;cases h
  | some t =>
   rw [h1] at h
   simp only [Option.bind_some,Option.map_eq_some_iff] at h
   obtain ⟨ts',h2,rfl⟩:=h
   simp [resL_length vs h2]
end

end Go.Mch
namespace Go.Mch

abbrev cx0 (fm:Nat→Nat) (w:World) (A M:Nat→Prop) (hA:∀ b,A b→b<w.heap.size):Cx:=⟨fm,w,A,M,hA,fun _=>False⟩

def Back (fm:Nat→Nat) (args args':List T) (r:T) (w:World) (vs:Array Value) (A M:Nat→Prop) (hA:∀ b,A b→b<w.heap.size):Ending→World→Prop
 | .returned v,w'=>∃ q e' vl',args.length≤q∧R (cx0 fm w A M hA) (e'.add q (.val r)) vl' w'∧Clr e' q∧vl' q=v∧args'=backArgs e' 0 args∧∀ s,s<args.length→(args.getD s .gone).noOwn=false→(slotT e' s).isGone=false→vl' s=vs.getD s undef
 | _,_=>False

def Pact (P:Program) (fm:Nat→Nat) (f:Nat) (args args':List T) (r:T):Prop :=
 (∃ fn, P.funcs[fm f]? = some fn ∧ fn.body.isNone = false ∧ (fn.name == "runtime.NumGoroutine") = false) ∧
 ∀ (w:World) (vs:Array Value) (A M:Nat→Prop) (hA:∀ b,A b→b<w.heap.size),vs.size=args.length→(kindOf args=.fresh→∀ b,¬M b) →
  R (cx0 fm w A M hA) (init args) (fun s=>vs.getD s undef) w→Calls P (fm f) vs w (Back fm args args' r w vs A M hA)

mutual
theorem rep_noOld {fm:Nat→Nat} {ok:K→Nat→Prop} {w:World}:∀ (t:T) (v:Value),t.noOld=true→rep fm ok w v t→rep fm (fun k b=>ok k b∧k≠.old) w v t
 | .sc _,_,_,h=>h
 | .gone,_,_,_=>trivial
 | .nul,_,_,h=>h
 | .fn f caps,v,ho,h=>by
  simp only [rep,T.noOld] at h ho ⊢
  exact ⟨h.1,h.2.1,repL_noOld caps _ 0 ho h.2.2⟩
 | .agg ts,v,ho,h=>by
  simp only [rep,T.noOld] at h ho ⊢
  exact ⟨h.1,repL_noOld ts _ 0 ho h.2⟩
 | .tup ts,v,ho,h=>by
  simp only [rep,T.noOld] at h ho ⊢
  exact ⟨h.1,repL_noOld ts _ 0 ho h.2⟩
 | .set ks,v,ho,h=>by
  simp only [rep] at h ⊢
  exact ⟨h.1,h.2,by decide⟩
 | .mem k s ts,v,ho,h=>by
  simp only [T.noOld,Bool.and_eq_true,bne_iff_ne,ne_eq] at ho
  rw [rep_mem] at h ⊢
  exact ⟨h.1,fun hh=>⟨h.2.1 hh,ho.1⟩,h.2.2.1,h.2.2.2.1,repL_noOld ts _ 0 ho.2 h.2.2.2.2⟩
theorem repL_noOld {fm:Nat→Nat} {ok:K→Nat→Prop} {w:World}:∀ (ts:List T) (g:Nat→Value) (i:Nat),T.noOldL ts=true→repL fm ok w g i ts→repL fm (fun k b=>ok k b∧k≠.old) w g i ts
 | [],_,_,_,_=>trivial
 | t::ts,g,i,ho,h=>by
  simp only [repL,T.noOldL,Bool.and_eq_true] at h ho ⊢
  exact ⟨rep_noOld t _ ho.1 h.1,repL_noOld ts g (i+1) ho.2 h.2⟩
end

theorem init_some {args:List T} {s:Nat} {x:V} (h:init args s=some x):∃ t,args[s]?=some t∧x=.val t:=by
 unfold init at h
 rw [Option.map_eq_some_iff] at h
 obtain ⟨t,h1,h2⟩:=h
 exact ⟨t,h1,h2.symm⟩

theorem noOwnL_get:∀ {ts:List T},T.noOwnL ts=true→∀ {i:Nat} {t:T},ts[i]?=some t→t.noOwn=true
 | [],_,_,_,h=>by simp at h
 | u::ts,h,0,t,hi=>by
  simp only [T.noOwnL,Bool.and_eq_true] at h
  simp at hi;subst hi;exact h.1
 | u::ts,h,i+1,t,hi=>by
  simp only [T.noOwnL,Bool.and_eq_true] at h
  exact noOwnL_get h.2 (by simpa using hi)

theorem noOwnL_app:∀ {ts us:List T},T.noOwnL ts=true→T.noOwnL us=true→T.noOwnL (ts++us)=true
 | [],_,_,h=>h
 | t::ts,us,h1,h2=>by
  simp only [T.noOwnL,Bool.and_eq_true,List.cons_append] at h1 ⊢
  exact ⟨h1.1,noOwnL_app h1.2 h2⟩

section
variable {P:Program} {cx:Cx} {nt:Nat} {Kt:Env→Prop} {o:Oper} {a:Act} {w:World} {e:Env} {d:Nat}

theorem args_rep {ok':K→Nat→Prop} (h:Rel cx nt e a w) (hok:∀ k b,k≠.own→okR cx (Own e (vlA a) w) k b→ok' .old b):∀ (xs:List (Opd×Mode)) (ys:List Operand) {ts:List T},okModes cx.fm xs ys=true→xs.all (fun x=>x.2 == .r)=true →
 e.args xs=some ts→(e.lends xs=true→∀ b,ok' .old b)→T.noOwnL ts=true∧ts.length=ys.length∧∀ g i,(∀ j,j<ys.length→g (i+j)=a.eval (ys.getD j (.const undef)))→repL cx.fm ok' w g i ts
 | [],[],ts,_,_,ha,_=>by
  simp only [Env.args,Option.some.injEq] at ha
  subst ha
  exact ⟨rfl,rfl,fun _ _ _=>trivial⟩
 | (x,md)::xs,y::ys,ts,ho,hm,ha,hl=>by
  simp only [okModes,Bool.and_eq_true] at ho
  simp only [List.all_cons,Bool.and_eq_true,beq_iff_eq] at hm
  obtain ⟨rfl,hm⟩:=hm
  simp only [Env.args] at ha
  simp only [Env.lends,Bool.or_eq_true] at hl
  cases hx:e.opd x with
  | none=>rw [hx] at ha;cases ha
  | some v =>
   rw [hx] at ha hl
   simp only [Option.bind_some] at ha
   cases hv:e.res v with
   | none=>rw [hv] at ha;cases ha
   | some t =>
    rw [hv] at ha
    simp only [Option.bind_some,Option.map_eq_some_iff] at ha
    obtain ⟨ts',h1,rfl⟩:=ha
    obtain ⟨q1,q2,q3⟩:=args_rep h hok xs ys ho.2 (by simpa using hm) h1 (fun hh=>hl (.inr hh))
    have hr:=res_rep h.r hok v _ (fun hh=>hl (.inl hh)) (h.opd ho.1 hx) hv
    refine ⟨by simp [T.noOwnL,res_noOwn v hv,q1],by simp [q2],fun g i hg=>⟨?_,q3 g (i+1) fun j hj=>?_⟩⟩
    · have:=hg 0 (by simp)
      simp only [Nat.add_zero,List.getD_cons_zero] at this
      rw [this];exact hr
    · have:=hg (j+1) (by simpa using hj)
      simp only [List.getD_cons_succ] at this
      rw [← this,show i+1+j=i+(j+1) from by omega]
 | [],_::_,_,h,_,_,_=>by simp [okModes] at h
 | _::_,[],_,h,_,_,_=>by simp [okModes] at h

theorem back_r:∀ (xs:List (Opd×Mode)) (ts:List T) {e e':Env},xs.all (fun x=>x.2 == .r)=true→e.back xs ts=some e'→e'=e
 | [],[],e,e',_,h=>by simp only [Env.back,Option.some.injEq] at h;exact h.symm
 | (x,md)::xs,t::ts,e,e',hm,h=>by
  simp only [List.all_cons,Bool.and_eq_true,beq_iff_eq] at hm
  obtain ⟨rfl,hm⟩:=hm
  simp only [Env.back] at h
  exact back_r xs ts (by simpa using hm) h
 | [],_::_,_,_,_,h=>by simp [Env.back] at h
 | (_,.r)::_,[],_,_,_,h=>by simp [Env.back] at h
 | (_,.w)::_,[],_,_,_,h=>by simp [Env.back] at h
 | (_,.m)::_,[],_,_,_,h=>by simp [Env.back] at h

theorem Keeps.trans {M:Nat→Prop} {w0 w w':World} (h:Keeps M w0 w) (h':Keeps (fun _=>False) w w'):Keeps M w0 w' :=
 ⟨h'.os.trans h.os,h'.tape.trans h.tape,h'.output.trans h.output,Nat.le_trans h.size h'.size,fun b hb hm=>(h'.block b (Nat.lt_of_lt_of_le hb h.size) (fun h=>h)).trans (h.block b hb hm)⟩

theorem call_back {w':World} {lends:Bool} {L L':List T} {r:T} {vs:Array Value} {v:Value} {hA':∀ b,(lends=false∧(cx.A b∨Own e (vlA a) w b))→b<w.heap.size} (hN:∀ b,¬cx.N b) (h:Rel cx nt e a w) (hlr:lends=true→r.noOld=true)
 (hb:Back cx.fm L L' r w vs (fun b=>lends=false∧(cx.A b∨Own e (vlA a) w b)) (fun _=>False) hA' (.returned v) w') :
 ∃ vl,(∀ s,s<nt→vl s=vlA a s)∧vl nt=v∧R cx (e.add nt (.val r)) vl w':=by
 obtain ⟨q,e1,vl1,_,hR1,hc1,rfl,_,_⟩:=hb
 have hkeep:=hR1.keeps
 have hr1:=srep_val hR1 (add_self ..)
 obtain ⟨who1,hw1⟩:=hR1.who
 have hnew:∀ b,1≤cnt w' (vl1 q) b r→w.heap.size≤b:=fun b hb=>by
  have:=(rep_owned r _ hr1 b hb).1
  rcases this.2.1 rfl with h1 | h1
  · exact h1
  · exact h1.elim
 have hsame:∀ b,b<w.heap.size→¬False→w'.heap[b]?=w.heap[b]?:=fun b hb _=>hkeep.block b hb (fun h=>h)
 have hkeep2:Keeps cx.M cx.w0 w':=h.r.keeps.trans hkeep
 have h2:=h.r.world (w':=w') (touch:=fun _=>False) (N:=fun b=>1≤cnt w' (vl1 q) b r) hsame (fun _ _ _ _ h=>h) (fun _ _ _ _ h=>h.elim) hkeep2 (fun b hb=>.inr (hnew b hb))
 have hlt:∀ b,Own e (vlA a) w b→b<w.heap.size:=by
  rintro b ⟨s,t,ht,hc⟩
  exact (rep_owned t _ (srep_val h.r ht) b hc).2
 have hown:∀ b,Own e (vlA a) w' b→Own e (vlA a) w b:=by
  rintro b ⟨s,t,ht,hc⟩
  refine ⟨s,t,ht,?_⟩
  have:=(frame (w':=w') (touch:=fun _=>False) hsame (fun _ _ _ _ h=>h) t _ (srep_val h.r ht) (fun _ h=>h.elim)).2 b
  omega
 have h3:=h2.addA (d:=nt) (h.dom nt (Nat.le_refl _)) (v:=.tuple #[]) (x:=.val (.tup [])) ⟨rfl,⟨⟨#[],rfl,rfl⟩,trivial⟩⟩
 have hown3:∀ b,Own (e.add nt (.val (.tup []))) (vadd (vlA a) nt (.tuple #[])) w' b→Own e (vlA a) w b:=fun b hb=>hown b (own_addA rfl b hb)
 have hrep:Mch.rep cx.fm (okR { cx with N:=fun b=>1≤cnt w' (vl1 q) b r } (fun b=>(∃ s u,s≠nt∧e.add nt (.val (.tup [])) s=some (.val u)∧1≤cnt w' (vadd (vlA a) nt (.tuple #[]) s) b u)∨1≤cnt w' (vl1 q) b r)) w' (vl1 q) r:=by
  have hoth:∀ b,(∃ s u,s≠nt∧e.add nt (.val (.tup [])) s=some (.val u)∧1≤cnt w' (vadd (vlA a) nt (.tuple #[]) s) b u)→Own e (vlA a) w b:=by
   rintro b ⟨s,u,hs,hu,hc⟩
   rw [add_ne hs] at hu;rw [vadd_ne hs] at hc
   exact hown b ⟨s,u,hu,hc⟩
  have hnotown:∀ k b,k≠.own→okR (cx0 cx.fm w (fun b=>lends=false∧(cx.A b∨Own e (vlA a) w b)) (fun _=>False) hA') (Own (e1.add q (.val r)) vl1 w') k b→¬1≤cnt w' (vl1 q) b r:=fun k b hk ho hc =>
   (ho.2.2.2 hk).1 ⟨q,r,add_self ..,hc⟩
  have hcown:∀ b,1≤cnt w' (vl1 q) b r→okR { cx with N:=fun b=>1≤cnt w' (vl1 q) b r } (fun b=>(∃ s u,s≠nt∧e.add nt (.val (.tup [])) s=some (.val u)∧1≤cnt w' (vadd (vlA a) nt (.tuple #[]) s) b u)∨1≤cnt w' (vl1 q) b r) .own b:=fun b hb=>by
   have h1:=hnew b hb
   have h2:=h.r.keeps.size
   exact ⟨fun hA=>by have:=cx.hA b hA;omega,fun _=>.inl (by simp only;omega),fun hh=>(by cases hh),fun hh=>(hh rfl).elim⟩
  cases hl:lends with
  | false =>
   refine rep_ok (fun k b hk _ ho=>?_) r _ (fun b hb _ _=>hcown b hb) hr1
   have hnA:¬(cx.A b∨Own e (vlA a) w b):=fun hh=>ho.1 ⟨hl,hh⟩
   have h2:=h.r.keeps.size
   exact ⟨fun hA=>hnA (.inl hA),fun hh=>(hk hh).elim,fun hh=>by have:=ho.2.2.1 hh;simp only at this ⊢;omega,fun _=>⟨fun hh=>hh.elim (fun hh=>hnA (.inr (hoth b hh))) (hnotown k b hk ho),hnotown k b hk ho⟩⟩
  | true =>
   refine rep_ok (fun k b hk _ ho=>?_) r _ (fun b hb _ _=>hcown b hb) (rep_noOld r _ (hlr hl) hr1)
   have hkf:k=.fresh:=by cases k <;> simp_all
   have h1:=ho.1.2.2.1 hkf
   have h2:=h.r.keeps.size
   simp only at h1
   exact ⟨fun hA=>by have:=cx.hA b hA;omega,fun hh=>(hk hh).elim,fun _=>by simp only;omega,fun _=>⟨fun hh=>hh.elim (fun hh=>by have:=hlt b (hoth b hh);omega) (hnotown k b hk ho.1),hnotown k b hk ho.1⟩⟩
 have h4:=h3.retag (w':=w') (touch:=fun _=>False) (q:=nt) (d:=nt) (t':=r) (v':=vl1 q) (e':=e.add nt (.val r)) (add_self ..) (fun _ _ _=>rfl) (fun _ h=>h.elim) h3.keeps hrep (fun b=>(hw1 q r (add_self ..) b).1)
  (fun b hb=>.inr ⟨hb,fun hh=>by have:=hlt b (hown3 b hh);have:=hnew b hb;omega⟩) (add_self ..) (fun s x hs hx=>by
   rw [add_ne hs] at hx
   refine ⟨hs,by rw [add_ne hs];exact hx,fun r hr=>?_⟩
   have hne:r≠nt:=fun e'=>by subst e';rw [(h.clr r (Nat.le_refl _)).2 s x hx] at hr;cases hr
   exact ⟨hne,hne,by rw [add_ne hne,add_ne hne]⟩)
 have h5:=h4.unN (N:=cx.N) (fun b hb=>(hN b hb).elim)
 exact ⟨_,fun s hs=>by rw [vadd_ne (by omega),vadd_ne (by omega)],vadd_self ..,h5⟩

theorem good_call {G:Rl} (hG:∀ f args args' r,T.noOwnL args=true→G f args args' r→Pact P cx.fm f args args' r) (hN:∀ b,¬cx.N b) (h:Rel cx nt e a w) {f:Opd} {f':Operand} {xs:List (Opd×Mode)} {ys:Array Operand} {ats:Array TypeId}
 (hop:o.op=.call ⟨.value f',ys,ats⟩) (hf:okOpd cx.fm f f'=true) (hxs:okModes cx.fm xs ys.toList=true) (hmo:xs.all (fun x=>x.2 == .r)=true) (hd:∀ d,o.dst=some d→d<nt)
 {id:Nat} {caps ts ts':List T} {r:T} {e':Env} (he:e.opd f=some (.val (.fn id caps))) (ha:e.args xs=some ts) (hcall:G id (ts++T.eryL .old caps) (ts'++T.eryL .old caps) r)
 (hlr:e.lends xs=true→r.noOld=true) (hb:e.back xs ts'=some e') (hK:Kt (e'.setD o.dst (.val r))):Good P cx nt Kt o a w:=by
 have:=back_r xs ts' hmo hb
 subst this
 obtain ⟨hfn,hfr⟩:=h.opd hf he
 simp only [Mch.rep] at hfr
 obtain ⟨⟨cs,hfv,hcs⟩,hno,hcaps⟩:=hfr
 have hlt:∀ b,Own e' (vlA a) w b→b<w.heap.size:=by
  rintro b ⟨s,t,ht,hc⟩
  exact (rep_owned t _ (srep_val h.r ht) b hc).2
 have hA':∀ b,(e'.lends xs=false∧(cx.A b∨Own e' (vlA a) w b))→b<w.heap.size:=fun b hb=>by
  rcases hb.2 with h1 | h1
  · have:=cx.hA b h1;have:=h.r.keeps.size;omega
  · exact hlt b h1
 have hlen:(ys.map a.eval++cs).size=(ts++T.eryL .old caps).length:=by
  have:=(args_rep (ok':=fun _ _=>True) h (fun _ _ _ _=>trivial) xs ys.toList hxs hmo ha (fun _ _=>trivial)).2.1
  simp only [Array.length_toList] at this
  simp [this,hcs,eryL_length]
 have hnoL:T.noOwnL (ts++T.eryL .old caps)=true:=noOwnL_app (args_rep (ok':=fun _ _=>True) h (fun _ _ _ _=>trivial) xs ys.toList hxs hmo ha (fun _ _=>trivial)).1 (eryL_noOwn (by decide) caps)
 obtain ⟨⟨fn,p1,p2,p3⟩,hpact⟩:=hG _ _ _ _ hnoL hcall
 have hown0:∀ b,¬Own (init (ts++T.eryL .old caps)) (fun s=>(ys.map a.eval++cs).getD s undef) w b:=by
  rintro b ⟨s,t,ht,hc⟩
  obtain ⟨t',h1,h2⟩:=init_some ht
  cases h2
  rw [cnt_noOwn _ _ _ _ (noOwnL_get hnoL h1)] at hc
  omega
 generalize hcx:cx0 cx.fm w (fun b=>e'.lends xs=false∧(cx.A b∨Own e' (vlA a) w b)) (fun _=>False) hA'=cx'
 have hok0:∀ b,(e'.lends xs=false→¬(cx.A b∨Own e' (vlA a) w b))→okR cx' (Own (init (ts++T.eryL .old caps)) (fun s=>(ys.map a.eval++cs).getD s undef) w) .old b:=fun b hb=>by
  subst hcx
  exact ⟨fun hh=>hb hh.1 hh.2,fun hh=>(by cases hh),fun hh=>(by cases hh),fun _=>⟨hown0 b,fun h=>h⟩⟩
 have hok:∀ k b,k≠.own→okR cx (Own e' (vlA a) w) k b→okR cx' (Own (init (ts++T.eryL .old caps)) (fun s=>(ys.map a.eval++cs).getD s undef) w) .old b:=fun k b hk ho =>
  hok0 b fun _ hh=>hh.elim ho.1 (ho.2.2.2 hk).1
 obtain ⟨g1,g2,g3⟩:=args_rep h hok xs ys.toList hxs hmo ha (fun hh b=>hok0 b fun h0=>by rw [hh] at h0;cases h0)
 simp only [Array.length_toList] at g2
 have hL:repL cx.fm (okR cx' (Own (init (ts++T.eryL .old caps)) (fun s=>(ys.map a.eval++cs).getD s undef) w)) w (fun s=>(ys.map a.eval++cs).getD s undef) 0 (ts++T.eryL .old caps):=by
  rw [repL_append]
  refine ⟨g3 _ 0 fun j hj=>?_,?_⟩
  · simp only [Array.length_toList] at hj
    simp only [Nat.zero_add,Array.getD_eq_getD_getElem?]
    rw [Array.getElem?_append_left (by simpa using hj)]
    simp [hj,List.getD_eq_getElem?_getD]
  · have h9:=repL_ery hok caps (kid w (a.eval f')) 0 (.inl hno) hcaps
    rw [Nat.zero_add]
    have h10:=(repL_shift (fm:=cx.fm) (ok:=okR cx' (Own (init (ts++T.eryL .old caps)) (fun s=>(ys.map a.eval++cs).getD s undef) w)) (w:=w) (g:=fun s=>(ys.map a.eval++cs).getD s undef) (T.eryL .old caps) 0 ts.length).2
    rw [Nat.zero_add] at h10
    refine h10 (repL_congr _ 0 (fun j _ hj=>?_) h9)
    rw [hfv]
    simp only [kid,Array.getD_eq_getD_getElem?]
    rw [Array.getElem?_append_right (by simp [g2])]
    simp [g2]
 have hR:R cx' (init (ts++T.eryL .old caps)) (fun s=>(ys.map a.eval++cs).getD s undef) w:=by
  refine ⟨by subst hcx;exact Keeps.refl _ _,⟨fun _=>0,fun s t ht b=>?_⟩,fun s x hx=>?_⟩
  · obtain ⟨t',h1,h2⟩:=init_some ht
    cases h2
    rw [cnt_noOwn _ _ _ _ (noOwnL_get hnoL h1)]
    exact ⟨by omega,fun h=>by omega⟩
  · obtain ⟨t,h1,rfl⟩:=init_some hx
    have:=repL_get _ 0 s hL h1
    rw [Nat.zero_add] at this
    refine .inl ⟨t,rfl,?_⟩
    have hfm:cx'.fm=cx.fm:=by subst hcx;rfl
    rw [hfm]
    exact this
 subst hcx
 have hcalls:=hpact w (ys.map a.eval++cs) _ (fun _=>False) hA' hlen (fun _ _ h=>h) hR
 have hrun:(execOp a.eval o).run P w=.ok (.enter (cx.fm id) (ys.map a.eval++cs)) w:=by
  have p2':fn.body≠none:=fun h0=>by rw [h0] at p2;cases p2
  have p3' : fn.name ≠ "runtime.NumGoroutine" := fun h0 => by rw [h0] at p3; simp at p3
  simp [execOp,hop,resolve,Deferred.ofValue,hfv,invoke,callFunc,p1,p2',p3']
 intro Qx
 unfold Oper.wp
 rw [hrun,Oper.upon_enter]
 refine Calls.mono hcalls fun en w' hbk=>?_
 cases en with
 | panicked c=>exact hbk.elim
 | outgrown=>exact hbk.elim
 | returned v =>
  obtain ⟨vl,k1,k2,k3⟩:=call_back hN h hlr hbk
  refine ⟨_,hK,?_⟩
  cases hdst:o.dst with
  | some d =>
   rw [← k2]
   exact Rel.land h.size h.defers k3 h.clr k1 (hd d hdst)
  | none =>
   refine ⟨?_,h.dom,h.size,h.defers⟩
   have hE:e'.setD none (.val r)=e':=rfl
   rw [hE]
   have hne:∀ s x,e' s=some x→s<nt:=fun s x hx=>by
    rcases Nat.lt_or_ge s nt with h' | h'
    · exact h'
    · rw [h.dom s h'] at hx;cases hx
   refine k3.sub (fun s x hx=>?_) (fun s x r hx hr=>?_) (fun s x hx=>(k1 s (hne s x hx)).symm)
   · have:=hne s x hx
     rw [add_ne (by omega)];exact hx
   · have:r≠nt:=fun e1=>by subst e1;rw [(h.clr r (Nat.le_refl _)).2 s x hx] at hr;cases hr
     rw [add_ne this]

end
end Go.Mch
namespace Go.Mch

section
variable {P:Program} {cx:Cx} {nt:Nat} {Kt:Env→Prop} {o:Oper} {a:Act} {w:World} {e:Env} {d:Nat}

theorem Good.turn {K K':Env→Prop} (h:Good P cx nt K o a w) (hk:∀ e' a' w',K e'→Rel cx nt e' a' w'→∃ e'',K' e''∧Rel cx nt e'' a' w'):Good P cx nt K' o a w :=
 fun Qx=>Oper.wp_mono (fun a' w' ⟨e',h1,h2⟩=>hk e' a' w' h1 h2) (h Qx)

theorem good_mm {mx:Bool} {b:Builtin} {x y:Opd} {x' y':Operand} {ts:Array TypeId} {p q v:V} (h:Rel cx nt e a w) (hop:o.op=.call ⟨.builtin b,#[x',y'],ts⟩) (hb:b=if mx then .max else .min) (hx:okOpd cx.fm x x'=true) (hy:okOpd cx.fm y y'=true)
 (hd:o.dst=some d) (hlt:d<nt) (h1:e.opd x=some p) (h2:e.opd y=some q) (h3:mmV mx p q=some v) (hK:Kt (e.setD (some d) v)):Good P cx nt Kt o a w:=by
 unfold mmV at h3
 split at h3
 · rename_i k m k' n
   split at h3
   · rename_i hk
     subst hk
     cases h3
     have e1:=ar_sc (h.opd hx h1)
     have e2:=ar_sc (h.opd hy h2)
     refine good_read h hd hlt ?_ (ar_mk rfl) hK
     cases mx
     · subst hb
       simp [execOp,hop,resolve,invoke,builtin,Builtin.min_,Builtin.min2,e1,e2,mmI]
     · subst hb
       simp [execOp,hop,resolve,invoke,builtin,Builtin.max_,Builtin.max2,e1,e2,mmI]
   · cases h3
 · cases h3

theorem good_cap0 {x:Opd} {x':Operand} {t:TypeId} {p v:V} (h:Rel cx nt e a w) (hop:o.op=.call ⟨.builtin .cap,#[x'],#[t]⟩) (ht:isSlice P t=true) (hx:okOpd cx.fm x x'=true)
 (hd:o.dst=some d) (hlt:d<nt) (h1:e.opd x=some p) (h2:cap0V p=some v) (hK:Kt (e.setD (some d) v)):Good P cx nt Kt o a w:=by
 obtain ⟨el,hel⟩:=Option.isSome_iff_exists.1 ht
 have hu:=elOf_spec hel
 unfold cap0V at h2
 split at h2
 · cases h2
   have e1:=ar_sc (h.opd hx h1)
   refine good_read h hd hlt ?_ (ar_mk rfl) hK
   simp [execOp,hop,resolve,invoke,builtin,Builtin.cap_,e1,run_und hu,goInt]
 · cases h2

theorem good_arr {sz:Nat} {x i:Opd} {x' i':Operand} {t el:TypeId} {len:Nat} {p v:V} {n:Int} (h:Rel cx nt e a w) (hop:o.op=.index t x' i') (hu:P.underlying t=some (.array len el)) (hsz:szOf P el=some sz) (hag:aggOf P el=some true)
 (hx:okOpd cx.fm x x'=true) (hi:okOpd cx.fm i i'=true) (hs:0<sz) (hd:o.dst=some d) (hlt:d<nt) (h1:e.opd x=some p) (h2:(e.opd i).bind asI=some n) (h3:arrV sz len p n=some v) (hK:Kt (e.setD (some d) v)):Good P cx nt Kt o a w:=by
 obtain ⟨k,hk⟩:=asI_spec h2
 have e2:=ar_sc (h.opd hi hk)
 unfold arrV at h3
 split at h3
 · rename_i vs
   split at h3
   · rename_i hc
     cases h3
     have e1:=h.opd hx h1
     simp only [AR,arep] at e1
     obtain ⟨⟨cs,e1,e3⟩,e4⟩:=e1
     obtain ⟨c1,c2,c3⟩:=hc
     have hin:n.toNat*sz+sz≤vs.length:=by rw [c3];have:(n.toNat+1)*sz≤len*sz:=Nat.mul_le_mul_right _ (by omega);rwa [Nat.add_mul,Nat.one_mul] at this
     refine good_read (v:=.agg (cs.extract (n.toNat*sz) (n.toNat*sz+sz))) h hd hlt ?_ ?_ hK
     · simp only [execOp,hop,Instr.index,Sem.run_bind,e1,e2,run_und hu,Result.andThen_ok,asIntOf,Sem.run_pure]
       rw [if_pos ⟨c1,by omega⟩]
       simp only [Sem.run_bind,run_szOf hsz,Result.andThen_ok,part,run_aggOf hag,if_true,Sem.run_pure]
     · simp only [AR,arep]
       refine ⟨⟨_,rfl,by simp;omega⟩,?_⟩
       rw [e1] at e4
       refine arepL_congr (g:=fun j=>kid w (.agg cs) (j+n.toNat*sz)) _ 0 (fun j _ hj=>?_) (arepL_win (i:=n.toNat*sz) (n:=sz) (by omega) e4)
       have hj2:j<sz:=by
        rw [Nat.zero_add,List.length_take] at hj
        exact Nat.lt_of_lt_of_le hj (Nat.min_le_left _ _)
       simp only [kid,Array.getD_eq_getD_getElem?]
       rw [Array.getElem?_extract,if_pos (by omega),Nat.add_comm]
   · cases h3
 · cases h3


theorem bytesL_spec {fm:Nat→Nat} {ok:K→Nat→Prop} {w:World} {g:Nat→Value}:∀ (ts:List T) (i:Nat) {l:List UInt8},bytesL ts=some l→repL fm ok w g i ts →
 ∃ ns:List Int,ns.length=ts.length∧(∀ j n,ns[j]?=some n→g (i+j)=.int .u8 n)∧l=ns.map fun n=>UInt8.ofNat n.toNat
 | [],i,l,h,_=>by
  simp only [bytesL,Option.some.injEq] at h
  subst h
  exact ⟨[],rfl,fun j n hj=>by simp at hj,rfl⟩
 | t::ts,i,l,h,hr=>by
  unfold bytesL at h
  split at h
  · rename_i h0;cases h0
  · rename_i n ts' h0
    cases h0
    split at h
    · rw [Option.map_eq_some_iff] at h
      obtain ⟨l',h1,rfl⟩:=h
      simp only [repL,Mch.rep] at hr
      obtain ⟨ns,g1,g2,g3⟩:=bytesL_spec ts (i+1) h1 hr.2
      refine ⟨n::ns,by simp [g1],fun j m hj=>?_,by simp [g3]⟩
      cases j with
      | zero=>simp at hj;subst hj;exact hr.1.1
      | succ j =>
       rw [show i+(j+1)=i+1+j from by omega]
       exact g2 j m (by simpa using hj)
    · cases h
  · cases h

theorem bytes_push (ns:List Int):∀ s:ByteArray,ns.foldl (fun r n=>r.push (UInt8.ofNat n.toNat)) s=⟨s.data++(ns.map fun n=>UInt8.ofNat n.toNat).toArray⟩:=by
 induction ns with
 | nil=>intro s;simp
 | cons n ns ih =>
  intro s
  simp only [List.foldl_cons,ih]
  cases s
  simp [ByteArray.push]

theorem good_bstr {x:Opd} {x':Operand} {s t el:TypeId} {p v:V} (h:Rel cx nt e a w) (hop:o.op=.convert s t x') (hs:P.underlying s=some (.slice el)) (hel:P.underlying el=some (.int .u8)) (ht:P.underlying t=some .string)
 (hx:okOpd cx.fm x x'=true) (hd:o.dst=some d) (hlt:d<nt) (h1:e.opd x=some p) (h2:e.bstr p=some v) (hK:Kt (e.setD (some d) v)):Good P cx nt Kt o a w:=by
 have e1:=h.opd hx h1
 have run0:∀ (ad:Option Addr) (len cap:Nat) (ns:List Int),a.eval x'=.slice ad len cap→ns.length=len→(∀ b,ad=some b→∀ j n,ns[j]?=some n→w.cell? (b.add j)=some (.int .u8 n))→(ad=none→len=0) →
  (execOp a.eval o).run P w=.ok (.value (.string ⟨(ns.map fun n=>UInt8.ofNat n.toNat).toArray⟩)) w:=by
  intro ad len cap ns hv hl hc hn
  simp only [execOp,hop,Sem.run_bind,hv,run_convert_bytes_string w s t el _ _ _ hs hel ht]
  cases ad with
  | none =>
   have:=hn rfl
   subst this
   have:ns=[]:=List.eq_nil_of_length_eq_zero hl
   subst this
   simp [Conv.bytesToString]
   rfl
  | some b =>
   have hload:(loadCells b len).run P w=.ok (ns.map (Value.int .u8)).toArray w:=by
    have:=run_loadCells_list (P:=P) (w:=w) b (ns.map (Value.int .u8)) (fun j v hv=>by
     rw [List.getElem?_map,Option.map_eq_some_iff] at hv
     obtain ⟨n,hn,rfl⟩:=hv
     exact hc b rfl j n hn)
    simpa [hl] using this
   rw [run_bytesToString w b len cap ns hload]
   simp only [Result.andThen_ok,Sem.run_pure,bytes_push]
   have h0:ByteArray.empty.data=#[]:=rfl
   simp
 unfold Env.bstr at h2
 split at h2
 · cases h2
   exact good_read h hd hlt (run0 none 0 0 [] (ar_sc e1) rfl (fun _ hb=>by cases hb) (fun _=>rfl)) (ar_mk rfl) hK
 · rename_i ad
   cases h2
   exact good_read h hd hlt (run0 (some ad) 0 0 [] (ar_sc e1) rfl (fun _ _ j n hj=>by simp at hj) (fun hh=>by cases hh)) (ar_mk rfl) hK
 · rename_i k ts
   rw [Option.map_eq_some_iff] at h2
   obtain ⟨l,h3,rfl⟩:=h2
   obtain ⟨m1,m2,m3,m4,m5⟩:=imm_rep e1
   obtain ⟨ns,g1,g2,rfl⟩:=bytesL_spec ts 0 h3 m5
   obtain ⟨⟨len,s1,s2,s3,s4⟩,s5⟩:=m3
   refine good_read h hd hlt (run0 _ len _ ns s1 (by omega) (fun b hb j n hj=>?_) (fun hh=>by cases hh)) (ar_mk rfl) hK
   cases hb
   have hjl:j<ts.length:=by have:=(List.getElem?_eq_some_iff.1 hj).1;omega
   have hk:=g2 j n hj
   rw [Nat.zero_add] at hk
   have hcell:=s5 j hjl
   rw [s1] at hk
   simp only [kid] at hk
   rw [addr_add]
   cases hcc:w.cell? ⟨blk (a.eval x'),ofs (a.eval x')+j,none⟩ with
   | none=>rw [hcc] at hcell;cases hcell
   | some u=>rw [hcc] at hk;simp only [Option.getD_some] at hk;rw [hk]
 · rename_i r pt off len
   split at h2
   · rename_i ts htr
     split at h2
     · rename_i hin
       rw [Option.map_eq_some_iff] at h2
       obtain ⟨l,h3,rfl⟩:=h2
       simp only [AR,arep] at e1
       obtain ⟨_,t0,ts',q1,q2,q3,o',q4,q5,q6,q7⟩:=e1
       have hnr:=node_rep h.r htr
       rw [rep_mem] at hnr
       obtain ⟨n1,n2,n3,n4,n5⟩:=hnr
       obtain ⟨ns,g1,g2,rfl⟩:=bytesL_spec (win ts off len) 0 h3 (repL_win len (by omega) n5)
       have hwl:=win_length (ts:=ts) (a:=off) (n:=len) hin
       refine good_read h hd hlt (run0 _ len _ ns q4 (by omega) (fun b hb j n hj=>?_) (fun hh=>by cases hh)) (ar_mk rfl) hK
       cases hb
       have hjl:j<len:=by have:=(List.getElem?_eq_some_iff.1 hj).1;omega
       have hk:=g2 j n hj
       rw [Nat.zero_add] at hk
       obtain ⟨⟨L,s1,s2,s3,s4⟩,s5⟩:=n1
       have ho:=q7 (.inl (by omega))
       have hcell:=s5 (off+j) (by omega)
       rw [s1] at hk
       simp only [kid] at hk
       rw [addr_add,ho,Nat.mul_one]
       rw [show ofs (nodeV w (vlA a r) pt)+off+j=ofs (nodeV w (vlA a r) pt)+(off+j) from by omega]
       cases hcc:w.cell? ⟨blk (nodeV w (vlA a r) pt),ofs (nodeV w (vlA a r) pt)+(off+j),none⟩ with
       | none=>rw [hcc] at hcell;cases hcell
       | some u =>
        simp only [ofs] at hk hcc
        rw [show j+off=off+j from by omega] at hk
        rw [hcc] at hk;simp only [Option.getD_some] at hk;rw [hk]
     · cases h2
   · cases h2
 · cases h2


theorem R.allocSet {cx:Cx} {e:Env} {vl:Vl} {w:World} {q:Nat} (h:R cx e vl w) (hc:Clr e q) (hN:∀ b,¬cx.N b) :
 R cx (e.add q (.val (.set []))) (vadd vl q (.map (some w.heap.size))) (w.alloc (.map #[] 0)):=by
 have h0:=h.addA (d:=q) (v:=.map (some w.heap.size)) (x:=.val .gone) (hc q (Nat.le_refl _)).1 ⟨rfl,trivial⟩
 have h1:=h0.world (w':=w.alloc (.map #[] 0)) (touch:=fun _=>False) (N:=fun b=>b=w.heap.size) (fun b hb _=>heap_alloc_lt _ _ hb) (fun _ _ _ _ h=>h) (fun _ _ _ _ h=>h.elim) (h.keeps.alloc _)
  (fun b hb=>.inr (by omega))
 have hnew:=heap_alloc_at w (.map #[] 0)
 have hnot:∀ b,Own (e.add q (.val .gone)) (vadd vl q (.map (some w.heap.size))) (w.alloc (.map #[] 0)) b→b<w.heap.size:=by
  rintro b ⟨s',t,ht,hc'⟩
  have hz:Own (e.add q (.val .gone)) (vadd vl q (.map (some w.heap.size))) w b:=⟨s',t,ht,by
   have:=(frame (w':=w.alloc (.map #[] 0)) (touch:=fun _=>False) (fun b hb _=>heap_alloc_lt _ _ hb) (fun _ _ _ _ h=>h) t _ (srep_val h0 ht) (fun _ h=>h.elim)).2 b
   omega⟩
  obtain ⟨s'',t',ht',hc''⟩:=hz
  exact (rep_owned t' _ (srep_val h0 ht') b hc'').2
 have h2:=h1.retag (w':=w.alloc (.map #[] 0)) (touch:=fun _=>False) (q:=q) (d:=q) (t':=.set []) (v':=.map (some w.heap.size)) (e':=e.add q (.val (.set []))) (add_self ..) (fun _ _ _=>rfl) (fun _ h=>h.elim) h1.keeps ?_ ?_ ?_ (add_self ..) ?_
 · have h3:=h2.unN (N:=cx.N) (fun b hb=>(hN b hb).elim)
   refine h3.congr fun s x hx=>?_
   by_cases hs:s=q
   · subst hs;simp
   · simp [vadd_ne hs]
 · simp only [Mch.rep]
   refine ⟨⟨rfl,#[],0,hnew,rfl,by simp⟩,?_⟩
   exact ⟨fun hA=>by have:=cx.hA _ hA;have:=h.keeps.size;simp only [blk] at *;omega,fun _=>.inl h.keeps.size,fun hk=>(by cases hk),fun hk=>(hk rfl).elim⟩
 · intro b;simp only [cnt];split <;> omega
 · intro b h3
   have h3':1≤if w.heap.size=b then 1 else 0:=h3
   by_cases hb':w.heap.size=b
   · exact .inr ⟨hb'.symm,fun h4=>by have:=hnot b h4;omega⟩
   · rw [if_neg hb'] at h3';omega
 · intro s' x hs' hx
   rw [add_ne hs'] at hx
   refine ⟨hs',by rw [add_ne hs'];exact hx,fun r hrr=>?_⟩
   have hne:r≠q:=fun e'=>by subst e';rw [(hc r (Nat.le_refl _)).2 s' x hx] at hrr;cases hrr
   exact ⟨hne,hne,by rw [add_ne hne,add_ne hne]⟩

theorem run_apz {P:Program} {w:World} {t u ty el:TypeId} {ku:IntKind} {i:TypeInfo} {z:Value} {k':IntKind} {n:Int} (ht:P.underlying t=some (.slice el)) (hu:P.underlying u=some (.int ku)) (hi:P.info? el=some i) (hz:i.zero=some z) (hsz:i.size=1)
 (h0:0<n) (h1:n≤(roomy:Int)) (hb:i.bytes≤32768) :
 (Builtin.append_ #[t,u] ty #[.slice none 0 0,.int k' n]).run P w =
  .ok (.slice (some ⟨w.heap.size,0,none⟩) n.toNat (grownCap w n.toNat 0 el)) (w.drew.alloc (.cells (Builtin.zeroCells z.cells n.toNat++Builtin.zeroCells z.cells (grownCap w n.toNat 0 el-n.toNat)) el)):=by
 unfold roomy at h1
 have hw:IntKind.i64.wrap n=n:=by
  exact i64_wrap (by omega) (by omega)
 have hn:¬n<0:=by omega
 have hbb:¬(281474976710656<n*(i.bytes:Int)):=by
  have:n*(i.bytes:Int)≤4294967296*32768:=Int.mul_le_mul h1 (by omega) (by omega) (by omega)
  omega
 have hfit:=fit_bytes (n:=n.toNat) (by_:=i.bytes) (sz:=1) (c:=0) (by unfold roomy;omega) (by omega) (by omega)
 have hfit':¬(281474976710656<Builtin.nextslicecap n.toNat 0*i.bytes):=by omega
 have hnn:¬n.toNat=0:=by omega
 have hni:¬n≤0:=by omega
 have hai:(asIntOf (.int k' n)).run P w=.ok (k',n) w:=rfl
 have hmx:¬(9223372036854775807<max n 0):=by omega
 simp [Builtin.append_,run_und ht,run_und hu,sizeOf,typeInfo,zeroValue,hi,hz,hsz,asInt,hai,hmx,hw,hn,hbb,hni,Question.forced,newRow,grownCap,Builtin.firstCells,hfit']

theorem good_apz {x n:Opd} {x' n':Operand} {t u el:TypeId} {ku:IntKind} {z:Value} {m:Int} {by_:Nat} (hN:∀ b,¬cx.N b) (h:Rel cx nt e a w) (hop:o.op=.call ⟨.builtin .append,#[x',n'],#[t,u]⟩) (hel:elOf P t=some el) (hu:P.underlying u=some (.int ku)) (hsz:szOf P el=some 1)
 (hz:(zeroOf P el).any (eqCL [z] ·)=true) (hby:byOf P el=some by_) (hb:by_≤32768) (hx:okOpd cx.fm x x'=true) (hn:okOpd cx.fm n n'=true) (hd:o.dst=some d) (hlt:d<nt) (h1:e.opd x=some (.val (.sc (.slice none 0 0)))) (h2:(e.opd n).bind asI=some m) (h0:0<m) (h3:m≤(roomy:Int))
 (hK:Kt (e.setD (some d) (.val (.mem .own (some 1) (List.replicate m.toNat (.sc z)))))):Good P cx nt Kt o a w:=by
 obtain ⟨k,hk⟩:=asI_spec h2
 have e1:=ar_sc (h.opd hx h1)
 have e2:=ar_sc (h.opd hn hk)
 obtain ⟨i,zv,hi,hzv,hzc,hsc⟩:=zeroOf_spec hz
 have hisz:i.size=1:=by simpa [szOf,hi] using hsz
 have hiby:i.bytes=by_:=by simpa [byOf,hi] using hby
 have hrun:=run_apz (w:=w) (ty:=o.type) (k':=k) (elOf_spec hel) hu hi hzv hisz h0 h3 (by omega)
 have hge:=grownCap_ge w m.toNat 0 el
 generalize grownCap w m.toNat 0 el=gc at hrun hge
 have hz1:zv.cells=#[z]:=by rw [← Array.toList_inj];exact hzc
 have hcells:∀ c,Builtin.zeroCells zv.cells c=Array.replicate c z:=fun c=>by
  rw [hz1]
  apply Array.ext
  · simp [Builtin.zeroCells]
  · intro j h1 h2
    simp [Builtin.zeroCells,Nat.mod_one]
 have hd0:Rel cx nt e a w:=h
 have h4:=(hd0.consts (Array.replicate m.toNat z) (fun x hx=>by
  simp at hx
  rw [hx.2]
  exact hsc z (by simp))).drew
 simp only [Array.toList_replicate,List.map_replicate] at h4
 have h5:=h4.alloc (s:=some 1) (v':=.slice (some ⟨w.heap.size,0,none⟩) m.toNat gc) (arr:=Array.replicate m.toNat z++Array.replicate (gc-m.toNat) z) (elem:=el) h.clr hN (vadd_self ..) (fun j hj=>by
  simp only [List.length_replicate] at hj
  rw [Array.getElem?_append_left (by simpa using hj)]
  simp [hj]) rfl rfl ⟨m.toNat,rfl,by simp,by omega,hge⟩ (by simp only [roomN,capOf,Array.size_append,Array.size_replicate];omega)
 refine good_make h hd hlt ?_ h5 h.clr (fun s hs=>by rw [vadd_ne (by omega),vadd_ne (by omega)]) (vadd_self ..) hK
 simp only [execOp,hop,resolve,invoke,builtin,List.map_toArray,List.map_cons,List.map_nil,e1,e2,Sem.run_bind,hrun,Result.andThen_ok,Sem.run_pure,hcells]
 try rfl

theorem good_mkset {t:TypeId} (hN:∀ b,¬cx.N b) (h:Rel cx nt e a w) (hop:o.op=.makeMap t none) (hd:o.dst=some d) (hlt:d<nt) (hK:Kt (e.setD (some d) (.val (.set [])))):Good P cx nt Kt o a w:=by
 refine good_make h hd hlt ?_ (h.r.allocSet h.clr hN) h.clr (fun s hs=>by rw [vadd_ne (by omega)]) (vadd_self ..) hK
 simp [execOp,hop,Instr.makeMap]

theorem setOf_spec {v:V} {r:Nat} {ks:List ByteArray} (h:e.setOf v=some (r,ks)):v=.same r∧e r=some (.val (.set ks)):=by
 unfold Env.setOf at h
 split at h
 · split at h
   · rename_i hes;cases h;exact ⟨rfl,hes⟩
   · cases h
 · cases h

theorem str_spec {x:Option V} {s:ByteArray} (h:x.bind asStr=some s):x=some (.val (.sc (.string s))):=by
 cases x with
 | none=>cases h
 | some v =>
  simp only [Option.bind_some] at h
  unfold asStr at h
  split at h
  · cases h;rfl
  · cases h

theorem beq_bytes (a b:ByteArray):(a == b)=decide (a=b):=by
 by_cases h:a=b
 · subst h;simp
 · simp [h]

theorem find_str (s:ByteArray):∀ (es:List MapEntry) (ks:List ByteArray) (i:Nat),es.map (·.key)=ks.map .string→(∀ x∈es,x.val=.bool true) →
 ∃ r,Instr.findNow .string (.string s) es i=some r∧(s∈ks→∃ j,r=some (i+j,.bool true)∧∃ x,es[j]?=some x∧x.key=.string s)∧(s ∉ ks→r=none)
 | [],[],i,_,_=>⟨none,rfl,fun h=>by simp at h,fun _=>rfl⟩
 | [],_::_,_,h,_=>by simp at h
 | _::_,[],_,h,_=>by simp at h
 | x::es,k::ks,i,h,hv=>by
  simp only [List.map_cons,List.cons.injEq] at h
  have hx:=hv x (by simp)
  simp only [Instr.findNow,h.1,Instr.sameNow,beq_bytes]
  by_cases hk:s=k
  · subst hk
    refine ⟨some (i,x.val),by simp,fun _=>⟨0,by simp [hx],x,rfl,h.1⟩,fun hc=>by simp at hc⟩
  · obtain ⟨r,h1,h2,h3⟩:=find_str s es ks (i+1) h.2 (fun y hy=>hv y (by simp [hy]))
    refine ⟨r,by simp [hk,h1],fun hc=>?_,fun hc=>h3 ?_⟩
    · have hc':s∈ks:=by simpa [hk] using hc
      obtain ⟨j,rfl,y,hy,hy2⟩:=h2 hc'
      exact ⟨j+1,by rw [show i+1+j=i+(j+1) from by omega],y,by simpa using hy,hy2⟩
    · simpa [hk] using hc

theorem run_checkStr {P:Program} {w:World} {kt:TypeId} {s:ByteArray} (hk:P.underlying kt=some .string) (em:Bool):(Instr.checkKey em 10000 kt (.string s)).run P w=.ok () w:=by
 show (Instr.checkKey em (9999+1) kt (.string s)).run P w=_
 rw [Instr.checkKey]
 simp only [Sem.run_bind,run_und hk,Result.andThen_ok,Sem.run_pure]

theorem good_look {x k:Opd} {x' k':Operand} {t kt vt:TypeId} {v:V} {s:ByteArray} {z:Nat×List ByteArray} (h:Rel cx nt e a w) (hop:o.op=.lookup t x' k' false) (hu:P.underlying t=some (.map kt vt)) (hk:P.underlying kt=some .string) (hz:(P.info? vt).bind (·.zero)=some (.bool false))
 (hx:okOpd cx.fm x x'=true) (hkk:okOpd cx.fm k k'=true) (hd:o.dst=some d) (hlt:d<nt) (h1:e.opd x=some v) (h2:(e.opd k).bind asStr=some s) (h3:e.setOf v=some z)
 (hK:Kt (e.setD (some d) (.val (.sc (.bool (decide (s∈z.2))))))):Good P cx nt Kt o a w:=by
 obtain ⟨r,ks⟩:=z
 obtain ⟨rfl,hes⟩:=setOf_spec h3
 have e1:=h.opd hx h1
 have e2:=ar_sc (h.opd hkk (str_spec h2))
 simp only [AR,arep] at e1
 have hr:=srep_val h.r hes
 simp only [Mch.rep] at hr
 obtain ⟨⟨g1,es,clock,g2,g3,g4⟩,_⟩:=hr
 obtain ⟨i,hi,hzv⟩:∃ i,P.info? vt=some i∧i.zero=some (.bool false):=by
  cases hi:P.info? vt with
  | none=>rw [hi] at hz;cases hz
  | some i=>rw [hi] at hz;exact ⟨i,rfl,hz⟩
 have hv:a.eval x'=.map (some (blk (vlA a r))):=by rw [e1.1];exact g1
 obtain ⟨res,f1,f2,f3⟩:=find_str s es.toList ks 0 g3 g4
 refine good_read h hd hlt ?_ (ar_mk rfl) hK
 simp only [execOp,hop,Instr.lookup,Sem.run_bind,run_und hu,Result.andThen_ok,hv,run_getObj_map _ _ _ _ g2,Sem.run_pure,e2,run_checkStr hk,Instr.findKey,run_und hk,f1]
 by_cases hc:s∈ks
 · obtain ⟨j,rfl,_⟩:=f2 hc
   simp [hc]
 · rw [f3 hc]
   simp [run_zero hi hzv,hc]

theorem good_upd {x k:Opd} {x' k':Operand} {t kt vt:TypeId} {v:V} {s:ByteArray} {z:Nat×List ByteArray} (h:Rel cx nt e a w) (hop:o.op=.mapUpdate t x' k' (.const (.bool true))∨o.op=.insert t x' k' (.const (.bool true))) (hu:P.underlying t=some (.map kt vt)) (hk:P.underlying kt=some .string)
 (hx:okOpd cx.fm x x'=true) (hkk:okOpd cx.fm k k'=true) (hd:o.dst=none) (h1:e.opd x=some v) (h2:(e.opd k).bind asStr=some s) (h3:e.setOf v=some z)
 (hK:Kt (e.setTree z.1 [] (.set (if s∈z.2 then z.2 else z.2++[s])))):Good P cx nt Kt o a w:=by
 obtain ⟨r,ks⟩:=z
 obtain ⟨rfl,hes⟩:=setOf_spec h3
 have e1:=h.opd hx h1
 have e2:=ar_sc (h.opd hkk (str_spec h2))
 simp only [AR,arep] at e1
 have hr:=srep_val h.r hes
 simp only [Mch.rep] at hr
 obtain ⟨⟨g1,es,clock,g2,g3,g4⟩,g5⟩:=hr
 have hv:a.eval x'=.map (some (blk (vlA a r))):=by rw [e1.1];exact g1
 obtain ⟨res,f1,f2,f3⟩:=find_str s es.toList ks 0 g3 g4
 have key:∀ (es':Array MapEntry) (clock':Nat),es'.toList.map (·.key)=(if s∈ks then ks else ks++[s]).map .string→(∀ y∈es'.toList,y.val=.bool true) →
  (Instr.mapUpdate t (.map (some (blk (vlA a r)))) (.string s) (.bool true)).run P w=.ok () { w with heap:=w.heap.setIfInBounds (blk (vlA a r)) (.map es' clock') }→Good P cx nt Kt o a w:=by
  intro es' clock' k1 k2 hrun
  generalize hw':({ w with heap:=w.heap.setIfInBounds (blk (vlA a r)) (.map es' clock') }:World)=w' at hrun
  have hlt:blk (vlA a r)<w.heap.size:=(Array.getElem?_eq_some_iff.1 g2).1
  have hsame:∀ b,b<w.heap.size→¬b=blk (vlA a r)→w'.heap[b]?=w.heap[b]?:=fun b _ hb=>by
   subst hw'
   exact Array.getElem?_setIfInBounds_ne (Ne.symm hb)
  have hat:w'.heap[blk (vlA a r)]?=some (.map es' clock'):=by
   subst hw'
   exact Array.getElem?_setIfInBounds_self_of_lt hlt
  obtain ⟨who,hw⟩:=h.r.who
  have hkeep:Keeps cx.M cx.w0 w':=by
   refine ⟨by subst hw';exact h.r.keeps.os,by subst hw';exact h.r.keeps.tape,by subst hw';exact h.r.keeps.output,by subst hw';simpa using h.r.keeps.size,fun b hb hM=>?_⟩
   have hne:b≠blk (vlA a r):=fun e'=>by
    subst e'
    rcases g5.2.1 rfl with h5 | h5
    · omega
    · exact hM h5
   rw [hsame b (Nat.lt_of_lt_of_le hb h.r.keeps.size) hne]
   exact h.r.keeps.block b hb hM
  have hR:=h.r.retag (e':=e.setTree r [] (.set (if s∈ks then ks else ks++[s]))) (w':=w') (q:=r) (d:=r) (t:=.set ks) (t':=.set (if s∈ks then ks else ks++[s])) (v':=vlA a r) (touch:=fun b=>b=blk (vlA a r)) hes hsame
   (fun b hb=>by subst hb;simp [cnt]) hkeep
   (by
    simp only [Mch.rep]
    exact ⟨⟨g1,es',clock',hat,k1,k2⟩,g5.1,g5.2.1,g5.2.2.1,fun hk=>(hk rfl).elim⟩)
   (fun b=>by simp only [cnt];split <;> omega) (fun b hb=>.inl (by simpa only [cnt] using hb)) (by simp [Env.setTree,hes,T.setAt])
   (fun s' y hs' hy=>by
    rcases setTree_some hes hy with ⟨h6,_⟩ | ⟨h6,h7,h8⟩
    · exact absurd h6 hs'
    · refine ⟨hs',h7,fun r' hr'=>?_⟩
      have hne:r'≠r:=fun e'=>by subst e';rw [h8] at hr';cases hr'
      refine ⟨hne,hne,?_⟩
      obtain ⟨u,hu'⟩:=h.r.root h7 hr'
      simp [Env.setTree,hne,Env.kill,hu',V.hits])
  have hrel:Rel cx nt (e.setTree r [] (.set (if s∈ks then ks else ks++[s]))) a w':=by
   refine ⟨hR.congr fun s' y _=>?_,fun j hj=>?_,h.size,h.defers⟩
   · by_cases hs:s'=r
     · subst hs;rw [vadd_self]
     · rw [vadd_ne hs]
   · have hjr:j≠r:=fun e'=>by subst e';rw [h.dom j hj] at hes;cases hes
     simp [Env.setTree,hjr,Env.kill,h.dom j hj]
  intro Qx
  unfold Oper.wp
  have hex:(execOp a.eval o).run P w=.ok .skip w':=by
   rcases hop with hop | hop <;>
   · simp only [execOp,hop,hv,e2,show a.eval (.const (.bool true))=Value.bool true from rfl,Sem.run_bind,hrun,Result.andThen_ok,Sem.run_pure]
  rw [hex]
  exact ⟨_,hK,by simpa [hd,Act.put] using hrel⟩
 by_cases hc:s∈ks
 · obtain ⟨j,rfl,y,hy,hyk⟩:=f2 hc
   have hyv:=g4 y (List.mem_of_getElem? hy)
   have hjl:j<es.size:=by have:=(List.getElem?_eq_some_iff.1 hy).1;simpa using this
   have hgj:es[j]?=some y:=by simpa using hy
   refine key (es.modify j fun e=>{ e with key:=.string s,val:=.bool true }) clock ?_ ?_ ?_
   · rw [if_pos hc,← g3]
     apply List.ext_getElem?
     intro i
     simp only [List.getElem?_map,Array.getElem?_toList,Array.getElem?_modify]
     by_cases hij:j=i
     · subst hij
       simp [hgj,hyk]
     · simp [hij]
   · intro u hu'
     obtain ⟨i,hi⟩:=List.getElem?_of_mem hu'
     simp only [Array.getElem?_toList,Array.getElem?_modify] at hi
     by_cases hij:j=i
     · subst hij
       simp [hgj] at hi
       rw [← hi]
     · simp [hij] at hi
       exact g4 u (List.mem_of_getElem? (i:=i) (by simpa using hi))
   · have hkeep:∀ v,v=Value.string s→(Instr.keyThatStays v (.string s)).run P w=.ok (.string s) w:=fun v hv'=>by
      subst hv'
      have:Instr.sameBits 10000 (.string s) (.string s)=true:=by
       show Instr.sameBits (9999+1) (.string s) (.string s)=true
       simp [Instr.sameBits]
      simp [Instr.keyThatStays,this]
     simp only [Instr.mapUpdate,Sem.run_bind,run_und hu,Result.andThen_ok,run_getObj_map _ _ _ _ g2,run_checkStr hk,Instr.findKey,run_und hk,f1,Sem.run_pure,Nat.zero_add,hgj,Option.map_some,Option.getD_some,hkeep _ hyk]
     exact MapKept.run_setObj_map _ g2
 · have hf:=f3 hc
   subst hf
   refine key (es.push { key:=.string s,val:=.bool true,born:=clock }) (clock+1) ?_ ?_ ?_
   · rw [if_neg hc]
     simp [g3]
   · intro u hu'
     simp only [Array.toList_push,List.mem_append,List.mem_singleton] at hu'
     rcases hu' with hu' | rfl
     · exact g4 u hu'
     · rfl
   · simp only [Instr.mapUpdate,Sem.run_bind,run_und hu,Result.andThen_ok,run_getObj_map _ _ _ _ g2,run_checkStr hk,Instr.findKey,run_und hk,f1,Sem.run_pure]
     exact MapKept.run_setObj_map _ g2


def flatV (vs:List Value):List Value:=vs.flatMap fun v=>v.cells.toList

theorem cells_one {fm:Nat→Nat} {ok:K→Nat→Prop} {w:World} {v:Value} {t:T} (h:rep fm ok w v t) (hc:t.cells.all T.isCell=true) :
 v.cells.toList.length=t.cells.length∧(∀ k,repL fm ok w (fun j=>v.cells.toList.getD (j-k) undef) k t.cells)∧∀ b k,cntL w (fun j=>v.cells.toList.getD (j-k) undef) b k t.cells=cnt w v b t:=by
 have one:∀ t:T,t.cells=[t]→t.isCell=true→rep fm ok w v t→v.cells.toList.length=t.cells.length∧(∀ k,repL fm ok w (fun j=>v.cells.toList.getD (j-k) undef) k t.cells)∧∀ b k,cntL w (fun j=>v.cells.toList.getD (j-k) undef) b k t.cells=cnt w v b t:=by
  intro t h1 h2 h3
  rw [h1,(isCell_oneCell h3 h2).2]
  refine ⟨rfl,fun k=>⟨?_,trivial⟩,fun b k=>?_⟩
  · simpa using h3
  · simp [cntL]
 cases t with
 | agg ts =>
  simp only [T.cells] at hc ⊢
  simp only [rep] at h
  obtain ⟨⟨cs,rfl,hs⟩,h2⟩:=h
  simp only [Value.cells]
  refine ⟨by simpa using hs,fun k=>?_,fun b k=>?_⟩
  · have:=(repL_shift (fm:=fm) (ok:=ok) (w:=w) (g:=fun j=>cs.toList.getD (j-k) undef) ts 0 k).2 (repL_congr ts 0 (fun j _ _=>by simp [kid,Array.getD_eq_getD_getElem?,List.getD_eq_getElem?_getD]) h2)
    simpa using this
  · have:=cntL_shift (w:=w) (g:=fun j=>cs.toList.getD (j-k) undef) (b:=b) ts 0 k
    rw [Nat.zero_add] at this
    rw [this]
    simp only [cnt]
    exact cntL_congr ts 0 fun j _ _=>by simp [kid,Array.getD_eq_getD_getElem?,List.getD_eq_getElem?_getD]
 | sc x=>exact one _ rfl rfl h
 | mem k s ts=>exact one _ rfl rfl h
 | fn f cs=>exact one _ rfl rfl h
 | gone=>simp [T.cells,T.isCell] at hc
 | nul=>simp [T.cells,T.isCell] at hc
 | tup ts=>simp [T.cells,T.isCell] at hc
 | set ks=>simp [T.cells,T.isCell] at hc

theorem flat_rep {fm:Nat→Nat} {ok:K→Nat→Prop} {w:World}:∀ (ts:List T) (vs:List Value),vs.length=ts.length→ts.all (fun t=>t.cells.all T.isCell)=true→repL fm ok w (fun j=>vs.getD j undef) 0 ts →
 (flatV vs).length=(ts.flatMap T.cells).length∧repL fm ok w (fun j=>(flatV vs).getD j undef) 0 (ts.flatMap T.cells)∧∀ b,cntL w (fun j=>(flatV vs).getD j undef) b 0 (ts.flatMap T.cells)=cntL w (fun j=>vs.getD j undef) b 0 ts
 | [],[],_,_,_=>⟨rfl,trivial,fun _=>rfl⟩
 | [],_::_,h,_,_=>by simp at h
 | _::_,[],h,_,_=>by simp at h
 | t::ts,v::vs,hl,hc,h=>by
  simp only [List.all_cons,Bool.and_eq_true] at hc
  simp only [repL,List.getD_cons_zero] at h
  have hr:repL fm ok w (fun j=>vs.getD j undef) 0 ts:=by
   have:=(repL_shift (fm:=fm) (ok:=ok) (w:=w) (g:=fun j=>(v::vs).getD j undef) ts 0 1).1 (by simpa using h.2)
   exact repL_congr ts 0 (fun j _ _=>by simp) this
  obtain ⟨g1,g2,g3⟩:=flat_rep ts vs (by simpa using hl) (by simpa using hc.2) hr
  obtain ⟨c1,c2,c3⟩:=cells_one h.1 hc.1
  have hf:flatV (v::vs)=v.cells.toList++flatV vs:=rfl
  have hsh:∀ j,t.cells.length≤j→(flatV (v::vs)).getD j undef=(flatV vs).getD (j-t.cells.length) undef:=fun j hj=>by
   rw [hf,List.getD_eq_getElem?_getD,List.getElem?_append_right (by omega),List.getD_eq_getElem?_getD,c1]
  have hlo:∀ j,j<t.cells.length→(flatV (v::vs)).getD j undef=v.cells.toList.getD j undef:=fun j hj=>by
   rw [hf,List.getD_eq_getElem?_getD,List.getElem?_append_left (by omega),List.getD_eq_getElem?_getD]
  refine ⟨by rw [hf];simp only [List.flatMap_cons,List.length_append,c1,g1],?_,fun b=>?_⟩
  · rw [List.flatMap_cons,repL_append]
    refine ⟨repL_congr _ 0 (fun j _ hj=>by rw [Nat.zero_add] at hj;rw [hlo j hj];simp) (c2 0),?_⟩
    rw [repL_shift]
    exact repL_congr _ 0 (fun j _ _=>by rw [hsh _ (by omega)];congr 1;omega) g2
  · rw [List.flatMap_cons,cntL_append]
    have e1:cntL w (fun j=>(flatV (v::vs)).getD j undef) b 0 t.cells=cnt w v b t:=by
     rw [← c3 b 0]
     exact cntL_congr _ 0 fun j _ hj=>by rw [Nat.zero_add] at hj;rw [hlo j hj];simp
    have e2:cntL w (fun j=>(flatV (v::vs)).getD j undef) b (0+t.cells.length) (ts.flatMap T.cells)=cntL w (fun j=>vs.getD j undef) b 0 ts:=by
     rw [cntL_shift,← g3 b]
     exact cntL_congr _ 0 fun j _ _=>by rw [hsh _ (by omega)];congr 1;omega
    rw [e1,e2]
    simp only [cntL,List.getD_cons_zero]
    have:=cntL_shift (w:=w) (g:=fun j=>(v::vs).getD j undef) (b:=b) ts 0 1
    rw [this]
    congr 1

theorem fill_many {sz:Nat}:∀ (l:List (Nat×Value)) (k:Nat) (cells:Array Value),l.map (·.1)=List.range' k l.length→(∀ p,p∈l→p.2.cells.size=sz)→(k+l.length)*sz≤cells.size →
 ∃ out,Instr.fill (fun i=>some (i*sz,sz)) cells l=some out∧out.size=cells.size∧∀ i,out[i]?=if k*sz≤i∧i<(k+l.length)*sz then (flatV (l.map (·.2)))[i-k*sz]? else cells[i]?
 | [],k,cells,_,_,_=>⟨cells,rfl,rfl,fun i=>by rw [if_neg (by simp only [List.length_nil,Nat.add_zero];omega)]⟩
 | (j,v)::l,k,cells,hl,h1,hs=>by
  simp only [List.map_cons,List.length_cons,List.range'_succ,List.cons.injEq] at hl hs
  obtain ⟨rfl,hl⟩:=hl
  have hv:v.cells.size=sz:=h1 (j,v) (by simp)
  have hm:(j+(l.length+1))*sz=j*sz+sz+l.length*sz:=by rw [Nat.add_mul,Nat.add_mul];omega
  have hm2:(j+1)*sz=j*sz+sz:=by rw [Nat.add_mul];omega
  have hm3:(j+1+l.length)*sz=j*sz+sz+l.length*sz:=by rw [Nat.add_mul,hm2]
  obtain ⟨c1,q1,q2,q3⟩:=zip_put v.cells cells (j*sz) (by omega)
  obtain ⟨out,g1,g2,g3⟩:=fill_many l (j+1) c1 hl (fun p hp=>h1 p (by simp [hp])) (by rw [q2];omega)
  refine ⟨out,?_,by rw [g2,q2],fun i=>?_⟩
  · simp only [Instr.fill]
    rw [if_neg (by simp only [Bool.or_eq_true,decide_eq_true_eq,ne_eq,not_or];omega),q1]
    exact g1
  · rw [g3,hm3,hm2]
    simp only [List.length_cons,List.map_cons]
    rw [hm]
    have hf:flatV (v::l.map (·.2))=v.cells.toList++flatV (l.map (·.2)):=rfl
    rw [hf]
    by_cases h4:j*sz+sz≤i∧i<j*sz+sz+l.length*sz
    · rw [if_pos h4,if_pos (by omega),List.getElem?_append_right (by simp;omega)]
      congr 1
      simp
      omega
    · rw [if_neg h4,q3,hv]
      by_cases h5:j*sz≤i∧i<j*sz+sz
      · rw [if_pos h5,if_pos (by omega),List.getElem?_append_left (by simp;omega)]
        simp
      · rw [if_neg h5,if_neg (by omega)]

theorem good_bsls0 {sz:Nat} {ps:List Opd} {ps':Array (Nat×Operand)} {n:Nat} {t el:TypeId} {vs:List V} {ts:List T} {e1:Env} (hN:∀ b,¬cx.N b) (h:Rel cx nt e a w) (hop:o.op=.buildSlice t n ps') (hel:elOf P t=some el) (hsz:szOf P el=some sz) (hpos:0<sz)
 (hz:(zeroOf P el).any (fun z=>z.length == sz)=true) (hn:n*sz≤16777216) (hr:ps'.toList.map (·.1)=List.range n) (hps:okOpds cx.fm ps (ps'.toList.map (·.2))=true) (hd:o.dst=some d) (hlt:d<nt)
 (h1:e.opds ps=some vs) (h2:e.takeL vs=some (ts,e1)) (hcell:ts.all (fun t=>t.cells.length == sz&&t.cells.all T.isCell)=true) (hK:Kt (e1.setD (some d) (.val (.mem .own (some sz) (ts.flatMap T.cells))))):Good P cx nt Kt o a w:=by
 obtain ⟨g1,g2⟩:=h.opds ps _ hps h1
 have hlen:ps'.toList.length=n:=by have:=congrArg List.length hr;simpa using this
 have hlen2:vs.length=n:=by rw [g1];simpa using hlen
 have g3:=g2 (fun j=>((ps'.toList.map (·.2)).map a.eval).getD j undef) 0 (fun j _=>by rw [Nat.zero_add])
 obtain ⟨vl,k1,⟨us,k2,k3,k4⟩,k5,k6,k7,_⟩:=takeL_sound vs _ 0 nt e (vlA a) h.r h.clr (Nat.le_refl _) (arwL_of h.dom vs _ 0 g3) h2
 have hq:=srep_val k5 (add_self ..)
 rw [k2] at hq
 simp only [Mch.rep] at hq
 have hcA:ts.all (fun t=>t.cells.all T.isCell)=true:=by
  rw [List.all_eq_true] at hcell ⊢
  intro t ht
  have:=hcell t ht
  simp only [Bool.and_eq_true] at this
  exact this.2
 have hcS:∀ t,t∈ts→t.cells.length=sz:=fun t ht=>by
  rw [List.all_eq_true] at hcell
  have:=hcell t ht
  simp only [Bool.and_eq_true,beq_iff_eq] at this
  exact this.1
 have hussz:us.toList.length=ts.length:=by simp [k3,k7]
 obtain ⟨f1,f2,f3⟩:=flat_rep ts us.toList hussz hcA (repL_congr ts 0 (fun j _ _=>by simp [kid,Array.getD_eq_getD_getElem?,List.getD_eq_getElem?_getD]) hq.2)
 have husc:∀ j,j<n→(us.getD j undef).cells.size=sz:=fun j hj=>by
  have hjt:j<ts.length:=by omega
  have hrt:=repL_get ts 0 j hq.2 (List.getElem?_eq_getElem hjt)
  have hct:(ts[j]).cells.all T.isCell=true:=by
   rw [List.all_eq_true] at hcA
   exact hcA _ (List.getElem_mem hjt)
  have:=(cells_one hrt hct).1
  rw [hcS _ (List.getElem_mem hjt)] at this
  simpa [kid] using this
 have k8:R cx (e1.add nt (.val (.tup (ts.flatMap T.cells)))) (vadd vl nt (.tuple (flatV us.toList).toArray)) w:=by
  refine k5.refit k6 ?_ fun b=>?_
  · simp only [Mch.rep]
    refine ⟨⟨_,rfl,by simp [f1]⟩,repL_congr _ 0 (fun j _ _=>by simp [kid,Array.getD_eq_getD_getElem?,List.getD_eq_getElem?_getD]) f2⟩
  · rw [k2]
    simp only [cnt]
    rw [cntL_congr (g:=kid w (.tuple (flatV us.toList).toArray)) (g':=fun j=>(flatV us.toList).getD j undef) _ 0 (fun j _ _=>by simp [kid,Array.getD_eq_getD_getElem?,List.getD_eq_getElem?_getD]),f3,
     cntL_congr (g:=fun j=>us.toList.getD j undef) (g':=kid w (.tuple us)) ts 0 (fun j _ _=>by simp [kid,Array.getD_eq_getD_getElem?,List.getD_eq_getElem?_getD])]
    exact Nat.le_refl _
 have hu:=elOf_spec hel
 obtain ⟨iz,hiz⟩:∃ i,P.info? el=some i:=by
  unfold szOf at hsz
  cases hi:P.info? el with
  | none=>rw [hi] at hsz;cases hsz
  | some i=>exact ⟨i,rfl⟩
 obtain ⟨z,hzv⟩:∃ z,iz.zero=some z:=by
  unfold zeroOf at hz
  rw [hiz] at hz
  cases hz':iz.zero with
  | none=>simp [hz'] at hz
  | some z=>exact ⟨z,rfl⟩
 generalize hzc:(Array.range (n*sz)).map ((if n*sz=0 then #[] else z.cells)[· % (if n*sz=0 then #[] else z.cells).size]!)=cells0
 have hc0:cells0.size=n*sz:=by rw [← hzc];simp
 have hvals:(ps'.map fun (i,x)=>(i,a.eval x)).toList.map (·.2)=us.toList:=by
  apply List.ext_getElem?
  intro j
  rcases Nat.lt_or_ge j n with hj | hj
  · have hjl:j<ps'.toList.length:=by omega
    have:=k4 j (by omega)
    have hju:j<us.size:=by omega
    have e2:us.toList[j]?=some us[j]:=by simp [hju]
    rw [e2]
    rw [Array.getD_eq_getD_getElem?,Array.getElem?_eq_getElem hju] at this
    simp only [Option.getD_some,Nat.zero_add,List.map_map,List.getD_eq_getElem?_getD,List.getElem?_map,List.getElem?_eq_getElem hjl,Option.map_some,Function.comp] at this
    rw [this]
    simp only [Array.toList_map,List.map_map,List.getElem?_map,List.getElem?_eq_getElem hjl,Option.map_some,Function.comp]
  · rw [List.getElem?_eq_none (by simp;simp at hlen;omega),List.getElem?_eq_none (by simp;omega)]
 obtain ⟨out,q1,q2,q3⟩:=fill_many (sz:=sz) (ps'.map fun (i,x)=>(i,a.eval x)).toList 0 cells0 (by
  rw [Array.toList_map,List.map_map]
  simp only [List.length_map]
  rw [hlen,← List.range_eq_range',← hr]
  rfl) (fun p hp=>by
  have hp2:p.2∈us.toList:=by rw [← hvals];exact List.mem_map_of_mem hp
  obtain ⟨j,hj,he⟩:=List.getElem_of_mem hp2
  have:=husc j (by simp at hj;omega)
  rw [← he]
  simpa [Array.getD_eq_getD_getElem?,show j<us.size from by simpa using hj] using this) (by simp only [Array.toList_map,List.length_map,hlen,hc0,Nat.zero_add];exact Nat.le_refl _)
 rw [hvals] at q3
 simp only [Nat.zero_mul,Nat.zero_add,Nat.zero_le,true_and,Nat.sub_zero,Array.toList_map,List.length_map,hlen] at q3
 have hfl:(ts.flatMap T.cells).length=n*sz:=by
  have:∀ ts:List T,(∀ t,t∈ts→t.cells.length=sz)→(ts.flatMap T.cells).length=ts.length*sz:=by
   intro ts
   induction ts with
   | nil=>intro _;simp
   | cons t ts ih =>
    intro hh
    rw [List.flatMap_cons,List.length_append,hh t (by simp),ih fun t ht=>hh t (by simp [ht]),List.length_cons,Nat.add_mul]
    omega
  rw [this ts hcS,← k7,hlen2]
 have hal:=k8.alloc (s:=some sz) (v':=.slice (some ⟨w.heap.size,0,none⟩) n n) (arr:=out) (elem:=el) k6 hN (vadd_self ..) (fun j hj=>by
  rw [hfl] at hj
  rw [q3,if_pos hj]
  have hj2:j<(flatV us.toList).length:=by rw [f1,hfl];exact hj
  rw [List.getElem?_eq_getElem hj2]
  simp [Array.getD_eq_getD_getElem?,hj2]) rfl rfl
  ⟨n,rfl,hfl,hpos,Nat.le_refl _⟩ (by simp only [roomN,capOf];rw [q2,hc0];exact Nat.le_refl _)
 refine good_make h hd hlt ?_ hal k6 (fun s hs=>by rw [vadd_ne (by omega),vadd_ne (by omega)];exact k1 s hs) (vadd_self ..) hK
 have hbs:(Instr.buildSlice t n (ps'.map fun (i,x)=>(i,a.eval x))).run P w=.ok (.slice (some ⟨w.heap.size,0,none⟩) n n) (w.alloc (.cells out el)):=by
  have hbig:¬(n*sz>2 ^ 24):=by omega
  simp only [Instr.buildSlice,Sem.run_bind,run_und hu,Result.andThen_ok,run_szOf hsz]
  rw [if_neg hbig]
  by_cases hn0:n*sz=0
  · rw [if_pos hn0]
    rw [if_pos hn0] at hzc
    simp only [Sem.run_bind,Sem.run_pure,Result.andThen_ok]
    rw [hzc,q1]
    simp [newRow]
  · rw [if_neg hn0]
    simp only [Sem.run_bind,run_zero hiz hzv,Sem.run_pure,Result.andThen_ok]
    rw [if_neg hn0] at hzc
    rw [hzc,q1]
    simp [newRow]
 simp only [execOp,hop,Sem.run_bind,hbs,Result.andThen_ok,Sem.run_pure]

theorem kill_kill (e:Env) (r:Nat) (p:List Nat):(e.kill r p).kill r p=e.kill r p:=by
 funext s
 simp only [Env.kill]
 cases e s with
 | none=>rfl
 | some v =>
  by_cases hh:v.hits r p=true
  · simp [hh]
  · simp [hh]

theorem good_bsls {m:K} {sz:Nat} {fr fo:Bool} {ps:List Opd} {ps':Array (Nat×Operand)} {n:Nat} {t el:TypeId} {vs:List V} {ts:List T} {e1:Env} (hN:∀ b,¬cx.N b) (hm:m≠.own) (hm2:m=.fresh→∀ b,¬cx.M b) (h:Rel cx nt e a w) (hop:o.op=.buildSlice t n ps') (hel:elOf P t=some el) (hsz:szOf P el=some sz) (hpos:0<sz)
 (hz:(zeroOf P el).any (fun z=>z.length == sz)=true) (hn:n*sz≤16777216) (hr:ps'.toList.map (·.1)=List.range n) (hps:okOpds cx.fm ps (ps'.toList.map (·.2))=true) (hd:o.dst=some d) (hlt:d<nt)
 (h1:e.opds ps=some vs) (h2:e.takeL vs=some (ts,e1)) (hcell:ts.all (fun t=>t.cells.length == sz&&t.cells.all T.isCell)=true)
 (hK:Kt (e1.setD (some d) (.val (.mem (if fo then m else .own) (some sz) (if fr||fo then T.frzL m (ts.flatMap T.cells) else ts.flatMap T.cells))))):Good P cx nt Kt o a w:=by
 have h0:=good_bsls0 (Kt:=fun e'=>e'=e1.setD (some d) (.val (.mem .own (some sz) (ts.flatMap T.cells)))) hN h hop hel hsz hpos hz hn hr hps hd hlt h1 h2 hcell rfl
 refine h0.turn fun e' a' w' he hrel=>?_
 subst he
 have hself:(e1.setD (some d) (.val (.mem .own (some sz) (ts.flatMap T.cells)))) d=some (.val (.mem .own (some sz) (ts.flatMap T.cells))):=by simp [Env.put,V.hits]
 have hother:∀ (t t':T) s,s≠d→((e1.setD (some d) (.val t)).kill d []) s=(e1.setD (some d) (.val t')) s:=fun t t' s hs=>by
  have:=congrFun (kill_kill e1 d []) s
  simp only [Env.kill] at this
  simp only [Env.setD,Env.put,Env.kill,if_neg hs]
  exact this
 cases fo
 · cases fr
   · exact ⟨_,hK,hrel⟩
   · have hf:(e1.setD (some d) (.val (.mem .own (some sz) (ts.flatMap T.cells)))).freezeIn m d=some (e1.setD (some d) (.val (.mem .own (some sz) (T.frzL m (ts.flatMap T.cells))))):=by
      unfold Env.freezeIn
      rw [hself]
      simp only [Option.some.injEq]
      funext s
      by_cases hs:s=d
      · subst hs;simp [Env.put,V.hits]
      · rw [if_neg hs];exact hother _ _ s hs
     exact ⟨_,hK,hrel.freezeIn hN hm hm2 hf⟩
 · have hf:(e1.setD (some d) (.val (.mem .own (some sz) (ts.flatMap T.cells)))).freeze m d=some (e1.setD (some d) (.val (.mem m (some sz) (T.frzL m (ts.flatMap T.cells))))):=by
    unfold Env.freeze
    rw [hself]
    simp only [Option.some.injEq]
    funext s
    by_cases hs:s=d
    · subst hs;simp [Env.put,V.hits,T.frz]
    · rw [if_neg hs];exact hother _ _ s hs
   refine ⟨_,?_,hrel.freeze hN hm hm2 hf⟩
   simpa using hK
end
end Go.Mch
