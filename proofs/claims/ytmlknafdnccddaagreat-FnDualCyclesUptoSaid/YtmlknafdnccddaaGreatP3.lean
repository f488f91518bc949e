/- Our texts YqH YqI YgA YlJ YqJ YqK YqL YqM YqN YqO YqP YqQ YqR YqS YqT YqV YqU YqW YqY YqX YqZ YrA,end to end. -/
import Derived.Test.YtmlknafdnccddaaGreatP1
import Derived.Shelf.Abstract
import Derived.RangeFuncSeq
import Derived.Test.YtmlknafdnccddaaGreatM4
import Derived.ProofKit
import Derived.OpenShut
import Derived.JoinedCond
import Derived.WideKeyArgs
import Derived.Test.YtmlknafdnccddaaGreatYeG
import Derived.Test.YtmlknafdnccddaaGreatP2
namespace Go.Mch
open Go Go.RowKit Go.Shelf

structure Done (fm:Nat→Nat) (B4 o4 B5 o5:Nat) (t:T) (L:Nat) (W:World):Prop where
 cells:∃ v,W.cell? ⟨B4,o4,none⟩=some v∧W.cell? ⟨B5,o5,none⟩=some (.int .i64 0)∧(∀ b,cnt W v b t≤1)∧rep fm (fun k b=>k=.own∧L≤b) W v t
def oncePost (fm:Nat→Nat) (B4 o4 B5 o5:Nat) (p:List Int) (W:World):Exit→Act→World→Prop
 | .ret,_,W'=>Keeps (fun b=>b=B4∨b=B5) W W'∧Done fm B4 o4 B5 o5 (ownL p) W.heap.size W'
 | _,_,_=>False

theorem Done.less {fm:Nat→Nat} {B4 o4 B5 o5 L L':Nat} {t:T} {W:World} (h:Done fm B4 o4 B5 o5 t L W) (hl:L'≤L):Done fm B4 o4 B5 o5 t L' W:=by
 obtain ⟨v,c4,c5,hc,hr⟩:=h.cells
 exact ⟨v,c4,c5,hc,rep_ok (fun k b _ _ ho=>⟨ho.1,by have:=ho.2;omega⟩) _ v (fun b _ _ ho=>⟨ho.1,by have:=ho.2;omega⟩) hr⟩
theorem Done.turn {fm:Nat→Nat} {B4 o4 B5 o5 L:Nat} {t:T} {W W':World} (h:Done fm B4 o4 B5 o5 t L W) (h4:W'.heap[B4]?=W.heap[B4]?) (h5:W'.heap[B5]?=W.heap[B5]?) (hs:∀ b,b<W.heap.size→L≤b→W'.heap[b]?=W.heap[b]?):Done fm B4 o4 B5 o5 t L W':=by
 obtain ⟨v,c4,c5,hc,hr⟩:=h.cells
 have hf:=frame (touch:=fun b=>b<L) (w':=W') (fun b hb ht=>hs b hb (by omega)) (fun k b hk ho=>absurd ho.1 hk) t v hr (fun b hb=>by
  rcases Nat.lt_or_ge 0 (cnt W v b t) with h1 | h1
  · have:=(rep_owned t v hr b h1).1.2
    omega
  · omega)
 exact ⟨v,by rw [World.cell?_of_block h4];exact c4,by rw [World.cell?_of_block h5];exact c5,fun b=>by rw [hf.2];exact hc b,hf.1⟩

set_option maxHeartbeats 1000000 in
theorem range_iso {P:Program} {k:Nat} {fm:Nat→Nat} {g:Operand} {ps:Array Tmp} {assign body:Code} {Q:Exit→Act→World→Prop} {a:Act} {w:World} {gf:Nat} {p1 p2:Value} {A C:List (List (List Int))} {n n' B4 o4 B5 o5:Nat} {a₁:Value→Act} {v4 v5:Value}
 (hg:a.eval g=.func (.func gf) #[] #[p1,p2]) (eg:∀ (args:Array Value) (w:World),(callFunc gf args).run P w=.ok (.enter gf args) w) (hps:ps.size=1)
 (h4:w.cell? ⟨B4,o4,none⟩=some v4) (h5:w.cell? ⟨B5,o5,none⟩=some v5)
 (hp1:rep fm (fun k b=>k=.old∧b≠B4∧b≠B5) w p1 (.mem .old none [tba A])) (hp2:rep fm (fun k b=>k=.old∧b≠B4∧b≠B5) w p2 (.mem .old none [tba C]))
 (hcall:∀ (l k:Nat) (W:World) (Z:Nat→Prop) (Jx:List Int→World→World→Prop),(∀ b,Z b→b<W.heap.size)→rep fm (fun k b=>k=.old∧¬Z b) W p1 (.mem .old none [tba A])→rep fm (fun k b=>k=.old∧¬Z b) W p2 (.mem .old none [tba C]) →
  (∀ (p:List Int) (W1:World) (v:Value) (k:Nat),Kp (fun b=>b<W.heap.size) W W1→p.length=n→rep fm (fun k b=>k=.old∧¬Z b) W1 v (ix p) →
   YieldAt Fence.wide k P l #[v] W1 fun e W2=>e=.returned (.bool false)∧Turned Z W1 W2∧Jx p W1 W2) →
  CallsIn Fence.wide k P gf #[.func (.yield l) #[] #[],p1,p2] W (IsoPost A C n n' Jx Z W))
 (hassign:∀ (l k:Nat) (v:Value) (W:World) (K:Act→World→Prop),K (a₁ v) W→assign.wpIn (Fence.wide.inRound l) k P (Exit.then K (fun _ _ _=>False)) { tmps:=(ps.zip #[v]).foldl (fun t (p,v)=>t.setIfInBounds p v) a.tmps,defers:=[] } W)
 (hbody:∀ (l k:Nat) (v:Value) (p:List Int) (W:World),p.length=n→rep fm (fun k b=>k=.old∧b≠B4∧b≠B5) W v (ix p)→W.heap[B4]?=w.heap[B4]?→W.heap[B5]?=w.heap[B5]?→w.heap.size≤W.heap.size→body.wpIn (Fence.wide.inRound l) k P (oncePost fm B4 o4 B5 o5 p W) (a₁ v) W)
 (hdone:∀ (W:World),(n'≠n∨∀ q,¬Iso A C n q)→Keeps (fun _=>False) w W→W.heap[w.heap.size]?=some (.deferred (some []))→Q .normal { a with defers:={ target:=.collected w.heap.size,args:=#[] }::a.defers } W)
 (hstop:∀ (W:World) (p:Nat→Nat),n'=n→Fst A C n (mp0 n) p→Keeps (fun b=>b=B4∨b=B5) w W→Done fm B4 o4 B5 o5 (ownL (lstN n p)) (w.heap.size+2) W→W.heap[w.heap.size]?=some (.deferred (some []))→Q .ret { a with defers:={ target:=.collected w.heap.size,args:=#[] }::a.defers } W) :
 (Code.rangeFunc g ps assign body).wpIn Fence.wide k P Q a w:=by
 refine wpIn_rangeFunc ?_
 intro fn hfn
 have hro:Fence.wide.round=none:=rfl
 rw [hro]
 have hB4:=blk_lt h4
 have hB5:=blk_lt h5
 simp only at hB4 hB5
 obtain ⟨rec,hrec⟩:∃ rec:LoopState→Option Code→Loop,rec=fun st pe=>{ state:=st,pending:=pe,fn,tmps:=a.tmps,params:=ps,assign,body,defers:=w.heap.size }:=⟨_,rfl⟩
 obtain ⟨W1,hW1⟩:∃ W1,(w.alloc (.deferred (some []))).alloc (.loop (rec .ready none))=W1:=⟨_,rfl⟩
 have hL1:W1.heap[w.heap.size+1]?=some (.loop (rec .ready none)):=by
  rw [← hW1];have:=World.alloc_heap_new (w.alloc (.deferred (some []))) (.loop (rec .ready none));rwa [World.size_alloc] at this
 have hK1:W1.heap[w.heap.size]?=some (.deferred (some [])):=by
  rw [← hW1];exact (Below.heap_alloc _ _ _ (by simp)).trans (World.alloc_heap_new w _)
 have hs1:W1.heap.size=w.heap.size+2:=by rw [← hW1];simp
 have hw1:∀ b,b<w.heap.size→W1.heap[b]?=w.heap[b]?:=fun b hb=>by
  rw [← hW1]
  exact (Below.heap_alloc _ _ _ (by simp;omega)).trans (Below.heap_alloc _ _ _ hb)
 have hos:W1.os=w.os∧W1.tape=w.tape∧W1.output=w.output:=by rw [← hW1];exact ⟨rfl,rfl,rfl⟩
 refine ⟨w.heap.size+1,[{ target:=.collected w.heap.size,args:=#[] }],W1,{ target:=.fn (.func gf) #[p1,p2],args:=#[.func (.yield (w.heap.size+1)) #[] #[]] },W1,gf,
  #[.func (.yield (w.heap.size+1)) #[] #[]]++#[p1,p2],W1,?_,?_,?_,?_,fun h=>(by cases h),?_⟩
 · rw [← hW1,hrec];exact run_enterLoop_outer _ _ _ _ _
 · simp only [resolve,hg]
   simp [go_sem]
 · intro f' hf';trivial
 · simp [invoke,go_sem,eg]
 · have hrp:∀ {q:Value} {X:List (List (List Int))},rep fm (fun k b=>k=.old∧b≠B4∧b≠B5) w q (.mem .old none [tba X])→rep fm (fun k b=>k=.old∧¬(b=B4∨b=B5∨b=w.heap.size+1)) W1 q (.mem .old none [tba X]):=fun {q X} h=>by
    have h1:=rep_ok (ok':=fun k b=>(k=.old∧b≠B4∧b≠B5)∧b<w.heap.size) (fun k b _ hb ho=>⟨ho,hb⟩) _ q (fun b _ hb ho=>⟨ho,hb⟩) h
    have h2:=(frame (touch:=fun _=>False) (w':=W1) (fun b hb _=>hw1 b hb) (fun _ _ _ _ h=>h) _ q h1 (fun _ h=>h.elim)).1
    exact rep_ok (fun k b _ _ ho=>⟨ho.1.1,fun hh=>by have:=ho.1.2;have:=ho.2;omega⟩) _ q (fun b _ _ ho=>⟨ho.1.1,fun hh=>by have:=ho.1.2;have:=ho.2;omega⟩) h2
   refine (hcall (w.heap.size+1) (k-1) W1 (fun b=>b=B4∨b=B5∨b=w.heap.size+1)
    (fun p Wa Wb=>Wb.heap[w.heap.size+1]?=some (.loop (rec .done (some .ret)))∧Keeps (fun b=>b=B4∨b=B5∨b=w.heap.size+1) Wa Wb∧Done fm B4 o4 B5 o5 (ownL p) Wa.heap.size Wb)
    (fun b hb=>by omega) (hrp hp1) (hrp hp2) ?_).mono ?_
   · intro p Wa v k' hka hpl hv
     have hsa:=hka.size
     have hla:Wa.heap[w.heap.size+1]?=some (.loop (rec .ready none)):=(hka.same _ (by omega) (by omega)).trans hL1
     have hy:=run_yield (P:=P) (args:=#[v]) hla (by rw [hrec];simp [hps])
     rw [hrec] at hy
     refine ⟨fn,_,assign,body,hy,roundIn_of_wpIn hfn (hassign _ _ v Wa _ ⟨_,run_beginRound hla (by rw [hrec]),?_⟩)⟩
     generalize hWb:Wa.putObj (w.heap.size+1) (.loop { rec .ready none with state:=.busy })=Wb
     have hlb:Wb.heap[w.heap.size+1]?=some (.loop { rec .ready none with state:=.busy }):=by rw [← hWb];exact World.putObj_heap_same (by omega)
     have hob:∀ b,b≠w.heap.size+1→Wb.heap[b]?=Wa.heap[b]?:=fun b hb=>by rw [← hWb];exact World.putObj_heap_other hb
     have hsb:Wb.heap.size=Wa.heap.size:=by rw [← hWb];simp
     have hosb:Wb.os=Wa.os∧Wb.tape=Wa.tape∧Wb.output=Wa.output:=by rw [← hWb];exact ⟨rfl,rfl,rfl⟩
     have hvb:rep fm (fun k b=>k=.old∧b≠B4∧b≠B5) Wb v (ix p):=by
      have h2:=(frame (touch:=fun b=>b=w.heap.size+1) (w':=Wb) (fun b _ ht=>hob b ht) (fun k b _ h ht=>h.2 (by omega)) _ v hv (fun b _=>cnt_noOwn _ _ _ _ (by simp))).1
      exact rep_ok (fun k b _ _ ho=>⟨ho.1,fun h=>ho.2 (by omega),fun h=>ho.2 (by omega)⟩) _ v (fun b _ _ ho=>⟨ho.1,fun h=>ho.2 (by omega),fun h=>ho.2 (by omega)⟩) h2
     refine wpIn_mono (hbody _ _ v p Wb hpl hvb ((hob _ (by omega)).trans ((hka.same _ (by omega) (by omega)).trans (hw1 _ hB4))) ((hob _ (by omega)).trans ((hka.same _ (by omega) (by omega)).trans (hw1 _ hB5))) (by omega)) ?_
     rintro e a3 W3 hp
     cases e with
     | ret =>
      obtain ⟨hk3,hd3⟩:=hp
      have hl3:W3.heap[w.heap.size+1]?=some (.loop { rec .ready none with state:=.busy }):=(hk3.block _ (by omega) (by omega)).trans hlb
      have hr:=run_endRound (P:=P) (some .ret) hl3
      have hs3:=hk3.size
      refine ⟨_,_,hr,rfl,⟨by simp;omega,fun b hb hz=>?_⟩,?_,⟨?_,?_,?_,by simp;omega,fun b hb hz=>?_⟩,?_⟩
      · rw [World.putObj_heap_other (by omega),hk3.block b (by omega) (by omega),hob b (by omega)]
      · rw [World.putObj_heap_same (by omega),hrec]
        rfl
      · exact hk3.os.trans hosb.1
      · exact hk3.tape.trans hosb.2.1
      · exact hk3.output.trans hosb.2.2
      · rw [World.putObj_heap_other (by omega),hk3.block b (by omega) (by omega),hob b (by omega)]
      · exact Done.turn (W:=W3) (hd3.less (by omega)) (World.putObj_heap_other (by omega)) (World.putObj_heap_other (by omega)) (fun b _ hb=>World.putObj_heap_other (by omega))
     | normal=>exact hp.elim
     | exit id=>exact hp.elim
     | goto t=>exact hp.elim
     | panic ch=>exact hp.elim
     | outgrown=>exact hp.elim
   · rintro e W2 ⟨⟨v,rfl⟩,(⟨hno,hk2⟩ | ⟨hnn,p,Wa,Wb,hF,hka,hT,⟨hlb,hkb,hd⟩,hk2⟩)⟩
     · have hl2:W2.heap[w.heap.size+1]?=some (.loop (rec .ready none)):=(hk2.same _ (by omega) (by omega)).trans hL1
       have hs2:=hk2.size
       have hend:(Instr.endLoop (w.heap.size+1)).run P W2=.ok none (W2.putObj (w.heap.size+1) (.loop { rec .ready none with state:=.exhausted })):=by
        rw [run_endLoop (P:=P) hl2 (by rw [hrec];simp),hrec]
       refine ⟨none,_,hend,hdone _ hno ⟨hk2.os.trans hos.1,hk2.tape.trans hos.2.1,hk2.output.trans hos.2.2,by simp;omega,fun b hb _=>?_⟩ ?_⟩
       · rw [World.putObj_heap_other (by omega),hk2.same b (by omega) (by omega),hw1 b hb]
       · rw [World.putObj_heap_other (by omega),hk2.same _ (by omega) (by omega),hK1]
     · have hsa:=hka.size
       have hsb:=hkb.size
       have hs2:=hk2.size
       have hl2:W2.heap[w.heap.size+1]?=some (.loop (rec .done (some .ret))):=(hk2.same _ (by omega) (.inl (by omega))).trans hlb
       have hk2':∀ b,b<Wb.heap.size→(b<w.heap.size+2∨Wa.heap.size≤b)→W2.heap[b]?=Wb.heap[b]?:=fun b hb h=>hk2.same b hb (h.imp (fun h=>by show b<_;omega) fun h=>⟨h,hb⟩)
       have hend:(Instr.endLoop (w.heap.size+1)).run P W2=.ok (some .ret) (W2.putObj (w.heap.size+1) (.loop { rec .done (some .ret) with state:=.exhausted })):=by
        rw [run_endLoop (P:=P) hl2 (by rw [hrec];simp),hrec]
       refine ⟨some .ret,_,hend,wpIn_ret (hstop _ p hnn hF ⟨hk2.os.trans (hkb.os.trans (hka.os.trans hos.1)),hk2.tape.trans (hkb.tape.trans (hka.tape.trans hos.2.1)),hk2.output.trans (hkb.output.trans (hka.output.trans hos.2.2)),by simp;omega,fun b hb hz=>?_⟩ ?_ ?_)⟩
       · rw [World.putObj_heap_other (by omega),hk2' b (by omega) (by omega),hkb.block b (by omega) (by omega),hka.same b (by omega) (by omega),hw1 b hb]
       · exact Done.turn (hd.less (L' := Wa.heap.size) (Nat.le_refl _)) ((World.putObj_heap_other (by omega)).trans (hk2' _ (by omega) (by omega))) ((World.putObj_heap_other (by omega)).trans (hk2' _ (by omega) (by omega))) (fun b hb hl => (World.putObj_heap_other (by omega)).trans (hk2' _ hb (by omega))) |>.less (by omega)
       · rw [World.putObj_heap_other (by omega),hk2' _ (by omega) (by omega),hkb.block _ (by omega) (by omega),hka.same _ (by omega) (by omega),hK1]
theorem leave_res {fm:Nat→Nat} {w:World} {A M:Nat→Prop} {hA:∀ b,A b→b<w.heap.size} {vs:Array Value} {args:List T} (hno:T.noOwnL args=true) {w':World} (hk:Keeps M w w') {v x:Value} {t:T} (hx:scal x=true)
 (hc:∀ b,cnt w' v b t≤1) (ht:rep fm (fun k b=>k=.own∧w.heap.size≤b) w' v t):Back fm args args (.tup [t,.sc x]) w vs A M hA (.returned (.tuple #[v,x])) w':=by
 have hback:∀ (l:List T) (s:Nat),T.noOwnL l=true→l=backArgs (fun _=>none) s l:=by
  intro l
  induction l with
  | nil=>intro s _;rfl
  | cons t l ih =>
   intro s h
   simp only [T.noOwnL,Bool.and_eq_true] at h
   simp only [backArgs,h.1,if_true]
   rw [← ih (s+1) h.2]
 have hcnt:∀ b,cnt w' (.tuple #[v,x]) b (.tup [t,.sc x])=cnt w' v b t:=fun b=>by simp [cnt,cntL,kid]
 refine ⟨args.length,fun _=>none,fun _=>.tuple #[v,x],Nat.le_refl _,⟨hk,⟨fun _=>args.length,fun s t' ht' b=>?_⟩,fun s y' hy=>?_⟩,fun j _=>⟨rfl,fun s x h=>(by cases h)⟩,rfl,hback args 0 hno,fun s hs hh _=>?_⟩
 · by_cases hs:s=args.length
   · subst hs
     simp only [add_self,Option.some.injEq,V.val.injEq] at ht'
     subst ht'
     rw [hcnt]
     exact ⟨hc b,fun _=>rfl⟩
   · rw [add_ne hs] at ht';cases ht'
 · by_cases hs:s=args.length
   · subst hs
     simp only [add_self,Option.some.injEq] at hy
     subst hy
     refine .inl ⟨_,rfl,?_⟩
     have h2:=rep_ok (ok':=okR (cx0 fm w A M hA) (Own (Env.add (fun _=>none) args.length (.val (.tup [t,.sc x]))) (fun _=>.tuple #[v,x]) w')) (fun k b hk _ ho=>absurd ho.1 hk) t v (fun b _ _ ho=>⟨fun h=>by have:=hA b h;have:=ho.2;omega,fun _=>.inl ho.2,fun h=>(by cases h),fun h=>absurd rfl h⟩) ht
     simp only [rep,repL,kid]
     exact ⟨⟨_,rfl,rfl⟩,h2,⟨rfl,hx⟩,trivial⟩
   · rw [add_ne hs] at hy;cases hy
 · exact absurd (noOwnL_get hno (i:=s) (t:=args.getD s .gone) (by rw [List.getD_eq_getElem?_getD,List.getElem?_eq_getElem hs];rfl)) (by rw [hh];decide)
end Go.Mch
namespace Go.Mch
open Go.RowKit

theorem leN_anti {n:Nat} {p q:Nat→Nat} (h:leN n p q) (h':leN n q p):∀ z,z<n→p z=q z:=by
 rcases h with h | ⟨z,hz,h1,h2⟩
 · exact h
 · rcases h' with h' | ⟨z',hz',h1',h2'⟩
   · exact fun y hy=>(h' y hy).symm
   · rcases Nat.lt_trichotomy z z' with h3 | h3 | h3
     · have:=h1' z h3;omega
     · subst h3;omega
     · have:=h1 z' h3;omega
theorem Fst.uniq {A C:List (List (List Int))} {n:Nat} {M:Mp} {p q:Nat→Nat} (hp:Fst A C n M p) (hq:Fst A C n M q):lstN n p=lstN n q:=by
 unfold lstN
 refine List.map_congr_left fun x hx=>?_
 rw [leN_anti (hp.le q hq.iso hq.ext) (hq.le p hp.iso hp.ext) x (by simpa using hx)]

def isoAns (A C:List (List (List Int))) (n n':Nat) (r:T):Prop :=
 ((n'≠n∨∀ q,¬Iso A C n q)∧r=.tup [nil,I 4])∨(n'=n∧∃ p,Fst A C n (mp0 n) p∧r=.tup [ownL (lstN n p),I 0])

def isoLoop (cl:Nat) (r:T) (e:Env):Prop :=
 ∃ A C n n' c1 c2,e 4=some (.val (.mem .own none [nil]))∧e 5=some (.val (.mem .own none [I 0]))∧e cl=some (.val (.fn 419 [c1,c2])) ∧
  c1.ery .old=.mem .old none [tba A]∧c2.ery .old=.mem .old none [tba C]∧Tbs n A∧Tbs n' C∧A.length=C.length∧0<A.length∧A.length≤4∧n≤12∧isoAns A C n n' r
def isoRX (cl:Nat) (args:List T) (r:T):X→Env→Prop
 | .nrm,e=>isoLoop cl r e
 | .ret,e=>post [.cell 4 none,.cell 5 none] args args r .ret e
 | .ext _,_=>False
def isoP (a b c:C) (cl:Nat) (G:Rl) (args args':List T) (r:T):Prop :=
 args.length=2∧T.noOwnL args=true∧args'=args∧wp G .fresh (.seq a (.seq b c)) (isoRX cl args r) (init args)

def cycA:C:=.region none [⟨some 2,none,.box (.t 0)⟩,⟨some 3,none,.box (.t 1)⟩,⟨some 4,none,.alloc [(.slice none 0 0)]⟩,⟨some 5,none,.alloc [(.int .i64 0)]⟩] [2,3,4,5]
def cycB:C:=.seq (.region none [⟨some 7,none,.ld (some 1) (.t 2)⟩,⟨some 8,none,.call (.f 360) [((.t 7),.r)]⟩,⟨some 9,none,.un .not (.t 8)⟩,⟨some 10,none,.mv (.t 9)⟩,⟨some 11,(some (10,false)),.ld (some 1) (.t 3)⟩,⟨some 12,(some (10,false)),.call (.f 360) [((.t 11),.r)]⟩,⟨some 13,(some (10,false)),.un .not (.t 12)⟩,⟨some 14,none,.pick (.t 10) (.c (.bool true)) (.t 13)⟩] [2,3,4,5,14])
 (.cond (.t 14) (.seq (.region none [⟨none,none,.st none (.t 4) (.c (.slice none 0 0))⟩,⟨none,none,.st none (.t 5) (.c (.int .i64 1))⟩] [4,5]) .ret) .skip)
def cycC:C:=.region none [⟨some 15,none,.fld 0 (.t 2)⟩,⟨some 16,none,.ld none (.t 15)⟩,⟨some 17,none,.bsl [(.t 16)]⟩,⟨none,none,.freeze 17⟩,⟨some 18,none,.fld 0 (.t 3)⟩,⟨some 19,none,.ld none (.t 18)⟩,⟨some 20,none,.bsl [(.t 19)]⟩,⟨none,none,.freeze 20⟩,⟨some 21,none,.call (.f 369) [((.t 17),.r),((.t 20),.r)]⟩] [2,3,4,5,21]
def solB:C:=.seq (.region none [⟨some 7,none,.ld (some 2) (.t 2)⟩,⟨some 8,none,.call (.f 59) [((.t 7),.r)]⟩,⟨some 9,none,.un .not (.t 8)⟩,⟨some 10,none,.mv (.t 9)⟩,⟨some 11,(some (10,false)),.ld (some 2) (.t 3)⟩,⟨some 12,(some (10,false)),.call (.f 59) [((.t 11),.r)]⟩,⟨some 13,(some (10,false)),.un .not (.t 12)⟩,⟨some 14,none,.pick (.t 10) (.c (.bool true)) (.t 13)⟩] [2,3,4,5,14])
 (.cond (.t 14) (.seq (.region none [⟨none,none,.st none (.t 4) (.c (.slice none 0 0))⟩,⟨none,none,.st none (.t 5) (.c (.int .i64 1))⟩] [4,5]) .ret) .skip)
def solC:C:=.region none [⟨some 15,none,.fld 0 (.t 2)⟩,⟨some 16,none,.ld none (.t 15)⟩,⟨some 17,none,.fld 1 (.t 2)⟩,⟨some 18,none,.ld none (.t 17)⟩,⟨some 19,none,.bsl [(.t 16),(.t 18)]⟩,⟨none,none,.freeze 19⟩,⟨some 20,none,.fld 0 (.t 3)⟩,⟨some 21,none,.ld none (.t 20)⟩,⟨some 22,none,.fld 1 (.t 3)⟩,⟨some 23,none,.ld none (.t 22)⟩,⟨some 24,none,.bsl [(.t 21),(.t 23)]⟩,⟨none,none,.freeze 24⟩,⟨some 25,none,.call (.f 369) [((.t 19),.r),((.t 24),.r)]⟩] [2,3,4,5,25]

structure IsoAt (fm:Nat→Nat) (w1 w:World) (M:Nat→Prop) (A C:List (List (List Int))) (v4 v5 vc p1 p2:Value) (g B4 o4 B5 o5:Nat):Prop where
 keeps:Keeps M w w1
 e4:v4=.pointer (some ⟨B4,o4,none⟩)
 e5:v5=.pointer (some ⟨B5,o5,none⟩)
 ec:vc=.func (.func g) #[] #[p1,p2]
 ne:B4≠B5
 free4:w.heap.size≤B4∨M B4
 free5:w.heap.size≤B5∨M B5
 c4:w1.cell? ⟨B4,o4,none⟩=some (.slice none 0 0)
 c5:w1.cell? ⟨B5,o5,none⟩=some (.int .i64 0)
 f4:w1.frozen? ⟨B4,o4,none⟩=false
 f5:w1.frozen? ⟨B5,o5,none⟩=false
 r1:rep fm (fun k b=>k=.old∧b≠B4∧b≠B5) w1 p1 (.mem .old none [tba A])
 r2:rep fm (fun k b=>k=.old∧b≠B4∧b≠B5) w1 p2 (.mem .old none [tba C])

theorem iso_at {fm:Nat→Nat} {w:World} {A0 M:Nat→Prop} {hA:∀ b,A0 b→b<w.heap.size} {nt:Nat} {e:Env} {a:Act} {w1:World} (h:Rel (cx0 fm w A0 M hA) nt e a w1) {r:T} {cl:Nat} (hl:isoLoop cl r e) :
 ∃ A C n n' p1 p2 B4 o4 B5 o5,IsoAt fm w1 w M A C (vlA a 4) (vlA a 5) (vlA a cl) p1 p2 (fm 419) B4 o4 B5 o5∧Tbs n A∧Tbs n' C∧A.length=C.length∧0<A.length∧A.length≤4∧n≤12∧isoAns A C n n' r:=by
 obtain ⟨A,C,n,n',c1,c2,h4,h5,hc,hc1,hc2,q1,q2,q3,q4,q5,q6,q7⟩:=hl
 have hval:∀ s t,e s=some (.val t)→rep fm (okR (cx0 fm w A0 M hA) (Own e (vlA a) w1)) w1 (vlA a s) t:=fun s t hs=>by
  rcases h.r.rep s _ hs with ⟨t',h1,h2⟩ | h2
  · cases h1;exact h2
  · exact h2.2
 obtain ⟨B4,o4,g1,g2,g3,g4⟩:=box_cells (hval 4 _ h4)
 obtain ⟨B5,o5,k1,k2,k3,k4⟩:=box_cells (hval 5 _ h5)
 obtain ⟨y4,g5,g6⟩:=g4 0 _ rfl
 obtain ⟨y5,k5,k6⟩:=k4 0 _ rfl
 have hown4:Own e (vlA a) w1 B4:=⟨4,_,h4,by rw [g1];simp [cnt,blk]⟩
 have hown5:Own e (vlA a) w1 B5:=⟨5,_,h5,by rw [k1];simp [cnt,blk]⟩
 have hne:B4≠B5:=by
  intro hb
  obtain ⟨who,hw⟩:=h.r.who
  have q3:=(hw 4 _ h4 B4).2 (by rw [g1];simp [cnt,blk])
  have q5:=(hw 5 _ h5 B5).2 (by rw [k1];simp [cnt,blk])
  rw [hb,q5] at q3
  cases q3
 have hvc:=hval cl _ hc
 rw [rep] at hvc
 obtain ⟨⟨cs,d1,d2⟩,d4,d3⟩:=hvc
 obtain ⟨p1,p2,rfl⟩:∃ p1 p2,cs=#[p1,p2]:=by
  obtain ⟨l⟩:=cs
  match l,d2 with
  | [p1,p2],_=>exact ⟨p1,p2,rfl⟩
 rw [d1] at d3
 simp only [repL,kid] at d3
 simp only [T.noOwnL,Bool.and_eq_true] at d4
 have hcap:∀ {c:T} {p:Value} {X:List (List (List Int))},c.noOwn=true→c.ery .old=.mem .old none [tba X]→rep fm (okR (cx0 fm w A0 M hA) (Own e (vlA a) w1)) w1 p c→rep fm (fun k b=>k=.old∧b≠B4∧b≠B5) w1 p (.mem .old none [tba X]):=fun {c p X} hn he hr=>by
  rw [← he]
  exact rep_ery (fun k b hk ho=>⟨rfl,fun hb=>(ho.2.2.2 hk).1 (by rw [hb];exact hown4),fun hb=>(ho.2.2.2 hk).1 (by rw [hb];exact hown5)⟩) c p (.inl hn) hr
 refine ⟨A,C,n,n',p1,p2,B4,o4,B5,o5,⟨h.r.keeps,g1,k1,d1,hne,(g2 (.inl rfl)).2.1 rfl,(k2 (.inl rfl)).2.1 rfl,?_,?_,?_,?_,hcap d4.1 hc1 d3.1,hcap d4.2.1 hc2 d3.2.1⟩,q1,q2,q3,q4,q5,q6,q7⟩
 · have:y4=.slice none 0 0:=g6.1
   rw [this] at g5;simpa using g5
 · have:y5=.int .i64 0:=k6.1
   rw [this] at k5;simpa using k5
 · obtain ⟨arr,elem,g⟩:=g3 rfl
   simp [World.frozen?,g]
 · obtain ⟨arr,elem,g⟩:=k3 rfl
   simp [World.frozen?,g]
theorem repL_I {fm:Nat→Nat} {ok ok':K→Nat→Prop} {w:World}:∀ (l:List Int) (g:Nat→Value) (i:Nat),repL fm ok w g i (l.map I)→repL fm ok' w g i (l.map I)
 | [],_,_,_=>trivial
 | x::l,g,i,h=>by
  simp only [List.map_cons,repL] at h ⊢
  exact ⟨h.1,repL_I l g (i+1) h.2⟩
theorem own_rep {fm:Nat→Nat} {ok:K→Nat→Prop} {w:World} {v:Value} {l:List Int} (h:rep fm ok w v (ownL l)):rep fm (fun k b=>k=.own∧ok .own b) w v (ownL l):=by
 rw [rep_mem] at h ⊢
 exact ⟨h.1,fun hh=>⟨rfl,h.2.1 hh⟩,h.2.2.1,h.2.2.2.1,repL_I l _ 0 h.2.2.2.2⟩

theorem clone_in {P:Program} {fm:Nat→Nat} {pg:Pg} {W:World} (hpact:∀ f args args' r,Call pg f args args' r→Pact P fm f args args' r) (hc:S_clone pg) {ok:K→Nat→Prop} {v:Value} {p:List Int} (hl:p.length≤1048576) (h:rep fm ok W v (ix p)) :
 Calls P (fm 36) #[v] W fun e W'=>∃ v',e=.returned v'∧Kp (fun _=>True) W W'∧(∀ b,cnt W' v' b (ownL p)≤1)∧rep fm (fun k b=>k=.own∧W.heap.size≤b) W' v' (ownL p):=by
 have hr:=rep_ery (ok':=fun k _=>k=.old) (fun _ _ _ _=>rfl) (ix p) v (.inl (by simp)) h
 refine (read_call (P:=P) (args:=[ix p]) (vs:=#[v]) rfl (by simp) (fun s u hu=>?_) (hpact _ _ _ _ (hc p hl))).mono fun e w' hh=>?_
 · match s,hu with
   | 0,hu =>
    cases hu
    simpa [T.ery] using hr
   | s+1,hu=>simp at hu
 · obtain ⟨v,rfl,h1,h2,h3⟩:=hh
   exact ⟨v,rfl,h1,h2,rep_ok (fun k b hk _ ho=>absurd ho.1 hk) _ v (fun b _ _ ho=>⟨rfl,ho.2.1 rfl⟩) (own_rep h3)⟩

theorem once_done {fm:Nat→Nat} {B4 o4 B5 o5:Nat} {W W':World} {v:Value} {p:List Int} {u4 u5:Value} (hk:Kp (fun _=>True) W W') (hB4:B4<W.heap.size) (hB5:B5<W.heap.size) (hne:B4≠B5) (h4:W'.cell? ⟨B4,o4,none⟩=some u4) (h5:W'.cell? ⟨B5,o5,none⟩=some u5)
 (hc:∀ b,cnt W' v b (ownL p)≤1) (hr:rep fm (fun k b=>k=.own∧W.heap.size≤b) W' v (ownL p)) {a:Act}:oncePost fm B4 o4 B5 o5 p W .ret a ((W'.setCell ⟨B4,o4,none⟩ v).setCell ⟨B5,o5,none⟩ (.int .i64 0)):=by
 have hob:∀ b,b≠B4→b≠B5→((W'.setCell ⟨B4,o4,none⟩ v).setCell ⟨B5,o5,none⟩ (.int .i64 0)).heap[b]?=W'.heap[b]?:=fun b h1 h2=>by
  rw [Below.heap_setCell _ _ _ _ h2,Below.heap_setCell _ _ _ _ h1]
 have hsz:((W'.setCell ⟨B4,o4,none⟩ v).setCell ⟨B5,o5,none⟩ (.int .i64 0)).heap.size=W'.heap.size:=by simp [World.setCell]
 have hD:Done fm B4 o4 B5 o5 (ownL p) W.heap.size ((W'.setCell ⟨B4,o4,none⟩ v).setCell ⟨B5,o5,none⟩ (.int .i64 0)):=by
  have hf:=frame (touch:=fun b=>b=B4∨b=B5) (w':=(W'.setCell ⟨B4,o4,none⟩ v).setCell ⟨B5,o5,none⟩ (.int .i64 0)) (fun b _ ht=>hob b (fun e=>ht (.inl e)) (fun e=>ht (.inr e))) (fun k b hk ho=>absurd ho.1 hk) (ownL p) v hr (fun b hb=>by
   rcases Nat.lt_or_ge 0 (cnt W' v b (ownL p)) with h1 | h1
   · have:=(rep_owned _ v hr b h1).1.2
     omega
   · omega)
  refine ⟨v,?_,World.cell?_setCell_same' _ _ _ ?_,fun b=>by rw [hf.2];exact hc b,hf.1⟩
  · rw [World.cell?_of_block (Below.heap_setCell _ _ _ _ hne)]
    exact World.cell?_setCell_same' _ _ _ (by rw [h4];rfl)
  · rw [World.cell?_of_block (Below.heap_setCell _ _ _ _ (Ne.symm hne)),h5];rfl
 exact ⟨⟨hk.os,hk.tape,hk.output,by rw [hsz];exact hk.size,fun b hb hz=>(hob b (fun e=>hz (.inl e)) (fun e=>hz (.inr e))).trans (hk.same b hb trivial)⟩,hD⟩
end Go.Mch
namespace Go.Mch

abbrev okCl:K→Nat→Prop:=fun k _=>k=.old

theorem repL_of {fm:Nat→Nat} {ok:K→Nat→Prop} {w:World} {g:Nat→Value}:∀ (ts:List T) (i:Nat),(∀ j (h:j<ts.length),rep fm ok w (g (i+j)) ts[j])→repL fm ok w g i ts
 | [],_,_=>trivial
 | t :: ts, i, h => ⟨h 0 (by simp), repL_of ts (i + 1) fun j hj => by
     have:=h (j+1) (by simpa using hj)
     simpa [show i+1+j=i+(j+1) from by omega] using this⟩

theorem run_true {P:Program} {fm:Nat→Nat} {f:Nat} {args args':List T} (h:Pact P fm f args args' (B true)) (hno:T.noOwnL args=true) {w:World} {vs:Array Value} (hs:vs.size=args.length)
 (hrep:∀ s t,args[s]?=some t→rep fm okCl w (vs.getD s undef) t) :
 Calls P (fm f) vs w fun e w'=>e=.returned (.bool true)∧Keeps (fun _=>False) w w':=by
 have hA:∀ b,(fun _=>False:Nat→Prop) b→b<w.heap.size:=fun _ h=>h.elim
 have hc:∀ s t,init args s=some (.val t)→∀ b,cnt w (vs.getD s undef) b t=0:=by
  intro s t ht b
  obtain ⟨u,h1,h2⟩:=init_some ht
  cases h2
  exact cnt_noOwn _ _ _ _ (noOwnL_get hno h1)
 have hR:R (cx0 fm w (fun _=>False) (fun _=>False) hA) (init args) (fun s=>vs.getD s undef) w:=by
  refine ⟨Keeps.refl _ _,⟨fun _=>0,fun s t ht b=>?_⟩,fun s x hx=>?_⟩
  · rw [hc s t ht b];simp
  · obtain ⟨t,h1,rfl⟩:=init_some hx
    refine .inl ⟨t,rfl,rep_ok (fun k b _ _ hk=>?_) t _ (fun b hb _ _=>?_) (hrep s t h1)⟩
    · cases hk
      refine ⟨id,by simp,by simp,fun _=>⟨?_,id⟩⟩
      rintro ⟨s',t',h3,h4⟩
      rw [hc s' t' h3 b] at h4
      omega
    · have h5:=hc s t hx b
      omega
 refine (h.2 w vs _ _ hA hs (fun _ _ hm=>hm) hR).mono fun e w' hb=>?_
 cases e with
 | returned v =>
  obtain ⟨q,e',vl',_,h2,_,h4,_⟩:=hb
  refine ⟨?_,h2.keeps⟩
  have h5:=h2.rep q (.val (B true)) (by simp [Env.add])
  rcases h5 with ⟨t,h6,h7⟩ | h7
  · cases h6
    simp only [rep] at h7
    rw [← h4,h7.1]
  · simp only [arep,rep] at h7
    rw [← h4,h7.2.1]
 | _=>exact hb.elim

theorem Keeps.but {w w':World} (h:Keeps (fun _=>False) w w') (may:MemPlace→Prop):w.keptBut w' may:=by
 refine ⟨h.os,h.output,fun i hi=>?_⟩
 rw [h.block i hi id]
 exact (World.keptBut_refl w may).2.2 i hi

theorem Keeps.at {w w':World} (h:Keeps (fun _=>False) w w') {p:MemPlace} (hp:p.block<w.heap.size):w.sameAt w' p:=by
 cases p with
 | cell b off=>exact World.cell?_of_block (a:=⟨b,off,none⟩) (h.block b hp id)
 | map b=>exact h.block b hp id


section
variable {H:Type} {enc:TypeId×Value→H} {P:Program} {w:World} {base:Nat} {sp:Nat→Bool} {held:Bool} {fm:Nat→Nat}

theorem each {α:Type} {Q:Nat→α→Prop}:∀ (n:Nat),(∀ i,i<n→∃ z,Q i z)→∃ zs:List α,zs.length=n∧∀ i (h:i<zs.length),Q i zs[i]
 | 0,_=>⟨[],rfl,fun i h=>by simp at h⟩
 | n+1,h=>by
  obtain ⟨zs,h1,h2⟩:=each n fun i hi=>h i (by omega)
  obtain ⟨z,hz⟩:=h n (by omega)
  refine ⟨zs++[z],by simp [h1],fun i hi=>?_⟩
  rcases Nat.lt_or_ge i zs.length with hl | hl
  · rw [List.getElem_append_left hl];exact h2 i hl
  · have:i=n:=by simp at hi;omega
    subst this
    rw [List.getElem_append_right hl]
    simp [h1,hz]

theorem open_raw {t e:TypeId} {fuel:Nat} {cs:List Value} {x:DataW H×List MemPlace} (ht:P.underlying t=some (.slice e)) (hc:P.cellsOf e=1)
 (h:DataW.trod enc P w base (fun _=>true) held fuel t cs=some x) :
 (cs=[.slice none 0 0]∧x.1=.nil)∨(∃ a,cs=[.slice (some a) 0 0]∧x.1=.slice [] []) ∨
 ∃ b off len cap ds rest n,cs=[.slice (some ⟨b,off,none⟩) len cap]∧len≤cap∧x.1=.slice ds rest∧ds.length=len ∧
  ∀ i,i<len→∃ c y,w.cell? ⟨b,off+i,none⟩=some c∧DataW.trod enc P w base (fun _=>true) held n e [c]=some y∧ds[i]?=some y.1:=by
 rcases DataW.trod_slice ht h with ⟨h1,rfl⟩ | ⟨a,len,cap,elems,rest,n,_,rfl,rfl,hb,hl,_,hlen,hel,hsp,_⟩
 · exact .inl ⟨h1,rfl⟩
 right
 obtain ⟨hr1,hr2⟩:=hsp rfl
 have cell:∀ a' y,(w.cells? base a' (P.cellsOf e)).bind (DataW.trod enc P w base (fun _=>true) held n e)=some y→∃ c,w.cell? a'=some c∧DataW.trod enc P w base (fun _=>true) held n e [c]=some y:=by
  intro a' y hy
  rw [hc,Option.bind_eq_some_iff] at hy
  obtain ⟨c1,h1,h2⟩:=hy
  have h3:=(World.cells?_some h1).2.1
  match c1,h3 with
  | [c],_=>exact ⟨c,Go.ChangeShapes.cell_of_cells?_one h1,h2⟩
 by_cases hz:cap=0
 · subst hz
   have h0:len=0:=by omega
   subst h0
   have h1:elems=[]:=List.eq_nil_of_length_eq_zero hlen
   have h2:rest=[]:=List.eq_nil_of_length_eq_zero (by simpa using hr1)
   subst h1 h2
   exact .inl ⟨a,rfl,rfl⟩
 right
 have hspot:a.spot=none:=by
  by_cases h0:0<len
  · have h1:0<elems.length:=by omega
    have:=hel 0 h0
    rw [List.getElem?_eq_getElem h1] at this
    obtain ⟨c,hc1,_⟩:=cell _ _ this
    simp only [Nat.zero_mul] at hc1
    have:=World.cell?_spot hc1
    simpa [Addr.add] using this
  · have h1:0<rest.length:=by omega
    have:=hr2 0 (by omega)
    rw [List.getElem?_eq_getElem h1] at this
    obtain ⟨c,hc1,_⟩:=cell _ _ this
    have h2:=World.cell?_spot hc1
    simpa [Addr.add,show len=0 from by omega] using h2
 obtain ⟨b,off,spot⟩:=a
 simp only at hspot
 subst hspot
 refine ⟨b,off,len,cap,elems.map (·.1),rest.map (·.1),n,rfl,hl,rfl,by simpa using hlen,fun i hi=>?_⟩
 have h1:i<elems.length:=by omega
 have h2:=hel i hi
 rw [List.getElem?_eq_getElem h1] at h2
 obtain ⟨c,h3,h4⟩:=cell _ _ h2
 refine ⟨c,elems[i],?_,h4,by simp [h1]⟩
 rw [hc,Nat.mul_one] at h3
 rw [← Go.WideShapes.add_plain];exact h3

theorem rep_slice {b off len cap:Nat} {us:List T} (hlen:us.length=len) (hl:len≤cap) (hno:T.noOwnL us=true) (h:∀ i (hi:i<us.length),∃ c,w.cell? ⟨b,off+i,none⟩=some c∧rep fm okCl w c us[i]) :
 rep fm okCl w (.slice (some ⟨b,off,none⟩) len cap) (.mem .old (some 1) us):=by
 rw [rep_mem]
 refine ⟨⟨⟨len,rfl,by simp [hlen],by simp,hl⟩,fun i hi=>?_⟩,fun _=>rfl,by simp,fun _=>hno,?_⟩
 · obtain ⟨c,hc,_⟩:=h i hi
   simp only [blk,ofs]
   rw [hc];rfl
 · refine repL_of us 0 fun j hj=>?_
   obtain ⟨c,hc,hr⟩:=h j hj
   simp only [kid,Nat.zero_add]
   rw [hc]
   exact hr

structure Bulk (m:DataW H→Nat):Prop where
 slice:∀ es rest,es.length≤m (.slice es rest)
 elem:∀ es rest d,d∈es→m d≤m (.slice es rest)
 part:∀ ps d,d∈ps→m d≤m (.agg ps)


theorem all_stays {W W':World} {sp':Nat→Bool} (hl:laidOutB P=true):∀ {ts:List TypeId} {vs:List Value} {ds:List (DataW H)} {ps:List MemPlace},(∀ t∈ts,P.readableRec t=true∧t<P.types.size) →
 DataW.TrodAll enc P W 0 (fun _=>true) true ts vs ds ps→(∀ p∈ps,W.sameAt W' p)→(∀ p∈ps,sp' p.block=true)→DataW.TrodAll enc P W' 0 sp' true ts vs ds ps
 | [],vs,ds,ps,_,h,_,_=>by
  obtain ⟨rfl,rfl,rfl⟩:=Go.ChangeShapes.trodAll_nil h
  rfl
 | t::ts,vs,ds,ps,ht,h,h1,h2=>by
  obtain ⟨v,vs',d,ds',p,q,rfl,rfl,rfl,h3,h4⟩:=Go.ChangeShapes.trodAll_cons h
  exact ⟨p,q,Go.WideElems.Trod_stays hl (ht t (by simp)).1 (ht t (by simp)).2 h3 (fun x hx=>h1 x (by simp [hx])) (fun x hx=>h2 x (by simp [hx])),
   all_stays hl (fun t' h'=>ht t' (by simp [h'])) h4 (fun x hx=>h1 x (by simp [hx])) (fun x hx=>h2 x (by simp [hx])),rfl⟩

theorem post_true {f:Func} {s:ChangeSpec} {W W':World} {args:Array Value} {ds gs:List (DataW H)} {before:List MemPlace} {rt:TypeId} (hW:DataW.Whole enc P f.params.toList s.vars false W args.toList ds gs before) (hK:Keeps (fun _=>False) W W')
 (hv:s.vars=[]) (hres:f.resultTypes=#[rt]) (hrt:P.underlying rt=some .bool) (hl:laidOutB P=true) (hr:∀ t∈f.params.toList,P.readableRec t=true∧t<P.types.size)
 (hfn:s.fn H ds={ results:=[.lit (.bool true)],args:=ds }):s.post enc P f false true false false W args (.bool true) W':=by
 have hlt:=hW.lt
 have hW':=hW
 obtain ⟨p,q,hA,hV,rfl,_,_⟩:=hW
 rw [hv] at hV
 have hg:gs=[]∧q=[]:=by
  cases gs with
  | nil=>exact ⟨rfl,by simpa [DataW.TrodVars] using hV⟩
  | cons d ds=>simp [DataW.TrodVars] at hV
 obtain ⟨rfl,rfl⟩:=hg
 simp only [List.append_nil] at hlt
 refine ⟨ds,[],p++[],[],p,[],hW',?_,?_,?_,hK.but _,by simp⟩
 · rw [List.append_nil,hfn,hres]
   refine ⟨[],[],⟨1,?_⟩,rfl,rfl⟩
   simp [DataW.trod,hrt,Value.cells]
 · rw [List.append_nil,hfn]
   exact all_stays hl hr hA (fun x hx=>hK.at (hlt x hx)) (fun x hx=>by simpa using hlt x hx)
 · rw [List.append_nil,hfn,hv]
   rfl
end
end Go.Mch
namespace Go.Mch
section
variable {H:Type} {enc:TypeId×Value→H} {P:Program} {w:World} {base:Nat} {held:Bool} {fm:Nat→Nat}
theorem u8_wf {n:Int} (h:(Lit.int .u8 n).wf=true):0≤n∧n<256:=by
 simp only [Lit.wf,Bool.and_eq_true,decide_eq_true_eq] at h
 have h1:IntKind.u8.min=0:=by decide
 have h2:IntKind.u8.max=255:=by decide
 omega
theorem open_rawB {m:DataW H→Nat} (hm:Bulk m) {t e:TypeId} {fuel:Nat} {cs:List Value} {x:DataW H×List MemPlace} (ht:P.underlying t=some (.slice e)) (he:P.underlying e=some (.int .u8)) (hc:P.cellsOf e=1)
 (h:DataW.trod enc P w base (fun _=>true) held fuel t cs=some x):∃ v o,cs=[v]∧rep fm okCl w v (rawB o)∧(lst o).length≤m x.1∧∀ n∈lst o,0≤n∧n<256:=by
 rcases open_raw ht hc h with ⟨rfl,hx⟩ | ⟨a,rfl,hx⟩ | ⟨b,off,len,cap,ds,rest,n,rfl,hl,hx,hlen,hel⟩
 · exact ⟨_,.no,rfl,⟨rfl,rfl⟩,by simp,by simp⟩
 · exact ⟨_,.odd a,rfl,⟨rfl,rfl⟩,by simp,by simp⟩
 · obtain ⟨zs,h1,h2⟩:=each (Q:=fun i (z:Int)=>w.cell? ⟨b,off+i,none⟩=some (.int .u8 z)∧(Lit.int .u8 z).wf=true) len (fun i hi=>by
    obtain ⟨c,y,h3,h4,_⟩:=hel i hi
    obtain ⟨z,h5,_,h6⟩:=DataW.trod_int he h4
    simp only [List.cons.injEq,and_true] at h5
    exact ⟨z,by rw [h3,h5],h6⟩)
   refine ⟨_,.of zs,rfl,rep_slice (by simp [h1]) hl (by simp) (fun i hi=>?_),?_,fun n hn=>?_⟩
   · have hi':i<zs.length:=by simpa using hi
     exact ⟨_,(h2 i hi').1,by simp [rep,scal]⟩
   · rw [hx]
     exact Nat.le_trans (by simp [h1,hlen]) (hm.slice ds rest)
   · obtain ⟨i,hi,rfl⟩:=List.getElem_of_mem hn
     exact u8_wf (h2 i hi).2
theorem open_argB {m:DataW H→Nat} (hm:Bulk m) {rc:Reach} {b0:Nat} {t e:TypeId} {v:Value} {d:DataW H} {ps:List MemPlace} (ht:P.underlying t=some (.slice e)) (he:P.underlying e=some (.int .u8)) (hc:P.cellsOf e=1)
 (hval:Value.okWide P w rc b0 t v) (h:DataW.Trod enc P w base (fun _=>true) held t v d ps):∃ a,rep fm okCl w v (rawB a)∧(lst a).length≤m d∧∀ n∈lst a,0≤n∧n<256:=by
 obtain ⟨ad,len,cap,rfl⟩:=Go.WideShapes.okWide_slice ht hval
 obtain ⟨fuel,h⟩:=h
 obtain ⟨v0,a,e1,e2,e3,e4⟩:=open_rawB (fm:=fm) hm ht he hc h
 simp only [Value.cells,List.cons.injEq,and_true] at e1
 subst e1
 exact ⟨a,e2,e3,e4⟩
end
end Go.Mch
namespace Go.Mch

structure Cyc (n:Nat) (T L:Nat→Nat→Nat):Prop where
 r:∀ x y,x<n→y<n→T x y<n
 i:∀ x y y',x<n→y<n→y'<n→T x y=T x y'→y=y'
 s:∀ x x',x<n→x'<n→T x x=T x' x'→x=x'
 e:∀ x y z,x<n→y<n→z<n→T (T x y) (T x z)=T (T y x) (T y z)
 l:∀ x y,x<n→y<n→L x y<n∧T x (L x y)=y
def cR (T L:Nat→Nat→Nat) (x y:Nat):Nat:=T (L x y) x
theorem Cyc.ll {n:Nat} {T L:Nat→Nat→Nat} (h:Cyc n T L) {x y:Nat} (hx:x<n) (hy:y<n):L x (T x y)=y :=
 h.i x _ _ hx (h.l x _ hx (h.r x y hx hy)).1 hy (h.l x _ hx (h.r x y hx hy)).2
theorem Cyc.rr {n:Nat} {T L:Nat→Nat→Nat} (h:Cyc n T L) {x y:Nat} (hx:x<n) (hy:y<n):cR T L x y<n:=h.r _ _ (h.l x y hx hy).1 hx
theorem Cyc.rinj {n:Nat} {T L:Nat→Nat→Nat} (h:Cyc n T L) {x x' y:Nat} (hx:x<n) (hx':x'<n) (hy:y<n) (he:cR T L x y=cR T L x' y):x=x':=by
 obtain ⟨u1,u2⟩:=h.l x y hx hy
 obtain ⟨v1,v2⟩:=h.l x' y hx' hy
 unfold cR at he
 have e1:=h.e (L x y) x (L x y) u1 hx u1
 have e2:=h.e (L x' y) x' (L x' y) v1 hx' v1
 rw [u2] at e1
 rw [v2,← he] at e2
 have h1:T (L x y) (L x y)=T (L x' y) (L x' y):=h.i _ _ _ (h.r _ _ u1 hx) (h.r _ _ u1 u1) (h.r _ _ v1 v1) (e1.trans e2.symm)
 have h2:=h.s _ _ u1 v1 h1
 rw [← h2] at he
 exact h.i _ _ _ u1 hx hx' he

structure Dua (n:Nat) (T L D:Nat→Nat→Nat):Prop where
 c:Cyc n T L
 d:∀ x y,x<n→y<n→D x y<n∧cR T L (D x y) x=y
section
variable {n:Nat} {T L D:Nat→Nat→Nat}
theorem Dua.one (h:Dua n T L D) {p q:Nat} (hp:p<n) (hq:q<n):D (T p q) (T q p)=p:=by
 obtain ⟨h1,h2⟩:=h.d (T p q) (T q p) (h.c.r _ _ hp hq) (h.c.r _ _ hq hp)
 refine h.c.rinj h1 hp (h.c.r _ _ hp hq) ?_
 rw [h2]
 unfold cR
 rw [h.c.ll hp hq]
theorem Dua.two (h:Dua n T L D) {a b:Nat} (ha:a<n) (hb:b<n):T (D a b) (D b a)=a:=by
 obtain ⟨h1,h2⟩:=h.d a b ha hb
 obtain ⟨q1,q2⟩:=h.c.l (D a b) a h1 ha
 unfold cR at h2
 have h3:=h.one q1 h1
 rw [q2,h2] at h3
 rw [h3,q2]
theorem Dua.cyc (h:Dua n T L D):Cyc n D (fun x y=>cR T L y x):=by
 have c:=h.c
 refine ⟨fun x y hx hy=>(h.d x y hx hy).1,fun x y y' hx hy hy' he=>?_,fun x x' hx hx' he=>?_,fun a b z ha hb hz=>?_,fun x y hx hy=>⟨c.rr hy hx,?_⟩⟩
 · have h1:=(h.d x y hx hy).2
   rw [he,(h.d x y' hx hy').2] at h1
   exact h1.symm
 · have h1:=h.two hx hx
   have h2:=h.two hx' hx'
   rw [he] at h1
   rw [← h1,h2]
 · have D1:=fun {x y:Nat} (hx:x<n) (hy:y<n)=>(h.d x y hx hy).1
   have hp:=h.two ha hb
   have hq:=h.two hb ha
   have hm:=h.two ha hz
   have hm':=h.two hz ha
   have hw:=h.two (D1 ha hb) (D1 ha hz)
   have hw':=h.two (D1 ha hz) (D1 ha hb)
   have p1:=D1 ha hb
   have q1:=D1 hb ha
   have m1:=D1 ha hz
   have n1:=D1 hz ha
   have w1:=D1 p1 m1
   have w2:=D1 m1 p1
   generalize D (D a b) (D a z)=w at *
   generalize D (D a z) (D a b)=w' at *
   generalize D a b=p at *
   generalize D b a=q at *
   generalize D a z=m at *
   generalize D z a=k at *
   obtain ⟨v1,v2⟩:=c.l w q w1 q1
   generalize L w q=w'' at *
   have r1:=c.r _ _ v1 w1
   have s1:=c.r _ _ v1 w2
   have e1:T (T w'' w) (T w'' w')=b:=by rw [c.e _ _ _ v1 w1 w2,v2,hw,hq]
   have e3:k=T w' w'':=by
    refine c.i m _ _ m1 n1 (c.r _ _ w2 v1) ?_
    rw [hm,← hw',c.e _ _ _ w2 w1 v1,hw,v2,hp]
   have e2:T (T w'' w') (T w'' w)=z:=by rw [c.e _ _ _ v1 w2 w1,hw',← e3,hm']
   have h3:=h.one r1 s1
   rw [e1,e2] at h3
   rw [h3]
   have h4:=h.one w1 v1
   rw [v2] at h4
   exact h4.symm
 · refine h.c.rinj (h.d x _ hx (c.rr hy hx)).1 hy hx ?_
   exact (h.d x _ hx (c.rr hy hx)).2
theorem Dua.sec (h:Dua n T L D) {x y:Nat} (hx:x<n) (hy:y<n):cR D (fun x y=>cR T L y x) x y=L y x:=by
 obtain ⟨q1,q2⟩:=h.c.l y x hy hx
 have h1:=h.one q1 hy
 rw [q2] at h1
 exact h1
theorem Dua.dua (h:Dua n T L D):Dua n D (fun x y=>cR T L y x) T:=by
 refine ⟨h.cyc,fun x y hx hy=>⟨h.c.r _ _ hx hy,?_⟩⟩
 rw [h.sec (h.c.r _ _ hx hy) hx,h.c.ll hx hy]
theorem Cyc.iso {T' L':Nat→Nat→Nat} (h:Cyc n T L) (h':Cyc n T' L') {p:Nat→Nat} (hp:∀ x,x<n→p x<n) :
 (∀ x y,x<n→y<n→p (T x y)=T' (p x) (p y))↔(∀ x y,x<n→y<n→p (L x y)=L' (p x) (p y))∧∀ x y,x<n→y<n→p (cR T L x y)=cR T' L' (p x) (p y):=by
 constructor
 · intro he
   have h1:∀ x y,x<n→y<n→p (L x y)=L' (p x) (p y):=fun x y hx hy=>by
    obtain ⟨u1,u2⟩:=h.l x y hx hy
    obtain ⟨v1,v2⟩:=h'.l (p x) (p y) (hp x hx) (hp y hy)
    refine h'.i (p x) _ _ (hp x hx) (hp _ u1) v1 ?_
    rw [v2,← he x _ hx u1,u2]
   refine ⟨h1,fun x y hx hy=>?_⟩
   unfold cR
   rw [he _ _ (h.l x y hx hy).1 hx,h1 x y hx hy]
 · rintro ⟨h1,_⟩ x y hx hy
   have h2:=h1 x (T x y) hx (h.r x y hx hy)
   rw [h.ll hx hy] at h2
   rw [h2]
   exact (h'.l (p x) _ (hp x hx) (hp _ (h.r x y hx hy))).2.symm
end
end Go.Mch
namespace Go.Mch

def sqL (t:List (List Int)):List Int:=(List.range t.length).map fun x=>v2 t x x
@[simp] theorem sqL_length (t:List (List Int)):(sqL t).length=t.length:=by simp [sqL]
def cyEq (t:List (List Int)):Prop:=∀ x y z,x<t.length→y<t.length→z<t.length→v2 t (vN t x y) (vN t x z)=v2 t (vN t y x) (vN t y z)
def cyP (t:List (List Int)):Prop:=isTable t∧permRows t∧isPermuted (sqL t)∧cyEq t

theorem Tab.vn {t:List (List Int)} (h:Tab t) (h0:0<t.length) (x y:Nat):v2 t x y=vN t x y∧vN t x y<t.length:=by
 have h1:=h.nonneg x y
 have h2:=h.lt h0 x y
 unfold vN
 omega

def sqK (t:List (List Int)) (k:Nat):List Int:=(List.range k).map (fun x=>v2 t x x)++List.replicate (t.length-k) 0
theorem sqK_length {t:List (List Int)} {k:Nat} (h:k≤t.length):(sqK t k).length=t.length:=by simp [sqK];omega
theorem sqK_zero (t:List (List Int)):sqK t 0=List.replicate t.length 0:=by simp [sqK]
theorem sqK_all (t:List (List Int)):sqK t t.length=sqL t:=by simp [sqK,sqL]
theorem sqK_succ {t:List (List Int)} {k:Nat} (h:k<t.length):((sqK t k).map I).set k (T.sc (.int .i64 (v2 t k k)))=(sqK t (k+1)).map I:=by
 rw [← List.map_set (f:=I) (a:=v2 t k k)]
 unfold sqK
 rw [show t.length-k=(t.length-(k+1))+1 from by omega,List.replicate_succ,set_mid (by simp),List.range_succ]
 simp

def S_sqI (pg:Pg):Prop:=∀ t:List (List Int),Tab t→t.length≤12→Call pg 414 [cyT t] [cyT t] (ownL (sqL t))
theorem t_sqI {pg:Pg} (hp:pg.fn 414=some c_impl_squaresOf):S_sqI pg:=by
 intro t ht hl
 refine Call.intro hp rfl (by simp) ?_
 show wp _ _ c_impl_squaresOf.body (post [.t 2] _ _ _) _
 simp [c_impl_squaresOf]
 refine ⟨by unfold roomy;omega,?_⟩
 refine wpLoop_count (fun k e=>e=fr [(1,some (.val (.mem .own none [tb t]))),(3,some (.val (ownL (sqK t k)))),(10,some (.val (I t.length))),(11,some (.val (I k)))]) t.length ?_ ?_ 0 _ (by omega) (by simp [sqK_zero,ownL,tb])
 · rintro k e hk rfl
   have hr:=ht.row hk
   have hl':=sqK_length (t:=t) (k:=k) (by omega)
   simp [hk,hr,get_v2,hl',sqK_succ hk]
   omega
 · rintro e rfl
   simp [sqK_all]

def S_sqS (pg:Pg):Prop:=∀ t:List (List Int),Tab t→t.length≤12→Call pg 417 [tb t] [tb t] (ownL (sqL t))
theorem t_sqS {pg:Pg} (hp:pg.fn 417=some c_spec_l05Squares):S_sqS pg:=by
 intro t ht hl
 refine Call.intro hp rfl (by simp) ?_
 show wp _ _ c_spec_l05Squares.body (post [.t 2] _ _ _) _
 simp [c_spec_l05Squares]
 refine wpLoop_count (fun k e=>e=fr [(0,some (.val (tb t))),(3,some (.val (ownL ((List.range k).map fun x=>v2 t x x)))),(4,some (.val (I k)))]) t.length ?_ ?_ 0 _ (by omega) rfl
 · rintro k e hk rfl
   have hr:=ht.row hk
   have e1:(List.map (I∘fun x=>v2 t x x) (List.range k))++[I (v2 t k k)]=((List.range (k+1)).map fun x=>v2 t x x).map I:=by
    rw [List.range_succ];simp
   have e2:ownL ((List.range (k+1)).map fun x=>v2 t x x)=.mem .own (some 1) ((List.map (I∘fun x=>v2 t x x) (List.range k))++[I (v2 t k k)]):=by rw [e1]
   simp [hk,hr,get_v2]
   rw [e2]
   exact ⟨by unfold roomy;omega,by omega,rfl⟩
 · rintro e rfl
   simp [sqL]

def S_cfI (pg:Pg):Prop:=∀ t:List (List Int),Tab t→0<t.length→t.length≤12→∃ o:Option (List Int),(o=none↔cyEq t)∧Call pg 415 [tb t] [tb t] (ownI o)
set_option maxRecDepth 10000 in
theorem t_cfI {pg:Pg} (hp:pg.fn 415=some c_impl_cycleFault):S_cfI pg:=by
 intro t ht h0 hl
 refine Call.find hp rfl (by simp) ?_
 show wp _ _ c_impl_cycleFault.body _ _
 generalize hR:(fun (x:X) (e:Env)=>∃ l:Option (List Int),(l=none↔cyEq t)∧post c_impl_cycleFault.rs [tb t] [tb t] (ownI l) x e)=R
 simp [c_impl_cycleFault]
 refine wpLoop_count (fun x e=>(∀ x' y z,x'<x→y<t.length→z<t.length→v2 t (vN t x' y) (vN t x' z)=v2 t (vN t y x') (vN t y z))∧e=fr [(0,some (.val (tb t))),(3,some (.val (I t.length))),(9,some (.val (I t.length))),(10,some (.val (I x)))]) t.length ?_ ?_ 0 _ (by omega) ⟨fun x' y z h=>by omega,rfl⟩
 · rintro x e hx ⟨hdx,rfl⟩
   simp [hx]
   refine wpLoop_count (fun y e=>(∀ y' z,y'<y→z<t.length→v2 t (vN t x y') (vN t x z)=v2 t (vN t y' x) (vN t y' z))∧e=fr [(0,some (.val (tb t))),(3,some (.val (I t.length))),(4,some (.val (I x))),(9,some (.val (I t.length))),(10,some (.val (I x))),(13,some (.val (I t.length))),(14,some (.val (I y)))]) t.length ?_ ?_ 0 _ (by omega) ⟨fun y' z h=>by omega,rfl⟩
   · rintro y e hy ⟨hdy,rfl⟩
     simp [hy]
     refine wpLoop_count (fun z e=>(∀ z',z'<z→v2 t (vN t x y) (vN t x z')=v2 t (vN t y x) (vN t y z'))∧e=fr [(0,some (.val (tb t))),(3,some (.val (I t.length))),(4,some (.val (I x))),(5,some (.val (I y))),(9,some (.val (I t.length))),(10,some (.val (I x))),(13,some (.val (I t.length))),(14,some (.val (I y))),(17,some (.val (I t.length))),(18,some (.val (I z)))]) t.length ?_ ?_ 0 _ (by omega) ⟨fun z' h=>by omega,rfl⟩
     · rintro z e hz ⟨hdz,rfl⟩
       have rx:=ht.row hx
       have ry:=ht.row hy
       obtain ⟨a1,a2⟩:=ht.vn h0 x y
       obtain ⟨b1,b2⟩:=ht.vn h0 x z
       obtain ⟨c1,c2⟩:=ht.vn h0 y x
       obtain ⟨d1,d2⟩:=ht.vn h0 y z
       have ra:=ht.row a2
       have rc:=ht.row c2
       have g1:(t[x])[y]=(vN t x y:Int):=by rw [get_v2];exact a1
       have g2:(t[x])[z]=(vN t x z:Int):=by rw [get_v2];exact b1
       have g3:(t[y])[x]=(vN t y x:Int):=by rw [get_v2];exact c1
       have g4:(t[y])[z]=(vN t y z:Int):=by rw [get_v2];exact d1
       by_cases he:v2 t (vN t x y) (vN t x z)=v2 t (vN t y x) (vN t y z)
       · simp [hz,hx,hy,rx,ry,g1,g2,g3,g4,a2,b2,c2,d2,ra,rc,get_v2,he]
         refine ⟨by omega,fun z' h=>?_⟩
         rcases Nat.lt_or_ge z' z with h1 | h1
         · exact hdz z' h1
         · obtain rfl:z'=z:=by omega
           exact he
       · simp [hz,hx,hy,rx,ry,g1,g2,g3,g4,a2,b2,c2,d2,ra,rc,get_v2,he]
         subst hR
         exact ⟨some [(x:Int),y,z],⟨fun h=>(by cases h),fun h=>absurd (h x y z hx hy hz) he⟩,by simp [post,c_impl_cycleFault,ownI]⟩
     · rintro e ⟨hdz,rfl⟩
       simp
       refine ⟨by omega,fun y' z h hz=>?_⟩
       rcases Nat.lt_or_ge y' y with h1 | h1
       · exact hdy y' z h1 hz
       · obtain rfl:y'=y:=by omega
         exact hdz z hz
   · rintro e ⟨hdy,rfl⟩
     simp
     refine ⟨by omega,fun x' y z h hy hz=>?_⟩
     rcases Nat.lt_or_ge x' x with h1 | h1
     · exact hdx x' y z h1 hy hz
     · obtain rfl:x'=x:=by omega
       exact hdy y z hy hz
 · rintro e ⟨hdx,rfl⟩
   simp
   subst hR
   exact ⟨none,⟨fun _=>hdx,fun _=>rfl⟩,by simp [post,c_impl_cycleFault,ownI]⟩

def S_cfS (pg:Pg):Prop:=∀ t:List (List Int),Tab t→0<t.length→t.length≤12→∃ q:List Int,(q.length≤3∧(q=[]↔cyEq t))∧Call pg 418 [tb t] [tb t] (ownL q)
set_option maxRecDepth 10000 in
theorem t_cfS {pg:Pg} (hp:pg.fn 418=some c_spec_l05Fault):S_cfS pg:=by
 intro t ht h0 hl
 refine Call.find hp rfl (by simp) ?_
 show wp _ _ c_spec_l05Fault.body _ _
 generalize hR:(fun (x:X) (e:Env)=>∃ q:List Int,(q.length≤3∧(q=[]↔cyEq t))∧post c_spec_l05Fault.rs [tb t] [tb t] (ownL q) x e)=R
 simp [c_spec_l05Fault]
 refine wpLoop_count (fun x e=>(∀ x' y z,x'<x→y<t.length→z<t.length→v2 t (vN t x' y) (vN t x' z)=v2 t (vN t y x') (vN t y z))∧e=fr [(0,some (.val (tb t))),(3,some (.val (I t.length))),(4,some (.val (I x)))]) t.length ?_ ?_ 0 _ (by omega) ⟨fun x' y z h=>by omega,rfl⟩
 · rintro x e hx ⟨hdx,rfl⟩
   simp [hx]
   refine wpLoop_count (fun y e=>(∀ y' z,y'<y→z<t.length→v2 t (vN t x y') (vN t x z)=v2 t (vN t y' x) (vN t y' z))∧e=fr [(0,some (.val (tb t))),(3,some (.val (I t.length))),(4,some (.val (I x))),(5,some (.val (I y)))]) t.length ?_ ?_ 0 _ (by omega) ⟨fun y' z h=>by omega,rfl⟩
   · rintro y e hy ⟨hdy,rfl⟩
     simp [hy]
     refine wpLoop_count (fun z e=>(∀ z',z'<z→v2 t (vN t x y) (vN t x z')=v2 t (vN t y x) (vN t y z'))∧e=fr [(0,some (.val (tb t))),(3,some (.val (I t.length))),(4,some (.val (I x))),(5,some (.val (I y))),(6,some (.val (I z)))]) t.length ?_ ?_ 0 _ (by omega) ⟨fun z' h=>by omega,rfl⟩
     · rintro z e hz ⟨hdz,rfl⟩
       have rx:=ht.row hx
       have ry:=ht.row hy
       obtain ⟨a1,a2⟩:=ht.vn h0 x y
       obtain ⟨b1,b2⟩:=ht.vn h0 x z
       obtain ⟨c1,c2⟩:=ht.vn h0 y x
       obtain ⟨d1,d2⟩:=ht.vn h0 y z
       have ra:=ht.row a2
       have rc:=ht.row c2
       have g1:(t[x])[y]=(vN t x y:Int):=by rw [get_v2];exact a1
       have g2:(t[x])[z]=(vN t x z:Int):=by rw [get_v2];exact b1
       have g3:(t[y])[x]=(vN t y x:Int):=by rw [get_v2];exact c1
       have g4:(t[y])[z]=(vN t y z:Int):=by rw [get_v2];exact d1
       by_cases he:v2 t (vN t x y) (vN t x z)=v2 t (vN t y x) (vN t y z)
       · simp [hz,hx,hy,rx,ry,g1,g2,g3,g4,a2,b2,c2,d2,ra,rc,get_v2,he]
         refine ⟨by omega,fun z' h=>?_⟩
         rcases Nat.lt_or_ge z' z with h1 | h1
         · exact hdz z' h1
         · obtain rfl:z'=z:=by omega
           exact he
       · simp [hz,hx,hy,rx,ry,g1,g2,g3,g4,a2,b2,c2,d2,ra,rc,get_v2,he]
         subst hR
         exact ⟨[(x:Int),y,z],⟨by simp,fun h=>(by cases h),fun h=>absurd (h x y z hx hy hz) he⟩,by simp [post,c_spec_l05Fault]⟩
     · rintro e ⟨hdz,rfl⟩
       simp
       refine ⟨by omega,fun y' z h hz=>?_⟩
       rcases Nat.lt_or_ge y' y with h1 | h1
       · exact hdy y' z h1 hz
       · obtain rfl:y'=y:=by omega
         exact hdz z hz
   · rintro e ⟨hdy,rfl⟩
     simp
     refine ⟨by omega,fun x' y z h hy hz=>?_⟩
     rcases Nat.lt_or_ge x' x with h1 | h1
     · exact hdx x' y z h1 hy hz
     · obtain rfl:x'=x:=by omega
       exact hdy y z hy hz
 · rintro e ⟨hdx,rfl⟩
   simp
   subst hR
   exact ⟨[],⟨by simp,fun _=>hdx,fun _=>rfl⟩,by simp [post,c_spec_l05Fault]⟩
end Go.Mch
namespace Go.Mch

theorem sqL_in {t:List (List Int)} (ht:Tab t) (h0:0<t.length):∀ x∈sqL t,0≤x∧x<(sqL t).length:=fun v hv=>by
 obtain ⟨x,_,rfl⟩:=List.mem_map.1 hv
 rw [sqL_length]
 exact ⟨ht.nonneg _ _,ht.lt h0 _ _⟩
theorem sqL_perm {t:List (List Int)} (h:isTable t):isPerm (sqL t)↔isPermuted (sqL t):=by
 obtain ⟨h1,h2,h3⟩:=h
 exact perm_permuted (by rw [sqL_length];exact h1) (by rw [sqL_length];exact h2) (sqL_in h3 h1)
theorem cyT_fits {t:List (List Int)} (h:isTable t):fits t:=⟨by have:=h.2.1;omega,fun r hr=>by have:=(h.2.2 r hr).1;have:=h.2.1;omega⟩

def S_isCy (pg:Pg) (n:Nat):Prop:=∀ t:List (List Int),fits t→Call pg n [cyT t] [cyT t] (B (dec (cyP t)))
set_option maxRecDepth 10000 in
theorem t_isCyS {pg:Pg} (hp:pg.fn 363=some c_spec_l05Is) (h46:S_table pg 46) (h410:S_l01Rows pg) (h417:S_sqS pg) (h47:S_perm pg 47) (h418:S_cfS pg):S_isCy pg 363:=by
 intro t hf
 have hc1:=h46 t hf.1 hf.2
 refine Call.intro hp rfl (by simp) ?_
 show wp _ _ c_spec_l05Is.body (post _ _ _ _) _
 simp [c_spec_l05Is]
 refine callR hc1 rfl rfl (fun _=>rfl) ?_
 by_cases hT:isTable t
 · obtain ⟨h0,h12,ht⟩:=hT
   have hT:isTable t:=⟨h0,h12,ht⟩
   have hc2:=h410 t ht h0 h12
   simp [hT]
   refine callR hc2 rfl rfl (fun _=>rfl) ?_
   by_cases hr:permRows t
   · simp [hr]
     refine callR (h417 t ht h12) rfl rfl (fun _=>by simp) ?_
     simp
     refine callR (h47 (sqL t) (by simp;omega)) rfl rfl (fun _=>rfl) ?_
     by_cases hq:isPerm (sqL t)
     · obtain ⟨q,⟨q1,q2⟩,hc5⟩:=h418 t ht h0 h12
       simp [hq]
       refine callR hc5 rfl rfl (fun _=>by simp) ?_
       have e:dec (cyP t)=decide (q=[]):=by
        by_cases hh:q=[]
        · rw [dec_true ⟨hT,hr,(sqL_perm hT).1 hq,q2.1 hh⟩];exact (decide_eq_true hh).symm
        · rw [dec_false fun h=>hh (q2.2 h.2.2.2)];exact (decide_eq_false hh).symm
       rw [e]
       simp
     · have e:dec (cyP t)=false:=dec_false fun h=>hq ((sqL_perm hT).2 h.2.2.1)
       simp [hq,e,undefV]
   · have e:dec (cyP t)=false:=dec_false fun h=>hr h.2.1
     simp [hr,e,undefV]
 · have e:dec (cyP t)=false:=dec_false fun h=>hT h.1
   simp [hT,e,undefV]

set_option maxRecDepth 10000 in
theorem t_isCyI {pg:Pg} (hp:pg.fn 360=some c_impl_IsCycleSet) (h50:S_table pg 50) (h51:S_permRows pg) (h414:S_sqI pg) (h66:S_isPermuted pg) (h415:S_cfI pg):S_isCy pg 360:=by
 intro t hf
 have hc1:=h50 t hf.1 hf.2
 refine Call.intro hp rfl (by simp) ?_
 show wp _ _ c_impl_IsCycleSet.body (post _ _ _ _) _
 simp [c_impl_IsCycleSet]
 refine callR hc1 rfl rfl (fun _=>rfl) ?_
 by_cases hT:isTable t
 · obtain ⟨h0,h12,ht⟩:=hT
   have hT:isTable t:=⟨h0,h12,ht⟩
   simp [hT]
   refine callR (h51 t hf.1 hf.2) rfl rfl (fun _=>rfl) ?_
   by_cases hr:permRows t
   · simp [hr]
     refine callR (h414 t ht h12) rfl rfl (fun _=>by simp) ?_
     simp
     refine callR (h66 (sqL t) (by simp;omega)) rfl rfl (fun _=>rfl) ?_
     by_cases hq:isPermuted (sqL t)
     · obtain ⟨o,q2,hc5⟩:=h415 t ht h0 h12
       simp [hq]
       refine callR hc5 rfl rfl (fun _=>by cases o <;> simp [ownI]) ?_
       have e:dec (cyP t)=o.isNone:=by
        cases o with
        | none=>rw [dec_true ⟨hT,hr,hq,q2.1 rfl⟩];rfl
        | some l=>rw [dec_false fun h=>by have:=q2.2 h.2.2.2;cases this];rfl
       rw [e]
       cases o <;> simp [ownI]
     · have e:dec (cyP t)=false:=dec_false fun h=>hq h.2.2.1
       simp [hq,e,undefV]
   · have e:dec (cyP t)=false:=dec_false fun h=>hr h.2.1
     simp [hr,e,undefV]
 · have e:dec (cyP t)=false:=dec_false fun h=>hT h.1
   simp [hT,e,undefV]
end Go.Mch
namespace Go.Mch

def cyL (t:List (List Int)) (x y:Nat):Nat:=(ixOf (t.getD x []) y).toNat
def cyF (t:List (List Int)):List (List Int):=tabL t.length fun x y=>(cyL t x y:Int)
def cyS (t:List (List Int)):List (List Int):=tabL t.length fun x y=>v2 t (cyL t x y) x

theorem cyP.ix {t:List (List Int)} (hT:isTable t) (hr:permRows t) {x y:Nat} (hx:x<t.length) (hy:y<t.length):ixOf (t[x]) y=cyL t x y∧cyL t x y<t.length∧vN t x (cyL t x y)=y:=by
 obtain ⟨h0,h12,ht⟩:=hT
 have hrow:=ht.row hx
 have hpm:Pm t[x]:=⟨hr _ (List.getElem_mem hx),by omega,by omega⟩
 have h1:=hpm.at (x:=y) (by omega)
 have h2:=(ixOf_mem t[x] y).2 (hpm.mem (by omega))
 have h3:=ixOf_le t[x] y
 have e:t.getD x []=t[x]:=by simp [hx]
 have e2:cyL t x y=invQ t[x] y:=by unfold cyL invQ;rw [e]
 refine ⟨by unfold cyL;rw [e];omega,by rw [e2];unfold invQ;omega,?_⟩
 rw [e2]
 unfold vN v2
 rw [e]
 omega
theorem cyP.cyc {t:List (List Int)} (h:cyP t):Cyc t.length (vN t) (cyL t):=by
 obtain ⟨hT,hr,hs,he⟩:=h
 have ht:=hT.2.2
 have h0:=hT.1
 have hv:=fun x y=>ht.vn (by omega) x y
 refine ⟨fun x y _ _=>(hv x y).2,fun x y y' hx hy hy' he'=>?_,fun x x' hx hx' he'=>?_,fun x y z hx hy hz=>?_,fun x y hx hy=>?_⟩
 · have hrow:=ht.row hx
   have hnd:=(hr _ (List.getElem_mem hx)).2
   have e1:=get_v2 hx (y:=y) (by omega)
   have e2:=get_v2 hx (y:=y') (by omega)
   have h1:=(hv x y).1
   have h2:=(hv x y').1
   refine (List.getElem_inj (h₀:=by omega) (h₁:=by omega) hnd).1 (e1.trans (Eq.trans ?_ e2.symm))
   omega
 · have hnd:=hs.2
   have e1:(sqL t)[x]'(by simpa using hx)=v2 t x x:=by simp [sqL]
   have e2:(sqL t)[x']'(by simpa using hx')=v2 t x' x':=by simp [sqL]
   have h1:=(hv x x).1
   have h2:=(hv x' x').1
   refine (List.getElem_inj hnd).1 (e1.trans (Eq.trans ?_ e2.symm))
   omega
 · have h1:=he x y z hx hy hz
   have h2:=(hv (vN t x y) (vN t x z)).1
   have h3:=(hv (vN t y x) (vN t y z)).1
   omega
 · obtain ⟨_,h1,h2⟩:=cyP.ix hT hr hx hy
   exact ⟨h1,h2⟩

def S_cs1 (pg:Pg):Prop:=∀ (t:List (List Int)) (x y:Nat),isTable t→permRows t→x<t.length→y<t.length→Call pg 416 [I x,I y,.mem .old none [tb t]] [I x,I y,.mem .old none [tb t]] (.tup [I (cyL t x y),I (v2 t (cyL t x y) x)])
theorem t_cs1 {pg:Pg} (hp:pg.fn 416=some c_impl_cycleSolution_1) (h287:S_indexIn pg 287):S_cs1 pg:=by
 intro t x y hT hr hx hy
 obtain ⟨h1,h2,_⟩:=cyP.ix hT hr hx hy
 have hrow:=hT.2.2.row hx
 have hrow2:=hT.2.2.row h2
 have h12:=hT.2.1
 refine Call.intro hp rfl (by simp) ?_
 show wp _ _ c_impl_cycleSolution_1.body (post [.t 5,.t 6] _ _ _) _
 simp [c_impl_cycleSolution_1,hx]
 refine callR (h287 t[x] y (by omega)) rfl rfl (fun _=>rfl) ?_
 simp [h1,h2,hrow2,hx,get_v2]

def S_cySol (pg:Pg) (n:Nat):Prop:=∀ t:List (List Int),isTable t→permRows t→Call pg n [cyT t] [cyT t] (ownS (cyF t,cyS t))
theorem t_cySolI {pg:Pg} (hp:pg.fn 361=some c_impl_cycleSolution) (h308:S_solBy pg) (h416:S_cs1 pg):S_cySol pg 361:=by
 intro t hT hr
 refine Call.intro hp rfl (by simp) ?_
 show wp _ _ c_impl_cycleSolution.body (post [.cell 2 (some 2)] _ _ _) _
 simp [c_impl_cycleSolution]
 have hb:=h308 t.length (fun x y=>(cyL t x y:Int)) (fun x y=>v2 t (cyL t x y) x) 416 [.mem .old none [tb t]] (by have:=hT.2.1;omega) (by simp) (by simp) fun x y hx hy=>h416 t x y hT hr hx hy
 refine callR hb rfl rfl (fun _=>by simp) ?_
 simp [cyF,cyS]

def fillT (n:Nat) (g:Nat→Nat→Int) (a b:Nat):List (List Int):=tabL n fun x y=>if x<a∨(x=a∧y<b) then g x y else 0
@[simp] theorem fillT_length (n:Nat) (g:Nat→Nat→Int) (a b:Nat):(fillT n g a b).length=n:=by simp [fillT]
theorem fillT_row {n:Nat} {g:Nat→Nat→Int} {a b i:Nat} (h:i<(fillT n g a b).length):(fillT n g a b)[i].length=n:=tabL_row (List.getElem_mem h)
theorem fillT_zero (n:Nat) (g:Nat→Nat→Int):fillT n g 0 0=zeroT n n:=by
 unfold fillT tabL zeroT
 apply List.ext_getElem (by simp)
 intro i h1 h2
 apply List.ext_getElem (by simp)
 intro j h3 h4
 simp
theorem fillT_next (n:Nat) (g:Nat→Nat→Int) (a:Nat):fillT n g a n=fillT n g (a+1) 0:=by
 refine tabL_congr fun x y hx hy=>?_
 by_cases h:x<a+1
 · rw [if_pos (by omega),if_pos (.inl h)]
 · rw [if_neg (by omega),if_neg (by omega)]
theorem fillT_all (n:Nat) (g:Nat→Nat→Int):fillT n g n 0=tabL n g:=tabL_congr fun _ _ hx _=>if_pos (.inl hx)
theorem fillT_set {n:Nat} {g:Nat→Nat→Int} {a b:Nat} (ha:a<n) (_hb:b<n):(fillT n g a b).set a (((fillT n g a b)[a]'(by simpa using ha)).set b (g a b))=fillT n g a (b+1):=by
 apply List.ext_getElem (by simp)
 intro i h1 h2
 have hi:i<n:=by simpa using h2
 apply List.ext_getElem
 · rw [fillT_row h2]
   by_cases h:a=i
   · subst h;simp [fillT_row]
   · simp [List.getElem_set_ne h,fillT_row]
 · intro j h3 h4
   have hj:j<n:=by rw [fillT_row h2] at h4;exact h4
   by_cases h:a=i
   · subst h
     by_cases h':b=j
     · subst h'
       simp [fillT,tabL]
     · simp only [List.getElem_set_self,List.getElem_set_ne h']
       simp only [fillT,tabL,List.getElem_map,List.getElem_range]
       by_cases hh:j<b
       · have h5:j<b+1:=by omega
         simp [hh,h5]
       · have h5:¬j<b+1:=by omega
         simp [hh,h5]
   · simp only [List.getElem_set_ne h]
     simp only [fillT,tabL,List.getElem_map,List.getElem_range]
     by_cases hh:i<a
     · rw [if_pos (.inl hh),if_pos (.inl hh)]
     · rw [if_neg (by omega),if_neg (by omega)]

set_option maxRecDepth 10000 in
theorem t_cySolS {pg:Pg} (hp:pg.fn 366=some c_spec_l05Solution) (h398:S_empty pg) (h69:S_index pg):S_cySol pg 366:=by
 intro t hT hr
 have h0:=hT.1
 have hn:=hT.2.1
 have ht:=hT.2.2
 refine Call.intro hp rfl (by simp) ?_
 show wp _ _ c_spec_l05Solution.body (post [.cell 2 (some 2)] _ _ _) _
 simp [c_spec_l05Solution]
 refine callR (h398 t.length (by omega) (by omega)) rfl rfl (fun _=>by simp) ?_
 simp
 generalize hG1:(fun x y=>(cyL t x y:Int))=G1
 generalize hG2:(fun x y=>v2 t (cyL t x y) x)=G2
 have e1:cyF t=tabL t.length G1:=by rw [← hG1];rfl
 have e2:cyS t=tabL t.length G2:=by rw [← hG2];rfl
 rw [e1,e2]
 refine wpLoop_count (fun a e=>e=fr [(1,some (.val (.mem .own none [tb t]))),(2,some (.val (.mem .own none [nil,nil]))),(3,some (.val (I t.length))),(4,some (.val (.mem .own none [ownTb (fillT t.length G1 a 0),ownTb (fillT t.length G2 a 0)]))),(5,some (.val (I a)))]) t.length ?_ ?_ 0 _ (by omega) (by simp [fillT_zero])
 · rintro a e ha rfl
   simp [ha,fillT_row]
   refine wpLoop_count (fun b e=>e=fr [(1,some (.val (.mem .own none [tb t]))),(2,some (.val (.mem .own none [nil,nil]))),(3,some (.val (I t.length))),(4,some (.val (.mem .own none [ownTb (fillT t.length G1 a b),ownTb (fillT t.length G2 a b)]))),(5,some (.val (I a))),(6,some (.sref 4 [0,a] 1 0 t.length)),(7,some (.sref 4 [1,a] 1 0 t.length)),(8,some (.val (I b)))]) t.length ?_ ?_ 0 _ (by omega) rfl
   · rintro b e hb rfl
     have xF:a<(fillT t.length G1 a b).length:=by simpa using ha
     have xS:a<(fillT t.length G2 a b).length:=by simpa using ha
     have rF:=fillT_row xF
     have rS:=fillT_row xS
     have sF:=fillT_set (g:=G1) ha hb
     have sS:=fillT_set (g:=G2) ha hb
     have hg1:(rows (fillT t.length G1 a b))[a]?=some (ownL (fillT t.length G1 a b)[a]):=by rw [rows_get,List.getElem?_eq_getElem xF];rfl
     have hg2:(rows (fillT t.length G2 a b))[a]?=some (ownL (fillT t.length G2 a b)[a]):=by rw [rows_get,List.getElem?_eq_getElem xS];rfl
     obtain ⟨z1,z2,_⟩:=cyP.ix hT hr ha hb
     have hrow:=ht.row ha
     have hrow2:=ht.row z2
     have q1:G1 a b=cyL t a b:=by rw [← hG1]
     have q2:G2 a b=v2 t (cyL t a b) a:=by rw [← hG2]
     rw [q1] at sF
     rw [q2] at sS
     simp [hb,ha]
     refine callR (h69 t[a] b (by omega)) rfl rfl (fun _=>rfl) ?_
     simp [z1,z2,hb,ha,rF,rS,hrow2,get_v2]
     rw [← sF,← sS]
     exact ⟨by omega,by omega,by simp only [ownTb,← rows_set2 xF,← rows_set2 xS]⟩
   · rintro e rfl
     simp
     rw [fillT_next,fillT_next]
     exact ⟨by omega,rfl⟩
 · rintro e rfl
   simp [fillT_all]

def S_solCy (pg:Pg) (n:Nat):Prop:=∀ f s:List (List Int),isTable f→permRows f→Call pg n [sol f s] [sol f s] (ownC (f.map invL))
theorem pm_row {f:List (List Int)} (h:isTable f) (hr:permRows f) {x:Nat} (hx:x<f.length):Pm f[x]:=⟨hr _ (List.getElem_mem hx),by rw [h.2.2.row hx];have:=h.1;omega,by rw [h.2.2.row hx];exact h.2.1⟩
theorem t_solCyI {pg:Pg} (hp:pg.fn 362=some c_impl_solutionCycle) (h307:S_inv pg 307):S_solCy pg 362:=by
 intro f s hT hr
 have h12:=hT.2.1
 refine Call.intro hp rfl (by simp) ?_
 show wp _ _ c_impl_solutionCycle.body (post [.cell 2 (some 1)] _ _ _) _
 simp [c_impl_solutionCycle]
 refine wpLoop_count (fun k e=>e=fr [(2,some (.val (.mem .own none [nil]))),(3,some (.val (.mem .own none [ownN2 ((f.map invL).take k)]))),(7,some (.val (tb f))),(8,some (.val (I f.length))),(9,some (.val (I k)))]) f.length ?_ ?_ 0 _ (by omega) (by simp)
 · rintro k e hk rfl
   have hk':k<(f.map invL).length:=by simpa using hk
   have e1:(f.map invL).take (k+1)=(f.map invL).take k++[invL f[k]]:=by rw [List.take_succ_eq_append_getElem hk'];simp
   have hl:((f.map invL).take k).length=k:=by simp;omega
   have hc:=h307 f[k] (pm_row hT hr hk)
   rw [e1]
   generalize (f.map invL).take k=A at hl
   simp [hk]
   refine callR hc rfl rfl (fun _=>by simp) ?_
   by_cases hk0:k=0
   · subst hk0
     obtain rfl:A=[]:=List.length_eq_zero_iff.1 hl
     simp
     exact ⟨by unfold roomy;omega,rfl⟩
   · rw [ownN2_ne hl (by omega)]
     simp
     exact ⟨by unfold roomy;omega,by omega,by simp only [ownN2_snoc]⟩
 · rintro e rfl
   have hF:(f.map invL).take f.length=f.map invL:=List.take_of_length_le (by simp)
   have hl:(f.map invL).length=f.length:=by simp
   rw [hF,ownN2_ne hl (by have:=hT.1;omega)]
   simp
theorem t_solCyS {pg:Pg} (hp:pg.fn 364=some c_spec_l05Cycle) (h304:S_inv pg 304):S_solCy pg 364:=by
 intro f s hT hr
 have h12:=hT.2.1
 refine Call.intro hp rfl (by simp) ?_
 show wp _ _ c_spec_l05Cycle.body (post [.cell 2 (some 1)] _ _ _) _
 simp [c_spec_l05Cycle]
 refine wpLoop_count (fun k e=>e=fr [(1,some (.val (.mem .own none [tb f,tb s]))),(2,some (.val (.mem .own none [nil]))),(3,some (.val (.mem .own none [ownN2 ((f.map invL).take k)]))),(4,some (.val (I k)))]) f.length ?_ ?_ 0 _ (by omega) (by simp)
 · rintro k e hk rfl
   have hk':k<(f.map invL).length:=by simpa using hk
   have e1:(f.map invL).take (k+1)=(f.map invL).take k++[invL f[k]]:=by rw [List.take_succ_eq_append_getElem hk'];simp
   have hl:((f.map invL).take k).length=k:=by simp;omega
   have hc:=h304 f[k] (pm_row hT hr hk)
   rw [e1]
   generalize (f.map invL).take k=A at hl
   by_cases hk0:k=0
   · subst hk0
     obtain rfl:A=[]:=List.length_eq_zero_iff.1 hl
     simp [hk]
     refine callR hc rfl rfl (fun _=>by simp) ?_
     simp
     exact ⟨by unfold roomy;omega,rfl⟩
   · rw [ownN2_ne hl (by omega)]
     simp [hk]
     refine callR hc rfl rfl (fun _=>by simp) ?_
     simp
     exact ⟨by unfold roomy;omega,by omega,by simp only [ownN2_snoc]⟩
 · rintro e rfl
   have hF:(f.map invL).take f.length=f.map invL:=List.take_of_length_le (by simp)
   have hl:(f.map invL).length=f.length:=by simp
   rw [hF,ownN2_ne hl (by have:=hT.1;omega)]
   simp
def S_mirS (pg:Pg):Prop:=∀ f s:List (List Int),PM f s→Call pg 365 [sol f s] [sol f s] (ownS (turnL s,turnL f))
theorem t_mirS {pg:Pg} (hp:pg.fn 365=some c_spec_l05Mirror) (h265:S_turn pg 265):S_mirS pg:=by
 intro f s h
 refine Call.intro hp rfl (by simp) ?_
 show wp _ _ c_spec_l05Mirror.body (post [.cell 2 (some 2)] _ _ _) _
 simp [c_spec_l05Mirror]
 refine callR (h265 s h.ts (by rw [h.len];exact h.small)) rfl rfl (fun _=>by simp) ?_
 simp
 refine callR (h265 f h.tf h.small) rfl rfl (fun _=>by simp) ?_
 simp
def S_mirI (pg:Pg):Prop:=∀ f s:List (List Int),PM f s→Call pg 246 [sol f s] [sol f s] (.tup [ownS (turnL s,turnL f),I 0])
theorem t_mirI {pg:Pg} (hp:pg.fn 246=some c_impl_MirrorSolution) (h59:S_pairMap pg 59) (h267:S_turn pg 267):S_mirI pg:=by
 intro f s h
 have hpm:isPairMap f s:=⟨⟨h.pos,h.small,h.tf⟩,⟨by rw [h.len];exact h.pos,by rw [h.len];exact h.small,h.ts⟩,h.len.symm⟩
 refine Call.intro hp rfl (by simp) ?_
 show wp _ _ c_impl_MirrorSolution.body (post [.cell 2 (some 2),.t 3] _ _ _) _
 simp [c_impl_MirrorSolution]
 refine callR (h59 f s (cyT_fits hpm.1) (cyT_fits hpm.2.1)) rfl rfl (fun _=>rfl) ?_
 simp [hpm]
 refine callR (h267 s h.ts (by rw [h.len];exact h.small)) rfl rfl (fun _=>by simp) ?_
 simp
 refine callR (h267 f h.tf h.small) rfl rfl (fun _=>by simp) ?_
 simp
end Go.Mch
namespace Go.Mch

def dualT (t:List (List Int)):List (List Int):=(turnL (cyS t)).map invL
def duD (t:List (List Int)) (x y:Nat):Nat:=invQ (colL (cyS t) x) y
theorem dualT_eq (t:List (List Int)):dualT t=tabL t.length fun x y=>(duD t x y:Int):=by
 unfold dualT
 rw [turnL_rows]
 simp only [List.map_map]
 have hl:(cyS t).length=t.length:=by simp [cyS]
 unfold tabL
 rw [hl]
 refine List.map_congr_left fun x _=>?_
 simp [invL,hl,duD]
theorem tabL_nat {n:Nat} {g:Nat→Nat→Nat} {x y:Nat} (hx:x<n) (hy:y<n):vN (tabL n fun x y=>(g x y:Int)) x y=g x y:=by
 unfold vN;rw [v2_tabL hx hy];simp
theorem tabL_isT {n:Nat} {g:Nat→Nat→Nat} (h0:1≤n) (h12:n≤12) (hg:∀ x y,x<n→y<n→g x y<n):isTable (tabL n fun x y=>(g x y:Int)) :=
 ⟨by simpa using h0,by simpa using h12,tab_of fun x y hx hy=>⟨by omega,by have:=hg x y hx hy;omega⟩⟩
theorem tabL_perm {n:Nat} {g:Nat→Nat→Nat} (hg:∀ x y,x<n→y<n→g x y<n) (hi:∀ x y y',x<n→y<n→y'<n→g x y=g x y'→y=y'):permRows (tabL n fun x y=>(g x y:Int)):=by
 intro r hr
 obtain ⟨x,hx,rfl⟩:=List.mem_map.1 hr
 simp only [List.mem_range] at hx
 refine ⟨fun v hv=>?_,?_⟩
 · obtain ⟨y,hy,rfl⟩:=List.mem_map.1 hv
   simp only [List.mem_range] at hy
   have:=hg x y hx hy
   simp
   omega
 · rw [List.nodup_iff_pairwise_ne,List.pairwise_iff_getElem]
   intro i j hi' hj' hij he
   simp at hi' hj'
   simp at he
   have:=hi x i j hx hi' hj' (by omega)
   omega
theorem tabL_sq {n:Nat} {g:Nat→Nat→Nat} (hg:∀ x y,x<n→y<n→g x y<n) (hs:∀ x x',x<n→x'<n→g x x=g x' x'→x=x'):isPermuted (sqL (tabL n fun x y=>(g x y:Int))):=by
 have e:sqL (tabL n fun x y=>(g x y:Int))=(List.range n).map fun x=>(g x x:Int):=by
  unfold sqL
  rw [tabL_length]
  refine List.map_congr_left fun x hx=>?_
  simp only [List.mem_range] at hx
  rw [v2_tabL hx hx]
 rw [e]
 refine ⟨fun v hv=>?_,?_⟩
 · obtain ⟨y,hy,rfl⟩:=List.mem_map.1 hv
   simp only [List.mem_range] at hy
   have:=hg y y hy hy
   simp
   omega
 · rw [List.nodup_iff_pairwise_ne,List.pairwise_iff_getElem]
   intro i j hi' hj' hij he
   simp at hi' hj'
   simp at he
   have:=hs i j hi' hj' (by omega)
   omega
theorem cyP_tabL {n:Nat} {g L:Nat→Nat→Nat} (h0:1≤n) (h12:n≤12) (h:Cyc n g L):cyP (tabL n fun x y=>(g x y:Int)):=by
 refine ⟨tabL_isT h0 h12 h.r,tabL_perm h.r h.i,tabL_sq h.r h.s,fun x y z hx hy hz=>?_⟩
 rw [tabL_length] at hx hy hz
 rw [tabL_nat hx hy,tabL_nat hx hz,tabL_nat hy hx,tabL_nat hy hz,v2_tabL (h.r _ _ hx hy) (h.r _ _ hx hz),v2_tabL (h.r _ _ hy hx) (h.r _ _ hy hz),h.e x y z hx hy hz]

section
variable {t:List (List Int)}
theorem cyP.small (h:cyP t):1≤t.length∧t.length≤12:=⟨h.1.1,h.1.2.1⟩
theorem cyF_eq (t:List (List Int)):cyF t=tabL t.length fun x y=>(cyL t x y:Int):=rfl
theorem cyP.cyS_eq (h:cyP t):cyS t=tabL t.length fun x y=>(cR (vN t) (cyL t) x y:Int):=tabL_congr fun x y hx hy=>by
 rw [(h.1.2.2.vn (by have:=h.1.1;omega) _ _).1];rfl
theorem cyP.pm (h:cyP t):PM (cyF t) (cyS t):=by
 have hc:=h.cyc
 obtain ⟨h0,h12⟩:=h.small
 have e:=h.cyS_eq
 refine ⟨(tabL_isT h0 h12 fun x y hx hy=>(hc.l x y hx hy).1).2.2,by rw [e];exact (tabL_isT h0 h12 fun x y hx hy=>hc.rr hx hy).2.2,by simp [cyF,cyS],by simp [cyF];omega,by simpa [cyF] using h12⟩
theorem cyP.turn_eq (h:cyP t):turnL (cyS t)=tabL t.length fun x y=>(cR (vN t) (cyL t) y x:Int):=by
 unfold turnL
 rw [show (cyS t).length=t.length from by simp [cyS]]
 refine tabL_congr fun x y hx hy=>?_
 rw [h.cyS_eq,v2_tabL hy hx]
theorem cyP.turnS (h:cyP t):isTable (turnL (cyS t))∧permRows (turnL (cyS t)):=by
 have hc:=h.cyc
 obtain ⟨h0,h12⟩:=h.small
 rw [h.turn_eq]
 exact ⟨tabL_isT h0 h12 fun x y hx hy=>hc.rr hy hx,tabL_perm (fun x y hx hy=>hc.rr hy hx) fun x y y' hx hy hy' he=>hc.rinj hy hy' hx he⟩
theorem cyP.dua (h:cyP t):Dua t.length (vN t) (cyL t) (duD t):=by
 have hc:=h.cyc
 obtain ⟨h0,h12⟩:=h.small
 refine ⟨hc,fun x y hx hy=>?_⟩
 have hl:(colL (cyS t) x).length=t.length:=by simp [cyS]
 have hmem:colL (cyS t) x∈turnL (cyS t):=by
  rw [turnL_rows]
  exact List.mem_map.2 ⟨x,by simpa [cyS] using hx,rfl⟩
 have hpm:Pm (colL (cyS t) x):=⟨h.turnS.2 _ hmem,by omega,by omega⟩
 have h1:=hpm.at (x:=y) (by omega)
 have h2:=(ixOf_mem (colL (cyS t) x) y).2 (hpm.mem (by omega))
 have h3:=ixOf_le (colL (cyS t) x) y
 have h4:duD t x y<t.length:=by unfold duD invQ;omega
 refine ⟨h4,?_⟩
 have e:(colL (cyS t) x).getD (duD t x y) 0=(cR (vN t) (cyL t) (duD t x y) x:Int):=by
  rw [List.getD_eq_getElem?_getD,List.getElem?_eq_getElem (by omega)]
  simp only [Option.getD_some,colL,List.getElem_map,List.getElem_range]
  rw [h.cyS_eq,v2_tabL h4 hx]
 have e2:(colL (cyS t) x).getD (duD t x y) 0=y:=h1
 omega
theorem cyP.dual (h:cyP t):cyP (dualT t):=by
 obtain ⟨h0,h12⟩:=h.small
 rw [dualT_eq]
 exact cyP_tabL h0 h12 h.dua.cyc
@[simp] theorem dualT_length (t:List (List Int)):(dualT t).length=t.length:=by rw [dualT_eq];simp
theorem dualT_vn {x y:Nat} (hx:x<t.length) (hy:y<t.length):vN (dualT t) x y=duD t x y:=by rw [dualT_eq];exact tabL_nat hx hy
theorem cyP.cyl (h:cyP t) {L:Nat→Nat→Nat} {x y:Nat} (hx:x<t.length) (hy:y<t.length) (hl:L x y<t.length∧vN t x (L x y)=y):cyL t x y=L x y :=
 h.cyc.i x _ _ hx (h.cyc.l x y hx hy).1 hl.1 ((h.cyc.l x y hx hy).2.trans hl.2.symm)
theorem cyP.dual_l (h:cyP t) {x y:Nat} (hx:x<t.length) (hy:y<t.length):cyL (dualT t) x y=cR (vN t) (cyL t) y x:=by
 have hd:=h.dua.cyc
 have hl:=hd.l x y hx hy
 refine h.dual.cyl (L:=fun x y=>cR (vN t) (cyL t) y x) (by simpa using hx) (by simpa using hy) ⟨by simpa using hl.1,?_⟩
 rw [dualT_vn hx hl.1]
 exact hl.2
theorem cyP.dual_F (h:cyP t):cyF (dualT t)=turnL (cyS t):=by
 rw [h.turn_eq,cyF_eq,dualT_length]
 refine tabL_congr fun x y hx hy=>?_
 rw [h.dual_l hx hy]
theorem cyP.dual_S (h:cyP t):cyS (dualT t)=turnL (cyF t):=by
 have hc:=h.cyc
 rw [h.dual.cyS_eq,dualT_length]
 unfold turnL
 rw [show (cyF t).length=t.length from by simp [cyF]]
 refine tabL_congr fun x y hx hy=>?_
 rw [cyF_eq,v2_tabL hy hx,← h.dua.sec hx hy]
 unfold cR
 rw [h.dual_l hx hy,dualT_vn (hc.rr hy hx) hx]
 rfl
theorem cyP.dual_dual (h:cyP t):dualT (dualT t)=t:=by
 rw [dualT_eq (dualT t),dualT_length]
 have e:=tab_eq (t:=t) (n:=t.length) rfl fun r hr=>(h.1.2.2 r hr).1
 conv=>rhs;rw [e]
 refine tabL_congr fun x y hx hy=>?_
 rw [(h.1.2.2.vn (by have:=h.1.1;omega) x y).1]
 have hd:=h.dual.dua
 have h2:=hd.d x y (by simpa using hx) (by simpa using hy)
 rw [dualT_length] at h2
 have h3:=h.dua.dua.d x y hx hy
 have h4:∀ z,z<t.length→cR (vN (dualT t)) (cyL (dualT t)) z x=cR (duD t) (fun x y=>cR (vN t) (cyL t) y x) z x:=fun z hz=>by
  unfold cR
  rw [h.dual_l hz hx]
  exact dualT_vn (h.cyc.rr hx hz) hz
 rw [h4 _ h2.1] at h2
 have:=h.dua.cyc.rinj h2.1 h3.1 hx (h2.2.trans h3.2.symm)
 rw [this]
end

noncomputable def duaR (t:List (List Int)):T:=bif dec (cyP t) then .tup [ownC (dualT t),I 0] else .tup [.agg [nil],I 1]
def S_dualT (pg:Pg) (n:Nat):Prop:=∀ t:List (List Int),fits t→Call pg n [cyT t] [cyT t] (duaR t)
theorem t_dualI {pg:Pg} (hp:pg.fn 243=some c_impl_DualCycleSet) (h360:S_isCy pg 360) (h361:S_cySol pg 361) (h246:S_mirI pg) (h362:S_solCy pg 362):S_dualT pg 243:=by
 intro t hf
 refine Call.intro hp rfl (by simp) ?_
 show wp _ _ c_impl_DualCycleSet.body (post [.cell 2 (some 1),.t 3] _ _ _) _
 simp [c_impl_DualCycleSet]
 refine callR (h360 t hf) rfl rfl (fun _=>rfl) ?_
 by_cases h:cyP t
 · obtain ⟨q1,q2⟩:=h.turnS
   simp [dec_true h,duaR]
   refine callR (h361 t h.1 h.2.1) rfl rfl (fun _=>by simp) ?_
   simp
   refine callR (h246 _ _ h.pm) rfl rfl (fun _=>by simp) ?_
   simp
   refine callR (h362 _ (turnL (cyF t)) q1 q2) rfl rfl (fun _=>by simp) ?_
   simp [dualT]
 · simp [dec_false h,duaR]
theorem t_dualS {pg:Pg} (hp:pg.fn 244=some c_spec_DualCycleSet) (h363:S_isCy pg 363) (h366:S_cySol pg 366) (h365:S_mirS pg) (h364:S_solCy pg 364):S_dualT pg 244:=by
 intro t hf
 refine Call.intro hp rfl (by simp) ?_
 show wp _ _ c_spec_DualCycleSet.body (post [.cell 2 (some 1),.t 3] _ _ _) _
 simp [c_spec_DualCycleSet]
 refine callR (h363 t hf) rfl rfl (fun _=>rfl) ?_
 by_cases h:cyP t
 · obtain ⟨q1,q2⟩:=h.turnS
   simp [dec_true h,duaR]
   refine callR (h366 t h.1 h.2.1) rfl rfl (fun _=>by simp) ?_
   simp
   refine callR (h365 _ _ h.pm) rfl rfl (fun _=>by simp) ?_
   simp
   refine callR (h364 _ (turnL (cyF t)) q1 q2) rfl rfl (fun _=>by simp) ?_
   simp [dualT]
 · simp [dec_false h,duaR]
def S_socs (pg:Pg):Prop:=∀ t:List (List Int),cyP t→Call pg 245 [cyT t] [cyT t] (.tup [ownS (cyF t,cyS t),I 0])
theorem t_socs {pg:Pg} (hp:pg.fn 245=some c_impl_SolutionOfCycleSet) (h360:S_isCy pg 360) (h361:S_cySol pg 361):S_socs pg:=by
 intro t h
 refine Call.intro hp rfl (by simp) ?_
 show wp _ _ c_impl_SolutionOfCycleSet.body (post [.cell 2 (some 2),.t 3] _ _ _) _
 simp [c_impl_SolutionOfCycleSet]
 refine callR (h360 t (cyT_fits h.1)) rfl rfl (fun _=>rfl) ?_
 simp [dec_true h]
 refine callR (h361 t h.1 h.2.1) rfl rfl (fun _=>by simp) ?_
 simp
def S_renT (pg:Pg):Prop:=∀ (t:List (List Int)) (p:List Int),isTable t→Pm p→p.length=t.length→Call pg 250 [tb t,ix p] [tb t,ix p] (.tup [ownTb (imT t p),I 0])
def S_isPc (pg:Pg):Prop:=∀ p:List Int,Pm p→Call pg 346 [ix p] [ix p] (B true)
theorem t_isPc {pg:Pg} (hp:pg.fn 346=some c_impl_IsPermutation) (h35:S_in pg 35) (h66:S_isPermuted pg):S_isPc pg:=by
 intro p h
 have hl:=h.pos
 have h12:=h.sm
 refine Call.intro hp rfl (by simp) ?_
 show wp _ _ c_impl_IsPermutation.body (post [.t 2] _ _ _) _
 have h1:=h66 p (by omega)
 rw [decide_eq_true h.pm] at h1
 have g1:(1:Int)≤p.length:=by omega
 have g2:(p.length:Int)≤12:=by omega
 simp [c_impl_IsPermutation]
 refine callR (h35 p.length 1 12) rfl rfl (fun _=>rfl) ?_
 simp [g1,g2]
 refine callR h1 rfl rfl (fun _=>rfl) ?_
 simp
theorem t_renT {pg:Pg} (hp:pg.fn 250=some c_impl_RenameTable) (h50:S_table pg 50) (h346:S_isPc pg) (h306:S_image pg 306):S_renT pg:=by
 intro t p hT hpm hl
 have hf:=cyT_fits hT
 refine Call.intro hp rfl (by simp) ?_
 show wp _ _ c_impl_RenameTable.body (post [.t 4,.t 5] _ _ _) _
 simp [c_impl_RenameTable]
 refine callR (h50 t hf.1 hf.2) rfl rfl (fun _=>rfl) ?_
 simp [hT]
 refine callR (h346 p hpm) rfl rfl (fun _=>rfl) ?_
 simp [hl]
 refine callR (h306 t p hT.2.2 hpm hl) rfl rfl (fun _=>by simp) ?_
 simp
end Go.Mch
namespace Go.Mch

@[simp] theorem frzL_tba (k:K) (A:List (List (List Int))):T.frzL k (A.map tb)=A.map tb:=by
 induction A with
 | nil=>rfl
 | cons t A ih=>simp [T.frzL,T.frz,ih]
def S_isos (pg:Pg):Prop:=∀ A C:List (List (List Int)),Call pg 369 [tba A,tba C] [tba A,tba C] (.fn 419 [.mem .fresh none [tba A],.mem .fresh none [tba C]])
theorem t_isos {pg:Pg} (hp:pg.fn 369=some c_impl_isomorphisms):S_isos pg:=by
 intro A C
 refine Call.intro hp rfl (by simp) ?_
 show wp _ _ c_impl_isomorphisms.body (post [.t 4] _ _ _) _
 simp [c_impl_isomorphisms]

theorem isT_Tbs {L:List (List (List Int))} {n:Nat} (h0:1≤n) (h:∀ t∈L,Tab t∧t.length=n):Tbs n L:=⟨h0,h⟩

def S_cyIso (pg:Pg) (k:Nat):Prop:=∀ (t u:List (List Int)) (r:T),fits t→fits u→(cyP t→cyP u→isoAns [t] [u] t.length u.length r)→(¬(cyP t∧cyP u)→r=.tup [nil,I 1])→Call pg k [cyT t,cyT u] [cyT t,cyT u] r
theorem cyc_impl {pg pg0:Pg} (hp:∀ args args' r,isoP cycA cycB cycC 21 (Call pg0) args args' r→Call pg 248 args args' r) (h360:S_isCy pg0 360) (h369:S_isos pg0):S_cyIso pg 248:=by
 intro t u r ht hu h1 h2
 refine hp _ _ _ ⟨rfl,by simp,rfl,?_⟩
 simp [cycA,cycB,cycC]
 refine callR (h360 t ht) rfl rfl (fun _=>rfl) ?_
 by_cases hct:cyP t
 · simp [dec_true hct]
   refine callR (h360 u hu) rfl rfl (fun _=>rfl) ?_
   by_cases hcu:cyP u
   · simp [dec_true hcu]
     refine callR (h369 [t] [u]) rfl rfl (fun hh=>by simp at hh) ?_
     show isoLoop _ _ _
     refine ⟨[t],[u],t.length,u.length,.mem .fresh none [tba [t]],.mem .fresh none [tba [u]],rfl,rfl,rfl,by simp [T.ery],by simp [T.ery],isT_Tbs hct.1.1 (fun x hx=>?_),isT_Tbs hcu.1.1 (fun x hx=>?_),rfl,by simp,by simp,hct.1.2.1,h1 hct hcu⟩
     · rw [List.mem_singleton.1 hx];exact ⟨hct.1.2.2,rfl⟩
     · rw [List.mem_singleton.1 hx];exact ⟨hcu.1.2.2,rfl⟩
   · have:=h2 fun h=>hcu h.2
     subst this
     simp [dec_false hcu]
     simp [isoRX,post]
 · have:=h2 fun h=>hct h.1
   subst this
   simp [dec_false hct,undefV]
   simp [isoRX,post]

def S_soIso (pg:Pg) (k:Nat):Prop:=∀ (f s g w:List (List Int)) (r:T),PM f s→PM g w→isoAns [f,s] [g,w] f.length g.length r→Call pg k [sol f s,sol g w] [sol f s,sol g w] r
theorem PM.map {f s:List (List Int)} (h:PM f s):isPairMap f s:=⟨⟨h.pos,h.small,h.tf⟩,⟨by rw [h.len];exact h.pos,by rw [h.len];exact h.small,h.ts⟩,h.len.symm⟩
theorem sol_impl {pg pg0:Pg} (hp:∀ args args' r,isoP cycA solB solC 25 (Call pg0) args args' r→Call pg 251 args args' r) (h59:S_pairMap pg0 59) (h369:S_isos pg0):S_soIso pg 251:=by
 intro f s g w r hf hg h1
 have pf:=hf.map
 have pg':=hg.map
 refine hp _ _ _ ⟨rfl,by simp,rfl,?_⟩
 simp [cycA,solB,solC]
 refine callR (h59 f s (cyT_fits pf.1) (cyT_fits pf.2.1)) rfl rfl (fun _=>rfl) ?_
 simp [pf]
 refine callR (h59 g w (cyT_fits pg'.1) (cyT_fits pg'.2.1)) rfl rfl (fun _=>rfl) ?_
 simp [pg']
 refine callR (h369 [f,s] [g,w]) rfl rfl (fun hh=>by simp at hh) ?_
 show isoLoop _ _ _
 refine ⟨[f,s],[g,w],f.length,g.length,.mem .fresh none [tba [f,s]],.mem .fresh none [tba [g,w]],rfl,rfl,rfl,by simp [T.ery],by simp [T.ery],isT_Tbs hf.pos (fun x hx=>?_),isT_Tbs hg.pos (fun x hx=>?_),rfl,by simp,by simp,hf.small,h1⟩
 · simp only [List.mem_cons,List.not_mem_nil,or_false] at hx
   rcases hx with rfl | rfl
   · exact ⟨hf.tf,rfl⟩
   · exact ⟨hf.ts,hf.len⟩
 · simp only [List.mem_cons,List.not_mem_nil,or_false] at hx
   rcases hx with rfl | rfl
   · exact ⟨hg.tf,rfl⟩
   · exact ⟨hg.ts,hg.len⟩

theorem iso_cyc {t u:List (List Int)} (ht:cyP t) (hu:cyP u) (he:u.length=t.length) (p:Nat→Nat):Iso [t] [u] t.length p↔Iso [cyF t,cyS t] [cyF u,cyS u] t.length p:=by
 have ct:=ht.cyc
 have cu:=hu.cyc
 rw [he] at cu
 have eF:∀ x y,x<t.length→y<t.length→vN (cyF t) x y=cyL t x y:=fun x y hx hy=>by rw [cyF_eq];exact tabL_nat hx hy
 have eS:∀ x y,x<t.length→y<t.length→vN (cyS t) x y=cR (vN t) (cyL t) x y:=fun x y hx hy=>by rw [ht.cyS_eq];exact tabL_nat hx hy
 have fF:∀ x y,x<t.length→y<t.length→vN (cyF u) x y=cyL u x y:=fun x y hx hy=>by rw [cyF_eq];exact tabL_nat (by omega) (by omega)
 have fS:∀ x y,x<t.length→y<t.length→vN (cyS u) x y=cR (vN u) (cyL u) x y:=fun x y hx hy=>by rw [hu.cyS_eq];exact tabL_nat (by omega) (by omega)
 constructor
 · intro h
   have h1:=fun x y hx hy=>h.eq 0 t u rfl rfl x y hx hy
   obtain ⟨h2,h3⟩:=(ct.iso cu h.lt).1 h1
   refine ⟨h.lt,h.inj,fun k a b ha hb x y hx hy=>?_⟩
   match k,ha,hb with
   | 0,ha,hb =>
    cases ha;cases hb
    rw [eF x y hx hy,fF _ _ (h.lt x hx) (h.lt y hy)]
    exact h2 x y hx hy
   | 1,ha,hb =>
    cases ha;cases hb
    rw [eS x y hx hy,fS _ _ (h.lt x hx) (h.lt y hy)]
    exact h3 x y hx hy
 · intro h
   refine ⟨h.lt,h.inj,fun k a b ha hb x y hx hy=>?_⟩
   match k,ha,hb with
   | 0,ha,hb =>
    cases ha;cases hb
    refine (ct.iso cu h.lt).2 ⟨fun x y hx hy=>?_,fun x y hx hy=>?_⟩ x y hx hy
    · have:=h.eq 0 _ _ rfl rfl x y hx hy
      rw [eF x y hx hy,fF _ _ (h.lt x hx) (h.lt y hy)] at this
      exact this
    · have:=h.eq 1 _ _ rfl rfl x y hx hy
      rw [eS x y hx hy,fS _ _ (h.lt x hx) (h.lt y hy)] at this
      exact this
end Go.Mch
namespace Go.Mch

def fN (f:List Int) (x:Nat):Nat:=(f.getD x 0).toNat
def InF (n:Nat) (f:List Int):Prop:=∀ v∈f,0≤v∧v<n
theorem InF.get {n:Nat} {f:List Int} (h:InF n f) {x:Nat} (hx:x<f.length):f[x]=(fN f x:Int)∧fN f x<n:=by
 have h1:=h _ (List.getElem_mem hx)
 have h2:f.getD x 0=f[x]:=by simp [hx]
 unfold fN
 rw [h2]
 omega
def fitK (a b:List (List Int)) (f:List Int) (x y:Nat):Prop:=vN a x y<f.length→¬(x+1<f.length∧y+1<f.length∧vN a x y+1<f.length)→fN f (vN a x y)=vN b (fN f x) (fN f y)
def fitP (A C:List (List (List Int))) (f:List Int):Prop:=∀ (k:Nat) a b,A[k]?=some a→C[k]?=some b→∀ x y,x<f.length→y<f.length→fitK a b f x y

def S_fits (pg:Pg):Prop:=∀ (A C:List (List (List Int))) (n:Nat) (f:List Int),Tbs n A→Tbs n C→A.length=C.length→A.length≤4→n≤12→InF n f→0<f.length→f.length≤n→Call pg 462 [tba A,tba C,ix f] [tba A,tba C,ix f] (B (dec (fitP A C f)))
set_option maxRecDepth 20000 in
set_option maxHeartbeats 1000000 in
theorem t_fits {pg:Pg} (hp:pg.fn 462=some c_spec_l03Fits):S_fits pg:=by
 intro A C n f hA hC hAC hk hn hf h0 hl
 have hyes:fitP A C f→dec (fitP A C f)=true:=dec_true
 have hno:¬fitP A C f→dec (fitP A C f)=false:=dec_false
 generalize dec (fitP A C f)=b at hyes hno
 have hend:¬(f.length:Int)≤(f.length:Int)-1:=by omega
 refine Call.intro hp rfl (by simp) ?_
 show wp _ _ c_spec_l03Fits.body (post [.t 6] _ _ _) _
 simp [c_spec_l03Fits]
 refine ⟨by omega,?_⟩
 refine wpLoop_count (fun k e=>(∀ k',k'<k→∀ a b,A[k']?=some a→C[k']?=some b→∀ x y,x<f.length→y<f.length→fitK a b f x y)∧e=fr [(0,some (.val (tba A))),(1,some (.val (tba C))),(2,some (.val (ix f))),(7,some (.val (I ((f.length:Int)-1)))),(8,some (.val (I k)))]) A.length ?_ ?_ 0 _ (by omega) ⟨fun k' h=>by omega,rfl⟩
 · rintro k e hkA ⟨hd,rfl⟩
   obtain ⟨a,ha⟩:∃ a,A[k]=a:=⟨_,rfl⟩
   obtain ⟨c,hc⟩:∃ c,C[k]'(by omega)=c:=⟨_,rfl⟩
   have ha?:A[k]?=some a:=by rw [List.getElem?_eq_getElem hkA,ha]
   have hc?:C[k]?=some c:=by rw [List.getElem?_eq_getElem (by omega),hc]
   have hkC:k<C.length:=by omega
   obtain ⟨ta,la⟩:=hA.2 a (List.mem_of_getElem? ha?)
   obtain ⟨tc,lc⟩:=hC.2 c (List.mem_of_getElem? hc?)
   simp [hkA]
   refine wpLoop_count (fun x e=>(∀ x',x'<x→∀ y,y<f.length→fitK a c f x' y)∧e=fr [(0,some (.val (tba A))),(1,some (.val (tba C))),(2,some (.val (ix f))),(7,some (.val (I ((f.length:Int)-1)))),(8,some (.val (I k))),(9,some (.val (I x)))]) f.length ?_ ?_ 0 _ (by omega) ⟨fun k' h=>by omega,rfl⟩
   · rintro x e hx ⟨hdx,rfl⟩
     have hx1:(x:Int)≤(f.length:Int)-1:=by omega
     simp [hx1]
     refine wpLoop_count (fun y e=>(∀ y',y'<y→fitK a c f x y')∧e=fr [(0,some (.val (tba A))),(1,some (.val (tba C))),(2,some (.val (ix f))),(7,some (.val (I ((f.length:Int)-1)))),(8,some (.val (I k))),(9,some (.val (I x))),(10,some (.val (I y)))]) f.length ?_ ?_ 0 _ (by omega) ⟨fun k' h=>by omega,rfl⟩
     · rintro y e hy ⟨hdy,rfl⟩
       have hy1:(y:Int)≤(f.length:Int)-1:=by omega
       have rx:=ta.row (x:=x) (by omega)
       obtain ⟨v1,v2'⟩:=ta.vn (by omega) x y
       have g1:(a[x]'(by omega))[y]'(by omega)=(vN a x y:Int):=by rw [get_v2];exact v1
       have hxa:x<a.length:=by omega
       have hya:y<a.length:=by omega
       obtain ⟨x1,x2⟩:=hf.get hx
       obtain ⟨y1,y2⟩:=hf.get hy
       have hxc:fN f x<c.length:=by omega
       have hyc:fN f y<c.length:=by omega
       have rc:=tc.row hxc
       obtain ⟨w1,w2⟩:=tc.vn (by omega) (fN f x) (fN f y)
       have g2:(c[fN f x])[fN f y]'(by omega)=(vN c (fN f x) (fN f y):Int):=by rw [get_v2];exact w1
       have hnext:∀ y',y'<y+1→(fitK a c f x y)→fitK a c f x y':=fun y' h h'=>by
        rcases Nat.lt_or_ge y' y with h1 | h1
        · exact hdy y' h1
        · obtain rfl:y'=y:=by omega
          exact h'
       by_cases hv:vN a x y<f.length
       · have hv1:¬(f.length:Int)-1<(vN a x y:Int):=by omega
         obtain ⟨q1,q2⟩:=hf.get hv
         have e1:((x:Int)<(f.length:Int)-1)↔x+1<f.length:=by omega
         have e2:((y:Int)<(f.length:Int)-1)↔y+1<f.length:=by omega
         have e3:((vN a x y:Int)<(f.length:Int)-1)↔vN a x y+1<f.length:=by omega
         by_cases hskip:x+1<f.length∧y+1<f.length∧vN a x y+1<f.length
         · simp [hkA,ha,hxa,rx,hya,g1,hy1,hv1,e1,e2,e3,hskip]
           exact ⟨by omega,fun y' h=>hnext y' h fun _ h2=>absurd hskip h2⟩
         · have hcase:¬x+1<f.length∨(x+1<f.length∧¬y+1<f.length)∨((x+1<f.length∧y+1<f.length)∧¬vN a x y+1<f.length):=by omega
           by_cases heq:fN f (vN a x y)=vN c (fN f x) (fN f y)
           · rcases hcase with s1 | ⟨s1,s2⟩ | ⟨⟨s1,s2⟩,s3⟩
             · simp [hkA,ha,hxa,rx,hya,g1,hy1,hv1,e1,e2,e3,s1,hv,q1,hx,x1,hy,y1,hkC,hc,hxc,rc,hyc,g2,heq,undefV]
               exact ⟨by omega,fun y' h=>hnext y' h fun _ _=>heq⟩
             · simp [hkA,ha,hxa,rx,hya,g1,hy1,hv1,e1,e2,e3,s1,s2,hv,q1,hx,x1,hy,y1,hkC,hc,hxc,rc,hyc,g2,heq,undefV]
               exact ⟨by omega,fun y' h=>hnext y' h fun _ _=>heq⟩
             · simp [hkA,ha,hxa,rx,hya,g1,hy1,hv1,e1,e2,e3,s1,s2,s3,hv,q1,hx,x1,hy,y1,hkC,hc,hxc,rc,hyc,g2,heq,undefV]
               exact ⟨by omega,fun y' h=>hnext y' h fun _ _=>heq⟩
           · have hb:=hno fun h=>heq (h k a c ha? hc? x y hx hy hv hskip)
             have heq':¬((fN f (vN a x y):Int)=(vN c (fN f x) (fN f y):Int)):=by omega
             rcases hcase with s1 | ⟨s1,s2⟩ | ⟨⟨s1,s2⟩,s3⟩
             · simp [hkA,ha,hxa,rx,hya,g1,hy1,hv1,e1,e2,e3,s1,hv,q1,hx,x1,hy,y1,hkC,hc,hxc,rc,hyc,g2,heq,undefV,heq',hb]
             · simp [hkA,ha,hxa,rx,hya,g1,hy1,hv1,e1,e2,e3,s1,s2,hv,q1,hx,x1,hy,y1,hkC,hc,hxc,rc,hyc,g2,heq,undefV,heq',hb]
             · simp [hkA,ha,hxa,rx,hya,g1,hy1,hv1,e1,e2,e3,s1,s2,s3,hv,q1,hx,x1,hy,y1,hkC,hc,hxc,rc,hyc,g2,heq,undefV,heq',hb]
       · have hv1:(f.length:Int)-1<(vN a x y:Int):=by omega
         simp [hkA,ha,hxa,rx,hya,g1,hy1,hv1,undefV]
         exact ⟨by omega,fun y' h=>hnext y' h fun h1=>absurd h1 hv⟩
     · rintro e ⟨hdy,rfl⟩
       simp [hend]
       refine ⟨by omega,fun x' h y hy=>?_⟩
       rcases Nat.lt_or_ge x' x with h1 | h1
       · exact hdx x' h1 y hy
       · obtain rfl:x'=x:=by omega
         exact hdy y hy
   · rintro e ⟨hdx,rfl⟩
     simp [hend]
     refine ⟨by omega,fun k' h a' c' ha' hc' x y hx hy=>?_⟩
     rcases Nat.lt_or_ge k' k with h1 | h1
     · exact hd k' h1 a' c' ha' hc' x y hx hy
     · obtain rfl:k'=k:=by omega
       rw [ha?] at ha';cases ha'
       rw [hc?] at hc';cases hc'
       exact hdx x hx y hy
 · rintro e ⟨hd,rfl⟩
   have hb:=hyes fun k a b ha hb x y hx hy=>hd k (by
    rcases Nat.lt_or_ge k A.length with h1 | h1
    · exact h1
    · rw [List.getElem?_eq_none h1] at ha;cases ha) a b ha hb x y hx hy
   simp [hb]
end Go.Mch
namespace Go.Mch

def cl (col:List Int) (y:Nat):Int:=col.getD y 0
def ClN (n:Nat) (col:List Int):Prop:=col.length=n∧∀ v∈col,0≤v∧v≤60
theorem ClN.at {n:Nat} {col:List Int} (h:ClN n col) (y:Nat):0≤cl col y∧cl col y≤60:=by
 unfold cl
 rw [List.getD_eq_getElem?_getD]
 cases hy:col[y]? with
 | none=>simp
 | some v=>exact h.2 v (List.mem_of_getElem? hy)
theorem cl_get {col:List Int} {y:Nat} (hy:y<col.length):col[y]=cl col y:=by simp [cl,hy]
def ow (a:List (List Int)) (x y:Nat):Int:=(if vN a x y=y then 1 else 0)+(if vN a y x=y then 2 else 0)+(if vN a x y=x then 4 else 0)+(if vN a y x=x then 8 else 0)
def cod (a:List (List Int)) (col:List Int) (x y:Nat):Int:=((cl col y*64+cl col (vN a x y))*64+cl col (vN a y x))*16+ow a x y
def cnT (a:List (List Int)) (n x y:Nat):Nat:=(List.range n).countP fun z=>vN a y z == x
def cot (a:List (List Int)) (col:List Int) (n x y:Nat):Int:=1099511627776+cl col y*64+(cnT a n x y:Int)
def nmL (a:List (List Int)) (col:List Int) (n x:Nat):List Int:=(List.range n).map (cod a col x)++(List.range n).map (cot a col n x)
def SP (s m:List Int):Prop:=s.Perm m∧s.Pairwise (·≤·)
theorem SP.uniq {s s' m m':List Int} (h:SP s m) (h':SP s' m') (hm:m.Perm m'):s=s' :=
 List.Perm.eq_of_pairwise (fun _ _ _ _ h1 h2=>Int.le_antisymm h1 h2) h.2 h'.2 (h.1.trans (hm.trans h'.1.symm))
def mkL (n:Nat) (col:List Int) (x:Nat):List (List (List Int))→List Int→Prop
 | [],l=>l=[]
 | a::A,l=>∃ s r,l=s++r∧SP s (nmL a col n x)∧mkL n col x A r
theorem mkL_snoc {n:Nat} {col:List Int} {x:Nat} {a:List (List Int)} {s:List Int} (hs:SP s (nmL a col n x)):∀ {A:List (List (List Int))} {l:List Int},mkL n col x A l→mkL n col x (A++[a]) (l++s)
 | [],l,h=>by
  have:l=[]:=h
  subst this
  exact ⟨s,[],by simp,hs,rfl⟩
 | b::A,l,h=>by
  obtain ⟨s',r,rfl,h1,h2⟩:=h
  exact ⟨s',r++s,by simp,h1,mkL_snoc hs h2⟩
theorem mkL_len {n:Nat} {col:List Int} {x:Nat}:∀ {A:List (List (List Int))} {l:List Int},mkL n col x A l→l.length=A.length*(2*n)
 | [],l,h=>by
  have:l=[]:=h
  subst this;simp
 | b::A,l,h=>by
  obtain ⟨s',r,rfl,h1,h2⟩:=h
  have h3:=h1.1.length_eq
  have h4:=mkL_len h2
  simp only [nmL,List.length_append,List.length_map,List.length_range] at h3
  rw [List.length_append,h3,h4,List.length_cons,Nat.add_mul]
  omega
def mkP (A:List (List (List Int))) (n:Nat) (col:List Int) (x:Nat) (l:List Int):Prop:=∃ r,l=cl col x::r∧mkL n col x A r

theorem map_range {n:Nat} {q:Nat→Nat} (hlt:∀ x,x<n→q x<n) (hi:∀ x y,x<n→y<n→q x=q y→x=y):((List.range n).map q).Perm (List.range n):=by
 refine (List.perm_ext_iff_of_nodup ?_ List.nodup_range).2 fun a=>?_
 · rw [List.nodup_iff_pairwise_ne,List.pairwise_iff_getElem]
   intro i j hi' hj' hij he
   simp at hi' hj' he
   have:=hi i j hi' hj' he
   omega
 · simp only [List.mem_map,List.mem_range]
   constructor
   · rintro ⟨x,hx,rfl⟩;exact hlt x hx
   · intro ha
     obtain ⟨x,hx,e⟩:=surj_of_inj (g:=q) hlt (fun x y hx hy=>hi x y hx hy) a ha
     exact ⟨x,hx,e⟩

def Kc (n:Nat) (c1 c2:List Int) (q:Nat→Nat):Prop:=∀ x,x<n→cl c1 x=cl c2 (q x)
theorem nmL_perm {n:Nat} {a b:List (List Int)} {c1 c2:List Int} {q:Nat→Nat} (ha:Tab a∧a.length=n) (hlt:∀ x,x<n→q x<n) (hi:∀ x y,x<n→y<n→q x=q y→x=y)
 (he:∀ x y,x<n→y<n→q (vN a x y)=vN b (q x) (q y)) (hc:Kc n c1 c2 q) {x:Nat} (hx:x<n):(nmL a c1 n x).Perm (nmL b c2 n (q x)):=by
 have hv:∀ x y,x<n→y<n→vN a x y<n:=fun x y _ _=>by have:=(ha.1.vn (by omega) x y).2;omega
 have hr:=map_range hlt hi
 have iff1:∀ u v,u<n→v<n→(q u=q v↔u=v):=fun u v hu hv=>⟨hi u v hu hv,fun e=>by rw [e]⟩
 have e1:(List.range n).map (cod a c1 x)=((List.range n).map q).map (cod b c2 (q x)):=by
  rw [List.map_map]
  refine List.map_congr_left fun y hy=>?_
  simp only [List.mem_range] at hy
  simp only [Function.comp,cod,ow]
  rw [← he x y hx hy,← he y x hy hx,← hc y hy,← hc _ (hv x y hx hy),← hc _ (hv y x hy hx)]
  simp only [iff1 _ _ (hv x y hx hy) hy,iff1 _ _ (hv y x hy hx) hy,iff1 _ _ (hv x y hx hy) hx,iff1 _ _ (hv y x hy hx) hx]
 have e2:(List.range n).map (cot a c1 n x)=((List.range n).map q).map (cot b c2 n (q x)):=by
  rw [List.map_map]
  refine List.map_congr_left fun y hy=>?_
  simp only [List.mem_range] at hy
  simp only [Function.comp,cot]
  rw [← hc y hy]
  have h1:cnT b n (q x) (q y)=cnT a n x y:=by
   unfold cnT
   rw [← hr.countP_eq,List.countP_map]
   refine List.countP_congr fun z hz=>?_
   simp only [List.mem_range] at hz
   simp only [Function.comp,beq_iff_eq]
   rw [← he y z hy hz]
   exact iff1 _ _ (hv y z hy hz) hx
  rw [h1]
 unfold nmL
 rw [e1,e2]
 exact (hr.map _).append (hr.map _)
theorem mkL_uniq {n:Nat} {c1 c2:List Int} {q:Nat→Nat} (hlt:∀ x,x<n→q x<n) (hi:∀ x y,x<n→y<n→q x=q y→x=y) (hc:Kc n c1 c2 q) {x:Nat} (hx:x<n) :
 ∀ {A C:List (List (List Int))} {l l':List Int},A.length=C.length→(∀ t∈A,Tab t∧t.length=n)→(∀ (k:Nat) t u,A[k]?=some t→C[k]?=some u→∀ x y,x<n→y<n→q (vN t x y)=vN u (q x) (q y))→mkL n c1 x A l→mkL n c2 (q x) C l'→l=l'
 | [],[],l,l',_,_,_,h,h'=>by rw [show l=[] from h,show l'=[] from h']
 | a::A,b::C,l,l',hl,hA,he,h,h'=>by
  obtain ⟨s,r,rfl,h1,h2⟩:=h
  obtain ⟨s',r',rfl,h1',h2'⟩:=h'
  rw [h1.uniq h1' (nmL_perm (hA a (by simp)) hlt hi (he 0 a b rfl rfl) hc hx)]
  rw [mkL_uniq hlt hi hc hx (by simpa using hl) (fun t ht=>hA t (List.mem_cons_of_mem _ ht)) (fun k t u ht hu=>he (k+1) t u ht hu) h2 h2']
theorem mkP_uniq {A C:List (List (List Int))} {n:Nat} {c1 c2:List Int} {q:Nat→Nat} (hA:Tbs n A) (hAC:A.length=C.length) (hq:Iso A C n q) (hc:Kc n c1 c2 q) {x:Nat} (hx:x<n) {l l':List Int} (h:mkP A n c1 x l) (h':mkP C n c2 (q x) l'):l=l':=by
 obtain ⟨r,rfl,h1⟩:=h
 obtain ⟨r',rfl,h1'⟩:=h'
 rw [mkL_uniq hq.lt hq.inj hc hx hAC hA.2 hq.eq h1 h1',hc x hx]
end Go.Mch
namespace Go.Mch

def gz (s:List Int) (p:Nat):Int:=s.getD p 0
theorem gz_at {s:List Int} {k:Nat} (h:k<s.length):s[k]=gz s k:=by simp [gz,h]
def swZ (s:List Int) (j:Nat):List Int:=(s.set (j+1) (gz s j)).set j (gz s (j+1))
@[simp] theorem swZ_length (s:List Int) (j:Nat):(swZ s j).length=s.length:=by simp [swZ]
theorem gz_swZ {s:List Int} {j:Nat} (hj:j+1<s.length) (p:Nat):gz (swZ s j) p=if p=j then gz s (j+1) else if p=j+1 then gz s j else gz s p:=by
 simp only [gz,swZ,List.getD_eq_getElem?_getD,List.getElem?_set,List.length_set]
 by_cases h1:j=p
 · subst h1
   have:j<s.length:=by omega
   simp [this]
 · have h1':¬p=j:=fun h=>h1 h.symm
   by_cases h2:j+1=p
   · subst h2;simp [hj]
   · have h2':¬p=j+1:=fun h=>h2 h.symm
     simp [h1,h2,h1',h2']
theorem swZ_perm {s:List Int} {j:Nat} (hj:j+1<s.length):(swZ s j).Perm s:=by
 have h:=List.set_set_perm (i:=j+1) (j:=j) hj (by omega)
 rw [gz_at hj,gz_at (show j<s.length by omega)] at h
 exact h
structure Ins (s:List Int) (i j:Nat):Prop where
 le:j≤i∧i<s.length
 off:∀ p q,p<q→q≤i→q≠j→p≠j→gz s p≤gz s q
 up:∀ q,j<q→q≤i→gz s j≤gz s q
def Sd (s:List Int) (i:Nat):Prop:=∀ p q,p<q→q<i→gz s p≤gz s q
theorem Ins.start {s:List Int} {i:Nat} (h:Sd s i) (hi:i<s.length):Ins s i i :=
 ⟨⟨Nat.le_refl _,hi⟩,fun p q hpq hq hn _=>h p q hpq (by omega),fun q h1 h2=>by omega⟩
theorem Ins.step {s:List Int} {i j:Nat} (h:Ins s i (j+1)) (hl:gz s (j+1)<gz s j):Ins (swZ s j) i j:=by
 obtain ⟨⟨h1,h2⟩,h3,h4⟩:=h
 have g:=gz_swZ (s:=s) (j:=j) (by omega)
 refine ⟨⟨by omega,by simp;omega⟩,fun p q hpq hq hqn hpn=>?_,fun q hq1 hq2=>?_⟩
 · rw [g,g,if_neg hpn,if_neg hqn]
   by_cases e1:p=j+1
   · rw [if_pos e1,if_neg (by omega)]
     exact h3 j q (by omega) hq (by omega) (by omega)
   · rw [if_neg e1]
     by_cases e2:q=j+1
     · rw [if_pos e2]
       exact h3 p j (by omega) (by omega) (by omega) (by omega)
     · rw [if_neg e2]
       exact h3 p q hpq hq e2 e1
 · rw [g,g,if_pos rfl,if_neg (by omega)]
   by_cases e2:q=j+1
   · rw [if_pos e2];omega
   · rw [if_neg e2]
     exact h4 q (by omega) hq2
theorem Ins.done {s:List Int} {i j:Nat} (h:Ins s i j) (hl:∀ k,j=k+1→¬gz s j<gz s k):Sd s (i+1):=by
 obtain ⟨⟨h1,h2⟩,h3,h4⟩:=h
 intro p q hpq hq
 by_cases e1:q=j
 · subst e1
   obtain ⟨k,rfl⟩:∃ k,q=k+1:=⟨q-1,by omega⟩
   have:=hl k rfl
   by_cases e2:p=k
   · subst e2;omega
   · have:=h3 p k (by omega) (by omega) (by omega) (by omega)
     omega
 · by_cases e2:p=j
   · subst e2;exact h4 q hpq (by omega)
   · exact h3 p q hpq (by omega) e1 e2
theorem Sd.sorted {s:List Int} (h:Sd s s.length):s.Pairwise (·≤·):=by
 rw [List.pairwise_iff_getElem]
 intro i j hi hj hij
 rw [gz_at hi,gz_at hj]
 exact h i j hij hj

def cnK (a:List (List Int)) (n x y k:Nat):List Int:=(List.range n).map fun j=>if j<y then (cnT a n x j:Int) else if j=y then (((List.range k).countP fun z=>vN a y z == x:Nat):Int) else 0
@[simp] theorem cnK_length (a:List (List Int)) (n x y k:Nat):(cnK a n x y k).length=n:=by simp [cnK]
theorem cnK_zero (a:List (List Int)) (n x:Nat):cnK a n x 0 0=List.replicate n 0:=by
 apply List.ext_getElem
 · simp
 · intro i h1 h2
   simp [cnK]
theorem cnK_row (a:List (List Int)) (n x y:Nat):cnK a n x y n=cnK a n x (y+1) 0:=by
 unfold cnK
 refine List.map_congr_left fun j _=>?_
 by_cases h1:j<y
 · rw [if_pos h1,if_pos (by omega)]
 · rw [if_neg h1]
   by_cases h2:j=y
   · subst h2;rw [if_pos rfl,if_pos (by omega)];rfl
   · rw [if_neg h2,if_neg (by omega)]
     split <;> simp
theorem cnK_at {a:List (List Int)} {n x y k:Nat} (hy:y<n):(cnK a n x y k)[y]?=some (((List.range k).countP fun z=>vN a y z == x:Nat):Int):=by simp [cnK,hy]
theorem cnK_skip {a:List (List Int)} {n x y k:Nat} (h:vN a y k≠x):cnK a n x y (k+1)=cnK a n x y k:=by
 unfold cnK
 rw [List.range_succ,List.countP_append]
 simp [h]
theorem cnK_set {a:List (List Int)} {n x y k:Nat} (h:vN a y k=x):(cnK a n x y k).set y ((((List.range k).countP fun z=>vN a y z == x:Nat):Int)+1)=cnK a n x y (k+1):=by
 apply List.ext_getElem
 · simp
 · intro i h1 h2
   simp only [List.getElem_set,cnK,List.getElem_map,List.getElem_range]
   by_cases e:y=i
   · subst e
     rw [if_pos rfl,if_neg (by omega),if_pos rfl,List.range_succ,List.countP_append]
     simp [h]
   · rw [if_neg e]
     by_cases e1:i<y
     · rw [if_pos e1,if_pos e1]
     · rw [if_neg e1,if_neg e1,if_neg (by omega),if_neg (by omega)]
theorem cnK_all (a:List (List Int)) (n x:Nat):cnK a n x n 0=(List.range n).map fun j=>(cnT a n x j:Int):=by
 unfold cnK
 refine List.map_congr_left fun j hj=>?_
 rw [if_pos (by simpa using hj)]
end Go.Mch
namespace Go.Mch

def mkSt (A:List (List (List Int))) (n:Nat) (col:List Int) (x:Nat) (k:Nat) (e:Env):Prop :=
 ∃ l,mkL n col x (A.take k) l∧e=fr [(0,some (.val (tba A))),(1,some (.val (ix col))),(2,some (.val (I x))),(7,some (.val (I n))),(8,some (.val (ownL (cl col x::l)))),(9,some (.val (I k)))]
def srSt (A:List (List (List Int))) (col:List Int) (x n:Nat) (l:List Int) (k:Nat) (m:List Int) (i:Nat) (e:Env):Prop :=
 ∃ s,(s.Perm m∧Sd s i)∧e=fr [(0,some (.val (tba A))),(1,some (.val (ix col))),(2,some (.val (I x))),(7,some (.val (I n))),(8,some (.val (ownL (cl col x::l)))),(9,some (.val (I k))),(10,some (.val (ownL s))),(19,some (.val (I i)))]
def snSt (A:List (List (List Int))) (col:List Int) (x n:Nat) (l:List Int) (k:Nat) (m:List Int) (i j:Nat) (e:Env):Prop :=
 ∃ s,(s.Perm m∧Ins s i j)∧e=fr [(0,some (.val (tba A))),(1,some (.val (ix col))),(2,some (.val (I x))),(7,some (.val (I n))),(8,some (.val (ownL (cl col x::l)))),(9,some (.val (I k))),(10,some (.val (ownL s))),(19,some (.val (I i))),(20,some (.val (I j)))]

def S_mark (pg:Pg):Prop:=∀ (A:List (List (List Int))) (n:Nat) (col:List Int) (x:Nat),Tbs n A→A.length≤4→n≤12→ClN n col→x<n→∃ l,mkP A n col x l∧Call pg 467 [tba A,ix col,I x] [tba A,ix col,I x] (ownL l)
set_option maxRecDepth 20000 in
set_option maxHeartbeats 1000000 in
theorem t_mark {pg:Pg} (hp:pg.fn 467=some c_spec_l03Mark):S_mark pg:=by
 intro A n col x hA hk hn hc hx
 have hcl:=hc.1
 have hxc:x<col.length:=by omega
 refine Call.find hp rfl (by simp) ?_
 simp [c_spec_l03Mark,hxc,cl_get]
 rw [hcl]
 refine wpLoop_count (mkSt A n col x) A.length ?_ ?_ 0 _ (by omega) ?_
 · rintro k e hkA ⟨l,hl,rfl⟩
   obtain ⟨a,ha⟩:∃ a,A[k]=a:=⟨_,rfl⟩
   have ha?:A[k]?=some a:=by rw [List.getElem?_eq_getElem hkA,ha]
   obtain ⟨ta,la⟩:=hA.2 a (List.mem_of_getElem? ha?)
   have hv:=fun p q=>ta.vn (by omega) p q
   simp [hkA]
   refine wpLoop_count (fun y e=>e=fr [(0,some (.val (tba A))),(1,some (.val (ix col))),(2,some (.val (I x))),(7,some (.val (I n))),(8,some (.val (ownL (cl col x::l)))),(9,some (.val (I k))),(10,some (.val (ownL ((List.range y).map (cod a col x))))),(11,some (.val (I y)))]) n ?_ ?_ 0 _ (by omega) ?_
   · rintro y e hy rfl
     have hxa:x<a.length:=by omega
     have hya:y<a.length:=by omega
     have rx:=ta.row (x:=x) (by omega)
     have ry:=ta.row (x:=y) (by omega)
     have g1:(a[x]'hxa)[y]'(by omega)=(vN a x y:Int):=by rw [get_v2];exact (hv x y).1
     have g2:(a[y]'hya)[x]'(by omega)=(vN a y x:Int):=by rw [get_v2];exact (hv y x).1
     have hu:=(hv x y).2
     have hw:=(hv y x).2
     have cy:=hc.at y
     have cu:=hc.at (vN a x y)
     have cv:=hc.at (vN a y x)
     have hyc:y<col.length:=by omega
     have huc:vN a x y<col.length:=by omega
     have hwc:vN a y x<col.length:=by omega
     have e1:=cl_get hyc
     have e2:=cl_get huc
     have e3:=cl_get hwc
     rw [List.range_succ,List.map_append]
     simp only [List.map_cons,List.map_nil]
     generalize hL:(List.range y).map (cod a col x)=L
     have hLl:L.length=y:=by rw [← hL];simp
     have hcod:cod a col x y=((cl col y*64+cl col (vN a x y))*64+cl col (vN a y x))*16+ow a x y:=rfl
     have how:ow a x y=(if (vN a x y:Int)=(y:Int) then 1 else 0)+(if (vN a y x:Int)=(y:Int) then 2 else 0)+(if (vN a x y:Int)=(x:Int) then 4 else 0)+(if (vN a y x:Int)=(x:Int) then 8 else 0):=by
      unfold ow
      simp only [Int.natCast_inj]
     simp [hkA,ha,hxa,rx,hya,ry,g1,g2,hy,hyc,e1,huc,e2,hwc,e3]
     split <;> split <;> split <;> split
     all_goals
      rename_i q1 q2 q3 q4
      have hk:=how
      first | rw [if_pos q1] at hk | rw [if_neg q1] at hk
      first | rw [if_pos q2] at hk | rw [if_neg q2] at hk
      first | rw [if_pos q3] at hk | rw [if_neg q3] at hk
      first | rw [if_pos q4] at hk | rw [if_neg q4] at hk
      and_intros
     all_goals first | omega | (unfold roomy;omega) | (rw [hcod,hk];simp [ownL])
   · rintro e rfl
     generalize hL:(List.range n).map (cod a col x)=L
     have hLl:L.length=n:=by rw [← hL];simp
     simp
     refine ⟨by unfold roomy;omega,?_⟩
     refine wpLoop_count (fun y e=>e=fr [(0,some (.val (tba A))),(1,some (.val (ix col))),(2,some (.val (I x))),(7,some (.val (I n))),(8,some (.val (ownL (cl col x::l)))),(9,some (.val (I k))),(10,some (.val (ownL L))),(15,some (.val (ownL (cnK a n x y 0)))),(16,some (.val (I y)))]) n ?_ ?_ 0 _ (by omega) ?_
     · rintro y e hy rfl
       have hya:y<a.length:=by omega
       have ry:=ta.row (x:=y) (by omega)
       simp [hy]
       refine wpLoop_count (fun z e=>e=fr [(0,some (.val (tba A))),(1,some (.val (ix col))),(2,some (.val (I x))),(7,some (.val (I n))),(8,some (.val (ownL (cl col x::l)))),(9,some (.val (I k))),(10,some (.val (ownL L))),(15,some (.val (ownL (cnK a n x y z)))),(16,some (.val (I y))),(17,some (.val (I z)))]) n ?_ ?_ 0 _ (by omega) ?_
       · rintro z e hz rfl
         have hza:z<a.length:=by omega
         have g1:(a[y]'hya)[z]'(by omega)=(vN a y z:Int):=by rw [get_v2];exact (hv y z).1
         have hcl:=cnK_length a n x y z
         by_cases h:vN a y z=x
         · have hs:=cnK_set (n:=n) h (k:=z)
           have hg:=cnK_at (a:=a) (x:=x) (k:=z) hy
           have hb:(List.range z).countP (fun z=>vN a y z == x)≤z:=by
            have:=List.countP_le_length (p:=fun z=>vN a y z == x) (l:=List.range z)
            simpa using this
           rw [← hs]
           generalize (List.range z).countP (fun z=>vN a y z == x)=c at *
           generalize cnK a n x y z=K at *
           have hyK:y<K.length:=by omega
           have hg':K[y]=(c:Int):=by
            rw [List.getElem?_eq_getElem hyK] at hg
            simpa using hg
           simp [hkA,ha,hya,ry,hza,g1,h,hy,hz,hyK,hg']
           exact ⟨by omega,by omega,by omega,by simp [ownL,List.map_set]⟩
         · rw [cnK_skip h]
           have h':¬((vN a y z:Int)=(x:Int)):=by omega
           simp [hkA,ha,hya,ry,hza,g1,h',hz]
           omega
       · rintro e rfl
         simp [cnK_row]
         omega
       · simp
     · rintro e rfl
       rw [cnK_all]
       simp
       refine wpLoop_count (fun y e=>e=fr [(0,some (.val (tba A))),(1,some (.val (ix col))),(2,some (.val (I x))),(7,some (.val (I n))),(8,some (.val (ownL (cl col x::l)))),(9,some (.val (I k))),(10,some (.val (ownL (L++(List.range y).map (cot a col n x))))),(15,some (.val (ownL ((List.range n).map fun j=>(cnT a n x j:Int))))),(18,some (.val (I y)))]) n ?_ ?_ 0 _ (by omega) ?_
       · rintro y e hy rfl
         have hyc:y<col.length:=by omega
         have e1:=cl_get hyc
         have cy:=hc.at y
         have hcn:cnT a n x y≤n:=by
          have:=List.countP_le_length (p:=fun z=>vN a y z == x) (l:=List.range n)
          simpa [cnT] using this
         have hcot:cot a col n x y=1099511627776+cl col y*64+(cnT a n x y:Int):=rfl
         rw [List.range_succ,List.map_append]
         simp only [List.map_cons,List.map_nil]
         rw [← List.append_assoc]
         generalize hL2:L++(List.range y).map (cot a col n x)=L2
         have hL2l:L2.length=n+y:=by rw [← hL2];simp [hLl]
         simp [hy,hyc,e1]
         and_intros
         all_goals first | omega | (unfold roomy;omega) | (rw [hcot];simp [ownL])
       · rintro e rfl
         generalize hm:L++(List.range n).map (cot a col n x)=m
         have hml:m.length=n+n:=by rw [← hm];simp [hLl]
         have hmn:nmL a col n x=m:=by rw [← hm,← hL];rfl
         simp
         refine wpLoop_count (fun i e=>srSt A col x n l k m i e) m.length ?_ ?_ 1 _ (by omega) ?_
         · rintro i e hi ⟨s,⟨hs1,hs2⟩,rfl⟩
           have hsl:=hs1.length_eq
           have his:i<s.length:=by omega
           simp [his]
           refine wpLoop_lower (α:=Nat) (fun j=>j) (fun j e=>snSt A col x n l k m i j e) ?_ i _ ⟨s,⟨hs1,.start hs2 his⟩,by simp⟩
           rintro j e ⟨s,⟨hs1,hs2⟩,rfl⟩
           have hsl:=hs1.length_eq
           have hii:=hs2.le
           cases j with
           | zero =>
            simp [undefV]
            exact ⟨by omega,s,⟨hs1,hs2.done fun k hk=>by omega⟩,by simp⟩
           | succ j =>
            have hj1:j+1<s.length:=by omega
            have hj0:j<s.length:=by omega
            have q1:=gz_at hj1
            have q0:=gz_at hj0
            by_cases hlt:gz s (j+1)<gz s j
            · simp [hj1,hj0,q1,q0,hlt]
              refine ⟨by omega,by omega,by omega,by omega,by omega,by omega,by omega,by omega,by omega,j,by omega,swZ s j,⟨(swZ_perm hj1).trans hs1,hs2.step hlt⟩,?_⟩
              simp [swZ,ownL,List.map_set]
            · simp [hj1,hj0,q1,q0,hlt]
              refine ⟨by omega,by omega,by omega,s,⟨hs1,hs2.done fun k hk=>?_⟩,by simp⟩
              obtain rfl:j=k:=by omega
              exact hlt
         · rintro e ⟨s,⟨hs1,hs2⟩,rfl⟩
           have hsl:=hs1.length_eq
           have hsp:SP s (nmL a col n x):=by
            rw [hmn]
            refine ⟨hs1,Sd.sorted ?_⟩
            rw [hsl];exact hs2
           simp [hsl]
           have hlen:=mkL_len hl
           have hmin:(A.take k).length≤4:=by simp;omega
           have hle:(A.take k).length*(2*n)≤4*(2*n):=Nat.mul_le_mul_right _ hmin
           refine ⟨by unfold roomy;omega,by omega,l++s,?_,by simp [ownL]⟩
           rw [List.take_succ_eq_append_getElem hkA,ha]
           exact mkL_snoc hsp hl
         · exact ⟨m,⟨.refl _,fun p q h1 h2=>by omega⟩,by simp⟩
       · simp [ownL]
     · simp [cnK_zero,ownL]
   · simp [ownL]
 · rintro e ⟨l,hl,rfl⟩
   rw [List.take_length] at hl
   simp
   exact ⟨cl col x::l,⟨l,rfl,hl⟩,by simp⟩
 · exact ⟨[],rfl,by simp [ownL]⟩
end Go.Mch
namespace Go.Mch

structure Mks (A C:List (List (List Int))) (n:Nat) (c1 c2:List Int) (M:List (List Int)):Prop where
 len:M.length=n+n
 m1:∀ x,x<n→mkP A n c1 x (gt M x)
 m2:∀ x,x<n→mkP C n c2 x (gt M (n+x))
structure Knd (M X:List (List Int)):Prop where
 srt:Srt X
 mem:∀ m,m∈X↔m∈M
theorem Srt.nd {X:List (List Int)} (h:Srt X):X.Nodup:=by
 refine List.Pairwise.imp ?_ h
 intro a b hab he
 subst he
 have:=(cmpL_zero a a).2 rfl
 omega
def kI (X:List (List Int)) (m:List Int):Nat:=X.idxOf m
theorem kI_lt {X:List (List Int)} {m:List Int} (h:m∈X):kI X m<X.length:=List.idxOf_lt_length_of_mem h
theorem kI_at {X:List (List Int)} {m:List Int} (h:m∈X):X[kI X m]'(kI_lt h)=m:=List.getElem_idxOf (kI_lt h)
theorem kI_of {X:List (List Int)} (h:Srt X) {j:Nat} (hj:j<X.length):kI X X[j]=j:=by
 have hm:=List.getElem_mem hj
 exact (List.getElem_inj (h₀:=kI_lt hm) (h₁:=hj) h.nd).1 (kI_at hm)
def colD (X M:List (List Int)):List Int:=M.map fun m=>(kI X m:Int)
@[simp] theorem colD_length (X M:List (List Int)):(colD X M).length=M.length:=by simp [colD]
def dA (n:Nat) (X M:List (List Int)):List Int:=(colD X M).take n
def dB (n:Nat) (X M:List (List Int)):List Int:=(colD X M).drop n
def Cov (N:Nat) (c1 c2:List Int):Prop:=∀ v:Nat,v<N→(v:Int)∈c1∨(v:Int)∈c2

section
variable {A C:List (List (List Int))} {n:Nat} {c1 c2:List Int} {M X:List (List Int)}
theorem cl_dA (h:Mks A C n c1 c2 M) {x:Nat} (hx:x<n):cl (dA n X M) x=(kI X (gt M x):Int):=by
 have:=h.len
 have h1:x<M.length:=by omega
 simp [cl,dA,colD,gt,hx,h1]
theorem cl_dB (h:Mks A C n c1 c2 M) {x:Nat} (hx:x<n):cl (dB n X M) x=(kI X (gt M (n+x)):Int):=by
 have:=h.len
 have h1:n+x<M.length:=by omega
 simp [cl,dB,colD,gt,h1]
theorem dA_len (h:Mks A C n c1 c2 M):(dA n X M).length=n:=by have:=h.len;simp [dA];omega
theorem dB_len (h:Mks A C n c1 c2 M):(dB n X M).length=n:=by have:=h.len;simp [dB];omega
theorem Mks.kc (h:Mks A C n c1 c2 M) (hA:Tbs n A) (hAC:A.length=C.length) {q:Nat→Nat} (hq:Iso A C n q) (hc:Kc n c1 c2 q):Kc n (dA n X M) (dB n X M) q:=by
 intro x hx
 rw [cl_dA h hx,cl_dB h (hq.lt x hx),mkP_uniq hA hAC hq hc hx (h.m1 x hx) (h.m2 _ (hq.lt x hx))]
theorem Knd.len (hk:Knd M X) (h:Mks A C n c1 c2 M):X.length≤n+n∧Cov X.length (dA n X M) (dB n X M):=by
 have hl:=h.len
 have hcov:∀ v:Nat,v<X.length→(v:Int)∈colD X M:=fun v hv=>by
  refine List.mem_map.2 ⟨X[v],(hk.mem _).1 (List.getElem_mem hv),?_⟩
  rw [kI_of hk.srt hv]
 constructor
 · have h1:(List.range X.length).length≤((colD X M).map Int.toNat).length:=MI.len.nodup_sub List.nodup_range fun v hv=>by
    rw [List.mem_range] at hv
    exact List.mem_map.2 ⟨_,hcov v hv,by simp⟩
   simpa [hl] using h1
 · intro v hv
   have:=hcov v hv
   rw [← List.take_append_drop n (colD X M),List.mem_append] at this
   exact this
theorem Knd.cln (hk:Knd M X) (h:Mks A C n c1 c2 M) (hn:n≤12):ClN n (dA n X M)∧ClN n (dB n X M):=by
 have h1:=(hk.len h).1
 have hr:∀ v∈colD X M,0≤v∧v≤60:=fun v hv=>by
  obtain ⟨m,hm,rfl⟩:=List.mem_map.1 hv
  have:=kI_lt ((hk.mem m).2 hm)
  omega
 exact ⟨⟨dA_len h,fun v hv=>hr v (List.mem_of_mem_take hv)⟩,⟨dB_len h,fun v hv=>hr v (List.mem_of_mem_drop hv)⟩⟩
theorem Knd.grow (hk:Knd M X) (h:Mks A C n c1 c2 M) (hc1:c1.length=n) (hc2:c2.length=n) {N:Nat} (hN:Cov N c1 c2):N≤X.length:=by
 have hl:=h.len
 have h1:(List.range N).length≤(X.map fun m=>(m.getD 0 0).toNat).length:=MI.len.nodup_sub List.nodup_range fun v hv=>by
  rw [List.mem_range] at hv
  have key:∀ i,i<n+n→(gt M i).getD 0 0=(v:Int)→v∈X.map fun m=>(m.getD 0 0).toNat:=fun i hi he=>by
   refine List.mem_map.2 ⟨gt M i,(hk.mem _).2 ?_,by rw [he];simp⟩
   rw [← gt_at (show i<M.length by omega)]
   exact List.getElem_mem _
  rcases hN v hv with h2 | h2
  · obtain ⟨x,hx,he⟩:=List.getElem_of_mem h2
    rw [cl_get hx] at he
    obtain ⟨r,h3,_⟩:=h.m1 x (by omega)
    exact key x (by omega) (by rw [h3];simpa using he)
  · obtain ⟨x,hx,he⟩:=List.getElem_of_mem h2
    rw [cl_get hx] at he
    obtain ⟨r,h3,_⟩:=h.m2 x (by omega)
    exact key (n+x) (by omega) (by rw [h3];simpa using he)
 simpa using h1
end

theorem Kc.perm {n:Nat} {d1 d2:List Int} {q:Nat→Nat} (l1:d1.length=n) (l2:d2.length=n) (hlt:∀ x,x<n→q x<n) (hi:∀ x y,x<n→y<n→q x=q y→x=y) (h:Kc n d1 d2 q):d1.Perm d2:=by
 have e1:d1=((List.range n).map q).map (cl d2):=by
  apply List.ext_getElem
  · simp [l1]
  · intro i h1 h2
    rw [cl_get h1,h i (by omega)]
    simp
 have e2:d2=(List.range n).map (cl d2):=by
  apply List.ext_getElem
  · simp [l2]
  · intro i h1 h2
    rw [cl_get h1]
    simp
 conv=>lhs;rw [e1]
 conv=>rhs;rw [e2]
 exact (map_range hlt hi).map _
def ctK (X M:List (List Int)) (n k:Nat) (j:Nat):Int:=((((M.take k).take n).countP fun m=>kI X m == j:Nat):Int)-((((M.take k).drop n).countP fun m=>kI X m == j:Nat):Int)
def ctL (X M:List (List Int)) (n k:Nat):List Int:=(List.range X.length).map (ctK X M n k)
@[simp] theorem ctL_length (X M:List (List Int)) (n k:Nat):(ctL X M n k).length=X.length:=by simp [ctL]
theorem ctL_zero (X M:List (List Int)) (n:Nat):ctL X M n 0=List.replicate X.length 0:=by
 apply List.ext_getElem
 · simp
 · intro i h1 h2
   simp [ctL,ctK]
theorem ctK_succ {X M:List (List Int)} {n k:Nat} (hk:k<M.length) (j:Nat):ctK X M n (k+1) j=ctK X M n k j+(if kI X M[k]=j then (if k<n then 1 else -1) else 0):=by
 unfold ctK
 rw [List.take_succ_eq_append_getElem hk]
 by_cases hn:k<n
 · have e1:(M.take k++[M[k]]).take n=M.take k++[M[k]]:=List.take_of_length_le (by simp;omega)
   have e2:(M.take k).take n=M.take k:=List.take_of_length_le (by simp;omega)
   have e3:(M.take k++[M[k]]).drop n=[]:=List.drop_of_length_le (by simp;omega)
   have e4:(M.take k).drop n=[]:=List.drop_of_length_le (by simp;omega)
   rw [e1,e2,e3,e4,List.countP_append]
   by_cases hj:kI X M[k]=j
   · simp [hj,hn]
   · simp [hj]
 · have e1:(M.take k++[M[k]]).take n=(M.take k).take n:=List.take_append_of_le_length (by simp;omega)
   have e2:(M.take k++[M[k]]).drop n=(M.take k).drop n++[M[k]]:=List.drop_append_of_le_length (by simp;omega)
   rw [e1,e2,List.countP_append]
   by_cases hj:kI X M[k]=j
   · simp [hj,hn];omega
   · simp [hj]
theorem ctL_set {X M:List (List Int)} {n k:Nat} (hk:k<M.length) (hm:kI X M[k]<X.length):(ctL X M n k).set (kI X M[k]) ((ctL X M n k)[kI X M[k]]'(by simpa using hm)+(if k<n then 1 else -1))=ctL X M n (k+1):=by
 apply List.ext_getElem
 · simp
 · intro i h1 h2
   simp only [List.getElem_set,ctL,List.getElem_map,List.getElem_range]
   rw [ctK_succ hk]
   by_cases e:kI X M[k]=i
   · subst e;rw [if_pos rfl,if_pos rfl]
   · rw [if_neg e,if_neg e];omega
theorem ctK_perm {X M:List (List Int)} {n k:Nat} (hk:k=M.length) (h:(dA n X M).Perm (dB n X M)) (j:Nat):ctK X M n k j=0:=by
 subst hk
 unfold ctK
 rw [List.take_length]
 have e1:(M.take n).countP (fun m=>kI X m == j)=(dA n X M).countP fun v=>v == (j:Int):=by
  unfold dA colD
  rw [← List.map_take,List.countP_map]
  refine List.countP_congr fun m _=>?_
  simp only [Function.comp,beq_iff_eq]
  omega
 have e2:(M.drop n).countP (fun m=>kI X m == j)=(dB n X M).countP fun v=>v == (j:Int):=by
  unfold dB colD
  rw [← List.map_drop,List.countP_map]
  refine List.countP_congr fun m _=>?_
  simp only [Function.comp,beq_iff_eq]
  omega
 rw [e1,e2,h.countP_eq]
 omega

theorem Srt.stop {X:List (List Int)} (h:Srt X) {w:List Int} {i:Nat} (hi:i≤X.length) (h1:∀ j (hj:j<X.length),j<i→cmpL X[j] w<0) (h2:∀ hi:i<X.length,¬cmpL X[i] w<0):At X w i:=by
 refine ⟨hi,h1,fun j hj hij hl=>?_⟩
 by_cases he:i=j
 · subst he;exact h2 hj hl
 · exact h2 (by omega) (cmpL_trans _ _ _ (h.lt hj (by omega)) hl)
theorem Knd.nil:Knd [] []:=⟨List.Pairwise.nil,fun _=>Iff.rfl⟩
theorem Knd.skip {M X:List (List Int)} (h:Knd M X) {w:List Int} {i:Nat} (ha:At X w i) (hi:i<X.length) (he:X[i]=w):Knd (M++[w]) X:=by
 refine ⟨h.srt,fun m=>?_⟩
 rw [List.mem_append,List.mem_singleton,h.mem m]
 constructor
 · exact .inl
 · rintro (h1 | rfl)
   · exact h1
   · exact (h.mem _).1 (he▸List.getElem_mem hi)
theorem Knd.ins {M X:List (List Int)} (h:Knd M X) {w:List Int} {i:Nat} (ha:At X w i) (hne:∀ hi:i<X.length,X[i]≠w):Knd (M++[w]) (X.take i++w::X.drop i):=by
 have hn:w ∉ X:=fun hm=>by
  obtain ⟨hi,he⟩:=(ha.mem h.srt).1 hm
  exact hne hi he
 refine ⟨ha.ins h.srt hn,fun m=>?_⟩
 rw [List.mem_append,List.mem_append,List.mem_cons,List.mem_singleton,← h.mem m]
 conv=>rhs;rw [← List.take_append_drop i X,List.mem_append]
 constructor
 · rintro (h1 | h1 | h1)
   · exact .inl (.inl h1)
   · exact .inr h1
   · exact .inl (.inr h1)
 · rintro ((h1 | h1) | h1)
   · exact .inl h1
   · exact .inr (.inr h1)
   · exact .inr (.inl h1)
end Go.Mch
namespace Go.Mch

structure MkI (A C:List (List (List Int))) (n:Nat) (c1 c2:List Int) (i:Nat) (M:List (List Int)):Prop where
 len:M.length=i
 m1:∀ x,x<n→x<i→mkP A n c1 x (gt M x)
 m2:∀ x,x<n→n+x<i→mkP C n c2 x (gt M (n+x))
theorem gt_app {M:List (List Int)} {l:List Int} {j:Nat} (h:j<M.length):gt (M++[l]) j=gt M j:=by simp [gt,List.getD_eq_getElem?_getD,List.getElem?_append_left h]
theorem gt_end {M:List (List Int)} {l:List Int} {j:Nat} (h:j=M.length):gt (M++[l]) j=l:=by subst h;simp [gt,List.getD_eq_getElem?_getD]
section
variable {A C:List (List (List Int))} {n i x:Nat} {c1 c2:List Int} {M:List (List Int)} {l:List Int}
theorem MkI.one (h:MkI A C n c1 c2 i M) (hi:i<n) (hl:mkP A n c1 i l):MkI A C n c1 c2 (i+1) (M++[l]):=by
 have hlen:=h.len
 refine ⟨by simp [hlen],fun x hx hxi=>?_,fun x hx hxi=>by omega⟩
 by_cases e:x=i
 · subst e;rw [gt_end hlen.symm];exact hl
 · rw [gt_app (by omega)];exact h.m1 x hx (by omega)
theorem MkI.two (h:MkI A C n c1 c2 (n+i) M) (hi:i<n) (hl:mkP C n c2 i l):MkI A C n c1 c2 (n+(i+1)) (M++[l]):=by
 have hlen:=h.len
 refine ⟨by simp [hlen];omega,fun x hx hxi=>?_,fun x hx hxi=>?_⟩
 · rw [gt_app (by omega)];exact h.m1 x hx (by omega)
 · by_cases e:x=i
   · subst e;rw [gt_end hlen.symm];exact hl
   · rw [gt_app (by omega)];exact h.m2 x hx (by omega)
theorem MkI.all (h:MkI A C n c1 c2 (n+n) M):Mks A C n c1 c2 M:=⟨h.len,fun x hx=>h.m1 x hx (by omega),fun x hx=>h.m2 x hx (by omega)⟩
theorem mkP_len {c:List Int} (hk:A.length≤4) (hn:n≤12) (h:mkP A n c x l):l.length≤1000:=by
 obtain ⟨r,rfl,h1⟩:=h
 have h2:=mkL_len h1
 have h3:A.length*(2*n)≤4*(2*n):=Nat.mul_le_mul_right _ hk
 simp only [List.length_cons]
 omega
theorem Mks.small (h:Mks A C n c1 c2 M) (hk:A.length≤4) (hk2:C.length≤4) (hn:n≤12):∀ m∈M,m.length≤1000:=fun m hm=>by
 obtain ⟨i,hi,rfl⟩:=List.getElem_of_mem hm
 rw [gt_at hi]
 have hl:=h.len
 by_cases e:i<n
 · exact mkP_len hk hn (h.m1 i e)
 · obtain ⟨x,rfl⟩:∃ x,i=n+x:=⟨i-n,by omega⟩
   exact mkP_len hk2 hn (h.m2 x (by omega))
end
@[simp] theorem eryL_tba (A:List (List (List Int))):T.eryL .old (A.map tb)=A.map tb:=by
 induction A with
 | nil=>rfl
 | cons t A ih=>simp [T.eryL,T.ery,ih]
theorem win_dA (n:Nat) (X M:List (List Int)):win ((colD X M).map I) 0 n=(dA n X M).map I:=by simp [win,dA,List.map_take]
theorem win_dB (n:Nat) (X M:List (List Int)):win ((colD X M).map I) n (M.length-n)=(dB n X M).map I:=by
 have h:((colD X M).drop n).length≤M.length-n:=by simp
 unfold win dB
 rw [← List.map_drop,← List.map_take,List.take_of_length_le h]
theorem least_nz {f:Nat→Int}:∀ {n:Nat},(¬∀ j,j<n→f j=0)→∃ j,j<n∧f j≠0∧∀ i,i<j→f i=0
 | 0,h=>absurd (fun j hj=>by omega) h
 | n+1,h=>by
  by_cases h1:∀ j,j<n→f j=0
  · refine ⟨n,by omega,fun hn=>h fun j hj=>?_,h1⟩
    by_cases e:j=n
    · subst e;exact hn
    · exact h1 j (by omega)
  · obtain ⟨j,h2,h3,h4⟩:=least_nz h1
    exact ⟨j,by omega,h3,h4⟩
def ExB2 (P:Nat→Prop):Prop:=∃ j,P j
def RefP (A C:List (List (List Int))) (n:Nat) (c1 c2:List Int):Option (List Int×List Int)→Prop
 | none=>∀ q,Iso A C n q→¬Kc n c1 c2 q
 | some d=>ClN n d.1∧ClN n d.2∧∀ q,Iso A C n q→Kc n c1 c2 q→Kc n d.1 d.2 q
def refR:Option (List Int×List Int)→T
 | none=>.tup [nil,nil,B false]
 | some d=>.tup [.mem .fresh (some 1) (d.1.map I),.mem .fresh (some 1) (d.2.map I),B true]
def rfSt (A C:List (List (List Int))) (n:Nat) (c1 c2:List Int) (N:Nat) (e:Env):Prop :=
 ∃ κ d1 d2,(κ=K.old∨κ=K.fresh)∧ClN n d1∧ClN n d2∧Cov N d1 d2∧N≤n+n∧(∀ q,Iso A C n q→Kc n c1 c2 q→Kc n d1 d2 q)∧e=fr [(0,some (.val (tba A))),(1,some (.val (tba C))),(2,some (.val (.mem κ (some 1) (d1.map I)))),(3,some (.val (.mem κ (some 1) (d2.map I)))),(11,some (.val (I n))),(12,some (.val (I N)))]
def S_refine (pg:Pg):Prop:=∀ (A C:List (List (List Int))) (n:Nat) (c1 c2:List Int),Tbs n A→Tbs n C→A.length=C.length→A.length≤4→n≤12→ClN n c1→ClN n c2 →
 ∃ o,RefP A C n c1 c2 o∧Call pg 463 [tba A,tba C,ix c1,ix c2] [tba A,tba C,ix c1,ix c2] (refR o)
set_option maxRecDepth 20000 in
set_option maxHeartbeats 2000000 in
theorem t_refine {pg:Pg} (hp:pg.fn 463=some c_spec_l03Refine) (h467:S_mark pg) (h408:S_less pg) (h67:S_same pg):S_refine pg:=by
 intro A C n c1 c2 hA hC hAC hk hn hc1 hc2
 have hn0:=hA.1
 have hcl:=hc1.1
 have hkC:C.length≤4:=by omega
 refine Call.find hp rfl (by simp) ?_
 show wp _ _ c_spec_l03Refine.body (fun x e=>∃ o,RefP A C n c1 c2 o∧post [.t 8,.t 9,.t 10] _ _ (refR o) x e) _
 generalize hR:(fun x e=>∃ o,RefP A C n c1 c2 o∧post [.t 8,.t 9,.t 10] [tba A,tba C,ix c1,ix c2] [tba A,tba C,ix c1,ix c2] (refR o) x e)=R
 simp [c_spec_l03Refine]
 refine wpLoop_lower (α:=Nat) (fun N=>n+n+1-N) (fun N e=>rfSt A C n c1 c2 N e) ?_ 0 _ ⟨.old,c1,c2,.inl rfl,hc1,hc2,fun v hv=>by omega,by omega,fun _ _ h=>h,by simp [hcl]⟩
 rintro N e ⟨κ,d1,d2,hκ,g1,g2,hN,hNn,hq,rfl⟩
 have e1:=g1.1
 have e2:=g2.1
 have m1:=fun x hx=>h467 A n d1 x hA hk hn g1 hx
 have m2:=fun x hx=>h467 C n d2 x hC hkC hn g2 hx
 show wp _ _ (.seq _ _) (Go.Mch.X.out 1 _) _
 refine wp_cut' (fun e=>e=fr [(0,some (.val (tba A))),(1,some (.val (tba C))),(2,some (.val (.mem κ (some 1) (d1.map I)))),(3,some (.val (.mem κ (some 1) (d2.map I)))),(11,some (.val (I n))),(12,some (.val (I N))),(13,some (.val (ownTb [])))]) (fun J hJ _=>?_) ?_
 · rcases hκ with rfl | rfl
   all_goals
    simp
    exact hJ _ rfl
 rintro e rfl
 refine wp_cut' (fun e=>ExT fun M=>MkI A C n d1 d2 n M∧e=fr [(0,some (.val (tba A))),(1,some (.val (tba C))),(2,some (.val (.mem κ (some 1) (d1.map I)))),(3,some (.val (.mem κ (some 1) (d2.map I)))),(11,some (.val (I n))),(12,some (.val (I N))),(13,some (.val (ownTb M))),(14,some (.val (I n))),(30,some (.val (B false)))]) (fun J hJ _=>?_) ?_
 · rcases hκ with rfl | rfl
   · simp
     refine wpLoop_count (fun i e=>ExT fun M=>MkI A C n d1 d2 i M∧e=fr [(0,some (.val (tba A))),(1,some (.val (tba C))),(2,some (.val (.mem .old (some 1) (d1.map I)))),(3,some (.val (.mem .old (some 1) (d2.map I)))),(11,some (.val (I n))),(12,some (.val (I N))),(13,some (.val (ownTb M))),(14,some (.val (I i)))]) n ?_ ?_ 0 _ (by omega) ⟨[],⟨rfl,fun _ _ h=>by omega,fun _ _ h=>by omega⟩,by simp [rows]⟩
     · rintro i e hi ⟨M,hM,rfl⟩
       have hMl:=hM.len
       obtain ⟨l,hl,hc⟩:=m1 i hi
       simp [hi]
       refine callR hc rfl rfl (fun _=>by simp) ?_
       simp
       exact ⟨by unfold roomy;omega,by omega,M++[l],hM.one hi hl,by simp [rows,ownTb]⟩
     · rintro e ⟨M,hM,rfl⟩
       simp
       exact hJ _ ⟨M,hM,by simp⟩
   · simp
     refine wpLoop_count (fun i e=>ExT fun M=>MkI A C n d1 d2 i M∧e=fr [(0,some (.val (tba A))),(1,some (.val (tba C))),(2,some (.val (.mem .fresh (some 1) (d1.map I)))),(3,some (.val (.mem .fresh (some 1) (d2.map I)))),(11,some (.val (I n))),(12,some (.val (I N))),(13,some (.val (ownTb M))),(14,some (.val (I i)))]) n ?_ ?_ 0 _ (by omega) ⟨[],⟨rfl,fun _ _ h=>by omega,fun _ _ h=>by omega⟩,by simp [rows]⟩
     · rintro i e hi ⟨M,hM,rfl⟩
       have hMl:=hM.len
       obtain ⟨l,hl,hc⟩:=m1 i hi
       simp [hi]
       refine callR hc rfl rfl (fun _=>by simp) ?_
       simp
       exact ⟨by unfold roomy;omega,by omega,M++[l],hM.one hi hl,by simp [rows,ownTb]⟩
     · rintro e ⟨M,hM,rfl⟩
       simp
       exact hJ _ ⟨M,hM,by simp⟩
 rintro e ⟨M,hM,rfl⟩
 refine wp_cut' (fun e=>ExT fun M=>MkI A C n d1 d2 (n+n) M∧e=fr [(0,some (.val (tba A))),(1,some (.val (tba C))),(3,some (.val (.mem κ (some 1) (d2.map I)))),(11,some (.val (I n))),(12,some (.val (I N))),(13,some (.val (ownTb M))),(15,some (.val (I n))),(42,some (.val (B false)))]) (fun J hJ _=>?_) ?_
 · rcases hκ with rfl | rfl
   · simp
     refine wpLoop_count (fun i e=>ExT fun M=>MkI A C n d1 d2 (n+i) M∧e=fr [(0,some (.val (tba A))),(1,some (.val (tba C))),(3,some (.val (.mem .old (some 1) (d2.map I)))),(11,some (.val (I n))),(12,some (.val (I N))),(13,some (.val (ownTb M))),(15,some (.val (I i)))]) n ?_ ?_ 0 _ (by omega) ⟨M,hM,by simp⟩
     · rintro i e hi ⟨M,hM,rfl⟩
       have hMl:=hM.len
       obtain ⟨l,hl,hc⟩:=m2 i hi
       simp [hi]
       refine callR hc rfl rfl (fun _=>by simp) ?_
       simp
       exact ⟨by unfold roomy;omega,by omega,M++[l],hM.two hi hl,by simp [rows,ownTb]⟩
     · rintro e ⟨M,hM,rfl⟩
       simp
       exact hJ _ ⟨M,hM,by simp⟩
   · simp
     refine wpLoop_count (fun i e=>ExT fun M=>MkI A C n d1 d2 (n+i) M∧e=fr [(0,some (.val (tba A))),(1,some (.val (tba C))),(3,some (.val (.mem .fresh (some 1) (d2.map I)))),(11,some (.val (I n))),(12,some (.val (I N))),(13,some (.val (ownTb M))),(15,some (.val (I i)))]) n ?_ ?_ 0 _ (by omega) ⟨M,hM,by simp⟩
     · rintro i e hi ⟨M,hM,rfl⟩
       have hMl:=hM.len
       obtain ⟨l,hl,hc⟩:=m2 i hi
       simp [hi]
       refine callR hc rfl rfl (fun _=>by simp) ?_
       simp
       exact ⟨by unfold roomy;omega,by omega,M++[l],hM.two hi hl,by simp [rows,ownTb]⟩
     · rintro e ⟨M,hM,rfl⟩
       simp
       exact hJ _ ⟨M,hM,by simp⟩
 clear hM M m1 m2
 rintro e ⟨M,hM,rfl⟩
 replace hM:=hM.all
 have hMl:=hM.len
 have hMs:=hM.small hk hkC hn
 refine wp_cut' (fun e=>e=fr [(0,some (.val (tba A))),(1,some (.val (tba C))),(11,some (.val (I n))),(12,some (.val (I N))),(13,some (.val (ownTb M))),(16,some (.val (.mem .own (some 1) [])))]) (fun J hJ _=>?_) ?_
 · rcases hκ with rfl | rfl
   all_goals
    simp
    exact hJ _ (by simp)
 rintro e rfl
 refine wp_cut' (fun e=>ExT fun X=>Knd M X∧e=fr [(0,some (.val (tba A))),(1,some (.val (tba C))),(11,some (.val (I n))),(12,some (.val (I N))),(13,some (.val (.mem .fresh (some 1) (rowsF M)))),(16,some (.val (.mem .own (some 1) (rowsF X)))),(17,some (.val (I M.length))),(56,some (.val (B false)))]) (fun J hJ _=>?_) ?_
 · simp
   refine wpLoop_count (fun i e=>ExT fun X=>(Knd (M.take i) X∧X.length≤i)∧e=fr [(0,some (.val (tba A))),(1,some (.val (tba C))),(11,some (.val (I n))),(12,some (.val (I N))),(13,some (.val (.mem .fresh (some 1) (rowsF M)))),(16,some (.val (.mem .own (some 1) (rowsF X)))),(17,some (.val (I i)))]) M.length ?_ ?_ 0 _ (by omega) ⟨[],⟨.nil,by simp⟩,by simp [rowsF,frzL_rows]⟩
   · rintro i e hi ⟨X,⟨hX,hXl⟩,rfl⟩
     obtain ⟨w,hw⟩:∃ w,M[i]=w:=⟨_,rfl⟩
     have hwM:w∈M:=hw▸List.getElem_mem hi
     have hwl:=hMs w hwM
     have hXs:∀ x∈X,x.length≤1000:=fun x hx=>hMs x (List.mem_of_mem_take ((hX.mem x).1 hx))
     have hsnoc:M.take (i+1)=M.take i++[w]:=by rw [List.take_succ_eq_append_getElem hi,hw]
     refine wp_cut' (fun e=>e=fr [(0,some (.val (tba A))),(1,some (.val (tba C))),(11,some (.val (I n))),(12,some (.val (I N))),(13,some (.val (.mem .fresh (some 1) (rowsF M)))),(16,some (.val (.mem .own (some 1) (rowsF X)))),(17,some (.val (I i))),(56,some (.val (B true)))]) (fun J hJ _=>?_) ?_
     · simp [hi]
       exact hJ _ (by simp)
     rintro e rfl
     refine wp_cut' (fun e=>ExT fun X=>(Knd (M.take (i+1)) X∧X.length≤i+1)∧(e=fr [(0,some (.val (tba A))),(1,some (.val (tba C))),(11,some (.val (I n))),(12,some (.val (I N))),(13,some (.val (.mem .fresh (some 1) (rowsF M)))),(16,some (.val (.mem .own (some 1) (rowsF X)))),(17,some (.val (I i)))]∨∃ j:Nat,e=fr [(0,some (.val (tba A))),(1,some (.val (tba C))),(11,some (.val (I n))),(12,some (.val (I N))),(13,some (.val (.mem .fresh (some 1) (rowsF M)))),(16,some (.val (.mem .own (some 1) (rowsF X)))),(17,some (.val (I i))),(18,some (.val (I j))),(90,some (.val (B true)))])) (fun J hJ _=>?_) ?_
     · show wp _ _ (.seq _ _) (Go.Mch.X.out 7 J) _
       refine wp_cut' (fun e=>e=fr [(0,some (.val (tba A))),(1,some (.val (tba C))),(11,some (.val (I n))),(12,some (.val (I N))),(13,some (.val (.mem .fresh (some 1) (rowsF M)))),(16,some (.val (.mem .own (some 1) (rowsF X)))),(17,some (.val (I i))),(18,some (.val (I 0)))]) (fun J hJ _=>?_) ?_
       · simp
         exact hJ _ rfl
       rintro e rfl
       refine wp_cut' (fun e=>ExB2 fun j=>At X w j∧e=fr [(0,some (.val (tba A))),(1,some (.val (tba C))),(11,some (.val (I n))),(12,some (.val (I N))),(13,some (.val (.mem .fresh (some 1) (rowsF M)))),(16,some (.val (.mem .own (some 1) (rowsF X)))),(17,some (.val (I i))),(18,some (.val (I j))),(73,some (.val (B false)))]) (fun J hJ _=>?_) ?_
       · simp
         refine wpLoop_lower (α:=Nat) (fun j=>X.length-j) (fun j e=>(j≤X.length∧∀ j' (h:j'<X.length),j'<j→cmpL X[j'] w<0)∧e=fr [(0,some (.val (tba A))),(1,some (.val (tba C))),(11,some (.val (I n))),(12,some (.val (I N))),(13,some (.val (.mem .fresh (some 1) (rowsF M)))),(16,some (.val (.mem .own (some 1) (rowsF X)))),(17,some (.val (I i))),(18,some (.val (I j)))]) ?_ 0 _ ⟨⟨by omega,fun j' h h'=>by omega⟩,by simp⟩
         rintro j e ⟨⟨p1,p2⟩,rfl⟩
         by_cases hj:j<X.length
         · have hc:=h408 X[j] w (by have:=hXs _ (List.getElem_mem hj);omega)
           simp [hj,hi,hw]
           refine callR hc rfl rfl (fun _=>rfl) ?_
           by_cases hlt:cmpL X[j] w<0
           · simp [hlt]
             refine ⟨by omega,j+1,by omega,⟨by omega,fun j' h h'=>?_⟩,by simp⟩
             by_cases he:j'=j
             · subst he;exact hlt
             · exact p2 j' h (by omega)
           · simp [hlt]
             exact hJ _ ⟨j,hX.srt.stop p1 p2 fun _=>hlt,rfl⟩
         · simp [hj,undefV]
           exact hJ _ ⟨j,hX.srt.stop p1 p2 fun h=>absurd h hj,rfl⟩
       rintro e ⟨j,hj,rfl⟩
       by_cases hjX:j<X.length
       · have hc:=h67 X[j] w (by have:=hXs _ (List.getElem_mem hjX);omega)
         simp [hjX,hi,hw]
         refine callR hc rfl rfl (fun _=>rfl) ?_
         by_cases he:X[j]=w
         · simp [he]
           exact hJ _ ⟨X,⟨by rw [hsnoc];exact hX.skip hj hjX he,by omega⟩,.inr ⟨j,rfl⟩⟩
         · simp [he,win_take,win_drop,hi,hw]
           rw [rowsF_ins X w j]
           refine ⟨by omega,by omega,⟨by unfold roomy;omega,fun _=>isCell_rowsF⟩,by omega,⟨by unfold roomy;omega,fun _=>isCell_rowsF⟩,⟨by unfold roomy;omega,fun _=>isCell_rowsF⟩,?_⟩
           exact hJ _ ⟨X.take j++w::X.drop j,⟨by rw [hsnoc];exact hX.ins hj fun _=>he,by simp;omega⟩,.inl rfl⟩
       · simp [hjX,undefV,win_take,win_drop,hi,hw]
         have hjl:=hj.le
         rw [rowsF_ins X w j]
         refine ⟨by omega,by omega,⟨by unfold roomy;omega,fun _=>isCell_rowsF⟩,by omega,⟨by unfold roomy;omega,fun _=>isCell_rowsF⟩,⟨by unfold roomy;omega,fun _=>isCell_rowsF⟩,?_⟩
         exact hJ _ ⟨X.take j++w::X.drop j,⟨by rw [hsnoc];exact hX.ins hj fun h=>absurd h hjX,by simp;omega⟩,.inl rfl⟩
     rintro e ⟨X,hX,rfl | ⟨j,rfl⟩⟩
     · simp
       exact ⟨by omega,X,hX,by simp⟩
     · simp
       exact ⟨by omega,X,hX,by simp⟩
   · rintro e ⟨X,⟨hX,_⟩,rfl⟩
     rw [List.take_length] at hX
     simp
     exact hJ _ ⟨X,hX,by simp⟩
 rintro e ⟨X,hX,rfl⟩
 obtain ⟨x1,x2⟩:=hX.len hM
 obtain ⟨x3,x4⟩:=hX.cln hM hn
 have x5:=hX.grow hM e1 e2 hN
 have hkc:=fun q h h'=>hM.kc (X:=X) hA hAC h (hq q h h')
 have hpe:=fun q (h:Iso A C n q) h'=>(hkc q h h').perm (dA_len hM) (dB_len hM) h.lt h.inj
 refine wp_cut' (fun e=>e=fr [(0,some (.val (tba A))),(1,some (.val (tba C))),(11,some (.val (I n))),(12,some (.val (I N))),(13,some (.val (.mem .fresh (some 1) (rowsF M)))),(16,some (.val (.mem .own (some 1) (rowsF X)))),(20,some (.val (ownL (ctL X M n 0)))),(21,some (.val (ownL [])))]) (fun J hJ _=>?_) ?_
 · simp
   refine ⟨by unfold roomy;omega,?_⟩
   exact hJ _ (by simp [ctL_zero,ownL])
 rintro e rfl
 refine wp_cut' (fun e=>e=fr [(0,some (.val (tba A))),(1,some (.val (tba C))),(11,some (.val (I n))),(12,some (.val (I N))),(13,some (.val (.mem .fresh (some 1) (rowsF M)))),(16,some (.val (.mem .own (some 1) (rowsF X)))),(20,some (.val (ownL (ctL X M n M.length)))),(21,some (.val (ownL (colD X M)))),(22,some (.val (I M.length))),(114,some (.val (B false)))]) (fun J hJ _=>?_) ?_
 · simp
   refine wpLoop_count (fun i e=>e=fr [(0,some (.val (tba A))),(1,some (.val (tba C))),(11,some (.val (I n))),(12,some (.val (I N))),(13,some (.val (.mem .fresh (some 1) (rowsF M)))),(16,some (.val (.mem .own (some 1) (rowsF X)))),(20,some (.val (ownL (ctL X M n i)))),(21,some (.val (ownL (colD X (M.take i))))),(22,some (.val (I i)))]) M.length ?_ ?_ 0 _ (by omega) (by simp [ownL,colD])
   · rintro i e hi rfl
     have hwM:M[i]∈X:=(hX.mem _).2 (List.getElem_mem hi)
     have hwl:=hMs _ (List.getElem_mem hi)
     have hat:=kI_lt hwM
     have hin:∀ h:kI X M[i]<X.length,X[kI X M[i]]=M[i]:=fun _=>kI_at hwM
     have hset:=ctL_set (n:=n) hi hat
     have hcol:colD X (M.take (i+1))=colD X (M.take i)++[(kI X M[i]:Int)]:=by
      unfold colD
      rw [List.take_succ_eq_append_getElem hi,List.map_append]
      rfl
     have hcl:=ctL_length X M n i
     have hcl2:(colD X (M.take i)).length=i:=by simp;omega
     have hnot:∀ (j:Nat) (hj:j<X.length),j<kI X M[i]→X[j]≠M[i]:=fun j hj hlt he=>by
      have:=kI_of hX.srt hj
      rw [he] at this
      omega
     have hcb:-100≤(ctL X M n i)[kI X M[i]]'(by omega)∧(ctL X M n i)[kI X M[i]]'(by omega)≤100:=by
      simp only [ctL,List.getElem_map,List.getElem_range,ctK]
      have b1:=List.countP_le_length (p:=fun m=>kI X m == kI X M[i]) (l:=(M.take i).take n)
      have b2:=List.countP_le_length (p:=fun m=>kI X m == kI X M[i]) (l:=(M.take i).drop n)
      simp only [List.length_take,List.length_drop] at b1 b2
      omega
     obtain ⟨v,hv⟩:∃ v,(ctL X M n i)[kI X M[i]]'(by omega)=v:=⟨_,rfl⟩
     have hv?:(ctL X M n i)[kI X M[i]]?=some v:=by rw [List.getElem?_eq_getElem (by omega),hv]
     rw [hv] at hset hcb
     clear hv
     rw [hcol,← hset]
     generalize ctL X M n i=K at *
     generalize colD X (M.take i)=D at *
     obtain ⟨w,hw⟩:∃ w,M[i]=w:=⟨_,rfl⟩
     rw [hw] at hwl hat hin hnot hv? hwM ⊢
     clear hcol hset
     generalize kI X w=t at *
     replace hin:=hin hat
     have htK:t<K.length:=by omega
     have hKt:K[t]=v:=by
      rw [List.getElem?_eq_getElem htK] at hv?
      simpa using hv?
     refine wp_cut' (fun e=>e=fr [(0,some (.val (tba A))),(1,some (.val (tba C))),(11,some (.val (I n))),(12,some (.val (I N))),(13,some (.val (.mem .fresh (some 1) (rowsF M)))),(16,some (.val (.mem .own (some 1) (rowsF X)))),(20,some (.val (ownL K))),(21,some (.val (ownL D))),(22,some (.val (I i))),(114,some (.val (B true)))]) (fun J hJ _=>?_) ?_
     · simp [hi]
       exact hJ _ (by simp)
     rintro e rfl
     refine wp_cut' (fun e=>e=fr [(0,some (.val (tba A))),(1,some (.val (tba C))),(11,some (.val (I n))),(12,some (.val (I N))),(13,some (.val (.mem .fresh (some 1) (rowsF M)))),(16,some (.val (.mem .own (some 1) (rowsF X)))),(20,some (.val (ownL (K.set t (v+if i<n then 1 else -1))))),(21,some (.val (ownL (D++[(t:Int)])))),(22,some (.val (I i)))]) (fun J hJ _=>?_) ?_
     · show wp _ _ (.seq _ _) (Go.Mch.X.out 11 J) _
       refine wp_cut' (fun e=>e=fr [(0,some (.val (tba A))),(1,some (.val (tba C))),(11,some (.val (I n))),(12,some (.val (I N))),(13,some (.val (.mem .fresh (some 1) (rowsF M)))),(16,some (.val (.mem .own (some 1) (rowsF X)))),(20,some (.val (ownL K))),(21,some (.val (ownL D))),(22,some (.val (I i))),(23,some (.val (I 0)))]) (fun J hJ _=>?_) ?_
       · simp
         exact hJ _ rfl
       rintro e rfl
       refine wp_cut' (fun e=>e=fr [(0,some (.val (tba A))),(1,some (.val (tba C))),(11,some (.val (I n))),(12,some (.val (I N))),(13,some (.val (.mem .fresh (some 1) (rowsF M)))),(16,some (.val (.mem .own (some 1) (rowsF X)))),(20,some (.val (ownL K))),(21,some (.val (ownL D))),(22,some (.val (I i))),(23,some (.val (I t))),(126,some (.val (B false)))]) (fun J hJ _=>?_) ?_
       · simp
         refine wpLoop_count (fun j e=>e=fr [(0,some (.val (tba A))),(1,some (.val (tba C))),(11,some (.val (I n))),(12,some (.val (I N))),(13,some (.val (.mem .fresh (some 1) (rowsF M)))),(16,some (.val (.mem .own (some 1) (rowsF X)))),(20,some (.val (ownL K))),(21,some (.val (ownL D))),(22,some (.val (I i))),(23,some (.val (I j)))]) t ?_ ?_ 0 _ (by omega) (by simp)
         · rintro j e hj rfl
           have hjX:j<X.length:=by omega
           have hne:=hnot j hjX hj
           have hc:=h67 X[j] w (by have:=hMs _ ((hX.mem _).1 (List.getElem_mem hjX));omega)
           simp [hjX,hi,hw]
           refine callR hc rfl rfl (fun _=>rfl) ?_
           simp [hne]
           omega
         · rintro e rfl
           have hc:=h67 X[t] w (by rw [hin];omega)
           simp [hat,hi,hw]
           refine callR hc rfl rfl (fun _=>rfl) ?_
           simp [hin]
           exact hJ _ rfl
       rintro e rfl
       by_cases hin':i<n
       · simp [hin',htK,hKt]
         exact ⟨by unfold roomy;omega,by omega,by omega,hJ _ (by simp [ownL,hin',List.map_set])⟩
       · simp [hin',htK,hKt]
         exact ⟨by unfold roomy;omega,by omega,by omega,hJ _ (by simp [ownL,hin',List.map_set,Int.sub_eq_add_neg])⟩
     rintro e rfl
     simp
     omega
   · rintro e rfl
     rw [List.take_length]
     simp
     exact hJ _ (by simp)
 rintro e rfl
 by_cases hz:∀ j,j<X.length→ctK X M n M.length j=0
 · refine wp_cut' (fun e=>e=fr [(0,some (.val (tba A))),(1,some (.val (tba C))),(11,some (.val (I n))),(12,some (.val (I N))),(16,some (.val (.mem .own (some 1) (rowsF X)))),(20,some (.val (ownL (ctL X M n M.length)))),(21,some (.val (ownL (colD X M)))),(24,some (.val (I X.length))),(151,some (.val (B false)))]) (fun J hJ _=>?_) ?_
   · simp
     refine wpLoop_count (fun i e=>e=fr [(0,some (.val (tba A))),(1,some (.val (tba C))),(11,some (.val (I n))),(12,some (.val (I N))),(16,some (.val (.mem .own (some 1) (rowsF X)))),(20,some (.val (ownL (ctL X M n M.length)))),(21,some (.val (ownL (colD X M)))),(24,some (.val (I i)))]) X.length ?_ ?_ 0 _ (by omega) (by simp)
     · rintro i e hi rfl
       have hct:=ctL_length X M n M.length
       have hi2:i<(ctL X M n M.length).length:=by omega
       have hzi:(ctL X M n M.length)[i]=0:=by simp [ctL,hz i hi]
       simp [hi,hi2,hzi]
       omega
     · rintro e rfl
       simp
       exact hJ _ rfl
   rintro e rfl
   have hd1:=dA_len (X:=X) hM
   have hd2:=dB_len (X:=X) hM
   refine wp_cut' (fun e=>e=fr [(0,some (.val (tba A))),(1,some (.val (tba C))),(2,some (.val (.mem .fresh (some 1) ((dA n X M).map I)))),(11,some (.val (I n))),(12,some (.val (I N))),(16,some (.val (.mem .own (some 1) (rowsF X)))),(21,some (.val (.mem .fresh (some 1) ((colD X M).map I))))]) (fun J hJ _=>?_) ?_
   · simp
     rw [win_dA]
     exact ⟨by omega,hJ _ rfl⟩
   rintro e rfl
   refine wp_cut' (fun e=>e=fr [(0,some (.val (tba A))),(1,some (.val (tba C))),(2,some (.val (.mem .fresh (some 1) ((dA n X M).map I)))),(3,some (.val (.mem .fresh (some 1) ((dB n X M).map I)))),(11,some (.val (I n))),(12,some (.val (I N))),(16,some (.val (.mem .own (some 1) (rowsF X))))]) (fun J hJ _=>?_) ?_
   · simp
     rw [win_dB]
     exact ⟨by omega,hJ _ rfl⟩
   rintro e rfl
   by_cases hXN:X.length=N
   · simp [hXN]
     rw [← hR]
     exact ⟨some (dA n X M,dB n X M),⟨x3,x4,hkc⟩,by simp [post,refR]⟩
   · have hXN':¬((X.length:Int)=(N:Int)):=by omega
     simp [hXN']
     exact ⟨X.length,by omega,.fresh,dA n X M,dB n X M,.inr rfl,x3,x4,x2,x1,hkc,by simp⟩
 · obtain ⟨j0,h1,h2,h3⟩:=least_nz hz
   refine wp_cut' (fun _=>False) (fun J _ hret=>?_) (fun _ h=>h.elim)
   simp
   refine wpLoop_count (fun i e=>e=fr [(0,some (.val (tba A))),(1,some (.val (tba C))),(11,some (.val (I n))),(12,some (.val (I N))),(16,some (.val (.mem .own (some 1) (rowsF X)))),(20,some (.val (ownL (ctL X M n M.length)))),(21,some (.val (ownL (colD X M)))),(24,some (.val (I i)))]) j0 ?_ ?_ 0 _ (by omega) (by simp)
   · rintro i e hi rfl
     have hct:=ctL_length X M n M.length
     have hi3:i<X.length:=by omega
     have hi2:i<(ctL X M n M.length).length:=by omega
     have hzi:(ctL X M n M.length)[i]=0:=by simp [ctL,h3 i hi]
     simp [hi3,hi2,hzi]
     omega
   · rintro e rfl
     have hct:=ctL_length X M n M.length
     have hi2:j0<(ctL X M n M.length).length:=by omega
     have hzi:(ctL X M n M.length)[j0]=ctK X M n M.length j0:=by simp [ctL]
     simp [h1,hi2,hzi,h2]
     refine hret _ ?_
     simp
     rw [← hR]
     exact ⟨none,fun q hq1 hq2=>h2 (ctK_perm rfl (hpe q hq1 hq2) j0),by simp [post,refR]⟩
end Go.Mch
namespace Go.Mch

def fitA (A C:List (List (List Int))) (f:List Int):Prop:=∀ (k:Nat) a b,A[k]?=some a→C[k]?=some b→∀ x y,x<f.length→y<f.length→vN a x y<f.length→fN f (vN a x y)=vN b (fN f x) (fN f y)
structure Prt (A C:List (List (List Int))) (n:Nat) (f:List Int):Prop where
 rng:InF n f
 len:f.length≤n
 nd:f.Nodup
 fit:fitA A C f
def EF (q:Nat→Nat) (f:List Int):Prop:=∀ x,x<f.length→fN f x=q x
theorem fN_app {f:List Int} {y:Int} {x:Nat} (hx:x<f.length):fN (f++[y]) x=fN f x:=by simp [fN,List.getD_eq_getElem?_getD,List.getElem?_append_left hx]
theorem fN_last {f:List Int} {y:Nat}:fN (f++[(y:Int)]) f.length=y:=by simp [fN,List.getD_eq_getElem?_getD]
theorem EF.app {q:Nat→Nat} {f:List Int} {y:Nat}:EF q (f++[(y:Int)])↔EF q f∧q f.length=y:=by
 constructor
 · intro h
   refine ⟨fun x hx=>?_,?_⟩
   · have:=h x (by simp;omega)
     rwa [fN_app hx] at this
   · have:=h f.length (by simp)
     rw [fN_last] at this
     exact this.symm
 · rintro ⟨h1,h2⟩ x hx
   simp only [List.length_append,List.length_cons,List.length_nil,Nat.zero_add] at hx
   by_cases hl:x<f.length
   · rw [fN_app hl];exact h1 x hl
   · obtain rfl:x=f.length:=by omega
     rw [fN_last];exact h2.symm
theorem InF.app {n y:Nat} {f:List Int} (h:InF n f) (hy:y<n):InF n (f++[(y:Int)]):=by
 intro v hv
 rcases List.mem_append.1 hv with h1 | h1
 · exact h v h1
 · rw [List.mem_singleton.1 h1];omega
theorem Prt.app {A C:List (List (List Int))} {n y:Nat} {f:List Int} (h:Prt A C n f) (hy:y<n) (hl:f.length<n) (hn:(y:Int) ∉ f) (hf:fitP A C (f++[(y:Int)])):Prt A C n (f++[(y:Int)]):=by
 refine ⟨h.rng.app hy,by simp;omega,?_,fun k a b ha hb x z hx hz hv=>?_⟩
 · rw [List.nodup_append]
   refine ⟨h.nd,by simp,fun a ha b hb e=>?_⟩
   rw [List.mem_singleton] at hb
   subst hb;subst e
   exact hn ha
 · by_cases hs:x<f.length∧z<f.length∧vN a x z<f.length
   · rw [fN_app hs.1,fN_app hs.2.1,fN_app hs.2.2]
     exact h.fit k a b ha hb x z hs.1 hs.2.1 hs.2.2
   · refine hf k a b ha hb x z hx hz hv fun h2=>hs ?_
     simp only [List.length_append,List.length_cons,List.length_nil,Nat.zero_add] at h2
     omega
theorem Iso.fitP {A C:List (List (List Int))} {n:Nat} {f:List Int} {q:Nat→Nat} (hq:Iso A C n q) (hl:f.length≤n) (he:EF q f):fitP A C f:=by
 intro k a b ha hb x y hx hy hv _
 rw [he _ hv,he x hx,he y hy]
 exact hq.eq k a b ha hb x y (by omega) (by omega)
theorem fN_inj {n:Nat} {f:List Int} (h:InF n f) (hn:f.Nodup) {x y:Nat} (hx:x<f.length) (hy:y<f.length) (he:fN f x=fN f y):x=y:=by
 refine (List.getElem_inj (h₀:=hx) (h₁:=hy) hn).1 ?_
 rw [(h.get hx).1,(h.get hy).1,he]
theorem Prt.iso {A C:List (List (List Int))} {n:Nat} {f:List Int} (h:Prt A C n f) (hA:Tbs n A) (hl:f.length=n):Iso A C n (fN f):=by
 refine ⟨fun x hx=>(h.rng.get (by omega)).2,fun x y hx hy he=>fN_inj h.rng h.nd (by omega) (by omega) he,fun k a b ha hb x y hx hy=>?_⟩
 refine h.fit k a b ha hb x y (by omega) (by omega) ?_
 obtain ⟨t,l⟩:=hA.2 a (List.mem_of_getElem? ha)
 have:=(t.vn (by have:=hA.1;omega) x y).2
 omega
theorem lstN_fN {n:Nat} {f:List Int} (h:InF n f) (hl:f.length=n):lstN n (fN f)=f:=by
 apply List.ext_getElem
 · simp [lstN,hl]
 · intro i h1 h2
   simp only [lstN,List.getElem_map,List.getElem_range]
   exact (h.get h2).1.symm
structure Lst (A C:List (List (List Int))) (n:Nat) (f:List Int) (p:Nat→Nat):Prop where
 iso:Iso A C n p
 ef:EF p f
 le:∀ q,Iso A C n q→EF q f→leN n p q
def SkR (A C:List (List (List Int))) (n:Nat) (f:List Int):Option (List Int)→Prop
 | none=>∀ q,Iso A C n q→¬EF q f
 | some l=>∃ p,Lst A C n f p∧l=lstN n p
theorem Prt.leaf {A C:List (List (List Int))} {n:Nat} {f:List Int} (h:Prt A C n f) (hA:Tbs n A) (hl:f.length=n):SkR A C n f (some f):=by
 refine ⟨fN f,⟨h.iso hA hl,fun _ _=>rfl,fun q _ he=>.inl fun z hz=>he z (by omega)⟩,(lstN_fN h.rng hl).symm⟩
theorem Kc.one {A C:List (List (List Int))} {n x y:Nat} {c1 c2:List Int} {q:Nat→Nat} (hq:Iso A C n q) (h1:c1.length=n) (h2:c2.length=n) (h:Kc n c1 c2 q) (hx:x<n) (hy:q x=y):Kc n (c1.set x 60) (c2.set y 60) q:=by
 subst hy
 have hqx:=hq.lt x hx
 intro z hz
 have hz2:=hq.lt z hz
 simp only [cl,List.getD_eq_getElem?_getD,List.getElem?_set,h1,h2]
 by_cases e:x=z
 · subst e;simp [hx,hqx]
 · have e2:q x≠q z:=fun he=>e (hq.inj x z hx hz he)
   rw [if_neg e,if_neg e2]
   have:=h z hz
   simpa only [cl,List.getD_eq_getElem?_getD] using this
theorem ClN.one {n x:Nat} {c:List Int} (h:ClN n c):ClN n (c.set x 60):=by
 refine ⟨by simp [h.1],fun v hv=>?_⟩
 rcases List.mem_or_eq_of_mem_set hv with h1 | h1
 · exact h.2 v h1
 · omega
theorem SkR.up {A C:List (List (List Int))} {n y:Nat} {f:List Int} {l:List Int} (hl:f.length<n) (hno:∀ q,Iso A C n q→EF q f→¬q f.length<y) (h:SkR A C n (f++[(y:Int)]) (some l)):SkR A C n f (some l):=by
 obtain ⟨p,hp,rfl⟩:=h
 obtain ⟨p1,p2⟩:=EF.app.1 hp.ef
 refine ⟨p,⟨hp.iso,p1,fun q hq he=>?_⟩,rfl⟩
 by_cases hy:q f.length=y
 · exact hp.le q hq (EF.app.2 ⟨he,hy⟩)
 · refine .inr ⟨f.length,hl,fun z hz=>?_,?_⟩
   · rw [← p1 z hz,← he z hz]
   · have:=hno q hq he
     omega
theorem SkR.fst {A C:List (List (List Int))} {n:Nat} (hn:0<n) (o:Option (List Int)) (h:SkR A C n [] o):match o with
 | none=>∀ q,¬Iso A C n q
 | some l=>∃ p,Fst A C n (mp0 n) p∧l=lstN n p:=by
 cases o with
 | none=>exact fun q hq=>h q hq fun x hx=>by simp at hx
 | some l =>
  obtain ⟨p,hp,e⟩:=h
  exact ⟨p,⟨hp.iso,fun x _ h=>absurd (gi_mp0 n x) h,fun q hq _=>hp.le q hq fun x hx=>by simp at hx⟩,e⟩
end Go.Mch
namespace Go.Mch

def skR:Option (List Int)→T
 | none=>nil
 | some l=>.mem .own (some 1) [.mem .own (some 1) (l.map I)]
def skSt (A C:List (List (List Int))) (n:Nat) (f c1 c2:List Int) (y:Nat) (e:Env):Prop :=
 y≤n∧∃ o,((o=none∧∀ q,Iso A C n q→EF q f→¬q f.length<y)∨(o≠none∧SkR A C n f o))∧e=fr [(0,some (.val (tba A))),(1,some (.val (tba C))),(2,some (.val (ix f))),(3,some (.val (ix c1))),(4,some (.val (ix c2))),(5,some (.val (I 1))),(6,some (.val (skR o))),(15,some (.val (I f.length))),(16,some (.val (I y)))]
def S_seek (pg:Pg):Prop:=∀ (k:Nat) (A C:List (List (List Int))) (n:Nat) (f c1 c2:List Int),Tbs n A→Tbs n C→A.length=C.length→A.length≤4→n≤12→Prt A C n f→f.length+k=n→ClN n c1→ClN n c2→(∀ q,Iso A C n q→EF q f→Kc n c1 c2 q) →
 ∃ o,SkR A C n f o∧Call pg 464 [tba A,tba C,ix f,ix c1,ix c2,I 1,nil] [tba A,tba C,ix f,ix c1,ix c2,I 1,nil] (skR o)
set_option maxRecDepth 20000 in
set_option maxHeartbeats 2000000 in
theorem t_seek {pg:Pg} (hp:pg.fn 464=some c_spec_l03Seek) (h31:S_own pg) (h62:S_has pg) (h462:S_fits pg) (h463:S_refine pg):S_seek pg:=by
 intro k
 induction k with
 | zero =>
  intro A C n f c1 c2 hA hC hAC hk hn hf hfk hc1 hc2 hq
  have hl1:=hc1.1
  have hl2:f.length=n:=by omega
  refine ⟨some f,hf.leaf hA hl2,?_⟩
  refine Call.intro hp rfl (by simp) ?_
  show wp _ _ c_spec_l03Seek.body (post [.t 14] _ _ _) _
  simp [c_spec_l03Seek,hl1,hl2]
  refine callR (h31 f (by omega)) rfl rfl (fun _=>by simp) ?_
  simp [skR]
  unfold roomy;omega
 | succ k ih =>
  intro A C n f c1 c2 hA hC hAC hk hn hf hfk hc1 hc2 hq
  have hl1:=hc1.1
  have hl2:=hc2.1
  have hfn:f.length<n:=by omega
  have hfne:¬f.length=n:=by omega
  have hfne':¬(f.length:Int)=(n:Int):=by omega
  refine Call.find hp rfl (by simp) ?_
  show wp _ _ c_spec_l03Seek.body (fun x e=>∃ o,SkR A C n f o∧post [.t 14] _ _ (skR o) x e) _
  generalize hR:(fun x e=>∃ o,SkR A C n f o∧post [.t 14] [tba A,tba C,ix f,ix c1,ix c2,I 1,nil] [tba A,tba C,ix f,ix c1,ix c2,I 1,nil] (skR o) x e)=R
  simp [c_spec_l03Seek,hl1,hfne']
  refine wpLoop_lower (α:=Nat) (fun y=>n+1-y) (fun y e=>skSt A C n f c1 c2 y e) ?_ 0 _ ⟨by omega,none,.inl ⟨rfl,fun q _ _=>by omega⟩,by simp [skR]⟩
  rintro y e ⟨hyn,o,ho,rfl⟩
  rcases ho with ⟨rfl,ho⟩ | ⟨hne,ho⟩
  · by_cases hy:y<n
    · have hfl:=hf.len
      have hyI:(y:Int)<n:=by omega
      have hxc:f.length<c1.length:=by omega
      have hyc:y<c2.length:=by omega
      have q1:=cl_get hxc
      have q2:=cl_get hyc
      have hin:=hf.rng.app hy
      have hl':(f++[(y:Int)]).length=f.length+1:=by simp
      have hcF:=h462 A C n (f++[(y:Int)]) hA hC hAC hk hn hin (by omega) (by omega)
      have hno:(∀ q,Iso A C n q→EF q f→q f.length≠y)→∀ q,Iso A C n q→EF q f→¬q f.length<y+1:=fun h q h1 h2 h3=>by
       have:=ho q h1 h2
       have:=h q h1 h2
       omega
      simp [hl2,hy,skR]
      refine callR (h31 f (by omega)) rfl rfl (fun _=>by simp) ?_
      simp
      refine ⟨by unfold roomy;omega,?_⟩
      have hmap:List.map I f++[I (y:Int)]=List.map I (f++[(y:Int)]):=by simp
      rw [hmap]
      have hEF:=fun q=>EF.app (q:=q) (f:=f) (y:=y)
      have happ:=hf.app hy hfn
      have hup:=fun l=>SkR.up (A:=A) (C:=C) (y:=y) (l:=l) hfn ho
      generalize hg:f++[(y:Int)]=g at *
      refine callR (h62 f y (by omega)) rfl rfl (fun _=>rfl) ?_
      by_cases hm:(y:Int)∈f
      · simp [hm,undefV]
        refine ⟨by omega,y+1,by omega,by omega,none,.inl ⟨rfl,hno fun q h1 h2 h3=>?_⟩,by simp [skR]⟩
        obtain ⟨x,hx,hxe⟩:=List.getElem_of_mem hm
        have e1:=(hf.rng.get hx).1
        have e2:=h2 x hx
        have:=h1.inj x f.length (by omega) hfn (by omega)
        omega
      · by_cases hcc:cl c1 f.length=cl c2 y
        · simp [hm,hxc,hyc,q1,q2,hcc]
          refine callR hcF rfl rfl (fun _=>rfl) ?_
          by_cases hfit:fitP A C g
          · simp [dec_true hfit]
            refine callR (h31 c1 (by omega)) rfl rfl (fun _=>by simp) ?_
            simp
            refine callR (h31 c2 (by omega)) rfl rfl (fun _=>by simp) ?_
            simp [hxc,hyc]
            refine ⟨by omega,by omega,?_⟩
            have s1:(List.map I c1).set f.length (T.sc (Value.int .i64 60))=(c1.set f.length 60).map I:=by simp [List.map_set]
            have s2:(List.map I c2).set y (T.sc (Value.int .i64 60))=(c2.set y 60).map I:=by simp [List.map_set]
            rw [s1,s2]
            have z1:=hc1.one (x:=f.length)
            have z2:=hc2.one (x:=y)
            obtain ⟨o,hr,hcR⟩:=h463 A C n (c1.set f.length 60) (c2.set y 60) hA hC hAC hk hn z1 z2
            have hkc:∀ q,Iso A C n q→EF q g→Kc n (c1.set f.length 60) (c2.set y 60) q:=fun q h1 h2=>by
             obtain ⟨h3,h4⟩:=(hEF q).1 h2
             exact (hq q h1 h3).one h1 hl1 hl2 hfn h4
            generalize c1.set f.length 60=a1 at *
            generalize c2.set y 60=a2 at *
            simp
            refine callR hcR rfl rfl (fun _=>by cases o <;> simp [refR]) ?_
            have hP:=happ hm hfit
            cases o with
            | none =>
             simp [refR]
             refine ⟨by omega,y+1,by omega,by omega,none,.inl ⟨rfl,hno fun q h1 h2 h3=>?_⟩,by simp [skR]⟩
             have h4:=(hEF q).2 ⟨h2,h3⟩
             exact hr q h1 (hkc q h1 h4)
            | some d =>
             obtain ⟨r1,r2,r3⟩:=hr
             simp [refR]
             obtain ⟨o,ho2,hc2⟩:=ih A C n g d.1 d.2 hA hC hAC hk hn hP (by omega) r1 r2 fun q h1 h2=>r3 q h1 (hkc q h1 h2)
             refine callR hc2 rfl rfl (fun _=>by cases o <;> simp [skR]) ?_
             cases o with
             | none =>
              simp [skR]
              refine ⟨by omega,y+1,by omega,by omega,none,.inl ⟨rfl,hno fun q h1 h2 h3=>?_⟩,by simp [skR]⟩
              exact ho2 q h1 ((hEF q).2 ⟨h2,h3⟩)
             | some l =>
              simp [skR]
              exact ⟨by omega,y+1,by omega,by omega,some l,.inr ⟨by simp,hup l ho2⟩,by simp [skR]⟩
          · simp [dec_false hfit]
            refine ⟨by omega,y+1,by omega,by omega,none,.inl ⟨rfl,hno fun q h1 h2 h3=>?_⟩,by simp [skR]⟩
            exact hfit (h1.fitP (by omega) ((hEF q).2 ⟨h2,h3⟩))
        · simp [hm,hxc,hyc,q1,q2,hcc,undefV]
          refine ⟨by omega,y+1,by omega,by omega,none,.inl ⟨rfl,hno fun q h1 h2 h3=>?_⟩,by simp [skR]⟩
          have:=hq q h1 h2 f.length hfn
          rw [h3] at this
          exact hcc this
    · simp [hl2,hy,skR,undefV]
      rw [← hR]
      exact ⟨none,fun q h1 h2=>ho q h1 h2 (by have:=h1.lt f.length hfn;omega),by simp [post,skR]⟩
  · cases o with
    | none=>exact absurd rfl hne
    | some l =>
     by_cases hy:y<n
     · simp [hl2,hy,skR]
       rw [← hR]
       exact ⟨some l,ho,by simp [post,skR]⟩
     · simp [hl2,hy,skR,undefV]
       rw [← hR]
       exact ⟨some l,ho,by simp [post,skR]⟩
end Go.Mch
namespace Go.Mch

def skSt0 (A C:List (List (List Int))) (n:Nat) (c1 c2:List Int) (y:Nat) (e:Env):Prop :=
 y≤n∧∃ o,((o=none∧∀ q,Iso A C n q→EF q []→¬q 0<y)∨(o≠none∧SkR A C n [] o))∧e=fr [(0,some (.val (tba A))),(1,some (.val (tba C))),(2,some (.val nil)),(3,some (.val (ix c1))),(4,some (.val (ix c2))),(5,some (.val (I 1))),(6,some (.val (skR o))),(15,some (.val (I 0))),(16,some (.val (I y)))]
def S_own0 (pg:Pg):Prop:=Call pg 31 [nil] [nil] (.mem .own (some 1) [])
theorem t_own0 {pg:Pg} (hp:pg.fn 31=some c_spec_l01Own):S_own0 pg:=by
 refine Call.intro hp rfl (by simp) ?_
 show wp _ _ c_spec_l01Own.body (post [.t 2] _ _ _) _
 simp [c_spec_l01Own,roomy]
def S_idx0 (pg:Pg):Prop:=∀ n:Int,Call pg 69 [nil,I n] [nil,I n] (I (-1))
theorem t_idx0 {pg:Pg} (hp:pg.fn 69=some c_spec_l01Index):S_idx0 pg:=by
 intro n
 refine Call.intro hp rfl (by simp) ?_
 show wp _ _ c_spec_l01Index.body (post [.t 4] _ _ _) _
 simp [c_spec_l01Index]
 refine wpLoop_count (fun k e=>e=fr [(0,some (.val nil)),(1,some (.val (I n))),(5,some (.val (I k)))]) 0 ?_ ?_ 0 _ (by omega) rfl
 · rintro k e hk
   omega
 · rintro e rfl
   simp
def S_has0 (pg:Pg):Prop:=∀ n:Nat,Call pg 62 [nil,I n] [nil,I n] (B false)
theorem t_has0 {pg:Pg} (hp:pg.fn 62=some c_spec_l01Has) (h69:S_idx0 pg):S_has0 pg:=by
 intro n
 refine Call.intro hp rfl (by simp) ?_
 show wp _ _ c_spec_l01Has.body (post [.t 4] _ _ _) _
 simp [c_spec_l01Has]
 refine callR (h69 n) rfl rfl (fun _=>rfl) ?_
 simp
def S_seek0 (pg:Pg):Prop:=∀ (A C:List (List (List Int))) (n:Nat) (c1 c2:List Int),Tbs n A→Tbs n C→A.length=C.length→A.length≤4→n≤12→Prt A C n []→ClN n c1→ClN n c2→(∀ q,Iso A C n q→EF q []→Kc n c1 c2 q) →
 ∃ o,SkR A C n [] o∧Call pg 464 [tba A,tba C,nil,ix c1,ix c2,I 1,nil] [tba A,tba C,nil,ix c1,ix c2,I 1,nil] (skR o)
set_option maxRecDepth 20000 in
set_option maxHeartbeats 2000000 in
theorem t_seek0 {pg:Pg} (hp:pg.fn 464=some c_spec_l03Seek) (h31:S_own pg) (h31n:S_own0 pg) (h62n:S_has0 pg) (h462:S_fits pg) (h463:S_refine pg) (h464:S_seek pg):S_seek0 pg:=by
 intro A C n c1 c2 hA hC hAC hk hn hf hc1 hc2 hq
 have hn0:=hA.1
 have hl1:=hc1.1
 have hl2:=hc2.1
 have hfne':¬(0:Int)=(n:Int):=by omega
 have hfn:([]:List Int).length<n:=hn0
 refine Call.find hp rfl (by simp) ?_
 show wp _ _ c_spec_l03Seek.body (fun x e=>∃ o,SkR A C n [] o∧post [.t 14] _ _ (skR o) x e) _
 generalize hR:(fun x e=>∃ o,SkR A C n [] o∧post [.t 14] [tba A,tba C,nil,ix c1,ix c2,I 1,nil] [tba A,tba C,nil,ix c1,ix c2,I 1,nil] (skR o) x e)=R
 simp [c_spec_l03Seek,hl1,hfne']
 refine wpLoop_lower (α:=Nat) (fun y=>n+1-y) (fun y e=>skSt0 A C n c1 c2 y e) ?_ 0 _ ⟨by omega,none,.inl ⟨rfl,fun q _ _=>by omega⟩,by simp [skR]⟩
 rintro y e ⟨hyn,o,ho,rfl⟩
 rcases ho with ⟨rfl,ho⟩ | ⟨hne,ho⟩
 · by_cases hy:y<n
   · have hfl:([]:List Int).length≤n:=Nat.zero_le _
     have hyI:(y:Int)<n:=by omega
     have hxc:0<c1.length:=by omega
     have hyc:y<c2.length:=by omega
     have q1:=cl_get hxc
     have q2:=cl_get hyc
     have hin:InF n [(y:Int)]:=fun v hv=>by rw [List.mem_singleton.1 hv];omega
     have hl':([(y:Int)]:List Int).length=1:=rfl
     have hcF:=h462 A C n [(y:Int)] hA hC hAC hk hn hin (by omega) (by omega)
     have hno:(∀ q,Iso A C n q→EF q []→q 0≠y)→∀ q,Iso A C n q→EF q []→¬q 0<y+1:=fun h q h1 h2 h3=>by
      have:=ho q h1 h2
      have:=h q h1 h2
      omega
     simp [hl2,hy,skR]
     refine callR h31n rfl rfl (fun _=>by simp) ?_
     simp
     refine ⟨by unfold roomy;omega,?_⟩
     have hEF:=fun q=>EF.app (q:=q) (f:=[]) (y:=y)
     have happ:=hf.app hy hfn
     simp only [List.nil_append,List.length_nil] at hEF happ
     have hup:=fun l=>SkR.up (A:=A) (C:=C) (y:=y) (l:=l) hfn ho
     simp only [List.nil_append] at hup
     refine callR (h62n y) rfl rfl (fun _=>rfl) ?_
     by_cases hcc:cl c1 0=cl c2 y
     · simp [hxc,hyc,q1,q2,hcc]
       refine callR hcF rfl rfl (fun _=>rfl) ?_
       by_cases hfit:fitP A C [(y:Int)]
       · simp [dec_true hfit]
         refine callR (h31 c1 (by omega)) rfl rfl (fun _=>by simp) ?_
         simp
         refine callR (h31 c2 (by omega)) rfl rfl (fun _=>by simp) ?_
         simp [hxc,hyc]
         refine ⟨by omega,by omega,?_⟩
         have s1:(List.map I c1).set 0 (T.sc (Value.int .i64 60))=(c1.set 0 60).map I:=by simp [List.map_set]
         have s2:(List.map I c2).set y (T.sc (Value.int .i64 60))=(c2.set y 60).map I:=by simp [List.map_set]
         rw [s1,s2]
         have z1:=hc1.one (x:=0)
         have z2:=hc2.one (x:=y)
         obtain ⟨o,hr,hcR⟩:=h463 A C n (c1.set 0 60) (c2.set y 60) hA hC hAC hk hn z1 z2
         have hkc:∀ q,Iso A C n q→EF q [(y:Int)]→Kc n (c1.set 0 60) (c2.set y 60) q:=fun q h1 h2=>by
          obtain ⟨h3,h4⟩:=(hEF q).1 h2
          exact (hq q h1 h3).one h1 hl1 hl2 hn0 h4
         generalize c1.set 0 60=a1 at *
         generalize c2.set y 60=a2 at *
         simp
         refine callR hcR rfl rfl (fun _=>by cases o <;> simp [refR]) ?_
         have hP:=happ (by simp) hfit
         cases o with
         | none =>
          simp [refR]
          refine ⟨by omega,y+1,by omega,by omega,none,.inl ⟨rfl,hno fun q h1 h2 h3=>?_⟩,by simp [skR]⟩
          have h4:=(hEF q).2 ⟨h2,h3⟩
          exact hr q h1 (hkc q h1 h4)
         | some d =>
          obtain ⟨r1,r2,r3⟩:=hr
          simp [refR]
          obtain ⟨o,ho2,hc2⟩:=h464 (n-1) A C n [(y:Int)] d.1 d.2 hA hC hAC hk hn hP (by omega) r1 r2 fun q h1 h2=>r3 q h1 (hkc q h1 h2)
          refine callR hc2 rfl rfl (fun _=>by cases o <;> simp [skR]) ?_
          cases o with
          | none =>
           simp [skR]
           refine ⟨by omega,y+1,by omega,by omega,none,.inl ⟨rfl,hno fun q h1 h2 h3=>?_⟩,by simp [skR]⟩
           exact ho2 q h1 ((hEF q).2 ⟨h2,h3⟩)
          | some l =>
           simp [skR]
           exact ⟨by omega,y+1,by omega,by omega,some l,.inr ⟨by simp,hup l ho2⟩,by simp [skR]⟩
       · simp [dec_false hfit]
         refine ⟨by omega,y+1,by omega,by omega,none,.inl ⟨rfl,hno fun q h1 h2 h3=>?_⟩,by simp [skR]⟩
         exact hfit (h1.fitP (by omega) ((hEF q).2 ⟨h2,h3⟩))
     · simp [hxc,hyc,q1,q2,hcc,undefV]
       refine ⟨by omega,y+1,by omega,by omega,none,.inl ⟨rfl,hno fun q h1 h2 h3=>?_⟩,by simp [skR]⟩
       have:=hq q h1 h2 0 hn0
       rw [h3] at this
       exact hcc this
   · simp [hl2,hy,skR,undefV]
     rw [← hR]
     exact ⟨none,fun q h1 h2=>ho q h1 h2 (by have:=h1.lt 0 hn0;omega),by simp [post,skR]⟩
 · cases o with
   | none=>exact absurd rfl hne
   | some l =>
    by_cases hy:y<n
    · simp [hl2,hy,skR]
      rw [← hR]
      exact ⟨some l,ho,by simp [post,skR]⟩
    · simp [hl2,hy,skR,undefV]
      rw [← hR]
      exact ⟨some l,ho,by simp [post,skR]⟩
end Go.Mch
namespace Go.Mch

def S_maps (pg:Pg):Prop:=∀ (A C:List (List (List Int))) (n:Nat),Tbs n A→Tbs n C→A.length=C.length→0<A.length→A.length≤4→n≤12→∃ o,SkR A C n [] o∧Call pg 448 [tba A,tba C,nil,I 1] [tba A,tba C,nil,I 1] (skR o)
theorem rep_map (n:Nat):List.replicate n (T.sc (Value.int .i64 0))=(List.replicate n (0:Int)).map I:=by simp
set_option maxRecDepth 20000 in
theorem t_maps {pg:Pg} (hp:pg.fn 448=some c_spec_l03Maps) (h463:S_refine pg) (h464:S_seek0 pg):S_maps pg:=by
 intro A C n hA hC hAC h0 hk hn
 obtain ⟨a,A,rfl⟩:∃ a A',A=a::A':=by
  cases A with
  | nil=>simp at h0
  | cons a A=>exact ⟨a,A,rfl⟩
 obtain ⟨b,C,rfl⟩:∃ b C',C=b::C':=by
  cases C with
  | nil=>simp at hAC
  | cons a A=>exact ⟨a,A,rfl⟩
 have hla:=(hA.2 a (by simp)).2
 have hlb:=(hC.2 b (by simp)).2
 have hcl:ClN n (List.replicate n 0):=⟨by simp,fun v hv=>by rw [List.eq_of_mem_replicate hv];omega⟩
 obtain ⟨o,hr,hc⟩:=h463 _ _ n _ _ hA hC hAC hk hn hcl hcl
 have hP:Prt (a::A) (b::C) n []:=⟨fun v hv=>by simp at hv,by simp,List.nodup_nil,fun k a b _ _ x y hx=>by simp at hx⟩
 have hkc:∀ q,Iso (a::A) (b::C) n q→Kc n (List.replicate n 0) (List.replicate n 0) q:=fun q hq x hx=>by
  have:=hq.lt x hx
  simp [cl,hx,this]
 have key:∃ o',SkR (a::A) (b::C) n [] o'∧(o=none→o'=none)∧∀ (d:List Int×List Int),o=some d→Call pg 464 [tba (a::A),tba (b::C),nil,ix d.1,ix d.2,I 1,nil] [tba (a::A),tba (b::C),nil,ix d.1,ix d.2,I 1,nil] (skR o'):=by
  cases o with
  | none=>exact ⟨none,fun q hq _=>hr q hq (hkc q hq),fun _=>rfl,fun d h=>(by cases h)⟩
  | some d =>
   obtain ⟨r1,r2,r3⟩:=hr
   obtain ⟨o',h1,h2⟩:=h464 _ _ n d.1 d.2 hA hC hAC hk hn hP r1 r2 fun q hq _=>r3 q hq (hkc q hq)
   exact ⟨o',h1,fun h=>(by cases h),fun d' h=>by cases h;exact h2⟩
 obtain ⟨o',h1,h2,h3⟩:=key
 refine ⟨o',h1,?_⟩
 refine Call.intro hp rfl (by simp) ?_
 show wp _ _ c_spec_l03Maps.body (post [.t 8] _ _ _) _
 have hrep:=rep_map n
 have hzl:(List.replicate n (0:Int)).length=n:=by simp
 generalize List.replicate n (0:Int)=z at *
 simp [c_spec_l03Maps,hla,hlb]
 refine ⟨by unfold roomy;omega,?_⟩
 rw [hrep]
 simp
 refine callR hc rfl rfl (fun _=>by cases o <;> simp [refR]) ?_
 cases o with
 | none =>
  rw [h2 rfl]
  simp [refR,skR]
 | some d =>
  simp [refR]
  refine callR (h3 d rfl) rfl rfl (fun _=>by cases o' <;> simp [skR]) ?_
  cases o' <;> simp [skR,post]

def S_l02Maps (pg:Pg):Prop:=∀ f s g w:List (List Int),PM f s→PM g w→f.length=g.length→∃ o,SkR [f,s] [g,w] f.length [] o∧Call pg 421 [sol f s,sol g w,I 1] [sol f s,sol g w,I 1] (skR o)
theorem PM.tbs {f s:List (List Int)} (h:PM f s):Tbs f.length [f,s]:=isT_Tbs h.pos fun x hx=>by
 simp only [List.mem_cons,List.not_mem_nil,or_false] at hx
 rcases hx with rfl | rfl
 · exact ⟨h.tf,rfl⟩
 · exact ⟨h.ts,h.len⟩
theorem t_l02Maps {pg:Pg} (hp:pg.fn 421=some c_spec_l02Maps) (h448:S_maps pg):S_l02Maps pg:=by
 intro f s g w hf hg he
 obtain ⟨o,h1,hc⟩:=h448 [f,s] [g,w] f.length hf.tbs (by rw [he];exact hg.tbs) rfl (by simp) (by simp) hf.small
 refine ⟨o,h1,?_⟩
 refine Call.intro hp rfl (by simp) ?_
 show wp _ _ c_spec_l02Maps.body (post [.t 6] _ _ _) _
 simp [c_spec_l02Maps]
 refine callR hc rfl rfl (fun _=>by cases o <;> simp [skR]) ?_
 cases o <;> simp [skR,post]

def skA:Option (List Int)→T
 | none=>.tup [nil,I 4]
 | some l=>.tup [ownL l,I 0]
theorem SkR.ans {A C:List (List (List Int))} {n n':Nat} {o:Option (List Int)} {r:T} (hn:0<n) (h:SkR A C n [] o) (he:n'=n) (hr:isoAns A C n n' r):r=skA o:=by
 have h1:=SkR.fst hn o h
 cases o with
 | none =>
  rcases hr with ⟨_,hr⟩ | ⟨_,p,hp,_⟩
  · exact hr
  · exact absurd hp.iso (h1 p)
 | some l =>
  obtain ⟨p,hp,rfl⟩:=h1
  rcases hr with ⟨h2,_⟩ | ⟨_,q,hq,hr⟩
  · rcases h2 with h2 | h2
    · exact absurd he h2
    · exact absurd hp.iso (h2 p)
  · rw [hr,hp.uniq hq];rfl
theorem t_soIsoS {pg:Pg} (hp:pg.fn 370=some c_spec_SolutionIsomorphism) (h56:S_pairMap pg 56) (h421:S_l02Maps pg):S_soIso pg 370:=by
 intro f s g w r hf hg hr
 have pf:=hf.map
 have pg':=hg.map
 refine Call.intro hp rfl (by simp) ?_
 show wp _ _ c_spec_SolutionIsomorphism.body (post [.t 4,.t 5] _ _ _) _
 simp [c_spec_SolutionIsomorphism]
 refine callR (h56 f s (cyT_fits pf.1) (cyT_fits pf.2.1)) rfl rfl (fun _=>rfl) ?_
 simp [pf]
 refine callR (h56 g w (cyT_fits pg'.1) (cyT_fits pg'.2.1)) rfl rfl (fun _=>rfl) ?_
 by_cases he:f.length=g.length
 · obtain ⟨o,h1,hc⟩:=h421 f s g w hf hg he
   have hr':=SkR.ans hf.pos h1 he.symm hr
   subst hr'
   simp [pg',he]
   refine callR hc rfl rfl (fun _=>by cases o <;> simp [skR]) ?_
   cases o <;> simp [skR,skA,post]
 · have hr':r=.tup [nil,I 4]:=by
    rcases hr with ⟨_,hr⟩ | ⟨h1,_⟩
    · exact hr
    · exact absurd h1.symm he
   subst hr'
   have he':¬((f.length:Int)=(g.length:Int)):=by omega
   simp [pg',he',post]
theorem cyc_ans {t u:List (List Int)} (ht:cyP t) (hu:cyP u) {r:T} (h:isoAns [t] [u] t.length u.length r):isoAns [cyF t,cyS t] [cyF u,cyS u] t.length u.length r:=by
 rcases h with ⟨h1,h2⟩ | ⟨h1,p,hp,h2⟩
 · refine .inl ⟨?_,h2⟩
   by_cases he:u.length=t.length
   · rcases h1 with h1 | h1
     · exact absurd he h1
     · exact .inr fun q hq=>h1 q ((iso_cyc ht hu he q).2 hq)
   · exact .inl he
 · exact .inr ⟨h1,p,⟨(iso_cyc ht hu h1 p).1 hp.iso,hp.ext,fun q hq he=>hp.le q ((iso_cyc ht hu h1 q).2 hq) he⟩,h2⟩
theorem t_cyIsoS {pg:Pg} (hp:pg.fn 249=some c_spec_CycleIsomorphism) (h363:S_isCy pg 363) (h366:S_cySol pg 366) (h370:S_soIso pg 370):S_cyIso pg 249:=by
 intro t u r ht hu h1 h2
 refine Call.intro hp rfl (by simp) ?_
 show wp _ _ c_spec_CycleIsomorphism.body (post [.t 4,.t 5] _ _ _) _
 simp [c_spec_CycleIsomorphism]
 refine callR (h363 t ht) rfl rfl (fun _=>rfl) ?_
 by_cases hct:cyP t
 · simp [dec_true hct]
   refine callR (h363 u hu) rfl rfl (fun _=>rfl) ?_
   by_cases hcu:cyP u
   · have hans:=cyc_ans hct hcu (h1 hct hcu)
     have l1:(cyF t).length=t.length:=by simp [cyF]
     have l2:(cyF u).length=u.length:=by simp [cyF]
     have hc:=h370 (cyF t) (cyS t) (cyF u) (cyS u) r hct.pm hcu.pm (by rw [l1,l2];exact hans)
     have hrr:∃ o,r=skA o:=by
      rcases hans with ⟨_,h⟩ | ⟨_,p,_,h⟩
      · exact ⟨none,h⟩
      · exact ⟨some (lstN t.length p),h⟩
     obtain ⟨o,rfl⟩:=hrr
     simp [dec_true hcu]
     refine callR (h366 t hct.1 hct.2.1) rfl rfl (fun _=>by simp) ?_
     simp
     refine callR (h366 u hcu.1 hcu.2.1) rfl rfl (fun _=>by simp) ?_
     simp
     refine callR hc rfl rfl (fun _=>by cases o <;> simp [skA]) ?_
     cases o <;> simp [skA,post]
   · have:=h2 fun h=>hcu h.2
     subst this
     simp [dec_false hcu,post]
 · have:=h2 fun h=>hct h.1
   subst this
   simp [dec_false hct,undefV,post]
end Go.Mch
namespace Go.Mch

def S_cySp (pg:Pg):Prop:=∀ (c:Rw Int) (s:Int×Int) (most:Nat),Sr c s→0<most→most≤12→∃ (s':Int×Int) (t:List (List Int)),(Sr c s'∧Bd t)∧Call pg 359 [src c s,I most] [src c s',I most] (ownC t)
set_option maxRecDepth 10000 in
theorem t_cySp {pg:Pg} (hp:pg.fn 359=some c_spec_l05Spoil) (h336:S_nxt pg) (h378:S_cyD pg 378) (h368:S_drw pg) (h413:S_bad pg):S_cySp pg:=by
 intro c s most hs m0 m12
 have hfind:=Call.findA (α:=(Int×Int)×List (List Int)) (Q:=fun Y=>Sr c Y.1∧Bd Y.2) (args:=[src c s,I most]) (args':=fun Y=>[src c Y.1,I most]) (r:=fun Y=>ownC Y.2) hp rfl (by simp [F.lets,c_spec_l05Spoil,List.range,List.range.loop]) (by simp [kindOf]) ?_
 · obtain ⟨Y,h1,h2⟩:=hfind
   exact ⟨_,_,h1,h2⟩
 show wp _ _ c_spec_l05Spoil.body (postX _ _ _ _ _) _
 generalize hR:postX (fun Y:(Int×Int)×List (List Int)=>Sr c Y.1∧Bd Y.2) c_spec_l05Spoil.rs [src c s,I most] (fun Y=>[src c Y.1,I most]) (fun Y=>ownC Y.2)=R
 have hfin:∀ (s':Int×Int) (t:List (List Int)),Sr c s'→Bd t→R .ret (fr [(0,some (.val (src c s'))),(1,some (.val (I most))),(4,some (.val (.mem .own none [ownTb t])))]):=by
  intro s' X a1 a2
  subst hR
  exact ⟨(s',X),⟨a1,a2⟩,by simp [post,c_spec_l05Spoil]⟩
 obtain ⟨s1,n,t,⟨k1,n0,nm,hX⟩,hc1⟩:=h378 c s most hs m0 m12
 obtain ⟨s2,kd,⟨k3,k3'⟩,hc2⟩:=h336.at k1 (n:=20) (by omega)
 have hb1:=hX.1.bd (by omega)
 have hl1:=hX.1.1
 simp [c_spec_l05Spoil]
 refine callS (ts':=[rawB c,I s1.1,H64 s1.2]) (r:=ownC t) (by simpa using hc1) ?_
 simp [hl1]
 refine callS (ts':=[rawB c,I s2.1,H64 s2.2]) (r:=I kd) (by simpa using hc2) ?_
 simp
 rcases (by omega:kd=0∨kd=1∨kd=2∨3≤kd) with rfl | rfl | rfl | hk
 · obtain ⟨s3,a,⟨j1,j2⟩,hc3⟩:=h336.at k3 (n:=n) n0
   obtain ⟨s4,p,⟨j3,j4,_⟩,hc4⟩:=h368 c s3 n j1 (by omega)
   simp [hl1]
   refine callS (ts':=[rawB c,I s3.1,H64 s3.2]) (r:=I a) (by simpa using hc3) ?_
   simp
   refine callS (ts':=[rawB c,I s4.1,H64 s4.2]) (r:=ownL p) (by simpa using hc4) ?_
   simp [hl1,j2]
   have:=hfin s4 (t.set a p) j3 (hb1.set (by rw [j4.1];omega))
   exact ⟨by omega,by simpa only [ownTb,← rows_set1,ownL] using this⟩
 · obtain ⟨s3,t',⟨j1,j2⟩,hc3⟩:=h413 c s2 n k3 n0 (by omega)
   simp
   refine callS (ts':=[rawB c,I s3.1,H64 s3.2]) (r:=ownTb t') (by simpa using hc3) ?_
   simp
   exact hfin s3 t' j1 j2
 · obtain ⟨s3,a,⟨j1,j2⟩,hc3⟩:=h336.at k3 (n:=n) n0
   obtain ⟨s4,b,⟨j3,j4⟩,hc4⟩:=h336.at j1 (n:=n) n0
   obtain ⟨s5,z,⟨j5,j6⟩,hc5⟩:=h336.at j3 (n:=n) n0
   have ha:a<t.length:=by omega
   have hrow:=(hX.1.2 _ (List.getElem_mem ha)).1
   have hg:(rows t)[a]?=some (ownL t[a]):=by rw [rows_get,List.getElem?_eq_getElem ha];rfl
   simp [hl1]
   refine callS (ts':=[rawB c,I s3.1,H64 s3.2]) (r:=I a) (by simpa using hc3) ?_
   simp [hl1,j2,hrow]
   refine callS (ts':=[rawB c,I s4.1,H64 s4.2]) (r:=I b) (by simpa using hc4) ?_
   simp
   refine callS (ts':=[rawB c,I s5.1,H64 s5.2]) (r:=I z) (by simpa using hc5) ?_
   simp [hl1,j2,j4,hrow]
   have:=hfin s5 (t.set a (t[a].set b z)) j5 (hb1.set (by rw [List.length_set,hrow];omega))
   exact ⟨by omega,by simpa only [ownTb,← rows_set1,ownL,List.map_set] using this⟩
 · have h1:¬kd=0:=by omega
   have h2:¬(kd:Int)=1:=by omega
   have h3:¬(kd:Int)=2:=by omega
   simp [h1,h2,h3]
   exact hfin s2 t k3 hb1
def S_drC (pg:Pg):Prop:=∀ c:Rw Int,okB c→∃ t:List (List Int),Bd t∧Call pg 242 [rawB c] [rawB c] (ownC t)
set_option maxRecDepth 10000 in
theorem t_drC {pg:Pg} (hp:pg.fn 242=some c_spec_DrawDualCycleSet) (h269:S_from pg) (h359:S_cySp pg):S_drC pg:=by
 intro c hc
 obtain ⟨s,hs,hc1⟩:=h269 c hc
 obtain ⟨s1,X,⟨k1,k2⟩,hc2⟩:=h359 c s 8 hs (by omega) (by omega)
 refine ⟨X,k2,Call.intro hp rfl (by simp) ?_⟩
 show wp _ _ c_spec_DrawDualCycleSet.body (post [.cell 2 (some 1)] _ _ _) _
 simp [c_spec_DrawDualCycleSet]
 refine callR hc1 rfl rfl (fun h=>by simp at h) ?_
 simp
 refine callM (ts':=[src c s1,I 8]) (r:=ownC X) ?_ ?_ ?_ ?_
 · simp
 · simpa using hc2
 · simp
 simp
theorem Bd.fits {t:List (List Int)} (h:Bd t):fits t:=⟨by have:=h.1;omega,fun r hr=>by have:=h.2 r hr;omega⟩
theorem Tab.imT_bd {t:List (List Int)} {p:List Int} (h:t.length≤20):Bd (imT t p):=⟨by simp [imT];omega,fun r hr=>by rw [imT] at hr;rw [tabL_row hr];exact h⟩
def S_drP (pg:Pg):Prop:=∀ c:Rw Int,okB c→∃ t u:List (List Int),(Bd t∧Bd u)∧Call pg 247 [rawB c] [rawB c] (.tup [ownC t,ownC u])
set_option maxRecDepth 10000 in
theorem t_drP {pg:Pg} (hp:pg.fn 247=some c_spec_DrawCycleIsomorphism) (h269:S_from pg) (h359:S_cySp pg) (h363:S_isCy pg 363) (h336:S_nxt pg) (h368:S_drw pg) (h367:S_image pg 367):S_drP pg:=by
 intro c hc
 obtain ⟨s,hs,hc1⟩:=h269 c hc
 obtain ⟨s1,t,⟨k1,k2⟩,hc2⟩:=h359 c s 6 hs (by omega) (by omega)
 obtain ⟨s2,r,⟨k3,k3'⟩,hc3⟩:=h336.at k1 (n:=4) (by omega)
 have hci:=h363 t k2.fits
 obtain ⟨s3,u1,⟨_,q2⟩,hc4⟩:=h359 c s1 6 k1 (by omega) (by omega)
 obtain ⟨s4,u2,⟨_,q3⟩,hc5⟩:=h359 c s2 6 k3 (by omega) (by omega)
 have htl:=k2.1
 obtain ⟨s5,p,⟨_,j4,j5⟩,hc6⟩:=h368 c s2 t.length k3 (by omega)
 suffices h:∃ X:List (List Int)×List (List Int),(Bd X.1∧Bd X.2)∧Call pg 247 [rawB c] [rawB c] (.tup [ownC X.1,ownC X.2]) by
  obtain ⟨X,h1,h2⟩:=h
  exact ⟨_,_,h1,h2⟩
 refine Call.find hp rfl (by simp) ?_
 show wp _ _ c_spec_DrawCycleIsomorphism.body (fun x e=>∃ X:List (List Int)×List (List Int),(Bd X.1∧Bd X.2)∧post [.cell 2 (some 1),.cell 3 (some 1)] [rawB c] [rawB c] (.tup [ownC X.1,ownC X.2]) x e) _
 generalize hR:(fun x e=>∃ X:List (List Int)×List (List Int),(Bd X.1∧Bd X.2)∧post [.cell 2 (some 1),.cell 3 (some 1)] [rawB c] [rawB c] (.tup [ownC X.1,ownC X.2]) x e)=R
 have hfin:∀ X Y:List (List Int),Bd X→Bd Y→R .ret (fr [(2,some (.val (.mem .own none [ownTb X]))),(3,some (.val (.mem .own none [ownTb Y])))]):=by
  intro X Y h1 h2
  rw [← hR]
  exact ⟨(X,Y),⟨h1,h2⟩,by simp [post]⟩
 simp [c_spec_DrawCycleIsomorphism]
 refine callR hc1 rfl rfl (fun h=>by simp at h) ?_
 simp
 refine callS (ts':=[rawB c,I s1.1,H64 s1.2]) (r:=ownC t) (by simpa using hc2) ?_
 simp
 refine callR hci rfl rfl (fun _=>rfl) ?_
 by_cases hcy:cyP t
 · simp [dec_true hcy]
   refine callS (ts':=[rawB c,I s2.1,H64 s2.2]) (r:=I r) (by simpa using hc3) ?_
   by_cases hr:r=0
   · subst hr
     simp
     refine callS (ts':=[rawB c,I s4.1,H64 s4.2]) (r:=ownC u2) (by simpa using hc5) ?_
     simp
     exact hfin t u2 k2 q3
   · have hpm:=pm_of j4 j5 hcy.1.1 hcy.1.2.1
     have hc7:=h367 t p hcy.1.2.2 hpm j4.1
     simp [hr]
     refine callS (ts':=[rawB c,I s5.1,H64 s5.2]) (r:=ownL p) (by simpa using hc6) ?_
     simp
     refine callR hc7 rfl rfl (fun _=>by simp) ?_
     simp
     exact ⟨rfl,hfin t (imT t p) k2 (Tab.imT_bd htl)⟩
 · simp [dec_false hcy,undefV]
   refine callS (ts':=[rawB c,I s3.1,H64 s3.2]) (r:=ownC u1) (by simpa using hc4) ?_
   simp
   exact hfin t u1 k2 q2
end Go.Mch
namespace Go.Mch

theorem least_of {P:Nat→Prop}:∀ (n:Nat),P n→∃ m,P m∧∀ k,P k→m≤k:=by
 intro n
 induction n using Nat.strongRecOn with
 | _ n ih =>
  intro h
  by_cases h1:∃ k,k<n∧P k
  · obtain ⟨k,hk,hp⟩:=h1
    exact ih k hk hp
  · exact ⟨n,h,fun k hp=>Classical.byContradiction fun hn=>h1 ⟨k,by omega,hp⟩⟩
theorem fst_ex {A C:List (List (List Int))} {n:Nat} (h:∃ q,Iso A C n q):∃ p,Fst A C n (mp0 n) p:=by
 have key:∀ k,∃ p,Iso A C n p∧∀ q,Iso A C n q→(∀ z,z<k→p z=q z)∨∃ z,z<k∧(∀ y,y<z→p y=q y)∧p z<q z:=by
  intro k
  induction k with
  | zero =>
   obtain ⟨q,hq⟩:=h
   exact ⟨q,hq,fun _ _=>.inl fun z hz=>by omega⟩
  | succ k ih =>
   obtain ⟨p,hp,hle⟩:=ih
   obtain ⟨m,⟨r,hr,hrp,hrk⟩,hmin⟩:=least_of (P:=fun v=>∃ r,Iso A C n r∧(∀ z,z<k→r z=p z)∧r k=v) (p k) ⟨p,hp,fun _ _=>rfl,rfl⟩
   refine ⟨r,hr,fun q hq=>?_⟩
   rcases hle q hq with h1 | ⟨z,hz,h1,h2⟩
   · have h3:=hmin (q k) ⟨q,hq,fun z hz=>(h1 z hz).symm,rfl⟩
     by_cases he:r k=q k
     · refine .inl fun z hz=>?_
       by_cases hzk:z=k
       · subst hzk;exact he
       · rw [hrp z (by omega)];exact h1 z (by omega)
     · exact .inr ⟨k,by omega,fun y hy=>by rw [hrp y hy];exact h1 y hy,by omega⟩
   · exact .inr ⟨z,by omega,fun y hy=>by rw [hrp y (by omega)];exact h1 y hy,by rw [hrp z hz];exact h2⟩
 obtain ⟨p,hp,hle⟩:=key n
 exact ⟨p,hp,fun x _ h=>absurd (gi_mp0 n x) h,fun q hq _=>hle q hq⟩
theorem ans_ex (A C:List (List (List Int))) (n n':Nat):(isoAns A C n n' (.tup [nil,I 4]))∨(n'=n∧∃ p,Iso A C n p∧isoAns A C n n' (.tup [ownL (lstN n p),I 0])):=by
 by_cases he:n'=n
 · by_cases h:∃ q,Iso A C n q
   · obtain ⟨p,hp⟩:=fst_ex h
     exact .inr ⟨he,p,hp.iso,.inr ⟨he,p,hp,rfl⟩⟩
   · exact .inl (.inl ⟨.inr fun q hq=>h ⟨q,hq⟩,rfl⟩)
 · exact .inl (.inl ⟨.inl he,rfl⟩)
theorem lstN_pm {A C:List (List (List Int))} {n:Nat} {p:Nat→Nat} (h:Iso A C n p) (h0:1≤n) (h12:n≤12):Pm (lstN n p):=by
 have hl:(lstN n p).length=n:=by simp [lstN]
 refine ⟨⟨fun v hv=>?_,?_⟩,by omega,by omega⟩
 · obtain ⟨x,hx,rfl⟩:=List.mem_map.1 hv
   have:=h.lt x (by simpa using hx)
   rw [hl];omega
 · rw [List.nodup_iff_pairwise_ne,List.pairwise_iff_getElem]
   intro i j hi hj hij he
   rw [hl] at hi hj
   simp [lstN] at he
   have:=h.inj i j hi hj (by omega)
   omega
theorem iso_imT {t u:List (List Int)} {p:Nat→Nat} (ht:isTable t) (hu:isTable u) (hl:u.length=t.length) (h:Iso [t] [u] t.length p):imT t (lstN t.length p)=u:=by
 have hpm:=lstN_pm h ht.1 ht.2.1
 have hpl:(lstN t.length p).length=t.length:=by simp [lstN]
 have e:=tab_eq (t:=u) (n:=t.length) hl fun r hr=>by rw [← hl];exact (hu.2.2 r hr).1
 conv=>rhs;rw [e]
 refine tabL_congr fun x y hx hy=>?_
 have gp:∀ z,z<t.length→(lstN t.length p).getD z 0=(p z:Int):=fun z hz=>by simp [lstN,hz]
 have a1:=hpm.lt (x:=x) (by omega)
 have b1:=hpm.lt (x:=y) (by omega)
 have a2:=hpm.at (x:=x) (by omega)
 have b2:=hpm.at (x:=y) (by omega)
 unfold imG
 rw [gp _ (by omega)] at a2 b2
 obtain ⟨v1,w1⟩:=ht.2.2.vn (by have:=ht.1;omega) (invQ (lstN t.length p) x) (invQ (lstN t.length p) y)
 have key:=h.eq 0 t u rfl rfl (invQ (lstN t.length p) x) (invQ (lstN t.length p) y) (by omega) (by omega)
 rw [show p (invQ (lstN t.length p) x)=x by omega,show p (invQ (lstN t.length p) y)=y by omega] at key
 have hu2:=(hu.2.2.vn (by have:=hu.1;omega) x y).1
 rw [v1,Int.toNat_natCast,gp _ w1,key,hu2]
theorem seq_sub {G:Rl} {k:K} {A X Y:C} {J R:Go.Mch.X→Env→Prop} (hr:∀ e,J .ret e→R .ret e) (he:∀ i e,J (.ext i) e→R (.ext i) e) (hYX:∀ e,wp G k Y J e→wp G k X R e) (e:Env) (h:wp G k (.seq A Y) J e):wp G k (.seq A X) R e:=by
 refine wp_mono (fun _ _ _ _ h=>h) A (fun x e hx=>?_) h
 cases x with
 | nrm=>exact hYX e hx
 | ret=>exact hr e hx
 | ext i=>exact he i e hx
theorem wp_cut4 {G:Rl} {k:K} {A B D F E:C} {R:X→Env→Prop} {e:Env} (P:Env→Prop) (h1:∀ J:X→Env→Prop,(∀ e',P e'→J .nrm e')→(∀ e',R .ret e'→J .ret e')→wp G k (.seq A (.seq B (.seq D F))) J e) (h2:∀ e',P e'→wp G k E R e'):wp G k (.seq A (.seq B (.seq D (.seq F E)))) R e:=by
 have hr:∀ e,cutP P R .ret e→R .ret e:=fun e h=>by unfold cutP at h;rw [if_neg (by simp)] at h;exact h
 have he:∀ i e,cutP P R (.ext i) e→R (.ext i) e:=fun i e h=>by unfold cutP at h;rw [if_neg (by simp)] at h;exact h
 exact seq_sub hr he (seq_sub hr he (seq_sub hr he fun e h=>wp_cut P h h2)) e (h1 _ (fun _=>cutP_nrm) (fun _=>cutP_ret))
def S_law119 (pg:Pg):Prop:=∀ c:Rw Int,okB c→∃ args',Call pg 119 [rawB c] args' (B true)
theorem cyP.smallT {t:List (List Int)} (h:cyP t):smallT t:=⟨by have:=h.small;omega,fun r hr=>by have:=(h.1.2.2 r hr).1;have:=h.small;omega⟩
set_option maxHeartbeats 2000000 in
set_option maxRecDepth 20000 in
theorem t_law119 {pg:Pg} (hp:pg.fn 119=some c_laws_FnDualCycles) (h128:S_big pg) (h242:S_drC pg) (h243:S_dualT pg 243) (h244:S_dualT pg 244) (h137:S_likeT pg) (h245:S_socs pg) (h246:S_mirI pg) (h218:S_likeS pg) (h247:S_drP pg) (h248:S_cyIso pg 248) (h249:S_cyIso pg 249) (h141:S_likeI pg) (h250:S_renT pg) (h251:S_soIso pg 251):S_law119 pg:=by
 intro c hc
 obtain ⟨t,hT,hd⟩:=h242 c hc
 obtain ⟨a,b,⟨hA,hB⟩,hd2⟩:=h247 c hc
 refine ⟨[rawB c],Call.intro hp rfl (by simp) ?_⟩
 show wp _ _ c_laws_FnDualCycles.body (post [.t 2] _ _ _) _
 generalize hR:post [.t 2] [rawB c] [rawB c] (B true)=R
 have hfin:R .ret (fr [(2,some (.val (B true)))]):=by
  rw [← hR];simp [post]
 have hk1:=h243 t hT.fits
 have hk2:=h244 t hT.fits
 show wp _ _ (.seq _ _) _ _
 refine wp_cut' (fun e=>e=fr [(0,some (.val (rawB c)))]) (fun J hJ _=>?_) ?_
 · simp
   exact hJ _ rfl
 rintro e rfl
 refine wp_cut' (fun e=>e=fr [(0,some (.val (rawB c))),(31,some (.val (B false)))]) (fun J hJ hret=>?_) ?_
 · simp
   refine callR (h128 c) rfl rfl (fun _=>rfl) ?_
   by_cases hbig:(4096:Int)<(lst c).length
   · simp [hbig]
     exact hret _ hfin
   · simp [hbig]
     exact hJ _ rfl
 rintro e rfl
 refine wp_cut' (fun e=>e=fr [(0,some (.val (rawB c))),(3,some (.val (.mem .own none [ownTb t])))]) (fun J hJ _=>?_) ?_
 · simp
   refine callR hd rfl rfl (fun _=>by simp) ?_
   simp
   exact hJ _ rfl
 rintro e rfl
 refine wp_cut4 (fun e=>e=fr [(0,some (.val (rawB c))),(104,some (.val (B false)))]∨e=fr [(0,some (.val (rawB c))),(3,some (.val (.mem .own none [ownTb t]))),(4,some (.val (.mem .own none [nil]))),(56,some (.val (B false)))]) (fun J hJ hret=>?_) ?_
 · by_cases h:cyP t
   · have hu:=h.dual
     have hdd:=h.dual_dual
     have hF:=h.dual_F
     have hS:=h.dual_S
     have hlk:=h137.tb (dualT t) (dualT t) hu.smallT
     have hk3:=h243 (dualT t) (cyT_fits hu.1)
     have hk4:=h245 t h
     have hk5:=h245 (dualT t) hu
     have hk6:=h246 (cyF t) (cyS t) h.pm
     have hlk2:=h137.tb t t h.smallT
     have hm1:smallT (turnL (cyS t)):=by rw [← hF];exact ⟨by have:=hu.pm.small;have:=hu.pm.pos;omega,fun r hr=>by have:=(hu.pm.tf r hr).1;have:=hu.pm.small;omega⟩
     have hm2:smallT (turnL (cyF t)):=by rw [← hS];exact ⟨by have:=hu.pm.small;have:=hu.pm.len;omega,fun r hr=>by have:=(hu.pm.ts r hr).1;have:=hu.pm.small;have:=hu.pm.len;omega⟩
     have hlk3:=h218 (turnL (cyS t)) (turnL (cyF t)) (turnL (cyS t)) (turnL (cyF t)) hm1 hm2
     simp only [duaR,dec_true h,dec_true hu,hdd,cond_true,hF,hS] at hk1 hk2 hk3 hk5
     generalize dualT t=u at *
     generalize turnL (cyS t)=X1 at *
     generalize turnL (cyF t)=X2 at *
     generalize cyF t=X3 at *
     generalize cyS t=X4 at *
     simp
     refine callR hk1 rfl rfl (fun _=>by simp) ?_
     simp
     refine callR hk2 rfl rfl (fun _=>by simp) ?_
     simp
     refine callR hlk rfl rfl (fun _=>rfl) ?_
     simp
     refine callR hk3 rfl rfl (fun _=>by simp) ?_
     simp
     refine callR hk4 rfl rfl (fun _=>by simp) ?_
     simp
     refine callR hk5 rfl rfl (fun _=>by simp) ?_
     simp
     refine callR hk6 rfl rfl (fun _=>by simp) ?_
     simp
     refine callR hlk2 rfl rfl (fun _=>rfl) ?_
     simp
     refine callR hlk3 rfl rfl (fun _=>rfl) ?_
     simp
     exact hJ _ (.inl rfl)
   · have hlk:=h137 .no .no ⟨by simp,fun r hr=>by simp at hr⟩
     simp only [duaR,dec_false h,cond_false] at hk1 hk2
     simp
     refine callR hk1 rfl rfl (fun _=>by simp) ?_
     simp
     refine callR hk2 rfl rfl (fun _=>by simp) ?_
     simp
     refine callR hlk rfl rfl (fun _=>rfl) ?_
     simp
     exact hJ _ (.inr rfl)
 clear hk1 hk2 hd hT
 intro e he
 refine wp_cut' (fun e=>e=fr [(16,some (.val (.mem .own none [ownTb a]))),(17,some (.val (.mem .own none [ownTb b])))]) (fun J hJ hret=>?_) ?_
 · rcases he with rfl | rfl
   all_goals
    simp
    refine callR hd2 rfl rfl (fun _=>by simp) ?_
    simp
    exact hJ _ rfl
 rintro e rfl
 clear he
 have hlN:=h141 .no .no (by simp)
 by_cases hcy:cyP a∧cyP b
 · obtain ⟨hca,hcb⟩:=hcy
   have h4a:=h245 a hca
   have h4b:=h245 b hcb
   have l1:(cyF a).length=a.length:=by simp [cyF]
   have l2:(cyF b).length=b.length:=by simp [cyF]
   rcases ans_ex [a] [b] a.length b.length with hans | ⟨hlen,p,hiso,hans⟩
   · have hk1:=h248 a b _ hA.fits hB.fits (fun _ _=>hans) fun hn=>absurd ⟨hca,hcb⟩ hn
     have hk2:=h249 a b _ hA.fits hB.fits (fun _ _=>hans) fun hn=>absurd ⟨hca,hcb⟩ hn
     have hk3:=h251 (cyF a) (cyS a) (cyF b) (cyS b) _ hca.pm hcb.pm (by rw [l1,l2];exact cyc_ans hca hcb hans)
     simp
     refine callR hk1 rfl rfl (fun _=>by simp) ?_
     simp
     refine callR hk2 rfl rfl (fun _=>by simp) ?_
     simp
     refine callR hlN rfl rfl (fun _=>rfl) ?_
     simp
     refine callR h4a rfl rfl (fun _=>by simp) ?_
     simp
     refine callR h4b rfl rfl (fun _=>by simp) ?_
     simp
     refine callR hk3 rfl rfl (fun _=>by simp) ?_
     simp
     exact hfin
   · have hk1:=h248 a b _ hA.fits hB.fits (fun _ _=>hans) fun hn=>absurd ⟨hca,hcb⟩ hn
     have hk2:=h249 a b _ hA.fits hB.fits (fun _ _=>hans) fun hn=>absurd ⟨hca,hcb⟩ hn
     have hk3:=h251 (cyF a) (cyS a) (cyF b) (cyS b) _ hca.pm hcb.pm (by rw [l1,l2];exact cyc_ans hca hcb hans)
     have hpm:=lstN_pm hiso hca.1.1 hca.1.2.1
     have hpl:(lstN a.length p).length=a.length:=by simp [lstN]
     have hlI:=h141.ix (lstN a.length p) (lstN a.length p) (by have:=hca.small;omega)
     have hk4:=h250 a (lstN a.length p) hca.1 hpm hpl
     rw [iso_imT hca.1 hcb.1 hlen hiso] at hk4
     have hlk:=h137.tb b b hcb.smallT
     generalize lstN a.length p=L at *
     simp
     refine callR hk1 rfl rfl (fun _=>by simp) ?_
     simp
     refine callR hk2 rfl rfl (fun _=>by simp) ?_
     simp
     refine callR hlI rfl rfl (fun _=>rfl) ?_
     simp
     refine callR hk4 rfl rfl (fun _=>by simp) ?_
     simp
     refine callR hlk rfl rfl (fun _=>rfl) ?_
     simp
     refine callR h4a rfl rfl (fun _=>by simp) ?_
     simp
     refine callR h4b rfl rfl (fun _=>by simp) ?_
     simp
     refine callR hk3 rfl rfl (fun _=>by simp) ?_
     simp
     exact hfin
 · have hk1:=h248 a b _ hA.fits hB.fits (fun h1 h2=>absurd ⟨h1,h2⟩ hcy) fun _=>rfl
   have hk2:=h249 a b _ hA.fits hB.fits (fun h1 h2=>absurd ⟨h1,h2⟩ hcy) fun _=>rfl
   simp
   refine callR hk1 rfl rfl (fun _=>by simp) ?_
   simp
   refine callR hk2 rfl rfl (fun _=>by simp) ?_
   simp
   refine callR hlN rfl rfl (fun _=>rfl) ?_
   simp
   exact hfin
end Go.Mch
