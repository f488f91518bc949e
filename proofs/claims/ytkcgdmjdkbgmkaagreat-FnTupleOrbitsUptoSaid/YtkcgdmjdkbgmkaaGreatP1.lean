/- Our texts YfA YgA YfC YfD YfE YfB YfF YfG YfH YfI YfJ YfK YfL YfM YfN YfO YfP YfX YfY YfQ YfR YfV YfW YgF YgE YgG YgH YfS YfT YgI YgY YjC YjI YjJ YjK YjL YlA YlJ YgJ YgK YgW YgZ YjA YgP YjM YjN,end to end. -/
import Derived.Test.YtkcgdmjdkbgmkaaGreatYeA
import Derived.Test.YtkcgdmjdkbgmkaaGreatM4
import Derived.ProofKit
import Derived.OpenShut
import Derived.JoinedCond
import Derived.WideKeyArgs
import Derived.Test.YtkcgdmjdkbgmkaaGreatYeB
import Derived.Test.YtkcgdmjdkbgmkaaGreatM1
import Derived.Test.YtkcgdmjdkbgmkaaGreatYeC
import Derived.Test.YtkcgdmjdkbgmkaaGreatYeE
import Derived.Test.YtkcgdmjdkbgmkaaGreatYeG
namespace Go.Mch

abbrev nil:T:=.sc (.slice none 0 0)

inductive Rw (α:Type) where
 | no
 | odd (a:Addr)
 | of (l:List α)

def lst {α:Type}:Rw α→List α
 | .of l=>l
 | _=>[]
def lso {α:Type} (o:Option (List α)):List α:=o.getD []
def Rw.ofO {α:Type}:Option (List α)→Rw α
 | none=>.no
 | some l=>.of l

def rawI:Rw Int→T
 | .no=>nil
 | .odd a=>.sc (.slice (some a) 0 0)
 | .of xs=>.mem .old (some 1) (xs.map I)

@[simp] theorem lst_of {α:Type} (l:List α):lst (.of l)=l:=rfl
@[simp] theorem lst_no {α:Type}:lst (.no:Rw α)=[]:=rfl
@[simp] theorem lst_odd {α:Type} (a:Addr):lst (.odd a:Rw α)=[]:=rfl
@[simp] theorem lso_some {α:Type} (l:List α):lso (some l)=l:=rfl
@[simp] theorem lso_none {α:Type}:lso (none:Option (List α))=[]:=rfl
@[simp] theorem noOwnL_mapI (xs:List Int):T.j0n (xs.map I)=true:=by
 induction xs with
 | nil=>rfl
 | cons x xs ih=>simp [ih]
@[simp] theorem eryL_mapI (k:K) (xs:List Int):T.eryL k (xs.map I)=xs.map I:=by
 induction xs with
 | nil=>rfl
 | cons x xs ih=>simp [ih]
@[simp] theorem noOldL_mapI (xs:List Int):T.noOldL (xs.map I)=true:=by
 induction xs with
 | nil=>rfl
 | cons x xs ih=>simp [ih]
@[simp] theorem lendL_mapI (xs:List Int):T.lendL (xs.map I)=xs.map I:=by
 induction xs with
 | nil=>rfl
 | cons x xs ih=>simp [ih]
@[simp] theorem rawI_noOwn (a:Rw Int):(rawI a).j0w=true:=by cases a <;> simp [rawI]
@[simp] theorem rawI_peek (a:Rw Int) (n:Nat) (p:List Nat):(rawI a).peek n p=.val (rawI a):=by cases a <;> rfl
@[simp] theorem rawI_ery (a:Rw Int):(rawI a).ery .old=rawI a:=by cases a <;> simp [rawI]
@[simp] theorem rawI_len (a:Rw Int):lenV (.val (rawI a))=some (lst a).length:=by cases a <;> simp [rawI]
@[simp] theorem rawI_idx (a:Rw Int) (i:Int):idxV 1 (.val (rawI a)) i=if 0≤i∧i<((lst a).length:Int) then some (.val (.mem .old none (win ((lst a).map I) (i.toNat*1) 1))) else none:=by
 cases a with
 | no =>
  simp only [rawI,idxV,lst_no,List.length_nil,List.map_nil]
  rw [if_neg]
  omega
 | odd ad =>
  simp only [rawI,idxV,lst_odd,List.length_nil,List.map_nil]
  rw [if_neg]
  omega
 | of xs=>simp [rawI]
def rawT:Rw (Rw Int)→T
 | .no=>nil
 | .odd a=>.sc (.slice (some a) 0 0)
 | .of rs=>.mem .old (some 1) (rs.map rawI)
@[simp] theorem noOwnL_mapR (rs:List (Rw Int)):T.j0n (rs.map rawI)=true:=by
 induction rs with
 | nil=>rfl
 | cons x xs ih=>simp [ih]
@[simp] theorem rawT_noOwn (a:Rw (Rw Int)):(rawT a).j0w=true:=by cases a <;> simp [rawT]
@[simp] theorem rawT_peek (a:Rw (Rw Int)) (n:Nat) (p:List Nat):(rawT a).peek n p=.val (rawT a):=by cases a <;> rfl
@[simp] theorem rawT_len (a:Rw (Rw Int)):lenV (.val (rawT a))=some (lst a).length:=by cases a <;> simp [rawT]
@[simp] theorem rawT_idx (a:Rw (Rw Int)) (i:Int):idxV 1 (.val (rawT a)) i=if 0≤i∧i<((lst a).length:Int) then some (.val (.mem .old none (win ((lst a).map rawI) (i.toNat*1) 1))) else none:=by
 cases a with
 | no =>
  simp only [rawT,idxV,lst_no,List.length_nil,List.map_nil]
  rw [if_neg]
  omega
 | odd ad =>
  simp only [rawT,idxV,lst_odd,List.length_nil,List.map_nil]
  rw [if_neg]
  omega
 | of xs=>simp [rawT]
theorem j0e {G:Rl} {d:Option Nat} {k:Env→Prop} {e:Env} {args:List (Opd×Mode)} {id:Nat} {caps ts:List T} {r:T} (hc:G id (ts++T.eryL .old caps) (ts++T.eryL .old caps) r) (hall:args.all (fun x=>x.2 == .r)=true) (hlen:args.length=ts.length)
 (hold:e.lends args=true→r.noOld=true) (hk:k (e.setD d (.val r))):callP G d k e args id caps ts:=by
 refine ⟨ts,r,hc,rfl,fun h=>⟨hold h,hall⟩,?_⟩
 have:∀ (xs:List (Opd×Mode)) (us:List T),xs.all (fun x=>x.2 == .r)=true→xs.length=us.length→e.back xs us=some e:=by
  intro xs
  induction xs with
  | nil=>intro us _ h;cases us with | nil=>rfl | cons=>simp at h
  | cons x xs ih =>
   intro us h h2
   obtain ⟨x,md⟩:=x
   simp only [List.all_cons,Bool.and_eq_true,beq_iff_eq] at h
   obtain ⟨rfl,h⟩:=h
   cases us with
   | nil=>simp at h2
   | cons u us=>simp only [Env.back];exact ih us (by simpa using h) (by simpa using h2)
 rw [this args ts hall hlen]
 exact ⟨e,rfl,hk⟩

theorem take_len {α:Type} (l:List α) {n:Nat} (h:l.length≤n):l.take n=l:=List.take_of_length_le h
theorem callM {G:Rl} {d:Option Nat} {k:Env→Prop} {e:Env} {gs:List Bool} {ks:List Nat} {id:Nat} {caps:List T} {vs:List V} {y:List T×Env} {ts':List T} {r:T} (hh:y.2.holes vs gs=true) (hc:G id (T.lendL y.1++T.eryL .old caps) (ts'++T.eryL .old caps) r)
 (hl:ts'.length=y.1.length) (hk:j0c (y.2.gives vs gs ts') fun e2=>j0c (e.revive y.2 e2 vs gs ks) fun e3=>k (e3.setD d (.val r))):callmP G d k e gs ks id caps vs y:=⟨hh,ts',r,hc,hl,hk⟩


def S_toI (pg:Pg):Prop:=∀ a:Rw Int,(lst a).length≤1048576→Call pg 7 [rawI a] [rawI a] (ints .own (lst a))
def rows (xss:List (List Int)):List T:=xss.map fun xs=>.mem .own (some 1) (xs.map I)
@[simp] theorem rows_length (xss:List (List Int)):(rows xss).length=xss.length:=by simp [rows]

@[simp] theorem noOldL_rows (xss:List (List Int)):T.noOldL (rows xss)=true:=by
 induction xss with
 | nil=>rfl
 | cons x xs ih=>simp only [rows,List.map_cons] at ih ⊢;simp [ih]
@[simp] theorem lendL_rows (xss:List (List Int)):T.lendL (rows xss)=rows xss:=by
 induction xss with
 | nil=>rfl
 | cons x xs ih=>simp only [rows,List.map_cons] at ih ⊢;simp [ih]
abbrev ix (xs:List Int):T:=.mem .old (some 1) (xs.map I)
def tbL (xss:List (List Int)):List T:=xss.map fun xs=>ix xs
abbrev tb (xss:List (List Int)):T:=.mem .old (some 1) (tbL xss)
@[simp] theorem tbL_length (xss:List (List Int)):(tbL xss).length=xss.length:=by simp [tbL]
@[simp] theorem noOwnL_tbL (xss:List (List Int)):T.j0n (tbL xss)=true:=by
 induction xss with
 | nil=>rfl
 | cons x xs ih=>simp only [tbL,List.map_cons] at ih ⊢;simp [ih]
@[simp] theorem eryL_tbL (xss:List (List Int)):T.eryL .old (tbL xss)=tbL xss:=by
 induction xss with
 | nil=>rfl
 | cons x xs ih=>simp only [tbL,List.map_cons] at ih ⊢;simp [ih]
@[simp] theorem eryL_rows (xss:List (List Int)):T.eryL .old (rows xss)=tbL xss:=by
 induction xss with
 | nil=>rfl
 | cons x xs ih=>simp only [rows,tbL,List.map_cons] at ih ⊢;simp [ih]
theorem rawT_tb (xss:List (List Int)):rawT (.of (xss.map .of))=tb xss:=by simp [rawT,tbL,rawI]
theorem rows_get (xss:List (List Int)) (j:Nat):(rows xss)[j]?=(xss[j]?).map fun xs=>.mem .own (some 1) (xs.map I):=by simp [rows]
@[simp] theorem rows_getElem (xss:List (List Int)) (j:Nat) (h:j<(rows xss).length):(rows xss)[j]=.mem .own (some 1) ((xss[j]'(by simpa using h)).map I):=by simp [rows]

def small (a:Rw (Rw Int)):Prop:=(lst a).length≤1048576∧∀ r∈lst a,(lst r).length≤1048576


def sz1 (r:Rw Int) (l:Int):Int:=if l-((lst r).length:Int)<0 then -1 else l-((lst r).length:Int)

def S_eqI (pg:Pg):Prop:=∀ a b:Rw Int,(lst a).length≤1048576→Call pg 9 [rawI a,rawI b] [rawI a,rawI b] (B (decide (lst a=lst b)))
def S_eqT (pg:Pg):Prop:=∀ a b:Rw (Rw Int),small a→Call pg 21 [rawT a,rawT b] [rawT a,rawT b] (B (decide ((lst a).map lst=(lst b).map lst)))
def S_eqRack (pg:Pg):Prop:=∀ a b:Rw (Rw Int),small a→Call pg 10 [.agg [rawT a],.agg [rawT b]] [.agg [rawT a],.agg [rawT b]] (B (decide ((lst a).map lst=(lst b).map lst)))
def S_eqSol (pg:Pg):Prop:=∀ a b c d:Rw (Rw Int),small a→small b→Call pg 18 [.agg [rawT a,rawT b],.agg [rawT c,rawT d]] [.agg [rawT a,rawT b],.agg [rawT c,rawT d]] (B (decide ((lst a).map lst=(lst c).map lst∧(lst b).map lst=(lst d).map lst)))
end Go.Mch
namespace Go.Mch

abbrev okCl:K→Nat→Prop:=fun k _=>k=.old

theorem repL_of {fm:Nat→Nat} {ok:K→Nat→Prop} {w:World} {g:Nat→Value}:∀ (ts:List T) (i:Nat),(∀ j (h:j<ts.length),rep fm ok w (g (i+j)) ts[j])→repL fm ok w g i ts
 | [],_,_=>trivial
 | t :: ts, i, h => ⟨h 0 (by simp), repL_of ts (i + 1) fun j hj => by
     have:=h (j+1) (by simpa using hj)
     simpa [show i+1+j=i+(j+1) from by omega] using this⟩

theorem run_true {P:Program} {fm:Nat→Nat} {f:Nat} {args args':List T} (h:Pact P fm f args args' (B true)) (hno:T.j0n args=true) {w:World} {vs:Array Value} (hs:vs.size=args.length)
 (hrep:∀ s t,args[s]?=some t→rep fm okCl w (vs.getD s undef) t) :
 Calls P (fm f) vs w fun e w'=>e=.returned (.bool true)∧Keeps (fun _=>False) w w':=by
 have hA:∀ b,(fun _=>False:Nat→Prop) b→b<w.heap.size:=fun _ h=>h.elim
 have hc:∀ s t,init args s=some (.val t)→∀ b,cnt w (vs.getD s undef) b t=0:=by
  intro s t ht b
  obtain ⟨u,h1,h2⟩:=init_some ht
  cases h2
  exact cnt_noOwn _ _ _ _ (noOwnL_get hno h1)
 have hR:R (cx0 fm w (fun _=>False) (fun _=>False) hA) (init args) (fun s=>vs.getD s undef) w:=by
  refine ⟨Keeps.refl _ _,⟨fun _=>0,fun s t ht b=>?_⟩,fun s x hx=>?_⟩
  · rw [hc s t ht b];simp
  · obtain ⟨t,h1,rfl⟩:=init_some hx
    refine .inl ⟨t,rfl,rep_ok (fun k b _ _ hk=>?_) t _ (fun b hb _ _=>?_) (hrep s t h1)⟩
    · cases hk
      refine ⟨id,by simp,by simp,fun _=>⟨?_,id⟩⟩
      rintro ⟨s',t',h3,h4⟩
      rw [hc s' t' h3 b] at h4
      omega
    · have h5:=hc s t hx b
      omega
 refine (h.2 w vs _ _ hA hs (fun _ _ hm=>hm) hR).mono fun e w' hb=>?_
 cases e with
 | returned v =>
  obtain ⟨q,e',vl',_,h2,_,h4,_⟩:=hb
  refine ⟨?_,h2.keeps⟩
  have h5:=h2.rep q (.val (B true)) (by simp [Env.add])
  rcases h5 with ⟨t,h6,h7⟩ | h7
  · cases h6
    simp only [rep] at h7
    rw [← h4,h7.1]
  · simp only [arep,rep] at h7
    rw [← h4,h7.2.1]
 | _=>exact hb.elim

theorem Keeps.but {w w':World} (h:Keeps (fun _=>False) w w') (may:MemPlace→Prop):w.keptBut w' may:=by
 refine ⟨h.os,h.output,fun i hi=>?_⟩
 rw [h.block i hi id]
 exact (World.keptBut_refl w may).2.2 i hi

theorem Keeps.at {w w':World} (h:Keeps (fun _=>False) w w') {p:MemPlace} (hp:p.block<w.heap.size):w.sameAt w' p:=by
 cases p with
 | cell b off=>exact World.cell?_of_block (a:=⟨b,off,none⟩) (h.block b hp id)
 | map b=>exact h.block b hp id


section
variable {H:Type} {enc:TypeId×Value→H} {P:Program} {w:World} {base:Nat} {sp:Nat→Bool} {held:Bool} {fm:Nat→Nat}

theorem each {α:Type} {Q:Nat→α→Prop}:∀ (n:Nat),(∀ i,i<n→∃ z,Q i z)→∃ zs:List α,zs.length=n∧∀ i (h:i<zs.length),Q i zs[i]
 | 0,_=>⟨[],rfl,fun i h=>by simp at h⟩
 | n+1,h=>by
  obtain ⟨zs,h1,h2⟩:=each n fun i hi=>h i (by omega)
  obtain ⟨z,hz⟩:=h n (by omega)
  refine ⟨zs++[z],by simp [h1],fun i hi=>?_⟩
  rcases Nat.lt_or_ge i zs.length with hl | hl
  · rw [List.getElem_append_left hl];exact h2 i hl
  · have:i=n:=by simp at hi;omega
    subst this
    rw [List.getElem_append_right hl]
    simp [h1,hz]

theorem open_raw {t e:TypeId} {fuel:Nat} {cs:List Value} {x:DataW H×List MemPlace} (ht:P.underlying t=some (.slice e)) (hc:P.cellsOf e=1)
 (h:DataW.trod enc P w base (fun _=>true) held fuel t cs=some x) :
 (cs=[.slice none 0 0]∧x.1=.nil)∨(∃ a,cs=[.slice (some a) 0 0]∧x.1=.slice [] []) ∨
 ∃ b off len cap ds rest n,cs=[.slice (some ⟨b,off,none⟩) len cap]∧len≤cap∧x.1=.slice ds rest∧ds.length=len ∧
  ∀ i,i<len→∃ c y,w.cell? ⟨b,off+i,none⟩=some c∧DataW.trod enc P w base (fun _=>true) held n e [c]=some y∧ds[i]?=some y.1:=by
 rcases DataW.trod_slice ht h with ⟨h1,rfl⟩ | ⟨a,len,cap,elems,rest,n,_,rfl,rfl,hb,hl,_,hlen,hel,hsp,_⟩
 · exact .inl ⟨h1,rfl⟩
 right
 obtain ⟨hr1,hr2⟩:=hsp rfl
 have cell:∀ a' y,(w.cells? base a' (P.cellsOf e)).bind (DataW.trod enc P w base (fun _=>true) held n e)=some y→∃ c,w.cell? a'=some c∧DataW.trod enc P w base (fun _=>true) held n e [c]=some y:=by
  intro a' y hy
  rw [hc,Option.bind_eq_some_iff] at hy
  obtain ⟨c1,h1,h2⟩:=hy
  have h3:=(World.cells?_some h1).2.1
  match c1,h3 with
  | [c],_=>exact ⟨c,Go.ChangeShapes.cell_of_cells?_one h1,h2⟩
 by_cases hz:cap=0
 · subst hz
   have h0:len=0:=by omega
   subst h0
   have h1:elems=[]:=List.eq_nil_of_length_eq_zero hlen
   have h2:rest=[]:=List.eq_nil_of_length_eq_zero (by simpa using hr1)
   subst h1 h2
   exact .inl ⟨a,rfl,rfl⟩
 right
 have hspot:a.spot=none:=by
  by_cases h0:0<len
  · have h1:0<elems.length:=by omega
    have:=hel 0 h0
    rw [List.getElem?_eq_getElem h1] at this
    obtain ⟨c,hc1,_⟩:=cell _ _ this
    simp only [Nat.zero_mul] at hc1
    have:=World.cell?_spot hc1
    simpa [Addr.add] using this
  · have h1:0<rest.length:=by omega
    have:=hr2 0 (by omega)
    rw [List.getElem?_eq_getElem h1] at this
    obtain ⟨c,hc1,_⟩:=cell _ _ this
    have h2:=World.cell?_spot hc1
    simpa [Addr.add,show len=0 from by omega] using h2
 obtain ⟨b,off,spot⟩:=a
 simp only at hspot
 subst hspot
 refine ⟨b,off,len,cap,elems.map (·.1),rest.map (·.1),n,rfl,hl,rfl,by simpa using hlen,fun i hi=>?_⟩
 have h1:i<elems.length:=by omega
 have h2:=hel i hi
 rw [List.getElem?_eq_getElem h1] at h2
 obtain ⟨c,h3,h4⟩:=cell _ _ h2
 refine ⟨c,elems[i],?_,h4,by simp [h1]⟩
 rw [hc,Nat.mul_one] at h3
 rw [← Go.WideShapes.add_plain];exact h3

theorem rep_slice {b off len cap:Nat} {us:List T} (hlen:us.length=len) (hl:len≤cap) (hno:T.j0n us=true) (h:∀ i (hi:i<us.length),∃ c,w.cell? ⟨b,off+i,none⟩=some c∧rep fm okCl w c us[i]) :
 rep fm okCl w (.slice (some ⟨b,off,none⟩) len cap) (.mem .old (some 1) us):=by
 rw [j04]
 refine ⟨⟨⟨len,rfl,by simp [hlen],by simp,hl⟩,fun i hi=>?_⟩,fun _=>rfl,by simp,fun _=>hno,?_⟩
 · obtain ⟨c,hc,_⟩:=h i hi
   simp only [blk,ofs]
   rw [hc];rfl
 · refine repL_of us 0 fun j hj=>?_
   obtain ⟨c,hc,hr⟩:=h j hj
   simp only [kid,Nat.zero_add]
   rw [hc]
   exact hr

structure Bulk (m:DataW H→Nat):Prop where
 slice:∀ es rest,es.length≤m (.slice es rest)
 elem:∀ es rest d,d∈es→m d≤m (.slice es rest)
 part:∀ ps d,d∈ps→m d≤m (.agg ps)


theorem all_stays {W W':World} {sp':Nat→Bool} (hl:laidOutB P=true):∀ {ts:List TypeId} {vs:List Value} {ds:List (DataW H)} {ps:List MemPlace},(∀ t∈ts,P.readableRec t=true∧t<P.types.size) →
 DataW.TrodAll enc P W 0 (fun _=>true) true ts vs ds ps→(∀ p∈ps,W.sameAt W' p)→(∀ p∈ps,sp' p.block=true)→DataW.TrodAll enc P W' 0 sp' true ts vs ds ps
 | [],vs,ds,ps,_,h,_,_=>by
  obtain ⟨rfl,rfl,rfl⟩:=Go.ChangeShapes.trodAll_nil h
  rfl
 | t::ts,vs,ds,ps,ht,h,h1,h2=>by
  obtain ⟨v,vs',d,ds',p,q,rfl,rfl,rfl,h3,h4⟩:=Go.ChangeShapes.trodAll_cons h
  exact ⟨p,q,Go.WideElems.Trod_stays hl (ht t (by simp)).1 (ht t (by simp)).2 h3 (fun x hx=>h1 x (by simp [hx])) (fun x hx=>h2 x (by simp [hx])),
   all_stays hl (fun t' h'=>ht t' (by simp [h'])) h4 (fun x hx=>h1 x (by simp [hx])) (fun x hx=>h2 x (by simp [hx])),rfl⟩

theorem post_true {f:Func} {s:ChangeSpec} {W W':World} {args:Array Value} {ds gs:List (DataW H)} {before:List MemPlace} {rt:TypeId} (hW:DataW.Whole enc P f.params.toList s.vars false W args.toList ds gs before) (hK:Keeps (fun _=>False) W W')
 (hv:s.vars=[]) (hres:f.resultTypes=#[rt]) (hrt:P.underlying rt=some .bool) (hl:laidOutB P=true) (hr:∀ t∈f.params.toList,P.readableRec t=true∧t<P.types.size)
 (hfn:s.fn H ds={ results:=[.lit (.bool true)],args:=ds }):s.post enc P f false true false false W args (.bool true) W':=by
 have hlt:=hW.lt
 have hW':=hW
 obtain ⟨p,q,hA,hV,rfl,_,_⟩:=hW
 rw [hv] at hV
 have hg:gs=[]∧q=[]:=by
  cases gs with
  | nil=>exact ⟨rfl,by simpa [DataW.TrodVars] using hV⟩
  | cons d ds=>simp [DataW.TrodVars] at hV
 obtain ⟨rfl,rfl⟩:=hg
 simp only [List.append_nil] at hlt
 refine ⟨ds,[],p++[],[],p,[],hW',?_,?_,?_,hK.but _,by simp⟩
 · rw [List.append_nil,hfn,hres]
   refine ⟨[],[],⟨1,?_⟩,rfl,rfl⟩
   simp [DataW.trod,hrt,Value.cells]
 · rw [List.append_nil,hfn]
   exact all_stays hl hr hA (fun x hx=>hK.at (hlt x hx)) (fun x hx=>by simpa using hlt x hx)
 · rw [List.append_nil,hfn,hv]
   rfl
end
end Go.Mch
namespace Go.Mch

def S_in (pg:Pg) (f:Nat):Prop:=∀ n lo hi:Int,Call pg f [I n,I lo,I hi] [I n,I lo,I hi] (B (decide (lo≤n∧n≤hi)))
theorem t_l01In {pg:Pg} (hp:pg.fn 30=some c_spec_l01In):S_in pg 30:=by
 intro n lo hi
 refine Call.intro hp rfl (by simp) ?_
 show wp _ _ c_spec_l01In.body (post [.t 6] _ _ _) _
 by_cases h1:lo≤n
 · by_cases h2:n≤hi <;> simp [c_spec_l01In,h1,h2]
 · simp [c_spec_l01In,h1,j01]
theorem t_within {pg:Pg} (hp:pg.fn 35=some c_impl_within):S_in pg 35:=by
 intro n lo hi
 refine Call.intro hp rfl (by simp) ?_
 show wp _ _ c_impl_within.body (post [.t 6] _ _ _) _
 by_cases h1:lo≤n
 · by_cases h2:n≤hi <;> simp [c_impl_within,h1,h2]
 · simp [c_impl_within,h1,j01]

def S_own (pg:Pg):Prop:=∀ xs:List Int,xs.length≤1048576→Call pg 31 [ix xs] [ix xs] (.mem .own (some 1) (xs.map I))
theorem t_own {pg:Pg} (hp:pg.fn 31=some c_spec_l01Own):S_own pg:=by
 intro xs hl
 refine Call.intro hp rfl (by simp) ?_
 show wp _ _ c_spec_l01Own.body (post [.t 2] _ _ _) _
 simp [c_spec_l01Own,roomy]
 omega

def ixOf:List Int→Int→Int
 | [],_=>-1
 | x::xs,n=>if x=n then 0 else if ixOf xs n<0 then -1 else ixOf xs n+1
theorem ixOf_le:∀ (xs:List Int) (n:Int),-1≤ixOf xs n∧ixOf xs n<xs.length
 | [],n=>by simp [ixOf]
 | x::xs,n=>by
  have:=ixOf_le xs n
  unfold ixOf
  simp only [List.length_cons]
  split
  · omega
  · split <;> omega
theorem ixOf_mem:∀ (xs:List Int) (n:Int),0≤ixOf xs n↔n∈xs
 | [],n=>by simp [ixOf]
 | x::xs,n=>by
  have:=ixOf_mem xs n
  have h2:=ixOf_le xs n
  unfold ixOf
  by_cases h:x=n
  · subst h;simp
  · rw [if_neg h]
    split
    · rename_i h3
      simp only [List.mem_cons]
      constructor
      · intro h4;omega
      · intro h4
        rcases h4 with h4 | h4
        · exact (h h4.symm).elim
        · have:=this.2 h4;omega
    · rename_i h3
      simp only [List.mem_cons]
      exact ⟨fun _=>.inr (this.1 (by omega)),fun _=>by omega⟩
theorem ixOf_at:∀ {xs:List Int} {n:Int} {k:Nat} (hk:k<xs.length),(∀ i (h:i<k),xs[i]≠n)→xs[k]=n→ixOf xs n=k
 | x::xs,n,0,_,_,h=>by simp at h;simp [ixOf,h]
 | x::xs,n,k+1,hk,h1,h2=>by
  have h0:=h1 0 (by omega)
  simp only [List.getElem_cons_zero] at h0
  have:=ixOf_at (xs:=xs) (n:=n) (k:=k) (by simpa using hk) (fun i hi=>by
   have:=h1 (i+1) (by omega)
   simpa using this) (by simpa using h2)
  unfold ixOf
  rw [if_neg h0,this,if_neg (by omega)]
  omega
theorem ixOf_none {xs:List Int} {n:Int} (h:∀ i (h:i<xs.length),xs[i]≠n):ixOf xs n=-1:=by
 have h1:=ixOf_le xs n
 have h2:¬0≤ixOf xs n:=fun hh=>by
  obtain ⟨i,hi,he⟩:=List.getElem_of_mem ((ixOf_mem xs n).1 hh)
  exact h i hi he
 omega

def S_index (pg:Pg):Prop:=∀ (xs:List Int) (n:Int),xs.length≤1048576→Call pg 69 [ix xs,I n] [ix xs,I n] (I (ixOf xs n))
theorem t_index {pg:Pg} (hp:pg.fn 69=some c_spec_l01Index):S_index pg:=by
 intro xs n hl
 refine Call.intro hp rfl (by simp) ?_
 show wp _ _ c_spec_l01Index.body (post [.t 4] _ _ _) _
 simp [c_spec_l01Index]
 refine j0a (fun k e=>(∀ i (h:i<xs.length),i<k→xs[i]≠n)∧e=fr [(0,some (.val (ix xs))),(1,some (.val (I n))),(5,some (.val (I k)))]) xs.length ?_ ?_ 0 _ (by omega) ?_
 · rintro k e hk ⟨h1,rfl⟩
   by_cases hx:xs[k]=n
   · simp [hk,hx]
     exact (ixOf_at hk (fun i hi=>h1 i (by omega) hi) hx).symm
   · simp [hk,hx]
     refine ⟨by omega,fun i hi hik=>?_⟩
     rcases Nat.lt_or_ge i k with h2 | h2
     · exact h1 i hi h2
     · have:i=k:=by omega
       subst this;exact hx
 · rintro e ⟨h1,rfl⟩
   simp
   exact (ixOf_none fun i hi=>h1 i hi hi).symm
 · simp

def S_has (pg:Pg):Prop:=∀ (xs:List Int) (n:Int),xs.length≤1048576→Call pg 62 [ix xs,I n] [ix xs,I n] (B (decide (n∈xs)))
theorem t_has {pg:Pg} (hp:pg.fn 62=some c_spec_l01Has) (h69:S_index pg):S_has pg:=by
 intro xs n hl
 refine Call.intro hp rfl (by simp) ?_
 show wp _ _ c_spec_l01Has.body (post [.t 4] _ _ _) _
 simp [c_spec_l01Has]
 refine j0e (h69 xs n hl) rfl rfl (fun _=>rfl) ?_
 simp [ixOf_mem]


def Tab (t:List (List Int)):Prop:=∀ r∈t,r.length=t.length∧∀ v∈r,0≤v∧v<t.length

def isTable (t:List (List Int)):Prop:=1≤t.length∧t.length≤12∧Tab t

instance (t:List (List Int)):Decidable (Tab t):=by unfold Tab;infer_instance
instance (t:List (List Int)):Decidable (isTable t):=by unfold isTable;infer_instance

def S_table (pg:Pg) (f:Nat):Prop:=∀ t:List (List Int),t.length≤1048576→(∀ r∈t,r.length≤1048576)→Call pg f [tb t] [tb t] (B (decide (isTable t)))

@[simp] theorem tbL_getElem {t:List (List Int)} {k:Nat} (h:k<(tbL t).length):(tbL t)[k]=ix (t[k]'(by simpa using h)):=by simp [tbL]

theorem t_l01Table {pg:Pg} (hp:pg.fn 46=some c_spec_l01Table) (h30:S_in pg 30):S_table pg 46:=by
 intro t hl hr
 refine Call.intro hp rfl (by simp) ?_
 show wp _ _ c_spec_l01Table.body (post [.t 2] _ _ _) _
 simp [c_spec_l01Table]
 refine j0e (h30 _ 1 12) rfl rfl (fun _=>rfl) ?_
 by_cases hn:1≤t.length∧t.length≤12
 · have hn':(1:Int)≤t.length∧(t.length:Int)≤12:=by omega
   simp [hn']
   refine j0a (fun k e=>(∀ i (h:i<t.length),i<k→t[i].length=t.length∧∀ v∈t[i],0≤v∧v<t.length)∧e=fr [(0,some (.val (tb t))),(3,some (.val (I t.length))),(4,some (.val (I k)))]) t.length ?_ ?_ 0 _ (by omega) ?_
   · rintro k e hk ⟨h1,rfl⟩
     by_cases hlen:t[k].length=t.length
     · simp [hk,hlen]
       refine j0a (fun j e=>(∀ i (h:i<t[k].length),i<j→0≤t[k][i]∧t[k][i]<t.length)∧e=fr [(0,some (.val (tb t))),(3,some (.val (I t.length))),(4,some (.val (I k))),(5,some (.val (I j)))]) t.length ?_ ?_ 0 _ (by omega) ?_
       · rintro j e hj ⟨h2,rfl⟩
         have hj2:j<t[k].length:=by omega
         simp [hk,hj,hj2]
         refine ⟨by omega,?_⟩
         refine j0e (h30 _ 0 _) rfl rfl (fun _=>rfl) ?_
         by_cases hv:0≤t[k][j]∧t[k][j]≤(t.length:Int)-1
         · simp [hv]
           refine ⟨by omega,fun i hi hij=>?_⟩
           rcases Nat.lt_or_ge i j with h3 | h3
           · exact h2 i hi h3
           · have:i=j:=by omega
             subst this;omega
         · have hvd:¬isTable t:=fun ht=>hv (by
            have:=(ht.2.2 t[k] (List.getElem_mem hk)).2 t[k][j] (List.getElem_mem hj2)
            omega)
           simp [hv,hvd]
       · rintro e ⟨h2,rfl⟩
         simp
         refine ⟨by omega,fun i hi hik=>?_⟩
         rcases Nat.lt_or_ge i k with h3 | h3
         · exact h1 i hi h3
         · have:i=k:=by omega
           subst this
           refine ⟨hlen,fun v hv=>?_⟩
           obtain ⟨j,hj,rfl⟩:=List.getElem_of_mem hv
           exact h2 j hj (by omega)
       · simp
     · have hvd:¬isTable t:=fun ht=>hlen (ht.2.2 t[k] (List.getElem_mem hk)).1
       have hne:((t[k].length:Nat):Int)≠t.length:=by omega
       simp [hk,hne,hvd]
   · rintro e ⟨h1,rfl⟩
     have:isTable t:=⟨hn.1,hn.2,fun r hr=>by
      obtain ⟨i,hi,rfl⟩:=List.getElem_of_mem hr
      exact h1 i hi hi⟩
     simp [this]
   · simp
 · have hvd:¬isTable t:=fun ht=>hn ⟨ht.1,ht.2.1⟩
   have hn':¬((1:Int)≤t.length∧(t.length:Int)≤12):=by omega
   simp [hn',hvd]

end Go.Mch
namespace Go.Mch

def isPerm (p:List Int):Prop:=1≤p.length∧p.length≤12∧∀ x:Nat,x<p.length→(x:Int)∈p
instance (p:List Int):Decidable (isPerm p):=by unfold isPerm;infer_instance

def S_perm (pg:Pg) (f:Nat):Prop:=∀ p:List Int,p.length≤1048576→Call pg f [ix p] [ix p] (B (decide (isPerm p)))

theorem t_l01Perm {pg:Pg} (hp:pg.fn 47=some c_spec_l01Perm) (h30:S_in pg 30) (h62:S_has pg):S_perm pg 47:=by
 intro p hl
 refine Call.intro hp rfl (by simp) ?_
 show wp _ _ c_spec_l01Perm.body (post [.t 2] _ _ _) _
 simp [c_spec_l01Perm]
 refine j0e (h30 _ 1 12) rfl rfl (fun _=>rfl) ?_
 by_cases hn:1≤p.length∧p.length≤12
 · have hn':(1:Int)≤p.length∧(p.length:Int)≤12:=by omega
   simp [hn']
   refine j0a (fun k e=>(∀ x:Nat,x<k→(x:Int)∈p)∧e=fr [(0,some (.val (ix p))),(3,some (.val (I p.length))),(4,some (.val (I k)))]) p.length ?_ ?_ 0 _ (by omega) ?_
   · rintro k e hk ⟨h1,rfl⟩
     simp [hk]
     refine j0e (h62 p k hl) rfl rfl (fun _=>rfl) ?_
     by_cases hm:(k:Int)∈p
     · simp [hm]
       refine ⟨by omega,fun x hx=>?_⟩
       rcases Nat.lt_or_ge x k with h2 | h2
       · exact h1 x h2
       · have:x=k:=by omega
         subst this;exact hm
     · have hvd:¬isPerm p:=fun h=>hm (h.2.2 k hk)
       simp [hm,hvd]
   · rintro e ⟨h1,rfl⟩
     have:isPerm p:=⟨hn.1,hn.2,h1⟩
     simp [this]
   · simp
 · have hvd:¬isPerm p:=fun h=>hn ⟨h.1,h.2.1⟩
   have hn':¬((1:Int)≤p.length∧(p.length:Int)≤12):=by omega
   simp [hn',hvd]

def inR (lo hi:Int) (xs:List Int):Prop:=∀ x∈xs,lo≤x∧x≤hi
instance (lo hi:Int) (xs:List Int):Decidable (inR lo hi xs):=by unfold inR;infer_instance

def S_allWithin (pg:Pg):Prop:=∀ (xs:List Int) (lo hi:Int),xs.length≤1048576→Call pg 54 [ix xs,I lo,I hi] [ix xs,I lo,I hi] (B (decide (inR lo hi xs)))
theorem t_allWithin {pg:Pg} (hp:pg.fn 54=some c_impl_allWithin) (h35:S_in pg 35):S_allWithin pg:=by
 intro xs lo hi hl
 refine Call.intro hp rfl (by simp) ?_
 show wp _ _ c_impl_allWithin.body (post [.t 6] _ _ _) _
 simp [c_impl_allWithin]
 refine j0a (fun k e=>(∀ i (h:i<xs.length),i<k→lo≤xs[i]∧xs[i]≤hi)∧e=fr [(1,some (.val (I lo))),(2,some (.val (I hi))),(9,some (.val (ix xs))),(10,some (.val (I xs.length))),(11,some (.val (I k)))]) xs.length ?_ ?_ 0 _ (by omega) ?_
 · rintro k e hk ⟨h1,rfl⟩
   simp [hk]
   refine j0e (h35 _ _ _) rfl rfl (fun _=>rfl) ?_
   by_cases hm:lo≤xs[k]∧xs[k]≤hi
   · simp [hm]
     refine ⟨by omega,fun i hi hik=>?_⟩
     rcases Nat.lt_or_ge i k with h2 | h2
     · exact h1 i hi h2
     · have:i=k:=by omega
       subst this;exact hm
   · have hvd:¬inR lo hi xs:=fun h=>hm (h _ (List.getElem_mem hk))
     simp [hm,hvd]
 · rintro e ⟨h1,rfl⟩
   have:inR lo hi xs:=fun x hx=>by
    obtain ⟨i,hi,rfl⟩:=List.getElem_of_mem hx
    exact h1 i hi hi
   simp [this]
 · simp

def S_areElements (pg:Pg):Prop:=∀ (n:Int) (xs:List Int),xs.length≤1048576→0≤n→n≤1048576→Call pg 39 [I n,ix xs] [I n,ix xs] (B (decide (inR 0 (n-1) xs)))
theorem t_areElements {pg:Pg} (hp:pg.fn 39=some c_impl_areElements) (h54:S_allWithin pg):S_areElements pg:=by
 intro n xs hl h1 h2
 refine Call.intro hp rfl (by simp) ?_
 show wp _ _ c_impl_areElements.body (post [.t 4] _ _ _) _
 simp [c_impl_areElements]
 refine ⟨by omega,?_⟩
 refine j0e (h54 _ _ _ hl) rfl rfl (fun _=>rfl) ?_
 simp

def j05 (p:List Int):Prop:=(∀ x∈p,0≤x∧x<p.length)∧p.Nodup
instance (p:List Int):Decidable (j05 p):=by unfold j05;infer_instance

def seenL (p:List Int) (k:Nat):List T:=(List.range p.length).map fun i:Nat=>B (decide ((i:Int)∈p.take k))
@[simp] theorem seenL_length (p:List Int) (k:Nat):(seenL p k).length=p.length:=by simp [seenL]
theorem seenL_get {p:List Int} {k i:Nat} (h:i<p.length):(seenL p k)[i]'(by simpa using h)=B (decide ((i:Int)∈p.take k)):=by simp [seenL]
theorem seenL_zero (p:List Int):seenL p 0=List.replicate p.length (B false):=by
 apply List.ext_getElem
 · simp
 · intro i h1 h2;simp [seenL]
theorem seenL_set {p:List Int} {k i:Nat} (hk:k<p.length) (hi:p[k]=i):(seenL p k).set i (B true)=seenL p (k+1):=by
 apply List.ext_getElem
 · simp
 · intro j h1 h2
   simp only [List.getElem_set,seenL,List.getElem_map,List.getElem_range,List.take_succ_eq_append_getElem hk,List.mem_append,List.mem_singleton]
   by_cases h:i=j
   · subst h;simp [hi]
   · rw [if_neg h]
     have:¬((j:Int)=p[k]):=by omega
     simp [this]

theorem nodup_take {p:List Int} {k:Nat} (hk:k<p.length) (h:(p.take k).Nodup) (hm:p[k] ∉ p.take k):(p.take (k+1)).Nodup:=by
 rw [List.take_succ_eq_append_getElem hk,List.nodup_append]
 refine ⟨h,by simp,fun a ha b hb=>?_⟩
 simp at hb
 subst hb
 intro e;subst e;exact hm ha

def S_isPermuted (pg:Pg):Prop:=∀ p:List Int,p.length≤1048576→Call pg 66 [ix p] [ix p] (B (decide (j05 p)))
theorem t_isPermuted {pg:Pg} (hp:pg.fn 66=some c_impl_isPermuted) (h35:S_in pg 35):S_isPermuted pg:=by
 intro p hl
 refine Call.intro hp rfl (by simp) ?_
 show wp _ _ c_impl_isPermuted.body (post [.t 2] _ _ _) _
 simp [c_impl_isPermuted]
 refine ⟨by unfold roomy;omega,?_⟩
 refine j0a (fun k e=>(∀ i (h:i<p.length),i<k→0≤p[i]∧p[i]<p.length)∧(p.take k).Nodup∧e=fr [(0,some (.val (ix p))),(3,some (.val (.mem .own (some 1) (seenL p k)))),(9,some (.val (ix p))),(10,some (.val (I p.length))),(11,some (.val (I k)))]) p.length ?_ ?_ 0 _ (by omega) ?_
 · rintro k e hk ⟨h1,h2,rfl⟩
   simp [hk]
   refine ⟨by omega,?_⟩
   refine j0e (h35 _ _ _) rfl rfl (fun _=>rfl) ?_
   by_cases hv:0≤p[k]∧p[k]≤(p.length:Int)-1
   · obtain ⟨i,hi⟩:∃ i:Nat,p[k]=i:=⟨p[k].toNat,by omega⟩
     have hil:i<p.length:=by omega
     have hv':0≤p[k]∧p[k]≤(p.length:Int)-1:=hv
     rw [hi] at hv'
     by_cases hm:(i:Int)∈p.take k
     · have hvd:¬j05 p:=fun h=>by
        have h3:(p.take (k+1)).Nodup:=h.2.sublist (List.take_sublist _ _)
        rw [List.take_succ_eq_append_getElem hk,List.nodup_append] at h3
        exact h3.2.2 _ hm _ (by simp) hi.symm
       simp [hi,hv',hil,seenL_get,hm,hvd]
     · simp [hi,hv',hil,seenL_get,hm]
       refine ⟨by omega,by omega,fun j hj hjk=>?_,nodup_take hk h2 (by rw [hi];exact hm),?_⟩
       · rcases Nat.lt_or_ge j k with h3 | h3
         · exact h1 j hj h3
         · have:j=k:=by omega
           subst this;omega
       · rw [seenL_set hk hi]
   · have hvd:¬j05 p:=fun h=>hv (by have:=h.1 _ (List.getElem_mem hk);omega)
     simp [hv,hvd,j01]
 · rintro e ⟨h1,h2,rfl⟩
   have:j05 p:=⟨fun x hx=>by
    obtain ⟨i,hi,rfl⟩:=List.getElem_of_mem hx
    exact h1 i hi hi,by rwa [List.take_length] at h2⟩
   simp [this]
 · simp [seenL_zero]


def S_indexFunc (pg:Pg):Prop:=∀ (t:List (List Int)) (P:List Int→Bool) (f:Nat) (caps:List T),t.length≤1048576→T.eryL .old caps=caps→T.j0n caps=true→(∀ r∈t,Call pg f (ix r::caps) (ix r::caps) (B (P r))) →
 ∃ r:Int,(0≤r↔t.any P=true)∧Call pg 70 [tb t,.fn f caps] [tb t,.fn f caps] (I r)
theorem t_indexFunc {pg:Pg} (hp:pg.fn 70=some j0u):S_indexFunc pg:=by
 intro t P f caps hl hc hno hf
 by_cases hex:∃ (k:Nat) (hk:k<t.length),(∀ i (h:i<k),P t[i]=false)∧P t[k]=true
 · obtain ⟨m,hm,hm1,hm2⟩:=hex
   refine ⟨m,⟨fun _=>List.any_eq_true.2 ⟨_,List.getElem_mem hm,hm2⟩,fun _=>by omega⟩,Call.intro hp rfl (by simp [hno]) ?_⟩
   show wp _ _ j0u.body (post [.t 4] _ _ _) _
   simp [j0u]
   refine j0a (fun k e=>k≤m∧e=fr [(0,some (.val (tb t))),(1,some (.val (.fn f caps))),(7,some (.val (I t.length))),(8,some (.val (I k)))]) t.length ?_ ?_ 0 _ (by omega) ?_
   · rintro k e hk ⟨h1,rfl⟩
     simp [hk]
     refine j0e (by simpa [hc] using hf t[k] (List.getElem_mem hk)) rfl rfl (fun _=>rfl) ?_
     rcases Nat.lt_or_ge k m with h2 | h2
     · simp [hm1 k h2]
       omega
     · have:k=m:=by omega
       subst this
       simp [hm2,hno]
   · rintro e ⟨h1,rfl⟩
     omega
   · simp
 · have hall:∀ i (h:i<t.length),P t[i]=false:=by
    intro i
    induction i using Nat.strongRecOn with
    | _ i ih =>
     intro hi
     cases hv:P t[i] with
     | false=>rfl
     | true=>exact (hex ⟨i,hi,fun j hj=>ih j hj (by omega),hv⟩).elim
   refine ⟨-1,⟨fun h=>by omega,fun h=>by
    obtain ⟨r,hr,h2⟩:=List.any_eq_true.1 h
    obtain ⟨i,hi,rfl⟩:=List.getElem_of_mem hr
    rw [hall i hi] at h2;cases h2⟩,Call.intro hp rfl (by simp [hno]) ?_⟩
   show wp _ _ j0u.body (post [.t 4] _ _ _) _
   simp [j0u]
   refine j0a (fun k e=>e=fr [(0,some (.val (tb t))),(1,some (.val (.fn f caps))),(7,some (.val (I t.length))),(8,some (.val (I k)))]) t.length ?_ ?_ 0 _ (by omega) ?_
   · rintro k e hk rfl
     simp [hk]
     refine j0e (by simpa [hc] using hf t[k] (List.getElem_mem hk)) rfl rfl (fun _=>rfl) ?_
     simp [hall k hk]
     omega
   · rintro e rfl
     simp [hno]
   · simp

def S_containsFunc (pg:Pg):Prop:=∀ (t:List (List Int)) (P:List Int→Bool) (f:Nat) (caps:List T),t.length≤1048576→T.eryL .old caps=caps→T.j0n caps=true→(∀ r∈t,Call pg f (ix r::caps) (ix r::caps) (B (P r))) →
 Call pg 63 [tb t,.fn f caps] [tb t,.fn f caps] (B (t.any P))
theorem t_containsFunc {pg:Pg} (hp:pg.fn 63=some j03) (h70:S_indexFunc pg):S_containsFunc pg:=by
 intro t P f caps hl hc hno hf
 obtain ⟨r,h1,h2⟩:=h70 t P f caps hl hc hno hf
 refine Call.intro hp rfl (by simp [hno]) ?_
 show wp _ _ j03.body (post [.t 4] _ _ _) _
 simp [j03,hno,hc]
 refine j0e h2 rfl rfl (fun _=>rfl) ?_
 cases h:t.any P with
 | true=>simp [h1.2 h,hno]
 | false =>
  have:¬0≤r:=fun hh=>by rw [h1.1 hh] at h;cases h
  simp [this,hno]

end Go.Mch
namespace Go.Mch

def S_isTable1 (pg:Pg):Prop:=∀ (r:List Int) (n:Int),r.length≤1048576→0≤n→n≤1048576→Call pg 64 [ix r,.mem .old none [I n]] [ix r,.mem .old none [I n]] (B (decide ((r.length:Int)≠n∨¬inR 0 (n-1) r)))
theorem t_isTable1 {pg:Pg} (hp:pg.fn 64=some c_impl_IsTable_1) (h54:S_allWithin pg):S_isTable1 pg:=by
 intro r n hl h1 h2
 refine Call.intro hp rfl (by simp) ?_
 show wp _ _ c_impl_IsTable_1.body (post [.t 3] _ _ _) _
 by_cases hn:(r.length:Int)=n
 · simp [c_impl_IsTable_1,hn]
   refine ⟨by omega,?_⟩
   refine j0e (h54 _ _ _ hl) rfl rfl (fun _=>rfl) ?_
   by_cases hr:inR 0 (n-1) r <;> simp [hr]
 · simp [c_impl_IsTable_1,hn,j01]

theorem t_isTable {pg:Pg} (hp:pg.fn 50=some c_impl_IsTable) (h35:S_in pg 35) (h64:S_isTable1 pg) (h63:S_containsFunc pg):S_table pg 50:=by
 intro t hl hr
 refine Call.intro hp rfl (by simp) ?_
 show wp _ _ c_impl_IsTable.body (post [.t 2] _ _ _) _
 simp [c_impl_IsTable]
 refine j0e (h35 _ 1 12) rfl rfl (fun _=>rfl) ?_
 by_cases hn:1≤t.length∧t.length≤12
 · have hn':(1:Int)≤t.length∧(t.length:Int)≤12:=by omega
   simp [hn']
   refine j0e (h63 t (fun r=>decide ((r.length:Int)≠t.length∨¬inR 0 ((t.length:Int)-1) r)) 64 [.mem .old none [I t.length]] hl rfl rfl (fun r hm=>h64 r _ (hr r hm) (by omega) (by omega))) rfl rfl (fun _=>rfl) ?_
   simp
   by_cases ht:isTable t
   · simp [ht]
     intro r hm
     have:=ht.2.2 r hm
     exact ⟨by omega,fun v hv=>by have:=this.2 v hv;omega⟩
   · simp [ht]
     rcases Classical.em (∃ x,x∈t∧(¬((x.length:Nat):Int)=t.length∨¬inR 0 ((t.length:Int)-1) x)) with h | h
     · exact h
     · exfalso
       refine ht ⟨hn.1,hn.2,fun r hm=>?_⟩
       have h1:((r.length:Nat):Int)=t.length∧inR 0 ((t.length:Int)-1) r:=by
        refine Classical.byContradiction fun h2=>h ⟨r,hm,?_⟩
        rcases Classical.em (((r.length:Nat):Int)=t.length) with h3 | h3
        · exact .inr fun h4=>h2 ⟨h3,h4⟩
        · exact .inl h3
       exact ⟨by omega,fun v hv=>by have:=h1.2 v hv;omega⟩
 · have hvd:¬isTable t:=fun ht=>hn ⟨ht.1,ht.2.1⟩
   have hn':¬((1:Int)≤t.length∧(t.length:Int)≤12):=by omega
   simp [hn',hvd,j01]

def S_permRows1 (pg:Pg):Prop:=∀ r:List Int,r.length≤1048576→Call pg 65 [ix r] [ix r] (B (!decide (j05 r)))
theorem t_permRows1 {pg:Pg} (hp:pg.fn 65=some c_impl_permutationRows_1) (h66:S_isPermuted pg):S_permRows1 pg:=by
 intro r hl
 refine Call.intro hp rfl (by simp) ?_
 show wp _ _ c_impl_permutationRows_1.body (post [.t 2] _ _ _) _
 simp [c_impl_permutationRows_1]
 refine j0e (h66 _ hl) rfl rfl (fun _=>rfl) ?_
 simp

def permRows (t:List (List Int)):Prop:=∀ r∈t,j05 r
instance (t:List (List Int)):Decidable (permRows t):=by unfold permRows;infer_instance

def S_permRows (pg:Pg):Prop:=∀ t:List (List Int),t.length≤1048576→(∀ r∈t,r.length≤1048576)→Call pg 51 [tb t] [tb t] (B (decide (permRows t)))
theorem t_permRows {pg:Pg} (hp:pg.fn 51=some c_impl_permutationRows) (h65:S_permRows1 pg) (h63:S_containsFunc pg):S_permRows pg:=by
 intro t hl hr
 refine Call.intro hp rfl (by simp) ?_
 show wp _ _ c_impl_permutationRows.body (post [.t 2] _ _ _) _
 simp [c_impl_permutationRows]
 refine j0e (h63 t (fun r=>!decide (j05 r)) 65 [] hl rfl rfl (fun r hm=>h65 r (hr r hm))) rfl rfl (fun _=>rfl) ?_
 simp only [permRows]
 cases h:t.any fun r=>!decide (j05 r) with
 | true =>
  obtain ⟨r,h1,h2⟩:=List.any_eq_true.1 h
  have:¬∀ r,r∈t→j05 r:=fun hh=>by simp [hh r h1] at h2
  simp [this]
 | false =>
  have:∀ r,r∈t→j05 r:=fun r hr=>by
   have:=List.any_eq_false.1 h r hr
   simpa using this
  simp
  exact decide_eq_true this

def S_same (pg:Pg):Prop:=∀ a b:List Int,a.length≤1048576→Call pg 67 [ix a,ix b] [ix a,ix b] (B (decide (a=b)))
theorem t_same {pg:Pg} (hp:pg.fn 67=some c_spec_l01Same):S_same pg:=by
 intro a b ha
 refine Call.intro hp rfl (by simp) ?_
 show wp _ _ c_spec_l01Same.body (post [.t 4] _ _ _) _
 by_cases hl:a.length=b.length
 · simp [c_spec_l01Same,hl]
   refine j0a (fun k e=>(∀ i,i<k→a[i]?=b[i]?)∧e=fr [(0,some (.val (ix a))),(1,some (.val (ix b))),(5,some (.val (I k)))]) a.length ?_ ?_ 0 _ (by omega) ?_
   · rintro k e hk ⟨h1,rfl⟩
     have hk2:k<b.length:=by omega
     by_cases hne:a[k]=b[k]
     · simp [hk,hk2,hne]
       refine ⟨by omega,fun i hi=>?_⟩
       rcases Nat.lt_or_ge i k with h2 | h2
       · exact h1 i h2
       · have:i=k:=by omega
         subst this
         rw [List.getElem?_eq_getElem hk,List.getElem?_eq_getElem hk2,hne]
     · simp [hk,hk2,hne]
       intro h2
       exact hne (by simp [h2])
   · rintro e ⟨h1,rfl⟩
     simp [hl]
     apply List.ext_getElem?
     intro i
     rcases Nat.lt_or_ge i a.length with h2 | h2
     · exact h1 i h2
     · rw [List.getElem?_eq_none h2,List.getElem?_eq_none (by omega)]
   · exact ⟨fun i hi=>by omega,by simp⟩
 · have:a≠b:=fun h=>hl (by rw [h])
   have h2:(a.length:Int)≠b.length:=by omega
   simp [c_spec_l01Same,h2,this]


abbrev sol (f s:List (List Int)):T:=.agg [tb f,tb s]
def isPairMap (f s:List (List Int)):Prop:=isTable f∧isTable s∧f.length=s.length
instance (f s:List (List Int)):Decidable (isPairMap f s):=by unfold isPairMap;infer_instance

def fits (t:List (List Int)):Prop:=t.length≤1048576∧∀ r∈t,r.length≤1048576

def S_pairMap (pg:Pg) (n:Nat):Prop:=∀ f s:List (List Int),fits f→fits s→Call pg n [sol f s] [sol f s] (B (decide (isPairMap f s)))
theorem t_l02Map {pg:Pg} (hp:pg.fn 56=some c_spec_l02Map) (h46:S_table pg 46):S_pairMap pg 56:=by
 intro f s hf hs
 refine Call.intro hp rfl (by simp) ?_
 show wp _ _ c_spec_l02Map.body (post [.t 2] _ _ _) _
 simp [c_spec_l02Map]
 refine j0e (h46 _ hf.1 hf.2) rfl rfl (fun _=>rfl) ?_
 by_cases h1:isTable f
 · simp [h1]
   refine j0e (h46 _ hs.1 hs.2) rfl rfl (fun _=>rfl) ?_
   by_cases h2:isTable s
   · simp [h2,isPairMap,h1]
     omega
   · simp [h2,isPairMap,j01]
 · simp [h1,isPairMap,j01]
theorem t_isPairMap {pg:Pg} (hp:pg.fn 59=some c_impl_IsPairMap) (h50:S_table pg 50):S_pairMap pg 59:=by
 intro f s hf hs
 refine Call.intro hp rfl (by simp) ?_
 show wp _ _ c_impl_IsPairMap.body (post [.t 2] _ _ _) _
 simp [c_impl_IsPairMap]
 refine j0e (h50 _ hf.1 hf.2) rfl rfl (fun _=>rfl) ?_
 by_cases h1:isTable f
 · simp [h1]
   refine j0e (h50 _ hs.1 hs.2) rfl rfl (fun _=>rfl) ?_
   by_cases h2:isTable s
   · simp [h2,isPairMap,h1]
     omega
   · simp [h2,isPairMap,j01]
 · simp [h1,isPairMap,j01]


def v2 (t:List (List Int)) (x y:Nat):Int:=(t.getD x []).getD y 0
theorem get_v2 {t:List (List Int)} {x y:Nat} (hx:x<t.length) (hy:y<(t[x]).length):(t[x])[y]=v2 t x y:=by
 simp [v2,List.getD_eq_getElem?_getD,hx,hy]
theorem Tab.row {t:List (List Int)} (h:Tab t) {x:Nat} (hx:x<t.length):(t[x]).length=t.length:=(h _ (List.getElem_mem hx)).1
theorem Tab.nonneg {t:List (List Int)} (h:Tab t) (x y:Nat):0≤v2 t x y:=by
 unfold v2
 rw [List.getD_eq_getElem?_getD,List.getD_eq_getElem?_getD]
 cases h1:t[x]? with
 | none=>simp
 | some r =>
  simp only [Option.getD_some]
  cases h2:r[y]? with
  | none=>simp
  | some v=>exact ((h r (List.mem_of_getElem? h1)).2 v (List.mem_of_getElem? h2)).1
theorem Tab.lt {t:List (List Int)} (h:Tab t) (h0:0<t.length) (x y:Nat):v2 t x y<t.length:=by
 unfold v2
 rw [List.getD_eq_getElem?_getD,List.getD_eq_getElem?_getD]
 cases h1:t[x]? with
 | none=>simp;omega
 | some r =>
  simp only [Option.getD_some]
  cases h2:r[y]? with
  | none=>simp;omega
  | some v=>exact ((h r (List.mem_of_getElem? h1)).2 v (List.mem_of_getElem? h2)).2
theorem Tab.ltN {t:List (List Int)} (h:Tab t) (h0:0<t.length) (x y:Nat):(v2 t x y).toNat<t.length:=by
 have:=h.lt h0 x y
 have:=h.nonneg x y
 omega

@[simp] theorem tdiv_nat (a b:Nat):(a:Int).tdiv (b:Int)=((a / b:Nat):Int):=rfl
@[simp] theorem tmod_nat (a b:Nat):(a:Int).tmod (b:Int)=((a % b:Nat):Int):=rfl

theorem least {P:Nat→Prop} {m:Nat} (h:∃ k,k<m∧P k):∃ k,k<m∧P k∧∀ i,i<k→¬P i:=by
 obtain ⟨k,h1,h2⟩:=h
 induction k using Nat.strongRecOn with
 | _ k ih =>
  by_cases hh:∃ i,i<k∧P i
  · obtain ⟨i,h3,h4⟩:=hh
    exact ih i h3 (by omega) h4
  · exact ⟨k,h1,h2,fun i hi hp=>hh ⟨i,hi,hp⟩⟩

end Go.Mch
namespace Go.Mch

def ownI:Option (List Int)→T
 | none=>nil
 | some xs=>.mem .own (some 1) (xs.map I)

def up (k:Int) (n:Nat):List Int:=(List.range n).map fun i:Nat=>k+i
def held:List Int→Int→Int
 | [],k=>k
 | x::xs,k=>if x=k then held xs (k+1) else -1

def S_heldI (pg:Pg):Prop:=∀ (a:Rw Int) (k:Int),(lst a).length≤1048576→-1≤k→k≤4611686018427387904→Call pg 13 [rawI a,I k] [rawI a,I k] (I (held (lst a) k))
def upto (k:Int) (xs:List Int) (j:Nat):List Int:=(List.range xs.length).map fun i:Nat=>if i<j then k+i else xs.getD i 0
def S_markI (pg:Pg):Prop:=∀ (a:Option (List Int)) (k:Int),(lso a).length≤1048576→-1≤k→k≤4611686018427387904→Call pg 12 [ownI a,I k] [ownI (a.map fun xs=>up k xs.length),I k] (I (k+(lso a).length))
def ownT:Option (List (List Int))→T
 | none=>nil
 | some xss=>.mem .own (some 1) (rows xss)

def kAt (k:Int) (xss:List (List Int)) (j:Nat):Int:=k+((xss.take j).map List.length).sum
def smallT (xss:List (List Int)):Prop:=xss.length≤1048576∧∀ r∈xss,r.length≤1048576

def upT (k:Int) (xss:List (List Int)):List (List Int):=(List.range xss.length).map fun j=>up (kAt k xss j) (xss.getD j []).length
def heldL:List (List Int)→Int→Int
 | [],k=>k
 | r::rs,k=>if held r k<0 then -1 else heldL rs (held r k)

def S_heldT (pg:Pg):Prop:=∀ (a:Rw (Rw Int)) (k:Int),small a→-1≤k→k≤2305843009213693952→Call pg 24 [rawT a,I k] [rawT a,I k] (I (heldL ((lst a).map lst) k))
def S_markT (pg:Pg):Prop:=∀ (a:Option (List (List Int))) (k:Int),smallT (lso a)→0≤k→k≤2305843009213693952→Call pg 23 [ownT a,I k] [ownT (a.map (upT k)),I k] (I (kAt k (lso a) (lso a).length))
end Go.Mch
namespace Go.Mch

def coll (f s:List (List Int)) (a b:Nat):Prop :=
 a≠b∧v2 f (a / f.length) (a % f.length)=v2 f (b / f.length) (b % f.length)∧v2 s (a / f.length) (a % f.length)=v2 s (b / f.length) (b % f.length)
def Inj (f s:List (List Int)):Prop:=∀ a,a<f.length*f.length→∀ b,b<f.length*f.length→¬coll f s a b
instance (f s:List (List Int)) (a b:Nat):Decidable (coll f s a b):=by unfold coll;infer_instance
instance (f s:List (List Int)):Decidable (Inj f s):=by unfold Inj;infer_instance

structure PM (f s:List (List Int)):Prop where
 tf:Tab f
 ts:Tab s
 len:s.length=f.length
 pos:0<f.length
 small:f.length≤12
theorem PM.of {f s:List (List Int)} (h:isPairMap f s):PM f s:=⟨h.1.2.2,h.2.1.2.2,h.2.2.symm,h.1.1,h.1.2.1⟩

theorem dm_lt {n a:Nat} (h:a<n*n):a / n<n∧a % n<n:=by
 have hn:0<n:=by
  rcases Nat.eq_zero_or_pos n with h0 | h0
  · subst h0;simp at h
  · exact h0
 exact ⟨Nat.div_lt_of_lt_mul h,Nat.mod_lt _ hn⟩

def S_coll57 (pg:Pg):Prop:=∀ f s:List (List Int),PM f s→∃ l:List Int,(l.length=0↔Inj f s)∧l.length≤4∧Call pg 57 [sol f s] [sol f s] (.mem .own (some 1) (l.map I))
set_option maxRecDepth 10000 in
theorem t_coll57 {pg:Pg} (hp:pg.fn 57=some c_spec_l02Collision):S_coll57 pg:=by
 intro f s h
 have h0:=h.pos
 have h12:=h.small
 have h0':f.length≠0:=by omega
 have hsq:f.length*f.length≤144:=Nat.mul_le_mul h12 h12
 have hsq':((f.length:Int)*f.length)≤144:=by exact_mod_cast hsq
 have hsq0:0≤((f.length:Int)*f.length):=by exact_mod_cast Nat.zero_le _
 have fr':=fun x hx=>h.tf.row (x:=x) hx
 have sr':∀ x (hx:x<s.length),(s[x]).length=f.length:=fun x hx=>(h.ts.row hx).trans h.len
 have loop:∀ (a b:Nat),a<f.length*f.length→b<f.length*f.length→coll f s a b→True:=fun _ _ _ _ _=>trivial
 by_cases hex:∃ a,a<f.length*f.length∧∃ b,b<f.length*f.length∧coll f s a b
 · obtain ⟨a,ha,hb,hmin⟩:=least hex
   obtain ⟨b,hb,hc,hmin2⟩:=least hb
   have hni:¬Inj f s:=fun hi=>hi a ha b hb hc
   refine ⟨[((a / f.length:Nat):Int),((a % f.length:Nat):Int),((b / f.length:Nat):Int),((b % f.length:Nat):Int)],by simp [hni],by simp,Call.intro hp rfl (by simp) ?_⟩
   show wp _ _ c_spec_l02Collision.body (post [.t 2] _ _ _) _
   simp [c_spec_l02Collision]
   refine j0a (fun k e=>k≤a∧e=fr [(1,some (.val (.mem .own none [tb f,tb s]))),(3,some (.val (I f.length))),(4,some (.val (I k)))]) (f.length*f.length) ?_ ?_ 0 _ (by omega) ?_
   · rintro k e hk ⟨h1,rfl⟩
     have hk1:=dm_lt hk
     have hki:(k:Int)<(f.length:Int)*f.length:=by exact_mod_cast hk
     have hq1:0≤(k:Int) / f.length∧(k:Int) / f.length<f.length:=⟨by exact_mod_cast Nat.zero_le _,by exact_mod_cast hk1.1⟩
     have hr1:0≤(k:Int) % f.length∧(k:Int) % f.length<f.length:=⟨by exact_mod_cast Nat.zero_le _,by exact_mod_cast hk1.2⟩
     have ht1:((k:Int) / f.length).toNat=k / f.length:=by rw [← Int.natCast_ediv];exact Int.toNat_natCast _
     have hu1:((k:Int) % f.length).toNat=k % f.length:=by rw [← Int.natCast_emod];exact Int.toNat_natCast _
     simp [hki]
     refine ⟨by omega,?_⟩
     rcases Nat.lt_or_ge k a with hka | hka
     · refine j0a (fun j e=>e=fr [(1,some (.val (.mem .own none [tb f,tb s]))),(3,some (.val (I f.length))),(4,some (.val (I k))),(5,some (.val (I j)))]) (f.length*f.length) ?_ ?_ 0 _ (by omega) ?_
       · rintro j e hj rfl
         have hj1:=dm_lt hj
         have hji:(j:Int)<(f.length:Int)*f.length:=by exact_mod_cast hj
         have hq2:0≤(j:Int) / f.length∧(j:Int) / f.length<f.length:=⟨by exact_mod_cast Nat.zero_le _,by exact_mod_cast hj1.1⟩
         have hr2:0≤(j:Int) % f.length∧(j:Int) % f.length<f.length:=⟨by exact_mod_cast Nat.zero_le _,by exact_mod_cast hj1.2⟩
         have ht2:((j:Int) / f.length).toNat=j / f.length:=by rw [← Int.natCast_ediv];exact Int.toNat_natCast _
         have hu2:((j:Int) % f.length).toNat=j % f.length:=by rw [← Int.natCast_emod];exact Int.toNat_natCast _
         have hnc:¬coll f s k j:=fun hcc=>hmin k hka ⟨j,hj,hcc⟩
         by_cases hkj:k=j
         · subst hkj
           clear hj hj1 hnc
           simp [hji,h0',j01]
           omega
         · have hkjI:(k:Int)≠j:=by omega
           by_cases hv1:v2 f (k / f.length) (k % f.length)=v2 f (j / f.length) (j % f.length)
           · by_cases hv2:v2 s (k / f.length) (k % f.length)=v2 s (j / f.length) (j % f.length)
             · have hcc:coll f s k j:=⟨hkj,hv1,hv2⟩
               exact (hnc hcc).elim
             · simp [hkjI,hk1,hj1,hq1,hq2,hr1,hr2,ht1,ht2,hu1,hu2,hji,h0',fr',sr',h.len,get_v2,hv1,hv2]
               omega
           · simp [hkjI,hk1,hj1,hq1,hq2,hr1,hr2,ht1,ht2,hu1,hu2,hji,h0',fr',get_v2,j01,hv1]
             omega
       · rintro e rfl
         simp
         omega
       · simp
     · have hka2:k=a:=by omega
       subst hka2
       refine j0a (fun j e=>j≤b∧e=fr [(1,some (.val (.mem .own none [tb f,tb s]))),(3,some (.val (I f.length))),(4,some (.val (I k))),(5,some (.val (I j)))]) (f.length*f.length) ?_ ?_ 0 _ (by omega) ?_
       · rintro j e hj ⟨hjb,rfl⟩
         have hj1:=dm_lt hj
         have hji:(j:Int)<(f.length:Int)*f.length:=by exact_mod_cast hj
         have hq2:0≤(j:Int) / f.length∧(j:Int) / f.length<f.length:=⟨by exact_mod_cast Nat.zero_le _,by exact_mod_cast hj1.1⟩
         have hr2:0≤(j:Int) % f.length∧(j:Int) % f.length<f.length:=⟨by exact_mod_cast Nat.zero_le _,by exact_mod_cast hj1.2⟩
         have ht2:((j:Int) / f.length).toNat=j / f.length:=by rw [← Int.natCast_ediv];exact Int.toNat_natCast _
         have hu2:((j:Int) % f.length).toNat=j % f.length:=by rw [← Int.natCast_emod];exact Int.toNat_natCast _
         rcases Nat.lt_or_ge j b with hlt | hge
         · have hnc:¬coll f s k j:=hmin2 j hlt
           by_cases hkj:k=j
           · subst hkj
             clear hj hj1 hnc
             simp [hji,h0',j01]
             omega
           · have hkjI:(k:Int)≠j:=by omega
             by_cases hv1:v2 f (k / f.length) (k % f.length)=v2 f (j / f.length) (j % f.length)
             · by_cases hv2:v2 s (k / f.length) (k % f.length)=v2 s (j / f.length) (j % f.length)
               · have hcc:coll f s k j:=⟨hkj,hv1,hv2⟩
                 exact (hnc hcc).elim
               · simp [hkjI,hk1,hj1,hq1,hq2,hr1,hr2,ht1,ht2,hu1,hu2,hji,h0',fr',sr',h.len,get_v2,hv1,hv2]
                 omega
             · simp [hkjI,hk1,hj1,hq1,hq2,hr1,hr2,ht1,ht2,hu1,hu2,hji,h0',fr',get_v2,j01,hv1]
               omega
         · have hjb2:j=b:=by omega
           subst hjb2
           obtain ⟨hkj,hv1,hv2⟩:=hc
           have hkjI:(k:Int)≠j:=by omega
           simp [hkjI,hk1,hj1,hq1,hq2,hr1,hr2,ht1,ht2,hu1,hu2,hji,h0',fr',sr',h.len,get_v2,hv1,hv2]
           try omega
       · rintro e ⟨h1,rfl⟩
         omega
       · simp
   · rintro e ⟨h1,rfl⟩
     omega
   · simp
 · have hi:Inj f s:=fun a ha b hb hc=>hex ⟨a,ha,b,hb,hc⟩
   refine ⟨[],by simp [hi],by simp,Call.intro hp rfl (by simp) ?_⟩
   show wp _ _ c_spec_l02Collision.body (post [.t 2] _ _ _) _
   simp [c_spec_l02Collision]
   refine j0a (fun k e=>e=fr [(1,some (.val (.mem .own none [tb f,tb s]))),(3,some (.val (I f.length))),(4,some (.val (I k)))]) (f.length*f.length) ?_ ?_ 0 _ (by omega) ?_
   · rintro k e hk rfl
     have hk1:=dm_lt hk
     have hki:(k:Int)<(f.length:Int)*f.length:=by exact_mod_cast hk
     have hq1:0≤(k:Int) / f.length∧(k:Int) / f.length<f.length:=⟨by exact_mod_cast Nat.zero_le _,by exact_mod_cast hk1.1⟩
     have hr1:0≤(k:Int) % f.length∧(k:Int) % f.length<f.length:=⟨by exact_mod_cast Nat.zero_le _,by exact_mod_cast hk1.2⟩
     have ht1:((k:Int) / f.length).toNat=k / f.length:=by rw [← Int.natCast_ediv];exact Int.toNat_natCast _
     have hu1:((k:Int) % f.length).toNat=k % f.length:=by rw [← Int.natCast_emod];exact Int.toNat_natCast _
     simp [hki]
     refine ⟨by omega,?_⟩
     refine j0a (fun j e=>e=fr [(1,some (.val (.mem .own none [tb f,tb s]))),(3,some (.val (I f.length))),(4,some (.val (I k))),(5,some (.val (I j)))]) (f.length*f.length) ?_ ?_ 0 _ (by omega) ?_
     · rintro j e hj rfl
       have hj1:=dm_lt hj
       have hji:(j:Int)<(f.length:Int)*f.length:=by exact_mod_cast hj
       have hq2:0≤(j:Int) / f.length∧(j:Int) / f.length<f.length:=⟨by exact_mod_cast Nat.zero_le _,by exact_mod_cast hj1.1⟩
       have hr2:0≤(j:Int) % f.length∧(j:Int) % f.length<f.length:=⟨by exact_mod_cast Nat.zero_le _,by exact_mod_cast hj1.2⟩
       have ht2:((j:Int) / f.length).toNat=j / f.length:=by rw [← Int.natCast_ediv];exact Int.toNat_natCast _
       have hu2:((j:Int) % f.length).toNat=j % f.length:=by rw [← Int.natCast_emod];exact Int.toNat_natCast _
       have hnc:¬coll f s k j:=hi k hk j hj
       by_cases hkj:k=j
       · subst hkj
         clear hj hj1 hnc
         simp [hji,h0',j01]
         omega
       · have hkjI:(k:Int)≠j:=by omega
         by_cases hv1:v2 f (k / f.length) (k % f.length)=v2 f (j / f.length) (j % f.length)
         · by_cases hv2:v2 s (k / f.length) (k % f.length)=v2 s (j / f.length) (j % f.length)
           · have hcc:coll f s k j:=⟨hkj,hv1,hv2⟩
             exact (hnc hcc).elim
           · simp [hkjI,hk1,hj1,hq1,hq2,hr1,hr2,ht1,ht2,hu1,hu2,hji,h0',fr',sr',h.len,get_v2,hv1,hv2]
             omega
         · simp [hkjI,hk1,hj1,hq1,hq2,hr1,hr2,ht1,ht2,hu1,hu2,hji,h0',fr',get_v2,j01,hv1]
           omega
     · rintro e rfl
       simp
       omega
     · simp
   · rintro e rfl
     simp
     try omega
   · simp

def S_coll60 (pg:Pg):Prop:=∀ f s:List (List Int),PM f s→∃ o:Option (List Int),(o=none↔Inj f s)∧Call pg 60 [sol f s] [sol f s] (ownI o)
set_option maxRecDepth 10000 in
theorem t_coll60 {pg:Pg} (hp:pg.fn 60=some c_impl_collisionOf):S_coll60 pg:=by
 intro f s h
 have h0:=h.pos
 have h12:=h.small
 have h0':f.length≠0:=by omega
 have hsq:f.length*f.length≤144:=Nat.mul_le_mul h12 h12
 have hsq':((f.length:Int)*f.length)≤144:=by exact_mod_cast hsq
 have hsq0:0≤((f.length:Int)*f.length):=by exact_mod_cast Nat.zero_le _
 have fr':=fun x hx=>h.tf.row (x:=x) hx
 have sr':∀ x (hx:x<s.length),(s[x]).length=f.length:=fun x hx=>(h.ts.row hx).trans h.len
 have loop:∀ (a b:Nat),a<f.length*f.length→b<f.length*f.length→coll f s a b→True:=fun _ _ _ _ _=>trivial
 by_cases hex:∃ a,a<f.length*f.length∧∃ b,b<f.length*f.length∧coll f s a b
 · obtain ⟨a,ha,hb,hmin⟩:=least hex
   obtain ⟨b,hb,hc,hmin2⟩:=least hb
   have hni:¬Inj f s:=fun hi=>hi a ha b hb hc
   refine ⟨some [((a / f.length:Nat):Int),((a % f.length:Nat):Int),((b / f.length:Nat):Int),((b % f.length:Nat):Int)],by simp [hni],Call.intro hp rfl (by simp) ?_⟩
   simp only [ownI]
   show wp _ _ c_impl_collisionOf.body (post [.t 2] _ _ _) _
   simp [c_impl_collisionOf]
   refine ⟨by omega,?_⟩
   refine j0a (fun k e=>k≤a∧e=fr [(1,some (.val (.mem .own none [tb f,tb s]))),(3,some (.val (I f.length))),(15,some (.val (I ((f.length:Int)*f.length)))),(16,some (.val (I k)))]) (f.length*f.length) ?_ ?_ 0 _ (by omega) ?_
   · rintro k e hk ⟨h1,rfl⟩
     have hk1:=dm_lt hk
     have hki:(k:Int)<(f.length:Int)*f.length:=by exact_mod_cast hk
     have hq1:0≤(k:Int) / f.length∧(k:Int) / f.length<f.length:=⟨by exact_mod_cast Nat.zero_le _,by exact_mod_cast hk1.1⟩
     have hr1:0≤(k:Int) % f.length∧(k:Int) % f.length<f.length:=⟨by exact_mod_cast Nat.zero_le _,by exact_mod_cast hk1.2⟩
     have ht1:((k:Int) / f.length).toNat=k / f.length:=by rw [← Int.natCast_ediv];exact Int.toNat_natCast _
     have hu1:((k:Int) % f.length).toNat=k % f.length:=by rw [← Int.natCast_emod];exact Int.toNat_natCast _
     simp [hki,h0']
     refine ⟨by omega,by omega,?_⟩
     rcases Nat.lt_or_ge k a with hka | hka
     · refine j0a (fun j e=>e=fr [(1,some (.val (.mem .own none [tb f,tb s]))),(3,some (.val (I f.length))),(4,some (.val (I k))),(5,some (.val (I ((k / f.length:Nat):Int)))),(6,some (.val (I ((k % f.length:Nat):Int)))),(15,some (.val (I ((f.length:Int)*f.length)))),(16,some (.val (I k))),(27,some (.val (I ((f.length:Int)*f.length)))),(28,some (.val (I j)))]) (f.length*f.length) ?_ ?_ 0 _ (by omega) ?_
       · rintro j e hj rfl
         have hj1:=dm_lt hj
         have hji:(j:Int)<(f.length:Int)*f.length:=by exact_mod_cast hj
         have hq2:0≤(j:Int) / f.length∧(j:Int) / f.length<f.length:=⟨by exact_mod_cast Nat.zero_le _,by exact_mod_cast hj1.1⟩
         have hr2:0≤(j:Int) % f.length∧(j:Int) % f.length<f.length:=⟨by exact_mod_cast Nat.zero_le _,by exact_mod_cast hj1.2⟩
         have ht2:((j:Int) / f.length).toNat=j / f.length:=by rw [← Int.natCast_ediv];exact Int.toNat_natCast _
         have hu2:((j:Int) % f.length).toNat=j % f.length:=by rw [← Int.natCast_emod];exact Int.toNat_natCast _
         have hnc:¬coll f s k j:=fun hcc=>hmin k hka ⟨j,hj,hcc⟩
         by_cases hkj:k=j
         · subst hkj
           clear hj hj1 hnc
           simp [hji,h0',j01]
           omega
         · have hkjI:(k:Int)≠j:=by omega
           by_cases hv1:v2 f (k / f.length) (k % f.length)=v2 f (j / f.length) (j % f.length)
           · by_cases hv2:v2 s (k / f.length) (k % f.length)=v2 s (j / f.length) (j % f.length)
             · have hcc:coll f s k j:=⟨hkj,hv1,hv2⟩
               exact (hnc hcc).elim
             · simp [hkjI,hk1,hj1,hq1,hq2,hr1,hr2,ht1,ht2,hu1,hu2,hji,h0',fr',sr',h.len,get_v2,hv1,hv2]
               omega
           · simp [hkjI,hk1,hj1,hq1,hq2,hr1,hr2,ht1,ht2,hu1,hu2,hji,h0',fr',get_v2,j01,hv1]
             omega
       · rintro e rfl
         simp
         omega
       · simp
     · have hka2:k=a:=by omega
       subst hka2
       refine j0a (fun j e=>j≤b∧e=fr [(1,some (.val (.mem .own none [tb f,tb s]))),(3,some (.val (I f.length))),(4,some (.val (I k))),(5,some (.val (I ((k / f.length:Nat):Int)))),(6,some (.val (I ((k % f.length:Nat):Int)))),(15,some (.val (I ((f.length:Int)*f.length)))),(16,some (.val (I k))),(27,some (.val (I ((f.length:Int)*f.length)))),(28,some (.val (I j)))]) (f.length*f.length) ?_ ?_ 0 _ (by omega) ?_
       · rintro j e hj ⟨hjb,rfl⟩
         have hj1:=dm_lt hj
         have hji:(j:Int)<(f.length:Int)*f.length:=by exact_mod_cast hj
         have hq2:0≤(j:Int) / f.length∧(j:Int) / f.length<f.length:=⟨by exact_mod_cast Nat.zero_le _,by exact_mod_cast hj1.1⟩
         have hr2:0≤(j:Int) % f.length∧(j:Int) % f.length<f.length:=⟨by exact_mod_cast Nat.zero_le _,by exact_mod_cast hj1.2⟩
         have ht2:((j:Int) / f.length).toNat=j / f.length:=by rw [← Int.natCast_ediv];exact Int.toNat_natCast _
         have hu2:((j:Int) % f.length).toNat=j % f.length:=by rw [← Int.natCast_emod];exact Int.toNat_natCast _
         rcases Nat.lt_or_ge j b with hlt | hge
         · have hnc:¬coll f s k j:=hmin2 j hlt
           by_cases hkj:k=j
           · subst hkj
             clear hj hj1 hnc
             simp [hji,h0',j01]
             omega
           · have hkjI:(k:Int)≠j:=by omega
             by_cases hv1:v2 f (k / f.length) (k % f.length)=v2 f (j / f.length) (j % f.length)
             · by_cases hv2:v2 s (k / f.length) (k % f.length)=v2 s (j / f.length) (j % f.length)
               · have hcc:coll f s k j:=⟨hkj,hv1,hv2⟩
                 exact (hnc hcc).elim
               · simp [hkjI,hk1,hj1,hq1,hq2,hr1,hr2,ht1,ht2,hu1,hu2,hji,h0',fr',sr',h.len,get_v2,hv1,hv2]
                 omega
             · simp [hkjI,hk1,hj1,hq1,hq2,hr1,hr2,ht1,ht2,hu1,hu2,hji,h0',fr',get_v2,j01,hv1]
               omega
         · have hjb2:j=b:=by omega
           subst hjb2
           obtain ⟨hkj,hv1,hv2⟩:=hc
           have hkjI:(k:Int)≠j:=by omega
           simp [hkjI,hk1,hj1,hq1,hq2,hr1,hr2,ht1,ht2,hu1,hu2,hji,h0',fr',sr',h.len,get_v2,hv1,hv2]
           try omega
       · rintro e ⟨h1,rfl⟩
         omega
       · simp
   · rintro e ⟨h1,rfl⟩
     omega
   · simp
 · have hi:Inj f s:=fun a ha b hb hc=>hex ⟨a,ha,b,hb,hc⟩
   refine ⟨none,by simp [hi],Call.intro hp rfl (by simp) ?_⟩
   simp only [ownI]
   show wp _ _ c_impl_collisionOf.body (post [.t 2] _ _ _) _
   simp [c_impl_collisionOf]
   refine ⟨by omega,?_⟩
   refine j0a (fun k e=>e=fr [(1,some (.val (.mem .own none [tb f,tb s]))),(3,some (.val (I f.length))),(15,some (.val (I ((f.length:Int)*f.length)))),(16,some (.val (I k)))]) (f.length*f.length) ?_ ?_ 0 _ (by omega) ?_
   · rintro k e hk rfl
     have hk1:=dm_lt hk
     have hki:(k:Int)<(f.length:Int)*f.length:=by exact_mod_cast hk
     have hq1:0≤(k:Int) / f.length∧(k:Int) / f.length<f.length:=⟨by exact_mod_cast Nat.zero_le _,by exact_mod_cast hk1.1⟩
     have hr1:0≤(k:Int) % f.length∧(k:Int) % f.length<f.length:=⟨by exact_mod_cast Nat.zero_le _,by exact_mod_cast hk1.2⟩
     have ht1:((k:Int) / f.length).toNat=k / f.length:=by rw [← Int.natCast_ediv];exact Int.toNat_natCast _
     have hu1:((k:Int) % f.length).toNat=k % f.length:=by rw [← Int.natCast_emod];exact Int.toNat_natCast _
     simp [hki,h0']
     refine ⟨by omega,by omega,?_⟩
     refine j0a (fun j e=>e=fr [(1,some (.val (.mem .own none [tb f,tb s]))),(3,some (.val (I f.length))),(4,some (.val (I k))),(5,some (.val (I ((k / f.length:Nat):Int)))),(6,some (.val (I ((k % f.length:Nat):Int)))),(15,some (.val (I ((f.length:Int)*f.length)))),(16,some (.val (I k))),(27,some (.val (I ((f.length:Int)*f.length)))),(28,some (.val (I j)))]) (f.length*f.length) ?_ ?_ 0 _ (by omega) ?_
     · rintro j e hj rfl
       have hj1:=dm_lt hj
       have hji:(j:Int)<(f.length:Int)*f.length:=by exact_mod_cast hj
       have hq2:0≤(j:Int) / f.length∧(j:Int) / f.length<f.length:=⟨by exact_mod_cast Nat.zero_le _,by exact_mod_cast hj1.1⟩
       have hr2:0≤(j:Int) % f.length∧(j:Int) % f.length<f.length:=⟨by exact_mod_cast Nat.zero_le _,by exact_mod_cast hj1.2⟩
       have ht2:((j:Int) / f.length).toNat=j / f.length:=by rw [← Int.natCast_ediv];exact Int.toNat_natCast _
       have hu2:((j:Int) % f.length).toNat=j % f.length:=by rw [← Int.natCast_emod];exact Int.toNat_natCast _
       have hnc:¬coll f s k j:=hi k hk j hj
       by_cases hkj:k=j
       · subst hkj
         clear hj hj1 hnc
         simp [hji,h0',j01]
         omega
       · have hkjI:(k:Int)≠j:=by omega
         by_cases hv1:v2 f (k / f.length) (k % f.length)=v2 f (j / f.length) (j % f.length)
         · by_cases hv2:v2 s (k / f.length) (k % f.length)=v2 s (j / f.length) (j % f.length)
           · have hcc:coll f s k j:=⟨hkj,hv1,hv2⟩
             exact (hnc hcc).elim
           · simp [hkjI,hk1,hj1,hq1,hq2,hr1,hr2,ht1,ht2,hu1,hu2,hji,h0',fr',sr',h.len,get_v2,hv1,hv2]
             omega
         · simp [hkjI,hk1,hj1,hq1,hq2,hr1,hr2,ht1,ht2,hu1,hu2,hji,h0',fr',get_v2,j01,hv1]
           omega
     · rintro e rfl
       simp
       omega
     · simp
   · rintro e rfl
     simp
     try omega
   · simp


end Go.Mch
namespace Go.Mch

def g2 (t:List (List Int)) (x y:Int):Int:=v2 t x.toNat y.toNat
theorem get_g2 {t:List (List Int)} {x y:Int} (hx:x.toNat<t.length) (hy:y.toNat<(t[x.toNat]).length):(t[x.toNat])[y.toNat]=g2 t x y:=get_v2 hx hy
def inN (n:Nat) (w:List Int):Prop:=∀ x∈w,0≤x∧x<n
theorem PM.gF {f s:List (List Int)} (h:PM f s) (x y:Int):0≤g2 f x y∧g2 f x y<f.length:=⟨h.tf.nonneg _ _,h.tf.lt h.pos _ _⟩
theorem PM.gS {f s:List (List Int)} (h:PM f s) (x y:Int):0≤g2 s x y∧g2 s x y<f.length:=⟨h.ts.nonneg _ _,by have:=h.ts.lt (by rw [h.len];exact h.pos) x.toNat y.toNat;rw [h.len] at this;exact this⟩

def dW (f s:List (List Int)) (w:List Int) (i:Nat):List Int :=
 (w.set i (g2 f (w.getD i 0) (w.getD (i+1) 0))).set (i+1) (g2 s (w.getD i 0) (w.getD (i+1) 0))
@[simp] theorem dW_length (f s:List (List Int)) (w:List Int) (i:Nat):(dW f s w i).length=w.length:=by simp [dW]
theorem set_in {n:Nat} {w:List Int} (h:inN n w) {i:Nat} {v:Int} (hv:0≤v∧v<n):inN n (w.set i v):=by
 intro x hx
 rcases List.mem_or_eq_of_mem_set hx with h1 | h1
 · exact h x h1
 · rw [h1];exact hv
theorem dW_in {f s:List (List Int)} (h:PM f s) {w:List Int} (hw:inN f.length w) (i:Nat):inN f.length (dW f s w i):=set_in (set_in hw (h.gF _ _)) (h.gS _ _)

def S_do (pg:Pg) (n:Nat):Prop:=∀ (f s:List (List Int)) (w:List Int) (i:Nat),PM f s→i+1<w.length→w.length≤1048576→inN f.length w →
 Call pg n [sol f s,ix w,I i] [sol f s,ix w,I i] (.mem .own (some 1) ((dW f s w i).map I))
set_option maxRecDepth 10000 in
theorem do_of {pg:Pg} {n:Nat} (hp:pg.fn n=some c_spec_l02Do) (h31:S_own pg):S_do pg n:=by
 intro f s w i h hi hl hw
 refine Call.intro hp rfl (by simp) ?_
 show wp _ _ c_spec_l02Do.body (post [.t 6] _ _ _) _
 have h1:=hw _ (List.getElem_mem (show i<w.length by omega))
 have h2:=hw _ (List.getElem_mem hi)
 have fr':=fun x hx=>h.tf.row (x:=x) hx
 have sr':∀ x (hx:x<s.length),(s[x]).length=f.length:=fun x hx=>(h.ts.row hx).trans h.len
 have hi0:i<w.length:=by omega
 have hiI:(i:Int)+1<w.length:=by omega
 have e1:((i:Int)+1).toNat=i+1:=by omega
 have t1:(w[i]).toNat<f.length:=by omega
 have t2:(w[i+1]).toNat<f.length:=by omega
 have hb:-9223372036854775808≤(i:Int)+1∧(i:Int)+1≤9223372036854775807:=by omega
 have hb0:0≤(i:Int)+1:=by omega
 simp [c_spec_l02Do]
 refine j0e (h31 _ hl) rfl rfl (fun _=>by simp) ?_
 simp [hi,hb,hb0,hi0,hiI,e1,h1,h2,t1,t2,fr',sr',h.len,get_g2]
 refine ⟨by omega,by omega,?_⟩
 simp [dW,hi0,hi]

def ybAt (f s:List (List Int)) (x y z:Nat):Prop:=dW f s (dW f s (dW f s [(x:Int),y,z] 0) 1) 0=dW f s (dW f s (dW f s [(x:Int),y,z] 1) 0) 1
def YB (f s:List (List Int)):Prop:=∀ x y z:Nat,x<f.length→y<f.length→z<f.length→ybAt f s x y z
instance (f s:List (List Int)) (x y z:Nat):Decidable (ybAt f s x y z):=by unfold ybAt;infer_instance

theorem first3 (P:Nat→Nat→Nat→Prop) (n:Nat):(∀ x y z,x<n→y<n→z<n→¬P x y z) ∨
 ∃ a b c,a<n∧b<n∧c<n∧P a b c∧∀ x y z,x<n→y<n→z<n→P x y z→a<x∨(a=x∧(b<y∨(b=y∧c≤z))):=by
 by_cases h:∃ a,a<n∧∃ b,b<n∧∃ c,c<n∧P a b c
 · right
   obtain ⟨a,ha,hb,h1⟩:=least h
   obtain ⟨b,hb,hc,h2⟩:=least hb
   obtain ⟨c,hc,hp,h3⟩:=least hc
   refine ⟨a,b,c,ha,hb,hc,hp,fun x y z hx hy hz hq=>?_⟩
   rcases Nat.lt_trichotomy a x with g | g | g
   · exact .inl g
   · subst g
     right
     refine ⟨rfl,?_⟩
     rcases Nat.lt_trichotomy b y with g | g | g
     · exact .inl g
     · subst g
       right
       refine ⟨rfl,?_⟩
       rcases Nat.lt_or_ge z c with g | g
       · exact absurd hq (h3 z g)
       · exact g
     · exact absurd ⟨z,hz,hq⟩ (h2 y g)
   · exact absurd ⟨y,hy,z,hz,hq⟩ (h1 x g)
 · left
   intro x y z hx hy hz hp
   exact h ⟨x,hx,y,hy,z,hz,hp⟩

theorem fault (f s:List (List Int)):∃ (a b c:Nat) (l:List Int),(l.length=0↔YB f s)∧(a<f.length→l=[(a:Int),b,c]∧b<f.length∧c<f.length∧¬ybAt f s a b c)∧(¬a<f.length→a=f.length∧l=[])∧l.length≤3 ∧
 ∀ x y z,x<f.length→y<f.length→z<f.length→¬ybAt f s x y z→a<x∨(a=x∧(b<y∨(b=y∧c≤z))):=by
 rcases first3 (fun x y z=>¬ybAt f s x y z) f.length with h | ⟨a,b,c,ha,hb,hc,hp,h⟩
 · refine ⟨f.length,0,0,[],⟨fun _ x y z hx hy hz=>?_,fun _=>rfl⟩,fun h=>absurd h (Nat.lt_irrefl _),fun _=>⟨rfl,rfl⟩,by simp,fun x y z hx hy hz hn=>absurd hn (h x y z hx hy hz)⟩
   exact Decidable.of_not_not (h x y z hx hy hz)
 · exact ⟨a,b,c,[(a:Int),b,c],⟨fun h=>by simp at h,fun h=>absurd (h a b c ha hb hc) hp⟩,fun _=>⟨rfl,hb,hc,hp⟩,fun h=>absurd ha h,by simp,h⟩

def S_fault58 (pg:Pg):Prop:=∀ f s:List (List Int),PM f s→∃ l:List Int,(l.length=0↔YB f s)∧l.length≤3∧Call pg 58 [sol f s] [sol f s] (.mem .own (some 1) (l.map I))

theorem w3_in {n x y z:Nat} (hx:x<n) (hy:y<n) (hz:z<n):inN n [(x:Int),y,z]:=by
 intro v hv
 simp at hv
 omega

set_option maxRecDepth 10000 in
theorem t_fault58 {pg:Pg} (hp:pg.fn 58=some c_spec_l02Fault) (h68:S_do pg 68) (h67:S_same pg):S_fault58 pg:=by
 intro f s h
 obtain ⟨a,b,c,l,hl,hf1,hf2,hf3,hmin⟩:=fault f s
 have h0:=h.pos
 have h12:=h.small
 refine ⟨l,hl,hf3,Call.intro hp rfl (by simp) ?_⟩
 show wp _ _ c_spec_l02Fault.body (post [.t 2] _ _ _) _
 simp [c_spec_l02Fault]
 refine j0a (fun x e=>x≤a∧e=fr [(1,some (.val (.mem .own none [tb f,tb s]))),(3,some (.val (I f.length))),(4,some (.val (I x)))]) f.length ?_ ?_ 0 _ (by omega) ?_
 · rintro x e hx ⟨hxa,rfl⟩
   simp [hx]
   refine j0a (fun y e=>(x=a→y≤b)∧e=fr [(1,some (.val (.mem .own none [tb f,tb s]))),(3,some (.val (I f.length))),(4,some (.val (I x))),(5,some (.val (I y)))]) f.length ?_ ?_ 0 _ (by omega) ?_
   · rintro y e hy ⟨hyb,rfl⟩
     simp [hy]
     refine j0a (fun z e=>(x=a→y=b→z≤c)∧e=fr [(1,some (.val (.mem .own none [tb f,tb s]))),(3,some (.val (I f.length))),(4,some (.val (I x))),(5,some (.val (I y))),(6,some (.val (I z)))]) f.length ?_ ?_ 0 _ (by omega) ?_
     · rintro z e hz ⟨hzc,rfl⟩
       have hw:=w3_in hx hy hz
       have d1:=dW_in h hw 0
       have d2:=dW_in h d1 1
       have d3:=dW_in h hw 1
       have d4:=dW_in h d3 0
       simp [hz]
       refine j0e (h68 f s [(x:Int),y,z] 0 h (by simp) (by simp) hw) rfl rfl (fun _=>by simp) ?_
       simp
       refine j0e (h68 f s _ 1 h (by simp) (by simp) d1) rfl rfl (fun _=>by simp) ?_
       simp
       refine j0e (h68 f s _ 0 h (by simp) (by simp) d2) rfl rfl (fun _=>by simp) ?_
       simp
       refine j0e (h68 f s [(x:Int),y,z] 1 h (by simp) (by simp) hw) rfl rfl (fun _=>by simp) ?_
       simp
       refine j0e (h68 f s _ 0 h (by simp) (by simp) d3) rfl rfl (fun _=>by simp) ?_
       simp
       refine j0e (h68 f s _ 1 h (by simp) (by simp) d4) rfl rfl (fun _=>by simp) ?_
       simp
       refine j0e (h67 _ _ (by simp)) rfl rfl (fun _=>rfl) ?_
       by_cases hy2:ybAt f s x y z
       · have hy3:=hy2
         unfold ybAt at hy3
         simp [hy3]
         have:¬(x=a∧y=b∧z=c):=fun ⟨e1,e2,e3⟩=>by
          subst e1 e2 e3
          exact (hf1 hx).2.2.2 hy2
         omega
       · have hy3:=hy2
         unfold ybAt at hy3
         have:=hmin x y z hx hy hz hy2
         have e1:x=a:=by omega
         subst e1
         have e2:y=b:=by have:=hyb rfl;omega
         subst e2
         have e3:z=c:=by have:=hzc rfl rfl;omega
         subst e3
         simp [hy3,(hf1 hx).1]
     · rintro e ⟨hzc,rfl⟩
       simp
       have:¬(x=a∧y=b):=fun ⟨e1,e2⟩=>by
        have:=hzc e1 e2
        have:=(hf1 (by omega)).2.2.1
        omega
       omega
     · simp
   · rintro e ⟨hyb,rfl⟩
     simp
     have:¬x=a:=fun e1=>by
      have:=hyb e1
      have:=(hf1 (by omega)).2.1
      omega
     omega
   · simp
 · rintro e ⟨h1,rfl⟩
   simp [(hf2 (by omega)).2]
 · simp

theorem yb_v2 (f s:List (List Int)) (x y z:Nat):ybAt f s x y z ↔
 (v2 f (v2 f x y).toNat (v2 f (v2 s x y).toNat z).toNat=v2 f x (v2 f y z).toNat ∧
  v2 s (v2 f x y).toNat (v2 f (v2 s x y).toNat z).toNat=v2 f (v2 s x (v2 f y z).toNat).toNat (v2 s y z).toNat ∧
  v2 s (v2 s x y).toNat z=v2 s (v2 s x (v2 f y z).toNat).toNat (v2 s y z).toNat):=by
 simp [ybAt,dW,g2]

def S_fault61 (pg:Pg):Prop:=∀ f s:List (List Int),PM f s→∃ o:Option (List Int),(o=none↔YB f s)∧Call pg 61 [sol f s] [sol f s] (ownI o)
set_option maxRecDepth 10000 in
theorem t_fault61 {pg:Pg} (hp:pg.fn 61=some c_impl_equationFault):S_fault61 pg:=by
 intro f s h
 obtain ⟨a,b,c,l,hl,hf1,hf2,hf3,hmin⟩:=fault f s
 have h0:=h.pos
 have h12:=h.small
 have fr':=fun x hx=>h.tf.row (x:=x) hx
 have sr':∀ x (hx:x<s.length),(s[x]).length=f.length:=fun x hx=>(h.ts.row hx).trans h.len
 have hF0:∀ i j,0≤v2 f i j:=h.tf.nonneg
 have hF1:∀ i j,v2 f i j<f.length:=h.tf.lt h0
 have hF2:∀ i j,(v2 f i j).toNat<f.length:=h.tf.ltN h0
 have hS0:∀ i j,0≤v2 s i j:=h.ts.nonneg
 have hS1:∀ i j,v2 s i j<f.length:=fun i j=>by have:=h.ts.lt (by rw [h.len];exact h0) i j;rw [h.len] at this;exact this
 have hS2:∀ i j,(v2 s i j).toNat<f.length:=fun i j=>by have:=hS0 i j;have:=hS1 i j;omega
 refine ⟨if a<f.length then some l else none,?_,Call.intro hp rfl (by simp) ?_⟩
 · by_cases ha:a<f.length
   · have h1:=(hf1 ha).1
     rw [← hl,if_pos ha,h1]
     simp
   · have h1:=(hf2 ha).2
     rw [← hl,if_neg ha,h1]
     simp
 show wp _ _ c_impl_equationFault.body (post [.t 2] _ _ _) _
 simp [c_impl_equationFault]
 refine j0a (fun x e=>x≤a∧e=fr [(1,some (.val (.mem .own none [tb f,tb s]))),(3,some (.val (I f.length))),(16,some (.val (I f.length))),(17,some (.val (I x)))]) f.length ?_ ?_ 0 _ (by omega) ?_
 · rintro x e hx ⟨hxa,rfl⟩
   simp [hx]
   refine j0a (fun y e=>(x=a→y≤b)∧e=fr [(1,some (.val (.mem .own none [tb f,tb s]))),(3,some (.val (I f.length))),(4,some (.val (I x))),(16,some (.val (I f.length))),(17,some (.val (I x))),(20,some (.val (I f.length))),(21,some (.val (I y)))]) f.length ?_ ?_ 0 _ (by omega) ?_
   · rintro y e hy ⟨hyb,rfl⟩
     simp [hy]
     refine j0a (fun z e=>(x=a→y=b→z≤c)∧e=fr [(1,some (.val (.mem .own none [tb f,tb s]))),(3,some (.val (I f.length))),(4,some (.val (I x))),(5,some (.val (I y))),(16,some (.val (I f.length))),(17,some (.val (I x))),(20,some (.val (I f.length))),(21,some (.val (I y))),(24,some (.val (I f.length))),(25,some (.val (I z)))]) f.length ?_ ?_ 0 _ (by omega) ?_
     · rintro z e hz ⟨hzc,rfl⟩
       have hyb2:=yb_v2 f s x y z
       simp [hx,hy,hz,fr',sr',h.len,get_v2,hF0,hF1,hF2,hS0,hS1,hS2]
       have bad:¬ybAt f s x y z→x=a∧y=b∧z=c:=fun hn=>by
        have:=hmin x y z hx hy hz hn
        have e1:x=a:=by omega
        have e2:y=b:=by have:=hyb e1;omega
        have e3:z=c:=by have:=hzc e1 e2;omega
        exact ⟨e1,e2,e3⟩
       by_cases e1:v2 f (v2 f x y).toNat (v2 f (v2 s x y).toNat z).toNat=v2 f x (v2 f y z).toNat
       · by_cases e2:v2 s (v2 f x y).toNat (v2 f (v2 s x y).toNat z).toNat=v2 f (v2 s x (v2 f y z).toNat).toNat (v2 s y z).toNat
         · by_cases e3:v2 s (v2 s x y).toNat z=v2 s (v2 s x (v2 f y z).toNat).toNat (v2 s y z).toNat
           · simp [e1,e2,e3]
             have:¬(x=a∧y=b∧z=c):=fun ⟨g1,g2,g3⟩=>by
              subst g1 g2 g3
              exact (hf1 hx).2.2.2 (hyb2.2 ⟨e1,e2,e3⟩)
             omega
           · obtain ⟨g1,g2,g3⟩:=bad fun hh=>e3 (hyb2.1 hh).2.2
             subst g1 g2 g3
             simp [e1,e2,e3,hx,(hf1 hx).1,ownI]
         · obtain ⟨g1,g2,g3⟩:=bad fun hh=>e2 (hyb2.1 hh).2.1
           subst g1 g2 g3
           simp [e1,e2,j01,hx,(hf1 hx).1,ownI]
       · obtain ⟨g1,g2,g3⟩:=bad fun hh=>e1 (hyb2.1 hh).1
         subst g1 g2 g3
         simp [e1,j01,hx,(hf1 hx).1,ownI]
     · rintro e ⟨hzc,rfl⟩
       simp
       have:¬(x=a∧y=b):=fun ⟨e1,e2⟩=>by
        have:=hzc e1 e2
        have:=(hf1 (by omega)).2.2.1
        omega
       omega
     · simp
   · rintro e ⟨hyb,rfl⟩
     simp
     have:¬x=a:=fun e1=>by
      have:=hyb e1
      have:=(hf1 (by omega)).2.1
      omega
     omega
   · simp
 · rintro e ⟨h1,rfl⟩
   have h2:¬a<f.length:=by omega
   simp [h2,ownI]
 · simp

def isSol (f s:List (List Int)):Prop:=isPairMap f s∧Inj f s∧YB f s

noncomputable def dec (p:Prop):Bool:=@decide p (Classical.propDecidable p)
theorem j1p {p:Prop} (h:p):dec p=true:=by simp [dec,h]
theorem j1d {p:Prop} (h:¬p):dec p=false:=by simp [dec,h]

def S_isSol (pg:Pg) (n:Nat):Prop:=∀ f s:List (List Int),fits f→fits s→Call pg n [sol f s] [sol f s] (B (dec (isSol f s)))
theorem t_l02Is {pg:Pg} (hp:pg.fn 41=some c_spec_l02Is) (h56:S_pairMap pg 56) (h57:S_coll57 pg) (h58:S_fault58 pg):S_isSol pg 41:=by
 intro f s hf hs
 refine Call.intro hp rfl (by simp) ?_
 show wp _ _ c_spec_l02Is.body (post [.t 2] _ _ _) _
 simp [c_spec_l02Is]
 refine j0e (h56 f s hf hs) rfl rfl (fun _=>rfl) ?_
 by_cases h1:isPairMap f s
 · have hpm:=PM.of h1
   obtain ⟨l,hl,hl2,hc⟩:=h57 f s hpm
   simp [h1]
   refine j0e hc rfl rfl (fun _=>by simp) ?_
   by_cases h2:Inj f s
   · have h3:=hl.2 h2
     obtain ⟨l2,hm,hm2,hc2⟩:=h58 f s hpm
     simp [h3]
     refine j0e hc2 rfl rfl (fun _=>by simp) ?_
     by_cases h4:YB f s
     · have h5:=hm.2 h4
       simp [h5,j1p (show isSol f s from ⟨h1,h2,h4⟩)]
     · have h5:¬l2.length=0:=fun h=>h4 (hm.1 h)
       have h6:¬((l2.length:Nat):Int)=0:=by omega
       simp [h5,j1d (show ¬isSol f s from fun h=>h4 h.2.2)]
   · have h3:¬l.length=0:=fun h=>h2 (hl.1 h)
     have h6:¬((l.length:Nat):Int)=0:=by omega
     simp [h3,j01,j1d (show ¬isSol f s from fun h=>h2 h.2.1)]
 · simp [h1,j01,j1d (show ¬isSol f s from fun h=>h1 h.1)]

theorem t_IsSolution {pg:Pg} (hp:pg.fn 42=some c_impl_IsSolution) (h59:S_pairMap pg 59) (h60:S_coll60 pg) (h61:S_fault61 pg):S_isSol pg 42:=by
 intro f s hf hs
 refine Call.intro hp rfl (by simp) ?_
 show wp _ _ c_impl_IsSolution.body (post [.t 2] _ _ _) _
 simp [c_impl_IsSolution]
 refine j0e (h59 f s hf hs) rfl rfl (fun _=>rfl) ?_
 by_cases h1:isPairMap f s
 · have hpm:=PM.of h1
   obtain ⟨l,hl,hc⟩:=h60 f s hpm
   simp [h1]
   refine j0e hc rfl rfl (fun _=>by cases l <;> simp [ownI]) ?_
   by_cases h2:Inj f s
   · have h3:=hl.2 h2
     subst h3
     obtain ⟨l2,hm,hc2⟩:=h61 f s hpm
     simp [ownI]
     refine j0e hc2 rfl rfl (fun _=>by cases l2 <;> simp [ownI]) ?_
     by_cases h4:YB f s
     · have h5:=hm.2 h4
       subst h5
       simp [ownI,j1p (show isSol f s from ⟨h1,h2,h4⟩)]
     · cases l2 with
       | none=>exact absurd (hm.1 rfl) h4
       | some l2=>simp [ownI,j1d (show ¬isSol f s from fun h=>h4 h.2.2)]
   · cases l with
     | none=>exact absurd (hl.1 rfl) h2
     | some l=>simp [ownI,j01,j1d (show ¬isSol f s from fun h=>h2 h.2.1)]
 · simp [h1,j01,j1d (show ¬isSol f s from fun h=>h1 h.1)]
end Go.Mch
namespace Go.Mch

theorem rows_append (a b:List (List Int)):rows (a++b)=rows a++rows b:=by simp [rows]

end Go.Mch
namespace Go.Mch

def eT:Option (List (List Int))→T
 | none=>nil
 | some X=>tb X
def ryT (o:Option (List (List Int))):Rw (Rw Int):=Rw.ofO (o.map fun X=>X.map .of)
theorem rawT_ry (o:Option (List (List Int))):rawT (ryT o)=eT o:=by
 cases o with
 | none=>rfl
 | some X=>exact rawT_tb X
theorem map_lst_of {α:Type} (X:List (List α)):(X.map Rw.of).map lst=X:=by simp [Function.comp_def]
theorem lst_ry (o:Option (List (List Int))):(lst (ryT o)).map lst=lso o:=by
 cases o with
 | none=>rfl
 | some X=>exact map_lst_of X
theorem small_ry {o:Option (List (List Int))} (h:smallT (lso o)):small (ryT o):=by
 cases o with
 | none=>exact ⟨by simp [ryT,Rw.ofO,lst],by simp [ryT,Rw.ofO,lst]⟩
 | some X=>exact ⟨by simpa [ryT,Rw.ofO] using h.1,by simpa [ryT,Rw.ofO] using h.2⟩
end Go.Mch
namespace Go.Mch

def S_elements (pg:Pg):Prop:=∀ (n:Int) (xs:List Int),xs.length≤1048576→0≤n→n≤1048576→Call pg 49 [I n,ix xs] [I n,ix xs] (B (decide (inR 0 (n-1) xs)))
theorem t_elements {pg:Pg} (hp:pg.fn 49=some c_spec_l04Elements) (h30:S_in pg 30):S_elements pg:=by
 intro n xs hl hn hn2
 refine Call.intro hp rfl (by simp) ?_
 show wp _ _ c_spec_l04Elements.body (post [.t 4] _ _ _) _
 simp [c_spec_l04Elements]
 refine j0a (fun k e=>(∀ i (h:i<xs.length),i<k→0≤xs[i]∧xs[i]≤n-1)∧e=fr [(0,some (.val (I n))),(1,some (.val (ix xs))),(5,some (.val (I k)))]) xs.length ?_ ?_ 0 _ (by omega) ?_
 · rintro k e hk ⟨h1,rfl⟩
   simp [hk]
   refine ⟨by omega,?_⟩
   refine j0e (h30 _ _ _) rfl rfl (fun _=>rfl) ?_
   by_cases hm:0≤xs[k]∧xs[k]≤n-1
   · simp [hm]
     refine ⟨by omega,fun i hi hik=>?_⟩
     rcases Nat.lt_or_ge i k with h2 | h2
     · exact h1 i hi h2
     · have:i=k:=by omega
       subst this;exact hm
   · have:¬inR 0 (n-1) xs:=fun h=>hm (h _ (List.getElem_mem hk))
     simp [hm,this]
 · rintro e ⟨h1,rfl⟩
   have:inR 0 (n-1) xs:=fun x hx=>by
    obtain ⟨i,hi,rfl⟩:=List.getElem_of_mem hx
    exact h1 i hi hi
   simp [this]
 · simp

def isTup (n:Int) (xs:List Int):Prop:=xs.length≤12∧inR 0 (n-1) xs
instance (n:Int) (xs:List Int):Decidable (isTup n xs):=by unfold isTup;infer_instance
def S_tuple (pg:Pg) (f:Nat):Prop:=∀ (n:Int) (xs:List Int),xs.length≤1048576→0≤n→n≤1048576→Call pg f [I n,ix xs] [I n,ix xs] (B (decide (isTup n xs)))
theorem t_l06Tuple {pg:Pg} (hp:pg.fn 29=some c_spec_l06Tuple) (h49:S_elements pg):S_tuple pg 29:=by
 intro n xs hl hn hn2
 refine Call.intro hp rfl (by simp) ?_
 show wp _ _ c_spec_l06Tuple.body (post [.t 4] _ _ _) _
 simp [c_spec_l06Tuple]
 by_cases h1:xs.length≤12
 · have h1':(xs.length:Int)≤12:=by omega
   simp [h1']
   refine j0e (h49 n xs hl hn hn2) rfl rfl (fun _=>rfl) ?_
   simp [isTup,h1]
 · have h1':¬(xs.length:Int)≤12:=by omega
   simp [h1',isTup,h1,j01]
theorem t_isTuple {pg:Pg} (hp:pg.fn 34=some c_impl_isTuple) (h39:S_areElements pg):S_tuple pg 34:=by
 intro n xs hl hn hn2
 refine Call.intro hp rfl (by simp) ?_
 show wp _ _ c_impl_isTuple.body (post [.t 4] _ _ _) _
 simp [c_impl_isTuple]
 by_cases h1:xs.length≤12
 · have h1':(xs.length:Int)≤12:=by omega
   simp [h1']
   refine j0e (h39 n xs hl hn hn2) rfl rfl (fun _=>rfl) ?_
   simp [isTup,h1]
 · have h1':¬(xs.length:Int)≤12:=by omega
   simp [h1',isTup,h1,j01]

def S_clone (pg:Pg):Prop:=∀ xs:List Int,xs.length≤1048576→Call pg 36 [ix xs] [ix xs] (.mem .own (some 1) (xs.map I))
theorem t_clone {pg:Pg} (hp:pg.fn 36=some j1n):S_clone pg:=by
 intro xs hl
 refine Call.intro hp rfl (by simp) ?_
 show wp _ _ j1n.body (post [.t 2] _ _ _) _
 simp [j1n,roomy]
 omega

set_option maxRecDepth 10000 in
theorem t_moved {pg:Pg} (hp:pg.fn 44=some c_impl_moved) (h36:S_clone pg):S_do pg 44:=by
 intro f s w i h hi hl hw
 refine Call.intro hp rfl (by simp) ?_
 show wp _ _ c_impl_moved.body (post [.t 6] _ _ _) _
 have h1:=hw _ (List.getElem_mem (show i<w.length by omega))
 have h2:=hw _ (List.getElem_mem hi)
 have fr':=fun x hx=>h.tf.row (x:=x) hx
 have sr':∀ x (hx:x<s.length),(s[x]).length=f.length:=fun x hx=>(h.ts.row hx).trans h.len
 have hi0:i<w.length:=by omega
 have hiI:(i:Int)+1<w.length:=by omega
 have e1:((i:Int)+1).toNat=i+1:=by omega
 have t1:(w[i]).toNat<f.length:=by omega
 have t2:(w[i+1]).toNat<f.length:=by omega
 have hb:-9223372036854775808≤(i:Int)+1∧(i:Int)+1≤9223372036854775807:=by omega
 have hb0:0≤(i:Int)+1:=by omega
 simp [c_impl_moved]
 refine j0e (h36 _ hl) rfl rfl (fun _=>by simp) ?_
 simp [hi,hb,hb0,hi0,hiI,e1,h1,h2,t1,t2,fr',sr',h.len,get_g2]
 refine ⟨by omega,?_⟩
 simp [dW,hi0,hi]

def tmOk (f:List (List Int)) (w:List Int) (p:Int):Prop:=isTup f.length w∧0≤p∧p≤(w.length:Int)-2
instance (f:List (List Int)) (w:List Int) (p:Int):Decidable (tmOk f w p):=by unfold tmOk;infer_instance
open Classical in
noncomputable def tmR (f s:List (List Int)) (w:List Int) (p:Int):Option (List Int):=if isSol f s then if tmOk f w p then some (dW f s w p.toNat) else none else none
open Classical in
noncomputable def tmC (f s:List (List Int)) (w:List Int) (p:Int):Int:=if isSol f s then if tmOk f w p then 0 else 2 else 1

def S_tm (pg:Pg) (n:Nat):Prop:=∀ (f s:List (List Int)) (w:List Int) (p:Int),fits f→fits s→w.length≤1048576→Call pg n [sol f s,ix w,I p] [sol f s,ix w,I p] (.tup [ownI (tmR f s w p),I (tmC f s w p)])

theorem tm_do {pg:Pg} {n:Nat} (h:S_do pg n) {f s:List (List Int)} {w:List Int} {p:Int} (hpm:PM f s) (hl:w.length≤1048576) (hok:tmOk f w p):Call pg n [sol f s,ix w,I p] [sol f s,ix w,I p] (.mem .own (some 1) ((dW f s w p.toNat).map I)):=by
 have h1:((p.toNat:Nat):Int)=p:=Int.toNat_of_nonneg hok.2.1
 have:=h f s w p.toNat hpm (by have:=hok.2.2;have:=hok.2.1;omega) hl (fun x hx=>by have:=hok.1.2 x hx;omega)
 rw [h1] at this
 exact this

set_option maxRecDepth 10000 in
theorem t_tm26 {pg:Pg} (hp:pg.fn 26=some c_impl_TupleMove) (h42:S_isSol pg 42) (h34:S_tuple pg 34) (h35:S_in pg 35) (h44:S_do pg 44):S_tm pg 26:=by
 intro f s w p hf hs hl
 refine Call.intro hp rfl (by simp) ?_
 show wp _ _ c_impl_TupleMove.body (post [.t 6,.t 7] _ _ _) _
 simp [c_impl_TupleMove]
 refine j0e (h42 f s hf hs) rfl rfl (fun _=>rfl) ?_
 by_cases h:isSol f s
 · have hpm:=PM.of h.1
   have h0:=hpm.pos
   have h12:=hpm.small
   simp [j1p h]
   refine j0e (h34 _ w hl (by omega) (by omega)) rfl rfl (fun _=>rfl) ?_
   by_cases h1:isTup f.length w
   · simp [h1]
     refine ⟨by omega,?_⟩
     refine j0e (h35 p 0 _) rfl rfl (fun _=>rfl) ?_
     by_cases h2:0≤p∧p≤(w.length:Int)-2
     · have hok:tmOk f w p:=⟨h1,h2⟩
       have e1:tmR f s w p=some (dW f s w p.toNat):=by simp [tmR,h,hok]
       have e2:tmC f s w p=0:=by simp [tmC,h,hok]
       simp [h2]
       refine j0e (tm_do h44 hpm hl hok) rfl rfl (fun _=>by simp) ?_
       simp [e1,e2,ownI]
     · have hok:¬tmOk f w p:=fun hh=>h2 hh.2
       have e1:tmR f s w p=none:=by simp [tmR,h,hok]
       have e2:tmC f s w p=2:=by simp [tmC,h,hok]
       simp [h2,e1,e2,ownI]
   · have hok:¬tmOk f w p:=fun hh=>h1 hh.1
     have e1:tmR f s w p=none:=by simp [tmR,h,hok]
     have e2:tmC f s w p=2:=by simp [tmC,h,hok]
     simp [h1,e1,e2,ownI,j01]
 · have e1:tmR f s w p=none:=by simp [tmR,h]
   have e2:tmC f s w p=1:=by simp [tmC,h]
   simp [j1d h,e1,e2,ownI]
end Go.Mch
namespace Go.Mch

def eI:Option (List Int)→T
 | none=>nil
 | some X=>ix X
end Go.Mch
namespace Go.Mch


theorem len_le_of_sub {α:Type} [DecidableEq α]:∀ (l p:List α),l.Nodup→(∀ x∈l,x∈p)→l.length≤p.length
 | [],_,_,_=>by simp
 | a::l,p,hd,hs=>by
  have ha:a∈p:=hs a (by simp)
  have hn:=List.nodup_cons.1 hd
  have:=len_le_of_sub l (p.erase a) hn.2 fun x hx=>by
   have hne:x≠a:=fun e=>hn.1 (e▸hx)
   exact (List.mem_erase_of_ne hne).2 (hs x (by simp [hx]))
  have h2:=List.length_erase_of_mem ha
  have h3:0<p.length:=List.length_pos_of_mem ha
  simp only [List.length_cons]
  omega

theorem nodup_of_sub {α:Type} [DecidableEq α]:∀ (l p:List α),l.Nodup→(∀ x∈l,x∈p)→p.length=l.length→p.Nodup
 | [],p,_,_,h=>by
  have:p=[]:=List.eq_nil_of_length_eq_zero (by simpa using h)
  subst this
  exact List.nodup_nil
 | a::l,p,hd,hs,h=>by
  have ha:a∈p:=hs a (by simp)
  have hn:=List.nodup_cons.1 hd
  have h2:=List.length_erase_of_mem ha
  have h4:(p.erase a).length=l.length:=by simp only [List.length_cons] at h;omega
  have hsub:∀ x∈l,x∈p.erase a:=fun x hx=>by
   have hne:x≠a:=fun e=>hn.1 (e▸hx)
   exact (List.mem_erase_of_ne hne).2 (hs x (by simp [hx]))
  have hp:=nodup_of_sub l (p.erase a) hn.2 hsub h4
  have hna:a ∉ p.erase a:=fun hm=>by
   have:=len_le_of_sub (a::l) (p.erase a) hd fun x hx=>by
    rcases List.mem_cons.1 hx with rfl | hx
    · exact hm
    · exact hsub x hx
   simp only [List.length_cons] at this
   omega
  exact (List.perm_cons_erase ha).nodup_iff.2 (List.nodup_cons.2 ⟨hna,hp⟩)

def nums (n:Nat):List Int:=(List.range n).map Int.ofNat
theorem nums_nodup (n:Nat):(nums n).Nodup:=by
 refine List.Pairwise.map _ (fun a b h=>?_) (List.nodup_range (n:=n))
 intro e
 exact h (Int.ofNat.inj e)
theorem perm_permuted {p:List Int} (h1:1≤p.length) (h2:p.length≤12) (hr:∀ x∈p,0≤x∧x<p.length):isPerm p↔j05 p:=by
 constructor
 · intro h
   refine ⟨hr,nodup_of_sub (nums p.length) p (nums_nodup _) (fun x hx=>?_) (by simp [nums])⟩
   simp only [nums,List.mem_map,List.mem_range] at hx
   obtain ⟨k,hk,rfl⟩:=hx
   exact h.2.2 k hk
 · intro h
   refine ⟨h1,h2,fun x hx=>?_⟩
   by_cases hm:(x:Int)∈p
   · exact hm
   · have:=len_le_of_sub p ((nums p.length).erase x) h.2 fun y hy=>by
      have hy2:=hr y hy
      have hne:y≠(x:Int):=fun e=>hm (e▸hy)
      refine (List.mem_erase_of_ne hne).2 ?_
      simp only [nums,List.mem_map,List.mem_range]
      exact ⟨y.toNat,by omega,by show ((y.toNat:Nat):Int)=y;omega⟩
     have hx2:(x:Int)∈nums p.length:=by
      simp only [nums,List.mem_map,List.mem_range]
      exact ⟨x,hx,rfl⟩
     have h3:=List.length_erase_of_mem hx2
     have h4:(nums p.length).length=p.length:=by simp [nums]
     omega
end Go.Mch
namespace Go.Mch

def sdAt (t:List (List Int)) (x y z:Nat):Prop:=v2 t x (v2 t y z).toNat=v2 t (v2 t x y).toNat (v2 t x z).toNat
instance (t:List (List Int)) (x y z:Nat):Decidable (sdAt t x y z):=by unfold sdAt;infer_instance
def SD (t:List (List Int)):Prop:=∀ x y z:Nat,x<t.length→y<t.length→z<t.length→sdAt t x y z
theorem rfault (t:List (List Int)):∃ (a b c:Nat) (o:Option (List Int)),(o=none↔SD t)∧(a<t.length→o=some [(a:Int),b,c]∧b<t.length∧c<t.length∧¬sdAt t a b c)∧(¬a<t.length→a=t.length∧o=none) ∧
 ∀ x y z,x<t.length→y<t.length→z<t.length→¬sdAt t x y z→a<x∨(a=x∧(b<y∨(b=y∧c≤z))):=by
 rcases first3 (fun x y z=>¬sdAt t x y z) t.length with h | ⟨a,b,c,ha,hb,hc,hp,h⟩
 · refine ⟨t.length,0,0,none,⟨fun _ x y z hx hy hz=>?_,fun _=>rfl⟩,fun h=>absurd h (Nat.lt_irrefl _),fun _=>⟨rfl,rfl⟩,fun x y z hx hy hz hn=>absurd hn (h x y z hx hy hz)⟩
   exact Decidable.of_not_not (h x y z hx hy hz)
 · exact ⟨a,b,c,some [(a:Int),b,c],⟨fun h=>by simp at h,fun h=>absurd (h a b c ha hb hc) hp⟩,fun _=>⟨rfl,hb,hc,hp⟩,fun h=>absurd ha h,h⟩
def S_rackFault (pg:Pg) (n:Nat):Prop:=∀ t:List (List Int),Tab t→0<t.length→t.length≤12→∃ o:Option (List Int),(o=none↔SD t)∧(∀ l,o=some l→l.length=3)∧Call pg n [tb t] [tb t] (ownI o)

set_option maxRecDepth 10000 in
theorem t_rf48 {pg:Pg} (hp:pg.fn 48=some c_spec_l03Fault):S_rackFault pg 48:=by
 intro t h hpos h12
 obtain ⟨a,b,c,o,hl,hf1,hf2,hmin⟩:=rfault t
 have fr':=fun x hx=>h.row (x:=x) hx
 have hF0:∀ i j,0≤v2 t i j:=h.nonneg
 have hF1:∀ i j,v2 t i j<t.length:=h.lt hpos
 have hF2:∀ i j,(v2 t i j).toNat<t.length:=h.ltN hpos
 have h3:∀ l,o=some l→l.length=3:=fun l hl=>by
  by_cases ha:a<t.length
  · have:=(hf1 ha).1
    rw [hl] at this
    cases this
    rfl
  · have:=(hf2 ha).2
    rw [hl] at this
    cases this
 refine ⟨o,hl,h3,Call.intro hp rfl (by simp) ?_⟩
 show wp _ _ c_spec_l03Fault.body (post [.t 2] _ _ _) _
 simp [c_spec_l03Fault]
 refine j0a (fun x e=>x≤a∧e=fr [(0,some (.val (tb t))),(3,some (.val (I t.length))),(4,some (.val (I x)))]) t.length ?_ ?_ 0 _ (by omega) ?_
 · rintro x e hx ⟨hxa,rfl⟩
   simp [hx]
   refine j0a (fun y e=>(x=a→y≤b)∧e=fr [(0,some (.val (tb t))),(3,some (.val (I t.length))),(4,some (.val (I x))),(5,some (.val (I y)))]) t.length ?_ ?_ 0 _ (by omega) ?_
   · rintro y e hy ⟨hyb,rfl⟩
     simp [hy]
     refine j0a (fun z e=>(x=a→y=b→z≤c)∧e=fr [(0,some (.val (tb t))),(3,some (.val (I t.length))),(4,some (.val (I x))),(5,some (.val (I y))),(6,some (.val (I z)))]) t.length ?_ ?_ 0 _ (by omega) ?_
     · rintro z e hz ⟨hzc,rfl⟩
       by_cases e1:sdAt t x y z
       · have e2:=e1
         unfold sdAt at e2
         simp [hx,hy,hz,fr',get_v2,hF0,hF1,hF2,e2]
         have:¬(x=a∧y=b∧z=c):=fun ⟨g1,g2,g3⟩=>by
          subst g1 g2 g3
          exact (hf1 hx).2.2.2 e1
         omega
       · have:=hmin x y z hx hy hz e1
         have g1:x=a:=by omega
         subst g1
         have g2:y=b:=by have:=hyb rfl;omega
         subst g2
         have g3:z=c:=by have:=hzc rfl rfl;omega
         subst g3
         have e2:=e1
         unfold sdAt at e2
         simp [hx,hy,hz,fr',get_v2,hF0,hF1,hF2,e2,(hf1 hx).1,ownI]
     · rintro e ⟨hzc,rfl⟩
       simp
       have:¬(x=a∧y=b):=fun ⟨e1,e2⟩=>by
        have:=hzc e1 e2
        have:=(hf1 (by omega)).2.2.1
        omega
       omega
     · simp
   · rintro e ⟨hyb,rfl⟩
     simp
     have:¬x=a:=fun e1=>by
      have:=hyb e1
      have:=(hf1 (by omega)).2.1
      omega
     omega
   · simp
 · rintro e ⟨h1,rfl⟩
   simp [(hf2 (by omega)).2,ownI]
 · simp


set_option maxRecDepth 10000 in
theorem t_rf52 {pg:Pg} (hp:pg.fn 52=some c_impl_rackFault):S_rackFault pg 52:=by
 intro t h hpos h12
 obtain ⟨a,b,c,o,hl,hf1,hf2,hmin⟩:=rfault t
 have fr':=fun x hx=>h.row (x:=x) hx
 have hF0:∀ i j,0≤v2 t i j:=h.nonneg
 have hF1:∀ i j,v2 t i j<t.length:=h.lt hpos
 have hF2:∀ i j,(v2 t i j).toNat<t.length:=h.ltN hpos
 have h3:∀ l,o=some l→l.length=3:=fun l hl=>by
  by_cases ha:a<t.length
  · have:=(hf1 ha).1
    rw [hl] at this
    cases this
    rfl
  · have:=(hf2 ha).2
    rw [hl] at this
    cases this
 refine ⟨o,hl,h3,Call.intro hp rfl (by simp) ?_⟩
 show wp _ _ c_impl_rackFault.body (post [.t 2] _ _ _) _
 simp [c_impl_rackFault]
 refine j0a (fun x e=>x≤a∧e=fr [(0,some (.val (tb t))),(3,some (.val (I t.length))),(9,some (.val (I t.length))),(10,some (.val (I x)))]) t.length ?_ ?_ 0 _ (by omega) ?_
 · rintro x e hx ⟨hxa,rfl⟩
   simp [hx]
   refine j0a (fun y e=>(x=a→y≤b)∧e=fr [(0,some (.val (tb t))),(3,some (.val (I t.length))),(4,some (.val (I x))),(9,some (.val (I t.length))),(10,some (.val (I x))),(13,some (.val (I t.length))),(14,some (.val (I y)))]) t.length ?_ ?_ 0 _ (by omega) ?_
   · rintro y e hy ⟨hyb,rfl⟩
     simp [hy]
     refine j0a (fun z e=>(x=a→y=b→z≤c)∧e=fr [(0,some (.val (tb t))),(3,some (.val (I t.length))),(4,some (.val (I x))),(5,some (.val (I y))),(9,some (.val (I t.length))),(10,some (.val (I x))),(13,some (.val (I t.length))),(14,some (.val (I y))),(17,some (.val (I t.length))),(18,some (.val (I z)))]) t.length ?_ ?_ 0 _ (by omega) ?_
     · rintro z e hz ⟨hzc,rfl⟩
       by_cases e1:sdAt t x y z
       · have e2:=e1
         unfold sdAt at e2
         simp [hx,hy,hz,fr',get_v2,hF0,hF1,hF2,e2]
         have:¬(x=a∧y=b∧z=c):=fun ⟨g1,g2,g3⟩=>by
          subst g1 g2 g3
          exact (hf1 hx).2.2.2 e1
         omega
       · have:=hmin x y z hx hy hz e1
         have g1:x=a:=by omega
         subst g1
         have g2:y=b:=by have:=hyb rfl;omega
         subst g2
         have g3:z=c:=by have:=hzc rfl rfl;omega
         subst g3
         have e2:=e1
         unfold sdAt at e2
         simp [hx,hy,hz,fr',get_v2,hF0,hF1,hF2,e2,(hf1 hx).1,ownI]
     · rintro e ⟨hzc,rfl⟩
       simp
       have:¬(x=a∧y=b):=fun ⟨e1,e2⟩=>by
        have:=hzc e1 e2
        have:=(hf1 (by omega)).2.2.1
        omega
       omega
     · simp
   · rintro e ⟨hyb,rfl⟩
     simp
     have:¬x=a:=fun e1=>by
      have:=hyb e1
      have:=(hf1 (by omega)).2.1
      omega
     omega
   · simp
 · rintro e ⟨h1,rfl⟩
   simp [(hf2 (by omega)).2,ownI]
 · simp

def isRk (t:List (List Int)):Prop:=isTable t∧permRows t∧SD t
abbrev rk (t:List (List Int)):T:=.agg [tb t]
def S_isRk (pg:Pg) (n:Nat):Prop:=∀ t:List (List Int),fits t→Call pg n [rk t] [rk t] (B (dec (isRk t)))
theorem t_l03Is {pg:Pg} (hp:pg.fn 28=some c_spec_l03Is) (h46:S_table pg 46) (h47:S_perm pg 47) (h48:S_rackFault pg 48):S_isRk pg 28:=by
 intro t hf
 refine Call.intro hp rfl (by simp) ?_
 show wp _ _ c_spec_l03Is.body (post [.t 2] _ _ _) _
 simp [c_spec_l03Is]
 refine j0e (h46 t hf.1 hf.2) rfl rfl (fun _=>rfl) ?_
 by_cases h1:isTable t
 · have h12:=h1.2.1
   have hpp:∀ r∈t,isPerm r↔j05 r:=fun r hr=>by
    have h2:=h1.2.2 r hr
    exact perm_permuted (by have:=h1.1;omega) (by have:=h1.2.1;omega) (fun x hx=>by have:=h2.2 x hx;omega)
   simp [h1]
   refine j0a (fun k e=>(∀ i (h:i<t.length),i<k→j05 t[i])∧e=fr [(1,some (.val (.mem .own none [tb t]))),(3,some (.val (I k)))]) t.length ?_ ?_ 0 _ (by omega) ?_
   · rintro k e hk ⟨h2,rfl⟩
     simp [hk]
     refine j0e (h47 t[k] (hf.2 _ (List.getElem_mem hk))) rfl rfl (fun _=>rfl) ?_
     by_cases h3:isPerm t[k]
     · have h4:=(hpp _ (List.getElem_mem hk)).1 h3
       simp [h3]
       refine ⟨by omega,fun i hi hik=>?_⟩
       rcases Nat.lt_or_ge i k with h5 | h5
       · exact h2 i hi h5
       · have:i=k:=by omega
         subst this;exact h4
     · have h4:¬isRk t:=fun hh=>h3 ((hpp _ (List.getElem_mem hk)).2 (hh.2.1 _ (List.getElem_mem hk)))
       simp [h3,j1d h4]
   · rintro e ⟨h2,rfl⟩
     have hpr:permRows t:=fun r hr=>by
      obtain ⟨i,hi,rfl⟩:=List.getElem_of_mem hr
      exact h2 i hi hi
     obtain ⟨o,ho,ho3,hc⟩:=h48 t h1.2.2 h1.1 h1.2.1
     simp
     refine j0e hc rfl rfl (fun _=>by cases o <;> simp [ownI]) ?_
     by_cases h5:SD t
     · have h6:=ho.2 h5
       subst h6
       simp [ownI,j1p (show isRk t from ⟨h1,hpr,h5⟩)]
     · cases o with
       | none=>exact absurd (ho.1 rfl) h5
       | some l =>
        have h6:¬((l.length:Nat):Int)=0:=by have:=ho3 l rfl;omega
        have h7:¬l.length=0:=by have:=ho3 l rfl;omega
        simp [ownI,h7,j1d (show ¬isRk t from fun h=>h5 h.2.2)]
   · simp
 · simp [h1,j1d (show ¬isRk t from fun h=>h1 h.1)]

theorem t_IsRack {pg:Pg} (hp:pg.fn 33=some c_impl_IsRack) (h50:S_table pg 50) (h51:S_permRows pg) (h52:S_rackFault pg 52):S_isRk pg 33:=by
 intro t hf
 refine Call.intro hp rfl (by simp) ?_
 show wp _ _ c_impl_IsRack.body (post [.t 2] _ _ _) _
 simp [c_impl_IsRack]
 refine j0e (h50 t hf.1 hf.2) rfl rfl (fun _=>rfl) ?_
 by_cases h1:isTable t
 · simp [h1]
   refine j0e (h51 t hf.1 hf.2) rfl rfl (fun _=>rfl) ?_
   by_cases h2:permRows t
   · obtain ⟨o,ho,ho3,hc⟩:=h52 t h1.2.2 h1.1 h1.2.1
     simp [h2]
     refine j0e hc rfl rfl (fun _=>by cases o <;> simp [ownI]) ?_
     by_cases h5:SD t
     · have h6:=ho.2 h5
       subst h6
       simp [ownI,j1p (show isRk t from ⟨h1,h2,h5⟩)]
     · cases o with
       | none=>exact absurd (ho.1 rfl) h5
       | some l=>simp [ownI,j1d (show ¬isRk t from fun h=>h5 h.2.2)]
   · simp [h2,j01,j1d (show ¬isRk t from fun h=>h2 h.2.1)]
 · simp [h1,j01,j1d (show ¬isRk t from fun h=>h1 h.1)]
end Go.Mch
namespace Go.Mch

def rW (t:List (List Int)) (w:List Int) (i:Nat):List Int:=(w.set i (w.getD (i+1) 0)).set (i+1) (g2 t (w.getD (i+1) 0) (w.getD i 0))
end Go.Mch
namespace Go.Mch

@[simp] theorem frzL_mapI (k:K) (xs:List Int):T.frzL k (xs.map I)=xs.map I:=by
 induction xs with
 | nil=>rfl
 | cons x xs ih=>simp [ih]
@[simp] theorem frzL_tbL (k:K) (t:List (List Int)):T.frzL k (tbL t)=tbL t:=by
 induction t with
 | nil=>rfl
 | cons x xs ih=>simp only [tbL,List.map_cons] at ih ⊢;simp [ih]
theorem map_range_succ {α:Type} (f:Nat→α) (k:Nat):(List.range (k+1)).map f=(List.range k).map f++[f k]:=by simp [List.range_succ]

def tabL (n:Nat) (g:Nat→Nat→Int):List (List Int):=(List.range n).map fun x=>(List.range n).map fun y=>g x y
@[simp] theorem tabL_length (n:Nat) (g:Nat→Nat→Int):(tabL n g).length=n:=by simp [tabL]
theorem tabL_row {n:Nat} {g:Nat→Nat→Int} {r:List Int} (h:r∈tabL n g):r.length=n:=by
 simp only [tabL,List.mem_map] at h
 obtain ⟨x,_,rfl⟩:=h
 simp
theorem v2_tabL {n:Nat} {g:Nat→Nat→Int} {x y:Nat} (hx:x<n) (hy:y<n):v2 (tabL n g) x y=g x y:=by
 simp [v2,tabL,hx,hy]
theorem tab_of {n:Nat} {g:Nat→Nat→Int} (h:∀ x y,x<n→y<n→0≤g x y∧g x y<n):Tab (tabL n g):=by
 intro r hr
 refine ⟨by rw [tabL_row hr];simp,fun v hv=>?_⟩
 simp only [tabL,List.mem_map,List.mem_range] at hr
 obtain ⟨x,hx,rfl⟩:=hr
 simp only [List.mem_map,List.mem_range] at hv
 obtain ⟨y,hy,rfl⟩:=hv
 simpa using h x y hx hy
theorem tabL_congr {n:Nat} {g g':Nat→Nat→Int} (h:∀ x y,x<n→y<n→g x y=g' x y):tabL n g=tabL n g':=by
 unfold tabL
 apply List.map_congr_left
 intro x hx
 apply List.map_congr_left
 intro y hy
 exact h x y (by simpa using hx) (by simpa using hy)
theorem tab_eq {t:List (List Int)} {n:Nat} (hn:t.length=n) (h:∀ r∈t,r.length=n):t=tabL n (v2 t):=by
 subst hn
 unfold tabL
 apply List.ext_getElem
 · simp
 · intro i h1 h2
   apply List.ext_getElem
   · simp [h _ (List.getElem_mem h1)]
   · intro j h3 h4
     simp [v2,h1,h3]

def turnL (t:List (List Int)):List (List Int):=tabL t.length fun x y=>v2 t y x
@[simp] theorem turnL_length (t:List (List Int)):(turnL t).length=t.length:=by simp [turnL]
def S_turn (pg:Pg) (n:Nat):Prop:=∀ t:List (List Int),Tab t→t.length≤12→Call pg n [tb t] [tb t] (.mem .own (some 1) (rows (turnL t)))
def S_tableBy (pg:Pg):Prop:=∀ (n:Nat) (g:Nat→Nat→Int) (f:Nat) (caps:List T),n≤1048576→T.eryL .old caps=caps→T.j0n caps=true →
 (∀ x y:Nat,x<n→y<n→Call pg f (I x::I y::caps) (I x::I y::caps) (I (g x y)))→Call pg 376 [I n,.fn f caps] [I n,.fn f caps] (.mem .own (some 1) (rows (tabL n g)))

theorem set_mid {α:Type} {l:List α} {r:List α} {k:Nat} {z v:α} (h:l.length=k):(l++z::r).set k v=l++v::r:=by
 subst h;simp
theorem fill_succ {α:Type} {n k:Nat} (z:α) (h:k<n):List.replicate (n-k) z=z::List.replicate (n-(k+1)) z:=by
 rw [show n-k=(n-(k+1))+1 from by omega,List.replicate_succ]

set_option maxRecDepth 10000 in
theorem t_tableBy {pg:Pg} (hp:pg.fn 376=some c_impl_tableBy):S_tableBy pg:=by
 intro n g f caps hn hc1 hc2 hc
 refine Call.intro hp rfl (by simp [hc2]) ?_
 show wp _ _ c_impl_tableBy.body (post [.t 4] _ _ _) _
 simp [c_impl_tableBy]
 refine ⟨by unfold roomy;omega,?_⟩
 refine j0a (fun x e=>e=fr [(0,some (.val (I n))),(1,some (.val (.fn f caps))),(5,some (.val (.mem .own (some 1) (rows ((List.range x).map fun i=>(List.range n).map (g i))++List.replicate (n-x) nil)))),(11,some (.val (I n))),(12,some (.val (I x)))]) n ?_ ?_ 0 _ (by omega) ?_
 · rintro x e hx rfl
   have hlen:(rows ((List.range x).map fun i=>(List.range n).map (g i))).length=x:=by simp
   rw [fill_succ nil hx]
   simp [hx,set_mid hlen]
   refine ⟨by unfold roomy;omega,by omega,?_⟩
   refine j0a (fun y e=>e=fr [(0,some (.val (I n))),(1,some (.val (.fn f caps))),(5,some (.val (.mem .own (some 1) (rows ((List.range x).map fun i=>(List.range n).map (g i))++.mem .own (some 1) (((List.range y).map (g x)).map I++List.replicate (n-y) (I 0))::List.replicate (n-(x+1)) nil)))),(6,some (.val (I x))),(11,some (.val (I n))),(12,some (.val (I x))),(24,some (.val (I n))),(25,some (.val (I y)))]) n ?_ ?_ 0 _ (by omega) ?_
   · rintro y e hy rfl
     have hlen2:(((List.range y).map (g x)).map I).length=y:=by simp
     rw [fill_succ (I 0) hy]
     simp [hy]
     refine ⟨by omega,?_⟩
     refine j0e (by simpa [hc1] using hc x y hx hy) rfl rfl (fun _=>by simp) ?_
     simp [set_mid hlen,map_range_succ]
     omega
   · rintro e rfl
     simp [map_range_succ,rows_append]
     simp [rows]
     omega
   · simp
 · rintro e rfl
   simp [tabL,hc2]
 · simp [rows]

def S_turn1 (pg:Pg):Prop:=∀ (t:List (List Int)) (x y:Nat) (hx:x<t.length) (hy:y<t.length),(t[y]).length=t.length→Call pg 377 [I x,I y,.mem .old none [tb t]] [I x,I y,.mem .old none [tb t]] (I (v2 t y x))
theorem t_turn1 {pg:Pg} (hp:pg.fn 377=some c_impl_transposed_1):S_turn1 pg:=by
 intro t x y hx hy hr
 refine Call.intro hp rfl (by simp) ?_
 show wp _ _ c_impl_transposed_1.body (post [.t 5] _ _ _) _
 simp [c_impl_transposed_1,hx,hy,hr,get_v2]
theorem t_transposed {pg:Pg} (hp:pg.fn 267=some c_impl_transposed) (h376:S_tableBy pg) (h377:S_turn1 pg):S_turn pg 267:=by
 intro t ht hl
 refine Call.intro hp rfl (by simp) ?_
 show wp _ _ c_impl_transposed.body (post [.t 2] _ _ _) _
 simp [c_impl_transposed]
 refine j0e (h376 t.length (fun x y=>v2 t y x) 377 [.mem .old none [tb t]] (by omega) (by simp) (by simp) (fun x y hx hy=>h377 t x y hx hy (ht.row hy))) rfl rfl (fun _=>by simp) ?_
 simp [turnL]

def nonDeg (f s:List (List Int)):Prop:=permRows f∧permRows (turnL s)
instance (f s:List (List Int)):Decidable (nonDeg f s):=by unfold nonDeg;infer_instance
def S_nonDeg (pg:Pg) (n:Nat):Prop:=∀ f s:List (List Int),PM f s→Call pg n [sol f s] [sol f s] (B (decide (nonDeg f s)))
theorem turnL_fits {t:List (List Int)} (h:t.length≤12):∀ r∈turnL t,r.length≤1048576:=fun r hr=>by
 have:=tabL_row hr
 omega

theorem t_isNondeg {pg:Pg} (hp:pg.fn 285=some c_impl_isNondegenerate) (h51:S_permRows pg) (h267:S_turn pg 267):S_nonDeg pg 285:=by
 intro f s h
 have h0:=h.pos
 have h12:=h.small
 have hl:=h.len
 refine Call.intro hp rfl (by simp) ?_
 show wp _ _ c_impl_isNondegenerate.body (post [.t 2] _ _ _) _
 simp [c_impl_isNondegenerate]
 refine j0e (h51 f (by omega) (fun r hr=>by have:=(h.tf r hr).1;omega)) rfl rfl (fun _=>rfl) ?_
 by_cases h1:permRows f
 · simp [h1]
   refine j0e (h267 s h.ts (by omega)) rfl rfl (fun _=>by simp) ?_
   simp
   refine j0e (h51 (turnL s) (by simp;omega) (turnL_fits (by omega))) rfl rfl (fun _=>rfl) ?_
   simp [nonDeg,h1]
 · simp [h1,nonDeg,j01]

theorem permRows_spec {t:List (List Int)} (h:Tab t) (h0:0<t.length) (h12:t.length≤12):(∀ r∈t,isPerm r)↔permRows t:=by
 constructor
 · intro g r hr
   have:=h r hr
   exact (perm_permuted (by omega) (by omega) (fun x hx=>by have:=this.2 x hx;omega)).1 (g r hr)
 · intro g r hr
   have:=h r hr
   exact (perm_permuted (by omega) (by omega) (fun x hx=>by have:=this.2 x hx;omega)).2 (g r hr)

def isReg (f s:List (List Int)):Prop:=isSol f s∧nonDeg f s
end Go.Mch
namespace Go.Mch

def thenL (p q:List Int):List Int:=p.map fun x=>q.getD x.toNat 0
@[simp] theorem thenL_length (p q:List Int):(thenL p q).length=p.length:=by simp [thenL]
def S_then (pg:Pg) (n:Nat):Prop:=∀ p q:List Int,p.length≤1048576→inN q.length p→Call pg n [ix p,ix q] [ix p,ix q] (.mem .own (some 1) ((thenL p q).map I))
theorem thenL_take {p q:List Int} {k:Nat} (hk:k<p.length) (h:(p[k]).toNat<q.length):(thenL p q).take (k+1)=(thenL p q).take k++[q[(p[k]).toNat]]:=by
 rw [List.take_succ_eq_append_getElem (by simpa using hk)]
 simp [thenL,h]
theorem t_l01Then {pg:Pg} (hp:pg.fn 279=some c_spec_l01Then):S_then pg 279:=by
 intro p q hl hi
 refine Call.intro hp rfl (by simp) ?_
 show wp _ _ c_spec_l01Then.body (post [.t 4] _ _ _) _
 simp [c_spec_l01Then]
 refine j0a (fun k e=>e=fr [(0,some (.val (ix p))),(1,some (.val (ix q))),(5,some (.val (.mem .own (some 1) (((thenL p q).take k).map I)))),(6,some (.val (I k)))]) p.length ?_ ?_ 0 _ (by omega) ?_
 · rintro k e hk rfl
   have h1:=hi _ (List.getElem_mem hk)
   have h2:(p[k]).toNat<q.length:=by omega
   simp [hk,h1,h2,thenL_take hk h2,roomy]
   omega
 · rintro e rfl
   simp [take_len]
 · simp

def S_copyT (pg:Pg) (n:Nat):Prop:=∀ t:List (List Int),fits t→Call pg n [tb t] [tb t] (.mem .own (some 1) (rows t))
theorem rows_take_succ {t:List (List Int)} {k:Nat} (hk:k<t.length):rows (t.take (k+1))=rows (t.take k)++[.mem .own (some 1) ((t[k]).map I)]:=by
 rw [List.take_succ_eq_append_getElem hk,rows_append];rfl
theorem t_l01Own2 {pg:Pg} (hp:pg.fn 280=some c_spec_l01Own2) (h31:S_own pg):S_copyT pg 280:=by
 intro t ht
 have hl:=ht.1
 refine Call.intro hp rfl (by simp) ?_
 show wp _ _ c_spec_l01Own2.body (post [.t 2] _ _ _) _
 simp [c_spec_l01Own2]
 refine j0a (fun k e=>e=fr [(0,some (.val (tb t))),(3,some (.val (.mem .own (some 1) (rows (t.take k))))),(4,some (.val (I k)))]) t.length ?_ ?_ 0 _ (by omega) ?_
 · rintro k e hk rfl
   simp [hk]
   refine j0e (h31 _ (ht.2 _ (List.getElem_mem hk))) rfl rfl (fun _=>by simp) ?_
   simp [rows_take_succ hk,roomy]
   omega
 · rintro e rfl
   simp [take_len]
 · simp [rows]

abbrev RI:=List (List Int)→List (List Int)→Int

def abel (f:List (List Int)):Prop:=∀ x y:Nat,x<f.length→y<f.length→thenL (f.getD x []) (f.getD y [])=thenL (f.getD y []) (f.getD x [])
instance (f:List (List Int)):Decidable (abel f):=by
 have:abel f↔∀ x∈List.range f.length,∀ y∈List.range f.length,thenL (f.getD x []) (f.getD y [])=thenL (f.getD y []) (f.getD x []):=by
  simp only [abel,List.mem_range]
  exact ⟨fun h x hx y hy=>h x y hx hy,fun h x y hx hy=>h x hx y hy⟩
 exact decidable_of_iff _ this.symm
end Go.Mch
namespace Go.Mch

def act (p:List Int) (x:Int):Int:=p.getD x.toNat 0
theorem mem_nums {n:Nat} {x:Int}:x∈nums n↔0≤x∧x<n:=by
 simp only [nums,List.mem_map,List.mem_range]
 constructor
 · rintro ⟨k,hk,rfl⟩
   simp only [Int.ofNat_eq_natCast]
   omega
 · rintro ⟨h1,h2⟩
   exact ⟨x.toNat,by omega,by simp only [Int.ofNat_eq_natCast];omega⟩

end Go.Mch
namespace Go.Mch

theorem bx {α β:Type} {o:Option α} {f:α→Prop} {g:β→α→Prop} (hf:∀ a,f a→∃ r,g r a) (h:j0c o f):∃ r,j0c o (g r):=by
 obtain ⟨a,h1,h2⟩:=h
 obtain ⟨r,h3⟩:=hf a h2
 exact ⟨r,a,h1,h3⟩
theorem ax {β:Type} {p:Prop} {K:β→Prop} (h:p∧∃ r,K r):∃ r,p∧K r:=by
 obtain ⟨h1,r,h2⟩:=h
 exact ⟨r,h1,h2⟩

theorem stepQ_ex {β:Type} {G:Rl} {m:K} {d:Option Nat} {q:Q} {k:β→Env→Prop} {e:Env} (h:j0p G m d q (fun e=>∃ r,k r e) e):∃ r,j0p G m d q (k r) e:=by
 cases q <;> simp only [j0p] at h ⊢
 case mv=>exact bx (fun _ h=>h) h
 case mvw=>exact bx (fun _ h=>ax h) h
 case stsw=>exact bx (fun _ h=>bx (fun _ h=>bx (fun _ h=>ax ⟨h.1,bx (fun _ h=>h) h.2⟩) h) h) h
 case sts x y =>
  refine bx (fun a ha=>bx (fun v hv=>?_) ha) h
  split at hv
  · split at hv
    · exact ax hv
    · exact hv.elim
  · exact hv.elim
 case asg x =>
  refine bx (fun v hv=>?_) h
  cases v
  case val t=>exact hv
  all_goals exact bx (fun _ h=>h) hv
 case pick=>exact bx (fun _ h=>bx (fun _ h=>h) h) h
 case bin=>exact bx (fun _ h=>bx (fun _ h=>bx (fun _ h=>h) h) h) h
 case beq=>exact bx (fun _ h=>bx (fun _ h=>h) h) h
 case isnil=>exact bx (fun _ h=>h) h
 case fncl=>exact bx (fun _ h=>bx (fun _ h=>h) h) h
 case slen=>exact bx (fun _ h=>h) h
 case un=>exact bx (fun _ h=>bx (fun _ h=>h) h) h
 case conv=>exact bx (fun _ h=>h) h
 case len=>exact bx (fun _ h=>h) h
 case idx=>exact bx (fun _ h=>bx (fun _ h=>bx (fun _ h=>h) h) h) h
 case fld=>exact bx (fun _ h=>bx (fun _ h=>h) h) h
 case fldv=>exact bx (fun _ h=>bx (fun _ h=>h) h) h
 case ld=>exact bx (fun _ h=>bx (fun _ h=>h) h) h
 case st =>
  refine bx (fun a ha=>bx (fun v hv=>bx (fun y hy=>?_) hv) ha) h
  split at hy
  · split at hy
    · exact ax hy
    · exact hy.elim
  · exact hy.elim
 case nilck =>
  refine bx (fun a ha=>?_) h
  split at ha
  · exact ha
  · exact ha
  · exact ha.elim
 case alloc=>exact h
 case box=>exact bx (fun _ h=>bx (fun _ h=>ax h) h) h
 case build=>exact bx (fun _ h=>bx (fun _ h=>h) h) h
 case mks=>exact bx (fun _ h=>ax h) h
 case bsl=>exact bx (fun _ h=>bx (fun _ h=>ax h) h) h
 case app =>
  refine bx (fun a ha=>bx (fun b hb=>bx (fun z hz=>bx (fun u hu=>?_) hz) hb) ha) h
  have h2:=hu.2
  split at h2
  · by_cases h0:u.1=[]
    · obtain ⟨r,h3⟩:=h2.1 h0
      exact ⟨r,hu.1,fun _=>h3,fun h4=>(h4 h0).elim⟩
    · obtain ⟨r,h3⟩:=h2.2 h0
      exact ⟨r,hu.1,fun h4=>(h0 h4).elim,fun _=>h3⟩
  · obtain ⟨r,h3⟩:=h2
    exact ⟨r,hu.1,h3⟩
 case sl=>exact bx (fun _ h=>bx (fun _ h=>bx (fun _ h=>bx (fun _ h=>h) h) h) h) h
 case ext=>exact bx (fun _ h=>bx (fun _ h=>h) h) h
 case fnc=>exact bx (fun _ h=>h) h
 case call f args =>
  refine bx (fun fv hv=>?_) h
  split at hv
  · refine bx (fun ts ht=>?_) hv
    obtain ⟨ts',r,h1,h2,h3,h4⟩:=ht
    obtain ⟨y,h5⟩:=bx (fun _ h=>h) h4
    exact ⟨y,ts',r,h1,h2,h3,h5⟩
  · exact hv.elim
 case freeze=>exact bx (fun _ h=>h) h
 case settle=>exact bx (fun _ h=>h) h
 case mm=>exact bx (fun _ h=>bx (fun _ h=>bx (fun _ h=>h) h) h) h
 case cap0=>exact bx (fun _ h=>bx (fun _ h=>h) h) h
 case bstr=>exact bx (fun _ h=>bx (fun _ h=>h) h) h
 case bsls=>exact bx (fun _ h=>bx (fun _ h=>ax h) h) h
 case bslv=>exact bx (fun _ h=>bx (fun _ h=>h) h) h
 case tk1=>exact bx (fun _ h=>bx (fun _ h=>ax h) h) h
 case exts=>exact bx (fun _ h=>bx (fun _ h=>h) h) h
 case mvs=>exact bx (fun _ h=>bx (fun _ h=>h) h) h
 case bslw=>exact bx (fun _ h=>bx (fun _ h=>h) h) h
 case calls=>exact bx (fun _ h=>bx (fun _ h=>bx (fun _ h=>bx (fun _ h=>bx (fun _ h=>bx (fun _ h=>bx (fun _ h=>by
  obtain ⟨h0,ts',r,h1,x,h2⟩:=h
  exact ⟨x,h0,ts',r,h1,h2⟩) h) h) h) h) h) h) h
 case bsl1 n =>
  refine bx (fun v hv=>?_) h
  split at hv
  · exact ax hv
  · exact hv.elim
 case apz =>
  refine bx (fun v hv=>bx (fun _ hv=>?_) hv) h
  split at hv
  · exact ax hv
  · exact hv.elim
 case arr=>exact bx (fun _ h=>bx (fun _ h=>bx (fun _ h=>h) h) h) h
 case mkset=>exact h
 case look=>exact bx (fun _ h=>bx (fun _ h=>bx (fun _ h=>h) h) h) h
 case upd=>exact bx (fun _ h=>bx (fun _ h=>bx (fun _ h=>h) h) h) h
 case bslk x n =>
  refine bx (fun v hv=>bx (fun u hu=>?_) hv) h
  split at hu
  · exact ax hu
  · exact hu.elim
 case appk x y n =>
  refine bx (fun v hv=>bx (fun v hv=>bx (fun v hv=>bx (fun v hv=>bx (fun u hu=>?_) hv) hv) hv) hv) h
  split at hu
  · exact ax hu
  · exact hu.elim
 case boxk s =>
  refine bx (fun v hv=>?_) h
  split at hv
  · exact ax hv
  · exact hv.elim
 case callm f args ks =>
  refine bx (fun fv hv=>?_) h
  cases fv <;> try exact hv.elim
  rename_i t
  cases t <;> try exact hv.elim
  refine bx (fun vs hv=>ax ⟨hv.1,bx (fun y hy=>?_) hv.2⟩) hv
  obtain ⟨h0,ts',r,h1,h2,h3⟩:=hy
  obtain ⟨z,h4⟩:=bx (fun _ h=>bx (fun _ h=>h) h) h3
  exact ⟨z,h0,ts',r,h1,h2,h4⟩
 refine bx (fun a ha=>bx (fun n hn=>?_) ha) h
 split at hn
 · exact bx (fun _ h=>h) hn
 · exact hn.elim

theorem stepO_ex {β:Type} {G:Rl} {m:K} {o:O} {k:β→Env→Prop} {e:Env} (h:j1v G m o (fun e=>∃ r,k r e) e):∃ r,j1v G m o (k r) e:=by
 unfold j1v at *
 split
 · rename_i hg;simp only [hg] at h;exact stepQ_ex h
 · rename_i s b hg
   simp only [hg] at h
   split at h
   · split at h
     · rename_i h1;simp only [if_pos h1];exact stepQ_ex h
     · rename_i h1;simp only [if_neg h1];exact h
   · exact h
   · exact h.elim

theorem wpL_ex {β:Type} {G:Rl} {m:K}:∀ (l:List O) {k:β→Env→Prop} {e:Env},wpL G m l (fun e=>∃ r,k r e) e→∃ r,wpL G m l (k r) e
 | [],_,_,h=>h
 | _::l,k,_,h=>stepO_ex (k:=fun r=>wpL G m l (k r)) (stepO_mono (fun _ _ _ _ h=>h) (fun _ h=>wpL_ex l h) h)

theorem after_ex {β:Type} {n:β→Env→Prop} {R:β→X→Env→Prop}:∀ x e,X.after (fun e=>∃ r,n r e) (fun x e=>∃ r,R r x e) x e→∃ r,X.after (n r) (R r) x e
 | .nrm,_,h=>h
 | .ext _,_,h=>h
 | .ret,_,h=>h

theorem wp_ex {β:Type} {G:Rl} {m:K} (c:C):∀ {R:β→X→Env→Prop} {e:Env},wp G m c (fun x e=>∃ r,R r x e) e→∃ r,wp G m c (R r) e:=by
 induction c with
 | skip=>exact fun h=>h
 | region dr ops ks=>exact fun h=>wpL_ex ops h
 | seq a b iha ihb =>
  intro R e h
  exact iha (wp_mono (fun _ _ _ _ h=>h) a (fun x e hx=>after_ex x e (after_mono (fun _ h=>ihb h) (fun _ _ h=>h) x e hx)) h)
 | cond c a b iha ihb =>
  intro R e h
  refine bx (fun t ht=>?_) h
  cases t
  · exact ihb ht
  · exact iha ht
 | block id b ih =>
  intro R e h
  refine ih (wp_mono (fun _ _ _ _ h=>h) b (fun x e hx=>?_) h)
  cases x
  · exact hx
  · simp only [X.out] at hx ⊢
    split at hx
    · rename_i h1;simp only [if_pos h1];exact hx
    · rename_i h1;simp only [if_neg h1];exact hx
  · exact hx
 | loop b ih =>
  intro R e h
  refine h (fun e=>∃ r,wp G m (.loop b) (R r) e) fun e he=>?_
  obtain ⟨r,hr⟩:=ih (R:=fun r=>X.after (wp G m (.loop b) (R r)) (R r)) (wp_mono (fun _ _ _ _ h=>h) b (fun x e hx=>after_ex x e hx) he)
  exact ⟨r,wpLoop_round hr⟩
 | exit id=>exact fun h=>h
 | ret=>exact fun h=>h
 | stuck=>exact fun h=>h.elim

theorem Call.find {α:Type} {pg:Pg} {f:Nat} {args:List T} {fn:F} {r:α→T} {Q:α→Prop} (hf:pg.fn f=some fn) (hn:fn.np=args.length) (hl:T.j0n args=true)
 (h:wp (Call pg) .fresh fn.body (fun x e=>∃ l,Q l∧post fn.rs args args (r l) x e) (init args)):∃ l,Q l∧Call pg f args args (r l):=by
 obtain ⟨⟨l,hq⟩,hl2⟩:=wp_ex (β:={ l // Q l }) (R:=fun l x e=>post fn.rs args args (r l.1) x e) fn.body (wp_mono (fun _ _ _ _ h=>h) _ (fun _ _ ⟨l,hq,hp⟩=>⟨⟨l,hq⟩,hp⟩) h)
 exact ⟨l,hq,Call.intro hf hn hl hl2⟩
end Go.Mch
namespace Go.Mch

@[simp] theorem dec_True:dec True=true:=j1p trivial
@[simp] theorem dec_False:dec False=false:=j1d id
theorem permRows_mem {t:List (List Int)} (h:Tab t) (h0:0<t.length) (h12:t.length≤12) (hp:permRows t) {y:Nat} (hy:y<t.length) {x:Int} (hx:0≤x∧x<t.length):x∈t[y]:=by
 have h1:=(permRows_spec h h0 h12).2 hp _ (List.getElem_mem hy)
 have h2:=h.row hy
 have:=h1.2.2 x.toNat (by omega)
 rwa [Int.toNat_of_nonneg hx.1] at this
theorem ixOf_in {xs:List Int} {n:Int} (h:n∈xs):0≤ixOf xs n∧ixOf xs n<xs.length:=⟨(ixOf_mem xs n).2 h,(ixOf_le xs n).2⟩


def gmL (f:List (List Int)) (w:List Int):List Int:=(List.range w.length).map fun i=>(w.take i).foldr (g2 f) (w.getD i 0)
theorem foldg_in {f s:List (List Int)} (h:PM f s) (l:List Int) {x:Int} (hx:0≤x∧x<f.length):0≤l.foldr (g2 f) x∧l.foldr (g2 f) x<f.length:=by
 cases l with
 | nil=>exact hx
 | cons y l=>exact h.gF _ _
end Go.Mch
namespace Go.Mch

def S_indexIn (pg:Pg) (n:Nat):Prop:=∀ (xs:List Int) (v:Int),xs.length≤1048576→Call pg n [ix xs,I v] [ix xs,I v] (I (ixOf xs v))
theorem t_slicesIndex {pg:Pg} (hp:pg.fn 384=some j1m):S_indexIn pg 384:=by
 intro xs v hl
 refine Call.intro hp rfl (by simp) ?_
 show wp _ _ j1m.body (post [.t 4] _ _ _) _
 simp [j1m]
 refine j0a (fun k e=>(∀ i (h:i<xs.length),i<k→xs[i]≠v)∧e=fr [(0,some (.val (ix xs))),(1,some (.val (I v))),(7,some (.val (I xs.length))),(8,some (.val (I k)))]) xs.length ?_ ?_ 0 _ (by omega) ?_
 · rintro k e hk ⟨h1,rfl⟩
   by_cases hm:xs[k]=v
   · have:=ixOf_at hk (fun i hi=>h1 i (by omega) hi) hm
     simp [hk,hm,this]
   · have hm2:¬v=xs[k]:=fun h=>hm h.symm
     simp [hk,hm2]
     refine ⟨by omega,fun i hi hik=>?_⟩
     rcases Nat.lt_or_ge i k with h2 | h2
     · exact h1 i hi h2
     · have:i=k:=by omega
       subst this;exact hm
 · rintro e ⟨h1,rfl⟩
   have:=ixOf_none (xs:=xs) (n:=v) (fun i hi=>h1 i hi hi)
   simp [this]
 · simp
theorem t_indexIn {pg:Pg} (hp:pg.fn 287=some c_impl_indexIn) (h384:S_indexIn pg 384):S_indexIn pg 287:=by
 intro xs v hl
 refine Call.intro hp rfl (by simp) ?_
 show wp _ _ c_impl_indexIn.body (post [.t 4] _ _ _) _
 have:=ixOf_le xs v
 simp [c_impl_indexIn]
 refine j0e (h384 xs v hl) rfl rfl (fun _=>rfl) ?_
 simp

def gbL (f:List (List Int)) (w:List Int):Nat→List Int
 | 0=>[]
 | i+1=>gbL f w i++[(gbL f w i).foldl (fun x o=>ixOf (f.getD o.toNat []) x) (w.getD i 0)]
end Go.Mch
namespace Go.Mch

def uniqs (xs:List Int):List Int:=xs.foldl (fun s x=>if x∈s then s else s++[x]) []
def renum (xs:List Int):List Int:=(List.range xs.length).map fun k=>ixOf (uniqs (xs.take (k+1))) (xs.getD k 0)
end Go.Mch
namespace Go.Mch

def greatest (xs:List Int):Int:=xs.foldl (fun a x=>if a≤x then x+1 else a) 0
def eqv (a b:List (List Int)) (i j:Nat):Prop:=a.getD i []=a.getD j []∧b.getD i []=b.getD j []
instance (a b:List (List Int)) (i j:Nat):Decidable (eqv a b i j):=by unfold eqv;infer_instance
def lab (a b:List (List Int)) (i:Nat):Nat:=((List.range i).find? fun j=>decide (eqv a b i j)).getD i
def classes (f s:List (List Int)):List Int:=renum ((List.range f.length).map fun i=>(lab f (turnL s) i:Int))
def idL (n:Nat):List Int:=(List.range n).map fun i:Nat=>(i:Int)
@[simp] theorem idL_length (n:Nat):(idL n).length=n:=by simp [idL]
theorem idL_succ (n:Nat):idL (n+1)=idL n++[(n:Int)]:=by simp [idL,List.range_succ]

end Go.Mch
namespace Go.Mch

structure Nd (n:Nat) (σ τ:Nat→Nat→Nat):Prop where
 rs:∀ x y,x<n→y<n→σ x y<n
 rt:∀ x y,x<n→y<n→τ x y<n
 is:∀ x y y',x<n→y<n→y'<n→σ x y=σ x y'→y=y'
 it:∀ x y y',x<n→y<n→y'<n→τ x y=τ x y'→y=y'
 ss:∀ x w,x<n→w<n→∃ y,y<n∧σ x y=w
 st:∀ x w,x<n→w<n→∃ y,y<n∧τ x y=w
 e1:∀ x y z,x<n→y<n→z<n→σ (σ x y) (σ (τ y x) z)=σ x (σ y z)
 e2:∀ x y z,x<n→y<n→z<n→τ (σ (τ y x) z) (σ x y)=σ (τ (σ y z) x) (τ z y)
 e3:∀ x y z,x<n→y<n→z<n→τ z (τ y x)=τ (τ z y) (τ (σ y z) x)

def Alk (n:Nat) (σ τ:Nat→Nat→Nat) (x x':Nat):Prop:=∀ y,y<n→σ x y=σ x' y∧τ x y=τ x' y
structure Quo (n m:Nat) (σ τ:Nat→Nat→Nat) (c d:Nat→Nat):Prop where
 cm:∀ x,x<n→c x<m
 dn:∀ i,i<m→d i<n
 cd:∀ i,i<m→c (d i)=i
 ca:∀ x x',x<n→x'<n→(c x=c x'↔Alk n σ τ x x')
end Go.Mch
namespace Go.Mch

def plK (xs:List Int) (P:Int→Bool) (k:Nat):List Int:=((List.range k).filter fun i=>P (xs.getD i 0)).map fun i:Nat=>(i:Int)
def pl (xs:List Int) (P:Int→Bool):List Int:=plK xs P xs.length
end Go.Mch
namespace Go.Mch

def σN (f:List (List Int)) (x y:Nat):Nat:=(v2 f x y).toNat
def τN (s:List (List Int)) (y x:Nat):Nat:=(v2 s x y).toNat
def Rg (f s:List (List Int)):Prop:=PM f s∧YB f s∧nonDeg f s
theorem rg_of {f s:List (List Int)} (h:isReg f s):Rg f s:=⟨PM.of h.1.1,h.1.2.2,h.2⟩
theorem PM.v2f {f s:List (List Int)} (h:PM f s) (x y:Nat):((σN f x y:Nat):Int)=v2 f x y∧σN f x y<f.length:=by
 have h1:=h.tf.nonneg x y
 have h2:=h.tf.lt h.pos x y
 unfold σN
 omega
theorem PM.v2s {f s:List (List Int)} (h:PM f s) (x y:Nat):((τN s y x:Nat):Int)=v2 s x y∧τN s y x<f.length:=by
 have h1:=h.ts.nonneg x y
 have h2:=h.ts.lt (by rw [h.len];exact h.pos) x y
 rw [h.len] at h2
 unfold τN
 omega
theorem row_inj {r:List Int} (h:j05 r) {y y':Nat} (hy:y<r.length) (hy':y'<r.length) (he:r.getD y 0=r.getD y' 0):y=y':=by
 rw [List.getD_eq_getElem?_getD,List.getD_eq_getElem?_getD,List.getElem?_eq_getElem hy,List.getElem?_eq_getElem hy'] at he
 exact (List.getElem_inj h.2).1 he
theorem surj_of_inj {n:Nat} {g:Nat→Nat} (hr:∀ y,y<n→g y<n) (hi:∀ y y',y<n→y'<n→g y=g y'→y=y'):∀ w,w<n→∃ y,y<n∧g y=w:=by
 intro w hw
 apply Classical.byContradiction
 intro hno
 have hnd:(w::(List.range n).map g).Nodup:=by
  rw [List.nodup_cons]
  constructor
  · intro hm
    obtain ⟨y,hy,he⟩:=List.mem_map.1 hm
    exact hno ⟨y,by simpa using hy,he⟩
  · rw [List.Nodup,List.pairwise_map]
    refine (List.nodup_range (n:=n)).imp_of_mem ?_
    intro a b ha hb hab he
    exact hab (hi a b (by simpa using ha) (by simpa using hb) he)
 have:=len_le_of_sub (w::(List.range n).map g) (List.range n) hnd fun x hx=>by
  rcases List.mem_cons.1 hx with rfl | hx
  · simpa using hw
  · obtain ⟨y,hy,rfl⟩:=List.mem_map.1 hx
    simpa using hr y (by simpa using hy)
 simp at this
 omega
theorem nd_of {f s:List (List Int)} (h:Rg f s):Nd f.length (σN f) (τN s):=by
 obtain ⟨hp,hy,hn⟩:=h
 have rs:∀ x y,x<f.length→y<f.length→σN f x y<f.length:=fun x y _ _=>(hp.v2f x y).2
 have rt:∀ x y,x<f.length→y<f.length→τN s x y<f.length:=fun x y _ _=>(hp.v2s y x).2
 have is:∀ x y y',x<f.length→y<f.length→y'<f.length→σN f x y=σN f x y'→y=y':=fun x y y' hx h1 h2 he=>by
  have hr:=hn.1 f[x] (List.getElem_mem hx)
  have hl:=(hp.tf f[x] (List.getElem_mem hx)).1
  have e:f.getD x []=f[x]:=by simp [hx]
  refine row_inj hr (by omega) (by omega) ?_
  have a1:=(hp.v2f x y).1
  have a2:=(hp.v2f x y').1
  simp only [v2,e] at a1 a2
  omega
 have it:∀ x y y',x<f.length→y<f.length→y'<f.length→τN s x y=τN s x y'→y=y':=fun x y y' hx h1 h2 he=>by
  have hls:=hp.len
  have hxs:x<(turnL s).length:=by simp;omega
  have hr:=hn.2 (turnL s)[x] (List.getElem_mem hxs)
  have hl:=tabL_row (List.getElem_mem hxs:(turnL s)[x]∈tabL s.length fun x y=>v2 s y x)
  refine row_inj hr (by omega) (by omega) ?_
  have a1:=(hp.v2s y x).1
  have a2:=(hp.v2s y' x).1
  have b1:=v2_tabL (n:=s.length) (g:=fun x y=>v2 s y x) (x:=x) (y:=y) (by omega) (by omega)
  have b2:=v2_tabL (n:=s.length) (g:=fun x y=>v2 s y x) (x:=x) (y:=y') (by omega) (by omega)
  have e:(turnL s).getD x []=(turnL s)[x]:=by rw [List.getD_eq_getElem?_getD,List.getElem?_eq_getElem hxs];rfl
  change v2 (turnL s) x y=_ at b1
  change v2 (turnL s) x y'=_ at b2
  simp only [v2,e] at b1 b2 a1 a2
  omega
 refine ⟨rs,rt,is,it,fun x w hx hw=>surj_of_inj (fun y hy=>rs x y hx hy) (fun y y' h1 h2=>is x y y' hx h1 h2) w hw,fun x w hx hw=>surj_of_inj (fun y hy=>rt x y hx hy) (fun y y' h1 h2=>it x y y' hx h1 h2) w hw,?_,?_,?_⟩
 · intro x y z hx h1 h2
   have:=((yb_v2 f s x y z).1 (hy x y z hx h1 h2)).1
   exact congrArg Int.toNat this
 · intro x y z hx h1 h2
   have:=((yb_v2 f s x y z).1 (hy x y z hx h1 h2)).2.1
   exact congrArg Int.toNat this
 · intro x y z hx h1 h2
   have:=((yb_v2 f s x y z).1 (hy x y z hx h1 h2)).2.2
   exact congrArg Int.toNat this



end Go.Mch
namespace Go.Mch

theorem permuted_row {m:Nat} {g:Nat→Nat} (hr:∀ y,y<m→g y<m) (hi:∀ y y',y<m→y'<m→g y=g y'→y=y'):j05 ((List.range m).map fun y=>(g y:Int)):=by
 refine ⟨fun x hx=>?_,?_⟩
 · simp only [List.mem_map,List.mem_range] at hx
   obtain ⟨y,hy,rfl⟩:=hx
   have:=hr y hy
   simp
   omega
 · rw [List.Nodup,List.pairwise_map]
   refine (List.nodup_range (n:=m)).imp_of_mem ?_
   intro a b ha hb hab he
   exact hab (hi a b (by simpa using ha) (by simpa using hb) (by omega))
theorem rg_tab {m:Nat} {σ τ:Nat→Nat→Nat} (h:Nd m σ τ) (h0:0<m) (h12:m≤12):Rg (tabL m fun i j=>(σ i j:Int)) (tabL m fun i j=>(τ j i:Int)):=by
 have hf:∀ x y,x<m→y<m→v2 (tabL m fun i j=>(σ i j:Int)) x y=σ x y:=fun x y hx hy=>v2_tabL hx hy
 have hs:∀ x y,x<m→y<m→v2 (tabL m fun i j=>(τ j i:Int)) x y=τ y x:=fun x y hx hy=>v2_tabL hx hy
 have rs:=h.rs
 have rt:=h.rt
 refine ⟨⟨?_,?_,by simp,by simpa using h0,by simpa using h12⟩,?_,?_,?_⟩
 · exact tab_of fun x y hx hy=>by have:=rs x y hx hy;omega
 · exact tab_of fun x y hx hy=>by have:=rt y x hy hx;omega
 · intro x y z hx hy hz
   simp only [tabL_length] at hx hy hz
   rw [yb_v2]
   have a1:=rs x y hx hy
   have a2:=rt y x hy hx
   have a3:=rs y z hy hz
   have a4:=rt z y hz hy
   have a5:=rs _ z a2 hz
   have a6:=rt _ x a3 hx
   simp only [hf x y hx hy,hs x y hx hy,hf y z hy hz,hs y z hy hz,Int.toNat_natCast,hf _ z a2 hz,hs x _ hx a3,hf x _ hx a3,hf _ _ a1 a5,hs _ _ a1 a5,hf _ _ a6 a4,hs _ z a2 hz,hs _ _ a6 a4]
   have b1:=h.e1 x y z hx hy hz
   have b2:=h.e2 x y z hx hy hz
   have b3:=h.e3 x y z hx hy hz
   exact ⟨by rw [b1],by rw [b2],by rw [b3]⟩
 · intro r hr
   simp only [tabL,List.mem_map,List.mem_range] at hr
   obtain ⟨x,hx,rfl⟩:=hr
   exact permuted_row (fun y hy=>rs x y hx hy) (fun y y' h1 h2 he=>h.is x y y' hx h1 h2 he)
 · intro r hr
   have:turnL (tabL m fun i j=>(τ j i:Int))=tabL m fun i j=>(τ i j:Int):=by
    unfold turnL
    rw [tabL_length]
    exact tabL_congr fun x y hx hy=>hs y x hy hx
   rw [this] at hr
   simp only [tabL,List.mem_map,List.mem_range] at hr
   obtain ⟨x,hx,rfl⟩:=hr
   exact permuted_row (fun y hy=>rt x y hx hy) (fun y y' h1 h2 he=>h.it x y y' hx h1 h2 he)


end Go.Mch
namespace Go.Mch

def raV (f s:List (List Int)) (x y:Nat):Int:=v2 f x (v2 s y (ixOf (f.getD y []) x).toNat).toNat
def raT (f s:List (List Int)):List (List Int):=tabL f.length (raV f s)
@[simp] theorem raT_length (f s:List (List Int)):(raT f s).length=f.length:=by simp [raT]

theorem ra_in {f s:List (List Int)} (h:PM f s) (hp:permRows f) {x y:Nat} (hx:x<f.length) (hy:y<f.length):0≤ixOf f[y] x∧ixOf f[y] x<f.length:=by
 have h1:=ixOf_in (permRows_mem h.tf h.pos h.small hp hy (x:=(x:Int)) (by omega))
 have h2:=h.tf.row hy
 omega
theorem raV_in {f s:List (List Int)} (h:PM f s) (x y:Nat):0≤raV f s x y∧raV f s x y<f.length:=⟨h.tf.nonneg _ _,h.tf.lt h.pos _ _⟩
theorem raT_tab {f s:List (List Int)} (h:PM f s):Tab (raT f s):=tab_of fun _ _ _ _=>raV_in h _ _

def S_rackOf (pg:Pg) (n:Nat):Prop:=∀ f s:List (List Int),PM f s→permRows f→Call pg n [sol f s] [sol f s] (.agg [.mem .own (some 1) (rows (raT f s))])

def S_raV (pg:Pg):Prop:=∀ (f s:List (List Int)) (x y:Nat),PM f s→permRows f→x<f.length→y<f.length→Call pg 383 [I x,I y,.mem .old none [tb f,tb s]] [I x,I y,.mem .old none [tb f,tb s]] (I (raV f s x y))
set_option maxRecDepth 10000 in
theorem t_raV {pg:Pg} (hp:pg.fn 383=some c_impl_derivedRack_1) (h287:S_indexIn pg 287):S_raV pg:=by
 intro f s x y h hpr hx hy
 have h12:=h.small
 have hfr:=fun x hx=>h.tf.row (x:=x) hx
 have hsr:∀ x (hx:x<s.length),(s[x]).length=f.length:=fun x hx=>(h.ts.row hx).trans h.len
 have hz:=ra_in h hpr hx hy
 have hyy:=hfr y hy
 have hg:=h.gS (y:Int) (ixOf f[y] x)
 refine Call.intro hp rfl (by simp) ?_
 show wp _ _ c_impl_derivedRack_1.body (post [.t 5] _ _ _) _
 simp [c_impl_derivedRack_1,hy]
 refine j0e (h287 _ _ (by omega)) rfl rfl (fun _=>rfl) ?_
 have e1:(ixOf f[y] x).toNat<f.length:=by omega
 have e2:y<s.length:=by rw [h.len];exact hy
 have e3:(s[y])[(ixOf f[y] x).toNat]'(by rw [hsr y e2];exact e1)=v2 s y (ixOf f[y] x).toNat:=get_v2 _ _
 simp only [g2,Int.toNat_natCast] at hg
 have e4:(v2 s y (ixOf f[y] x).toNat).toNat<f.length:=by omega
 simp [hx,hy,e1,e3,e4,hz,hg,hfr,hsr,h.len,get_v2,raV]

theorem t_derivedRack {pg:Pg} (hp:pg.fn 286=some c_impl_derivedRack) (h376:S_tableBy pg) (h383:S_raV pg):S_rackOf pg 286:=by
 intro f s h hpr
 have h12:=h.small
 refine Call.intro hp rfl (by simp) ?_
 show wp _ _ c_impl_derivedRack.body (post [.cell 2 (some 1)] _ _ _) _
 simp [c_impl_derivedRack]
 refine j0e (h376 f.length (raV f s) 383 [.mem .old none [tb f,tb s]] (by omega) (by simp) (by simp) (fun x y hx hy=>h383 f s x y h hpr hx hy)) rfl rfl (fun _=>by simp) ?_
 simp [raT]


noncomputable def drC (f s:List (List Int)):Int:=if dec (isSol f s) then if nonDeg f s then 0 else 5 else 1
noncomputable def drR (f s:List (List Int)):Option (List (List Int)):=if dec (isReg f s) then some (raT f s) else none
def S_solK (pg:Pg) (n:Nat) (R:List (List Int)→List (List Int)→Option (List (List Int))) (C:RI):Prop:=∀ f s:List (List Int),fits f→fits s→Call pg n [sol f s] [sol f s] (.tup [.agg [ownT (R f s)],I (C f s)])
def S_dr (pg:Pg) (n:Nat):Prop:=S_solK pg n drR drC

theorem t_dr_impl {pg:Pg} (hp:pg.fn 148=some j1s) (h42:S_isSol pg 42) (h285:S_nonDeg pg 285) (h286:S_rackOf pg 286):S_dr pg 148:=by
 intro f s hf hs
 by_cases h1:isSol f s
 · have hpm:=PM.of h1.1
   by_cases h2:nonDeg f s
   · have hR:drR f s=some (raT f s):=by simp [drR,j1p (show isReg f s from ⟨h1,h2⟩)]
     refine Call.intro hp rfl (by simp) ?_
     show wp _ _ j1s.body (post [.cell 2 (some 1),.t 3] _ _ _) _
     simp [j1s]
     refine j0e (h42 f s hf hs) rfl rfl (fun _=>rfl) ?_
     simp [j1p h1]
     refine j0e (h285 f s hpm) rfl rfl (fun _=>rfl) ?_
     simp [h2]
     refine j0e (h286 f s hpm h2.1) rfl rfl (fun _=>by simp) ?_
     simp [drC,j1p h1,h2,ownT,hR]
   · have hR:drR f s=none:=by simp [drR,j1d (show ¬isReg f s from fun g=>h2 g.2)]
     refine Call.intro hp rfl (by simp) ?_
     show wp _ _ j1s.body (post [.cell 2 (some 1),.t 3] _ _ _) _
     simp [j1s]
     refine j0e (h42 f s hf hs) rfl rfl (fun _=>rfl) ?_
     simp [j1p h1]
     refine j0e (h285 f s hpm) rfl rfl (fun _=>rfl) ?_
     simp [h2,drC,j1p h1,ownT,hR]
 · have hR:drR f s=none:=by simp [drR,j1d (show ¬isReg f s from fun g=>h1 g.1)]
   refine Call.intro hp rfl (by simp) ?_
   show wp _ _ j1s.body (post [.cell 2 (some 1),.t 3] _ _ _) _
   simp [j1s]
   refine j0e (h42 f s hf hs) rfl rfl (fun _=>rfl) ?_
   simp [j1d h1,drC,ownT,hR]

def S_heldRack (pg:Pg):Prop:=∀ (o:Option (List (List Int))) (k:Int),smallT (lso o)→0≤k→k≤2305843009213693952→heldL (lso o) k≤4611686018427387904→Call pg 149 [.agg [eT o],I k] [.agg [eT o],I k] (I (if heldL (lso o) k<0 then -1 else heldL (lso o) k))
end Go.Mch
namespace Go.Mch

@[simp] theorem isPrefixOf_cons2 (a b:Nat) (as bs:List Nat):(a::as).isPrefixOf (b::bs)=(a == b&&as.isPrefixOf bs):=rfl

def solT:Option (List (List Int)×List (List Int))→T
 | none=>.agg [nil,nil]
 | some (X,Y)=>.agg [.mem .own (some 1) (rows X),.mem .own (some 1) (rows Y)]
def S_heldSol (pg:Pg):Prop:=∀ (o o':Option (List (List Int))) (k m:Int),smallT (lso o)→smallT (lso o')→0≤k→k≤1152921504606846976→0≤heldL (lso o) k→heldL (lso o) k≤1152921504606846976→heldL (lso o') (heldL (lso o) k)=m→0≤m→Call pg 172 [.agg [eT o,eT o'],I k] [.agg [eT o,eT o'],I k] (I m)
end Go.Mch
namespace Go.Mch


def S_sol1 (pg:Pg) (n:Nat) (snd:Bool):Prop:=∀ (x y g1 g2:Int) (f:Nat) (caps:List T),T.eryL .old caps=caps→T.j0n caps=true→Call pg f (I x::I y::caps) (I x::I y::caps) (.tup [I g1,I g2]) →
 Call pg n [I x,I y,.mem .old none [.fn f caps]] [I x,I y,.mem .old none [.fn f caps]] (I (if snd then g2 else g1))
theorem t_solutionBy1 {pg:Pg} (hp:pg.fn 391=some c_impl_solutionBy_1):S_sol1 pg 391 false:=by
 intro x y g1 g2 f caps hc1 hc2 hc
 refine Call.intro hp rfl (by simp [hc2]) ?_
 show wp _ _ c_impl_solutionBy_1.body (post [.t 5] _ _ _) _
 simp [c_impl_solutionBy_1]
 refine j0e (by simpa [hc1] using hc) rfl rfl (fun _=>by simp) ?_
 simp [hc2]
theorem t_solutionBy2 {pg:Pg} (hp:pg.fn 392=some c_impl_solutionBy_2):S_sol1 pg 392 true:=by
 intro x y g1 g2 f caps hc1 hc2 hc
 refine Call.intro hp rfl (by simp [hc2]) ?_
 show wp _ _ c_impl_solutionBy_2.body (post [.t 5] _ _ _) _
 simp [c_impl_solutionBy_2]
 refine j0e (by simpa [hc1] using hc) rfl rfl (fun _=>by simp) ?_
 simp [hc2]
def S_solBy (pg:Pg):Prop:=∀ (n:Nat) (g1 g2:Nat→Nat→Int) (f:Nat) (caps:List T),n≤1048576→T.eryL .old caps=caps→T.j0n caps=true →
 (∀ x y:Nat,x<n→y<n→Call pg f (I x::I y::caps) (I x::I y::caps) (.tup [I (g1 x y),I (g2 x y)])) →
 Call pg 308 [I n,.fn f caps] [I n,.fn f caps] (.agg [.mem .own (some 1) (rows (tabL n g1)),.mem .own (some 1) (rows (tabL n g2))])
theorem t_solutionBy {pg:Pg} (hp:pg.fn 308=some c_impl_solutionBy) (h376:S_tableBy pg) (h391:S_sol1 pg 391 false) (h392:S_sol1 pg 392 true):S_solBy pg:=by
 intro n g1 g2 f caps hn hc1 hc2 hc
 refine Call.intro hp rfl (by simp [hc2]) ?_
 show wp _ _ c_impl_solutionBy.body (post [.cell 4 (some 2)] _ _ _) _
 simp [c_impl_solutionBy,hc1,hc2]
 have k1:∀ x y:Nat,x<n→y<n→Call pg 391 (I x::I y::[.mem .old none [.fn f caps]]) (I x::I y::[.mem .old none [.fn f caps]]) (I (g1 x y)):=fun x y hx hy=>h391 x y (g1 x y) (g2 x y) f caps hc1 hc2 (hc x y hx hy)
 have k2:∀ x y:Nat,x<n→y<n→Call pg 392 (I x::I y::[.mem .old none [.fn f caps]]) (I x::I y::[.mem .old none [.fn f caps]]) (I (g2 x y)):=fun x y hx hy=>h392 x y (g1 x y) (g2 x y) f caps hc1 hc2 (hc x y hx hy)
 refine j0e (h376 n g1 391 [.mem .old none [.fn f caps]] hn (by simp [hc1]) (by simp [hc2]) k1) rfl rfl (fun _=>by simp) ?_
 simp [hc1,hc2]
 refine j0e (h376 n g2 392 [.mem .old none [.fn f caps]] hn (by simp [hc1]) (by simp [hc2]) k2) rfl rfl (fun _=>by simp) ?_
 simp [hc2]



end Go.Mch
namespace Go.Mch

def cmpI (a b:Int):Int:=if a<b then -1 else if b<a then 1 else 0
def cmpW {α:Type} (c:α→α→Int):List α→List α→Int
 | [],[]=>0
 | [],_::_=>-1
 | _::_,[]=>1
 | a::as,b::bs=>if c a b≠0 then c a b else cmpW c as bs
theorem cmpI_zero (a b:Int):cmpI a b=0↔a=b:=by
 unfold cmpI
 constructor
 · intro h
   split at h
   · omega
   · split at h <;> omega
 · rintro rfl;simp
theorem cmpW_zero {α:Type} {c:α→α→Int} (hc:∀ a b,c a b=0↔a=b):∀ as bs:List α,cmpW c as bs=0↔as=bs
 | [],[]=>by simp [cmpW]
 | [],_::_=>by simp [cmpW]
 | _::_,[]=>by simp [cmpW]
 | a::as,b::bs=>by
  have ih:=cmpW_zero hc as bs
  unfold cmpW
  by_cases h:c a b=0
  · have:=(hc a b).1 h
    subst this
    simp [h,ih]
  · have:a≠b:=fun he=>h ((hc a b).2 he)
    simp [h,this]
abbrev cmpL:List Int→List Int→Int:=cmpW cmpI
abbrev cmpT:List (List Int)→List (List Int)→Int:=cmpW cmpL
theorem cmpL_zero (a b:List Int):cmpL a b=0↔a=b:=cmpW_zero cmpI_zero a b
theorem cmpT_zero (a b:List (List Int)):cmpT a b=0↔a=b:=cmpW_zero cmpL_zero a b
theorem cmpW_drop {α:Type} {c:α→α→Int} {a b:List α} {i:Nat} (ha:i<a.length) (hb:i<b.length):cmpW c (a.drop i) (b.drop i)=if c a[i] b[i]≠0 then c a[i] b[i] else cmpW c (a.drop (i+1)) (b.drop (i+1)):=by
 rw [List.drop_eq_getElem_cons ha,List.drop_eq_getElem_cons hb,cmpW]
theorem cmpW_end {α:Type} {c:α→α→Int} {a b:List α} {i:Nat} (ha:i<a.length) (hb:¬i<b.length):cmpW c (a.drop i) (b.drop i)=1:=by
 rw [List.drop_eq_getElem_cons ha,List.drop_of_length_le (by omega:b.length≤i),cmpW]
theorem cmpW_last {α:Type} {c:α→α→Int} {a b:List α}:cmpW c (a.drop a.length) (b.drop a.length)=if a.length<b.length then -1 else 0:=by
 rw [List.drop_length]
 split
 · rename_i h;rw [List.drop_eq_getElem_cons h,cmpW]
 · rename_i h;rw [List.drop_of_length_le (by omega:b.length≤a.length),cmpW]

def S_nan (pg:Pg):Prop:=∀ a:Int,Call pg 443 [I a] [I a] (B false)
theorem t_isNaN {pg:Pg} (hp:pg.fn 443=some c_cmp_isNaN_int64_):S_nan pg:=by
 intro a
 refine Call.intro hp rfl (by simp) ?_
 show wp _ _ c_cmp_isNaN_int64_.body (post [.t 2] _ _ _) _
 simp [c_cmp_isNaN_int64_]
def S_cmpI (pg:Pg):Prop:=∀ a b:Int,Call pg 395 [I a,I b] [I a,I b] (I (cmpI a b))
theorem t_cmpI {pg:Pg} (hp:pg.fn 395=some c_cmp_Compare_int64_) (h443:S_nan pg):S_cmpI pg:=by
 intro a b
 refine Call.intro hp rfl (by simp) ?_
 show wp _ _ c_cmp_Compare_int64_.body (post [.t 4] _ _ _) _
 simp [c_cmp_Compare_int64_]
 refine j0e (h443 a) rfl rfl (fun _=>rfl) ?_
 simp
 refine j0e (h443 b) rfl rfl (fun _=>rfl) ?_
 unfold cmpI
 by_cases h1:a<b
 · simp [h1]
 · by_cases h2:b<a
   · simp [h1,h2]
   · simp [h1,h2]
def S_cmpL (pg:Pg):Prop:=∀ a b:List Int,a.length≤1048576→Call pg 314 [ix a,ix b] [ix a,ix b] (I (cmpL a b))
theorem t_cmpL {pg:Pg} (hp:pg.fn 314=some j1h) (h395:S_cmpI pg):S_cmpL pg:=by
 intro a b hl
 refine Call.intro hp rfl (by simp) ?_
 show wp _ _ j1h.body (post [.t 4] _ _ _) _
 simp [j1h]
 refine j0a (fun i e=>cmpL a b=cmpL (a.drop i) (b.drop i)∧e=fr [(0,some (.val (ix a))),(1,some (.val (ix b))),(9,some (.val (ix a))),(10,some (.val (I a.length))),(11,some (.val (I i)))]) a.length ?_ ?_ 0 _ (by omega) ⟨by simp,by simp⟩
 · rintro i e hi ⟨g,rfl⟩
   rw [g]
   clear g
   by_cases hb:i<b.length
   · have hd:=cmpW_drop (c:=cmpI) hi hb
     rw [show cmpL (a.drop i) (b.drop i)=_ from hd]
     have hnb:¬b.length≤i:=by omega
     simp [hi,hb,hnb]
     refine j0e (h395 _ _) rfl rfl (fun _=>rfl) ?_
     by_cases hc:cmpI a[i] b[i]=0
     · simp [hc]
       omega
     · simp [hc]
   · have hd:=cmpW_end (c:=cmpI) hi hb
     rw [show cmpL (a.drop i) (b.drop i)=_ from hd]
     have hnb:b.length≤i:=by omega
     simp [hi,hnb]
 · rintro e ⟨g,rfl⟩
   rw [g,show cmpL (a.drop a.length) (b.drop a.length)=_ from cmpW_last]
   by_cases h:a.length<b.length
   · simp [h]
   · simp [h]
def S_cmpT1 (pg:Pg):Prop:=∀ a b:List Int,a.length≤1048576→Call pg 432 [ix a,ix b] [ix a,ix b] (I (cmpL a b))
theorem t_cmpT1 {pg:Pg} (hp:pg.fn 432=some c_impl_compareTables_1) (h314:S_cmpL pg):S_cmpT1 pg:=by
 intro a b hl
 refine Call.intro hp rfl (by simp) ?_
 show wp _ _ c_impl_compareTables_1.body (post [.t 4] _ _ _) _
 simp [c_impl_compareTables_1]
 refine j0e (h314 a b hl) rfl rfl (fun _=>rfl) ?_
 simp
def S_cmpF (pg:Pg):Prop:=∀ a b:List (List Int),fits a→Call pg 431 [tb a,tb b,.fn 432 []] [tb a,tb b,.fn 432 []] (I (cmpT a b))
theorem t_cmpF {pg:Pg} (hp:pg.fn 431=some j0l) (h432:S_cmpT1 pg):S_cmpF pg:=by
 intro a b hl
 refine Call.intro hp rfl (by simp) ?_
 show wp _ _ j0l.body (post [.t 6] _ _ _) _
 simp [j0l]
 refine j0a (fun i e=>cmpT a b=cmpT (a.drop i) (b.drop i)∧e=fr [(0,some (.val (tb a))),(1,some (.val (tb b))),(2,some (.val (.fn 432 []))),(11,some (.val (tb a))),(12,some (.val (I a.length))),(13,some (.val (I i)))]) a.length ?_ ?_ 0 _ (by omega) ⟨by simp,by simp⟩
 · rintro i e hi ⟨g,rfl⟩
   rw [g]
   clear g
   have hr:=hl.2 _ (List.getElem_mem hi)
   have hl1:=hl.1
   by_cases hb:i<b.length
   · have hd:=cmpW_drop (c:=cmpL) hi hb
     rw [show cmpT (a.drop i) (b.drop i)=_ from hd]
     have hnb:¬b.length≤i:=by omega
     simp [hi,hb,hnb]
     refine j0e (h432 _ _ hr) rfl rfl (fun _=>rfl) ?_
     by_cases hc:cmpL a[i] b[i]=0
     · simp [hc]
       omega
     · simp [hc]
   · have hd:=cmpW_end (c:=cmpL) hi hb
     rw [show cmpT (a.drop i) (b.drop i)=_ from hd]
     have hnb:b.length≤i:=by omega
     simp [hi,hnb]
 · rintro e ⟨g,rfl⟩
   rw [g,show cmpT (a.drop a.length) (b.drop a.length)=_ from cmpW_last]
   by_cases h:a.length<b.length
   · simp [h]
   · simp [h]
def S_cmpT (pg:Pg):Prop:=∀ a b:List (List Int),fits a→Call pg 389 [tb a,tb b] [tb a,tb b] (I (cmpT a b))
theorem t_compareTables {pg:Pg} (hp:pg.fn 389=some c_impl_compareTables) (h431:S_cmpF pg):S_cmpT pg:=by
 intro a b hl
 refine Call.intro hp rfl (by simp) ?_
 show wp _ _ c_impl_compareTables.body (post [.t 4] _ _ _) _
 simp [c_impl_compareTables]
 refine j0e (h431 a b hl) rfl rfl (fun _=>rfl) ?_
 simp
def S_eqTb (pg:Pg) (n:Nat):Prop:=∀ a b:List (List Int),fits a→Call pg n [tb a,tb b] [tb a,tb b] (B (decide (a=b)))
theorem t_equalTables {pg:Pg} (hp:pg.fn 305=some c_impl_equalTables) (h389:S_cmpT pg):S_eqTb pg 305:=by
 intro a b hl
 refine Call.intro hp rfl (by simp) ?_
 show wp _ _ c_impl_equalTables.body (post [.t 4] _ _ _) _
 simp [c_impl_equalTables]
 refine j0e (h389 a b hl) rfl rfl (fun _=>rfl) ?_
 have:=cmpT_zero a b
 simp [this]
theorem t_l01Same2 {pg:Pg} (hp:pg.fn 302=some c_spec_l01Same2) (h67:S_same pg):S_eqTb pg 302:=by
 intro a b hl
 have hl1:=hl.1
 refine Call.intro hp rfl (by simp) ?_
 show wp _ _ c_spec_l01Same2.body (post [.t 4] _ _ _) _
 simp [c_spec_l01Same2]
 by_cases hlen:a.length=b.length
 · simp [hlen]
   refine j0a (fun i e=>(∀ j:Nat,j<i→a[j]?=b[j]?)∧e=fr [(0,some (.val (tb a))),(1,some (.val (tb b))),(5,some (.val (I i)))]) a.length ?_ ?_ 0 _ (by omega) ⟨fun j h=>by omega,by simp⟩
   · rintro i e hi ⟨g,rfl⟩
     have hb:i<b.length:=by omega
     have hr:=hl.2 _ (List.getElem_mem hi)
     by_cases hc:a[i]=b[i]
     · have hn:∀ j:Nat,j<i+1→a[j]?=b[j]?:=fun j hj=>by
        by_cases hji:j=i
        · subst hji;rw [List.getElem?_eq_getElem hi,List.getElem?_eq_getElem hb,hc]
        · exact g j (by omega)
       clear g
       simp [hi,hb]
       refine j0e (h67 _ _ hr) rfl rfl (fun _=>rfl) ?_
       simp [hc]
       exact ⟨by omega,hn⟩
     · have hne:a≠b:=fun he=>hc (by subst he;rfl)
       clear g
       simp [hi,hb]
       refine j0e (h67 _ _ hr) rfl rfl (fun _=>rfl) ?_
       simp [hc,hne]
   · rintro e ⟨g,rfl⟩
     have he:a=b:=List.ext_getElem? fun j=>by
      by_cases hj:j<a.length
      · exact g j hj
      · rw [List.getElem?_eq_none (by omega),List.getElem?_eq_none (by omega)]
     clear g
     simp [he]
 · have hne:a≠b:=fun he=>hlen (by rw [he])
   have hlen':¬(a.length:Int)=b.length:=by omega
   simp [hne]
   exact fun hh=>absurd hh hlen'
end Go.Mch
namespace Go.Mch

def atV (k:Env→Prop) (e:Env) (d:Option Nat) (n:Int):V→Prop
 | .val (.sc (.string s))=>j0c (if 0≤n then s[n.toNat]? else none) fun b=>k (e.setD d (.val (.sc (.int .u8 b.toNat))))
 | _=>False
section
variable (G:Rl) (m:K) (d:Option Nat) (k:Env→Prop) (e:Env)
@[simp] theorem q_at (x i:Opd):j0p G m d (.at x i) k e=j0c (e.opd x) fun a=>j0c ((e.opd i).bind asI) fun n=>atV k e d n a:=by
 unfold j0p atV
 rfl
@[simp ↓,simp] theorem asgV_same (r:Nat):asgV e d k (.same r)=j0c (e.take (.same r)) fun y=>k (y.2.setD d (.val y.1)):=rfl
@[simp ↓,simp] theorem atV_str (n:Int) (s:ByteArray):atV k e d n (.val (.sc (.string s)))=j0c (if 0≤n then s[n.toNat]? else none) fun b=>k (e.setD d (.val (.sc (.int .u8 b.toNat)))):=rfl
end
def dgt (x:Int):UInt8:=if x<10 then UInt8.ofNat (48+x.toNat) else UInt8.ofNat (87+x.toNat)
def digs:ByteArray:=ByteArray.mk #[48,49,50,51,52,53,54,55,56,57,97,98]
theorem digs_at {x:Int} (h:0≤x∧x<12):digs[x.toNat]?=some (dgt x):=by
 have key:∀ i:Fin 12,digs[i.val]?=some (dgt (i.val:Nat)):=by decide
 have:=key ⟨x.toNat,by omega⟩
 rwa [show ((x.toNat:Nat):Int)=x by omega] at this
theorem dgt_inj {x y:Int} (hx:0≤x∧x<12) (hy:0≤y∧y<12) (h:dgt x=dgt y):x=y:=by
 have key:∀ i j:Fin 12,dgt (i.val:Nat)=dgt (j.val:Nat)→i=j:=by decide
 have:=key ⟨x.toNat,by omega⟩ ⟨y.toNat,by omega⟩ (by
  rw [show ((x.toNat:Nat):Int)=x by omega,show ((y.toNat:Nat):Int)=y by omega];exact h)
 have:=congrArg Fin.val this
 simp only at this
 omega
def txt (xs:List Int):ByteArray:=⟨(xs.map dgt).toArray⟩
theorem txt_inj:∀ {xs ys:List Int},inN 12 xs→inN 12 ys→txt xs=txt ys→xs=ys:=by
 intro xs ys hx hy h
 have h1:xs.map dgt=ys.map dgt:=by
  have:=congrArg (fun b:ByteArray=>b.data.toList) h
  simpa [txt] using this
 clear h
 induction xs generalizing ys with
 | nil=>cases ys with
  | nil=>rfl
  | cons y ys=>simp at h1
 | cons x xs ih=>cases ys with
  | nil=>simp at h1
  | cons y ys =>
   simp only [List.map_cons,List.cons.injEq] at h1
   have e1:=dgt_inj (hx x (by simp)) (hy y (by simp)) h1.1
   have e2:=ih (fun z hz=>hx z (by simp [hz])) (ys:=ys) (fun z hz=>hy z (by simp [hz])) h1.2
   rw [e1,e2]
abbrev U8 (n:Nat):T:=.sc (.int .u8 n)
theorem bytesL_map (l:List UInt8):bytesL (l.map fun b=>U8 b.toNat)=some l:=by
 induction l with
 | nil=>rfl
 | cons b l ih =>
  have hb:b.toNat<256:=b.toNat_lt
  simp only [List.map_cons,bytesL]
  rw [if_pos (by omega),ih]
  simp
def S_text (pg:Pg):Prop:=∀ xs:List Int,inN 12 xs→xs.length≤1048576→Call pg 312 [ix xs] [ix xs] (.sc (.string (txt xs)))
theorem t_digitsText {pg:Pg} (hp:pg.fn 312=some c_impl_digitsText):S_text pg:=by
 intro xs hin hl
 refine Call.intro hp rfl (by simp) ?_
 show wp _ _ c_impl_digitsText.body (post [.t 2] _ _ _) _
 simp [c_impl_digitsText]
 refine ⟨by unfold roomy;omega,?_⟩
 refine j0a (fun k e=>e=fr [(3,some (.val (.mem .own (some 1) (((xs.take k).map dgt).map (fun b=>U8 b.toNat)++List.replicate (xs.length-k) (U8 0))))),(9,some (.val (ix xs))),(10,some (.val (I xs.length))),(11,some (.val (I k)))]) xs.length ?_ ?_ 0 _ (by omega) ?_
 · rintro k e hk rfl
   have hr:=hin _ (List.getElem_mem hk)
   have hd:(ByteArray.mk #[48,49,50,51,52,53,54,55,56,57,97,98])[(xs[k]).toNat]?=some (dgt xs[k]):=digs_at hr
   have hlen:(((xs.take k).map dgt).map (fun b=>U8 b.toNat)).length=k:=by simp;omega
   have hs:((xs.take (k+1)).map dgt).map (fun b=>U8 b.toNat)=((xs.take k).map dgt).map (fun b=>U8 b.toNat)++[U8 (dgt xs[k]).toNat]:=by
    rw [List.take_succ_eq_append_getElem hk,List.map_append,List.map_append];rfl
   rw [hs,fill_succ (U8 0) hk]
   generalize ((xs.take k).map dgt).map (fun b=>U8 b.toNat)=A at *
   have hrl:(List.replicate (xs.length-(k+1)) (U8 0)).length=xs.length-(k+1):=by simp
   generalize List.replicate (xs.length-(k+1)) (U8 0)=Z at *
   have hr1:=hr.1
   simp [hk,set_mid hlen,hr1,hd]
   omega
 · rintro e rfl
   have hb:=bytesL_map (xs.map dgt)
   have e1:((xs.take xs.length).map dgt).map (fun b=>U8 b.toNat)=(xs.map dgt).map fun b=>U8 b.toNat:=by rw [List.take_length]
   have hl2:((xs.map dgt).map fun b=>U8 b.toNat).length=xs.length:=by simp
   rw [e1]
   simp only [Nat.sub_self,List.replicate_zero,List.append_nil]
   have hx:txt xs=⟨(xs.map dgt).toArray⟩:=rfl
   generalize (xs.map dgt).map (fun b=>U8 b.toNat)=A at *
   have hw:win A 0 A.length=A:=by simp [win]
   simp [hl2,hb,hx]
 · simp
   rfl


theorem cmpI_neg (a b:Int):cmpI b a=- cmpI a b:=by
 unfold cmpI
 split
 · rw [if_neg (by omega)]
 · split <;> rfl
theorem cmpL_neg:∀ a b:List Int,cmpL b a=- cmpL a b
 | [],[]=>rfl
 | [],_::_=>rfl
 | _::_,[]=>rfl
 | a::as,b::bs=>by
  have ih:=cmpL_neg as bs
  have h:=cmpI_neg a b
  simp only [cmpW]
  by_cases hz:cmpI a b=0
  · have hz2:cmpI b a=0:=by omega
    simp only [hz,hz2,ne_eq,not_true_eq_false,if_false]
    exact ih
  · have hz2:cmpI b a≠0:=by omega
    simp only [ne_eq,hz,hz2,not_false_eq_true,if_true]
    exact h
theorem cmpI_lt {a b:Int}:cmpI a b<0↔a<b:=by
 unfold cmpI
 by_cases h:a<b
 · simp [h]
 · by_cases h2:b<a
   · simp [h,h2]
   · simp [h,h2]
theorem cmpL_trans:∀ a b c:List Int,cmpL a b<0→cmpL b c<0→cmpL a c<0
 | [],[],_,h,_=>by simp [cmpW] at h
 | [],_::_,[],_,h=>by simp [cmpW] at h
 | [],_::_,_::_,_,_=>by simp [cmpW]
 | _::_,[],_,h,_=>by simp [cmpW] at h
 | _::_,_::_,[],_,h=>by simp [cmpW] at h
 | a::as,b::bs,c::cs,h1,h2=>by
  have ih:=cmpL_trans as bs cs
  simp only [cmpW] at h1 h2 ⊢
  have z1:=cmpI_zero a b
  have z2:=cmpI_zero b c
  have l1:=@cmpI_lt a b
  have l2:=@cmpI_lt b c
  have l3:=@cmpI_lt a c
  have z3:=cmpI_zero a c
  by_cases e1:cmpI a b=0
  · have:=z1.1 e1
    subst this
    by_cases e2:cmpI a c=0
    · simp [e1,e2] at h1 h2 ⊢
      exact ih h1 h2
    · simp only [ne_eq,e2,not_false_eq_true,if_true] at h2 ⊢
      exact h2
  · by_cases e2:cmpI b c=0
    · have:=z2.1 e2
      subst this
      simp only [ne_eq,e1,not_false_eq_true,if_true] at h1 ⊢
      exact h1
    · simp only [ne_eq,e1,e2,not_false_eq_true,if_true] at h1 h2
      have:cmpI a c<0:=l3.2 (by have:=l1.1 h1;have:=l2.1 h2;omega)
      rw [if_pos (by omega)]
      exact this
def Srt (X:List (List Int)):Prop:=X.Pairwise fun a b=>cmpL a b<0
theorem Srt.lt {X:List (List Int)} (h:Srt X) {i j:Nat} (hj:j<X.length) (hij:i<j):cmpL (X[i]'(by omega)) X[j]<0 :=
 List.pairwise_iff_getElem.1 h i j (by omega) hj hij
def S_less (pg:Pg):Prop:=∀ a b:List Int,a.length≤1048576→Call pg 408 [ix a,ix b] [ix a,ix b] (B (decide (cmpL a b<0)))
theorem t_l01Less {pg:Pg} (hp:pg.fn 408=some c_spec_l01Less):S_less pg:=by
 intro a b hl
 refine Call.intro hp rfl (by simp) ?_
 show wp _ _ c_spec_l01Less.body (post [.t 4] _ _ _) _
 simp [c_spec_l01Less]
 refine j0m (α:=Nat) (fun i=>a.length-i) (fun i e=>(i≤a.length∧i≤b.length∧cmpL a b=cmpL (a.drop i) (b.drop i))∧e=fr [(0,some (.val (ix a))),(1,some (.val (ix b))),(5,some (.val (I i)))]) ?_ 0 _ ⟨⟨by omega,by omega,by simp⟩,by simp⟩
 rintro i e ⟨⟨g1,g2,g⟩,rfl⟩
 rw [g]
 have hd:=fun ha hb=>cmpW_drop (c:=cmpI) (a:=a) (b:=b) (i:=i) ha hb
 have hnext:∀ ha hb,cmpI (a[i]'ha) (b[i]'hb)=0→cmpL a b=cmpL (a.drop (i+1)) (b.drop (i+1)):=fun ha hb hz=>by
  rw [g,show cmpL (a.drop i) (b.drop i)=_ from hd ha hb]
  simp [hz]
 clear g
 by_cases ha:i<a.length
 · by_cases hb:i<b.length
   · rw [show cmpL (a.drop i) (b.drop i)=_ from hd ha hb]
     clear hd hnext
     have z:=cmpI_zero a[i] b[i]
     have l:=@cmpI_lt a[i] b[i]
     by_cases hc:a[i]=b[i]
     · have hz:=z.2 hc
       rw [hc] at hz
       simp [ha,hb,hc]
       exact ⟨by omega,i+1,by omega,⟨by omega,by omega,by simp [hz]⟩,by simp⟩
     · have hz:cmpI a[i] b[i]≠0:=fun hh=>hc (z.1 hh)
       simp [ha,hb,hc,hz,l]
   · have hbl:b.length=i:=by omega
     have:cmpL (a.drop i) (b.drop i)=1:=cmpW_end ha hb
     rw [this]
     clear hd hnext
     have:¬a.length<b.length:=by omega
     have h2:¬(a.length:Int)<b.length:=by omega
     have h3:b.length≤a.length:=by omega
     simp [ha,hbl]
     omega
 · have hal:i=a.length:=by omega
   subst hal
   rw [show cmpL (a.drop a.length) (b.drop a.length)=_ from cmpW_last]
   clear hd hnext
   by_cases h:a.length<b.length
   · simp [h,j01]
   · simp [h,j01]
end Go.Mch
namespace Go.Mch

def gt (X:List (List Int)) (k:Nat):List Int:=X.getD k []
theorem gt_at {X:List (List Int)} {k:Nat} (h:k<X.length):X[k]=gt X k:=by simp [gt,h]
def tau (i j k:Nat):Nat:=if k=j then i else if k=i then j else k
theorem tau_inj {i j k k':Nat} (h:tau i j k=tau i j k'):k=k':=by
 unfold tau at h
 split at h <;> split at h <;> (try split at h) <;> (try split at h) <;> omega
theorem tau_tau (i j k:Nat):tau i j (tau i j k)=k:=by
 unfold tau
 split <;> (try split) <;> (try split) <;> (try split) <;> omega
theorem tau_in {i j k a b:Nat} (hi:a≤i∧i<b) (hj:a≤j∧j<b) (hk:a≤k∧k<b):a≤tau i j k∧tau i j k<b:=by
 unfold tau
 split <;> (try split) <;> omega
def swL (X:List (List Int)) (i j:Nat):List (List Int):=(X.set i (gt X j)).set j (gt X i)
@[simp] theorem swL_length (X:List (List Int)) (i j:Nat):(swL X i j).length=X.length:=by simp [swL]
theorem gt_swL {X:List (List Int)} {i j:Nat} (hi:i<X.length) (hj:j<X.length) (k:Nat):gt (swL X i j) k=gt X (tau i j k):=by
 unfold tau
 simp only [gt,swL,List.getD_eq_getElem?_getD,List.getElem?_set,List.length_set]
 by_cases h1:j=k
 · subst h1;simp [hj]
 · have h1':¬k=j:=fun h=>h1 h.symm
   by_cases h2:i=k
   · subst h2;simp [h1,h1',hi]
   · have h2':¬k=i:=fun h=>h2 h.symm
     simp [h1,h2,h1',h2']
theorem rows_swL (X:List (List Int)) (i j:Nat):((rows X).set i (.mem .own (some 1) ((gt X j).map I))).set j (.mem .own (some 1) ((gt X i).map I))=rows (swL X i j):=by
 simp [rows,swL,List.map_set]
def Dj (X:List (List Int)):Prop:=∀ k k',k<X.length→k'<X.length→gt X k=gt X k'→k=k'
def bef (x y:List Int):Prop:=cmpL x y<0
instance (x y:List Int):Decidable (bef x y):=by unfold bef;infer_instance
theorem bef_trans {x y z:List Int} (h1:bef x y) (h2:bef y z):bef x z:=cmpL_trans _ _ _ h1 h2
theorem bef_irr (x:List Int):¬bef x x:=by
 have:=(cmpL_zero x x).2 rfl
 unfold bef
 omega
theorem bef_not {x y:List Int} (h:bef x y):¬bef y x:=fun h2=>bef_irr x (bef_trans h h2)
theorem bef_or {x y:List Int} (hne:x≠y) (h:¬bef x y):bef y x:=by
 have h1:=cmpL_neg x y
 have h2:cmpL x y≠0:=fun hz=>hne ((cmpL_zero x y).1 hz)
 unfold bef at h ⊢
 omega
theorem Dj.or {X:List (List Int)} (h:Dj X) {i j:Nat} (hi:i<X.length) (hj:j<X.length) (hij:i≠j) (hn:¬bef (gt X i) (gt X j)):bef (gt X j) (gt X i) :=
 bef_or (fun he=>hij (h i j hi hj he)) hn
theorem Dj.swap {X:List (List Int)} (h:Dj X) {i j:Nat} (hi:i<X.length) (hj:j<X.length):Dj (swL X i j):=by
 intro k k' hk hk' he
 rw [swL_length] at hk hk'
 rw [gt_swL hi hj,gt_swL hi hj] at he
 have h1:=tau_in (i:=i) (j:=j) (a:=0) (b:=X.length) (k:=k) (by omega) (by omega) (by omega)
 have h2:=tau_in (i:=i) (j:=j) (a:=0) (b:=X.length) (k:=k') (by omega) (by omega) (by omega)
 exact tau_inj (h _ _ h1.2 h2.2 he)
structure PI (X Y:List (List Int)) (a b:Nat):Prop where
 len:Y.length=X.length
 out:∀ k,k<a∨b≤k→gt Y k=gt X k
 fwd:∀ k,a≤k→k<b→∃ k',a≤k'∧k'<b∧gt Y k=gt X k'
 bwd:∀ k,a≤k→k<b→∃ k',a≤k'∧k'<b∧gt X k=gt Y k'
 dj:Dj Y
theorem PI.refl {X:List (List Int)} (h:Dj X) (a b:Nat):PI X X a b:=⟨rfl,fun _ _=>rfl,fun k h1 h2=>⟨k,h1,h2,rfl⟩,fun k h1 h2=>⟨k,h1,h2,rfl⟩,h⟩
theorem PI.trans {X Y Z:List (List Int)} {a b:Nat} (h:PI X Y a b) (g:PI Y Z a b):PI X Z a b :=
 ⟨g.len.trans h.len,fun k hk=>(g.out k hk).trans (h.out k hk),fun k h1 h2=>by
  obtain ⟨k',p1,p2,p3⟩:=g.fwd k h1 h2
  obtain ⟨k'',q1,q2,q3⟩:=h.fwd k' p1 p2
  exact ⟨k'',q1,q2,p3.trans q3⟩,fun k h1 h2=>by
  obtain ⟨k',p1,p2,p3⟩:=h.bwd k h1 h2
  obtain ⟨k'',q1,q2,q3⟩:=g.bwd k' p1 p2
  exact ⟨k'',q1,q2,p3.trans q3⟩,g.dj⟩
theorem PI.wide {X Y:List (List Int)} {a b a' b':Nat} (h:PI X Y a b) (ha:a'≤a) (hb:b≤b'):PI X Y a' b' :=
 ⟨h.len,fun k hk=>h.out k (by omega),fun k h1 h2=>by
  by_cases hk:a≤k∧k<b
  · obtain ⟨k',p1,p2,p3⟩:=h.fwd k hk.1 hk.2
    exact ⟨k',by omega,by omega,p3⟩
  · exact ⟨k,h1,h2,h.out k (by omega)⟩,fun k h1 h2=>by
  by_cases hk:a≤k∧k<b
  · obtain ⟨k',p1,p2,p3⟩:=h.bwd k hk.1 hk.2
    exact ⟨k',by omega,by omega,p3⟩
  · exact ⟨k,h1,h2,(h.out k (by omega)).symm⟩,h.dj⟩
theorem PI.swap {X Y:List (List Int)} {a b i j:Nat} (h:PI X Y a b) (hb:b≤X.length) (hi:a≤i∧i<b) (hj:a≤j∧j<b):PI X (swL Y i j) a b:=by
 have hl:=h.len
 have hg:=gt_swL (X:=Y) (i:=i) (j:=j) (by omega) (by omega)
 refine ⟨by simp [hl],fun k hk=>?_,fun k h1 h2=>?_,fun k h1 h2=>?_,h.dj.swap (by omega) (by omega)⟩
 · rw [hg]
   have:tau i j k=k:=by unfold tau;split <;> (try split) <;> omega
   rw [this]
   exact h.out k hk
 · rw [hg]
   have:=tau_in hi hj ⟨h1,h2⟩
   exact h.fwd _ this.1 this.2
 · obtain ⟨k',p1,p2,p3⟩:=h.bwd k h1 h2
   have:=tau_in hi hj ⟨p1,p2⟩
   exact ⟨tau i j k',this.1,this.2,by rw [hg,tau_tau];exact p3⟩
def SI (X:List (List Int)) (a b:Nat):Prop:=∀ p q,a≤p→p<q→q<b→bef (gt X p) (gt X q)
theorem SI.one (X:List (List Int)) {a b:Nat} (h:b≤a+1):SI X a b:=fun p q h1 h2 h3=>by omega
def SJ (X:List (List Int)) (a j i:Nat):Prop:=∀ p q,a≤p→p<q→q<i→q≠j→bef (gt X p) (gt X q)
theorem SI.sj {X:List (List Int)} {a i:Nat} (h:SI X a i):SJ X a i (i+1):=fun p q h1 h2 h3 h4=>h p q h1 h2 (by omega)
theorem SJ.done {X:List (List Int)} {a j i:Nat} (h:SJ X a j i) (hj:j=a∨bef (gt X (j-1)) (gt X j)):SI X a i:=fun p q h1 h2 h3=>by
 by_cases hq:q=j
 · subst hq
   rcases hj with hj | hj
   · omega
   · by_cases hp:p=q-1
     · subst hp;exact hj
     · exact bef_trans (h p (q-1) h1 (by omega) (by omega) (by omega)) hj
 · exact h p q h1 h2 h3 hq
theorem SJ.step {X:List (List Int)} {a j i:Nat} (h:SJ X a (j+1) i) (haj:a≤j) (hji:j+1<i) (hi:i≤X.length) (hb:bef (gt X (j+1)) (gt X j)):SJ (swL X (j+1) j) a j i:=by
 have hg:=gt_swL (X:=X) (i:=j+1) (j:=j) (by omega) (by omega)
 intro p q h1 h2 h3 h4
 rw [hg,hg]
 unfold tau
 by_cases hq:q=j+1
 · subst hq
   rw [if_neg h4,if_pos rfl]
   by_cases hp:p=j
   · rw [if_pos hp];exact hb
   · rw [if_neg hp,if_neg (by omega)]
     exact h p j h1 (by omega) (by omega) (by omega)
 · rw [if_neg h4,if_neg hq]
   by_cases hp:p=j
   · rw [if_pos hp];exact h (j+1) q (by omega) (by omega) h3 hq
   · rw [if_neg hp]
     by_cases hp2:p=j+1
     · rw [if_pos hp2];exact h j q (by omega) (by omega) h3 hq
     · rw [if_neg hp2];exact h p q h1 h2 h3 hq
theorem SI.srt {X:List (List Int)} (h:SI X 0 X.length):Srt X:=by
 refine List.pairwise_iff_getElem.2 fun i j hi hj hij=>?_
 have:=h i j (by omega) hij hj
 rw [← gt_at hi,← gt_at hj] at this
 exact this
theorem PI.mem {X Y:List (List Int)} (h:PI X Y 0 X.length) (x:List Int):x∈Y↔x∈X:=by
 have hl:=h.len
 constructor
 · intro hm
   obtain ⟨k,hk,rfl⟩:=List.getElem_of_mem hm
   obtain ⟨k',_,p2,p3⟩:=h.fwd k (by omega) (by omega)
   rw [gt_at hk,p3,← gt_at p2]
   exact List.getElem_mem p2
 · intro hm
   obtain ⟨k,hk,rfl⟩:=List.getElem_of_mem hm
   obtain ⟨k',_,p2,p3⟩:=h.bwd k (by omega) hk
   have hk':k'<Y.length:=by omega
   rw [gt_at hk,p3,← gt_at hk']
   exact List.getElem_mem hk'
end Go.Mch
namespace Go.Mch

abbrev ownR (X:List (List Int)):T:=.mem .own (some 1) (rows X)
def Sm (X:List (List Int)):Prop:=X.length≤1000000∧∀ k,(gt X k).length≤1048576
theorem Sm.pi {X Y:List (List Int)} {a b:Nat} (h:Sm X) (p:PI X Y a b):Sm Y:=⟨by rw [p.len];exact h.1,fun k=>by
 by_cases hk:a≤k∧k<b
 · obtain ⟨k',_,_,q⟩:=p.fwd k hk.1 hk.2
   rw [q];exact h.2 k'
 · rw [p.out k (by omega)];exact h.2 k⟩
def S_srt (pg:Pg) (n:Nat) (r:T→Prop) (pre:List (List Int)→Nat→Nat→Prop) (Q:List (List Int)→List (List Int)→Nat→Nat→T→Prop):Prop:=∀ (X:List (List Int)) (a b:Nat),Sm X→Dj X→a≤b→b≤X.length→pre X a b →
 ∃ Y res,PI X Y a b∧r res∧Q X Y a b res∧Call pg n [ownR X,I a,I b,.fn 314 []] [ownR Y,I a,I b,.fn 314 []] res
def S_insSort (pg:Pg):Prop:=S_srt pg 433 (fun r=>r=.tup []) (fun _ _ _=>True) fun _ Y a b _=>SI Y a b
def postX {α:Type} (Q:α→Prop) (rs:List RV) (args:List T) (args':α→List T) (r:α→T):X→Env→Prop:=fun x e=>∃ l,Q l∧post rs args (args' l) (r l) x e
theorem Call.findA {α:Type} {pg:Pg} {f:Nat} {args:List T} {fn:F} {args':α→List T} {r:α→T} {Q:α→Prop} (hf:pg.fn f=some fn) (hn:fn.np=args.length) (hl:fn.lets args=true) (hk:kindOf args=.old)
 (h:wp (Call pg) .old fn.body (postX Q fn.rs args args' r) (init args)):∃ l,Q l∧Call pg f args (args' l) (r l):=by
 obtain ⟨⟨l,hq⟩,hl2⟩:=wp_ex (β:={ l // Q l }) (R:=fun l x e=>post fn.rs args (args' l.1) (r l.1) x e) fn.body (wp_mono (fun _ _ _ _ h=>h) _ (fun _ _ ⟨l,hq,hp⟩=>⟨⟨l,hq⟩,hp⟩) h)
 exact ⟨l,hq,Call.intro_own hf hn hl (by rw [hk];exact hl2)⟩
def ExY (P:List (List Int)→Prop):Prop:=∃ Q,P Q
theorem kind_own (X:List (List Int)) (l:List T):kindOf (ownR X::l)=.old:=by simp [kindOf]
theorem SI.less {X:List (List Int)} {a i b:Nat} (h:SI X a i) (hb:b≤i):SI X a b:=fun p q h1 h2 h3=>h p q h1 h2 (by omega)
set_option maxRecDepth 10000 in
theorem t_insSort {pg:Pg} (hp:pg.fn 433=some j0z) (h314:S_cmpL pg):S_insSort pg:=by
 intro X a b hS hD hab hb _
 have hX1:=hS.1
 have hfind:=Call.findA (α:=List (List Int)) (Q:=fun Y=>PI X Y a b∧SI Y a b) (args:=[ownR X,I a,I b,.fn 314 []]) (args':=fun Y=>[ownR Y,I a,I b,.fn 314 []]) (r:=fun _=>.tup []) hp rfl (by simp [F.lets,j0z,List.range,List.range.loop]) (kind_own _ _) ?_
 · obtain ⟨Y,h1,h2⟩:=hfind
   exact ⟨Y,_,h1.1,rfl,h1.2,h2⟩
 show wp _ _ j0z.body (postX _ [] _ _ _) _
 generalize hR:postX (fun Y=>PI X Y a b∧SI Y a b) [] [ownR X,I a,I b,.fn 314 []] (fun Y=>[ownR Y,I a,I b,.fn 314 []]) (fun _=>T.tup [])=R
 simp [j0z]
 refine ⟨by omega,?_⟩
 refine j0m (α:=List (List Int)×Nat) (fun z=>b-z.2) (fun z e=>(PI X z.1 a b∧SI z.1 a z.2∧a<z.2)∧e=fr [(0,some (.val (ownR z.1))),(1,some (.val (I a))),(2,some (.val (I b))),(3,some (.val (.fn 314 []))),(8,some (.val (I z.2)))]) ?_ (X,a+1) _ ⟨⟨PI.refl hD a b,SI.one X (by omega),by simp⟩,by simp⟩
 rintro ⟨Y,i⟩ e ⟨⟨g1,g2,g3⟩,rfl⟩
 simp only at g1 g2 g3
 by_cases hi:i<b
 · simp [hi]
   refine j0m (α:=List (List Int)×Nat) (fun z=>z.2) (fun z e=>(PI X z.1 a b∧SJ z.1 a z.2 (i+1)∧a≤z.2∧z.2≤i)∧e=fr [(0,some (.val (ownR z.1))),(1,some (.val (I a))),(2,some (.val (I b))),(3,some (.val (.fn 314 []))),(8,some (.val (I i))),(9,some (.val (I z.2)))]) ?_ (Y,i) _ ⟨⟨g1,g2.sj,by omega,by omega⟩,by simp⟩
   rintro ⟨Z,j⟩ e ⟨⟨k1,k2,k3,k4⟩,rfl⟩
   simp only at k1 k2 k3 k4
   have hZ:=k1.len
   have hSZ:=hS.pi k1
   by_cases hj:a<j
   · obtain ⟨r,rfl⟩:∃ r,j=r+1:=⟨j-1,by omega⟩
     have hrl:r<Z.length:=by omega
     have hrl1:r+1<Z.length:=by omega
     have e1:=gt_at hrl
     have e2:=gt_at hrl1
     have hc:=h314 (gt Z (r+1)) (gt Z r) (hSZ.2 _)
     have hj':(a:Int)<(r:Int)+1:=by omega
     simp [hj',hrl,hrl1,e1,e2]
     refine ⟨by omega,by omega,?_⟩
     refine j0e hc rfl rfl (fun _=>rfl) ?_
     by_cases hbf:bef (gt Z (r+1)) (gt Z r)
     · have hb':cmpL (gt Z (r+1)) (gt Z r)<0:=hbf
       have n1:(r+1 == r)=false:=by simp
       have n2:(r == r+1)=false:=by simp
       simp [hb',hrl,hrl1,e1,e2,n1]
       rw [rows_swL]
       exact ⟨by omega,by omega,by omega,by omega,swL Z (r+1) r,r,by omega,⟨k1.swap hb ⟨by omega,by omega⟩ ⟨by omega,by omega⟩,k2.step (by omega) (by omega) (by omega) hbf,by omega,by omega⟩,rfl⟩
     · have hb':¬cmpL (gt Z (r+1)) (gt Z r)<0:=hbf
       simp [hb']
       have hbb:=k1.dj.or hrl1 hrl (by omega) hbf
       exact ⟨by omega,Z,i+1,by omega,⟨k1,k2.done (.inr hbb),by omega⟩,by simp⟩
   · have hja:j=a:=by omega
     subst hja
     simp [j01]
     exact ⟨by omega,Z,i+1,by omega,⟨k1,k2.done (.inl rfl),by omega⟩,by simp⟩
 · simp [hi]
   rw [← hR]
   exact ⟨Y,⟨g1,g2.less (by omega)⟩,by simp [post]⟩

def S_revR (pg:Pg):Prop:=S_srt pg 437 (fun r=>r=.tup []) (fun _ _ _=>True) fun _ _ _ _ _=>True
set_option maxRecDepth 10000 in
theorem t_reverseRange {pg:Pg} (hp:pg.fn 437=some j00):S_revR pg:=by
 intro X a b hS hD hab hb _
 have hX1:=hS.1
 have hfind:=Call.findA (α:=List (List Int)) (Q:=fun Y=>PI X Y a b) (args:=[ownR X,I a,I b,.fn 314 []]) (args':=fun Y=>[ownR Y,I a,I b,.fn 314 []]) (r:=fun _=>.tup []) hp rfl (by simp [F.lets,j00,List.range,List.range.loop]) (kind_own _ _) ?_
 · obtain ⟨Y,h1,h2⟩:=hfind
   exact ⟨Y,_,h1,rfl,trivial,h2⟩
 show wp _ _ j00.body (postX _ [] _ _ _) _
 generalize hR:postX (fun Y=>PI X Y a b) [] [ownR X,I a,I b,.fn 314 []] (fun Y=>[ownR Y,I a,I b,.fn 314 []]) (fun _=>T.tup [])=R
 simp [j00]
 refine ⟨by omega,?_⟩
 refine j0m (α:=List (List Int)×Nat×Int) (fun z=>(b-z.2.1)) (fun z e=>(PI X z.1 a b∧a≤z.2.1∧z.2.2<b∧-1≤z.2.2)∧e=fr [(0,some (.val (ownR z.1))),(1,some (.val (I a))),(2,some (.val (I b))),(3,some (.val (.fn 314 []))),(8,some (.val (I z.2.1))),(9,some (.val (I z.2.2)))]) ?_ (X,a,(b:Int)-1) _ ⟨⟨PI.refl hD a b,by simp,by simp only;omega,by simp only;omega⟩,by simp⟩
 rintro ⟨Y,i,j⟩ e ⟨⟨g1,g2,g3,g4⟩,rfl⟩
 simp only at g1 g2 g3 g4
 have hY:=g1.len
 by_cases hij:(i:Int)<j
 · obtain ⟨k,rfl⟩:∃ k:Nat,j=k:=⟨j.toNat,by omega⟩
   have hil:i<Y.length:=by omega
   have hkl:k<Y.length:=by omega
   have e1:=gt_at hil
   have e2:=gt_at hkl
   have n1:(i == k)=false:=by simp;omega
   have n2:(k == i)=false:=by simp;omega
   have n3:¬i=k:=by omega
   have n4:i<k:=by omega
   simp [n1,n3,n4,hil,hkl,e1,e2]
   rw [rows_swL]
   exact ⟨by omega,by omega,by omega,swL Y i k,i+1,by omega,(k:Int)-1,⟨g1.swap hb ⟨by omega,by omega⟩ ⟨by omega,by omega⟩,by omega,by omega,by omega⟩,rfl⟩
 · simp [hij]
   rw [← hR]
   exact ⟨Y,g1,by simp [post]⟩
end Go.Mch
namespace Go.Mch

def chd (c p:Nat):Prop:=c=2*p+1∨c=2*p+2
def Hp (X:List (List Int)) (f lo hi:Nat):Prop:=∀ p c,lo≤p→chd c p→c<hi→¬bef (gt X (f+p)) (gt X (f+c))
def HpR (X:List (List Int)) (f lo hi r:Nat):Prop:=(∀ p c,lo≤p→p≠r→chd c p→c<hi→¬bef (gt X (f+p)) (gt X (f+c)))∧∀ q c,lo≤q→chd r q→chd c r→c<hi→¬bef (gt X (f+q)) (gt X (f+c))
theorem Hp.start {X:List (List Int)} {f lo hi:Nat} (h:Hp X f (lo+1) hi):HpR X f lo hi lo :=
 ⟨fun p c h1 h2 h3 h4=>h p c (by omega) h3 h4,fun q c h1 h2 h3 h4=>by unfold chd at h2;omega⟩
theorem HpR.out {X:List (List Int)} {f lo hi r:Nat} (h:HpR X f lo hi r) (hr:hi≤2*r+1):Hp X f lo hi:=fun p c h1 h2 h3=>by
 by_cases hp:p=r
 · subst hp;unfold chd at h2;omega
 · exact h.1 p c h1 hp h2 h3
def Big (X:List (List Int)) (f hi r d:Nat):Prop:=chd d r∧d<hi∧∀ c,chd c r→c<hi→¬bef (gt X (f+d)) (gt X (f+c))
theorem HpR.stop {X:List (List Int)} {f lo hi r d:Nat} (h:HpR X f lo hi r) (hD:Dj X) (hl:f+hi≤X.length) (hb:Big X f hi r d) (hn:¬bef (gt X (f+r)) (gt X (f+d))):Hp X f lo hi:=fun p c h1 h2 h3=>by
 by_cases hp:p=r
 · subst hp
   intro hbf
   by_cases hcd:c=d
   · subst hcd;exact hn hbf
   · have:=hb.2.2 c h2 h3
     have hd:=hb.2.1
     have h4:=hD.or (i:=f+d) (j:=f+c) (by omega) (by omega) (by omega) this
     exact hn (bef_trans hbf h4)
 · exact h.1 p c h1 hp h2 h3
theorem HpR.step {X:List (List Int)} {f lo hi r d:Nat} (h:HpR X f lo hi r) (hr:lo≤r) (hl:f+hi≤X.length) (hb:Big X f hi r d) (hn:bef (gt X (f+r)) (gt X (f+d))):HpR (swL X (f+r) (f+d)) f lo hi d:=by
 obtain ⟨b1,b2,b3⟩:=hb
 have hrd:r<d:=by unfold chd at b1;omega
 have hg:=gt_swL (X:=X) (i:=f+r) (j:=f+d) (by omega) (by omega)
 have hgr:gt (swL X (f+r) (f+d)) (f+r)=gt X (f+d):=by rw [hg];unfold tau;rw [if_neg (by omega),if_pos rfl]
 have hgd:gt (swL X (f+r) (f+d)) (f+d)=gt X (f+r):=by rw [hg];unfold tau;rw [if_pos rfl]
 have hgo:∀ k,k≠r→k≠d→gt (swL X (f+r) (f+d)) (f+k)=gt X (f+k):=fun k h1 h2=>by rw [hg];unfold tau;rw [if_neg (by omega),if_neg (by omega)]
 refine ⟨fun p c h1 h2 h3 h4=>?_,fun q c h1 h2 h3 h4=>?_⟩
 · by_cases hp:p=r
   · subst hp
     rw [hgr]
     by_cases hc:c=d
     · subst hc;rw [hgd];exact bef_not hn
     · have hcr:c≠p:=by unfold chd at h3;omega
       rw [hgo c hcr hc]
       exact b3 c h3 h4
   · rw [hgo p hp h2]
     by_cases hc:c=r
     · subst hc
       rw [hgr]
       exact h.2 p d h1 h3 b1 b2
     · have hcd:c≠d:=fun he=>by subst he;unfold chd at h3 b1;omega
       rw [hgo c hc hcd]
       exact h.1 p c h1 hp h3 h4
 · have hq:q=r:=by unfold chd at h2 b1;omega
   subst hq
   have hcq:c≠q:=by unfold chd at h3;omega
   have hcd:c≠d:=by unfold chd at h3;omega
   rw [hgr,hgo c hcq hcd]
   exact h.1 d c (by omega) (by omega) h3 h4
theorem Hp.top {X:List (List Int)} {f hi:Nat} (h:Hp X f 0 hi) (hD:Dj X) (hl:f+hi≤X.length):∀ k,k<hi→k≠0→bef (gt X (f+k)) (gt X f):=by
 intro k
 induction k using Nat.strongRecOn with
 | _ k ih =>
  intro hk h0
  obtain ⟨p,hp⟩:∃ p,chd k p:=⟨(k-1) / 2,by unfold chd;omega⟩
  have hpk:p<k:=by unfold chd at hp;omega
  have h1:=hD.or (i:=f+p) (j:=f+k) (by omega) (by omega) (by omega) (h p k (by omega) hp hk)
  by_cases hp0:p=0
  · subst hp0;exact h1
  · exact bef_trans h1 (ih p hpk (by omega) hp0)
def S_sift (pg:Pg):Prop:=∀ (X:List (List Int)) (f lo hi:Nat),Sm X→Dj X→f+hi≤X.length→lo≤1000000→Hp X f (lo+1) hi →
 ∃ Y,(PI X Y f (f+hi)∧Hp Y f lo hi)∧Call pg 450 [ownR X,I lo,I hi,I f,.fn 314 []] [ownR Y,I lo,I hi,I f,.fn 314 []] (.tup [])
set_option maxRecDepth 10000 in
theorem t_siftDown {pg:Pg} (hp:pg.fn 450=some j07) (h314:S_cmpL pg):S_sift pg:=by
 intro X f lo hi hS hD hl hlo hH
 have hX1:=hS.1
 refine Call.findA (α:=List (List Int)) (Q:=fun Y=>PI X Y f (f+hi)∧Hp Y f lo hi) (args':=fun Y=>[ownR Y,I lo,I hi,I f,.fn 314 []]) (r:=fun _=>.tup []) hp rfl (by simp [F.lets,j07,List.range,List.range.loop]) (kind_own _ _) ?_
 show wp _ _ j07.body (postX _ [] _ _ _) _
 generalize hR:postX (fun Y=>PI X Y f (f+hi)∧Hp Y f lo hi) [] [ownR X,I lo,I hi,I f,.fn 314 []] (fun Y=>[ownR Y,I lo,I hi,I f,.fn 314 []]) (fun _=>T.tup [])=R
 simp [j07]
 refine j0m (α:=List (List Int)×Nat) (fun z=>hi-z.2) (fun z e=>(PI X z.1 f (f+hi)∧HpR z.1 f lo hi z.2∧lo≤z.2∧z.2≤1000000)∧e=fr [(0,some (.val (ownR z.1))),(1,some (.val (I lo))),(2,some (.val (I hi))),(3,some (.val (I f))),(4,some (.val (.fn 314 []))),(10,some (.val (I z.2)))]) ?_ (X,lo) _ ⟨⟨PI.refl hD _ _,hH.start,by simp,hlo⟩,by simp⟩
 rintro ⟨Y,r⟩ e ⟨⟨g1,g2,g3,g4⟩,rfl⟩
 simp only at g1 g2 g3 g4
 have hY:=g1.len
 have hSY:=hS.pi g1
 by_cases hc:hi≤2*r+1
 · have hc':(hi:Int)≤2*(r:Int)+1:=by omega
   simp [hc']
   rw [← hR]
   exact ⟨by omega,by omega,Y,⟨g1,g2.out hc⟩,by simp [post]⟩
 · have hc':¬(hi:Int)≤2*(r:Int)+1:=by omega
   obtain ⟨c,hcc⟩:∃ c:Nat,2*(r:Int)+1=c:=⟨2*r+1,by omega⟩
   have hrl:f+r<Y.length:=by omega
   have e0:=gt_at hrl
   have t0:((f:Int)+r).toNat=f+r:=by omega
   have q0:0≤(f:Int)+r:=by omega
   have q1:(f:Int)+r<Y.length:=by omega
   have hci:c<hi:=by omega
   have hnc:¬hi≤c:=by omega
   by_cases hc1:c+1<hi
   · have hc1':(c:Int)+1<hi:=by omega
     have hcl:f+c<Y.length:=by omega
     have hcl1:f+c+1<Y.length:=by omega
     have e1:=gt_at hcl
     have e2:=gt_at hcl1
     have t1:((f:Int)+c).toNat=f+c:=by omega
     have t2:((f:Int)+c+1).toNat=f+c+1:=by omega
     have q5:0≤(f:Int)+c:=by omega
     have q6:(f:Int)+c<Y.length:=by omega
     have q7:0≤(f:Int)+c+1:=by omega
     have q8:(f:Int)+c+1<Y.length:=by omega
     have hcmp:=h314 (gt Y (f+c)) (gt Y (f+c+1)) (hSY.2 _)
     simp [hcc,hnc,hc1',hcl,hcl1,e1,e2,t1,t2,q5,q6,q7,q8]
     refine ⟨by omega,by omega,by omega,by omega,by omega,?_⟩
     refine j0e hcmp rfl rfl (fun _=>rfl) ?_
     by_cases hb1:bef (gt Y (f+c)) (gt Y (f+c+1))
     · have hb1':cmpL (gt Y (f+c)) (gt Y (f+c+1))<0:=hb1
       have hbig:Big Y f hi r (c+1):=⟨.inr (by omega),hc1,fun z h1 h2=>by
        have:z=c∨z=c+1:=by unfold chd at h1;omega
        rcases this with rfl | rfl
        · exact bef_not hb1
        · exact bef_irr _⟩
       have hdl:f+(c+1)<Y.length:=by omega
       have e3:=gt_at hdl
       have n1:(f+r == f+(c+1))=false:=by simp;omega
       have n2:(f+(c+1) == f+r)=false:=by simp;omega
       have n3:¬f+r=f+(c+1):=by omega
       have n4:¬r=(c+1):=by omega
       have n5:(r == (c+1))=false:=by simp;omega
       have n6:((c+1) == r)=false:=by simp;omega
       have t3:((f:Int)+(c+1)).toNat=f+(c+1):=by omega
       have q3:0≤(f:Int)+(c+1):=by omega
       have q4:(f:Int)+(c+1)<Y.length:=by omega
       have hc2:=h314 (gt Y (f+r)) (gt Y (f+(c+1))) (hSY.2 _)
       have hbd:(c+1)<hi:=by omega
       simp [hb1',hrl,hdl,e0,e3,t0,t3,q0,q1,q3,q4]
       refine ⟨by omega,by omega,by omega,?_⟩
       refine j0e hc2 rfl rfl (fun _=>rfl) ?_
       by_cases hb2:bef (gt Y (f+r)) (gt Y (f+(c+1)))
       · have hb2':cmpL (gt Y (f+r)) (gt Y (f+(c+1)))<0:=hb2
         simp [hb2',hrl,hdl,e0,e3,t0,t3,q0,q1,q3,q4,n1,n4]
         rw [rows_swL]
         exact ⟨by omega,by omega,by omega,by omega,swL Y (f+r) (f+(c+1)),(c+1),by omega,⟨g1.swap (by omega) ⟨by omega,by omega⟩ ⟨by omega,by omega⟩,g2.step g3 (by omega) hbig hb2,by omega,by omega⟩,by simp⟩
       · have hb2':¬cmpL (gt Y (f+r)) (gt Y (f+(c+1)))<0:=hb2
         simp [hb2']
         rw [← hR]
         exact ⟨Y,⟨g1,g2.stop g1.dj (by omega) hbig hb2⟩,by simp [post]⟩
     · have hb1':¬cmpL (gt Y (f+c)) (gt Y (f+c+1))<0:=hb1
       have hbig:Big Y f hi r c:=⟨.inl (by omega),hci,fun z h1 h2=>by
        have:z=c∨z=c+1:=by unfold chd at h1;omega
        rcases this with rfl | rfl
        · exact bef_irr _
        · exact hb1⟩
       have hdl:f+c<Y.length:=by omega
       have e3:=gt_at hdl
       have n1:(f+r == f+c)=false:=by simp;omega
       have n2:(f+c == f+r)=false:=by simp;omega
       have n3:¬f+r=f+c:=by omega
       have n4:¬r=c:=by omega
       have n5:(r == c)=false:=by simp;omega
       have n6:(c == r)=false:=by simp;omega
       have t3:((f:Int)+c).toNat=f+c:=by omega
       have q3:0≤(f:Int)+c:=by omega
       have q4:(f:Int)+c<Y.length:=by omega
       have hc2:=h314 (gt Y (f+r)) (gt Y (f+c)) (hSY.2 _)
       have hbd:c<hi:=by omega
       simp [hb1',hrl,hdl,e0,e3,t0,t3,q0,q1,q3,q4]
       refine ⟨by omega,by omega,?_⟩
       refine j0e hc2 rfl rfl (fun _=>rfl) ?_
       by_cases hb2:bef (gt Y (f+r)) (gt Y (f+c))
       · have hb2':cmpL (gt Y (f+r)) (gt Y (f+c))<0:=hb2
         simp [hb2',hrl,hdl,e0,e3,t0,t3,q0,q1,q3,q4,n1,n4]
         rw [rows_swL]
         exact ⟨by omega,by omega,by omega,by omega,swL Y (f+r) (f+c),c,by omega,⟨g1.swap (by omega) ⟨by omega,by omega⟩ ⟨by omega,by omega⟩,g2.step g3 (by omega) hbig hb2,by omega,by omega⟩,by simp⟩
       · have hb2':¬cmpL (gt Y (f+r)) (gt Y (f+c))<0:=hb2
         simp [hb2']
         rw [← hR]
         exact ⟨Y,⟨g1,g2.stop g1.dj (by omega) hbig hb2⟩,by simp [post]⟩
   · have hc1':¬(c:Int)+1<hi:=by omega
     have hbig:Big Y f hi r c:=⟨.inl (by omega),hci,fun z h1 h2=>by
      have:z=c:=by unfold chd at h1;omega
      subst this;exact bef_irr _⟩
     have hdl:f+c<Y.length:=by omega
     have e3:=gt_at hdl
     have n1:(f+r == f+c)=false:=by simp;omega
     have n2:(f+c == f+r)=false:=by simp;omega
     have n3:¬f+r=f+c:=by omega
     have n4:¬r=c:=by omega
     have n5:(r == c)=false:=by simp;omega
     have n6:(c == r)=false:=by simp;omega
     have t3:((f:Int)+c).toNat=f+c:=by omega
     have q3:0≤(f:Int)+c:=by omega
     have q4:(f:Int)+c<Y.length:=by omega
     have hc2:=h314 (gt Y (f+r)) (gt Y (f+c)) (hSY.2 _)
     have hbd:c<hi:=by omega
     simp [hcc,hnc,hc1',j01,hrl,hdl,e0,e3,t0,t3,q0,q1,q3,q4]
     refine ⟨by omega,by omega,by omega,by omega,by omega,?_⟩
     refine j0e hc2 rfl rfl (fun _=>rfl) ?_
     by_cases hb2:bef (gt Y (f+r)) (gt Y (f+c))
     · have hb2':cmpL (gt Y (f+r)) (gt Y (f+c))<0:=hb2
       simp [hb2',hrl,hdl,e0,e3,t0,t3,q0,q1,q3,q4,n1,n4]
       rw [rows_swL]
       exact ⟨by omega,by omega,by omega,by omega,swL Y (f+r) (f+c),c,by omega,⟨g1.swap (by omega) ⟨by omega,by omega⟩ ⟨by omega,by omega⟩,g2.step g3 (by omega) hbig hb2,by omega,by omega⟩,by simp⟩
     · have hb2':¬cmpL (gt Y (f+r)) (gt Y (f+c))<0:=hb2
       simp [hb2']
       rw [← hR]
       exact ⟨Y,⟨g1,g2.stop g1.dj (by omega) hbig hb2⟩,by simp [post]⟩

def S_heap (pg:Pg):Prop:=S_srt pg 434 (fun r=>r=.tup []) (fun _ _ _=>True) fun _ Y a b _=>SI Y a b
theorem Hp.pop {Y:List (List Int)} {a i:Nat} (h:Hp Y a 0 (i+1)) (_:Dj Y) (hl:a+(i+1)≤Y.length):Hp (swL Y a (a+i)) a 1 i:=fun p c h1 h2 h3=>by
 have hg:=gt_swL (X:=Y) (i:=a) (j:=a+i) (by omega) (by omega)
 have hpc:p<c:=by unfold chd at h2;omega
 rw [hg,hg]
 have e1:tau a (a+i) (a+p)=a+p:=by unfold tau;rw [if_neg (by omega),if_neg (by omega)]
 have e2:tau a (a+i) (a+c)=a+c:=by unfold tau;rw [if_neg (by omega),if_neg (by omega)]
 rw [e1,e2]
 exact h p c (by omega) h2 (by omega)
def Tl (Y:List (List Int)) (a m n:Nat):Prop:=SI Y (a+m) (a+n)∧∀ p q,p<m→m≤q→q<n→bef (gt Y (a+p)) (gt Y (a+q))
theorem swL_self {Y:List (List Int)} {a:Nat} (h:a<Y.length):swL Y a a=Y:=by
 apply List.ext_getElem
 · simp
 · intro k h1 h2
   simp only [swL,List.getElem_set]
   split
   · rename_i hh;subst hh;exact (gt_at h).symm
   · rfl
theorem rows_self {Y:List (List Int)} {a:Nat} (h:a<Y.length):(rows Y).set a (.mem .own (some 1) ((gt Y a).map I))=rows Y:=by
 have hs:=swL_self h
 have h1:=rows_swL Y a a
 rw [hs,List.set_set] at h1
 exact h1
theorem Tl.pop {Y Z:List (List Int)} {a i n:Nat} (h:Tl Y a (i+1) n) (hp:Hp Y a 0 (i+1)) (hD:Dj Y) (hl:a+n≤Y.length) (hin:i<n) (g:PI (swL Y a (a+i)) Z a (a+i)):Tl Z a i n:=by
 have hg:=gt_swL (X:=Y) (i:=a) (j:=a+i) (by omega) (by omega)
 have htop:=hp.top hD (by omega)
 have hout:∀ q,i<q→q<n→gt Z (a+q)=gt Y (a+q):=fun q h1 h2=>by
  rw [g.out (a+q) (by omega),hg]
  unfold tau;rw [if_neg (by omega),if_neg (by omega)]
 have hat:gt Z (a+i)=gt Y a:=by
  rw [g.out (a+i) (by omega),hg]
  unfold tau;rw [if_pos rfl]
 have hin':∀ p,p<i→∃ k,k<i+1∧k≠0∧gt Z (a+p)=gt Y (a+k):=fun p h1=>by
  obtain ⟨k',q1,q2,q3⟩:=g.fwd (a+p) (by omega) (by omega)
  rw [hg] at q3
  by_cases hk:k'=a
  · refine ⟨i,by omega,by omega,?_⟩
    rw [q3]
    unfold tau
    rw [if_neg (by omega),if_pos hk]
  · refine ⟨k'-a,by omega,by omega,?_⟩
    rw [q3]
    unfold tau
    rw [if_neg (by omega),if_neg hk]
    congr 1
    omega
 constructor
 · intro p q h1 h2 h3
   obtain ⟨p',rfl⟩:∃ p',p=a+p':=⟨p-a,by omega⟩
   obtain ⟨q',rfl⟩:∃ q',q=a+q':=⟨q-a,by omega⟩
   rw [hout q' (by omega) (by omega)]
   by_cases hpi:p'=i
   · subst hpi
     rw [hat]
     exact h.2 0 q' (by omega) (by omega) (by omega)
   · rw [hout p' (by omega) (by omega)]
     exact h.1 (a+p') (a+q') (by omega) (by omega) h3
 · intro p q h1 h2 h3
   obtain ⟨k,k1,k2,k3⟩:=hin' p h1
   rw [k3]
   by_cases hqi:q=i
   · subst hqi
     rw [hat]
     exact htop k k1 k2
   · rw [hout q (by omega) h3]
     exact h.2 k q (by omega) (by omega) h3
set_option maxRecDepth 10000 in
theorem t_heapSort {pg:Pg} (hp:pg.fn 434=some j08) (h450:S_sift pg):S_heap pg:=by
 intro X a b hS hD hab hb _
 have hX1:=hS.1
 have hfind:=Call.findA (α:=List (List Int)) (Q:=fun Y=>PI X Y a b∧SI Y a b) (args:=[ownR X,I a,I b,.fn 314 []]) (args':=fun Y=>[ownR Y,I a,I b,.fn 314 []]) (r:=fun _=>.tup []) hp rfl (by simp [F.lets,j08,List.range,List.range.loop]) (kind_own _ _) ?_
 · obtain ⟨Y,h1,h2⟩:=hfind
   exact ⟨Y,_,h1.1,rfl,h1.2,h2⟩
 show wp _ _ j08.body (postX _ [] _ _ _) _
 generalize hR:postX (fun Y=>PI X Y a b∧SI Y a b) [] [ownR X,I a,I b,.fn 314 []] (fun Y=>[ownR Y,I a,I b,.fn 314 []]) (fun _=>T.tup [])=R
 obtain ⟨n,rfl⟩:∃ n,b=a+n:=⟨b-a,by omega⟩
 have hn:(a:Int)+n-a=n:=by omega
 obtain ⟨m0,hm0⟩:∃ m0:Nat,m0=(n-1) / 2:=⟨_,rfl⟩
 have hdiv:((n:Int)-1).tdiv 2=(m0:Int):=by
  by_cases h0:n=0
  · subst h0;rw [hm0];decide
  · rw [Int.tdiv_eq_ediv_of_nonneg (by omega)];omega
 simp [j08,hn,hdiv]
 refine ⟨by omega,by omega,by omega,?_⟩
 refine j0m (α:=List (List Int)×Nat) (fun z=>z.2) (fun z e=>(PI X z.1 a (a+n)∧Hp z.1 a z.2 n∧z.2≤1000001)∧e=fr [(0,some (.val (ownR z.1))),(1,some (.val (I a))),(2,some (.val (I (a+n)))),(3,some (.val (.fn 314 []))),(8,some (.val (I a))),(9,some (.val (I 0))),(10,some (.val (I n))),(11,some (.val (I ((z.2:Int)-1))))]) ?_ (X,m0+1) _ ⟨⟨PI.refl hD _ _,fun p c h1 h2 h3=>by unfold chd at h2;simp only at h1;omega,by simp only;omega⟩,by simp⟩
 rintro ⟨Y,m⟩ e ⟨⟨g1,g2,g3⟩,rfl⟩
 simp only at g1 g2 g3
 have hY:=g1.len
 cases m with
 | succ k =>
  obtain ⟨Z,⟨z1,z2⟩,z3⟩:=h450 Y a k n (hS.pi g1) g1.dj (by omega) (by omega) g2
  have hk1:((k+1:Nat):Int)-1=k:=by omega
  rw [hk1]
  simp
  refine callM (ts':=[ownR Z,I k,I n,I a,.fn 314 []]) (r:=.tup []) ?_ ?_ ?_ ?_
  · simp
  · simpa using z3
  · simp
  · simp
    exact ⟨by omega,Z,k,by omega,⟨g1.trans z1,z2,by omega⟩,by simp⟩
 | zero =>
  simp
  refine ⟨by omega,?_⟩
  refine j0m (α:=List (List Int)×Nat) (fun z=>z.2) (fun z e=>(PI X z.1 a (a+n)∧Hp z.1 a 0 z.2∧Tl z.1 a z.2 n∧z.2≤n)∧e=fr [(0,some (.val (ownR z.1))),(1,some (.val (I a))),(2,some (.val (I (a+n)))),(3,some (.val (.fn 314 []))),(8,some (.val (I a))),(9,some (.val (I 0))),(12,some (.val (I ((z.2:Int)-1))))]) ?_ (Y,n) _ ⟨⟨g1,g2,⟨SI.one _ (by simp only;omega),fun p q h1 h2 h3=>by simp only at h2;omega⟩,by simp⟩,by simp⟩
  clear g1 g2 g3 hY
  rintro ⟨Y,m⟩ e ⟨⟨g1,g2,g3,g4⟩,rfl⟩
  simp only at g1 g2 g3 g4
  have hY:=g1.len
  cases m with
  | zero =>
   simp
   rw [← hR]
   exact ⟨Y,⟨g1,by simpa using g3.1⟩,by simp [post]⟩
  | succ i =>
   have hk1:((i+1:Nat):Int)-1=i:=by omega
   rw [hk1]
   have hal:a<Y.length:=by omega
   have hil:a+i<Y.length:=by omega
   have e1:=gt_at hal
   have e2:=gt_at hil
   have t0:((a:Int)+i).toNat=a+i:=by
    rw [show (a:Int)+i=((a+i:Nat):Int) from rfl];exact Int.toNat_natCast _
   have q0:0≤(a:Int)+i:=by omega
   have q1:(a:Int)+i<Y.length:=by omega
   have hpi:PI X (swL Y a (a+i)) a (a+n):=g1.swap (by omega) ⟨by omega,by omega⟩ ⟨by omega,by omega⟩
   obtain ⟨Z,⟨z1,z2⟩,z3⟩:=h450 (swL Y a (a+i)) a 0 i (hS.pi hpi) hpi.dj (by simp;omega) (by omega) (g2.pop g1.dj (by omega))
   have htl:=g3.pop g2 g1.dj (by omega) (by omega) z1
   have hpz:=hpi.trans (z1.wide (Nat.le_refl _) (show a+i≤a+n by omega))
   by_cases hi0:i=0
   · subst hi0
     rw [show swL Y a (a+0)=Y from swL_self hal] at z3
     have hrs:=rows_self hal
     simp [hal,e1,hrs]
     refine ⟨by omega,by omega,?_⟩
     refine callM (ts':=[ownR Z,I 0,I 0,I a,.fn 314 []]) (r:=.tup []) ?_ ?_ ?_ ?_
     · simp
     · simpa using z3
     · simp
     · simp
       exact ⟨Z,⟨hpz,z2,htl⟩,by simp⟩
   · have n1:(a == a+i)=false:=by simp;omega
     have n2:(a+i == a)=false:=by simp;omega
     have n3:¬a=a+i:=by omega
     simp [hal,hil,e1,e2,t0,q0,q1,n1,hi0]
     rw [rows_swL]
     refine ⟨by omega,by omega,?_⟩
     refine callM (ts':=[ownR Z,I 0,I i,I a,.fn 314 []]) (r:=.tup []) ?_ ?_ ?_ ?_
     · simp
     · simpa using z3
     · simp
     · simp
       exact ⟨by omega,Z,i,by omega,⟨hpz,z2,htl,by omega⟩,by simp⟩
end Go.Mch
namespace Go.Mch

abbrev U64 (n:Nat):T:=.sc (.int .u64 n)
set_option maxRecDepth 100000 in
theorem lenT_ok:(List.range 256).all (fun i=>match lenTab[i]? with | some b=>decide (i<2 ^ b.toNat∧(0<i→2 ^ b.toNat≤2*i)∧b.toNat≤8) | none=>false)=true:=by decide
theorem lenT_at {i:Nat} (h:i<256):∃ b,lenTab[i]?=some b∧i<2 ^ b.toNat∧(0<i→2 ^ b.toNat≤2*i)∧b.toNat≤8:=by
 have:=List.all_eq_true.1 lenT_ok i (List.mem_range.2 h)
 split at this
 · rename_i b hb
   exact ⟨b,hb,of_decide_eq_true this⟩
 · cases this
def S_len (pg:Pg) (f:Nat):Prop:=∀ n:Nat,n≤1000000→∃ L:Nat,(n<2 ^ L∧(0<n→2 ^ L≤2*n)∧L≤30)∧Call pg f [U64 n] [U64 n] (I L)
theorem sh16 (n:Nat):Int.fdiv (n:Int) (2 ^ Nat.min 16 IntKind.u64.bits)=((n / 65536:Nat):Int):=by
 show Int.fdiv (n:Int) ((2:Int) ^ 16)=_
 rw [Int.fdiv_eq_ediv_of_nonneg _ (by decide)];rfl
theorem sh8 (n:Nat):Int.fdiv (n:Int) (2 ^ Nat.min 8 IntKind.u64.bits)=((n / 256:Nat):Int):=by
 show Int.fdiv (n:Int) ((2:Int) ^ 8)=_
 rw [Int.fdiv_eq_ediv_of_nonneg _ (by decide)];rfl
theorem wr8 {a:Int} (h0:0≤a) (h:a<256):IntKind.u8.wrap a=a:=by
 show a % 256=a
 omega
theorem wr64 {n:Nat} (h:n≤100000000):IntKind.i64.wrap (n:Int)=n:=by
 have h1:(n:Int) % 18446744073709551616=n:=by omega
 show (if (true&&decide ((n:Int) % 18446744073709551616≥9223372036854775808))=true then _ else (n:Int) % 18446744073709551616)=_
 rw [h1,if_neg (by simp;omega)]
theorem t_len64 {pg:Pg} (hp:pg.fn 442=some j1x):S_len pg 442:=by
 intro n hn
 have h32:¬4294967296≤n:=by omega
 have h32':¬(4294967296:Int)≤n:=by omega
 by_cases h16:65536≤n
 · obtain ⟨b,b1,b2,b3,b4⟩:=lenT_at (i:=n / 65536) (by omega)
   have hx:2 ^ (16+b.toNat)=65536*2 ^ b.toNat:=by rw [Nat.pow_add]
   refine ⟨16+b.toNat,⟨by rw [hx];omega,fun _=>by rw [hx];omega,by omega⟩,Call.intro hp rfl (by simp) ?_⟩
   show wp _ _ j1x.body (post [.t 2] _ _ _) _
   have h16':(65536:Int)≤n:=by omega
   have h8:¬(256:Int)≤(n:Int) / 65536:=by omega
   have e2:((n:Int) / 65536).toNat=n / 65536:=by omega
   have e3:(0:Int)≤(n:Int) / 65536:=by omega
   have e1:IntKind.u8.wrap ((n:Int) / 65536)=(n:Int) / 65536:=wr8 e3 (by omega)
   simp [j1x,h32',h16',sh16,h8,e1,e2,e3,b1,wr64 (show b.toNat≤100000000 by omega)]
   omega
 · by_cases h8:256≤n
   · obtain ⟨b,b1,b2,b3,b4⟩:=lenT_at (i:=n / 256) (by omega)
     have hx:2 ^ (8+b.toNat)=256*2 ^ b.toNat:=by rw [Nat.pow_add]
     refine ⟨8+b.toNat,⟨by rw [hx];omega,fun _=>by rw [hx];omega,by omega⟩,Call.intro hp rfl (by simp) ?_⟩
     show wp _ _ j1x.body (post [.t 2] _ _ _) _
     have h16':¬(65536:Int)≤n:=by omega
     have h8':(256:Int)≤n:=by omega
     have e2:((n:Int) / 256).toNat=n / 256:=by omega
     have e3:(0:Int)≤(n:Int) / 256:=by omega
     have e1:IntKind.u8.wrap ((n:Int) / 256)=(n:Int) / 256:=wr8 e3 (by omega)
     simp [j1x,h32',h16',sh8,h8',e1,e2,e3,b1,wr64 (show b.toNat≤100000000 by omega)]
     omega
   · obtain ⟨b,b1,b2,b3,b4⟩:=lenT_at (i:=n) (by omega)
     refine ⟨b.toNat,⟨b2,b3,by omega⟩,Call.intro hp rfl (by simp) ?_⟩
     show wp _ _ j1x.body (post [.t 2] _ _ _) _
     have h16':¬(65536:Int)≤n:=by omega
     have h8':¬(256:Int)≤n:=by omega
     have e1:IntKind.u8.wrap (n:Int)=n:=wr8 (by omega) (by omega)
     simp [j1x,h32',h16',h8',e1,b1,wr64 (show b.toNat≤100000000 by omega)]
     omega
theorem t_len {pg:Pg} (hp:pg.fn 394=some c_math_bits_Len) (hl:S_len pg 442):S_len pg 394:=by
 intro n hn
 obtain ⟨L,hL,h⟩:=hl n hn
 refine ⟨L,hL,Call.intro hp rfl (by simp) ?_⟩
 show wp _ _ c_math_bits_Len.body (post _ _ _ _) _
 simp [c_math_bits_Len]
 refine j0e h rfl rfl (fun _=>rfl) ?_
 simp
theorem wru {a:Int} (h0:0≤a) (h:a<18446744073709551616):IntKind.u64.wrap a=a:=by
 show a % 18446744073709551616=a
 omega
def S_np2 (pg:Pg):Prop:=∀ n:Nat,0<n→n≤1000000→∃ P:Nat,(0<P∧P≤2*n)∧Call pg 451 [I n] [I n] (U64 P)
theorem t_nextPowerOfTwo {pg:Pg} (hp:pg.fn 451=some c_slices_nextPowerOfTwo) (hl:S_len pg 394):S_np2 pg:=by
 intro n h0 hn
 obtain ⟨L,⟨l1,l2,l3⟩,h⟩:=hl n hn
 have l4:=l2 h0
 have l5:0<2 ^ L:=Nat.two_pow_pos L
 have e1:IntKind.u64.wrap (n:Int)=n:=wru (by omega) (by omega)
 have e2:min L IntKind.u64.bits=L:=Nat.min_eq_left (by show L≤64;omega)
 have e3:IntKind.u64.wrap (2 ^ L:Int)=2 ^ L:=by
  have:((2 ^ L:Nat):Int)=(2:Int) ^ L:=by push_cast;rfl
  rw [← this];exact wru (by omega) (by omega)
 refine ⟨2 ^ L,⟨l5,l4⟩,Call.intro hp rfl (by simp) ?_⟩
 show wp _ _ c_slices_nextPowerOfTwo.body (post _ _ _ _) _
 simp [c_slices_nextPowerOfTwo,e1]
 refine j0e h rfl rfl (fun _=>rfl) ?_
 have e4:¬(L:Int)<0:=by omega
 simp [e2,e3,e4]
abbrev bxU (r:Int):T:=.mem .own none [.sc (.int .u64 r)]
def S_next (pg:Pg):Prop:=∀ r:Int,∃ r' y:Int,Call pg 452 [bxU r] [bxU r'] (.sc (.int .u64 y))
theorem t_next {pg:Pg} (hp:pg.fn 452=some j1q):S_next pg:=by
 intro r
 have hfind:=Call.findA (α:=Int×Int) (Q:=fun _=>True) (args:=[bxU r]) (args':=fun Y=>[bxU Y.1]) (r:=fun Y=>.sc (.int .u64 Y.2)) hp rfl (by simp [F.lets,j1q,List.range,List.range.loop]) (by simp [kindOf]) ?_
 · obtain ⟨Y,_,h2⟩:=hfind
   exact ⟨_,_,h2⟩
 show wp _ _ j1q.body (postX _ [.t 2] _ _ _) _
 simp [j1q]
 generalize IntKind.wrap IntKind.u64 _=y
 exact ⟨(y,y),trivial,by simp [post]⟩

def S_brk (pg:Pg):Prop:=S_srt pg 435 (fun r=>r=.tup []) (fun _ _ _=>True) fun _ _ _ _ _=>True
theorem ofI64 {n:Nat} (h:n<18446744073709551616):(BitVec.ofInt IntKind.u64.bits (n:Int)).toNat=n:=by
 show (BitVec.ofInt 64 (n:Int)).toNat=n
 rw [BitVec.ofInt_natCast,BitVec.toNat_ofNat]
 omega
theorem and_lt {a P:Nat} (h:0<P):a &&& (P-1)<P:=by
 have:=Nat.and_le_right (n:=a) (m:=P-1)
 omega
end Go.Mch
namespace Go.Mch

abbrev Y8 (x:Int):T:=.sc (.int .u8 x)
abbrev H64 (x:Int):T:=.sc (.int .u64 x)
def rawB:Rw Int→T
 | .no=>nil
 | .odd a=>.sc (.slice (some a) 0 0)
 | .of xs=>.mem .old (some 1) (xs.map Y8)
@[simp] theorem noOwnL_mapU (xs:List Int):T.j0n (xs.map Y8)=true:=by
 induction xs with
 | nil=>rfl
 | cons x xs ih=>simp [ih]
@[simp] theorem eryL_mapU (k:K) (xs:List Int):T.eryL k (xs.map Y8)=xs.map Y8:=by
 induction xs with
 | nil=>rfl
 | cons x xs ih=>simp [ih]
@[simp] theorem lendL_mapU (xs:List Int):T.lendL (xs.map Y8)=xs.map Y8:=by
 induction xs with
 | nil=>rfl
 | cons x xs ih=>simp [ih]
@[simp] theorem rawB_noOwn (a:Rw Int):(rawB a).j0w=true:=by cases a <;> simp [rawB]
@[simp] theorem rawB_peek (a:Rw Int) (n:Nat) (p:List Nat):(rawB a).peek n p=.val (rawB a):=by cases a <;> rfl
@[simp] theorem rawB_ery (a:Rw Int):(rawB a).ery .old=rawB a:=by cases a <;> simp [rawB]
@[simp] theorem rawB_lend (a:Rw Int):(rawB a).lend=rawB a:=by cases a <;> simp [rawB]
@[simp] theorem rawB_len (a:Rw Int):lenV (.val (rawB a))=some (lst a).length:=by cases a <;> simp [rawB]
@[simp] theorem rawB_isCell (a:Rw Int):(rawB a).j1i=true:=by cases a <;> rfl
@[simp] theorem fillV_rawB (vs:List V) (i n:Nat) (c:Rw Int) (r:List (Nat×Nat×V)):fillV vs ((i,n,.val (rawB c))::r)=if n=1∧i+n≤vs.length then fillV (vs.take i++[.val (rawB c)]++vs.drop (i+n)) r else none:=by cases c <;> rfl
@[simp] theorem rawB_idx (a:Rw Int) (i:Int):idxV 1 (.val (rawB a)) i=if 0≤i∧i<((lst a).length:Int) then some (.val (.mem .old none (win ((lst a).map Y8) (i.toNat*1) 1))) else none:=by
 cases a with
 | no =>
  simp only [rawB,idxV,lst_no,List.length_nil,List.map_nil]
  rw [if_neg]
  omega
 | odd ad =>
  simp only [rawB,idxV,lst_odd,List.length_nil,List.map_nil]
  rw [if_neg]
  omega
 | of xs=>simp [rawB]

@[simp] theorem arith_u64 (n:Int):arith .u64 n=some (.int .u64 (IntKind.u64.wrap n)):=by rw [arith,if_neg (by decide)]

abbrev src (c:Rw Int) (s:Int×Int):T:=.mem .own none [rawB c,I s.1,H64 s.2]
def okB (c:Rw Int):Prop:=(lst c).length≤1048576∧∀ x∈lst c,0≤x∧x<256
def Sr (c:Rw Int) (s:Int×Int):Prop:=okB c∧0≤s.1∧s.1≤(lst c).length

theorem and24 (a:Nat):∃ y:Nat,y≤16777215∧IntKind.i64.wrap (IntKind.u64.wrap ((a &&& 16777215 % 2 ^ IntKind.u64.bits:Nat):Int))=(y:Int):=by
 have h:a &&& 16777215 % 2 ^ IntKind.u64.bits≤16777215:=by
  show a &&& 16777215 % 2 ^ 64≤16777215
  exact Nat.le_trans Nat.and_le_right (by decide)
 refine ⟨_,h,?_⟩
 rw [wru (by omega) (by omega),wr64 (by omega)]
def S_nxt (pg:Pg):Prop:=∀ (c:Rw Int) (s:Int×Int) (n:Int),Sr c s→∃ (s':Int×Int) (r:Int),(Sr c s'∧0≤r∧(1≤n→r<n)∧(n<1→r=0))∧Call pg 336 [src c s,I n] [src c s',I n] (I r)
set_option maxRecDepth 10000 in
theorem t_nxt {pg:Pg} (hp:pg.fn 336=some c_spec_l01Next):S_nxt pg:=by
 intro c s n hs
 have hfind:=Call.findA (α:=(Int×Int)×Int) (Q:=fun Y=>Sr c Y.1∧0≤Y.2∧(1≤n→Y.2<n)∧(n<1→Y.2=0)) (args:=[src c s,I n]) (args':=fun Y=>[src c Y.1,I n]) (r:=fun Y=>I Y.2) hp rfl (by simp [F.lets,c_spec_l01Next,List.range,List.range.loop]) (by simp [kindOf]) ?_
 · obtain ⟨Y,h1,h2⟩:=hfind
   exact ⟨_,_,h1,h2⟩
 show wp _ _ c_spec_l01Next.body (postX _ [.t 4] _ _ _) _
 generalize hR:postX (fun Y:(Int×Int)×Int=>Sr c Y.1∧0≤Y.2∧(1≤n→Y.2<n)∧(n<1→Y.2=0)) [.t 4] [src c s,I n] (fun Y=>[src c Y.1,I n]) (fun Y=>I Y.2)=R
 obtain ⟨a,h⟩:=s
 obtain ⟨hc,ha,hl⟩:=hs
 have hb:=hc.1
 simp only at ha hl
 by_cases hn:n<1
 · simp [c_spec_l01Next,hn]
   subst hR
   exact ⟨((a,h),0),⟨⟨hc,ha,hl⟩,by simp;omega⟩,by simp [post]⟩
 · simp [c_spec_l01Next,hn]
   generalize IntKind.u64.wrap (IntKind.u64.wrap (h*6364136223846793005)+1442695040888963407)=h'
   generalize (h'.fdiv (2 ^ min 33 IntKind.u64.bits) % 2 ^ IntKind.u64.bits).toNat=z
   obtain ⟨y,hy,e⟩:=and24 z
   have hn0:¬n=0:=by omega
   have hmod:∀ x:Int,0≤x→0≤x.tmod n∧x.tmod n<n:=fun x hx=>by
    rw [Int.tmod_eq_emod_of_nonneg hx]
    exact ⟨Int.emod_nonneg _ hn0,Int.emod_lt_of_pos _ (by omega)⟩
   rw [e]
   by_cases hlt:a<(lst c).length
   · obtain ⟨i,rfl⟩:∃ i:Nat,a=i:=⟨a.toNat,by omega⟩
     have hi:i<(lst c).length:=by omega
     have hx:=hc.2 _ (List.getElem_mem hi)
     have hw:IntKind.i64.wrap ((lst c)[i])=(lst c)[i]:=by
      obtain ⟨x,hx'⟩:∃ x:Nat,(lst c)[i]=x:=⟨((lst c)[i]).toNat,by omega⟩
      rw [hx',wr64 (by omega)]
     simp [hlt,hi,hn0,hw]
     subst hR
     have:=hmod (y+(lst c)[i]) (by omega)
     refine ⟨by omega,by omega,((i+1,h'),((y:Int)+(lst c)[i]).tmod n),⟨⟨hc,by simp only;omega,by simp only;omega⟩,by simp only;omega⟩,by simp [post]⟩
   · simp [hlt,hn0]
     subst hR
     have:=hmod y (by omega)
     exact ⟨((a,h'),(y:Int).tmod n),⟨⟨hc,ha,hl⟩,by simp only;omega⟩,by simp [post]⟩
theorem callS {G:Rl} {d:Option Nat} {k:Env→Prop} {e:Env} {n id:Nat} {ts us ts':List T} {r:T} (hc:G id (.mem .own none (T.lendL ts)::T.lendL us) (.mem .own none ts'::us) r) (hk:k ((e.over n (.mem .own none ts')).setD d (.val r))):callsP G d k e n id ts us:=⟨ts',r,hc,hk⟩
def S_pick (pg:Pg):Prop:=∀ (c:Rw Int) (s:Int×Int) (l:List Int),Sr c s→0<l.length→l.length≤1048576→∃ (s':Int×Int) (r:Int),(Sr c s'∧r∈l)∧Call pg 292 [src c s,ix l] [src c s',ix l] (I r)
set_option maxRecDepth 10000 in
theorem t_pick {pg:Pg} (hp:pg.fn 292=some c_spec_l01Pick) (h336:S_nxt pg):S_pick pg:=by
 intro c s l hs h0 hl
 obtain ⟨s',r,⟨g1,g2,g3,_⟩,hc⟩:=h336 c s l.length hs
 have g3:=g3 (by omega)
 obtain ⟨i,rfl⟩:∃ i:Nat,r=i:=⟨r.toNat,by omega⟩
 have hi:i<l.length:=by omega
 refine ⟨s',l[i],⟨g1,List.getElem_mem hi⟩,Call.intro_own hp rfl (by simp [F.lets,c_spec_l01Pick,List.range,List.range.loop]) ?_⟩
 show wp _ _ c_spec_l01Pick.body (post [.t 4] _ _ _) _
 simp [c_spec_l01Pick]
 refine callS (ts':=[rawB c,I s'.1,H64 s'.2]) (r:=I i) (by simpa using hc) ?_
 simp [hi]
def S_from (pg:Pg):Prop:=∀ c:Rw Int,okB c→∃ s:Int×Int,Sr c s∧Call pg 269 [rawB c] [rawB c] (src c s)
set_option maxRecDepth 10000 in
theorem t_from {pg:Pg} (hp:pg.fn 269=some c_spec_l01From):S_from pg:=by
 intro c hc
 have hb:=hc.1
 have hfind:=Call.find (α:=Int×Int) (Q:=fun s=>Sr c s) (args:=[rawB c]) (r:=fun s=>src c s) hp rfl (by simp) ?_
 · exact hfind
 show wp _ _ c_spec_l01From.body (postX _ [.t 2] _ _ _) _
 generalize hR:postX (fun s:Int×Int=>Sr c s) [.t 2] [rawB c] (fun _=>[rawB c]) (fun s=>src c s)=R
 simp [c_spec_l01From]
 obtain ⟨m,m1,m2,m3⟩:∃ m:Nat,m≤(lst c).length∧m≤4096∧(m=(lst c).length∨m=4096):=by
  by_cases h1:(lst c).length≤4096
  · exact ⟨_,Nat.le_refl _,h1,.inl rfl⟩
  · exact ⟨4096,by omega,Nat.le_refl _,.inr rfl⟩
 refine j0a (fun k e=>∃ h:Int,e=fr [(0,some (.val (rawB c))),(3,some (.val (src c (0,h)))),(4,some (.val (I k)))]) m ?_ ?_ 0 _ (by omega) ⟨_,rfl⟩
 · rintro k e hk ⟨h,rfl⟩
   have k1:k<(lst c).length:=by omega
   have k2:(k:Int)<4096:=by omega
   simp [k1,k2]
   exact ⟨by omega,_,rfl⟩
 · rintro e ⟨h,rfl⟩
   have hok:Sr c (0,h):=⟨hc,by simp,by simp⟩
   by_cases h1:m=(lst c).length
   · subst h1
     simp [j01]
     subst hR
     exact ⟨(0,h),hok,by simp [post]⟩
   · have h2:m=4096:=by omega
     subst h2
     have h3:(4096:Int)<(lst c).length:=by omega
     simp [h3]
     subst hR
     exact ⟨(0,h),hok,by simp [post]⟩
end Go.Mch
namespace Go.Mch
section
variable {H:Type} {enc:TypeId×Value→H} {P:Program} {w:World} {base:Nat} {held:Bool} {fm:Nat→Nat}
theorem u8_wf {n:Int} (h:(Lit.int .u8 n).wf=true):0≤n∧n<256:=by
 simp only [Lit.wf,Bool.and_eq_true,decide_eq_true_eq] at h
 have h1:IntKind.u8.min=0:=by decide
 have h2:IntKind.u8.max=255:=by decide
 omega
theorem open_rawB {m:DataW H→Nat} (hm:Bulk m) {t e:TypeId} {fuel:Nat} {cs:List Value} {x:DataW H×List MemPlace} (ht:P.underlying t=some (.slice e)) (he:P.underlying e=some (.int .u8)) (hc:P.cellsOf e=1)
 (h:DataW.trod enc P w base (fun _=>true) held fuel t cs=some x):∃ v o,cs=[v]∧rep fm okCl w v (rawB o)∧(lst o).length≤m x.1∧∀ n∈lst o,0≤n∧n<256:=by
 rcases open_raw ht hc h with ⟨rfl,hx⟩ | ⟨a,rfl,hx⟩ | ⟨b,off,len,cap,ds,rest,n,rfl,hl,hx,hlen,hel⟩
 · exact ⟨_,.no,rfl,⟨rfl,rfl⟩,by simp,by simp⟩
 · exact ⟨_,.odd a,rfl,⟨rfl,rfl⟩,by simp,by simp⟩
 · obtain ⟨zs,h1,h2⟩:=each (Q:=fun i (z:Int)=>w.cell? ⟨b,off+i,none⟩=some (.int .u8 z)∧(Lit.int .u8 z).wf=true) len (fun i hi=>by
    obtain ⟨c,y,h3,h4,_⟩:=hel i hi
    obtain ⟨z,h5,_,h6⟩:=DataW.trod_int he h4
    simp only [List.cons.injEq,and_true] at h5
    exact ⟨z,by rw [h3,h5],h6⟩)
   refine ⟨_,.of zs,rfl,rep_slice (by simp [h1]) hl (by simp) (fun i hi=>?_),?_,fun n hn=>?_⟩
   · have hi':i<zs.length:=by simpa using hi
     exact ⟨_,(h2 i hi').1,by simp [rep,scal]⟩
   · rw [hx]
     exact Nat.le_trans (by simp [h1,hlen]) (hm.slice ds rest)
   · obtain ⟨i,hi,rfl⟩:=List.getElem_of_mem hn
     exact u8_wf (h2 i hi).2
theorem open_argB {m:DataW H→Nat} (hm:Bulk m) {rc:Reach} {b0:Nat} {t e:TypeId} {v:Value} {d:DataW H} {ps:List MemPlace} (ht:P.underlying t=some (.slice e)) (he:P.underlying e=some (.int .u8)) (hc:P.cellsOf e=1)
 (hval:Value.okWide P w rc b0 t v) (h:DataW.Trod enc P w base (fun _=>true) held t v d ps):∃ a,rep fm okCl w v (rawB a)∧(lst a).length≤m d∧∀ n∈lst a,0≤n∧n<256:=by
 obtain ⟨ad,len,cap,rfl⟩:=Go.WideShapes.okWide_slice ht hval
 obtain ⟨fuel,h⟩:=h
 obtain ⟨v0,a,e1,e2,e3,e4⟩:=open_rawB (fm:=fm) hm ht he hc h
 simp only [Value.cells,List.cons.injEq,and_true] at e1
 subst e1
 exact ⟨a,e2,e3,e4⟩
end
end Go.Mch
namespace Go.Mch

def zeroT (m k:Nat):List (List Int):=List.replicate k (List.replicate m 0)
def zT (m k:Nat):T:=if k=0 then nil else .mem .own (some 1) (rows (zeroT m k))
theorem zT_succ (m k:Nat):zT m (k+1)=.mem .own (some 1) (rows (zeroT m k)++[.mem .own (some 1) (List.replicate m (I 0))]):=by
 simp [zT,zeroT,List.replicate_succ',rows_append]
 simp [rows]
def S_empty (pg:Pg):Prop:=∀ m:Nat,0<m→m≤1000→Call pg 398 [I m] [I m] (.agg [.mem .own (some 1) (rows (zeroT m m)),.mem .own (some 1) (rows (zeroT m m))])
theorem t_l02Empty {pg:Pg} (hp:pg.fn 398=some c_spec_l02Empty):S_empty pg:=by
 intro m h0 hm
 refine Call.intro hp rfl (by simp) ?_
 show wp _ _ c_spec_l02Empty.body (post [.cell 2 (some 2)] _ _ _) _
 simp [c_spec_l02Empty]
 refine j0a (fun k e=>e=fr [(0,some (.val (I m))),(2,some (.val (.mem .own none [nil,nil]))),(3,some (.val (.mem .own none [zT m k,zT m k]))),(4,some (.val (I k)))]) m ?_ ?_ 0 _ (by omega) ?_
 · rintro k e hk rfl
   have hr:m≤roomy:=by unfold roomy;omega
   by_cases hk0:k=0
   · subst hk0
     have h1:1≤roomy:=by unfold roomy;omega
     rw [zT_succ]
     simp [hk,zT,zeroT,rows,hr,h1]
   · have hlen:(zeroT m k).length=k:=by simp [zeroT]
     have h1:k+1≤roomy:=by unfold roomy;omega
     rw [zT_succ]
     have hz:zT m k=.mem .own (some 1) (rows (zeroT m k)):=by simp [zT,hk0]
     rw [hz]
     generalize zeroT m k=Z at *
     simp [hk,hr,hlen,h1]
     omega
 · rintro e rfl
   have hz:zT m m=.mem .own (some 1) (rows (zeroT m m)):=by simp [zT];omega
   rw [hz]
   simp
 · simp [zT]

end Go.Mch
namespace Go.Mch

theorem rows_set2 {X:List (List Int)} {i j:Nat} {v:Int} (h:i<X.length):(rows X).set i (.mem .own (some 1) ((X[i].map I).set j (I v)))=rows (X.set i (X[i].set j v)):=by
 simp [rows,List.map_set]
end Go.Mch
namespace Go.Mch

def rowN (X:List (List Int)):T:=if X=[] then nil else .mem .own (some 1) (rows X)
theorem rowN_ne {X:List (List Int)} (h:X≠[]):rowN X=.mem .own (some 1) (rows X):=by simp [rowN,h]
theorem rowN_snoc (X:List (List Int)) (r:List Int):rowN (X++[r])=.mem .own (some 1) (rows X++[.mem .own (some 1) (r.map I)]):=by
 rw [rowN_ne (by simp)];simp [rows]

def ascAt (xs:List Int) (k:Nat):Prop:=xs.getD k 0<xs.getD (k+1) 0
def asc (xs:List Int):Prop:=∀ k:Nat,k+1<xs.length→ascAt xs k
def isSetL (n:Int) (xs:List Int):Prop:=0<xs.length∧inR 0 (n-1) xs∧asc xs
end Go.Mch
namespace Go.Mch

def invQ (p:List Int) (x:Nat):Nat:=(ixOf p x).toNat
structure Pm (p:List Int):Prop where
 pm:j05 p
 pos:0<p.length
 sm:p.length≤12
theorem Pm.mem {p:List Int} (h:Pm p) {x:Nat} (hx:x<p.length):(x:Int)∈p :=
 ((perm_permuted (by have:=h.pos;omega) h.sm h.pm.1).2 h.pm).2.2 x hx
theorem Pm.lt {p:List Int} (h:Pm p) {x:Nat} (hx:x<p.length):invQ p x<p.length:=by
 have h1:=ixOf_le p x
 have h2:=(ixOf_mem p x).2 (h.mem hx)
 unfold invQ
 omega
theorem ixOf_getD:∀ (xs:List Int) (v:Int),0≤ixOf xs v→xs.getD (ixOf xs v).toNat 0=v:=by
 intro xs v
 induction xs with
 | nil=>intro h;simp [ixOf] at h
 | cons z xs ih =>
  intro h
  unfold ixOf at h ⊢
  by_cases hz:z=v
  · simp [hz]
  · rw [if_neg hz] at h ⊢
    by_cases hn:ixOf xs v<0
    · rw [if_pos hn] at h;omega
    · rw [if_neg hn]
      have:=ih (by omega)
      rw [show (ixOf xs v+1).toNat=(ixOf xs v).toNat+1 by omega]
      simpa using this
theorem Pm.at {p:List Int} (h:Pm p) {x:Nat} (hx:x<p.length):p.getD (invQ p x) 0=x :=
 ixOf_getD p x ((ixOf_mem p x).2 (h.mem hx))
theorem Pm.back {p:List Int} (h:Pm p) {i:Nat} (hi:i<p.length):invQ p (p[i]).toNat=i:=by
 have hr:=h.pm.1 _ (List.getElem_mem hi)
 have e:(((p[i]).toNat:Nat):Int)=p[i]:=by omega
 unfold invQ
 rw [e,ixOf_at hi (fun j hj he=>?_) rfl]
 · simp
 · have:=(List.getElem_inj h.pm.2).1 he
   omega
def invL (p:List Int):List Int:=(List.range p.length).map fun x=>(invQ p x:Int)
@[simp] theorem invL_length (p:List Int):(invL p).length=p.length:=by simp [invL]
def invK (p:List Int) (k:Nat):List Int:=(List.range p.length).map fun x=>if invQ p x<k then (invQ p x:Int) else 0
@[simp] theorem invK_length (p:List Int) (k:Nat):(invK p k).length=p.length:=by simp [invK]
theorem invK_zero (p:List Int):invK p 0=List.replicate p.length 0:=by
 apply List.ext_getElem
 · simp
 · intro i h1 h2;simp [invK]
theorem invK_last {p:List Int} (h:Pm p):invK p p.length=invL p:=by
 refine List.map_congr_left fun x hx=>?_
 rw [if_pos (h.lt (List.mem_range.1 hx))]
theorem invK_set {p:List Int} (h:Pm p) {k:Nat} (hk:k<p.length):(invK p k).set (p[k]).toNat k=invK p (k+1):=by
 have hr:=h.pm.1 _ (List.getElem_mem hk)
 apply List.ext_getElem
 · simp
 · intro x h1 h2
   have hx:x<p.length:=by simpa using h2
   simp only [List.getElem_set,invK,List.getElem_map,List.getElem_range]
   by_cases hxk:(p[k]).toNat=x
   · subst hxk
     rw [if_pos rfl,h.back hk,if_pos (by omega)]
   · rw [if_neg hxk]
     have hne:invQ p x≠k:=fun he=>by
      have:=h.at hx
      rw [he] at this
      simp [hk] at this
      omega
     by_cases hlt:invQ p x<k
     · rw [if_pos hlt,if_pos (by omega)]
     · rw [if_neg hlt,if_neg (by omega)]
def S_inv (pg:Pg) (n:Nat):Prop:=∀ p:List Int,Pm p→Call pg n [ix p] [ix p] (.mem .own (some 1) ((invL p).map I))
theorem t_l01Back {pg:Pg} (hp:pg.fn 304=some c_spec_l01Back):S_inv pg 304:=by
 intro p h
 have h12:=h.sm
 refine Call.intro hp rfl (by simp) ?_
 show wp _ _ c_spec_l01Back.body (post [.t 2] _ _ _) _
 simp [c_spec_l01Back]
 refine ⟨by unfold roomy;omega,?_⟩
 refine j0a (fun k e=>e=fr [(0,some (.val (ix p))),(3,some (.val (.mem .own (some 1) ((invK p k).map I)))),(4,some (.val (I k)))]) p.length ?_ ?_ 0 _ (by omega) ?_
 · rintro k e hk rfl
   have hr:=h.pm.1 _ (List.getElem_mem hk)
   have hl:=invK_length p k
   have hs:=invK_set h hk
   have ht:(p[k]).toNat<p.length:=by omega
   rw [← hs]
   generalize invK p k=K at *
   simp [hk,hr,ht,hl]
   omega
 · rintro e rfl
   simp [invK_last h]
 · simp [invK_zero]
theorem t_inverse {pg:Pg} (hp:pg.fn 307=some c_impl_inverse):S_inv pg 307:=by
 intro p h
 have h12:=h.sm
 refine Call.intro hp rfl (by simp) ?_
 show wp _ _ c_impl_inverse.body (post [.t 2] _ _ _) _
 simp [c_impl_inverse]
 refine ⟨by unfold roomy;omega,?_⟩
 refine j0a (fun k e=>e=fr [(3,some (.val (.mem .own (some 1) ((invK p k).map I)))),(9,some (.val (ix p))),(10,some (.val (I p.length))),(11,some (.val (I k)))]) p.length ?_ ?_ 0 _ (by omega) ?_
 · rintro k e hk rfl
   have hr:=h.pm.1 _ (List.getElem_mem hk)
   have hl:=invK_length p k
   have hs:=invK_set h hk
   have ht:(p[k]).toNat<p.length:=by omega
   rw [← hs]
   generalize invK p k=K at *
   simp [hk,hr,ht,hl]
   omega
 · rintro e rfl
   simp [invK_last h]
 · simp [invK_zero]


def imG (t:List (List Int)) (p:List Int) (x y:Nat):Int:=p.getD (v2 t (invQ p x) (invQ p y)).toNat 0
def imT (t:List (List Int)) (p:List Int):List (List Int):=tabL t.length (imG t p)
def imK (t:List (List Int)) (p:List Int) (a b:Nat):List (List Int):=tabL t.length fun x y=>if invQ p x<a∨(invQ p x=a∧invQ p y<b) then imG t p x y else v2 t x y
@[simp] theorem imK_length (t:List (List Int)) (p:List Int) (a b:Nat):(imK t p a b).length=t.length:=by simp [imK]
theorem imK_row (t:List (List Int)) (p:List Int) (a b:Nat) {i:Nat} (h:i<(imK t p a b).length):(imK t p a b)[i].length=t.length:=tabL_row (by rw [← imK];exact List.getElem_mem h)
theorem imK_zero {t:List (List Int)} (p:List Int) (ht:Tab t):imK t p 0 0=t:=by
 have:t=tabL t.length (v2 t):=tab_eq rfl fun r hr=>(ht r hr).1
 conv=>rhs;rw [this]
 exact tabL_congr fun x y _ _=>by simp
theorem imK_next {t:List (List Int)} {p:List Int} (h:Pm p) (hl:p.length=t.length) (a:Nat):imK t p a t.length=imK t p (a+1) 0:=by
 apply tabL_congr
 intro x y hx hy
 have:=h.lt (x:=y) (by omega)
 have e:(invQ p x<a∨(invQ p x=a∧invQ p y<t.length))↔(invQ p x<a+1∨(invQ p x=a+1∧invQ p y<0)):=by omega
 simp only [e]
theorem imK_last {t:List (List Int)} {p:List Int} (h:Pm p) (hl:p.length=t.length):imK t p t.length 0=imT t p:=by
 apply tabL_congr
 intro x y hx hy
 have:=h.lt (x:=x) (by omega)
 rw [if_pos (by omega)]
theorem imK_set {t:List (List Int)} {p:List Int} (h:Pm p) (hl:p.length=t.length) {a b:Nat} (ha:a<p.length) (hb:b<p.length) {P Q:Nat} (hP:(p[a]).toNat=P) (hQ:(p[b]).toNat=Q) (hPl:P<(imK t p a b).length) :
 (imK t p a b).set P ((imK t p a b)[P].set Q (p.getD (v2 t a b).toNat 0))=imK t p a (b+1):=by
 have qP:invQ p P=a:=hP▸h.back ha
 have qQ:invQ p Q=b:=hQ▸h.back hb
 have hinj:∀ x,x<p.length→invQ p x=a→x=P:=fun x hx he=>by
  have:=h.at hx
  rw [he] at this
  simp [ha] at this
  omega
 have hinj2:∀ x,x<p.length→invQ p x=b→x=Q:=fun x hx he=>by
  have:=h.at hx
  rw [he] at this
  simp [hb] at this
  omega
 apply List.ext_getElem
 · simp
 · intro i h1 h2
   have hi:i<t.length:=by simpa using h2
   rw [List.getElem_set]
   by_cases hiP:P=i
   · subst hiP
     rw [if_pos rfl]
     apply List.ext_getElem
     · simp [imK_row]
     · intro j h3 h4
       have hj:j<t.length:=by simpa [imK_row] using h4
       rw [List.getElem_set]
       simp only [imK,tabL,List.getElem_map,List.getElem_range]
       by_cases hjQ:Q=j
       · subst hjQ
         rw [if_pos rfl,if_pos (by omega),imG,qP,qQ]
       · rw [if_neg hjQ]
         have:invQ p j≠b:=fun he=>hjQ (hinj2 j (by omega) he).symm
         have e:(invQ p P<a∨(invQ p P=a∧invQ p j<b))↔(invQ p P<a∨(invQ p P=a∧invQ p j<b+1)):=by omega
         simp only [e]
   · rw [if_neg hiP]
     have hne:invQ p i≠a:=fun he=>hiP (hinj i (by omega) he).symm
     simp only [imK,tabL,List.getElem_map,List.getElem_range]
     refine List.map_congr_left fun j _=>?_
     have e:(invQ p i<a∨(invQ p i=a∧invQ p j<b))↔(invQ p i<a∨(invQ p i=a∧invQ p j<b+1)):=by omega
     simp only [e]
def S_image (pg:Pg) (n:Nat):Prop:=∀ (t:List (List Int)) (p:List Int),Tab t→Pm p→p.length=t.length→Call pg n [tb t,ix p] [tb t,ix p] (.mem .own (some 1) (rows (imT t p)))
end Go.Mch
namespace Go.Mch

theorem Pm.inL {p:List Int} (h:Pm p):inN p.length p:=h.pm.1
theorem imK_setD {t:List (List Int)} {p:List Int} (h:Pm p) (hl:p.length=t.length) {a b:Nat} (ha:a<p.length) (hb:b<p.length) {P Q:Nat} (hP:(p[a]).toNat=P) (hQ:(p[b]).toNat=Q) :
 (imK t p a b).set P (((imK t p a b).getD P []).set Q (p.getD (v2 t a b).toNat 0))=imK t p a (b+1):=by
 have ra:=h.inL _ (List.getElem_mem ha)
 have hPl:P<(imK t p a b).length:=by rw [imK_length];omega
 have:=imK_set h hl ha hb hP hQ hPl
 rw [← this,List.getD_eq_getElem?_getD,List.getElem?_eq_getElem hPl]
 rfl
set_option maxRecDepth 10000 in
theorem t_l03Image {pg:Pg} (hp:pg.fn 303=some c_spec_l03Image) (h280:S_copyT pg 280):S_image pg 303:=by
 intro t p ht h hl
 have h12:=h.sm
 have h0:=h.pos
 have hfit:fits t:=⟨by omega,fun r hr=>by have:=(ht r hr).1;omega⟩
 refine Call.intro hp rfl (by simp) ?_
 show wp _ _ c_spec_l03Image.body (post [.t 4] _ _ _) _
 simp [c_spec_l03Image]
 refine j0e (h280 t hfit) rfl rfl (fun _=>by simp) ?_
 simp
 refine j0a (fun a e=>e=fr [(0,some (.val (tb t))),(1,some (.val (ix p))),(5,some (.val (.mem .own (some 1) (rows (imK t p a 0))))),(6,some (.val (I a)))]) t.length ?_ ?_ 0 _ (by omega) ?_
 · rintro a e ha rfl
   rw [← imK_next h hl a]
   simp [ha]
   refine j0a (fun b e=>e=fr [(0,some (.val (tb t))),(1,some (.val (ix p))),(5,some (.val (.mem .own (some 1) (rows (imK t p a b))))),(6,some (.val (I a))),(7,some (.val (I b)))]) t.length ?_ ?_ 0 _ (by omega) ?_
   · rintro b e hb rfl
     have hap:a<p.length:=by omega
     have hbp:b<p.length:=by omega
     have ra:=h.inL _ (List.getElem_mem hap)
     have rb:=h.inL _ (List.getElem_mem hbp)
     have hXl:=imK_length t p a b
     have hXr:=fun {i:Nat} hi=>imK_row t p a b (i:=i) hi
     obtain ⟨P,hP⟩:∃ P,p[a]=P:=⟨_,rfl⟩
     obtain ⟨Q,hQ⟩:∃ Q,p[b]=Q:=⟨_,rfl⟩
     rw [hP] at ra
     rw [hQ] at rb
     have hset:=imK_setD h hl hap hbp (P:=P.toNat) (Q:=Q.toNat) (by rw [hP]) (by rw [hQ])
     have hrow:=ht.row ha
     have hbr:b<(t[a]).length:=by rw [hrow];exact hb
     have hv:=get_v2 ha hbr
     have hv1:=ht.nonneg a b
     have hv2:=ht.lt (by omega) a b
     rw [← hset]
     clear hset
     generalize v2 t a b=v at *
     have hvl:v.toNat<p.length:=by omega
     have hvl2:v<p.length:=by omega
     have hg:p[v.toNat]=p.getD v.toNat 0:=by simp [hvl]
     generalize p.getD v.toNat 0=w at *
     generalize imK t p a b=X at *
     have hPX:P.toNat<X.length:=by omega
     have hPX2:P<X.length:=by omega
     have hr:=hXr hPX
     have hXg:X.getD P.toNat []=X[P.toNat]:=by simp [hPX]
     rw [hXg]
     have hQX:Q.toNat<(X[P.toNat]).length:=by omega
     have hQX2:Q<(X[P.toNat]).length:=by omega
     rw [← rows_set2 hPX]
     simp [ha,hb,hap,hbp,hP,hQ,hrow,hv,hvl,hvl2,hv1,hg,ra,rb,hPX,hPX2,hQX,hQX2]
     omega
   · rintro e rfl
     simp
     omega
   · simp
 · rintro e rfl
   rw [imK_last h hl]
   simp
 · simp [imK_zero p ht]
def S_ren1 (pg:Pg):Prop:=∀ (t:List (List Int)) (p:List Int) (x y:Nat),Tab t→Pm p→p.length=t.length→x<t.length→y<t.length →
 Call pg 390 [I x,I y,.mem .old none [ix p],.mem .old none [tb t],.mem .old none [ix (invL p)]] [I x,I y,.mem .old none [ix p],.mem .old none [tb t],.mem .old none [ix (invL p)]] (I (imG t p x y))
theorem invL_get {p:List Int} {x:Nat} (h:x<(invL p).length):(invL p)[x]=(invQ p x:Int):=by simp [invL]
theorem t_renamed1 {pg:Pg} (hp:pg.fn 390=some c_impl_renamed_1):S_ren1 pg:=by
 intro t p x y ht h hl hx hy
 refine Call.intro hp rfl (by simp) ?_
 show wp _ _ c_impl_renamed_1.body (post [.t 7] _ _ _) _
 have qx:=h.lt (x:=x) (by omega)
 have qy:=h.lt (x:=y) (by omega)
 have hxl:x<(invL p).length:=by rw [invL_length];omega
 have hyl:y<(invL p).length:=by rw [invL_length];omega
 have g1:=invL_get hxl
 have g2:=invL_get hyl
 unfold imG
 generalize invQ p x=a at *
 generalize invQ p y=b at *
 generalize invL p=V at *
 have ha:a<t.length:=by omega
 have hrow:=ht.row ha
 have hbr:b<(t[a]).length:=by omega
 have hv:=get_v2 ha hbr
 have hv1:=ht.nonneg a b
 have hv2:=ht.lt (by omega) a b
 generalize v2 t a b=v at *
 have hvl:v.toNat<p.length:=by omega
 have hvl2:v<p.length:=by omega
 have hg:p[v.toNat]=p.getD v.toNat 0:=by simp [hvl]
 generalize p.getD v.toNat 0=w at *
 simp [c_impl_renamed_1,hxl,hyl,g1,g2,ha,hbr,hv,hv1,hvl,hvl2,hg]
theorem t_renamed {pg:Pg} (hp:pg.fn 306=some c_impl_renamed) (h307:S_inv pg 307) (h376:S_tableBy pg) (h390:S_ren1 pg):S_image pg 306:=by
 intro t p ht h hl
 have h12:=h.sm
 refine Call.intro hp rfl (by simp) ?_
 show wp _ _ c_impl_renamed.body (post [.t 4] _ _ _) _
 simp [c_impl_renamed]
 refine j0e (h307 p h) rfl rfl (fun _=>by simp) ?_
 have hb:=h376 t.length (imG t p) 390 [.mem .old none [ix p],.mem .old none [tb t],.mem .old none [ix (invL p)]] (by omega) (by simp) (by simp) fun x y hx hy=>h390 t p x y ht h hl hx hy
 generalize invL p=V at *
 simp
 refine j0e hb rfl rfl (fun _=>by simp) ?_
 simp [imT]


def twG (p:List Int) (_ y:Nat):Int:=p.getD y 0
def twH (t:List (List Int)) (p:List Int) (x y:Nat):Int:=(invQ p (v2 t (p.getD y 0).toNat x).toNat:Int)
def twF (p:List Int):List (List Int):=tabL p.length (twG p)
def twS (t:List (List Int)) (p:List Int):List (List Int):=tabL p.length (twH t p)
def rowG (g:Nat→Nat→Int) (x k:Nat):List Int:=(List.range k).map (g x)
theorem rowG_length (g:Nat→Nat→Int) (x k:Nat):(rowG g x k).length=k:=by simp [rowG]
theorem rowG_succ (g:Nat→Nat→Int) (x k:Nat):rowG g x (k+1)=rowG g x k++[g x k]:=by simp [rowG,List.range_succ]
theorem tabL_take {n:Nat} (g:Nat→Nat→Int) {i:Nat} (hi:i<n):(tabL n g).take (i+1)=(tabL n g).take i++[rowG g i n]:=by
 have:i<(tabL n g).length:=by simpa using hi
 rw [List.take_succ_eq_append_getElem this]
 simp [tabL,rowG]
theorem tabL_ne {n:Nat} {g:Nat→Nat→Int} (h:0<n):tabL n g≠[]:=fun hh=>by
 have:(tabL n g).length=0:=by rw [hh];rfl
 rw [tabL_length] at this
 omega
open Classical in
noncomputable def twR (t:List (List Int)) (p:List Int):Option (List (List Int)×List (List Int)):=if isRk t∧p.length=t.length∧j05 p∧imT t p=t then some (twF p,twS t p) else none
open Classical in
noncomputable def twC (t:List (List Int)) (p:List Int):Int:=if isRk t then (if p.length=t.length∧j05 p then (if imT t p=t then 0 else 5) else 2) else 1
def S_tw (pg:Pg) (n:Nat):Prop:=∀ (t:List (List Int)) (p:List Int),fits t→p.length≤1048576→Call pg n [rk t,ix p] [rk t,ix p] (.tup [solT (twR t p),I (twC t p)])
def S_tw1 (pg:Pg):Prop:=∀ (t:List (List Int)) (p:List Int) (x y:Nat),Tab t→Pm p→p.length=t.length→x<p.length→y<p.length →
 Call pg 309 [I x,I y,.mem .old none [ix p],.mem .old none [ix (invL p)],.mem .old none [tb t]] [I x,I y,.mem .old none [ix p],.mem .old none [ix (invL p)],.mem .old none [tb t]] (.tup [I (twG p x y),I (twH t p x y)])
theorem t_tw1 {pg:Pg} (hp:pg.fn 309=some c_impl_TwistedSolution_1):S_tw1 pg:=by
 intro t p x y ht h hl hx hy
 refine Call.intro hp rfl (by simp) ?_
 show wp _ _ c_impl_TwistedSolution_1.body (post [.t 7,.t 8] _ _ _) _
 have hr:=h.inL _ (List.getElem_mem hy)
 have e1:p.getD y 0=p[y]:=by simp [hy]
 unfold twH twG
 rw [e1]
 generalize hb:p[y]=b at *
 have hbt:b.toNat<t.length:=by omega
 have hbt2:b<t.length:=by omega
 have hrow:=ht.row hbt
 have hbr:x<(t[b.toNat]).length:=by omega
 have hv:=get_v2 hbt hbr
 have hv1:=ht.nonneg b.toNat x
 have hv2:=ht.lt (by omega) b.toNat x
 generalize v2 t b.toNat x=v at *
 have hvl:v.toNat<(invL p).length:=by rw [invL_length];omega
 have hvl2:v<(invL p).length:=by rw [invL_length];omega
 have hg:=invL_get hvl
 generalize invQ p v.toNat=w at *
 generalize invL p=V at *
 simp [c_impl_TwistedSolution_1,hy,hb,hr,hbt,hbt2,hbr,hv,hv1,hvl,hvl2,hg]
end Go.Mch
namespace Go.Mch

def S_unit (pg:Pg):Prop:=∀ n:Nat,n≤1048576→Call pg 334 [I n] [I n] (.mem .own (some 1) ((idL n).map I))
theorem t_unit {pg:Pg} (hp:pg.fn 334=some c_spec_l01Unit):S_unit pg:=by
 intro n hn
 refine Call.intro hp rfl (by simp) ?_
 show wp _ _ c_spec_l01Unit.body (post [.t 2] _ _ _) _
 simp [c_spec_l01Unit]
 refine j0a (fun k e=>e=fr [(0,some (.val (I n))),(3,some (.val (.mem .own (some 1) ((idL k).map I)))),(4,some (.val (I k)))]) n ?_ ?_ 0 _ (by omega) ?_
 · rintro k e hk rfl
   simp [hk,roomy,idL_succ]
   omega
 · rintro e rfl
   simp
 · simp [idL]

end Go.Mch
namespace Go.Mch

def boxT:Option T→Bool
 | some (.mem _ none _)=>true
 | _=>false
@[simp] theorem boxT_mem (k:K) (ts:List T):boxT (some (.mem k none ts))=true:=rfl
@[simp] theorem whole_pref {e:Env} (r:Nat) (p:List Nat) (off:Nat):e.whole (.pref r p off)=(off == 0&&boxT (e.tree r p)):=by
 unfold Env.whole boxT
 rfl
@[simp] theorem hole_pref {e:Env} (r:Nat) (p:List Nat) (off:Nat):e.hole (.pref r p off)=e.isHole r p:=rfl
@[simp] theorem give_pref {e:Env} (r:Nat) (p:List Nat) (off:Nat) (t:T):e.give (.pref r p off) t=e.back1 r p t:=by cases t <;> rfl
set_option maxRecDepth 10000 in
theorem t_breakPatterns {pg:Pg} (hp:pg.fn 435=some j0s) (h451:S_np2 pg) (h452:S_next pg):S_brk pg:=by
 intro X a b hS hD hab hb _
 have hX1:=hS.1
 have hfind:=Call.findA (α:=List (List Int)) (Q:=fun Y=>PI X Y a b) (args:=[ownR X,I a,I b,.fn 314 []]) (args':=fun Y=>[ownR Y,I a,I b,.fn 314 []]) (r:=fun _=>.tup []) hp rfl (by simp [F.lets,j0s,List.range,List.range.loop]) (kind_own _ _) ?_
 · obtain ⟨Y,h1,h2⟩:=hfind
   exact ⟨Y,_,h1,rfl,trivial,h2⟩
 show wp _ _ j0s.body (postX _ [] _ _ _) _
 generalize hR:postX (fun Y=>PI X Y a b) [] [ownR X,I a,I b,.fn 314 []] (fun Y=>[ownR Y,I a,I b,.fn 314 []]) (fun _=>T.tup [])=R
 obtain ⟨n,rfl⟩:∃ n,b=a+n:=⟨b-a,by omega⟩
 have hn:(a:Int)+n-a=n:=by omega
 by_cases h8:8≤n
 · have h8':(8:Int)≤n:=by omega
   obtain ⟨q,hq⟩:∃ q:Nat,q=n / 4:=⟨_,rfl⟩
   have hdiv:(n:Int).tdiv 4=(q:Int):=by
    rw [Int.tdiv_eq_ediv_of_nonneg (by omega)];omega
   have ew:IntKind.u64.wrap (n:Int)=n:=wru (by omega) (by omega)
   obtain ⟨P,⟨p1,p2⟩,hP⟩:=h451 n (by omega) (by omega)
   simp [j0s,hn,h8',ew]
   refine ⟨by omega,?_⟩
   refine j0e hP rfl rfl (fun _=>rfl) ?_
   obtain ⟨p0,hp0⟩:∃ p0:Nat,(a:Int)+q*2-1=p0:=⟨a+q*2-1,by omega⟩
   simp [hdiv,hp0]
   refine ⟨by omega,by omega,by omega,by omega,?_⟩
   refine j0m (α:=List (List Int)×Nat×Int) (fun z=>(a+q*2+2-z.2.1)) (fun z e=>(PI X z.1 a (a+n)∧p0≤z.2.1∧z.2.1≤a+q*2+2)∧e=fr [(0,some (.val (ownR z.1))),(1,some (.val (I a))),(2,some (.val (I (a+n)))),(3,some (.val (.fn 314 []))),(8,some (.val (I n))),(9,some (.val (bxU z.2.2))),(10,some (.val (U64 P))),(11,some (.val (I z.2.1)))]) ?_ (X,p0,n) _ ⟨⟨PI.refl hD _ _,Nat.le_refl _,by simp only;omega⟩,by simp⟩
   rintro ⟨Y,p,r⟩ e ⟨⟨g1,g2,g3⟩,rfl⟩
   simp only at g1 g2 g3
   have hY:=g1.len
   by_cases hpp:p≤a+q*2+1
   · have hpp':(p:Int)≤a+q*2+1:=by omega
     obtain ⟨r',y,hy⟩:=h452 r
     have hpl:p<Y.length:=by omega
     have e1:=gt_at hpl
     obtain ⟨o,ho⟩:∃ o:Nat,o=(y % 2 ^ IntKind.u64.bits).toNat &&& (P-1):=⟨_,rfl⟩
     have hoP:o<P:=by rw [ho];exact and_lt p1
     simp [hdiv,hpp']
     repeat (refine And.intro (by omega) ?_)
     refine callM (ts':=[bxU r']) (r:=.sc (.int .u64 y)) ?_ ?_ ?_ ?_
     · simp
     · simpa using hy
     · simp
     · have ea:arith IntKind.u64 ((P:Int)-1)=some (.int .u64 ((P-1:Nat):Int)):=by
        have:(P:Int)-1=((P-1:Nat):Int):=by omega
        rw [this]
        show some (Value.int .u64 (IntKind.u64.wrap ((P-1:Nat):Int)))=_
        rw [wru (by omega) (by omega)]
       have ep:=ofI64 (n:=P-1) (by omega)
       simp only [BitVec.toNat_ofInt] at ep
       have ep':(P-1) % 2 ^ IntKind.u64.bits=P-1:=Nat.mod_eq_of_lt (by show P-1<18446744073709551616;omega)
       have eo:IntKind.i64.wrap (IntKind.u64.wrap (((y % 2 ^ IntKind.u64.bits).toNat &&& (P-1) % 2 ^ IntKind.u64.bits:Nat):Int))=o:=by
        rw [ep',← ho,wru (by omega) (by omega),wr64 (by omega)]
       by_cases hno:(n:Int)≤o
       · skip
         obtain ⟨t,ht⟩:∃ t:Nat,(o:Int)-n=t:=⟨o-n,by omega⟩
         have htn:t<n:=by omega
         have hnt:¬n≤t:=by omega
         have htl:a+t<Y.length:=by omega
         have e2:=gt_at htl
         have t0:((a:Int)+t).toNat=a+t:=by
          rw [show (a:Int)+t=((a+t:Nat):Int) from rfl];exact Int.toNat_natCast _
         have q0:0≤(a:Int)+t:=by omega
         have q1:(a:Int)+t<Y.length:=by omega
         by_cases hpt:p=a+t
         · have hrs:=rows_self hpl
           have hpa:(a:Int)+t=p:=by omega
           simp [ea,eo,hno,ht,hpa,hpl,e1,hrs]
           exact ⟨by omega,by omega,by omega,by omega,Y,p+1,by omega,⟨g1,by omega,by omega⟩,r',by simp⟩
         · have n1:(p == a+t)=false:=by simp;omega
           have n2:(a+t == p)=false:=by simp;omega
           simp [ea,eo,hno,ht,hpl,htl,e1,e2,t0,q0,q1,n1,hpt]
           rw [rows_swL]
           exact ⟨by omega,by omega,by omega,by omega,swL Y p (a+t),p+1,by omega,⟨g1.swap (by omega) ⟨by omega,by omega⟩ ⟨by omega,by omega⟩,by omega,by omega⟩,r',by simp⟩
       · skip
         obtain ⟨t,ht⟩:∃ t:Nat,(o:Int)=t:=⟨o,rfl⟩
         have htn:t<n:=by omega
         have hnt:¬n≤t:=by omega
         have htl:a+t<Y.length:=by omega
         have e2:=gt_at htl
         have t0:((a:Int)+t).toNat=a+t:=by
          rw [show (a:Int)+t=((a+t:Nat):Int) from rfl];exact Int.toNat_natCast _
         have q0:0≤(a:Int)+t:=by omega
         have q1:(a:Int)+t<Y.length:=by omega
         by_cases hpt:p=a+t
         · have hrs:=rows_self hpl
           have hpa:(a:Int)+t=p:=by omega
           simp [ea,eo,hnt,ht,hpa,hpl,e1,hrs]
           exact ⟨by omega,by omega,by omega,Y,p+1,by omega,⟨g1,by omega,by omega⟩,r',by simp⟩
         · have n1:(p == a+t)=false:=by simp;omega
           have n2:(a+t == p)=false:=by simp;omega
           simp [ea,eo,hnt,ht,hpl,htl,e1,e2,t0,q0,q1,n1,hpt]
           rw [rows_swL]
           exact ⟨by omega,by omega,by omega,swL Y p (a+t),p+1,by omega,⟨g1.swap (by omega) ⟨by omega,by omega⟩ ⟨by omega,by omega⟩,by omega,by omega⟩,r',by simp⟩
   · have hpp':¬(p:Int)≤a+q*2+1:=by omega
     simp [hdiv,hpp']
     repeat (refine And.intro (by omega) ?_)
     rw [← hR]
     exact ⟨Y,g1,by simp [post]⟩
 · have h8':¬(8:Int)≤n:=by omega
   simp [j0s,hn,h8']
   refine ⟨by omega,?_⟩
   rw [← hR]
   exact ⟨X,PI.refl hD _ _,by simp [post]⟩
end Go.Mch
namespace Go.Mch

abbrev bxI (s:Int):T:=.mem .own none [I s]
def S_ord2 (pg:Pg):Prop:=∀ (X:List (List Int)) (i j s:Nat),Sm X→i<X.length→j<X.length→s≤1000 →
 ∃ i' j' s':Nat,(((i'=i∧j'=j)∨(i'=j∧j'=i))∧s'≤s+1)∧Call pg 465 [ownR X,I i,I j,bxI s,.fn 314 []] [ownR X,I i,I j,bxI s',.fn 314 []] (.tup [I i',I j'])
theorem t_order2 {pg:Pg} (hp:pg.fn 465=some j0r) (h314:S_cmpL pg):S_ord2 pg:=by
 intro X i j s hS hi hj hs
 have hX1:=hS.1
 have e1:=gt_at hi
 have e2:=gt_at hj
 have hc:=h314 (gt X j) (gt X i) (hS.2 _)
 by_cases hb:cmpL (gt X j) (gt X i)<0
 · refine ⟨j,i,s+1,⟨.inr ⟨rfl,rfl⟩,by omega⟩,Call.intro_own hp rfl (by simp [F.lets,j0r,List.range,List.range.loop]) ?_⟩
   show wp _ _ j0r.body (post [.t 10,.t 11] _ _ _) _
   simp [j0r,hi,hj,e1,e2]
   repeat (refine And.intro (by omega) ?_)
   refine j0e hc rfl rfl (fun _=>rfl) ?_
   simp [hb]
   omega
 · refine ⟨i,j,s,⟨.inl ⟨rfl,rfl⟩,by omega⟩,Call.intro_own hp rfl (by simp [F.lets,j0r,List.range,List.range.loop]) ?_⟩
   show wp _ _ j0r.body (post [.t 10,.t 11] _ _ _) _
   simp [j0r,hi,hj,e1,e2]
   repeat (refine And.intro (by omega) ?_)
   refine j0e hc rfl rfl (fun _=>rfl) ?_
   simp [hb]
def S_med (pg:Pg):Prop:=∀ (X:List (List Int)) (i j k s:Nat),Sm X→i<X.length→j<X.length→k<X.length→s≤900 →
 ∃ m s':Nat,((m=i∨m=j∨m=k)∧s'≤s+3)∧Call pg 454 [ownR X,I i,I j,I k,bxI s,.fn 314 []] [ownR X,I i,I j,I k,bxI s',.fn 314 []] (I m)
theorem t_median {pg:Pg} (hp:pg.fn 454=some j1b) (h465:S_ord2 pg):S_med pg:=by
 intro X i j k s hS hi hj hk hs
 obtain ⟨i1,j1,s1,⟨c1,d1⟩,h1⟩:=h465 X i j s hS hi hj (by omega)
 obtain ⟨j2,k2,s2,⟨c2,d2⟩,h2⟩:=h465 X j1 k s1 hS (by omega) hk (by omega)
 obtain ⟨i3,j3,s3,⟨c3,d3⟩,h3⟩:=h465 X i1 j2 s2 hS (by omega) (by omega) (by omega)
 refine ⟨j3,s3,⟨by omega,by omega⟩,Call.intro_own hp rfl (by simp [F.lets,j1b,List.range,List.range.loop]) ?_⟩
 show wp _ _ j1b.body (post [.t 12] _ _ _) _
 simp [j1b]
 refine callM (ts':=[ownR X,I i,I j,bxI s1,.fn 314 []]) (r:=.tup [I i1,I j1]) ?_ ?_ ?_ ?_
 · simp
 · simpa using h1
 · simp
 · simp
   refine callM (ts':=[ownR X,I j1,I k,bxI s2,.fn 314 []]) (r:=.tup [I j2,I k2]) ?_ ?_ ?_ ?_
   · simp
   · simpa using h2
   · simp
   · simp
     refine callM (ts':=[ownR X,I i1,I j2,bxI s3,.fn 314 []]) (r:=.tup [I i3,I j3]) ?_ ?_ ?_ ?_
     · simp
     · simpa using h3
     · simp
     · simp
def S_madj (pg:Pg):Prop:=∀ (X:List (List Int)) (i s:Nat),Sm X→0<i→i+1<X.length→s≤800 →
 ∃ m s':Nat,((i≤m+1∧m≤i+1)∧s'≤s+3)∧Call pg 453 [ownR X,I i,bxI s,.fn 314 []] [ownR X,I i,bxI s',.fn 314 []] (I m)
theorem t_medianAdjacent {pg:Pg} (hp:pg.fn 453=some j0x) (h454:S_med pg):S_madj pg:=by
 intro X i s hS h0 hi hs
 have hX1:=hS.1
 obtain ⟨m,s1,⟨c1,d1⟩,h1⟩:=h454 X (i-1) i (i+1) s hS (by omega) (by omega) (by omega) (by omega)
 have ei:((i-1:Nat):Int)=(i:Int)-1:=by omega
 rw [ei] at h1
 push_cast at h1
 refine ⟨m,s1,⟨by omega,by omega⟩,Call.intro_own hp rfl (by simp [F.lets,j0x,List.range,List.range.loop]) ?_⟩
 show wp _ _ j0x.body (post [.t 8] _ _ _) _
 simp [j0x]
 repeat (refine And.intro (by omega) ?_)
 refine callM (ts':=[ownR X,I ((i:Int)-1),I i,I ((i:Int)+1),bxI s1,.fn 314 []]) (r:=I m) ?_ ?_ ?_ ?_
 · simp
 · simpa using h1
 · simp
 · simp
def S_piv (pg:Pg):Prop:=∀ (X:List (List Int)) (a b:Nat),Sm X→a+12<b→b≤X.length →
 ∃ p h:Nat,(a<p∧p+1<b)∧Call pg 436 [ownR X,I a,I b,.fn 314 []] [ownR X,I a,I b,.fn 314 []] (.tup [I p,I h])
set_option maxRecDepth 10000 in
theorem t_choosePivot {pg:Pg} (hp:pg.fn 436=some j0v) (h453:S_madj pg) (h454:S_med pg):S_piv pg:=by
 intro X a b hS hab hb
 have hX1:=hS.1
 have hfind:=Call.findA (α:=Nat×Nat) (Q:=fun z=>a<z.1∧z.1+1<b) (args:=[ownR X,I a,I b,.fn 314 []]) (args':=fun _=>[ownR X,I a,I b,.fn 314 []]) (r:=fun z=>.tup [I z.1,I z.2]) hp rfl (by simp [F.lets,j0v,List.range,List.range.loop]) (kind_own _ _) ?_
 · obtain ⟨z,h1,h2⟩:=hfind
   exact ⟨z.1,z.2,h1,h2⟩
 show wp _ _ j0v.body (postX _ [.t 8,.t 9] _ _ _) _
 generalize hR:postX (fun z:Nat×Nat=>a<z.1∧z.1+1<b) [.t 8,.t 9] [ownR X,I a,I b,.fn 314 []] (fun _=>[ownR X,I a,I b,.fn 314 []]) (fun z=>T.tup [I z.1,I z.2])=R
 obtain ⟨n,rfl⟩:∃ n,b=a+n:=⟨b-a,by omega⟩
 have hn:(a:Int)+n-a=n:=by omega
 obtain ⟨q,hq⟩:∃ q:Nat,q=n / 4:=⟨_,rfl⟩
 have hdiv:(n:Int).tdiv 4=(q:Int):=by
  rw [Int.tdiv_eq_ediv_of_nonneg (by omega)];omega
 have h8:(8:Int)≤n:=by omega
 obtain ⟨i,hi⟩:∃ i:Nat,(a:Int)+q=i:=⟨a+q,by omega⟩
 obtain ⟨j,hj⟩:∃ j:Nat,(a:Int)+q*2=j:=⟨a+q*2,by omega⟩
 obtain ⟨k,hk⟩:∃ k:Nat,(a:Int)+q*3=k:=⟨a+q*3,by omega⟩
 by_cases h50:(50:Int)≤n
 · have h50':50≤n:=by omega
   simp [j0v,hn,hdiv,h8,h50,hi,hj,hk]
   repeat (refine And.intro (by omega) ?_)
   obtain ⟨m1,s1,⟨cm1,dm1⟩,hm1⟩:=h453 X i 0 hS (by omega) (by omega) (by omega)
   refine callM (ts':=[ownR X,I i,bxI s1,.fn 314 []]) (r:=I m1) ?_ ?_ ?_ ?_
   · simp
   · simpa using hm1
   · simp
   · simp
     obtain ⟨m2,s2,⟨cm2,dm2⟩,hm2⟩:=h453 X j s1 hS (by omega) (by omega) (by omega)
     refine callM (ts':=[ownR X,I j,bxI s2,.fn 314 []]) (r:=I m2) ?_ ?_ ?_ ?_
     · simp
     · simpa using hm2
     · simp
     · simp
       obtain ⟨m3,s3,⟨cm3,dm3⟩,hm3⟩:=h453 X k s2 hS (by omega) (by omega) (by omega)
       refine callM (ts':=[ownR X,I k,bxI s3,.fn 314 []]) (r:=I m3) ?_ ?_ ?_ ?_
       · simp
       · simpa using hm3
       · simp
       · simp
         obtain ⟨m,s,⟨hm1,hm2⟩,hm⟩:=h454 X m1 m2 m3 s3 hS (by omega) (by omega) (by omega) (by omega)
         refine callM (ts':=[ownR X,I m1,I m2,I m3,bxI s,.fn 314 []]) (r:=I m) ?_ ?_ ?_ ?_
         · simp
         · simpa using hm
         · simp
         · simp
           rw [← hR]
           by_cases hs0:s=0
           · simp [hs0]
             exact ⟨(m,1),⟨by simp only;omega,by simp only;omega⟩,by simp [post]⟩
           · by_cases hs12:s=12
             · simp [hs12]
               exact ⟨(m,2),⟨by simp only;omega,by simp only;omega⟩,by simp [post]⟩
             · have hs12':¬(s:Int)=12:=by omega
               simp [hs0,hs12']
               exact ⟨(m,0),⟨by simp only;omega,by simp only;omega⟩,by simp [post]⟩
 · have h50':¬50≤n:=by omega
   simp [j0v,hn,hdiv,h8,h50,hi,hj,hk]
   repeat (refine And.intro (by omega) ?_)
   obtain ⟨m,s,⟨hm1,hm2⟩,hm⟩:=h454 X i j k 0 hS (by omega) (by omega) (by omega) (by omega)
   refine callM (ts':=[ownR X,I i,I j,I k,bxI s,.fn 314 []]) (r:=I m) ?_ ?_ ?_ ?_
   · simp
   · simpa using hm
   · simp
   · simp
     rw [← hR]
     by_cases hs0:s=0
     · simp [hs0]
       exact ⟨(m,1),⟨by simp only;omega,by simp only;omega⟩,by simp [post]⟩
     · by_cases hs12:s=12
       · simp [hs12]
         exact ⟨(m,2),⟨by simp only;omega,by simp only;omega⟩,by simp [post]⟩
       · have hs12':¬(s:Int)=12:=by omega
         simp [hs0,hs12']
         exact ⟨(m,0),⟨by simp only;omega,by simp only;omega⟩,by simp [post]⟩
end Go.Mch
