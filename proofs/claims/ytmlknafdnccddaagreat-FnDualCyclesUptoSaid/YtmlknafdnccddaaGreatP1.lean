/- Our texts YfA YfC YfD YfE YfB YfF YfG YqA YfH YfI YfJ YfK YfL YfM YfO YfP YfX YfY YfR YfV YfZ YfW YgF YgE YgG YfS YfT YgI YgY YjC YjI YjJ YjK YjL YlA YgJ YgK YgW YgZ YgP YjM YjO YjP YjQ YjD YjE YjU YjF YjG YjV YkA YkB YkE YkF YkM YlB YjA YlC YlD YlE YlF YlG YqB YqC YqD YqE YqF YqG YlH YlI YgD YkJ,end to end. -/
import Derived.Test.YtmlknafdnccddaaGreatYeA
import Derived.Test.YtmlknafdnccddaaGreatYeB
import Derived.Test.YtmlknafdnccddaaGreatM1
import Derived.Test.YtmlknafdnccddaaGreatYeC
import Derived.Test.YtmlknafdnccddaaGreatYeG
import Derived.Test.YtmlknafdnccddaaGreatYeD
import Derived.Test.YtmlknafdnccddaaGreatYeI
import Derived.Test.YtmlknafdnccddaaGreatM4
namespace Go.Mch

abbrev nil:T:=.sc (.slice none 0 0)

inductive Rw (α:Type) where
 | no
 | odd (a:Addr)
 | of (l:List α)

def lst {α:Type}:Rw α→List α
 | .of l=>l
 | _=>[]
def lso {α:Type} (o:Option (List α)):List α:=o.getD []
def Rw.ofO {α:Type}:Option (List α)→Rw α
 | none=>.no
 | some l=>.of l

def rawI:Rw Int→T
 | .no=>nil
 | .odd a=>.sc (.slice (some a) 0 0)
 | .of xs=>.mem .old (some 1) (xs.map I)

@[simp] theorem lst_of {α:Type} (l:List α):lst (.of l)=l:=rfl
@[simp] theorem lst_no {α:Type}:lst (.no:Rw α)=[]:=rfl
@[simp] theorem lst_odd {α:Type} (a:Addr):lst (.odd a:Rw α)=[]:=rfl
@[simp] theorem lso_some {α:Type} (l:List α):lso (some l)=l:=rfl
@[simp] theorem lso_none {α:Type}:lso (none:Option (List α))=[]:=rfl
@[simp] theorem noOwnL_mapI (xs:List Int):T.noOwnL (xs.map I)=true:=by
 induction xs with
 | nil=>rfl
 | cons x xs ih=>simp [ih]
@[simp] theorem eryL_mapI (k:K) (xs:List Int):T.eryL k (xs.map I)=xs.map I:=by
 induction xs with
 | nil=>rfl
 | cons x xs ih=>simp [ih]
@[simp] theorem noOldL_mapI (xs:List Int):T.noOldL (xs.map I)=true:=by
 induction xs with
 | nil=>rfl
 | cons x xs ih=>simp [ih]
@[simp] theorem lendL_mapI (xs:List Int):T.lendL (xs.map I)=xs.map I:=by
 induction xs with
 | nil=>rfl
 | cons x xs ih=>simp [ih]
@[simp] theorem rawI_noOwn (a:Rw Int):(rawI a).noOwn=true:=by cases a <;> simp [rawI]
@[simp] theorem rawI_peek (a:Rw Int) (n:Nat) (p:List Nat):(rawI a).peek n p=.val (rawI a):=by cases a <;> rfl
@[simp] theorem rawI_ery (a:Rw Int):(rawI a).ery .old=rawI a:=by cases a <;> simp [rawI]
@[simp] theorem rawI_len (a:Rw Int):lenV (.val (rawI a))=some (lst a).length:=by cases a <;> simp [rawI]
@[simp] theorem rawI_idx (a:Rw Int) (i:Int):idxV 1 (.val (rawI a)) i=if 0≤i∧i<((lst a).length:Int) then some (.val (.mem .old none (win ((lst a).map I) (i.toNat*1) 1))) else none:=by
 cases a with
 | no =>
  simp only [rawI,idxV,lst_no,List.length_nil,List.map_nil]
  rw [if_neg]
  omega
 | odd ad =>
  simp only [rawI,idxV,lst_odd,List.length_nil,List.map_nil]
  rw [if_neg]
  omega
 | of xs=>simp [rawI]
def rawT:Rw (Rw Int)→T
 | .no=>nil
 | .odd a=>.sc (.slice (some a) 0 0)
 | .of rs=>.mem .old (some 1) (rs.map rawI)
@[simp] theorem noOwnL_mapR (rs:List (Rw Int)):T.noOwnL (rs.map rawI)=true:=by
 induction rs with
 | nil=>rfl
 | cons x xs ih=>simp [ih]
@[simp] theorem rawT_noOwn (a:Rw (Rw Int)):(rawT a).noOwn=true:=by cases a <;> simp [rawT]
@[simp] theorem rawT_peek (a:Rw (Rw Int)) (n:Nat) (p:List Nat):(rawT a).peek n p=.val (rawT a):=by cases a <;> rfl
@[simp] theorem rawT_len (a:Rw (Rw Int)):lenV (.val (rawT a))=some (lst a).length:=by cases a <;> simp [rawT]
@[simp] theorem rawT_idx (a:Rw (Rw Int)) (i:Int):idxV 1 (.val (rawT a)) i=if 0≤i∧i<((lst a).length:Int) then some (.val (.mem .old none (win ((lst a).map rawI) (i.toNat*1) 1))) else none:=by
 cases a with
 | no =>
  simp only [rawT,idxV,lst_no,List.length_nil,List.map_nil]
  rw [if_neg]
  omega
 | odd ad =>
  simp only [rawT,idxV,lst_odd,List.length_nil,List.map_nil]
  rw [if_neg]
  omega
 | of xs=>simp [rawT]
theorem callR {G:Rl} {d:Option Nat} {k:Env→Prop} {e:Env} {args:List (Opd×Mode)} {id:Nat} {caps ts:List T} {r:T} (hc:G id (ts++T.eryL .old caps) (ts++T.eryL .old caps) r) (hall:args.all (fun x=>x.2 == .r)=true) (hlen:args.length=ts.length)
 (hold:e.lends args=true→r.noOld=true) (hk:k (e.setD d (.val r))):callP G d k e args id caps ts:=by
 refine ⟨ts,r,hc,rfl,fun h=>⟨hold h,hall⟩,?_⟩
 have:∀ (xs:List (Opd×Mode)) (us:List T),xs.all (fun x=>x.2 == .r)=true→xs.length=us.length→e.back xs us=some e:=by
  intro xs
  induction xs with
  | nil=>intro us _ h;cases us with | nil=>rfl | cons=>simp at h
  | cons x xs ih =>
   intro us h h2
   obtain ⟨x,md⟩:=x
   simp only [List.all_cons,Bool.and_eq_true,beq_iff_eq] at h
   obtain ⟨rfl,h⟩:=h
   cases us with
   | nil=>simp at h2
   | cons u us=>simp only [Env.back];exact ih us (by simpa using h) (by simpa using h2)
 rw [this args ts hall hlen]
 exact ⟨e,rfl,hk⟩

theorem take_len {α:Type} (l:List α) {n:Nat} (h:l.length≤n):l.take n=l:=List.take_of_length_le h
theorem callM {G:Rl} {d:Option Nat} {k:Env→Prop} {e:Env} {gs:List Bool} {ks:List Nat} {id:Nat} {caps:List T} {vs:List V} {y:List T×Env} {ts':List T} {r:T} (hh:y.2.holes vs gs=true) (hc:G id (T.lendL y.1++T.eryL .old caps) (ts'++T.eryL .old caps) r)
 (hl:ts'.length=y.1.length) (hk:bindP (y.2.gives vs gs ts') fun e2=>bindP (e.revive y.2 e2 vs gs ks) fun e3=>k (e3.setD d (.val r))):callmP G d k e gs ks id caps vs y:=⟨hh,ts',r,hc,hl,hk⟩


def S_toI (pg:Pg):Prop:=∀ a:Rw Int,(lst a).length≤1048576→Call pg 7 [rawI a] [rawI a] (ints .own (lst a))
def rows (xss:List (List Int)):List T:=xss.map fun xs=>.mem .own (some 1) (xs.map I)
@[simp] theorem rows_length (xss:List (List Int)):(rows xss).length=xss.length:=by simp [rows]

@[simp] theorem noOldL_rows (xss:List (List Int)):T.noOldL (rows xss)=true:=by
 induction xss with
 | nil=>rfl
 | cons x xs ih=>simp only [rows,List.map_cons] at ih ⊢;simp [ih]
abbrev ix (xs:List Int):T:=.mem .old (some 1) (xs.map I)
def tbL (xss:List (List Int)):List T:=xss.map fun xs=>ix xs
abbrev tb (xss:List (List Int)):T:=.mem .old (some 1) (tbL xss)
@[simp] theorem tbL_length (xss:List (List Int)):(tbL xss).length=xss.length:=by simp [tbL]
@[simp] theorem noOwnL_tbL (xss:List (List Int)):T.noOwnL (tbL xss)=true:=by
 induction xss with
 | nil=>rfl
 | cons x xs ih=>simp only [tbL,List.map_cons] at ih ⊢;simp [ih]
@[simp] theorem eryL_tbL (xss:List (List Int)):T.eryL .old (tbL xss)=tbL xss:=by
 induction xss with
 | nil=>rfl
 | cons x xs ih=>simp only [tbL,List.map_cons] at ih ⊢;simp [ih]
@[simp] theorem eryL_rows (xss:List (List Int)):T.eryL .old (rows xss)=tbL xss:=by
 induction xss with
 | nil=>rfl
 | cons x xs ih=>simp only [rows,tbL,List.map_cons] at ih ⊢;simp [ih]
theorem rawT_tb (xss:List (List Int)):rawT (.of (xss.map .of))=tb xss:=by simp [rawT,tbL,rawI]
theorem rows_get (xss:List (List Int)) (j:Nat):(rows xss)[j]?=(xss[j]?).map fun xs=>.mem .own (some 1) (xs.map I):=by simp [rows]
@[simp] theorem rows_getElem (xss:List (List Int)) (j:Nat) (h:j<(rows xss).length):(rows xss)[j]=.mem .own (some 1) ((xss[j]'(by simpa using h)).map I):=by simp [rows]

def small (a:Rw (Rw Int)):Prop:=(lst a).length≤1048576∧∀ r∈lst a,(lst r).length≤1048576


def sz1 (r:Rw Int) (l:Int):Int:=if l-((lst r).length:Int)<0 then -1 else l-((lst r).length:Int)

def S_eqI (pg:Pg):Prop:=∀ a b:Rw Int,(lst a).length≤1048576→Call pg 9 [rawI a,rawI b] [rawI a,rawI b] (B (decide (lst a=lst b)))
def S_eqT (pg:Pg):Prop:=∀ a b:Rw (Rw Int),small a→Call pg 21 [rawT a,rawT b] [rawT a,rawT b] (B (decide ((lst a).map lst=(lst b).map lst)))
def S_eqRack (pg:Pg):Prop:=∀ a b:Rw (Rw Int),small a→Call pg 10 [.agg [rawT a],.agg [rawT b]] [.agg [rawT a],.agg [rawT b]] (B (decide ((lst a).map lst=(lst b).map lst)))
def S_eqSol (pg:Pg):Prop:=∀ a b c d:Rw (Rw Int),small a→small b→Call pg 18 [.agg [rawT a,rawT b],.agg [rawT c,rawT d]] [.agg [rawT a,rawT b],.agg [rawT c,rawT d]] (B (decide ((lst a).map lst=(lst c).map lst∧(lst b).map lst=(lst d).map lst)))
end Go.Mch
namespace Go.Mch

def S_in (pg:Pg) (f:Nat):Prop:=∀ n lo hi:Int,Call pg f [I n,I lo,I hi] [I n,I lo,I hi] (B (decide (lo≤n∧n≤hi)))
theorem t_l01In {pg:Pg} (hp:pg.fn 30=some c_spec_l01In):S_in pg 30:=by
 intro n lo hi
 refine Call.intro hp rfl (by simp) ?_
 show wp _ _ c_spec_l01In.body (post [.t 6] _ _ _) _
 by_cases h1:lo≤n
 · by_cases h2:n≤hi <;> simp [c_spec_l01In,h1,h2]
 · simp [c_spec_l01In,h1,undefV]
theorem t_within {pg:Pg} (hp:pg.fn 35=some c_impl_within):S_in pg 35:=by
 intro n lo hi
 refine Call.intro hp rfl (by simp) ?_
 show wp _ _ c_impl_within.body (post [.t 6] _ _ _) _
 by_cases h1:lo≤n
 · by_cases h2:n≤hi <;> simp [c_impl_within,h1,h2]
 · simp [c_impl_within,h1,undefV]

def S_own (pg:Pg):Prop:=∀ xs:List Int,xs.length≤1048576→Call pg 31 [ix xs] [ix xs] (.mem .own (some 1) (xs.map I))
theorem t_own {pg:Pg} (hp:pg.fn 31=some c_spec_l01Own):S_own pg:=by
 intro xs hl
 refine Call.intro hp rfl (by simp) ?_
 show wp _ _ c_spec_l01Own.body (post [.t 2] _ _ _) _
 simp [c_spec_l01Own,roomy]
 omega

def ixOf:List Int→Int→Int
 | [],_=>-1
 | x::xs,n=>if x=n then 0 else if ixOf xs n<0 then -1 else ixOf xs n+1
theorem ixOf_le:∀ (xs:List Int) (n:Int),-1≤ixOf xs n∧ixOf xs n<xs.length
 | [],n=>by simp [ixOf]
 | x::xs,n=>by
  have:=ixOf_le xs n
  unfold ixOf
  simp only [List.length_cons]
  split
  · omega
  · split <;> omega
theorem ixOf_mem:∀ (xs:List Int) (n:Int),0≤ixOf xs n↔n∈xs
 | [],n=>by simp [ixOf]
 | x::xs,n=>by
  have:=ixOf_mem xs n
  have h2:=ixOf_le xs n
  unfold ixOf
  by_cases h:x=n
  · subst h;simp
  · rw [if_neg h]
    split
    · rename_i h3
      simp only [List.mem_cons]
      constructor
      · intro h4;omega
      · intro h4
        rcases h4 with h4 | h4
        · exact (h h4.symm).elim
        · have:=this.2 h4;omega
    · rename_i h3
      simp only [List.mem_cons]
      exact ⟨fun _=>.inr (this.1 (by omega)),fun _=>by omega⟩
theorem ixOf_at:∀ {xs:List Int} {n:Int} {k:Nat} (hk:k<xs.length),(∀ i (h:i<k),xs[i]≠n)→xs[k]=n→ixOf xs n=k
 | x::xs,n,0,_,_,h=>by simp at h;simp [ixOf,h]
 | x::xs,n,k+1,hk,h1,h2=>by
  have h0:=h1 0 (by omega)
  simp only [List.getElem_cons_zero] at h0
  have:=ixOf_at (xs:=xs) (n:=n) (k:=k) (by simpa using hk) (fun i hi=>by
   have:=h1 (i+1) (by omega)
   simpa using this) (by simpa using h2)
  unfold ixOf
  rw [if_neg h0,this,if_neg (by omega)]
  omega
theorem ixOf_none {xs:List Int} {n:Int} (h:∀ i (h:i<xs.length),xs[i]≠n):ixOf xs n=-1:=by
 have h1:=ixOf_le xs n
 have h2:¬0≤ixOf xs n:=fun hh=>by
  obtain ⟨i,hi,he⟩:=List.getElem_of_mem ((ixOf_mem xs n).1 hh)
  exact h i hi he
 omega

def S_index (pg:Pg):Prop:=∀ (xs:List Int) (n:Int),xs.length≤1048576→Call pg 69 [ix xs,I n] [ix xs,I n] (I (ixOf xs n))
theorem t_index {pg:Pg} (hp:pg.fn 69=some c_spec_l01Index):S_index pg:=by
 intro xs n hl
 refine Call.intro hp rfl (by simp) ?_
 show wp _ _ c_spec_l01Index.body (post [.t 4] _ _ _) _
 simp [c_spec_l01Index]
 refine wpLoop_count (fun k e=>(∀ i (h:i<xs.length),i<k→xs[i]≠n)∧e=fr [(0,some (.val (ix xs))),(1,some (.val (I n))),(5,some (.val (I k)))]) xs.length ?_ ?_ 0 _ (by omega) ?_
 · rintro k e hk ⟨h1,rfl⟩
   by_cases hx:xs[k]=n
   · simp [hk,hx]
     exact (ixOf_at hk (fun i hi=>h1 i (by omega) hi) hx).symm
   · simp [hk,hx]
     refine ⟨by omega,fun i hi hik=>?_⟩
     rcases Nat.lt_or_ge i k with h2 | h2
     · exact h1 i hi h2
     · have:i=k:=by omega
       subst this;exact hx
 · rintro e ⟨h1,rfl⟩
   simp
   exact (ixOf_none fun i hi=>h1 i hi hi).symm
 · simp

def S_has (pg:Pg):Prop:=∀ (xs:List Int) (n:Int),xs.length≤1048576→Call pg 62 [ix xs,I n] [ix xs,I n] (B (decide (n∈xs)))
theorem t_has {pg:Pg} (hp:pg.fn 62=some c_spec_l01Has) (h69:S_index pg):S_has pg:=by
 intro xs n hl
 refine Call.intro hp rfl (by simp) ?_
 show wp _ _ c_spec_l01Has.body (post [.t 4] _ _ _) _
 simp [c_spec_l01Has]
 refine callR (h69 xs n hl) rfl rfl (fun _=>rfl) ?_
 simp [ixOf_mem]


def Tab (t:List (List Int)):Prop:=∀ r∈t,r.length=t.length∧∀ v∈r,0≤v∧v<t.length

def isTable (t:List (List Int)):Prop:=1≤t.length∧t.length≤12∧Tab t

instance (t:List (List Int)):Decidable (Tab t):=by unfold Tab;infer_instance
instance (t:List (List Int)):Decidable (isTable t):=by unfold isTable;infer_instance

def S_table (pg:Pg) (f:Nat):Prop:=∀ t:List (List Int),t.length≤1048576→(∀ r∈t,r.length≤1048576)→Call pg f [tb t] [tb t] (B (decide (isTable t)))

@[simp] theorem tbL_getElem {t:List (List Int)} {k:Nat} (h:k<(tbL t).length):(tbL t)[k]=ix (t[k]'(by simpa using h)):=by simp [tbL]

theorem t_l01Table {pg:Pg} (hp:pg.fn 46=some c_spec_l01Table) (h30:S_in pg 30):S_table pg 46:=by
 intro t hl hr
 refine Call.intro hp rfl (by simp) ?_
 show wp _ _ c_spec_l01Table.body (post [.t 2] _ _ _) _
 simp [c_spec_l01Table]
 refine callR (h30 _ 1 12) rfl rfl (fun _=>rfl) ?_
 by_cases hn:1≤t.length∧t.length≤12
 · have hn':(1:Int)≤t.length∧(t.length:Int)≤12:=by omega
   simp [hn']
   refine wpLoop_count (fun k e=>(∀ i (h:i<t.length),i<k→t[i].length=t.length∧∀ v∈t[i],0≤v∧v<t.length)∧e=fr [(0,some (.val (tb t))),(3,some (.val (I t.length))),(4,some (.val (I k)))]) t.length ?_ ?_ 0 _ (by omega) ?_
   · rintro k e hk ⟨h1,rfl⟩
     by_cases hlen:t[k].length=t.length
     · simp [hk,hlen]
       refine wpLoop_count (fun j e=>(∀ i (h:i<t[k].length),i<j→0≤t[k][i]∧t[k][i]<t.length)∧e=fr [(0,some (.val (tb t))),(3,some (.val (I t.length))),(4,some (.val (I k))),(5,some (.val (I j)))]) t.length ?_ ?_ 0 _ (by omega) ?_
       · rintro j e hj ⟨h2,rfl⟩
         have hj2:j<t[k].length:=by omega
         simp [hk,hj,hj2]
         refine ⟨by omega,?_⟩
         refine callR (h30 _ 0 _) rfl rfl (fun _=>rfl) ?_
         by_cases hv:0≤t[k][j]∧t[k][j]≤(t.length:Int)-1
         · simp [hv]
           refine ⟨by omega,fun i hi hij=>?_⟩
           rcases Nat.lt_or_ge i j with h3 | h3
           · exact h2 i hi h3
           · have:i=j:=by omega
             subst this;omega
         · have hvd:¬isTable t:=fun ht=>hv (by
            have:=(ht.2.2 t[k] (List.getElem_mem hk)).2 t[k][j] (List.getElem_mem hj2)
            omega)
           simp [hv,hvd]
       · rintro e ⟨h2,rfl⟩
         simp
         refine ⟨by omega,fun i hi hik=>?_⟩
         rcases Nat.lt_or_ge i k with h3 | h3
         · exact h1 i hi h3
         · have:i=k:=by omega
           subst this
           refine ⟨hlen,fun v hv=>?_⟩
           obtain ⟨j,hj,rfl⟩:=List.getElem_of_mem hv
           exact h2 j hj (by omega)
       · simp
     · have hvd:¬isTable t:=fun ht=>hlen (ht.2.2 t[k] (List.getElem_mem hk)).1
       have hne:((t[k].length:Nat):Int)≠t.length:=by omega
       simp [hk,hne,hvd]
   · rintro e ⟨h1,rfl⟩
     have:isTable t:=⟨hn.1,hn.2,fun r hr=>by
      obtain ⟨i,hi,rfl⟩:=List.getElem_of_mem hr
      exact h1 i hi hi⟩
     simp [this]
   · simp
 · have hvd:¬isTable t:=fun ht=>hn ⟨ht.1,ht.2.1⟩
   have hn':¬((1:Int)≤t.length∧(t.length:Int)≤12):=by omega
   simp [hn',hvd]

end Go.Mch
namespace Go.Mch

def isPerm (p:List Int):Prop:=1≤p.length∧p.length≤12∧∀ x:Nat,x<p.length→(x:Int)∈p
instance (p:List Int):Decidable (isPerm p):=by unfold isPerm;infer_instance

def S_perm (pg:Pg) (f:Nat):Prop:=∀ p:List Int,p.length≤1048576→Call pg f [ix p] [ix p] (B (decide (isPerm p)))

theorem t_l01Perm {pg:Pg} (hp:pg.fn 47=some c_spec_l01Perm) (h30:S_in pg 30) (h62:S_has pg):S_perm pg 47:=by
 intro p hl
 refine Call.intro hp rfl (by simp) ?_
 show wp _ _ c_spec_l01Perm.body (post [.t 2] _ _ _) _
 simp [c_spec_l01Perm]
 refine callR (h30 _ 1 12) rfl rfl (fun _=>rfl) ?_
 by_cases hn:1≤p.length∧p.length≤12
 · have hn':(1:Int)≤p.length∧(p.length:Int)≤12:=by omega
   simp [hn']
   refine wpLoop_count (fun k e=>(∀ x:Nat,x<k→(x:Int)∈p)∧e=fr [(0,some (.val (ix p))),(3,some (.val (I p.length))),(4,some (.val (I k)))]) p.length ?_ ?_ 0 _ (by omega) ?_
   · rintro k e hk ⟨h1,rfl⟩
     simp [hk]
     refine callR (h62 p k hl) rfl rfl (fun _=>rfl) ?_
     by_cases hm:(k:Int)∈p
     · simp [hm]
       refine ⟨by omega,fun x hx=>?_⟩
       rcases Nat.lt_or_ge x k with h2 | h2
       · exact h1 x h2
       · have:x=k:=by omega
         subst this;exact hm
     · have hvd:¬isPerm p:=fun h=>hm (h.2.2 k hk)
       simp [hm,hvd]
   · rintro e ⟨h1,rfl⟩
     have:isPerm p:=⟨hn.1,hn.2,h1⟩
     simp [this]
   · simp
 · have hvd:¬isPerm p:=fun h=>hn ⟨h.1,h.2.1⟩
   have hn':¬((1:Int)≤p.length∧(p.length:Int)≤12):=by omega
   simp [hn',hvd]

def inR (lo hi:Int) (xs:List Int):Prop:=∀ x∈xs,lo≤x∧x≤hi
instance (lo hi:Int) (xs:List Int):Decidable (inR lo hi xs):=by unfold inR;infer_instance

def S_allWithin (pg:Pg):Prop:=∀ (xs:List Int) (lo hi:Int),xs.length≤1048576→Call pg 54 [ix xs,I lo,I hi] [ix xs,I lo,I hi] (B (decide (inR lo hi xs)))
theorem t_allWithin {pg:Pg} (hp:pg.fn 54=some c_impl_allWithin) (h35:S_in pg 35):S_allWithin pg:=by
 intro xs lo hi hl
 refine Call.intro hp rfl (by simp) ?_
 show wp _ _ c_impl_allWithin.body (post [.t 6] _ _ _) _
 simp [c_impl_allWithin]
 refine wpLoop_count (fun k e=>(∀ i (h:i<xs.length),i<k→lo≤xs[i]∧xs[i]≤hi)∧e=fr [(1,some (.val (I lo))),(2,some (.val (I hi))),(9,some (.val (ix xs))),(10,some (.val (I xs.length))),(11,some (.val (I k)))]) xs.length ?_ ?_ 0 _ (by omega) ?_
 · rintro k e hk ⟨h1,rfl⟩
   simp [hk]
   refine callR (h35 _ _ _) rfl rfl (fun _=>rfl) ?_
   by_cases hm:lo≤xs[k]∧xs[k]≤hi
   · simp [hm]
     refine ⟨by omega,fun i hi hik=>?_⟩
     rcases Nat.lt_or_ge i k with h2 | h2
     · exact h1 i hi h2
     · have:i=k:=by omega
       subst this;exact hm
   · have hvd:¬inR lo hi xs:=fun h=>hm (h _ (List.getElem_mem hk))
     simp [hm,hvd]
 · rintro e ⟨h1,rfl⟩
   have:inR lo hi xs:=fun x hx=>by
    obtain ⟨i,hi,rfl⟩:=List.getElem_of_mem hx
    exact h1 i hi hi
   simp [this]
 · simp

def isPermuted (p:List Int):Prop:=(∀ x∈p,0≤x∧x<p.length)∧p.Nodup
instance (p:List Int):Decidable (isPermuted p):=by unfold isPermuted;infer_instance

def seenL (p:List Int) (k:Nat):List T:=(List.range p.length).map fun i:Nat=>B (decide ((i:Int)∈p.take k))
@[simp] theorem seenL_length (p:List Int) (k:Nat):(seenL p k).length=p.length:=by simp [seenL]
theorem seenL_get {p:List Int} {k i:Nat} (h:i<p.length):(seenL p k)[i]'(by simpa using h)=B (decide ((i:Int)∈p.take k)):=by simp [seenL]
theorem seenL_zero (p:List Int):seenL p 0=List.replicate p.length (B false):=by
 apply List.ext_getElem
 · simp
 · intro i h1 h2;simp [seenL]
theorem seenL_set {p:List Int} {k i:Nat} (hk:k<p.length) (hi:p[k]=i):(seenL p k).set i (B true)=seenL p (k+1):=by
 apply List.ext_getElem
 · simp
 · intro j h1 h2
   simp only [List.getElem_set,seenL,List.getElem_map,List.getElem_range,List.take_succ_eq_append_getElem hk,List.mem_append,List.mem_singleton]
   by_cases h:i=j
   · subst h;simp [hi]
   · rw [if_neg h]
     have:¬((j:Int)=p[k]):=by omega
     simp [this]

theorem nodup_take {p:List Int} {k:Nat} (hk:k<p.length) (h:(p.take k).Nodup) (hm:p[k] ∉ p.take k):(p.take (k+1)).Nodup:=by
 rw [List.take_succ_eq_append_getElem hk,List.nodup_append]
 refine ⟨h,by simp,fun a ha b hb=>?_⟩
 simp at hb
 subst hb
 intro e;subst e;exact hm ha

def S_isPermuted (pg:Pg):Prop:=∀ p:List Int,p.length≤1048576→Call pg 66 [ix p] [ix p] (B (decide (isPermuted p)))
theorem t_isPermuted {pg:Pg} (hp:pg.fn 66=some c_impl_isPermuted) (h35:S_in pg 35):S_isPermuted pg:=by
 intro p hl
 refine Call.intro hp rfl (by simp) ?_
 show wp _ _ c_impl_isPermuted.body (post [.t 2] _ _ _) _
 simp [c_impl_isPermuted]
 refine ⟨by unfold roomy;omega,?_⟩
 refine wpLoop_count (fun k e=>(∀ i (h:i<p.length),i<k→0≤p[i]∧p[i]<p.length)∧(p.take k).Nodup∧e=fr [(0,some (.val (ix p))),(3,some (.val (.mem .own (some 1) (seenL p k)))),(9,some (.val (ix p))),(10,some (.val (I p.length))),(11,some (.val (I k)))]) p.length ?_ ?_ 0 _ (by omega) ?_
 · rintro k e hk ⟨h1,h2,rfl⟩
   simp [hk]
   refine ⟨by omega,?_⟩
   refine callR (h35 _ _ _) rfl rfl (fun _=>rfl) ?_
   by_cases hv:0≤p[k]∧p[k]≤(p.length:Int)-1
   · obtain ⟨i,hi⟩:∃ i:Nat,p[k]=i:=⟨p[k].toNat,by omega⟩
     have hil:i<p.length:=by omega
     have hv':0≤p[k]∧p[k]≤(p.length:Int)-1:=hv
     rw [hi] at hv'
     by_cases hm:(i:Int)∈p.take k
     · have hvd:¬isPermuted p:=fun h=>by
        have h3:(p.take (k+1)).Nodup:=h.2.sublist (List.take_sublist _ _)
        rw [List.take_succ_eq_append_getElem hk,List.nodup_append] at h3
        exact h3.2.2 _ hm _ (by simp) hi.symm
       simp [hi,hv',hil,seenL_get,hm,hvd]
     · simp [hi,hv',hil,seenL_get,hm]
       refine ⟨by omega,by omega,fun j hj hjk=>?_,nodup_take hk h2 (by rw [hi];exact hm),?_⟩
       · rcases Nat.lt_or_ge j k with h3 | h3
         · exact h1 j hj h3
         · have:j=k:=by omega
           subst this;omega
       · rw [seenL_set hk hi]
   · have hvd:¬isPermuted p:=fun h=>hv (by have:=h.1 _ (List.getElem_mem hk);omega)
     simp [hv,hvd,undefV]
 · rintro e ⟨h1,h2,rfl⟩
   have:isPermuted p:=⟨fun x hx=>by
    obtain ⟨i,hi,rfl⟩:=List.getElem_of_mem hx
    exact h1 i hi hi,by rwa [List.take_length] at h2⟩
   simp [this]
 · simp [seenL_zero]


def S_indexFunc (pg:Pg):Prop:=∀ (t:List (List Int)) (P:List Int→Bool) (f:Nat) (caps:List T),t.length≤1048576→T.eryL .old caps=caps→T.noOwnL caps=true→(∀ r∈t,Call pg f (ix r::caps) (ix r::caps) (B (P r))) →
 ∃ r:Int,(0≤r↔t.any P=true)∧Call pg 70 [tb t,.fn f caps] [tb t,.fn f caps] (I r)
theorem t_indexFunc {pg:Pg} (hp:pg.fn 70=some c_slices_IndexFunc_____int64___int64_):S_indexFunc pg:=by
 intro t P f caps hl hc hno hf
 by_cases hex:∃ (k:Nat) (hk:k<t.length),(∀ i (h:i<k),P t[i]=false)∧P t[k]=true
 · obtain ⟨m,hm,hm1,hm2⟩:=hex
   refine ⟨m,⟨fun _=>List.any_eq_true.2 ⟨_,List.getElem_mem hm,hm2⟩,fun _=>by omega⟩,Call.intro hp rfl (by simp [hno]) ?_⟩
   show wp _ _ c_slices_IndexFunc_____int64___int64_.body (post [.t 4] _ _ _) _
   simp [c_slices_IndexFunc_____int64___int64_]
   refine wpLoop_count (fun k e=>k≤m∧e=fr [(0,some (.val (tb t))),(1,some (.val (.fn f caps))),(7,some (.val (I t.length))),(8,some (.val (I k)))]) t.length ?_ ?_ 0 _ (by omega) ?_
   · rintro k e hk ⟨h1,rfl⟩
     simp [hk]
     refine callR (by simpa [hc] using hf t[k] (List.getElem_mem hk)) rfl rfl (fun _=>rfl) ?_
     rcases Nat.lt_or_ge k m with h2 | h2
     · simp [hm1 k h2]
       omega
     · have:k=m:=by omega
       subst this
       simp [hm2,hno]
   · rintro e ⟨h1,rfl⟩
     omega
   · simp
 · have hall:∀ i (h:i<t.length),P t[i]=false:=by
    intro i
    induction i using Nat.strongRecOn with
    | _ i ih =>
     intro hi
     cases hv:P t[i] with
     | false=>rfl
     | true=>exact (hex ⟨i,hi,fun j hj=>ih j hj (by omega),hv⟩).elim
   refine ⟨-1,⟨fun h=>by omega,fun h=>by
    obtain ⟨r,hr,h2⟩:=List.any_eq_true.1 h
    obtain ⟨i,hi,rfl⟩:=List.getElem_of_mem hr
    rw [hall i hi] at h2;cases h2⟩,Call.intro hp rfl (by simp [hno]) ?_⟩
   show wp _ _ c_slices_IndexFunc_____int64___int64_.body (post [.t 4] _ _ _) _
   simp [c_slices_IndexFunc_____int64___int64_]
   refine wpLoop_count (fun k e=>e=fr [(0,some (.val (tb t))),(1,some (.val (.fn f caps))),(7,some (.val (I t.length))),(8,some (.val (I k)))]) t.length ?_ ?_ 0 _ (by omega) ?_
   · rintro k e hk rfl
     simp [hk]
     refine callR (by simpa [hc] using hf t[k] (List.getElem_mem hk)) rfl rfl (fun _=>rfl) ?_
     simp [hall k hk]
     omega
   · rintro e rfl
     simp [hno]
   · simp

def S_containsFunc (pg:Pg):Prop:=∀ (t:List (List Int)) (P:List Int→Bool) (f:Nat) (caps:List T),t.length≤1048576→T.eryL .old caps=caps→T.noOwnL caps=true→(∀ r∈t,Call pg f (ix r::caps) (ix r::caps) (B (P r))) →
 Call pg 63 [tb t,.fn f caps] [tb t,.fn f caps] (B (t.any P))
theorem t_containsFunc {pg:Pg} (hp:pg.fn 63=some c_slices_ContainsFunc_____int64___int64_) (h70:S_indexFunc pg):S_containsFunc pg:=by
 intro t P f caps hl hc hno hf
 obtain ⟨r,h1,h2⟩:=h70 t P f caps hl hc hno hf
 refine Call.intro hp rfl (by simp [hno]) ?_
 show wp _ _ c_slices_ContainsFunc_____int64___int64_.body (post [.t 4] _ _ _) _
 simp [c_slices_ContainsFunc_____int64___int64_,hno,hc]
 refine callR h2 rfl rfl (fun _=>rfl) ?_
 cases h:t.any P with
 | true=>simp [h1.2 h,hno]
 | false =>
  have:¬0≤r:=fun hh=>by rw [h1.1 hh] at h;cases h
  simp [this,hno]

end Go.Mch
namespace Go.Mch

def S_isTable1 (pg:Pg):Prop:=∀ (r:List Int) (n:Int),r.length≤1048576→0≤n→n≤1048576→Call pg 64 [ix r,.mem .old none [I n]] [ix r,.mem .old none [I n]] (B (decide ((r.length:Int)≠n∨¬inR 0 (n-1) r)))
theorem t_isTable1 {pg:Pg} (hp:pg.fn 64=some c_impl_IsTable_1) (h54:S_allWithin pg):S_isTable1 pg:=by
 intro r n hl h1 h2
 refine Call.intro hp rfl (by simp) ?_
 show wp _ _ c_impl_IsTable_1.body (post [.t 3] _ _ _) _
 by_cases hn:(r.length:Int)=n
 · simp [c_impl_IsTable_1,hn]
   refine ⟨by omega,?_⟩
   refine callR (h54 _ _ _ hl) rfl rfl (fun _=>rfl) ?_
   by_cases hr:inR 0 (n-1) r <;> simp [hr]
 · simp [c_impl_IsTable_1,hn,undefV]

theorem t_isTable {pg:Pg} (hp:pg.fn 50=some c_impl_IsTable) (h35:S_in pg 35) (h64:S_isTable1 pg) (h63:S_containsFunc pg):S_table pg 50:=by
 intro t hl hr
 refine Call.intro hp rfl (by simp) ?_
 show wp _ _ c_impl_IsTable.body (post [.t 2] _ _ _) _
 simp [c_impl_IsTable]
 refine callR (h35 _ 1 12) rfl rfl (fun _=>rfl) ?_
 by_cases hn:1≤t.length∧t.length≤12
 · have hn':(1:Int)≤t.length∧(t.length:Int)≤12:=by omega
   simp [hn']
   refine callR (h63 t (fun r=>decide ((r.length:Int)≠t.length∨¬inR 0 ((t.length:Int)-1) r)) 64 [.mem .old none [I t.length]] hl rfl rfl (fun r hm=>h64 r _ (hr r hm) (by omega) (by omega))) rfl rfl (fun _=>rfl) ?_
   simp
   by_cases ht:isTable t
   · simp [ht]
     intro r hm
     have:=ht.2.2 r hm
     exact ⟨by omega,fun v hv=>by have:=this.2 v hv;omega⟩
   · simp [ht]
     rcases Classical.em (∃ x,x∈t∧(¬((x.length:Nat):Int)=t.length∨¬inR 0 ((t.length:Int)-1) x)) with h | h
     · exact h
     · exfalso
       refine ht ⟨hn.1,hn.2,fun r hm=>?_⟩
       have h1:((r.length:Nat):Int)=t.length∧inR 0 ((t.length:Int)-1) r:=by
        refine Classical.byContradiction fun h2=>h ⟨r,hm,?_⟩
        rcases Classical.em (((r.length:Nat):Int)=t.length) with h3 | h3
        · exact .inr fun h4=>h2 ⟨h3,h4⟩
        · exact .inl h3
       exact ⟨by omega,fun v hv=>by have:=h1.2 v hv;omega⟩
 · have hvd:¬isTable t:=fun ht=>hn ⟨ht.1,ht.2.1⟩
   have hn':¬((1:Int)≤t.length∧(t.length:Int)≤12):=by omega
   simp [hn',hvd,undefV]

def S_permRows1 (pg:Pg):Prop:=∀ r:List Int,r.length≤1048576→Call pg 65 [ix r] [ix r] (B (!decide (isPermuted r)))
theorem t_permRows1 {pg:Pg} (hp:pg.fn 65=some c_impl_permutationRows_1) (h66:S_isPermuted pg):S_permRows1 pg:=by
 intro r hl
 refine Call.intro hp rfl (by simp) ?_
 show wp _ _ c_impl_permutationRows_1.body (post [.t 2] _ _ _) _
 simp [c_impl_permutationRows_1]
 refine callR (h66 _ hl) rfl rfl (fun _=>rfl) ?_
 simp

def permRows (t:List (List Int)):Prop:=∀ r∈t,isPermuted r
instance (t:List (List Int)):Decidable (permRows t):=by unfold permRows;infer_instance

def S_permRows (pg:Pg):Prop:=∀ t:List (List Int),t.length≤1048576→(∀ r∈t,r.length≤1048576)→Call pg 51 [tb t] [tb t] (B (decide (permRows t)))
theorem t_permRows {pg:Pg} (hp:pg.fn 51=some c_impl_permutationRows) (h65:S_permRows1 pg) (h63:S_containsFunc pg):S_permRows pg:=by
 intro t hl hr
 refine Call.intro hp rfl (by simp) ?_
 show wp _ _ c_impl_permutationRows.body (post [.t 2] _ _ _) _
 simp [c_impl_permutationRows]
 refine callR (h63 t (fun r=>!decide (isPermuted r)) 65 [] hl rfl rfl (fun r hm=>h65 r (hr r hm))) rfl rfl (fun _=>rfl) ?_
 simp only [permRows]
 cases h:t.any fun r=>!decide (isPermuted r) with
 | true =>
  obtain ⟨r,h1,h2⟩:=List.any_eq_true.1 h
  have:¬∀ r,r∈t→isPermuted r:=fun hh=>by simp [hh r h1] at h2
  simp [this]
 | false =>
  have:∀ r,r∈t→isPermuted r:=fun r hr=>by
   have:=List.any_eq_false.1 h r hr
   simpa using this
  simp
  exact decide_eq_true this

def S_same (pg:Pg):Prop:=∀ a b:List Int,a.length≤1048576→Call pg 67 [ix a,ix b] [ix a,ix b] (B (decide (a=b)))
theorem t_same {pg:Pg} (hp:pg.fn 67=some c_spec_l01Same):S_same pg:=by
 intro a b ha
 refine Call.intro hp rfl (by simp) ?_
 show wp _ _ c_spec_l01Same.body (post [.t 4] _ _ _) _
 by_cases hl:a.length=b.length
 · simp [c_spec_l01Same,hl]
   refine wpLoop_count (fun k e=>(∀ i,i<k→a[i]?=b[i]?)∧e=fr [(0,some (.val (ix a))),(1,some (.val (ix b))),(5,some (.val (I k)))]) a.length ?_ ?_ 0 _ (by omega) ?_
   · rintro k e hk ⟨h1,rfl⟩
     have hk2:k<b.length:=by omega
     by_cases hne:a[k]=b[k]
     · simp [hk,hk2,hne]
       refine ⟨by omega,fun i hi=>?_⟩
       rcases Nat.lt_or_ge i k with h2 | h2
       · exact h1 i h2
       · have:i=k:=by omega
         subst this
         rw [List.getElem?_eq_getElem hk,List.getElem?_eq_getElem hk2,hne]
     · simp [hk,hk2,hne]
       intro h2
       exact hne (by simp [h2])
   · rintro e ⟨h1,rfl⟩
     simp [hl]
     apply List.ext_getElem?
     intro i
     rcases Nat.lt_or_ge i a.length with h2 | h2
     · exact h1 i h2
     · rw [List.getElem?_eq_none h2,List.getElem?_eq_none (by omega)]
   · exact ⟨fun i hi=>by omega,by simp⟩
 · have:a≠b:=fun h=>hl (by rw [h])
   have h2:(a.length:Int)≠b.length:=by omega
   simp [c_spec_l01Same,h2,this]


abbrev sol (f s:List (List Int)):T:=.agg [tb f,tb s]
def isPairMap (f s:List (List Int)):Prop:=isTable f∧isTable s∧f.length=s.length
instance (f s:List (List Int)):Decidable (isPairMap f s):=by unfold isPairMap;infer_instance

def fits (t:List (List Int)):Prop:=t.length≤1048576∧∀ r∈t,r.length≤1048576

def S_pairMap (pg:Pg) (n:Nat):Prop:=∀ f s:List (List Int),fits f→fits s→Call pg n [sol f s] [sol f s] (B (decide (isPairMap f s)))
theorem t_l02Map {pg:Pg} (hp:pg.fn 56=some c_spec_l02Map) (h46:S_table pg 46):S_pairMap pg 56:=by
 intro f s hf hs
 refine Call.intro hp rfl (by simp) ?_
 show wp _ _ c_spec_l02Map.body (post [.t 2] _ _ _) _
 simp [c_spec_l02Map]
 refine callR (h46 _ hf.1 hf.2) rfl rfl (fun _=>rfl) ?_
 by_cases h1:isTable f
 · simp [h1]
   refine callR (h46 _ hs.1 hs.2) rfl rfl (fun _=>rfl) ?_
   by_cases h2:isTable s
   · simp [h2,isPairMap,h1]
     omega
   · simp [h2,isPairMap,undefV]
 · simp [h1,isPairMap,undefV]
theorem t_isPairMap {pg:Pg} (hp:pg.fn 59=some c_impl_IsPairMap) (h50:S_table pg 50):S_pairMap pg 59:=by
 intro f s hf hs
 refine Call.intro hp rfl (by simp) ?_
 show wp _ _ c_impl_IsPairMap.body (post [.t 2] _ _ _) _
 simp [c_impl_IsPairMap]
 refine callR (h50 _ hf.1 hf.2) rfl rfl (fun _=>rfl) ?_
 by_cases h1:isTable f
 · simp [h1]
   refine callR (h50 _ hs.1 hs.2) rfl rfl (fun _=>rfl) ?_
   by_cases h2:isTable s
   · simp [h2,isPairMap,h1]
     omega
   · simp [h2,isPairMap,undefV]
 · simp [h1,isPairMap,undefV]


def v2 (t:List (List Int)) (x y:Nat):Int:=(t.getD x []).getD y 0
theorem get_v2 {t:List (List Int)} {x y:Nat} (hx:x<t.length) (hy:y<(t[x]).length):(t[x])[y]=v2 t x y:=by
 simp [v2,List.getD_eq_getElem?_getD,hx,hy]
theorem Tab.row {t:List (List Int)} (h:Tab t) {x:Nat} (hx:x<t.length):(t[x]).length=t.length:=(h _ (List.getElem_mem hx)).1
theorem Tab.nonneg {t:List (List Int)} (h:Tab t) (x y:Nat):0≤v2 t x y:=by
 unfold v2
 rw [List.getD_eq_getElem?_getD,List.getD_eq_getElem?_getD]
 cases h1:t[x]? with
 | none=>simp
 | some r =>
  simp only [Option.getD_some]
  cases h2:r[y]? with
  | none=>simp
  | some v=>exact ((h r (List.mem_of_getElem? h1)).2 v (List.mem_of_getElem? h2)).1
theorem Tab.lt {t:List (List Int)} (h:Tab t) (h0:0<t.length) (x y:Nat):v2 t x y<t.length:=by
 unfold v2
 rw [List.getD_eq_getElem?_getD,List.getD_eq_getElem?_getD]
 cases h1:t[x]? with
 | none=>simp;omega
 | some r =>
  simp only [Option.getD_some]
  cases h2:r[y]? with
  | none=>simp;omega
  | some v=>exact ((h r (List.mem_of_getElem? h1)).2 v (List.mem_of_getElem? h2)).2
@[simp] theorem tdiv_nat (a b:Nat):(a:Int).tdiv (b:Int)=((a / b:Nat):Int):=rfl
@[simp] theorem tmod_nat (a b:Nat):(a:Int).tmod (b:Int)=((a % b:Nat):Int):=rfl

end Go.Mch
namespace Go.Mch

def ownI:Option (List Int)→T
 | none=>nil
 | some xs=>.mem .own (some 1) (xs.map I)

def up (k:Int) (n:Nat):List Int:=(List.range n).map fun i:Nat=>k+i
def held:List Int→Int→Int
 | [],k=>k
 | x::xs,k=>if x=k then held xs (k+1) else -1

def S_heldI (pg:Pg):Prop:=∀ (a:Rw Int) (k:Int),(lst a).length≤1048576→-1≤k→k≤4611686018427387904→Call pg 13 [rawI a,I k] [rawI a,I k] (I (held (lst a) k))
def upto (k:Int) (xs:List Int) (j:Nat):List Int:=(List.range xs.length).map fun i:Nat=>if i<j then k+i else xs.getD i 0
def S_markI (pg:Pg):Prop:=∀ (a:Option (List Int)) (k:Int),(lso a).length≤1048576→-1≤k→k≤4611686018427387904→Call pg 12 [ownI a,I k] [ownI (a.map fun xs=>up k xs.length),I k] (I (k+(lso a).length))
def ownT:Option (List (List Int))→T
 | none=>nil
 | some xss=>.mem .own (some 1) (rows xss)

def kAt (k:Int) (xss:List (List Int)) (j:Nat):Int:=k+((xss.take j).map List.length).sum
def smallT (xss:List (List Int)):Prop:=xss.length≤1048576∧∀ r∈xss,r.length≤1048576

def upT (k:Int) (xss:List (List Int)):List (List Int):=(List.range xss.length).map fun j=>up (kAt k xss j) (xss.getD j []).length
def heldL:List (List Int)→Int→Int
 | [],k=>k
 | r::rs,k=>if held r k<0 then -1 else heldL rs (held r k)

def S_heldT (pg:Pg):Prop:=∀ (a:Rw (Rw Int)) (k:Int),small a→-1≤k→k≤2305843009213693952→Call pg 24 [rawT a,I k] [rawT a,I k] (I (heldL ((lst a).map lst) k))
def S_markT (pg:Pg):Prop:=∀ (a:Option (List (List Int))) (k:Int),smallT (lso a)→0≤k→k≤2305843009213693952→Call pg 23 [ownT a,I k] [ownT (a.map (upT k)),I k] (I (kAt k (lso a) (lso a).length))
end Go.Mch
namespace Go.Mch

def coll (f s:List (List Int)) (a b:Nat):Prop :=
 a≠b∧v2 f (a / f.length) (a % f.length)=v2 f (b / f.length) (b % f.length)∧v2 s (a / f.length) (a % f.length)=v2 s (b / f.length) (b % f.length)
def Inj (f s:List (List Int)):Prop:=∀ a,a<f.length*f.length→∀ b,b<f.length*f.length→¬coll f s a b
instance (f s:List (List Int)) (a b:Nat):Decidable (coll f s a b):=by unfold coll;infer_instance
instance (f s:List (List Int)):Decidable (Inj f s):=by unfold Inj;infer_instance

structure PM (f s:List (List Int)):Prop where
 tf:Tab f
 ts:Tab s
 len:s.length=f.length
 pos:0<f.length
 small:f.length≤12
end Go.Mch
namespace Go.Mch

def g2 (t:List (List Int)) (x y:Int):Int:=v2 t x.toNat y.toNat
def inN (n:Nat) (w:List Int):Prop:=∀ x∈w,0≤x∧x<n
def dW (f s:List (List Int)) (w:List Int) (i:Nat):List Int :=
 (w.set i (g2 f (w.getD i 0) (w.getD (i+1) 0))).set (i+1) (g2 s (w.getD i 0) (w.getD (i+1) 0))
def ybAt (f s:List (List Int)) (x y z:Nat):Prop:=dW f s (dW f s (dW f s [(x:Int),y,z] 0) 1) 0=dW f s (dW f s (dW f s [(x:Int),y,z] 1) 0) 1
def YB (f s:List (List Int)):Prop:=∀ x y z:Nat,x<f.length→y<f.length→z<f.length→ybAt f s x y z
instance (f s:List (List Int)) (x y z:Nat):Decidable (ybAt f s x y z):=by unfold ybAt;infer_instance

def isSol (f s:List (List Int)):Prop:=isPairMap f s∧Inj f s∧YB f s

noncomputable def dec (p:Prop):Bool:=@decide p (Classical.propDecidable p)
theorem dec_true {p:Prop} (h:p):dec p=true:=by simp [dec,h]
theorem dec_false {p:Prop} (h:¬p):dec p=false:=by simp [dec,h]

end Go.Mch
namespace Go.Mch

def vN (t:List (List Int)) (x y:Nat):Nat:=(v2 t x y).toNat
def Tbs (n:Nat) (A:List (List (List Int))):Prop:=0<n∧∀ t∈A,Tab t∧t.length=n
theorem Tbs.v {n:Nat} {A:List (List (List Int))} (h:Tbs n A) {t:List (List Int)} (ht:t∈A) (x y:Nat):v2 t x y=vN t x y∧vN t x y<n:=by
 obtain ⟨h1,h2⟩:=h.2 t ht
 have h3:=h1.nonneg x y
 have h4:=h1.lt (by rw [h2];exact h.1) x y
 rw [h2] at h4
 unfold vN
 omega

structure Mp where
 im:List Int
 us:List Bool
 st:List Int
def gi (M:Mp) (x:Nat):Int:=M.im.getD x (-1)
def gu (M:Mp) (v:Nat):Bool:=M.us.getD v false
structure MI (n:Nat) (M:Mp):Prop where
 li:M.im.length=n
 lu:M.us.length=n
 rng:∀ x,gi M x=-1∨∃ v:Nat,v<n∧gi M x=v
 inj:∀ x y,x<n→y<n→gi M x=gi M y→gi M x≠-1→x=y
 used:∀ v,v<n→(gu M v=true↔∃ x,x<n∧gi M x=v)
 setm:∀ z:Int,z∈M.st↔∃ x:Nat,x<n∧z=x∧gi M x≠-1
 nd:M.st.Nodup
theorem MI.none {n:Nat} {M:Mp} (h:MI n M) {x:Nat} (hx:n≤x):gi M x=-1:=by
 unfold gi
 rw [List.getD_eq_getElem?_getD,List.getElem?_eq_none (by rw [h.li];exact hx)]
 rfl
theorem MI.lt {n:Nat} {M:Mp} (h:MI n M) {x:Nat} (hx:gi M x≠-1):x<n:=by
 rcases Nat.lt_or_ge x n with h1 | h1
 · exact h1
 · exact absurd (h.none h1) hx
theorem MI.len {n:Nat} {M:Mp} (h:MI n M):M.st.length≤n:=by
 have:(M.st.map Int.toNat).length≤(List.range n).length:=by
  refine nodup_sub ?_ fun y hy=>?_
  · rw [List.Nodup,List.pairwise_map]
    refine h.nd.imp_of_mem fun {a b} ha hb hab he=>hab ?_
    obtain ⟨x,_,rfl,_⟩:=(h.setm a).1 ha
    obtain ⟨y,_,rfl,_⟩:=(h.setm b).1 hb
    omega
  · obtain ⟨z,hz,rfl⟩:=List.mem_map.1 hy
    obtain ⟨x,hx,rfl,_⟩:=(h.setm z).1 hz
    simpa using hx
 simpa using this
where
 nodup_sub:∀ {l m:List Nat},l.Nodup→(∀ y∈l,y∈m)→l.length≤m.length
  | [],_,_,_=>Nat.zero_le _
  | a::l,m,hn,hs=>by
   rw [List.nodup_cons] at hn
   have ha:=hs a (by simp)
   have h1:l.length≤(m.erase a).length:=nodup_sub hn.2 fun y hy=>by
    have hne:y≠a:=fun e=>hn.1 (e▸hy)
    exact (List.mem_erase_of_ne hne).2 (hs y (List.mem_cons_of_mem _ hy))
   have h2:=List.length_erase_of_mem ha
   have h3:0<m.length:=List.length_pos_of_mem ha
   simp only [List.length_cons]
   omega

def Mp.put (M:Mp) (x v:Nat):Mp:=⟨M.im.set x v,M.us.set v true,M.st++[(x:Int)]⟩
theorem gi_put {n:Nat} {M:Mp} (h:MI n M) {x v:Nat} (hx:x<n) (z:Nat):gi (M.put x v) z=if z=x then (v:Int) else gi M z:=by
 unfold gi Mp.put
 simp only [List.getD_eq_getElem?_getD,List.getElem?_set]
 by_cases hz:x=z
 · subst hz
   have:x<M.im.length:=by rw [h.li];exact hx
   simp [this]
 · rw [if_neg hz,if_neg (Ne.symm hz)]
theorem gu_put {n:Nat} {M:Mp} (h:MI n M) {x v:Nat} (hv:v<n) (u:Nat):gu (M.put x v) u=if u=v then true else gu M u:=by
 unfold gu Mp.put
 simp only [List.getD_eq_getElem?_getD,List.getElem?_set]
 by_cases hu:v=u
 · subst hu
   have:v<M.us.length:=by rw [h.lu];exact hv
   simp [this]
 · rw [if_neg hu,if_neg (Ne.symm hu)]
theorem MI.put {n:Nat} {M:Mp} (h:MI n M) {x v:Nat} (hx:x<n) (hv:v<n) (h0:gi M x=-1) (hu:gu M v=false):MI n (M.put x v):=by
 have hno:∀ y,y<n→gi M y≠v:=fun y hy he=>by
  have:=(h.used v hv).2 ⟨y,hy,he⟩
  rw [hu] at this;cases this
 refine ⟨by simp [Mp.put,h.li],by simp [Mp.put,h.lu],fun z=>?_,fun a b ha hb he hn=>?_,fun u hu'=>?_,fun z=>?_,?_⟩
 · rw [gi_put h hx]
   split
   · exact .inr ⟨v,hv,rfl⟩
   · exact h.rng z
 · rw [gi_put h hx,gi_put h hx] at he
   rw [gi_put h hx] at hn
   split at he <;> split at he
   · omega
   · exact absurd he.symm (hno b hb)
   · exact absurd he (hno a ha)
   · rename_i h1 h2
     rw [if_neg h1] at hn
     exact h.inj a b ha hb he hn
 · rw [gu_put h hv]
   split
   · rename_i he
     subst he
     exact ⟨fun _=>⟨x,hx,by rw [gi_put h hx,if_pos rfl]⟩,fun _=>rfl⟩
   · rename_i he
     rw [h.used u hu']
     constructor
     · rintro ⟨y,hy,e⟩
       refine ⟨y,hy,?_⟩
       rw [gi_put h hx,if_neg fun e'=>by rw [e',h0] at e;omega]
       exact e
     · rintro ⟨y,hy,e⟩
       rw [gi_put h hx] at e
       split at e
       · omega
       · exact ⟨y,hy,e⟩
 · simp only [Mp.put,List.mem_append,List.mem_singleton]
   rw [h.setm z]
   constructor
   · rintro (⟨y,hy,rfl,e⟩ | rfl)
     · refine ⟨y,hy,rfl,?_⟩
       have:=gi_put h hx (v:=v) y
       unfold Mp.put at this
       rw [this]
       split
       · omega
       · exact e
     · refine ⟨x,hx,rfl,?_⟩
       have:=gi_put h hx (v:=v) x
       unfold Mp.put at this
       rw [this,if_pos rfl]
       omega
   · rintro ⟨y,hy,rfl,e⟩
     by_cases hyx:y=x
     · right;rw [hyx]
     · left
       refine ⟨y,hy,rfl,?_⟩
       have:=gi_put h hx (v:=v) y
       unfold Mp.put at this
       rw [this,if_neg hyx] at e
       exact e
 · simp only [Mp.put]
   rw [List.nodup_append]
   refine ⟨h.nd,by simp,fun a ha b hb hab=>?_⟩
   rw [List.mem_singleton] at hb
   subst hb
   subst hab
   obtain ⟨y,hy,e,hn⟩:=(h.setm _).1 ha
   have:x=y:=by omega
   exact hn (by rw [← this];exact h0)

structure Iso (A C:List (List (List Int))) (n:Nat) (p:Nat→Nat):Prop where
 lt:∀ x,x<n→p x<n
 inj:∀ x y,x<n→y<n→p x=p y→x=y
 eq:∀ (k:Nat) t u,A[k]?=some t→C[k]?=some u→∀ x y,x<n→y<n→p (vN t x y)=vN u (p x) (p y)
def Ext (n:Nat) (p:Nat→Nat) (M:Mp):Prop:=∀ x,x<n→gi M x≠-1→gi M x=p x
def con (A C:List (List (List Int))) (M:Mp) (z y:Nat):Prop:=∀ (k:Nat) t u,A[k]?=some t→C[k]?=some u→gi M (vN t z y)=v2 u (gi M z).toNat (gi M y).toNat
structure AP (A C:List (List (List Int))) (n:Nat) (M:Mp) (x v:Nat) (M':Mp) (b:Bool):Prop where
 mi:MI n M'
 gr:∃ l,M'.st=M.st++l
 old:∀ z,gi M z≠-1→gi M' z=gi M z
 ok:b=true→gi M' x=v∧∀ z y:Nat,(z:Int)∈M'.st→(z:Int) ∉ M.st→(y:Int)∈M'.st→con A C M' z y∧con A C M' y z
 fo:∀ p,Iso A C n p→Ext n p M→p x=v→b=true∧Ext n p M'

theorem AP.have {A C:List (List (List Int))} {n:Nat} {M:Mp} (h:MI n M) {x v:Nat} (hx:x<n) (h0:gi M x≠-1):AP A C n M x v M (decide (gi M x=v)) :=
 ⟨h,⟨[],by simp⟩,fun _ _=>rfl,fun hb=>⟨of_decide_eq_true hb,fun z y hz hn=>absurd hz hn⟩,fun p _ he hp=>⟨decide_eq_true (by rw [he x hx h0,hp]),he⟩⟩
theorem AP.no {A C:List (List (List Int))} {n:Nat} {M:Mp} (h:MI n M) {x v:Nat} (hx:x<n) (hv:v<n) (h0:gi M x=-1) (hu:gu M v=true):AP A C n M x v M false:=by
 refine ⟨h,⟨[],by simp⟩,fun _ _=>rfl,fun hb=>(by cases hb),fun p hp he hpx=>?_⟩
 obtain ⟨y,hy,e⟩:=(h.used v hv).1 hu
 have h1:=he y hy (by rw [e];omega)
 have:p y=p x:=by omega
 have:=hp.inj y x hy hx this
 rw [this,h0] at e
 omega
structure AJ (A C:List (List (List Int))) (n:Nat) (M:Mp) (x v:Nat) (N:Mp) (i:Nat):Prop where
 mi:MI n N
 gr:∃ l,N.st=M.st++(x:Int)::l
 old:∀ z,gi M z≠-1→gi N z=gi M z
 ix:gi N x=v
 don:∀ z y:Nat,(z:Int)∈N.st→(z:Int) ∉ M.st→z≠x→(y:Int)∈N.st→con A C N z y∧con A C N y z
 cur:∀ (j y:Nat),j<i→N.st[j]?=some (y:Int)→con A C N x y∧con A C N y x
 fo:∀ p,Iso A C n p→Ext n p M→p x=v→Ext n p N
theorem AJ.start {A C:List (List (List Int))} {n:Nat} {M:Mp} (h:MI n M) {x v:Nat} (hx:x<n) (hv:v<n) (h0:gi M x=-1) (hu:gu M v=false):AJ A C n M x v (M.put x v) 0:=by
 refine ⟨h.put hx hv h0 hu,⟨[],by simp [Mp.put]⟩,fun z hz=>?_,by rw [gi_put h hx,if_pos rfl],fun z y hz hn hzx=>?_,fun j y hj=>by omega,fun p hp he hpx z hz hn=>?_⟩
 · rw [gi_put h hx,if_neg fun e=>by rw [e,h0] at hz;exact hz rfl]
 · simp only [Mp.put,List.mem_append,List.mem_singleton] at hz
   rcases hz with hz | hz
   · exact absurd hz hn
   · exact absurd (by omega) hzx
 · rw [gi_put h hx] at hn ⊢
   split
   · rename_i e
     rw [e,hpx]
   · rename_i e
     rw [if_neg e] at hn
     exact he z hz hn
theorem con_mono {A C:List (List (List Int))} {N N':Mp} (h:∀ z,gi N z≠-1→gi N' z=gi N z) (hC:∀ u∈C,∀ a b:Nat,0≤v2 u a b) {z y:Nat} (hz:gi N z≠-1) (hy:gi N y≠-1) (hc:con A C N z y):con A C N' z y:=by
 intro k t u ht hu
 have h1:=hc k t u ht hu
 rw [h z hz,h y hy,← h1]
 refine h _ ?_
 rw [h1]
 have:=hC u (List.mem_of_getElem? hu) (gi N z).toNat (gi N y).toNat
 omega
theorem AJ.done {A C:List (List (List Int))} {n:Nat} {M N:Mp} {x v:Nat} (h:AJ A C n M x v N N.st.length):AP A C n M x v N true:=by
 refine ⟨h.mi,?_,h.old,fun _=>⟨h.ix,fun z y hz hn hy=>?_⟩,fun p hp he hpx=>⟨rfl,h.fo p hp he hpx⟩⟩
 · obtain ⟨l,hl⟩:=h.gr
   exact ⟨_,hl⟩
 · by_cases hzx:z=x
   · subst hzx
     obtain ⟨j,hj,e⟩:=List.getElem_of_mem hy
     exact h.cur j y hj (by rw [List.getElem?_eq_getElem hj,e])
   · exact h.don z y hz hn hzx hy
theorem AJ.next {A C:List (List (List Int))} {n:Nat} {M N:Mp} {x v i y:Nat} (h:AJ A C n M x v N i) (hi:N.st[i]?=some (y:Int)) (hc:con A C N x y∧con A C N y x):AJ A C n M x v N (i+1) :=
 ⟨h.mi,h.gr,h.old,h.ix,h.don,fun j z hj hz=>by
  by_cases e:j=i
  · subst e
    rw [hi] at hz
    have:y=z:=by simp at hz;omega
    subst this
    exact hc
  · exact h.cur j z (by omega) hz,h.fo⟩
theorem AJ.step {A C:List (List (List Int))} {n:Nat} {M N N':Mp} {x v i a w:Nat} {b:Bool} (hC:Tbs n C) (h:AJ A C n M x v N i) (hp:AP A C n N a w N' b) (hb:b=true) (hi:i≤N.st.length) (hfo:∀ p,Iso A C n p→Ext n p M→p x=v→p a=w):AJ A C n M x v N' i:=by
 have hnn:∀ u∈C,∀ a b:Nat,0≤v2 u a b:=fun u hu a b=>(hC.2 u hu).1.nonneg a b
 have hmem:∀ z:Nat,(z:Int)∈N.st→gi N z≠-1:=fun z hz=>by
  obtain ⟨y,_,e,hn⟩:=(h.mi.setm _).1 hz
  have:z=y:=by omega
  rw [this];exact hn
 have hx:gi N x≠-1:=by rw [h.ix];omega
 obtain ⟨l,hl⟩:=h.gr
 obtain ⟨l',hl'⟩:=hp.gr
 refine ⟨hp.mi,⟨l++l',by rw [hl',hl];simp⟩,fun z hz=>?_,?_,fun z y hz hn hzx hy=>?_,fun j y hj hy=>?_,fun p h1 h2 h3=>(hp.fo p h1 (h.fo p h1 h2 h3) (hfo p h1 h2 h3)).2⟩
 · have:=h.old z hz
   rw [← this]
   exact hp.old z (by rw [this];exact hz)
 · rw [hp.old x hx];exact h.ix
 · obtain ⟨_,h2⟩:=hp.ok hb
   by_cases hz0:(z:Int)∈N.st
   · by_cases hy0:(y:Int)∈N.st
     · obtain ⟨c1,c2⟩:=h.don z y hz0 hn hzx hy0
       exact ⟨con_mono hp.old hnn (hmem z hz0) (hmem y hy0) c1,con_mono hp.old hnn (hmem y hy0) (hmem z hz0) c2⟩
     · obtain ⟨c1,c2⟩:=h2 y z hy hy0 hz
       exact ⟨c2,c1⟩
   · exact h2 z y hz hz0 hy
 · have hjl:j<N.st.length:=by omega
   rw [hl',List.getElem?_append_left hjl] at hy
   obtain ⟨c1,c2⟩:=h.cur j y hj hy
   have hy0:=hmem y (List.mem_of_getElem? hy)
   exact ⟨con_mono hp.old hnn hx hy0 c1,con_mono hp.old hnn hy0 hx c2⟩
theorem fo_pair {A C:List (List (List Int))} {n:Nat} (hA:Tbs n A) {M N:Mp} {x v i y k:Nat} {t u:List (List Int)} (h:AJ A C n M x v N i) (hx:x<n) (hy:(y:Int)∈N.st) (ht:A[k]?=some t) (hu:C[k]?=some u) :
 ∃ w:Nat,gi N y=w∧(∀ p,Iso A C n p→Ext n p M→p x=v→p (vN t x y)=vN u v w)∧∀ p,Iso A C n p→Ext n p M→p x=v→p (vN t y x)=vN u w v:=by
 obtain ⟨y',hy',e,hn⟩:=(h.mi.setm _).1 hy
 have e:y=y':=by omega
 subst e
 obtain ⟨w,hw,e2⟩:∃ w:Nat,w<n∧gi N y=w:=by
  rcases h.mi.rng y with h1 | h1
  · exact absurd h1 hn
  · exact h1
 have key:∀ p,Iso A C n p→Ext n p M→p x=v→p y=w:=fun p h1 h2 h3=>by
  have:=h.fo p h1 h2 h3 y hy' hn
  omega
 exact ⟨w,e2,fun p h1 h2 h3=>by rw [h1.eq k t u ht hu x y hx hy',h3,key p h1 h2 h3],fun p h1 h2 h3=>by rw [h1.eq k t u ht hu y x hy' hx,h3,key p h1 h2 h3]⟩
def conk (A C:List (List (List Int))) (k:Nat) (M:Mp) (z y:Nat):Prop:=∀ t u,A[k]?=some t→C[k]?=some u→gi M (vN t z y)=v2 u (gi M z).toNat (gi M y).toNat
theorem con_of {A C:List (List (List Int))} {M:Mp} {z y:Nat} (h:∀ k,k<A.length→conk A C k M z y):con A C M z y:=fun k t u ht hu=>h k (by
 rcases Nat.lt_or_ge k A.length with h1 | h1
 · exact h1
 · rw [List.getElem?_eq_none h1] at ht;cases ht) t u ht hu
theorem conk_mono {A C:List (List (List Int))} {k:Nat} {N N':Mp} (h:∀ z,gi N z≠-1→gi N' z=gi N z) (hC:∀ u∈C,∀ a b:Nat,0≤v2 u a b) {z y:Nat} (hz:gi N z≠-1) (hy:gi N y≠-1) (hc:conk A C k N z y):conk A C k N' z y:=by
 intro t u ht hu
 have h1:=hc t u ht hu
 rw [h z hz,h y hy,← h1]
 refine h _ ?_
 rw [h1]
 have:=hC u (List.mem_of_getElem? hu) (gi N z).toNat (gi N y).toNat
 omega
theorem conk_led {A C:List (List (List Int))} {n k:Nat} {N N':Mp} {a w z y:Nat} {t u:List (List Int)} (hp:AP A C n N a w N' true) (hz:gi N z≠-1) (hy:gi N y≠-1) (ht:A[k]?=some t) (hu:C[k]?=some u) (ha:a=vN t z y) (hw:(w:Int)=v2 u (gi N z).toNat (gi N y).toNat):conk A C k N' z y:=by
 intro t' u' ht' hu'
 rw [ht] at ht';cases ht'
 rw [hu] at hu';cases hu'
 rw [← ha,(hp.ok rfl).1,hw,hp.old z hz,hp.old y hy]
theorem AJ.fail {A C:List (List (List Int))} {n:Nat} {M N N':Mp} {x v i a w:Nat} (h:AJ A C n M x v N i) (hp:AP A C n N a w N' false) (hfo:∀ p,Iso A C n p→Ext n p M→p x=v→p a=w):AP A C n M x v N' false:=by
 obtain ⟨l,hl⟩:=h.gr
 obtain ⟨l',hl'⟩:=hp.gr
 refine ⟨hp.mi,⟨(x:Int)::l++l',by rw [hl',hl];simp⟩,fun z hz=>?_,fun hb=>(by cases hb),fun p h1 h2 h3=>?_⟩
 · have:=h.old z hz
   rw [← this]
   exact hp.old z (by rw [this];exact hz)
 · have:=(hp.fo p h1 (h.fo p h1 h2 h3) (hfo p h1 h2 h3)).1
   cases this
end Go.Mch
namespace Go.Mch

theorem rows_append (a b:List (List Int)):rows (a++b)=rows a++rows b:=by simp [rows]

end Go.Mch
namespace Go.Mch

def eT:Option (List (List Int))→T
 | none=>nil
 | some X=>tb X
def ryT (o:Option (List (List Int))):Rw (Rw Int):=Rw.ofO (o.map fun X=>X.map .of)
theorem rawT_ry (o:Option (List (List Int))):rawT (ryT o)=eT o:=by
 cases o with
 | none=>rfl
 | some X=>exact rawT_tb X
theorem map_lst_of {α:Type} (X:List (List α)):(X.map Rw.of).map lst=X:=by simp [Function.comp_def]
theorem lst_ry (o:Option (List (List Int))):(lst (ryT o)).map lst=lso o:=by
 cases o with
 | none=>rfl
 | some X=>exact map_lst_of X
theorem small_ry {o:Option (List (List Int))} (h:smallT (lso o)):small (ryT o):=by
 cases o with
 | none=>exact ⟨by simp [ryT,Rw.ofO,lst],by simp [ryT,Rw.ofO,lst]⟩
 | some X=>exact ⟨by simpa [ryT,Rw.ofO] using h.1,by simpa [ryT,Rw.ofO] using h.2⟩
end Go.Mch
namespace Go.Mch

def isTup (n:Int) (xs:List Int):Prop:=xs.length≤12∧inR 0 (n-1) xs
instance (n:Int) (xs:List Int):Decidable (isTup n xs):=by unfold isTup;infer_instance
def S_clone (pg:Pg):Prop:=∀ xs:List Int,xs.length≤1048576→Call pg 36 [ix xs] [ix xs] (.mem .own (some 1) (xs.map I))
theorem t_clone {pg:Pg} (hp:pg.fn 36=some c_slices_Clone___int64_int64_):S_clone pg:=by
 intro xs hl
 refine Call.intro hp rfl (by simp) ?_
 show wp _ _ c_slices_Clone___int64_int64_.body (post [.t 2] _ _ _) _
 simp [c_slices_Clone___int64_int64_,roomy]
 omega

def tmOk (f:List (List Int)) (w:List Int) (p:Int):Prop:=isTup f.length w∧0≤p∧p≤(w.length:Int)-2
instance (f:List (List Int)) (w:List Int) (p:Int):Decidable (tmOk f w p):=by unfold tmOk;infer_instance
end Go.Mch
namespace Go.Mch

def eI:Option (List Int)→T
 | none=>nil
 | some X=>ix X
end Go.Mch
namespace Go.Mch


theorem len_le_of_sub {α:Type} [DecidableEq α]:∀ (l p:List α),l.Nodup→(∀ x∈l,x∈p)→l.length≤p.length
 | [],_,_,_=>by simp
 | a::l,p,hd,hs=>by
  have ha:a∈p:=hs a (by simp)
  have hn:=List.nodup_cons.1 hd
  have:=len_le_of_sub l (p.erase a) hn.2 fun x hx=>by
   have hne:x≠a:=fun e=>hn.1 (e▸hx)
   exact (List.mem_erase_of_ne hne).2 (hs x (by simp [hx]))
  have h2:=List.length_erase_of_mem ha
  have h3:0<p.length:=List.length_pos_of_mem ha
  simp only [List.length_cons]
  omega

theorem nodup_of_sub {α:Type} [DecidableEq α]:∀ (l p:List α),l.Nodup→(∀ x∈l,x∈p)→p.length=l.length→p.Nodup
 | [],p,_,_,h=>by
  have:p=[]:=List.eq_nil_of_length_eq_zero (by simpa using h)
  subst this
  exact List.nodup_nil
 | a::l,p,hd,hs,h=>by
  have ha:a∈p:=hs a (by simp)
  have hn:=List.nodup_cons.1 hd
  have h2:=List.length_erase_of_mem ha
  have h4:(p.erase a).length=l.length:=by simp only [List.length_cons] at h;omega
  have hsub:∀ x∈l,x∈p.erase a:=fun x hx=>by
   have hne:x≠a:=fun e=>hn.1 (e▸hx)
   exact (List.mem_erase_of_ne hne).2 (hs x (by simp [hx]))
  have hp:=nodup_of_sub l (p.erase a) hn.2 hsub h4
  have hna:a ∉ p.erase a:=fun hm=>by
   have:=len_le_of_sub (a::l) (p.erase a) hd fun x hx=>by
    rcases List.mem_cons.1 hx with rfl | hx
    · exact hm
    · exact hsub x hx
   simp only [List.length_cons] at this
   omega
  exact (List.perm_cons_erase ha).nodup_iff.2 (List.nodup_cons.2 ⟨hna,hp⟩)

def nums (n:Nat):List Int:=(List.range n).map Int.ofNat
theorem nums_nodup (n:Nat):(nums n).Nodup:=by
 refine List.Pairwise.map _ (fun a b h=>?_) (List.nodup_range (n:=n))
 intro e
 exact h (Int.ofNat.inj e)
theorem perm_permuted {p:List Int} (h1:1≤p.length) (h2:p.length≤12) (hr:∀ x∈p,0≤x∧x<p.length):isPerm p↔isPermuted p:=by
 constructor
 · intro h
   refine ⟨hr,nodup_of_sub (nums p.length) p (nums_nodup _) (fun x hx=>?_) (by simp [nums])⟩
   simp only [nums,List.mem_map,List.mem_range] at hx
   obtain ⟨k,hk,rfl⟩:=hx
   exact h.2.2 k hk
 · intro h
   refine ⟨h1,h2,fun x hx=>?_⟩
   by_cases hm:(x:Int)∈p
   · exact hm
   · have:=len_le_of_sub p ((nums p.length).erase x) h.2 fun y hy=>by
      have hy2:=hr y hy
      have hne:y≠(x:Int):=fun e=>hm (e▸hy)
      refine (List.mem_erase_of_ne hne).2 ?_
      simp only [nums,List.mem_map,List.mem_range]
      exact ⟨y.toNat,by omega,by show ((y.toNat:Nat):Int)=y;omega⟩
     have hx2:(x:Int)∈nums p.length:=by
      simp only [nums,List.mem_map,List.mem_range]
      exact ⟨x,hx,rfl⟩
     have h3:=List.length_erase_of_mem hx2
     have h4:(nums p.length).length=p.length:=by simp [nums]
     omega
end Go.Mch
namespace Go.Mch

def sdAt (t:List (List Int)) (x y z:Nat):Prop:=v2 t x (v2 t y z).toNat=v2 t (v2 t x y).toNat (v2 t x z).toNat
instance (t:List (List Int)) (x y z:Nat):Decidable (sdAt t x y z):=by unfold sdAt;infer_instance
end Go.Mch
namespace Go.Mch

@[simp] theorem frzL_mapI (k:K) (xs:List Int):T.frzL k (xs.map I)=xs.map I:=by
 induction xs with
 | nil=>rfl
 | cons x xs ih=>simp [ih]
@[simp] theorem frzL_tbL (k:K) (t:List (List Int)):T.frzL k (tbL t)=tbL t:=by
 induction t with
 | nil=>rfl
 | cons x xs ih=>simp only [tbL,List.map_cons] at ih ⊢;simp [ih]
theorem map_range_succ {α:Type} (f:Nat→α) (k:Nat):(List.range (k+1)).map f=(List.range k).map f++[f k]:=by simp [List.range_succ]

def tabL (n:Nat) (g:Nat→Nat→Int):List (List Int):=(List.range n).map fun x=>(List.range n).map fun y=>g x y
@[simp] theorem tabL_length (n:Nat) (g:Nat→Nat→Int):(tabL n g).length=n:=by simp [tabL]
theorem tabL_row {n:Nat} {g:Nat→Nat→Int} {r:List Int} (h:r∈tabL n g):r.length=n:=by
 simp only [tabL,List.mem_map] at h
 obtain ⟨x,_,rfl⟩:=h
 simp
theorem v2_tabL {n:Nat} {g:Nat→Nat→Int} {x y:Nat} (hx:x<n) (hy:y<n):v2 (tabL n g) x y=g x y:=by
 simp [v2,tabL,hx,hy]
theorem tab_of {n:Nat} {g:Nat→Nat→Int} (h:∀ x y,x<n→y<n→0≤g x y∧g x y<n):Tab (tabL n g):=by
 intro r hr
 refine ⟨by rw [tabL_row hr];simp,fun v hv=>?_⟩
 simp only [tabL,List.mem_map,List.mem_range] at hr
 obtain ⟨x,hx,rfl⟩:=hr
 simp only [List.mem_map,List.mem_range] at hv
 obtain ⟨y,hy,rfl⟩:=hv
 simpa using h x y hx hy
theorem tabL_congr {n:Nat} {g g':Nat→Nat→Int} (h:∀ x y,x<n→y<n→g x y=g' x y):tabL n g=tabL n g':=by
 unfold tabL
 apply List.map_congr_left
 intro x hx
 apply List.map_congr_left
 intro y hy
 exact h x y (by simpa using hx) (by simpa using hy)
theorem tab_eq {t:List (List Int)} {n:Nat} (hn:t.length=n) (h:∀ r∈t,r.length=n):t=tabL n (v2 t):=by
 subst hn
 unfold tabL
 apply List.ext_getElem
 · simp
 · intro i h1 h2
   apply List.ext_getElem
   · simp [h _ (List.getElem_mem h1)]
   · intro j h3 h4
     simp [v2,h1,h3]

def colL (t:List (List Int)) (y:Nat):List Int:=(List.range t.length).map fun x=>v2 t x y
def turnL (t:List (List Int)):List (List Int):=tabL t.length fun x y=>v2 t y x
@[simp] theorem colL_length (t:List (List Int)) (y:Nat):(colL t y).length=t.length:=by simp [colL]
@[simp] theorem turnL_length (t:List (List Int)):(turnL t).length=t.length:=by simp [turnL]
theorem turnL_tab {t:List (List Int)} (h:Tab t) (h0:0<t.length):Tab (turnL t):=by
 apply tab_of
 intro x y hx hy
 exact ⟨h.nonneg _ _,h.lt h0 _ _⟩

def S_column (pg:Pg):Prop:=∀ (t:List (List Int)) (y:Nat),t.length≤1048576→(∀ r∈t,y<r.length)→Call pg 375 [tb t,I y] [tb t,I y] (.mem .own (some 1) ((colL t y).map I))
theorem t_column {pg:Pg} (hp:pg.fn 375=some c_spec_l01Column):S_column pg:=by
 intro t y hl hr
 refine Call.intro hp rfl (by simp) ?_
 show wp _ _ c_spec_l01Column.body (post [.t 4] _ _ _) _
 simp [c_spec_l01Column]
 refine wpLoop_count (fun k e=>e=fr [(0,some (.val (tb t))),(1,some (.val (I y))),(5,some (.val (.mem .own (some 1) (((List.range k).map fun x=>v2 t x y).map I)))),(6,some (.val (I k)))]) t.length ?_ ?_ 0 _ (by omega) ?_
 · rintro k e hk rfl
   have hy:=hr _ (List.getElem_mem hk)
   simp [hk,hy,get_v2,map_range_succ,roomy]
   omega
 · rintro e rfl
   simp [colL]
 · simp

def S_turn (pg:Pg) (n:Nat):Prop:=∀ t:List (List Int),Tab t→t.length≤12→Call pg n [tb t] [tb t] (.mem .own (some 1) (rows (turnL t)))
theorem turnL_rows (t:List (List Int)):turnL t=(List.range t.length).map fun y=>colL t y:=rfl
theorem t_l01Turn {pg:Pg} (hp:pg.fn 265=some c_spec_l01Turn) (h375:S_column pg):S_turn pg 265:=by
 intro t ht hl
 refine Call.intro hp rfl (by simp) ?_
 show wp _ _ c_spec_l01Turn.body (post [.t 2] _ _ _) _
 simp [c_spec_l01Turn]
 refine wpLoop_count (fun k e=>e=fr [(0,some (.val (tb t))),(3,some (.val (.mem .own (some 1) (rows ((List.range k).map fun y=>colL t y))))),(4,some (.val (I k)))]) t.length ?_ ?_ 0 _ (by omega) ?_
 · rintro k e hk rfl
   simp [hk]
   refine callR (h375 t k (by omega) (fun r hr=>by rw [(ht r hr).1];exact hk)) rfl rfl (fun _=>by simp) ?_
   simp [map_range_succ,rows_append,roomy]
   simp [rows]
   omega
 · rintro e rfl
   simp [turnL_rows]
 · simp [rows]

def S_tableBy (pg:Pg):Prop:=∀ (n:Nat) (g:Nat→Nat→Int) (f:Nat) (caps:List T),n≤1048576→T.eryL .old caps=caps→T.noOwnL caps=true →
 (∀ x y:Nat,x<n→y<n→Call pg f (I x::I y::caps) (I x::I y::caps) (I (g x y)))→Call pg 376 [I n,.fn f caps] [I n,.fn f caps] (.mem .own (some 1) (rows (tabL n g)))

theorem set_mid {α:Type} {l:List α} {r:List α} {k:Nat} {z v:α} (h:l.length=k):(l++z::r).set k v=l++v::r:=by
 subst h;simp
theorem fill_succ {α:Type} {n k:Nat} (z:α) (h:k<n):List.replicate (n-k) z=z::List.replicate (n-(k+1)) z:=by
 rw [show n-k=(n-(k+1))+1 from by omega,List.replicate_succ]

set_option maxRecDepth 10000 in
theorem t_tableBy {pg:Pg} (hp:pg.fn 376=some c_impl_tableBy):S_tableBy pg:=by
 intro n g f caps hn hc1 hc2 hc
 refine Call.intro hp rfl (by simp [hc2]) ?_
 show wp _ _ c_impl_tableBy.body (post [.t 4] _ _ _) _
 simp [c_impl_tableBy]
 refine ⟨by unfold roomy;omega,?_⟩
 refine wpLoop_count (fun x e=>e=fr [(0,some (.val (I n))),(1,some (.val (.fn f caps))),(5,some (.val (.mem .own (some 1) (rows ((List.range x).map fun i=>(List.range n).map (g i))++List.replicate (n-x) nil)))),(11,some (.val (I n))),(12,some (.val (I x)))]) n ?_ ?_ 0 _ (by omega) ?_
 · rintro x e hx rfl
   have hlen:(rows ((List.range x).map fun i=>(List.range n).map (g i))).length=x:=by simp
   rw [fill_succ nil hx]
   simp [hx,set_mid hlen]
   refine ⟨by unfold roomy;omega,by omega,?_⟩
   refine wpLoop_count (fun y e=>e=fr [(0,some (.val (I n))),(1,some (.val (.fn f caps))),(5,some (.val (.mem .own (some 1) (rows ((List.range x).map fun i=>(List.range n).map (g i))++.mem .own (some 1) (((List.range y).map (g x)).map I++List.replicate (n-y) (I 0))::List.replicate (n-(x+1)) nil)))),(6,some (.val (I x))),(11,some (.val (I n))),(12,some (.val (I x))),(24,some (.val (I n))),(25,some (.val (I y)))]) n ?_ ?_ 0 _ (by omega) ?_
   · rintro y e hy rfl
     have hlen2:(((List.range y).map (g x)).map I).length=y:=by simp
     rw [fill_succ (I 0) hy]
     simp [hy]
     refine ⟨by omega,?_⟩
     refine callR (by simpa [hc1] using hc x y hx hy) rfl rfl (fun _=>by simp) ?_
     simp [set_mid hlen,map_range_succ]
     omega
   · rintro e rfl
     simp [map_range_succ,rows_append]
     simp [rows]
     omega
   · simp
 · rintro e rfl
   simp [tabL,hc2]
 · simp [rows]

def S_turn1 (pg:Pg):Prop:=∀ (t:List (List Int)) (x y:Nat) (hx:x<t.length) (hy:y<t.length),(t[y]).length=t.length→Call pg 377 [I x,I y,.mem .old none [tb t]] [I x,I y,.mem .old none [tb t]] (I (v2 t y x))
theorem t_turn1 {pg:Pg} (hp:pg.fn 377=some c_impl_transposed_1):S_turn1 pg:=by
 intro t x y hx hy hr
 refine Call.intro hp rfl (by simp) ?_
 show wp _ _ c_impl_transposed_1.body (post [.t 5] _ _ _) _
 simp [c_impl_transposed_1,hx,hy,hr,get_v2]
theorem t_transposed {pg:Pg} (hp:pg.fn 267=some c_impl_transposed) (h376:S_tableBy pg) (h377:S_turn1 pg):S_turn pg 267:=by
 intro t ht hl
 refine Call.intro hp rfl (by simp) ?_
 show wp _ _ c_impl_transposed.body (post [.t 2] _ _ _) _
 simp [c_impl_transposed]
 refine callR (h376 t.length (fun x y=>v2 t y x) 377 [.mem .old none [tb t]] (by omega) (by simp) (by simp) (fun x y hx hy=>h377 t x y hx hy (ht.row hy))) rfl rfl (fun _=>by simp) ?_
 simp [turnL]

def nonDeg (f s:List (List Int)):Prop:=permRows f∧permRows (turnL s)
instance (f s:List (List Int)):Decidable (nonDeg f s):=by unfold nonDeg;infer_instance
def S_nonDeg (pg:Pg) (n:Nat):Prop:=∀ f s:List (List Int),PM f s→Call pg n [sol f s] [sol f s] (B (decide (nonDeg f s)))
theorem permRows_spec {t:List (List Int)} (h:Tab t) (h0:0<t.length) (h12:t.length≤12):(∀ r∈t,isPerm r)↔permRows t:=by
 constructor
 · intro g r hr
   have:=h r hr
   exact (perm_permuted (by omega) (by omega) (fun x hx=>by have:=this.2 x hx;omega)).1 (g r hr)
 · intro g r hr
   have:=h r hr
   exact (perm_permuted (by omega) (by omega) (fun x hx=>by have:=this.2 x hx;omega)).2 (g r hr)

def S_l01Rows (pg:Pg):Prop:=∀ t:List (List Int),Tab t→0<t.length→t.length≤12→Call pg 410 [tb t] [tb t] (B (decide (permRows t)))
theorem t_l01Rows {pg:Pg} (hp:pg.fn 410=some c_spec_l01Rows) (h47:S_perm pg 47):S_l01Rows pg:=by
 intro t ht h0 h12
 refine Call.intro hp rfl (by simp) ?_
 show wp _ _ c_spec_l01Rows.body (post [.t 2] _ _ _) _
 have hsp:=permRows_spec ht h0 h12
 simp [c_spec_l01Rows]
 refine wpLoop_count (fun k e=>(∀ i (h:i<t.length),i<k→isPerm t[i])∧e=fr [(0,some (.val (tb t))),(3,some (.val (I k)))]) t.length ?_ ?_ 0 _ (by omega) ?_
 · rintro k e hk ⟨h1,rfl⟩
   simp [hk]
   refine callR (h47 _ (by have:=ht.row hk;omega)) rfl rfl (fun _=>rfl) ?_
   by_cases hm:isPerm t[k]
   · simp [hm]
     refine ⟨by omega,fun i hi hik=>?_⟩
     rcases Nat.lt_or_ge i k with h2 | h2
     · exact h1 i hi h2
     · have:i=k:=by omega
       subst this;exact hm
   · have:¬permRows t:=fun h=>hm (hsp.2 h _ (List.getElem_mem hk))
     simp [hm,this]
 · rintro e ⟨h1,rfl⟩
   have:permRows t:=hsp.1 fun x hx=>by
    obtain ⟨i,hi,rfl⟩:=List.getElem_of_mem hx
    exact h1 i hi hi
   simp [this]
 · simp

theorem t_l02Good {pg:Pg} (hp:pg.fn 350=some c_spec_l02Good) (h410:S_l01Rows pg) (h265:S_turn pg 265):S_nonDeg pg 350:=by
 intro f s h
 have h0:=h.pos
 have h12:=h.small
 have hl:=h.len
 refine Call.intro hp rfl (by simp) ?_
 show wp _ _ c_spec_l02Good.body (post [.t 2] _ _ _) _
 simp [c_spec_l02Good]
 refine callR (h410 f h.tf h0 h12) rfl rfl (fun _=>rfl) ?_
 by_cases h1:permRows f
 · simp [h1]
   refine callR (h265 s h.ts (by omega)) rfl rfl (fun _=>by simp) ?_
   simp
   refine callR (h410 (turnL s) (turnL_tab h.ts (by omega)) (by simp;omega) (by simp;omega)) rfl rfl (fun _=>rfl) ?_
   simp [nonDeg,h1]
 · simp [h1,nonDeg,undefV]

end Go.Mch
namespace Go.Mch

def thenL (p q:List Int):List Int:=p.map fun x=>q.getD x.toNat 0
@[simp] theorem thenL_length (p q:List Int):(thenL p q).length=p.length:=by simp [thenL]
def S_then (pg:Pg) (n:Nat):Prop:=∀ p q:List Int,p.length≤1048576→inN q.length p→Call pg n [ix p,ix q] [ix p,ix q] (.mem .own (some 1) ((thenL p q).map I))
theorem thenL_take {p q:List Int} {k:Nat} (hk:k<p.length) (h:(p[k]).toNat<q.length):(thenL p q).take (k+1)=(thenL p q).take k++[q[(p[k]).toNat]]:=by
 rw [List.take_succ_eq_append_getElem (by simpa using hk)]
 simp [thenL,h]
theorem t_l01Then {pg:Pg} (hp:pg.fn 279=some c_spec_l01Then):S_then pg 279:=by
 intro p q hl hi
 refine Call.intro hp rfl (by simp) ?_
 show wp _ _ c_spec_l01Then.body (post [.t 4] _ _ _) _
 simp [c_spec_l01Then]
 refine wpLoop_count (fun k e=>e=fr [(0,some (.val (ix p))),(1,some (.val (ix q))),(5,some (.val (.mem .own (some 1) (((thenL p q).take k).map I)))),(6,some (.val (I k)))]) p.length ?_ ?_ 0 _ (by omega) ?_
 · rintro k e hk rfl
   have h1:=hi _ (List.getElem_mem hk)
   have h2:(p[k]).toNat<q.length:=by omega
   simp [hk,h1,h2,thenL_take hk h2,roomy]
   omega
 · rintro e rfl
   simp [take_len]
 · simp

def S_copyT (pg:Pg) (n:Nat):Prop:=∀ t:List (List Int),fits t→Call pg n [tb t] [tb t] (.mem .own (some 1) (rows t))
theorem rows_take_succ {t:List (List Int)} {k:Nat} (hk:k<t.length):rows (t.take (k+1))=rows (t.take k)++[.mem .own (some 1) ((t[k]).map I)]:=by
 rw [List.take_succ_eq_append_getElem hk,rows_append];rfl
theorem t_l01Own2 {pg:Pg} (hp:pg.fn 280=some c_spec_l01Own2) (h31:S_own pg):S_copyT pg 280:=by
 intro t ht
 have hl:=ht.1
 refine Call.intro hp rfl (by simp) ?_
 show wp _ _ c_spec_l01Own2.body (post [.t 2] _ _ _) _
 simp [c_spec_l01Own2]
 refine wpLoop_count (fun k e=>e=fr [(0,some (.val (tb t))),(3,some (.val (.mem .own (some 1) (rows (t.take k))))),(4,some (.val (I k)))]) t.length ?_ ?_ 0 _ (by omega) ?_
 · rintro k e hk rfl
   simp [hk]
   refine callR (h31 _ (ht.2 _ (List.getElem_mem hk))) rfl rfl (fun _=>by simp) ?_
   simp [rows_take_succ hk,roomy]
   omega
 · rintro e rfl
   simp [take_len]
 · simp [rows]


def abel (f:List (List Int)):Prop:=∀ x y:Nat,x<f.length→y<f.length→thenL (f.getD x []) (f.getD y [])=thenL (f.getD y []) (f.getD x [])
instance (f:List (List Int)):Decidable (abel f):=by
 have:abel f↔∀ x∈List.range f.length,∀ y∈List.range f.length,thenL (f.getD x []) (f.getD y [])=thenL (f.getD y []) (f.getD x []):=by
  simp only [abel,List.mem_range]
  exact ⟨fun h x hx y hy=>h x y hx hy,fun h x y hx hy=>h x hx y hy⟩
 exact decidable_of_iff _ this.symm
end Go.Mch
namespace Go.Mch

def act (p:List Int) (x:Int):Int:=p.getD x.toNat 0
def Prms (n:Nat) (ms:List (List Int)):Prop:=∀ p∈ms,p.length=n∧isPermuted p

end Go.Mch
namespace Go.Mch

theorem bx {α β:Type} {o:Option α} {f:α→Prop} {g:β→α→Prop} (hf:∀ a,f a→∃ r,g r a) (h:bindP o f):∃ r,bindP o (g r):=by
 obtain ⟨a,h1,h2⟩:=h
 obtain ⟨r,h3⟩:=hf a h2
 exact ⟨r,a,h1,h3⟩
theorem ax {β:Type} {p:Prop} {K:β→Prop} (h:p∧∃ r,K r):∃ r,p∧K r:=by
 obtain ⟨h1,r,h2⟩:=h
 exact ⟨r,h1,h2⟩

theorem stepQ_ex {β:Type} {G:Rl} {m:K} {d:Option Nat} {q:Q} {k:β→Env→Prop} {e:Env} (h:stepQ G m d q (fun e=>∃ r,k r e) e):∃ r,stepQ G m d q (k r) e:=by
 cases q <;> simp only [stepQ] at h ⊢
 case mv=>exact bx (fun _ h=>h) h
 case mvw=>exact bx (fun _ h=>ax h) h
 case stsw=>exact bx (fun _ h=>bx (fun _ h=>bx (fun _ h=>ax ⟨h.1,bx (fun _ h=>h) h.2⟩) h) h) h
 case sts x y =>
  refine bx (fun a ha=>bx (fun v hv=>?_) ha) h
  split at hv
  · split at hv
    · exact ax hv
    · exact hv.elim
  · exact hv.elim
 case asg x =>
  refine bx (fun v hv=>?_) h
  cases v
  case val t=>exact hv
  all_goals exact bx (fun _ h=>h) hv
 case pick=>exact bx (fun _ h=>bx (fun _ h=>h) h) h
 case bin=>exact bx (fun _ h=>bx (fun _ h=>bx (fun _ h=>h) h) h) h
 case beq=>exact bx (fun _ h=>bx (fun _ h=>h) h) h
 case isnil=>exact bx (fun _ h=>h) h
 case fncl=>exact bx (fun _ h=>bx (fun _ h=>h) h) h
 case slen=>exact bx (fun _ h=>h) h
 case un=>exact bx (fun _ h=>bx (fun _ h=>h) h) h
 case conv=>exact bx (fun _ h=>h) h
 case len=>exact bx (fun _ h=>h) h
 case idx=>exact bx (fun _ h=>bx (fun _ h=>bx (fun _ h=>h) h) h) h
 case fld=>exact bx (fun _ h=>bx (fun _ h=>h) h) h
 case fldv=>exact bx (fun _ h=>bx (fun _ h=>h) h) h
 case ld=>exact bx (fun _ h=>bx (fun _ h=>h) h) h
 case st =>
  refine bx (fun a ha=>bx (fun v hv=>bx (fun y hy=>?_) hv) ha) h
  split at hy
  · split at hy
    · exact ax hy
    · exact hy.elim
  · exact hy.elim
 case stk =>
  refine bx (fun u hu=>bx (fun a ha=>bx (fun v hv=>ax ⟨hv.1,bx (fun y hy=>?_) hv.2⟩) ha) hu) h
  split at hy
  · split at hy
    · exact ax hy
    · exact hy.elim
  · exact hy.elim
 case nilck =>
  refine bx (fun a ha=>?_) h
  split at ha
  · exact ha
  · exact ha
  · exact ha.elim
 case alloc=>exact h
 case box=>exact bx (fun _ h=>bx (fun _ h=>ax h) h) h
 case build=>exact bx (fun _ h=>bx (fun _ h=>h) h) h
 case mks=>exact bx (fun _ h=>ax h) h
 case bsl=>exact bx (fun _ h=>bx (fun _ h=>ax h) h) h
 case app =>
  refine bx (fun a ha=>bx (fun b hb=>bx (fun z hz=>bx (fun u hu=>?_) hz) hb) ha) h
  have h2:=hu.2
  split at h2
  · by_cases h0:u.1=[]
    · obtain ⟨r,h3⟩:=h2.1 h0
      exact ⟨r,hu.1,fun _=>h3,fun h4=>(h4 h0).elim⟩
    · obtain ⟨r,h3⟩:=h2.2 h0
      exact ⟨r,hu.1,fun h4=>(h0 h4).elim,fun _=>h3⟩
  · obtain ⟨r,h3⟩:=h2
    exact ⟨r,hu.1,h3⟩
 case sl=>exact bx (fun _ h=>bx (fun _ h=>bx (fun _ h=>bx (fun _ h=>h) h) h) h) h
 case ext=>exact bx (fun _ h=>bx (fun _ h=>h) h) h
 case fnc=>exact bx (fun _ h=>h) h
 case call f args =>
  refine bx (fun fv hv=>?_) h
  split at hv
  · refine bx (fun ts ht=>?_) hv
    obtain ⟨ts',r,h1,h2,h3,h4⟩:=ht
    obtain ⟨y,h5⟩:=bx (fun _ h=>h) h4
    exact ⟨y,ts',r,h1,h2,h3,h5⟩
  · exact hv.elim
 case freeze=>exact bx (fun _ h=>h) h
 case settle=>exact bx (fun _ h=>h) h
 case mm=>exact bx (fun _ h=>bx (fun _ h=>bx (fun _ h=>h) h) h) h
 case cap0=>exact bx (fun _ h=>bx (fun _ h=>h) h) h
 case bstr=>exact bx (fun _ h=>bx (fun _ h=>h) h) h
 case bsls=>exact bx (fun _ h=>bx (fun _ h=>ax h) h) h
 case bslv=>exact bx (fun _ h=>bx (fun _ h=>h) h) h
 case tk1=>exact bx (fun _ h=>bx (fun _ h=>ax h) h) h
 case exts=>exact bx (fun _ h=>bx (fun _ h=>h) h) h
 case mvs=>exact bx (fun _ h=>bx (fun _ h=>h) h) h
 case bslw=>exact bx (fun _ h=>bx (fun _ h=>h) h) h
 case calls=>exact bx (fun _ h=>bx (fun _ h=>bx (fun _ h=>bx (fun _ h=>bx (fun _ h=>bx (fun _ h=>bx (fun _ h=>by
  obtain ⟨h0,ts',r,h1,x,h2⟩:=h
  exact ⟨x,h0,ts',r,h1,h2⟩) h) h) h) h) h) h) h
 case bsl1 n =>
  refine bx (fun v hv=>?_) h
  split at hv
  · exact ax hv
  · exact hv.elim
 case apz =>
  refine bx (fun v hv=>bx (fun _ hv=>?_) hv) h
  split at hv
  · exact ax hv
  · exact hv.elim
 case arr=>exact bx (fun _ h=>bx (fun _ h=>bx (fun _ h=>h) h) h) h
 case mkset=>exact h
 case look=>exact bx (fun _ h=>bx (fun _ h=>bx (fun _ h=>h) h) h) h
 case upd=>exact bx (fun _ h=>bx (fun _ h=>bx (fun _ h=>h) h) h) h
 case bslk x n =>
  refine bx (fun v hv=>bx (fun u hu=>?_) hv) h
  split at hu
  · exact ax hu
  · exact hu.elim
 case appk x y n =>
  refine bx (fun v hv=>bx (fun v hv=>bx (fun v hv=>bx (fun v hv=>bx (fun u hu=>?_) hv) hv) hv) hv) h
  split at hu
  · exact ax hu
  · exact hu.elim
 case boxk s =>
  refine bx (fun v hv=>?_) h
  split at hv
  · exact ax hv
  · exact hv.elim
 case callm f args ks =>
  refine bx (fun fv hv=>?_) h
  cases fv <;> try exact hv.elim
  rename_i t
  cases t <;> try exact hv.elim
  refine bx (fun vs hv=>ax ⟨hv.1,bx (fun y hy=>?_) hv.2⟩) hv
  obtain ⟨h0,ts',r,h1,h2,h3⟩:=hy
  obtain ⟨z,h4⟩:=bx (fun _ h=>bx (fun _ h=>h) h) h3
  exact ⟨z,h0,ts',r,h1,h2,h4⟩
 refine bx (fun a ha=>bx (fun n hn=>?_) ha) h
 split at hn
 · exact bx (fun _ h=>h) hn
 · exact hn.elim

theorem stepO_ex {β:Type} {G:Rl} {m:K} {o:O} {k:β→Env→Prop} {e:Env} (h:stepO G m o (fun e=>∃ r,k r e) e):∃ r,stepO G m o (k r) e:=by
 unfold stepO at *
 split
 · rename_i hg;simp only [hg] at h;exact stepQ_ex h
 · rename_i s b hg
   simp only [hg] at h
   split at h
   · split at h
     · rename_i h1;simp only [if_pos h1];exact stepQ_ex h
     · rename_i h1;simp only [if_neg h1];exact h
   · exact h
   · exact h.elim

theorem wpL_ex {β:Type} {G:Rl} {m:K}:∀ (l:List O) {k:β→Env→Prop} {e:Env},wpL G m l (fun e=>∃ r,k r e) e→∃ r,wpL G m l (k r) e
 | [],_,_,h=>h
 | _::l,k,_,h=>stepO_ex (k:=fun r=>wpL G m l (k r)) (stepO_mono (fun _ _ _ _ h=>h) (fun _ h=>wpL_ex l h) h)

theorem after_ex {β:Type} {n:β→Env→Prop} {R:β→X→Env→Prop}:∀ x e,X.after (fun e=>∃ r,n r e) (fun x e=>∃ r,R r x e) x e→∃ r,X.after (n r) (R r) x e
 | .nrm,_,h=>h
 | .ext _,_,h=>h
 | .ret,_,h=>h

theorem wp_ex {β:Type} {G:Rl} {m:K} (c:C):∀ {R:β→X→Env→Prop} {e:Env},wp G m c (fun x e=>∃ r,R r x e) e→∃ r,wp G m c (R r) e:=by
 induction c with
 | skip=>exact fun h=>h
 | region dr ops ks=>exact fun h=>wpL_ex ops h
 | seq a b iha ihb =>
  intro R e h
  exact iha (wp_mono (fun _ _ _ _ h=>h) a (fun x e hx=>after_ex x e (after_mono (fun _ h=>ihb h) (fun _ _ h=>h) x e hx)) h)
 | cond c a b iha ihb =>
  intro R e h
  refine bx (fun t ht=>?_) h
  cases t
  · exact ihb ht
  · exact iha ht
 | block id b ih =>
  intro R e h
  refine ih (wp_mono (fun _ _ _ _ h=>h) b (fun x e hx=>?_) h)
  cases x
  · exact hx
  · simp only [X.out] at hx ⊢
    split at hx
    · rename_i h1;simp only [if_pos h1];exact hx
    · rename_i h1;simp only [if_neg h1];exact hx
  · exact hx
 | loop b ih =>
  intro R e h
  refine h (fun e=>∃ r,wp G m (.loop b) (R r) e) fun e he=>?_
  obtain ⟨r,hr⟩:=ih (R:=fun r=>X.after (wp G m (.loop b) (R r)) (R r)) (wp_mono (fun _ _ _ _ h=>h) b (fun x e hx=>after_ex x e hx) he)
  exact ⟨r,wpLoop_round hr⟩
 | exit id=>exact fun h=>h
 | ret=>exact fun h=>h
 | stuck=>exact fun h=>h.elim

theorem Call.find {α:Type} {pg:Pg} {f:Nat} {args:List T} {fn:F} {r:α→T} {Q:α→Prop} (hf:pg.fn f=some fn) (hn:fn.np=args.length) (hl:T.noOwnL args=true)
 (h:wp (Call pg) .fresh fn.body (fun x e=>∃ l,Q l∧post fn.rs args args (r l) x e) (init args)):∃ l,Q l∧Call pg f args args (r l):=by
 obtain ⟨⟨l,hq⟩,hl2⟩:=wp_ex (β:={ l // Q l }) (R:=fun l x e=>post fn.rs args args (r l.1) x e) fn.body (wp_mono (fun _ _ _ _ h=>h) _ (fun _ _ ⟨l,hq,hp⟩=>⟨⟨l,hq⟩,hp⟩) h)
 exact ⟨l,hq,Call.intro hf hn hl hl2⟩
end Go.Mch
namespace Go.Mch

def S_indexIn (pg:Pg) (n:Nat):Prop:=∀ (xs:List Int) (v:Int),xs.length≤1048576→Call pg n [ix xs,I v] [ix xs,I v] (I (ixOf xs v))
theorem t_slicesIndex {pg:Pg} (hp:pg.fn 384=some c_slices_Index___int64_int64_):S_indexIn pg 384:=by
 intro xs v hl
 refine Call.intro hp rfl (by simp) ?_
 show wp _ _ c_slices_Index___int64_int64_.body (post [.t 4] _ _ _) _
 simp [c_slices_Index___int64_int64_]
 refine wpLoop_count (fun k e=>(∀ i (h:i<xs.length),i<k→xs[i]≠v)∧e=fr [(0,some (.val (ix xs))),(1,some (.val (I v))),(7,some (.val (I xs.length))),(8,some (.val (I k)))]) xs.length ?_ ?_ 0 _ (by omega) ?_
 · rintro k e hk ⟨h1,rfl⟩
   by_cases hm:xs[k]=v
   · have:=ixOf_at hk (fun i hi=>h1 i (by omega) hi) hm
     simp [hk,hm,this]
   · have hm2:¬v=xs[k]:=fun h=>hm h.symm
     simp [hk,hm2]
     refine ⟨by omega,fun i hi hik=>?_⟩
     rcases Nat.lt_or_ge i k with h2 | h2
     · exact h1 i hi h2
     · have:i=k:=by omega
       subst this;exact hm
 · rintro e ⟨h1,rfl⟩
   have:=ixOf_none (xs:=xs) (n:=v) (fun i hi=>h1 i hi hi)
   simp [this]
 · simp
theorem t_indexIn {pg:Pg} (hp:pg.fn 287=some c_impl_indexIn) (h384:S_indexIn pg 384):S_indexIn pg 287:=by
 intro xs v hl
 refine Call.intro hp rfl (by simp) ?_
 show wp _ _ c_impl_indexIn.body (post [.t 4] _ _ _) _
 have:=ixOf_le xs v
 simp [c_impl_indexIn]
 refine callR (h384 xs v hl) rfl rfl (fun _=>rfl) ?_
 simp

end Go.Mch
namespace Go.Mch

def uniqs (xs:List Int):List Int:=xs.foldl (fun s x=>if x∈s then s else s++[x]) []
def renum (xs:List Int):List Int:=(List.range xs.length).map fun k=>ixOf (uniqs (xs.take (k+1))) (xs.getD k 0)
end Go.Mch
namespace Go.Mch

theorem frzL_rows (k:K) (t:List (List Int)):T.frzL k (rows t)=t.map fun xs=>.mem k (some 1) (xs.map I):=by
 have hI:∀ xs:List Int,T.frzL k (xs.map I)=xs.map I:=fun xs=>by
  induction xs with
  | nil=>rfl
  | cons x xs ih=>simp [ih]
 induction t with
 | nil=>rfl
 | cons r t ih =>
  show T.frz k _::T.frzL k (rows t)=_
  rw [ih]
  simp [hI]

end Go.Mch
namespace Go.Mch

def greatest (xs:List Int):Int:=xs.foldl (fun a x=>if a≤x then x+1 else a) 0
def eqv (a b:List (List Int)) (i j:Nat):Prop:=a.getD i []=a.getD j []∧b.getD i []=b.getD j []
instance (a b:List (List Int)) (i j:Nat):Decidable (eqv a b i j):=by unfold eqv;infer_instance
def lab (a b:List (List Int)) (i:Nat):Nat:=((List.range i).find? fun j=>decide (eqv a b i j)).getD i
def classes (f s:List (List Int)):List Int:=renum ((List.range f.length).map fun i=>(lab f (turnL s) i:Int))
def idL (n:Nat):List Int:=(List.range n).map fun i:Nat=>(i:Int)
@[simp] theorem idL_length (n:Nat):(idL n).length=n:=by simp [idL]
theorem idL_succ (n:Nat):idL (n+1)=idL n++[(n:Int)]:=by simp [idL,List.range_succ]

end Go.Mch
namespace Go.Mch

structure Nd (n:Nat) (σ τ:Nat→Nat→Nat):Prop where
 rs:∀ x y,x<n→y<n→σ x y<n
 rt:∀ x y,x<n→y<n→τ x y<n
 is:∀ x y y',x<n→y<n→y'<n→σ x y=σ x y'→y=y'
 it:∀ x y y',x<n→y<n→y'<n→τ x y=τ x y'→y=y'
 ss:∀ x w,x<n→w<n→∃ y,y<n∧σ x y=w
 st:∀ x w,x<n→w<n→∃ y,y<n∧τ x y=w
 e1:∀ x y z,x<n→y<n→z<n→σ (σ x y) (σ (τ y x) z)=σ x (σ y z)
 e2:∀ x y z,x<n→y<n→z<n→τ (σ (τ y x) z) (σ x y)=σ (τ (σ y z) x) (τ z y)
 e3:∀ x y z,x<n→y<n→z<n→τ z (τ y x)=τ (τ z y) (τ (σ y z) x)

def Alk (n:Nat) (σ τ:Nat→Nat→Nat) (x x':Nat):Prop:=∀ y,y<n→σ x y=σ x' y∧τ x y=τ x' y
structure Quo (n m:Nat) (σ τ:Nat→Nat→Nat) (c d:Nat→Nat):Prop where
 cm:∀ x,x<n→c x<m
 dn:∀ i,i<m→d i<n
 cd:∀ i,i<m→c (d i)=i
 ca:∀ x x',x<n→x'<n→(c x=c x'↔Alk n σ τ x x')
end Go.Mch
namespace Go.Mch

def plK (xs:List Int) (P:Int→Bool) (k:Nat):List Int:=((List.range k).filter fun i=>P (xs.getD i 0)).map fun i:Nat=>(i:Int)
def pl (xs:List Int) (P:Int→Bool):List Int:=plK xs P xs.length
end Go.Mch
namespace Go.Mch

def σN (f:List (List Int)) (x y:Nat):Nat:=(v2 f x y).toNat
def τN (s:List (List Int)) (y x:Nat):Nat:=(v2 s x y).toNat
theorem PM.v2f {f s:List (List Int)} (h:PM f s) (x y:Nat):((σN f x y:Nat):Int)=v2 f x y∧σN f x y<f.length:=by
 have h1:=h.tf.nonneg x y
 have h2:=h.tf.lt h.pos x y
 unfold σN
 omega
theorem PM.v2s {f s:List (List Int)} (h:PM f s) (x y:Nat):((τN s y x:Nat):Int)=v2 s x y∧τN s y x<f.length:=by
 have h1:=h.ts.nonneg x y
 have h2:=h.ts.lt (by rw [h.len];exact h.pos) x y
 rw [h.len] at h2
 unfold τN
 omega
theorem surj_of_inj {n:Nat} {g:Nat→Nat} (hr:∀ y,y<n→g y<n) (hi:∀ y y',y<n→y'<n→g y=g y'→y=y'):∀ w,w<n→∃ y,y<n∧g y=w:=by
 intro w hw
 apply Classical.byContradiction
 intro hno
 have hnd:(w::(List.range n).map g).Nodup:=by
  rw [List.nodup_cons]
  constructor
  · intro hm
    obtain ⟨y,hy,he⟩:=List.mem_map.1 hm
    exact hno ⟨y,by simpa using hy,he⟩
  · rw [List.Nodup,List.pairwise_map]
    refine (List.nodup_range (n:=n)).imp_of_mem ?_
    intro a b ha hb hab he
    exact hab (hi a b (by simpa using ha) (by simpa using hb) he)
 have:=len_le_of_sub (w::(List.range n).map g) (List.range n) hnd fun x hx=>by
  rcases List.mem_cons.1 hx with rfl | hx
  · simpa using hw
  · obtain ⟨y,hy,rfl⟩:=List.mem_map.1 hx
    simpa using hr y (by simpa using hy)
 simp at this
 omega


end Go.Mch
namespace Go.Mch


def S_heldRack (pg:Pg):Prop:=∀ (o:Option (List (List Int))) (k:Int),smallT (lso o)→0≤k→k≤2305843009213693952→heldL (lso o) k≤4611686018427387904→Call pg 149 [.agg [eT o],I k] [.agg [eT o],I k] (I (if heldL (lso o) k<0 then -1 else heldL (lso o) k))
end Go.Mch
namespace Go.Mch

@[simp] theorem isPrefixOf_cons2 (a b:Nat) (as bs:List Nat):(a::as).isPrefixOf (b::bs)=(a == b&&as.isPrefixOf bs):=rfl

def eS:Option (List (List Int)×List (List Int))→T
 | none=>.agg [nil,nil]
 | some (X,Y)=>sol X Y

def S_heldSol (pg:Pg):Prop:=∀ (o o':Option (List (List Int))) (k m:Int),smallT (lso o)→smallT (lso o')→0≤k→k≤1152921504606846976→0≤heldL (lso o) k→heldL (lso o) k≤1152921504606846976→heldL (lso o') (heldL (lso o) k)=m→0≤m→Call pg 172 [.agg [eT o,eT o'],I k] [.agg [eT o,eT o'],I k] (I m)
end Go.Mch
namespace Go.Mch


def S_sol1 (pg:Pg) (n:Nat) (snd:Bool):Prop:=∀ (x y g1 g2:Int) (f:Nat) (caps:List T),T.eryL .old caps=caps→T.noOwnL caps=true→Call pg f (I x::I y::caps) (I x::I y::caps) (.tup [I g1,I g2]) →
 Call pg n [I x,I y,.mem .old none [.fn f caps]] [I x,I y,.mem .old none [.fn f caps]] (I (if snd then g2 else g1))
theorem t_solutionBy1 {pg:Pg} (hp:pg.fn 391=some c_impl_solutionBy_1):S_sol1 pg 391 false:=by
 intro x y g1 g2 f caps hc1 hc2 hc
 refine Call.intro hp rfl (by simp [hc2]) ?_
 show wp _ _ c_impl_solutionBy_1.body (post [.t 5] _ _ _) _
 simp [c_impl_solutionBy_1]
 refine callR (by simpa [hc1] using hc) rfl rfl (fun _=>by simp) ?_
 simp [hc2]
theorem t_solutionBy2 {pg:Pg} (hp:pg.fn 392=some c_impl_solutionBy_2):S_sol1 pg 392 true:=by
 intro x y g1 g2 f caps hc1 hc2 hc
 refine Call.intro hp rfl (by simp [hc2]) ?_
 show wp _ _ c_impl_solutionBy_2.body (post [.t 5] _ _ _) _
 simp [c_impl_solutionBy_2]
 refine callR (by simpa [hc1] using hc) rfl rfl (fun _=>by simp) ?_
 simp [hc2]
def S_solBy (pg:Pg):Prop:=∀ (n:Nat) (g1 g2:Nat→Nat→Int) (f:Nat) (caps:List T),n≤1048576→T.eryL .old caps=caps→T.noOwnL caps=true →
 (∀ x y:Nat,x<n→y<n→Call pg f (I x::I y::caps) (I x::I y::caps) (.tup [I (g1 x y),I (g2 x y)])) →
 Call pg 308 [I n,.fn f caps] [I n,.fn f caps] (.agg [.mem .own (some 1) (rows (tabL n g1)),.mem .own (some 1) (rows (tabL n g2))])
theorem t_solutionBy {pg:Pg} (hp:pg.fn 308=some c_impl_solutionBy) (h376:S_tableBy pg) (h391:S_sol1 pg 391 false) (h392:S_sol1 pg 392 true):S_solBy pg:=by
 intro n g1 g2 f caps hn hc1 hc2 hc
 refine Call.intro hp rfl (by simp [hc2]) ?_
 show wp _ _ c_impl_solutionBy.body (post [.cell 4 (some 2)] _ _ _) _
 simp [c_impl_solutionBy,hc1,hc2]
 have k1:∀ x y:Nat,x<n→y<n→Call pg 391 (I x::I y::[.mem .old none [.fn f caps]]) (I x::I y::[.mem .old none [.fn f caps]]) (I (g1 x y)):=fun x y hx hy=>h391 x y (g1 x y) (g2 x y) f caps hc1 hc2 (hc x y hx hy)
 have k2:∀ x y:Nat,x<n→y<n→Call pg 392 (I x::I y::[.mem .old none [.fn f caps]]) (I x::I y::[.mem .old none [.fn f caps]]) (I (g2 x y)):=fun x y hx hy=>h392 x y (g1 x y) (g2 x y) f caps hc1 hc2 (hc x y hx hy)
 refine callR (h376 n g1 391 [.mem .old none [.fn f caps]] hn (by simp [hc1]) (by simp [hc2]) k1) rfl rfl (fun _=>by simp) ?_
 simp [hc1,hc2]
 refine callR (h376 n g2 392 [.mem .old none [.fn f caps]] hn (by simp [hc1]) (by simp [hc2]) k2) rfl rfl (fun _=>by simp) ?_
 simp [hc2]



end Go.Mch
namespace Go.Mch

def cmpI (a b:Int):Int:=if a<b then -1 else if b<a then 1 else 0
def cmpW {α:Type} (c:α→α→Int):List α→List α→Int
 | [],[]=>0
 | [],_::_=>-1
 | _::_,[]=>1
 | a::as,b::bs=>if c a b≠0 then c a b else cmpW c as bs
theorem cmpI_zero (a b:Int):cmpI a b=0↔a=b:=by
 unfold cmpI
 constructor
 · intro h
   split at h
   · omega
   · split at h <;> omega
 · rintro rfl;simp
theorem cmpW_zero {α:Type} {c:α→α→Int} (hc:∀ a b,c a b=0↔a=b):∀ as bs:List α,cmpW c as bs=0↔as=bs
 | [],[]=>by simp [cmpW]
 | [],_::_=>by simp [cmpW]
 | _::_,[]=>by simp [cmpW]
 | a::as,b::bs=>by
  have ih:=cmpW_zero hc as bs
  unfold cmpW
  by_cases h:c a b=0
  · have:=(hc a b).1 h
    subst this
    simp [h,ih]
  · have:a≠b:=fun he=>h ((hc a b).2 he)
    simp [h,this]
abbrev cmpL:List Int→List Int→Int:=cmpW cmpI
theorem cmpL_zero (a b:List Int):cmpL a b=0↔a=b:=cmpW_zero cmpI_zero a b
theorem cmpW_drop {α:Type} {c:α→α→Int} {a b:List α} {i:Nat} (ha:i<a.length) (hb:i<b.length):cmpW c (a.drop i) (b.drop i)=if c a[i] b[i]≠0 then c a[i] b[i] else cmpW c (a.drop (i+1)) (b.drop (i+1)):=by
 rw [List.drop_eq_getElem_cons ha,List.drop_eq_getElem_cons hb,cmpW]
theorem cmpW_end {α:Type} {c:α→α→Int} {a b:List α} {i:Nat} (ha:i<a.length) (hb:¬i<b.length):cmpW c (a.drop i) (b.drop i)=1:=by
 rw [List.drop_eq_getElem_cons ha,List.drop_of_length_le (by omega:b.length≤i),cmpW]
theorem cmpW_last {α:Type} {c:α→α→Int} {a b:List α}:cmpW c (a.drop a.length) (b.drop a.length)=if a.length<b.length then -1 else 0:=by
 rw [List.drop_length]
 split
 · rename_i h;rw [List.drop_eq_getElem_cons h,cmpW]
 · rename_i h;rw [List.drop_of_length_le (by omega:b.length≤a.length),cmpW]

end Go.Mch
namespace Go.Mch

def atV (k:Env→Prop) (e:Env) (d:Option Nat) (n:Int):V→Prop
 | .val (.sc (.string s))=>bindP (if 0≤n then s[n.toNat]? else none) fun b=>k (e.setD d (.val (.sc (.int .u8 b.toNat))))
 | _=>False
section
variable (G:Rl) (m:K) (d:Option Nat) (k:Env→Prop) (e:Env)
@[simp ↓,simp] theorem asgV_same (r:Nat):asgV e d k (.same r)=bindP (e.take (.same r)) fun y=>k (y.2.setD d (.val y.1)):=rfl
@[simp ↓,simp] theorem atV_str (n:Int) (s:ByteArray):atV k e d n (.val (.sc (.string s)))=bindP (if 0≤n then s[n.toNat]? else none) fun b=>k (e.setD d (.val (.sc (.int .u8 b.toNat)))):=rfl
end

theorem cmpI_neg (a b:Int):cmpI b a=- cmpI a b:=by
 unfold cmpI
 split
 · rw [if_neg (by omega)]
 · split <;> rfl
theorem cmpL_neg:∀ a b:List Int,cmpL b a=- cmpL a b
 | [],[]=>rfl
 | [],_::_=>rfl
 | _::_,[]=>rfl
 | a::as,b::bs=>by
  have ih:=cmpL_neg as bs
  have h:=cmpI_neg a b
  simp only [cmpW]
  by_cases hz:cmpI a b=0
  · have hz2:cmpI b a=0:=by omega
    simp only [hz,hz2,ne_eq,not_true_eq_false,if_false]
    exact ih
  · have hz2:cmpI b a≠0:=by omega
    simp only [ne_eq,hz,hz2,not_false_eq_true,if_true]
    exact h
theorem cmpI_lt {a b:Int}:cmpI a b<0↔a<b:=by
 unfold cmpI
 by_cases h:a<b
 · simp [h]
 · by_cases h2:b<a
   · simp [h,h2]
   · simp [h,h2]
theorem cmpL_trans:∀ a b c:List Int,cmpL a b<0→cmpL b c<0→cmpL a c<0
 | [],[],_,h,_=>by simp [cmpW] at h
 | [],_::_,[],_,h=>by simp [cmpW] at h
 | [],_::_,_::_,_,_=>by simp [cmpW]
 | _::_,[],_,h,_=>by simp [cmpW] at h
 | _::_,_::_,[],_,h=>by simp [cmpW] at h
 | a::as,b::bs,c::cs,h1,h2=>by
  have ih:=cmpL_trans as bs cs
  simp only [cmpW] at h1 h2 ⊢
  have z1:=cmpI_zero a b
  have z2:=cmpI_zero b c
  have l1:=@cmpI_lt a b
  have l2:=@cmpI_lt b c
  have l3:=@cmpI_lt a c
  have z3:=cmpI_zero a c
  by_cases e1:cmpI a b=0
  · have:=z1.1 e1
    subst this
    by_cases e2:cmpI a c=0
    · simp [e1,e2] at h1 h2 ⊢
      exact ih h1 h2
    · simp only [ne_eq,e2,not_false_eq_true,if_true] at h2 ⊢
      exact h2
  · by_cases e2:cmpI b c=0
    · have:=z2.1 e2
      subst this
      simp only [ne_eq,e1,not_false_eq_true,if_true] at h1 ⊢
      exact h1
    · simp only [ne_eq,e1,e2,not_false_eq_true,if_true] at h1 h2
      have:cmpI a c<0:=l3.2 (by have:=l1.1 h1;have:=l2.1 h2;omega)
      rw [if_pos (by omega)]
      exact this
def Srt (X:List (List Int)):Prop:=X.Pairwise fun a b=>cmpL a b<0
theorem Srt.lt {X:List (List Int)} (h:Srt X) {i j:Nat} (hj:j<X.length) (hij:i<j):cmpL (X[i]'(by omega)) X[j]<0 :=
 List.pairwise_iff_getElem.1 h i j (by omega) hj hij
def S_less (pg:Pg):Prop:=∀ a b:List Int,a.length≤1048576→Call pg 408 [ix a,ix b] [ix a,ix b] (B (decide (cmpL a b<0)))
theorem t_l01Less {pg:Pg} (hp:pg.fn 408=some c_spec_l01Less):S_less pg:=by
 intro a b hl
 refine Call.intro hp rfl (by simp) ?_
 show wp _ _ c_spec_l01Less.body (post [.t 4] _ _ _) _
 simp [c_spec_l01Less]
 refine wpLoop_lower (α:=Nat) (fun i=>a.length-i) (fun i e=>(i≤a.length∧i≤b.length∧cmpL a b=cmpL (a.drop i) (b.drop i))∧e=fr [(0,some (.val (ix a))),(1,some (.val (ix b))),(5,some (.val (I i)))]) ?_ 0 _ ⟨⟨by omega,by omega,by simp⟩,by simp⟩
 rintro i e ⟨⟨g1,g2,g⟩,rfl⟩
 rw [g]
 have hd:=fun ha hb=>cmpW_drop (c:=cmpI) (a:=a) (b:=b) (i:=i) ha hb
 have hnext:∀ ha hb,cmpI (a[i]'ha) (b[i]'hb)=0→cmpL a b=cmpL (a.drop (i+1)) (b.drop (i+1)):=fun ha hb hz=>by
  rw [g,show cmpL (a.drop i) (b.drop i)=_ from hd ha hb]
  simp [hz]
 clear g
 by_cases ha:i<a.length
 · by_cases hb:i<b.length
   · rw [show cmpL (a.drop i) (b.drop i)=_ from hd ha hb]
     clear hd hnext
     have z:=cmpI_zero a[i] b[i]
     have l:=@cmpI_lt a[i] b[i]
     by_cases hc:a[i]=b[i]
     · have hz:=z.2 hc
       rw [hc] at hz
       simp [ha,hb,hc]
       exact ⟨by omega,i+1,by omega,⟨by omega,by omega,by simp [hz]⟩,by simp⟩
     · have hz:cmpI a[i] b[i]≠0:=fun hh=>hc (z.1 hh)
       simp [ha,hb,hc,hz,l]
   · have hbl:b.length=i:=by omega
     have:cmpL (a.drop i) (b.drop i)=1:=cmpW_end ha hb
     rw [this]
     clear hd hnext
     have:¬a.length<b.length:=by omega
     have h2:¬(a.length:Int)<b.length:=by omega
     have h3:b.length≤a.length:=by omega
     simp [ha,hbl]
     omega
 · have hal:i=a.length:=by omega
   subst hal
   rw [show cmpL (a.drop a.length) (b.drop a.length)=_ from cmpW_last]
   clear hd hnext
   by_cases h:a.length<b.length
   · simp [h,undefV]
   · simp [h,undefV]
end Go.Mch
namespace Go.Mch

def gt (X:List (List Int)) (k:Nat):List Int:=X.getD k []
theorem gt_at {X:List (List Int)} {k:Nat} (h:k<X.length):X[k]=gt X k:=by simp [gt,h]
def tau (i j k:Nat):Nat:=if k=j then i else if k=i then j else k
def swL (X:List (List Int)) (i j:Nat):List (List Int):=(X.set i (gt X j)).set j (gt X i)
def Dj (X:List (List Int)):Prop:=∀ k k',k<X.length→k'<X.length→gt X k=gt X k'→k=k'
def bef (x y:List Int):Prop:=cmpL x y<0
instance (x y:List Int):Decidable (bef x y):=by unfold bef;infer_instance
structure PI (X Y:List (List Int)) (a b:Nat):Prop where
 len:Y.length=X.length
 out:∀ k,k<a∨b≤k→gt Y k=gt X k
 fwd:∀ k,a≤k→k<b→∃ k',a≤k'∧k'<b∧gt Y k=gt X k'
 bwd:∀ k,a≤k→k<b→∃ k',a≤k'∧k'<b∧gt X k=gt Y k'
 dj:Dj Y
def SI (X:List (List Int)) (a b:Nat):Prop:=∀ p q,a≤p→p<q→q<b→bef (gt X p) (gt X q)
def SJ (X:List (List Int)) (a j i:Nat):Prop:=∀ p q,a≤p→p<q→q<i→q≠j→bef (gt X p) (gt X q)
end Go.Mch
namespace Go.Mch

def Sm (X:List (List Int)):Prop:=X.length≤1000000∧∀ k,(gt X k).length≤1048576
def postX {α:Type} (Q:α→Prop) (rs:List RV) (args:List T) (args':α→List T) (r:α→T):X→Env→Prop:=fun x e=>∃ l,Q l∧post rs args (args' l) (r l) x e
theorem Call.findA {α:Type} {pg:Pg} {f:Nat} {args:List T} {fn:F} {args':α→List T} {r:α→T} {Q:α→Prop} (hf:pg.fn f=some fn) (hn:fn.np=args.length) (hl:fn.lets args=true) (hk:kindOf args=.old)
 (h:wp (Call pg) .old fn.body (postX Q fn.rs args args' r) (init args)):∃ l,Q l∧Call pg f args (args' l) (r l):=by
 obtain ⟨⟨l,hq⟩,hl2⟩:=wp_ex (β:={ l // Q l }) (R:=fun l x e=>post fn.rs args (args' l.1) (r l.1) x e) fn.body (wp_mono (fun _ _ _ _ h=>h) _ (fun _ _ ⟨l,hq,hp⟩=>⟨⟨l,hq⟩,hp⟩) h)
 exact ⟨l,hq,Call.intro_own hf hn hl (by rw [hk];exact hl2)⟩
def ExY (P:List (List Int)→Prop):Prop:=∃ Q,P Q

end Go.Mch
namespace Go.Mch

def chd (c p:Nat):Prop:=c=2*p+1∨c=2*p+2
def Hp (X:List (List Int)) (f lo hi:Nat):Prop:=∀ p c,lo≤p→chd c p→c<hi→¬bef (gt X (f+p)) (gt X (f+c))
def HpR (X:List (List Int)) (f lo hi r:Nat):Prop:=(∀ p c,lo≤p→p≠r→chd c p→c<hi→¬bef (gt X (f+p)) (gt X (f+c)))∧∀ q c,lo≤q→chd r q→chd c r→c<hi→¬bef (gt X (f+q)) (gt X (f+c))
def Big (X:List (List Int)) (f hi r d:Nat):Prop:=chd d r∧d<hi∧∀ c,chd c r→c<hi→¬bef (gt X (f+d)) (gt X (f+c))

end Go.Mch
namespace Go.Mch

theorem wr64 {n:Nat} (h:n≤100000000):IntKind.i64.wrap (n:Int)=n:=by
 have h1:(n:Int) % 18446744073709551616=n:=by omega
 show (if (true&&decide ((n:Int) % 18446744073709551616≥9223372036854775808))=true then _ else (n:Int) % 18446744073709551616)=_
 rw [h1,if_neg (by simp;omega)]
theorem wru {a:Int} (h0:0≤a) (h:a<18446744073709551616):IntKind.u64.wrap a=a:=by
 show a % 18446744073709551616=a
 omega

end Go.Mch
namespace Go.Mch

abbrev Y8 (x:Int):T:=.sc (.int .u8 x)
abbrev H64 (x:Int):T:=.sc (.int .u64 x)
def rawB:Rw Int→T
 | .no=>nil
 | .odd a=>.sc (.slice (some a) 0 0)
 | .of xs=>.mem .old (some 1) (xs.map Y8)
@[simp] theorem noOwnL_mapU (xs:List Int):T.noOwnL (xs.map Y8)=true:=by
 induction xs with
 | nil=>rfl
 | cons x xs ih=>simp [ih]
@[simp] theorem eryL_mapU (k:K) (xs:List Int):T.eryL k (xs.map Y8)=xs.map Y8:=by
 induction xs with
 | nil=>rfl
 | cons x xs ih=>simp [ih]
@[simp] theorem lendL_mapU (xs:List Int):T.lendL (xs.map Y8)=xs.map Y8:=by
 induction xs with
 | nil=>rfl
 | cons x xs ih=>simp [ih]
@[simp] theorem rawB_noOwn (a:Rw Int):(rawB a).noOwn=true:=by cases a <;> simp [rawB]
@[simp] theorem rawB_peek (a:Rw Int) (n:Nat) (p:List Nat):(rawB a).peek n p=.val (rawB a):=by cases a <;> rfl
@[simp] theorem rawB_ery (a:Rw Int):(rawB a).ery .old=rawB a:=by cases a <;> simp [rawB]
@[simp] theorem rawB_lend (a:Rw Int):(rawB a).lend=rawB a:=by cases a <;> simp [rawB]
@[simp] theorem rawB_len (a:Rw Int):lenV (.val (rawB a))=some (lst a).length:=by cases a <;> simp [rawB]
@[simp] theorem rawB_isCell (a:Rw Int):(rawB a).isCell=true:=by cases a <;> rfl
@[simp] theorem fillV_rawB (vs:List V) (i n:Nat) (c:Rw Int) (r:List (Nat×Nat×V)):fillV vs ((i,n,.val (rawB c))::r)=if n=1∧i+n≤vs.length then fillV (vs.take i++[.val (rawB c)]++vs.drop (i+n)) r else none:=by cases c <;> rfl
@[simp] theorem rawB_idx (a:Rw Int) (i:Int):idxV 1 (.val (rawB a)) i=if 0≤i∧i<((lst a).length:Int) then some (.val (.mem .old none (win ((lst a).map Y8) (i.toNat*1) 1))) else none:=by
 cases a with
 | no =>
  simp only [rawB,idxV,lst_no,List.length_nil,List.map_nil]
  rw [if_neg]
  omega
 | odd ad =>
  simp only [rawB,idxV,lst_odd,List.length_nil,List.map_nil]
  rw [if_neg]
  omega
 | of xs=>simp [rawB]

@[simp] theorem arith_u64 (n:Int):arith .u64 n=some (.int .u64 (IntKind.u64.wrap n)):=by rw [arith,if_neg (by decide)]

abbrev src (c:Rw Int) (s:Int×Int):T:=.mem .own none [rawB c,I s.1,H64 s.2]
def okB (c:Rw Int):Prop:=(lst c).length≤1048576∧∀ x∈lst c,0≤x∧x<256
def Sr (c:Rw Int) (s:Int×Int):Prop:=okB c∧0≤s.1∧s.1≤(lst c).length

theorem and24 (a:Nat):∃ y:Nat,y≤16777215∧IntKind.i64.wrap (IntKind.u64.wrap ((a &&& 16777215 % 2 ^ IntKind.u64.bits:Nat):Int))=(y:Int):=by
 have h:a &&& 16777215 % 2 ^ IntKind.u64.bits≤16777215:=by
  show a &&& 16777215 % 2 ^ 64≤16777215
  exact Nat.le_trans Nat.and_le_right (by decide)
 refine ⟨_,h,?_⟩
 rw [wru (by omega) (by omega),wr64 (by omega)]
def S_nxt (pg:Pg):Prop:=∀ (c:Rw Int) (s:Int×Int) (n:Int),Sr c s→∃ (s':Int×Int) (r:Int),(Sr c s'∧0≤r∧(1≤n→r<n)∧(n<1→r=0))∧Call pg 336 [src c s,I n] [src c s',I n] (I r)
set_option maxRecDepth 10000 in
theorem t_nxt {pg:Pg} (hp:pg.fn 336=some c_spec_l01Next):S_nxt pg:=by
 intro c s n hs
 have hfind:=Call.findA (α:=(Int×Int)×Int) (Q:=fun Y=>Sr c Y.1∧0≤Y.2∧(1≤n→Y.2<n)∧(n<1→Y.2=0)) (args:=[src c s,I n]) (args':=fun Y=>[src c Y.1,I n]) (r:=fun Y=>I Y.2) hp rfl (by simp [F.lets,c_spec_l01Next,List.range,List.range.loop]) (by simp [kindOf]) ?_
 · obtain ⟨Y,h1,h2⟩:=hfind
   exact ⟨_,_,h1,h2⟩
 show wp _ _ c_spec_l01Next.body (postX _ [.t 4] _ _ _) _
 generalize hR:postX (fun Y:(Int×Int)×Int=>Sr c Y.1∧0≤Y.2∧(1≤n→Y.2<n)∧(n<1→Y.2=0)) [.t 4] [src c s,I n] (fun Y=>[src c Y.1,I n]) (fun Y=>I Y.2)=R
 obtain ⟨a,h⟩:=s
 obtain ⟨hc,ha,hl⟩:=hs
 have hb:=hc.1
 simp only at ha hl
 by_cases hn:n<1
 · simp [c_spec_l01Next,hn]
   subst hR
   exact ⟨((a,h),0),⟨⟨hc,ha,hl⟩,by simp;omega⟩,by simp [post]⟩
 · simp [c_spec_l01Next,hn]
   generalize IntKind.u64.wrap (IntKind.u64.wrap (h*6364136223846793005)+1442695040888963407)=h'
   generalize (h'.fdiv (2 ^ min 33 IntKind.u64.bits) % 2 ^ IntKind.u64.bits).toNat=z
   obtain ⟨y,hy,e⟩:=and24 z
   have hn0:¬n=0:=by omega
   have hmod:∀ x:Int,0≤x→0≤x.tmod n∧x.tmod n<n:=fun x hx=>by
    rw [Int.tmod_eq_emod_of_nonneg hx]
    exact ⟨Int.emod_nonneg _ hn0,Int.emod_lt_of_pos _ (by omega)⟩
   rw [e]
   by_cases hlt:a<(lst c).length
   · obtain ⟨i,rfl⟩:∃ i:Nat,a=i:=⟨a.toNat,by omega⟩
     have hi:i<(lst c).length:=by omega
     have hx:=hc.2 _ (List.getElem_mem hi)
     have hw:IntKind.i64.wrap ((lst c)[i])=(lst c)[i]:=by
      obtain ⟨x,hx'⟩:∃ x:Nat,(lst c)[i]=x:=⟨((lst c)[i]).toNat,by omega⟩
      rw [hx',wr64 (by omega)]
     simp [hlt,hi,hn0,hw]
     subst hR
     have:=hmod (y+(lst c)[i]) (by omega)
     refine ⟨by omega,by omega,((i+1,h'),((y:Int)+(lst c)[i]).tmod n),⟨⟨hc,by simp only;omega,by simp only;omega⟩,by simp only;omega⟩,by simp [post]⟩
   · simp [hlt,hn0]
     subst hR
     have:=hmod y (by omega)
     exact ⟨((a,h'),(y:Int).tmod n),⟨⟨hc,ha,hl⟩,by simp only;omega⟩,by simp [post]⟩
theorem callS {G:Rl} {d:Option Nat} {k:Env→Prop} {e:Env} {n id:Nat} {ts us ts':List T} {r:T} (hc:G id (.mem .own none (T.lendL ts)::T.lendL us) (.mem .own none ts'::us) r) (hk:k ((e.over n (.mem .own none ts')).setD d (.val r))):callsP G d k e n id ts us:=⟨ts',r,hc,hk⟩
def S_pick (pg:Pg):Prop:=∀ (c:Rw Int) (s:Int×Int) (l:List Int),Sr c s→0<l.length→l.length≤1048576→∃ (s':Int×Int) (r:Int),(Sr c s'∧r∈l)∧Call pg 292 [src c s,ix l] [src c s',ix l] (I r)
set_option maxRecDepth 10000 in
theorem t_pick {pg:Pg} (hp:pg.fn 292=some c_spec_l01Pick) (h336:S_nxt pg):S_pick pg:=by
 intro c s l hs h0 hl
 obtain ⟨s',r,⟨g1,g2,g3,_⟩,hc⟩:=h336 c s l.length hs
 have g3:=g3 (by omega)
 obtain ⟨i,rfl⟩:∃ i:Nat,r=i:=⟨r.toNat,by omega⟩
 have hi:i<l.length:=by omega
 refine ⟨s',l[i],⟨g1,List.getElem_mem hi⟩,Call.intro_own hp rfl (by simp [F.lets,c_spec_l01Pick,List.range,List.range.loop]) ?_⟩
 show wp _ _ c_spec_l01Pick.body (post [.t 4] _ _ _) _
 simp [c_spec_l01Pick]
 refine callS (ts':=[rawB c,I s'.1,H64 s'.2]) (r:=I i) (by simpa using hc) ?_
 simp [hi]
def S_from (pg:Pg):Prop:=∀ c:Rw Int,okB c→∃ s:Int×Int,Sr c s∧Call pg 269 [rawB c] [rawB c] (src c s)
set_option maxRecDepth 10000 in
theorem t_from {pg:Pg} (hp:pg.fn 269=some c_spec_l01From):S_from pg:=by
 intro c hc
 have hb:=hc.1
 have hfind:=Call.find (α:=Int×Int) (Q:=fun s=>Sr c s) (args:=[rawB c]) (r:=fun s=>src c s) hp rfl (by simp) ?_
 · exact hfind
 show wp _ _ c_spec_l01From.body (postX _ [.t 2] _ _ _) _
 generalize hR:postX (fun s:Int×Int=>Sr c s) [.t 2] [rawB c] (fun _=>[rawB c]) (fun s=>src c s)=R
 simp [c_spec_l01From]
 obtain ⟨m,m1,m2,m3⟩:∃ m:Nat,m≤(lst c).length∧m≤4096∧(m=(lst c).length∨m=4096):=by
  by_cases h1:(lst c).length≤4096
  · exact ⟨_,Nat.le_refl _,h1,.inl rfl⟩
  · exact ⟨4096,by omega,Nat.le_refl _,.inr rfl⟩
 refine wpLoop_count (fun k e=>∃ h:Int,e=fr [(0,some (.val (rawB c))),(3,some (.val (src c (0,h)))),(4,some (.val (I k)))]) m ?_ ?_ 0 _ (by omega) ⟨_,rfl⟩
 · rintro k e hk ⟨h,rfl⟩
   have k1:k<(lst c).length:=by omega
   have k2:(k:Int)<4096:=by omega
   simp [k1,k2]
   exact ⟨by omega,_,rfl⟩
 · rintro e ⟨h,rfl⟩
   have hok:Sr c (0,h):=⟨hc,by simp,by simp⟩
   by_cases h1:m=(lst c).length
   · subst h1
     simp [undefV]
     subst hR
     exact ⟨(0,h),hok,by simp [post]⟩
   · have h2:m=4096:=by omega
     subst h2
     have h3:(4096:Int)<(lst c).length:=by omega
     simp [h3]
     subst hR
     exact ⟨(0,h),hok,by simp [post]⟩
end Go.Mch
namespace Go.Mch

def zeroT (m k:Nat):List (List Int):=List.replicate k (List.replicate m 0)
def zT (m k:Nat):T:=if k=0 then nil else .mem .own (some 1) (rows (zeroT m k))
theorem zT_succ (m k:Nat):zT m (k+1)=.mem .own (some 1) (rows (zeroT m k)++[.mem .own (some 1) (List.replicate m (I 0))]):=by
 simp [zT,zeroT,List.replicate_succ',rows_append]
 simp [rows]
def S_empty (pg:Pg):Prop:=∀ m:Nat,0<m→m≤1000→Call pg 398 [I m] [I m] (.agg [.mem .own (some 1) (rows (zeroT m m)),.mem .own (some 1) (rows (zeroT m m))])
theorem t_l02Empty {pg:Pg} (hp:pg.fn 398=some c_spec_l02Empty):S_empty pg:=by
 intro m h0 hm
 refine Call.intro hp rfl (by simp) ?_
 show wp _ _ c_spec_l02Empty.body (post [.cell 2 (some 2)] _ _ _) _
 simp [c_spec_l02Empty]
 refine wpLoop_count (fun k e=>e=fr [(0,some (.val (I m))),(2,some (.val (.mem .own none [nil,nil]))),(3,some (.val (.mem .own none [zT m k,zT m k]))),(4,some (.val (I k)))]) m ?_ ?_ 0 _ (by omega) ?_
 · rintro k e hk rfl
   have hr:m≤roomy:=by unfold roomy;omega
   by_cases hk0:k=0
   · subst hk0
     have h1:1≤roomy:=by unfold roomy;omega
     rw [zT_succ]
     simp [hk,zT,zeroT,rows,hr,h1]
   · have hlen:(zeroT m k).length=k:=by simp [zeroT]
     have h1:k+1≤roomy:=by unfold roomy;omega
     rw [zT_succ]
     have hz:zT m k=.mem .own (some 1) (rows (zeroT m k)):=by simp [zT,hk0]
     rw [hz]
     generalize zeroT m k=Z at *
     simp [hk,hr,hlen,h1]
     omega
 · rintro e rfl
   have hz:zT m m=.mem .own (some 1) (rows (zeroT m m)):=by simp [zT];omega
   rw [hz]
   simp
 · simp [zT]

end Go.Mch
namespace Go.Mch

theorem rows_set2 {X:List (List Int)} {i j:Nat} {v:Int} (h:i<X.length):(rows X).set i (.mem .own (some 1) ((X[i].map I).set j (I v)))=rows (X.set i (X[i].set j v)):=by
 simp [rows,List.map_set]
end Go.Mch
namespace Go.Mch


def ascAt (xs:List Int) (k:Nat):Prop:=xs.getD k 0<xs.getD (k+1) 0
def asc (xs:List Int):Prop:=∀ k:Nat,k+1<xs.length→ascAt xs k
def isSetL (n:Int) (xs:List Int):Prop:=0<xs.length∧inR 0 (n-1) xs∧asc xs
end Go.Mch
namespace Go.Mch

def invQ (p:List Int) (x:Nat):Nat:=(ixOf p x).toNat
structure Pm (p:List Int):Prop where
 pm:isPermuted p
 pos:0<p.length
 sm:p.length≤12
theorem Pm.mem {p:List Int} (h:Pm p) {x:Nat} (hx:x<p.length):(x:Int)∈p :=
 ((perm_permuted (by have:=h.pos;omega) h.sm h.pm.1).2 h.pm).2.2 x hx
theorem Pm.lt {p:List Int} (h:Pm p) {x:Nat} (hx:x<p.length):invQ p x<p.length:=by
 have h1:=ixOf_le p x
 have h2:=(ixOf_mem p x).2 (h.mem hx)
 unfold invQ
 omega
theorem ixOf_getD:∀ (xs:List Int) (v:Int),0≤ixOf xs v→xs.getD (ixOf xs v).toNat 0=v:=by
 intro xs v
 induction xs with
 | nil=>intro h;simp [ixOf] at h
 | cons z xs ih =>
  intro h
  unfold ixOf at h ⊢
  by_cases hz:z=v
  · simp [hz]
  · rw [if_neg hz] at h ⊢
    by_cases hn:ixOf xs v<0
    · rw [if_pos hn] at h;omega
    · rw [if_neg hn]
      have:=ih (by omega)
      rw [show (ixOf xs v+1).toNat=(ixOf xs v).toNat+1 by omega]
      simpa using this
theorem Pm.at {p:List Int} (h:Pm p) {x:Nat} (hx:x<p.length):p.getD (invQ p x) 0=x :=
 ixOf_getD p x ((ixOf_mem p x).2 (h.mem hx))
theorem Pm.back {p:List Int} (h:Pm p) {i:Nat} (hi:i<p.length):invQ p (p[i]).toNat=i:=by
 have hr:=h.pm.1 _ (List.getElem_mem hi)
 have e:(((p[i]).toNat:Nat):Int)=p[i]:=by omega
 unfold invQ
 rw [e,ixOf_at hi (fun j hj he=>?_) rfl]
 · simp
 · have:=(List.getElem_inj h.pm.2).1 he
   omega
def invL (p:List Int):List Int:=(List.range p.length).map fun x=>(invQ p x:Int)
@[simp] theorem invL_length (p:List Int):(invL p).length=p.length:=by simp [invL]
def invK (p:List Int) (k:Nat):List Int:=(List.range p.length).map fun x=>if invQ p x<k then (invQ p x:Int) else 0
@[simp] theorem invK_length (p:List Int) (k:Nat):(invK p k).length=p.length:=by simp [invK]
theorem invK_zero (p:List Int):invK p 0=List.replicate p.length 0:=by
 apply List.ext_getElem
 · simp
 · intro i h1 h2;simp [invK]
theorem invK_last {p:List Int} (h:Pm p):invK p p.length=invL p:=by
 refine List.map_congr_left fun x hx=>?_
 rw [if_pos (h.lt (List.mem_range.1 hx))]
theorem invK_set {p:List Int} (h:Pm p) {k:Nat} (hk:k<p.length):(invK p k).set (p[k]).toNat k=invK p (k+1):=by
 have hr:=h.pm.1 _ (List.getElem_mem hk)
 apply List.ext_getElem
 · simp
 · intro x h1 h2
   have hx:x<p.length:=by simpa using h2
   simp only [List.getElem_set,invK,List.getElem_map,List.getElem_range]
   by_cases hxk:(p[k]).toNat=x
   · subst hxk
     rw [if_pos rfl,h.back hk,if_pos (by omega)]
   · rw [if_neg hxk]
     have hne:invQ p x≠k:=fun he=>by
      have:=h.at hx
      rw [he] at this
      simp [hk] at this
      omega
     by_cases hlt:invQ p x<k
     · rw [if_pos hlt,if_pos (by omega)]
     · rw [if_neg hlt,if_neg (by omega)]
def S_inv (pg:Pg) (n:Nat):Prop:=∀ p:List Int,Pm p→Call pg n [ix p] [ix p] (.mem .own (some 1) ((invL p).map I))
theorem t_l01Back {pg:Pg} (hp:pg.fn 304=some c_spec_l01Back):S_inv pg 304:=by
 intro p h
 have h12:=h.sm
 refine Call.intro hp rfl (by simp) ?_
 show wp _ _ c_spec_l01Back.body (post [.t 2] _ _ _) _
 simp [c_spec_l01Back]
 refine ⟨by unfold roomy;omega,?_⟩
 refine wpLoop_count (fun k e=>e=fr [(0,some (.val (ix p))),(3,some (.val (.mem .own (some 1) ((invK p k).map I)))),(4,some (.val (I k)))]) p.length ?_ ?_ 0 _ (by omega) ?_
 · rintro k e hk rfl
   have hr:=h.pm.1 _ (List.getElem_mem hk)
   have hl:=invK_length p k
   have hs:=invK_set h hk
   have ht:(p[k]).toNat<p.length:=by omega
   rw [← hs]
   generalize invK p k=K at *
   simp [hk,hr,ht,hl]
   omega
 · rintro e rfl
   simp [invK_last h]
 · simp [invK_zero]
theorem t_inverse {pg:Pg} (hp:pg.fn 307=some c_impl_inverse):S_inv pg 307:=by
 intro p h
 have h12:=h.sm
 refine Call.intro hp rfl (by simp) ?_
 show wp _ _ c_impl_inverse.body (post [.t 2] _ _ _) _
 simp [c_impl_inverse]
 refine ⟨by unfold roomy;omega,?_⟩
 refine wpLoop_count (fun k e=>e=fr [(3,some (.val (.mem .own (some 1) ((invK p k).map I)))),(9,some (.val (ix p))),(10,some (.val (I p.length))),(11,some (.val (I k)))]) p.length ?_ ?_ 0 _ (by omega) ?_
 · rintro k e hk rfl
   have hr:=h.pm.1 _ (List.getElem_mem hk)
   have hl:=invK_length p k
   have hs:=invK_set h hk
   have ht:(p[k]).toNat<p.length:=by omega
   rw [← hs]
   generalize invK p k=K at *
   simp [hk,hr,ht,hl]
   omega
 · rintro e rfl
   simp [invK_last h]
 · simp [invK_zero]


def imG (t:List (List Int)) (p:List Int) (x y:Nat):Int:=p.getD (v2 t (invQ p x) (invQ p y)).toNat 0
def imT (t:List (List Int)) (p:List Int):List (List Int):=tabL t.length (imG t p)
def S_image (pg:Pg) (n:Nat):Prop:=∀ (t:List (List Int)) (p:List Int),Tab t→Pm p→p.length=t.length→Call pg n [tb t,ix p] [tb t,ix p] (.mem .own (some 1) (rows (imT t p)))
end Go.Mch
namespace Go.Mch

def S_unit (pg:Pg):Prop:=∀ n:Nat,n≤1048576→Call pg 334 [I n] [I n] (.mem .own (some 1) ((idL n).map I))
theorem t_unit {pg:Pg} (hp:pg.fn 334=some c_spec_l01Unit):S_unit pg:=by
 intro n hn
 refine Call.intro hp rfl (by simp) ?_
 show wp _ _ c_spec_l01Unit.body (post [.t 2] _ _ _) _
 simp [c_spec_l01Unit]
 refine wpLoop_count (fun k e=>e=fr [(0,some (.val (I n))),(3,some (.val (.mem .own (some 1) ((idL k).map I)))),(4,some (.val (I k)))]) n ?_ ?_ 0 _ (by omega) ?_
 · rintro k e hk rfl
   simp [hk,roomy,idL_succ]
   omega
 · rintro e rfl
   simp
 · simp [idL]

end Go.Mch
namespace Go.Mch

def boxT:Option T→Bool
 | some (.mem _ none _)=>true
 | _=>false
@[simp] theorem boxT_mem (k:K) (ts:List T):boxT (some (.mem k none ts))=true:=rfl
@[simp] theorem whole_pref {e:Env} (r:Nat) (p:List Nat) (off:Nat):e.whole (.pref r p off)=(off == 0&&boxT (e.tree r p)):=by
 unfold Env.whole boxT
 rfl
@[simp] theorem hole_pref {e:Env} (r:Nat) (p:List Nat) (off:Nat):e.hole (.pref r p off)=e.isHole r p:=rfl
@[simp] theorem give_pref {e:Env} (r:Nat) (p:List Nat) (off:Nat) (t:T):e.give (.pref r p off) t=e.back1 r p t:=by cases t <;> rfl
end Go.Mch
namespace Go.Mch

structure PV (X Y:List (List Int)) (a b i j:Nat):Prop where
 pi:PI X Y a b
 l:∀ k,a<k→k<i→bef (gt Y k) (gt Y a)
 r:∀ k,j<k→k<b→¬bef (gt Y k) (gt Y a)
 h1:a<i
 h2:i≤j+1
 h3:j<b
def PtQ (X Y:List (List Int)) (a b m:Nat):Prop:=PI X Y a b∧a≤m∧m<b∧(∀ k,a≤k→k<m→bef (gt Y k) (gt Y m))∧∀ k,m<k→k<b→bef (gt Y m) (gt Y k)
section
variable {X Y:List (List Int)} {a b i j:Nat}
end
end Go.Mch
namespace Go.Mch

def Lb (X:List (List Int)) (a b:Nat):Prop:=a=0∨∀ k,a≤k→k<b→bef (gt X (a-1)) (gt X k)
end Go.Mch
namespace Go.Mch

def Cut (Y:List (List Int)) (m a b:Nat):Prop:=∀ p q,a≤p→p<m→m≤q→q<b→bef (gt Y p) (gt Y q)
section
variable {Y Z:List (List Int)} {m a b c d u v:Nat}
structure Fr (Y:List (List Int)) (a c d b:Nat):Prop where
 lo:SI Y a c
 hi:SI Y d b
 cl:Cut Y c a b
 ch:Cut Y d a b
 h1:a≤c
 h2:c≤d
 h3:d≤b
end

def cutP (P:Env→Prop) (R:X→Env→Prop) (x:X) (e:Env):Prop:=if x=.nrm then P e else R x e
theorem cutP_nrm {P:Env→Prop} {R:X→Env→Prop} {e:Env} (h:P e):cutP P R .nrm e:=by
 unfold cutP
 rw [if_pos rfl]
 exact h
theorem cutP_ret {P:Env→Prop} {R:X→Env→Prop} {e:Env} (h:R .ret e):cutP P R .ret e:=by
 unfold cutP
 rw [if_neg (by simp)]
 exact h
theorem wp_cut {G:Rl} {k:K} {A B:C} {R:X→Env→Prop} {e:Env} (P:Env→Prop) (h1:wp G k A (cutP P R) e) (h2:∀ e',P e'→wp G k B R e'):wp G k (.seq A B) R e:=by
 show wp G k A (X.after (wp G k B R) R) e
 refine wp_mono (fun _ _ _ _ h=>h) _ ?_ h1
 intro x e' hx
 unfold cutP at hx
 cases x with
 | nrm=>rw [if_pos rfl] at hx;exact h2 e' hx
 | ret=>rw [if_neg (by simp)] at hx;exact hx
 | ext i=>rw [if_neg (by simp)] at hx;exact hx
theorem wp_cut' {G:Rl} {k:K} {A B:C} {R:X→Env→Prop} {e:Env} (P:Env→Prop) (h1:∀ J:X→Env→Prop,(∀ e',P e'→J .nrm e')→(∀ e',R .ret e'→J .ret e')→wp G k A J e) (h2:∀ e',P e'→wp G k B R e'):wp G k (.seq A B) R e :=
 wp_cut P (h1 _ (fun _=>cutP_nrm) (fun _=>cutP_ret)) h2
end Go.Mch
namespace Go.Mch

theorem Srt.ins {X:List (List Int)} {w:List Int} {i:Nat} (h:Srt X) (h1:∀ j (hj:j<X.length),j<i→cmpL X[j] w<0) (h2:∀ j (hj:j<X.length),i≤j→cmpL w X[j]<0):Srt (X.take i++w::X.drop i):=by
 refine List.pairwise_append.2 ⟨h.sublist (List.take_sublist _ _),List.pairwise_cons.2 ⟨fun b hb=>?_,h.sublist (List.drop_sublist _ _)⟩,fun a ha b hb=>?_⟩
 · obtain ⟨k,hk,rfl⟩:=List.getElem_of_mem hb
   simp only [List.length_drop] at hk
   rw [List.getElem_drop]
   exact h2 _ (by omega) (by omega)
 · obtain ⟨k,hk,rfl⟩:=List.getElem_of_mem ha
   simp only [List.length_take] at hk
   rw [List.getElem_take]
   rcases List.mem_cons.1 hb with rfl | hb
   · exact h1 _ (by omega) (by omega)
   · obtain ⟨m,hm,rfl⟩:=List.getElem_of_mem hb
     simp only [List.length_drop] at hm
     rw [List.getElem_drop]
     exact h.lt (by omega) (by omega)
structure At (X:List (List Int)) (w:List Int) (i:Nat):Prop where
 le:i≤X.length
 lo:∀ j (hj:j<X.length),j<i→cmpL X[j] w<0
 hi:∀ j (hj:j<X.length),i≤j→¬cmpL X[j] w<0
theorem At.mem {X:List (List Int)} {w:List Int} {i:Nat} (h:At X w i) (hs:Srt X):w∈X↔∃ hi:i<X.length,X[i]=w:=by
 constructor
 · intro hm
   obtain ⟨j,hj,rfl⟩:=List.getElem_of_mem hm
   have hij:i≤j:=by
    refine Classical.byContradiction fun hn=>?_
    have:=h.lo j hj (by omega)
    have z:=(cmpL_zero X[j] X[j]).2 rfl
    omega
   by_cases he:i=j
   · subst he;exact ⟨hj,rfl⟩
   · exact absurd (hs.lt hj (by omega)) (h.hi i (by omega) (Nat.le_refl _))
 · rintro ⟨hi,rfl⟩
   exact List.getElem_mem hi
theorem At.ins {X:List (List Int)} {w:List Int} {i:Nat} (h:At X w i) (hs:Srt X) (hn:w ∉ X):Srt (X.take i++w::X.drop i):=by
 refine hs.ins h.lo fun j hj hij=>?_
 have h1:=h.hi j hj hij
 have h2:=cmpL_neg X[j] w
 have h3:cmpL X[j] w≠0:=fun hz=>hn (by rw [← (cmpL_zero _ _).1 hz];exact List.getElem_mem hj)
 omega
end Go.Mch
namespace Go.Mch

def GR (ms:List (List Int)) (n:Nat) (x:List Int):Prop:=∀ S:List Int→Prop,S (idL n)→(∀ y,S y→∀ p∈ms,S (thenL y p))→S x
structure Grp (ms:List (List Int)) (n:Nat) (X:List (List Int)):Prop where
 srt:Srt X
 mem:∀ x,x∈X↔GR ms n x
end Go.Mch
namespace Go.Mch

section
variable (mv:List Int→Nat→List Int) (m:Nat) (w:List Int)
def TR (x:List Int):Prop:=∀ C:List Int→Prop,C w→(∀ y,C y→∀ i,i<m→C (mv y i))→C x
structure TF (Q:List (List Int)):Prop where
 w0:w∈Q
 nd:Q.Nodup
 gr:∀ x∈Q,TR mv m w x
structure TB (Q:List (List Int)) (a k:Nat):Prop where
 f:TF mv m w Q
 cl:∀ i (h:i<Q.length),i<a→∀ p,p<m→mv Q[i] p∈Q
 cur:∀ h:a<Q.length,∀ p,p<k→mv Q[a] p∈Q
variable {mv m w}
variable (mv m w)
def Orb (S:List (List Int)):Prop:=Srt S∧∀ x,x∈S↔TR mv m w x
noncomputable def orbO (lim:Nat):Option (List (List Int)):=by
 classical exact if h:∃ S,Orb mv m w S∧S.length≤lim then some (Classical.choose h) else none
variable {mv m w}
end
end Go.Mch
namespace Go.Mch

def ExT (P:List (List Int)→Prop):Prop:=∃ Q,P Q
structure BF (ms:List (List Int)) (n:Nat) (Q:List (List Int)) (i k:Nat):Prop where
 nd:Q.Nodup
 gr:∀ x∈Q,GR ms n x
 id:idL n∈Q
 dn:∀ j (hj:j<Q.length),j<i→∀ p∈ms,thenL Q[j] p∈Q
 dk:∀ hi:i<Q.length,∀ p∈ms.take k,thenL Q[i] p∈Q
 le:Q.length≤1000
end Go.Mch
namespace Go.Mch

def rowsF (X:List (List Int)):List T:=X.map fun xs=>.mem .fresh (some 1) (xs.map I)
@[simp] theorem rowsF_length (X:List (List Int)):(rowsF X).length=X.length:=by simp [rowsF]
@[simp] theorem noOwnL_rowsF (X:List (List Int)):T.noOwnL (rowsF X)=true:=by
 induction X with
 | nil=>rfl
 | cons x X ih=>simp only [rowsF,List.map_cons] at ih ⊢;simp [ih]
@[simp] theorem rowsF_getElem {X:List (List Int)} {k:Nat} (h:k<(rowsF X).length):(rowsF X)[k]=.mem .fresh (some 1) ((X[k]'(by simpa using h)).map I):=by simp [rowsF]
def Rds (ts:List T) (X:List (List Int)):Prop:=T.eryL .old ts=tbL X∧T.noOwnL ts=true∧T.lendL ts=tbL X∧ts.length=X.length
def ExTT (P:List (List Int)→List (List Int)→List T→Prop):Prop:=∃ F S ts,P F S ts

end Go.Mch
namespace Go.Mch

theorem win_take (Z:List (List Int)) (j:Nat):win (rowsF Z) 0 j=rowsF (Z.take j):=by simp [rowsF,win,List.map_take]
theorem win_drop (Z:List (List Int)) (j:Nat):win (rowsF Z) j (Z.length-j)=rowsF (Z.drop j):=by
 have:(Z.drop j).length=Z.length-j:=by simp
 simp [rowsF,win,List.map_drop,List.take_of_length_le]
theorem rowsF_ins (Z:List (List Int)) (W:List Int) (j:Nat):rowsF (Z.take j)++T.mem .fresh (some 1) (W.map I)::rowsF (Z.drop j)=rowsF (Z.take j++W::Z.drop j):=by
 simp [rowsF]
theorem isCell_rowsF {Z:List (List Int)} {x:T} (h:x∈rowsF Z):x.isCell=true:=by
 obtain ⟨y,_,rfl⟩:=List.mem_map.1 h
 rfl
end Go.Mch
namespace Go.Mch

def pre (f s:List (List Int)) (u v:Nat) (x y:Nat):Prop:=x<f.length∧y<f.length∧σN f x y=u∧τN s y x=v
noncomputable def preX (f s:List (List Int)) (u v:Nat):Nat:=by
 classical exact if h:∃ x,∃ y,pre f s u v x y then Classical.choose h else 0
noncomputable def preY (f s:List (List Int)) (u v:Nat):Nat:=by
 classical exact if h:∃ y,∃ x,pre f s u v x y then Classical.choose h else 0
noncomputable def invF (f s:List (List Int)):List (List Int):=tabL f.length fun u v=>(preX f s u v:Int)
noncomputable def invS (f s:List (List Int)):List (List Int):=tabL f.length fun u v=>(preY f s u v:Int)

end Go.Mch
namespace Go.Mch

def isWd (n:Int) (w:List Int):Prop:=inR 0 (n-1) w∧w.length≤8
instance (n:Int) (w:List Int):Decidable (isWd n w):=by unfold isWd;infer_instance

noncomputable def cMv (f s:List (List Int)) (x:List Int) (p:Nat):List Int:=if p % 2=0 then dW f s x (p / 2) else dW (invF f s) (invS f s) x (p / 2)
noncomputable def cO (f s:List (List Int)) (w:List Int) (lim:Nat):Option (List (List Int)):=orbO (cMv f s) (2*(w.length-1)) w lim


end Go.Mch
namespace Go.Mch


def hd0 (X:List (List Int)):List Int:=X.getD 0 []
end Go.Mch
namespace Go.Mch

section
variable {mv mv':List Int→Nat→List Int} {m m':Nat} {w x y:List Int}
end

def Eqw (f s:List (List Int)) (u v:List Int):Prop:=TR (cMv f s) (2*(u.length-1)) u v
section
variable {f s:List (List Int)} (h:PM f s) (hi:Inj f s)
include h hi
end
end Go.Mch
namespace Go.Mch

def iv (f s:List (List Int)) (x y:Nat):Prop:=v2 f (σN f x y) (τN s y x)=x∧v2 s (σN f x y) (τN s y x)=y
instance (f s:List (List Int)) (x y:Nat):Decidable (iv f s x y):=by unfold iv;infer_instance
def isInv (f s:List (List Int)):Prop:=∀ x,x<f.length→∀ y,y<f.length→iv f s x y
def S_twice (pg:Pg) (n:Nat):Prop:=∀ f s:List (List Int),PM f s→Call pg n [sol f s] [sol f s] (B (dec (isInv f s)))
set_option maxRecDepth 10000 in
theorem t_l02Twice {pg:Pg} (hp:pg.fn 351=some c_spec_l02Twice):S_twice pg 351:=by
 intro f s h
 have h0:=h.pos
 have h12:=h.small
 have hls:=h.len
 have fr':=fun x hx=>h.tf.row (x:=x) hx
 have sr':∀ x (hx:x<s.length),(s[x]).length=f.length:=fun x hx=>(h.ts.row hx).trans hls
 refine Call.intro hp rfl (by simp) ?_
 show wp _ _ c_spec_l02Twice.body (post [.t 2] _ _ _) _
 simp [c_spec_l02Twice]
 refine wpLoop_count (fun a e=>(∀ x,x<a→∀ y,y<f.length→iv f s x y)∧e=fr [(1,some (.val (.mem .own none [tb f,tb s]))),(3,some (.val (I a)))]) f.length ?_ ?_ 0 _ (by omega) ⟨fun x hx=>by omega,by simp⟩
 · rintro a e ha ⟨h1,rfl⟩
   simp [ha]
   refine wpLoop_count (fun b e=>(∀ y,y<b→iv f s a y)∧e=fr [(1,some (.val (.mem .own none [tb f,tb s]))),(3,some (.val (I a))),(4,some (.val (I b)))]) f.length ?_ ?_ 0 _ (by omega) ⟨fun x hx=>by omega,by simp⟩
   · rintro b e hb ⟨h2,rfl⟩
     have hf:=h.v2f a b
     have hs2:=h.v2s a b
     have has:a<s.length:=by omega
     have hfr:=fr' a ha
     have hsr:=sr' a has
     have hfg:(f[a])[b]'(by omega)=v2 f a b:=get_v2 _ _
     have hsg:(s[a])[b]'(by omega)=v2 s a b:=get_v2 _ _
     have hiv:iv f s a b↔v2 f (σN f a b) (τN s b a)=a∧v2 s (σN f a b) (τN s b a)=b:=Iff.rfl
     have hf3:=h.v2f (σN f a b) (τN s b a)
     have hs3:=h.v2s (σN f a b) (τN s b a)
     obtain ⟨hf1,hf2⟩:=hf
     obtain ⟨hs1,hs2⟩:=hs2
     rw [← hf1] at hfg
     rw [← hs1] at hsg
     generalize σN f a b=u at *
     generalize τN s b a=v at *
     have hus:u<s.length:=by omega
     have hfu:=fr' u hf2
     have hsu:=sr' u hus
     have hfg2:(f[u])[v]'(by omega)=v2 f u v:=get_v2 _ _
     have hsg2:(s[u])[v]'(by omega)=v2 s u v:=get_v2 _ _
     by_cases hx:v2 f u v=a
     · by_cases hy:v2 s u v=b
       · simp [ha,hb,has,hfr,hsr,hfg,hsg,hf2,hs2,hus,hfu,hsu,hfg2,hsg2,hx,hy]
         refine ⟨by omega,fun y hyb=>?_⟩
         rcases Nat.lt_or_ge y b with h3 | h3
         · exact h2 y h3
         · have:y=b:=by omega
           subst this
           exact hiv.2 ⟨hx,hy⟩
       · have hn:¬isInv f s:=fun hh=>hy (hiv.1 (hh a ha b hb)).2
         simp [ha,hb,has,hfr,hsr,hfg,hsg,hf2,hs2,hus,hfu,hsu,hfg2,hsg2,hx,hy,dec_false hn]
     · have hn:¬isInv f s:=fun hh=>hx (hiv.1 (hh a ha b hb)).1
       simp [ha,hb,has,hfr,hsr,hfg,hsg,hf2,hs2,hfu,hfg2,hx,dec_false hn,undefV]
   · rintro e ⟨h2,rfl⟩
     simp
     refine ⟨by omega,fun x hx y hy=>?_⟩
     rcases Nat.lt_or_ge x a with h3 | h3
     · exact h1 x h3 y hy
     · have:x=a:=by omega
       subst this
       exact h2 y hy
 · rintro e ⟨h1,rfl⟩
   have hn:isInv f s:=fun x hx y hy=>h1 x hx y hy
   simp [dec_true hn]


end Go.Mch
namespace Go.Mch

def RowIn (n:Nat) (r:List Int):Prop:=r.length=n∧∀ v∈r,0≤v∧v<n
def TabN (n:Nat) (t:List (List Int)):Prop:=t.length=n∧∀ r∈t,RowIn n r
abbrev ownL (p:List Int):T:=.mem .own (some 1) (p.map I)
abbrev ownTb (t:List (List Int)):T:=.mem .own (some 1) (rows t)
theorem RowIn.set {n i:Nat} {r:List Int} {v:Int} (h:RowIn n r) (hv:0≤v∧v<n):RowIn n (r.set i v):=by
 refine ⟨by simpa using h.1,fun x hx=>?_⟩
 rcases List.mem_or_eq_of_mem_set hx with h1 | h1
 · exact h.2 x h1
 · rw [h1];exact hv
theorem RowIn.swap {n i j:Nat} {r:List Int} (h:RowIn n r) (hd:r.Nodup) (hi:i<r.length) (hj:j<r.length):RowIn n ((r.set i r[j]).set j r[i])∧((r.set i r[j]).set j r[i]).Nodup :=
 ⟨(h.set (h.2 _ (List.getElem_mem hj))).set (h.2 _ (List.getElem_mem hi)),(List.set_set_perm hi hj).nodup_iff.2 hd⟩
theorem idL_rowIn (n:Nat):RowIn n (idL n)∧(idL n).Nodup:=by
 refine ⟨⟨by simp [idL],fun v hv=>?_⟩,?_⟩
 · simp only [idL,List.mem_map,List.mem_range] at hv
   obtain ⟨i,hi,rfl⟩:=hv
   omega
 · unfold idL
   exact List.Pairwise.map _ (fun a b h=>by omega) List.nodup_range
theorem S_nxt.at {pg:Pg} (h:S_nxt pg) {c:Rw Int} {s:Int×Int} (hs:Sr c s) {n:Nat} (hn:0<n):∃ (s':Int×Int) (r:Nat),(Sr c s'∧r<n)∧Call pg 336 [src c s,I n] [src c s',I n] (I r):=by
 obtain ⟨s',r,⟨g1,g2,g3,_⟩,hc⟩:=h c s n hs
 have g3:=g3 (by omega)
 obtain ⟨i,rfl⟩:∃ i:Nat,r=i:=⟨r.toNat,by omega⟩
 exact ⟨s',i,⟨g1,by omega⟩,hc⟩
def S_drw (pg:Pg):Prop:=∀ (c:Rw Int) (s:Int×Int) (n:Nat),Sr c s→n≤64→∃ (s':Int×Int) (p:List Int),(Sr c s'∧RowIn n p∧p.Nodup)∧Call pg 368 [src c s,I n] [src c s',I n] (ownL p)
set_option maxRecDepth 10000 in
theorem t_drw {pg:Pg} (hp:pg.fn 368=some c_spec_l01Draw) (h336:S_nxt pg) (h334:S_unit pg):S_drw pg:=by
 intro c s n hs hn
 have hfind:=Call.findA (α:=(Int×Int)×List Int) (Q:=fun Y=>Sr c Y.1∧RowIn n Y.2∧Y.2.Nodup) (args:=[src c s,I n]) (args':=fun Y=>[src c Y.1,I n]) (r:=fun Y=>ownL Y.2) hp rfl (by simp [F.lets,c_spec_l01Draw,List.range,List.range.loop]) (by simp [kindOf]) ?_
 · obtain ⟨Y,h1,h2⟩:=hfind
   exact ⟨_,_,h1,h2⟩
 show wp _ _ c_spec_l01Draw.body (postX _ [.t 4] _ _ _) _
 generalize hR:postX (fun Y:(Int×Int)×List Int=>Sr c Y.1∧RowIn n Y.2∧Y.2.Nodup) [.t 4] [src c s,I n] (fun Y=>[src c Y.1,I n]) (fun Y=>ownL Y.2)=R
 simp [c_spec_l01Draw]
 refine callR (h334 n (by omega)) rfl rfl (fun _=>by simp) ?_
 simp
 refine ⟨by omega,?_⟩
 refine wpLoop_lower (α:=((Int×Int)×List Int)×Nat) (fun z=>z.2) (fun z e=>(Sr c z.1.1∧RowIn n z.1.2∧z.1.2.Nodup)∧z.2≤n∧e=fr [(0,some (.val (src c z.1.1))),(1,some (.val (I n))),(5,some (.val (ownL z.1.2))),(6,some (.val (I ((z.2:Int)-1))))]) ?_ ((s,idL n),n) _ ⟨⟨hs,(idL_rowIn n).1,(idL_rowIn n).2⟩,Nat.le_refl _,rfl⟩
 rintro ⟨⟨s1,p⟩,j⟩ e ⟨⟨g1,g2,g3⟩,g4,rfl⟩
 simp only at g1 g2 g3 g4
 by_cases hj:2≤j
 · obtain ⟨i,rfl⟩:∃ i,j=i+1:=⟨j-1,by omega⟩
   obtain ⟨s2,r,⟨k1,k2⟩,hc⟩:=h336.at g1 (n:=i+1) (by omega)
   have hi:0<i:=by omega
   have hil:i<p.length:=by rw [g2.1];omega
   have hrl:r<p.length:=by rw [g2.1];omega
   have hsw:=g2.swap g3 hil hrl
   simp [hi]
   refine ⟨by omega,?_⟩
   refine callS (ts':=[rawB c,I s2.1,H64 s2.2]) (r:=I r) (by simpa using hc) ?_
   simp [hil,hrl]
   exact ⟨by omega,by omega,by omega,s2.1,s2.2,(p.set i p[r]).set r p[i],i,by omega,⟨k1,hsw.1,hsw.2⟩,by omega,by simp only [ownL,List.map_set]⟩
 · have hj':¬(1:Int)<(j:Int):=by omega
   simp [hj']
   subst hR
   exact ⟨(s1,p),⟨g1,g2,g3⟩,by simp [post]⟩
theorem rows_snoc (t:List (List Int)) (q:List Int):rows (t++[q])=rows t++[ownL q]:=by simp [rows]
theorem TabN.snoc {n k:Nat} {t:List (List Int)} {r:List Int} (h:t.length=k∧∀ r∈t,RowIn n r) (hr:RowIn n r):(t++[r]).length=k+1∧∀ x∈t++[r],RowIn n x :=
 ⟨by simp [h.1],fun x hx=>by
  rcases List.mem_append.1 hx with h1 | h1
  · exact h.2 x h1
  · rw [List.mem_singleton.1 h1];exact hr⟩
def S_tbs (pg:Pg):Prop:=∀ (c:Rw Int) (s:Int×Int) (n:Nat),Sr c s→0<n→n≤64→∃ (s':Int×Int) (t:List (List Int)),(Sr c s'∧TabN n t)∧Call pg 428 [src c s,I n] [src c s',I n] (ownTb t)
set_option maxRecDepth 10000 in
theorem t_tbs {pg:Pg} (hp:pg.fn 428=some c_spec_l01Tables) (h336:S_nxt pg) (h368:S_drw pg):S_tbs pg:=by
 intro c s n hs h0 hn
 have hfind:=Call.findA (α:=(Int×Int)×List (List Int)) (Q:=fun Y=>Sr c Y.1∧TabN n Y.2) (args:=[src c s,I n]) (args':=fun Y=>[src c Y.1,I n]) (r:=fun Y=>ownTb Y.2) hp rfl (by simp [F.lets,c_spec_l01Tables,List.range,List.range.loop]) (by simp [kindOf]) ?_
 · obtain ⟨Y,h1,h2⟩:=hfind
   exact ⟨_,_,h1,h2⟩
 show wp _ _ c_spec_l01Tables.body (postX _ [.t 4] _ _ _) _
 generalize hR:postX (fun Y:(Int×Int)×List (List Int)=>Sr c Y.1∧TabN n Y.2) [.t 4] [src c s,I n] (fun Y=>[src c Y.1,I n]) (fun Y=>ownTb Y.2)=R
 obtain ⟨s1,kd,⟨k1,_⟩,hc1⟩:=h336.at hs (n:=3) (by omega)
 obtain ⟨s2,p,⟨k2,k3,_⟩,hc2⟩:=h368 c s1 n k1 hn
 simp [c_spec_l01Tables]
 refine callS (ts':=[rawB c,I s1.1,H64 s1.2]) (r:=I kd) (by simpa using hc1) ?_
 simp
 refine callS (ts':=[rawB c,I s2.1,H64 s2.2]) (r:=ownL p) (by simpa using hc2) ?_
 simp
 refine wpLoop_count (fun k e=>∃ (s3:Int×Int) (t:List (List Int)),(Sr c s3∧t.length=k∧∀ r∈t,RowIn n r)∧e=fr [(0,some (.val (src c s3))),(1,some (.val (I n))),(5,some (.val (ownTb t))),(6,some (.val (I kd))),(7,some (.val (ownL p))),(8,some (.val (I k)))]) n ?_ ?_ 0 _ (by omega) ⟨s2,[],⟨k2,rfl,by simp⟩,rfl⟩
 · rintro k e hk ⟨s3,t,⟨g1,g2,g3⟩,rfl⟩
   obtain ⟨s4,q,⟨j1,j2,_⟩,hc3⟩:=h368 c s3 n g1 hn
   simp [hk]
   refine callS (ts':=[rawB c,I s4.1,H64 s4.2]) (r:=ownL q) (by simpa using hc3) ?_
   simp
   by_cases hk0:kd=0
   · simp [hk0]
     refine wpLoop_count (fun j e=>∃ (s5:Int×Int) (q:List Int),(Sr c s5∧RowIn n q)∧e=fr [(0,some (.val (src c s5))),(1,some (.val (I n))),(5,some (.val (ownTb t))),(6,some (.val (I 0))),(7,some (.val (ownL p))),(8,some (.val (I k))),(9,some (.val (ownL q))),(10,some (.val (I j)))]) n ?_ ?_ 0 _ (by omega) ⟨s4,q,⟨j1,j2⟩,by simp⟩
     · rintro j e hj ⟨s5,q,⟨i1,i2⟩,rfl⟩
       obtain ⟨s6,r,⟨m1,m2⟩,hc4⟩:=h336.at i1 (n:=n) h0
       have hl:j<q.length:=by rw [i2.1];exact hj
       simp [hj]
       refine callS (ts':=[rawB c,I s6.1,H64 s6.2]) (r:=I r) (by simpa using hc4) ?_
       simp [hl]
       exact ⟨by omega,by omega,s6.1,s6.2,q.set j r,⟨m1,i2.set ⟨by omega,by omega⟩⟩,by simp only [ownL,List.map_set]⟩
     · rintro e ⟨s5,q,⟨i1,i2⟩,rfl⟩
       simp
       exact ⟨by unfold roomy;omega,by omega,s5.1,s5.2,t++[q],⟨i1,(TabN.snoc ⟨g2,g3⟩ i2).1,(TabN.snoc ⟨g2,g3⟩ i2).2⟩,by simp only [ownTb,rows_snoc]⟩
   · by_cases hk1:kd=1
     · simp [hk1]
       refine wpLoop_count (fun j e=>∃ (q:List Int),RowIn n q∧e=fr [(0,some (.val (src c s4))),(1,some (.val (I n))),(5,some (.val (ownTb t))),(6,some (.val (I 1))),(7,some (.val (ownL p))),(8,some (.val (I k))),(9,some (.val (ownL q))),(11,some (.val (I j)))]) n ?_ ?_ 0 _ (by omega) ⟨q,j2,by simp⟩
       · rintro j e hj ⟨q,i2,rfl⟩
         have hl:j<q.length:=by rw [i2.1];exact hj
         obtain ⟨m,hm,hm2⟩:∃ m:Nat,((k:Int)+j).tmod n=m∧m<p.length:=⟨(k+j) % n,by rw [Int.tmod_eq_emod_of_nonneg (by omega),Int.natCast_emod,Int.natCast_add],by rw [k3.1];exact Nat.mod_lt _ h0⟩
         have hn0:¬n=0:=by omega
         have hv:=k3.2 _ (List.getElem_mem hm2)
         simp [hj,hl,hm,hm2,hn0]
         exact ⟨by omega,by omega,by omega,q.set j p[m],i2.set hv,by simp only [ownL,List.map_set]⟩
       · rintro e ⟨q,i2,rfl⟩
         simp
         exact ⟨by unfold roomy;omega,by omega,s4.1,s4.2,t++[q],⟨j1,(TabN.snoc ⟨g2,g3⟩ i2).1,(TabN.snoc ⟨g2,g3⟩ i2).2⟩,by simp only [ownTb,rows_snoc]⟩
     · have hk1':¬(kd:Int)=1:=by omega
       simp [hk0,hk1']
       exact ⟨by unfold roomy;omega,by omega,s4.1,s4.2,t++[q],⟨j1,(TabN.snoc ⟨g2,g3⟩ j2).1,(TabN.snoc ⟨g2,g3⟩ j2).2⟩,by simp only [ownTb,rows_snoc]⟩
 · rintro e ⟨s3,t,⟨g1,g2,g3⟩,rfl⟩
   simp
   subst hR
   exact ⟨(s3,t),⟨g1,g2,g3⟩,by simp [post]⟩
end Go.Mch
namespace Go.Mch

theorem Pm.inL {p:List Int} (h:Pm p):inN p.length p:=h.pm.1
def S_ren1 (pg:Pg):Prop:=∀ (t:List (List Int)) (p:List Int) (x y:Nat),Tab t→Pm p→p.length=t.length→x<t.length→y<t.length →
 Call pg 390 [I x,I y,.mem .old none [ix p],.mem .old none [tb t],.mem .old none [ix (invL p)]] [I x,I y,.mem .old none [ix p],.mem .old none [tb t],.mem .old none [ix (invL p)]] (I (imG t p x y))
theorem invL_get {p:List Int} {x:Nat} (h:x<(invL p).length):(invL p)[x]=(invQ p x:Int):=by simp [invL]
theorem t_renamed1 {pg:Pg} (hp:pg.fn 390=some c_impl_renamed_1):S_ren1 pg:=by
 intro t p x y ht h hl hx hy
 refine Call.intro hp rfl (by simp) ?_
 show wp _ _ c_impl_renamed_1.body (post [.t 7] _ _ _) _
 have qx:=h.lt (x:=x) (by omega)
 have qy:=h.lt (x:=y) (by omega)
 have hxl:x<(invL p).length:=by rw [invL_length];omega
 have hyl:y<(invL p).length:=by rw [invL_length];omega
 have g1:=invL_get hxl
 have g2:=invL_get hyl
 unfold imG
 generalize invQ p x=a at *
 generalize invQ p y=b at *
 generalize invL p=V at *
 have ha:a<t.length:=by omega
 have hrow:=ht.row ha
 have hbr:b<(t[a]).length:=by omega
 have hv:=get_v2 ha hbr
 have hv1:=ht.nonneg a b
 have hv2:=ht.lt (by omega) a b
 generalize v2 t a b=v at *
 have hvl:v.toNat<p.length:=by omega
 have hvl2:v<p.length:=by omega
 have hg:p[v.toNat]=p.getD v.toNat 0:=by simp [hvl]
 generalize p.getD v.toNat 0=w at *
 simp [c_impl_renamed_1,hxl,hyl,g1,g2,ha,hbr,hv,hv1,hvl,hvl2,hg]
theorem t_renamed {pg:Pg} (hp:pg.fn 306=some c_impl_renamed) (h307:S_inv pg 307) (h376:S_tableBy pg) (h390:S_ren1 pg):S_image pg 306:=by
 intro t p ht h hl
 have h12:=h.sm
 refine Call.intro hp rfl (by simp) ?_
 show wp _ _ c_impl_renamed.body (post [.t 4] _ _ _) _
 simp [c_impl_renamed]
 refine callR (h307 p h) rfl rfl (fun _=>by simp) ?_
 have hb:=h376 t.length (imG t p) 390 [.mem .old none [ix p],.mem .old none [tb t],.mem .old none [ix (invL p)]] (by omega) (by simp) (by simp) fun x y hx hy=>h390 t p x y ht h hl hx hy
 generalize invL p=V at *
 simp
 refine callR hb rfl rfl (fun _=>by simp) ?_
 simp [imT]


end Go.Mch
namespace Go.Mch
def imZ (t:List (List Int)) (p:List Int) (a b:Nat):List (List Int):=tabL t.length fun x y=>if invQ p x<a∨(invQ p x=a∧invQ p y<b) then imG t p x y else 0
@[simp] theorem imZ_length (t:List (List Int)) (p:List Int) (a b:Nat):(imZ t p a b).length=t.length:=by simp [imZ]
theorem imZ_row (t:List (List Int)) (p:List Int) (a b:Nat) {i:Nat} (h:i<(imZ t p a b).length):(imZ t p a b)[i].length=t.length:=tabL_row (by rw [← imZ];exact List.getElem_mem h)
theorem imZ_next {t:List (List Int)} {p:List Int} (h:Pm p) (hl:p.length=t.length) (a:Nat):imZ t p a t.length=imZ t p (a+1) 0:=by
 apply tabL_congr
 intro x y hx hy
 have:=h.lt (x:=y) (by omega)
 have e:(invQ p x<a∨(invQ p x=a∧invQ p y<t.length))↔(invQ p x<a+1∨(invQ p x=a+1∧invQ p y<0)):=by omega
 simp only [e]
theorem imZ_last {t:List (List Int)} {p:List Int} (h:Pm p) (hl:p.length=t.length):imZ t p t.length 0=imT t p:=by
 apply tabL_congr
 intro x y hx hy
 have:=h.lt (x:=x) (by omega)
 rw [if_pos (by omega)]
theorem imZ_set {t:List (List Int)} {p:List Int} (h:Pm p) (hl:p.length=t.length) {a b:Nat} (ha:a<p.length) (hb:b<p.length) {P Q:Nat} (hP:(p[a]).toNat=P) (hQ:(p[b]).toNat=Q) (hPl:P<(imZ t p a b).length) :
 (imZ t p a b).set P ((imZ t p a b)[P].set Q (p.getD (v2 t a b).toNat 0))=imZ t p a (b+1):=by
 have qP:invQ p P=a:=hP▸h.back ha
 have qQ:invQ p Q=b:=hQ▸h.back hb
 have hinj:∀ x,x<p.length→invQ p x=a→x=P:=fun x hx he=>by
  have:=h.at hx
  rw [he] at this
  simp [ha] at this
  omega
 have hinj2:∀ x,x<p.length→invQ p x=b→x=Q:=fun x hx he=>by
  have:=h.at hx
  rw [he] at this
  simp [hb] at this
  omega
 apply List.ext_getElem
 · simp
 · intro i h1 h2
   have hi:i<t.length:=by simpa using h2
   rw [List.getElem_set]
   by_cases hiP:P=i
   · subst hiP
     rw [if_pos rfl]
     apply List.ext_getElem
     · simp [imZ_row]
     · intro j h3 h4
       have hj:j<t.length:=by simpa [imZ_row] using h4
       rw [List.getElem_set]
       simp only [imZ,tabL,List.getElem_map,List.getElem_range]
       by_cases hjQ:Q=j
       · subst hjQ
         rw [if_pos rfl,if_pos (by omega),imG,qP,qQ]
       · rw [if_neg hjQ]
         have:invQ p j≠b:=fun he=>hjQ (hinj2 j (by omega) he).symm
         have e:(invQ p P<a∨(invQ p P=a∧invQ p j<b))↔(invQ p P<a∨(invQ p P=a∧invQ p j<b+1)):=by omega
         simp only [e]
   · rw [if_neg hiP]
     have hne:invQ p i≠a:=fun he=>hiP (hinj i (by omega) he).symm
     simp only [imZ,tabL,List.getElem_map,List.getElem_range]
     refine List.map_congr_left fun j _=>?_
     have e:(invQ p i<a∨(invQ p i=a∧invQ p j<b))↔(invQ p i<a∨(invQ p i=a∧invQ p j<b+1)):=by omega
     simp only [e]
def zTab (n k:Nat):List (List Int):=(List.range k).map fun _=>List.replicate n 0
theorem imZ_zero (t:List (List Int)) (p:List Int):imZ t p 0 0=zTab t.length t.length:=by
 unfold imZ zTab tabL
 refine List.map_congr_left fun x _=>?_
 apply List.ext_getElem
 · simp
 · intro i h1 h2;simp
theorem imZ_setD {t:List (List Int)} {p:List Int} (h:Pm p) (hl:p.length=t.length) {a b:Nat} (ha:a<p.length) (hb:b<p.length) {P Q:Nat} (hP:(p[a]).toNat=P) (hQ:(p[b]).toNat=Q) :
 (imZ t p a b).set P (((imZ t p a b).getD P []).set Q (p.getD (v2 t a b).toNat 0))=imZ t p a (b+1):=by
 have ra:=h.inL _ (List.getElem_mem ha)
 have hPl:P<(imZ t p a b).length:=by rw [imZ_length];omega
 have:=imZ_set h hl ha hb hP hQ hPl
 rw [← this,List.getD_eq_getElem?_getD,List.getElem?_eq_getElem hPl]
 rfl
set_option maxRecDepth 10000 in
theorem t_rename {pg:Pg} (hp:pg.fn 367=some c_spec_l01Rename):S_image pg 367:=by
 intro t p ht h hl
 have h12:=h.sm
 have h0:=h.pos
 refine Call.intro hp rfl (by simp) ?_
 show wp _ _ c_spec_l01Rename.body (post [.t 4] _ _ _) _
 simp [c_spec_l01Rename]
 refine wpLoop_count (fun k e=>e=fr [(0,some (.val (tb t))),(1,some (.val (ix p))),(5,some (.val (ownTb (zTab t.length k)))),(6,some (.val (I k)))]) t.length ?_ ?_ 0 _ (by omega) ?_
 · rintro k e hk rfl
   have hz:(zTab t.length (k+1))=zTab t.length k++[List.replicate t.length 0]:=by simp [zTab,List.range_succ]
   have hzl:(zTab t.length k).length=k:=by simp [zTab]
   rw [hz]
   generalize zTab t.length k=Z at *
   simp [hk]
   exact ⟨by unfold roomy;omega,by unfold roomy;omega,by omega,by simp only [ownTb,ownL,rows_snoc,List.map_replicate]⟩
 · rintro e rfl
   rw [← imZ_zero t p]
   simp
   refine wpLoop_count (fun a e=>e=fr [(0,some (.val (tb t))),(1,some (.val (ix p))),(5,some (.val (ownTb (imZ t p a 0)))),(7,some (.val (I a)))]) t.length ?_ ?_ 0 _ (by omega) ?_
   · rintro a e ha rfl
     rw [← imZ_next h hl a]
     have hap:a<p.length:=by omega
     have ra:=h.inL _ (List.getElem_mem hap)
     have hXl:=imZ_length t p a 0
     have hXr:=fun {i:Nat} hi=>imZ_row t p a 0 (i:=i) hi
     obtain ⟨P,hP⟩:∃ P,p[a]=P:=⟨_,rfl⟩
     rw [hP] at ra
     obtain ⟨P,rfl⟩:∃ P':Nat,P=P':=⟨P.toNat,by omega⟩
     have hPX:P<(imZ t p a 0).length:=by omega
     have hr:=hXr hPX
     have hPt:P<t.length:=by omega
     have hgr:(rows (imZ t p a 0))[P]?=some (ownL (imZ t p a 0)[P]):=by rw [rows_get,List.getElem?_eq_getElem hPX];rfl
     simp [ha,hap,hP,hPt,hr]
     refine wpLoop_count (fun b e=>e=fr [(0,some (.val (tb t))),(1,some (.val (ix p))),(5,some (.val (ownTb (imZ t p a b)))),(7,some (.val (I a))),(8,some (.sref 5 [P] 1 0 t.length)),(9,some (.val (I b)))]) t.length ?_ ?_ 0 _ (by omega) rfl
     · rintro b e hb rfl
       have hbp:b<p.length:=by omega
       have rb:=h.inL _ (List.getElem_mem hbp)
       have hXl:=imZ_length t p a b
       have hXr:=fun {i:Nat} hi=>imZ_row t p a b (i:=i) hi
       obtain ⟨Q,hQ⟩:∃ Q,p[b]=Q:=⟨_,rfl⟩
       rw [hQ] at rb
       obtain ⟨Q,rfl⟩:∃ Q':Nat,Q=Q':=⟨Q.toNat,by omega⟩
       have hset:=imZ_setD h hl hap hbp (P:=P) (Q:=Q) (by rw [hP];simp) (by rw [hQ];simp)
       have hrow:=ht.row ha
       have hbr:b<(t[a]).length:=by rw [hrow];exact hb
       have hv:=get_v2 ha hbr
       have hv1:=ht.nonneg a b
       have hv2:=ht.lt (by omega) a b
       rw [← hset]
       clear hset
       generalize v2 t a b=v at *
       have hvl:v.toNat<p.length:=by omega
       have hvl2:v<p.length:=by omega
       have hg:p[v.toNat]=p.getD v.toNat 0:=by simp [hvl]
       generalize p.getD v.toNat 0=w at *
       clear hgr hr
       generalize imZ t p a b=X at *
       have hPX':P<X.length:=by omega
       have hr:=hXr hPX'
       have hXg:X.getD P []=X[P]:=by simp [hPX']
       rw [hXg]
       have hQX:Q<(X[P]).length:=by omega
       have hQt:(Q:Int)<t.length:=by omega
       have hQt2:Q<t.length:=by omega
       have hgr:(rows X)[P]?=some (ownL X[P]):=by rw [rows_get,List.getElem?_eq_getElem hPX'];rfl
       simp [ha,hb,hbp,hQ,hrow,hv,hvl,hvl2,hv1,hg,hPX',hQX,hQt]
       exact ⟨by omega,by omega,by simp only [ownTb,← rows_set2 hPX']⟩
     · rintro e rfl
       simp
       omega
   · rintro e rfl
     rw [imZ_last h hl]
     simp
   · simp
 · simp only [zTab,ownTb,rows,List.range_zero,List.map_nil];rfl
def S_renS (pg:Pg):Prop:=∀ (f s:List (List Int)) (p:List Int),Tab f→Tab s→Pm p→p.length=f.length→p.length=s.length→Call pg 422 [sol f s,ix p] [sol f s,ix p] (.agg [ownTb (imT f p),ownTb (imT s p)])
set_option maxRecDepth 10000 in
theorem t_renS {pg:Pg} (hp:pg.fn 422=some c_spec_l02Rename) (h367:S_image pg 367):S_renS pg:=by
 intro f s p hf hs h hl hl2
 refine Call.intro hp rfl (by simp) ?_
 show wp _ _ c_spec_l02Rename.body (post [.cell 4 (some 2)] _ _ _) _
 simp [c_spec_l02Rename]
 refine callR (h367 f p hf h hl) rfl rfl (fun _=>by simp) ?_
 simp
 refine callR (h367 s p hs h hl2) rfl rfl (fun _=>by simp) ?_
 simp
theorem imT_tabN {n:Nat} {t:List (List Int)} {p:List Int} (ht:TabN n t) (hp:Pm p) (hl:p.length=n):TabN n (imT t p):=by
 have h1:Tab t:=fun r hr=>⟨by rw [(ht.2 r hr).1,ht.1],fun v hv=>by rw [ht.1];exact (ht.2 r hr).2 v hv⟩
 refine ⟨by rw [imT,tabL_length];exact ht.1,fun r hr=>⟨by rw [tabL_row hr];exact ht.1,fun v hv=>?_⟩⟩
 obtain ⟨x,hx,rfl⟩:=List.mem_map.1 hr
 obtain ⟨y,hy,rfl⟩:=List.mem_map.1 hv
 simp only [List.mem_range] at hx hy
 have hpos:=hp.pos
 have a1:=h1.nonneg (invQ p x) (invQ p y)
 have a2:=h1.lt (by rw [ht.1];omega) (invQ p x) (invQ p y)
 have a3:(v2 t (invQ p x) (invQ p y)).toNat<p.length:=by rw [ht.1] at a2;omega
 have a4:=hp.inL _ (List.getElem_mem a3)
 simp only [imG,List.getD_eq_getElem?_getD,List.getElem?_eq_getElem a3,Option.getD_some]
 omega

def PMN (n:Nat) (f s:List (List Int)):Prop:=TabN n f∧TabN n s
abbrev ownS (X:List (List Int)×List (List Int)):T:=.agg [ownTb X.1,ownTb X.2]
def ownN2 (X:List (List Int)):T:=if X=[] then nil else ownTb X
@[simp] theorem ownN2_nil:ownN2 []=nil:=rfl
theorem one_row {n:Nat} {a:List Int} (h:RowIn n a):∀ x∈[a],RowIn n x:=fun x hx=>by rw [List.mem_singleton.1 hx];exact h
theorem snoc_in {n:Nat} {a:List Int} {x:Int} (h:∀ v∈a,0≤v∧v<n) (hx:0≤x∧x<n):∀ v∈a++[x],0≤v∧v<n:=fun v hv=>by
 rcases List.mem_append.1 hv with h1 | h1
 · exact h v h1
 · rw [List.mem_singleton.1 h1];exact hx
theorem ownN2_ne {X:List (List Int)} {k:Nat} (h:X.length=k) (hk:0<k):ownN2 X=ownTb X:=if_neg fun h0=>by rw [h0] at h;simp at h;omega
theorem ownN2_snoc (X:List (List Int)) (r:List Int):ownN2 (X++[r])=.mem .own (some 1) (rows X++[ownL r]):=by
 rw [ownN2,if_neg (by simp),ownTb,rows_snoc]
def S_poly (pg:Pg):Prop:=∀ n:Nat,0<n→n≤64→∃ X:List (List Int)×List (List Int),PMN n X.1 X.2∧Call pg 423 [I n] [I n] (ownS X)
set_option maxRecDepth 10000 in
theorem t_poly {pg:Pg} (hp:pg.fn 423=some c_spec_l02Polygon):S_poly pg:=by
 intro n h0 hn
 refine Call.find hp rfl (by simp) ?_
 show wp _ _ c_spec_l02Polygon.body _ _
 generalize hR:(fun (x:X) (e:Env)=>∃ l:List (List Int)×List (List Int),PMN n l.1 l.2∧post c_spec_l02Polygon.rs [I n] [I n] (ownS l) x e)=R
 simp [c_spec_l02Polygon]
 refine wpLoop_count (fun k e=>∃ f s:List (List Int),((f.length=k∧∀ r∈f,RowIn n r)∧s.length=k∧∀ r∈s,RowIn n r)∧e=fr [(0,some (.val (I n))),(2,some (.val (.mem .own none [nil,nil]))),(3,some (.val (.mem .own none [ownN2 f,ownN2 s]))),(4,some (.val (I k)))]) n ?_ ?_ 0 _ (by omega) ⟨[],[],⟨⟨rfl,by simp⟩,rfl,by simp⟩,rfl⟩
 · rintro k e hk ⟨f,s,⟨⟨g1,g2⟩,g3,g4⟩,rfl⟩
   simp [hk]
   refine wpLoop_count (fun j e=>∃ a b:List Int,((a.length=j∧∀ v∈a,0≤v∧v<n)∧b.length=j∧∀ v∈b,0≤v∧v<n)∧e=fr [(0,some (.val (I n))),(2,some (.val (.mem .own none [nil,nil]))),(3,some (.val (.mem .own none [ownN2 f,ownN2 s]))),(4,some (.val (I k))),(5,some (.val (ownL a))),(6,some (.val (ownL b))),(7,some (.val (I j)))]) n ?_ ?_ 0 _ (by omega) ⟨[],[],⟨⟨rfl,by simp⟩,rfl,by simp⟩,rfl⟩
   · rintro j e hj ⟨a,b,⟨⟨i1,i2⟩,i3,i4⟩,rfl⟩
     obtain ⟨m,hm,hm2⟩:∃ m:Nat,((2:Int)*k-j+n).tmod n=m∧m<n:=by
      have h1:0≤(2:Int)*k-j+n:=by omega
      refine ⟨((2:Int)*k-j+n).toNat % n,?_,Nat.mod_lt _ h0⟩
      rw [Int.tmod_eq_emod_of_nonneg h1,Int.natCast_emod,Int.toNat_of_nonneg h1]
     have hn0:¬n=0:=by omega
     simp [hj,hm,hn0]
     exact ⟨by omega,by omega,by omega,by unfold roomy;omega,by unfold roomy;omega,by omega,a++[(m:Int)],b++[(k:Int)],⟨⟨by simp [i1],snoc_in i2 (by omega)⟩,by simp [i3],snoc_in i4 (by omega)⟩,by simp only [ownL,List.map_append,List.map_cons,List.map_nil]⟩
   · rintro e ⟨a,b,⟨⟨i1,i2⟩,i3,i4⟩,rfl⟩
     by_cases hk0:k=0
     · subst hk0
       obtain rfl:f=[]:=List.length_eq_zero_iff.1 g1
       obtain rfl:s=[]:=List.length_eq_zero_iff.1 g3
       simp
       exact ⟨by unfold roomy;omega,[a],[b],⟨⟨rfl,one_row ⟨i1,i2⟩⟩,rfl,one_row ⟨i3,i4⟩⟩,rfl⟩
     · rw [ownN2_ne g1 (by omega),ownN2_ne g3 (by omega)]
       simp
       exact ⟨by unfold roomy;omega,by unfold roomy;omega,by omega,f++[a],s++[b],⟨TabN.snoc ⟨g1,g2⟩ ⟨i1,i2⟩,TabN.snoc ⟨g3,g4⟩ ⟨i3,i4⟩⟩,by simp only [ownN2_snoc]⟩
 · rintro e ⟨f,s,⟨⟨g1,g2⟩,g3,g4⟩,rfl⟩
   have hf:ownN2 f=ownTb f:=if_neg fun h=>by rw [h] at g1;simp at g1;omega
   have hs:ownN2 s=ownTb s:=if_neg fun h=>by rw [h] at g3;simp at g3;omega
   rw [hf,hs]
   simp
   subst hR
   exact ⟨(f,s),⟨⟨g1,g2⟩,g3,g4⟩,by simp [post,c_spec_l02Polygon]⟩
end Go.Mch
namespace Go.Mch
def S_twst (pg:Pg):Prop:=∀ (n:Nat) (p q:List Int),0<n→n≤64→RowIn n p→RowIn n q→∃ X:List (List Int)×List (List Int),(PMN n X.1 X.2∧∀ r∈X.1,r=p)∧Call pg 425 [ix p,ix q] [ix p,ix q] (ownS X)
set_option maxRecDepth 10000 in
theorem t_twst {pg:Pg} (hp:pg.fn 425=some c_spec_l02Twist) (h31:S_own pg):S_twst pg:=by
 intro n p q h0 hn hP hQ
 have hpl:=hP.1
 have hql:=hQ.1
 refine Call.find hp rfl (by simp) ?_
 show wp _ _ c_spec_l02Twist.body _ _
 generalize hR:(fun (x:X) (e:Env)=>∃ l:List (List Int)×List (List Int),(PMN n l.1 l.2∧∀ r∈l.1,r=p)∧post c_spec_l02Twist.rs [ix p,ix q] [ix p,ix q] (ownS l) x e)=R
 simp [c_spec_l02Twist]
 refine wpLoop_count (fun k e=>∃ f s:List (List Int),((f.length=k∧∀ r∈f,r=p)∧s.length=k∧∀ r∈s,RowIn n r)∧e=fr [(0,some (.val (ix p))),(1,some (.val (ix q))),(4,some (.val (.mem .own none [nil,nil]))),(5,some (.val (.mem .own none [ownN2 f,ownN2 s]))),(6,some (.val (I k)))]) n ?_ ?_ 0 _ (by omega) ⟨[],[],⟨⟨rfl,by simp⟩,rfl,by simp⟩,rfl⟩
 · rintro k e hk ⟨f,s,⟨⟨g1,g2⟩,g3,g4⟩,rfl⟩
   have hkq:k<q.length:=by omega
   have hv:=hQ.2 _ (List.getElem_mem hkq)
   simp [hk,hpl]
   refine wpLoop_count (fun j e=>∃ b:List Int,(b.length=j∧∀ v∈b,0≤v∧v<n)∧e=fr [(0,some (.val (ix p))),(1,some (.val (ix q))),(4,some (.val (.mem .own none [nil,nil]))),(5,some (.val (.mem .own none [ownN2 f,ownN2 s]))),(6,some (.val (I k))),(7,some (.val (ownL b))),(8,some (.val (I j)))]) n ?_ ?_ 0 _ (by omega) ⟨[],⟨rfl,by simp⟩,rfl⟩
   · rintro j e hj ⟨b,⟨i3,i4⟩,rfl⟩
     simp [hj,hpl,hql,hk]
     exact ⟨by unfold roomy;omega,by omega,b++[q[k]],⟨by simp [i3],snoc_in i4 hv⟩,by simp only [ownL,List.map_append,List.map_cons,List.map_nil]⟩
   · rintro e ⟨b,⟨i3,i4⟩,rfl⟩
     by_cases hk0:k=0
     · subst hk0
       obtain rfl:f=[]:=List.length_eq_zero_iff.1 g1
       obtain rfl:s=[]:=List.length_eq_zero_iff.1 g3
       simp [hpl]
       refine callR (h31 p (by omega)) rfl rfl (fun _=>by simp) ?_
       simp
       exact ⟨by unfold roomy;omega,[p],[b],⟨⟨rfl,by simp⟩,rfl,one_row ⟨i3,i4⟩⟩,rfl⟩
     · rw [ownN2_ne g1 (by omega),ownN2_ne g3 (by omega)]
       simp [hpl]
       refine callR (h31 p (by omega)) rfl rfl (fun _=>by simp) ?_
       simp
       exact ⟨by unfold roomy;omega,by unfold roomy;omega,by omega,f++[p],s++[b],⟨⟨by simp [g1],fun r hr=>by
        rcases List.mem_append.1 hr with h1 | h1
        · exact g2 r h1
        · exact List.mem_singleton.1 h1⟩,TabN.snoc ⟨g3,g4⟩ ⟨i3,i4⟩⟩,by simp only [ownN2_snoc]⟩
 · rintro e ⟨f,s,⟨⟨g1,g2⟩,g3,g4⟩,rfl⟩
   rw [ownN2_ne g1 h0,ownN2_ne g3 h0]
   simp [hpl]
   subst hR
   exact ⟨(f,s),⟨⟨⟨g1,fun r hr=>by rw [g2 r hr];exact hP⟩,g3,g4⟩,g2⟩,by simp [post,c_spec_l02Twist]⟩
def S_flp (pg:Pg):Prop:=∀ n:Nat,0<n→n≤64→∃ X:List (List Int)×List (List Int),(PMN n X.1 X.2∧∀ r∈X.1,r=idL n)∧Call pg 449 [I n] [I n] (ownS X)
theorem t_flp {pg:Pg} (hp:pg.fn 449=some c_spec_l02Flip) (h334:S_unit pg) (h425:S_twst pg):S_flp pg:=by
 intro n h0 hn
 obtain ⟨X,hX,hc⟩:=h425 n (idL n) (idL n) h0 hn (idL_rowIn n).1 (idL_rowIn n).1
 refine ⟨X,hX,Call.intro hp rfl (by simp) ?_⟩
 show wp _ _ c_spec_l02Flip.body (post [.cell 2 (some 2)] _ _ _) _
 simp [c_spec_l02Flip]
 refine callR (h334 n (by omega)) rfl rfl (fun _=>by simp) ?_
 simp
 refine callR hc rfl rfl (fun _=>by simp) ?_
 simp
theorem tdivN (a m:Nat):((a:Int)).tdiv m=((a / m:Nat):Int):=by rw [Int.tdiv_eq_ediv_of_nonneg (by omega),Int.natCast_ediv]
theorem tmodN (a m:Nat):((a:Int)).tmod m=((a % m:Nat):Int):=by rw [Int.tmod_eq_emod_of_nonneg (by omega),Int.natCast_emod]
theorem TabN.at {n:Nat} {t:List (List Int)} (h:TabN n t) {i j:Nat} (hi:i<n) (hj:j<n):∃ (h1:i<t.length) (h2:j<(t[i]).length),(t[i]).length=n∧0≤(t[i])[j]∧(t[i])[j]<n:=by
 have h1:i<t.length:=by rw [h.1];exact hi
 have h2:=h.2 _ (List.getElem_mem h1)
 have h3:j<(t[i]).length:=by rw [h2.1];exact hj
 exact ⟨h1,h3,h2.1,h2.2 _ (List.getElem_mem h3)⟩
theorem mul_lt {n m:Nat} {x y:Int} (h0:0≤x) (h1:x<n) (h2:0≤y) (h3:y<m) (hn:n*m≤64):0≤x*m+y∧x*m+y<(n*m:Nat)∧0≤x*m∧x*m≤64:=by
 obtain ⟨x,rfl⟩:∃ x':Nat,x=x':=⟨x.toNat,by omega⟩
 obtain ⟨y,rfl⟩:∃ y':Nat,y=y':=⟨y.toNat,by omega⟩
 have h4:(x+1)*m≤n*m:=Nat.mul_le_mul_right m (by omega)
 have h5:(x+1)*m=x*m+m:=Nat.succ_mul x m
 have h6:((x*m:Nat):Int)=(x:Int)*m:=by simp
 omega
def S_prd (pg:Pg):Prop:=∀ (n m:Nat) (f s f' s':List (List Int)),0<n→0<m→n*m≤64→PMN n f s→PMN m f' s'→∃ X:List (List Int)×List (List Int),PMN (n*m) X.1 X.2∧Call pg 458 [sol f s,sol f' s'] [sol f s,sol f' s'] (ownS X)
set_option maxRecDepth 10000 in
theorem t_prd {pg:Pg} (hp:pg.fn 458=some c_spec_l02Product):S_prd pg:=by
 intro n m f s f' s' hn0 hm0 hnm hA hB
 have hfl:=hA.1.1
 have hsl:=hA.2.1
 have hfl':=hB.1.1
 have hsl':=hB.2.1
 have hN:0<n*m:=Nat.mul_pos hn0 hm0
 obtain ⟨N,hNe⟩:∃ N,N=n*m:=⟨_,rfl⟩
 have hNi:(n:Int)*m=N:=by rw [hNe];simp
 have hnl:n≤N:=by rw [hNe];exact Nat.le_mul_of_pos_right n hm0
 have hml:m≤N:=by rw [hNe];exact Nat.le_mul_of_pos_left m hn0
 rw [← hNe] at hN hnm ⊢
 have hdv:∀ a,a<N→a / m<n:=fun a ha=>by rw [hNe,Nat.mul_comm] at ha;exact Nat.div_lt_of_lt_mul ha
 have hmd:∀ a,a % m<m:=fun a=>Nat.mod_lt _ hm0
 have hm0':¬(m:Int)=0:=by omega
 have hm0'':¬m=0:=by omega
 refine Call.find hp rfl (by simp) ?_
 show wp _ _ c_spec_l02Product.body _ _
 generalize hR:(fun (x:X) (e:Env)=>∃ l:List (List Int)×List (List Int),PMN N l.1 l.2∧post c_spec_l02Product.rs [sol f s,sol f' s'] [sol f s,sol f' s'] (ownS l) x e)=R
 simp [c_spec_l02Product]
 refine wpLoop_count (fun k e=>∃ F S:List (List Int),((F.length=k∧∀ r∈F,RowIn N r)∧S.length=k∧∀ r∈S,RowIn N r)∧e=fr [(2,some (.val (.mem .own none [tb f,tb s]))),(3,some (.val (.mem .own none [tb f',tb s']))),(4,some (.val (.mem .own none [nil,nil]))),(5,some (.val (I n))),(6,some (.val (I m))),(7,some (.val (.mem .own none [ownN2 F,ownN2 S]))),(8,some (.val (I k)))]) N ?_ ?_ 0 _ (by omega) ⟨[],[],⟨⟨rfl,by simp⟩,rfl,by simp⟩,by simp [hfl,hfl']⟩
 · rintro k e hk ⟨F,S,⟨⟨g1,g2⟩,g3,g4⟩,rfl⟩
   simp [hk,hNi]
   refine ⟨by omega,?_⟩
   refine wpLoop_count (fun j e=>∃ a b:List Int,((a.length=j∧∀ v∈a,0≤v∧v<N)∧b.length=j∧∀ v∈b,0≤v∧v<N)∧e=fr [(2,some (.val (.mem .own none [tb f,tb s]))),(3,some (.val (.mem .own none [tb f',tb s']))),(4,some (.val (.mem .own none [nil,nil]))),(5,some (.val (I n))),(6,some (.val (I m))),(7,some (.val (.mem .own none [ownN2 F,ownN2 S]))),(8,some (.val (I k))),(9,some (.val (ownL a))),(10,some (.val (ownL b))),(11,some (.val (I j)))]) N ?_ ?_ 0 _ (by omega) ⟨[],[],⟨⟨rfl,by simp⟩,rfl,by simp⟩,rfl⟩
   · rintro j e hj ⟨a,b,⟨⟨i1,i2⟩,i3,i4⟩,rfl⟩
     have q1:=hdv k hk
     have q2:=hdv j hj
     have r1:=hmd k
     have r2:=hmd j
     have d1:=tdivN k m
     have d2:=tdivN j m
     have d3:=tmodN k m
     have d4:=tmodN j m
     generalize k / m=A at *
     generalize j / m=B at *
     generalize k % m=C at *
     generalize j % m=D at *
     obtain ⟨u1,u2,u3,u4,u5⟩:=hA.1.at q1 q2
     obtain ⟨v1,v2,v3,v4,v5⟩:=hA.2.at q1 q2
     obtain ⟨x1,x2,x3,x4,x5⟩:=hB.1.at r1 r2
     obtain ⟨y1,y2,y3,y4,y5⟩:=hB.2.at r1 r2
     have m1:=mul_lt u4 u5 x4 x5 (by omega)
     have m2:=mul_lt v4 v5 y4 y5 (by omega)
     rw [← hNe] at m1 m2
     simp [hj,hNi,d1,d2,d3,d4,hm0'',q1,q2,r1,r2,hfl,hsl,hfl',hsl',u3,v3,x3,y3]
     exact ⟨by omega,by omega,by omega,by omega,by omega,by unfold roomy;omega,by omega,by omega,by omega,by omega,by unfold roomy;omega,by omega,a++[f[A][B]*m+f'[C][D]],b++[s[A][B]*m+s'[C][D]],⟨⟨by simp [i1],snoc_in i2 (by omega)⟩,by simp [i3],snoc_in i4 (by omega)⟩,by simp only [ownL,List.map_append,List.map_cons,List.map_nil]⟩
   · rintro e ⟨a,b,⟨⟨i1,i2⟩,i3,i4⟩,rfl⟩
     by_cases hk0:k=0
     · subst hk0
       obtain rfl:F=[]:=List.length_eq_zero_iff.1 g1
       obtain rfl:S=[]:=List.length_eq_zero_iff.1 g3
       simp [hNi]
       exact ⟨by omega,by unfold roomy;omega,[a],[b],⟨⟨rfl,one_row ⟨i1,i2⟩⟩,rfl,one_row ⟨i3,i4⟩⟩,rfl⟩
     · rw [ownN2_ne g1 (by omega),ownN2_ne g3 (by omega)]
       simp [hNi]
       exact ⟨by omega,by unfold roomy;omega,by unfold roomy;omega,by omega,F++[a],S++[b],⟨TabN.snoc ⟨g1,g2⟩ ⟨i1,i2⟩,TabN.snoc ⟨g3,g4⟩ ⟨i3,i4⟩⟩,by simp only [ownN2_snoc]⟩
 · rintro e ⟨F,S,⟨⟨g1,g2⟩,g3,g4⟩,rfl⟩
   rw [ownN2_ne g1 hN,ownN2_ne g3 hN]
   simp [hNi]
   refine ⟨by omega,?_⟩
   subst hR
   exact ⟨(F,S),⟨⟨g1,g2⟩,g3,g4⟩,by simp [post,c_spec_l02Product]⟩
def S_uni (pg:Pg):Prop:=∀ (n m:Nat) (f s f' s':List (List Int)),0<n→0<m→n+m≤64→PMN n f s→PMN m f' s'→∃ X:List (List Int)×List (List Int),PMN (n+m) X.1 X.2∧Call pg 460 [sol f s,sol f' s'] [sol f s,sol f' s'] (ownS X)
set_option maxRecDepth 10000 in
theorem t_uni {pg:Pg} (hp:pg.fn 460=some c_spec_l02Union):S_uni pg:=by
 intro n m f s f' s' hn0 hm0 hnm hA hB
 have hfl:=hA.1.1
 have hsl:=hA.2.1
 have hfl':=hB.1.1
 have hsl':=hB.2.1
 obtain ⟨N,hNe⟩:∃ N,N=n+m:=⟨_,rfl⟩
 have hNi:(n:Int)+m=N:=by rw [hNe];simp
 rw [← hNe] at hnm ⊢
 have hN:0<N:=by omega
 refine Call.find hp rfl (by simp) ?_
 show wp _ _ c_spec_l02Union.body _ _
 generalize hR:(fun (x:X) (e:Env)=>∃ l:List (List Int)×List (List Int),PMN N l.1 l.2∧post c_spec_l02Union.rs [sol f s,sol f' s'] [sol f s,sol f' s'] (ownS l) x e)=R
 simp [c_spec_l02Union]
 refine wpLoop_count (fun k e=>∃ F S:List (List Int),((F.length=k∧∀ r∈F,RowIn N r)∧S.length=k∧∀ r∈S,RowIn N r)∧e=fr [(2,some (.val (.mem .own none [tb f,tb s]))),(3,some (.val (.mem .own none [tb f',tb s']))),(4,some (.val (.mem .own none [nil,nil]))),(5,some (.val (I n))),(6,some (.val (I m))),(7,some (.val (.mem .own none [ownN2 F,ownN2 S]))),(8,some (.val (I k)))]) N ?_ ?_ 0 _ (by omega) ⟨[],[],⟨⟨rfl,by simp⟩,rfl,by simp⟩,by simp [hfl,hfl']⟩
 · rintro k e hk ⟨F,S,⟨⟨g1,g2⟩,g3,g4⟩,rfl⟩
   simp [hk,hNi]
   refine ⟨by omega,?_⟩
   refine wpLoop_count (fun j e=>∃ a b:List Int,((a.length=j∧∀ v∈a,0≤v∧v<N)∧b.length=j∧∀ v∈b,0≤v∧v<N)∧e=fr [(2,some (.val (.mem .own none [tb f,tb s]))),(3,some (.val (.mem .own none [tb f',tb s']))),(4,some (.val (.mem .own none [nil,nil]))),(5,some (.val (I n))),(6,some (.val (I m))),(7,some (.val (.mem .own none [ownN2 F,ownN2 S]))),(8,some (.val (I k))),(9,some (.val (ownL a))),(10,some (.val (ownL b))),(11,some (.val (I j)))]) N ?_ ?_ 0 _ (by omega) ⟨[],[],⟨⟨rfl,by simp⟩,rfl,by simp⟩,rfl⟩
   · rintro j e hj ⟨a,b,⟨⟨i1,i2⟩,i3,i4⟩,rfl⟩
     by_cases ck:k<n
     · by_cases cj:j<n
       · obtain ⟨u1,u2,u3,u4,u5⟩:=hA.1.at ck cj
         obtain ⟨v1,v2,v3,v4,v5⟩:=hA.2.at ck cj
         simp [hj,hNi,ck,cj,hfl,hsl,u3,v3]
         exact ⟨by omega,by unfold roomy;omega,by unfold roomy;omega,by omega,a++[f[k][j]],b++[s[k][j]],⟨⟨by simp [i1],snoc_in i2 (by omega)⟩,by simp [i3],snoc_in i4 (by omega)⟩,by simp only [ownL,List.map_append,List.map_cons,List.map_nil]⟩
       · have ck':¬n≤k:=by omega
         simp [hj,hNi,ck,cj,ck',undefV]
         exact ⟨by omega,by unfold roomy;omega,by unfold roomy;omega,by omega,a++[(j:Int)],b++[(k:Int)],⟨⟨by simp [i1],snoc_in i2 (by omega)⟩,by simp [i3],snoc_in i4 (by omega)⟩,by simp only [ownL,List.map_append,List.map_cons,List.map_nil]⟩
     · have ck':n≤k:=by omega
       by_cases cj:n≤j
       · obtain ⟨A,hAk⟩:∃ A:Nat,(k:Int)-n=A:=⟨k-n,by omega⟩
         obtain ⟨B,hBj⟩:∃ B:Nat,(j:Int)-n=B:=⟨j-n,by omega⟩
         have cA:A<m:=by omega
         have cB:B<m:=by omega
         obtain ⟨u1,u2,u3,u4,u5⟩:=hB.1.at cA cB
         obtain ⟨v1,v2,v3,v4,v5⟩:=hB.2.at cA cB
         simp [hj,hNi,ck,ck',cj,cA,cB,hfl',hsl',u3,v3,hAk,hBj,undefV]
         exact ⟨by omega,by omega,by omega,by omega,by unfold roomy;omega,by omega,by omega,by omega,by unfold roomy;omega,by omega,a++[f'[A][B]+n],b++[s'[A][B]+n],⟨⟨by simp [i1],snoc_in i2 (by omega)⟩,by simp [i3],snoc_in i4 (by omega)⟩,by simp only [ownL,List.map_append,List.map_cons,List.map_nil]⟩
       · simp [hj,hNi,ck,cj,ck',undefV]
         exact ⟨by omega,by unfold roomy;omega,by unfold roomy;omega,by omega,a++[(j:Int)],b++[(k:Int)],⟨⟨by simp [i1],snoc_in i2 (by omega)⟩,by simp [i3],snoc_in i4 (by omega)⟩,by simp only [ownL,List.map_append,List.map_cons,List.map_nil]⟩
   · rintro e ⟨a,b,⟨⟨i1,i2⟩,i3,i4⟩,rfl⟩
     by_cases hk0:k=0
     · subst hk0
       obtain rfl:F=[]:=List.length_eq_zero_iff.1 g1
       obtain rfl:S=[]:=List.length_eq_zero_iff.1 g3
       simp [hNi]
       exact ⟨by omega,by unfold roomy;omega,[a],[b],⟨⟨rfl,one_row ⟨i1,i2⟩⟩,rfl,one_row ⟨i3,i4⟩⟩,rfl⟩
     · rw [ownN2_ne g1 (by omega),ownN2_ne g3 (by omega)]
       simp [hNi]
       exact ⟨by omega,by unfold roomy;omega,by unfold roomy;omega,by omega,F++[a],S++[b],⟨TabN.snoc ⟨g1,g2⟩ ⟨i1,i2⟩,TabN.snoc ⟨g3,g4⟩ ⟨i3,i4⟩⟩,by simp only [ownN2_snoc]⟩
 · rintro e ⟨F,S,⟨⟨g1,g2⟩,g3,g4⟩,rfl⟩
   rw [ownN2_ne g1 hN,ownN2_ne g3 hN]
   simp [hNi]
   refine ⟨by omega,?_⟩
   subst hR
   exact ⟨(F,S),⟨⟨g1,g2⟩,g3,g4⟩,by simp [post,c_spec_l02Union]⟩
end Go.Mch
namespace Go.Mch
theorem zeroT_tabN {n:Nat} (h:0<n):TabN n (zeroT n n):=by
 refine ⟨by simp [zeroT],fun r hr=>?_⟩
 simp only [zeroT,List.mem_replicate] at hr
 rw [hr.2]
 refine ⟨by simp,fun v hv=>?_⟩
 simp only [List.mem_replicate] at hv
 omega
theorem TabN.set2 {n i j:Nat} {t:List (List Int)} {v:Int} (h:TabN n t) (hi:i<t.length) (hv:0≤v∧v<n):TabN n (t.set i (t[i].set j v)):=by
 refine ⟨by simpa using h.1,fun x hx=>?_⟩
 rcases List.mem_or_eq_of_mem_set hx with h1 | h1
 · exact h.2 x h1
 · rw [h1];exact (h.2 _ (List.getElem_mem hi)).set hv
def S_invW (pg:Pg):Prop:=∀ (n:Nat) (f s:List (List Int)),0<n→n≤64→PMN n f s→∃ X:List (List Int)×List (List Int),PMN n X.1 X.2∧Call pg 406 [sol f s] [sol f s] (ownS X)
set_option maxRecDepth 10000 in
theorem t_invW {pg:Pg} (hp:pg.fn 406=some c_spec_l02Inverse) (h398:S_empty pg):S_invW pg:=by
 intro n f s h0 hn hA
 have hfl:=hA.1.1
 have hsl:=hA.2.1
 refine Call.find hp rfl (by simp) ?_
 show wp _ _ c_spec_l02Inverse.body _ _
 generalize hR:(fun (x:X) (e:Env)=>∃ l:List (List Int)×List (List Int),PMN n l.1 l.2∧post c_spec_l02Inverse.rs [sol f s] [sol f s] (ownS l) x e)=R
 simp [c_spec_l02Inverse]
 rw [hfl]
 refine callR (h398 n h0 (by omega)) rfl rfl (fun _=>by simp) ?_
 simp
 refine wpLoop_count (fun a e=>∃ F S:List (List Int),PMN n F S∧e=fr [(1,some (.val (.mem .own none [tb f,tb s]))),(2,some (.val (.mem .own none [nil,nil]))),(3,some (.val (I n))),(4,some (.val (.mem .own none [ownTb F,ownTb S]))),(5,some (.val (I a)))]) n ?_ ?_ 0 _ (by omega) ⟨zeroT n n,zeroT n n,⟨zeroT_tabN h0,zeroT_tabN h0⟩,rfl⟩
 · rintro a e ha ⟨F,S,hX,rfl⟩
   simp [ha]
   refine wpLoop_count (fun b e=>∃ F S:List (List Int),PMN n F S∧e=fr [(1,some (.val (.mem .own none [tb f,tb s]))),(2,some (.val (.mem .own none [nil,nil]))),(3,some (.val (I n))),(4,some (.val (.mem .own none [ownTb F,ownTb S]))),(5,some (.val (I a))),(6,some (.val (I b)))]) n ?_ ?_ 0 _ (by omega) ⟨F,S,hX,by simp⟩
   · rintro b e hb ⟨F,S,hX,rfl⟩
     obtain ⟨u1,u2,u3,u4,u5⟩:=hA.1.at ha hb
     obtain ⟨v1,v2,v3,v4,v5⟩:=hA.2.at ha hb
     obtain ⟨P,hP⟩:∃ P:Nat,(f[a])[b]=P:=⟨((f[a])[b]).toNat,by omega⟩
     obtain ⟨Q,hQ⟩:∃ Q:Nat,(s[a])[b]=Q:=⟨((s[a])[b]).toNat,by omega⟩
     rw [hP] at u4 u5
     rw [hQ] at v4 v5
     have hPn:P<n:=by omega
     have hQn:Q<n:=by omega
     obtain ⟨x1,x2,x3,_⟩:=hX.1.at hPn hQn
     obtain ⟨y1,y2,y3,_⟩:=hX.2.at hPn hQn
     have w1:=hX.1.1
     have w2:=hX.2.1
     have hg1:(rows F)[P]?=some (ownL F[P]):=by rw [rows_get,List.getElem?_eq_getElem x1];rfl
     have hg2:(rows S)[P]?=some (ownL S[P]):=by rw [rows_get,List.getElem?_eq_getElem y1];rfl
     simp [hb,ha,hfl,hsl,u3,v3,hP,hQ,hPn,hQn,x3,y3,w1,w2]
     exact ⟨by omega,by omega,F.set P (F[P].set Q a),S.set P (S[P].set Q b),⟨hX.1.set2 x1 ⟨by omega,by omega⟩,hX.2.set2 y1 ⟨by omega,by omega⟩⟩,by simp only [ownTb,← rows_set2 x1,← rows_set2 y1]⟩
   · rintro e ⟨F,S,hX,rfl⟩
     simp
     exact ⟨by omega,F,S,hX,rfl⟩
 · rintro e ⟨F,S,hX,rfl⟩
   simp
   subst hR
   exact ⟨(F,S),hX,by simp [post,c_spec_l02Inverse]⟩
def okR2 (n:Nat) (R:List (List Int)):Prop:=TabN n R∧∀ x y,x<n→y<n→0≤ixOf (R.getD (v2 R x y).toNat []) x
def S_ivl (pg:Pg):Prop:=∀ (n:Nat) (R:List (List Int)),0<n→n≤64→okR2 n R→∃ X:List (List Int)×List (List Int),PMN n X.1 X.2∧Call pg 461 [tb R] [tb R] (ownS X)
set_option maxRecDepth 10000 in
theorem t_ivl {pg:Pg} (hp:pg.fn 461=some c_spec_l02Involutive) (h280:S_copyT pg 280) (h69:S_index pg):S_ivl pg:=by
 intro n R h0 hn ⟨hA,hI⟩
 have hRl:=hA.1
 have hfit:fits R:=⟨by omega,fun r hr=>by have:=(hA.2 r hr).1;omega⟩
 refine Call.find hp rfl (by simp) ?_
 show wp _ _ c_spec_l02Involutive.body _ _
 generalize hR:(fun (x:X) (e:Env)=>∃ l:List (List Int)×List (List Int),PMN n l.1 l.2∧post c_spec_l02Involutive.rs [tb R] [tb R] (ownS l) x e)=Rr
 simp [c_spec_l02Involutive]
 refine callR (h280 R hfit) rfl rfl (fun _=>by simp) ?_
 simp
 refine wpLoop_count (fun k e=>∃ s:List (List Int),(s.length=k∧∀ r∈s,RowIn n r)∧e=fr [(0,some (.val (tb R))),(2,some (.val (.mem .own none [nil,nil]))),(3,some (.val (.mem .own none [ownTb R,ownN2 s]))),(4,some (.val (I k)))]) n ?_ ?_ 0 _ (by omega) ⟨[],⟨rfl,by simp⟩,rfl⟩
 · rintro k e hk ⟨s,⟨g3,g4⟩,rfl⟩
   simp [hk,hRl]
   refine wpLoop_count (fun j e=>∃ b:List Int,(b.length=j∧∀ v∈b,0≤v∧v<n)∧e=fr [(0,some (.val (tb R))),(2,some (.val (.mem .own none [nil,nil]))),(3,some (.val (.mem .own none [ownTb R,ownN2 s]))),(4,some (.val (I k))),(5,some (.val (ownL b))),(6,some (.val (I j)))]) n ?_ ?_ 0 _ (by omega) ⟨[],⟨rfl,by simp⟩,rfl⟩
   · rintro j e hj ⟨b,⟨i3,i4⟩,rfl⟩
     obtain ⟨u1,u2,u3,u4,u5⟩:=hA.at hk hj
     have hv:=get_v2 u1 u2
     have hii:=hI k j hk hj
     rw [hv] at u4 u5
     obtain ⟨P,hP⟩:∃ P:Nat,v2 R k j=P:=⟨(v2 R k j).toNat,by omega⟩
     rw [hP] at hv u4 u5 hii
     have hPn:P<n:=by omega
     have hPl:P<R.length:=by omega
     have hrow:=hA.2 _ (List.getElem_mem hPl)
     have hg:R.getD P []=R[P]:=by simp [hPl]
     rw [Int.toNat_natCast,hg] at hii
     have hle:=(ixOf_le R[P] k).2
     have hc:=h69 R[P] k (by have:=hrow.1;omega)
     generalize ixOf R[P] k=z at *
     simp [hj,hRl,hk,u3,hv,hPn]
     refine callR hc rfl rfl (fun _=>rfl) ?_
     have hz:=hrow.1
     simp
     exact ⟨by unfold roomy;omega,by omega,b++[z],⟨by simp [i3],snoc_in i4 (by omega)⟩,by simp only [ownL,List.map_append,List.map_cons,List.map_nil]⟩
   · rintro e ⟨b,⟨i3,i4⟩,rfl⟩
     by_cases hk0:k=0
     · subst hk0
       obtain rfl:s=[]:=List.length_eq_zero_iff.1 g3
       simp [hRl]
       exact ⟨by unfold roomy;omega,[b],⟨rfl,one_row ⟨i3,i4⟩⟩,rfl⟩
     · rw [ownN2_ne g3 (by omega)]
       simp [hRl]
       exact ⟨by unfold roomy;omega,by omega,s++[b],TabN.snoc ⟨g3,g4⟩ ⟨i3,i4⟩,by simp only [ownN2_snoc]⟩
 · rintro e ⟨s,⟨g3,g4⟩,rfl⟩
   rw [ownN2_ne g3 h0]
   simp [hRl]
   subst hR
   exact ⟨(R,s),⟨hA,g3,g4⟩,by simp [post,c_spec_l02Involutive]⟩
theorem thenL_rowIn {n:Nat} {p q:List Int} (hp:RowIn n p) (hq:RowIn n q):RowIn n (thenL p q):=by
 refine ⟨by simp [thenL,hp.1],fun v hv=>?_⟩
 obtain ⟨x,hx,rfl⟩:=List.mem_map.1 hv
 have h1:=hp.2 x hx
 have h2:x.toNat<q.length:=by rw [hq.1];omega
 rw [List.getD_eq_getElem?_getD,List.getElem?_eq_getElem h2]
 exact hq.2 _ (List.getElem_mem h2)
def S_twd (pg:Pg):Prop:=∀ (c:Rw Int) (s:Int×Int) (n:Nat),Sr c s→0<n→n≤64→∃ (s':Int×Int) (X:List (List Int)×List (List Int)),(Sr c s'∧PMN n X.1 X.2)∧Call pg 459 [src c s,I n] [src c s',I n] (ownS X)
set_option maxRecDepth 10000 in
theorem t_twd {pg:Pg} (hp:pg.fn 459=some c_spec_l02Twisted) (h336:S_nxt pg) (h368:S_drw pg) (h334:S_unit pg) (h279:S_then pg 279) (h425:S_twst pg):S_twd pg:=by
 intro c s n hs h0 hn
 have hfind:=Call.findA (α:=(Int×Int)×(List (List Int)×List (List Int))) (Q:=fun Y=>Sr c Y.1∧PMN n Y.2.1 Y.2.2) (args:=[src c s,I n]) (args':=fun Y=>[src c Y.1,I n]) (r:=fun Y=>ownS Y.2) hp rfl (by simp [F.lets,c_spec_l02Twisted,List.range,List.range.loop]) (by simp [kindOf]) ?_
 · obtain ⟨Y,h1,h2⟩:=hfind
   exact ⟨_,_,h1,h2⟩
 show wp _ _ c_spec_l02Twisted.body (postX _ _ _ _ _) _
 generalize hR:postX (fun Y:(Int×Int)×(List (List Int)×List (List Int))=>Sr c Y.1∧PMN n Y.2.1 Y.2.2) c_spec_l02Twisted.rs [src c s,I n] (fun Y=>[src c Y.1,I n]) (fun Y=>ownS Y.2)=R
 obtain ⟨s1,p,⟨k1,k2,_⟩,hc1⟩:=h368 c s n hs hn
 obtain ⟨s2,r,⟨k3,k3'⟩,hc2⟩:=h336.at k1 (n:=4) (by omega)
 simp [c_spec_l02Twisted]
 refine callS (ts':=[rawB c,I s1.1,H64 s1.2]) (r:=ownL p) (by simpa using hc1) ?_
 simp
 refine callR (h334 n (by omega)) rfl rfl (fun _=>by simp) ?_
 simp
 refine callS (ts':=[rawB c,I s2.1,H64 s2.2]) (r:=I r) (by simpa using hc2) ?_
 simp
 refine wpLoop_lower (α:=List Int×Nat) (fun z=>z.2) (fun z e=>(RowIn n z.1∧z.2≤4)∧e=fr [(0,some (.val (src c s2))),(1,some (.val (I n))),(4,some (.val (.mem .own none [nil,nil]))),(5,some (.val (ownL p))),(6,some (.val (ownL z.1))),(7,some (.val (I z.2)))]) ?_ (idL n,r) _ ⟨⟨(idL_rowIn n).1,by simp only;omega⟩,rfl⟩
 rintro ⟨q,j⟩ e ⟨⟨g1,g2⟩,rfl⟩
 simp only at g1 g2
 by_cases hj:0<j
 · have hql:=g1.1
   have hpl:=k2.1
   have hc3:=h279 q p (by omega) (by unfold inN;rw [hpl];exact g1.2)
   simp [hj]
   refine callR hc3 rfl rfl (fun _=>by simp) ?_
   simp
   exact ⟨by omega,thenL q p,j-1,by omega,⟨thenL_rowIn g1 k2,by omega⟩,by
    have:(j:Int)-1=((j-1:Nat):Int):=by omega
    rw [this]⟩
 · obtain rfl:j=0:=by omega
   obtain ⟨s3,b,⟨k4,_⟩,hc4⟩:=h336.at k3 (n:=2) (by omega)
   simp
   refine callS (ts':=[rawB c,I s3.1,H64 s3.2]) (r:=I b) (by simpa using hc4) ?_
   by_cases hb:b=0
   · obtain ⟨X,⟨hX,_⟩,hc5⟩:=h425 n p q h0 hn k2 g1
     simp [hb]
     refine callR hc5 rfl rfl (fun _=>by simp) ?_
     simp
     subst hR
     exact ⟨(s3,X),⟨k4,hX⟩,by simp [post,c_spec_l02Twisted]⟩
   · obtain ⟨X,⟨hX,_⟩,hc5⟩:=h425 n q p h0 hn g1 k2
     simp [hb]
     refine callR hc5 rfl rfl (fun _=>by simp) ?_
     simp
     subst hR
     exact ⟨(s3,X),⟨k4,hX⟩,by simp [post,c_spec_l02Twisted]⟩
end Go.Mch
namespace Go.Mch
abbrev S2:=List (List Int)×List (List Int)
def rw4:List (List Int):=[[0,1,3,2],[0,1,3,2],[1,0,2,3],[1,0,2,3]]
def rw3:List (List Int):=[[0,1,2],[0,1,2],[1,0,2]]
theorem rw4_ok:okR2 4 rw4:=by
 refine ⟨⟨rfl,fun r hr=>?_⟩,fun x y hx hy=>?_⟩
 · simp only [rw4,List.mem_cons,List.not_mem_nil,or_false] at hr
   rcases hr with rfl | rfl | rfl | rfl <;> exact ⟨rfl,by decide⟩
 · have:∀ x<4,∀ y<4,0≤ixOf (rw4.getD (v2 rw4 x y).toNat []) x:=by decide
   exact this x hx y hy
theorem rw3_ok:okR2 3 rw3:=by
 refine ⟨⟨rfl,fun r hr=>?_⟩,fun x y hx hy=>?_⟩
 · simp only [rw3,List.mem_cons,List.not_mem_nil,or_false] at hr
   rcases hr with rfl | rfl | rfl <;> exact ⟨rfl,by decide⟩
 · have:∀ x<3,∀ y<3,0≤ixOf (rw3.getD (v2 rw3 x y).toNat []) x:=by decide
   exact this x hx y hy
def S_anyM (pg:Pg) (most:Nat):Prop:=∀ (c:Rw Int) (s:Int×Int),Sr c s→∃ (s':Int×Int) (n:Nat) (X:S2),(Sr c s'∧0<n∧n≤most∧PMN n X.1 X.2)∧Call pg 445 [src c s,I most] [src c s',I most] (ownS X)
def S_any (pg:Pg):Prop:=∀ most:Nat,0<most→most≤12→S_anyM pg most
set_option maxRecDepth 10000 in
theorem t_any {pg:Pg} (hp:pg.fn 445=some c_spec_l02Any) (h336:S_nxt pg) (h449:S_flp pg) (h423:S_poly pg) (h458:S_prd pg) (h459:S_twd pg) (h460:S_uni pg) (h461:S_ivl pg) (h406:S_invW pg):S_any pg:=by
 intro most
 induction most using Nat.strongRecOn with
 | _ most ih =>
 intro m0 m12 c s hs
 have hfind:=Call.findA (α:=(Int×Int)×Nat×S2) (Q:=fun Y=>Sr c Y.1∧0<Y.2.1∧Y.2.1≤most∧PMN Y.2.1 Y.2.2.1 Y.2.2.2) (args:=[src c s,I most]) (args':=fun Y=>[src c Y.1,I most]) (r:=fun Y=>ownS Y.2.2) hp rfl (by simp [F.lets,c_spec_l02Any,List.range,List.range.loop]) (by simp [kindOf]) ?_
 · obtain ⟨Y,h1,h2⟩:=hfind
   exact ⟨_,_,_,h1,h2⟩
 show wp _ _ c_spec_l02Any.body (postX _ _ _ _ _) _
 generalize hR:postX (fun Y:(Int×Int)×Nat×S2=>Sr c Y.1∧0<Y.2.1∧Y.2.1≤most∧PMN Y.2.1 Y.2.2.1 Y.2.2.2) c_spec_l02Any.rs [src c s,I most] (fun Y=>[src c Y.1,I most]) (fun Y=>ownS Y.2.2)=R
 have hfin:∀ (s':Int×Int) (k:Nat) (X:S2),Sr c s'→0<k→k≤most→PMN k X.1 X.2→R .ret (fr [(0,some (.val (src c s'))),(1,some (.val (I most))),(4,some (.val (.mem .own none [ownTb X.1,ownTb X.2])))]):=by
  intro s' k X a1 a2 a3 a4
  subst hR
  exact ⟨(s',k,X),⟨a1,a2,a3,a4⟩,by simp [post,c_spec_l02Any]⟩
 obtain ⟨s1,r1,⟨k1,k2⟩,hc1⟩:=h336.at hs (n:=most) m0
 obtain ⟨s2,kd,⟨k3,k4⟩,hc2⟩:=h336.at k1 (n:=8) (by omega)
 obtain ⟨n,hn⟩:∃ n:Nat,(1:Int)+r1=n:=⟨1+r1,by omega⟩
 have hn0:0<n:=by omega
 have hnm:n≤most:=by omega
 simp [c_spec_l02Any]
 refine callS (ts':=[rawB c,I s1.1,H64 s1.2]) (r:=I r1) (by simpa using hc1) ?_
 simp [hn]
 refine ⟨by omega,?_⟩
 refine callS (ts':=[rawB c,I s2.1,H64 s2.2]) (r:=I kd) (by simpa using hc2) ?_
 obtain ⟨sL,XL,⟨jL1,jL2⟩,hcL⟩:=h459 c s2 n k3 hn0 (by omega)
 simp
 rcases (by omega:kd=0∨kd=1∨kd=2∨kd=3∨kd=4∨kd=5∨kd=6∨kd=7) with rfl | rfl | rfl | rfl | rfl | rfl | rfl | rfl
 · obtain ⟨X,⟨hX,_⟩,hc⟩:=h449 n hn0 (by omega)
   simp
   refine callR hc rfl rfl (fun _=>by simp) ?_
   simp
   exact hfin s2 n X k3 hn0 hnm hX
 · obtain ⟨X,hX,hc⟩:=h423 n hn0 (by omega)
   simp
   refine callR hc rfl rfl (fun _=>by simp) ?_
   simp
   exact hfin s2 n X k3 hn0 hnm hX
 · obtain ⟨q,hq,hq2⟩:∃ q:Nat,(n:Int) / 2=q∧q=n / 2:=⟨n / 2,by omega,rfl⟩
   have e1:(n:Int).tmod 2=(n:Int) % 2:=by rw [Int.tmod_eq_emod_of_nonneg (by omega)]
   by_cases h4:4≤n
   · have h4':(4:Int)≤n:=by omega
     by_cases hev:(n:Int) % 2=0
     · obtain ⟨s3,X,⟨j1,j2⟩,hc3⟩:=h459 c s2 q k3 (by omega) (by omega)
       obtain ⟨s4,Y,⟨j3,j4⟩,hc4⟩:=h459 c s3 2 j1 (by omega) (by omega)
       obtain ⟨Z,hZ,hc5⟩:=h458 q 2 X.1 X.2 Y.1 Y.2 (by omega) (by omega) (by omega) j2 j4
       rw [show q*2=n by omega] at hZ
       simp [h4',hev,e1,hq]
       refine ⟨by omega,?_⟩
       refine callS (ts':=[rawB c,I s3.1,H64 s3.2]) (r:=ownS X) (by simpa using hc3) ?_
       simp
       refine callS (ts':=[rawB c,I s4.1,H64 s4.2]) (r:=ownS Y) (by simpa using hc4) ?_
       simp
       refine callR hc5 rfl rfl (fun _=>by simp) ?_
       simp
       exact hfin s4 n Z j3 hn0 hnm hZ
     · simp [h4',hev,e1]
       refine callS (ts':=[rawB c,I sL.1,H64 sL.2]) (r:=ownS XL) (by simpa using hcL) ?_
       simp
       exact hfin sL n XL jL1 hn0 hnm jL2
   · have h4':¬(4:Int)≤n:=by omega
     simp [h4',undefV]
     refine callS (ts':=[rawB c,I sL.1,H64 sL.2]) (r:=ownS XL) (by simpa using hcL) ?_
     simp
     exact hfin sL n XL jL1 hn0 hnm jL2
 · by_cases h2:2≤n
   · have h2':(2:Int)≤n:=by omega
     obtain ⟨n1,hn1⟩:∃ n1:Nat,(n:Int)-1=n1:=⟨n-1,by omega⟩
     obtain ⟨s3,r3,⟨j1,j2⟩,hc3⟩:=h336.at k3 (n:=n1) (by omega)
     obtain ⟨m,hm⟩:∃ m:Nat,(1:Int)+r3=m:=⟨1+r3,by omega⟩
     obtain ⟨d,hd⟩:∃ d:Nat,(n:Int)-m=d:=⟨n-m,by omega⟩
     obtain ⟨s4,k,X,⟨j3,j4,j5,j6⟩,hc4⟩:=ih m (by omega) (by omega) (by omega) c s3 j1
     obtain ⟨s5,Y,⟨j7,j8⟩,hc5⟩:=h459 c s4 d j3 (by omega) (by omega)
     obtain ⟨Z,hZ,hc6⟩:=h460 k d X.1 X.2 Y.1 Y.2 j4 (by omega) (by omega) j6 j8
     simp [h2',hn1]
     refine ⟨by omega,?_⟩
     refine callS (ts':=[rawB c,I s3.1,H64 s3.2]) (r:=I r3) (by simpa using hc3) ?_
     simp [hm]
     refine ⟨by omega,?_⟩
     refine callS (ts':=[rawB c,I s4.1,H64 s4.2]) (r:=ownS X) (by simpa using hc4) ?_
     simp [hd]
     refine ⟨by omega,?_⟩
     refine callS (ts':=[rawB c,I s5.1,H64 s5.2]) (r:=ownS Y) (by simpa using hc5) ?_
     simp
     refine callR hc6 rfl rfl (fun _=>by simp) ?_
     simp
     exact hfin s5 (k+d) Z j7 (by omega) (by omega) hZ
   · have h2':¬(2:Int)≤n:=by omega
     simp [h2']
     refine callS (ts':=[rawB c,I sL.1,H64 sL.2]) (r:=ownS XL) (by simpa using hcL) ?_
     simp
     exact hfin sL n XL jL1 hn0 hnm jL2
 · by_cases h4:4≤most
   · have h4':(4:Int)≤most:=by omega
     obtain ⟨Z,hZ,hc6⟩:=h461 4 rw4 (by omega) (by omega) rw4_ok
     simp [h4']
     refine callR hc6 rfl rfl (fun _=>by simp) ?_
     simp
     exact hfin s2 4 Z k3 (by omega) (by omega) hZ
   · have h4':¬(4:Int)≤most:=by omega
     simp [h4']
     refine callS (ts':=[rawB c,I sL.1,H64 sL.2]) (r:=ownS XL) (by simpa using hcL) ?_
     simp
     exact hfin sL n XL jL1 hn0 hnm jL2
 · by_cases h2:2≤n
   · have h2':(2:Int)≤n:=by omega
     obtain ⟨X,hX,hc⟩:=h423 n hn0 (by omega)
     obtain ⟨Z,hZ,hc6⟩:=h406 n X.1 X.2 hn0 (by omega) hX
     simp [h2']
     refine callR hc rfl rfl (fun _=>by simp) ?_
     simp
     refine callR hc6 rfl rfl (fun _=>by simp) ?_
     simp
     exact hfin s2 n Z k3 hn0 hnm hZ
   · have h2':¬(2:Int)≤n:=by omega
     simp [h2']
     refine callS (ts':=[rawB c,I sL.1,H64 sL.2]) (r:=ownS XL) (by simpa using hcL) ?_
     simp
     exact hfin sL n XL jL1 hn0 hnm jL2
 · by_cases h4:3≤most
   · have h4':(3:Int)≤most:=by omega
     obtain ⟨Z,hZ,hc6⟩:=h461 3 rw3 (by omega) (by omega) rw3_ok
     simp [h4']
     refine callR hc6 rfl rfl (fun _=>by simp) ?_
     simp
     exact hfin s2 3 Z k3 (by omega) (by omega) hZ
   · have h4':¬(3:Int)≤most:=by omega
     simp [h4']
     refine callS (ts':=[rawB c,I sL.1,H64 sL.2]) (r:=ownS XL) (by simpa using hcL) ?_
     simp
     exact hfin sL n XL jL1 hn0 hnm jL2
 · simp
   refine callS (ts':=[rawB c,I sL.1,H64 sL.2]) (r:=ownS XL) (by simpa using hcL) ?_
   simp
   exact hfin sL n XL jL1 hn0 hnm jL2
end Go.Mch
namespace Go.Mch
theorem TabN.tab {n:Nat} {t:List (List Int)} (h:TabN n t):Tab t:=fun r hr=>⟨by rw [(h.2 r hr).1,h.1],fun v hv=>by rw [h.1];exact (h.2 r hr).2 v hv⟩
theorem pm_of {n:Nat} {p:List Int} (h:RowIn n p) (hd:p.Nodup) (h0:0<n) (h12:n≤12):Pm p:=by
 have hl:=h.1
 exact ⟨⟨fun x hx=>by rw [hl];exact h.2 x hx,hd⟩,by omega,by omega⟩
def S_dr2 (pg:Pg):Prop:=∀ (c:Rw Int) (s:Int×Int) (most:Nat),Sr c s→0<most→most≤12→∃ (s':Int×Int) (n:Nat) (X:S2),(Sr c s'∧0<n∧n≤most∧PMN n X.1 X.2)∧Call pg 412 [src c s,I most] [src c s',I most] (ownS X)
set_option maxRecDepth 10000 in
theorem t_dr2 {pg:Pg} (hp:pg.fn 412=some c_spec_l02Draw) (h336:S_nxt pg) (h445:S_any pg) (h368:S_drw pg) (h422:S_renS pg):S_dr2 pg:=by
 intro c s most hs m0 m12
 have hfind:=Call.findA (α:=(Int×Int)×Nat×S2) (Q:=fun Y=>Sr c Y.1∧0<Y.2.1∧Y.2.1≤most∧PMN Y.2.1 Y.2.2.1 Y.2.2.2) (args:=[src c s,I most]) (args':=fun Y=>[src c Y.1,I most]) (r:=fun Y=>ownS Y.2.2) hp rfl (by simp [F.lets,c_spec_l02Draw,List.range,List.range.loop]) (by simp [kindOf]) ?_
 · obtain ⟨Y,h1,h2⟩:=hfind
   exact ⟨_,_,_,h1,h2⟩
 show wp _ _ c_spec_l02Draw.body (postX _ _ _ _ _) _
 generalize hR:postX (fun Y:(Int×Int)×Nat×S2=>Sr c Y.1∧0<Y.2.1∧Y.2.1≤most∧PMN Y.2.1 Y.2.2.1 Y.2.2.2) c_spec_l02Draw.rs [src c s,I most] (fun Y=>[src c Y.1,I most]) (fun Y=>ownS Y.2.2)=R
 have hfin:∀ (s':Int×Int) (k:Nat) (X:S2),Sr c s'→0<k→k≤most→PMN k X.1 X.2→R .ret (fr [(0,some (.val (src c s'))),(1,some (.val (I most))),(4,some (.val (.mem .own none [ownTb X.1,ownTb X.2])))]):=by
  intro s' k X a1 a2 a3 a4
  subst hR
  exact ⟨(s',k,X),⟨a1,a2,a3,a4⟩,by simp [post,c_spec_l02Draw]⟩
 obtain ⟨s1,n,X,⟨k1,k2,k3,k4⟩,hc1⟩:=h445 most m0 m12 c s hs
 obtain ⟨s2,r,⟨k5,_⟩,hc2⟩:=h336.at k1 (n:=4) (by omega)
 obtain ⟨s3,p,⟨k6,k7,k8⟩,hc3⟩:=h368 c s2 n k5 (by omega)
 have hpm:=pm_of k7 k8 k2 (by omega)
 have hl1:=k4.1.1
 have hc4:=h422 X.1 X.2 p k4.1.tab k4.2.tab hpm (by rw [k7.1,k4.1.1]) (by rw [k7.1,k4.2.1])
 simp [c_spec_l02Draw]
 refine callS (ts':=[rawB c,I s1.1,H64 s1.2]) (r:=ownS X) (by simpa using hc1) ?_
 simp
 refine callS (ts':=[rawB c,I s2.1,H64 s2.2]) (r:=I r) (by simpa using hc2) ?_
 by_cases hr:0<r
 · have hl2:=k4.2.1
   simp [hr,hl1,hl2]
   refine callS (ts':=[rawB c,I s3.1,H64 s3.2]) (r:=ownL p) (by simpa using hc3) ?_
   simp [hl1,hl2]
   refine callR hc4 rfl rfl (fun _=>by simp) ?_
   simp
   exact hfin s3 n (imT X.1 p,imT X.2 p) k6 k2 k3 ⟨imT_tabN k4.1 hpm k7.1,imT_tabN k4.2 hpm k7.1⟩
 · simp [hr]
   exact hfin s2 n X k5 k2 k3 k4
theorem rows_set1 (t:List (List Int)) (i:Nat) (r:List Int):(rows t).set i (ownL r)=rows (t.set i r):=by simp [rows,List.map_set]
def Bd (t:List (List Int)):Prop:=t.length≤20∧∀ r∈t,r.length≤20
theorem TabN.bd {n:Nat} {t:List (List Int)} (h:TabN n t) (hn:n≤20):Bd t:=⟨by rw [h.1];exact hn,fun r hr=>by rw [(h.2 r hr).1];exact hn⟩
theorem Bd.set {t:List (List Int)} (h:Bd t) {i:Nat} {r:List Int} (hr:r.length≤20):Bd (t.set i r):=⟨by simpa using h.1,fun x hx=>by
 rcases List.mem_or_eq_of_mem_set hx with h1 | h1
 · exact h.2 x h1
 · rw [h1];exact hr⟩
def S_bad (pg:Pg):Prop:=∀ (c:Rw Int) (s:Int×Int) (n:Nat),Sr c s→0<n→n≤12→∃ (s':Int×Int) (t:List (List Int)),(Sr c s'∧Bd t)∧Call pg 413 [src c s,I n] [src c s',I n] (ownTb t)
set_option maxRecDepth 10000 in
theorem t_bad {pg:Pg} (hp:pg.fn 413=some c_spec_l01Bad) (h336:S_nxt pg) (h428:S_tbs pg) (h334:S_unit pg) (h292:S_pick pg):S_bad pg:=by
 intro c s n hs n0 n12
 have hfind:=Call.findA (α:=(Int×Int)×List (List Int)) (Q:=fun Y=>Sr c Y.1∧Bd Y.2) (args:=[src c s,I n]) (args':=fun Y=>[src c Y.1,I n]) (r:=fun Y=>ownTb Y.2) hp rfl (by simp [F.lets,c_spec_l01Bad,List.range,List.range.loop]) (by simp [kindOf]) ?_
 · obtain ⟨Y,h1,h2⟩:=hfind
   exact ⟨_,_,h1,h2⟩
 show wp _ _ c_spec_l01Bad.body (postX _ _ _ _ _) _
 generalize hR:postX (fun Y:(Int×Int)×List (List Int)=>Sr c Y.1∧Bd Y.2) c_spec_l01Bad.rs [src c s,I n] (fun Y=>[src c Y.1,I n]) (fun Y=>ownTb Y.2)=R
 have hfin:∀ (s':Int×Int) (t:List (List Int)),Sr c s'→Bd t→R .ret (fr [(0,some (.val (src c s'))),(1,some (.val (I n))),(4,some (.val (ownTb t)))]):=by
  intro s' X a1 a2
  subst hR
  exact ⟨(s',X),⟨a1,a2⟩,by simp [post,c_spec_l01Bad]⟩
 obtain ⟨s1,t,⟨k1,k2⟩,hc1⟩:=h428 c s n hs n0 (by omega)
 obtain ⟨s2,kd,⟨k3,k3'⟩,hc2⟩:=h336.at k1 (n:=30) (by omega)
 have hbd:=k2.bd (by omega)
 have htl:=k2.1
 have ht0:0<t.length:=by omega
 have hrow0:=(k2.2 _ (List.getElem_mem ht0)).1
 have hg:(rows t)[0]?=some (ownL t[0]):=by rw [rows_get,List.getElem?_eq_getElem ht0];rfl
 simp [c_spec_l01Bad]
 refine callS (ts':=[rawB c,I s1.1,H64 s1.2]) (r:=ownTb t) (by simpa using hc1) ?_
 simp
 refine callS (ts':=[rawB c,I s2.1,H64 s2.2]) (r:=I kd) (by simpa using hc2) ?_
 simp
 rcases (by omega:kd=0∨kd=1∨kd=2∨kd=3∨kd=4∨5≤kd) with rfl | rfl | rfl | rfl | rfl | hk
 · simp
   refine callR (h334 n (by omega)) rfl rfl (fun _=>by simp) ?_
   simp
   have:=hfin s2 (t++[idL n]) k3 ⟨by simp;omega,fun r hr=>by
    rcases List.mem_append.1 hr with h1 | h1
    · exact hbd.2 r h1
    · rw [List.mem_singleton.1 h1];simp [idL];omega⟩
   exact ⟨by unfold roomy;omega,by simpa only [ownTb,rows_snoc] using this⟩
 · simp [ht0]
   have:=hfin s2 (t.set 0 (t[0]++[0])) k3 (hbd.set (by simp;omega))
   exact ⟨by unfold roomy;omega,by omega,by simpa only [ownTb,← rows_set1,ownL,List.map_append,List.map_cons,List.map_nil] using this⟩
 · obtain ⟨s3,z,⟨j1,_⟩,hc3⟩:=h292 c s2 [-1,n,1099511627776] k3 (by simp) (by simp)
   simp [ht0]
   simp only [ix,List.map_cons,List.map_nil] at hc3
   refine callS (ts':=[rawB c,I s3.1,H64 s3.2]) (r:=I z) (by simpa using hc3) ?_
   have ht00:0<t[0].length:=by omega
   simp [ht0,ht00]
   have:=hfin s3 (t.set 0 (t[0].set 0 z)) j1 (hbd.set (by simp;omega))
   exact ⟨by omega,by simpa only [ownTb,← rows_set1,ownL,List.map_set] using this⟩
 · simp
   exact hfin s2 [] k3 ⟨by simp,by simp⟩
 · obtain ⟨s3,t',⟨j1,j2⟩,hc3⟩:=h428 c s2 13 k3 (by omega) (by omega)
   simp
   refine callS (ts':=[rawB c,I s3.1,H64 s3.2]) (r:=ownTb t') (by simpa using hc3) ?_
   simp
   exact hfin s3 t' j1 (j2.bd (by omega))
 · have h1:¬kd=0:=by omega
   have h2:¬(kd:Int)=1:=by omega
   have h3:¬(kd:Int)=2:=by omega
   have h4:¬(kd:Int)=3:=by omega
   have h5:¬(kd:Int)=4:=by omega
   simp [h1,h2,h3,h4,h5]
   exact hfin s2 t k3 hbd
end Go.Mch
namespace Go.Mch

abbrev tba (A:List (List (List Int))):T:=.mem .old (some 1) (A.map tb)
abbrev ownBs (us:List Bool):T:=.mem .own (some 1) (us.map B)
@[simp] theorem lendL_mapB (us:List Bool):T.lendL (us.map B)=us.map B:=by
 induction us with
 | nil=>rfl
 | cons b us ih=>simp [T.lendL,T.lend,ih]
@[simp] theorem lendL_tb (X:List (List Int)):T.lendL (tbL X)=tbL X:=by
 induction X with
 | nil=>rfl
 | cons r X ih =>
  have:tbL (r::X)=ix r::tbL X:=rfl
  rw [this]
  simp [T.lendL,T.lend,ih]
@[simp] theorem lendL_tba (A:List (List (List Int))):T.lendL (A.map tb)=A.map tb:=by
 induction A with
 | nil=>rfl
 | cons t A ih=>simp [T.lendL,T.lend,ih]
abbrev mpC (A C:List (List (List Int))) (M:Mp) (o:Option (List Int)):List T:=[tba A,tba C,ownL M.im,ownBs M.us,ownI o]
abbrev mpT (A C:List (List (List Int))) (M:Mp) (o:Option (List Int)):T:=.mem .own none (mpC A C M o)

theorem lso_ne {o:Option (List Int)} {l:List Int} (h:lso o=l) (hl:l≠[]):o=some l:=by
 cases o with
 | none=>simp at h;exact absurd h (fun e=>hl (by rw [e]))
 | some l'=>simp at h;rw [h]

def S_asg (pg:Pg):Prop:=∀ (A C:List (List (List Int))) (n:Nat) (M:Mp) (o:Option (List Int)) (x v:Nat),Tbs n A→Tbs n C→A.length=C.length→n≤12→A.length≤4→MI n M→lso o=M.st→x<n→v<n →
 ∃ (M':Mp) (o':Option (List Int)) (b:Bool),(AP A C n M x v M' b∧lso o'=M'.st)∧Call pg 446 [mpT A C M o,I x,I v] [mpT A C M' o',I x,I v] (B b)

set_option maxRecDepth 20000 in
set_option maxHeartbeats 2000000 in
theorem t_asg {pg:Pg} (hp:pg.fn 446=some c___impl_mapping__assign):S_asg pg:=by
 intro A C n M o x v hA hC hAC hn hk hM ho hx hv
 generalize hm:n-M.st.length=m
 induction m using Nat.strongRecOn generalizing M o x v with
 | ind m ih =>
 have hfind:=Call.findA (α:=Mp×Option (List Int)×Bool) (Q:=fun Y=>AP A C n M x v Y.1 Y.2.2∧lso Y.2.1=Y.1.st) (args:=[mpT A C M o,I x,I v]) (args':=fun Y=>[mpT A C Y.1 Y.2.1,I x,I v]) (r:=fun Y=>B Y.2.2) hp rfl (by simp [F.lets,c___impl_mapping__assign,List.range,List.range.loop]) (by simp [kindOf]) ?_
 · obtain ⟨Y,h1,h2⟩:=hfind
   exact ⟨_,_,_,h1,h2⟩
 show wp _ _ c___impl_mapping__assign.body (postX _ _ _ _ _) _
 generalize hR:postX (fun Y:Mp×Option (List Int)×Bool=>AP A C n M x v Y.1 Y.2.2∧lso Y.2.1=Y.1.st) c___impl_mapping__assign.rs [mpT A C M o,I x,I v] (fun Y=>[mpT A C Y.1 Y.2.1,I x,I v]) (fun Y=>B Y.2.2)=R
 have hfin:∀ (N:Mp) (o':Option (List Int)) (b:Bool),AP A C n M x v N b→lso o'=N.st→R .ret (fr [(0,some (.val (mpT A C N o'))),(1,some (.val (I x))),(2,some (.val (I v))),(6,some (.val (B b)))]):=by
  intro N o' b a1 a2
  subst hR
  exact ⟨(N,o',b),⟨a1,a2⟩,by simp [post,c___impl_mapping__assign]⟩
 have hli:=hM.li
 have hlu:=hM.lu
 have hxi:x<M.im.length:=by omega
 have hgx:gi M x=M.im[x]:=by simp [gi,hxi]
 have hvu:v<M.us.length:=by omega
 have hgv:gu M v=M.us[v]:=by simp [gu,hvu]
 refine wp_cut' (fun e=>e=fr [(0,some (.val (mpT A C M o))),(1,some (.val (I x))),(2,some (.val (I v)))]) (fun J hJ _=>?_) ?_
 · simp
   exact hJ _ rfl
 rintro e rfl
 refine wp_cut' (fun e=>gi M x=-1∧e=fr [(0,some (.val (mpT A C M o))),(1,some (.val (I x))),(2,some (.val (I v))),(18,some (.val (B false)))]) (fun J hJ hJr=>?_) ?_
 · by_cases h0:gi M x=-1
   · simp [hxi,← hgx,h0]
     exact hJ _ ⟨h0,rfl⟩
   · have hge:0≤gi M x:=by
      rcases hM.rng x with h1 | ⟨w,_,h1⟩
      · exact absurd h1 h0
      · omega
     have:=hJr _ (hfin M o _ (AP.have (v:=v) hM hx h0) ho)
     simp [hxi,← hgx,hge]
     simpa [BEq.beq] using this
 rintro e ⟨h0,rfl⟩
 refine wp_cut' (fun e=>gu M v=false∧e=fr [(0,some (.val (mpT A C M o))),(1,some (.val (I x))),(2,some (.val (I v))),(34,some (.val (B false)))]) (fun J hJ hJr=>?_) ?_
 · cases hu:gu M v with
   | true =>
    have:=hJr _ (hfin M o _ (AP.no (A:=A) (C:=C) hM hx hv h0 hu) ho)
    simp [hvu,← hgv,hu]
    exact this
   | false =>
    simp [hvu,← hgv,hu]
    exact hJ _ ⟨hu,rfl⟩
 rintro e ⟨hu,rfl⟩
 have hJ0:=AJ.start (A:=A) (C:=C) hM hx hv h0 hu
 have hlen:=(hM.put hx hv h0 hu).len
 have hsl:(M.put x v).st.length=M.st.length+1:=by simp [Mp.put]
 rw [hsl] at hlen
 refine wp_cut' (fun e=>e=fr [(0,some (.val (.mem .own none [tba A,tba C,ownL (M.put x v).im,ownBs (M.put x v).us,ownI o]))),(1,some (.val (I x))),(2,some (.val (I v)))]) (fun J hJ _=>?_) ?_
 · have e1:(M.im.map I).set x (T.sc (.int .i64 (v:Int)))=(M.put x v).im.map I:=by simp [Mp.put,List.map_set]
   have e2:(M.us.map B).set v (T.sc (.bool true))=(M.put x v).us.map B:=by simp [Mp.put,List.map_set]
   simp [hxi,hvu,e1,e2]
   exact ⟨by omega,hJ _ rfl⟩
 rintro e rfl
 refine wp_cut' (fun e=>e=fr [(0,some (.val (mpT A C (M.put x v) (some (M.put x v).st)))),(1,some (.val (I x))),(2,some (.val (I v)))]) (fun J hJ _=>?_) ?_
 · have e3:(M.put x v).st=M.st++[(x:Int)]:=rfl
   rw [← ho] at e3
   cases o with
   | none =>
    simp only [ownI]
    simp
    exact ⟨by unfold roomy;omega,hJ _ (by rw [e3];simp [mpT,mpC,ownI])⟩
   | some l =>
    have hll:l.length≤12:=by simp at ho;rw [ho];omega
    simp only [ownI]
    simp
    exact ⟨by unfold roomy;omega,hJ _ (by rw [e3];simp [mpT,mpC,ownI])⟩
 rintro e rfl
 generalize M.put x v=M1 at *
 have hnn:∀ u∈C,∀ a b:Nat,0≤v2 u a b:=fun u hu a b=>(hC.2 u hu).1.nonneg a b
 refine wp_cut' (fun e=>∃ (N:Mp) (z:Int),AP A C n M x v N true∧e=fr [(0,some (.val (mpT A C N (some N.st)))),(1,some (.val (I x))),(2,some (.val (I v))),(7,some (.val (I z))),(64,some (.val (B false)))]) (fun J hJ hJr=>?_) ?_
 · simp
   refine wpLoop_lower (α:=Nat) (fun i=>13-i) (fun i e=>∃ N:Mp,(AJ A C n M x v N i∧i≤N.st.length)∧e=fr [(0,some (.val (mpT A C N (some N.st)))),(1,some (.val (I x))),(2,some (.val (I v))),(7,some (.val (I i)))]) ?_ 0 _ ⟨M1,⟨hJ0,by omega⟩,rfl⟩
   rintro i e ⟨N,⟨hN,hi⟩,rfl⟩
   have hNl:=hN.mi.len
   by_cases hil:i<N.st.length
   · obtain ⟨y,hy⟩:∃ y:Nat,N.st[i]=(y:Int):=by
      obtain ⟨y,_,e,_⟩:=(hN.mi.setm _).1 (List.getElem_mem hil)
      exact ⟨y,e⟩
     have hym:(y:Int)∈N.st:=by rw [← hy];exact List.getElem_mem hil
     have hyn:y<n:=by
      obtain ⟨y',h1,e,_⟩:=(hN.mi.setm _).1 hym
      omega
     have hy?:N.st[i]?=some (y:Int):=by rw [List.getElem?_eq_getElem hil,hy]
     simp [hil,hy,ownI]
     refine wpLoop_lower (α:=Nat) (fun k=>5-k) (fun k e=>∃ N:Mp,(AJ A C n M x v N i∧i<N.st.length∧N.st[i]?=some (y:Int)∧k≤A.length∧∀ k',k'<k→conk A C k' N x y∧conk A C k' N y x)∧e=fr [(0,some (.val (mpT A C N (some N.st)))),(1,some (.val (I x))),(2,some (.val (I v))),(7,some (.val (I i))),(8,some (.val (I y))),(77,some (.val (tba A))),(78,some (.val (I A.length))),(79,some (.val (I k)))]) ?_ 0 _ ⟨N,⟨hN,hil,hy?,by omega,fun k' hk'=>by omega⟩,rfl⟩
     clear hi hN hNl hil hy hym hy? N
     rintro k e ⟨N,⟨hN,hil,hy?,hkA,hck⟩,rfl⟩
     have hym:(y:Int)∈N.st:=List.mem_of_getElem? hy?
     have hgy:gi N y≠-1:=by
      obtain ⟨y',_,e,h1⟩:=(hN.mi.setm _).1 hym
      have:y=y':=by omega
      rw [this];exact h1
     have hgx1:gi N x≠-1:=by rw [hN.ix];omega
     have hNl:=hN.mi.len
     by_cases hkl:k<A.length
     · obtain ⟨t,ht⟩:∃ t,A[k]=t:=⟨_,rfl⟩
       obtain ⟨u,hu⟩:∃ u,C[k]'(by omega)=u:=⟨_,rfl⟩
       have ht?:A[k]?=some t:=by rw [List.getElem?_eq_getElem hkl,ht]
       have hu?:C[k]?=some u:=by rw [List.getElem?_eq_getElem (by omega),hu]
       have htA:t∈A:=List.mem_of_getElem? ht?
       have huC:u∈C:=List.mem_of_getElem? hu?
       obtain ⟨w,hw,f1,f2⟩:=fo_pair hA hN hx hym ht? hu?
       obtain ⟨tt,tl⟩:=hA.2 t htA
       obtain ⟨ut,ul⟩:=hC.2 u huC
       have tr:∀ z (hz:z<t.length),(t[z]).length=n:=fun z hz=>(tt.row hz).trans tl
       have ur:∀ z (hz:z<u.length),(u[z]).length=n:=fun z hz=>(ut.row hz).trans ul
       have hwn:w<n:=by
        rcases hN.mi.rng y with h1 | ⟨w',h1,h2⟩
        · exact absurd h1 hgy
        · omega
       have lx:x<t.length:=by omega
       have ly:y<t.length:=by omega
       have lv:v<u.length:=by omega
       have lw:w<u.length:=by omega
       have lim:y<N.im.length:=by rw [hN.mi.li];exact hyn
       have q1:(t[x])[y]'(by rw [tr];exact hyn)=(vN t x y:Int):=by rw [get_v2];exact (hA.v htA x y).1
       have q2:(t[y])[x]'(by rw [tr];exact hx)=(vN t y x:Int):=by rw [get_v2];exact (hA.v htA y x).1
       have q3:N.im[y]=(w:Int):=by rw [← hw];simp [gi,lim]
       have q4:(u[v])[w]'(by rw [ur];exact hwn)=(vN u v w:Int):=by rw [get_v2];exact (hC.v huC v w).1
       have q5:(u[w])[v]'(by rw [ur];exact hv)=(vN u w v:Int):=by rw [get_v2];exact (hC.v huC w v).1
       have hkC:k<C.length:=by omega
       obtain ⟨l0,hl0⟩:=hN.gr
       have hNs:M.st.length+1≤N.st.length:=by rw [hl0];simp
       obtain ⟨N1,o1,b1,⟨hP1,ho1⟩,hc1⟩:=ih (n-N.st.length) (by omega) N (some N.st) (vN t x y) (vN u v w) hN.mi (by simp) (hA.v htA x y).2 (hC.v huC v w).2 rfl
       have hN1s:N1.st≠[]:=by
        obtain ⟨l1,hl1⟩:=hP1.gr
        rw [hl1,hl0];simp
       obtain rfl:=lso_ne ho1 hN1s
       simp [hkl,ht,lx,tr,hyn,q1,hkC,hu,lv,lim,q3,ur,hwn,q4,ownI]
       refine callM (ts':=[mpT A C N1 (some N1.st),I (vN t x y),I (vN u v w)]) (r:=B b1) ?_ ?_ ?_ ?_
       · simp
       · simp [ownI]
         exact hc1
       · simp
       cases b1 with
       | false =>
        have:=hJr _ (hfin N1 (some N1.st) false (hN.fail hP1 f1) (by simp))
        simp [undefV]
        exact this
       | true =>
        have hN1:=hN.step hC hP1 rfl (by omega) f1
        have hgx2:gi N1 x≠-1:=by rw [hN1.ix];omega
        have hgy2:gi N1 y=w:=by rw [hP1.old y hgy,hw]
        obtain ⟨l1,hl1⟩:=hP1.gr
        have hil1:i<N1.st.length:=by rw [hl1];simp;omega
        have hy1?:N1.st[i]?=some (y:Int):=by rw [hl1,List.getElem?_append_left hil];exact hy?
        have hN1l:N.st.length≤N1.st.length:=by rw [hl1];simp
        have lim1:y<N1.im.length:=by rw [hN1.mi.li];exact hyn
        have q31:N1.im[y]=(w:Int):=by rw [← hgy2];simp [gi,lim1]
        obtain ⟨N2,o2,b2,⟨hP2,ho2⟩,hc2⟩:=ih (n-N1.st.length) (by have:=hN1.mi.len;omega) N1 (some N1.st) (vN t y x) (vN u w v) hN1.mi (by simp) (hA.v htA y x).2 (hC.v huC w v).2 rfl
        have hN2s:N2.st≠[]:=by
         obtain ⟨l2,hl2⟩:=hP2.gr
         rw [hl2,hl1,hl0];simp
        obtain rfl:=lso_ne ho2 hN2s
        simp [ly,tr,hx,q2,hkC,hu,lw,lim1,q31,ur,hv,q5,ownI]
        refine callM (ts':=[mpT A C N2 (some N2.st),I (vN t y x),I (vN u w v)]) (r:=B b2) ?_ ?_ ?_ ?_
        · simp
        · simp [ownI]
          exact hc2
        · simp
        cases b2 with
        | false =>
         have:=hJr _ (hfin N2 (some N2.st) false (hN1.fail hP2 f2) (by simp))
         simp
         exact this
        | true =>
         have hN2:=hN1.step hC hP2 rfl (by omega) f2
         obtain ⟨l2,hl2⟩:=hP2.gr
         have hil2:i<N2.st.length:=by rw [hl2];simp;omega
         have hy2?:N2.st[i]?=some (y:Int):=by rw [hl2,List.getElem?_append_left hil1];exact hy1?
         have hgy3:gi N1 y≠-1:=by rw [hgy2];omega
         simp
         refine ⟨by omega,k+1,by omega,N2,⟨hN2,hil2,hy2?,by omega,fun k' hk'=>?_⟩,by simp⟩
         by_cases hkk:k'=k
         · subst hkk
           have c1:conk A C k' N1 x y:=conk_led hP1 hgx1 hgy ht? hu? rfl (by rw [hN.ix,hw];simpa using (hC.v huC v w).1.symm)
           have c2:conk A C k' N2 y x:=conk_led hP2 hgy3 hgx2 ht? hu? rfl (by rw [hN1.ix,hgy2];simpa using (hC.v huC w v).1.symm)
           exact ⟨conk_mono hP2.old hnn hgx2 hgy3 c1,c2⟩
         · obtain ⟨c1,c2⟩:=hck k' (by omega)
           exact ⟨conk_mono hP2.old hnn hgx2 hgy3 (conk_mono hP1.old hnn hgx1 hgy c1),conk_mono hP2.old hnn hgy3 hgx2 (conk_mono hP1.old hnn hgy hgx1 c2)⟩
     · obtain rfl:k=A.length:=by omega
       simp
       refine ⟨by omega,i+1,by omega,N,⟨hN.next hy? ⟨con_of fun k' hk'=>(hck k' hk').1,con_of fun k' hk'=>(hck k' hk').2⟩,by omega⟩,by simp⟩
   · obtain rfl:i=N.st.length:=by omega
     simp [ownI]
     exact hJ _ ⟨N,_,hN.done,rfl⟩
 rintro e ⟨N,z,hN,rfl⟩
 have:=hfin N (some N.st) true hN (by simp)
 simp
 exact this
end Go.Mch
namespace Go.Mch

structure UN (n:Nat) (M:Mp) (l:List Int) (im:List Int) (us:List Bool):Prop where
 li:im.length=n
 lu:us.length=n
 im:∀ z:Nat,im.getD z (-1)=if (z:Int)∈l then -1 else gi M z
 us:∀ w:Nat,w<n→(us.getD w false=true↔gu M w=true∧¬∃ z:Nat,(z:Int)∈l∧gi M z=w)
theorem UN.nil {n:Nat} {M:Mp} (h:MI n M):UN n M [] M.im M.us:=⟨h.li,h.lu,fun z=>by simp [gi],fun w _=>by simp [gu]⟩
theorem UN.snoc {n:Nat} {M:Mp} (h:MI n M) {l:List Int} {im:List Int} {us:List Bool} (hU:UN n M l im us) {z w:Nat} (hz:z<n) (hg:gi M z=w) (hw:w<n):UN n M (l++[(z:Int)]) (im.set z (-1)) (us.set w false):=by
 refine ⟨by simp [hU.li],by simp [hU.lu],fun y=>?_,fun v hv=>?_⟩
 · have:=hU.im y
   simp only [List.getD_eq_getElem?_getD,List.getElem?_set,List.mem_append,List.mem_singleton] at this ⊢
   by_cases hy:z=y
   · subst hy
     have:z<im.length:=by rw [hU.li];exact hz
     simp [this]
   · have hy':¬(y:Int)=z:=by omega
     rw [if_neg hy,this]
     simp [hy']
 · have:=hU.us v hv
   simp only [List.getD_eq_getElem?_getD,List.getElem?_set] at this ⊢
   by_cases hv':w=v
   · subst hv'
     have hl:w<us.length:=by rw [hU.lu];exact hw
     simp only [if_true,hl]
     constructor
     · intro e;cases e
     · rintro ⟨_,h2⟩
       exact absurd ⟨z,List.mem_append_right _ (by simp),hg⟩ h2
   · rw [if_neg hv',this]
     constructor
     · rintro ⟨h1,h2⟩
       refine ⟨h1,fun ⟨y,hy,e⟩=>?_⟩
       rcases List.mem_append.1 hy with hy | hy
       · exact h2 ⟨y,hy,e⟩
       · rw [List.mem_singleton] at hy
         have:y=z:=by omega
         subst this
         omega
     · rintro ⟨h1,h2⟩
       exact ⟨h1,fun ⟨y,hy,e⟩=>h2 ⟨y,List.mem_append_left _ hy,e⟩⟩
theorem UN.back {n:Nat} {M M0:Mp} (h:MI n M) (h0:MI n M0) {l:List Int} (hs:M.st=M0.st++l) (ho:∀ z,gi M0 z≠-1→gi M z=gi M0 z) {im:List Int} {us:List Bool} (hU:UN n M l im us):im=M0.im∧us=M0.us:=by
 have hnd:=h.nd
 rw [hs,List.nodup_append] at hnd
 have key:∀ z:Nat,im.getD z (-1)=gi M0 z:=fun z=>by
  rw [hU.im]
  by_cases hz0:gi M0 z=-1
  · by_cases hz:gi M z=-1
    · rw [hz,hz0];simp
    · have hm:(z:Int)∈M.st:=(h.setm _).2 ⟨z,h.lt hz,rfl,hz⟩
      rw [hs] at hm
      rcases List.mem_append.1 hm with hm | hm
      · obtain ⟨y,_,e,hy⟩:=(h0.setm _).1 hm
        have:z=y:=by omega
        subst this
        exact absurd hz0 hy
      · rw [if_pos hm,hz0]
  · have hm:(z:Int)∈M0.st:=(h0.setm _).2 ⟨z,h0.lt hz0,rfl,hz0⟩
    rw [if_neg fun hl=>hnd.2.2 _ hm _ hl rfl]
    exact ho z hz0
 constructor
 · apply List.ext_getElem
   · rw [hU.li,h0.li]
   · intro i h1 h2
     have:=key i
     unfold gi at this
     simpa [h1,h2] using this
 · apply List.ext_getElem
   · rw [hU.lu,h0.lu]
   · intro i h1 h2
     have hi:i<n:=by rw [← hU.lu];exact h1
     have e:us.getD i false=gu M0 i:=by
      rw [Bool.eq_iff_iff,hU.us i hi,h0.used i hi,h.used i hi]
      constructor
      · rintro ⟨⟨z,hz,e⟩,hno⟩
        refine ⟨z,hz,?_⟩
        have hk:=key z
        rw [hU.im,if_neg fun hm=>hno ⟨z,hm,e⟩,e] at hk
        exact hk.symm
      · rintro ⟨z,hz,e⟩
        have hn0:gi M0 z≠-1:=by omega
        have e2:=ho z hn0
        refine ⟨⟨z,hz,by omega⟩,fun ⟨y,hy,e3⟩=>?_⟩
        have hym:(y:Int)∈M.st:=by rw [hs];exact List.mem_append_right _ hy
        obtain ⟨y',hy',ey,hn⟩:=(h.setm _).1 hym
        have:y=y':=by omega
        subst this
        have:=h.inj y z hy' hz (by omega) hn
        subst this
        exact hnd.2.2 _ ((h0.setm _).2 ⟨y,hz,rfl,hn0⟩) _ hy rfl
     unfold gu at e
     simpa [h1,h2] using e

def S_undo (pg:Pg):Prop:=∀ (A C:List (List (List Int))) (n:Nat) (M M0:Mp) (o:Option (List Int)) (l:List Int),n≤12→MI n M→MI n M0→M.st=M0.st++l→(∀ z,gi M0 z≠-1→gi M z=gi M0 z)→lso o=M.st →
 ∃ o':Option (List Int),lso o'=M0.st∧Call pg 447 [mpT A C M o,I M0.st.length] [mpT A C M0 o',I M0.st.length] (.tup [])
set_option maxRecDepth 20000 in
theorem t_undo {pg:Pg} (hp:pg.fn 447=some c___impl_mapping__undo):S_undo pg:=by
 intro A C n M M0 o l hn hM hM0 hs hold ho
 have hML:=hM.len
 cases o with
 | none =>
  simp at ho
  rw [ho] at hs
  have hs0:M0.st=[]∧l=[]:=by
   have:=hs.symm
   simpa using this
  obtain ⟨e1,e2⟩:=(UN.nil hM).back hM hM0 (l:=[]) (by rw [ho,hs0.1];rfl) hold
  refine ⟨none,by simp [hs0.1],Call.intro_own hp rfl (by simp [F.lets,c___impl_mapping__undo,List.range,List.range.loop]) ?_⟩
  show wp _ _ c___impl_mapping__undo.body (post _ _ _ _) _
  simp [c___impl_mapping__undo,ownI,hs0.1,e1,e2,slV]
  refine wpLoop_count (fun j e=>e=fr [(0,some (.val (mpT A C M none))),(1,some (.val (I 0))),(11,some (.val nil)),(12,some (.val (I 0))),(13,some (.val (I j)))]) 0 ?_ ?_ 0 _ (by omega) rfl
  · intro j e hj
    omega
  · rintro e rfl
    simp [ownI,hs0.1,e1,e2,slV]
 | some s0 =>
  simp at ho
  subst ho
  refine ⟨some M0.st,by simp,Call.intro_own hp rfl (by simp [F.lets,c___impl_mapping__undo,List.range,List.range.loop]) ?_⟩
  show wp _ _ c___impl_mapping__undo.body (post _ _ _ _) _
  have hlen:M.st.length=M0.st.length+l.length:=by rw [hs];simp
  have hle:(M0.st.length:Int)≤M.st.length:=by omega
  simp [c___impl_mapping__undo,ownI,hle]
  have hd:M.st.length-M0.st.length=l.length:=by omega
  rw [hd]
  refine wpLoop_count (fun j e=>∃ (im:List Int) (us:List Bool),UN n M (l.take j) im us∧e=fr [(0,some (.val (.mem .own none [tba A,tba C,ownL im,ownBs us,ownL M.st]))),(1,some (.val (I M0.st.length))),(11,some (.sref 0 [4] 1 M0.st.length l.length)),(12,some (.val (I l.length))),(13,some (.val (I j)))]) l.length ?_ ?_ 0 _ (by omega) ⟨M.im,M.us,by simpa using UN.nil hM,rfl⟩
  · rintro j e hj ⟨im,us,hU,rfl⟩
    have hjl:M0.st.length+j<M.st.length:=by omega
    obtain ⟨z,hz,ez,hgz⟩:∃ z:Nat,z<n∧M.st[M0.st.length+j]=(z:Int)∧gi M z≠-1:=by
     obtain ⟨z,h1,e,h2⟩:=(hM.setm _).1 (List.getElem_mem hjl)
     exact ⟨z,h1,e,h2⟩
    have elj:l[j]=(z:Int):=by
     rw [← ez]
     simp [hs]
    have hnd:=hM.nd
    rw [hs,List.nodup_append] at hnd
    have hnt:(z:Int) ∉ l.take j:=fun hm=>by
     obtain ⟨i,hi,e⟩:=List.getElem_of_mem hm
     simp at hi e
     have:=(List.getElem_inj (h₀:=(by omega:i<l.length)) (h₁:=hj) hnd.2.1).1 (by rw [e,elj])
     omega
    obtain ⟨w,hw,egw⟩:∃ w:Nat,w<n∧gi M z=w:=by
     rcases hM.rng z with h1 | h1
     · exact absurd h1 hgz
     · exact h1
    have zl:z<im.length:=by rw [hU.li];exact hz
    have wl:w<us.length:=by rw [hU.lu];exact hw
    have ezi:im[z]=(w:Int):=by
     have:=hU.im z
     rw [if_neg hnt,egw] at this
     simpa [zl] using this
    have hU':=hU.snoc hM hz egw hw
    rw [← elj,← List.take_succ_eq_append_getElem hj] at hU'
    have e1:(im.map I).set z (T.sc (.int .i64 (-1)))=(im.set z (-1)).map I:=by simp [List.map_set]
    have e2:(us.map B).set w (T.sc (.bool false))=(us.set w false).map B:=by simp [List.map_set]
    simp [hj,hjl,ez,zl,ezi,wl]
    rw [e1,e2]
    exact ⟨by omega,by omega,by omega,_,_,hU',rfl⟩
  · rintro e ⟨im,us,hU,rfl⟩
    rw [List.take_length] at hU
    obtain ⟨rfl,rfl⟩:=hU.back hM hM0 hs hold
    have hw:(M.st.map I).take M0.st.length=M0.st.map I:=by rw [hs];simp
    simp [hle]
    refine ⟨by omega,?_⟩
    simp only [ownI,win,List.drop_zero]
    rw [hw]
end Go.Mch
namespace Go.Mch

theorem noFr_I (l:List Int):T.noFrL (l.map I)=true:=by
 induction l with
 | nil=>rfl
 | cons x l ih=>simp [T.noFrL,T.noFr,ih]
theorem noFr_B (l:List Bool):T.noFrL (l.map B)=true:=by
 induction l with
 | nil=>rfl
 | cons x l ih=>simp [T.noFrL,T.noFr,ih]
theorem noFr_tb (X:List (List Int)):T.noFrL (tbL X)=true:=by
 induction X with
 | nil=>rfl
 | cons r X ih =>
  have:tbL (r::X)=ix r::tbL X:=rfl
  rw [this]
  simp [T.noFrL,T.noFr,ih,noFr_I]
theorem noFr_tba (A:List (List (List Int))):T.noFrL (A.map tb)=true:=by
 induction A with
 | nil=>rfl
 | cons t A ih=>simp [T.noFrL,T.noFr,ih,noFr_tb]
theorem noFr_ownI (o:Option (List Int)):(ownI o).noFr=true:=by
 cases o with
 | none=>rfl
 | some l=>simp [ownI,T.noFr,noFr_I]
theorem noFr_mpT (A C:List (List (List Int))) (M:Mp) (o:Option (List Int)):(mpT A C M o).noFr=true:=by
 simp [T.noFr,T.noFrL,noFr_tba,noFr_I,noFr_B,noFr_ownI]

section
variable {P:Program} {fm:Nat→Nat} {Z S:Nat→Prop} {w:World} {pm:Value} {pg:Pg} {A C:List (List (List Int))} {n:Nat} {M:Mp} {o:Option (List Int)}

theorem asg_in (hpact:∀ f args args' r,Call pg f args args' r→Pact P fm f args args' r) (hZ:∀ b,Z b→b<w.heap.size) (hS:∀ b,S b→b<w.heap.size) (ha:S_asg pg) (h:HB fm Z S w pm (mpT A C M o)) (hA:Tbs n A) (hC:Tbs n C) (hAC:A.length=C.length) (hn:n≤12) (hk:A.length≤4) (hM:MI n M) (ho:lso o=M.st) {x v:Nat} (hx:x<n) (hv:v<n) :
 Calls P (fm 446) #[pm,.int .i64 (x:Int),.int .i64 (v:Int)] w fun e w'=>∃ (M':Mp) (o':Option (List Int)) (b:Bool),e=.returned (.bool b)∧AP A C n M x v M' b∧lso o'=M'.st∧HB fm Z S w' pm (mpT A C M' o')∧Kp S w w':=by
 obtain ⟨M',o',b,⟨h1,h2⟩,hc⟩:=ha A C n M o x v hA hC hAC hn hk hM ho hx hv
 refine (h.call (xs:=[.int .i64 (x:Int),.int .i64 (v:Int)]) (by simp [T.noOwn]) hZ hS (by rfl) (noFr_mpT A C M' o') (by simp [scal]) (hpact _ _ _ _ hc)).mono fun e w' hh=>?_
 obtain ⟨v,rfl,⟨ok,hr⟩,h3,h4⟩:=hh
 have:v=.bool b:=hr.1
 exact ⟨M',o',b,by rw [this],h1,h2,h3,h4⟩
theorem undo_in (hpact:∀ f args args' r,Call pg f args args' r→Pact P fm f args args' r) (hZ:∀ b,Z b→b<w.heap.size) (hS:∀ b,S b→b<w.heap.size) (hu:S_undo pg) (h:HB fm Z S w pm (mpT A C M o)) (hn:n≤12) (hM:MI n M) {M0:Mp} (hM0:MI n M0) {l:List Int} (hs:M.st=M0.st++l) (hold:∀ z,gi M0 z≠-1→gi M z=gi M0 z) (ho:lso o=M.st) :
 Calls P (fm 447) #[pm,.int .i64 (M0.st.length:Int)] w fun e w'=>∃ o':Option (List Int),e=.returned (.tuple #[])∧lso o'=M0.st∧HB fm Z S w' pm (mpT A C M0 o')∧Kp S w w':=by
 obtain ⟨o',h1,hc⟩:=hu A C n M M0 o l hn hM hM0 hs hold ho
 refine (h.call (xs:=[.int .i64 (M0.st.length:Int)]) (by simp [T.noOwn]) hZ hS (by rfl) (noFr_mpT A C M0 o') (by simp [scal]) (hpact _ _ _ _ hc)).mono fun e w' hh=>?_
 obtain ⟨v,rfl,⟨ok,hr⟩,h3,h4⟩:=hh
 rw [rep] at hr
 obtain ⟨⟨vs,rfl,hvs⟩,_⟩:=hr
 have:vs=#[]:=Array.eq_empty_of_size_eq_zero (by simpa using hvs)
 subst this
 exact ⟨o',rfl,h1,h3,h4⟩

theorem mp_box (h:HB fm Z S w pm (mpT A C M o)):∃ Bm om,pm=.pointer (some ⟨Bm,om,none⟩)∧∃ v2 v3 v4,w.cell? ⟨Bm,om+2,none⟩=some v2∧w.cell? ⟨Bm,om+3,none⟩=some v3∧w.cell? ⟨Bm,om+4,none⟩=some v4 ∧
 ∃ ok:K→Nat→Prop,(∀ k b,ok k b→¬Z b)∧rep fm ok w v2 (ownL M.im)∧rep fm ok w v3 (ownBs M.us)∧rep fm ok w v4 (ownI o):=by
 obtain ⟨Bm,om,h1,_,_,h4⟩:=box_cells h.2
 obtain ⟨v2,c2,r2⟩:=h4 2 _ rfl
 obtain ⟨v3,c3,r3⟩:=h4 3 _ rfl
 obtain ⟨v4,c4,r4⟩:=h4 4 _ rfl
 exact ⟨Bm,om,h1,v2,v3,v4,c2,c3,c4,_,fun _ _ hk=>hk.1,r2,r3,r4⟩
theorem ints_cells {ok:K→Nat→Prop} {v:Value} {l:List Int} {k:K} (h:rep fm ok w v (.mem k (some 1) (l.map I))):∃ b o cap,v=.slice (some ⟨b,o,none⟩) l.length cap∧(k=.own∨l≠[]→ok k b)∧∀ i (hi:i<l.length),w.cell? ⟨b,o+i,none⟩=some (.int .i64 l[i]):=by
 obtain ⟨b,o,cap,h1,h2,h3⟩:=sl_cells h
 refine ⟨b,o,cap,by rw [h1];simp,fun hh=>h2 (hh.imp id fun h=>by simpa using h),fun i hi=>?_⟩
 obtain ⟨x,c,hr⟩:=h3 i (I l[i]) (by simp [hi])
 rw [c,hr.1]
theorem bools_cells {ok:K→Nat→Prop} {v:Value} {l:List Bool} {k:K} (h:rep fm ok w v (.mem k (some 1) (l.map B))):∃ b o cap,v=.slice (some ⟨b,o,none⟩) l.length cap∧∀ i (hi:i<l.length),w.cell? ⟨b,o+i,none⟩=some (.bool l[i]):=by
 obtain ⟨b,o,cap,h1,h2,h3⟩:=sl_cells h
 refine ⟨b,o,cap,by rw [h1];simp,fun i hi=>?_⟩
 obtain ⟨x,c,hr⟩:=h3 i (B l[i]) (by simp [hi])
 rw [c,hr.1]
theorem set_cells {ok:K→Nat→Prop} {v:Value} (h:rep fm ok w v (ownI o)):∃ ad cap,v=.slice ad (lso o).length cap:=by
 cases o with
 | none=>exact ⟨none,0,h.1⟩
 | some l =>
  obtain ⟨b,q,cap,h1,_⟩:=ints_cells h
  exact ⟨some ⟨b,q,none⟩,cap,by rw [h1];simp⟩
theorem index_in (hpact:∀ f args args' r,Call pg f args args' r→Pact P fm f args args' r) (hi:S_indexIn pg 384) {ok:K→Nat→Prop} {v:Value} {l:List Int} (hl:l.length≤1048576) (h:rep fm ok w v (ownL l)) (x:Int) :
 Calls P (fm 384) #[v,.int .i64 x] w fun e w'=>e=.returned (.int .i64 (ixOf l x))∧Kp (fun _=>True) w w':=by
 have hr:=rep_ery (ok':=fun k _=>k=.old) (fun _ _ _ _=>rfl) (ownL l) v (.inr fun _ _=>rfl) h
 refine (read_call (P:=P) (args:=[ix l,I x]) (vs:=#[v,.int .i64 x]) rfl (by simp) (fun s u hu=>?_) (hpact _ _ _ _ (hi l x hl))).mono fun e w' hh=>?_
 · match s,hu with
   | 0,hu =>
    cases hu
    simpa [T.ery] using hr
   | 1,hu =>
    cases hu
    exact ⟨rfl,rfl⟩
   | s+2,hu=>simp at hu
 · obtain ⟨v,rfl,h1,_,h2⟩:=hh
   have:v=.int .i64 (ixOf l x):=h2.1
   exact ⟨by rw [this],h1⟩
end
end Go.Mch
namespace Go.Mch

def leN (n:Nat) (p q:Nat→Nat):Prop:=(∀ z,z<n→p z=q z)∨∃ z,z<n∧(∀ y,y<z→p y=q y)∧p z<q z
structure Fst (A C:List (List (List Int))) (n:Nat) (M:Mp) (p:Nat→Nat):Prop where
 iso:Iso A C n p
 ext:Ext n p M
 le:∀ q,Iso A C n q→Ext n q M→leN n p q
def Cons (A C:List (List (List Int))) (M:Mp):Prop:=∀ z y:Nat,(z:Int)∈M.st→(y:Int)∈M.st→con A C M z y

theorem mem_st {n:Nat} {M:Mp} (h:MI n M) (z:Nat):(z:Int)∈M.st↔gi M z≠-1:=by
 rw [h.setm]
 constructor
 · rintro ⟨x,_,e,hx⟩
   have:z=x:=by omega
   rw [this];exact hx
 · intro hz
   exact ⟨z,h.lt hz,rfl,hz⟩
theorem Cons.asg {A C:List (List (List Int))} {n:Nat} {M M':Mp} {x v:Nat} (hC:Tbs n C) (hM:MI n M) (h:Cons A C M) (hp:AP A C n M x v M' true):Cons A C M':=by
 have hnn:∀ u∈C,∀ a b:Nat,0≤v2 u a b:=fun u hu a b=>(hC.2 u hu).1.nonneg a b
 intro z y hz hy
 by_cases hz0:(z:Int)∈M.st
 · by_cases hy0:(y:Int)∈M.st
   · exact con_mono hp.old hnn ((mem_st hM z).1 hz0) ((mem_st hM y).1 hy0) (h z y hz0 hy0)
   · exact ((hp.ok rfl).2 y z hy hy0 hz).2
 · exact ((hp.ok rfl).2 z y hz hz0 hy).1

theorem Fst.full {A C:List (List (List Int))} {n:Nat} {M:Mp} (hA:Tbs n A) (hC:Tbs n C) (hM:MI n M) (hc:Cons A C M) (hf:∀ x,x<n→gi M x≠-1) :
 Fst A C n M (fun x=>(gi M x).toNat)∧M.im=(List.range n).map fun x=>(((gi M x).toNat:Nat):Int):=by
 have hg:∀ x,x<n→∃ w:Nat,w<n∧gi M x=w:=fun x hx=>(hM.rng x).resolve_left (hf x hx)
 refine ⟨⟨⟨fun x hx=>?_,fun x y hx hy he=>?_,fun k t u ht hu x y hx hy=>?_⟩,fun x hx _=>?_,fun q hq he=>.inl fun z hz=>?_⟩,?_⟩
 · obtain ⟨w,hw,e⟩:=hg x hx
   simp only [e];omega
 · obtain ⟨w,hw,e⟩:=hg x hx
   obtain ⟨w',hw',e'⟩:=hg y hy
   exact hM.inj x y hx hy (by omega) (hf x hx)
 · have h1:=hc x y ((mem_st hM x).2 (hf x hx)) ((mem_st hM y).2 (hf y hy)) k t u ht hu
   rw [(hC.v (List.mem_of_getElem? hu) _ _).1] at h1
   omega
 · obtain ⟨w,hw,e⟩:=hg x hx
   omega
 · have:=he z hz (hf z hz)
   exact show (gi M z).toNat=q z by omega
 · refine List.ext_getElem (by simp [hM.li]) fun i h1 h2=>?_
   have hi:i<n:=by rw [← hM.li];exact h1
   obtain ⟨w,hw,e⟩:=hg i hi
   have e1:M.im[i]=gi M i:=by simp [gi,h1]
   simp only [List.getElem_map,List.getElem_range]
   rw [e1]
   omega

theorem Fst.step {A C:List (List (List Int))} {n:Nat} {M M':Mp} {x v:Nat} {p:Nat→Nat} (hx:x<n) (hfst:∀ y,y<x→gi M y≠-1) (hp:AP A C n M x v M' true) (hno:∀ u,u<v→∀ q,Iso A C n q→Ext n q M→q x≠u) (h:Fst A C n M' p):Fst A C n M p:=by
 have hpx:p x=v:=by
  have h1:=(hp.ok rfl).1
  have:=h.ext x hx (by rw [h1];omega)
  omega
 refine ⟨h.iso,fun z hz hn=>?_,fun q hq he=>?_⟩
 · have h1:=hp.old z hn
   rw [← h1]
   exact h.ext z hz (by rw [h1];exact hn)
 · rcases Nat.lt_trichotomy (q x) v with h1 | h1 | h1
   · exact absurd rfl (hno _ h1 q hq he)
   · exact h.le q hq (hp.fo q hq he h1).2
   · refine .inr ⟨x,hx,fun y hy=>?_,by omega⟩
     have h2:=hfst y hy
     have h3:=hp.old y h2
     have h4:=h.ext y (by omega) (by rw [h3];exact h2)
     have h5:=he y (by omega) h2
     omega

theorem no_used {A C:List (List (List Int))} {n:Nat} {M:Mp} (hM:MI n M) {x v:Nat} (hx:x<n) (hv:v<n) (h0:gi M x=-1) (hu:gu M v=true):∀ q,Iso A C n q→Ext n q M→q x≠v:=fun q hq he e=>by
 have:=((AP.no (A:=A) (C:=C) hM hx hv h0 hu).fo q hq he e).1
 cases this
theorem no_fail {A C:List (List (List Int))} {n:Nat} {M M':Mp} {x v:Nat} (hp:AP A C n M x v M' false):∀ q,Iso A C n q→Ext n q M→q x≠v:=fun q hq he e=>by
 have:=(hp.fo q hq he e).1
 cases this
theorem no_ext {A C:List (List (List Int))} {n:Nat} {M M':Mp} {x v:Nat} {b:Bool} (hp:AP A C n M x v M' b) (hno:∀ q,Iso A C n q→¬Ext n q M'):∀ q,Iso A C n q→Ext n q M→q x≠v:=fun q hq he e=>hno q hq (hp.fo q hq he e).2

theorem first_free {n:Nat} {M:Mp} (hM:MI n M):(ixOf M.im (-1)=-1∧∀ x,x<n→gi M x≠-1)∨∃ x:Nat,x<n∧ixOf M.im (-1)=x∧gi M x=-1∧∀ y,y<x→gi M y≠-1:=by
 have hg:∀ x (hx:x<M.im.length),M.im[x]=gi M x:=fun x hx=>by simp [gi,hx]
 by_cases h:∃ x,x<n∧gi M x=-1
 · obtain ⟨k,⟨hk,h0⟩,hmin⟩:∃ k,(k<n∧gi M k=-1)∧∀ j,j<k→¬(j<n∧gi M j=-1):=by
    obtain ⟨x,hx⟩:=h
    induction x using Nat.strongRecOn with
    | ind x ih =>
     by_cases hh:∃ j,j<x∧j<n∧gi M j=-1
     · obtain ⟨j,hj,hj'⟩:=hh
       exact ih j hj hj'
     · exact ⟨x,hx,fun j hj hj'=>hh ⟨j,hj,hj'⟩⟩
   have hkl:k<M.im.length:=by rw [hM.li];exact hk
   refine .inr ⟨k,hk,ixOf_at hkl (fun i hi=>?_) (by rw [hg];exact h0),h0,fun y hy he=>hmin y hy ⟨by omega,he⟩⟩
   rw [hg]
   intro he
   exact hmin i hi ⟨by omega,he⟩
 · refine .inl ⟨ixOf_none fun i hi=>?_,fun x hx he=>h ⟨x,hx,he⟩⟩
   rw [hg]
   intro he
   exact h ⟨i,by rw [← hM.li];exact hi,he⟩
theorem AP.longer {A C:List (List (List Int))} {n:Nat} {M M':Mp} {x v:Nat} (hM:MI n M) (h0:gi M x=-1) (hp:AP A C n M x v M' true):M.st.length<M'.st.length:=by
 obtain ⟨l,hl⟩:=hp.gr
 rcases l with _ | ⟨a,l⟩
 · have h1:(x:Int)∈M'.st:=(mem_st hp.mi x).2 (by rw [(hp.ok rfl).1];omega)
   rw [hl,List.append_nil] at h1
   exact absurd h0 ((mem_st hM x).1 h1)
 · rw [hl];simp

def mp0 (n:Nat):Mp:=⟨List.replicate n (-1),List.replicate n false,[]⟩
theorem gi_mp0 (n z:Nat):gi (mp0 n) z=-1:=by
 simp only [gi,mp0,List.getD_eq_getElem?_getD,List.getElem?_replicate]
 split <;> rfl
theorem gu_mp0 (n z:Nat):gu (mp0 n) z=false:=by
 simp only [gu,mp0,List.getD_eq_getElem?_getD,List.getElem?_replicate]
 split <;> rfl
theorem mi_mp0 (n:Nat):MI n (mp0 n):=by
 refine ⟨by simp [mp0],by simp [mp0],fun x=>.inl (gi_mp0 n x),fun x y _ _ _ h=>absurd (gi_mp0 n x) h,fun v _=>?_,fun z=>?_,by simp [mp0]⟩
 · rw [gu_mp0]
   simp only [gi_mp0]
   constructor
   · intro h;cases h
   · rintro ⟨x,_,h⟩;omega
 · simp only [gi_mp0]
   simp [mp0]
theorem cons_mp0 (A C:List (List (List Int))) (n:Nat):Cons A C (mp0 n):=fun z y hz _=>by simp [mp0] at hz
theorem ext_mp0 (n:Nat) (p:Nat→Nat):Ext n p (mp0 n):=fun x _ h=>absurd (gi_mp0 n x) h
end Go.Mch
namespace Go.Mch

def SX (S:Nat→Prop) (W W':World) (b:Nat):Prop:=S b∨(W.heap.size≤b∧b<W'.heap.size)
def Turned (Z:Nat→Prop) (W W':World):Prop:=W.heap.size≤W'.heap.size∧∀ b,b<W.heap.size→¬Z b→W'.heap[b]?=W.heap[b]?
def lstN (n:Nat) (p:Nat→Nat):List Int:=(List.range n).map fun x=>((p x:Nat):Int)

theorem mp_cells {fm:Nat→Nat} {Z S:Nat→Prop} {w:World} {A C:List (List (List Int))} {n:Nat} {M:Mp} {o:Option (List Int)} {B om:Nat} (hM:MI n M) (h:HB fm Z S w (.pointer (some ⟨B,om,none⟩)) (mpT A C M o)) :
 ∃ b3 o3 cap3,w.cell? ⟨B,om+3,none⟩=some (.slice (some ⟨b3,o3,none⟩) n cap3)∧∀ v:Nat,v<n→w.cell? ⟨b3,o3+v,none⟩=some (.bool (gu M v)):=by
 obtain ⟨B',om',hp,v2,v3,v4,c2,c3,c4,ok,hok,r2,r3,r4⟩:=mp_box h
 simp only [Value.pointer.injEq,Option.some.injEq,Addr.mk.injEq,and_true] at hp
 obtain ⟨rfl,rfl⟩:=hp
 obtain ⟨b3,o3,cap3,rfl,hc3⟩:=bools_cells r3
 rw [hM.lu] at c3
 refine ⟨b3,o3,cap3,c3,fun v hv=>?_⟩
 have hvl:v<M.us.length:=by rw [hM.lu];exact hv
 rw [hc3 v hvl]
 simp [gu,hvl]
theorem SX_lt {S:Nat→Prop} {W0 W1 W2 w:World} (hS:∀ b,S b→b<W0.heap.size) (h:W0.heap.size≤w.heap.size) (h2:W2.heap.size≤w.heap.size):∀ b,SX S W1 W2 b→b<w.heap.size:=fun b hb=>by
 rcases hb with hb | ⟨_,hb⟩
 · have:=hS b hb;omega
 · omega

def Found (fm:Nat→Nat) (A C:List (List (List Int))) (n:Nat) (Jx:List Int→World→World→Prop) (Z S:Nat→Prop) (pm:Value) (M:Mp) (w w':World):Prop :=
 ∃ p W1 W2,Fst A C n M p∧Kp S w W1∧Turned Z W1 W2∧Jx (lstN n p) W1 W2∧Kp (SX S W1 W2) W2 w'∧∃ o',lso o'=M.st∧HB fm (SX Z W1 W2) (SX S W1 W2) w' pm (mpT A C M o')
def NoneOf (fm:Nat→Nat) (A C:List (List (List Int))) (n:Nat) (Z S:Nat→Prop) (pm:Value) (M:Mp) (w w':World):Prop :=
 (∀ q,Iso A C n q→¬Ext n q M)∧Kp S w w'∧∃ o',lso o'=M.st∧HB fm Z S w' pm (mpT A C M o')
def ExtPost (fm:Nat→Nat) (A C:List (List (List Int))) (n:Nat) (Jx:List Int→World→World→Prop) (Z S:Nat→Prop) (pm:Value) (M:Mp) (w:World) (e:Ending) (w':World):Prop :=
 (e=.returned (.bool true)∧NoneOf fm A C n Z S pm M w w')∨(e=.returned (.bool false)∧Found fm A C n Jx Z S pm M w w')
def IsoPost (A C:List (List (List Int))) (n n':Nat) (Jx:List Int→World→World→Prop) (Z:Nat→Prop) (W:World) (e:Ending) (w:World):Prop :=
 (∃ v,e=.returned v)∧(((n'≠n∨∀ q,¬Iso A C n q)∧Kp (fun b=>b<W.heap.size) W w) ∨
  (n'=n∧∃ p W1 W2,Fst A C n (mp0 n) p∧Kp (fun b=>b<W.heap.size) W W1∧Turned Z W1 W2∧Jx (lstN n p) W1 W2∧Kp (SX (fun b=>b<W.heap.size) W1 W2) W2 w))
end Go.Mch
namespace Go.Mch

def isA:C:=.region none [⟨some 7,none,.ld none (.t 1)⟩,⟨some 8,none,.idx 1 (.t 7) (.c (.int .i64 0))⟩,⟨some 9,none,.ld none (.t 8)⟩,⟨some 10,none,.len (.t 9)⟩,⟨some 4,none,.mv (.t 10)⟩] [1,2,4]
def isB:C:=.seq (.region none [⟨some 11,none,.ld none (.t 2)⟩,⟨some 12,none,.idx 1 (.t 11) (.c (.int .i64 0))⟩,⟨some 13,none,.ld none (.t 12)⟩,⟨some 14,none,.len (.t 13)⟩,⟨some 15,none,.mv (.t 4)⟩,⟨some 16,none,.bin .neq (.t 14) (.t 15)⟩] [1,2,4,16]) (.cond (.t 16) .ret .skip)
def isC:C:=.region (some [5,17,18,19,20,21,22,23]) [⟨some 17,none,.ld none (.t 1)⟩,⟨some 18,none,.ld none (.t 2)⟩,⟨some 19,none,.mv (.t 4)⟩,⟨some 20,none,.mks (.int .i64 0) (.t 19)⟩,⟨some 21,none,.mv (.t 4)⟩,⟨some 22,none,.mks (.bool false) (.t 21)⟩,⟨some 23,none,.build [(.slice none 0 0),(.slice none 0 0),(.slice none 0 0),(.slice none 0 0),(.slice none 0 0)] [(0,1,(.t 17)),(1,1,(.t 18)),(2,1,(.t 20)),(3,1,(.t 22))]⟩,⟨some 5,none,.alloc [(.slice none 0 0),(.slice none 0 0),(.slice none 0 0),(.slice none 0 0),(.slice none 0 0)]⟩,⟨none,none,.st (some 5) (.t 5) (.t 23)⟩] [5]
def isD:C:=.seq (.region none [⟨some 24,none,.fld 2 (.t 5)⟩,⟨some 25,none,.ld none (.t 24)⟩,⟨some 26,none,.len (.t 25)⟩,⟨some 27,none,.mv (.c (.int .i64 0))⟩] [5,26,27])
 (.block 0 (.loop (.seq (.region none [⟨some 28,none,.bin .lss (.t 27) (.t 26)⟩] [5,26,27,28]) (.seq (.cond (.t 28) .skip (.exit 0)) (.seq (.block 1 (.seq (.region none [⟨some 29,none,.mv (.t 27)⟩,⟨some 6,none,.mv (.t 29)⟩] [5,6,26,27]) (.region none [⟨some 30,none,.fld 2 (.t 5)⟩,⟨some 31,none,.ld none (.t 30)⟩,⟨some 32,none,.mv (.t 6)⟩,⟨some 33,none,.idx 1 (.t 31) (.t 32)⟩,⟨none,none,.st none (.t 33) (.c (.int .i64 (-1)))⟩] [5,26,27])))
  (.region none [⟨some 34,none,.bin .add (.t 27) (.c (.int .i64 1))⟩,⟨some 27,none,.mv (.t 34)⟩] [5,26,27]))))))

def isR (A C:List (List (List Int))) (n n':Nat):X→Env→Prop
 | .nrm,e=>n'=n∧e 5=some (.val (mpT A C (mp0 n) none))
 | .ret,_=>n'≠n
 | .ext _,_=>False

@[simp] theorem noOwnL_tba (A:List (List (List Int))):T.noOwnL (A.map tb)=true:=by
 induction A with
 | nil=>rfl
 | cons t A ih=>simp [T.noOwnL,T.noOwn,ih]

theorem iso1_wp {G:Rl} {A C:List (List (List Int))} {n n':Nat} (hA:Tbs n A) (hC:Tbs n' C) (hA0:0<A.length) (hC0:0<C.length) (hn:n≤12) :
 wp G .fresh (.seq isA (.seq isB (.seq isC isD))) (isR A C n n') (fr [(1,some (.val (.mem .old none [tba A]))),(2,some (.val (.mem .old none [tba C])))]):=by
 obtain ⟨hn0,hAt⟩:=hA
 obtain ⟨hn0',hCt⟩:=hC
 have la:=(hAt _ (List.getElem_mem hA0)).2
 have lc:=(hCt _ (List.getElem_mem hC0)).2
 simp [isA,isB,hA0,hC0,la,lc]
 by_cases he:n'=n
 · subst he
   rw [if_pos rfl]
   simp [isC]
   refine ⟨by unfold roomy;omega,?_⟩
   simp [isD]
   refine wpLoop_count (fun j e=>e=fr [(5,some (.val (.mem .own none [tba A,tba C,ownL (List.replicate j (-1)++List.replicate (n'-j) 0),ownBs (List.replicate n' false),nil]))),(26,some (.val (I n'))),(27,some (.val (I j)))]) n' ?_ ?_ 0 _ (by omega) (by simp [tba,ownL,ownBs,nil])
   · rintro j e hj rfl
     have h1:n'-j=(n'-(j+1))+1:=by omega
     have e1:((List.replicate j (-1)++List.replicate (n'-j) (0:Int)).map I).set j (T.sc (.int .i64 (-1)))=(List.replicate (j+1) (-1)++List.replicate (n'-(j+1)) 0).map I:=by
      rw [h1,List.replicate_succ,← List.map_set (f:=I) (a:=(-1:Int))]
      simp [List.set_append,List.replicate_succ']
     have e2:List.replicate j (I (-1))++(List.replicate (n'-j) (I 0)).set 0 (T.sc (.int .i64 (-1)))=(List.replicate (j+1) (-1)++List.replicate (n'-(j+1)) (0:Int)).map I:=by
      rw [← e1]
      simp [List.set_append]
     simp [hj]
     rw [e2]
     exact ⟨by omega,by omega,by omega,rfl⟩
   · rintro e rfl
     simp [ownI]
     exact ⟨rfl,rfl⟩
 · rw [if_neg (by omega)]
   exact he
theorem iso1_rel {fm:Nat→Nat} {Z:Nat→Prop} {W:World} {y p1 p2:Value} {A C:List (List (List Int))} (hZ:∀ b,Z b→b<W.heap.size)
 (hp1:rep fm (fun k b=>k=.old∧¬Z b) W p1 (.mem .old none [tba A])) (hp2:rep fm (fun k b=>k=.old∧¬Z b) W p2 (.mem .old none [tba C])) :
 Rel (cx0 fm W Z (fun _=>False) hZ) 37 (fr [(1,some (.val (.mem .old none [tba A]))),(2,some (.val (.mem .old none [tba C])))]) { tmps:=#[y,p1,p2]++Array.replicate (37-3) undef,defers:=[] } W:=by
 have h1:vlA { tmps:=#[y,p1,p2]++Array.replicate (37-3) undef,defers:=[] } 1=p1:=by simp [vlA]
 have h2:vlA { tmps:=#[y,p1,p2]++Array.replicate (37-3) undef,defers:=[] } 2=p2:=by simp [vlA]
 have hf:∀ s x,fr [(1,some (.val (.mem .old none [tba A]))),(2,some (.val (.mem .old none [tba C])))] s=some x→(s=1∧x=.val (.mem .old none [tba A]))∨(s=2∧x=.val (.mem .old none [tba C])):=fun s x hx=>by
  match s,hx with
  | 0,hx=>cases hx
  | 1,hx=>cases hx;exact .inl ⟨rfl,rfl⟩
  | 2,hx=>cases hx;exact .inr ⟨rfl,rfl⟩
  | s+3,hx=>exact absurd hx (by simp)
 refine rel_init hZ (by simp) rfl (fun j hj=>?_) fun s x hx=>?_
 · cases h:fr [(1,some (.val (.mem .old none [tba A]))),(2,some (.val (.mem .old none [tba C])))] j with
   | none=>rfl
   | some x=>rcases hf j x h with ⟨h,_⟩ | ⟨h,_⟩ <;> omega
 · rcases hf s x hx with ⟨rfl,rfl⟩ | ⟨rfl,rfl⟩
   · exact ⟨_,rfl,by simp [T.noOwn,T.noOwnL],by rw [h1];exact hp1⟩
   · exact ⟨_,rfl,by simp [T.noOwn,T.noOwnL],by rw [h2];exact hp2⟩
end Go.Mch
namespace Go.Mch
def CY (n:Nat) (t:List (List Int)):Prop:=TabN n t∧∀ r∈t,r.Nodup
abbrev cyT (t:List (List Int)):T:=.agg [tb t]
abbrev ownC (t:List (List Int)):T:=.agg [ownTb t]
theorem invL_ok {p:List Int} (h:Pm p):RowIn p.length (invL p)∧(invL p).Nodup:=by
 refine ⟨⟨invL_length p,fun v hv=>?_⟩,?_⟩
 · obtain ⟨i,hi,rfl⟩:=List.getElem_of_mem hv
   have hil:i<p.length:=by simpa using hi
   have:=h.lt hil
   rw [invL_get hi]
   omega
 · rw [List.nodup_iff_pairwise_ne,List.pairwise_iff_getElem]
   intro i j hi hj hij he
   have hil:i<p.length:=by simpa using hi
   have hjl:j<p.length:=by simpa using hj
   rw [invL_get hi,invL_get hj] at he
   have h1:=h.at hil
   have h2:=h.at hjl
   have he':invQ p i=invQ p j:=by omega
   rw [he'] at h1
   rw [h1] at h2
   omega
def S_aff (pg:Pg):Prop:=∀ n a b c:Nat,0<n→n≤64→a≤64→b≤64→c≤64→∃ t:List (List Int),TabN n t∧Call pg 424 [I n,I a,I b,I c] [I n,I a,I b,I c] (ownC t)
set_option maxRecDepth 10000 in
theorem t_aff {pg:Pg} (hp:pg.fn 424=some c_spec_l05Affine):S_aff pg:=by
 intro n a b c h0 hn ha hb hc
 refine Call.find hp rfl (by simp) ?_
 show wp _ _ c_spec_l05Affine.body _ _
 generalize hR:(fun (x:X) (e:Env)=>∃ l:List (List Int),TabN n l∧post c_spec_l05Affine.rs [I n,I a,I b,I c] [I n,I a,I b,I c] (ownC l) x e)=R
 simp [c_spec_l05Affine]
 refine wpLoop_count (fun k e=>∃ s:List (List Int),(s.length=k∧∀ r∈s,RowIn n r)∧e=fr [(0,some (.val (I n))),(1,some (.val (I a))),(2,some (.val (I b))),(3,some (.val (I c))),(8,some (.val (.mem .own none [nil]))),(9,some (.val (.mem .own none [ownN2 s]))),(10,some (.val (I k)))]) n ?_ ?_ 0 _ (by omega) ⟨[],⟨rfl,by simp⟩,rfl⟩
 · rintro k e hk ⟨s,⟨g3,g4⟩,rfl⟩
   simp [hk]
   refine wpLoop_count (fun j e=>∃ q:List Int,(q.length=j∧∀ v∈q,0≤v∧v<n)∧e=fr [(0,some (.val (I n))),(1,some (.val (I a))),(2,some (.val (I b))),(3,some (.val (I c))),(8,some (.val (.mem .own none [nil]))),(9,some (.val (.mem .own none [ownN2 s]))),(10,some (.val (I k))),(11,some (.val (ownL q))),(12,some (.val (I j)))]) n ?_ ?_ 0 _ (by omega) ⟨[],⟨rfl,by simp⟩,rfl⟩
   · rintro j e hj ⟨q,⟨i3,i4⟩,rfl⟩
     obtain ⟨u,hu,hu2⟩:∃ u:Nat,(a:Int)*k=u∧u≤4096:=⟨a*k,by simp,Nat.mul_le_mul ha (by omega:k≤64)⟩
     obtain ⟨v,hv,hv2⟩:∃ v:Nat,(b:Int)*j=v∧v≤4096:=⟨b*j,by simp,Nat.mul_le_mul hb (by omega:j≤64)⟩
     obtain ⟨m,hm,hm2⟩:∃ m:Nat,((u:Int)+v+c).tmod n=m∧m<n:=⟨(u+v+c) % n,by rw [Int.tmod_eq_emod_of_nonneg (by omega),Int.natCast_emod];simp,Nat.mod_lt _ h0⟩
     have hn0:¬n=0:=by omega
     simp [hj,hu,hv,hm,hn0]
     exact ⟨by omega,by omega,by omega,by omega,by unfold roomy;omega,by omega,q++[(m:Int)],⟨by simp [i3],snoc_in i4 (by omega)⟩,by simp only [ownL,List.map_append,List.map_cons,List.map_nil]⟩
   · rintro e ⟨q,⟨i3,i4⟩,rfl⟩
     by_cases hk0:k=0
     · subst hk0
       obtain rfl:s=[]:=List.length_eq_zero_iff.1 g3
       simp
       exact ⟨by unfold roomy;omega,[q],⟨rfl,one_row ⟨i3,i4⟩⟩,rfl⟩
     · rw [ownN2_ne g3 (by omega)]
       simp
       exact ⟨by unfold roomy;omega,by omega,s++[q],TabN.snoc ⟨g3,g4⟩ ⟨i3,i4⟩,by simp only [ownN2_snoc]⟩
 · rintro e ⟨s,⟨g3,g4⟩,rfl⟩
   rw [ownN2_ne g3 h0]
   simp
   subst hR
   exact ⟨s,⟨g3,g4⟩,by simp [post,c_spec_l05Affine]⟩
def S_sqs (pg:Pg):Prop:=∀ (n:Nat) (t:List (List Int)),n≤64→TabN n t→∃ q:List Int,q.length=n∧Call pg 417 [tb t] [tb t] (ownL q)
set_option maxRecDepth 10000 in
theorem t_sqs {pg:Pg} (hp:pg.fn 417=some c_spec_l05Squares):S_sqs pg:=by
 intro n t hn ht
 have htl:=ht.1
 refine Call.find hp rfl (by simp) ?_
 show wp _ _ c_spec_l05Squares.body _ _
 generalize hR:(fun (x:X) (e:Env)=>∃ l:List Int,l.length=n∧post c_spec_l05Squares.rs [tb t] [tb t] (ownL l) x e)=R
 simp [c_spec_l05Squares]
 refine wpLoop_count (fun k e=>∃ q:List Int,q.length=k∧e=fr [(0,some (.val (tb t))),(3,some (.val (ownL q))),(4,some (.val (I k)))]) n ?_ ?_ 0 _ (by omega) ⟨[],rfl,rfl⟩
 · rintro k e hk ⟨q,g1,rfl⟩
   obtain ⟨u1,u2,u3,u4,u5⟩:=ht.at hk hk
   simp [hk,htl,u3]
   exact ⟨by unfold roomy;omega,by omega,q++[t[k][k]],by simp [g1],by simp only [ownL,List.map_append,List.map_cons,List.map_nil]⟩
 · rintro e ⟨q,g1,rfl⟩
   simp [htl]
   subst hR
   exact ⟨q,g1,by simp [post,c_spec_l05Squares]⟩
def S_flt (pg:Pg):Prop:=∀ (n:Nat) (t:List (List Int)),n≤64→TabN n t→∃ q:List Int,q.length≤3∧Call pg 418 [tb t] [tb t] (ownL q)
set_option maxRecDepth 10000 in
theorem t_flt {pg:Pg} (hp:pg.fn 418=some c_spec_l05Fault):S_flt pg:=by
 intro n t hn ht
 have htl:=ht.1
 refine Call.find hp rfl (by simp) ?_
 show wp _ _ c_spec_l05Fault.body _ _
 generalize hR:(fun (x:X) (e:Env)=>∃ l:List Int,l.length≤3∧post c_spec_l05Fault.rs [tb t] [tb t] (ownL l) x e)=R
 simp [c_spec_l05Fault,htl]
 refine wpLoop_count (fun x e=>e=fr [(0,some (.val (tb t))),(3,some (.val (I n))),(4,some (.val (I x)))]) n ?_ ?_ 0 _ (by omega) rfl
 · rintro x e hx rfl
   simp [hx]
   refine wpLoop_count (fun y e=>e=fr [(0,some (.val (tb t))),(3,some (.val (I n))),(4,some (.val (I x))),(5,some (.val (I y)))]) n ?_ ?_ 0 _ (by omega) rfl
   · rintro y e hy rfl
     simp [hy]
     refine wpLoop_count (fun z e=>e=fr [(0,some (.val (tb t))),(3,some (.val (I n))),(4,some (.val (I x))),(5,some (.val (I y))),(6,some (.val (I z)))]) n ?_ ?_ 0 _ (by omega) rfl
     · rintro z e hz rfl
       obtain ⟨a1,a2,a3,a4,a5⟩:=ht.at hx hy
       obtain ⟨b1,b2,b3,b4,b5⟩:=ht.at hx hz
       obtain ⟨c1,c2,c3,c4,c5⟩:=ht.at hy hx
       obtain ⟨d1,d2,d3,d4,d5⟩:=ht.at hy hz
       obtain ⟨A,hA⟩:∃ A:Nat,t[x][y]=A:=⟨(t[x][y]).toNat,by omega⟩
       obtain ⟨B,hB⟩:∃ A:Nat,t[x][z]=A:=⟨(t[x][z]).toNat,by omega⟩
       obtain ⟨C,hC⟩:∃ A:Nat,t[y][x]=A:=⟨(t[y][x]).toNat,by omega⟩
       obtain ⟨D,hD⟩:∃ A:Nat,t[y][z]=A:=⟨(t[y][z]).toNat,by omega⟩
       rw [hA] at a4 a5
       rw [hB] at b4 b5
       rw [hC] at c4 c5
       rw [hD] at d4 d5
       have hAn:A<n:=by omega
       have hBn:B<n:=by omega
       have hCn:C<n:=by omega
       have hDn:D<n:=by omega
       obtain ⟨m1,m2,m3,m4,m5⟩:=ht.at hAn hBn
       obtain ⟨n1,n2,n3,n4,n5⟩:=ht.at hCn hDn
       by_cases he:t[A][B]=t[C][D]
       · simp [hz,hx,hy,htl,a3,c3,hA,hB,hC,hD,hAn,hBn,hCn,hDn,m3,n3,he]
         omega
       · simp [hz,hx,hy,htl,a3,c3,hA,hB,hC,hD,hAn,hBn,hCn,hDn,m3,n3,he]
         subst hR
         exact ⟨[(x:Int),y,z],by simp,by simp [post,c_spec_l05Fault]⟩
     · rintro e rfl
       simp
       omega
   · rintro e rfl
     simp
     omega
 · rintro e rfl
   simp
   subst hR
   exact ⟨[],by simp,by simp [post,c_spec_l05Fault]⟩
end Go.Mch
namespace Go.Mch
def S_cyI (pg:Pg):Prop:=∀ (n:Nat) (t:List (List Int)),0<n→n≤12→TabN n t→∃ b:Bool,(b=true→∀ r∈t,r.Nodup)∧Call pg 363 [cyT t] [cyT t] (B b)
set_option maxRecDepth 10000 in
theorem t_cyI {pg:Pg} (hp:pg.fn 363=some c_spec_l05Is) (h46:S_table pg 46) (h410:S_l01Rows pg) (h417:S_sqs pg) (h47:S_perm pg 47) (h418:S_flt pg):S_cyI pg:=by
 intro n t h0 hn ht
 have htl:=ht.1
 have hT:=ht.tab
 have hc1:=h46 t (by omega) (fun r hr=>by have:=(ht.2 r hr).1;omega)
 have hist:isTable t:=⟨by omega,by omega,hT⟩
 have hc2:=h410 t hT (by omega) (by omega)
 obtain ⟨q,q1,hc3⟩:=h417 n t (by omega) ht
 have hc4:=h47 q (by omega)
 obtain ⟨w,w1,hc5⟩:=h418 n t (by omega) ht
 have hw1:w.length≤1048576:=by omega
 simp only [hist,decide_true] at hc1
 by_cases hr:permRows t
 · simp only [hr,decide_true] at hc2
   by_cases hq:isPerm q
   · simp only [hq,decide_true] at hc4
     refine ⟨decide (w.length=0),fun _ r hr'=>(hr r hr').2,Call.intro hp rfl (by simp) ?_⟩
     show wp _ _ c_spec_l05Is.body (post _ _ _ _) _
     simp [c_spec_l05Is]
     refine callR hc1 rfl rfl (fun _=>rfl) ?_
     simp
     refine callR hc2 rfl rfl (fun _=>rfl) ?_
     simp
     refine callR hc3 rfl rfl (fun _=>by simp) ?_
     simp
     refine callR hc4 rfl rfl (fun _=>rfl) ?_
     simp
     refine callR hc5 rfl rfl (fun _=>by simp) ?_
     simp
   · simp only [hq,decide_false] at hc4
     refine ⟨false,by simp,Call.intro hp rfl (by simp) ?_⟩
     show wp _ _ c_spec_l05Is.body (post _ _ _ _) _
     simp [c_spec_l05Is]
     refine callR hc1 rfl rfl (fun _=>rfl) ?_
     simp
     refine callR hc2 rfl rfl (fun _=>rfl) ?_
     simp
     refine callR hc3 rfl rfl (fun _=>by simp) ?_
     simp
     refine callR hc4 rfl rfl (fun _=>rfl) ?_
     simp [undefV]
 · simp only [hr,decide_false] at hc2
   refine ⟨false,by simp,Call.intro hp rfl (by simp) ?_⟩
   show wp _ _ c_spec_l05Is.body (post _ _ _ _) _
   simp [c_spec_l05Is]
   refine callR hc1 rfl rfl (fun _=>rfl) ?_
   simp
   refine callR hc2 rfl rfl (fun _=>rfl) ?_
   simp [undefV]
def S_cyc (pg:Pg):Prop:=∀ (n:Nat) (f s:List (List Int)),0<n→n≤12→CY n f→fits s→∃ t:List (List Int),CY n t∧Call pg 364 [sol f s] [sol f s] (ownC t)
set_option maxRecDepth 10000 in
theorem t_cyc {pg:Pg} (hp:pg.fn 364=some c_spec_l05Cycle) (h304:S_inv pg 304):S_cyc pg:=by
 intro n f s h0 hn hf hs
 have hfl:=hf.1.1
 refine Call.find hp rfl (by simp) ?_
 show wp _ _ c_spec_l05Cycle.body _ _
 generalize hR:(fun (x:X) (e:Env)=>∃ l:List (List Int),CY n l∧post c_spec_l05Cycle.rs [sol f s] [sol f s] (ownC l) x e)=R
 simp [c_spec_l05Cycle]
 refine wpLoop_count (fun k e=>∃ t:List (List Int),((t.length=k∧∀ r∈t,RowIn n r)∧∀ r∈t,r.Nodup)∧e=fr [(1,some (.val (.mem .own none [tb f,tb s]))),(2,some (.val (.mem .own none [nil]))),(3,some (.val (.mem .own none [ownN2 t]))),(4,some (.val (I k)))]) n ?_ ?_ 0 _ (by omega) ⟨[],⟨⟨rfl,by simp⟩,by simp⟩,rfl⟩
 · rintro k e hk ⟨t,⟨⟨g1,g2⟩,g3⟩,rfl⟩
   have hkl:k<f.length:=by omega
   have hr:=hf.1.2 _ (List.getElem_mem hkl)
   have hpm:=pm_of hr (hf.2 _ (List.getElem_mem hkl)) h0 hn
   have hc:=h304 f[k] hpm
   obtain ⟨j1,j2⟩:=invL_ok hpm
   rw [hr.1] at j1
   by_cases hk0:k=0
   · subst hk0
     obtain rfl:t=[]:=List.length_eq_zero_iff.1 g1
     simp [hk,hfl]
     refine callR hc rfl rfl (fun _=>by simp) ?_
     simp
     exact ⟨by unfold roomy;omega,[invL f[0]],⟨⟨rfl,one_row j1⟩,fun r hr=>by rw [List.mem_singleton.1 hr];exact j2⟩,rfl⟩
   · rw [ownN2_ne g1 (by omega)]
     simp [hk,hfl]
     refine callR hc rfl rfl (fun _=>by simp) ?_
     simp
     refine ⟨by unfold roomy;omega,by omega,t++[invL f[k]],⟨TabN.snoc ⟨g1,g2⟩ j1,fun r hr=>?_⟩,by simp only [ownN2_snoc]⟩
     rcases List.mem_append.1 hr with h1 | h1
     · exact g3 r h1
     · rw [List.mem_singleton.1 h1];exact j2
 · rintro e ⟨t,⟨⟨g1,g2⟩,g3⟩,rfl⟩
   rw [ownN2_ne g1 h0]
   simp [hfl]
   subst hR
   exact ⟨t,⟨⟨g1,g2⟩,g3⟩,by simp [post,c_spec_l05Cycle]⟩
theorem PMN.pm {n:Nat} {f s:List (List Int)} (h:PMN n f s) (h0:0<n) (h12:n≤12):PM f s:=⟨h.1.tab,h.2.tab,by rw [h.1.1,h.2.1],by rw [h.1.1];exact h0,by rw [h.1.1];exact h12⟩
theorem PMN.fits {n:Nat} {f s:List (List Int)} (h:PMN n f s) (h12:n≤12):fits f∧fits s:=⟨⟨by rw [h.1.1];omega,fun r hr=>by rw [(h.1.2 r hr).1];omega⟩,by rw [h.2.1];omega,fun r hr=>by rw [(h.2.2 r hr).1];omega⟩
def S_cyD (pg:Pg) (f:Nat):Prop:=∀ (c:Rw Int) (s:Int×Int) (most:Nat),Sr c s→0<most→most≤12→∃ (s':Int×Int) (n:Nat) (t:List (List Int)),(Sr c s'∧0<n∧n≤most∧CY n t)∧Call pg f [src c s,I most] [src c s',I most] (ownC t)
set_option maxRecDepth 10000 in
theorem t_cyA {pg:Pg} (hp:pg.fn 427=some c_spec_l05Any) (h336:S_nxt pg) (h424:S_aff pg) (h363:S_cyI pg) (h412:S_dr2 pg) (h350:S_nonDeg pg 350) (h351:S_twice pg 351) (h364:S_cyc pg) (h449:S_flp pg):S_cyD pg 427:=by
 intro c s most hs m0 m12
 have hfind:=Call.findA (α:=(Int×Int)×Nat×List (List Int)) (Q:=fun Y=>Sr c Y.1∧0<Y.2.1∧Y.2.1≤most∧CY Y.2.1 Y.2.2) (args:=[src c s,I most]) (args':=fun Y=>[src c Y.1,I most]) (r:=fun Y=>ownC Y.2.2) hp rfl (by simp [F.lets,c_spec_l05Any,List.range,List.range.loop]) (by simp [kindOf]) ?_
 · obtain ⟨Y,h1,h2⟩:=hfind
   exact ⟨_,_,_,h1,h2⟩
 show wp _ _ c_spec_l05Any.body (postX _ _ _ _ _) _
 generalize hR:postX (fun Y:(Int×Int)×Nat×List (List Int)=>Sr c Y.1∧0<Y.2.1∧Y.2.1≤most∧CY Y.2.1 Y.2.2) c_spec_l05Any.rs [src c s,I most] (fun Y=>[src c Y.1,I most]) (fun Y=>ownC Y.2.2)=R
 have hfin:∀ (s':Int×Int) (k:Nat) (t:List (List Int)),Sr c s'→0<k→k≤most→CY k t→R .ret (fr [(0,some (.val (src c s'))),(1,some (.val (I most))),(4,some (.val (.mem .own none [ownTb t])))]):=by
  intro s' k X a1 a2 a3 a4
  subst hR
  exact ⟨(s',k,X),⟨a1,a2,a3,a4⟩,by simp [post,c_spec_l05Any]⟩
 obtain ⟨s1,r1,⟨k1,k2⟩,hc1⟩:=h336.at hs (n:=most) m0
 obtain ⟨s2,kd,⟨k3,k4⟩,hc2⟩:=h336.at k1 (n:=3) (by omega)
 obtain ⟨n,hn⟩:∃ n:Nat,(1:Int)+r1=n:=⟨1+r1,by omega⟩
 have hn0:0<n:=by omega
 have hnm:n≤most:=by omega
 simp [c_spec_l05Any]
 refine callS (ts':=[rawB c,I s1.1,H64 s1.2]) (r:=I r1) (by simpa using hc1) ?_
 simp [hn]
 refine ⟨by omega,?_⟩
 refine callS (ts':=[rawB c,I s2.1,H64 s2.2]) (r:=I kd) (by simpa using hc2) ?_
 by_cases hk0:kd=0
 · simp [hk0]
   refine wpLoop_count (fun k e=>∃ s':Int×Int,Sr c s'∧e=fr [(0,some (.val (src c s'))),(1,some (.val (I most))),(4,some (.val (.mem .own none [nil]))),(5,some (.val (I n))),(6,some (.val (I k)))]) 30 ?_ ?_ 0 _ (by omega) ⟨s2,k3,rfl⟩
   · rintro k e hk ⟨s3,g1,rfl⟩
     obtain ⟨s4,a1,⟨j1,j2⟩,hd1⟩:=h336.at g1 (n:=n) hn0
     obtain ⟨s5,a2,⟨j3,j4⟩,hd2⟩:=h336.at j1 (n:=n) hn0
     obtain ⟨s6,a3,⟨j5,j6⟩,hd3⟩:=h336.at j3 (n:=n) hn0
     obtain ⟨t,ht,hd4⟩:=h424 n a1 a2 a3 hn0 (by omega) (by omega) (by omega) (by omega)
     obtain ⟨b,hb,hd5⟩:=h363 n t hn0 (by omega) ht
     have hk':(k:Int)<30:=by omega
     simp [hk']
     refine callS (ts':=[rawB c,I s4.1,H64 s4.2]) (r:=I a1) (by simpa using hd1) ?_
     simp
     refine callS (ts':=[rawB c,I s5.1,H64 s5.2]) (r:=I a2) (by simpa using hd2) ?_
     simp
     refine callS (ts':=[rawB c,I s6.1,H64 s6.2]) (r:=I a3) (by simpa using hd3) ?_
     simp
     refine callR hd4 rfl rfl (fun _=>by simp) ?_
     simp
     refine callR hd5 rfl rfl (fun _=>rfl) ?_
     cases b with
     | true =>
      simp
      exact hfin s6 n t j5 hn0 hnm ⟨ht,hb rfl⟩
     | false =>
      simp
      exact ⟨by omega,s6.1,s6.2,j5,rfl⟩
   · rintro e ⟨s3,g1,rfl⟩
     simp
     refine wpLoop_count (fun k e=>∃ s':Int×Int,Sr c s'∧e=fr [(0,some (.val (src c s'))),(1,some (.val (I most))),(4,some (.val (.mem .own none [nil]))),(5,some (.val (I n))),(8,some (.val (I k)))]) 8 ?_ ?_ 0 _ (by omega) ⟨s3,g1,rfl⟩
     · rintro k e hk ⟨s3,g1,rfl⟩
       obtain ⟨s4,m,X,⟨j1,j2,j3,j4⟩,hd1⟩:=h412 c s3 n g1 hn0 (by omega)
       have hpm:=j4.pm j2 (by omega)
       have hfit:=j4.fits (by omega)
       have hk':(k:Int)<8:=by omega
       have hd2:=h350 X.1 X.2 hpm
       have hd3:=h351 X.1 X.2 hpm
       simp [hk']
       refine callS (ts':=[rawB c,I s4.1,H64 s4.2]) (r:=ownS X) (by simpa using hd1) ?_
       simp
       refine callR hd2 rfl rfl (fun _=>rfl) ?_
       by_cases hg:nonDeg X.1 X.2
       · simp [hg]
         refine callR hd3 rfl rfl (fun _=>rfl) ?_
         generalize dec (isInv X.1 X.2)=b at *
         cases b with
         | true =>
          obtain ⟨t,ht,hd4⟩:=h364 m X.1 X.2 j2 (by omega) ⟨j4.1,fun r hr=>(hg.1 r hr).2⟩ hfit.2
          simp
          refine callR hd4 rfl rfl (fun _=>by simp) ?_
          simp
          exact hfin s4 m t j1 j2 (by omega) ht
         | false =>
          simp
          exact ⟨by omega,s4.1,s4.2,j1,rfl⟩
       · simp [hg,undefV]
         exact ⟨by omega,s4.1,s4.2,j1,rfl⟩
     · rintro e ⟨s3,g1,rfl⟩
       obtain ⟨X,⟨j1,j2⟩,hd1⟩:=h449 n hn0 (by omega)
       have hfit:=j1.fits (by omega)
       obtain ⟨t,ht,hd2⟩:=h364 n X.1 X.2 hn0 (by omega) ⟨j1.1,fun r hr=>by rw [j2 r hr];exact (idL_rowIn n).2⟩ hfit.2
       simp
       refine callR hd1 rfl rfl (fun _=>by simp) ?_
       simp
       refine callR hd2 rfl rfl (fun _=>by simp) ?_
       simp
       exact hfin s3 n t g1 hn0 hnm ht
 · simp [hk0]
   refine wpLoop_count (fun k e=>∃ s':Int×Int,Sr c s'∧e=fr [(0,some (.val (src c s'))),(1,some (.val (I most))),(4,some (.val (.mem .own none [nil]))),(5,some (.val (I n))),(8,some (.val (I k)))]) 8 ?_ ?_ 0 _ (by omega) ⟨s2,k3,rfl⟩
   · rintro k e hk ⟨s3,g1,rfl⟩
     obtain ⟨s4,m,X,⟨j1,j2,j3,j4⟩,hd1⟩:=h412 c s3 n g1 hn0 (by omega)
     have hpm:=j4.pm j2 (by omega)
     have hfit:=j4.fits (by omega)
     have hk':(k:Int)<8:=by omega
     have hd2:=h350 X.1 X.2 hpm
     have hd3:=h351 X.1 X.2 hpm
     simp [hk']
     refine callS (ts':=[rawB c,I s4.1,H64 s4.2]) (r:=ownS X) (by simpa using hd1) ?_
     simp
     refine callR hd2 rfl rfl (fun _=>rfl) ?_
     by_cases hg:nonDeg X.1 X.2
     · simp [hg]
       refine callR hd3 rfl rfl (fun _=>rfl) ?_
       generalize dec (isInv X.1 X.2)=b at *
       cases b with
       | true =>
        obtain ⟨t,ht,hd4⟩:=h364 m X.1 X.2 j2 (by omega) ⟨j4.1,fun r hr=>(hg.1 r hr).2⟩ hfit.2
        simp
        refine callR hd4 rfl rfl (fun _=>by simp) ?_
        simp
        exact hfin s4 m t j1 j2 (by omega) ht
       | false =>
        simp
        exact ⟨by omega,s4.1,s4.2,j1,rfl⟩
     · simp [hg,undefV]
       exact ⟨by omega,s4.1,s4.2,j1,rfl⟩
   · rintro e ⟨s3,g1,rfl⟩
     obtain ⟨X,⟨j1,j2⟩,hd1⟩:=h449 n hn0 (by omega)
     have hfit:=j1.fits (by omega)
     obtain ⟨t,ht,hd2⟩:=h364 n X.1 X.2 hn0 (by omega) ⟨j1.1,fun r hr=>by rw [j2 r hr];exact (idL_rowIn n).2⟩ hfit.2
     simp
     refine callR hd1 rfl rfl (fun _=>by simp) ?_
     simp
     refine callR hd2 rfl rfl (fun _=>by simp) ?_
     simp
     exact hfin s3 n t g1 hn0 hnm ht
theorem nodup_inj {p:List Int} (h:p.Nodup) {i j:Nat} (hi:i<p.length) (hj:j<p.length) (he:p.getD i 0=p.getD j 0):i=j:=by
 simp only [List.getD_eq_getElem?_getD,List.getElem?_eq_getElem hi,List.getElem?_eq_getElem hj,Option.getD_some] at he
 exact (List.getElem_inj h).1 he
theorem imT_nodup {n:Nat} {t:List (List Int)} {p:List Int} (ht:CY n t) (hp:Pm p) (hl:p.length=n):∀ r∈imT t p,r.Nodup:=by
 intro r hr
 obtain ⟨a,ha,rfl⟩:=List.mem_map.1 hr
 simp only [List.mem_range] at ha
 have htl:=ht.1.1
 have hA:=hp.lt (x:=a) (by omega)
 have hAt:invQ p a<t.length:=by omega
 have hrow:=ht.1.2 _ (List.getElem_mem hAt)
 have hnd:=ht.2 _ (List.getElem_mem hAt)
 rw [List.nodup_iff_pairwise_ne,List.pairwise_iff_getElem]
 intro i j hi hj hij he
 have hil:i<n:=by simp at hi;omega
 have hjl:j<n:=by simp at hj;omega
 simp only [List.getElem_map,List.getElem_range] at he
 unfold imG at he
 have hI:=hp.lt (x:=i) (by omega)
 have hJ:=hp.lt (x:=j) (by omega)
 obtain ⟨u1,u2,u3,u4,u5⟩:=ht.1.at (i:=invQ p a) (j:=invQ p i) (by omega) (by omega)
 obtain ⟨v1,v2',v3,v4,v5⟩:=ht.1.at (i:=invQ p a) (j:=invQ p j) (by omega) (by omega)
 have e1:=get_v2 u1 u2
 have e2:=get_v2 v1 v2'
 rw [e1] at u4 u5
 rw [e2] at v4 v5
 have h1:=nodup_inj hp.pm.2 (by omega) (by omega) he
 have h2:v2 t (invQ p a) (invQ p i)=v2 t (invQ p a) (invQ p j):=by omega
 rw [← e1,← e2] at h2
 have h3:=(List.getElem_inj hnd).1 h2
 have h4:=hp.at (x:=i) (by omega)
 have h5:=hp.at (x:=j) (by omega)
 rw [h3] at h4
 omega
set_option maxRecDepth 10000 in
theorem t_cyDr {pg:Pg} (hp:pg.fn 378=some c_spec_l05Draw) (h336:S_nxt pg) (h427:S_cyD pg 427) (h368:S_drw pg) (h367:S_image pg 367):S_cyD pg 378:=by
 intro c s most hs m0 m12
 have hfind:=Call.findA (α:=(Int×Int)×Nat×List (List Int)) (Q:=fun Y=>Sr c Y.1∧0<Y.2.1∧Y.2.1≤most∧CY Y.2.1 Y.2.2) (args:=[src c s,I most]) (args':=fun Y=>[src c Y.1,I most]) (r:=fun Y=>ownC Y.2.2) hp rfl (by simp [F.lets,c_spec_l05Draw,List.range,List.range.loop]) (by simp [kindOf]) ?_
 · obtain ⟨Y,h1,h2⟩:=hfind
   exact ⟨_,_,_,h1,h2⟩
 show wp _ _ c_spec_l05Draw.body (postX _ _ _ _ _) _
 generalize hR:postX (fun Y:(Int×Int)×Nat×List (List Int)=>Sr c Y.1∧0<Y.2.1∧Y.2.1≤most∧CY Y.2.1 Y.2.2) c_spec_l05Draw.rs [src c s,I most] (fun Y=>[src c Y.1,I most]) (fun Y=>ownC Y.2.2)=R
 have hfin:∀ (s':Int×Int) (k:Nat) (t:List (List Int)),Sr c s'→0<k→k≤most→CY k t→R .ret (fr [(0,some (.val (src c s'))),(1,some (.val (I most))),(4,some (.val (.mem .own none [ownTb t])))]):=by
  intro s' k X a1 a2 a3 a4
  subst hR
  exact ⟨(s',k,X),⟨a1,a2,a3,a4⟩,by simp [post,c_spec_l05Draw]⟩
 obtain ⟨s1,n,t,⟨k1,k2,k3,k4⟩,hc1⟩:=h427 c s most hs m0 m12
 obtain ⟨s2,r,⟨k5,_⟩,hc2⟩:=h336.at k1 (n:=3) (by omega)
 obtain ⟨s3,p,⟨k6,k7,k8⟩,hc3⟩:=h368 c s2 n k5 (by omega)
 have hpm:=pm_of k7 k8 k2 (by omega)
 have hl1:=k4.1.1
 have hc4:=h367 t p k4.1.tab hpm (by rw [k7.1,hl1])
 simp [c_spec_l05Draw]
 refine callS (ts':=[rawB c,I s1.1,H64 s1.2]) (r:=ownC t) (by simpa using hc1) ?_
 simp
 refine callS (ts':=[rawB c,I s2.1,H64 s2.2]) (r:=I r) (by simpa using hc2) ?_
 by_cases hr:0<r
 · simp [hr,hl1]
   refine callS (ts':=[rawB c,I s3.1,H64 s3.2]) (r:=ownL p) (by simpa using hc3) ?_
   simp [hl1]
   refine callR hc4 rfl rfl (fun _=>by simp) ?_
   simp
   refine hfin s3 n (imT t p) k6 k2 k3 ⟨imT_tabN k4.1 hpm k7.1,?_⟩
   exact imT_nodup k4 hpm k7.1
 · simp [hr]
   exact hfin s2 n t k5 k2 k3 k4
end Go.Mch
namespace Go.Mch

def left (st:List Bool×List Nat):Nat:=st.1.count false+st.2.length

def digT (n m v:Nat):List Int:=(List.range m).map fun j=>((v / n ^ (m-1-j) % n:Nat):Int)
def numT (n:Nat) (w:List Int):Int:=w.foldl (fun a x=>a*n+x) 0

def ctOk (f:List (List Int)) (p:Int):Prop:=(0≤p∧p≤12)∧f.length ^ p.toNat≤5000
instance (f:List (List Int)) (p:Int):Decidable (ctOk f p):=by unfold ctOk;infer_instance
end Go.Mch
namespace Go.Mch

noncomputable def clV (f s:List (List Int)) (k v:Nat):List (List Int):=lso (cO f s (digT f.length k v) 5000)
def markL (n:Nat) (seen:List Bool) (X:List (List Int)):List Bool:=X.foldl (fun l x=>l.set (numT n x).toNat true) seen
noncomputable def nrmS (f s:List (List Int)) (k:Nat):Nat→List Bool×List (List Int)
 | 0=>(List.replicate (f.length ^ k) false,[])
 | v+1=>if (nrmS f s k v).1.getD v false then nrmS f s k v else (markL f.length (nrmS f s k v).1 (clV f s k v),(nrmS f s k v).2++[digT f.length k v])
noncomputable def nrm (f s:List (List Int)) (k:Nat):List (List Int):=(nrmS f s k (f.length ^ k)).2
end Go.Mch
