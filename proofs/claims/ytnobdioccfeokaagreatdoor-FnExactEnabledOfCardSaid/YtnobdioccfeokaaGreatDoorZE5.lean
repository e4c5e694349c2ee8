/-
  Proved facts that the law leans on.
-/
import Derived.Test.YtnobdioccfeokaaGreatDoorZE2
import Derived.Test.YtnobdioccfeokaaGreatDoorZE3
import Derived.Test.YtnobdioccfeokaaGreatDoorZE4
import Derived.Laws.CopyRow
import Derived.Laws.CopyOwn
import Derived.Laws.OwnMore
import Derived.Laws.Tables
import Derived.Deep.RegionWith
import Derived.Deep.DrawnRows
import Derived.Deep.RegionHeld3
import Derived.Deep.DeepMust
import Derived.Deep.Cut
import Derived.Test.YtnobdioccfeokaaGreatDoorRows
import Derived.WalkSpells
import Derived.WalkLawsBesides
import Derived.BigQuiet
namespace Go.Proofs.YtnobdioccfeokaaGreatDoor
open Go.RowKit
set_option linter.unusedVariables false
set_option linter.unusedSimpArgs false
theorem i1 {α:Type} (lt:α→α→Prop) (irr:∀x,¬lt x x) {l:List α} (h:l.Pairwise lt):l.Nodup:=by
 refine List.Pairwise.imp ?_ h
 intro a b hab e
 subst e
 exact irr _ hab
theorem lu {links:List Int} {l:Int} {i k:Nat} {q:Int × Int}:q∈cI links l i k↔∃j:Nat,j<k∧links.getD j 0=l∧q=((i:Int),(j:Int)):=by
 unfold cI
 simp only [List.mem_map,List.mem_filter,List.mem_range,decide_eq_true_eq]
 constructor
 ·rintro ⟨j,⟨h1,h2⟩,h3⟩;exact ⟨j,h1,h2,h3.symm⟩
 ·rintro ⟨j,h1,h2,h3⟩;exact ⟨j,⟨h1,h2⟩,h3.symm⟩
theorem d9 {b:Big} {l:Int} {q:Int × Int}:q∈aD b l↔∃(i j:Nat) (hi:i<b.nodes.length) (hj:j<(b.nodes[i]).links.length),(b.nodes[i]).links[j]=l∧q=((i:Int),(j:Int)):=by
 unfold aD dK
 simp only [List.mem_flatMap,List.mem_range,lu]
 constructor
 ·rintro ⟨i,hi,j,hj,h1,h2⟩
  have e:b.nodes.getD i ⟨0,0,[]⟩=b.nodes[i]:=by simp [hi]
  rw [e] at hj h1
  exact ⟨i,j,hi,hj,by rw [← h1];simp [hj],h2⟩
 ·rintro ⟨i,j,hi,hj,h1,h2⟩
  have e:b.nodes.getD i ⟨0,0,[]⟩=b.nodes[i]:=by simp [hi]
  exact ⟨i,hi,j,by rw [e];exact hj,by rw [e,← h1];simp [hj],h2⟩
theorem tf (b:Big) (l:Int):(aD b l).Nodup:=by
 have h:∀n,(dK b l n).Pairwise (fun p q:Int × Int=>p.1<q.1∨(p.1=q.1∧p.2<q.2)):=by
  intro n
  unfold dK
  rw [List.pairwise_flatMap]
  refine ⟨fun i _=>?_,?_⟩
  ·unfold cI
   rw [List.pairwise_map]
   exact (List.Pairwise.filter _ List.pairwise_lt_range).imp (fun h=>.inr ⟨rfl,by show (_:Int)<_;omega⟩)
  ·refine List.pairwise_lt_range.imp (fun {i j} hij x hx y hy=>?_)
   obtain ⟨_,_,_,rfl⟩:=lu.1 hx
   obtain ⟨_,_,_,rfl⟩:=lu.1 hy
   exact .inl (by show (_:Int)<_;omega)
 exact i1 _ (fun x h=>by omega) (h _)
theorem t7 {α:Type} [DecidableEq α]:∀(xs ys:List α),xs.Nodup→(∀x∈xs,x∈ys)→ys.length≤xs.length→∀y∈ys,y∈xs:=by
 intro xs
 induction xs with
 | nil=>intro ys _ _ hl y hy;cases ys <;> simp at *
 | cons x xs ih=>
  intro ys hn hs hl y hy
  rw [List.nodup_cons] at hn
  by_cases e:y=x
  ·simp [e]
  ·refine List.mem_cons_of_mem _ (ih (ys.erase x) hn.2 (fun z hz=>?_) ?_ y ((List.mem_erase_of_ne e).2 hy))
   ·have:z≠x:=fun h=>hn.1 (by rw [← h];exact hz)
    exact (List.mem_erase_of_ne this).2 (hs z (by simp [hz]))
   ·rw [List.length_erase_of_mem (hs x (by simp))];simp at hl;omega
theorem bF (l:List Int) (i:Nat) (h:i<l.length):atI l (i:Int)=l[i]:=by unfold atI;simp [h]
theorem og {l:List Int} {i:Int} (h0:0≤i) (h:i<l.length):atI l i∈l:=by
 obtain ⟨k,rfl⟩:=Int.eq_ofNat_of_zero_le h0
 rw [bF l k (by omega)];exact List.getElem_mem _
structure oK (r a:Big) (ns:List Int):Prop where
 len:ns.length=r.nodes.length
 at':∀i (h:i<r.nodes.length),∃(m:Nat) (hm:m<a.nodes.length),atI ns (i:Int)=(m:Int)∧(a.nodes[m]).control=(r.nodes[i]).control
 inj:∀i j,i<r.nodes.length→j<r.nodes.length→atI ns (i:Int)=atI ns (j:Int)→i=j
theorem jk {r a:Big} {ns:List Int} (h:sd r a ns=true):oK r a ns:=by
 unfold sd at h
 simp only [Bool.and_eq_true,decide_eq_true_eq] at h
 obtain ⟨h1,h2,h3⟩:=h
 rw [aC] at h2 h3
 refine ⟨h1,fun i hi=>?_,fun i j hi hj e=>?_⟩
 ·have h4:=h2 i (by omega)
  have h5:=h3 i (by omega)
  unfold uz at h4
  unfold vz at h5
  simp only [Bool.and_eq_true,decide_eq_true_eq] at h4 h5
  have h6:=bB h4.1
  obtain ⟨m,hm⟩:=Int.eq_ofNat_of_zero_le h6.1
  refine ⟨m,by omega,hm,?_⟩
  rw [hm,aB a m (by omega),aB r i hi] at h5
  exact h5
 ·have key:∀i j,i<j→j<ns.length→atI ns (i:Int)=atI ns (j:Int)→False:=fun i j hij hj e=>by
   have h4:=h2 j hj
   unfold uz at h4
   simp only [Bool.and_eq_true,Bool.not_eq_true'] at h4
   have h5:fp (ns.take j) (atI ns (j:Int))=true:=cO.2 (by
    rw [← e,bF ns i (by omega)]
    exact List.mem_take_iff_getElem.2 ⟨i,by omega,rfl⟩)
   rw [h5] at h4
   exact absurd h4.2 (by simp)
  rcases Nat.lt_trichotomy i j with h|h|h
  ·exact (key i j h (by omega) e).elim
  ·exact h
  ·exact (key j i h (by omega) e.symm).elim
theorem Da {r a:Big} {ns rs:List Int} (h1:(List.range ns.length).all (uz a ns)=true) (h2:(List.range ns.length).all (gu r a ⟨ns,rs⟩)=true) (h3:ns.length=r.nodes.length):oK r a ns:=by
 refine jk ?_
 unfold sd
 rw [decide_eq_true h3,h1]
 rw [aC] at h2
 rw [Bool.true_and,Bool.true_and,aC]
 intro i hi
 have:=h2 i hi
 unfold gu at this
 rw [Bool.and_eq_true] at this
 exact this.1
theorem oK.ports {sig:List Ctl} {r a:Big} {ns:List Int} (h:oK r a ns) (hr:aH sig r=true) (ha:aH sig a=true) {i m:Nat} (hi:i<r.nodes.length) (hm:m<a.nodes.length) (e:atI ns (i:Int)=(m:Int)):(a.nodes[m]).links.length=(r.nodes[i]).links.length:=by
 obtain ⟨m',hm',e',hc⟩:=h.at' i hi
 have:m'=m:=by omega
 subst this
 have h1:=(e9 hr i hi).2.2.2.1
 have h2:=(e9 ha m' hm').2.2.2.1
 rw [hc] at h2
 omega
theorem oK.img {sig:List Ctl} {r a:Big} {ns:List Int} (h:oK r a ns) (hr:aH sig r=true) (ha:aH sig a=true) {i j:Nat} (hi:i<r.nodes.length) (hj:j<(r.nodes[i]).links.length):∃(m:Nat) (hm:m<a.nodes.length) (hl:j<(a.nodes[m]).links.length),atI ns (i:Int)=(m:Int)∧gO a ns ((i:Int),(j:Int))=(a.nodes[m]).links[j]:=by
 obtain ⟨m,hm,e,_⟩:=h.at' i hi
 have hl:=h.ports hr ha hi hm e
 refine ⟨m,hm,by omega,e,?_⟩
 unfold gO
 rw [e,aB a m hm,bF _ j (by omega)]
theorem oK.img_link {sig:List Ctl} {r a:Big} {ns:List Int} (h:oK r a ns) (hr:aH sig r=true) (ha:aH sig a=true) {l:Int} {q:Int × Int} (hq:q∈aD r l):fw a (gO a ns q)=true:=by
 obtain ⟨i,j,hi,hj,_,rfl⟩:=d9.1 hq
 obtain ⟨m,hm,hl,_,e⟩:=h.img hr ha hi hj
 rw [e]
 exact (e9 ha m hm).2.2.2.2 _ (List.getElem_mem _)
theorem kz {r a:Big} {ns rs:List Int} (h:fH r a ⟨ns,rs⟩=true):(rs.length:Int)=r.roots:=by
 unfold fH at h
 simp only [Bool.and_eq_true,decide_eq_true_eq] at h
 exact h.2
theorem Ik {a:Big} {ns:List Int} (h:(List.range ns.length).all (uz a ns)=true) (i:Nat) (hi:i<ns.length):∃(m:Nat) (hm:m<a.nodes.length),atI ns (i:Int)=(m:Int):=by
 have h4:=(aC _ _).1 h i hi
 unfold uz at h4
 simp only [Bool.and_eq_true] at h4
 have h6:=bB h4.1
 obtain ⟨m,hm⟩:=Int.eq_ofNat_of_zero_le h6.1
 exact ⟨m,by omega,hm⟩
theorem iC {b:Big} {l:Int} (h:fw b l=true):∃n:Nat,l=(n:Int)∧n<ak b:=by
 unfold fw at h
 have:=bB h
 obtain ⟨n,hn⟩:=Int.eq_ofNat_of_zero_le this.1
 exact ⟨n,hn,by unfold ak;omega⟩
theorem oK.up_pos {sig:List Ctl} {r a:Big} {ns:List Int} (h:oK r a ns) (hr:aH sig r=true) (ha:aH sig a=true) {l:Int} {k i:Nat} (hk:k<r.nodes.length) (hi:i≤(r.nodes[k]).links.length):∀q∈bm r l k i,0≤gO a ns q:=by
 intro q hq
 obtain ⟨t,ht⟩:=jl r l k i hk hi
 obtain ⟨n,hn,_⟩:=iC (h.img_link hr ha (q:=q) (l:=l) (by rw [ht];exact List.mem_append_left _ hq))
 omega
theorem Bg {r a:Big} {ns:List Int} (h:gV r a ns r.nodes.length 0) (he:∀l:Nat,(l:Int)<r.edges→l<ak r→ic r a ns l=true):fX r a ns=true:=by
 unfold fX
 rw [aC]
 intro l hl
 by_cases hle:(l:Int)<r.edges
 ·exact he l hle hl
 ·unfold ic
  rw [oQ h l hl,decide_eq_false hle]
  rfl
theorem EK {r a:Big} {ns:List Int} (h:gV r a ns r.nodes.length 0) (l:Nat) (hl:l<ak r) (hle:(l:Int)<r.edges):ic r a ns l=(decide (mC r a ns l<a.edges) && decide ((aD a (mC r a ns l)).length=(aD r l).length)):=by
 unfold ic
 rw [oQ h l hl,decide_eq_true hle]
 simp
def ot (r a:Big) (ns:List Int):List Int:=if fX r a ns then bi r a ns else []
theorem lW {r a:Big} {ns:List Int} (h:fX r a ns=false):ot r a ns = []:=by unfold ot;rw [h];rfl
theorem kr {r a:Big} {ns:List Int} (h:fX r a ns=true):ot r a ns=bi r a ns:=by unfold ot;rw [h];rfl
def gF (r a:Big) (ns:List Int) (n:Nat):List Int:=(List.range n).map (fun (l:Nat)=>mC r a ns l)
theorem rJ (r a:Big) (ns:List Int) (n:Nat):gF r a ns (n+1)=gF r a ns n++[mC r a ns n]:=by unfold gF;rw [List.range_succ,List.map_append];rfl
theorem vj (a:Big) (ns:List Int):∀(ps:List (Int × Int)) (h:0<ps.length),jr a ns ps=gO a ns ps[0]
 | [],h=>by simp at h
 | _ :: _,_=>rfl
theorem ii {b:Big} (h:cA b=true) (l:Nat) (hl:l<ak b):aD b l≠[]:=by
 unfold cA at h
 simp only [Bool.and_eq_true,decide_eq_true_eq] at h
 obtain ⟨⟨h1,_⟩,_,_,h5⟩:=h
 have h6:=(aC _ _).1 h5 l hl
 intro he
 have hi:b.inner = []:=List.eq_nil_of_length_eq_zero h1
 unfold dH pU at h6
 rw [he] at h6
 simp [nF,ex,hi] at h6
theorem BZ {sig:List Ctl} {r a:Big} {ns:List Int} (h:oK r a ns) (hr:aH sig r=true) (ha:aH sig a=true) {l:Nat} (hl:ic r a ns l=true) (he:(l:Int)<r.edges) {q:Int × Int} (hq:q∈aD a (mC r a ns l)):q.1∈ns:=by
 unfold ic at hl
 simp only [Bool.and_eq_true,Bool.or_eq_true,Bool.not_eq_true',decide_eq_false_iff_not,List.all_eq_true,decide_eq_true_eq] at hl
 obtain ⟨h1,h2⟩:=hl
 obtain ⟨_,h3⟩:=h2.resolve_left (by omega)
 have hin:∀p∈aD r l,∃i j:Nat,i<r.nodes.length∧p=((i:Int),(j:Int))∧(atI ns p.1,p.2)∈aD a (mC r a ns l):=fun p hp=>by
  have h4:=h1 p hp
  obtain ⟨i,j,hi,hj,_,rfl⟩:=d9.1 hp
  obtain ⟨m,hm,hlm,e,e2⟩:=h.img hr ha hi hj
  exact ⟨i,j,hi,rfl,d9.2 ⟨m,j,hm,hlm,by rw [← e2,h4],by show (atI ns (i:Int),_)=_;rw [e]⟩⟩
 have hnd:((aD r l).map (fun p=>(atI ns p.1,p.2))).Nodup:=by
  unfold List.Nodup
  rw [List.pairwise_map]
  refine List.Pairwise.imp_of_mem ?_ (tf r l)
  intro p p' hp hp' hne e
  obtain ⟨i,j,hi,rfl,_⟩:=hin p hp
  obtain ⟨i',j',hi',rfl,_⟩:=hin p' hp'
  simp only [Prod.mk.injEq] at e
  have:=h.inj i i' hi hi' e.1
  exact hne (by rw [this,e.2])
 have hall:=t7 _ _ hnd (fun x hx=>by
  obtain ⟨p,hp,rfl⟩:=List.mem_map.1 hx
  exact (hin p hp).elim fun _ ⟨_,_,_,h⟩=>h) (by rw [List.length_map];omega) q hq
 obtain ⟨p,hp,rfl⟩:=List.mem_map.1 hall
 obtain ⟨i,j,hi,rfl,_⟩:=hin p hp
 exact og (by omega) (by have:=h.len;show (i:Int)<_;omega)
theorem A6 {α:Type} {lt:α→α→Prop} (irr:∀x,¬lt x x) (tr:∀x y z,lt x y→lt y z→lt x z):∀l1 l2:List α,l1.Pairwise lt→l2.Pairwise lt→(∀x,x∈l1↔x∈l2)→l1=l2:=by
 intro l1
 induction l1 with
 | nil=>
  intro l2 _ _ h
  cases l2 with
  | nil=>rfl
  | cons y l2=>exact absurd ((h y).2 (by simp)) (by simp)
 | cons x l1 ih=>
  intro l2 h1 h2 h
  cases l2 with
  | nil=>exact absurd ((h x).1 (by simp)) (by simp)
  | cons y l2=>
   rw [List.pairwise_cons] at h1 h2
   have hx:=(h x).1 (by simp)
   have hy:=(h y).2 (by simp)
   have e:x=y:=by
    rcases List.mem_cons.1 hx with e|hx
    ·exact e
    ·rcases List.mem_cons.1 hy with e|hy
     ·exact e.symm
     ·exact absurd (tr _ _ _ (h1.1 y hy) (h2.1 x hx)) (irr x)
   subst e
   rw [ih l2 h1.2 h2.2 (fun z=>⟨fun hz=>?_,fun hz=>?_⟩)]
   ·rcases List.mem_cons.1 ((h z).1 (by simp [hz])) with e|hz2
    ·subst e;exact absurd (h1.1 z hz) (irr z)
    ·exact hz2
   ·rcases List.mem_cons.1 ((h z).2 (by simp [hz])) with e|hz2
    ·subst e;exact absurd (h2.1 z hz) (irr z)
    ·exact hz2
theorem gN (f:Nat→Bool) (n:Nat):(idxOf f n).Pairwise (· < ·):=by
 unfold idxOf
 rw [List.pairwise_map]
 exact (List.Pairwise.filter _ List.pairwise_lt_range).imp (fun h=>by omega)
def dh (l:List Int) (x:Int):Int:=if fp l x then (l.idxOf x:Int) else -1
theorem fJ {f:Nat→Bool} {n:Nat} (k:Nat) (hk:k<n):dh (idxOf f n) (k:Int)=if f k then ((idxOf f k).length:Int) else -1:=by
 unfold dh
 by_cases hf:f k=true
 ·have hm:(k:Int)∈idxOf f n:=bp.2 ⟨k,hk,hf,rfl⟩
  rw [if_pos (cO.2 hm),if_pos hf]
  congr 1
  have hsplit:∃t,idxOf f n=idxOf f k++(k:Int) :: t:=by
   obtain ⟨d,rfl⟩:∃d,n=k+1+d:=⟨n - (k+1),by omega⟩
   clear hk hm
   induction d with
   | zero=>exact ⟨[],by rw [Nat.add_zero,dI hf]⟩
   | succ d ih=>
    obtain ⟨t,ht⟩:=ih
    rw [show k+1+(d+1)=(k+1+d)+1 by omega]
    by_cases h2:f (k+1+d)=true
    ·exact ⟨t++[((k+1+d:Nat):Int)],by rw [dI h2,ht];simp⟩
    ·exact ⟨t,by rw [eY (by simpa using h2),ht]⟩
  obtain ⟨t,ht⟩:=hsplit
  rw [ht,List.idxOf_append,if_neg,List.idxOf_cons_self,Nat.zero_add]
  intro h
  obtain ⟨i,hi,_,e⟩:=bp.1 h
  omega
 ·rw [if_neg (fun h=>hf ?_),if_neg hf]
  obtain ⟨i,_,h2,e⟩:=bp.1 (cO.1 h)
  have:i=k:=by omega
  rw [← this];exact h2
def kK (r a:Big) (ns:List Int) (l:Nat):Bool:=!fp ((bi r a ns).take r.edges.toNat) l
def iV (r a:Big) (ns:List Int):List Int:=idxOf (kK r a ns) a.edges.toNat
def iP (r a:Big) (ns:List Int) (l:Int):Int:=if l<a.edges then dh (iV r a ns) l else (iV r a ns).length+(l - a.edges)
def mY (a:Big) (ns:List Int):List Int:=idxOf (fun i=>!il a ns i) a.nodes.length
def mH (a:Big) (ns:List Int) (i:Nat):Bool:=il a ns i && !fp ns i
def bz (a:Big) (ns:List Int):List Int:=idxOf (mH a ns) a.nodes.length
def dP (a:Big) (ns:List Int) (p:Int):Int:=if 0≤p then dh (mY a ns) p else p
def IQ (a:Big) (ns:List Int) (l:Nat):Bool:=(bz a ns).any fun k=>fp (dF a k).links l
def am (a:Big) (ns:List Int):List Int:=idxOf (IQ a ns) (ak a)
end Go.Proofs.YtnobdioccfeokaaGreatDoor
namespace Go.Proofs.YtnobdioccfeokaaGreatDoor
open Go.RowKit
set_option linter.unusedVariables false
set_option linter.unusedSimpArgs false
def mw (w:World) (g:Nat) (l:List Int):Prop:=w.heap[g]? = some (.cells (l.map (Value.int .i64)).toArray 3 (0,0))
theorem mw.lt {w:World} {g:Nat} {l:List Int} (h:mw w g l):g<w.heap.size:=(Array.getElem?_eq_some_iff.1 h).1
theorem mw.cell {w:World} {g:Nat} {l:List Int} (h:mw w g l) (j:Nat) (hj:j<l.length):w.cell? ⟨g,j,none⟩=some (.int .i64 l[j]):=by
 unfold mw at h
 simp [World.cell?,h,hj]
theorem mw.froz {w:World} {g:Nat} {l:List Int} (h:mw w g l) (j:Nat):w.frozen? ⟨g,j,none⟩=false:=by
 unfold mw at h
 simp [World.frozen?,h]
theorem mw.ext {w w':World} {g:Nat} {l:List Int} (h:mw w g l) (hx:Ext w w'):mw w' g l:=(hx.block g h.lt).trans h
theorem mw.row {w:World} {g:Nat} {l:List Int} (h:mw w g l) (l':List Int):mw (w.setRow g (l'.map (Value.int .i64)).toArray) g l':=by
 unfold mw at h ⊢
 exact setRow_heap w g _ _ _ _ h
theorem mw.set {w:World} {g:Nat} {l:List Int} (h:mw w g l) (j:Nat) (v:Int):mw (w.setCell ⟨g,j,none⟩ (.int .i64 v)) g (l.set j v):=by
 have h2:=h
 unfold mw at h2
 rw [setCell_eq_setRow w g j _ _ _ _ h2]
 have e:(l.map (Value.int .i64)).toArray.setIfInBounds j (.int .i64 v)=((l.set j v).map (Value.int .i64)).toArray:=by simp [List.map_set]
 rw [e]
 exact h.row _
theorem pT {P:Program} {w:World} {ops:Array Oper} {o:Oper} {a:Act} {Q:Exit→Act→World→Prop} {K:Act→World→Prop} (hw:Region.wanted o (yielded ops a.tmps)=true) (d s:Operand) (dT sT:TypeId)
 (ho:o.op=.call { callee:=.builtin .copy,args:=#[d,s],argTypes:=#[dT,sT] }) (elem:TypeId) (hu:P.underlying dT=some (.slice elem)) (hsz:(P.info? elem).map (·.size)=some 1)
 (g off dLen dCap:Nat) (ad:Addr) (d7 sCap:Nat) (hd:a.eval d=.slice (some ⟨g,off,none⟩) dLen dCap) (hs:a.eval s=.slice (some ad) d7 sCap)
 (cur:Array Value) (t:TypeId) (hg:w.heap[g]? = some (.cells cur t (0,0))) (cs:List Value) (hn:cs.length=Nat.min d7 dLen)
 (hsrc:∀j v,cs[j]? = some v→w.cell? (ad.add j)=some v) (hfit:off+cs.length≤cur.size) (h1:∀v∈cs,v.oneCell'=true)
 (h:K (a.put o.dst (goInt cs.length)) (w.setRow g (cur.toList.take off++cs++cur.toList.drop (off+cs.length)).toArray)):if Region.wanted o (yielded ops a.tmps)=true then Oper.wp P o a w K Q else K (a.put o.dst undef) w:=by
 have hrun:=run_copy_row (P:=P) w dT sT o.type elem g off dLen dCap ad d7 sCap cur t cs hu hsz hg hn hsrc hfit h1
 rw [if_pos hw]
 unfold Oper.wp
 simp [execOp,ho,resolve,invoke,builtin,hd,hs,hrun,Result.andThen,Oper.upon]
 simpa using h
theorem yW (n:Nat):(madeCells #[.int .i64 0] (n * 1)).toList=(List.replicate n (0:Int)).map (fun x=>Value.int .i64 x):=by
 unfold madeCells
 apply List.ext_getElem
 ·simp
 ·intro i h1 h2
  simp [Nat.mod_one]
def nA (x:Int) (k n:Nat):List Int:=List.replicate k x++List.replicate (n - k) 0
theorem EI (x:Int) (k n:Nat) (h:k≤n):(nA x k n).length=n:=by unfold nA;simp;omega
theorem tz (x:Int) (k c n:Nat) (h:k+c≤n):(((nA x k n).map (Value.int .i64)).take k++List.replicate c (.int .i64 x)++((nA x k n).map (Value.int .i64)).drop (k+c))=(nA x (k+c) n).map (Value.int .i64):=by
 unfold nA
 rw [← List.map_take,← List.map_drop,List.take_append_of_le_length (by simp),List.take_of_length_le (by simp),List.drop_append,List.drop_of_length_le (by simp),List.drop_replicate]
 simp only [List.map_append,List.map_replicate,List.length_replicate,List.nil_append]
 rw [show n - k - (k+c - k)=n - (k+c) by omega,List.replicate_append_replicate]
theorem EV (x:Int) (n:Nat):nA x n n=List.replicate n x:=by unfold nA;simp
theorem mw.drew {w:World} {g:Nat} {l:List Int} (h:mw w g l):mw w.drew g l:=h
theorem Gr {w:World} {g k c:Nat} {x:Int} {l:List Int} (h:mw w g l) (hc:c≤l.length) (hl:∀j (hj:j<l.length),j<c→l[j]=x):∀(j:Nat) (v:Value),(List.replicate c (Value.int .i64 x))[j]? = some v→w.cell? ((⟨g,0,none⟩:Addr).add j)=some v:=by
 intro j v hj
 obtain ⟨h1,h2⟩:=List.getElem?_eq_some_iff.1 hj
 rw [List.length_replicate] at h1
 rw [List.getElem_replicate] at h2
 have e:((⟨g,0,none⟩:Addr).add j)=⟨g,j,none⟩:=by cases j <;> simp [Addr.add]
 rw [e,h.cell j (by omega),hl j (by omega) h1,h2]
theorem GT (x:Int) (k n j:Nat) (hj:j<(nA x k n).length) (h:j<k):(nA x k n)[j]=x:=by
 have h2:(nA x k n)[j]? = some x:=by
  unfold nA
  rw [List.getElem?_append_left (by simpa using h)]
  simp [h]
 exact (List.getElem?_eq_some_iff.1 h2).2
theorem E8:(Tryz.prog.info? 3).map (·.size)=some 1:=by kernel_rfl
set_option maxRecDepth 100000 in
set_option maxHeartbeats 3200000 in
theorem ji (lo hi:Nat) (v:Value) (x:Int) (n:Nat) (w:World) (h:uK lo hi w v [x]) (hn:n≤1000) :
 Calls Tryz.prog 244 #[v,.int .i64 n] w fun e w'=>∃g,e=.returned (.slice (some ⟨g,0,none⟩) n n)∧w.heap.size≤g∧mw w' g (List.replicate n x)∧Ext w w':=by
 obtain ⟨va,vk,rfl,n1,n2,n3,n4⟩:=h
 obtain ⟨b,o,rfl,hb1,hb2,n4⟩:=n4.resolve_left (by simp)
 obtain ⟨cs,cl,⟨rfl,ce⟩,cc⟩:=n4 0 (by simp)
 have c0:=cc 0 _ rfl
 simp only [Nat.zero_mul,Nat.add_zero,List.getElem_cons_zero] at c0 ce
 clear cc cl n4
 unfold maxLen at n2
 obtain ⟨i0,hi0,hz0,hz1,hz2⟩:=info_parts wt
 obtain ⟨W2,hmk,own0,gro0⟩:=run_make_full w w.heap.size 23 3 i0 _ 1 Tryz.underlying23 hi0 hz0 hz1 .i64 .i64 n (by rw [hz2];omega) (by unfold maxLen;omega) (Nat.le_refl _)
 have hx2:Ext w W2:=Di gro0
 have hR0:mw W2 w.heap.size (nA x 0 n):=by
  obtain ⟨_,h|⟨g,cap,cur,h1,h2,h3,h4,h5,h6,h7⟩⟩:=own0
  ·cases h.1
  ·cases h1
   unfold mw
   rw [h3]
   have e:cur=((nA x 0 n).map (Value.int .i64)).toArray:=by
    apply Array.ext'
    rw [List.take_of_length_le (by simp;omega)] at h7
    rw [h7]
    have:=yW n
    change (madeCells (Value.int .i64 0).cells (n * 1)).toList=_ at this
    rw [this]
    unfold nA
    simp
   rw [e]
 have hd:=hx2.keep c0
 clear own0 gro0
 have jn:=IntWalk.i64_in (n:Int) (by omega)
 have hml:((1 * n / 18446744073709551616:Nat):Int)=0:=by omega
 have hmh:((1 * n % 18446744073709551616:Nat):Int)=(n:Int):=by omega
 have HM1:=Lib.hid hml
 have HM2:=Lib.hid hmh
 clear hml hmh
 obtain ⟨cn,hcn⟩:∃cn,Nat.min 1 n=cn:=⟨_,rfl⟩
 have hcn1:cn≤1:=by rw [← hcn];exact Nat.min_le_left _ _
 have hcn2:cn≤n:=by rw [← hcn];exact Nat.min_le_right _ _
 have hcn3:n=0∨cn=1:=by rw [← hcn];exact (Nat.eq_zero_or_pos n).imp id (fun h=>Nat.min_eq_left h)
 have HCN:=Lib.hid hcn
 clear hcn
 go_enter Tryz.func244,Tryz.ntmps244
 go_upto_region 7 with (go_at_call 268;refine (Tryz.bits_Mul 1 n (by omega) (by omega) _).mono ?_;rintro e y ⟨rfl,rfl⟩;rw [HM1.out,HM2.out])
 refine wp_region_lit ?_
 refine wpList_plain rfl fun K hK=>?_
 unfold Oper.wp
 go_simp
 refine hK _ _ ?_
 clear hK
 refine wpList_plain rfl fun K hK=>?_
 unfold Oper.wp
 go_simp
 refine hK _ _ ?_
 clear hK
 refine wpList_copy_own rfl (.tmp 31) (.tmp 32) 23 23 rfl 3 Tryz.underlying23 E8 y.heap.size 0 n n ⟨b,o,none⟩ 1 vk rfl rfl _ _ hR0 (List.replicate cn (.int .i64 x)) (by rw [List.length_replicate];exact HCN.out.symm) ?_ (by rw [List.length_replicate];simp [nA];omega) (fun v hv=>by rw [List.eq_of_mem_replicate hv];rfl) ?_
 ·intro j v hj
  obtain ⟨h1,h2⟩:=List.getElem?_eq_some_iff.1 hj
  rw [List.length_replicate] at h1
  rw [List.getElem_replicate] at h2
  obtain rfl:j=0:=by omega
  rw [← h2]
  simpa [Addr.add] using hd
 have hR3:mw (W2.setRow y.heap.size ((((nA x 0 n).map (Value.int .i64)).toArray.toList.take 0++(List.replicate cn (Value.int .i64 x)++((nA x 0 n).map (Value.int .i64)).toArray.toList.drop (0+(List.replicate cn (Value.int .i64 x)).length))).toArray)) y.heap.size (nA x cn n):=by
  have e:=tz x 0 cn n (by omega)
  rw [Nat.zero_add] at e
  rw [List.length_replicate,← List.append_assoc,Nat.zero_add,List.toList_toArray,e]
  exact hR0.row _
 have hx3:=below_setRow hx2 (Nat.le_refl y.heap.size) ((((nA x 0 n).map (Value.int .i64)).toArray.toList.take 0++(List.replicate cn (Value.int .i64 x)++((nA x 0 n).map (Value.int .i64)).toArray.toList.drop (0+(List.replicate cn (Value.int .i64 x)).length))).toArray)
 generalize W2.setRow y.heap.size _=W3 at hR3 hx3 ⊢
 replace hx3:Ext y W3:=hx3
 rw [List.length_replicate]
 clear hR0 hx2 hd hmk
 go_wp2
 go_loopw [8] (fun c wr=>∃k:Nat,c=.int .i64 k∧k≤n∧(n=0∨1≤k)∧mw wr y.heap.size (nA x k n)∧Ext y wr) (fun c _=>n - (intOf c).toNat)
 case atStart=>exact ⟨cn,rfl,hcn2,by omega,hR3,hx3⟩
 case round=>
  obtain ⟨k,rfl,hk0,hk1,hrow,hx⟩:=hrel
  clear hR3 hx3
  by_cases hlt:k<n
  ·obtain ⟨c,hc⟩:∃c,Nat.min k (n - k)=c:=⟨_,rfl⟩
   have hc1:c≤k:=by rw [← hc];exact Nat.min_le_left _ _
   have hc2:c≤n - k:=by rw [← hc];exact Nat.min_le_right _ _
   have hc3:1≤c:=by rw [← hc];exact Nat.le_min.2 ⟨by omega,by omega⟩
   have HC:=Lib.hid hc
   clear hc
   have hlen:=EI x k n hk0
   have hnk:¬n=k:=by omega
   have j0:(0:Int)≤(k:Int):=by omega
   have j1:(k:Int)≤(n:Int):=by omega
   have j2:(k:Int)<(n:Int):=by omega
   have j3:=IntWalk.i64_in ((k:Int)+(c:Int)) (by omega)
   go_upto_region 9 with fail
   refine wp_region_held_drew (S:=(fun w'=>Ext y w')) (by kernel_rfl) ?_ (fun hHeld=>?_)
   ·exact hx.drew
   refine tkP 0 ?_ ?_ ?_;rotate_left;focus (intro w;go_simp;try with_reducible rfl)
   try simp only [Act.put,uy]
   refine tkP 1 ?_ ?_ ?_;rotate_left;focus (intro w;go_simp;try with_reducible rfl)
   try simp only [Act.put,uy]
   refine tkP 2 ?_ ?_ ?_;rotate_left;focus (intro w;go_simp;try with_reducible rfl)
   try simp only [Act.put,uy]
   refine tkP 3 ?_ ?_ ?_;rotate_left;focus (intro w;go_simp;try with_reducible rfl)
   try simp only [Act.put,uy]
   refine tkP 4 ?_ ?_ ?_;rotate_left;focus (intro w;go_simp;try with_reducible rfl)
   try simp only [Act.put,uy]
   refine tkP 5 ?_ ?_ ?_;rotate_left;focus (intro w;go_simp;try with_reducible rfl)
   try simp only [Act.put,uy]
   refine tkP 6 ?_ ?_ ?_;rotate_left;focus (intro w;go_simp;try with_reducible rfl)
   try simp only [Act.put,uy]
   refine wpAnyH_ready (rs:=[7]) (by kernel_rfl) (by simp) ?_
   refine AllReadyH.cons rfl (fun K hK=>?_) AllReadyH.nil
   (refine pT rfl (.tmp 41) (.tmp 44) 23 23 rfl 3 Tryz.underlying23 E8 y.heap.size k (n - k) (n - k) ⟨y.heap.size,0,none⟩ k n (by first|rfl|exact congrArg (fun q=>Value.slice q (n - k) (n - k)) (if_neg hnk)) rfl _ _ hrow.drew (List.replicate c (.int .i64 x)) (by rw [List.length_replicate];exact HC.out.symm) (Gr (k:=k) hrow.drew (by omega) (fun j hj h=>GT x k n j hj (by omega))) (by rw [List.length_replicate];simp [nA];omega) (fun v hv=>by rw [List.eq_of_mem_replicate hv];rfl) ?_;rw [List.length_replicate,List.toList_toArray,tz x k c n (by omega)];have hR4:=hrow.drew.row (nA x (k+c) n);have hx4:Ext y _:=below_setRow hx.drew (Nat.le_refl y.heap.size) (((nA x (k+c) n).map (Value.int .i64)).toArray))
   show K _ _
   refine hK.out _ _ (by exact hx4) (fun hHeld=>?_)
   clear hK K
   try simp only [Act.put,uy]
   refine tkP 8 ?_ ?_ ?_;rotate_left;focus (intro w;go_simp;try with_reducible rfl)
   try simp only [Act.put,uy]
   refine tkP 9 ?_ ?_ ?_;rotate_left;focus (intro w;go_simp;try with_reducible rfl)
   try simp only [Act.put,uy]
   refine wpAnyH_done (by kernel_rfl) ?_ _
   go_wp2
   go_roundw
   case rel=>exact ⟨k+c,rfl,by omega,by omega,hR4,hx4⟩
   all_goals (simp only [intOf];omega)
  ·have e:k=n:=by omega
   have HE:=Lib.hid (show nA x k n=List.replicate n x by rw [e,EV])
   clear e
   go_wp2
   go_ret
   exact ⟨_,rfl,Nat.le_refl _,by rw [← HE.out];exact hrow,hx⟩
end Go.Proofs.YtnobdioccfeokaaGreatDoor
namespace Go.Proofs.YtnobdioccfeokaaGreatDoor
open Go.RowKit
set_option linter.unusedVariables false
set_option linter.unusedSimpArgs false
theorem w9:∀x:List UInt8,Op.bytesLess x x=false:=by
 intro x
 induction x with
 | nil=>rfl
 | cons a x ih=>simp [Op.bytesLess,ih]
theorem mK:∀x y z:List UInt8,Op.bytesLess x y=true→Op.bytesLess y z=true→Op.bytesLess x z=true:=by
 intro x
 induction x with
 | nil=>
  intro y z h1 h2
  cases y <;> cases z <;> simp_all [Op.bytesLess]
 | cons a x ih=>
  intro y z h1 h2
  cases y with
  | nil=>simp [Op.bytesLess] at h1
  | cons b y=>
   cases z with
   | nil=>simp [Op.bytesLess] at h2
   | cons c z=>
    simp only [Op.bytesLess,Bool.or_eq_true,Bool.and_eq_true,decide_eq_true_eq,beq_iff_eq] at h1 h2 ⊢
    rcases h1 with h1|⟨h1,h3⟩
    ·rcases h2 with h2|⟨h2,h4⟩
     ·exact .inl (UInt8.lt_trans h1 h2)
     ·subst h2;exact .inl h1
    ·subst h1
     rcases h2 with h2|⟨h2,h4⟩
     ·exact .inl h2
     ·exact .inr ⟨h2,ih _ _ h3 h4⟩
def NLt (a b:ByteArray):Prop:=cN a b=true
theorem NLt.irr (a:ByteArray):¬NLt a a:=fun h=>by
 unfold NLt cN at h
 rw [w9] at h
 cases h
theorem NLt.trans (a b c:ByteArray) (h1:NLt a b) (h2:NLt b c):NLt a c:=mK _ _ _ h1 h2
theorem uG {α:Type} {lt:α→α→Prop} (tr:∀x y z,lt x y→lt y z→lt x z) (l:List α) (h:∀i (hi:i+1<l.length),lt (l[i]'(by omega)) l[i+1]):l.Pairwise lt:=by
 rw [List.pairwise_iff_getElem]
 intro i j hi hj hij
 obtain ⟨d,rfl⟩:∃d,j=i+1+d:=⟨j - (i+1),by omega⟩
 clear hij
 induction d with
 | zero=>exact h i hj
 | succ d ih=>exact tr _ _ _ (ih (by omega)) (h (i+1+d) (by omega))
theorem uc {l:List ByteArray} (h:dg l=true):l.Pairwise NLt:=by
 refine uG NLt.trans l (fun i hi=>?_)
 unfold dg at h
 have h2:=(aC _ _).1 (Bool.and_eq_true_iff.1 h).1 (i+1) hi
 rw [rc l (i+1) hi] at h2
 simp only [Bool.and_eq_true,Bool.or_eq_true,decide_eq_true_eq] at h2
 have h3:=h2.2.resolve_left (by omega)
 rw [Nat.add_sub_cancel,List.getD_eq_getElem?_getD,List.getElem?_eq_getElem (by omega),Option.getD_some] at h3
 exact h3
theorem fN {a b:ByteArray} (h:a.toList=b.toList):a=b:=by
 rw [ByteArray.toList_eq,ByteArray.toList_eq] at h
 cases a;cases b;simp_all [Array.ext_iff]
theorem NLt.total {a b:ByteArray} (h:a≠b):NLt a b∨NLt b a:=by
 have:=jP a.toList b.toList
 unfold NLt cN
 by_cases h1:Op.bytesLess b.toList a.toList=true
 ·exact .inr h1
 ·rw [Bool.not_eq_true] at h1
  rw [h1] at this
  simp only [Bool.not_false,Bool.or_eq_true,beq_iff_eq] at this
  exact .inl (this.resolve_right (fun e=>h (fN e)))
def fT {α:Type} (lt:α→α→Bool):List α→α→List α
 | [],x=>[x]
 | y :: t,x=>if lt y x then y :: fT lt t x else x :: y :: t
theorem wI {α:Type} (lt:α→α→Bool) (x:α):∀(l:List α) (k:Nat),k≤l.length→(∀i (h:i<l.length),i<k→lt l[i] x=true)→(∀h:k<l.length,lt l[k] x=false)→fT lt l x=l.take k++x :: l.drop k:=by
 intro l
 induction l with
 | nil=>intro k hk _ _;simp at hk;subst hk;rfl
 | cons y t ih=>
  intro k hk h1 h2
  cases k with
  | zero=>
   have:=h2 (by simp)
   simp only [List.getElem_cons_zero] at this
   simp [fT,this]
  | succ k=>
   have h3:=h1 0 (by simp) (by omega)
   simp only [List.getElem_cons_zero] at h3
   simp only [fT,h3,if_true,List.take_succ_cons,List.drop_succ_cons,List.cons_append]
   rw [ih k (by simp at hk;omega) (fun i h hi=>by have:=h1 (i+1) (by simp;omega) (by omega);simpa using this) (fun h=>by have:=h2 (by simp;omega);simpa using this)]
theorem oS {α:Type} (lt:α→α→Bool) (x z:α):∀l:List α,z∈fT lt l x↔z=x∨z∈l:=by
 intro l
 induction l with
 | nil=>simp [fT]
 | cons y t ih=>
  unfold fT
  split
  ·rw [List.mem_cons,ih,List.mem_cons]
   constructor
   ·rintro (h|h|h) <;> simp [h]
   ·rintro (h|h|h) <;> simp [h]
  ·simp
theorem pa {α:Type} (lt:α→α→Bool) (x:α):∀l:List α,(fT lt l x).length=l.length+1:=by
 intro l
 induction l with
 | nil=>rfl
 | cons y t ih=>unfold fT;split <;> simp [ih]
theorem tm {α:Type} {lt:α→α→Bool} (tr:∀x y z,lt x y=true→lt y z=true→lt x z=true) (x:α):∀l:List α,l.Pairwise (fun a b=>lt a b=true)→(∀y∈l,lt y x=true∨lt x y=true)→(fT lt l x).Pairwise (fun a b=>lt a b=true):=by
 intro l
 induction l with
 | nil=>intro _ _;simp [fT]
 | cons y t ih=>
  intro h ht
  rw [List.pairwise_cons] at h
  unfold fT
  by_cases hy:lt y x=true
  ·rw [if_pos hy,List.pairwise_cons]
   refine ⟨fun z hz=>?_,ih h.2 (fun z hz=>ht z (by simp [hz]))⟩
   rcases (oS lt x z t).1 hz with e|hz
   ·rw [e];exact hy
   ·exact h.1 z hz
  ·rw [if_neg hy,List.pairwise_cons,List.pairwise_cons]
   have hx:=(ht y (by simp)).resolve_left hy
   refine ⟨fun z hz=>?_,h⟩
   rcases List.mem_cons.1 hz with e|hz
   ·rw [e];exact hx
   ·exact tr _ _ _ hx (h.1 z hz)
def sc (l:List ByteArray) (s:ByteArray):List ByteArray:=if l.any (fun x=>x.toList == s.toList) then l else fT cN l s
def cG (l:List ByteArray):List ByteArray:=l.foldl sc []
theorem Fv (l:List ByteArray) (s:ByteArray) (h:l.Pairwise NLt):(sc l s).Pairwise NLt∧∀z,z∈sc l s↔z=s∨z∈l:=by
 unfold sc
 by_cases hs:l.any (fun x=>x.toList == s.toList)=true
 ·rw [if_pos hs]
  refine ⟨h,fun z=>⟨fun hz=>.inr hz,?_⟩⟩
  rintro (e|hz)
  ·obtain ⟨x,hx,e2⟩:=List.any_eq_true.1 hs
   rw [beq_iff_eq] at e2
   rw [e,← fN e2];exact hx
  ·exact hz
 ·rw [if_neg hs]
  refine ⟨tm NLt.trans s l h (fun y hy=>NLt.total (fun e=>hs ?_)),fun z=>oS cN s z l⟩
  exact List.any_eq_true.2 ⟨y,hy,by rw [e];simp⟩
theorem wM (l:List ByteArray):∀a:List ByteArray,a.Pairwise NLt→(l.foldl sc a).Pairwise NLt∧∀z,z∈l.foldl sc a↔z∈l∨z∈a:=by
 induction l with
 | nil=>intro a h;exact ⟨h,fun z=>by simp⟩
 | cons s l ih=>
  intro a h
  obtain ⟨h1,h2⟩:=Fv a s h
  obtain ⟨h3,h4⟩:=ih _ h1
  refine ⟨h3,fun z=>?_⟩
  rw [List.foldl_cons,h4,h2,List.mem_cons]
  constructor
  ·rintro (h|h|h) <;> simp [h]
  ·rintro ((h|h)|h) <;> simp [h]
theorem tS (l:List ByteArray):(cG l).Pairwise NLt:=(wM l [] List.Pairwise.nil).1
theorem CE (l:List ByteArray) (z:ByteArray):z∈cG l↔z∈l:=by
 have:=(wM l [] List.Pairwise.nil).2 z
 unfold cG;rw [this];simp
theorem xn {l s:List ByteArray} (h:s.Pairwise NLt) (hm:∀z,z∈s↔z∈l):cG l=s:=A6 NLt.irr NLt.trans _ _ (tS l) h (fun z=>by rw [CE,hm])
theorem lH {l:List ByteArray} (h:l.Pairwise NLt):cG l=l:=xn h (fun _=>Iff.rfl)
end Go.Proofs.YtnobdioccfeokaaGreatDoor
namespace Go.Proofs.YtnobdioccfeokaaGreatDoor
open Go.RowKit
set_option linter.unusedVariables false
set_option linter.unusedSimpArgs false
def jo (l:List ByteArray) (s:ByteArray):Int:=if l.any (fun x=>x.toList == s.toList) then (l.findIdx (fun x=>x.toList == s.toList):Int) else -1
def wLt (x y:Wr):Bool:=cN x.name y.name
def cu (a b:List Wr):List Wr:=b.foldl (fT wLt) a
def iu (a b:List ByteArray):Bool:=a.all fun s=>!b.any fun x=>x.toList == s.toList
def idB (names:List ByteArray):Big:=⟨0,[],[],0,names,names.mapIdx fun i s=>⟨s,i⟩⟩
def fK:Big:=⟨0,[],[],0,[],[]⟩
def mJ (i:Nat):ByteArray:=⟨#[122,UInt8.ofNat (97+i)]⟩
def lA (outer:List ByteArray) (i:Nat):Bool:=!outer.any (fun x=>x.toList == (mJ i).toList)
def cj (outer:List ByteArray) (n:Nat):List ByteArray:=(((List.range 26).filter (lA outer)).map mJ).take n
def kQ (r:Big) (ns:List Int) (p:Int):Int:=atI (cC r (dh ns p)) 0
end Go.Proofs.YtnobdioccfeokaaGreatDoor
namespace Go.Proofs.YtnobdioccfeokaaGreatDoor
open Go.RowKit
set_option linter.unusedVariables false
set_option linter.unusedSimpArgs false
def fb (a:Int) (n:Nat):List Int:=(List.range n).map fun (i:Nat)=>a+i
def cZ (a:Int) (n:Nat):List Int:=(List.range n).map fun (i:Nat)=>-1 - a - i
theorem zw (a:Int) (n:Nat):fb a (n+1)=fb a n++[a+n]:=by unfold fb;rw [List.range_succ,List.map_append];rfl
theorem yb (a:Int) (n:Nat):cZ a (n+1)=cZ a n++[-1 - a - n]:=by unfold cZ;rw [List.range_succ,List.map_append];rfl
theorem eI (a:Int) (n:Nat):(fb a n).length=n:=by unfold fb;simp
theorem lQ (a:Int) (n:Nat):(cZ a n).length=n:=by unfold cZ;simp
theorem vN (n:Int):∀(l:List Int) (i:Nat) (h:i<l.length),l[i]=n→(l.take i).any (fun x=>n == x)=false→dh l n=(i:Int):=by
 intro l i h e hno
 unfold dh
 rw [if_pos (cO.2 (by rw [← e];exact List.getElem_mem h))]
 congr 1
 have hsp:l=l.take i++n :: l.drop (i+1):=by rw [← e,List.getElem_cons_drop,List.take_append_drop]
 have hnm:n ∉ l.take i:=fun hm=>by
  have:=List.any_eq_false.1 hno n hm
  simp at this
 rw [hsp,List.idxOf_append,if_neg hnm,List.idxOf_cons_self,List.length_take]
 omega
attribute [local irreducible] inR jW aH fp il fb cZ dh jo
end Go.Proofs.YtnobdioccfeokaaGreatDoor
namespace Go.Proofs.YtnobdioccfeokaaGreatDoor
open Go.RowKit
set_option linter.unusedVariables false
set_option linter.unusedSimpArgs false
theorem mI (l:List ByteArray) (s:ByteArray) : -1≤jo l s∧jo l s<(l.length:Int)+1:=by
 unfold jo
 split
 ·have:=List.findIdx_le_length (p:=fun x:ByteArray=>x.toList == s.toList) (xs:=l)
  omega
 ·omega
theorem lM (l:List ByteArray) (s:ByteArray):decide (0≤jo l s)=l.any (fun x=>x.toList == s.toList):=by
 unfold jo
 by_cases h:l.any (fun x=>x.toList == s.toList)=true
 ·rw [if_pos h,h];simp
 ·rw [if_neg h];rw [Bool.not_eq_true] at h;rw [h];rfl
def dy (names:List ByteArray) (edges:Int) (outer:List ByteArray):List Int:=names.map fun s=>edges+jo outer s
theorem uN {names:List ByteArray} (edges:Int) (outer:List ByteArray) (i:Nat) (h:i<names.length):dy (names.take (i+1)) edges outer=dy (names.take i) edges outer++[edges+jo outer names[i]]:=by
 unfold dy;rw [List.take_succ_eq_append_getElem h,List.map_append];rfl
def upF (by':Int) (ps:List Int) (p:Int):Int:=if p<0 then atI ps (-1 - p) else p+by'
def du (by':Int) (ps sites:List Int):List Int:=sites.map (upF by' ps)
def EZ (by':Int) (ps:List Int) (p:Int):Prop:=(p<0∧-1 - p<(ps.length:Int))∨(0≤p∧p≤1000)
attribute [local irreducible] jo dy du
end Go.Proofs.YtnobdioccfeokaaGreatDoor
namespace Go.Proofs.YtnobdioccfeokaaGreatDoor
open Go.RowKit
set_option linter.unusedVariables false
set_option linter.unusedSimpArgs false
def dx (ps:List Int) (l:List Wr):List Wr:=l.map fun w=>⟨w.name,atI ps w.link⟩
theorem vY (ps:List Int) {l:List Wr} (i:Nat) (h:i<l.length):dx ps (l.take (i+1))=dx ps (l.take i)++[⟨(l[i]).name,atI ps (l[i]).link⟩]:=by
 unfold dx;rw [List.take_succ_eq_append_getElem h,List.map_append];rfl
attribute [local irreducible] dx
def ew (ks l:List Int):List Int:=l.map (atI ks)
theorem pz (ks:List Int) {l:List Int} (j:Nat) (h:j<l.length):ew ks (l.take (j+1))=ew ks (l.take j)++[atI ks l[j]]:=by
 unfold ew;rw [List.take_succ_eq_append_getElem h,List.map_append];rfl
def cU (by':Int) (ps ks:List Int) (l:List Nd):List Nd:=l.map fun n=>⟨n.control,upF by' ps n.parent,ew ks n.links⟩
theorem vM (by':Int) (ps ks:List Int) {l:List Nd} (i:Nat) (h:i<l.length):cU by' ps ks (l.take (i+1))=cU by' ps ks (l.take i)++[⟨(l[i]).control,upF by' ps (l[i]).parent,ew ks (l[i]).links⟩]:=by
 unfold cU;rw [List.take_succ_eq_append_getElem h,List.map_append];rfl
attribute [local irreducible] cU ew
end Go.Proofs.YtnobdioccfeokaaGreatDoor
namespace Go.Proofs.YtnobdioccfeokaaGreatDoor
open Go.RowKit
set_option linter.unusedVariables false
set_option linter.unusedSimpArgs false
def zQ (b:Big):Nat→Int→Int
 | 0,p=>p
 | f+1,p=>if p<0 then p else zQ b f (dF b p).parent
def Br (b:Big) (p:Int):Int:=zQ b (p.toNat+1) p
theorem Fg {sig:List Ctl} {b:Big} (h:aH sig b=true) (i:Nat) (hi:i<b.nodes.length) : -b.roots≤(b.nodes[i]).parent∧(b.nodes[i]).parent<i:=iE h i hi
theorem Ey {sig:List Ctl} {b:Big} (h:aH sig b=true):∀(f g:Nat) (p:Int),p<b.nodes.length→p.toNat<f→p.toNat<g→zQ b f p=zQ b g p:=by
 intro f
 induction f with
 | zero=>intro g p _ hf;omega
 | succ f ih=>
  intro g p hp hf hg
  cases g with
  | zero=>omega
  | succ g=>
   unfold zQ
   by_cases hn:p<0
   ·rw [if_pos hn,if_pos hn]
   ·rw [if_neg hn,if_neg hn]
    obtain ⟨n,rfl⟩:=Int.eq_ofNat_of_zero_le (show 0≤p by omega)
    have hl:n<b.nodes.length:=by omega
    have:=Fg h n hl
    rw [aB b n hl]
    by_cases hq:(b.nodes[n]).parent<0
    ·cases f with
     | zero=>
      cases g with
      | zero=>rfl
      | succ g=>simp only [zQ];rw [if_pos hq]
     | succ f=>
      cases g with
      | zero=>simp only [zQ];rw [if_pos hq]
      | succ g=>simp only [zQ];rw [if_pos hq,if_pos hq]
    ·exact ih g _ (by omega) (by omega) (by omega)
theorem nM (b:Big) {p:Int} (h:p<0):Br b p=p:=by
 unfold Br zQ;rw [if_pos h]
theorem o9 {sig:List Ctl} {b:Big} (h:aH sig b=true) (n:Nat) (hn:n<b.nodes.length):Br b (n:Int)=Br b (b.nodes[n]).parent:=by
 have hp:=Fg h n hn
 have e:Br b (n:Int)=zQ b n (b.nodes[n]).parent:=by
  unfold Br
  rw [show ((n:Int).toNat+1)=n+1 by omega,zQ,if_neg (by omega),aB b n hn]
 rw [e]
 by_cases hq:(b.nodes[n]).parent<0
 ·rw [nM b hq]
  cases n with
  | zero=>rfl
  | succ n=>rw [zQ,if_pos hq]
 ·exact Ey h _ _ _ (by omega) (by omega) (by omega)
def iK (b:Big) (r:Int) (i:Nat):Bool:=match b.nodes[i]? with|none=>false|some n=>decide (Br b n.parent=r)
theorem n8 (b:Big) (r:Int) (i:Nat) (h:i<b.nodes.length):iK b r i=decide (Br b (b.nodes[i]).parent=r):=by unfold iK;rw [List.getElem?_eq_getElem h]
def pK (b:Big) (r:Int):List Int:=idxOf (iK b r) b.nodes.length
end Go.Proofs.YtnobdioccfeokaaGreatDoor
namespace Go.Proofs.YtnobdioccfeokaaGreatDoor
open Go.RowKit
set_option linter.unusedVariables false
set_option linter.unusedSimpArgs false
theorem yB (sig:List Ctl) (b:Big) (i:Nat) (h:i<b.nodes.length):fW sig b i=(inR (b.nodes[i]).control 0 ((sig.length:Int) - 1) && (dw sig b (b.nodes[i]).parent i && (decide (((b.nodes[i]).links.length:Int)=(qf sig (b.nodes[i]).control).ports) && (b.nodes[i]).links.all (fw b)))):=by
 unfold fW;rw [List.getElem?_eq_getElem h]
theorem gh {α:Type} (p:α→Bool) (xs:List α) (i:Nat) (h:xs.length≤i) (hp:(xs.take i).all p=true):xs.all p=true:=by rwa [List.take_of_length_le h] at hp
theorem pD {sig:List Ctl} {b:Big} (h:b.sites.all (fU sig b)=false):aH sig b=false:=by unfold aH;rw [h];simp
theorem oA {sig:List Ctl} {b:Big} (h:b.inner.all (gz b)=false):aH sig b=false:=by unfold aH;rw [h];simp
theorem wP {sig:List Ctl} {b:Big} (a:gr sig b=true) (c:(List.range b.nodes.length).all (fW sig b)=true) (d:b.sites.all (fU sig b)=true) (e:b.inner.all (gz b)=true):aH sig b=true:=by unfold aH;rw [a,c,d,e];rfl
theorem uq (sig:List Ctl) (b:Big) (p:Int):fU sig b p=dw sig b p b.nodes.length:=rfl
theorem sL (b:Big) (x:Wr):gz b x=fw b x.link:=rfl
attribute [local irreducible] inR cJ cN iR dg dw fw fU gz qf
end Go.Proofs.YtnobdioccfeokaaGreatDoor
namespace Go.Proofs.YtnobdioccfeokaaGreatDoor
open Go.RowKit
set_option linter.unusedVariables false
set_option linter.unusedSimpArgs false
def ft (sig:List Ctl) (b:Big):Bool:=aH sig b && (decide (b.sites.length=0) && decide (b.inner.length=0))
attribute [local irreducible] inR cJ cN iR dg dw fw fU gz qf fW
end Go.Proofs.YtnobdioccfeokaaGreatDoor
namespace Go.Proofs.YtnobdioccfeokaaGreatDoor
open Go.RowKit
set_option linter.unusedVariables false
set_option linter.unusedSimpArgs false
attribute [local irreducible] inR cJ cN iR dg dw fw fU gz qf fW aH
end Go.Proofs.YtnobdioccfeokaaGreatDoor
namespace Go.Proofs.YtnobdioccfeokaaGreatDoor
open Go.RowKit
set_option linter.unusedVariables false
set_option linter.unusedSimpArgs false
def mt (a c:List ByteArray) (i:Nat):Bool:=jv (a.getD i ⟨#[]⟩) (c.getD i ⟨#[]⟩)
def eqS (a c:List ByteArray):Bool:=decide (a.length=c.length) && (List.range a.length).all (mt a c)
theorem mn (a c:List ByteArray) (i:Nat) (h1:i<a.length) (h2:i<c.length):mt a c i=(a[i].toList == c[i].toList):=by
 unfold mt jv
 rw [List.getD_eq_getElem?_getD,List.getD_eq_getElem?_getD,List.getElem?_eq_getElem h1,List.getElem?_eq_getElem h2];rfl
theorem vZ {a c:List ByteArray} (i:Nat) (h1:i<a.length) (h:mt a c i=false):eqS a c=false:=by
 unfold eqS;rw [aG _ _ i h1 h];simp
theorem ve {a c:List ByteArray} (h:¬(a.length:Int)=(c.length:Int)):eqS a c=false:=by
 unfold eqS;rw [decide_eq_false (by omega)];rfl
theorem Gg {a c:List ByteArray} (h:(a.length:Int)=(c.length:Int)) (hh:(List.range a.length).all (mt a c)=true):eqS a c=true:=by
 unfold eqS;rw [decide_eq_true (by omega),hh];rfl
attribute [local irreducible] inR cJ cN dJ cC aD nF pU i4 dV dH fM aH mt
end Go.Proofs.YtnobdioccfeokaaGreatDoor
namespace Go.Proofs.YtnobdioccfeokaaGreatDoor
open Go.RowKit
set_option linter.unusedVariables false
set_option linter.unusedSimpArgs false
def gA (r:Rul) (x:Int):Bool:=inR x 0 ((r.redex.sites.length:Int) - 1)
def g9 (sig:List Ctl) (r:Rul):Bool:=(aH sig r.redex && aH sig r.reactum) && (cA r.redex && (decide (r.reactum.inner.length=0) && (decide (r.redex.roots=r.reactum.roots) && (eqS r.redex.outer r.reactum.outer && (decide (r.copies.length=r.reactum.sites.length) && r.copies.all (gA r))))))
def dv (sig:List Ctl) (l:List Rul):Bool:=inR (l.length:Int) 1 6 && l.all (g9 sig)
theorem Db (r:Rul):r.copies.any (fun x=>!(inR x 0 ((r.redex.sites.length:Int) - 1))) = !(r.copies.all (gA r)):=ig (gA r) r.copies
theorem Ew (sig:List Ctl) (l:List Rul):l.any (fun r=>!(g9 sig r)) = !(l.all (g9 sig)):=ig (g9 sig) l
theorem x9 {sig:List Ctl} {l:List Rul} (h:dv sig l=true):iR sig=true:=by
 unfold dv at h
 rw [Bool.and_eq_true] at h
 have h1:=bB h.1
 cases l with
 | nil=>simp at h1
 | cons r l=>
  rw [List.all_cons,Bool.and_eq_true] at h
  have h2:=h.2.1
  unfold g9 at h2
  simp only [Bool.and_eq_true] at h2
  exact (eZ (dj h2.1.1).1).1
attribute [local irreducible] inR cJ iR aH cA eqS gA g9
end Go.Proofs.YtnobdioccfeokaaGreatDoor
namespace Go.Proofs.YtnobdioccfeokaaGreatDoor
open Go.RowKit
set_option linter.unusedVariables false
set_option linter.unusedSimpArgs false
attribute [local irreducible] inR cJ iR aH cA eqS gA g9
end Go.Proofs.YtnobdioccfeokaaGreatDoor
namespace Go.Proofs.YtnobdioccfeokaaGreatDoor
open Go.RowKit
set_option linter.unusedVariables false
set_option linter.unusedSimpArgs false
def jp (l:List ByteArray) (i:Nat):Bool:=match l[i]? with|none=>true|some s=>cJ s && !((l.take i).any (fun x=>jv x s))
def gQ (l:List ByteArray):Bool:=(List.range l.length).all (jp l) && decide (l.length≤4)
theorem tB (l:List ByteArray) (i:Nat) (h:i<l.length):jp l i=(cJ l[i] && !((l.take i).any (fun x=>jv x l[i]))):=by
 unfold jp;rw [List.getElem?_eq_getElem h]
theorem qn (l:List ByteArray) (i:Nat) (h:i<l.length) (hb:jp l i=false):gQ l=false:=by
 unfold gQ;rw [aG _ _ i h hb];rfl
attribute [local irreducible] inR cJ jp
end Go.Proofs.YtnobdioccfeokaaGreatDoor
namespace Go.Proofs.YtnobdioccfeokaaGreatDoor
open Go.RowKit
set_option linter.unusedVariables false
set_option linter.unusedSimpArgs false
abbrev Flt:=Int × Int × Int
def IS:Lie Flt:=fun _ _ _ cs x=>cs = [.int .i64 x.1,.int .i64 x.2.1,.int .i64 x.2.2]∧I64 x.1∧I64 x.2.1∧I64 x.2.2
theorem IS.keeps:ez IS:=fun _ _ _ _ _ _ _ h=>h
theorem IS.widens:eu IS:=fun _ _ _ _ _ _ _ _ _ h=>h
def iG (s:Srt) (b:Big) (i:Nat):List Flt:=if fp (d8 s b (dF b i).parent) (dF b i).control then [] else if (dF b i).parent<0 then [(1,(i:Int),-1 - (dF b i).parent)] else [(2,(i:Int),(dF b i).parent)]
def DY (s:Srt) (b:Big) (p:Int):Prop:=p<0∨∃n:Nat,∃hn:n<b.nodes.length,p=n∧0≤(b.nodes[n]).control∧(b.nodes[n]).control<s.nest.length
attribute [local irreducible] inR fp d8
end Go.Proofs.YtnobdioccfeokaaGreatDoor
namespace Go.Proofs.YtnobdioccfeokaaGreatDoor
open Go.RowKit
set_option linter.unusedVariables false
set_option linter.unusedSimpArgs false
def jB (s:Srt) (b:Big) (pt:Int × Int):Int:=(s.sorts.getD (dF b pt.1).control.toNat []).getD pt.2.toNat 0
def uZ (s:Srt) (b:Big) (c:List Int) (pt:Int × Int):List Int:=c.set (jB s b pt).toNat (c.getD (jB s b pt).toNat 0+1)
def cy (s:Srt) (b:Big) (ps:List (Int × Int)) (j:Nat):List Int:=(ps.take j).foldl (uZ s b) (List.replicate s.most.length 0)
def onL (s:Srt) (b:Big) (l:Int):List Int:=cy s b (aD b l) (aD b l).length
theorem Cm (s:Srt) (b:Big) (c:List Int) (pt:Int × Int):(uZ s b c pt).length=c.length:=by unfold uZ;simp
theorem lP (s:Srt) (b:Big) (ps:List (Int × Int)) (j:Nat) (h:j<ps.length):cy s b ps (j+1)=uZ s b (cy s b ps j) ps[j]:=by
 unfold cy;rw [List.take_succ_eq_append_getElem h,List.foldl_append];rfl
theorem jK (s:Srt) (b:Big) (ps:List (Int × Int)) (j:Nat):(cy s b ps j).length=s.most.length:=by
 unfold cy
 generalize ps.take j=q
 have:∀(q:List (Int × Int)) (c:List Int),(q.foldl (uZ s b) c).length=c.length:=by
  intro q
  induction q with
  | nil=>intro c;rfl
  | cons x q ih=>intro c;rw [List.foldl_cons,ih,Cm]
 rw [this];simp
theorem oB (s:Srt) (b:Big) (ps:List (Int × Int)):∀(j:Nat),j≤ps.length→∀x∈cy s b ps j,0≤x∧x≤j:=by
 intro j
 induction j with
 | zero=>intro _ x hx;unfold cy at hx;simp at hx;obtain ⟨_,rfl⟩:=hx;exact ⟨Int.le_refl _,Int.le_refl _⟩
 | succ j ih=>
  intro hj x hx
  rw [lP s b ps j (by omega)] at hx
  unfold uZ at hx
  have ih':=ih (by omega)
  rcases List.mem_or_eq_of_mem_set hx with h|h
  ·have:=ih' x h;omega
  ·subst h
   rw [List.getD_eq_getElem?_getD]
   cases hc:(cy s b ps j)[(jB s b ps[j]).toNat]? with
   | none=>simp;omega
   | some y=>have:=ih' y (List.mem_of_getElem? hc);simp;omega
def zZ (s:Srt) (b:Big) (pt:Int × Int):Prop:=∃(i k:Nat) (hi:i<b.nodes.length),pt=((i:Int),(k:Int))∧∃m:Nat,(b.nodes[i]).control=(m:Int)∧∃hm:m<s.sorts.length,∃hk:k<(s.sorts[m]).length,∃q:Nat,(s.sorts[m])[k]=(q:Int)∧q<s.most.length
theorem ub (s:Srt) (b:Big) (i k m q:Nat) (hi:i<b.nodes.length) (hc:(b.nodes[i]).control=(m:Int)) (hm:m<s.sorts.length) (hk:k<(s.sorts[m]).length) (hq:(s.sorts[m])[k]=(q:Int)):jB s b ((i:Int),(k:Int))=q:=by
 unfold jB
 dsimp only
 have e1:s.sorts.getD m []=s.sorts[m]:=by rw [List.getD_eq_getElem?_getD,List.getElem?_eq_getElem hm];rfl
 have e2:(s.sorts[m]).getD k 0=(s.sorts[m])[k]:=by rw [List.getD_eq_getElem?_getD,List.getElem?_eq_getElem hk];rfl
 rw [aB b i hi,hc,Int.toNat_natCast,Int.toNat_natCast,e1,e2,hq]
attribute [local irreducible] inR fp d8 aD cy jB
end Go.Proofs.YtnobdioccfeokaaGreatDoor
namespace Go.Proofs.YtnobdioccfeokaaGreatDoor
open Go.RowKit
set_option linter.unusedVariables false
set_option linter.unusedSimpArgs false
theorem fI {sig:List Ctl} {s:Srt} (h:gm sig s=true):iR sig=true∧iT sig s.nest=true∧fE sig s.sorts (s.most.length:Int)=true∧inR (s.most.length:Int) 1 4=true∧gg (s.most.length:Int) s.apart=true:=by
 unfold gm at h
 simp only [Bool.and_eq_true] at h
 obtain ⟨a,b,c,d,e,f,g⟩:=h
 exact ⟨a,c,d,e,g⟩
theorem mX {sig:List Ctl} {b:Big} (h:aH sig b=true) (i:Nat) (hi:i<b.nodes.length):0≤(b.nodes[i]).control∧(b.nodes[i]).control<sig.length∧dw sig b (b.nodes[i]).parent i=true∧((b.nodes[i]).links.length:Int)=(qf sig (b.nodes[i]).control).ports:=by
 obtain ⟨_,h2,_,_⟩:=dj h
 have h3:=(aC _ _).1 h2 i hi
 rw [jR sig b i hi] at h3
 simp only [Bool.and_eq_true,decide_eq_true_eq] at h3
 have hc:=bB h3.1
 exact ⟨hc.1,by omega,h3.2.1,h3.2.2.1⟩
theorem E6 {sig:List Ctl} {s:Srt} {b:Big} (hs:gm sig s=true) (hb:aH sig b=true) (i:Nat) (hi:i<b.nodes.length):DY s b (b.nodes[i]).parent:=by
 obtain ⟨_,hn,_,_,_⟩:=fI hs
 have hnl:s.nest.length=sig.length:=by
  unfold iT at hn
  simp only [Bool.and_eq_true,decide_eq_true_eq] at hn
  exact hn.1
 obtain ⟨_,_,hu,_⟩:=mX hb i hi
 by_cases hp:(b.nodes[i]).parent<0
 ·exact .inl hp
 ·rw [yq hp] at hu
  simp only [Bool.and_eq_true,decide_eq_true_eq] at hu
  obtain ⟨n,hn'⟩:=Int.eq_ofNat_of_zero_le (show 0≤(b.nodes[i]).parent by omega)
  have hnn:n<b.nodes.length:=by omega
  obtain ⟨c0,c1,_,_⟩:=mX hb n hnn
  exact .inr ⟨n,hnn,hn',c0,by omega⟩
theorem BX {b:Big} {l:Int} {pt:Int × Int} (h:pt∈aD b l):∃(i k:Nat) (hi:i<b.nodes.length),pt=((i:Int),(k:Int))∧k<(b.nodes[i]).links.length:=by
 unfold aD dK at h
 obtain ⟨i,hi,hp⟩:=List.mem_flatMap.1 h
 have hi':=List.mem_range.1 hi
 have e:b.nodes.getD i ⟨0,0,[]⟩=b.nodes[i]:=by rw [List.getD_eq_getElem?_getD,List.getElem?_eq_getElem hi'];rfl
 rw [e] at hp
 unfold cI at hp
 obtain ⟨k,hk,rfl⟩:=List.mem_map.1 hp
 exact ⟨i,k,hi',rfl,List.mem_range.1 (List.mem_filter.1 hk).1⟩
theorem BC {sig:List Ctl} {s:Srt} {b:Big} (hs:gm sig s=true) (hb:aH sig b=true) (l:Int) (j:Nat) (hj:j<(aD b l).length):zZ s b (aD b l)[j]:=by
 obtain ⟨_,_,hso,_,_⟩:=fI hs
 obtain ⟨i,k,hi,hpt,hk⟩:=BX (List.getElem_mem hj)
 obtain ⟨c0,c1,_,hl⟩:=mX hb i hi
 obtain ⟨m,hm⟩:=Int.eq_ofNat_of_zero_le c0
 unfold fE at hso
 simp only [Bool.and_eq_true,decide_eq_true_eq] at hso
 have hms:m<s.sorts.length:=by omega
 have hmg:m<sig.length:=by omega
 have h3:=(aC _ _).1 hso.2 m hms
 rw [mN sig s.sorts _ m hmg hms] at h3
 simp only [Bool.and_eq_true,decide_eq_true_eq] at h3
 rw [hm,iD sig m hmg] at hl
 have hkl:k<(s.sorts[m]).length:=by omega
 have h4:=List.all_eq_true.1 h3.2 _ (List.getElem_mem hkl)
 have h5:=bB h4
 obtain ⟨q,hq⟩:=Int.eq_ofNat_of_zero_le h5.1
 exact ⟨i,k,hi,hpt,m,hm,hms,hkl,q,hq,by omega⟩
theorem w0 {sig:List Ctl} {s:Srt} (hs:gm sig s=true) (i:Nat) (hi:i<s.apart.length):0≤(s.apart[i]).1∧(s.apart[i]).1<s.most.length∧0≤(s.apart[i]).2∧(s.apart[i]).2<s.most.length:=by
 obtain ⟨_,_,_,_,hp⟩:=fI hs
 unfold gg at hp
 have h3:=(aC _ _).1 hp i hi
 rw [jM _ _ i hi] at h3
 simp only [Bool.and_eq_true,decide_eq_true_eq] at h3
 obtain ⟨⟨h4,h5,h6⟩,_⟩:=h3
 omega
theorem As {sig:List Ctl} {s:Srt} (hs:gm sig s=true):1≤s.most.length∧s.most.length≤4:=by
 obtain ⟨_,_,_,h,_⟩:=fI hs
 have:=bB h
 omega
theorem xx {sig:List Ctl} {b:Big} (hb:aH sig b=true):ak b≤24:=by
 obtain ⟨h1,_,_,_⟩:=dj hb
 obtain ⟨_,_,_,_,e,f,_⟩:=eZ h1
 have:=bB e
 have:=fq f
 unfold ak
 omega
theorem pi (s:Srt) (b:Big) (l:Int):(onL s b l).length=s.most.length:=by unfold onL;exact jK _ _ _ _
end Go.Proofs.YtnobdioccfeokaaGreatDoor
namespace Go.Proofs.YtnobdioccfeokaaGreatDoor
open Go.RowKit
set_option linter.unusedVariables false
set_option linter.unusedSimpArgs false
def ir (s:Srt) (c:List Int) (k:Nat):Bool:=decide (s.most.getD k 0<c.getD k 0)
def dp (s:Srt) (c:List Int) (i:Nat):Bool:=match s.apart[i]? with|none=>false|some p=>decide (0<c.getD p.1.toNat 0) && decide (0<c.getD p.2.toNat 0)
def dQ (kind link:Int) (f:Nat→Bool) (n:Nat):List Flt:=((List.range n).filter f).map (fun (k:Nat)=>(kind,link,(k:Int)))
def iN (s:Srt) (link:Int) (c:List Int):List Flt:=dQ 3 link (ir s c) c.length++dQ 4 link (dp s c) s.apart.length
theorem ma {kind link:Int} {f:Nat→Bool} {n:Nat} (h:f n=true):dQ kind link f (n+1)=dQ kind link f n++[(kind,link,(n:Int))]:=by
 unfold dQ;rw [List.range_succ,List.filter_append,List.map_append];simp [h]
theorem nU {kind link:Int} {f:Nat→Bool} {n:Nat} (h:f n=false):dQ kind link f (n+1)=dQ kind link f n:=by
 unfold dQ;rw [List.range_succ,List.filter_append,List.map_append];simp [h]
theorem fV (kind link:Int) (f:Nat→Bool) (n:Nat):(dQ kind link f n).length≤n:=by
 unfold dQ;rw [List.length_map];have:=List.length_filter_le f (List.range n);simpa using this
theorem xq (s:Srt) (c:List Int) (k:Nat) (h1:k<s.most.length) (h2:k<c.length):ir s c k=decide (s.most[k]<c[k]):=by
 unfold ir
 rw [List.getD_eq_getElem?_getD,List.getD_eq_getElem?_getD,List.getElem?_eq_getElem h1,List.getElem?_eq_getElem h2];rfl
theorem Co (s:Srt) (c:List Int) (i x y:Nat) (hi:i<s.apart.length) (hx:(s.apart[i]).1=(x:Int)) (hy:(s.apart[i]).2=(y:Int)) (h1:x<c.length) (h2:y<c.length):dp s c i=(decide (0<c[x]) && decide (0<c[y])):=by
 unfold dp
 rw [List.getElem?_eq_getElem hi]
 simp only [hx,hy,Int.toNat_natCast]
 rw [List.getD_eq_getElem?_getD,List.getD_eq_getElem?_getD,List.getElem?_eq_getElem h1,List.getElem?_eq_getElem h2];rfl
attribute [local irreducible] inR fp d8 aD cy jB ir dp
end Go.Proofs.YtnobdioccfeokaaGreatDoor
namespace Go.Proofs.YtnobdioccfeokaaGreatDoor
open Go.RowKit
set_option linter.unusedVariables false
set_option linter.unusedSimpArgs false
def fF (s:Srt) (b:Big) (n:Nat):List Flt:=(List.range n).flatMap (iG s b)
def i8 (s:Srt) (b:Big) (l:Nat):List Flt:=iN s (l:Int) (onL s b l)
def dZ (s:Srt) (b:Big) (n:Nat):List Flt:=(List.range n).flatMap (i8 s b)
def ff (s:Srt) (b:Big):List Flt:=fF s b b.nodes.length++dZ s b (ak b)
theorem kh (s:Srt) (b:Big) (n:Nat):fF s b (n+1)=fF s b n++iG s b n:=by unfold fF;rw [List.range_succ,List.flatMap_append];simp
theorem jC (s:Srt) (b:Big) (n:Nat):dZ s b (n+1)=dZ s b n++i8 s b n:=by unfold dZ;rw [List.range_succ,List.flatMap_append];simp
theorem lw (s:Srt) (b:Big) (i:Nat):(iG s b i).length≤1:=by unfold iG;split <;> (try split) <;> simp
theorem i6 (s:Srt) (b:Big) (n:Nat):(fF s b n).length≤n:=by
 induction n with
 | zero=>simp [fF]
 | succ n ih=>rw [kh,List.length_append];have:=lw s b n;omega
attribute [local irreducible] inR fp d8 aD cy jB ir dp iG i8 onL
end Go.Proofs.YtnobdioccfeokaaGreatDoor
namespace Go.Proofs.YtnobdioccfeokaaGreatDoor
open Go.RowKit
set_option linter.unusedVariables false
set_option linter.unusedSimpArgs false
attribute [local irreducible] sS
def o8 (r:Int):ByteArray:=if 0<r then sS r else ⟨#[]⟩
theorem zC (r:Int) (h:0<r):o8 r=o8 (r / 10)++sS (r % 10):=by
 unfold o8
 rw [if_pos h]
 by_cases h1:10≤r
 ·rw [if_pos (by omega),C6 r h1]
 ·rw [if_neg (by omega),show r % 10=r by omega]
  rfl
theorem CJ (k:Int) (h0:0≤k) (h:k<10):sS k=⟨#[UInt8.ofNat (48+k).toNat]⟩:=by
 rw [← yM k h0 h]
 have:k=0∨k=1∨k=2∨k=3∨k=4∨k=5∨k=6∨k=7∨k=8∨k=9:=by omega
 rcases this with rfl|rfl|rfl|rfl|rfl|rfl|rfl|rfl|rfl|rfl <;> rfl
theorem DE (w:World) (x:Int) (t:TypeId) (h0:0≤x) (h1:x≤255):Jf (w.alloc (.cells #[.int .u8 x] t)) w.heap.size ⟨#[UInt8.ofNat x.toNat]⟩:=by
 intro j hj
 have hj0:j=0:=by simpa using hj
 subst hj0
 have e:((UInt8.ofNat x.toNat).toNat:Int)=x:=by
  have:(UInt8.ofNat x.toNat).toNat=x.toNat % 256:=rfl
  rw [this]
  omega
 rw [World.cell?_alloc_at #[.int .u8 x] t w.heap.size 0 rfl]
 simp [e]
 omega
attribute [local irreducible] o8 kO
set_option maxRecDepth 100000 in
set_option maxHeartbeats 800000 in
theorem n9 (n:Int) (w:World) (h0:0≤n) (h1:n≤1000000000) :
 Calls Tryz.prog 77 #[.int .i64 n] w fun e w'=>e=.returned (.string (kO n))∧Ext w w':=by
 by_cases hn:n≤0
 ·go_enter Tryz.func77,Tryz.ntmps77
  go_wp2
  go_ret
  exact ⟨AR (by unfold kO;rw [if_pos hn]),xw⟩
 ·go_enter Tryz.func77,Tryz.ntmps77
  go_wp2
  go_loopw [0,3] (fun a t wr=>∃(r:Int) (s:ByteArray),a=.int .i64 r∧t=.string s∧0≤r∧r≤n∧Ext w wr∧Hid (sS n=o8 r++s)) (fun a _ _=>(intOf a).toNat)
  case atStart=>
   exact ⟨n,⟨#[]⟩,rfl,rfl,h0,Int.le_refl _,xw,Lib.hid (by unfold o8;rw [if_pos (by omega)];exact (ByteArray.ext (by simp)))⟩
  case round=>
   obtain ⟨r,s,rfl,rfl,hr,hrn,hx,HD⟩:=hrel
   have hsz:s.size≤21:=by
    have h2:=xO n (by omega) (by omega)
    rw [HD.out,ByteArray.size_append] at h2
    omega
   by_cases hp:0<r
   ·have hdg:=CJ (r % 10) (by omega) (by omega)
    have hl:=DE wr (48+r % 10) 5 (by omega) (by omega)
    rw [← hdg] at hl
    have hds:(sS (r % 10)).size=1:=by rw [hdg];rfl
    have hst:=Lib.hid (zC r hp)
    clear hdg
    go_wp2_with (refine vp rfl 178 9 5 (.tmp 12) rfl hl 1 1 hds rfl Tryz.underlying178 Tryz.underlying5 Tryz.underlying9 ?_)
    go_roundw
    case rel=>exact ⟨r / 10,sS (r % 10)++s,rfl,rfl,by omega,by omega,xw,Lib.hid (by rw [HD.out,hst.out,ByteArray.append_assoc])⟩
    ·simp only [intOf];omega
   ·have hr0:r=0:=by omega
    have hms:Hid (kO n=⟨#[109]⟩++s):=Lib.hid (by unfold kO;rw [if_neg (by omega),HD.out];unfold o8;rw [if_neg hp];exact congrArg _ (ByteArray.ext (by simp)))
    go_wp2
    go_ret
    exact ⟨AR hms.out.symm,xw⟩
end Go.Proofs.YtnobdioccfeokaaGreatDoor
namespace Go.Proofs.YtnobdioccfeokaaGreatDoor
open Go.RowKit
set_option linter.unusedVariables false
set_option linter.unusedSimpArgs false
def BV (r:Rnt):Bool:=(gm r.sig r.sort && (dv r.sig r.rules && (gQ r.hosts && inR r.count 0 1000))) && (ft r.sig r.agent && (decide (r.agent.roots=(r.hosts.length:Int)) && (ff r.sort r.agent).isEmpty))
end Go.Proofs.YtnobdioccfeokaaGreatDoor
namespace Go.Proofs.YtnobdioccfeokaaGreatDoor
open Go.RowKit
set_option linter.unusedVariables false
set_option linter.unusedSimpArgs false
theorem rO {r:Rnt} (h:io r≤1048576):(∀i (h:i<r.rules.length),(r.rules[i]).redex.inner.length≤1048576∧(r.rules[i]).reactum.inner.length≤1048576)∧r.agent.inner.length≤1048576∧r.sort.apart.length≤1048576∧r.hosts.length≤1048576:=by
 have hw:io r=wtL eq r.sig+iI r.sort+wtL dG r.rules+wtL ed r.hosts+dN r.agent:=rfl
 have hb:∀b:Big,b.inner.length≤dN b:=fun b=>by
  have e:dN b=wtL jx b.nodes+b.sites.length+wtL ed b.outer+wtL mG b.inner:=rfl
  have e2:wtL mG b.inner=b.inner.length+(b.inner.map mG).sum:=rfl
  omega
 refine ⟨fun i hi=>?_,?_,?_,?_⟩
 ·have h1:=rA dG r.rules r.rules[i] (List.getElem_mem hi)
  have e:dG r.rules[i]=dN (r.rules[i]).redex+dN (r.rules[i]).reactum+(r.rules[i]).copies.length:=rfl
  have h2:=hb (r.rules[i]).redex
  have h3:=hb (r.rules[i]).reactum
  omega
 ·have:=hb r.agent;omega
 ·have e:iI r.sort=r.sort.tops.length+wtL DG r.sort.nest+wtL DG r.sort.sorts+r.sort.most.length+r.sort.apart.length:=rfl
  omega
 ·have e:wtL ed r.hosts=r.hosts.length+(r.hosts.map ed).sum:=rfl
  omega
theorem qH {sig:List Ctl} {b:Big} (h:ft sig b=true):aH sig b=true:=by
 unfold ft at h;exact (Bool.and_eq_true_iff.1 h).1
theorem we {l:List ByteArray} (h:4<l.length):gQ l=false:=by
 unfold gQ
 rw [show decide (l.length≤4)=false from decide_eq_false (by omega),Bool.and_false]
attribute [local irreducible] inR cJ gm dv gQ ft ff aH jp
end Go.Proofs.YtnobdioccfeokaaGreatDoor
