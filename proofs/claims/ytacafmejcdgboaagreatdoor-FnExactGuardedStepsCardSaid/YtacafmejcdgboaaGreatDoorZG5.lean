/-
  Proved facts that the law leans on.
-/
import Derived.Test.YtacafmejcdgboaaGreatDoorZG2
import Derived.Test.YtacafmejcdgboaaGreatDoorZG3
import Derived.Test.YtacafmejcdgboaaGreatDoorZG4
import Derived.Laws.CopyRow
import Derived.Laws.CopyOwn
import Derived.Laws.OwnMore
import Derived.Laws.Tables
import Derived.Deep.RegionWith
import Derived.Deep.DrawnRows
import Derived.Deep.RegionHeld3
import Derived.Deep.DeepMust
import Derived.Deep.Cut
namespace Go.Proofs.YtacafmejcdgboaaGreatDoor
open Go.RowKit
set_option linter.unusedVariables false
set_option linter.unusedSimpArgs false
theorem iU {α:Type} (lt:α→α→Prop) (irr:∀x,¬lt x x) {l:List α} (h:l.Pairwise lt):l.Nodup:=by
 refine List.Pairwise.imp ?_ h
 intro a b hab e
 subst e
 exact irr _ hab
theorem lq {links:List Int} {l:Int} {i k:Nat} {q:Int × Int}:q∈cK links l i k↔∃j:Nat,j<k∧links.getD j 0=l∧q=((i:Int),(j:Int)):=by
 unfold cK
 simp only [List.mem_map,List.mem_filter,List.mem_range,decide_eq_true_eq]
 constructor
 ·rintro ⟨j,⟨h1,h2⟩,h3⟩;exact ⟨j,h1,h2,h3.symm⟩
 ·rintro ⟨j,h1,h2,h3⟩;exact ⟨j,⟨h1,h2⟩,h3.symm⟩
theorem ew {b:Big} {l:Int} {q:Int × Int}:q∈aK b l↔∃(i j:Nat) (hi:i<b.nodes.length) (hj:j<(b.nodes[i]).links.length),(b.nodes[i]).links[j]=l∧q=((i:Int),(j:Int)):=by
 unfold aK dQ
 simp only [List.mem_flatMap,List.mem_range,lq]
 constructor
 ·rintro ⟨i,hi,j,hj,h1,h2⟩
  have e:b.nodes.getD i ⟨0,0,[]⟩=b.nodes[i]:=by simp [hi]
  rw [e] at hj h1
  exact ⟨i,j,hi,hj,by rw [← h1];simp [hj],h2⟩
 ·rintro ⟨i,j,hi,hj,h1,h2⟩
  have e:b.nodes.getD i ⟨0,0,[]⟩=b.nodes[i]:=by simp [hi]
  exact ⟨i,hi,j,by rw [e];exact hj,by rw [e,← h1];simp [hj],h2⟩
theorem sw (b:Big) (l:Int):(aK b l).Nodup:=by
 have h:∀n,(dQ b l n).Pairwise (fun p q:Int × Int=>p.1<q.1∨(p.1=q.1∧p.2<q.2)):=by
  intro n
  unfold dQ
  rw [List.pairwise_flatMap]
  refine ⟨fun i _=>?_,?_⟩
  ·unfold cK
   rw [List.pairwise_map]
   exact (List.Pairwise.filter _ List.pairwise_lt_range).imp (fun h=>.inr ⟨rfl,by show (_:Int)<_;omega⟩)
  ·refine List.pairwise_lt_range.imp (fun {i j} hij x hx y hy=>?_)
   obtain ⟨_,_,_,rfl⟩:=lq.1 hx
   obtain ⟨_,_,_,rfl⟩:=lq.1 hy
   exact .inl (by show (_:Int)<_;omega)
 exact iU _ (fun x h=>by omega) (h _)
theorem se {α:Type} [DecidableEq α]:∀(xs ys:List α),xs.Nodup→(∀x∈xs,x∈ys)→ys.length≤xs.length→∀y∈ys,y∈xs:=by
 intro xs
 induction xs with
 | nil=>intro ys _ _ hl y hy;cases ys <;> simp at *
 | cons x xs ih=>
  intro ys hn hs hl y hy
  rw [List.nodup_cons] at hn
  by_cases e:y=x
  ·simp [e]
  ·refine List.mem_cons_of_mem _ (ih (ys.erase x) hn.2 (fun z hz=>?_) ?_ y ((List.mem_erase_of_ne e).2 hy))
   ·have:z≠x:=fun h=>hn.1 (by rw [← h];exact hz)
    exact (List.mem_erase_of_ne this).2 (hs z (by simp [hz]))
   ·rw [List.length_erase_of_mem (hs x (by simp))];simp at hl;omega
theorem cE (l:List Int) (i:Nat) (h:i<l.length):atI l (i:Int)=l[i]:=by unfold atI;simp [h]
theorem ow {l:List Int} {i:Int} (h0:0≤i) (h:i<l.length):atI l i∈l:=by
 obtain ⟨k,rfl⟩:=Int.eq_ofNat_of_zero_le h0
 rw [cE l k (by omega)];exact List.getElem_mem _
structure ox (r a:Big) (ns:List Int):Prop where
 len:ns.length=r.nodes.length
 at':∀i (h:i<r.nodes.length),∃(m:Nat) (hm:m<a.nodes.length),atI ns (i:Int)=(m:Int)∧(a.nodes[m]).control=(r.nodes[i]).control
 inj:∀i j,i<r.nodes.length→j<r.nodes.length→atI ns (i:Int)=atI ns (j:Int)→i=j
theorem iQ {r a:Big} {ns:List Int} (h:rH r a ns=true):ox r a ns:=by
 unfold rH at h
 simp only [Bool.and_eq_true,decide_eq_true_eq] at h
 obtain ⟨h1,h2,h3⟩:=h
 rw [aG] at h2 h3
 refine ⟨h1,fun i hi=>?_,fun i j hi hj e=>?_⟩
 ·have h4:=h2 i (by omega)
  have h5:=h3 i (by omega)
  unfold tZ at h4
  unfold uu at h5
  simp only [Bool.and_eq_true,decide_eq_true_eq] at h4 h5
  have h6:=bK h4.1
  obtain ⟨m,hm⟩:=Int.eq_ofNat_of_zero_le h6.1
  refine ⟨m,by omega,hm,?_⟩
  rw [hm,aD a m (by omega),aD r i hi] at h5
  exact h5
 ·have key:∀i j,i<j→j<ns.length→atI ns (i:Int)=atI ns (j:Int)→False:=fun i j hij hj e=>by
   have h4:=h2 j hj
   unfold tZ at h4
   simp only [Bool.and_eq_true,Bool.not_eq_true'] at h4
   have h5:dP (ns.take j) (atI ns (j:Int))=true:=cM.2 (by
    rw [← e,cE ns i (by omega)]
    exact List.mem_take_iff_getElem.2 ⟨i,by omega,rfl⟩)
   rw [h5] at h4
   exact absurd h4.2 (by simp)
  rcases Nat.lt_trichotomy i j with h|h|h
  ·exact (key i j h (by omega) e).elim
  ·exact h
  ·exact (key j i h (by omega) e.symm).elim
theorem CG {r a:Big} {ns rs:List Int} (h1:(List.range ns.length).all (tZ a ns)=true) (h2:(List.range ns.length).all (gC r a ⟨ns,rs⟩)=true) (h3:ns.length=r.nodes.length):ox r a ns:=by
 refine iQ ?_
 unfold rH
 rw [decide_eq_true h3,h1]
 rw [aG] at h2
 rw [Bool.true_and,Bool.true_and,aG]
 intro i hi
 have:=h2 i hi
 unfold gC at this
 rw [Bool.and_eq_true] at this
 exact this.1
theorem ox.ports {sig:List Ctl} {r a:Big} {ns:List Int} (h:ox r a ns) (hr:aF sig r=true) (ha:aF sig a=true) {i m:Nat} (hi:i<r.nodes.length) (hm:m<a.nodes.length) (e:atI ns (i:Int)=(m:Int)):(a.nodes[m]).links.length=(r.nodes[i]).links.length:=by
 obtain ⟨m',hm',e',hc⟩:=h.at' i hi
 have:m'=m:=by omega
 subst this
 have h1:=(eW hr i hi).2.2.2.1
 have h2:=(eW ha m' hm').2.2.2.1
 rw [hc] at h2
 omega
theorem ox.img {sig:List Ctl} {r a:Big} {ns:List Int} (h:ox r a ns) (hr:aF sig r=true) (ha:aF sig a=true) {i j:Nat} (hi:i<r.nodes.length) (hj:j<(r.nodes[i]).links.length):∃(m:Nat) (hm:m<a.nodes.length) (hl:j<(a.nodes[m]).links.length),atI ns (i:Int)=(m:Int)∧ik a ns ((i:Int),(j:Int))=(a.nodes[m]).links[j]:=by
 obtain ⟨m,hm,e,_⟩:=h.at' i hi
 have hl:=h.ports hr ha hi hm e
 refine ⟨m,hm,by omega,e,?_⟩
 unfold ik
 rw [e,aD a m hm,cE _ j (by omega)]
theorem ox.img_link {sig:List Ctl} {r a:Big} {ns:List Int} (h:ox r a ns) (hr:aF sig r=true) (ha:aF sig a=true) {l:Int} {q:Int × Int} (hq:q∈aK r l):eq a (ik a ns q)=true:=by
 obtain ⟨i,j,hi,hj,_,rfl⟩:=ew.1 hq
 obtain ⟨m,hm,hl,_,e⟩:=h.img hr ha hi hj
 rw [e]
 exact (eW ha m hm).2.2.2.2 _ (List.getElem_mem _)
theorem i1 {r a:Big} {ns rs:List Int} (h:fP r a ⟨ns,rs⟩=true):(rs.length:Int)=r.roots:=by
 unfold fP at h
 simp only [Bool.and_eq_true,decide_eq_true_eq] at h
 exact h.2
theorem Im {a:Big} {ns:List Int} (h:(List.range ns.length).all (tZ a ns)=true) (i:Nat) (hi:i<ns.length):∃(m:Nat) (hm:m<a.nodes.length),atI ns (i:Int)=(m:Int):=by
 have h4:=(aG _ _).1 h i hi
 unfold tZ at h4
 simp only [Bool.and_eq_true] at h4
 have h6:=bK h4.1
 obtain ⟨m,hm⟩:=Int.eq_ofNat_of_zero_le h6.1
 exact ⟨m,by omega,hm⟩
theorem iE {b:Big} {l:Int} (h:eq b l=true):∃n:Nat,l=(n:Int)∧n<ap b:=by
 unfold eq at h
 have:=bK h
 obtain ⟨n,hn⟩:=Int.eq_ofNat_of_zero_le this.1
 exact ⟨n,hn,by unfold ap;omega⟩
theorem ox.up_pos {sig:List Ctl} {r a:Big} {ns:List Int} (h:ox r a ns) (hr:aF sig r=true) (ha:aF sig a=true) {l:Int} {k i:Nat} (hk:k<r.nodes.length) (hi:i≤(r.nodes[k]).links.length):∀q∈aW r l k i,0≤ik a ns q:=by
 intro q hq
 obtain ⟨t,ht⟩:=jm r l k i hk hi
 obtain ⟨n,hn,_⟩:=iE (h.img_link hr ha (q:=q) (l:=l) (by rw [ht];exact List.mem_append_left _ hq))
 omega
theorem Ay {r a:Big} {ns:List Int} (h:g6 r a ns r.nodes.length 0) (he:∀l:Nat,(l:Int)<r.edges→l<ap r→ir r a ns l=true):gw r a ns=true:=by
 unfold gw
 rw [aG]
 intro l hl
 by_cases hle:(l:Int)<r.edges
 ·exact he l hle hl
 ·unfold ir
  rw [oz h l hl,decide_eq_false hle]
  rfl
theorem Cw {r a:Big} {ns:List Int} (h:g6 r a ns r.nodes.length 0) (l:Nat) (hl:l<ap r) (hle:(l:Int)<r.edges):ir r a ns l=(decide (mE r a ns l<a.edges) && decide ((aK a (mE r a ns l)).length=(aK r l).length)):=by
 unfold ir
 rw [oz h l hl,decide_eq_true hle]
 simp
def pj (r a:Big) (ns:List Int):List Int:=if gw r a ns then aM r a ns else []
theorem lA {r a:Big} {ns:List Int} (h:gw r a ns=false):pj r a ns = []:=by unfold pj;rw [h];rfl
theorem kG {r a:Big} {ns:List Int} (h:gw r a ns=true):pj r a ns=aM r a ns:=by unfold pj;rw [h];rfl
def gL (r a:Big) (ns:List Int) (n:Nat):List Int:=(List.range n).map (fun (l:Nat)=>mE r a ns l)
theorem qA (r a:Big) (ns:List Int) (n:Nat):gL r a ns (n+1)=gL r a ns n++[mE r a ns n]:=by unfold gL;rw [List.range_succ,List.map_append];rfl
theorem uB (a:Big) (ns:List Int):∀(ps:List (Int × Int)) (h:0<ps.length),jy a ns ps=ik a ns ps[0]
 | [],h=>by simp at h
 | _ :: _,_=>rfl
theorem fW {b:Big} (h:bF b=true) (l:Nat) (hl:l<ap b):aK b l≠[]:=by
 unfold bF at h
 simp only [Bool.and_eq_true,decide_eq_true_eq] at h
 obtain ⟨⟨h1,_⟩,_,_,h5⟩:=h
 have h6:=(aG _ _).1 h5 l hl
 intro he
 have hi:b.inner = []:=List.eq_nil_of_length_eq_zero h1
 unfold dG pE at h6
 rw [he] at h6
 simp [nF,eA,hi] at h6
theorem AH {sig:List Ctl} {r a:Big} {ns:List Int} (h:ox r a ns) (hr:aF sig r=true) (ha:aF sig a=true) {l:Nat} (hl:ir r a ns l=true) (he:(l:Int)<r.edges) {q:Int × Int} (hq:q∈aK a (mE r a ns l)):q.1∈ns:=by
 unfold ir at hl
 simp only [Bool.and_eq_true,Bool.or_eq_true,Bool.not_eq_true',decide_eq_false_iff_not,List.all_eq_true,decide_eq_true_eq] at hl
 obtain ⟨h1,h2⟩:=hl
 obtain ⟨_,h3⟩:=h2.resolve_left (by omega)
 have hin:∀p∈aK r l,∃i j:Nat,i<r.nodes.length∧p=((i:Int),(j:Int))∧(atI ns p.1,p.2)∈aK a (mE r a ns l):=fun p hp=>by
  have h4:=h1 p hp
  obtain ⟨i,j,hi,hj,_,rfl⟩:=ew.1 hp
  obtain ⟨m,hm,hlm,e,e2⟩:=h.img hr ha hi hj
  exact ⟨i,j,hi,rfl,ew.2 ⟨m,j,hm,hlm,by rw [← e2,h4],by show (atI ns (i:Int),_)=_;rw [e]⟩⟩
 have hnd:((aK r l).map (fun p=>(atI ns p.1,p.2))).Nodup:=by
  unfold List.Nodup
  rw [List.pairwise_map]
  refine List.Pairwise.imp_of_mem ?_ (sw r l)
  intro p p' hp hp' hne e
  obtain ⟨i,j,hi,rfl,_⟩:=hin p hp
  obtain ⟨i',j',hi',rfl,_⟩:=hin p' hp'
  simp only [Prod.mk.injEq] at e
  have:=h.inj i i' hi hi' e.1
  exact hne (by rw [this,e.2])
 have hall:=se _ _ hnd (fun x hx=>by
  obtain ⟨p,hp,rfl⟩:=List.mem_map.1 hx
  exact (hin p hp).elim fun _ ⟨_,_,_,h⟩=>h) (by rw [List.length_map];omega) q hq
 obtain ⟨p,hp,rfl⟩:=List.mem_map.1 hall
 obtain ⟨i,j,hi,rfl,_⟩:=hin p hp
 exact ow (by omega) (by have:=h.len;show (i:Int)<_;omega)
theorem Ao {α:Type} {lt:α→α→Prop} (irr:∀x,¬lt x x) (tr:∀x y z,lt x y→lt y z→lt x z):∀l1 l2:List α,l1.Pairwise lt→l2.Pairwise lt→(∀x,x∈l1↔x∈l2)→l1=l2:=by
 intro l1
 induction l1 with
 | nil=>
  intro l2 _ _ h
  cases l2 with
  | nil=>rfl
  | cons y l2=>exact absurd ((h y).2 (by simp)) (by simp)
 | cons x l1 ih=>
  intro l2 h1 h2 h
  cases l2 with
  | nil=>exact absurd ((h x).1 (by simp)) (by simp)
  | cons y l2=>
   rw [List.pairwise_cons] at h1 h2
   have hx:=(h x).1 (by simp)
   have hy:=(h y).2 (by simp)
   have e:x=y:=by
    rcases List.mem_cons.1 hx with e|hx
    ·exact e
    ·rcases List.mem_cons.1 hy with e|hy
     ·exact e.symm
     ·exact absurd (tr _ _ _ (h1.1 y hy) (h2.1 x hx)) (irr x)
   subst e
   rw [ih l2 h1.2 h2.2 (fun z=>⟨fun hz=>?_,fun hz=>?_⟩)]
   ·rcases List.mem_cons.1 ((h z).1 (by simp [hz])) with e|hz2
    ·subst e;exact absurd (h1.1 z hz) (irr z)
    ·exact hz2
   ·rcases List.mem_cons.1 ((h z).2 (by simp [hz])) with e|hz2
    ·subst e;exact absurd (h2.1 z hz) (irr z)
    ·exact hz2
theorem hZ (f:Nat→Bool) (n:Nat):(idxOf f n).Pairwise (· < ·):=by
 unfold idxOf
 rw [List.pairwise_map]
 exact (List.Pairwise.filter _ List.pairwise_lt_range).imp (fun h=>by omega)
def dc (l:List Int) (x:Int):Int:=if dP l x then (l.idxOf x:Int) else -1
theorem gg {f:Nat→Bool} {n:Nat} (k:Nat) (hk:k<n):dc (idxOf f n) (k:Int)=if f k then ((idxOf f k).length:Int) else -1:=by
 unfold dc
 by_cases hf:f k=true
 ·have hm:(k:Int)∈idxOf f n:=bw.2 ⟨k,hk,hf,rfl⟩
  rw [if_pos (cM.2 hm),if_pos hf]
  congr 1
  have hsplit:∃t,idxOf f n=idxOf f k++(k:Int) :: t:=by
   obtain ⟨d,rfl⟩:∃d,n=k+1+d:=⟨n - (k+1),by omega⟩
   clear hk hm
   induction d with
   | zero=>exact ⟨[],by rw [Nat.add_zero,dg hf]⟩
   | succ d ih=>
    obtain ⟨t,ht⟩:=ih
    rw [show k+1+(d+1)=(k+1+d)+1 by omega]
    by_cases h2:f (k+1+d)=true
    ·exact ⟨t++[((k+1+d:Nat):Int)],by rw [dg h2,ht];simp⟩
    ·exact ⟨t,by rw [eJ (by simpa using h2),ht]⟩
  obtain ⟨t,ht⟩:=hsplit
  rw [ht,List.idxOf_append,if_neg,List.idxOf_cons_self,Nat.zero_add]
  intro h
  obtain ⟨i,hi,_,e⟩:=bw.1 h
  omega
 ·rw [if_neg (fun h=>hf ?_),if_neg hf]
  obtain ⟨i,_,h2,e⟩:=bw.1 (cM.1 h)
  have:i=k:=by omega
  rw [← this];exact h2
def kL (r a:Big) (ns:List Int) (l:Nat):Bool:=!dP ((aM r a ns).take r.edges.toNat) l
def iX (r a:Big) (ns:List Int):List Int:=idxOf (kL r a ns) a.edges.toNat
def iM (r a:Big) (ns:List Int) (l:Int):Int:=if l<a.edges then dc (iX r a ns) l else (iX r a ns).length+(l - a.edges)
def jV (a:Big) (ns:List Int):List Int:=idxOf (fun i=>!gV a ns i) a.nodes.length
def mw (a:Big) (ns:List Int) (i:Nat):Bool:=gV a ns i && !dP ns i
def bz (a:Big) (ns:List Int):List Int:=idxOf (mw a ns) a.nodes.length
def dK (a:Big) (ns:List Int) (p:Int):Int:=if 0≤p then dc (jV a ns) p else p
def Ib (a:Big) (ns:List Int) (l:Nat):Bool:=(bz a ns).any fun k=>dP (dR a k).links l
def ak (a:Big) (ns:List Int):List Int:=idxOf (Ib a ns) (ap a)
end Go.Proofs.YtacafmejcdgboaaGreatDoor
namespace Go.Proofs.YtacafmejcdgboaaGreatDoor
open Go.RowKit
set_option linter.unusedVariables false
set_option linter.unusedSimpArgs false
def mv (w:World) (g:Nat) (l:List Int):Prop:=w.heap[g]? = some (.cells (l.map (Value.int .i64)).toArray 3 (0,0))
theorem mv.lt {w:World} {g:Nat} {l:List Int} (h:mv w g l):g<w.heap.size:=(Array.getElem?_eq_some_iff.1 h).1
theorem mv.cell {w:World} {g:Nat} {l:List Int} (h:mv w g l) (j:Nat) (hj:j<l.length):w.cell? ⟨g,j,none⟩=some (.int .i64 l[j]):=by
 unfold mv at h
 simp [World.cell?,h,hj]
theorem mv.froz {w:World} {g:Nat} {l:List Int} (h:mv w g l) (j:Nat):w.frozen? ⟨g,j,none⟩=false:=by
 unfold mv at h
 simp [World.frozen?,h]
theorem mv.ext {w w':World} {g:Nat} {l:List Int} (h:mv w g l) (hx:Ext w w'):mv w' g l:=(hx.block g h.lt).trans h
theorem mv.row {w:World} {g:Nat} {l:List Int} (h:mv w g l) (l':List Int):mv (w.setRow g (l'.map (Value.int .i64)).toArray) g l':=by
 unfold mv at h ⊢
 exact setRow_heap w g _ _ _ _ h
theorem mv.set {w:World} {g:Nat} {l:List Int} (h:mv w g l) (j:Nat) (v:Int):mv (w.setCell ⟨g,j,none⟩ (.int .i64 v)) g (l.set j v):=by
 have h2:=h
 unfold mv at h2
 rw [setCell_eq_setRow w g j _ _ _ _ h2]
 have e:(l.map (Value.int .i64)).toArray.setIfInBounds j (.int .i64 v)=((l.set j v).map (Value.int .i64)).toArray:=by simp [List.map_set]
 rw [e]
 exact h.row _
theorem px {P:Program} {w:World} {ops:Array Oper} {o:Oper} {a:Act} {Q:Exit→Act→World→Prop} {K:Act→World→Prop} (hw:Region.wanted o (yielded ops a.tmps)=true) (d s:Operand) (dT sT:TypeId)
 (ho:o.op=.call { callee:=.builtin .copy,args:=#[d,s],argTypes:=#[dT,sT] }) (elem:TypeId) (hu:P.underlying dT=some (.slice elem)) (hsz:(P.info? elem).map (·.size)=some 1)
 (g off dLen dCap:Nat) (ad:Addr) (eB sCap:Nat) (hd:a.eval d=.slice (some ⟨g,off,none⟩) dLen dCap) (hs:a.eval s=.slice (some ad) eB sCap)
 (cur:Array Value) (t:TypeId) (hg:w.heap[g]? = some (.cells cur t (0,0))) (cs:List Value) (hn:cs.length=Nat.min eB dLen)
 (hsrc:∀j v,cs[j]? = some v→w.cell? (ad.add j)=some v) (hfit:off+cs.length≤cur.size) (h1:∀v∈cs,v.oneCell'=true)
 (h:K (a.put o.dst (goInt cs.length)) (w.setRow g (cur.toList.take off++cs++cur.toList.drop (off+cs.length)).toArray)):if Region.wanted o (yielded ops a.tmps)=true then Oper.wp P o a w K Q else K (a.put o.dst undef) w:=by
 have hrun:=run_copy_row (P:=P) w dT sT o.type elem g off dLen dCap ad eB sCap cur t cs hu hsz hg hn hsrc hfit h1
 rw [if_pos hw]
 unfold Oper.wp
 simp [execOp,ho,resolve,invoke,builtin,hd,hs,hrun,Result.andThen,Oper.upon]
 simpa using h
theorem xZ (n:Nat):(madeCells #[.int .i64 0] (n * 1)).toList=(List.replicate n (0:Int)).map (fun x=>Value.int .i64 x):=by
 unfold madeCells
 apply List.ext_getElem
 ·simp
 ·intro i h1 h2
  simp [Nat.mod_one]
def ng (x:Int) (k n:Nat):List Int:=List.replicate k x++List.replicate (n - k) 0
theorem Ca (x:Int) (k n:Nat) (h:k≤n):(ng x k n).length=n:=by unfold ng;simp;omega
theorem rW (x:Int) (k c n:Nat) (h:k+c≤n):(((ng x k n).map (Value.int .i64)).take k++List.replicate c (.int .i64 x)++((ng x k n).map (Value.int .i64)).drop (k+c))=(ng x (k+c) n).map (Value.int .i64):=by
 unfold ng
 rw [← List.map_take,← List.map_drop,List.take_append_of_le_length (by simp),List.take_of_length_le (by simp),List.drop_append,List.drop_of_length_le (by simp),List.drop_replicate]
 simp only [List.map_append,List.map_replicate,List.length_replicate,List.nil_append]
 rw [show n - k - (k+c - k)=n - (k+c) by omega,List.replicate_append_replicate]
theorem DL (x:Int) (n:Nat):ng x n n=List.replicate n x:=by unfold ng;simp
theorem mv.drew {w:World} {g:Nat} {l:List Int} (h:mv w g l):mv w.drew g l:=h
theorem FT {w:World} {g k c:Nat} {x:Int} {l:List Int} (h:mv w g l) (hc:c≤l.length) (hl:∀j (hj:j<l.length),j<c→l[j]=x):∀(j:Nat) (v:Value),(List.replicate c (Value.int .i64 x))[j]? = some v→w.cell? ((⟨g,0,none⟩:Addr).add j)=some v:=by
 intro j v hj
 obtain ⟨h1,h2⟩:=List.getElem?_eq_some_iff.1 hj
 rw [List.length_replicate] at h1
 rw [List.getElem_replicate] at h2
 have e:((⟨g,0,none⟩:Addr).add j)=⟨g,j,none⟩:=by cases j <;> simp [Addr.add]
 rw [e,h.cell j (by omega),hl j (by omega) h1,h2]
theorem ER (x:Int) (k n j:Nat) (hj:j<(ng x k n).length) (h:j<k):(ng x k n)[j]=x:=by
 have h2:(ng x k n)[j]? = some x:=by
  unfold ng
  rw [List.getElem?_append_left (by simpa using h)]
  simp [h]
 exact (List.getElem?_eq_some_iff.1 h2).2
theorem Ec:(Tryz.prog.info? 3).map (·.size)=some 1:=by kernel_rfl
set_option maxRecDepth 100000 in
set_option maxHeartbeats 3200000 in
theorem ji (lo hi:Nat) (v:Value) (x:Int) (n:Nat) (w:World) (h:uY lo hi w v [x]) (hn:n≤1000) :
 Calls Tryz.prog 224 #[v,.int .i64 n] w fun e w'=>∃g,e=.returned (.slice (some ⟨g,0,none⟩) n n)∧w.heap.size≤g∧mv w' g (List.replicate n x)∧Ext w w':=by
 obtain ⟨va,vk,rfl,n1,n2,n3,n4⟩:=h
 obtain ⟨b,o,rfl,hb1,hb2,n4⟩:=n4.resolve_left (by simp)
 obtain ⟨cs,cl,⟨rfl,ce⟩,cc⟩:=n4 0 (by simp)
 have c0:=cc 0 _ rfl
 simp only [Nat.zero_mul,Nat.add_zero,List.getElem_cons_zero] at c0 ce
 clear cc cl n4
 unfold maxLen at n2
 obtain ⟨i0,hi0,hz0,hz1,hz2⟩:=info_parts tN
 obtain ⟨W2,hmk,own0,gro0⟩:=run_make_full w w.heap.size 25 3 i0 _ 1 Tryz.underlying25 hi0 hz0 hz1 .i64 .i64 n (by rw [hz2];omega) (by unfold maxLen;omega) (Nat.le_refl _)
 have hx2:Ext w W2:=C8 gro0
 have hR0:mv W2 w.heap.size (ng x 0 n):=by
  obtain ⟨_,h|⟨g,cap,cur,h1,h2,h3,h4,h5,h6,h7⟩⟩:=own0
  ·cases h.1
  ·cases h1
   unfold mv
   rw [h3]
   have e:cur=((ng x 0 n).map (Value.int .i64)).toArray:=by
    apply Array.ext'
    rw [List.take_of_length_le (by simp;omega)] at h7
    rw [h7]
    have:=xZ n
    change (madeCells (Value.int .i64 0).cells (n * 1)).toList=_ at this
    rw [this]
    unfold ng
    simp
   rw [e]
 have hd:=hx2.keep c0
 clear own0 gro0
 have jn:=IntWalk.i64_in (n:Int) (by omega)
 have hml:((1 * n / 18446744073709551616:Nat):Int)=0:=by omega
 have hmh:((1 * n % 18446744073709551616:Nat):Int)=(n:Int):=by omega
 have HM1:=Lib.hid hml
 have HM2:=Lib.hid hmh
 clear hml hmh
 obtain ⟨cn,hcn⟩:∃cn,Nat.min 1 n=cn:=⟨_,rfl⟩
 have hcn1:cn≤1:=by rw [← hcn];exact Nat.min_le_left _ _
 have hcn2:cn≤n:=by rw [← hcn];exact Nat.min_le_right _ _
 have hcn3:n=0∨cn=1:=by rw [← hcn];exact (Nat.eq_zero_or_pos n).imp id (fun h=>Nat.min_eq_left h)
 have HCN:=Lib.hid hcn
 clear hcn
 go_enter Tryz.func224,Tryz.ntmps224
 go_upto_region 7 with (go_at_call 261;refine (Tryz.bits_Mul 1 n (by omega) (by omega) _).mono ?_;rintro e y ⟨rfl,rfl⟩;rw [HM1.out,HM2.out])
 refine wp_region_lit ?_
 refine wpList_plain rfl fun K hK=>?_
 unfold Oper.wp
 go_simp
 refine hK _ _ ?_
 clear hK
 refine wpList_plain rfl fun K hK=>?_
 unfold Oper.wp
 go_simp
 refine hK _ _ ?_
 clear hK
 refine wpList_copy_own rfl (.tmp 31) (.tmp 32) 25 25 rfl 3 Tryz.underlying25 Ec y.heap.size 0 n n ⟨b,o,none⟩ 1 vk rfl rfl _ _ hR0 (List.replicate cn (.int .i64 x)) (by rw [List.length_replicate];exact HCN.out.symm) ?_ (by rw [List.length_replicate];simp [ng];omega) (fun v hv=>by rw [List.eq_of_mem_replicate hv];rfl) ?_
 ·intro j v hj
  obtain ⟨h1,h2⟩:=List.getElem?_eq_some_iff.1 hj
  rw [List.length_replicate] at h1
  rw [List.getElem_replicate] at h2
  obtain rfl:j=0:=by omega
  rw [← h2]
  simpa [Addr.add] using hd
 have hR3:mv (W2.setRow y.heap.size ((((ng x 0 n).map (Value.int .i64)).toArray.toList.take 0++(List.replicate cn (Value.int .i64 x)++((ng x 0 n).map (Value.int .i64)).toArray.toList.drop (0+(List.replicate cn (Value.int .i64 x)).length))).toArray)) y.heap.size (ng x cn n):=by
  have e:=rW x 0 cn n (by omega)
  rw [Nat.zero_add] at e
  rw [List.length_replicate,← List.append_assoc,Nat.zero_add,List.toList_toArray,e]
  exact hR0.row _
 have hx3:=below_setRow hx2 (Nat.le_refl y.heap.size) ((((ng x 0 n).map (Value.int .i64)).toArray.toList.take 0++(List.replicate cn (Value.int .i64 x)++((ng x 0 n).map (Value.int .i64)).toArray.toList.drop (0+(List.replicate cn (Value.int .i64 x)).length))).toArray)
 generalize W2.setRow y.heap.size _=W3 at hR3 hx3 ⊢
 replace hx3:Ext y W3:=hx3
 rw [List.length_replicate]
 clear hR0 hx2 hd hmk
 go_wp2
 go_loopw [8] (fun c wr=>∃k:Nat,c=.int .i64 k∧k≤n∧(n=0∨1≤k)∧mv wr y.heap.size (ng x k n)∧Ext y wr) (fun c _=>n - (intOf c).toNat)
 case atStart=>exact ⟨cn,rfl,hcn2,by omega,hR3,hx3⟩
 case round=>
  obtain ⟨k,rfl,hk0,hk1,hrow,hx⟩:=hrel
  clear hR3 hx3
  by_cases hlt:k<n
  ·obtain ⟨c,hc⟩:∃c,Nat.min k (n - k)=c:=⟨_,rfl⟩
   have hc1:c≤k:=by rw [← hc];exact Nat.min_le_left _ _
   have hc2:c≤n - k:=by rw [← hc];exact Nat.min_le_right _ _
   have hc3:1≤c:=by rw [← hc];exact Nat.le_min.2 ⟨by omega,by omega⟩
   have HC:=Lib.hid hc
   clear hc
   have hlen:=Ca x k n hk0
   have hnk:¬n=k:=by omega
   have j0:(0:Int)≤(k:Int):=by omega
   have j1:(k:Int)≤(n:Int):=by omega
   have j2:(k:Int)<(n:Int):=by omega
   have j3:=IntWalk.i64_in ((k:Int)+(c:Int)) (by omega)
   go_upto_region 9 with fail
   refine wp_region_held_drew (S:=(fun w'=>Ext y w')) (by kernel_rfl) ?_ (fun hHeld=>?_)
   ·exact hx.drew
   refine tkP 0 ?_ ?_ ?_;rotate_left;focus (intro w;go_simp;try with_reducible rfl)
   try simp only [Act.put,aO]
   refine tkP 1 ?_ ?_ ?_;rotate_left;focus (intro w;go_simp;try with_reducible rfl)
   try simp only [Act.put,aO]
   refine tkP 2 ?_ ?_ ?_;rotate_left;focus (intro w;go_simp;try with_reducible rfl)
   try simp only [Act.put,aO]
   refine tkP 3 ?_ ?_ ?_;rotate_left;focus (intro w;go_simp;try with_reducible rfl)
   try simp only [Act.put,aO]
   refine tkP 4 ?_ ?_ ?_;rotate_left;focus (intro w;go_simp;try with_reducible rfl)
   try simp only [Act.put,aO]
   refine tkP 5 ?_ ?_ ?_;rotate_left;focus (intro w;go_simp;try with_reducible rfl)
   try simp only [Act.put,aO]
   refine tkP 6 ?_ ?_ ?_;rotate_left;focus (intro w;go_simp;try with_reducible rfl)
   try simp only [Act.put,aO]
   refine wpAnyH_ready (rs:=[7]) (by kernel_rfl) (by simp) ?_
   refine AllReadyH.cons rfl (fun K hK=>?_) AllReadyH.nil
   (refine px rfl (.tmp 41) (.tmp 44) 25 25 rfl 3 Tryz.underlying25 Ec y.heap.size k (n - k) (n - k) ⟨y.heap.size,0,none⟩ k n (by first|rfl|exact congrArg (fun q=>Value.slice q (n - k) (n - k)) (if_neg hnk)) rfl _ _ hrow.drew (List.replicate c (.int .i64 x)) (by rw [List.length_replicate];exact HC.out.symm) (FT (k:=k) hrow.drew (by omega) (fun j hj h=>ER x k n j hj (by omega))) (by rw [List.length_replicate];simp [ng];omega) (fun v hv=>by rw [List.eq_of_mem_replicate hv];rfl) ?_;rw [List.length_replicate,List.toList_toArray,rW x k c n (by omega)];have hR4:=hrow.drew.row (ng x (k+c) n);have hx4:Ext y _:=below_setRow hx.drew (Nat.le_refl y.heap.size) (((ng x (k+c) n).map (Value.int .i64)).toArray))
   show K _ _
   refine hK.out _ _ (by exact hx4) (fun hHeld=>?_)
   clear hK K
   try simp only [Act.put,aO]
   refine tkP 8 ?_ ?_ ?_;rotate_left;focus (intro w;go_simp;try with_reducible rfl)
   try simp only [Act.put,aO]
   refine tkP 9 ?_ ?_ ?_;rotate_left;focus (intro w;go_simp;try with_reducible rfl)
   try simp only [Act.put,aO]
   refine wpAnyH_done (by kernel_rfl) ?_ _
   go_wp2
   go_roundw
   case rel=>exact ⟨k+c,rfl,by omega,by omega,hR4,hx4⟩
   all_goals (simp only [intOf];omega)
  ·have e:k=n:=by omega
   have HE:=Lib.hid (show ng x k n=List.replicate n x by rw [e,DL])
   clear e
   go_wp2
   go_ret
   exact ⟨_,rfl,Nat.le_refl _,by rw [← HE.out];exact hrow,hx⟩
end Go.Proofs.YtacafmejcdgboaaGreatDoor
namespace Go.Proofs.YtacafmejcdgboaaGreatDoor
open Go.RowKit
set_option linter.unusedVariables false
set_option linter.unusedSimpArgs false
theorem wY:∀x:List UInt8,Op.bytesLess x x=false:=by
 intro x
 induction x with
 | nil=>rfl
 | cons a x ih=>simp [Op.bytesLess,ih]
theorem mC:∀x y z:List UInt8,Op.bytesLess x y=true→Op.bytesLess y z=true→Op.bytesLess x z=true:=by
 intro x
 induction x with
 | nil=>
  intro y z h1 h2
  cases y <;> cases z <;> simp_all [Op.bytesLess]
 | cons a x ih=>
  intro y z h1 h2
  cases y with
  | nil=>simp [Op.bytesLess] at h1
  | cons b y=>
   cases z with
   | nil=>simp [Op.bytesLess] at h2
   | cons c z=>
    simp only [Op.bytesLess,Bool.or_eq_true,Bool.and_eq_true,decide_eq_true_eq,beq_iff_eq] at h1 h2 ⊢
    rcases h1 with h1|⟨h1,h3⟩
    ·rcases h2 with h2|⟨h2,h4⟩
     ·exact .inl (UInt8.lt_trans h1 h2)
     ·subst h2;exact .inl h1
    ·subst h1
     rcases h2 with h2|⟨h2,h4⟩
     ·exact .inl h2
     ·exact .inr ⟨h2,ih _ _ h3 h4⟩
def NLt (a b:ByteArray):Prop:=cQ a b=true
theorem NLt.irr (a:ByteArray):¬NLt a a:=fun h=>by
 unfold NLt cQ at h
 rw [wY] at h
 cases h
theorem NLt.trans (a b c:ByteArray) (h1:NLt a b) (h2:NLt b c):NLt a c:=mC _ _ _ h1 h2
theorem vi {α:Type} {lt:α→α→Prop} (tr:∀x y z,lt x y→lt y z→lt x z) (l:List α) (h:∀i (hi:i+1<l.length),lt (l[i]'(by omega)) l[i+1]):l.Pairwise lt:=by
 rw [List.pairwise_iff_getElem]
 intro i j hi hj hij
 obtain ⟨d,rfl⟩:∃d,j=i+1+d:=⟨j - (i+1),by omega⟩
 clear hij
 induction d with
 | zero=>exact h i hj
 | succ d ih=>exact tr _ _ _ (ih (by omega)) (h (i+1+d) (by omega))
theorem tb {l:List ByteArray} (h:dj l=true):l.Pairwise NLt:=by
 refine vi NLt.trans l (fun i hi=>?_)
 unfold dj at h
 have h2:=(aG _ _).1 (Bool.and_eq_true_iff.1 h).1 (i+1) hi
 rw [rx l (i+1) hi] at h2
 simp only [Bool.and_eq_true,Bool.or_eq_true,decide_eq_true_eq] at h2
 have h3:=h2.2.resolve_left (by omega)
 rw [Nat.add_sub_cancel,List.getD_eq_getElem?_getD,List.getElem?_eq_getElem (by omega),Option.getD_some] at h3
 exact h3
theorem fU {a b:ByteArray} (h:a.toList=b.toList):a=b:=by
 rw [ByteArray.toList_eq,ByteArray.toList_eq] at h
 cases a;cases b;simp_all [Array.ext_iff]
theorem NLt.total {a b:ByteArray} (h:a≠b):NLt a b∨NLt b a:=by
 have:=jH a.toList b.toList
 unfold NLt cQ
 by_cases h1:Op.bytesLess b.toList a.toList=true
 ·exact .inr h1
 ·rw [Bool.not_eq_true] at h1
  rw [h1] at this
  simp only [Bool.not_false,Bool.or_eq_true,beq_iff_eq] at this
  exact .inl (this.resolve_right (fun e=>h (fU e)))
def gv {α:Type} (lt:α→α→Bool):List α→α→List α
 | [],x=>[x]
 | y :: t,x=>if lt y x then y :: gv lt t x else x :: y :: t
theorem xj {α:Type} (lt:α→α→Bool) (x:α):∀(l:List α) (k:Nat),k≤l.length→(∀i (h:i<l.length),i<k→lt l[i] x=true)→(∀h:k<l.length,lt l[k] x=false)→gv lt l x=l.take k++x :: l.drop k:=by
 intro l
 induction l with
 | nil=>intro k hk _ _;simp at hk;subst hk;rfl
 | cons y t ih=>
  intro k hk h1 h2
  cases k with
  | zero=>
   have:=h2 (by simp)
   simp only [List.getElem_cons_zero] at this
   simp [gv,this]
  | succ k=>
   have h3:=h1 0 (by simp) (by omega)
   simp only [List.getElem_cons_zero] at h3
   simp only [gv,h3,if_true,List.take_succ_cons,List.drop_succ_cons,List.cons_append]
   rw [ih k (by simp at hk;omega) (fun i h hi=>by have:=h1 (i+1) (by simp;omega) (by omega);simpa using this) (fun h=>by have:=h2 (by simp;omega);simpa using this)]
theorem oE {α:Type} (lt:α→α→Bool) (x z:α):∀l:List α,z∈gv lt l x↔z=x∨z∈l:=by
 intro l
 induction l with
 | nil=>simp [gv]
 | cons y t ih=>
  unfold gv
  split
  ·rw [List.mem_cons,ih,List.mem_cons]
   constructor
   ·rintro (h|h|h) <;> simp [h]
   ·rintro (h|h|h) <;> simp [h]
  ·simp
theorem pg {α:Type} (lt:α→α→Bool) (x:α):∀l:List α,(gv lt l x).length=l.length+1:=by
 intro l
 induction l with
 | nil=>rfl
 | cons y t ih=>unfold gv;split <;> simp [ih]
theorem tJ {α:Type} {lt:α→α→Bool} (tr:∀x y z,lt x y=true→lt y z=true→lt x z=true) (x:α):∀l:List α,l.Pairwise (fun a b=>lt a b=true)→(∀y∈l,lt y x=true∨lt x y=true)→(gv lt l x).Pairwise (fun a b=>lt a b=true):=by
 intro l
 induction l with
 | nil=>intro _ _;simp [gv]
 | cons y t ih=>
  intro h ht
  rw [List.pairwise_cons] at h
  unfold gv
  by_cases hy:lt y x=true
  ·rw [if_pos hy,List.pairwise_cons]
   refine ⟨fun z hz=>?_,ih h.2 (fun z hz=>ht z (by simp [hz]))⟩
   rcases (oE lt x z t).1 hz with e|hz
   ·rw [e];exact hy
   ·exact h.1 z hz
  ·rw [if_neg hy,List.pairwise_cons,List.pairwise_cons]
   have hx:=(ht y (by simp)).resolve_left hy
   refine ⟨fun z hz=>?_,h⟩
   rcases List.mem_cons.1 hz with e|hz
   ·rw [e];exact hx
   ·exact tr _ _ _ hx (h.1 z hz)
def rI (l:List ByteArray) (s:ByteArray):List ByteArray:=if l.any (fun x=>x.toList == s.toList) then l else gv cQ l s
def cH (l:List ByteArray):List ByteArray:=l.foldl rI []
theorem FR (l:List ByteArray) (s:ByteArray) (h:l.Pairwise NLt):(rI l s).Pairwise NLt∧∀z,z∈rI l s↔z=s∨z∈l:=by
 unfold rI
 by_cases hs:l.any (fun x=>x.toList == s.toList)=true
 ·rw [if_pos hs]
  refine ⟨h,fun z=>⟨fun hz=>.inr hz,?_⟩⟩
  rintro (e|hz)
  ·obtain ⟨x,hx,e2⟩:=List.any_eq_true.1 hs
   rw [beq_iff_eq] at e2
   rw [e,← fU e2];exact hx
  ·exact hz
 ·rw [if_neg hs]
  refine ⟨tJ NLt.trans s l h (fun y hy=>NLt.total (fun e=>hs ?_)),fun z=>oE cQ s z l⟩
  exact List.any_eq_true.2 ⟨y,hy,by rw [e];simp⟩
theorem xa (l:List ByteArray):∀a:List ByteArray,a.Pairwise NLt→(l.foldl rI a).Pairwise NLt∧∀z,z∈l.foldl rI a↔z∈l∨z∈a:=by
 induction l with
 | nil=>intro a h;exact ⟨h,fun z=>by simp⟩
 | cons s l ih=>
  intro a h
  obtain ⟨h1,h2⟩:=FR a s h
  obtain ⟨h3,h4⟩:=ih _ h1
  refine ⟨h3,fun z=>?_⟩
  rw [List.foldl_cons,h4,h2,List.mem_cons]
  constructor
  ·rintro (h|h|h) <;> simp [h]
  ·rintro ((h|h)|h) <;> simp [h]
theorem sR (l:List ByteArray):(cH l).Pairwise NLt:=(xa l [] List.Pairwise.nil).1
theorem Ai (l:List ByteArray) (z:ByteArray):z∈cH l↔z∈l:=by
 have:=(xa l [] List.Pairwise.nil).2 z
 unfold cH;rw [this];simp
theorem wU {l s:List ByteArray} (h:s.Pairwise NLt) (hm:∀z,z∈s↔z∈l):cH l=s:=Ao NLt.irr NLt.trans _ _ (sR l) h (fun z=>by rw [Ai,hm])
theorem lU {l:List ByteArray} (h:l.Pairwise NLt):cH l=l:=wU h (fun _=>Iff.rfl)
end Go.Proofs.YtacafmejcdgboaaGreatDoor
namespace Go.Proofs.YtacafmejcdgboaaGreatDoor
open Go.RowKit
set_option linter.unusedVariables false
set_option linter.unusedSimpArgs false
def jx (l:List ByteArray) (s:ByteArray):Int:=if l.any (fun x=>x.toList == s.toList) then (l.findIdx (fun x=>x.toList == s.toList):Int) else -1
def wLt (x y:Wr):Bool:=cQ x.name y.name
def bR (a b:List Wr):List Wr:=b.foldl (gv wLt) a
def iy (a b:List ByteArray):Bool:=a.all fun s=>!b.any fun x=>x.toList == s.toList
def idB (names:List ByteArray):Big:=⟨0,[],[],0,names,names.mapIdx fun i s=>⟨s,i⟩⟩
def fN:Big:=⟨0,[],[],0,[],[]⟩
def mU (i:Nat):ByteArray:=⟨#[122,UInt8.ofNat (97+i)]⟩
def lm (outer:List ByteArray) (i:Nat):Bool:=!outer.any (fun x=>x.toList == (mU i).toList)
def bJ (outer:List ByteArray) (n:Nat):List ByteArray:=(((List.range 26).filter (lm outer)).map mU).take n
def kS (r:Big) (ns:List Int) (p:Int):Int:=atI (cD r (dc ns p)) 0
end Go.Proofs.YtacafmejcdgboaaGreatDoor
namespace Go.Proofs.YtacafmejcdgboaaGreatDoor
open Go.RowKit
set_option linter.unusedVariables false
set_option linter.unusedSimpArgs false
def eN (a:Int) (n:Nat):List Int:=(List.range n).map fun (i:Nat)=>a+i
def cV (a:Int) (n:Nat):List Int:=(List.range n).map fun (i:Nat)=>-1 - a - i
theorem yE (a:Int) (n:Nat):eN a (n+1)=eN a n++[a+n]:=by unfold eN;rw [List.range_succ,List.map_append];rfl
theorem yr (a:Int) (n:Nat):cV a (n+1)=cV a n++[-1 - a - n]:=by unfold cV;rw [List.range_succ,List.map_append];rfl
theorem eF (a:Int) (n:Nat):(eN a n).length=n:=by unfold eN;simp
theorem ly (a:Int) (n:Nat):(cV a n).length=n:=by unfold cV;simp
theorem un (n:Int):∀(l:List Int) (i:Nat) (h:i<l.length),l[i]=n→(l.take i).any (fun x=>n == x)=false→dc l n=(i:Int):=by
 intro l i h e hno
 unfold dc
 rw [if_pos (cM.2 (by rw [← e];exact List.getElem_mem h))]
 congr 1
 have hsp:l=l.take i++n :: l.drop (i+1):=by rw [← e,List.getElem_cons_drop,List.take_append_drop]
 have hnm:n ∉ l.take i:=fun hm=>by
  have:=List.any_eq_false.1 hno n hm
  simp at this
 rw [hsp,List.idxOf_append,if_neg hnm,List.idxOf_cons_self,List.length_take]
 omega
attribute [local irreducible] inR kb aF dP gV eN cV dc jx
end Go.Proofs.YtacafmejcdgboaaGreatDoor
namespace Go.Proofs.YtacafmejcdgboaaGreatDoor
open Go.RowKit
set_option linter.unusedVariables false
set_option linter.unusedSimpArgs false
theorem na (l:List ByteArray) (s:ByteArray) : -1≤jx l s∧jx l s<(l.length:Int)+1:=by
 unfold jx
 split
 ·have:=List.findIdx_le_length (p:=fun x:ByteArray=>x.toList == s.toList) (xs:=l)
  omega
 ·omega
theorem qR (l:List ByteArray) (s:ByteArray):decide (0≤jx l s)=l.any (fun x=>x.toList == s.toList):=by
 unfold jx
 by_cases h:l.any (fun x=>x.toList == s.toList)=true
 ·rw [if_pos h,h];simp
 ·rw [if_neg h];rw [Bool.not_eq_true] at h;rw [h];rfl
def dx (names:List ByteArray) (edges:Int) (outer:List ByteArray):List Int:=names.map fun s=>edges+jx outer s
theorem vC {names:List ByteArray} (edges:Int) (outer:List ByteArray) (i:Nat) (h:i<names.length):dx (names.take (i+1)) edges outer=dx (names.take i) edges outer++[edges+jx outer names[i]]:=by
 unfold dx;rw [List.take_succ_eq_append_getElem h,List.map_append];rfl
def upF (by':Int) (ps:List Int) (p:Int):Int:=if p<0 then atI ps (-1 - p) else p+by'
def dv (by':Int) (ps sites:List Int):List Int:=sites.map (upF by' ps)
def Ek (by':Int) (ps:List Int) (p:Int):Prop:=(p<0∧-1 - p<(ps.length:Int))∨(0≤p∧p≤1000)
attribute [local irreducible] jx dx dv
end Go.Proofs.YtacafmejcdgboaaGreatDoor
namespace Go.Proofs.YtacafmejcdgboaaGreatDoor
open Go.RowKit
set_option linter.unusedVariables false
set_option linter.unusedSimpArgs false
def dw (ps:List Int) (l:List Wr):List Wr:=l.map fun w=>⟨w.name,atI ps w.link⟩
theorem ux (ps:List Int) {l:List Wr} (i:Nat) (h:i<l.length):dw ps (l.take (i+1))=dw ps (l.take i)++[⟨(l[i]).name,atI ps (l[i]).link⟩]:=by
 unfold dw;rw [List.take_succ_eq_append_getElem h,List.map_append];rfl
attribute [local irreducible] dw
def ez (ks l:List Int):List Int:=l.map (atI ks)
theorem oU (ks:List Int) {l:List Int} (j:Nat) (h:j<l.length):ez ks (l.take (j+1))=ez ks (l.take j)++[atI ks l[j]]:=by
 unfold ez;rw [List.take_succ_eq_append_getElem h,List.map_append];rfl
def cS (by':Int) (ps ks:List Int) (l:List Nd):List Nd:=l.map fun n=>⟨n.control,upF by' ps n.parent,ez ks n.links⟩
theorem uf (by':Int) (ps ks:List Int) {l:List Nd} (i:Nat) (h:i<l.length):cS by' ps ks (l.take (i+1))=cS by' ps ks (l.take i)++[⟨(l[i]).control,upF by' ps (l[i]).parent,ez ks (l[i]).links⟩]:=by
 unfold cS;rw [List.take_succ_eq_append_getElem h,List.map_append];rfl
attribute [local irreducible] cS ez
end Go.Proofs.YtacafmejcdgboaaGreatDoor
namespace Go.Proofs.YtacafmejcdgboaaGreatDoor
open Go.RowKit
set_option linter.unusedVariables false
set_option linter.unusedSimpArgs false
def y7 (b:Big):Nat→Int→Int
 | 0,p=>p
 | f+1,p=>if p<0 then p else y7 b f (dR b p).parent
def Ak (b:Big) (p:Int):Int:=y7 b (p.toNat+1) p
theorem Ee {sig:List Ctl} {b:Big} (h:aF sig b=true) (i:Nat) (hi:i<b.nodes.length) : -b.roots≤(b.nodes[i]).parent∧(b.nodes[i]).parent<i:=iI h i hi
theorem Dr {sig:List Ctl} {b:Big} (h:aF sig b=true):∀(f g:Nat) (p:Int),p<b.nodes.length→p.toNat<f→p.toNat<g→y7 b f p=y7 b g p:=by
 intro f
 induction f with
 | zero=>intro g p _ hf;omega
 | succ f ih=>
  intro g p hp hf hg
  cases g with
  | zero=>omega
  | succ g=>
   unfold y7
   by_cases hn:p<0
   ·rw [if_pos hn,if_pos hn]
   ·rw [if_neg hn,if_neg hn]
    obtain ⟨n,rfl⟩:=Int.eq_ofNat_of_zero_le (show 0≤p by omega)
    have hl:n<b.nodes.length:=by omega
    have:=Ee h n hl
    rw [aD b n hl]
    by_cases hq:(b.nodes[n]).parent<0
    ·cases f with
     | zero=>
      cases g with
      | zero=>rfl
      | succ g=>simp only [y7];rw [if_pos hq]
     | succ f=>
      cases g with
      | zero=>simp only [y7];rw [if_pos hq]
      | succ g=>simp only [y7];rw [if_pos hq,if_pos hq]
    ·exact ih g _ (by omega) (by omega) (by omega)
theorem nJ (b:Big) {p:Int} (h:p<0):Ak b p=p:=by
 unfold Ak y7;rw [if_pos h]
theorem pi {sig:List Ctl} {b:Big} (h:aF sig b=true) (n:Nat) (hn:n<b.nodes.length):Ak b (n:Int)=Ak b (b.nodes[n]).parent:=by
 have hp:=Ee h n hn
 have e:Ak b (n:Int)=y7 b n (b.nodes[n]).parent:=by
  unfold Ak
  rw [show ((n:Int).toNat+1)=n+1 by omega,y7,if_neg (by omega),aD b n hn]
 rw [e]
 by_cases hq:(b.nodes[n]).parent<0
 ·rw [nJ b hq]
  cases n with
  | zero=>rfl
  | succ n=>rw [y7,if_pos hq]
 ·exact Dr h _ _ _ (by omega) (by omega) (by omega)
def iJ (b:Big) (r:Int) (i:Nat):Bool:=match b.nodes[i]? with|none=>false|some n=>decide (Ak b n.parent=r)
theorem oB (b:Big) (r:Int) (i:Nat) (h:i<b.nodes.length):iJ b r i=decide (Ak b (b.nodes[i]).parent=r):=by unfold iJ;rw [List.getElem?_eq_getElem h]
def pr (b:Big) (r:Int):List Int:=idxOf (iJ b r) b.nodes.length
end Go.Proofs.YtacafmejcdgboaaGreatDoor
namespace Go.Proofs.YtacafmejcdgboaaGreatDoor
open Go.RowKit
set_option linter.unusedVariables false
set_option linter.unusedSimpArgs false
theorem xI (sig:List Ctl) (b:Big) (i:Nat) (h:i<b.nodes.length):fR sig b i=(inR (b.nodes[i]).control 0 ((sig.length:Int) - 1) && (di sig b (b.nodes[i]).parent i && (decide (((b.nodes[i]).links.length:Int)=(rJ sig (b.nodes[i]).control).ports) && (b.nodes[i]).links.all (eq b)))):=by
 unfold fR;rw [List.getElem?_eq_getElem h]
theorem kc {α:Type} (p:α→Bool) (xs:List α) (i:Nat) (h:xs.length≤i) (hp:(xs.take i).all p=true):xs.all p=true:=by rwa [List.take_of_length_le h] at hp
theorem u9 {sig:List Ctl} {b:Big} (h:b.sites.all (gx sig b)=false):aF sig b=false:=by unfold aF;rw [h];simp
theorem vv {sig:List Ctl} {b:Big} (h:b.inner.all (gG b)=false):aF sig b=false:=by unfold aF;rw [h];simp
theorem Dl {sig:List Ctl} {b:Big} (a:jf sig b=true) (c:(List.range b.nodes.length).all (fR sig b)=true) (d:b.sites.all (gx sig b)=true) (e:b.inner.all (gG b)=true):aF sig b=true:=by unfold aF;rw [a,c,d,e];rfl
theorem AE (sig:List Ctl) (b:Big) (p:Int):gx sig b p=di sig b p b.nodes.length:=rfl
theorem An (b:Big) (x:Wr):gG b x=eq b x.link:=rfl
attribute [local irreducible] inR dp cQ kV dj di eq gx gG rJ
end Go.Proofs.YtacafmejcdgboaaGreatDoor
namespace Go.Proofs.YtacafmejcdgboaaGreatDoor
open Go.RowKit
set_option linter.unusedVariables false
set_option linter.unusedSimpArgs false
def fS (sig:List Ctl) (b:Big):Bool:=aF sig b && (decide (b.sites.length=0) && decide (b.inner.length=0))
attribute [local irreducible] inR dp cQ kV dj di eq gx gG rJ fR
end Go.Proofs.YtacafmejcdgboaaGreatDoor
namespace Go.Proofs.YtacafmejcdgboaaGreatDoor
open Go.RowKit
set_option linter.unusedVariables false
set_option linter.unusedSimpArgs false
attribute [local irreducible] inR dp cQ kV dj di eq gx gG rJ
set_option maxRecDepth 100000 in
set_option maxHeartbeats 6400000 in
theorem ju (lo hi lo' hi':Nat) (v:Value) (sig:List Ctl) (cs:List Value) (b:Big) (w:World) (h:vN lo hi w v sig) (hb:gT lo' hi' w cs b) (hlen:b.inner.length≤1048576) :
 Calls Tryz.prog 104 #[v,.agg cs.toArray] w fun e w'=>e=.returned (.bool (aF sig b))∧Ext w w':=by
 have hV:=h
 have hB:=hb
 obtain ⟨a,k,rfl,m1,m2,m3,m4⟩:=h
 obtain ⟨v1,v2,v4,v5,rfl,r1,r2,hN,hS,hO,hI⟩:=hb
 obtain ⟨a1,k1,rfl,g1,g2,g3,g4⟩:=hN
 obtain ⟨a2,k2,rfl,n1,n2,n3,_⟩:=id hS
 obtain ⟨a4,k4,rfl,o1,o2,o3,_⟩:=id hO
 obtain ⟨a5,k5,rfl,l1,l2,l3,_⟩:=id hI
 unfold maxLen at g2 m2 n2 o2 l2
 obtain ⟨W0,hW0,hbx0,hx0,hz0⟩:=dX w [.slice a sig.length k] 39
 obtain ⟨W1,hW1,hbx1,hx1,hz1⟩:=dX W0 [.int .i64 b.roots,.slice a1 b.nodes.length k1,.slice a2 b.sites.length k2,.int .i64 b.edges,.slice a4 b.outer.length k4,.slice a5 b.inner.length k5] 46
 have ps:=hx1.keep (hbx0 0 _ rfl).1
 have hbb:∀j u,([.int .i64 b.roots,.slice a1 b.nodes.length k1,.slice a2 b.sites.length k2,.int .i64 b.edges,.slice a4 b.outer.length k4,.slice a5 b.inner.length k5]:List Value)[j]? = some u→W1.cell? ⟨W0.heap.size,j,none⟩=some u:=fun j u hj=>(hbx1 j u hj).1
 have p0:=hbb 0 _ rfl
 have p1:=hbb 1 _ rfl
 have p2:=hbb 2 _ rfl
 have p3:=hbb 3 _ rfl
 have p4:=hbb 4 _ rfl
 have p5:=hbb 5 _ rfl
 have hzz:w.heap.size<W0.heap.size:=by omega
 clear hz0 hz1 hbx0 hbx1
 have hx01:=hx0.trans hx1
 replace hV:=hV.ext jF.keeps hx01
 replace hB:=gT.keeps _ _ _ _ _ _ (fb.ext hx01) hB
 replace hS:=hS.ext fg.keeps hx01
 replace hO:=hO.ext m8.keeps hx01
 replace hI:=hI.ext WrP.keeps hx01
 have HBB:=Lib.hid hbb
 clear hbb
 go_enter Tryz.func104,Tryz.ntmps104
 have Hr:=Lib.hid trivial
 have hn:True:=trivial
 have hs:True:=trivial
 have He:=Lib.hid trivial
 have Ho:=Lib.hid trivial
 have Hi:=Lib.hid trivial
 cases ha:kV sig
 have Ha:=Lib.hid ha;clear ha
 have isF:=trivial
 rotate_left
 have Ha:=Lib.hid ha;clear ha
 have hsl:=DJ Ha.out
 cases hr:inR b.roots 0 4
 have Hr:=Lib.hid hr;clear hr
 have isF:=trivial
 rotate_left
 have Hr:=Lib.hid hr;clear hr
 by_cases hn:8<b.nodes.length
 have en:decide (8<b.nodes.length)=true:=decide_eq_true hn
 have isF:=trivial
 rotate_left
 have en:decide (8<b.nodes.length)=false:=decide_eq_false hn
 by_cases hs:4<b.sites.length
 have es:decide (4<b.sites.length)=true:=decide_eq_true hs
 have isF:=trivial
 rotate_left
 have es:decide (4<b.sites.length)=false:=decide_eq_false hs
 cases he:inR b.edges 0 8
 have He:=Lib.hid he;clear he
 have isF:=trivial
 rotate_left
 have He:=Lib.hid he;clear he
 cases ho:dj b.outer
 have Ho:=Lib.hid ho;clear ho
 have isF:=trivial
 rotate_left
 have Ho:=Lib.hid ho;clear ho
 cases hi:dj (b.inner.map Wr.name)
 have Hi:=Lib.hid hi;clear hi
 have isF:=trivial
 rotate_left
 have Hi:=Lib.hid hi;clear hi
 all_goals go_wp2_with (first|(go_at_call 168;(refine (ki _ _ _ _ _ hIN).mono ?_);rintro e y ⟨rfl,hb⟩;rw [Hi.out];replace ps:=Ext.keep hb ps;replace p0:=Ext.keep hb p0;replace p1:=Ext.keep hb p1;replace p2:=Ext.keep hb p2;replace p3:=Ext.keep hb p3;replace p4:=Ext.keep hb p4;replace p5:=Ext.keep hb p5;replace hV:=hV.ext jF.keeps hb;replace hB:=gT.keeps _ _ _ _ _ _ (fb.ext hb) hB;replace hS:=hS.ext fg.keeps hb;replace hO:=hO.ext m8.keeps hb;replace hI:=hI.ext WrP.keeps hb)|(go_at_call 168;(refine (ki lo' hi' _ _ _ hO).mono ?_);rintro e y ⟨rfl,hb⟩;rw [Ho.out];replace ps:=Ext.keep hb ps;replace p0:=Ext.keep hb p0;replace p1:=Ext.keep hb p1;replace p2:=Ext.keep hb p2;replace p3:=Ext.keep hb p3;replace p4:=Ext.keep hb p4;replace p5:=Ext.keep hb p5;replace hV:=hV.ext jF.keeps hb;replace hB:=gT.keeps _ _ _ _ _ _ (fb.ext hb) hB;replace hS:=hS.ext fg.keeps hb;replace hO:=hO.ext m8.keeps hb;replace hI:=hI.ext WrP.keeps hb)|(go_at_call 100;(refine (bt _ _ _ _).mono ?_);rintro e y ⟨rfl,rfl⟩;rw [He.out])|(go_at_call 100;(refine (bt _ _ _ _).mono ?_);rintro e y ⟨rfl,rfl⟩;rw [Hr.out])|(go_at_call 167;(refine (ml lo hi _ _ _ hV).mono ?_);rintro e y ⟨rfl,hb⟩;rw [Ha.out];replace ps:=Ext.keep hb ps;replace p0:=Ext.keep hb p0;replace p1:=Ext.keep hb p1;replace p2:=Ext.keep hb p2;replace p3:=Ext.keep hb p3;replace p4:=Ext.keep hb p4;replace p5:=Ext.keep hb p5;replace hV:=hV.ext jF.keeps hb;replace hB:=gT.keeps _ _ _ _ _ _ (fb.ext hb) hB;replace hS:=hS.ext fg.keeps hb;replace hO:=hO.ext m8.keeps hb;replace hI:=hI.ext WrP.keeps hb)|(go_at_call 169;refine (iL lo' hi' [.int .i64 b.roots,.slice a1 b.nodes.length k1,.slice a2 b.sites.length k2,.int .i64 b.edges,.slice a4 b.outer.length k4,.slice a5 b.inner.length k5] b _ hB hlen).mono ?_;rintro e y ⟨v9,rfl,hIN,hb⟩;replace ps:=Ext.keep hb ps;replace p0:=Ext.keep hb p0;replace p1:=Ext.keep hb p1;replace p2:=Ext.keep hb p2;replace p3:=Ext.keep hb p3;replace p4:=Ext.keep hb p4;replace p5:=Ext.keep hb p5;replace hV:=hV.ext jF.keeps hb;replace hB:=gT.keeps _ _ _ _ _ _ (fb.ext hb) hB;replace hS:=hS.ext fg.keeps hb;replace hO:=hO.ext m8.keeps hb;replace hI:=hI.ext WrP.keeps hb))
 all_goals first|(have:=isF;go_ret;exact ⟨aP (dy (by unfold jf;simp [Ha.out,Hr.out,hn,hs,He.out,Ho.out,Hi.out];try omega)).symm,xw⟩)|skip
 have HH:=Lib.hid (show jf sig b=true by unfold jf;rw [Ha.out,Hr.out,He.out,Ho.out,Hi.out];simp;omega)
 clear hIN
 obtain ⟨_,hr,_,_,he,hno,_⟩:=eU HH.out
 have HR:=Lib.hid hr
 have HE:=Lib.hid he
 have hol:b.outer.length≤1000:=by have:=fV hno;omega
 clear hr he hno
 have eg1:∀args w,(callFunc 171 args).run Tryz.prog w=.ok (.enter 171 args) w:=enters_of Tryz.func171 (by kernel_rfl) rfl
 have eg2:∀args w,(callFunc 173 args).run Tryz.prog w=.ok (.enter 173 args) w:=enters_of Tryz.func173 (by kernel_rfl) rfl
 have eg3:∀args w,(callFunc 175 args).run Tryz.prog w=.ok (.enter 175 args) w:=enters_of Tryz.func175 (by kernel_rfl) rfl
 have hY1:Ext W1 y:=xw
 go_loopw [49] (fun c wr=>∃i:Nat,c=.int .i64 i∧i≤b.nodes.length∧(List.range i).all (fR sig b)=true∧Ext y wr) (fun c _=>b.nodes.length - (intOf c).toNat)
 case atStart=>exact ⟨0,rfl,Nat.zero_le _,rfl,Ext.refl _⟩
 case round=>
  obtain ⟨i,rfl,hi0,hok,hx⟩:=hrel
  have HOK:=Lib.hid hok
  clear hok
  have hX1:Ext W1 wr:=hY1.trans hx
  have hX:Ext w wr:=hx01.trans hX1
  replace ps:=hx.keep ps
  replace p0:=hx.keep p0
  replace p1:=hx.keep p1
  replace p2:=hx.keep p2
  replace p3:=hx.keep p3
  replace p4:=hx.keep p4
  replace p5:=hx.keep p5
  replace hV:=hV.ext jF.keeps hx
  replace hB:=gT.keeps _ _ _ _ _ _ (fb.ext hx) hB
  by_cases hlt:i<b.nodes.length
  ·have hbad:=pd (sig:=sig) i hlt
   have HA:=Lib.hid (mc sig b i hlt)
   have HS:=Lib.hid (cW (fR sig b) i)
   have hC:=nM HOK.out
   have HSG:=Lib.hid (jb sig)
   rcases g4 with g4|⟨b1,o1,rfl,gb1,gb2,g4⟩
   ·rw [g4] at hlt;simp at hlt
   obtain ⟨cs,hl,hnp,hc⟩:=g4 i hlt
   generalize hnd:b.nodes[i]=nd at hnp HA
   obtain ⟨nc,np,nl⟩:=nd
   obtain ⟨nv,rfl,e1,e2,e3⟩:=hnp
   have q0:=hX.keep (hc 0 _ rfl)
   have q1:=hX.keep (hc 1 _ rfl)
   have q2:=hX.keep (hc 2 _ rfl)
   rw [Nat.add_zero] at q0
   have hLV:=e3.ext fg.keeps hX
   obtain ⟨la,lk,rfl,y1,y2,y3,_⟩:=e3
   dsimp only at *
   unfold maxLen at y2
   clear hc g4 hnd
   unfold I64 at e1
   have hsw:=IntWalk.i64_in ((sig.length:Int) - 1) (by omega)
   cases hc:inR nc 0 ((sig.length:Int) - 1)
   ·have Hc:=Lib.hid hc
    clear hc
    have HB:=Lib.hid (hbad (by rw [HA.out];first|(rw [HK.out];simp [Hc.out];done)|simp [Hc.out]))
    clear hbad
    go_wp2_with fail
    refine wp_region_held_drew (S:=(fun w'=>dF w' wr.heap.size [.int .i64 nc,.int .i64 np,.slice la nl.length lk]∧Ext wr w')) (by kernel_rfl) ?_ (fun hHeld=>?_)
    ·(refine ⟨?_,xw⟩;all_goals (intro j u hj;rcases j with _|_|_|_|_|_|_|_|j <;> simp at hj <;> (subst hj;simp)))
    refine tkP 0 ?_ ?_ ?_;rotate_left;focus (intro w;go_simp;try with_reducible rfl)
    try simp only [Act.put,aO]
    refine tkY 1 ?_ ?_ ?_;rotate_left;focus (intro w hSw;(try dsimp only at hSw);obtain ⟨bx0,sx⟩:=hSw;have c0_0:=(bx0 0 _ rfl).1;have c0_1:=(bx0 1 _ rfl).1;have c0_2:=(bx0 2 _ rfl).1;have s_ps:=Ext.keep sx ps;have s_p0:=Ext.keep sx p0;have s_p1:=Ext.keep sx p1;have s_p2:=Ext.keep sx p2;have s_p3:=Ext.keep sx p3;have s_p4:=Ext.keep sx p4;have s_p5:=Ext.keep sx p5;(try have s_s1:=Ext.keep sx s1);go_simp;try with_reducible rfl)
    try simp only [Act.put,aO]
    refine tkY 2 ?_ ?_ ?_;rotate_left;focus (intro w hSw;(try dsimp only at hSw);obtain ⟨bx0,sx⟩:=hSw;have c0_0:=(bx0 0 _ rfl).1;have c0_1:=(bx0 1 _ rfl).1;have c0_2:=(bx0 2 _ rfl).1;have s_ps:=Ext.keep sx ps;have s_p0:=Ext.keep sx p0;have s_p1:=Ext.keep sx p1;have s_p2:=Ext.keep sx p2;have s_p3:=Ext.keep sx p3;have s_p4:=Ext.keep sx p4;have s_p5:=Ext.keep sx p5;(try have s_s1:=Ext.keep sx s1);go_simp;try with_reducible rfl)
    try simp only [Act.put,aO]
    refine tkP 3 ?_ ?_ ?_;rotate_left;focus (intro w;go_simp;try with_reducible rfl)
    try simp only [Act.put,aO]
    refine tkP 4 ?_ ?_ ?_;rotate_left;focus (intro w;go_simp;try with_reducible rfl)
    try simp only [Act.put,aO]
    refine wpAnyH_ready (rs:=[5]) (by kernel_rfl) (by simp) ?_
    refine AllReadyH.cons rfl (fun K hK=>?_) AllReadyH.nil
    (try simp only [aO])
    go_simp
    (go_at_call 100;(refine (bt _ _ _ _).mono ?_);rintro e y ⟨rfl,rfl⟩;rw [Hc.out])
    show K _ _
    refine hK.out _ _ (by exact hHeld) (fun hHeld=>?_)
    clear hK K
    try simp only [Act.put,aO]
    refine tkP 6 ?_ ?_ ?_;rotate_left;focus (intro w;go_simp;try with_reducible rfl)
    try simp only [Act.put,aO]
    refine tkP 7 ?_ ?_ ?_;rotate_left;focus (intro w;go_simp;try with_reducible rfl)
    try simp only [Act.put,aO]
    refine tkN 8 ?_
    try simp only [Act.put,aO]
    refine tkN 9 ?_
    try simp only [Act.put,aO]
    refine tkN 10 ?_
    try simp only [Act.put,aO]
    refine tkN 11 ?_
    try simp only [Act.put,aO]
    refine tkN 12 ?_
    try simp only [Act.put,aO]
    refine tkN 13 ?_
    try simp only [Act.put,aO]
    refine tkN 14 ?_
    try simp only [Act.put,aO]
    refine tkP 15 ?_ ?_ ?_;rotate_left;focus (intro w;go_simp;try with_reducible rfl)
    try simp only [Act.put,aO]
    refine tkP 16 ?_ ?_ ?_;rotate_left;focus (intro w;go_simp;try with_reducible rfl)
    try simp only [Act.put,aO]
    refine tkN 17 ?_
    try simp only [Act.put,aO]
    refine tkN 18 ?_
    try simp only [Act.put,aO]
    refine tkN 19 ?_
    try simp only [Act.put,aO]
    refine tkN 20 ?_
    try simp only [Act.put,aO]
    refine tkN 21 ?_
    try simp only [Act.put,aO]
    refine tkN 22 ?_
    try simp only [Act.put,aO]
    refine tkN 23 ?_
    try simp only [Act.put,aO]
    refine tkN 24 ?_
    try simp only [Act.put,aO]
    refine tkN 25 ?_
    try simp only [Act.put,aO]
    refine tkN 26 ?_
    try simp only [Act.put,aO]
    refine tkP 27 ?_ ?_ ?_;rotate_left;focus (intro w;go_simp;try with_reducible rfl)
    try simp only [Act.put,aO]
    refine tkP 28 ?_ ?_ ?_;rotate_left;focus (intro w;go_simp;try with_reducible rfl)
    try simp only [Act.put,aO]
    refine tkN 29 ?_
    try simp only [Act.put,aO]
    refine tkN 30 ?_
    try simp only [Act.put,aO]
    refine tkN 31 ?_
    try simp only [Act.put,aO]
    refine tkN 32 ?_
    try simp only [Act.put,aO]
    refine tkP 33 ?_ ?_ ?_;rotate_left;focus (intro w;go_simp;try with_reducible rfl)
    try simp only [Act.put,aO]
    refine wpAnyH_done (by kernel_rfl) ?_ _
    all_goals go_wp2
    all_goals go_ret
    all_goals exact ⟨aP HB.out.symm,xw⟩
   have Hc:=Lib.hid hc
   clear hc
   obtain ⟨hc0,hc1⟩:=bK Hc.out;obtain ⟨m,rfl⟩:=Int.eq_ofNat_of_zero_le hc0;have hml:m<sig.length:=(by omega);rcases m4 with m4|⟨b2,o2,rfl,mb1,mb2,m4⟩;(exfalso;rw [m4] at hml;simp at hml);obtain ⟨ds,dl,⟨rfl,d1,d2,d3⟩,hds⟩:=m4 m hml;have s1:=hX.keep (hds 1 _ rfl);have HK:=Lib.hid (HSG.out m hml);clear hds m4;unfold I64 at d2;have jm0:(0:Int)≤(m:Int):=(by omega);have jm1:(m:Int)<(sig.length:Int):=(by omega)
   cases hu:di sig b np i
   ·have Hu:=Lib.hid hu
    clear hu
    have HB:=Lib.hid (hbad (by rw [HA.out];first|(rw [HK.out];simp [Hc.out,Hu.out];done)|simp [Hc.out,Hu.out]))
    clear hbad
    go_wp2_with fail
    refine wp_region_held_drew (S:=(fun w'=>dF w' wr.heap.size [.int .i64 (m:Int),.int .i64 np,.slice la nl.length lk]∧Ext wr w')) (by kernel_rfl) ?_ (fun hHeld=>?_)
    ·(refine ⟨?_,xw⟩;all_goals (intro j u hj;rcases j with _|_|_|_|_|_|_|_|j <;> simp at hj <;> (subst hj;simp)))
    refine tkP 0 ?_ ?_ ?_;rotate_left;focus (intro w;go_simp;try with_reducible rfl)
    try simp only [Act.put,aO]
    refine tkY 1 ?_ ?_ ?_;rotate_left;focus (intro w hSw;(try dsimp only at hSw);obtain ⟨bx0,sx⟩:=hSw;have c0_0:=(bx0 0 _ rfl).1;have c0_1:=(bx0 1 _ rfl).1;have c0_2:=(bx0 2 _ rfl).1;have s_ps:=Ext.keep sx ps;have s_p0:=Ext.keep sx p0;have s_p1:=Ext.keep sx p1;have s_p2:=Ext.keep sx p2;have s_p3:=Ext.keep sx p3;have s_p4:=Ext.keep sx p4;have s_p5:=Ext.keep sx p5;(try have s_s1:=Ext.keep sx s1);go_simp;try with_reducible rfl)
    try simp only [Act.put,aO]
    refine tkY 2 ?_ ?_ ?_;rotate_left;focus (intro w hSw;(try dsimp only at hSw);obtain ⟨bx0,sx⟩:=hSw;have c0_0:=(bx0 0 _ rfl).1;have c0_1:=(bx0 1 _ rfl).1;have c0_2:=(bx0 2 _ rfl).1;have s_ps:=Ext.keep sx ps;have s_p0:=Ext.keep sx p0;have s_p1:=Ext.keep sx p1;have s_p2:=Ext.keep sx p2;have s_p3:=Ext.keep sx p3;have s_p4:=Ext.keep sx p4;have s_p5:=Ext.keep sx p5;(try have s_s1:=Ext.keep sx s1);go_simp;try with_reducible rfl)
    try simp only [Act.put,aO]
    refine tkP 3 ?_ ?_ ?_;rotate_left;focus (intro w;go_simp;try with_reducible rfl)
    try simp only [Act.put,aO]
    refine tkP 4 ?_ ?_ ?_;rotate_left;focus (intro w;go_simp;try with_reducible rfl)
    try simp only [Act.put,aO]
    refine wpAnyH_ready (rs:=[5]) (by kernel_rfl) (by simp) ?_
    refine AllReadyH.cons rfl (fun K hK=>?_) AllReadyH.nil
    (try simp only [aO])
    go_simp
    (go_at_call 100;(refine (bt _ _ _ _).mono ?_);rintro e y ⟨rfl,rfl⟩;rw [Hc.out])
    show K _ _
    refine hK.out _ _ (by exact hHeld) (fun hHeld=>?_)
    clear hK K
    try simp only [Act.put,aO]
    refine tkP 6 ?_ ?_ ?_;rotate_left;focus (intro w;go_simp;try with_reducible rfl)
    try simp only [Act.put,aO]
    refine tkP 7 ?_ ?_ ?_;rotate_left;focus (intro w;go_simp;try with_reducible rfl)
    try simp only [Act.put,aO]
    refine tkY 8 ?_ ?_ ?_;rotate_left;focus (intro w hSw;(try dsimp only at hSw);obtain ⟨bx0,sx⟩:=hSw;have c0_0:=(bx0 0 _ rfl).1;have c0_1:=(bx0 1 _ rfl).1;have c0_2:=(bx0 2 _ rfl).1;have s_ps:=Ext.keep sx ps;have s_p0:=Ext.keep sx p0;have s_p1:=Ext.keep sx p1;have s_p2:=Ext.keep sx p2;have s_p3:=Ext.keep sx p3;have s_p4:=Ext.keep sx p4;have s_p5:=Ext.keep sx p5;(try have s_s1:=Ext.keep sx s1);go_simp;try with_reducible rfl)
    try simp only [Act.put,aO]
    refine tkY 9 ?_ ?_ ?_;rotate_left;focus (intro w hSw;(try dsimp only at hSw);obtain ⟨bx0,sx⟩:=hSw;have c0_0:=(bx0 0 _ rfl).1;have c0_1:=(bx0 1 _ rfl).1;have c0_2:=(bx0 2 _ rfl).1;have s_ps:=Ext.keep sx ps;have s_p0:=Ext.keep sx p0;have s_p1:=Ext.keep sx p1;have s_p2:=Ext.keep sx p2;have s_p3:=Ext.keep sx p3;have s_p4:=Ext.keep sx p4;have s_p5:=Ext.keep sx p5;(try have s_s1:=Ext.keep sx s1);go_simp;try with_reducible rfl)
    try simp only [Act.put,aO]
    refine tkP 10 ?_ ?_ ?_;rotate_left;focus (intro w;go_simp;try with_reducible rfl)
    try simp only [Act.put,aO]
    refine tkY 11 ?_ ?_ ?_;rotate_left;focus (intro w hSw;(try dsimp only at hSw);obtain ⟨bx0,sx⟩:=hSw;have c0_0:=(bx0 0 _ rfl).1;have c0_1:=(bx0 1 _ rfl).1;have c0_2:=(bx0 2 _ rfl).1;have s_ps:=Ext.keep sx ps;have s_p0:=Ext.keep sx p0;have s_p1:=Ext.keep sx p1;have s_p2:=Ext.keep sx p2;have s_p3:=Ext.keep sx p3;have s_p4:=Ext.keep sx p4;have s_p5:=Ext.keep sx p5;(try have s_s1:=Ext.keep sx s1);go_simp;try with_reducible rfl)
    try simp only [Act.put,aO]
    refine tkP 12 ?_ ?_ ?_;rotate_left;focus (intro w;go_simp;try with_reducible rfl)
    try simp only [Act.put,aO]
    refine wpAnyH_ready (rs:=[13]) (by kernel_rfl) (by simp) ?_
    refine AllReadyH.cons rfl (fun K hK=>?_) AllReadyH.nil
    (try simp only [aO])
    go_simp
    (have hSw:=hHeld;(try dsimp only at hSw);obtain ⟨bx0,sx⟩:=hSw;have c0_0:=(bx0 0 _ rfl).1;have c0_1:=(bx0 1 _ rfl).1;have c0_2:=(bx0 2 _ rfl).1;have s_ps:=Ext.keep sx ps;have s_p0:=Ext.keep sx p0;have s_p1:=Ext.keep sx p1;have s_p2:=Ext.keep sx p2;have s_p3:=Ext.keep sx p3;have s_p4:=Ext.keep sx p4;have s_p5:=Ext.keep sx p5;(try have s_s1:=Ext.keep sx s1);have s_hV:=hV.ext jF.keeps sx;have s_hB:=gT.keeps _ _ _ _ _ _ (fb.ext sx) hB;have s_hLV:=hLV.ext fg.keeps sx;go_at_call 170;(refine (cB lo hi lo' hi' _ sig _ b _ _ _ s_hV s_hB e2 HR.out (by omega) hC).mono ?_);rintro e y ⟨rfl,hb⟩;rw [Hu.out])
    show K _ _
    refine hK.out _ _ (by (have hh:=hHeld;(try dsimp only at hh);exact ⟨hh.1.ext hb,hh.2.trans hb⟩)) (fun hHeld=>?_)
    clear hK K
    try simp only [Act.put,aO]
    refine tkP 14 ?_ ?_ ?_;rotate_left;focus (intro w;go_simp;try with_reducible rfl)
    try simp only [Act.put,aO]
    refine tkP 15 ?_ ?_ ?_;rotate_left;focus (intro w;go_simp;try with_reducible rfl)
    try simp only [Act.put,aO]
    refine tkP 16 ?_ ?_ ?_;rotate_left;focus (intro w;go_simp;try with_reducible rfl)
    try simp only [Act.put,aO]
    refine tkN 17 ?_
    try simp only [Act.put,aO]
    refine tkN 18 ?_
    try simp only [Act.put,aO]
    refine tkN 19 ?_
    try simp only [Act.put,aO]
    refine tkN 20 ?_
    try simp only [Act.put,aO]
    refine tkN 21 ?_
    try simp only [Act.put,aO]
    refine tkN 22 ?_
    try simp only [Act.put,aO]
    refine tkN 23 ?_
    try simp only [Act.put,aO]
    refine tkN 24 ?_
    try simp only [Act.put,aO]
    refine tkN 25 ?_
    try simp only [Act.put,aO]
    refine tkN 26 ?_
    try simp only [Act.put,aO]
    refine tkP 27 ?_ ?_ ?_;rotate_left;focus (intro w;go_simp;try with_reducible rfl)
    try simp only [Act.put,aO]
    refine tkP 28 ?_ ?_ ?_;rotate_left;focus (intro w;go_simp;try with_reducible rfl)
    try simp only [Act.put,aO]
    refine tkN 29 ?_
    try simp only [Act.put,aO]
    refine tkN 30 ?_
    try simp only [Act.put,aO]
    refine tkN 31 ?_
    try simp only [Act.put,aO]
    refine tkN 32 ?_
    try simp only [Act.put,aO]
    refine tkP 33 ?_ ?_ ?_;rotate_left;focus (intro w;go_simp;try with_reducible rfl)
    try simp only [Act.put,aO]
    refine wpAnyH_done (by kernel_rfl) ?_ _
    all_goals go_wp2
    all_goals go_ret
    all_goals exact ⟨aP HB.out.symm,xw⟩
   have Hu:=Lib.hid hu
   clear hu
   by_cases hl:((nl.length:Int))=((sig[m]).ports)
   rotate_left
   ·have el:(((nl.length:Int)) != ((sig[m]).ports))=true:=bne_iff_ne.2 hl
    have Hl:=Lib.hid hl
    clear hl
    have HB:=Lib.hid (hbad (by rw [HA.out];first|(rw [HK.out];simp [Hc.out,Hu.out,Hl.out];done)|simp [Hc.out,Hu.out,Hl.out]))
    clear hbad
    go_wp2_with fail
    refine wp_region_held_drew (S:=(fun w'=>dF w' wr.heap.size [.int .i64 (m:Int),.int .i64 np,.slice la nl.length lk]∧Ext wr w')) (by kernel_rfl) ?_ (fun hHeld=>?_)
    ·(refine ⟨?_,xw⟩;all_goals (intro j u hj;rcases j with _|_|_|_|_|_|_|_|j <;> simp at hj <;> (subst hj;simp)))
    refine tkP 0 ?_ ?_ ?_;rotate_left;focus (intro w;go_simp;try with_reducible rfl)
    try simp only [Act.put,aO]
    refine tkY 1 ?_ ?_ ?_;rotate_left;focus (intro w hSw;(try dsimp only at hSw);obtain ⟨bx0,sx⟩:=hSw;have c0_0:=(bx0 0 _ rfl).1;have c0_1:=(bx0 1 _ rfl).1;have c0_2:=(bx0 2 _ rfl).1;have s_ps:=Ext.keep sx ps;have s_p0:=Ext.keep sx p0;have s_p1:=Ext.keep sx p1;have s_p2:=Ext.keep sx p2;have s_p3:=Ext.keep sx p3;have s_p4:=Ext.keep sx p4;have s_p5:=Ext.keep sx p5;(try have s_s1:=Ext.keep sx s1);go_simp;try with_reducible rfl)
    try simp only [Act.put,aO]
    refine tkY 2 ?_ ?_ ?_;rotate_left;focus (intro w hSw;(try dsimp only at hSw);obtain ⟨bx0,sx⟩:=hSw;have c0_0:=(bx0 0 _ rfl).1;have c0_1:=(bx0 1 _ rfl).1;have c0_2:=(bx0 2 _ rfl).1;have s_ps:=Ext.keep sx ps;have s_p0:=Ext.keep sx p0;have s_p1:=Ext.keep sx p1;have s_p2:=Ext.keep sx p2;have s_p3:=Ext.keep sx p3;have s_p4:=Ext.keep sx p4;have s_p5:=Ext.keep sx p5;(try have s_s1:=Ext.keep sx s1);go_simp;try with_reducible rfl)
    try simp only [Act.put,aO]
    refine tkP 3 ?_ ?_ ?_;rotate_left;focus (intro w;go_simp;try with_reducible rfl)
    try simp only [Act.put,aO]
    refine tkP 4 ?_ ?_ ?_;rotate_left;focus (intro w;go_simp;try with_reducible rfl)
    try simp only [Act.put,aO]
    refine wpAnyH_ready (rs:=[5]) (by kernel_rfl) (by simp) ?_
    refine AllReadyH.cons rfl (fun K hK=>?_) AllReadyH.nil
    (try simp only [aO])
    go_simp
    (go_at_call 100;(refine (bt _ _ _ _).mono ?_);rintro e y ⟨rfl,rfl⟩;rw [Hc.out])
    show K _ _
    refine hK.out _ _ (by exact hHeld) (fun hHeld=>?_)
    clear hK K
    try simp only [Act.put,aO]
    refine tkP 6 ?_ ?_ ?_;rotate_left;focus (intro w;go_simp;try with_reducible rfl)
    try simp only [Act.put,aO]
    refine tkP 7 ?_ ?_ ?_;rotate_left;focus (intro w;go_simp;try with_reducible rfl)
    try simp only [Act.put,aO]
    refine tkY 8 ?_ ?_ ?_;rotate_left;focus (intro w hSw;(try dsimp only at hSw);obtain ⟨bx0,sx⟩:=hSw;have c0_0:=(bx0 0 _ rfl).1;have c0_1:=(bx0 1 _ rfl).1;have c0_2:=(bx0 2 _ rfl).1;have s_ps:=Ext.keep sx ps;have s_p0:=Ext.keep sx p0;have s_p1:=Ext.keep sx p1;have s_p2:=Ext.keep sx p2;have s_p3:=Ext.keep sx p3;have s_p4:=Ext.keep sx p4;have s_p5:=Ext.keep sx p5;(try have s_s1:=Ext.keep sx s1);go_simp;try with_reducible rfl)
    try simp only [Act.put,aO]
    refine tkY 9 ?_ ?_ ?_;rotate_left;focus (intro w hSw;(try dsimp only at hSw);obtain ⟨bx0,sx⟩:=hSw;have c0_0:=(bx0 0 _ rfl).1;have c0_1:=(bx0 1 _ rfl).1;have c0_2:=(bx0 2 _ rfl).1;have s_ps:=Ext.keep sx ps;have s_p0:=Ext.keep sx p0;have s_p1:=Ext.keep sx p1;have s_p2:=Ext.keep sx p2;have s_p3:=Ext.keep sx p3;have s_p4:=Ext.keep sx p4;have s_p5:=Ext.keep sx p5;(try have s_s1:=Ext.keep sx s1);go_simp;try with_reducible rfl)
    try simp only [Act.put,aO]
    refine tkP 10 ?_ ?_ ?_;rotate_left;focus (intro w;go_simp;try with_reducible rfl)
    try simp only [Act.put,aO]
    refine tkY 11 ?_ ?_ ?_;rotate_left;focus (intro w hSw;(try dsimp only at hSw);obtain ⟨bx0,sx⟩:=hSw;have c0_0:=(bx0 0 _ rfl).1;have c0_1:=(bx0 1 _ rfl).1;have c0_2:=(bx0 2 _ rfl).1;have s_ps:=Ext.keep sx ps;have s_p0:=Ext.keep sx p0;have s_p1:=Ext.keep sx p1;have s_p2:=Ext.keep sx p2;have s_p3:=Ext.keep sx p3;have s_p4:=Ext.keep sx p4;have s_p5:=Ext.keep sx p5;(try have s_s1:=Ext.keep sx s1);go_simp;try with_reducible rfl)
    try simp only [Act.put,aO]
    refine tkP 12 ?_ ?_ ?_;rotate_left;focus (intro w;go_simp;try with_reducible rfl)
    try simp only [Act.put,aO]
    refine wpAnyH_ready (rs:=[13]) (by kernel_rfl) (by simp) ?_
    refine AllReadyH.cons rfl (fun K hK=>?_) AllReadyH.nil
    (try simp only [aO])
    go_simp
    (have hSw:=hHeld;(try dsimp only at hSw);obtain ⟨bx0,sx⟩:=hSw;have c0_0:=(bx0 0 _ rfl).1;have c0_1:=(bx0 1 _ rfl).1;have c0_2:=(bx0 2 _ rfl).1;have s_ps:=Ext.keep sx ps;have s_p0:=Ext.keep sx p0;have s_p1:=Ext.keep sx p1;have s_p2:=Ext.keep sx p2;have s_p3:=Ext.keep sx p3;have s_p4:=Ext.keep sx p4;have s_p5:=Ext.keep sx p5;(try have s_s1:=Ext.keep sx s1);have s_hV:=hV.ext jF.keeps sx;have s_hB:=gT.keeps _ _ _ _ _ _ (fb.ext sx) hB;have s_hLV:=hLV.ext fg.keeps sx;go_at_call 170;(refine (cB lo hi lo' hi' _ sig _ b _ _ _ s_hV s_hB e2 HR.out (by omega) hC).mono ?_);rintro e y ⟨rfl,hb⟩;rw [Hu.out])
    show K _ _
    refine hK.out _ _ (by (have hh:=hHeld;(try dsimp only at hh);exact ⟨hh.1.ext hb,hh.2.trans hb⟩)) (fun hHeld=>?_)
    clear hK K
    try simp only [Act.put,aO]
    refine tkP 14 ?_ ?_ ?_;rotate_left;focus (intro w;go_simp;try with_reducible rfl)
    try simp only [Act.put,aO]
    refine tkP 15 ?_ ?_ ?_;rotate_left;focus (intro w;go_simp;try with_reducible rfl)
    try simp only [Act.put,aO]
    refine tkP 16 ?_ ?_ ?_;rotate_left;focus (intro w;go_simp;try with_reducible rfl)
    try simp only [Act.put,aO]
    refine tkP 17 ?_ ?_ ?_;rotate_left;focus (intro w;go_simp;try with_reducible rfl)
    try simp only [Act.put,aO]
    refine tkY 18 ?_ ?_ ?_;rotate_left;focus (intro w hSw;(try dsimp only at hSw);obtain ⟨bx0,sx⟩:=hSw;have c0_0:=(bx0 0 _ rfl).1;have c0_1:=(bx0 1 _ rfl).1;have c0_2:=(bx0 2 _ rfl).1;have s_ps:=Ext.keep sx ps;have s_p0:=Ext.keep sx p0;have s_p1:=Ext.keep sx p1;have s_p2:=Ext.keep sx p2;have s_p3:=Ext.keep sx p3;have s_p4:=Ext.keep sx p4;have s_p5:=Ext.keep sx p5;(try have s_s1:=Ext.keep sx s1);go_simp;try with_reducible rfl)
    try simp only [Act.put,aO]
    refine tkP 19 ?_ ?_ ?_;rotate_left;focus (intro w;go_simp;try with_reducible rfl)
    try simp only [Act.put,aO]
    refine tkY 20 ?_ ?_ ?_;rotate_left;focus (intro w hSw;(try dsimp only at hSw);obtain ⟨bx0,sx⟩:=hSw;have c0_0:=(bx0 0 _ rfl).1;have c0_1:=(bx0 1 _ rfl).1;have c0_2:=(bx0 2 _ rfl).1;have s_ps:=Ext.keep sx ps;have s_p0:=Ext.keep sx p0;have s_p1:=Ext.keep sx p1;have s_p2:=Ext.keep sx p2;have s_p3:=Ext.keep sx p3;have s_p4:=Ext.keep sx p4;have s_p5:=Ext.keep sx p5;(try have s_s1:=Ext.keep sx s1);go_simp;try with_reducible rfl)
    try simp only [Act.put,aO]
    refine tkP 21 ?_ ?_ ?_;rotate_left;focus (intro w;go_simp;try with_reducible rfl)
    try simp only [Act.put,aO]
    refine tkY 22 ?_ ?_ ?_;rotate_left;focus (intro w hSw;(try dsimp only at hSw);obtain ⟨bx0,sx⟩:=hSw;have c0_0:=(bx0 0 _ rfl).1;have c0_1:=(bx0 1 _ rfl).1;have c0_2:=(bx0 2 _ rfl).1;have s_ps:=Ext.keep sx ps;have s_p0:=Ext.keep sx p0;have s_p1:=Ext.keep sx p1;have s_p2:=Ext.keep sx p2;have s_p3:=Ext.keep sx p3;have s_p4:=Ext.keep sx p4;have s_p5:=Ext.keep sx p5;(try have s_s1:=Ext.keep sx s1);go_simp;try with_reducible rfl)
    try simp only [Act.put,aO]
    refine tkP 23 ?_ ?_ ?_;rotate_left;focus (intro w;go_simp;try with_reducible rfl)
    try simp only [Act.put,aO]
    refine tkP 24 ?_ ?_ ?_;rotate_left;focus (intro w;go_simp;try with_reducible rfl)
    try simp only [Act.put,aO]
    refine tkY 25 ?_ ?_ ?_;rotate_left;focus (intro w hSw;(try dsimp only at hSw);obtain ⟨bx0,sx⟩:=hSw;have c0_0:=(bx0 0 _ rfl).1;have c0_1:=(bx0 1 _ rfl).1;have c0_2:=(bx0 2 _ rfl).1;have s_ps:=Ext.keep sx ps;have s_p0:=Ext.keep sx p0;have s_p1:=Ext.keep sx p1;have s_p2:=Ext.keep sx p2;have s_p3:=Ext.keep sx p3;have s_p4:=Ext.keep sx p4;have s_p5:=Ext.keep sx p5;(try have s_s1:=Ext.keep sx s1);go_simp;try with_reducible rfl)
    try simp only [Act.put,aO]
    refine tkP 26 ?_ ?_ ?_;rotate_left;focus (intro w;go_simp;try with_reducible rfl)
    try simp only [Act.put,aO]
    refine tkP 27 ?_ ?_ ?_;rotate_left;focus (intro w;go_simp;try with_reducible rfl)
    try simp only [Act.put,aO]
    refine tkP 28 ?_ ?_ ?_;rotate_left;focus (intro w;go_simp;try with_reducible rfl)
    try simp only [Act.put,aO]
    refine tkN 29 ?_
    try simp only [Act.put,aO]
    refine tkN 30 ?_
    try simp only [Act.put,aO]
    refine tkN 31 ?_
    try simp only [Act.put,aO]
    refine tkN 32 ?_
    try simp only [Act.put,aO]
    refine tkP 33 ?_ ?_ ?_;rotate_left;focus (intro w;go_simp;try with_reducible rfl)
    try simp only [Act.put,aO]
    refine wpAnyH_done (by kernel_rfl) ?_ _
    all_goals go_wp2
    all_goals go_ret
    all_goals exact ⟨aP HB.out.symm,xw⟩
   have el:(((nl.length:Int)) != ((sig[m]).ports))=false:=bne_eq_false_iff_eq.2 hl
   have Hl:=Lib.hid hl
   clear hl
   cases hk:nl.any (fun l=>!(eq b l))
   rotate_left
   ·have Hk:=Lib.hid hk
    clear hk
    have HB:=Lib.hid (hbad (by rw [HA.out];first|(rw [HK.out];simp [Hc.out,Hu.out,Hl.out,Hk.out];done)|simp [Hc.out,Hu.out,Hl.out,Hk.out]))
    clear hbad
    go_wp2_with fail
    refine wp_region_held_drew (S:=(fun w'=>dF w' wr.heap.size [.int .i64 (m:Int),.int .i64 np,.slice la nl.length lk]∧Ext wr w')) (by kernel_rfl) ?_ (fun hHeld=>?_)
    ·(refine ⟨?_,xw⟩;all_goals (intro j u hj;rcases j with _|_|_|_|_|_|_|_|j <;> simp at hj <;> (subst hj;simp)))
    refine tkP 0 ?_ ?_ ?_;rotate_left;focus (intro w;go_simp;try with_reducible rfl)
    try simp only [Act.put,aO]
    refine tkY 1 ?_ ?_ ?_;rotate_left;focus (intro w hSw;(try dsimp only at hSw);obtain ⟨bx0,sx⟩:=hSw;have c0_0:=(bx0 0 _ rfl).1;have c0_1:=(bx0 1 _ rfl).1;have c0_2:=(bx0 2 _ rfl).1;have s_ps:=Ext.keep sx ps;have s_p0:=Ext.keep sx p0;have s_p1:=Ext.keep sx p1;have s_p2:=Ext.keep sx p2;have s_p3:=Ext.keep sx p3;have s_p4:=Ext.keep sx p4;have s_p5:=Ext.keep sx p5;(try have s_s1:=Ext.keep sx s1);go_simp;try with_reducible rfl)
    try simp only [Act.put,aO]
    refine tkY 2 ?_ ?_ ?_;rotate_left;focus (intro w hSw;(try dsimp only at hSw);obtain ⟨bx0,sx⟩:=hSw;have c0_0:=(bx0 0 _ rfl).1;have c0_1:=(bx0 1 _ rfl).1;have c0_2:=(bx0 2 _ rfl).1;have s_ps:=Ext.keep sx ps;have s_p0:=Ext.keep sx p0;have s_p1:=Ext.keep sx p1;have s_p2:=Ext.keep sx p2;have s_p3:=Ext.keep sx p3;have s_p4:=Ext.keep sx p4;have s_p5:=Ext.keep sx p5;(try have s_s1:=Ext.keep sx s1);go_simp;try with_reducible rfl)
    try simp only [Act.put,aO]
    refine tkP 3 ?_ ?_ ?_;rotate_left;focus (intro w;go_simp;try with_reducible rfl)
    try simp only [Act.put,aO]
    refine tkP 4 ?_ ?_ ?_;rotate_left;focus (intro w;go_simp;try with_reducible rfl)
    try simp only [Act.put,aO]
    refine wpAnyH_ready (rs:=[5]) (by kernel_rfl) (by simp) ?_
    refine AllReadyH.cons rfl (fun K hK=>?_) AllReadyH.nil
    (try simp only [aO])
    go_simp
    (go_at_call 100;(refine (bt _ _ _ _).mono ?_);rintro e y ⟨rfl,rfl⟩;rw [Hc.out])
    show K _ _
    refine hK.out _ _ (by exact hHeld) (fun hHeld=>?_)
    clear hK K
    try simp only [Act.put,aO]
    refine tkP 6 ?_ ?_ ?_;rotate_left;focus (intro w;go_simp;try with_reducible rfl)
    try simp only [Act.put,aO]
    refine tkP 7 ?_ ?_ ?_;rotate_left;focus (intro w;go_simp;try with_reducible rfl)
    try simp only [Act.put,aO]
    refine tkY 8 ?_ ?_ ?_;rotate_left;focus (intro w hSw;(try dsimp only at hSw);obtain ⟨bx0,sx⟩:=hSw;have c0_0:=(bx0 0 _ rfl).1;have c0_1:=(bx0 1 _ rfl).1;have c0_2:=(bx0 2 _ rfl).1;have s_ps:=Ext.keep sx ps;have s_p0:=Ext.keep sx p0;have s_p1:=Ext.keep sx p1;have s_p2:=Ext.keep sx p2;have s_p3:=Ext.keep sx p3;have s_p4:=Ext.keep sx p4;have s_p5:=Ext.keep sx p5;(try have s_s1:=Ext.keep sx s1);go_simp;try with_reducible rfl)
    try simp only [Act.put,aO]
    refine tkY 9 ?_ ?_ ?_;rotate_left;focus (intro w hSw;(try dsimp only at hSw);obtain ⟨bx0,sx⟩:=hSw;have c0_0:=(bx0 0 _ rfl).1;have c0_1:=(bx0 1 _ rfl).1;have c0_2:=(bx0 2 _ rfl).1;have s_ps:=Ext.keep sx ps;have s_p0:=Ext.keep sx p0;have s_p1:=Ext.keep sx p1;have s_p2:=Ext.keep sx p2;have s_p3:=Ext.keep sx p3;have s_p4:=Ext.keep sx p4;have s_p5:=Ext.keep sx p5;(try have s_s1:=Ext.keep sx s1);go_simp;try with_reducible rfl)
    try simp only [Act.put,aO]
    refine tkP 10 ?_ ?_ ?_;rotate_left;focus (intro w;go_simp;try with_reducible rfl)
    try simp only [Act.put,aO]
    refine tkY 11 ?_ ?_ ?_;rotate_left;focus (intro w hSw;(try dsimp only at hSw);obtain ⟨bx0,sx⟩:=hSw;have c0_0:=(bx0 0 _ rfl).1;have c0_1:=(bx0 1 _ rfl).1;have c0_2:=(bx0 2 _ rfl).1;have s_ps:=Ext.keep sx ps;have s_p0:=Ext.keep sx p0;have s_p1:=Ext.keep sx p1;have s_p2:=Ext.keep sx p2;have s_p3:=Ext.keep sx p3;have s_p4:=Ext.keep sx p4;have s_p5:=Ext.keep sx p5;(try have s_s1:=Ext.keep sx s1);go_simp;try with_reducible rfl)
    try simp only [Act.put,aO]
    refine tkP 12 ?_ ?_ ?_;rotate_left;focus (intro w;go_simp;try with_reducible rfl)
    try simp only [Act.put,aO]
    refine wpAnyH_ready (rs:=[13]) (by kernel_rfl) (by simp) ?_
    refine AllReadyH.cons rfl (fun K hK=>?_) AllReadyH.nil
    (try simp only [aO])
    go_simp
    (have hSw:=hHeld;(try dsimp only at hSw);obtain ⟨bx0,sx⟩:=hSw;have c0_0:=(bx0 0 _ rfl).1;have c0_1:=(bx0 1 _ rfl).1;have c0_2:=(bx0 2 _ rfl).1;have s_ps:=Ext.keep sx ps;have s_p0:=Ext.keep sx p0;have s_p1:=Ext.keep sx p1;have s_p2:=Ext.keep sx p2;have s_p3:=Ext.keep sx p3;have s_p4:=Ext.keep sx p4;have s_p5:=Ext.keep sx p5;(try have s_s1:=Ext.keep sx s1);have s_hV:=hV.ext jF.keeps sx;have s_hB:=gT.keeps _ _ _ _ _ _ (fb.ext sx) hB;have s_hLV:=hLV.ext fg.keeps sx;go_at_call 170;(refine (cB lo hi lo' hi' _ sig _ b _ _ _ s_hV s_hB e2 HR.out (by omega) hC).mono ?_);rintro e y ⟨rfl,hb⟩;rw [Hu.out])
    show K _ _
    refine hK.out _ _ (by (have hh:=hHeld;(try dsimp only at hh);exact ⟨hh.1.ext hb,hh.2.trans hb⟩)) (fun hHeld=>?_)
    clear hK K
    try simp only [Act.put,aO]
    refine tkP 14 ?_ ?_ ?_;rotate_left;focus (intro w;go_simp;try with_reducible rfl)
    try simp only [Act.put,aO]
    refine tkP 15 ?_ ?_ ?_;rotate_left;focus (intro w;go_simp;try with_reducible rfl)
    try simp only [Act.put,aO]
    refine tkP 16 ?_ ?_ ?_;rotate_left;focus (intro w;go_simp;try with_reducible rfl)
    try simp only [Act.put,aO]
    refine tkP 17 ?_ ?_ ?_;rotate_left;focus (intro w;go_simp;try with_reducible rfl)
    try simp only [Act.put,aO]
    refine tkY 18 ?_ ?_ ?_;rotate_left;focus (intro w hSw;(try dsimp only at hSw);obtain ⟨bx0,sx⟩:=hSw;have c0_0:=(bx0 0 _ rfl).1;have c0_1:=(bx0 1 _ rfl).1;have c0_2:=(bx0 2 _ rfl).1;have s_ps:=Ext.keep sx ps;have s_p0:=Ext.keep sx p0;have s_p1:=Ext.keep sx p1;have s_p2:=Ext.keep sx p2;have s_p3:=Ext.keep sx p3;have s_p4:=Ext.keep sx p4;have s_p5:=Ext.keep sx p5;(try have s_s1:=Ext.keep sx s1);go_simp;try with_reducible rfl)
    try simp only [Act.put,aO]
    refine tkP 19 ?_ ?_ ?_;rotate_left;focus (intro w;go_simp;try with_reducible rfl)
    try simp only [Act.put,aO]
    refine tkY 20 ?_ ?_ ?_;rotate_left;focus (intro w hSw;(try dsimp only at hSw);obtain ⟨bx0,sx⟩:=hSw;have c0_0:=(bx0 0 _ rfl).1;have c0_1:=(bx0 1 _ rfl).1;have c0_2:=(bx0 2 _ rfl).1;have s_ps:=Ext.keep sx ps;have s_p0:=Ext.keep sx p0;have s_p1:=Ext.keep sx p1;have s_p2:=Ext.keep sx p2;have s_p3:=Ext.keep sx p3;have s_p4:=Ext.keep sx p4;have s_p5:=Ext.keep sx p5;(try have s_s1:=Ext.keep sx s1);go_simp;try with_reducible rfl)
    try simp only [Act.put,aO]
    refine tkP 21 ?_ ?_ ?_;rotate_left;focus (intro w;go_simp;try with_reducible rfl)
    try simp only [Act.put,aO]
    refine tkY 22 ?_ ?_ ?_;rotate_left;focus (intro w hSw;(try dsimp only at hSw);obtain ⟨bx0,sx⟩:=hSw;have c0_0:=(bx0 0 _ rfl).1;have c0_1:=(bx0 1 _ rfl).1;have c0_2:=(bx0 2 _ rfl).1;have s_ps:=Ext.keep sx ps;have s_p0:=Ext.keep sx p0;have s_p1:=Ext.keep sx p1;have s_p2:=Ext.keep sx p2;have s_p3:=Ext.keep sx p3;have s_p4:=Ext.keep sx p4;have s_p5:=Ext.keep sx p5;(try have s_s1:=Ext.keep sx s1);go_simp;try with_reducible rfl)
    try simp only [Act.put,aO]
    refine tkP 23 ?_ ?_ ?_;rotate_left;focus (intro w;go_simp;try with_reducible rfl)
    try simp only [Act.put,aO]
    refine tkP 24 ?_ ?_ ?_;rotate_left;focus (intro w;go_simp;try with_reducible rfl)
    try simp only [Act.put,aO]
    refine tkY 25 ?_ ?_ ?_;rotate_left;focus (intro w hSw;(try dsimp only at hSw);obtain ⟨bx0,sx⟩:=hSw;have c0_0:=(bx0 0 _ rfl).1;have c0_1:=(bx0 1 _ rfl).1;have c0_2:=(bx0 2 _ rfl).1;have s_ps:=Ext.keep sx ps;have s_p0:=Ext.keep sx p0;have s_p1:=Ext.keep sx p1;have s_p2:=Ext.keep sx p2;have s_p3:=Ext.keep sx p3;have s_p4:=Ext.keep sx p4;have s_p5:=Ext.keep sx p5;(try have s_s1:=Ext.keep sx s1);go_simp;try with_reducible rfl)
    try simp only [Act.put,aO]
    refine tkP 26 ?_ ?_ ?_;rotate_left;focus (intro w;go_simp;try with_reducible rfl)
    try simp only [Act.put,aO]
    refine tkP 27 ?_ ?_ ?_;rotate_left;focus (intro w;go_simp;try with_reducible rfl)
    try simp only [Act.put,aO]
    refine tkP 28 ?_ ?_ ?_;rotate_left;focus (intro w;go_simp;try with_reducible rfl)
    try simp only [Act.put,aO]
    refine tkP 29 ?_ ?_ ?_;rotate_left;focus (intro w;go_simp;try with_reducible rfl)
    try simp only [Act.put,aO]
    refine tkY 30 ?_ ?_ ?_;rotate_left;focus (intro w hSw;(try dsimp only at hSw);obtain ⟨bx0,sx⟩:=hSw;have c0_0:=(bx0 0 _ rfl).1;have c0_1:=(bx0 1 _ rfl).1;have c0_2:=(bx0 2 _ rfl).1;have s_ps:=Ext.keep sx ps;have s_p0:=Ext.keep sx p0;have s_p1:=Ext.keep sx p1;have s_p2:=Ext.keep sx p2;have s_p3:=Ext.keep sx p3;have s_p4:=Ext.keep sx p4;have s_p5:=Ext.keep sx p5;(try have s_s1:=Ext.keep sx s1);go_simp;try with_reducible rfl)
    try simp only [Act.put,aO]
    refine tkP 31 ?_ ?_ ?_;rotate_left;focus (intro w;go_simp;try with_reducible rfl)
    try simp only [Act.put,aO]
    refine wpAnyH_ready (rs:=[32]) (by kernel_rfl) (by simp) ?_
    refine AllReadyH.cons rfl (fun K hK=>?_) AllReadyH.nil
    (try simp only [aO])
    go_simp
    (have hSw:=hHeld;(try dsimp only at hSw);obtain ⟨bx0,sx⟩:=hSw;have c0_0:=(bx0 0 _ rfl).1;have c0_1:=(bx0 1 _ rfl).1;have c0_2:=(bx0 2 _ rfl).1;have s_ps:=Ext.keep sx ps;have s_p0:=Ext.keep sx p0;have s_p1:=Ext.keep sx p1;have s_p2:=Ext.keep sx p2;have s_p3:=Ext.keep sx p3;have s_p4:=Ext.keep sx p4;have s_p5:=Ext.keep sx p5;(try have s_s1:=Ext.keep sx s1);have s_hV:=hV.ext jF.keeps sx;have s_hB:=gT.keeps _ _ _ _ _ _ (fb.ext sx) hB;have s_hLV:=hLV.ext fg.keeps sx;go_at_call 156;(refine (cG lo' hi' (fun l=>!(eq b l)) 171 #[.pointer (some ⟨W0.heap.size,0,none⟩)] _ _ _ s_hLV eg1 (fun j hj cs W hW hP=>iG lo' hi' W0.heap.size _ b _ W (gT.keeps _ _ _ _ _ _ (fb.ext hW) s_hB) HE.out hol (fun j u hj=>hW.keep (sx.keep (hX1.keep (HBB.out j u hj)))))).mono ?_);rintro e y ⟨rfl,hb⟩;rw [Hk.out])
    show K _ _
    refine hK.out _ _ (by (have hh:=hHeld;(try dsimp only at hh);exact ⟨hh.1.ext hb,hh.2.trans hb⟩)) (fun hHeld=>?_)
    clear hK K
    try simp only [Act.put,aO]
    refine tkP 33 ?_ ?_ ?_;rotate_left;focus (intro w;go_simp;try with_reducible rfl)
    try simp only [Act.put,aO]
    refine wpAnyH_done (by kernel_rfl) ?_ _
    all_goals go_wp2
    all_goals go_ret
    all_goals exact ⟨aP HB.out.symm,xw⟩
   have Hk:=Lib.hid hk
   clear hk
   have HG:=Lib.hid (show fR sig b i=true by rw [HA.out,HK.out];simp [Hc.out,Hu.out,Hl.out,Hk.out])
   clear hbad
   go_wp2_with fail
   refine wp_region_held_drew (S:=(fun w'=>dF w' wr.heap.size [.int .i64 (m:Int),.int .i64 np,.slice la nl.length lk]∧Ext wr w')) (by kernel_rfl) ?_ (fun hHeld=>?_)
   ·(refine ⟨?_,xw⟩;all_goals (intro j u hj;rcases j with _|_|_|_|_|_|_|_|j <;> simp at hj <;> (subst hj;simp)))
   refine tkP 0 ?_ ?_ ?_;rotate_left;focus (intro w;go_simp;try with_reducible rfl)
   try simp only [Act.put,aO]
   refine tkY 1 ?_ ?_ ?_;rotate_left;focus (intro w hSw;(try dsimp only at hSw);obtain ⟨bx0,sx⟩:=hSw;have c0_0:=(bx0 0 _ rfl).1;have c0_1:=(bx0 1 _ rfl).1;have c0_2:=(bx0 2 _ rfl).1;have s_ps:=Ext.keep sx ps;have s_p0:=Ext.keep sx p0;have s_p1:=Ext.keep sx p1;have s_p2:=Ext.keep sx p2;have s_p3:=Ext.keep sx p3;have s_p4:=Ext.keep sx p4;have s_p5:=Ext.keep sx p5;(try have s_s1:=Ext.keep sx s1);go_simp;try with_reducible rfl)
   try simp only [Act.put,aO]
   refine tkY 2 ?_ ?_ ?_;rotate_left;focus (intro w hSw;(try dsimp only at hSw);obtain ⟨bx0,sx⟩:=hSw;have c0_0:=(bx0 0 _ rfl).1;have c0_1:=(bx0 1 _ rfl).1;have c0_2:=(bx0 2 _ rfl).1;have s_ps:=Ext.keep sx ps;have s_p0:=Ext.keep sx p0;have s_p1:=Ext.keep sx p1;have s_p2:=Ext.keep sx p2;have s_p3:=Ext.keep sx p3;have s_p4:=Ext.keep sx p4;have s_p5:=Ext.keep sx p5;(try have s_s1:=Ext.keep sx s1);go_simp;try with_reducible rfl)
   try simp only [Act.put,aO]
   refine tkP 3 ?_ ?_ ?_;rotate_left;focus (intro w;go_simp;try with_reducible rfl)
   try simp only [Act.put,aO]
   refine tkP 4 ?_ ?_ ?_;rotate_left;focus (intro w;go_simp;try with_reducible rfl)
   try simp only [Act.put,aO]
   refine wpAnyH_ready (rs:=[5]) (by kernel_rfl) (by simp) ?_
   refine AllReadyH.cons rfl (fun K hK=>?_) AllReadyH.nil
   (try simp only [aO])
   go_simp
   (go_at_call 100;(refine (bt _ _ _ _).mono ?_);rintro e y ⟨rfl,rfl⟩;rw [Hc.out])
   show K _ _
   refine hK.out _ _ (by exact hHeld) (fun hHeld=>?_)
   clear hK K
   try simp only [Act.put,aO]
   refine tkP 6 ?_ ?_ ?_;rotate_left;focus (intro w;go_simp;try with_reducible rfl)
   try simp only [Act.put,aO]
   refine tkP 7 ?_ ?_ ?_;rotate_left;focus (intro w;go_simp;try with_reducible rfl)
   try simp only [Act.put,aO]
   refine tkY 8 ?_ ?_ ?_;rotate_left;focus (intro w hSw;(try dsimp only at hSw);obtain ⟨bx0,sx⟩:=hSw;have c0_0:=(bx0 0 _ rfl).1;have c0_1:=(bx0 1 _ rfl).1;have c0_2:=(bx0 2 _ rfl).1;have s_ps:=Ext.keep sx ps;have s_p0:=Ext.keep sx p0;have s_p1:=Ext.keep sx p1;have s_p2:=Ext.keep sx p2;have s_p3:=Ext.keep sx p3;have s_p4:=Ext.keep sx p4;have s_p5:=Ext.keep sx p5;(try have s_s1:=Ext.keep sx s1);go_simp;try with_reducible rfl)
   try simp only [Act.put,aO]
   refine tkY 9 ?_ ?_ ?_;rotate_left;focus (intro w hSw;(try dsimp only at hSw);obtain ⟨bx0,sx⟩:=hSw;have c0_0:=(bx0 0 _ rfl).1;have c0_1:=(bx0 1 _ rfl).1;have c0_2:=(bx0 2 _ rfl).1;have s_ps:=Ext.keep sx ps;have s_p0:=Ext.keep sx p0;have s_p1:=Ext.keep sx p1;have s_p2:=Ext.keep sx p2;have s_p3:=Ext.keep sx p3;have s_p4:=Ext.keep sx p4;have s_p5:=Ext.keep sx p5;(try have s_s1:=Ext.keep sx s1);go_simp;try with_reducible rfl)
   try simp only [Act.put,aO]
   refine tkP 10 ?_ ?_ ?_;rotate_left;focus (intro w;go_simp;try with_reducible rfl)
   try simp only [Act.put,aO]
   refine tkY 11 ?_ ?_ ?_;rotate_left;focus (intro w hSw;(try dsimp only at hSw);obtain ⟨bx0,sx⟩:=hSw;have c0_0:=(bx0 0 _ rfl).1;have c0_1:=(bx0 1 _ rfl).1;have c0_2:=(bx0 2 _ rfl).1;have s_ps:=Ext.keep sx ps;have s_p0:=Ext.keep sx p0;have s_p1:=Ext.keep sx p1;have s_p2:=Ext.keep sx p2;have s_p3:=Ext.keep sx p3;have s_p4:=Ext.keep sx p4;have s_p5:=Ext.keep sx p5;(try have s_s1:=Ext.keep sx s1);go_simp;try with_reducible rfl)
   try simp only [Act.put,aO]
   refine tkP 12 ?_ ?_ ?_;rotate_left;focus (intro w;go_simp;try with_reducible rfl)
   try simp only [Act.put,aO]
   refine wpAnyH_ready (rs:=[13]) (by kernel_rfl) (by simp) ?_
   refine AllReadyH.cons rfl (fun K hK=>?_) AllReadyH.nil
   (try simp only [aO])
   go_simp
   (have hSw:=hHeld;(try dsimp only at hSw);obtain ⟨bx0,sx⟩:=hSw;have c0_0:=(bx0 0 _ rfl).1;have c0_1:=(bx0 1 _ rfl).1;have c0_2:=(bx0 2 _ rfl).1;have s_ps:=Ext.keep sx ps;have s_p0:=Ext.keep sx p0;have s_p1:=Ext.keep sx p1;have s_p2:=Ext.keep sx p2;have s_p3:=Ext.keep sx p3;have s_p4:=Ext.keep sx p4;have s_p5:=Ext.keep sx p5;(try have s_s1:=Ext.keep sx s1);have s_hV:=hV.ext jF.keeps sx;have s_hB:=gT.keeps _ _ _ _ _ _ (fb.ext sx) hB;have s_hLV:=hLV.ext fg.keeps sx;go_at_call 170;(refine (cB lo hi lo' hi' _ sig _ b _ _ _ s_hV s_hB e2 HR.out (by omega) hC).mono ?_);rintro e y ⟨rfl,hb⟩;rw [Hu.out])
   show K _ _
   refine hK.out _ _ (by (have hh:=hHeld;(try dsimp only at hh);exact ⟨hh.1.ext hb,hh.2.trans hb⟩)) (fun hHeld=>?_)
   clear hK K
   try simp only [Act.put,aO]
   refine tkP 14 ?_ ?_ ?_;rotate_left;focus (intro w;go_simp;try with_reducible rfl)
   try simp only [Act.put,aO]
   refine tkP 15 ?_ ?_ ?_;rotate_left;focus (intro w;go_simp;try with_reducible rfl)
   try simp only [Act.put,aO]
   refine tkP 16 ?_ ?_ ?_;rotate_left;focus (intro w;go_simp;try with_reducible rfl)
   try simp only [Act.put,aO]
   refine tkP 17 ?_ ?_ ?_;rotate_left;focus (intro w;go_simp;try with_reducible rfl)
   try simp only [Act.put,aO]
   refine tkY 18 ?_ ?_ ?_;rotate_left;focus (intro w hSw;(try dsimp only at hSw);obtain ⟨bx0,sx⟩:=hSw;have c0_0:=(bx0 0 _ rfl).1;have c0_1:=(bx0 1 _ rfl).1;have c0_2:=(bx0 2 _ rfl).1;have s_ps:=Ext.keep sx ps;have s_p0:=Ext.keep sx p0;have s_p1:=Ext.keep sx p1;have s_p2:=Ext.keep sx p2;have s_p3:=Ext.keep sx p3;have s_p4:=Ext.keep sx p4;have s_p5:=Ext.keep sx p5;(try have s_s1:=Ext.keep sx s1);go_simp;try with_reducible rfl)
   try simp only [Act.put,aO]
   refine tkP 19 ?_ ?_ ?_;rotate_left;focus (intro w;go_simp;try with_reducible rfl)
   try simp only [Act.put,aO]
   refine tkY 20 ?_ ?_ ?_;rotate_left;focus (intro w hSw;(try dsimp only at hSw);obtain ⟨bx0,sx⟩:=hSw;have c0_0:=(bx0 0 _ rfl).1;have c0_1:=(bx0 1 _ rfl).1;have c0_2:=(bx0 2 _ rfl).1;have s_ps:=Ext.keep sx ps;have s_p0:=Ext.keep sx p0;have s_p1:=Ext.keep sx p1;have s_p2:=Ext.keep sx p2;have s_p3:=Ext.keep sx p3;have s_p4:=Ext.keep sx p4;have s_p5:=Ext.keep sx p5;(try have s_s1:=Ext.keep sx s1);go_simp;try with_reducible rfl)
   try simp only [Act.put,aO]
   refine tkP 21 ?_ ?_ ?_;rotate_left;focus (intro w;go_simp;try with_reducible rfl)
   try simp only [Act.put,aO]
   refine tkY 22 ?_ ?_ ?_;rotate_left;focus (intro w hSw;(try dsimp only at hSw);obtain ⟨bx0,sx⟩:=hSw;have c0_0:=(bx0 0 _ rfl).1;have c0_1:=(bx0 1 _ rfl).1;have c0_2:=(bx0 2 _ rfl).1;have s_ps:=Ext.keep sx ps;have s_p0:=Ext.keep sx p0;have s_p1:=Ext.keep sx p1;have s_p2:=Ext.keep sx p2;have s_p3:=Ext.keep sx p3;have s_p4:=Ext.keep sx p4;have s_p5:=Ext.keep sx p5;(try have s_s1:=Ext.keep sx s1);go_simp;try with_reducible rfl)
   try simp only [Act.put,aO]
   refine tkP 23 ?_ ?_ ?_;rotate_left;focus (intro w;go_simp;try with_reducible rfl)
   try simp only [Act.put,aO]
   refine tkP 24 ?_ ?_ ?_;rotate_left;focus (intro w;go_simp;try with_reducible rfl)
   try simp only [Act.put,aO]
   refine tkY 25 ?_ ?_ ?_;rotate_left;focus (intro w hSw;(try dsimp only at hSw);obtain ⟨bx0,sx⟩:=hSw;have c0_0:=(bx0 0 _ rfl).1;have c0_1:=(bx0 1 _ rfl).1;have c0_2:=(bx0 2 _ rfl).1;have s_ps:=Ext.keep sx ps;have s_p0:=Ext.keep sx p0;have s_p1:=Ext.keep sx p1;have s_p2:=Ext.keep sx p2;have s_p3:=Ext.keep sx p3;have s_p4:=Ext.keep sx p4;have s_p5:=Ext.keep sx p5;(try have s_s1:=Ext.keep sx s1);go_simp;try with_reducible rfl)
   try simp only [Act.put,aO]
   refine tkP 26 ?_ ?_ ?_;rotate_left;focus (intro w;go_simp;try with_reducible rfl)
   try simp only [Act.put,aO]
   refine tkP 27 ?_ ?_ ?_;rotate_left;focus (intro w;go_simp;try with_reducible rfl)
   try simp only [Act.put,aO]
   refine tkP 28 ?_ ?_ ?_;rotate_left;focus (intro w;go_simp;try with_reducible rfl)
   try simp only [Act.put,aO]
   refine tkP 29 ?_ ?_ ?_;rotate_left;focus (intro w;go_simp;try with_reducible rfl)
   try simp only [Act.put,aO]
   refine tkY 30 ?_ ?_ ?_;rotate_left;focus (intro w hSw;(try dsimp only at hSw);obtain ⟨bx0,sx⟩:=hSw;have c0_0:=(bx0 0 _ rfl).1;have c0_1:=(bx0 1 _ rfl).1;have c0_2:=(bx0 2 _ rfl).1;have s_ps:=Ext.keep sx ps;have s_p0:=Ext.keep sx p0;have s_p1:=Ext.keep sx p1;have s_p2:=Ext.keep sx p2;have s_p3:=Ext.keep sx p3;have s_p4:=Ext.keep sx p4;have s_p5:=Ext.keep sx p5;(try have s_s1:=Ext.keep sx s1);go_simp;try with_reducible rfl)
   try simp only [Act.put,aO]
   refine tkP 31 ?_ ?_ ?_;rotate_left;focus (intro w;go_simp;try with_reducible rfl)
   try simp only [Act.put,aO]
   refine wpAnyH_ready (rs:=[32]) (by kernel_rfl) (by simp) ?_
   refine AllReadyH.cons rfl (fun K hK=>?_) AllReadyH.nil
   (try simp only [aO])
   go_simp
   (have hSw:=hHeld;(try dsimp only at hSw);obtain ⟨bx0,sx⟩:=hSw;have c0_0:=(bx0 0 _ rfl).1;have c0_1:=(bx0 1 _ rfl).1;have c0_2:=(bx0 2 _ rfl).1;have s_ps:=Ext.keep sx ps;have s_p0:=Ext.keep sx p0;have s_p1:=Ext.keep sx p1;have s_p2:=Ext.keep sx p2;have s_p3:=Ext.keep sx p3;have s_p4:=Ext.keep sx p4;have s_p5:=Ext.keep sx p5;(try have s_s1:=Ext.keep sx s1);have s_hV:=hV.ext jF.keeps sx;have s_hB:=gT.keeps _ _ _ _ _ _ (fb.ext sx) hB;have s_hLV:=hLV.ext fg.keeps sx;go_at_call 156;(refine (cG lo' hi' (fun l=>!(eq b l)) 171 #[.pointer (some ⟨W0.heap.size,0,none⟩)] _ _ _ s_hLV eg1 (fun j hj cs W hW hP=>iG lo' hi' W0.heap.size _ b _ W (gT.keeps _ _ _ _ _ _ (fb.ext hW) s_hB) HE.out hol (fun j u hj=>hW.keep (sx.keep (hX1.keep (HBB.out j u hj)))))).mono ?_);rintro e y ⟨rfl,hb⟩;rw [Hk.out])
   show K _ _
   refine hK.out _ _ (by (have hh:=hHeld;(try dsimp only at hh);exact ⟨hh.1.ext hb,hh.2.trans hb⟩)) (fun hHeld=>?_)
   clear hK K
   try simp only [Act.put,aO]
   refine tkP 33 ?_ ?_ ?_;rotate_left;focus (intro w;go_simp;try with_reducible rfl)
   try simp only [Act.put,aO]
   refine wpAnyH_done (by kernel_rfl) ?_ _
   all_goals go_wp2
   all_goals go_roundw
   case rel=>exact ⟨i+1,rfl,by omega,by rw [HS.out,HOK.out,HG.out];rfl,xw⟩
   all_goals (simp only [intOf];omega)
  ·have e:i=b.nodes.length:=by omega
   subst e
   have hC:=nM HOK.out
   replace hS:=hS.ext fg.keeps hx
   replace hI:=hI.ext WrP.keeps hx
   have HSA:=Lib.hid (Cu sig b)
   have HWA:=Lib.hid (CZ b)
   have hans:aF sig b=(b.sites.all (gx sig b) && b.inner.all (gG b)):=by unfold aF;rw [HH.out,HOK.out];rfl
   have HN:=Lib.hid hans
   clear hans eg1
   have Hx:=Lib.hid trivial
   cases hz:b.sites.any (fun p=>!(di sig b p b.nodes.length))
   have Hz:=Lib.hid hz;clear hz
   cases hx:b.inner.any (fun x=>!(eq b x.link))
   have Hx:=Lib.hid hx;clear hx
   have isF:=trivial
   rotate_left
   have Hx:=Lib.hid hx;clear hx
   have isP:=trivial
   rotate_left
   have Hz:=Lib.hid hz;clear hz
   have isP:=trivial
   all_goals go_wp2_with (first|(go_at_call 174;(refine (dH lo' hi' (fun x=>!(eq b x.link)) 175 #[.pointer (some ⟨W0.heap.size,0,none⟩)] _ _ _ hI eg3 (fun j hj cs W hW hP=>mf lo' hi' W0.heap.size _ b cs _ W (gT.keeps _ _ _ _ _ _ (fb.ext hW) hB) HE.out hol (fun j u hj=>hW.keep (hb.keep (hX1.keep (HBB.out j u hj)))) hP)).mono ?_);rintro e y ⟨rfl,hb⟩;rw [Hx.out];replace ps:=Ext.keep hb ps;replace p0:=Ext.keep hb p0;replace p1:=Ext.keep hb p1;replace p2:=Ext.keep hb p2;replace p3:=Ext.keep hb p3;replace p4:=Ext.keep hb p4;replace p5:=Ext.keep hb p5;replace hV:=hV.ext jF.keeps hb;replace hB:=gT.keeps _ _ _ _ _ _ (fb.ext hb) hB;replace hS:=hS.ext fg.keeps hb;replace hI:=hI.ext WrP.keeps hb)|(go_at_call 156;(refine (cG lo' hi' (fun p=>!(di sig b p b.nodes.length)) 173 #[.pointer (some ⟨W0.heap.size,0,none⟩),.pointer (some ⟨w.heap.size,0,none⟩)] _ _ _ hS eg2 (fun j hj cs W hW hP=>lO lo' hi' lo hi W0.heap.size w.heap.size _ sig _ b _ W (hV.ext jF.keeps hW) (gT.keeps _ _ _ _ _ _ (fb.ext hW) hB) hP.2 HR.out hC (fun j u hj=>hW.keep (hX1.keep (HBB.out j u hj))) (hW.keep ps))).mono ?_);rintro e y ⟨rfl,hb⟩;rw [Hz.out];replace ps:=Ext.keep hb ps;replace p0:=Ext.keep hb p0;replace p1:=Ext.keep hb p1;replace p2:=Ext.keep hb p2;replace p3:=Ext.keep hb p3;replace p4:=Ext.keep hb p4;replace p5:=Ext.keep hb p5;replace hV:=hV.ext jF.keeps hb;replace hB:=gT.keeps _ _ _ _ _ _ (fb.ext hb) hB;replace hS:=hS.ext fg.keeps hb;replace hI:=hI.ext WrP.keeps hb))
   all_goals first|(have:=isF;go_ret;exact ⟨aP (by rw [HN.out,pm HSA.out,pm HWA.out,Hz.out,Hx.out];rfl),xw⟩)|(have:=isP;go_ret;exact ⟨aP (by rw [HN.out];first|(rw [pm HSA.out,Hz.out];rfl)|(rw [pm HSA.out,pm HWA.out,Hz.out,Hx.out];rfl)),xw⟩)
end Go.Proofs.YtacafmejcdgboaaGreatDoor
