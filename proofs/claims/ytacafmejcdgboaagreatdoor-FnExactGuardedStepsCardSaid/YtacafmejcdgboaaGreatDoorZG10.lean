/-
  Proved facts that the law leans on.
-/
import Derived.Test.YtacafmejcdgboaaGreatDoorZG4
import Derived.Test.YtacafmejcdgboaaGreatDoorZG5
import Derived.Test.YtacafmejcdgboaaGreatDoorZG6
import Derived.Test.YtacafmejcdgboaaGreatDoorZG8
namespace Go.Proofs.YtacafmejcdgboaaGreatDoor
open Go.RowKit
set_option linter.unusedVariables false
set_option maxRecDepth 100000
set_option maxHeartbeats 1000000
attribute [local irreducible] ar Der At
theorem jG (l:List Int) (n:Int):FnD Tryz.prog 199 [DI l,.i n] (.d (.b (dP l n))):=by
 refine ah Tryz.func199 (fun hw W0=>?_)
 have hl:=(wfM hw.1).1
 refine kgo ?_
 refine ai [0,1] (fun i:Nat=>i≤l.length∧(l.take i).any (fun x=>x == n)=false) (fun i=>l.length - i) (fun i=>[(5,.sy (.d (.i i)))]) 0 ⟨Nat.zero_le _,rfl⟩ (fun i hi=>?_)
 refine kgo ?_
 refine cIf (fun h=>?_) (fun h=>?_)
 ·have h:=of_decide_eq_true h
  have hlt:i<l.length:=by omega
  refine kgo ?_
  refine cIf (fun h2=>?_) (fun h2=>?_)
  ·have h2:=of_decide_eq_true h2
   refine kgo ?_
   rw [show dP l n=true from tt _ _ i hlt (by simp [h2])]
   exact aq
  ·have h2:=of_decide_eq_false h2
   refine kgo ?_
   exact af (i+1) ⟨hlt,by rw [fE _ l i hlt,hi.2];simpa using h2⟩ (by omega)
 ·have h:=of_decide_eq_false h
  refine kgo ?_
  rw [show dP l n=false from by unfold dP;rw [← hi.2,List.take_of_length_le (by omega)]]
  exact aq
theorem zO (m:Int) (n:Nat) (hn:n≤1000) (hm : -1000≤m∧m≤1000):FnD Tryz.prog 316 [.i m,.i n] (.row 1 3 ((cV m n).map .i)):=by
 refine ah Tryz.func316 (fun hw W0=>?_)
 refine kgo ?_
 refine ai [0,1] (fun i:Nat=>i≤n) (fun i=>n - i) (fun i=>[(5,.sy (.k 10007)),(10007,.tk (.row 1 3 ((cV m i).map .i))),(6,.sy (.d (.i i)))]) 0 (Nat.zero_le _) (fun i hi=>?_)
 refine kgo ?_
 refine cIf (fun h=>?_) (fun h=>?_)
 ·have h:=of_decide_eq_true h
  have hs:(cV m (i+1)).map D.i=(cV m i).map D.i++[.i (-1 - m - i)]:=by rw [yr,List.map_append];rfl
  have hl:=ly m i
  refine kgo ?_
  exact af (i+1) (by omega) (by omega)
 ·have h:=of_decide_eq_false h
  refine kgo ?_
  rw [show i=n by omega]
  exact pt
theorem AI (m:Int) (n:Nat) (hn:n≤1000) (hm : -1000≤m∧m≤1000):FnD Tryz.prog 209 [.i m,.i n] (.row 1 3 ((eN m n).map .i)):=by
 refine ah Tryz.func209 (fun hw W0=>?_)
 refine kgo ?_
 refine eG (fun i:Nat=>i≤n) (fun i=>n - i) (fun i=>[(0,.sy (.d (.i m))),(1,.sy (.d (.i n))),(5,.sy (.k 10007)),(10007,.tk (.row 1 3 ((eN m i).map .i))),(6,.sy (.d (.i i)))]) 0 (Nat.zero_le _) (fun i hi=>?_)
 refine kgo ?_
 refine cIf (fun h=>?_) (fun h=>?_)
 ·have h:=of_decide_eq_true h
  have hs:(eN m (i+1)).map D.i=(eN m i).map D.i++[.i (m+i)]:=by rw [yE,List.map_append];rfl
  have hl:=eF m i
  refine kgo ?_
  exact af (i+1) (by omega) (by omega)
 ·have h:=of_decide_eq_false h
  refine kgo ?_
  rw [show i=n by omega]
  exact pt
end Go.Proofs.YtacafmejcdgboaaGreatDoor
namespace Go.Proofs.YtacafmejcdgboaaGreatDoor
open Go.RowKit
set_option linter.unusedVariables false
set_option maxRecDepth 100000
set_option maxHeartbeats 1000000
attribute [local irreducible] ar Der At
theorem vj {l:List ByteArray} {s:ByteArray} {i:Nat} (h:i<l.length) (he:(l[i].toList == s.toList)=true) (hn:∀j (h:j<i),((l[j]'(by omega)).toList == s.toList)=false):jx l s=i:=by
 unfold jx
 rw [if_pos (List.any_eq_true.2 ⟨_,List.getElem_mem h,he⟩)]
 have:l.findIdx (fun x=>x.toList == s.toList)=i:=(List.findIdx_eq h).2 ⟨he,fun j hj=>by simpa using hn j hj⟩
 rw [this]
theorem AV {l:List ByteArray} {s:ByteArray} (hn:∀j (h:j<l.length),(l[j].toList == s.toList)=false):jx l s = -1:=by
 unfold jx
 rw [if_neg]
 rw [List.any_eq_true]
 rintro ⟨x,hx,he⟩
 obtain ⟨j,hj,rfl⟩:=List.mem_iff_getElem.1 hx
 rw [hn j hj] at he;cases he
theorem aJ {sig:List Ctl} {b:Big} (h:aF sig b=true):(0≤b.roots∧b.roots≤4)∧b.nodes.length≤8∧b.sites.length≤4∧(0≤b.edges∧b.edges≤8)∧b.outer.length≤16∧b.inner.length≤16:=by
 obtain ⟨_,h1,h2,h3,h4,h5,h6⟩:=eU (ee h).1
 have:=fV h6
 rw [List.length_map] at this
 exact ⟨bK h1,h2,h3,bK h4,fV h5,this⟩
theorem de (f:Nat→Bool) (n:Nat):(idxOf f n).length≤n:=by
 unfold idxOf
 rw [List.length_map]
 exact Nat.le_trans (List.length_filter_le _ _) (by simp)
theorem kA {sig:List Ctl} {a:Big} (hB:aF sig a=true) (m:Mat) (p0:Int) (hp:p0<a.nodes.length):FnD Tryz.prog 201 [a.D,m.D,.i p0] (.d (.b (gV a m.nodes p0))):=by
 refine ah Tryz.func201 (fun hw W0=>?_)
 refine kgo ?_
 refine eG (fun p:Int=>p<a.nodes.length∧gV a m.nodes p0=gV a m.nodes p) (fun p=>(p+1).toNat) (fun p=>[(2,.sy (.d (.i p))),(3,.sy (.bx 10003 0)),(10003,.tk (.bx (iu a.D))),(4,.sy (.bx 10004 0)),(10004,.tk (.bx (iu m.D)))]) p0 ⟨hp,rfl⟩ (fun p hi=>?_)
 refine kgo ?_
 refine cIf (fun h=>?_) (fun h=>?_)
 ·have h:=of_decide_eq_true h
  obtain ⟨k,rfl⟩:=Int.eq_ofNat_of_zero_le h
  have hk:k<a.nodes.length:=by omega
  have hs:gV a m.nodes k=(dP m.nodes k || gV a m.nodes (a.nodes[k]).parent):=eQ hB _ k hk
  have hu:=iI hB k hk
  have f1:=jG m.nodes k
  refine kgo ?_
  refine cIf (fun h2=>?_) (fun h2=>?_)
  ·refine kgo ?_
   rw [hi.2,hs,h2]
   exact aq
  ·refine kgo ?_
   exact af (a.nodes[k]).parent ⟨by omega,by rw [hi.2,hs,h2];rfl⟩ (by omega)
 ·have h:=of_decide_eq_false h
  refine kgo ?_
  rw [hi.2,show gV a m.nodes p=false from eh _ _ (by omega)]
  exact aq
theorem FB {sig:List Ctl} {b:Big} (hB:aF sig b=true) (p0:Int) (hp:p0<b.nodes.length):FnD Tryz.prog 259 [b.D,.i p0] (.d (.i (Ak b p0))):=by
 refine ah Tryz.func259 (fun hw W0=>?_)
 refine kgo ?_
 refine eG (fun p:Int=>p<b.nodes.length∧Ak b p0=Ak b p) (fun p=>(p+1).toNat) (fun p=>[(1,.sy (.d (.i p))),(2,.sy (.bx 10002 0)),(10002,.tk (.bx (iu b.D)))]) p0 ⟨hp,rfl⟩ (fun p hi=>?_)
 refine kgo ?_
 refine cIf (fun h=>?_) (fun h=>?_)
 ·have h:=of_decide_eq_true h
  obtain ⟨k,rfl⟩:=Int.eq_ofNat_of_zero_le h
  have hk:k<b.nodes.length:=by omega
  have hu:=iI hB k hk
  refine kgo ?_
  exact af (b.nodes[k]).parent ⟨by omega,by rw [hi.2,pi hB k hk]⟩ (by omega)
 ·have h:=of_decide_eq_false h
  refine kgo ?_
  rw [hi.2,nJ b (by omega)]
  exact aq
theorem zk {sig:List Ctl} {b:Big} (hB:aF sig b=true) (r:Int):FnD Tryz.prog 215 [b.D,.i r] (.row 1 3 ((pr b r).map .i)):=by
 have hn:=(aJ hB).2.1
 refine ah Tryz.func215 (fun hw W0=>?_)
 refine kgo ?_
 refine eG (fun i:Nat=>i≤b.nodes.length) (fun i=>b.nodes.length - i) (fun i=>[(1,.sy (.d (.i r))),(2,.sy (.bx 10002 0)),(10002,.tk (.bx (iu b.D))),(5,.sy (.k 10007)),(10007,.tk (.row 1 3 ((idxOf (iJ b r) i).map .i))),(6,.sy (.d (.i i)))]) 0 (Nat.zero_le _) (fun i hi=>?_)
 refine kgo ?_
 refine cIf (fun h=>?_) (fun h=>?_)
 ·have h:=of_decide_eq_true h
  have hlt:i<b.nodes.length:=by omega
  have hu:=iI hB i hlt
  have f1:=FB hB (b.nodes[i]).parent (by omega)
  have hf:=oB b r i hlt
  have hl:=de (iJ b r) i
  refine kgo ?_
  refine cIf (fun h2=>?_) (fun h2=>?_)
  ·have hs:(idxOf (iJ b r) (i+1)).map D.i=(idxOf (iJ b r) i).map D.i++[.i i]:=by rw [dg (hf.trans h2),List.map_append];rfl
   refine kgo ?_
   exact af (i+1) (by omega) (by omega)
  ·have hs:(idxOf (iJ b r) (i+1)).map D.i=(idxOf (iJ b r) i).map D.i:=by rw [eJ (hf.trans h2)]
   refine kgo ?_
   exact af (i+1) (by omega) (by omega)
 ·have h:=of_decide_eq_false h
  refine kgo ?_
  rw [show i=b.nodes.length by omega]
  exact pt
theorem wt (l:List ByteArray) (s:ByteArray):FnD Tryz.prog 208 [DS l,.s s] (.d (.i (jx l s))):=by
 refine ah Tryz.func208 (fun hw W0=>?_)
 have hl:=(wfM hw.1).1
 refine kgo ?_
 refine eG (fun i:Nat=>i≤l.length∧∀j (h:j<l.length),j<i→(l[j].toList == s.toList)=false) (fun i=>l.length - i) (fun i=>[(0,.sy (.d (DS l))),(1,.sy (.d (.s s))),(5,.sy (.d (.i i)))]) 0 ⟨Nat.zero_le _,fun j _ h=>absurd h (Nat.not_lt_zero _)⟩ (fun i hi=>?_)
 refine kgo ?_
 refine cIf (fun h=>?_) (fun h=>?_)
 ·have h:=of_decide_eq_true h
  have hlt:i<l.length:=by omega
  refine kgo ?_
  refine cIf (fun h2=>?_) (fun h2=>?_)
  ·refine kgo ?_
   rw [vj hlt h2 (fun j hj=>hi.2 j (by omega) hj)]
   exact aq
  ·refine kgo ?_
   exact af (i+1) ⟨hlt,fun j h1 h3=>by
    rcases Nat.lt_or_ge j i with h4|h4
    ·exact hi.2 j h1 h4
    ·rw [show l[j]=l[i] from by congr 1;omega];exact h2⟩ (by omega)
 ·have h:=of_decide_eq_false h
  refine kgo ?_
  rw [AV (fun j h1=>hi.2 j h1 (by omega))]
  exact aq
end Go.Proofs.YtacafmejcdgboaaGreatDoor
namespace Go.Proofs.YtacafmejcdgboaaGreatDoor
open Go.RowKit
set_option linter.unusedVariables false
set_option maxRecDepth 100000
set_option maxHeartbeats 1000000
attribute [local irreducible] ar Der At
theorem zf {sig:List Ctl} {a:Big} (hB:aF sig a=true) (p0:Int) (hp:p0<a.nodes.length):FnD Tryz.prog 140 [.l 3 (sig.map Ctl.D),a.D,.i p0] (.d (.b (k8 sig a p0))):=by
 refine ah Tryz.func140 (fun hw W0=>?_)
 refine kgo ?_
 refine eG (fun p:Int=>p<a.nodes.length∧k8 sig a p0=k8 sig a p) (fun p=>(p+1).toNat) (fun p=>[(0,.sy (.d (.l 3 (sig.map Ctl.D)))),(2,.sy (.d (.i p))),(4,.sy (.bx 10004 0)),(10004,.tk (.bx (iu a.D)))]) p0 ⟨hp,rfl⟩ (fun p hi=>?_)
 refine kgo ?_
 refine cIf (fun h=>?_) (fun h=>?_)
 ·have h:=of_decide_eq_true h
  obtain ⟨k,rfl⟩:=Int.eq_ofNat_of_zero_le h
  have hk:k<a.nodes.length:=by omega
  have hs:k8 sig a k=(rK sig a k || k8 sig a (a.nodes[k]).parent):=eQ hB _ k hk
  have hu:=iI hB k hk
  obtain ⟨c0,c1,_⟩:=eW hB k hk
  obtain ⟨j,hj⟩:=Int.eq_ofNat_of_zero_le c0
  have hjl:j<sig.length:=by omega
  have hpf:rK sig a k=decide ((sig[j]).kind=1):=by unfold rK;rw [aD a k hk,hj,jb sig j hjl]
  refine kgo ?_
  refine dm (n:=j) (fun _=>?_) rfl rfl (congrArg some hj)
  refine kgo ?_
  refine cIf (fun h2=>?_) (fun h2=>?_)
  ·refine kgo ?_
   rw [hi.2,hs,hpf,h2]
   exact aq
  ·refine kgo ?_
   exact af (a.nodes[k]).parent ⟨by omega,by rw [hi.2,hs,hpf,h2];rfl⟩ (by omega)
 ·have h:=of_decide_eq_false h
  refine kgo ?_
  rw [hi.2,show k8 sig a p=false from eh _ _ (by omega)]
  exact aq
theorem xL {sig:List Ctl} {a:Big} (hB:aF sig a=true) (m:Mat) (hr:∀p∈m.roots,p<(a.nodes.length:Int)):FnD Tryz.prog 92 [.l 3 (sig.map Ctl.D),a.D,m.D] (.d (.b (kj sig a m.roots))):=by
 refine ah Tryz.func92 (fun hw W0=>?_)
 have hl:=(wfM hw.2.2.1.2.1).1
 refine kgo ?_
 refine eG (fun i:Nat=>i≤m.roots.length∧(m.roots.take i).all (fun p=>!k8 sig a p)=true) (fun i=>m.roots.length - i) (fun i=>[(0,.sy (.d (.l 3 (sig.map Ctl.D)))),(4,.sy (.bx 10004 0)),(10004,.tk (.bx (iu a.D))),(5,.sy (.bx 10005 0)),(10005,.tk (.bx (iu m.D))),(7,.sy (.d (.i i)))]) 0 ⟨Nat.zero_le _,rfl⟩ (fun i hi=>?_)
 refine kgo ?_
 refine cIf (fun h=>?_) (fun h=>?_)
 ·have h:=of_decide_eq_true h
  have hlt:i<m.roots.length:=by omega
  have f1:=zf hB m.roots[i] (hr _ (List.getElem_mem hlt))
  refine kgo ?_
  refine cIf (fun h2=>?_) (fun h2=>?_)
  ·refine kgo ?_
   rw [show kj sig a m.roots=false from List.all_eq_false.2 ⟨_,List.getElem_mem hlt,by simp [h2]⟩]
   exact aq
  ·refine kgo ?_
   exact af (i+1) ⟨hlt,by rw [List.take_succ_eq_append_getElem hlt,List.all_append,hi.2];simp [h2]⟩ (by omega)
 ·have h:=of_decide_eq_false h
  refine kgo ?_
  rw [show kj sig a m.roots=true from by rw [← hi.2,List.take_of_length_le (by omega)];rfl]
  exact aq
def dW (a:Big) (ns:List Int) (n:Nat):List Bool:=(List.range n).map (mw a ns)
theorem uT (a:Big) (ns:List Int) (n:Nat):dW a ns (n+1)=dW a ns n++[mw a ns n]:=by unfold dW;rw [List.range_succ,List.map_append];rfl
theorem lR {sig:List Ctl} {a:Big} (hB:aF sig a=true) (m:Mat):FnD Tryz.prog 205 [a.D,m.D] (.d (.l 1 ((dW a m.nodes a.nodes.length).map .b))):=by
 have hn:=(aJ hB).2.1
 refine ah Tryz.func205 (fun hw W0=>?_)
 refine kgo ?_
 refine eG (fun i:Nat=>i≤a.nodes.length) (fun i=>a.nodes.length - i) (fun i=>[(2,.sy (.bx 10002 0)),(10002,.tk (.bx (iu a.D))),(3,.sy (.bx 10003 0)),(10003,.tk (.bx (iu m.D))),(5,.sy (.k 10007)),(10007,.tk (.row 1 4 ((dW a m.nodes i).map .b))),(6,.sy (.d (.i i)))]) 0 (Nat.zero_le _) (fun i hi=>?_)
 refine kgo ?_
 refine cIf (fun h=>?_) (fun h=>?_)
 ·have h:=of_decide_eq_true h
  have hlt:i<a.nodes.length:=by omega
  have f1:=jG m.nodes i
  have f2:=kA hB m i (by omega)
  have hs:(dW a m.nodes (i+1)).map D.b=(dW a m.nodes i).map D.b++[.b (gV a m.nodes i && !dP m.nodes i)]:=by rw [uT,List.map_append];rfl
  have hl:(dW a m.nodes i).length=i:=by simp [dW]
  cases hc:dP m.nodes i
  ·rw [hc] at hs f1
   simp only [Bool.not_false,Bool.and_true] at hs
   refine kgo ?_
   exact af (i+1) (by omega) (by omega)
  ·rw [hc] at hs f1
   simp only [Bool.not_true,Bool.and_false] at hs
   refine kgo ?_
   exact af (i+1) (by omega) (by omega)
 ·have h:=of_decide_eq_false h
  refine kgo ?_
  rw [show i=a.nodes.length by omega]
  exact Jm
end Go.Proofs.YtacafmejcdgboaaGreatDoor
namespace Go.Proofs.YtacafmejcdgboaaGreatDoor
open Go.RowKit
set_option linter.unusedVariables false
set_option maxRecDepth 100000
set_option maxHeartbeats 1000000
attribute [local irreducible] ar Der At
theorem pS (p by':Int) (ps:List Int) (hok:Ek by' ps p) (hb : -1000≤by'∧by'≤1000):FnD Tryz.prog 348 [.i p,.i by',DI ps] (.d (.i (upF by' ps p))):=by
 refine ah Tryz.func348 (fun hw W0=>?_)
 have h1:=hw.1
 have h2:=(wfM hw.2.2.1).1
 unfold Wf I64 at h1
 unfold Ek at hok
 refine kgo ?_
 refine cIf (fun h=>?_) (fun h=>?_)
 ·have h:=of_decide_eq_true h
  refine kgo ?_
  rw [show upF by' ps p=atI ps (-1 - p) from if_pos h]
  exact aq
 ·have h:=of_decide_eq_false h
  refine kgo ?_
  rw [show upF by' ps p=p+by' from if_neg h]
  exact aq
theorem lI (b:Big) (by':Int) (ps:List Int) (hl:b.sites.length≤1000) (hok:∀p∈b.sites,Ek by' ps p) (hb : -1000≤by'∧by'≤1000):FnD Tryz.prog 318 [b.D,.i by',DI ps] (.row 1 3 ((dv by' ps b.sites).map .i)):=by
 refine ah Tryz.func318 (fun hw W0=>?_)
 refine kgo ?_
 refine eG (fun i:Nat=>i≤b.sites.length) (fun i=>b.sites.length - i) (fun i=>[(1,.sy (.d (.i by'))),(2,.sy (.d (DI ps))),(3,.sy (.bx 10003 0)),(10003,.tk (.bx (iu b.D))),(7,.sy (.k 10009)),(10009,.tk (.row 1 3 ((dv by' ps (b.sites.take i)).map .i))),(8,.sy (.d (.i i)))]) 0 (Nat.zero_le _) (fun i hi=>?_)
 refine kgo ?_
 refine cIf (fun h=>?_) (fun h=>?_)
 ·have h:=of_decide_eq_true h
  have hlt:i<b.sites.length:=by omega
  have f1:=pS b.sites[i] by' ps (hok _ (List.getElem_mem hlt)) hb
  have hs:(dv by' ps (b.sites.take (i+1))).map D.i=(dv by' ps (b.sites.take i)).map D.i++[.i (upF by' ps b.sites[i])]:=by unfold dv;rw [List.take_succ_eq_append_getElem hlt,List.map_append,List.map_append];rfl
  have hq:(dv by' ps (b.sites.take i)).length≤1000:=by unfold dv;rw [List.length_map,List.length_take];omega
  refine kgo ?_
  exact af (i+1) hlt (by omega)
 ·have h:=of_decide_eq_false h
  refine kgo ?_
  rw [List.take_of_length_le (by omega)]
  exact pt
theorem nX (xs:List ByteArray) (m:Int) (ys:List ByteArray) (hl:xs.length≤1000) (hy:ys.length≤1000) (hm:0≤m∧m≤1000):FnD Tryz.prog 283 [DS xs,.i m,DS ys] (.row 1 3 ((dx xs m ys).map .i)):=by
 refine ah Tryz.func283 (fun hw W0=>?_)
 refine kgo ?_
 refine eG (fun i:Nat=>i≤xs.length) (fun i=>xs.length - i) (fun i=>[(0,.sy (.d (DS xs))),(1,.sy (.d (.i m))),(2,.sy (.d (DS ys))),(7,.sy (.k 10009)),(10009,.tk (.row 1 3 ((dx (xs.take i) m ys).map .i))),(8,.sy (.d (.i i)))]) 0 (Nat.zero_le _) (fun i hi=>?_)
 refine kgo ?_
 refine cIf (fun h=>?_) (fun h=>?_)
 ·have h:=of_decide_eq_true h
  have hlt:i<xs.length:=by omega
  have f1:=wt ys xs[i]
  have hr:=na ys xs[i]
  have hs:(dx (xs.take (i+1)) m ys).map D.i=(dx (xs.take i) m ys).map D.i++[.i (m+jx ys xs[i])]:=by rw [vC m ys i hlt,List.map_append];rfl
  have hq:(dx (xs.take i) m ys).length≤1000:=by unfold dx;rw [List.length_map,List.length_take];omega
  refine kgo ?_
  exact af (i+1) hlt (by omega)
 ·have h:=of_decide_eq_false h
  refine kgo ?_
  rw [List.take_of_length_le (by omega)]
  exact pt
theorem lM (b:Big) (by':Int) (ps ks:List Int) (hb : -1000≤by'∧by'≤1000) (hl:b.nodes.length≤1000) (hll:∀n∈b.nodes,n.links.length≤1000) (hok:∀n∈b.nodes,Ek by' ps n.parent) (hlk:∀n∈b.nodes,∀l∈n.links,0≤l∧l<(ks.length:Int)):FnD Tryz.prog 317 [b.D,.i by',DI ps,DI ks] (.row 3 151 ((cS by' ps ks b.nodes).map Nd.D)):=by
 refine ah Tryz.func317 (fun hw W0=>?_)
 refine kgo ?_
 refine eG (fun i:Nat=>i≤b.nodes.length) (fun i=>b.nodes.length - i) (fun i=>[(1,.sy (.d (.i by'))),(2,.sy (.d (DI ps))),(3,.sy (.d (DI ks))),(4,.sy (.bx 10004 0)),(10004,.tk (.bx (iu b.D))),(9,.sy (.k 10013)),(10013,.tk (.row 3 151 ((cS by' ps ks (b.nodes.take i)).map Nd.D))),(10,.sy (.d (.i i)))]) 0 (Nat.zero_le _) (fun i hi=>?_)
 refine kgo ?_
 refine cIf (fun h=>?_) (fun h=>?_)
 ·have h:=of_decide_eq_true h
  have hlt:i<b.nodes.length:=by omega
  have hm:=List.getElem_mem hlt
  have hq:(cS by' ps ks (b.nodes.take i)).length≤1000:=by unfold cS;rw [List.length_map,List.length_take];omega
  have hL:=hll _ hm
  have hK:=hlk _ hm
  refine kgo ?_
  refine eG (fun j:Nat=>j≤(b.nodes[i]).links.length) (fun j=>(b.nodes[i]).links.length - j) (fun j=>[(1,.sy (.d (.i by'))),(2,.sy (.d (DI ps))),(3,.sy (.d (DI ks))),(4,.sy (.bx 10004 0)),(10004,.tk (.bx (iu b.D))),(9,.sy (.k 10013)),(10013,.tk (.row 3 151 ((cS by' ps ks (b.nodes.take i)).map Nd.D))),(10,.sy (.d (.i i))),(11,.sy (.k 10021)),(10021,.tk (.row 1 3 ((ez ks ((b.nodes[i]).links.take j)).map .i))),(12,.sy (.d (.i j)))]) 0 (Nat.zero_le _) (fun j hj=>?_)
  refine kgo ?_
  refine cIf (fun h2=>?_) (fun h2=>?_)
  ·have h2:=of_decide_eq_true h2
   have hjl:j<(b.nodes[i]).links.length:=by omega
   have hk2:=hK _ (List.getElem_mem hjl)
   have hs:(ez ks ((b.nodes[i]).links.take (j+1))).map D.i=(ez ks ((b.nodes[i]).links.take j)).map D.i++[.i (atI ks (b.nodes[i]).links[j])]:=by rw [oU ks j hjl,List.map_append];rfl
   have hq2:(ez ks ((b.nodes[i]).links.take j)).length≤1000:=by unfold ez;rw [List.length_map,List.length_take];omega
   refine kgo ?_
   exact af (j+1) hjl (by omega)
  ·have h2:=of_decide_eq_false h2
   rw [show (b.nodes[i]).links.take j=(b.nodes[i]).links from List.take_of_length_le (by omega)]
   have f1:=pS (b.nodes[i]).parent by' ps (hok _ hm) hb
   have hs:(cS by' ps ks (b.nodes.take (i+1))).map Nd.D=(cS by' ps ks (b.nodes.take i)).map Nd.D++[Nd.D ⟨(b.nodes[i]).control,upF by' ps (b.nodes[i]).parent,ez ks (b.nodes[i]).links⟩]:=by rw [uf by' ps ks i hlt,List.map_append];rfl
   repeat (first|(refine cy ?_;first|refine aV ?_|refine bY ?_|refine aY ?_|refine aZ ?_|refine aS ?_|refine bg ?_|refine bi ?_|refine ay ?_|refine be ?_)|(refine fo ?_;first|refine bQ ?_|refine eZ ?_|refine cr ?_|refine b8 ?_)|(refine fa ?_;first|refine dm (fun _=>?_)|refine b9 ?_|refine cm ?_|refine bG ?_|refine cw ?_|refine ck ?_)|(refine fh ?_;first|refine cg ?_|refine eB ?_|refine bT ?_|refine bI ?_|refine cq ?_|refine bV ?_|refine bZ ?_)|(refine fe ?_;first|refine fl ?_|refine eS ?_|refine cd ?_|refine bP ?_|refine fq ?_|refine bl ?_|refine bo ?_)|(refine cu ?_;first|refine aX ?_|refine ch ?_)|(refine ff ?_;first|refine cj ?_|refine ct ?_|refine ft ?_)|(refine cf ?_;first|refine ca ?_|refine bd ?_|refine aQ ?_|refine ba ?_|refine aU ?_|refine bh ?_)|(refine fc ?_;first|refine b7 ?_|refine eY ?_|refine bj ?_|refine aR ?_|refine bm ?_)|(refine aI ?_;first|refine au _ ?_|refine bf ?_|refine aA ?_|refine av ?_|refine ax ?_)|(refine fu ?_;first|refine cb ?_|refine bH ?_|refine bX ?_)|(refine gOp ?_;first|refine fd ?_|refine fm ?_|refine bc ?_|refine fp ?_|refine fj ?_|refine bU ?_|refine aT ?_|refine co ?_|refine fw ?_|refine bM ?_|refine b6 ?_|refine bk ?_|refine sFz 64 ?_|refine az ?_|refine bW ?_|refine sNo ?_|refine dO ?_|refine aw ?_)|refine dZ ?_|refine cN ?_|refine fB ?_|refine bp ?_|refine cz ?_|refine bB ?_|refine fC ?_|refine fI ?_|refine fx ?_|refine df ?_|refine cC ?_|refine aN ?_|refine aB ?_|refine bq ?_|refine ci ?_|refine bC ?_|refine aBlkX ?_|refine cA ?_|refine sFz 64 ?_)
   exact af (i+1) hlt (by omega)
 ·have h:=of_decide_eq_false h
  refine kgo ?_
  rw [List.take_of_length_le (by omega)]
  exact pt
theorem n9 (b:Big) (ps:List Int) (hok:∀x∈b.inner,0≤x.link∧x.link<(ps.length:Int)) (hl:b.inner.length≤1000):FnD Tryz.prog 319 [b.D,DI ps] (.row 2 153 ((dw ps b.inner).map Wr.D)):=by
 refine ah Tryz.func319 (fun hw W0=>?_)
 refine kgo ?_
 refine eG (fun i:Nat=>i≤b.inner.length) (fun i=>b.inner.length - i) (fun i=>[(1,.sy (.d (DI ps))),(2,.sy (.bx 10002 0)),(10002,.tk (.bx (iu b.D))),(5,.sy (.k 10007)),(10007,.tk (.row 2 153 ((dw ps (b.inner.take i)).map Wr.D))),(6,.sy (.d (.i i)))]) 0 (Nat.zero_le _) (fun i hi=>?_)
 refine kgo ?_
 refine cIf (fun h=>?_) (fun h=>?_)
 ·have h:=of_decide_eq_true h
  have hlt:i<b.inner.length:=by omega
  have hk:=hok _ (List.getElem_mem hlt)
  have hb:(dw ps (b.inner.take i)).length≤1000:=by unfold dw;rw [List.length_map,List.length_take];omega
  have hs:(dw ps (b.inner.take (i+1))).map Wr.D=(dw ps (b.inner.take i)).map Wr.D++[Wr.D ⟨(b.inner[i]).name,atI ps (b.inner[i]).link⟩]:=by rw [ux ps i hlt,List.map_append];rfl
  refine kgo ?_
  exact af (i+1) hlt (by omega)
 ·have h:=of_decide_eq_false h
  refine kgo ?_
  rw [List.take_of_length_le (by omega)]
  exact pt
theorem qU (l:List Int) (hl:l.length≤1000):FnD Tryz.prog 216 [DI l] (.row 1 3 (l.map .i)):=by
 refine ah Tryz.func216 (fun hw W0=>?_)
 refine kgo ?_
 exact pt
theorem jI (b:Big) (hl:b.inner.length≤1000):FnD Tryz.prog 130 [b.D] (.d (DS (b.inner.map Wr.name))):=by
 refine ah Tryz.func130 (fun hw W0=>?_)
 refine kgo ?_
 refine eG (fun i:Nat=>i≤b.inner.length) (fun i=>b.inner.length - i) (fun i=>[(1,.sy (.bx 10001 0)),(10001,.tk (.bx (iu b.D))),(3,.sy (.k 10005)),(10005,.tk (.row 1 9 (((b.inner.take i).map Wr.name).map .s))),(4,.sy (.d (.i i)))]) 0 (Nat.zero_le _) (fun i hi=>?_)
 refine kgo ?_
 refine cIf (fun h=>?_) (fun h=>?_)
 ·have h:=of_decide_eq_true h
  have hlt:i<b.inner.length:=by omega
  have hs:((b.inner.take (i+1)).map Wr.name).map D.s=((b.inner.take i).map Wr.name).map D.s++[.s (b.inner[i]).name]:=by rw [List.take_succ_eq_append_getElem hlt,List.map_append,List.map_append];rfl
  refine kgo ?_
  exact af (i+1) hlt (by omega)
 ·have h:=of_decide_eq_false h
  refine kgo ?_
  rw [List.take_of_length_le (by omega)]
  exact Jm
theorem tj (xs ys:List ByteArray):FnD Tryz.prog 280 [DS xs,DS ys] (.d (.b (iy xs ys))):=by
 refine ah Tryz.func280 (fun hw W0=>?_)
 have hl:=(wfM hw.1).1
 refine kgo ?_
 refine eG (fun i:Nat=>i≤xs.length∧(xs.take i).all (fun s=>!ys.any fun x=>x.toList == s.toList)=true) (fun i=>xs.length - i) (fun i=>[(0,.sy (.d (DS xs))),(1,.sy (.d (DS ys))),(5,.sy (.d (.i i)))]) 0 ⟨Nat.zero_le _,rfl⟩ (fun i hi=>?_)
 refine kgo ?_
 refine cIf (fun h=>?_) (fun h=>?_)
 ·have h:=of_decide_eq_true h
  have hlt:i<xs.length:=by omega
  have f1:=wt ys xs[i]
  have hp:=qR ys xs[i]
  refine kgo ?_
  refine cIf (fun h2=>?_) (fun h2=>?_)
  ·refine kgo ?_
   rw [show iy xs ys=false from List.all_eq_false.2 ⟨_,List.getElem_mem hlt,by rw [← hp,h2];simp⟩]
   exact aq
  ·refine kgo ?_
   exact af (i+1) ⟨hlt,by rw [List.take_succ_eq_append_getElem hlt,List.all_append,hi.2,List.all_cons,← hp,h2];rfl⟩ (by omega)
 ·have h:=of_decide_eq_false h
  refine kgo ?_
  rw [show iy xs ys=true from by rw [← hi.2,List.take_of_length_le (by omega)];rfl]
  exact aq
end Go.Proofs.YtacafmejcdgboaaGreatDoor
namespace Go.Proofs.YtacafmejcdgboaaGreatDoor
open Go.RowKit
set_option linter.unusedVariables false
set_option linter.unusedSimpArgs false
set_option maxRecDepth 100000
set_option maxHeartbeats 4000000
theorem JL {P:Program} {ops:Array Oper} {W0:bN} {N:Nat} {Fin:Us→Env→Prop} {os:List Oper} {us:Us} {pk fk:List Nat} {σ:Env} {d ty:Nat} {pos:String} {after:Array Edge} {op:Op} {j d':Nat} {want:Bool} (h:Der P ops W0 N Fin os (us++[((d :: [d'])++pk,([d])++fk)]) [] [] ((d,.sy (.v undef)) :: σ)) (hj:(ops[j]?).bind (·.dst)=some d':=by rfl) (hu:aj σ d'=some (.sy (.v undef)):=by rfl) (hN:Nat.blt d N=true:=by rfl) (hs:aE σ d=true:=by rfl):Der P ops W0 N Fin (⟨some d,op,ty,pos,after,some (j,want)⟩ :: os) us pk fk σ:=by
 refine ⟨d :: [d'],[(d,.sy (.v undef))],fun σ' a w hk hh=>.inr ⟨?_,?_⟩,h⟩
 ·obtain ⟨c,hc⟩:=hh
  obtain ⟨v,h1,h2⟩:=hc.tmp d' _ ((hk d' (by simp)).trans hu)
  have:v=undef:=h2
  subst this
  show (yielded ops a.tmps j == some want)=false
  unfold yielded
  rw [hj]
  simp only [Option.bind_some,h1]
  rfl
 ·obtain ⟨c,hc⟩:=hh
  exact ⟨c,hc.put (Nat.blt_eq.mp hN) rfl (by rw [hk d (by simp)];exact iR hs)⟩
attribute [local irreducible] ar Der At
theorem o9 (n lo hi:Int):FnD Tryz.prog 90 [.i n,.i lo,.i hi] (.d (.b (inR n lo hi))):=by
 refine ah Tryz.func90 (fun hw W0=>?_)
 refine kgo ?_
 cases h:decide (lo≤n)
 ·refine kgo ?_
  rw [show inR n lo hi=false from by unfold inR;rw [h];rfl]
  exact aq
 ·refine kgo ?_
  rw [show inR n lo hi=decide (n≤hi) from by unfold inR;rw [h];rfl]
  exact aq
attribute [local irreducible] inR dp cQ kV dj di eq gx gG rJ
theorem w4 (b:Big) (l:Int) (he:0≤b.edges∧b.edges≤8) (ho:b.outer.length≤1000):FnD Tryz.prog 133 [b.D,.i l] (.d (.b (eq b l))):=by
 have f1:=o9 l 0 (b.edges+b.outer.length - 1)
 rw [show eq b l=inR l 0 (b.edges+b.outer.length - 1) by unfold eq;rfl]
 refine ah Tryz.func133 (fun hw W0=>?_)
 refine kgo ?_
 exact aq
theorem rT (sig:List Ctl) (b:Big) (p below:Int) (hr:0≤b.roots∧b.roots≤4) (hb:below≤b.nodes.length) (hC:zH sig b below):FnD Tryz.prog 132 [.l 3 (sig.map Ctl.D),b.D,.i p,.i below] (.d (.b (di sig b p below))):=by
 refine ah Tryz.func132 (fun hw W0=>?_)
 have hp:I64 p:=hw.2.2.1
 refine kgo ?_
 refine aL (fun h=>?_) (fun h=>?_)
 ·have f1:=o9 (-1 - p) 0 (b.roots - 1)
  rw [← tM h hp]
  unfold I64 at hp
  refine kgo ?_
  exact aq
 rw [show di sig b p below=(decide (p<below) && !(decide ((rJ sig (dR b p).control).kind=2))) by unfold di;exact if_neg (by omega)]
 refine kgo ?_
 cases h2:decide (p<below)
 ·refine kgo ?_
  exact aq
 have h3:=of_decide_eq_true h2
 obtain ⟨n,rfl⟩:=Int.eq_ofNat_of_zero_le (show 0≤p by omega)
 have hn:n<b.nodes.length:=by omega
 obtain ⟨c0,c1⟩:=hC n hn h3
 obtain ⟨m,hm⟩:=Int.eq_ofNat_of_zero_le c0
 have hml:m<sig.length:=by omega
 rw [aD b n hn,hm,jb sig m hml]
 refine kgo ?_
 refine dm (n:=m) (fun _=>?_) rfl rfl (congrArg some hm)
 refine kgo ?_
 exact aq
theorem D4 (sig:List Ctl) (b:Big) (i:Nat) (hr:0≤b.roots∧b.roots≤4) (he:0≤b.edges∧b.edges≤8) (ho:b.outer.length≤1000) (hlt:i<b.nodes.length) (hC:zH sig b i):FnD Tryz.prog 131 [.l 3 (sig.map Ctl.D),b.D,.i i] (.d (.b (fR sig b i))):=by
 have f1:=o9 (b.nodes[i]).control 0 ((sig.length:Int) - 1)
 have f2:=rT sig b (b.nodes[i]).parent i hr (by omega) hC
 refine ah Tryz.func131 (fun hw W0=>?_)
 have hl:=(wfM hw.1).1
 have hnl:=(wfM ((wfM hw.2.1.2.1).2 _ (List.getElem_mem hlt)).2.2.1).1
 rw [xI sig b i hlt]
 refine kgo ?_
 cases h1:inR (b.nodes[i]).control 0 ((sig.length:Int) - 1)
 ·refine kgo ?_
  exact aq
 refine kgo ?_
 cases h2:di sig b (b.nodes[i]).parent i
 ·refine kgo ?_
  exact aq
 obtain ⟨c0,c1⟩:=bK h1
 obtain ⟨m,hm⟩:=Int.eq_ofNat_of_zero_le c0
 have hml:m<sig.length:=by omega
 refine kgo ?_
 refine dm (n:=m) (fun _=>?_) rfl rfl (congrArg some hm)
 rw [show rJ sig (b.nodes[i]).control=sig[m] by rw [hm];exact jb sig m hml]
 refine kgo ?_
 refine cIf (fun h3=>?_) (fun h3=>?_)
 ·rw [decide_eq_false (by simpa using h3)]
  refine kgo ?_
  exact aq
 rw [decide_eq_true (by simpa using h3)]
 refine kgo ?_
 refine ai [4,7] (fun j:Nat=>j≤(b.nodes[i]).links.length∧((b.nodes[i]).links.take j).all (eq b)=true) (fun j=>(b.nodes[i]).links.length - j) (fun j=>[(8,.sy (.d (.i j)))]) 0 ⟨Nat.zero_le _,rfl⟩ (fun j hj=>?_)
 refine kgo ?_
 refine aL (fun h=>?_) (fun h=>?_)
 ·have hjl:j<(b.nodes[i]).links.length:=by omega
  have f3:=w4 b ((b.nodes[i]).links[j]) he ho
  have ht:=jc (eq b) (b.nodes[i]).links j hjl
  refine kgo ?_
  cases h4:eq b ((b.nodes[i]).links[j])
  ·rw [uy (eq b) (b.nodes[i]).links j hjl h4]
   refine kgo ?_
   exact aq
  refine kgo ?_
  exact af (j+1) ⟨hjl,by rw [ht,hj.2,h4];rfl⟩ (by show _ - (j+1)<_ - j;omega)
 ·rw [kc (eq b) (b.nodes[i]).links j (by omega) hj.2]
  refine kgo ?_
  exact aq
theorem Bo (sig:List Ctl):FnD Tryz.prog 128 [.l 3 (sig.map Ctl.D)] (.d (.b (kV sig))):=⟨bS Tryz.func128,fun F w vs hv hF=>by
 obtain ⟨v1,t,rfl,h1,h3⟩:=hv
 cases (show t = [] from h3)
 refine (sr _ _ _ _ _ (Aq.toV (by decide) h1)).mono ?_
 rintro e w' ⟨rfl,hX⟩
 exact ⟨_,rfl,hX,rfl⟩⟩
theorem C6 {P:Program} {ρ:Operand→Value} {w:World} {d g:_} {ty ty' ty2:Nat} {pos:String} {after:Array Edge} {x y:Operand} {m n:ByteArray} (h1:ρ x=.string m) (h2:ρ y=.string n):(execOp ρ ⟨d,.binOp .geq ty' x y ty2,ty,pos,after,g⟩).run P w=.ok (.value (.bool (!(Op.bytesLess m.toList n.toList)))) w:=by
 simp only [execOp,h1,h2]
 rfl
section
variable {P:Program} {ops:Array Oper} {W0:bN} {N:Nat} {Fin:Us→Env→Prop} {os:List Oper} {us:Us} {pk fk:List Nat} {σ:Env} {g:Option (Nat × Bool)} {gk:List Nat} {d ty ty':Nat} {pos:String} {after:Array Edge}
theorem Je {x y:Operand} {ty2:Nat} {s t:Sy} {m n:ByteArray} (h:Der P ops W0 N Fin os (us++[((d :: (gk++(kx x++kx y)))++pk,([d])++fk)]) [] [] ((d,.sy (.d (.b (!(Op.bytesLess m.toList n.toList))))) :: σ)) (hx:ev σ x=some s:=by rfl) (hy:ev σ y=some t:=by rfl) (hm:s.str? = some m:=by rfl) (hn:t.str? = some n:=by rfl) (hg:gst ops σ g=some (true,gk):=by rfl) (hN:Nat.blt d N=true:=by rfl) (hs:aE σ d=true:=by rfl):Der P ops W0 N Fin (⟨some d,.binOp .geq ty' x y ty2,ty,pos,after,g⟩ :: os) us pk fk σ:=
 bO (.d (.b (!(Op.bytesLess m.toList n.toList)))) (kx x++kx y) (fun σ' c a w hk hc=>by
  have h1:=pl hm (am hc (ab hx (fun κ hκ=>hk κ (by simp [hκ]))))
  have h2:=pl hn (am hc (ab hy (fun κ hκ=>hk κ (by simp [hκ]))))
  exact ⟨_,C6 h1 h2,by simp [Sy.ok,DV,Rp]⟩) h hg hN hs
end
theorem CH (s:ByteArray):FnD Tryz.prog 195 [.s s] (.d (.b (dp s))):=⟨bS Tryz.func195,fun F w vs hv hF=>by
 obtain ⟨v1,t,rfl,⟨h0,h1⟩,h3⟩:=hv
 cases (show t = [] from h3)
 cases h0
 refine (lT _ _ h1).mono ?_
 rintro e w' ⟨rfl,hX⟩
 exact ⟨_,rfl,hX,rfl⟩⟩
theorem sg (l:List ByteArray):FnD Tryz.prog 129 [DS l] (.d (.b (dj l))):=by
 refine ah Tryz.func129 (fun hw W0=>?_)
 have hl:=(wfM hw.1).1
 refine kgo ?_
 refine ai [0] (fun i:Nat=>i≤l.length∧(List.range i).all (Al l)=true) (fun i=>l.length - i) (fun i=>[(3,.sy (.d (.i i)))]) 0 ⟨Nat.zero_le _,rfl⟩ (fun i hi=>?_)
 refine kgo ?_
 refine aL (fun h=>?_) (fun h=>?_)
 ·have hlt:i<l.length:=by omega
  have hbad:=pL l i hlt
  have hok:Al l i=true→(List.range (i+1)).all (Al l)=true:=fun e=>by rw [cW,hi.2,e];rfl
  rw [rx l i hlt] at hbad hok
  have f1:=CH l[i]
  refine kgo ?_
  cases h1:dp l[i]
  ·rw [hbad (by rw [h1];rfl)]
   refine kgo ?_
   (repeat refine JL ?_)
   refine kgo ?_
   exact aq
  rw [h1] at hbad hok
  cases i with
  | zero=>
   refine kgo ?_
   exact af 1 ⟨hlt,hok rfl⟩ (by show _ - 1<_ - 0;omega)
  | succ j=>
   refine kgo ?_
   cases hg:decide ((0:Int)<((j+1:Nat):Int))
   ·exact absurd hg (by simp)
   refine kgo ?_
   refine dm (n:=j) (fun _=>?_) rfl rfl (congrArg some (show ((j+1:Nat):Int) - 1=j by omega))
   refine kgo ?_
   refine Je ?_
   refine kgo ?_
   have hgd:l.getD (j+1 - 1) ⟨#[]⟩=l[j]:=by rw [List.getD_eq_getElem?_getD,Nat.add_sub_cancel,List.getElem?_eq_getElem (by omega)];rfl
   have hsl:cQ l[j] l[j+1]=Op.bytesLess l[j].toList l[j+1].toList:=by unfold cQ;rfl
   rw [hgd,hsl] at hbad hok
   cases h2:Op.bytesLess l[j].toList l[j+1].toList
   ·rw [hbad (by rw [h2];simp)]
    refine kgo ?_
    exact aq
   refine kgo ?_
   exact af (j+1+1) ⟨hlt,hok (by rw [h2];simp)⟩ (by show _ - (j+1+1)<_ - (j+1);omega)
 obtain rfl:i=l.length:=by omega
 rw [show dj l=decide ((l.length:Int)≤16) by unfold dj;rw [hi.2];rfl]
 refine kgo ?_
 exact aq
attribute [local irreducible] fR
theorem gh (sig:List Ctl) (b:Big) (hl:b.inner.length≤1048576):FnD Tryz.prog 88 [.l 3 (sig.map Ctl.D),b.D] (.d (.b (aF sig b))):=by
 have f1:=Bo sig
 have f2:=o9 b.roots 0 4
 have f3:=o9 b.edges 0 8
 have f4:=sg b.outer
 have f5:=sg (b.inner.map Wr.name)
 refine ah Tryz.func88 (fun hw W0=>?_)
 have hs:=(wfM hw.2.1.2.2.1).1
 refine kgo ?_
 cases h1:kV sig
 ·rw [dy (by unfold jf;rw [h1];rfl)]
  refine kgo ?_
  exact aq
 refine kgo ?_
 cases h2:inR b.roots 0 4
 ·rw [dy (by unfold jf;rw [h2];simp)]
  refine kgo ?_
  exact aq
 refine kgo ?_
 cases h3:decide ((8:Int)<b.nodes.length)
 rotate_left
 ·rw [dy (by unfold jf;simp at h3;simp;omega)]
  refine kgo ?_
  exact aq
 refine kgo ?_
 cases h4:decide ((4:Int)<b.sites.length)
 rotate_left
 ·rw [dy (by unfold jf;simp at h4;simp;omega)]
  refine kgo ?_
  exact aq
 refine kgo ?_
 cases h5:inR b.edges 0 8
 ·rw [dy (by unfold jf;rw [h5];simp)]
  refine kgo ?_
  exact aq
 refine kgo ?_
 cases h6:dj b.outer
 ·rw [dy (by unfold jf;rw [h6];simp)]
  refine kgo ?_
  exact aq
 refine kgo ?_
 cases h7:decide ((16:Int)<b.inner.length)
 rotate_left
 ·rw [dy (by unfold jf;cases hh:dj (b.inner.map Wr.name) with
   | false=>simp
   | true=>have:=fV hh;simp at h7 this;omega)]
  refine kgo ?_
  exact aq
 have f6:=jI b (by simp at h7;omega)
 refine kgo ?_
 cases h8:dj (b.inner.map Wr.name)
 ·rw [dy (by unfold jf;rw [h8];simp)]
  refine kgo ?_
  exact aq
 have hH:jf sig b=true:=by unfold jf;rw [h1,h2,h5,h6,h8];simp at h3 h4 ⊢;omega
 have hr:=bK h2
 have he:=bK h5
 have ho:b.outer.length≤1000:=by have:=fV h6;omega
 simp only [decide_eq_false_iff_not] at h3 h4 h7
 refine kgo ?_
 refine ai [0,3] (fun i:Nat=>i≤b.nodes.length∧(List.range i).all (fR sig b)=true) (fun i=>b.nodes.length - i) (fun i=>[(5,.sy (.d (.i i)))]) 0 ⟨Nat.zero_le _,rfl⟩ (fun i hi=>?_)
 refine kgo ?_
 refine aL (fun h=>?_) (fun h=>?_)
 ·have hlt:i<b.nodes.length:=by omega
  have f7:=D4 sig b i hr he ho hlt (nM hi.2)
  refine kgo ?_
  cases h9:fR sig b i
  ·rw [pd i hlt h9]
   refine kgo ?_
   exact aq
  refine kgo ?_
  exact af (i+1) ⟨hlt,by rw [cW,hi.2,h9];rfl⟩ (by show _ - (i+1)<_ - i;omega)
 obtain rfl:i=b.nodes.length:=by omega
 have hN:=hi.2
 refine kgo ?_
 refine ai [0,3] (fun i:Nat=>i≤b.sites.length∧(b.sites.take i).all (gx sig b)=true) (fun i=>b.sites.length - i) (fun i=>[(6,.sy (.d (.i i)))]) 0 ⟨Nat.zero_le _,rfl⟩ (fun i hi=>?_)
 refine kgo ?_
 refine aL (fun h=>?_) (fun h=>?_)
 ·have hlt:i<b.sites.length:=by omega
  have f7:=rT sig b b.sites[i] b.nodes.length hr (Int.le_refl _) (nM hN)
  rw [← AE] at f7
  refine kgo ?_
  cases h9:gx sig b b.sites[i]
  ·rw [u9 (uy _ _ i hlt h9)]
   refine kgo ?_
   exact aq
  refine kgo ?_
  exact af (i+1) ⟨hlt,by rw [jc _ _ i hlt,hi.2,h9];rfl⟩ (by show _ - (i+1)<_ - i;omega)
 have hS:=kc _ _ _ (by omega) hi.2
 refine kgo ?_
 refine ai [3] (fun i:Nat=>i≤b.inner.length∧(b.inner.take i).all (gG b)=true) (fun i=>b.inner.length - i) (fun i=>[(7,.sy (.d (.i i)))]) 0 ⟨Nat.zero_le _,rfl⟩ (fun i hi=>?_)
 refine kgo ?_
 refine aL (fun h=>?_) (fun h=>?_)
 ·have hlt:i<b.inner.length:=by omega
  have f7:=w4 b (b.inner[i]).link he ho
  rw [← An] at f7
  refine kgo ?_
  cases h9:gG b b.inner[i]
  ·rw [vv (uy _ _ i hlt h9)]
   refine kgo ?_
   exact aq
  refine kgo ?_
  exact af (i+1) ⟨hlt,by rw [jc _ _ i hlt,hi.2,h9];rfl⟩ (by show _ - (i+1)<_ - i;omega)
 rw [Dl hH hN hS (kc _ _ _ (by omega) hi.2)]
 refine kgo ?_
 exact aq
end Go.Proofs.YtacafmejcdgboaaGreatDoor
namespace Go.Proofs.YtacafmejcdgboaaGreatDoor
open Go.RowKit
set_option linter.unusedVariables false
set_option maxRecDepth 100000
set_option maxHeartbeats 4000000
attribute [local irreducible] ar Der At
theorem wR {sig:List Ctl} {b:Big} (h:aF sig b=true) (by':Int) {ps:List Int} (hp:b.roots≤ps.length):∀n∈b.nodes,Ek by' ps n.parent:=by
 intro n hn
 obtain ⟨i,hi,rfl⟩:=List.mem_iff_getElem.1 hn
 have:=iI h i hi
 have:=aJ h
 unfold Ek
 omega
theorem ro {sig:List Ctl} {b:Big} (h:aF sig b=true) (by':Int) {ps:List Int} (hp:b.roots≤ps.length):∀p∈b.sites,Ek by' ps p:=by
 intro p hp'
 have h3:=List.all_eq_true.1 (ee h).2.2.1 p hp'
 have:=aJ h
 unfold gx di at h3
 unfold Ek
 split at h3
 ·simp only [decide_eq_true_eq] at h3;omega
 ·simp only [Bool.and_eq_true,decide_eq_true_eq] at h3;omega
theorem wI {sig:List Ctl} {b:Big} (h:aF sig b=true) {ks:List Int} (hp:b.edges+b.outer.length≤ks.length):∀n∈b.nodes,∀l∈n.links,0≤l∧l<(ks.length:Int):=by
 intro n hn l hl
 obtain ⟨i,hi,rfl⟩:=List.mem_iff_getElem.1 hn
 have:=(eW h i hi).2.2.2.2 l hl
 unfold eq at this
 have:=bK this
 omega
theorem wP {sig:List Ctl} {b:Big} (h:aF sig b=true) {ks:List Int} (hp:b.edges+b.outer.length≤ks.length):∀x∈b.inner,0≤x.link∧x.link<(ks.length:Int):=by
 intro x hx
 have:=List.all_eq_true.1 (ee h).2.2.2 x hx
 unfold gG eq at this
 have:=bK this
 omega
theorem qy {sig:List Ctl} {b:Big} (h:aF sig b=true):∀n∈b.nodes,n.links.length≤1000:=by
 intro n hn
 obtain ⟨i,hi,rfl⟩:=List.mem_iff_getElem.1 hn
 exact (bu h).links i hi
def D0 (a b:Big) (outer:List ByteArray) (above below:List Int):Big:=
 ⟨a.roots,cS 0 (cV 0 a.roots.toNat) (eN 0 a.edges.toNat++above) a.nodes++cS a.nodes.length (dv 0 (cV 0 a.roots.toNat) a.sites) (eN a.edges b.edges.toNat++below) b.nodes,dv a.nodes.length (dv 0 (cV 0 a.roots.toNat) a.sites) b.sites,a.edges+b.edges,outer,dw (eN a.edges b.edges.toNat++below) b.inner⟩
theorem mF (m n:Int) (hn:0≤n∧n≤1000) (hm : -1000≤m∧m≤1000):FnD Tryz.prog 316 [.i m,.i n] (.row 1 3 ((cV m n.toNat).map .i)):=by
 obtain ⟨k,rfl⟩:=Int.eq_ofNat_of_zero_le hn.1
 exact zO m k (by omega) hm
theorem gW (m n:Int) (hn:0≤n∧n≤1000) (hm : -1000≤m∧m≤1000):FnD Tryz.prog 209 [.i m,.i n] (.row 1 3 ((eN m n.toNat).map .i)):=by
 obtain ⟨k,rfl⟩:=Int.eq_ofNat_of_zero_le hn.1
 exact AI m k (by omega) hm
theorem BF {sig:List Ctl} {a b:Big} (hA:aF sig a=true) (hB:aF sig b=true) (hf:(a.sites.length:Int)=b.roots) (outer:List ByteArray) (above below:List Int) (hol:outer.length≤1000) (h1:above.length=a.outer.length) (h2:below.length=b.outer.length) :
 FnD Tryz.prog 284 [a.D,b.D,DS outer,DI above,DI below] (.d (D0 a b outer above below).D):=by
 have ha:=aJ hA
 have hb:=aJ hB
 have l1:=eF 0 a.edges.toNat
 have l2:=eF a.edges b.edges.toNat
 have l3:=ly 0 a.roots.toNat
 have l4:(dv 0 (cV 0 a.roots.toNat) a.sites).length=a.sites.length:=by unfold dv;rw [List.length_map]
 have f1:=mF 0 a.roots (by omega) (by omega)
 have f2:=gW 0 a.edges (by omega) (by omega)
 have f3:=gW a.edges b.edges (by omega) (by omega)
 have f4:=lI a 0 (cV 0 a.roots.toNat) (by omega) (ro hA 0 (by omega)) (by omega)
 have f5:=lM a 0 (cV 0 a.roots.toNat) (eN 0 a.edges.toNat++above) (by omega) (by omega) (qy hA) (wR hA 0 (by omega)) (wI hA (by rw [List.length_append];omega))
 have f6:=lM b a.nodes.length (dv 0 (cV 0 a.roots.toNat) a.sites) (eN a.edges b.edges.toNat++below) (by omega) (by omega) (qy hB) (wR hB _ (by omega)) (wI hB (by rw [List.length_append];omega))
 have f7:=lI b a.nodes.length (dv 0 (cV 0 a.roots.toNat) a.sites) (by omega) (ro hB _ (by omega)) (by omega)
 have f8:=n9 b (eN a.edges b.edges.toNat++below) (wP hB (by rw [List.length_append];omega)) (by omega)
 have q1:(cS 0 (cV 0 a.roots.toNat) (eN 0 a.edges.toNat++above) a.nodes).length≤1000:=by unfold cS;rw [List.length_map];omega
 have q2:(cS a.nodes.length (dv 0 (cV 0 a.roots.toNat) a.sites) (eN a.edges b.edges.toNat++below) b.nodes).length≤1000:=by unfold cS;rw [List.length_map];omega
 refine ah Tryz.func284 (fun hw W0=>?_)
 repeat (first|refine cFz 11 ?_|refine cFz 12 ?_|refine cFz 13 ?_|refine cFz 14 ?_|(refine cy ?_;first|refine aV ?_|refine bY ?_|refine aY ?_|refine aZ ?_|refine aS ?_|refine bg ?_|refine bi ?_|refine ay ?_|refine be ?_)|(refine fo ?_;first|refine bQ ?_|refine eZ ?_|refine cr ?_|refine b8 ?_)|(refine fa ?_;first|refine dm (fun _=>?_)|refine b9 ?_|refine cm ?_|refine bG ?_|refine cw ?_|refine ck ?_)|(refine fh ?_;first|refine cg ?_|refine eB ?_|refine bT ?_|refine bI ?_|refine cq ?_|refine bV ?_|refine bZ ?_)|(refine fe ?_;first|refine fl ?_|refine eS ?_|refine cd ?_|refine bP ?_|refine fq ?_|refine bl ?_|refine bo ?_)|(refine cu ?_;first|refine aX ?_|refine ch ?_)|(refine ff ?_;first|refine cj ?_|refine ct ?_|refine ft ?_)|(refine cf ?_;first|refine ca ?_|refine bd ?_|refine aQ ?_|refine ba ?_|refine aU ?_|refine bh ?_)|(refine fc ?_;first|refine b7 ?_|refine eY ?_|refine bj ?_|refine aR ?_|refine bm ?_)|(refine aI ?_;first|refine au _ ?_|refine bf ?_|refine aA ?_|refine av ?_|refine ax ?_)|(refine fu ?_;first|refine cb ?_|refine bH ?_|refine bX ?_)|(refine gOp ?_;first|refine fd ?_|refine fm ?_|refine bc ?_|refine fp ?_|refine fj ?_|refine bU ?_|refine aT ?_|refine co ?_|refine fw ?_|refine bM ?_|refine b6 ?_|refine bk ?_|refine sFz 45 ?_|refine sFz 46 ?_|refine sFz 52 ?_|refine sFz 60 ?_|refine sFz 63 ?_|refine az ?_|refine bW ?_|refine sNo ?_|refine dO ?_|refine aw ?_)|refine dZ ?_|refine cN ?_|refine fB ?_|refine bp ?_|refine cz ?_|refine bB ?_|refine fC ?_|refine fI ?_|refine fx ?_|refine df ?_|refine cC ?_|refine aN ?_|refine aB ?_|refine bq ?_|refine ci ?_|refine bC ?_|refine aBlkX ?_|refine cA ?_|refine sFz 45 ?_|refine sFz 46 ?_|refine sFz 52 ?_|refine sFz 60 ?_|refine sFz 63 ?_)
 exact aq
theorem zY (a c:List ByteArray):FnD Tryz.prog 282 [DS a,DS c] (.d (.b (eqS a c))):=by
 refine ah Tryz.func282 (fun hw W0=>?_)
 have hl:=(wfM hw.1).1
 refine kgo ?_
 refine cIf (fun h=>?_) (fun h=>?_)
 ·have h:¬(a.length:Int)=c.length:=by simpa using h
  refine kgo ?_
  rw [vy h]
  exact aq
 ·have h:(a.length:Int)=c.length:=by simpa using h
  refine kgo ?_
  refine eG (fun i:Nat=>i≤a.length∧(List.range i).all (mb a c)=true) (fun i=>a.length - i) (fun i=>[(0,.sy (.d (DS a))),(1,.sy (.d (DS c))),(5,.sy (.d (.i i)))]) 0 ⟨Nat.zero_le _,rfl⟩ (fun i hi=>?_)
  refine kgo ?_
  refine cIf (fun h2=>?_) (fun h2=>?_)
  ·have h2:=of_decide_eq_true h2
   have hlt:i<a.length:=by omega
   have hlt2:i<c.length:=by omega
   have hs:=mt a c i hlt hlt2
   refine kgo ?_
   refine cIf (fun h3=>?_) (fun h3=>?_)
   ·refine kgo ?_
    rw [uO (c:=c) i hlt (by rw [hs];simpa using h3)]
    exact aq
   ·refine kgo ?_
    exact af (i+1) ⟨hlt,by rw [cW,hi.2,hs];simpa using h3⟩ (by omega)
  ·have h2:=of_decide_eq_false h2
   refine kgo ?_
   rw [FE h (by rw [← hi.2,show i=a.length by omega])]
   exact aq
def ny (a b:Big):Bool:=decide ((a.sites.length:Int)=b.roots) && eqS (a.inner.map Wr.name) b.outer
theorem Do (a b:Big) (hl:a.inner.length≤1000):FnD Tryz.prog 256 [a.D,b.D] (.d (.b (ny a b))):=by
 have f1:=jI a hl
 have f2:=zY (a.inner.map Wr.name) b.outer
 refine ah Tryz.func256 (fun hw W0=>?_)
 have hs:=(wfM hw.1.2.2.1).1
 cases hc:decide ((a.sites.length:Int)=b.roots)
 ·rw [show ny a b=false from by unfold ny;rw [hc];rfl]
  refine kgo ?_
  rw [hc]
  refine kgo ?_
  exact aq
 ·rw [show ny a b=eqS (a.inner.map Wr.name) b.outer from by unfold ny;rw [hc];rfl]
  refine kgo ?_
  rw [hc]
  refine kgo ?_
  exact aq
end Go.Proofs.YtacafmejcdgboaaGreatDoor
namespace Go.Proofs.YtacafmejcdgboaaGreatDoor
open Go.RowKit
set_option linter.unusedVariables false
set_option maxRecDepth 100000
set_option maxHeartbeats 4000000
attribute [local irreducible] ar Der At
theorem wG (sig:List Ctl) (b:Big) (hl:b.inner.length≤1048576):FnD Tryz.prog 257 [.l 3 (sig.map Ctl.D),b.D] (.tp [(if aF sig b then b else fN).D,.b (aF sig b)]):=by
 have f1:=gh sig b hl
 refine ah Tryz.func257 (fun hw W0=>?_)
 cases hc:aF sig b
 ·rw [hc] at f1
  refine kgo ?_
  exact iA
 ·rw [hc] at f1
  refine kgo ?_
  exact iA
def BR (a b:Big):List Int:=eN 0 a.edges.toNat++dx a.outer (a.edges+b.edges) a.outer
def s6 (a b:Big):Big:=D0 a b a.outer (dx a.outer (a.edges+b.edges) a.outer) (a.inner.map fun x=>atI (BR a b) x.link)
theorem Bp {sig:List Ctl} {a b:Big} (hA:aF sig a=true) (hB:aF sig b=true) (hf:(a.sites.length:Int)=b.roots) (hn:a.inner.length=b.outer.length):FnD Tryz.prog 258 [a.D,b.D] (.d (s6 a b).D):=by
 have ha:=aJ hA
 have hb:=aJ hB
 have l1:=eF 0 a.edges.toNat
 have l2:(dx a.outer (a.edges+b.edges) a.outer).length=a.outer.length:=by unfold dx;rw [List.length_map]
 have l3:(BR a b).length=a.edges.toNat+a.outer.length:=by unfold BR;rw [List.length_append,l1,l2]
 have f1:=nX a.outer (a.edges+b.edges) a.outer (by omega) (by omega) (by omega)
 have f2:=gW 0 a.edges (by omega) (by omega)
 have f3:=BF hA hB hf a.outer (dx a.outer (a.edges+b.edges) a.outer) (a.inner.map fun x=>atI (BR a b) x.link) (by omega) l2 (by rw [List.length_map];exact hn)
 have hk:=wP hA (ks:=BR a b) (by omega)
 refine ah Tryz.func258 (fun hw W0=>?_)
 repeat (first|refine cFz 5 ?_|(refine cy ?_;first|refine aV ?_|refine bY ?_|refine aY ?_|refine aZ ?_|refine aS ?_|refine bg ?_|refine bi ?_|refine ay ?_|refine be ?_)|(refine fo ?_;first|refine bQ ?_|refine eZ ?_|refine cr ?_|refine b8 ?_)|(refine fa ?_;first|refine dm (fun _=>?_)|refine b9 ?_|refine cm ?_|refine bG ?_|refine cw ?_|refine ck ?_)|(refine fh ?_;first|refine cg ?_|refine eB ?_|refine bT ?_|refine bI ?_|refine cq ?_|refine bV ?_|refine bZ ?_)|(refine fe ?_;first|refine fl ?_|refine eS ?_|refine cd ?_|refine bP ?_|refine fq ?_|refine bl ?_|refine bo ?_)|(refine cu ?_;first|refine aX ?_|refine ch ?_)|(refine ff ?_;first|refine cj ?_|refine ct ?_|refine ft ?_)|(refine cf ?_;first|refine ca ?_|refine bd ?_|refine aQ ?_|refine ba ?_|refine aU ?_|refine bh ?_)|(refine fc ?_;first|refine b7 ?_|refine eY ?_|refine bj ?_|refine aR ?_|refine bm ?_)|(refine aI ?_;first|refine au _ ?_|refine bf ?_|refine aA ?_|refine av ?_|refine ax ?_)|(refine fu ?_;first|refine cb ?_|refine bH ?_|refine bX ?_)|(refine gOp ?_;first|refine fd ?_|refine fm ?_|refine bc ?_|refine fp ?_|refine fj ?_|refine bU ?_|refine aT ?_|refine co ?_|refine fw ?_|refine bM ?_|refine b6 ?_|refine bk ?_|refine az ?_|refine bW ?_|refine sNo ?_|refine dO ?_|refine aw ?_)|refine dZ ?_|refine cN ?_|refine fB ?_|refine bp ?_|refine cz ?_|refine bB ?_|refine fC ?_|refine fI ?_|refine fx ?_|refine df ?_|refine cC ?_|refine aN ?_|refine aB ?_|refine bq ?_|refine ci ?_|refine bC ?_|refine aBlkX ?_|refine cA ?_)
 refine cFz 6 ?_
 refine eG (fun i:Nat=>i≤a.inner.length) (fun i=>a.inner.length - i) (fun i=>[(2,.sy (.bx 10002 0)),(10002,.tk (.bx (iu a.D))),(3,.sy (.bx 10003 0)),(10003,.tk (.bx (iu b.D))),(4,.sy (.bx 10004 0)),(10004,.tk (.bx (iu (.t [.i 0,.n 3,.n 1,.i 0,.n 1,.n 2])))),(5,.sy (.d (DI (dx a.outer (a.edges+b.edges) a.outer)))),(6,.sy (.d (DI (BR a b)))),(7,.sy (.k 10024)),(10024,.tk (.row 1 3 (((a.inner.take i).map fun x=>atI (BR a b) x.link).map .i))),(8,.sy (.d (.i i)))]) 0 (Nat.zero_le _) (fun i hi=>?_)
 refine kgo ?_
 refine cIf (fun h=>?_) (fun h=>?_)
 ·have h:=of_decide_eq_true h
  have hlt:i<a.inner.length:=by omega
  have hk2:=hk _ (List.getElem_mem hlt)
  have hs:((a.inner.take (i+1)).map fun x=>atI (BR a b) x.link).map D.i=((a.inner.take i).map fun x=>atI (BR a b) x.link).map D.i++[.i (atI (BR a b) (a.inner[i]).link)]:=by rw [List.take_succ_eq_append_getElem hlt,List.map_append,List.map_append];rfl
  refine kgo ?_
  exact af (i+1) hlt (by omega)
 ·have h:=of_decide_eq_false h
  rw [List.take_of_length_le (by omega)]
  repeat (first|(refine cy ?_;first|refine aV ?_|refine bY ?_|refine aY ?_|refine aZ ?_|refine aS ?_|refine bg ?_|refine bi ?_|refine ay ?_|refine be ?_)|(refine fo ?_;first|refine bQ ?_|refine eZ ?_|refine cr ?_|refine b8 ?_)|(refine fa ?_;first|refine dm (fun _=>?_)|refine b9 ?_|refine cm ?_|refine bG ?_|refine cw ?_|refine ck ?_)|(refine fh ?_;first|refine cg ?_|refine eB ?_|refine bT ?_|refine bI ?_|refine cq ?_|refine bV ?_|refine bZ ?_)|(refine fe ?_;first|refine fl ?_|refine eS ?_|refine cd ?_|refine bP ?_|refine fq ?_|refine bl ?_|refine bo ?_)|(refine cu ?_;first|refine aX ?_|refine ch ?_)|(refine ff ?_;first|refine cj ?_|refine ct ?_|refine ft ?_)|(refine cf ?_;first|refine ca ?_|refine bd ?_|refine aQ ?_|refine ba ?_|refine aU ?_|refine bh ?_)|(refine fc ?_;first|refine b7 ?_|refine eY ?_|refine bj ?_|refine aR ?_|refine bm ?_)|(refine aI ?_;first|refine au _ ?_|refine bf ?_|refine aA ?_|refine av ?_|refine ax ?_)|(refine fu ?_;first|refine cb ?_|refine bH ?_|refine bX ?_)|(refine gOp ?_;first|refine fd ?_|refine fm ?_|refine bc ?_|refine fp ?_|refine fj ?_|refine bU ?_|refine aT ?_|refine co ?_|refine fw ?_|refine bM ?_|refine b6 ?_|refine bk ?_|refine sFz 49 ?_|refine az ?_|refine bW ?_|refine sNo ?_|refine dO ?_|refine aw ?_)|refine dZ ?_|refine cN ?_|refine fB ?_|refine bp ?_|refine cz ?_|refine bB ?_|refine fC ?_|refine fI ?_|refine fx ?_|refine df ?_|refine cC ?_|refine aN ?_|refine aB ?_|refine bq ?_|refine ci ?_|refine bC ?_|refine aBlkX ?_|refine cA ?_|refine sFz 49 ?_)
  exact aq
theorem tf (names:List ByteArray) (hl:names.length≤1000):FnD Tryz.prog 255 [.i 0,DS names] (.d (idB names).D):=by
 refine ah Tryz.func255 (fun hw W0=>?_)
 repeat (first|(refine cy ?_;first|refine aV ?_|refine bY ?_|refine aY ?_|refine aZ ?_|refine aS ?_|refine bg ?_|refine bi ?_|refine ay ?_|refine be ?_)|(refine fo ?_;first|refine bQ ?_|refine eZ ?_|refine cr ?_|refine b8 ?_)|(refine fa ?_;first|refine dm (fun _=>?_)|refine b9 ?_|refine cm ?_|refine bG ?_|refine cw ?_|refine ck ?_)|(refine fh ?_;first|refine cg ?_|refine eB ?_|refine bT ?_|refine bI ?_|refine cq ?_|refine bV ?_|refine bZ ?_)|(refine fe ?_;first|refine fl ?_|refine eS ?_|refine cd ?_|refine bP ?_|refine fq ?_|refine bl ?_|refine bo ?_)|(refine cu ?_;first|refine aX ?_|refine ch ?_)|(refine ff ?_;first|refine cj ?_|refine ct ?_|refine ft ?_)|(refine cf ?_;first|refine ca ?_|refine bd ?_|refine aQ ?_|refine ba ?_|refine aU ?_|refine bh ?_)|(refine fc ?_;first|refine b7 ?_|refine eY ?_|refine bj ?_|refine aR ?_|refine bm ?_)|(refine aI ?_;first|refine au _ ?_|refine bf ?_|refine aA ?_|refine av ?_|refine ax ?_)|(refine fu ?_;first|refine cb ?_|refine bH ?_|refine bX ?_)|(refine gOp ?_;first|refine fd ?_|refine fm ?_|refine bc ?_|refine fp ?_|refine fj ?_|refine bU ?_|refine aT ?_|refine co ?_|refine fw ?_|refine bM ?_|refine b6 ?_|refine bk ?_|refine sFz 11 ?_|refine az ?_|refine bW ?_|refine sNo ?_|refine dO ?_|refine aw ?_)|refine dZ ?_|refine cN ?_|refine fB ?_|refine bp ?_|refine cz ?_|refine bB ?_|refine fC ?_|refine fI ?_|refine fx ?_|refine df ?_|refine cC ?_|refine aN ?_|refine aB ?_|refine bq ?_|refine ci ?_|refine bC ?_|refine aBlkX ?_|refine cA ?_|refine sFz 11 ?_)
 refine eG (fun _:Unit=>True) (fun _=>0) (fun _=>[(0,.sy (.d (.i 0))),(1,.sy (.d (DS names))),(4,.sy (.bx 10004 0)),(10004,.tk (.bx (iu (.t [.i 0,.n 3,.n 1,.i 0,.n 1,.n 2])))),(5,.sy (.bx 10005 0)),(10005,.tk (.bx [.d (.i 0),.d (.n 3),.d (.n 1),.d (.i 0),.d (DS names),.d (.n 2)])),(6,.sy (.d (.i 0)))]) () trivial (fun _ _=>?_)
 refine kgo ?_
 refine nW 10005 5 20001 153 ?_
 refine eG (fun i:Nat=>i≤names.length) (fun i=>names.length - i) (fun i=>[(1,.sy (.d (DS names))),(4,.sy (.bx 10004 0)),(10004,.tk (.bx (iu (.t [.i 0,.n 3,.n 1,.i 0,.n 1,.n 2])))),(5,.sy (.bx 10005 0)),(10005,.tk (.bx [.d (.i 0),.d (.n 3),.d (.n 1),.d (.i 0),.d (DS names),.k 20001])),(20001,.tk (.row 2 153 (((names.mapIdx fun i s=>(⟨s,i⟩:Wr)).take i).map Wr.D))),(7,.sy (.d (.i i)))]) 0 (Nat.zero_le _) (fun i hi=>?_)
 refine kgo ?_
 refine cIf (fun h=>?_) (fun h=>?_)
 ·have h:=of_decide_eq_true h
  have hlt:i<names.length:=by omega
  have hq:((names.mapIdx fun i s=>(⟨s,i⟩:Wr)).take i).length≤1000:=by rw [List.length_take,List.length_mapIdx];omega
  have hs:((names.mapIdx fun i s=>(⟨s,i⟩:Wr)).take (i+1)).map Wr.D=((names.mapIdx fun i s=>(⟨s,i⟩:Wr)).take i).map Wr.D++[Wr.D ⟨names[i],i⟩]:=by rw [List.take_succ_eq_append_getElem (by rw [List.length_mapIdx];exact hlt),List.map_append,List.getElem_mapIdx];rfl
  refine kgo ?_
  exact af (i+1) hlt (by omega)
 ·have h:=of_decide_eq_false h
  rw [List.take_of_length_le (by rw [List.length_mapIdx];omega)]
  refine bB (aB (aB (bC (aN ?_))))
  refine ou 10005 5 ?_
  refine kgo ?_
  exact aq
theorem qz {a b:Big}:(s6 a b).inner.length=b.inner.length:=by unfold s6 D0 dw;simp
def eP (sig:List Ctl) (a b:Big):Big × Bool:=if aF sig a && (aF sig b && (ny a b && aF sig (s6 a b))) then (s6 a b,true) else (fN,false)
theorem oS (sig:List Ctl) (a b:Big) (hla:a.inner.length≤1000) (hlb:b.inner.length≤1000):FnD Tryz.prog 214 [.l 3 (sig.map Ctl.D),a.D,b.D] (.tp [(eP sig a b).1.D,.b (eP sig a b).2]):=by
 have f1:=gh sig a (by omega)
 have f2:=gh sig b (by omega)
 have f3:=Do a b hla
 have f4:=wG sig (s6 a b) (by rw [qz];omega)
 refine ah Tryz.func214 (fun hw W0=>?_)
 cases h1:aF sig a
 ·rw [show eP sig a b=(fN,false) from by unfold eP;rw [h1];rfl]
  rw [h1] at f1
  refine kgo ?_
  exact iA
 cases h2:aF sig b
 ·rw [show eP sig a b=(fN,false) from by unfold eP;rw [h1,h2];rfl]
  rw [h1] at f1
  rw [h2] at f2
  refine kgo ?_
  exact iA
 cases h3:ny a b
 ·rw [show eP sig a b=(fN,false) from by unfold eP;rw [h1,h2,h3];rfl]
  rw [h1] at f1
  rw [h2] at f2
  rw [h3] at f3
  refine kgo ?_
  exact iA
 have h4:(a.sites.length:Int)=b.roots∧a.inner.length=b.outer.length:=by
  unfold ny at h3
  rw [Bool.and_eq_true,decide_eq_true_eq] at h3
  refine ⟨h3.1,?_⟩
  have:=h3.2
  by_cases hh:((a.inner.map Wr.name).length:Int)=b.outer.length
  ·rw [List.length_map] at hh;omega
  ·rw [vy hh] at this;cases this
 have f5:=Bp h1 h2 h4.1 h4.2
 rw [show eP sig a b=(if aF sig (s6 a b) then s6 a b else fN,aF sig (s6 a b)) from by unfold eP;rw [h1,h2,h3];cases aF sig (s6 a b) <;> rfl]
 rw [h1] at f1
 rw [h2] at f2
 rw [h3] at f3
 refine kgo ?_
 exact iA
end Go.Proofs.YtacafmejcdgboaaGreatDoor
namespace Go.Proofs.YtacafmejcdgboaaGreatDoor
open Go.RowKit
set_option linter.unusedVariables false
set_option maxRecDepth 100000
set_option maxHeartbeats 4000000
attribute [local irreducible] ar Der At
theorem kq (a:List Wr):∀b:List Wr,(bR a b).length=a.length+b.length:=by
 unfold bR
 intro b
 induction b generalizing a with
 | nil=>rfl
 | cons x b ih=>rw [List.foldl_cons,ih,pg,List.length_cons];omega
theorem tT (a b:List Wr) (i:Nat) (h:i<b.length):bR a (b.take (i+1))=gv wLt (bR a (b.take i)) b[i]:=by
 unfold bR;rw [List.take_succ_eq_append_getElem h,List.foldl_append];rfl
theorem sN (a b:List Wr) (hla:a.length≤1000) (hlb:b.length≤1000):FnD Tryz.prog 211 [.l 2 (a.map Wr.D),.l 2 (b.map Wr.D)] (.d (.l 2 ((bR a b).map Wr.D))):=by
 refine ah Tryz.func211 (fun hw W0=>?_)
 repeat (first|(refine cy ?_;first|refine aV ?_|refine bY ?_|refine aY ?_|refine aZ ?_|refine aS ?_|refine bg ?_|refine bi ?_|refine ay ?_|refine be ?_)|(refine fo ?_;first|refine bQ ?_|refine eZ ?_|refine cr ?_|refine b8 ?_)|(refine fa ?_;first|refine dm (fun _=>?_)|refine b9 ?_|refine cm ?_|refine bG ?_|refine cw ?_|refine ck ?_)|(refine fh ?_;first|refine cg ?_|refine eB ?_|refine bT ?_|refine bI ?_|refine cq ?_|refine bV ?_|refine bZ ?_)|(refine fe ?_;first|refine fl ?_|refine eS ?_|refine cd ?_|refine bP ?_|refine fq ?_|refine bl ?_|refine bo ?_)|(refine cu ?_;first|refine aX ?_|refine ch ?_)|(refine ff ?_;first|refine fF (d:=5) ?_|refine cj ?_|refine ct ?_|refine ft ?_)|(refine cf ?_;first|refine ca ?_|refine bd ?_|refine aQ ?_|refine ba ?_|refine aU ?_|refine bh ?_)|(refine fc ?_;first|refine b7 ?_|refine eY ?_|refine bj ?_|refine aR ?_|refine bm ?_)|(refine aI ?_;first|refine au _ ?_|refine bf ?_|refine aA ?_|refine av ?_|refine ax ?_)|(refine fu ?_;first|refine cb ?_|refine bH ?_|refine bX ?_)|(refine gOp ?_;first|refine fd ?_|refine fm ?_|refine bc ?_|refine fp ?_|refine fj ?_|refine bU ?_|refine aT ?_|refine co ?_|refine fw ?_|refine bM ?_|refine b6 ?_|refine bk ?_|refine az ?_|refine bW ?_|refine sNo ?_|refine dO ?_|refine aw ?_)|refine dZ ?_|refine cN ?_|refine fB ?_|refine bp ?_|refine cz ?_|refine bB ?_|refine fC ?_|refine fI ?_|refine fx ?_|refine df ?_|refine cC ?_|refine aN ?_|refine aB ?_|refine bq ?_|refine ci ?_|refine bC ?_|refine aBlkX ?_|refine cA ?_)
 refine eG (fun i:Nat=>i≤b.length) (fun i=>b.length - i) (fun i=>[(1,.sy (.d (.l 2 (b.map Wr.D)))),(5,.sy (.d (.l 2 ((bR a (b.take i)).map Wr.D)))),(6,.sy (.d (.i i)))]) 0 (Nat.zero_le _) (fun i hi=>?_)
 refine kgo ?_
 refine cIf (fun h=>?_) (fun h=>?_)
 ·have h:=of_decide_eq_true h
  have hlt:i<b.length:=by omega
  have hml:=kq a (b.take i)
  rw [List.length_take] at hml
  refine kgo ?_
  refine eG (fun k:Nat=>k≤(bR a (b.take i)).length∧∀j (h:j<(bR a (b.take i)).length),j<k→wLt (bR a (b.take i))[j] b[i]=true) (fun k=>(bR a (b.take i)).length - k) (fun k=>[(1,.sy (.d (.l 2 (b.map Wr.D)))),(5,.sy (.d (.l 2 ((bR a (b.take i)).map Wr.D)))),(6,.sy (.d (.i i))),(7,.sy (.d (.i k)))]) 0 ⟨Nat.zero_le _,fun j _ h=>absurd h (Nat.not_lt_zero _)⟩ (fun k hk=>?_)
  obtain ⟨hk1,hk2⟩:=hk
  have out (hno:∀h:k<(bR a (b.take i)).length,wLt (bR a (b.take i))[k] b[i]=false):bR a (b.take (i+1))=(bR a (b.take i)).take k++b[i] :: (bR a (b.take i)).drop k:=by
   rw [tT a b i hlt,xj wLt b[i] _ k hk1 hk2 hno]
  cases hc:decide ((k:Int)<((bR a (b.take i)).length:Int))
  ·have hc':=of_decide_eq_false hc
   refine kgo ?_
   rw [hc]
   have e:=out (fun h=>absurd h (by omega))
   clear out
   have hs:D.l 2 ((bR a (b.take (i+1))).map Wr.D)=D.l (1+1) ([]++((bR a (b.take i)).take k).map Wr.D++[B4 (Wr.D b[i])]++((bR a (b.take i)).drop k).map Wr.D):=by rw [e,show B4 (Wr.D b[i])=Wr.D b[i] from rfl];simp
   repeat (first|(refine cy ?_;first|refine aV ?_|refine bY ?_|refine aY ?_|refine aZ ?_|refine aS ?_|refine bg ?_|refine bi ?_|refine ay ?_|refine be ?_)|(refine fo ?_;first|refine bQ ?_|refine eZ ?_|refine cr ?_|refine b8 ?_)|(refine fa ?_;first|refine dm (fun _=>?_)|refine b9 ?_|refine cm ?_|refine bG ?_|refine cw ?_|refine ck ?_)|(refine fh ?_;first|refine cg ?_|refine eB ?_|refine bT ?_|refine bI ?_|refine cq ?_|refine bV ?_|refine bZ ?_)|(refine fe ?_;first|refine fl ?_|refine eS ?_|refine cd ?_|refine bP ?_|refine fq ?_|refine bl ?_|refine bo ?_)|(refine cu ?_;first|refine aX ?_|refine ch ?_)|(refine ff ?_;first|refine fF (d:=5) ?_|refine cj ?_|refine ct ?_|refine ft ?_)|(refine cf ?_;first|refine ca ?_|refine bd ?_|refine aQ ?_|refine ba ?_|refine aU ?_|refine bh ?_)|(refine fc ?_;first|refine b7 ?_|refine eY ?_|refine bj ?_|refine aR ?_|refine bm ?_)|(refine aI ?_;first|refine au _ ?_|refine bf ?_|refine aA ?_|refine av ?_|refine ax ?_)|(refine fu ?_;first|refine cb ?_|refine bH ?_|refine bX ?_)|(refine gOp ?_;first|refine fd ?_|refine fm ?_|refine bc ?_|refine fp ?_|refine fj ?_|refine bU ?_|refine aT ?_|refine co ?_|refine fw ?_|refine bM ?_|refine b6 ?_|refine bk ?_|refine az ?_|refine bW ?_|refine sNo ?_|refine dO ?_|refine aw ?_)|refine dZ ?_|refine cN ?_|refine fB ?_|refine bp ?_|refine cz ?_|refine bB ?_|refine fC ?_|refine fI ?_|refine fx ?_|refine df ?_|refine cC ?_|refine aN ?_|refine aB ?_|refine bq ?_|refine ci ?_|refine bC ?_|refine aBlkX ?_|refine cA ?_)
   exact af (i+1) hlt (by omega)
  ·have hc':=of_decide_eq_true hc
   have hkl:k<(bR a (b.take i)).length:=by omega
   refine kgo ?_
   rw [hc]
   refine kgo ?_
   refine cIf (fun h2=>?_) (fun h2=>?_)
   ·refine kgo ?_
    exact af (k+1) ⟨hkl,fun j h1 h3=>by
     rcases Nat.lt_or_ge j k with h4|h4
     ·exact hk2 j h1 h4
     ·rw [show (bR a (b.take i))[j]=(bR a (b.take i))[k] from by congr 1;omega];exact h2⟩ (by omega)
   ·have e:=out (fun h=>h2)
    clear out
    have hs:D.l 2 ((bR a (b.take (i+1))).map Wr.D)=D.l (1+1) ([]++((bR a (b.take i)).take k).map Wr.D++[B4 (Wr.D b[i])]++((bR a (b.take i)).drop k).map Wr.D):=by rw [e,show B4 (Wr.D b[i])=Wr.D b[i] from rfl];simp
    repeat (first|(refine cy ?_;first|refine aV ?_|refine bY ?_|refine aY ?_|refine aZ ?_|refine aS ?_|refine bg ?_|refine bi ?_|refine ay ?_|refine be ?_)|(refine fo ?_;first|refine bQ ?_|refine eZ ?_|refine cr ?_|refine b8 ?_)|(refine fa ?_;first|refine dm (fun _=>?_)|refine b9 ?_|refine cm ?_|refine bG ?_|refine cw ?_|refine ck ?_)|(refine fh ?_;first|refine cg ?_|refine eB ?_|refine bT ?_|refine bI ?_|refine cq ?_|refine bV ?_|refine bZ ?_)|(refine fe ?_;first|refine fl ?_|refine eS ?_|refine cd ?_|refine bP ?_|refine fq ?_|refine bl ?_|refine bo ?_)|(refine cu ?_;first|refine aX ?_|refine ch ?_)|(refine ff ?_;first|refine fF (d:=5) ?_|refine cj ?_|refine ct ?_|refine ft ?_)|(refine cf ?_;first|refine ca ?_|refine bd ?_|refine aQ ?_|refine ba ?_|refine aU ?_|refine bh ?_)|(refine fc ?_;first|refine b7 ?_|refine eY ?_|refine bj ?_|refine aR ?_|refine bm ?_)|(refine aI ?_;first|refine au _ ?_|refine bf ?_|refine aA ?_|refine av ?_|refine ax ?_)|(refine fu ?_;first|refine cb ?_|refine bH ?_|refine bX ?_)|(refine gOp ?_;first|refine fd ?_|refine fm ?_|refine bc ?_|refine fp ?_|refine fj ?_|refine bU ?_|refine aT ?_|refine co ?_|refine fw ?_|refine bM ?_|refine b6 ?_|refine bk ?_|refine az ?_|refine bW ?_|refine sNo ?_|refine dO ?_|refine aw ?_)|refine dZ ?_|refine cN ?_|refine fB ?_|refine bp ?_|refine cz ?_|refine bB ?_|refine fC ?_|refine fI ?_|refine fx ?_|refine df ?_|refine cC ?_|refine aN ?_|refine aB ?_|refine bq ?_|refine ci ?_|refine bC ?_|refine aBlkX ?_|refine cA ?_)
    exact af (i+1) hlt (by omega)
 ·have h:=of_decide_eq_false h
  refine kgo ?_
  rw [List.take_of_length_le (by omega)]
  exact aq
theorem Aj {l:List ByteArray} {n:ByteArray} {k:Nat} (hs:l.Pairwise NLt) (hk1:k≤l.length) (hk2:∀j (h:j<l.length),j<k→cQ l[j] n=true) (hno:∀h:k<l.length,cQ l[k] n=false) (hne:∀h:k<l.length,(l[k].toList == n.toList)=false):rI l n=l.take k++n :: l.drop k:=by
 unfold rI
 rw [if_neg,xj cQ n l k hk1 hk2 hno]
 intro hh
 obtain ⟨x,hx,e⟩:=List.any_eq_true.1 hh
 rw [beq_iff_eq] at e
 have e:=fU e
 subst e
 obtain ⟨j,hj,e⟩:=List.getElem_of_mem hx
 rcases Nat.lt_trichotomy j k with h|h|h
 ·have:=hk2 j hj h
  rw [e] at this
  exact NLt.irr _ this
 ·subst h
  have:=hne hj
  rw [e] at this
  simp at this
 ·have h1:cQ _ _=true:=List.pairwise_iff_getElem.1 hs k j (by omega) hj h
  rw [e,hno (by omega)] at h1
  cases h1
theorem FZ {l:List ByteArray} {n:ByteArray} {k:Nat} (h:k<l.length) (he:(l[k].toList == n.toList)=true):rI l n=l:=by
 unfold rI
 rw [if_pos (List.any_eq_true.2 ⟨l[k],List.getElem_mem h,he⟩)]
theorem yo (l:List ByteArray) (i:Nat) (h:i<l.length):cH (l.take (i+1))=rI (cH (l.take i)) l[i]:=by
 unfold cH;rw [List.take_succ_eq_append_getElem h,List.foldl_append];rfl
theorem Cd (l:List ByteArray) (s:ByteArray):(rI l s).length≤l.length+1:=by
 unfold rI;split
 ·omega
 ·rw [pg];exact Nat.le_refl _
theorem kk:∀(l a:List ByteArray),(l.foldl rI a).length≤a.length+l.length
 | [],a=>by simp
 | s :: l,a=>by
  have:=kk l (rI a s)
  have:=Cd a s
  rw [List.foldl_cons,List.length_cons];omega
theorem yG (l:List ByteArray) (hl:l.length≤100000):FnD Tryz.prog 315 [DS l] (.d (DS (cH l))):=by
 refine ah Tryz.func315 (fun hw W0=>?_)
 repeat (first|(refine cy ?_;first|refine aV ?_|refine bY ?_|refine aY ?_|refine aZ ?_|refine aS ?_|refine bg ?_|refine bi ?_|refine ay ?_|refine be ?_)|(refine fo ?_;first|refine bQ ?_|refine eZ ?_|refine cr ?_|refine b8 ?_)|(refine fa ?_;first|refine dm (fun _=>?_)|refine b9 ?_|refine cm ?_|refine bG ?_|refine cw ?_|refine ck ?_)|(refine fh ?_;first|refine cg ?_|refine eB ?_|refine bT ?_|refine bI ?_|refine cq ?_|refine bV ?_|refine bZ ?_)|(refine fe ?_;first|refine fl ?_|refine eS ?_|refine cd ?_|refine bP ?_|refine fq ?_|refine bl ?_|refine bo ?_)|(refine cu ?_;first|refine aX ?_|refine ch ?_)|(refine ff ?_;first|refine fF (d:=3) ?_|refine cj ?_|refine ct ?_|refine ft ?_)|(refine cf ?_;first|refine ca ?_|refine bd ?_|refine aQ ?_|refine ba ?_|refine aU ?_|refine bh ?_)|(refine fc ?_;first|refine b7 ?_|refine eY ?_|refine bj ?_|refine aR ?_|refine bm ?_)|(refine aI ?_;first|refine au _ ?_|refine bf ?_|refine aA ?_|refine av ?_|refine ax ?_)|(refine fu ?_;first|refine cb ?_|refine bH ?_|refine bX ?_)|(refine gOp ?_;first|refine fd ?_|refine fm ?_|refine bc ?_|refine fp ?_|refine fj ?_|refine bU ?_|refine aT ?_|refine co ?_|refine fw ?_|refine bM ?_|refine b6 ?_|refine bk ?_|refine az ?_|refine bW ?_|refine sNo ?_|refine dO ?_|refine aw ?_)|refine dZ ?_|refine cN ?_|refine fB ?_|refine bp ?_|refine cz ?_|refine bB ?_|refine fC ?_|refine fI ?_|refine fx ?_|refine df ?_|refine cC ?_|refine aN ?_|refine aB ?_|refine bq ?_|refine ci ?_|refine bC ?_|refine aBlkX ?_|refine cA ?_)
 refine eG (fun i:Nat=>i≤l.length) (fun i=>l.length - i) (fun i=>[(0,.sy (.d (DS l))),(3,.sy (.d (DS (cH (l.take i))))),(4,.sy (.d (.i i)))]) 0 (Nat.zero_le _) (fun i hi=>?_)
 have hsn:=sR (l.take i)
 have hml:=kk (l.take i) []
 rw [show (l.take i).foldl rI []=cH (l.take i) from rfl,List.length_take,List.length_nil] at hml
 refine kgo ?_
 refine cIf (fun h=>?_) (fun h=>?_)
 ·have h:=of_decide_eq_true h
  have hlt:i<l.length:=by omega
  have hsu:=yo l i hlt
  revert hsn hml hsu
  generalize cH (l.take i)=m
  intro hsn hml hsu
  refine kgo ?_
  refine eG (fun k:Nat=>k≤m.length∧∀j (h:j<m.length),j<k→cQ m[j] l[i]=true) (fun k=>m.length - k) (fun k=>[(0,.sy (.d (DS l))),(3,.sy (.d (DS m))),(4,.sy (.d (.i i))),(5,.sy (.d (.i k)))]) 0 ⟨Nat.zero_le _,fun j _ h=>absurd h (Nat.not_lt_zero _)⟩ (fun k hk=>?_)
  obtain ⟨hk1,hk2⟩:=hk
  have hs0 (e:rI m l[i]=m.take k++l[i] :: m.drop k):DS (cH (l.take (i+1)))=D.l (0+1) ([]++(m.take k).map D.s++[B4 (D.s l[i])]++(m.drop k).map D.s):=by rw [hsu,e,show B4 (D.s l[i])=D.s l[i] from rfl];simp [DS]
  cases hc:decide ((k:Int)<(m.length:Int))
  ·have hc':=of_decide_eq_false hc
   have hc2:decide ((k:Int)=(m.length:Int))=true:=decide_eq_true (by omega)
   have hs:=hs0 (Aj hsn hk1 hk2 (fun h=>absurd h (by omega)) (fun h=>absurd h (by omega)))
   clear hs0
   refine kgo ?_
   rw [hc]
   refine kgo ?_
   rw [hc2]
   repeat (first|(refine cy ?_;first|refine aV ?_|refine bY ?_|refine aY ?_|refine aZ ?_|refine aS ?_|refine bg ?_|refine bi ?_|refine ay ?_|refine be ?_)|(refine fo ?_;first|refine bQ ?_|refine eZ ?_|refine cr ?_|refine b8 ?_)|(refine fa ?_;first|refine dm (fun _=>?_)|refine b9 ?_|refine cm ?_|refine bG ?_|refine cw ?_|refine ck ?_)|(refine fh ?_;first|refine cg ?_|refine eB ?_|refine bT ?_|refine bI ?_|refine cq ?_|refine bV ?_|refine bZ ?_)|(refine fe ?_;first|refine fl ?_|refine eS ?_|refine cd ?_|refine bP ?_|refine fq ?_|refine bl ?_|refine bo ?_)|(refine cu ?_;first|refine aX ?_|refine ch ?_)|(refine ff ?_;first|refine fF (d:=3) ?_|refine cj ?_|refine ct ?_|refine ft ?_)|(refine cf ?_;first|refine ca ?_|refine bd ?_|refine aQ ?_|refine ba ?_|refine aU ?_|refine bh ?_)|(refine fc ?_;first|refine b7 ?_|refine eY ?_|refine bj ?_|refine aR ?_|refine bm ?_)|(refine aI ?_;first|refine au _ ?_|refine bf ?_|refine aA ?_|refine av ?_|refine ax ?_)|(refine fu ?_;first|refine cb ?_|refine bH ?_|refine bX ?_)|(refine gOp ?_;first|refine fd ?_|refine fm ?_|refine bc ?_|refine fp ?_|refine fj ?_|refine bU ?_|refine aT ?_|refine co ?_|refine fw ?_|refine bM ?_|refine b6 ?_|refine bk ?_|refine az ?_|refine bW ?_|refine sNo ?_|refine dO ?_|refine aw ?_)|refine dZ ?_|refine cN ?_|refine fB ?_|refine bp ?_|refine cz ?_|refine bB ?_|refine fC ?_|refine fI ?_|refine fx ?_|refine df ?_|refine cC ?_|refine aN ?_|refine aB ?_|refine bq ?_|refine ci ?_|refine bC ?_|refine aBlkX ?_|refine cA ?_)
   exact af (i+1) hlt (by omega)
  ·have hc':=of_decide_eq_true hc
   have hkl:k<m.length:=by omega
   have hc2:decide ((k:Int)=(m.length:Int))=false:=decide_eq_false (by omega)
   refine kgo ?_
   rw [hc]
   refine kgo ?_
   refine cIf (fun h2=>?_) (fun h2=>?_)
   ·refine kgo ?_
    exact af (k+1) ⟨hkl,fun j h1 h3=>by
     rcases Nat.lt_or_ge j k with h4|h4
     ·exact hk2 j h1 h4
     ·rw [show m[j]=m[k] from by congr 1;omega];exact h2⟩ (by omega)
   ·refine kgo ?_
    rw [hc2]
    refine kgo ?_
    refine cIf (fun h3=>?_) (fun h3=>?_)
    ·rw [Bool.not_eq_true'] at h3
     have hs:=hs0 (Aj hsn hk1 hk2 (fun h=>h2) (fun h=>h3))
     clear hs0
     repeat (first|(refine cy ?_;first|refine aV ?_|refine bY ?_|refine aY ?_|refine aZ ?_|refine aS ?_|refine bg ?_|refine bi ?_|refine ay ?_|refine be ?_)|(refine fo ?_;first|refine bQ ?_|refine eZ ?_|refine cr ?_|refine b8 ?_)|(refine fa ?_;first|refine dm (fun _=>?_)|refine b9 ?_|refine cm ?_|refine bG ?_|refine cw ?_|refine ck ?_)|(refine fh ?_;first|refine cg ?_|refine eB ?_|refine bT ?_|refine bI ?_|refine cq ?_|refine bV ?_|refine bZ ?_)|(refine fe ?_;first|refine fl ?_|refine eS ?_|refine cd ?_|refine bP ?_|refine fq ?_|refine bl ?_|refine bo ?_)|(refine cu ?_;first|refine aX ?_|refine ch ?_)|(refine ff ?_;first|refine fF (d:=3) ?_|refine cj ?_|refine ct ?_|refine ft ?_)|(refine cf ?_;first|refine ca ?_|refine bd ?_|refine aQ ?_|refine ba ?_|refine aU ?_|refine bh ?_)|(refine fc ?_;first|refine b7 ?_|refine eY ?_|refine bj ?_|refine aR ?_|refine bm ?_)|(refine aI ?_;first|refine au _ ?_|refine bf ?_|refine aA ?_|refine av ?_|refine ax ?_)|(refine fu ?_;first|refine cb ?_|refine bH ?_|refine bX ?_)|(refine gOp ?_;first|refine fd ?_|refine fm ?_|refine bc ?_|refine fp ?_|refine fj ?_|refine bU ?_|refine aT ?_|refine co ?_|refine fw ?_|refine bM ?_|refine b6 ?_|refine bk ?_|refine az ?_|refine bW ?_|refine sNo ?_|refine dO ?_|refine aw ?_)|refine dZ ?_|refine cN ?_|refine fB ?_|refine bp ?_|refine cz ?_|refine bB ?_|refine fC ?_|refine fI ?_|refine fx ?_|refine df ?_|refine cC ?_|refine aN ?_|refine aB ?_|refine bq ?_|refine ci ?_|refine bC ?_|refine aBlkX ?_|refine cA ?_)
     exact af (i+1) hlt (by omega)
    ·rw [Bool.not_eq_false'] at h3
     have hs:DS (cH (l.take (i+1)))=DS m:=by rw [hsu,FZ hkl h3]
     clear hs0
     refine kgo ?_
     exact af (i+1) hlt (by omega)
 ·have h:=of_decide_eq_false h
  refine kgo ?_
  rw [List.take_of_length_le (by omega)]
  exact aq
def jC (a b:Big):List ByteArray:=cH (a.outer++b.outer)
def ic (a b c:Big) (n:Int):List Int:=eN n c.edges.toNat++dx c.outer (a.edges+b.edges) (jC a b)
def iv (a b:Big):Big:=
 ⟨a.roots+b.roots,cS 0 (cV 0 a.roots.toNat) (ic a b a 0) a.nodes++cS a.nodes.length (cV a.roots b.roots.toNat) (ic a b b a.edges) b.nodes,dv 0 (cV 0 a.roots.toNat) a.sites++dv a.nodes.length (cV a.roots b.roots.toNat) b.sites,a.edges+b.edges,jC a b,bR (dw (ic a b a 0) a.inner) (dw (ic a b b a.edges) b.inner)⟩
theorem CO {sig:List Ctl} {a b:Big} (hA:aF sig a=true) (hB:aF sig b=true) (hia:a.inner.length≤1000) (hib:b.inner.length≤1000) :
 FnD Tryz.prog 281 [a.D,b.D] (.d (iv a b).D):=by
 have ha:=aJ hA
 have hb:=aJ hB
 have l0:=kk (a.outer++b.outer) []
 rw [show (a.outer++b.outer).foldl rI []=jC a b from rfl,List.length_append,List.length_nil] at l0
 have l1:=eF 0 a.edges.toNat
 have l2:=eF a.edges b.edges.toNat
 have l3:=ly 0 a.roots.toNat
 have l4:=ly a.roots b.roots.toNat
 have l5:(dx a.outer (a.edges+b.edges) (jC a b)).length=a.outer.length:=by unfold dx;rw [List.length_map]
 have l6:(dx b.outer (a.edges+b.edges) (jC a b)).length=b.outer.length:=by unfold dx;rw [List.length_map]
 have l7:(ic a b a 0).length=a.edges.toNat+a.outer.length:=by unfold ic;rw [List.length_append,l1,l5]
 have l8:(ic a b b a.edges).length=b.edges.toNat+b.outer.length:=by unfold ic;rw [List.length_append,l2,l6]
 have f1:=yG (a.outer++b.outer) (by rw [List.length_append];omega)
 rw [show cH (a.outer++b.outer)=jC a b from rfl] at f1
 have f2:=gW 0 a.edges (by omega) (by omega)
 have f3:=gW a.edges b.edges (by omega) (by omega)
 have f4:=nX a.outer (a.edges+b.edges) (jC a b) (by omega) (by omega) (by omega)
 have f5:=nX b.outer (a.edges+b.edges) (jC a b) (by omega) (by omega) (by omega)
 have f6:=mF 0 a.roots (by omega) (by omega)
 have f7:=mF a.roots b.roots (by omega) (by omega)
 have f8:=lM a 0 (cV 0 a.roots.toNat) (ic a b a 0) (by omega) (by omega) (qy hA) (wR hA 0 (by omega)) (wI hA (by omega))
 have f9:=lM b a.nodes.length (cV a.roots b.roots.toNat) (ic a b b a.edges) (by omega) (by omega) (qy hB) (wR hB _ (by omega)) (wI hB (by omega))
 have g1:=lI a 0 (cV 0 a.roots.toNat) (by omega) (ro hA 0 (by omega)) (by omega)
 have g2:=lI b a.nodes.length (cV a.roots b.roots.toNat) (by omega) (ro hB _ (by omega)) (by omega)
 have g3:=n9 a (ic a b a 0) (wP hA (by omega)) (by omega)
 have g4:=n9 b (ic a b b a.edges) (wP hB (by omega)) (by omega)
 have g5:=sN (dw (ic a b a 0) a.inner) (dw (ic a b b a.edges) b.inner) (by unfold dw;rw [List.length_map];omega) (by unfold dw;rw [List.length_map];omega)
 have q1:(cS 0 (cV 0 a.roots.toNat) (ic a b a 0) a.nodes).length=a.nodes.length:=by unfold cS;rw [List.length_map]
 have q2:(cS a.nodes.length (cV a.roots b.roots.toNat) (ic a b b a.edges) b.nodes).length=b.nodes.length:=by unfold cS;rw [List.length_map]
 have q3:(dv 0 (cV 0 a.roots.toNat) a.sites).length=a.sites.length:=by unfold dv;rw [List.length_map]
 have q4:(dv a.nodes.length (cV a.roots b.roots.toNat) b.sites).length=b.sites.length:=by unfold dv;rw [List.length_map]
 refine ah Tryz.func281 (fun hw W0=>?_)
 repeat (first|refine cFz 7 ?_|refine cFz 8 ?_|refine cFz 9 ?_|refine cFz 10 ?_|(refine cy ?_;first|refine aV ?_|refine bY ?_|refine aY ?_|refine aZ ?_|refine aS ?_|refine bg ?_|refine bi ?_|refine ay ?_|refine be ?_)|(refine fo ?_;first|refine bQ ?_|refine eZ ?_|refine cr ?_|refine b8 ?_)|(refine fa ?_;first|refine dm (fun _=>?_)|refine b9 ?_|refine cm ?_|refine bG ?_|refine cw ?_|refine ck ?_)|(refine fh ?_;first|refine cg ?_|refine eB ?_|refine bT ?_|refine bI ?_|refine cq ?_|refine bV ?_|refine bZ ?_)|(refine fe ?_;first|refine fl ?_|refine eS ?_|refine cd ?_|refine bP ?_|refine fq ?_|refine bl ?_|refine bo ?_)|(refine cu ?_;first|refine aX ?_|refine ch ?_)|(refine ff ?_;first|refine cj ?_|refine ct ?_|refine ft ?_)|(refine cf ?_;first|refine ca ?_|refine bd ?_|refine aQ ?_|refine ba ?_|refine aU ?_|refine bh ?_)|(refine fc ?_;first|refine b7 ?_|refine eY ?_|refine bj ?_|refine aR ?_|refine bm ?_)|(refine aI ?_;first|refine au _ ?_|refine bf ?_|refine aA ?_|refine av ?_|refine ax ?_)|(refine fu ?_;first|refine cb ?_|refine bH ?_|refine bX ?_)|(refine gOp ?_;first|refine fd ?_|refine fm ?_|refine bc ?_|refine fp ?_|refine fj ?_|refine bU ?_|refine aT ?_|refine co ?_|refine fw ?_|refine bM ?_|refine b6 ?_|refine bk ?_|refine sFz 17 ?_|refine sFz 31 ?_|refine sFz 42 ?_|refine sFz 67 ?_|refine sFz 68 ?_|refine sFz 77 ?_|refine sFz 78 ?_|refine sFz 83 ?_|refine sFz 86 ?_|refine az ?_|refine bW ?_|refine sNo ?_|refine dO ?_|refine aw ?_)|refine dZ ?_|refine cN ?_|refine fB ?_|refine bp ?_|refine cz ?_|refine bB ?_|refine fC ?_|refine fI ?_|refine fx ?_|refine df ?_|refine cC ?_|refine aN ?_|refine aB ?_|refine bq ?_|refine ci ?_|refine bC ?_|refine aBlkX ?_|refine cA ?_|refine sFz 17 ?_|refine sFz 31 ?_|refine sFz 42 ?_|refine sFz 67 ?_|refine sFz 68 ?_|refine sFz 77 ?_|refine sFz 78 ?_|refine sFz 83 ?_|refine sFz 86 ?_)
 exact aq
end Go.Proofs.YtacafmejcdgboaaGreatDoor
namespace Go.Proofs.YtacafmejcdgboaaGreatDoor
open Go.RowKit
set_option linter.unusedVariables false
set_option maxRecDepth 100000
set_option maxHeartbeats 4000000
attribute [local irreducible] ar Der At
theorem nS {a b:Big}:(iv a b).inner.length=a.inner.length+b.inner.length:=by unfold iv dw;simp only [kq,List.length_map]
def n5 (sig:List Ctl) (a b:Big):Big × Bool:=if aF sig a && (aF sig b && (iy a.outer b.outer && (iy (a.inner.map Wr.name) (b.inner.map Wr.name) && aF sig (iv a b)))) then (iv a b,true) else (fN,false)
theorem xX (sig:List Ctl) (a b:Big) (hla:a.inner.length≤1000) (hlb:b.inner.length≤1000):FnD Tryz.prog 254 [.l 3 (sig.map Ctl.D),a.D,b.D] (.tp [(n5 sig a b).1.D,.b (n5 sig a b).2]):=by
 have f1:=gh sig a (by omega)
 have f2:=gh sig b (by omega)
 have f3:=tj a.outer b.outer
 have f4:=jI a hla
 have f5:=jI b hlb
 have f6:=tj (a.inner.map Wr.name) (b.inner.map Wr.name)
 have f8:=wG sig (iv a b) (by rw [nS];omega)
 refine ah Tryz.func254 (fun hw W0=>?_)
 unfold n5
 cases h1:aF sig a
 ·rw [h1] at f1
  refine kgo ?_
  exact iA
 cases h2:aF sig b
 ·rw [h1] at f1
  rw [h2] at f2
  refine kgo ?_
  exact iA
 have f7:=CO h1 h2 hla hlb
 rw [h1] at f1
 rw [h2] at f2
 cases h3:iy a.outer b.outer
 ·rw [h3] at f3
  refine kgo ?_
  exact iA
 rw [h3] at f3
 cases h4:iy (a.inner.map Wr.name) (b.inner.map Wr.name)
 ·rw [h4] at f6
  refine kgo ?_
  exact iA
 rw [h4] at f6
 rw [show (if true && (true && (true && (true && aF sig (iv a b)))) then (iv a b,true) else (fN,false))=(if aF sig (iv a b) then iv a b else fN,aF sig (iv a b)) from by cases aF sig (iv a b) <;> rfl]
 refine kgo ?_
 exact iA
def eT (xs ys:List ByteArray):List ByteArray:=ys.filter fun y=>decide (jx xs y<0)
theorem yx (xs ys:List ByteArray) (i:Nat) (h:i<ys.length):eT xs (ys.take (i+1))=if decide (jx xs ys[i]<0)=true then eT xs (ys.take i)++[ys[i]] else eT xs (ys.take i):=by
 unfold eT
 rw [List.take_succ_eq_append_getElem h,List.filter_append]
 by_cases hh:decide (jx xs ys[i]<0)=true <;> simp [hh]
theorem yI (sig:List Ctl) (a b:Big) (hla:a.inner.length≤1000) (hlb:b.inner.length≤1000):FnD Tryz.prog 213 [.l 3 (sig.map Ctl.D),a.D,b.D] (.tp [(n5 sig a (idB (eT a.outer (b.inner.map Wr.name)))).1.D,.b (n5 sig a (idB (eT a.outer (b.inner.map Wr.name)))).2]):=by
 have f1:=jI b hlb
 have hll:(b.inner.map Wr.name).length≤1000:=by rw [List.length_map];exact hlb
 refine ah Tryz.func213 (fun hw W0=>?_)
 revert f1 hll
 generalize b.inner.map Wr.name=ys
 intro f1 hll
 have hr:(eT a.outer ys).length≤1000:=Nat.le_trans (List.length_filter_le _ _) hll
 have f3:=tf (eT a.outer ys) hr
 have f4:=xX sig a (idB (eT a.outer ys)) hla (by unfold idB;simpa using hr)
 refine kgo ?_
 refine eG (fun i:Nat=>i≤ys.length) (fun i=>ys.length - i) (fun i=>[(0,.sy (.d (.l 3 (sig.map Ctl.D)))),(4,.sy (.bx 10004 0)),(10004,.tk (.bx (iu a.D))),(6,.sy (.bx 10006 0)),(10006,.tk (.bx (iu (.t [.i 0,.n 3,.n 1,.i 0,.n 1,.n 2])))),(8,.sy (.k 10011)),(10011,.tk (.row 1 9 ((eT a.outer (ys.take i)).map D.s))),(9,.sy (.d (DS ys))),(10,.sy (.d (.i i)))]) 0 (Nat.zero_le _) (fun i hi=>?_)
 refine kgo ?_
 refine cIf (fun h=>?_) (fun h=>?_)
 ·have h:=of_decide_eq_true h
  have hlt:i<ys.length:=by omega
  have f2:=wt a.outer ys[i]
  have hq:(eT a.outer (ys.take i)).length≤1000:=Nat.le_trans (List.length_filter_le _ _) (by rw [List.length_take];omega)
  have hsu:=yx a.outer ys i hlt
  refine kgo ?_
  refine cIf (fun h2=>?_) (fun h2=>?_)
  ·rw [if_pos h2] at hsu
   have hs:(eT a.outer (ys.take (i+1))).map D.s=(eT a.outer (ys.take i)).map D.s++[.s ys[i]]:=by rw [hsu,List.map_append];rfl
   refine kgo ?_
   exact af (i+1) hlt (by omega)
  ·rw [if_neg (by rw [h2];exact Bool.false_ne_true)] at hsu
   have hs:(eT a.outer (ys.take (i+1))).map D.s=(eT a.outer (ys.take i)).map D.s:=by rw [hsu]
   refine kgo ?_
   exact af (i+1) hlt (by omega)
 ·have h:=of_decide_eq_false h
  rw [List.take_of_length_le (by omega)]
  repeat (first|refine cFz 8 ?_|(refine cy ?_;first|refine aV ?_|refine bY ?_|refine aY ?_|refine aZ ?_|refine aS ?_|refine bg ?_|refine bi ?_|refine ay ?_|refine be ?_)|(refine fo ?_;first|refine bQ ?_|refine eZ ?_|refine cr ?_|refine b8 ?_)|(refine fa ?_;first|refine dm (fun _=>?_)|refine b9 ?_|refine cm ?_|refine bG ?_|refine cw ?_|refine ck ?_)|(refine fh ?_;first|refine cg ?_|refine eB ?_|refine bT ?_|refine bI ?_|refine cq ?_|refine bV ?_|refine bZ ?_)|(refine fe ?_;first|refine fl ?_|refine eS ?_|refine cd ?_|refine bP ?_|refine fq ?_|refine bl ?_|refine bo ?_)|(refine cu ?_;first|refine aX ?_|refine ch ?_)|(refine ff ?_;first|refine cj ?_|refine ct ?_|refine ft ?_)|(refine cf ?_;first|refine ca ?_|refine bd ?_|refine aQ ?_|refine ba ?_|refine aU ?_|refine bh ?_)|(refine fc ?_;first|refine b7 ?_|refine eY ?_|refine bj ?_|refine aR ?_|refine bm ?_)|(refine aI ?_;first|refine au _ ?_|refine bf ?_|refine aA ?_|refine av ?_|refine ax ?_)|(refine fu ?_;first|refine cb ?_|refine bH ?_|refine bX ?_)|(refine gOp ?_;first|refine fd ?_|refine fm ?_|refine bc ?_|refine fp ?_|refine fj ?_|refine bU ?_|refine aT ?_|refine co ?_|refine fw ?_|refine bM ?_|refine b6 ?_|refine bk ?_|refine az ?_|refine bW ?_|refine sNo ?_|refine dO ?_|refine aw ?_)|refine dZ ?_|refine cN ?_|refine fB ?_|refine bp ?_|refine cz ?_|refine bB ?_|refine fC ?_|refine fI ?_|refine fx ?_|refine df ?_|refine cC ?_|refine aN ?_|refine aB ?_|refine bq ?_|refine ci ?_|refine bC ?_|refine aBlkX ?_|refine cA ?_)
  exact iA
def mW (sig:List Ctl) (mid ctx par:Big):Big × Bool:=
 if (n5 sig mid (idB (eT mid.outer (ctx.inner.map Wr.name)))).2 then (if (eP sig ctx (n5 sig mid (idB (eT mid.outer (ctx.inner.map Wr.name)))).1).2 then eP sig (eP sig ctx (n5 sig mid (idB (eT mid.outer (ctx.inner.map Wr.name)))).1).1 par else (fN,false)) else (fN,false)
theorem v8 (sig:List Ctl) (a b:Big):(n5 sig a b).1.inner.length≤a.inner.length+b.inner.length:=by
 unfold n5
 split
 ·rw [nS];omega
 ·exact Nat.zero_le _
theorem tI (sig:List Ctl) (a b:Big):(eP sig a b).1.inner.length≤b.inner.length:=by
 unfold eP
 split
 ·rw [qz];omega
 ·exact Nat.zero_le _
theorem yb (sig:List Ctl) (mid ctx par:Big) (hl:mid.inner.length+ctx.inner.length≤1000) (hp:par.inner.length≤1000):FnD Tryz.prog 144 [.l 3 (sig.map Ctl.D),mid.D,ctx.D,par.D] (.tp [(mW sig mid ctx par).1.D,.b (mW sig mid ctx par).2]):=by
 have f1:=yI sig mid ctx (by omega) (by omega)
 have hr:(eT mid.outer (ctx.inner.map Wr.name)).length≤ctx.inner.length:=Nat.le_trans (List.length_filter_le _ _) (by rw [List.length_map];omega)
 refine ah Tryz.func144 (fun hw W0=>?_)
 unfold mW
 revert f1 hr
 generalize eT mid.outer (ctx.inner.map Wr.name)=ns
 intro f1 hr
 have hb:=v8 sig mid (idB ns)
 rw [show (idB ns).inner.length=ns.length from by unfold idB;simp] at hb
 revert f1 hb
 generalize n5 sig mid (idB ns)=r
 obtain ⟨r,k⟩:=r
 intro f1 hb
 cases k
 ·refine kgo ?_
  exact iA
 have f2:=oS sig ctx r (by omega) (by simp only at hb;omega)
 have hc:=tI sig ctx r
 simp only [if_true]
 revert f2 hc
 generalize eP sig ctx r=q
 obtain ⟨q,k⟩:=q
 intro f2 hc
 cases k
 ·refine kgo ?_
  exact iA
 have f3:=oS sig q par (by simp only at hb hc;omega) hp
 refine kgo ?_
 exact iA
end Go.Proofs.YtacafmejcdgboaaGreatDoor
namespace Go.Proofs.YtacafmejcdgboaaGreatDoor
open Go.RowKit
set_option linter.unusedVariables false
set_option maxRecDepth 100000
set_option maxHeartbeats 4000000
attribute [local irreducible] ar Der At
abbrev nb (x:Int × Int):D:=.t [.i x.1,.i x.2]
theorem Ge:Lik iZ nb:=⟨fun w S x cs h=>by
 obtain ⟨c,e,rfl,⟨rfl,h1⟩,c',e',rfl,⟨rfl,h2⟩,rfl⟩:=h
 exact ⟨rfl,h1,h2⟩,fun w lo hi x cs h=>by
 obtain ⟨rfl,h1,h2⟩:=h
 exact ⟨[_],[_],rfl,⟨rfl,h1⟩,[_],[],rfl,⟨rfl,h2⟩,rfl⟩⟩
theorem lJ (b:Big) (l:Int) (hn:b.nodes.length≤1000) (hl:∀i (h:i<b.nodes.length),(b.nodes[i]).links.length≤1000):FnD Tryz.prog 253 [b.D,.i l] (.d (.l 2 ((aK b l).map nb))):=⟨bS Tryz.func253,fun F w vs hv hF=>by
 obtain ⟨v1,t,rfl,h1,v2,t2,rfl,⟨h2,_⟩,h3⟩:=hv
 cases (show t2 = [] from h3)
 obtain ⟨cs,rfl,hb⟩:=sZ h1
 cases h2
 refine (pG _ _ _ _ _ _ hb hn hl).mono ?_
 rintro e w' ⟨v,rfl,hV,hX⟩
 exact ⟨_,rfl,hX,ql (Ge.ofV hV)⟩⟩
theorem ma (b:Big) (p:Int) (hl:b.sites.length≤1048576):FnD Tryz.prog 203 [b.D,.i p] (.d (DI (cD b p))):=⟨bS Tryz.func203,fun F w vs hv hF=>by
 obtain ⟨v1,t,rfl,h1,v2,t2,rfl,⟨h2,_⟩,h3⟩:=hv
 cases (show t2 = [] from h3)
 obtain ⟨cs,rfl,hb⟩:=sZ h1
 cases h2
 refine (pD _ _ _ _ _ _ hb hl).mono ?_
 rintro e w' ⟨v,rfl,hV,hX⟩
 exact ⟨_,rfl,hX,ql (Gn.ofV hV)⟩⟩
def mP (row:List Bool) (v:Bool) (ps:List (Int × Int)):Nat:=(ps.filter fun p=>row.getD p.1.toNat false == v).length
theorem x7 (row:List Bool) (v:Bool) (ps:List (Int × Int)) (i:Nat) (h:i<ps.length):mP row v (ps.take (i+1))=if (row.getD (ps[i]).1.toNat false == v)=true then mP row v (ps.take i)+1 else mP row v (ps.take i):=by
 unfold mP
 rw [List.take_succ_eq_append_getElem h,List.filter_append]
 by_cases hh:(row.getD (ps[i]).1.toNat false == v)=true
 ·rw [if_pos hh];simp only [List.length_append,List.filter_cons,hh,if_true,List.filter_nil,List.length_cons,List.length_nil]
 ·rw [if_neg hh];simp only [List.length_append,List.filter_cons,if_neg hh,List.filter_nil,List.length_nil,Nat.add_zero]
theorem eu (b:Big) (l:Int) (hn:b.nodes.length≤1000) (hl:∀i (h:i<b.nodes.length),(b.nodes[i]).links.length≤1000):(aK b l).length≤1000000:=by
 have:=pb b l b.nodes.length (Nat.le_refl _) hl
 unfold aK
 omega
theorem DR (b:Big) (l:Int) (row:List Bool) (v:Bool) (hn:b.nodes.length≤1000) (hl:∀i (h:i<b.nodes.length),(b.nodes[i]).links.length≤1000) (hr:b.nodes.length≤row.length):FnD Tryz.prog 206 [b.D,.i l,.l 1 (row.map .b),.b v] (.d (.i (mP row v (aK b l)))):=by
 have f1:=lJ b l hn hl
 have hp:∀q∈aK b l,∃n:Nat,q.1=(n:Int)∧n<row.length:=fun q hq=>by
  obtain ⟨i,k,hi,_,_,e⟩:=ew.1 hq
  exact ⟨i,by rw [e],by omega⟩
 refine ah Tryz.func206 (fun hw W0=>?_)
 have hpl:(aK b l).length≤1000000:=eu b l hn hl
 revert f1 hp hpl
 generalize aK b l=ps
 intro f1 hp hpl
 refine kgo ?_
 refine eG (fun i:Nat=>i≤ps.length) (fun i=>ps.length - i) (fun i=>[(2,.sy (.d (.l 1 (row.map .b)))),(3,.sy (.d (.b v))),(9,.sy (.d (.l 2 (ps.map nb)))),(10,.sy (.d (.i (mP row v (ps.take i))))),(11,.sy (.d (.i i)))]) 0 (Nat.zero_le _) (fun i hi=>?_)
 refine kgo ?_
 refine cIf (fun h=>?_) (fun h=>?_)
 ·have h:=of_decide_eq_true h
  have hlt:i<ps.length:=by omega
  obtain ⟨n,hq,hnr⟩:=hp _ (List.getElem_mem hlt)
  have hsu:=x7 row v ps i hlt
  have hm:mP row v (ps.take i)≤ps.length:=Nat.le_trans (List.length_filter_le _ _) (by rw [List.length_take];omega)
  rw [hq,show (n:Int).toNat=n from rfl,List.getD_eq_getElem?_getD,List.getElem?_eq_getElem hnr,Option.getD_some] at hsu
  refine kgo ?_
  refine dm (n:=n) (fun _=>?_) rfl rfl (congrArg some hq)
  refine kgo ?_
  refine cIf (fun h2=>?_) (fun h2=>?_)
  ·rw [if_pos h2] at hsu
   have hs:D.i ((mP row v (ps.take (i+1)):Nat):Int)=D.i ((mP row v (ps.take i):Nat)+1):=by rw [hsu];rfl
   refine kgo ?_
   exact af (i+1) hlt (by omega)
  ·rw [if_neg (by rw [h2];exact Bool.false_ne_true)] at hsu
   have hs:D.i ((mP row v (ps.take (i+1)):Nat):Int)=D.i (mP row v (ps.take i):Nat):=by rw [hsu]
   refine kgo ?_
   exact af (i+1) hlt (by omega)
 ·have h:=of_decide_eq_false h
  refine kgo ?_
  rw [List.take_of_length_le (by omega)]
  exact aq
theorem Dy (r:Big) (m:Mat) (p:Int) (hl:r.sites.length≤1000) (hs:dP m.nodes p=true) (hh:0<(cD r (dc m.nodes p)).length):FnD Tryz.prog 212 [r.D,m.D,.i p] (.d (.i (kS r m.nodes p))):=by
 refine ah Tryz.func212 (fun hw W0=>?_)
 have hml:=(wfM hw.2.1.1).1
 refine kgo ?_
 refine eG (fun i:Nat=>i≤m.nodes.length∧dP (m.nodes.take i) p=false) (fun i=>m.nodes.length - i) (fun i=>[(2,.sy (.d (.i p))),(3,.sy (.bx 10003 0)),(10003,.tk (.bx (iu r.D))),(4,.sy (.bx 10004 0)),(10004,.tk (.bx (iu m.D))),(7,.sy (.d (.i i)))]) 0 ⟨Nat.zero_le _,rfl⟩ (fun i hi=>?_)
 refine kgo ?_
 refine cIf (fun h=>?_) (fun h=>?_)
 ·have h:=of_decide_eq_true h
  have hlt:i<m.nodes.length:=by omega
  refine kgo ?_
  refine cIf (fun h2=>?_) (fun h2=>?_)
  ·have h2:=of_decide_eq_true h2
   have hix:dc m.nodes p=(i:Int):=un p m.nodes i hlt h2 (by have:=hi.2;unfold dP at this;rw [← this];congr 1;funext x;exact Bool.beq_comm ..)
   have f1:=ma r i (by omega)
   rw [← hix] at f1
   have f1:FnD Tryz.prog 203 [r.D,.i i] (.d (DI (cD r (dc m.nodes p)))):=by rw [hix] at f1 ⊢;exact f1
   have hz:(0:Int)≤0∧(0:Int)<((cD r (dc m.nodes p)).length:Int):=⟨Int.le_refl _,by omega⟩
   have hso:kS r m.nodes p=(cD r (dc m.nodes p))[0]:=by unfold kS atI;simp [List.getElem?_eq_getElem hh]
   refine kgo ?_
   rw [hso]
   exact aq
  ·have h2:=of_decide_eq_false h2
   have hx:dP (m.nodes.take (i+1)) p=false:=by
    have:=hi.2
    unfold dP at this ⊢
    rw [List.take_succ_eq_append_getElem hlt,List.any_append,this]
    simp;omega
   refine kgo ?_
   exact af (i+1) ⟨hlt,hx⟩ (by omega)
 ·have h:=of_decide_eq_false h
  have:=hi.2
  rw [List.take_of_length_le (by omega),hs] at this
  cases this
theorem BO:∀i:Fin 26,(⟨#[97,98,99,100,101,102,103,104,105,106,107,108,109,110,111,112,113,114,115,116,117,118,119,120,121,122]⟩:ByteArray).extract i (i+1)=⟨#[UInt8.ofNat (97+i)]⟩:=by decide
theorem xQ (i:Nat) (hi:i<26):FnD Tryz.prog 207 [.i i] (.d (.s ⟨#[UInt8.ofNat (97+i)]⟩)):=by
 refine ah Tryz.func207 (fun hw W0=>?_)
 have hij:i≤i+1∧i+1≤(⟨#[97,98,99,100,101,102,103,104,105,106,107,108,109,110,111,112,113,114,115,116,117,118,119,120,121,122]⟩:ByteArray).size:=⟨by omega,by show i+1≤26;omega⟩
 have hl:=BO ⟨i,hi⟩
 simp only at hl
 rw [← hl]
 refine kgo ?_
 exact aq
end Go.Proofs.YtacafmejcdgboaaGreatDoor
namespace Go.Proofs.YtacafmejcdgboaaGreatDoor
open Go.RowKit
set_option linter.unusedVariables false
set_option maxRecDepth 100000
set_option maxHeartbeats 4000000
attribute [local irreducible] ar Der At
def tkF (row:List Bool) (v:Bool) (i:Nat):Bool:=row.getD i false == v
def atN (row:List Bool) (v:Bool) (i:Nat):Int:=((List.range i).filter (tkF row v)).length
def atL (row:List Bool) (v:Bool) (n:Nat):List Int:=(List.range n).map (atN row v)
def sX (row:List Bool) (v dn:Bool) (p:Int):Int:=if decide (0≤p) && tkF row v p.toNat then atN row v p.toNat else if dn then -1 else p
def Gx (row:List Bool) (v dn:Bool) (ks:List Int) (n:Nd):Nd:=⟨n.control,sX row v dn n.parent,ez ks n.links⟩
def gO (b:Big) (row:List Bool) (v dn:Bool) (ks:List Int) (n:Nat):List Nd:=((List.range n).filter (tkF row v)).map fun (i:Nat)=>Gx row v dn ks (dR b (i:Int))
theorem zM (b:Big) (row:List Bool) (v dn:Bool) (ks:List Int) (n:Nat):((gO b row v dn ks n).length:Int)=atN row v n:=by unfold gO atN;rw [List.length_map]
theorem D5 (b:Big) (row:List Bool) (v dn:Bool) (ks:List Int) (n:Nat):(gO b row v dn ks n).length≤n:=by
 unfold gO;rw [List.length_map];exact Nat.le_trans (List.length_filter_le _ _) (by rw [List.length_range];exact Nat.le_refl _)
theorem yH (b:Big) (row:List Bool) (v dn:Bool) (ks:List Int) (n:Nat):gO b row v dn ks (n+1)=if tkF row v n=true then gO b row v dn ks n++[Gx row v dn ks (dR b n)] else gO b row v dn ks n:=by
 unfold gO
 rw [List.range_succ,List.filter_append]
 by_cases h:tkF row v n=true <;> simp [h]
theorem wv (row:List Bool) (v:Bool) (n:Nat):atL row v (n+1)=atL row v n++[atN row v n]:=by unfold atL;rw [List.range_succ,List.map_append];rfl
theorem i6 (row:List Bool) (v:Bool) (n:Nat):(atL row v n).length=n:=by unfold atL;simp
theorem G2 (row:List Bool) (v:Bool) (n i:Nat) (h:i<(atL row v n).length):(atL row v n)[i]=atN row v i:=by simp [atL]
theorem sQ (row:List Bool) (v:Bool) (i:Nat) (h:i<row.length):tkF row v i=(row[i] == v):=by unfold tkF;rw [List.getD_eq_getElem?_getD,List.getElem?_eq_getElem h];rfl
theorem vQ (b:Big) (row:List Bool) (v dn:Bool) (ks:List Int) (hl:b.nodes.length≤1000) (hr:b.nodes.length≤row.length) (hup:∀i (h:i<b.nodes.length),(b.nodes[i]).parent<i) (hll:∀n∈b.nodes,n.links.length≤1000) (hlk:∀n∈b.nodes,∀l∈n.links,0≤l∧l<(ks.length:Int)):FnD Tryz.prog 210 [b.D,.l 1 (row.map .b),.b v,DI ks,.b dn] (.row 3 151 ((gO b row v dn ks b.nodes.length).map Nd.D)):=by
 refine ah Tryz.func210 (fun hw W0=>?_)
 refine kgo ?_
 refine eG (fun i:Nat=>i≤b.nodes.length) (fun i=>b.nodes.length - i) (fun i=>[(1,.sy (.d (.l 1 (row.map .b)))),(2,.sy (.d (.b v))),(3,.sy (.d (DI ks))),(4,.sy (.d (.b dn))),(5,.sy (.bx 10005 0)),(10005,.tk (.bx (iu b.D))),(11,.sy (.k 10017)),(10017,.tk (.row 3 151 ((gO b row v dn ks i).map Nd.D))),(12,.sy (.k 10018)),(10018,.tk (.row 1 3 ((atL row v i).map .i))),(13,.sy (.d (.i i)))]) 0 (Nat.zero_le _) (fun i hi=>?_)
 refine kgo ?_
 refine cIf (fun h=>?_) (fun h=>?_)
 ·have h:=of_decide_eq_true h
  have hlt:i<b.nodes.length:=by omega
  have hir:i<row.length:=by omega
  have hm:=List.getElem_mem hlt
  have hL:=hll _ hm
  have hK:=hlk _ hm
  have hU:=hup i hlt
  have hq:=D5 b row v dn ks i
  have hat:=i6 row v i
  have hsa:(atL row v (i+1)).map D.i=(atL row v i).map D.i++[.i ((gO b row v dn ks i).map Nd.D).length]:=by rw [wv,List.map_append,List.length_map,zM];rfl
  have hst:=yH b row v dn ks i
  rw [sQ row v i hir,aD b i hlt] at hst
  refine kgo ?_
  refine cIf (fun h2=>?_) (fun h2=>?_)
  ·rw [Bool.not_eq_true'] at h2
   rw [if_neg (by rw [h2];exact Bool.false_ne_true)] at hst
   have hs:(gO b row v dn ks (i+1)).map Nd.D=(gO b row v dn ks i).map Nd.D:=by rw [hst]
   refine kgo ?_
   exact af (i+1) hlt (by omega)
  ·rw [Bool.not_eq_false'] at h2
   rw [if_pos h2] at hst
   have hs:(gO b row v dn ks (i+1)).map Nd.D=(gO b row v dn ks i).map Nd.D++[Nd.D (Gx row v dn ks b.nodes[i])]:=by rw [hst,List.map_append];rfl
   refine kgo ?_
   cases hc:decide (0≤(b.nodes[i]).parent)
   have hT:sX row v dn (b.nodes[i]).parent=if dn=true then -1 else (b.nodes[i]).parent:=by unfold sX;rw [hc];rfl
   refine kgo ?_
   refine cIf (fun h4=>?_) (fun h4=>?_)
   have hP:D.i (sX row v dn (b.nodes[i]).parent)=D.i (-1):=by rw [hT,h4];rfl
   rotate_left
   have hP:D.i (sX row v dn (b.nodes[i]).parent)=D.i (b.nodes[i]).parent:=by rw [hT,h4];rfl
   rotate_left
   have hc':=of_decide_eq_true hc
   obtain ⟨j,hj⟩:=Int.eq_ofNat_of_zero_le hc'
   have hjr:j<row.length:=by omega
   have hT:sX row v dn (b.nodes[i]).parent=if (row[j] == v)=true then atN row v j else if dn=true then -1 else (b.nodes[i]).parent:=by unfold sX;rw [hc,hj,← sQ row v j hjr];rfl
   refine kgo ?_
   refine dm (n:=j) (fun _=>?_) rfl rfl (congrArg some hj)
   refine kgo ?_
   refine cIf (fun h3=>?_) (fun h3=>?_)
   have hnj:j<((atL row v i).map D.i++[D.i ((gO b row v dn ks i).map Nd.D).length]).length:=by rw [List.length_append,List.length_map,hat];show j<i+1;omega
   have hnk:j<(atL row v (i+1)).length:=by rw [i6];omega
   have hP:D.i (sX row v dn (b.nodes[i]).parent)=D.i (atL row v (i+1))[j]:=by rw [hT,if_pos h3,G2 row v (i+1) j hnk]
   refine kgo ?_
   refine bG (n:=j) ?_ rfl rfl rfl (congrArg some hj)
   refine aS (f:=D.i) (l:=atL row v (i+1)) ?_ rfl (by exact jY rfl hsa.symm) hnk
   rotate_left
   rw [if_neg (by rw [h3];exact Bool.false_ne_true)] at hT
   refine kgo ?_
   refine cIf (fun h4=>?_) (fun h4=>?_)
   have hP:D.i (sX row v dn (b.nodes[i]).parent)=D.i (-1):=by rw [hT,h4];rfl
   rotate_left
   have hP:D.i (sX row v dn (b.nodes[i]).parent)=D.i (b.nodes[i]).parent:=by rw [hT,h4];rfl
   all_goals
    refine kgo ?_
    refine eG (fun k:Nat=>k≤(b.nodes[i]).links.length) (fun k=>(b.nodes[i]).links.length - k) (fun k=>[(1,.sy (.d (.l 1 (row.map .b)))),(2,.sy (.d (.b v))),(3,.sy (.d (DI ks))),(4,.sy (.d (.b dn))),(5,.sy (.bx 10005 0)),(10005,.tk (.bx (iu b.D))),(11,.sy (.k 10017)),(10017,.tk (.row 3 151 ((gO b row v dn ks i).map Nd.D))),(12,.sy (.k 10030)),(10030,.tk (.row 1 3 ((atL row v (i+1)).map .i))),(13,.sy (.d (.i i))),(14,.sy (.d (.i (sX row v dn (b.nodes[i]).parent)))),(15,.sy (.k 10058)),(10058,.tk (.row 1 3 ((ez ks ((b.nodes[i]).links.take k)).map .i))),(16,.sy (.d (.i k)))]) 0 (Nat.zero_le _) (fun k hk=>?_)
    refine kgo ?_
    refine cIf (fun h5=>?_) (fun h5=>?_)
    ·have h5:=of_decide_eq_true h5
     have hkl:k<(b.nodes[i]).links.length:=by omega
     have hk2:=hK _ (List.getElem_mem hkl)
     have hs5:(ez ks ((b.nodes[i]).links.take (k+1))).map D.i=(ez ks ((b.nodes[i]).links.take k)).map D.i++[.i (atI ks (b.nodes[i]).links[k])]:=by rw [oU ks k hkl,List.map_append];rfl
     have hq5:(ez ks ((b.nodes[i]).links.take k)).length≤1000:=by unfold ez;rw [List.length_map,List.length_take];omega
     refine kgo ?_
     exact af (k+1) hkl (by omega)
    ·have h5:=of_decide_eq_false h5
     rw [show (b.nodes[i]).links.take k=(b.nodes[i]).links from List.take_of_length_le (by omega)]
     repeat (first|(refine cy ?_;first|refine aV ?_|refine bY ?_|refine aY ?_|refine aZ ?_|refine aS ?_|refine bg ?_|refine bi ?_|refine ay ?_|refine be ?_)|(refine fo ?_;first|refine bQ ?_|refine eZ ?_|refine cr ?_|refine b8 ?_)|(refine fa ?_;first|refine dm (fun _=>?_)|refine b9 ?_|refine cm ?_|refine bG ?_|refine cw ?_|refine ck ?_)|(refine fh ?_;first|refine cg ?_|refine eB ?_|refine bT ?_|refine bI ?_|refine cq ?_|refine bV ?_|refine bZ ?_)|(refine fe ?_;first|refine fl ?_|refine eS ?_|refine cd ?_|refine bP ?_|refine fq ?_|refine bl ?_|refine bo ?_)|(refine cu ?_;first|refine aX ?_|refine ch ?_)|(refine ff ?_;first|refine cj ?_|refine ct ?_|refine ft ?_)|(refine cf ?_;first|refine ca ?_|refine bd ?_|refine aQ ?_|refine ba ?_|refine aU ?_|refine bh ?_)|(refine fc ?_;first|refine b7 ?_|refine eY ?_|refine bj ?_|refine aR ?_|refine bm ?_)|(refine aI ?_;first|refine au _ ?_|refine bf ?_|refine aA ?_|refine av ?_|refine ax ?_)|(refine fu ?_;first|refine cb ?_|refine bH ?_|refine bX ?_)|(refine gOp ?_;first|refine fd ?_|refine fm ?_|refine bc ?_|refine fp ?_|refine fj ?_|refine bU ?_|refine aT ?_|refine co ?_|refine fw ?_|refine bM ?_|refine b6 ?_|refine bk ?_|refine sFz 93 ?_|refine az ?_|refine bW ?_|refine sNo ?_|refine dO ?_|refine aw ?_)|refine dZ ?_|refine cN ?_|refine fB ?_|refine bp ?_|refine cz ?_|refine bB ?_|refine fC ?_|refine fI ?_|refine fx ?_|refine df ?_|refine cC ?_|refine aN ?_|refine aB ?_|refine bq ?_|refine ci ?_|refine bC ?_|refine aBlkX ?_|refine cA ?_|refine sFz 93 ?_)
     exact af (i+1) hlt (by omega)
 ·have h:=of_decide_eq_false h
  refine kgo ?_
  rw [show i=b.nodes.length by omega]
  exact pt
end Go.Proofs.YtacafmejcdgboaaGreatDoor
namespace Go.Proofs.YtacafmejcdgboaaGreatDoor
open Go.RowKit
set_option linter.unusedVariables false
set_option maxRecDepth 100000
set_option maxHeartbeats 4000000
attribute [local irreducible] ar Der At
def yY (to:List Int) (p:Int):Int:=if p<0 then p else atI to p
theorem Cm (p:Int) (to:List Int) (hp:p<to.length):FnD Tryz.prog 197 [.i p,DI to] (.d (.i (yY to p))):=by
 refine ah Tryz.func197 (fun hw W0=>?_)
 refine kgo ?_
 refine cIf (fun h=>?_) (fun h=>?_)
 ·have h:=of_decide_eq_true h
  rw [show yY to p=p from if_pos h]
  refine kgo ?_
  exact aq
 ·have h:=of_decide_eq_false h
  rw [show yY to p=atI to p from if_neg h]
  refine kgo ?_
  exact aq
theorem F1 {sig:List Ctl} {r a:Big} {ns:List Int} (h:ox r a ns) (hr:aF sig r=true) (ha:aF sig a=true) (l:Int) (j:Nat) (hj:j<(aK r l).length):∃mm:Nat,∃hm:mm<a.nodes.length,(0≤((aK r l)[j]).1∧((aK r l)[j]).1<ns.length)∧atI ns ((aK r l)[j]).1=(mm:Int)∧(0≤((aK r l)[j]).2∧((aK r l)[j]).2<(a.nodes[mm]).links.length)∧ik a ns (aK r l)[j]=atI (a.nodes[mm]).links ((aK r l)[j]).2:=by
 obtain ⟨i,k,hi,hk,_,hq⟩:=ew.1 (List.getElem_mem hj)
 obtain ⟨mm,hm,hl,e1,e2⟩:=h.img hr ha hi hk
 have:=h.len
 refine ⟨mm,hm,by rw [hq];dsimp only;omega,by rw [hq];exact e1,by rw [hq];dsimp only;omega,?_⟩
 rw [hq,e2];exact (cE _ k hl).symm
theorem BB {sig:List Ctl} {r a:Big} (m:Mat) (l:Nat) (hbr:aF sig r=true) (hba:aF sig a=true) (him:ox r a m.nodes) (hp0:aK r l≠[]):FnD Tryz.prog 204 [r.D,a.D,m.D,.i l] (.tp [.i (mE r a m.nodes l),.b (ir r a m.nodes l)]):=by
 have dr:=bu hbr
 have da:=bu hba
 have h0:0<(aK r l).length:=List.length_pos_iff.2 hp0
 have hpa:=F1 him hbr hba l
 have hpl:=eu r l dr.3 dr.7
 have f1:=lJ r l dr.3 dr.7
 have f2:=lJ a (mE r a m.nodes l) da.3 da.7
 have hpl2:=eu a (mE r a m.nodes l) da.3 da.7
 have hhead:mE r a m.nodes l=ik a m.nodes (aK r l)[0]:=uB _ _ _ h0
 have hla:ir r a m.nodes l=((aK r l).all (fun q=>decide (ik a m.nodes q=mE r a m.nodes l)) && (!(decide ((l:Int)<r.edges)) || (decide (mE r a m.nodes l<a.edges) && decide ((aK a (mE r a m.nodes l)).length=(aK r l).length)))):=rfl
 obtain ⟨m0,hm0,q1,q2,q3,q4⟩:=hpa 0 h0
 rw [q4] at hhead
 revert hla f2 hpl2 hhead
 generalize mE r a m.nodes l=im
 generalize ir r a m.nodes l=la
 generalize aK r l=ps at *
 intro f2 hpl2 hla hhead
 refine ah Tryz.func204 (fun hw W0=>?_)
 refine kgo ?_
 refine dm (n:=m0) (fun _=>?_) rfl rfl (congrArg some q2)
 refine kgo ?_
 rw [← hhead]
 refine ai [3,4,5,6,10,11] (fun j:Nat=>1≤j∧j≤ps.length∧(ps.take j).all (fun q=>decide (ik a m.nodes q=im))=true) (fun j=>ps.length - j) (fun j=>[(12,.sy (.d (.i j)))]) 1 ⟨Nat.le_refl _,h0,by rw [List.take_succ_eq_append_getElem h0,List.take_zero,List.nil_append,List.all_cons,q4,hhead,decide_eq_true rfl];rfl⟩ (fun j hj=>?_)
 refine kgo ?_
 refine aL (fun h2=>?_) (fun h2=>?_)
 ·have hlt:j<ps.length:=by omega
  obtain ⟨mj,hmj,p1,p2,p3,p4⟩:=hpa j hlt
  refine kgo ?_
  refine dm (n:=mj) (fun _=>?_) rfl rfl (congrArg some p2)
  refine kgo ?_
  rw [← p4]
  refine jE (fun h5=>?_) (fun h5=>?_)
  ·rw [show ps.all (fun q=>decide (ik a m.nodes q=im))=false from List.all_eq_false.2 ⟨_,List.getElem_mem hlt,by rw [decide_eq_false h5];exact Bool.false_ne_true⟩,Bool.false_and] at hla
   refine kgo ?_
   rw [hla]
   exact iA
  ·refine kgo ?_
   exact af (j+1) ⟨by omega,hlt,by rw [List.take_succ_eq_append_getElem hlt,List.all_append,hj.2.2,List.all_cons,decide_eq_true h5];rfl⟩ (by omega)
 rw [gB _ _ j (by omega) hj.2.2,Bool.true_and] at hla
 refine kgo ?_
 refine aL (fun h3=>?_) (fun h3=>?_)
 ·rw [decide_eq_true h3,Bool.not_true,Bool.false_or] at hla
  refine kgo ?_
  cases h4:decide (im<a.edges)
  ·rw [h4] at hla
   refine kgo ?_
   rw [hla]
   exact iA
  ·rw [h4] at hla
   refine kgo ?_
   rw [hla]
   rw [show decide ((aK a im).length=ps.length)=decide (((aK a im).length:Int)=(ps.length:Int)) from decide_eq_decide.2 (by omega)]
   exact iA
 ·rw [decide_eq_false h3] at hla
  refine kgo ?_
  rw [hla]
  exact iA
theorem tH {sig:List Ctl} {r a:Big} (m:Mat) (hbr:aF sig r=true) (hba:aF sig a=true) (him:ox r a m.nodes) (hp0:∀l:Nat,l<ap r→aK r l≠[]):FnD Tryz.prog 139 [r.D,a.D,m.D] (.tp [DI (pj r a m.nodes),.b (gw r a m.nodes)]):=by
 have hdr:=aJ hbr
 have hlr:r.edges+(r.outer.length:Int)=(ap r:Nat):=by unfold ap;omega
 have hlb:ap r≤1000:=by unfold ap;omega
 refine ah Tryz.func139 (fun hw W0=>?_)
 refine kgo ?_
 refine ai [3,4,5] (fun i:Nat=>i≤ap r∧(List.range i).all (ir r a m.nodes)=true) (fun i=>ap r - i) (fun i=>[(8,.sy (.k 20001)),(20001,.tk (.row 1 3 ((gL r a m.nodes i).map .i))),(9,.sy (.d (.i i)))]) 0 ⟨Nat.zero_le _,rfl⟩ (fun i hi=>?_)
 refine kgo ?_
 refine aL (fun h=>?_) (fun h=>?_)
 ·have hlt:i<ap r:=by omega
  have f1:=BB m i hbr hba him (hp0 i hlt)
  have hs:(gL r a m.nodes (i+1)).map D.i=(gL r a m.nodes i).map D.i++[.i (mE r a m.nodes i)]:=by rw [qA,List.map_append];rfl
  have hil:(gL r a m.nodes i).length=i:=by unfold gL;simp
  refine kgo ?_
  refine cIf (fun h2=>?_) (fun h2=>?_)
  ·rw [Bool.not_eq_true'] at h2
   have hb:=kv hlt h2
   rw [lA hb,hb]
   repeat (first|(refine cy ?_;first|refine aV ?_|refine bY ?_|refine aY ?_|refine aZ ?_|refine aS ?_|refine bg ?_|refine bi ?_|refine ay ?_|refine be ?_)|(refine fo ?_;first|refine bQ ?_|refine eZ ?_|refine cr ?_|refine b8 ?_)|(refine fa ?_;first|refine dm (fun _=>?_)|refine b9 ?_|refine cm ?_|refine bG ?_|refine cw ?_|refine ck ?_)|(refine fh ?_;first|refine cg ?_|refine eB ?_|refine bT ?_|refine bI ?_|refine cq ?_|refine bV ?_|refine bZ ?_)|(refine fe ?_;first|refine fl ?_|refine eS ?_|refine cd ?_|refine bP ?_|refine fq ?_|refine bl ?_|refine bo ?_)|(refine cu ?_;first|refine aX ?_|refine ch ?_)|(refine ff ?_;first|refine fF (d:=6) ?_|refine cj ?_|refine ct ?_|refine ft ?_)|(refine cf ?_;first|refine ca ?_|refine bd ?_|refine aQ ?_|refine ba ?_|refine aU ?_|refine bh ?_)|(refine fc ?_;first|refine b7 ?_|refine eY ?_|refine bj ?_|refine aR ?_|refine bm ?_)|(refine aI ?_;first|refine au _ ?_|refine bf ?_|refine aA ?_|refine av ?_|refine ax ?_)|(refine fu ?_;first|refine cb ?_|refine bH ?_|refine bX ?_)|(refine gOp ?_;first|refine fd ?_|refine fm ?_|refine bc ?_|refine fp ?_|refine fj ?_|refine bU ?_|refine aT ?_|refine co ?_|refine fw ?_|refine bM ?_|refine b6 ?_|refine bk ?_|refine az ?_|refine bW ?_|refine sNo ?_|refine dO ?_|refine aw ?_)|refine dZ ?_|refine cN ?_|refine fB ?_|refine bp ?_|refine cz ?_|refine bB ?_|refine fC ?_|refine fI ?_|refine fx ?_|refine df ?_|refine cC ?_|refine aN ?_|refine aB ?_|refine bq ?_|refine ci ?_|refine bC ?_|refine aBlkX ?_|refine cA ?_)
   exact iA
  ·rw [Bool.not_eq_false'] at h2
   refine kgo ?_
   exact af (i+1) ⟨hlt,by rw [cL,hi.2,h2];rfl⟩ (by omega)
 have hb:gw r a m.nodes=true:=fL _ _ i (by omega) hi.1 hi.2
 rw [kG hb,hb,show aM r a m.nodes=gL r a m.nodes i from by rw [show i=ap r by omega];rfl]
 repeat (first|(refine cy ?_;first|refine aV ?_|refine bY ?_|refine aY ?_|refine aZ ?_|refine aS ?_|refine bg ?_|refine bi ?_|refine ay ?_|refine be ?_)|(refine fo ?_;first|refine bQ ?_|refine eZ ?_|refine cr ?_|refine b8 ?_)|(refine fa ?_;first|refine dm (fun _=>?_)|refine b9 ?_|refine cm ?_|refine bG ?_|refine cw ?_|refine ck ?_)|(refine fh ?_;first|refine cg ?_|refine eB ?_|refine bT ?_|refine bI ?_|refine cq ?_|refine bV ?_|refine bZ ?_)|(refine fe ?_;first|refine fl ?_|refine eS ?_|refine cd ?_|refine bP ?_|refine fq ?_|refine bl ?_|refine bo ?_)|(refine cu ?_;first|refine aX ?_|refine ch ?_)|(refine ff ?_;first|refine fF (d:=6) ?_|refine cj ?_|refine ct ?_|refine ft ?_)|(refine cf ?_;first|refine ca ?_|refine bd ?_|refine aQ ?_|refine ba ?_|refine aU ?_|refine bh ?_)|(refine fc ?_;first|refine b7 ?_|refine eY ?_|refine bj ?_|refine aR ?_|refine bm ?_)|(refine aI ?_;first|refine au _ ?_|refine bf ?_|refine aA ?_|refine av ?_|refine ax ?_)|(refine fu ?_;first|refine cb ?_|refine bH ?_|refine bX ?_)|(refine gOp ?_;first|refine fd ?_|refine fm ?_|refine bc ?_|refine fp ?_|refine fj ?_|refine bU ?_|refine aT ?_|refine co ?_|refine fw ?_|refine bM ?_|refine b6 ?_|refine bk ?_|refine az ?_|refine bW ?_|refine sNo ?_|refine dO ?_|refine aw ?_)|refine dZ ?_|refine cN ?_|refine fB ?_|refine bp ?_|refine cz ?_|refine bB ?_|refine fC ?_|refine fI ?_|refine fx ?_|refine df ?_|refine cC ?_|refine aN ?_|refine aB ?_|refine bq ?_|refine ci ?_|refine bC ?_|refine aBlkX ?_|refine cA ?_)
 exact iA
end Go.Proofs.YtacafmejcdgboaaGreatDoor
namespace Go.Proofs.YtacafmejcdgboaaGreatDoor
open Go.RowKit
set_option linter.unusedVariables false
set_option maxRecDepth 100000
set_option maxHeartbeats 4000000
attribute [local irreducible] ar Der At
def fH (ims:List Int) (re l:Nat):Bool:=!dP (ims.take re) l
def iN (f:Nat→Bool) (n:Nat):Int:=((List.range n).filter f).length
def i5 (f:Nat→Bool) (n:Nat):List Int:=(List.range n).map fun l=>if f l=true then iN f l else -1
theorem ym (f:Nat→Bool) (n:Nat):i5 f (n+1)=i5 f n++[if f n=true then iN f n else -1]:=by unfold i5;rw [List.range_succ,List.map_append];rfl
theorem xx (f:Nat→Bool) (n:Nat):iN f (n+1)=if f n=true then iN f n+1 else iN f n:=by
 unfold iN
 rw [List.range_succ,List.filter_append]
 by_cases h:f n=true <;> simp [h]
theorem wu (f:Nat→Bool) (n:Nat):0≤iN f n∧iN f n≤n:=by
 unfold iN
 have:=List.length_filter_le f (List.range n)
 rw [List.length_range] at this
 omega
def Ew (a:Big) (ns:List Int) (k:Nat):Bool:=!gV a ns k
def dh (a:Big) (ns:List Int) (n:Nat):List Bool:=(List.range n).map (Ew a ns)
theorem vd (a:Big) (ns:List Int) (n:Nat):dh a ns (n+1)=dh a ns n++[Ew a ns n]:=by unfold dh;rw [List.range_succ,List.map_append];rfl
theorem D1 (row:List Bool) (v:Bool) (n:Nat):atN row v (n+1)=if tkF row v n=true then atN row v n+1 else atN row v n:=by
 unfold atN
 rw [List.range_succ,List.filter_append]
 by_cases h:tkF row v n=true <;> simp [h]
theorem Hf (row:List Bool) (v:Bool) (n:Nat):0≤atN row v n∧atN row v n≤n:=by
 unfold atN
 have:=List.length_filter_le (tkF row v) (List.range n)
 rw [List.length_range] at this
 omega
def toK (row:List Bool) (i k:Nat):List Int:=atL row true i++[atN row true k]
theorem EZ (row:List Bool) (i k:Nat):(toK row i k).length=i+1:=by unfold toK;rw [List.length_append,i6];rfl
theorem GQ (row:List Bool) (i k:Nat) (h:i<(toK row i k).length):(toK row i k)[i]=atN row true k:=by
 have h1:(toK row i k)[i]? = some (atN row true k):=by
  unfold toK
  rw [List.getElem?_append_right (by rw [i6];exact Nat.le_refl _),i6,Nat.sub_self];rfl
 rw [List.getElem?_eq_getElem h] at h1
 exact Option.some.inj h1
theorem FD (row:List Bool) (i k:Nat) (x:Int) (hx:atN row true (k+1)=x):(toK row i k).set i x=toK row i (k+1):=by
 unfold toK
 rw [List.set_append_right _ _ (by rw [i6];exact Nat.le_refl _),i6,Nat.sub_self,hx];rfl
def lx (r a:Big) (ns:List Int):List Int:=i5 (fH (aM r a ns) r.edges.toNat) a.edges.toNat++eN (iN (fH (aM r a ns) r.edges.toNat) a.edges.toNat) a.outer.length
def og (r:Big) (lk ims:List Int):List Wr:=r.outer.mapIdx fun i s=>⟨s,atI lk (atI ims (r.edges+i))⟩
def zW (lk ps:List Int) (names:List ByteArray):List Wr:=names.mapIdx fun i s=>⟨s,atI lk (atI ps i)⟩
def GF (r a:Big) (m:Mat) (ps:List Int) (names:List ByteArray):Big:=
 ⟨a.roots,gO a (dh a m.nodes a.nodes.length) true false (lx r a m.nodes) a.nodes.length,m.roots.map (yY (atL (dh a m.nodes a.nodes.length) true a.nodes.length)),iN (fH (aM r a m.nodes) r.edges.toNat) a.edges.toNat,a.outer,bR (og r (lx r a m.nodes) (aM r a m.nodes)) (zW (lx r a m.nodes) ps names)⟩
theorem zZ {sig:List Ctl} {r a:Big} {ns:List Int} (h:ox r a ns) (hr:aF sig r=true) (ha:aF sig a=true) {l:Int} (hp:aK r l≠[]):eq a (mE r a ns l)=true:=by
 cases hc:aK r l with
 | nil=>exact absurd hc hp
 | cons q u=>
  have h1:=h.img_link hr ha (q:=q) (l:=l) (by rw [hc];simp)
  rwa [show mE r a ns l=ik a ns q from by unfold mE;rw [hc]]
theorem zS {sig:List Ctl} {r a:Big} {ns:List Int} (h:ox r a ns) (hr:aF sig r=true) (ha:aF sig a=true) (hp0:∀l:Nat,l<ap r→aK r l≠[]) (j:Int) (h0:0≤j) (h1:j<(ap r:Int)):0≤atI (aM r a ns) j∧atI (aM r a ns) j<(ap a:Int):=by
 obtain ⟨k,rfl⟩:=Int.eq_ofNat_of_zero_le h0
 have hk:k<(aM r a ns).length:=by unfold aM;simp;omega
 rw [cE _ k hk,show (aM r a ns)[k]=mE r a ns k from by simp [aM]]
 obtain ⟨n,h2,h3⟩:=iE (zZ h hr ha (hp0 k (by omega)))
 rw [h2];omega
theorem ug (a b:List Wr) (w:Wr):bR a (b++[w])=bR (bR a b) [w]:=by unfold bR;rw [List.foldl_append]
theorem Aa (r:Big) (lk ims:List Int) (i:Nat) (h:i<r.outer.length):(og r lk ims).take (i+1)=(og r lk ims).take i++[⟨r.outer[i],atI lk (atI ims (r.edges+i))⟩]:=by
 have hl:i<(og r lk ims).length:=by unfold og;simpa using h
 rw [List.take_succ_eq_append_getElem hl];simp [og]
theorem FL (lk ps:List Int) (names:List ByteArray) (i:Nat) (h:i<names.length):(zW lk ps names).take (i+1)=(zW lk ps names).take i++[⟨names[i],atI lk (atI ps i)⟩]:=by
 have hl:i<(zW lk ps names).length:=by unfold zW;simpa using h
 rw [List.take_succ_eq_append_getElem hl];simp [zW]
theorem uz {sig:List Ctl} {r a:Big} (m:Mat) (hbr:aF sig r=true) (hba:aF sig a=true) (him:ox r a m.nodes) (hp0:∀l:Nat,l<ap r→aK r l≠[]) (hL:gw r a m.nodes=true) (hrt:∀p∈m.roots,p<(a.nodes.length:Int)) (hrl:m.roots.length≤1000) (ps:List Int) (names:List ByteArray) (hps:∀l∈ps,0≤l∧l<(ap a:Int)) (hnm:names.length=ps.length) (hpl:ps.length≤500):FnD Tryz.prog 142 [r.D,a.D,m.D,DI ps,DS names] (.d (GF r a m ps names).D):=by
 have f1:=tH m hbr hba him hp0
 rw [hL,kG hL] at f1
 have ha:=aJ hba
 have hr:=aJ hbr
 obtain ⟨ae,hae⟩:=Int.eq_ofNat_of_zero_le ha.2.2.2.1.1
 obtain ⟨re,hre⟩:=Int.eq_ofNat_of_zero_le hr.2.2.2.1.1
 have hil:(aM r a m.nodes).length=ap r:=by unfold aM;simp
 have hix:=zS him hbr hba hp0
 have hE:GF r a m ps names=⟨a.roots,gO a (dh a m.nodes a.nodes.length) true false (lx r a m.nodes) a.nodes.length,m.roots.map (yY (atL (dh a m.nodes a.nodes.length) true a.nodes.length)),iN (fH (aM r a m.nodes) re) ae,a.outer,bR (og r (lx r a m.nodes) (aM r a m.nodes)) (zW (lx r a m.nodes) ps names)⟩:=by unfold GF;rw [hae,hre];rfl
 have hlkE:lx r a m.nodes=i5 (fH (aM r a m.nodes) re) ae++eN (iN (fH (aM r a m.nodes) re) ae) a.outer.length:=by unfold lx;rw [hae,hre];rfl
 have hna:ap a=ae+a.outer.length:=by unfold ap;omega
 have hnr:ap r=re+r.outer.length:=by unfold ap;omega
 have hlkl:(lx r a m.nodes).length=ap a:=by rw [hlkE,List.length_append,eF,hna];unfold i5;simp
 have hup:=fun i h=>(iI hba i h).2
 have hnode:=eW hba
 have hnl:∀n∈a.nodes,n.links.length≤1000∧∀l∈n.links,0≤l∧l<(ap a:Int):=fun n hn=>by
  obtain ⟨k,hk,rfl⟩:=List.mem_iff_getElem.1 hn
  obtain ⟨_,_,_,c3,c4⟩:=hnode k hk
  refine ⟨by have:=(bu hba).7 k hk;omega,fun l hl=>?_⟩
  obtain ⟨j,rfl,hj⟩:=iE (c4 l hl)
  omega
 rw [hE]
 clear hE
 revert f1 hil hix hlkE hlkl
 generalize aM r a m.nodes=ims
 generalize lx r a m.nodes=lk
 intro f1 hil hix hlkE hlkl
 refine ah Tryz.func142 (fun hw W0=>?_)
 repeat (first|(refine cy ?_;first|refine aV ?_|refine bY ?_|refine aY ?_|refine aZ ?_|refine aS ?_|refine bg ?_|refine bi ?_|refine ay ?_|refine be ?_)|(refine fo ?_;first|refine bQ ?_|refine eZ ?_|refine cr ?_|refine b8 ?_)|(refine fa ?_;first|refine dm (fun _=>?_)|refine b9 ?_|refine cm ?_|refine bG ?_|refine cw ?_|refine ck ?_)|(refine fh ?_;first|refine cg ?_|refine eB ?_|refine bT ?_|refine bI ?_|refine cq ?_|refine bV ?_|refine bZ ?_)|(refine fe ?_;first|refine fl ?_|refine eS ?_|refine cd ?_|refine bP ?_|refine fq ?_|refine bl ?_|refine bo ?_)|(refine cu ?_;first|refine aX ?_|refine ch ?_)|(refine ff ?_;first|refine cj ?_|refine ct ?_|refine ft ?_)|(refine cf ?_;first|refine ca ?_|refine bd ?_|refine aQ ?_|refine ba ?_|refine aU ?_|refine bh ?_)|(refine fc ?_;first|refine b7 ?_|refine eY ?_|refine bj ?_|refine aR ?_|refine bm ?_)|(refine aI ?_;first|refine au _ ?_|refine bf ?_|refine aA ?_|refine av ?_|refine ax ?_)|(refine fu ?_;first|refine cb ?_|refine bH ?_|refine bX ?_)|(refine gOp ?_;first|refine fd ?_|refine fm ?_|refine bc ?_|refine fp ?_|refine fj ?_|refine bU ?_|refine aT ?_|refine co ?_|refine fw ?_|refine bM ?_|refine b6 ?_|refine bk ?_|refine sFz 36 ?_|refine az ?_|refine bW ?_|refine sNo ?_|refine dO ?_|refine aw ?_)|refine dZ ?_|refine cN ?_|refine fB ?_|refine bp ?_|refine cz ?_|refine bB ?_|refine fC ?_|refine fI ?_|refine fx ?_|refine df ?_|refine cC ?_|refine aN ?_|refine aB ?_|refine bq ?_|refine ci ?_|refine bC ?_|refine aBlkX ?_|refine cA ?_|refine sFz 36 ?_)
 refine ai [3,4,5,6,7,10,11,13] (fun i:Nat=>i≤ae) (fun i=>ae - i) (fun i=>[(10013,.tk (.bx [.d (.i a.roots),.d (.n 3),.d (.n 1),.d (.i (iN (fH ims re) i)),.d (DS a.outer),.d (.n 2)])),(14,.sy (.k 10038)),(10038,.tk (.row 1 3 ((i5 (fH ims re) i).map .i))),(15,.sy (.d (.i i)))]) 0 (Nat.zero_le _) (fun i hi=>?_)
 refine kgo ?_
 refine aL (fun h=>?_) (fun h=>?_)
 ·have hlt:i<ae:=by omega
  have f2:=jG (ims.take re) i
  have hq:=ym (fH ims re) i
  have hn1:=xx (fH ims re) i
  have hn2:=wu (fH ims re) i
  have hkl:(i5 (fH ims re) i).length=i:=by unfold i5;simp
  refine kgo ?_
  refine bH (n:=re) ?_ rfl rfl (congrArg some hre)
  cases hk:dP (ims.take re) i
  ·rw [hk] at f2
   have hf:fH ims re i=true:=by unfold fH;rw [hk];rfl
   rw [if_pos hf] at hq hn1
   have hs:(i5 (fH ims re) (i+1)).map D.i=(i5 (fH ims re) i).map D.i++[.i (iN (fH ims re) i)]:=by rw [hq,List.map_append];rfl
   refine kgo ?_
   rw [← hn1]
   exact af (i+1) hlt (by omega)
  ·rw [hk] at f2
   have hf:¬fH ims re i=true:=by unfold fH;rw [hk];exact Bool.false_ne_true
   rw [if_neg hf] at hq hn1
   have hs:(i5 (fH ims re) (i+1)).map D.i=(i5 (fH ims re) i).map D.i++[.i (-1)]:=by rw [hq,List.map_append];rfl
   refine kgo ?_
   rw [← hn1]
   exact af (i+1) hlt (by omega)
 rw [show i=ae by omega]
 have hkn:=wu (fH ims re) ae
 have f3:=gW (iN (fH ims re) ae) a.outer.length (by omega) (by omega)
 rw [Int.toNat_natCast] at f3
 have hkl:(i5 (fH ims re) ae).length=ae:=by unfold i5;simp
 have hfl:=eF (iN (fH ims re) ae) a.outer.length
 have hlkD:lk.map D.i=(i5 (fH ims re) ae++eN (iN (fH ims re) ae) a.outer.length).map D.i:=by rw [hlkE]
 have hmove:∀p∈m.roots,FnD Tryz.prog 197 [.i p,DI (atL (dh a m.nodes a.nodes.length) true a.nodes.length)] (.d (.i (yY (atL (dh a m.nodes a.nodes.length) true a.nodes.length) p))):=fun p hp=>Cm p _ (by rw [i6];exact hrt p hp)
 have hrr:∀k,k<a.nodes.length→tkF (dh a m.nodes a.nodes.length) true k=Ew a m.nodes k:=fun k hk=>by
  rw [sQ _ _ _ (by unfold dh;simpa using hk)]
  simp [dh]
 have hrrl:(dh a m.nodes a.nodes.length).length=a.nodes.length:=by unfold dh;simp
 have f5:=vQ a (dh a m.nodes a.nodes.length) true false lk (by omega) (by omega) hup (fun n hn=>(hnl n hn).1) (fun n hn l hl=>by rw [hlkl];exact (hnl n hn).2 l hl)
 revert hmove hrr hrrl f5
 generalize hgr:dh a m.nodes a.nodes.length=rr
 intro hmove hrr hrrl f5
 repeat (first|(refine cy ?_;first|refine aV ?_|refine bY ?_|refine aY ?_|refine aZ ?_|refine aS ?_|refine bg ?_|refine bi ?_|refine ay ?_|refine be ?_)|(refine fo ?_;first|refine bQ ?_|refine eZ ?_|refine cr ?_|refine b8 ?_)|(refine fa ?_;first|refine dm (fun _=>?_)|refine b9 ?_|refine cm ?_|refine bG ?_|refine cw ?_|refine ck ?_)|(refine fh ?_;first|refine cg ?_|refine eB ?_|refine bT ?_|refine bI ?_|refine cq ?_|refine bV ?_|refine bZ ?_)|(refine fe ?_;first|refine fl ?_|refine eS ?_|refine cd ?_|refine bP ?_|refine fq ?_|refine bl ?_|refine bo ?_)|(refine cu ?_;first|refine aX ?_|refine ch ?_)|(refine ff ?_;first|refine cj ?_|refine ct ?_|refine ft ?_)|(refine cf ?_;first|refine ca ?_|refine bd ?_|refine aQ ?_|refine ba ?_|refine aU ?_|refine bh ?_)|(refine fc ?_;first|refine b7 ?_|refine eY ?_|refine bj ?_|refine aR ?_|refine bm ?_)|(refine aI ?_;first|refine au _ ?_|refine bf ?_|refine aA ?_|refine av ?_|refine ax ?_)|(refine fu ?_;first|refine cb ?_|refine bH ?_|refine bX ?_)|(refine gOp ?_;first|refine fd ?_|refine fm ?_|refine bc ?_|refine fp ?_|refine fj ?_|refine bU ?_|refine aT ?_|refine co ?_|refine fw ?_|refine bM ?_|refine b6 ?_|refine bk ?_|refine sFz 69 ?_|refine az ?_|refine bW ?_|refine sNo ?_|refine dO ?_|refine aw ?_)|refine dZ ?_|refine cN ?_|refine fB ?_|refine bp ?_|refine cz ?_|refine bB ?_|refine fC ?_|refine fI ?_|refine fx ?_|refine df ?_|refine cC ?_|refine aN ?_|refine aB ?_|refine bq ?_|refine ci ?_|refine bC ?_|refine aBlkX ?_|refine cA ?_|refine sFz 69 ?_)
 rw [← hlkE]
 refine ai [3,4,5,6,7,10,11,13,14] (fun i:Nat=>i≤a.nodes.length) (fun i=>a.nodes.length - i) (fun i=>[(16,.sy (.k 10071)),(10071,.tk (.row 1 4 ((dh a m.nodes i).map .b))),(17,.sy (.k 10072)),(10072,.tk (.row 1 3 ((atL rr true i).map .i))),(18,.sy (.d (.i i)))]) 0 (Nat.zero_le _) (fun i hi=>?_)
 refine kgo ?_
 refine aL (fun h=>?_) (fun h=>?_)
 ·have hlt:i<a.nodes.length:=by omega
  have hal:=i6 rr true i
  have hol:(dh a m.nodes i).length=i:=by unfold dh;simp
  have hs0:(toK rr i 0).map D.i=(atL rr true i).map D.i++[.i 0]:=by unfold toK;rw [List.map_append];rfl
  refine kgo ?_
  refine ai [3,4,5,6,7,10,11,13,14,16,17,18] (fun k:Nat=>k≤i) (fun k=>i - k) (fun k=>[(17,.sy (.k 10082)),(10082,.tk (.row 1 3 ((toK rr i k).map .i))),(19,.sy (.d (.i k)))]) 0 (Nat.zero_le _) (fun k hk=>?_)
  refine kgo ?_
  refine aL (fun h2=>?_) (fun h2=>?_)
  ·have hki:k<i:=by omega
   have hkr:k<(dh a m.nodes i).length:=by omega
   have hek:(dh a m.nodes i)[k]=tkF rr true k:=by rw [hrr k (by omega)];simp [dh]
   have htl:=EZ rr i k
   have hsn:=D1 rr true k
   have hnl:=Hf rr true k
   have hil:i<(toK rr i k).length:=by omega
   have hat:=GQ rr i k hil
   have hb:I64 ((toK rr i k)[i]+1):=by rw [hat];unfold I64;omega
   refine kgo ?_
   refine cIf (fun h3=>?_) (fun h3=>?_)
   ·rw [hek] at h3
    rw [if_pos h3] at hsn
    have hst:=FD rr i k ((toK rr i k)[i]+1) (by rw [hat];exact hsn)
    refine kgo ?_
    rw [hst]
    exact af (k+1) hki (by omega)
   ·rw [hek] at h3
    rw [if_neg (by rw [h3];exact Bool.false_ne_true)] at hsn
    have hs2:(toK rr i (k+1)).map D.i=(toK rr i k).map D.i:=by unfold toK;rw [hsn]
    refine kgo ?_
    exact af (k+1) hki (by omega)
  ·have hki:k=i:=by omega
   subst hki
   have f6:=kA hba m k (by omega)
   have hs3:(dh a m.nodes (k+1)).map D.b=(dh a m.nodes k).map D.b++[.b (!gV a m.nodes k)]:=by rw [vd,List.map_append];rfl
   have hs4:(atL rr true (k+1)).map D.i=(toK rr k k).map D.i:=by rw [wv];rfl
   refine kgo ?_
   exact af (k+1) hlt (by omega)
 have hie:i=a.nodes.length:=by omega
 subst hie
 rw [hgr]
 repeat (first|refine cFz 14 ?_|refine cFz 16 ?_|refine cFz 17 ?_|(refine cy ?_;first|refine aV ?_|refine bY ?_|refine aY ?_|refine aZ ?_|refine aS ?_|refine bg ?_|refine bi ?_|refine ay ?_|refine be ?_)|(refine fo ?_;first|refine bQ ?_|refine eZ ?_|refine cr ?_|refine b8 ?_)|(refine fa ?_;first|refine dm (fun _=>?_)|refine b9 ?_|refine cm ?_|refine bG ?_|refine cw ?_|refine ck ?_)|(refine fh ?_;first|refine cg ?_|refine eB ?_|refine bT ?_|refine bI ?_|refine cq ?_|refine bV ?_|refine bZ ?_)|(refine fe ?_;first|refine fl ?_|refine eS ?_|refine cd ?_|refine bP ?_|refine fq ?_|refine bl ?_|refine bo ?_)|(refine cu ?_;first|refine aX ?_|refine ch ?_)|(refine ff ?_;first|refine cj ?_|refine ct ?_|refine ft ?_)|(refine cf ?_;first|refine ca ?_|refine bd ?_|refine aQ ?_|refine ba ?_|refine aU ?_|refine bh ?_)|(refine fc ?_;first|refine b7 ?_|refine eY ?_|refine bj ?_|refine aR ?_|refine bm ?_)|(refine aI ?_;first|refine au _ ?_|refine bf ?_|refine aA ?_|refine av ?_|refine ax ?_)|(refine fu ?_;first|refine cb ?_|refine bH ?_|refine bX ?_)|(refine gOp ?_;first|refine fd ?_|refine fm ?_|refine bc ?_|refine fp ?_|refine fj ?_|refine bU ?_|refine aT ?_|refine co ?_|refine fw ?_|refine bM ?_|refine b6 ?_|refine bk ?_|refine az ?_|refine bW ?_|refine sNo ?_|refine dO ?_|refine aw ?_)|refine dZ ?_|refine cN ?_|refine fB ?_|refine bp ?_|refine cz ?_|refine bB ?_|refine fC ?_|refine fI ?_|refine fx ?_|refine df ?_|refine cC ?_|refine aN ?_|refine aB ?_|refine bq ?_|refine ci ?_|refine bC ?_|refine aBlkX ?_|refine cA ?_)
 refine ou 10013 1 ?_
 refine nW 10013 2 20001 3 ?_
 refine ai [3,4,5,7,10,11,13,14,17] (fun i:Nat=>i≤m.roots.length) (fun i=>m.roots.length - i) (fun i=>[(10013,.tk (.bx [.d (.i a.roots),.d (.l 3 ((gO a rr true false lk a.nodes.length).map Nd.D)),.k 20001,.d (.i (iN (fH ims re) ae)),.d (DS a.outer),.d (.n 2)])),(20001,.tk (.row 1 3 (((m.roots.take i).map (yY (atL rr true a.nodes.length))).map .i))),(20,.sy (.d (.i i)))]) 0 (Nat.zero_le _) (fun i hi=>?_)
 refine kgo ?_
 refine aL (fun h=>?_) (fun h=>?_)
 ·have hlt:i<m.roots.length:=by omega
  have f6:=hmove _ (List.getElem_mem hlt)
  have hs:((m.roots.take (i+1)).map (yY (atL rr true a.nodes.length))).map D.i=((m.roots.take i).map (yY (atL rr true a.nodes.length))).map D.i++[.i (yY (atL rr true a.nodes.length) m.roots[i])]:=by rw [List.take_succ_eq_append_getElem hlt,List.map_append,List.map_append];rfl
  have hq:((m.roots.take i).map (yY (atL rr true a.nodes.length))).length≤1000:=by rw [List.length_map,List.length_take];omega
  refine kgo ?_
  exact af (i+1) hlt (by omega)
 rw [show m.roots.take i=m.roots from List.take_of_length_le (by omega)]
 refine ou 10013 2 ?_
 refine kgo ?_
 refine ai [3,4,5,10,11,13,14] (fun i:Nat=>i≤r.outer.length) (fun i=>r.outer.length - i) (fun i=>[(21,.sy (.k 20002)),(20002,.tk (.row 2 153 (((og r lk ims).take i).map Wr.D))),(22,.sy (.d (.i i)))]) 0 (Nat.zero_le _) (fun i hi=>?_)
 refine kgo ?_
 refine aL (fun h=>?_) (fun h=>?_)
 ·have hlt:i<r.outer.length:=by omega
  have hx:=hix (r.edges+i) (by omega) (by omega)
  have hs:((og r lk ims).take (i+1)).map Wr.D=((og r lk ims).take i).map Wr.D++[Wr.D ⟨r.outer[i],atI lk (atI ims (r.edges+i))⟩]:=by rw [Aa r lk ims i hlt,List.map_append];rfl
  have hq:((og r lk ims).take i).length≤1000:=by rw [List.length_take];omega
  refine kgo ?_
  exact af (i+1) hlt (by omega)
 have hol:(og r lk ims).length=r.outer.length:=by unfold og;simp
 rw [show (og r lk ims).take i=og r lk ims from List.take_of_length_le (by omega)]
 refine cFz 21 ?_
 refine kgo ?_
 refine ai [3,4,10,13,14] (fun i:Nat=>i≤ps.length) (fun i=>ps.length - i) (fun i=>[(21,.sy (.d (.l 2 ((bR (og r lk ims) ((zW lk ps names).take i)).map Wr.D)))),(23,.sy (.d (.i i)))]) 0 (Nat.zero_le _) (fun i hi=>?_)
 refine kgo ?_
 refine aL (fun h=>?_) (fun h=>?_)
 ·have hlt:i<ps.length:=by omega
  have hltn:i<names.length:=by omega
  have hx:=hps _ (List.getElem_mem hlt)
  have hl:(bR (og r lk ims) ((zW lk ps names).take i)).length≤1000:=by have:=kq (og r lk ims) ((zW lk ps names).take i);rw [List.length_take] at this;omega
  have f6:FnD Tryz.prog 211 [.l 2 ((bR (og r lk ims) ((zW lk ps names).take i)).map Wr.D),.l 2 ([(⟨names[i],atI lk ps[i]⟩:Wr)].map Wr.D)] (.d (.l 2 ((bR (og r lk ims) ((zW lk ps names).take (i+1))).map Wr.D))):=by
   rw [FL lk ps names i hltn,ug,cE ps i hlt]
   exact sN _ _ hl (by simp)
  repeat (first|(refine cy ?_;first|refine aV ?_|refine bY ?_|refine aY ?_|refine aZ ?_|refine aS ?_|refine bg ?_|refine bi ?_|refine ay ?_|refine be ?_)|(refine fo ?_;first|refine bQ ?_|refine eZ ?_|refine cr ?_|refine b8 ?_)|(refine fa ?_;first|refine dm (fun _=>?_)|refine b9 ?_|refine cm ?_|refine bG ?_|refine cw ?_|refine ck ?_)|(refine fh ?_;first|refine cg ?_|refine eB ?_|refine bT ?_|refine bI ?_|refine cq ?_|refine bV ?_|refine bZ ?_)|(refine fe ?_;first|refine fl ?_|refine eS ?_|refine cd ?_|refine bP ?_|refine fq ?_|refine bl ?_|refine bo ?_)|(refine cu ?_;first|refine aX ?_|refine ch ?_)|(refine ff ?_;first|refine cj ?_|refine ct ?_|refine ft ?_)|(refine cf ?_;first|refine ca ?_|refine bd ?_|refine aQ ?_|refine ba ?_|refine aU ?_|refine bh ?_)|(refine fc ?_;first|refine b7 ?_|refine eY ?_|refine bj ?_|refine aR ?_|refine bm ?_)|(refine aI ?_;first|refine au _ ?_|refine bf ?_|refine aA ?_|refine av ?_|refine ax ?_)|(refine fu ?_;first|refine cb ?_|refine bH ?_|refine bX ?_)|(refine gOp ?_;first|refine fd ?_|refine fm ?_|refine bc ?_|refine fp ?_|refine fj ?_|refine bU ?_|refine aT ?_|refine co ?_|refine fw ?_|refine bM ?_|refine b6 ?_|refine bk ?_|refine sFz 178 ?_|refine az ?_|refine bW ?_|refine sNo ?_|refine dO ?_|refine aw ?_)|refine dZ ?_|refine cN ?_|refine fB ?_|refine bp ?_|refine cz ?_|refine bB ?_|refine fC ?_|refine fI ?_|refine fx ?_|refine df ?_|refine cC ?_|refine aN ?_|refine aB ?_|refine bq ?_|refine ci ?_|refine bC ?_|refine aBlkX ?_|refine cA ?_|refine sFz 178 ?_)
  exact af (i+1) hlt (by omega)
 have hzl:(zW lk ps names).length=ps.length:=by unfold zW;simpa using hnm
 rw [show (zW lk ps names).take i=zW lk ps names from List.take_of_length_le (by omega)]
 refine kgo ?_
 exact aq
end Go.Proofs.YtacafmejcdgboaaGreatDoor
namespace Go.Proofs.YtacafmejcdgboaaGreatDoor
open Go.RowKit
set_option linter.unusedVariables false
set_option maxRecDepth 100000
set_option maxHeartbeats 4000000
attribute [local irreducible] ar Der At
def psF (a:Big) (ns:List Int) (l:Nat):Bool:=decide (0<mP (dW a ns a.nodes.length) true (aK a l))
theorem uj (f:Nat→Bool) (n:Nat):idxOf f (n+1)=if f n=true then idxOf f n++[(n:Int)] else idxOf f n:=by
 unfold idxOf
 rw [List.range_succ,List.filter_append]
 by_cases h:f n=true <;> simp [h]
theorem xi {α:Type} [DecidableEq α]:∀(xs ys:List α),xs.Nodup→(∀x∈xs,x∈ys)→xs.length≤ys.length
 | [],_,_,_=>Nat.zero_le _
 | x :: xs,ys,h,hs=>by
  have h1:=List.nodup_cons.1 h
  have hx:=hs x (by simp)
  have h2:=xi xs (ys.erase x) h1.2 (fun y hy=>(List.mem_erase_of_ne (fun (e:y=x)=>h1.1 (by rw [← e];exact hy))).2 (hs y (by simp [hy])))
  rw [List.length_erase_of_mem hx] at h2
  have:=List.length_pos_of_mem hx
  rw [List.length_cons];omega
def kY (outer:List ByteArray) (n:Nat):List ByteArray:=((List.range n).filter (lm outer)).map mU
theorem oR (outer:List ByteArray) (n:Nat):kY outer (n+1)=if lm outer n=true then kY outer n++[mU n] else kY outer n:=by
 unfold kY
 rw [List.range_succ,List.filter_append]
 by_cases h:lm outer n=true <;> simp [h]
theorem Bs:∀i j:Fin 26,mU i=mU j→i=j:=by decide
theorem tn:∀i:Fin 26,(⟨#[122]⟩:ByteArray) ++ ⟨#[UInt8.ofNat (97+i)]⟩=mU i:=by decide
theorem w5 (f:Nat→Bool):∀n,((List.range n).filter f).length+((List.range n).filter (fun i=>!f i)).length=n
 | 0=>rfl
 | n+1=>by
  have:=w5 f n
  rw [List.range_succ,List.filter_append,List.filter_append]
  cases h:f n <;> simp [h] <;> omega
theorem zn (outer:List ByteArray) (n:Nat) (hn:n≤26):n≤(kY outer n).length+outer.length:=by
 have h1:=w5 (lm outer) n
 have h2:(((List.range n).filter (fun i=>!lm outer i)).map mU).length≤outer.length:=xi _ _ (by
  refine List.pairwise_map.2 (List.Pairwise.imp_of_mem (fun {x y} hx hy hne e=>hne ?_) (List.nodup_range.filter _))
  have hx:=List.mem_range.1 (List.mem_filter.1 hx).1
  have hy:=List.mem_range.1 (List.mem_filter.1 hy).1
  exact congrArg Fin.val (Bs ⟨x,by omega⟩ ⟨y,by omega⟩ e)) (fun s hs=>by
  obtain ⟨i,hi,rfl⟩:=List.mem_map.1 hs
  have h3:=(List.mem_filter.1 hi).2
  unfold lm at h3
  rw [Bool.not_not] at h3
  obtain ⟨x,hx,e⟩:=List.any_eq_true.1 h3
  rw [beq_iff_eq] at e
  rw [← fU e];exact hx)
 rw [List.length_map] at h2
 unfold kY
 rw [List.length_map]
 omega
theorem tD (outer:List ByteArray) (i:Nat):∀d,∃t,kY outer (i+d)=kY outer i++t
 | 0=>⟨[],by simp⟩
 | d+1=>by
  obtain ⟨t,h⟩:=tD outer i d
  rw [show i+(d+1)=(i+d)+1 from rfl,oR,h]
  by_cases hf:lm outer (i+d)=true
  ·exact ⟨t++[mU (i+d)],by rw [if_pos hf,List.append_assoc]⟩
  ·exact ⟨t,by rw [if_neg hf]⟩
theorem tz (outer:List ByteArray) (i:Nat) (hi:i≤26):bJ outer (kY outer i).length=kY outer i:=by
 obtain ⟨t,h⟩:=tD outer i (26 - i)
 rw [show i+(26 - i)=26 by omega] at h
 show (kY outer 26).take _=_
 rw [h];simp
def dJ (r a:Big) (ns:List Int):List Int × List ByteArray × Bool:=
 if decide (16<((idxOf (psF a ns) (ap a)).length:Int)+r.outer.length) then ([],[],false) else (idxOf (psF a ns) (ap a),bJ r.outer (idxOf (psF a ns) (ap a)).length,true)
theorem yP {sig:List Ctl} {r a:Big} (hB:aF sig a=true) (m:Mat) (hro:r.outer.length≤1000):FnD Tryz.prog 141 [r.D,a.D,m.D] (.tp [DI (dJ r a m.nodes).1,DS (dJ r a m.nodes).2.1,.b (dJ r a m.nodes).2.2]):=by
 have ha:=aJ hB
 have f1:=lR hB m
 have hpl:(dW a m.nodes a.nodes.length).length=a.nodes.length:=by simp [dW]
 have hll:=(bu hB).links
 refine ah Tryz.func141 (fun hw W0=>?_)
 refine kgo ?_
 refine eG (fun i:Nat=>i≤ap a) (fun i=>ap a - i) (fun i=>[(3,.sy (.bx 10003 0)),(10003,.tk (.bx (iu r.D))),(4,.sy (.bx 10004 0)),(10004,.tk (.bx (iu a.D))),(9,.sy (.k 10015)),(10015,.tk (.row 1 3 (idxOf (psF a m.nodes) i |>.map .i))),(10,.sy (.k 10016)),(10016,.tk (.row 1 9 [])),(11,.sy (.d (.l 1 ((dW a m.nodes a.nodes.length).map .b)))),(12,.sy (.d (.i i)))]) 0 (Nat.zero_le _) (fun i hi=>?_)
 have hln:(ap a:Int)=a.edges+a.outer.length:=by unfold ap;omega
 refine kgo ?_
 refine cIf (fun h=>?_) (fun h=>?_)
 ·have h:=of_decide_eq_true h
  have hlt:i<ap a:=by omega
  have f2:=DR a i (dW a m.nodes a.nodes.length) true (by omega) hll (by omega)
  have hq:(idxOf (psF a m.nodes) i).length≤1000:=Nat.le_trans (de _ _) (by omega)
  have hsu:=uj (psF a m.nodes) i
  refine kgo ?_
  refine cIf (fun h2=>?_) (fun h2=>?_)
  ·have h3:psF a m.nodes i=true:=by unfold psF;have:=of_decide_eq_true h2;exact decide_eq_true (by omega)
   rw [if_pos h3] at hsu
   have hs:(idxOf (psF a m.nodes) (i+1)).map D.i=(idxOf (psF a m.nodes) i).map D.i++[.i i]:=by rw [hsu,List.map_append];rfl
   refine kgo ?_
   exact af (i+1) hlt (by omega)
  ·have h3:¬psF a m.nodes i=true:=by unfold psF;have:=of_decide_eq_false h2;rw [decide_eq_true_eq];omega
   rw [if_neg h3] at hsu
   have hs:(idxOf (psF a m.nodes) (i+1)).map D.i=(idxOf (psF a m.nodes) i).map D.i:=by rw [hsu]
   refine kgo ?_
   exact af (i+1) hlt (by omega)
 ·have h:=of_decide_eq_false h
  have hie:i=ap a:=by omega
  subst hie
  have hq:(idxOf (psF a m.nodes) (ap a)).length≤1000000:=Nat.le_trans (de _ _) (by omega)
  repeat (first|refine cFz 9 ?_|(refine cy ?_;first|refine aV ?_|refine bY ?_|refine aY ?_|refine aZ ?_|refine aS ?_|refine bg ?_|refine bi ?_|refine ay ?_|refine be ?_)|(refine fo ?_;first|refine bQ ?_|refine eZ ?_|refine cr ?_|refine b8 ?_)|(refine fa ?_;first|refine dm (fun _=>?_)|refine b9 ?_|refine cm ?_|refine bG ?_|refine cw ?_|refine ck ?_)|(refine fh ?_;first|refine cg ?_|refine eB ?_|refine bT ?_|refine bI ?_|refine cq ?_|refine bV ?_|refine bZ ?_)|(refine fe ?_;first|refine fl ?_|refine eS ?_|refine cd ?_|refine bP ?_|refine fq ?_|refine bl ?_|refine bo ?_)|(refine cu ?_;first|refine aX ?_|refine ch ?_)|(refine ff ?_;first|refine cj ?_|refine ct ?_|refine ft ?_)|(refine cf ?_;first|refine ca ?_|refine bd ?_|refine aQ ?_|refine ba ?_|refine aU ?_|refine bh ?_)|(refine fc ?_;first|refine b7 ?_|refine eY ?_|refine bj ?_|refine aR ?_|refine bm ?_)|(refine aI ?_;first|refine au _ ?_|refine bf ?_|refine aA ?_|refine av ?_|refine ax ?_)|(refine fu ?_;first|refine cb ?_|refine bH ?_|refine bX ?_)|(refine gOp ?_;first|refine fd ?_|refine fm ?_|refine bc ?_|refine fp ?_|refine fj ?_|refine bU ?_|refine aT ?_|refine co ?_|refine fw ?_|refine bM ?_|refine b6 ?_|refine bk ?_|refine az ?_|refine bW ?_|refine sNo ?_|refine dO ?_|refine aw ?_)|refine dZ ?_|refine cN ?_|refine fB ?_|refine bp ?_|refine cz ?_|refine bB ?_|refine fC ?_|refine fI ?_|refine fx ?_|refine df ?_|refine cC ?_|refine aN ?_|refine aB ?_|refine bq ?_|refine ci ?_|refine bC ?_|refine aBlkX ?_|refine cA ?_)
  refine cIf (fun h2=>?_) (fun h2=>?_)
  ·rw [show dJ r a m.nodes=([],[],false) from by unfold dJ;rw [h2];rfl]
   repeat (first|(refine cy ?_;first|refine aV ?_|refine bY ?_|refine aY ?_|refine aZ ?_|refine aS ?_|refine bg ?_|refine bi ?_|refine ay ?_|refine be ?_)|(refine fo ?_;first|refine bQ ?_|refine eZ ?_|refine cr ?_|refine b8 ?_)|(refine fa ?_;first|refine dm (fun _=>?_)|refine b9 ?_|refine cm ?_|refine bG ?_|refine cw ?_|refine ck ?_)|(refine fh ?_;first|refine cg ?_|refine eB ?_|refine bT ?_|refine bI ?_|refine cq ?_|refine bV ?_|refine bZ ?_)|(refine fe ?_;first|refine fl ?_|refine eS ?_|refine cd ?_|refine bP ?_|refine fq ?_|refine bl ?_|refine bo ?_)|(refine cu ?_;first|refine aX ?_|refine ch ?_)|(refine ff ?_;first|refine fF (d:=6) ?_|refine fF (d:=7) ?_|refine cj ?_|refine ct ?_|refine ft ?_)|(refine cf ?_;first|refine ca ?_|refine bd ?_|refine aQ ?_|refine ba ?_|refine aU ?_|refine bh ?_)|(refine fc ?_;first|refine b7 ?_|refine eY ?_|refine bj ?_|refine aR ?_|refine bm ?_)|(refine aI ?_;first|refine au _ ?_|refine bf ?_|refine aA ?_|refine av ?_|refine ax ?_)|(refine fu ?_;first|refine cb ?_|refine bH ?_|refine bX ?_)|(refine gOp ?_;first|refine fd ?_|refine fm ?_|refine bc ?_|refine fp ?_|refine fj ?_|refine bU ?_|refine aT ?_|refine co ?_|refine fw ?_|refine bM ?_|refine b6 ?_|refine bk ?_|refine sFz 46 ?_|refine sFz 47 ?_|refine az ?_|refine bW ?_|refine sNo ?_|refine dO ?_|refine aw ?_)|refine dZ ?_|refine cN ?_|refine fB ?_|refine bp ?_|refine cz ?_|refine bB ?_|refine fC ?_|refine fI ?_|refine fx ?_|refine df ?_|refine cC ?_|refine aN ?_|refine aB ?_|refine bq ?_|refine ci ?_|refine bC ?_|refine aBlkX ?_|refine cA ?_|refine sFz 46 ?_|refine sFz 47 ?_)
   exact iA
  ·rw [show dJ r a m.nodes=(idxOf (psF a m.nodes) (ap a),bJ r.outer (idxOf (psF a m.nodes) (ap a)).length,true) from by unfold dJ;rw [h2];rfl]
   have h2:=of_decide_eq_false h2
   revert hq h2
   generalize idxOf (psF a m.nodes) (ap a)=ls
   intro hq h2
   refine kgo ?_
   refine eG (fun i:Nat=>i≤16∧(kY r.outer i).length≤ls.length) (fun i=>16 - i) (fun i=>[(3,.sy (.bx 10003 0)),(10003,.tk (.bx (iu r.D))),(9,.sy (.d (DI ls))),(10,.sy (.k 10016)),(10016,.tk (.row 1 9 ((kY r.outer i).map .s))),(13,.sy (.d (.i i)))]) 0 ⟨by omega,Nat.zero_le _⟩ (fun i hi=>?_)
   obtain ⟨hi1,hi2⟩:=hi
   refine kgo ?_
   refine cIf (fun h3=>?_) (fun h3=>?_)
   ·have h3:=of_decide_eq_true h3
    simp only [List.length_map] at h3
    have hfew:=zn r.outer i (by omega)
    have f2:=xQ i (by omega)
    have f3:=wt r.outer ((⟨#[122]⟩:ByteArray) ++ ⟨#[UInt8.ofNat (97+i)]⟩)
    have hb:(⟨#[122]⟩:ByteArray).size+(⟨#[UInt8.ofNat (97+i)]⟩:ByteArray).size≤1000000:=by show 1+1≤1000000;omega
    have hz:=tn ⟨i,by omega⟩
    simp only at hz
    have hsu:=oR r.outer i
    refine kgo ?_
    refine cIf (fun h4=>?_) (fun h4=>?_)
    ·have h4:=of_decide_eq_true h4
     have hf:lm r.outer i=true:=by
      rw [hz] at h4
      unfold jx at h4
      unfold lm
      split at h4
      ·omega
      ·simp_all
     rw [if_pos hf] at hsu
     have hs:(kY r.outer (i+1)).map D.s=(kY r.outer i).map D.s++[.s ((⟨#[122]⟩:ByteArray) ++ ⟨#[UInt8.ofNat (97+i)]⟩)]:=by rw [hsu,List.map_append,hz];rfl
     have hl2:(kY r.outer (i+1)).length≤ls.length:=by rw [hsu,List.length_append];show _+1≤_;omega
     refine kgo ?_
     exact af (i+1) ⟨by omega,hl2⟩ (by omega)
    ·have h4:=of_decide_eq_false h4
     have hf:¬lm r.outer i=true:=by
      rw [hz] at h4
      unfold jx at h4
      unfold lm
      split at h4
      ·simp_all
      ·omega
     rw [if_neg hf] at hsu
     have hs:(kY r.outer (i+1)).map D.s=(kY r.outer i).map D.s:=by rw [hsu]
     refine kgo ?_
     exact af (i+1) ⟨by omega,by rw [hsu];exact hi2⟩ (by omega)
   ·have h3:=of_decide_eq_false h3
    simp only [List.length_map] at h3
    rw [show ls.length=(kY r.outer i).length by omega,tz r.outer i (by omega)]
    repeat (first|refine cFz 10 ?_|(refine cy ?_;first|refine aV ?_|refine bY ?_|refine aY ?_|refine aZ ?_|refine aS ?_|refine bg ?_|refine bi ?_|refine ay ?_|refine be ?_)|(refine fo ?_;first|refine bQ ?_|refine eZ ?_|refine cr ?_|refine b8 ?_)|(refine fa ?_;first|refine dm (fun _=>?_)|refine b9 ?_|refine cm ?_|refine bG ?_|refine cw ?_|refine ck ?_)|(refine fh ?_;first|refine cg ?_|refine eB ?_|refine bT ?_|refine bI ?_|refine cq ?_|refine bV ?_|refine bZ ?_)|(refine fe ?_;first|refine fl ?_|refine eS ?_|refine cd ?_|refine bP ?_|refine fq ?_|refine bl ?_|refine bo ?_)|(refine cu ?_;first|refine aX ?_|refine ch ?_)|(refine ff ?_;first|refine cj ?_|refine ct ?_|refine ft ?_)|(refine cf ?_;first|refine ca ?_|refine bd ?_|refine aQ ?_|refine ba ?_|refine aU ?_|refine bh ?_)|(refine fc ?_;first|refine b7 ?_|refine eY ?_|refine bj ?_|refine aR ?_|refine bm ?_)|(refine aI ?_;first|refine au _ ?_|refine bf ?_|refine aA ?_|refine av ?_|refine ax ?_)|(refine fu ?_;first|refine cb ?_|refine bH ?_|refine bX ?_)|(refine gOp ?_;first|refine fd ?_|refine fm ?_|refine bc ?_|refine fp ?_|refine fj ?_|refine bU ?_|refine aT ?_|refine co ?_|refine fw ?_|refine bM ?_|refine b6 ?_|refine bk ?_|refine az ?_|refine bW ?_|refine sNo ?_|refine dO ?_|refine aw ?_)|refine dZ ?_|refine cN ?_|refine fB ?_|refine bp ?_|refine cz ?_|refine bB ?_|refine fC ?_|refine fI ?_|refine fx ?_|refine df ?_|refine cC ?_|refine aN ?_|refine aB ?_|refine bq ?_|refine ci ?_|refine bC ?_|refine aBlkX ?_|refine cA ?_)
    exact iA
end Go.Proofs.YtacafmejcdgboaaGreatDoor
namespace Go.Proofs.YtacafmejcdgboaaGreatDoor
open Go.RowKit
set_option linter.unusedVariables false
set_option maxRecDepth 100000
set_option maxHeartbeats 4000000
attribute [local irreducible] ar Der At
theorem pK (f:Nat→Bool) (i m:Nat) (hf:f i=true):∃rest,(List.range (i+1+m)).filter f=(List.range i).filter f++i :: rest∧∀k∈rest,i<k:=by
 induction m with
 | zero=>exact ⟨[],by rw [Nat.add_zero,List.range_succ,List.filter_append];simp [hf],fun k h=>by cases h⟩
 | succ m ih=>
  obtain ⟨rest,h1,h2⟩:=ih
  rw [← Nat.add_assoc,List.range_succ,List.filter_append,h1]
  refine ⟨rest++[i+1+m].filter f,by rw [List.append_assoc];rfl,fun k hk=>?_⟩
  rcases List.mem_append.1 hk with h|h
  ·exact h2 k h
  ·have:=List.mem_singleton.1 (List.mem_filter.1 h).1
   omega
theorem C1 {α:Type} (f:Nat→Bool) (g g':Nat→α) (i n:Nat) (hi:i<n) (hf:f i=true) (hg:∀k,k≠i→g' k=g k):((List.range n).filter f).map g'=(((List.range n).filter f).map g).set ((List.range i).filter f).length (g' i):=by
 obtain ⟨rest,h1,h2⟩:=pK f i (n - (i+1)) hf
 rw [show i+1+(n - (i+1))=n by omega] at h1
 rw [h1,List.map_append,List.map_append,List.map_cons,List.map_cons,List.set_append_right _ _ (by rw [List.length_map];exact Nat.le_refl _),List.length_map,Nat.sub_self,List.set_cons_zero]
 congr 1
 ·refine List.map_congr_left fun k hk=>hg k ?_
  have:=List.mem_range.1 (List.mem_filter.1 hk).1
  omega
 ·congr 1
  refine List.map_congr_left fun k hk=>hg k ?_
  have:=h2 k hk
  omega
theorem Fh {α:Type} (f:Nat→Bool) (g:Nat→α) (i n:Nat) (hi:i<n) (hf:f i=true):∃h:((List.range i).filter f).length<(((List.range n).filter f).map g).length,(((List.range n).filter f).map g)[((List.range i).filter f).length]=g i:=by
 obtain ⟨rest,h1,h2⟩:=pK f i (n - (i+1)) hf
 rw [show i+1+(n - (i+1))=n by omega] at h1
 have h3:(((List.range n).filter f).map g)[((List.range i).filter f).length]? = some (g i):=by
  rw [h1,List.map_append,List.getElem?_append_right (by rw [List.length_map];exact Nat.le_refl _),List.length_map,Nat.sub_self];rfl
 obtain ⟨h4,h5⟩:=List.getElem?_eq_some_iff.1 h3
 exact ⟨h4,h5⟩
def lY (ps z:List Int) (k:Nat):List Int:=(List.range k).foldl (fun l (i:Nat)=>l.set (atI ps i).toNat (i:Int)) z
theorem p9 (ps z:List Int) (k:Nat):lY ps z (k+1)=(lY ps z k).set (atI ps k).toNat k:=by unfold lY;rw [List.range_succ,List.foldl_append];rfl
theorem s7 (ps z:List Int) (k:Nat):(lY ps z k).length=z.length:=by
 induction k with
 | zero=>simp [lY]
 | succ k ih=>rw [p9,List.length_set,ih]
def jZ (r a:Big) (ns:List Int) (row:List Bool) (lk:List Int) (i k:Nat):Nd:=
 ⟨(dR a k).control,if decide (k<i) && dP ns (dR a k).parent then -1 - kS r ns (dR a k).parent else sX row true false (dR a k).parent,ez lk (dR a k).links⟩
def ke (r a:Big) (ns:List Int) (row:List Bool) (lk:List Int) (i:Nat):List Nd:=((List.range a.nodes.length).filter (tkF row true)).map (jZ r a ns row lk i)
def tK (row:List Bool) (i:Nat):Nat:=((List.range i).filter (tkF row true)).length
theorem Ag (row:List Bool) (i:Nat):tK row (i+1)=if tkF row true i=true then tK row i+1 else tK row i:=by
 unfold tK
 rw [List.range_succ,List.filter_append]
 by_cases h:tkF row true i=true <;> simp [h]
theorem xV (r a:Big) (ns:List Int) (row:List Bool) (lk:List Int):ke r a ns row lk 0=gO a row true false lk a.nodes.length:=by
 unfold ke gO
 refine List.map_congr_left fun k _=>?_
 unfold jZ Gx
 simp
theorem tE (r a:Big) (ns:List Int) (row:List Bool) (lk:List Int) (i k:Nat) (h:k≠i):jZ r a ns row lk (i+1) k=jZ r a ns row lk i k:=by
 unfold jZ
 rw [show decide (k<i+1)=decide (k<i) from decide_eq_decide.2 (by omega)]
theorem w8 (r a:Big) (ns:List Int) (row:List Bool) (lk:List Int) (i:Nat) (h:tkF row true i=false∨dP ns (dR a i).parent=false):ke r a ns row lk (i+1)=ke r a ns row lk i:=by
 unfold ke
 refine List.map_congr_left fun k hk=>?_
 by_cases e:k=i
 ·subst e
  rcases h with h|h
  ·rw [(List.mem_filter.1 hk).2] at h;cases h
  ·unfold jZ;rw [h];simp
 ·exact tE r a ns row lk i k e
theorem Az (r a:Big) (ns:List Int) (row:List Bool) (lk:List Int) (i:Nat) (hi:i<a.nodes.length) (h1:tkF row true i=true) (h2:dP ns (dR a i).parent=true):∃h:tK row i<(ke r a ns row lk i).length,ke r a ns row lk (i+1)=(ke r a ns row lk i).set (tK row i) ⟨(ke r a ns row lk i)[tK row i].control,-1 - kS r ns (dR a i).parent,(ke r a ns row lk i)[tK row i].links⟩:=by
 obtain ⟨h,e⟩:=Fh (tkF row true) (jZ r a ns row lk i) i a.nodes.length hi h1
 refine ⟨h,?_⟩
 have e2:=C1 (tkF row true) (jZ r a ns row lk i) (jZ r a ns row lk (i+1)) i a.nodes.length hi h1 (fun k hk=>tE r a ns row lk i k hk)
 refine e2.trans ?_
 unfold ke tK
 rw [e]
 congr 1
 unfold jZ
 rw [h2];simp
theorem sI (r:Big) (ns:List Int) (p:Int) (h:0<(cD r (dc ns p)).length):0≤kS r ns p∧kS r ns p<r.sites.length:=by
 have h1:kS r ns p∈cD r (dc ns p):=ow (by decide) (by omega)
 obtain ⟨i,h2,_,h3⟩:=bw.1 h1
 omega
def GY (r a:Big) (m:Mat) (ps:List Int) (names:List ByteArray):Big:=
 ⟨r.sites.length,ke r a m.nodes (dW a m.nodes a.nodes.length) (lY ps (List.replicate (ap a) 0) ps.length) a.nodes.length,[],0,names,[]⟩
theorem Cn {sig:List Ctl} {r a:Big} (m:Mat) (hbr:aF sig r=true) (hba:aF sig a=true) (hsite:∀i:Nat,i<a.nodes.length→mw a m.nodes i=true→dP m.nodes (dR a i).parent=true→0<(cD r (dc m.nodes (dR a i).parent)).length) (ps:List Int) (names:List ByteArray) (hps:∀l∈ps,0≤l∧l<(ap a:Int)) (hnm:names.length=ps.length) (hpl:ps.length≤500):FnD Tryz.prog 143 [r.D,a.D,m.D,DI ps,DS names] (.d (GY r a m ps names).D):=by
 have f1:=lR hba m
 have ha:=aJ hba
 have hr:=aJ hbr
 have hla:a.edges+(a.outer.length:Int)=(ap a:Nat):=by unfold ap;omega
 have hlb:ap a≤1000:=by unfold ap;omega
 have hup:=fun i h=>(iI hba i h).2
 have hnode:=eW hba
 have hnl:∀n∈a.nodes,n.links.length≤1000∧∀l∈n.links,0≤l∧l<(ap a:Int):=fun n hn=>by
  obtain ⟨k,hk,rfl⟩:=List.mem_iff_getElem.1 hn
  obtain ⟨_,_,_,c3,c4⟩:=hnode k hk
  refine ⟨by have:=(bu hba).7 k hk;omega,fun l hl=>?_⟩
  obtain ⟨j,rfl,hj⟩:=iE (c4 l hl)
  omega
 have hz:List.replicate (ap a) (D.i 0)=(lY ps (List.replicate (ap a) 0) 0).map D.i:=by rw [show lY ps (List.replicate (ap a) 0) 0=List.replicate (ap a) 0 from by simp [lY],List.map_replicate]
 have hrrl:(dW a m.nodes a.nodes.length).length=a.nodes.length:=by unfold dW;simp
 have hrr:∀k,k<a.nodes.length→tkF (dW a m.nodes a.nodes.length) true k=mw a m.nodes k:=fun k hk=>by
  rw [sQ _ _ _ (by omega)]
  simp [dW]
 unfold GY
 revert f1 hrr hrrl
 generalize dW a m.nodes a.nodes.length=row
 intro f1 hrrl hrr
 refine ah Tryz.func143 (fun hw W0=>?_)
 refine kgo ?_
 refine bM (n:=ap a) (r:=.i 0) ?_ rfl rfl (congrArg some hla) (congrArg some hla) (hb:=by show 8 * ap a≤1000000000;omega)
 refine kgo ?_
 refine ai [3,4,5,6,7,10,11,12] (fun i:Nat=>i≤ps.length) (fun i=>ps.length - i) (fun i=>[(10027,.tk (.row 1 3 ((lY ps (List.replicate (ap a) 0) i).map .i))),(13,.sy (.d (.i i)))]) 0 (Nat.zero_le _) (fun i hi=>?_)
 refine kgo ?_
 refine aL (fun h=>?_) (fun h=>?_)
 ·have hlt:i<ps.length:=by omega
  have hp:=hps _ (List.getElem_mem hlt)
  obtain ⟨j,hj⟩:=Int.eq_ofNat_of_zero_le hp.1
  have hpt:=s7 ps (List.replicate (ap a) 0) i
  rw [List.length_replicate] at hpt
  have hjl:j<(lY ps (List.replicate (ap a) 0) i).length:=by omega
  have hs:=p9 ps (List.replicate (ap a) 0) i
  rw [cE ps i hlt,hj,Int.toNat_natCast] at hs
  refine kgo ?_
  refine bG (n:=j) ?_ rfl rfl rfl (congrArg some hj)
  refine kgo ?_
  rw [← hs]
  exact af (i+1) hlt (by omega)
 rw [show i=ps.length by omega]
 have hpt:=s7 ps (List.replicate (ap a) 0) ps.length
 rw [List.length_replicate] at hpt
 revert hpt
 generalize lY ps (List.replicate (ap a) 0) ps.length=lk
 intro hpt
 have f5:=vQ a row true false lk (by omega) (by omega) hup (fun n hn=>(hnl n hn).1) (fun n hn l hl=>by rw [hpt];exact (hnl n hn).2 l hl)
 rw [← xV r a m.nodes row lk] at f5
 repeat (first|refine cFz 12 ?_|(refine cy ?_;first|refine aV ?_|refine bY ?_|refine aY ?_|refine aZ ?_|refine aS ?_|refine bg ?_|refine bi ?_|refine ay ?_|refine be ?_)|(refine fo ?_;first|refine bQ ?_|refine eZ ?_|refine cr ?_|refine b8 ?_)|(refine fa ?_;first|refine dm (fun _=>?_)|refine b9 ?_|refine cm ?_|refine bG ?_|refine cw ?_|refine ck ?_)|(refine fh ?_;first|refine cg ?_|refine eB ?_|refine bT ?_|refine bI ?_|refine cq ?_|refine bV ?_|refine bZ ?_)|(refine fe ?_;first|refine fl ?_|refine eS ?_|refine cd ?_|refine bP ?_|refine fq ?_|refine bl ?_|refine bo ?_)|(refine cu ?_;first|refine aX ?_|refine ch ?_)|(refine ff ?_;first|refine cj ?_|refine ct ?_|refine ft ?_)|(refine cf ?_;first|refine ca ?_|refine bd ?_|refine aQ ?_|refine ba ?_|refine aU ?_|refine bh ?_)|(refine fc ?_;first|refine b7 ?_|refine eY ?_|refine bj ?_|refine aR ?_|refine bm ?_)|(refine aI ?_;first|refine au _ ?_|refine bf ?_|refine aA ?_|refine av ?_|refine ax ?_)|(refine fu ?_;first|refine cb ?_|refine bH ?_|refine bX ?_)|(refine gOp ?_;first|refine fd ?_|refine fm ?_|refine bc ?_|refine fp ?_|refine fj ?_|refine bU ?_|refine aT ?_|refine co ?_|refine fw ?_|refine bM ?_|refine b6 ?_|refine bk ?_|refine az ?_|refine bW ?_|refine sNo ?_|refine dO ?_|refine aw ?_)|refine dZ ?_|refine cN ?_|refine fB ?_|refine bp ?_|refine cz ?_|refine bB ?_|refine fC ?_|refine fI ?_|refine fx ?_|refine df ?_|refine cC ?_|refine aN ?_|refine aB ?_|refine bq ?_|refine ci ?_|refine bC ?_|refine aBlkX ?_|refine cA ?_)
 refine ai [5,6,7,10,11,14] (fun i:Nat=>i≤a.nodes.length) (fun i=>a.nodes.length - i) (fun i=>[(10051,.tk (.row 3 151 ((ke r a m.nodes row lk i).map Nd.D))),(15,.sy (.d (.i (tK row i)))),(16,.sy (.d (.i i)))]) 0 (Nat.zero_le _) (fun i hi=>?_)
 refine kgo ?_
 refine aL (fun h=>?_) (fun h=>?_)
 ·have hlt:i<a.nodes.length:=by omega
  have hltr:i<row.length:=by omega
  have hk:tkF row true i=row[i]:=by rw [sQ row true i hltr];simp
  have hcs:=Ag row i
  have hcl:tK row i≤i:=by unfold tK;exact Nat.le_trans (List.length_filter_le _ _) (by simp)
  refine kgo ?_
  refine cIf (fun h2=>?_) (fun h2=>?_)
  ·rw [Bool.not_eq_true'] at h2
   rw [h2] at hk
   rw [if_neg (by rw [hk];exact Bool.false_ne_true)] at hcs
   have hs:=w8 r a m.nodes row lk i (.inl hk)
   refine kgo ?_
   rw [← hs,← hcs]
   exact af (i+1) hlt (by omega)
  ·rw [Bool.not_eq_false'] at h2
   rw [h2] at hk
   rw [if_pos hk] at hcs
   have hcd:D.i (tK row (i+1):Nat)=D.i ((tK row i:Nat)+1):=by rw [hcs];rfl
   have hnd:dR a i=a.nodes[i]:=aD a i hlt
   have f6:=jG m.nodes (a.nodes[i]).parent
   refine kgo ?_
   refine cIf (fun h3=>?_) (fun h3=>?_)
   ·rw [← hnd] at h3
    obtain ⟨hcl2,hs⟩:=Az r a m.nodes row lk i hlt hk h3
    have hh:=hsite i hlt (by rw [← hrr i hlt];exact hk) h3
    have f7:=Dy r m (dR a i).parent (by omega) h3 hh
    rw [hnd] at f7 hs
    have hsr:=sI r m.nodes _ hh
    rw [hnd] at hsr
    refine kgo ?_
    refine au (f:=Nd.D) (l:=ke r a m.nodes row lk i) ⟨(ke r a m.nodes row lk i)[tK row i].control,-1 - kS r m.nodes (a.nodes[i]).parent,(ke r a m.nodes row lk i)[tK row i].links⟩ ?_
    refine kgo ?_
    rw [← hs]
    exact af (i+1) hlt (by omega)
   ·rw [← hnd] at h3
    have hs:=w8 r a m.nodes row lk i (.inr h3)
    refine kgo ?_
    rw [← hs]
    exact af (i+1) hlt (by omega)
 rw [show i=a.nodes.length by omega]
 refine bB (aB (aB (bC (aN ?_))))
 refine ou 10014 1 ?_
 refine ou 10014 4 ?_
 refine kgo ?_
 exact aq
end Go.Proofs.YtacafmejcdgboaaGreatDoor
