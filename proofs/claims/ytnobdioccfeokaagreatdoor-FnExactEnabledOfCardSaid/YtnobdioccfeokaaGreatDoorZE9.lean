/-
  Proved facts that the law leans on.
-/
import Derived.Test.YtnobdioccfeokaaGreatDoorZE4
import Derived.Test.YtnobdioccfeokaaGreatDoorZE5
import Derived.Test.YtnobdioccfeokaaGreatDoorZE7
namespace Go.Proofs.YtnobdioccfeokaaGreatDoor
open Go.RowKit
set_option linter.unusedVariables false
set_option maxRecDepth 100000
set_option maxHeartbeats 1000000
attribute [local irreducible] ar Der At
theorem jJ (l:List Int) (n:Int):FnD Tryz.prog 144 [DI l,.i n] (.d (.b (fp l n))):=by
 refine af Tryz.func144 (fun hw W0=>?_)
 have hl:=(wfM hw.1).1
 refine kgo ?_
 refine ai [0,1] (fun i:Nat=>i≤l.length∧(l.take i).any (fun x=>x == n)=false) (fun i=>l.length - i) (fun i=>[(5,.sy (.d (.i i)))]) 0 ⟨Nat.zero_le _,rfl⟩ (fun i hi=>?_)
 refine kgo ?_
 refine cIf (fun h=>?_) (fun h=>?_)
 ·have h:=of_decide_eq_true h
  have hlt:i<l.length:=by omega
  refine kgo ?_
  refine cIf (fun h2=>?_) (fun h2=>?_)
  ·have h2:=of_decide_eq_true h2
   refine kgo ?_
   rw [show fp l n=true from Au _ _ i hlt (by simp [h2])]
   exact aj
  ·have h2:=of_decide_eq_false h2
   refine kgo ?_
   exact aa (i+1) ⟨hlt,by rw [ja _ l i hlt,hi.2];simpa using h2⟩ (by omega)
 ·have h:=of_decide_eq_false h
  refine kgo ?_
  rw [show fp l n=false from by unfold fp;rw [← hi.2,List.take_of_length_le (by omega)]]
  exact aj
theorem AS (m:Int) (n:Nat) (hn:n≤1000) (hm : -1000≤m∧m≤1000):FnD Tryz.prog 290 [.i m,.i n] (.row 1 3 ((cZ m n).map .i)):=by
 refine af Tryz.func290 (fun hw W0=>?_)
 refine kgo ?_
 refine ai [0,1] (fun i:Nat=>i≤n) (fun i=>n - i) (fun i=>[(5,.sy (.k 10007)),(10007,.tk (.row 1 3 ((cZ m i).map .i))),(6,.sy (.d (.i i)))]) 0 (Nat.zero_le _) (fun i hi=>?_)
 refine kgo ?_
 refine cIf (fun h=>?_) (fun h=>?_)
 ·have h:=of_decide_eq_true h
  have hs:(cZ m (i+1)).map D.i=(cZ m i).map D.i++[.i (-1 - m - i)]:=by rw [yb,List.map_append];rfl
  have hl:=lQ m i
  refine kgo ?_
  exact aa (i+1) (by omega) (by omega)
 ·have h:=of_decide_eq_false h
  refine kgo ?_
  rw [show i=n by omega]
  exact pJ
theorem AC (m:Int) (n:Nat) (hn:n≤1000) (hm : -1000≤m∧m≤1000):FnD Tryz.prog 155 [.i m,.i n] (.row 1 3 ((fb m n).map .i)):=by
 refine af Tryz.func155 (fun hw W0=>?_)
 refine kgo ?_
 refine eS (fun i:Nat=>i≤n) (fun i=>n - i) (fun i=>[(0,.sy (.d (.i m))),(1,.sy (.d (.i n))),(5,.sy (.k 10007)),(10007,.tk (.row 1 3 ((fb m i).map .i))),(6,.sy (.d (.i i)))]) 0 (Nat.zero_le _) (fun i hi=>?_)
 refine kgo ?_
 refine cIf (fun h=>?_) (fun h=>?_)
 ·have h:=of_decide_eq_true h
  have hs:(fb m (i+1)).map D.i=(fb m i).map D.i++[.i (m+i)]:=by rw [zw,List.map_append];rfl
  have hl:=eI m i
  refine kgo ?_
  exact aa (i+1) (by omega) (by omega)
 ·have h:=of_decide_eq_false h
  refine kgo ?_
  rw [show i=n by omega]
  exact pJ
end Go.Proofs.YtnobdioccfeokaaGreatDoor
namespace Go.Proofs.YtnobdioccfeokaaGreatDoor
open Go.RowKit
set_option linter.unusedVariables false
set_option maxRecDepth 100000
set_option maxHeartbeats 1000000
attribute [local irreducible] ar Der At
theorem vd {l:List ByteArray} {s:ByteArray} {i:Nat} (h:i<l.length) (he:(l[i].toList == s.toList)=true) (hn:∀j (h:j<i),((l[j]'(by omega)).toList == s.toList)=false):jo l s=i:=by
 unfold jo
 rw [if_pos (List.any_eq_true.2 ⟨_,List.getElem_mem h,he⟩)]
 have:l.findIdx (fun x=>x.toList == s.toList)=i:=(List.findIdx_eq h).2 ⟨he,fun j hj=>by simpa using hn j hj⟩
 rw [this]
theorem A4 {l:List ByteArray} {s:ByteArray} (hn:∀j (h:j<l.length),(l[j].toList == s.toList)=false):jo l s = -1:=by
 unfold jo
 rw [if_neg]
 rw [List.any_eq_true]
 rintro ⟨x,hx,he⟩
 obtain ⟨j,hj,rfl⟩:=List.mem_iff_getElem.1 hx
 rw [hn j hj] at he;cases he
theorem bl {sig:List Ctl} {b:Big} (h:aH sig b=true):(0≤b.roots∧b.roots≤4)∧b.nodes.length≤8∧b.sites.length≤4∧(0≤b.edges∧b.edges≤8)∧b.outer.length≤16∧b.inner.length≤16:=by
 obtain ⟨_,h1,h2,h3,h4,h5,h6⟩:=eZ (dj h).1
 have:=fq h6
 rw [List.length_map] at this
 exact ⟨bB h1,h2,h3,bB h4,fq h5,this⟩
theorem dz (f:Nat→Bool) (n:Nat):(idxOf f n).length≤n:=by
 unfold idxOf
 rw [List.length_map]
 exact Nat.le_trans (List.length_filter_le _ _) (by simp)
theorem na {sig:List Ctl} {a:Big} (hB:aH sig a=true) (m:Mat) (p0:Int) (hp:p0<a.nodes.length):FnD Tryz.prog 156 [a.D,m.D,.i p0] (.d (.b (il a m.nodes p0))):=by
 refine af Tryz.func156 (fun hw W0=>?_)
 refine kgo ?_
 refine eS (fun p:Int=>p<a.nodes.length∧il a m.nodes p0=il a m.nodes p) (fun p=>(p+1).toNat) (fun p=>[(2,.sy (.d (.i p))),(3,.sy (.bx 10003 0)),(10003,.tk (.bx (ij a.D))),(4,.sy (.bx 10004 0)),(10004,.tk (.bx (ij m.D)))]) p0 ⟨hp,rfl⟩ (fun p hi=>?_)
 refine kgo ?_
 refine cIf (fun h=>?_) (fun h=>?_)
 ·have h:=of_decide_eq_true h
  obtain ⟨k,rfl⟩:=Int.eq_ofNat_of_zero_le h
  have hk:k<a.nodes.length:=by omega
  have hs:il a m.nodes k=(fp m.nodes k || il a m.nodes (a.nodes[k]).parent):=fg hB _ k hk
  have hu:=iE hB k hk
  have f1:=jJ m.nodes k
  refine kgo ?_
  refine cIf (fun h2=>?_) (fun h2=>?_)
  ·refine kgo ?_
   rw [hi.2,hs,h2]
   exact aj
  ·refine kgo ?_
   exact aa (a.nodes[k]).parent ⟨by omega,by rw [hi.2,hs,h2];rfl⟩ (by omega)
 ·have h:=of_decide_eq_false h
  refine kgo ?_
  rw [hi.2,show il a m.nodes p=false from ee _ _ (by omega)]
  exact aj
theorem FR {sig:List Ctl} {b:Big} (hB:aH sig b=true) (p0:Int) (hp:p0<b.nodes.length):FnD Tryz.prog 229 [b.D,.i p0] (.d (.i (Br b p0))):=by
 refine af Tryz.func229 (fun hw W0=>?_)
 refine kgo ?_
 refine eS (fun p:Int=>p<b.nodes.length∧Br b p0=Br b p) (fun p=>(p+1).toNat) (fun p=>[(1,.sy (.d (.i p))),(2,.sy (.bx 10002 0)),(10002,.tk (.bx (ij b.D)))]) p0 ⟨hp,rfl⟩ (fun p hi=>?_)
 refine kgo ?_
 refine cIf (fun h=>?_) (fun h=>?_)
 ·have h:=of_decide_eq_true h
  obtain ⟨k,rfl⟩:=Int.eq_ofNat_of_zero_le h
  have hk:k<b.nodes.length:=by omega
  have hu:=iE hB k hk
  refine kgo ?_
  exact aa (b.nodes[k]).parent ⟨by omega,by rw [hi.2,o9 hB k hk]⟩ (by omega)
 ·have h:=of_decide_eq_false h
  refine kgo ?_
  rw [hi.2,nM b (by omega)]
  exact aj
theorem By {sig:List Ctl} {b:Big} (hB:aH sig b=true) (r:Int):FnD Tryz.prog 163 [b.D,.i r] (.row 1 3 ((pK b r).map .i)):=by
 have hn:=(bl hB).2.1
 refine af Tryz.func163 (fun hw W0=>?_)
 refine kgo ?_
 refine eS (fun i:Nat=>i≤b.nodes.length) (fun i=>b.nodes.length - i) (fun i=>[(1,.sy (.d (.i r))),(2,.sy (.bx 10002 0)),(10002,.tk (.bx (ij b.D))),(5,.sy (.k 10007)),(10007,.tk (.row 1 3 ((idxOf (iK b r) i).map .i))),(6,.sy (.d (.i i)))]) 0 (Nat.zero_le _) (fun i hi=>?_)
 refine kgo ?_
 refine cIf (fun h=>?_) (fun h=>?_)
 ·have h:=of_decide_eq_true h
  have hlt:i<b.nodes.length:=by omega
  have hu:=iE hB i hlt
  have f1:=FR hB (b.nodes[i]).parent (by omega)
  have hf:=n8 b r i hlt
  have hl:=dz (iK b r) i
  refine kgo ?_
  refine cIf (fun h2=>?_) (fun h2=>?_)
  ·have hs:(idxOf (iK b r) (i+1)).map D.i=(idxOf (iK b r) i).map D.i++[.i i]:=by rw [dI (hf.trans h2),List.map_append];rfl
   refine kgo ?_
   exact aa (i+1) (by omega) (by omega)
  ·have hs:(idxOf (iK b r) (i+1)).map D.i=(idxOf (iK b r) i).map D.i:=by rw [eY (hf.trans h2)]
   refine kgo ?_
   exact aa (i+1) (by omega) (by omega)
 ·have h:=of_decide_eq_false h
  refine kgo ?_
  rw [show i=b.nodes.length by omega]
  exact pJ
theorem sv (l:List ByteArray) (s:ByteArray):FnD Tryz.prog 91 [DS l,.s s] (.d (.i (jo l s))):=by
 refine af Tryz.func91 (fun hw W0=>?_)
 have hl:=(wfM hw.1).1
 refine kgo ?_
 refine eS (fun i:Nat=>i≤l.length∧∀j (h:j<l.length),j<i→(l[j].toList == s.toList)=false) (fun i=>l.length - i) (fun i=>[(0,.sy (.d (DS l))),(1,.sy (.d (.s s))),(5,.sy (.d (.i i)))]) 0 ⟨Nat.zero_le _,fun j _ h=>absurd h (Nat.not_lt_zero _)⟩ (fun i hi=>?_)
 refine kgo ?_
 refine cIf (fun h=>?_) (fun h=>?_)
 ·have h:=of_decide_eq_true h
  have hlt:i<l.length:=by omega
  refine kgo ?_
  refine cIf (fun h2=>?_) (fun h2=>?_)
  ·refine kgo ?_
   rw [vd hlt h2 (fun j hj=>hi.2 j (by omega) hj)]
   exact aj
  ·refine kgo ?_
   exact aa (i+1) ⟨hlt,fun j h1 h3=>by
    rcases Nat.lt_or_ge j i with h4|h4
    ·exact hi.2 j h1 h4
    ·rw [show l[j]=l[i] from by congr 1;omega];exact h2⟩ (by omega)
 ·have h:=of_decide_eq_false h
  refine kgo ?_
  rw [A4 (fun j h1=>hi.2 j h1 (by omega))]
  exact aj
end Go.Proofs.YtnobdioccfeokaaGreatDoor
namespace Go.Proofs.YtnobdioccfeokaaGreatDoor
open Go.RowKit
set_option linter.unusedVariables false
set_option maxRecDepth 100000
set_option maxHeartbeats 1000000
attribute [local irreducible] ar Der At
theorem CI {sig:List Ctl} {a:Big} (hB:aH sig a=true) (p0:Int) (hp:p0<a.nodes.length):FnD Tryz.prog 97 [.l 3 (sig.map Ctl.D),a.D,.i p0] (.d (.b (kZ sig a p0))):=by
 refine af Tryz.func97 (fun hw W0=>?_)
 refine kgo ?_
 refine eS (fun p:Int=>p<a.nodes.length∧kZ sig a p0=kZ sig a p) (fun p=>(p+1).toNat) (fun p=>[(0,.sy (.d (.l 3 (sig.map Ctl.D)))),(2,.sy (.d (.i p))),(4,.sy (.bx 10004 0)),(10004,.tk (.bx (ij a.D)))]) p0 ⟨hp,rfl⟩ (fun p hi=>?_)
 refine kgo ?_
 refine cIf (fun h=>?_) (fun h=>?_)
 ·have h:=of_decide_eq_true h
  obtain ⟨k,rfl⟩:=Int.eq_ofNat_of_zero_le h
  have hk:k<a.nodes.length:=by omega
  have hs:kZ sig a k=(sa sig a k || kZ sig a (a.nodes[k]).parent):=fg hB _ k hk
  have hu:=iE hB k hk
  obtain ⟨c0,c1,_⟩:=e9 hB k hk
  obtain ⟨j,hj⟩:=Int.eq_ofNat_of_zero_le c0
  have hjl:j<sig.length:=by omega
  have hpf:sa sig a k=decide ((sig[j]).kind=1):=by unfold sa;rw [aB a k hk,hj,iD sig j hjl]
  refine kgo ?_
  refine cS (n:=j) (fun _=>?_) rfl rfl (congrArg some hj)
  refine kgo ?_
  refine cIf (fun h2=>?_) (fun h2=>?_)
  ·refine kgo ?_
   rw [hi.2,hs,hpf,h2]
   exact aj
  ·refine kgo ?_
   exact aa (a.nodes[k]).parent ⟨by omega,by rw [hi.2,hs,hpf,h2];rfl⟩ (by omega)
 ·have h:=of_decide_eq_false h
  refine kgo ?_
  rw [hi.2,show kZ sig a p=false from ee _ _ (by omega)]
  exact aj
theorem zx {sig:List Ctl} {a:Big} (hB:aH sig a=true) (m:Mat) (hr:∀p∈m.roots,p<(a.nodes.length:Int)):FnD Tryz.prog 51 [.l 3 (sig.map Ctl.D),a.D,m.D] (.d (.b (jV sig a m.roots))):=by
 refine af Tryz.func51 (fun hw W0=>?_)
 have hl:=(wfM hw.2.2.1.2.1).1
 refine kgo ?_
 refine eS (fun i:Nat=>i≤m.roots.length∧(m.roots.take i).all (fun p=>!kZ sig a p)=true) (fun i=>m.roots.length - i) (fun i=>[(0,.sy (.d (.l 3 (sig.map Ctl.D)))),(4,.sy (.bx 10004 0)),(10004,.tk (.bx (ij a.D))),(5,.sy (.bx 10005 0)),(10005,.tk (.bx (ij m.D))),(7,.sy (.d (.i i)))]) 0 ⟨Nat.zero_le _,rfl⟩ (fun i hi=>?_)
 refine kgo ?_
 refine cIf (fun h=>?_) (fun h=>?_)
 ·have h:=of_decide_eq_true h
  have hlt:i<m.roots.length:=by omega
  have f1:=CI hB m.roots[i] (hr _ (List.getElem_mem hlt))
  refine kgo ?_
  refine cIf (fun h2=>?_) (fun h2=>?_)
  ·refine kgo ?_
   rw [show jV sig a m.roots=false from List.all_eq_false.2 ⟨_,List.getElem_mem hlt,by simp [h2]⟩]
   exact aj
  ·refine kgo ?_
   exact aa (i+1) ⟨hlt,by rw [List.take_succ_eq_append_getElem hlt,List.all_append,hi.2];simp [h2]⟩ (by omega)
 ·have h:=of_decide_eq_false h
  refine kgo ?_
  rw [show jV sig a m.roots=true from by rw [← hi.2,List.take_of_length_le (by omega)];rfl]
  exact aj
def dX (a:Big) (ns:List Int) (n:Nat):List Bool:=(List.range n).map (mH a ns)
theorem vh (a:Big) (ns:List Int) (n:Nat):dX a ns (n+1)=dX a ns n++[mH a ns n]:=by unfold dX;rw [List.range_succ,List.map_append];rfl
theorem mq {sig:List Ctl} {a:Big} (hB:aH sig a=true) (m:Mat):FnD Tryz.prog 151 [a.D,m.D] (.d (.l 1 ((dX a m.nodes a.nodes.length).map .b))):=by
 have hn:=(bl hB).2.1
 refine af Tryz.func151 (fun hw W0=>?_)
 refine kgo ?_
 refine eS (fun i:Nat=>i≤a.nodes.length) (fun i=>a.nodes.length - i) (fun i=>[(2,.sy (.bx 10002 0)),(10002,.tk (.bx (ij a.D))),(3,.sy (.bx 10003 0)),(10003,.tk (.bx (ij m.D))),(5,.sy (.k 10007)),(10007,.tk (.row 1 4 ((dX a m.nodes i).map .b))),(6,.sy (.d (.i i)))]) 0 (Nat.zero_le _) (fun i hi=>?_)
 refine kgo ?_
 refine cIf (fun h=>?_) (fun h=>?_)
 ·have h:=of_decide_eq_true h
  have hlt:i<a.nodes.length:=by omega
  have f1:=jJ m.nodes i
  have f2:=na hB m i (by omega)
  have hs:(dX a m.nodes (i+1)).map D.b=(dX a m.nodes i).map D.b++[.b (il a m.nodes i && !fp m.nodes i)]:=by rw [vh,List.map_append];rfl
  have hl:(dX a m.nodes i).length=i:=by simp [dX]
  cases hc:fp m.nodes i
  ·rw [hc] at hs f1
   simp only [Bool.not_false,Bool.and_true] at hs
   refine kgo ?_
   exact aa (i+1) (by omega) (by omega)
  ·rw [hc] at hs f1
   simp only [Bool.not_true,Bool.and_false] at hs
   refine kgo ?_
   exact aa (i+1) (by omega) (by omega)
 ·have h:=of_decide_eq_false h
  refine kgo ?_
  rw [show i=a.nodes.length by omega]
  exact JC
end Go.Proofs.YtnobdioccfeokaaGreatDoor
namespace Go.Proofs.YtnobdioccfeokaaGreatDoor
open Go.RowKit
set_option linter.unusedVariables false
set_option maxRecDepth 100000
set_option maxHeartbeats 1000000
attribute [local irreducible] ar Der At
theorem qz (p by':Int) (ps:List Int) (hok:EZ by' ps p) (hb : -1000≤by'∧by'≤1000):FnD Tryz.prog 325 [.i p,.i by',DI ps] (.d (.i (upF by' ps p))):=by
 refine af Tryz.func325 (fun hw W0=>?_)
 have h1:=hw.1
 have h2:=(wfM hw.2.2.1).1
 unfold Wf I64 at h1
 unfold EZ at hok
 refine kgo ?_
 refine cIf (fun h=>?_) (fun h=>?_)
 ·have h:=of_decide_eq_true h
  refine kgo ?_
  rw [show upF by' ps p=atI ps (-1 - p) from if_pos h]
  exact aj
 ·have h:=of_decide_eq_false h
  refine kgo ?_
  rw [show upF by' ps p=p+by' from if_neg h]
  exact aj
theorem mb (b:Big) (by':Int) (ps:List Int) (hl:b.sites.length≤1000) (hok:∀p∈b.sites,EZ by' ps p) (hb : -1000≤by'∧by'≤1000):FnD Tryz.prog 292 [b.D,.i by',DI ps] (.row 1 3 ((du by' ps b.sites).map .i)):=by
 refine af Tryz.func292 (fun hw W0=>?_)
 refine kgo ?_
 refine eS (fun i:Nat=>i≤b.sites.length) (fun i=>b.sites.length - i) (fun i=>[(1,.sy (.d (.i by'))),(2,.sy (.d (DI ps))),(3,.sy (.bx 10003 0)),(10003,.tk (.bx (ij b.D))),(7,.sy (.k 10009)),(10009,.tk (.row 1 3 ((du by' ps (b.sites.take i)).map .i))),(8,.sy (.d (.i i)))]) 0 (Nat.zero_le _) (fun i hi=>?_)
 refine kgo ?_
 refine cIf (fun h=>?_) (fun h=>?_)
 ·have h:=of_decide_eq_true h
  have hlt:i<b.sites.length:=by omega
  have f1:=qz b.sites[i] by' ps (hok _ (List.getElem_mem hlt)) hb
  have hs:(du by' ps (b.sites.take (i+1))).map D.i=(du by' ps (b.sites.take i)).map D.i++[.i (upF by' ps b.sites[i])]:=by unfold du;rw [List.take_succ_eq_append_getElem hlt,List.map_append,List.map_append];rfl
  have hq:(du by' ps (b.sites.take i)).length≤1000:=by unfold du;rw [List.length_map,List.length_take];omega
  refine kgo ?_
  exact aa (i+1) hlt (by omega)
 ·have h:=of_decide_eq_false h
  refine kgo ?_
  rw [List.take_of_length_le (by omega)]
  exact pJ
theorem pb (xs:List ByteArray) (m:Int) (ys:List ByteArray) (hl:xs.length≤1000) (hy:ys.length≤1000) (hm:0≤m∧m≤1000):FnD Tryz.prog 260 [DS xs,.i m,DS ys] (.row 1 3 ((dy xs m ys).map .i)):=by
 refine af Tryz.func260 (fun hw W0=>?_)
 refine kgo ?_
 refine eS (fun i:Nat=>i≤xs.length) (fun i=>xs.length - i) (fun i=>[(0,.sy (.d (DS xs))),(1,.sy (.d (.i m))),(2,.sy (.d (DS ys))),(7,.sy (.k 10009)),(10009,.tk (.row 1 3 ((dy (xs.take i) m ys).map .i))),(8,.sy (.d (.i i)))]) 0 (Nat.zero_le _) (fun i hi=>?_)
 refine kgo ?_
 refine cIf (fun h=>?_) (fun h=>?_)
 ·have h:=of_decide_eq_true h
  have hlt:i<xs.length:=by omega
  have f1:=sv ys xs[i]
  have hr:=mI ys xs[i]
  have hs:(dy (xs.take (i+1)) m ys).map D.i=(dy (xs.take i) m ys).map D.i++[.i (m+jo ys xs[i])]:=by rw [uN m ys i hlt,List.map_append];rfl
  have hq:(dy (xs.take i) m ys).length≤1000:=by unfold dy;rw [List.length_map,List.length_take];omega
  refine kgo ?_
  exact aa (i+1) hlt (by omega)
 ·have h:=of_decide_eq_false h
  refine kgo ?_
  rw [List.take_of_length_le (by omega)]
  exact pJ
theorem lZ (b:Big) (by':Int) (ps ks:List Int) (hb : -1000≤by'∧by'≤1000) (hl:b.nodes.length≤1000) (hll:∀n∈b.nodes,n.links.length≤1000) (hok:∀n∈b.nodes,EZ by' ps n.parent) (hlk:∀n∈b.nodes,∀l∈n.links,0≤l∧l<(ks.length:Int)):FnD Tryz.prog 291 [b.D,.i by',DI ps,DI ks] (.row 3 153 ((cU by' ps ks b.nodes).map Nd.D)):=by
 refine af Tryz.func291 (fun hw W0=>?_)
 refine kgo ?_
 refine eS (fun i:Nat=>i≤b.nodes.length) (fun i=>b.nodes.length - i) (fun i=>[(1,.sy (.d (.i by'))),(2,.sy (.d (DI ps))),(3,.sy (.d (DI ks))),(4,.sy (.bx 10004 0)),(10004,.tk (.bx (ij b.D))),(9,.sy (.k 10013)),(10013,.tk (.row 3 153 ((cU by' ps ks (b.nodes.take i)).map Nd.D))),(10,.sy (.d (.i i)))]) 0 (Nat.zero_le _) (fun i hi=>?_)
 refine kgo ?_
 refine cIf (fun h=>?_) (fun h=>?_)
 ·have h:=of_decide_eq_true h
  have hlt:i<b.nodes.length:=by omega
  have hm:=List.getElem_mem hlt
  have hq:(cU by' ps ks (b.nodes.take i)).length≤1000:=by unfold cU;rw [List.length_map,List.length_take];omega
  have hL:=hll _ hm
  have hK:=hlk _ hm
  refine kgo ?_
  refine eS (fun j:Nat=>j≤(b.nodes[i]).links.length) (fun j=>(b.nodes[i]).links.length - j) (fun j=>[(1,.sy (.d (.i by'))),(2,.sy (.d (DI ps))),(3,.sy (.d (DI ks))),(4,.sy (.bx 10004 0)),(10004,.tk (.bx (ij b.D))),(9,.sy (.k 10013)),(10013,.tk (.row 3 153 ((cU by' ps ks (b.nodes.take i)).map Nd.D))),(10,.sy (.d (.i i))),(11,.sy (.k 10021)),(10021,.tk (.row 1 3 ((ew ks ((b.nodes[i]).links.take j)).map .i))),(12,.sy (.d (.i j)))]) 0 (Nat.zero_le _) (fun j hj=>?_)
  refine kgo ?_
  refine cIf (fun h2=>?_) (fun h2=>?_)
  ·have h2:=of_decide_eq_true h2
   have hjl:j<(b.nodes[i]).links.length:=by omega
   have hk2:=hK _ (List.getElem_mem hjl)
   have hs:(ew ks ((b.nodes[i]).links.take (j+1))).map D.i=(ew ks ((b.nodes[i]).links.take j)).map D.i++[.i (atI ks (b.nodes[i]).links[j])]:=by rw [pz ks j hjl,List.map_append];rfl
   have hq2:(ew ks ((b.nodes[i]).links.take j)).length≤1000:=by unfold ew;rw [List.length_map,List.length_take];omega
   refine kgo ?_
   exact aa (j+1) hjl (by omega)
  ·have h2:=of_decide_eq_false h2
   rw [show (b.nodes[i]).links.take j=(b.nodes[i]).links from List.take_of_length_le (by omega)]
   have f1:=qz (b.nodes[i]).parent by' ps (hok _ hm) hb
   have hs:(cU by' ps ks (b.nodes.take (i+1))).map Nd.D=(cU by' ps ks (b.nodes.take i)).map Nd.D++[Nd.D ⟨(b.nodes[i]).control,upF by' ps (b.nodes[i]).parent,ew ks (b.nodes[i]).links⟩]:=by rw [vM by' ps ks i hlt,List.map_append];rfl
   repeat (first|(refine ca ?_;first|refine aM ?_|refine b6 ?_|refine aR ?_|refine bh ?_|refine aL ?_|refine bg ?_|refine aX ?_|refine az ?_|refine aV ?_)|(refine eG ?_;first|refine bH ?_|refine eC ?_|refine bP ?_|refine cb ?_)|(refine eT ?_;first|refine cS (fun _=>?_)|refine cd ?_|refine bR ?_|refine b9 ?_|refine bu ?_|refine bJ ?_|refine b8 ?_)|(refine eR ?_;first|refine ch ?_|refine d7 ?_|refine b7 ?_|refine bD ?_|refine bN ?_|refine bX ?_|refine bS ?_)|(refine eK ?_;first|refine eF ?_|refine eA ?_|refine bU ?_|refine bG ?_|refine eH ?_|refine bd ?_|refine bc ?_)|(refine bV ?_;first|refine ba ?_|refine bT ?_)|(refine eV ?_;first|refine bI ?_|refine bQ ?_|refine eJ ?_)|(refine bL ?_;first|refine bO ?_|refine aS ?_|refine aN ?_|refine aW ?_|refine aQ ?_|refine aY ?_)|(refine eE ?_;first|refine bZ ?_|refine eB ?_|refine be ?_|refine aP ?_|refine aU ?_)|(refine aK ?_;first|refine aq _ ?_|refine bf ?_|refine aw ?_|refine au ?_|refine ax ?_)|(refine eP ?_;first|refine bW ?_|refine bE ?_|refine bM ?_)|(refine gOp ?_;first|refine eD ?_|refine eM ?_|refine aZ ?_|refine eU ?_|refine eN ?_|refine bK ?_|refine aO ?_|refine cf ?_|refine eO ?_|refine bC ?_|refine bY ?_|refine aT ?_|refine sFz 64 ?_|refine ay ?_|refine cg ?_|refine sNo ?_|refine dU ?_|refine av ?_)|refine dY ?_|refine dq ?_|refine fj ?_|refine bj ?_|refine ci ?_|refine br ?_|refine fm ?_|refine fl ?_|refine eX ?_|refine dB ?_|refine ck ?_|refine bo ?_|refine aA ?_|refine bk ?_|refine ct ?_|refine bt ?_|refine aBlkX ?_|refine cm ?_|refine sFz 64 ?_)
   exact aa (i+1) hlt (by omega)
 ·have h:=of_decide_eq_false h
  refine kgo ?_
  rw [List.take_of_length_le (by omega)]
  exact pJ
theorem ph (b:Big) (ps:List Int) (hok:∀x∈b.inner,0≤x.link∧x.link<(ps.length:Int)) (hl:b.inner.length≤1000):FnD Tryz.prog 293 [b.D,DI ps] (.row 2 155 ((dx ps b.inner).map Wr.D)):=by
 refine af Tryz.func293 (fun hw W0=>?_)
 refine kgo ?_
 refine eS (fun i:Nat=>i≤b.inner.length) (fun i=>b.inner.length - i) (fun i=>[(1,.sy (.d (DI ps))),(2,.sy (.bx 10002 0)),(10002,.tk (.bx (ij b.D))),(5,.sy (.k 10007)),(10007,.tk (.row 2 155 ((dx ps (b.inner.take i)).map Wr.D))),(6,.sy (.d (.i i)))]) 0 (Nat.zero_le _) (fun i hi=>?_)
 refine kgo ?_
 refine cIf (fun h=>?_) (fun h=>?_)
 ·have h:=of_decide_eq_true h
  have hlt:i<b.inner.length:=by omega
  have hk:=hok _ (List.getElem_mem hlt)
  have hb:(dx ps (b.inner.take i)).length≤1000:=by unfold dx;rw [List.length_map,List.length_take];omega
  have hs:(dx ps (b.inner.take (i+1))).map Wr.D=(dx ps (b.inner.take i)).map Wr.D++[Wr.D ⟨(b.inner[i]).name,atI ps (b.inner[i]).link⟩]:=by rw [vY ps i hlt,List.map_append];rfl
  refine kgo ?_
  exact aa (i+1) hlt (by omega)
 ·have h:=of_decide_eq_false h
  refine kgo ?_
  rw [List.take_of_length_le (by omega)]
  exact pJ
theorem uX (l:List Int) (hl:l.length≤1000):FnD Tryz.prog 147 [DI l] (.row 1 3 (l.map .i)):=by
 refine af Tryz.func147 (fun hw W0=>?_)
 refine kgo ?_
 exact pJ
theorem ke (b:Big) (hl:b.inner.length≤1000):FnD Tryz.prog 140 [b.D] (.d (DS (b.inner.map Wr.name))):=by
 refine af Tryz.func140 (fun hw W0=>?_)
 refine kgo ?_
 refine eS (fun i:Nat=>i≤b.inner.length) (fun i=>b.inner.length - i) (fun i=>[(1,.sy (.bx 10001 0)),(10001,.tk (.bx (ij b.D))),(3,.sy (.k 10005)),(10005,.tk (.row 1 9 (((b.inner.take i).map Wr.name).map .s))),(4,.sy (.d (.i i)))]) 0 (Nat.zero_le _) (fun i hi=>?_)
 refine kgo ?_
 refine cIf (fun h=>?_) (fun h=>?_)
 ·have h:=of_decide_eq_true h
  have hlt:i<b.inner.length:=by omega
  have hs:((b.inner.take (i+1)).map Wr.name).map D.s=((b.inner.take i).map Wr.name).map D.s++[.s (b.inner[i]).name]:=by rw [List.take_succ_eq_append_getElem hlt,List.map_append,List.map_append];rfl
  refine kgo ?_
  exact aa (i+1) hlt (by omega)
 ·have h:=of_decide_eq_false h
  refine kgo ?_
  rw [List.take_of_length_le (by omega)]
  exact JC
theorem sR (xs ys:List ByteArray):FnD Tryz.prog 257 [DS xs,DS ys] (.d (.b (iu xs ys))):=by
 refine af Tryz.func257 (fun hw W0=>?_)
 have hl:=(wfM hw.1).1
 refine kgo ?_
 refine eS (fun i:Nat=>i≤xs.length∧(xs.take i).all (fun s=>!ys.any fun x=>x.toList == s.toList)=true) (fun i=>xs.length - i) (fun i=>[(0,.sy (.d (DS xs))),(1,.sy (.d (DS ys))),(5,.sy (.d (.i i)))]) 0 ⟨Nat.zero_le _,rfl⟩ (fun i hi=>?_)
 refine kgo ?_
 refine cIf (fun h=>?_) (fun h=>?_)
 ·have h:=of_decide_eq_true h
  have hlt:i<xs.length:=by omega
  have f1:=sv ys xs[i]
  have hp:=lM ys xs[i]
  refine kgo ?_
  refine cIf (fun h2=>?_) (fun h2=>?_)
  ·refine kgo ?_
   rw [show iu xs ys=false from List.all_eq_false.2 ⟨_,List.getElem_mem hlt,by rw [← hp,h2];simp⟩]
   exact aj
  ·refine kgo ?_
   exact aa (i+1) ⟨hlt,by rw [List.take_succ_eq_append_getElem hlt,List.all_append,hi.2,List.all_cons,← hp,h2];rfl⟩ (by omega)
 ·have h:=of_decide_eq_false h
  refine kgo ?_
  rw [show iu xs ys=true from by rw [← hi.2,List.take_of_length_le (by omega)];rfl]
  exact aj
end Go.Proofs.YtnobdioccfeokaaGreatDoor
namespace Go.Proofs.YtnobdioccfeokaaGreatDoor
open Go.RowKit
set_option linter.unusedVariables false
set_option linter.unusedSimpArgs false
set_option maxRecDepth 100000
set_option maxHeartbeats 4000000
theorem uu {P:Program} {ops:Array Oper} {W0:cz} {N:Nat} {Fin:Us→Env→Prop} {os:List Oper} {us:Us} {pk fk:List Nat} {σ:Env} {d ty:Nat} {pos:String} {after:Array Edge} {op:Op} {j d':Nat} {want:Bool} (h:Der P ops W0 N Fin os (us++[((d :: [d'])++pk,([d])++fk)]) [] [] ((d,.sy (.v undef)) :: σ)) (hj:(ops[j]?).bind (·.dst)=some d':=by rfl) (hu:al σ d'=some (.sy (.v undef)):=by rfl) (hN:Nat.blt d N=true:=by rfl) (hs:aF σ d=true:=by rfl):Der P ops W0 N Fin (⟨some d,op,ty,pos,after,some (j,want)⟩ :: os) us pk fk σ:=by
 refine ⟨d :: [d'],[(d,.sy (.v undef))],fun σ' a w hk hh=>.inr ⟨?_,?_⟩,h⟩
 ·obtain ⟨c,hc⟩:=hh
  obtain ⟨v,h1,h2⟩:=hc.tmp d' _ ((hk d' (by simp)).trans hu)
  have:v=undef:=h2
  subst this
  show (yielded ops a.tmps j == some want)=false
  unfold yielded
  rw [hj]
  simp only [Option.bind_some,h1]
  rfl
 ·obtain ⟨c,hc⟩:=hh
  exact ⟨c,hc.put (Nat.blt_eq.mp hN) rfl (by rw [hk d (by simp)];exact i2 hs)⟩
attribute [local irreducible] ar Der At
theorem iM (n lo hi:Int):FnD Tryz.prog 49 [.i n,.i lo,.i hi] (.d (.b (inR n lo hi))):=by
 refine af Tryz.func49 (fun hw W0=>?_)
 refine kgo ?_
 cases h:decide (lo≤n)
 ·refine kgo ?_
  rw [show inR n lo hi=false from by unfold inR;rw [h];rfl]
  exact aj
 ·refine kgo ?_
  rw [show inR n lo hi=decide (n≤hi) from by unfold inR;rw [h];rfl]
  exact aj
attribute [local irreducible] inR cJ cN iR dg dw fw fU gz qf
theorem xT (b:Big) (l:Int) (he:0≤b.edges∧b.edges≤8) (ho:b.outer.length≤1000):FnD Tryz.prog 143 [b.D,.i l] (.d (.b (fw b l))):=by
 have f1:=iM l 0 (b.edges+b.outer.length - 1)
 rw [show fw b l=inR l 0 (b.edges+b.outer.length - 1) by unfold fw;rfl]
 refine af Tryz.func143 (fun hw W0=>?_)
 refine kgo ?_
 exact aj
theorem tv (sig:List Ctl) (b:Big) (p below:Int) (hr:0≤b.roots∧b.roots≤4) (hb:below≤b.nodes.length) (hC:AA sig b below):FnD Tryz.prog 142 [.l 3 (sig.map Ctl.D),b.D,.i p,.i below] (.d (.b (dw sig b p below))):=by
 refine af Tryz.func142 (fun hw W0=>?_)
 have hp:I64 p:=hw.2.2.1
 refine kgo ?_
 refine aJ (fun h=>?_) (fun h=>?_)
 ·have f1:=iM (-1 - p) 0 (b.roots - 1)
  rw [← wc h hp]
  unfold I64 at hp
  refine kgo ?_
  exact aj
 rw [show dw sig b p below=(decide (p<below) && !(decide ((qf sig (dF b p).control).kind=2))) by unfold dw;exact if_neg (by omega)]
 refine kgo ?_
 cases h2:decide (p<below)
 ·refine kgo ?_
  exact aj
 have h3:=of_decide_eq_true h2
 obtain ⟨n,rfl⟩:=Int.eq_ofNat_of_zero_le (show 0≤p by omega)
 have hn:n<b.nodes.length:=by omega
 obtain ⟨c0,c1⟩:=hC n hn h3
 obtain ⟨m,hm⟩:=Int.eq_ofNat_of_zero_le c0
 have hml:m<sig.length:=by omega
 rw [aB b n hn,hm,iD sig m hml]
 refine kgo ?_
 refine cS (n:=m) (fun _=>?_) rfl rfl (congrArg some hm)
 refine kgo ?_
 exact aj
theorem ED (sig:List Ctl) (b:Big) (i:Nat) (hr:0≤b.roots∧b.roots≤4) (he:0≤b.edges∧b.edges≤8) (ho:b.outer.length≤1000) (hlt:i<b.nodes.length) (hC:AA sig b i):FnD Tryz.prog 141 [.l 3 (sig.map Ctl.D),b.D,.i i] (.d (.b (fW sig b i))):=by
 have f1:=iM (b.nodes[i]).control 0 ((sig.length:Int) - 1)
 have f2:=tv sig b (b.nodes[i]).parent i hr (by omega) hC
 refine af Tryz.func141 (fun hw W0=>?_)
 have hl:=(wfM hw.1).1
 have hnl:=(wfM ((wfM hw.2.1.2.1).2 _ (List.getElem_mem hlt)).2.2.1).1
 rw [yB sig b i hlt]
 refine kgo ?_
 cases h1:inR (b.nodes[i]).control 0 ((sig.length:Int) - 1)
 ·refine kgo ?_
  exact aj
 refine kgo ?_
 cases h2:dw sig b (b.nodes[i]).parent i
 ·refine kgo ?_
  exact aj
 obtain ⟨c0,c1⟩:=bB h1
 obtain ⟨m,hm⟩:=Int.eq_ofNat_of_zero_le c0
 have hml:m<sig.length:=by omega
 refine kgo ?_
 refine cS (n:=m) (fun _=>?_) rfl rfl (congrArg some hm)
 rw [show qf sig (b.nodes[i]).control=sig[m] by rw [hm];exact iD sig m hml]
 refine kgo ?_
 refine cIf (fun h3=>?_) (fun h3=>?_)
 ·rw [decide_eq_false (by simpa using h3)]
  refine kgo ?_
  exact aj
 rw [decide_eq_true (by simpa using h3)]
 refine kgo ?_
 refine ai [4,7] (fun j:Nat=>j≤(b.nodes[i]).links.length∧((b.nodes[i]).links.take j).all (fw b)=true) (fun j=>(b.nodes[i]).links.length - j) (fun j=>[(8,.sy (.d (.i j)))]) 0 ⟨Nat.zero_le _,rfl⟩ (fun j hj=>?_)
 refine kgo ?_
 refine aJ (fun h=>?_) (fun h=>?_)
 ·have hjl:j<(b.nodes[i]).links.length:=by omega
  have f3:=xT b ((b.nodes[i]).links[j]) he ho
  have ht:=fA (fw b) (b.nodes[i]).links j hjl
  refine kgo ?_
  cases h4:fw b ((b.nodes[i]).links[j])
  ·rw [oR (fw b) (b.nodes[i]).links j hjl h4]
   refine kgo ?_
   exact aj
  refine kgo ?_
  exact aa (j+1) ⟨hjl,by rw [ht,hj.2,h4];rfl⟩ (by show _ - (j+1)<_ - j;omega)
 ·rw [gh (fw b) (b.nodes[i]).links j (by omega) hj.2]
  refine kgo ?_
  exact aj
theorem wq (sig:List Ctl):FnD Tryz.prog 84 [.l 3 (sig.map Ctl.D)] (.d (.b (iR sig))):=⟨cB Tryz.func84,fun F w vs hv hF=>by
 obtain ⟨v1,t,rfl,h1,h3⟩:=hv
 cases (show t = [] from h3)
 refine (sB _ _ _ _ _ (E5.toV (by decide) h1)).mono ?_
 rintro e w' ⟨rfl,hX⟩
 exact ⟨_,rfl,hX,rfl⟩⟩
theorem Eu {P:Program} {ρ:Operand→Value} {w:World} {d g:_} {ty ty' ty2:Nat} {pos:String} {after:Array Edge} {x y:Operand} {m n:ByteArray} (h1:ρ x=.string m) (h2:ρ y=.string n):(execOp ρ ⟨d,.binOp .geq ty' x y ty2,ty,pos,after,g⟩).run P w=.ok (.value (.bool (!(Op.bytesLess m.toList n.toList)))) w:=by
 simp only [execOp,h1,h2]
 rfl
section
variable {P:Program} {ops:Array Oper} {W0:cz} {N:Nat} {Fin:Us→Env→Prop} {os:List Oper} {us:Us} {pk fk:List Nat} {σ:Env} {g:Option (Nat × Bool)} {gk:List Nat} {d ty ty':Nat} {pos:String} {after:Array Edge}
theorem Jp {x y:Operand} {ty2:Nat} {s t:Sy} {m n:ByteArray} (h:Der P ops W0 N Fin os (us++[((d :: (gk++(kx x++kx y)))++pk,([d])++fk)]) [] [] ((d,.sy (.d (.b (!(Op.bytesLess m.toList n.toList))))) :: σ)) (hx:ev σ x=some s:=by rfl) (hy:ev σ y=some t:=by rfl) (hm:s.str? = some m:=by rfl) (hn:t.str? = some n:=by rfl) (hg:gst ops σ g=some (true,gk):=by rfl) (hN:Nat.blt d N=true:=by rfl) (hs:aF σ d=true:=by rfl):Der P ops W0 N Fin (⟨some d,.binOp .geq ty' x y ty2,ty,pos,after,g⟩ :: os) us pk fk σ:=
 cr (.d (.b (!(Op.bytesLess m.toList n.toList)))) (kx x++kx y) (fun σ' c a w hk hc=>by
  have h1:=oC hm (ap hc (ah hx (fun κ hκ=>hk κ (by simp [hκ]))))
  have h2:=oC hn (ap hc (ah hy (fun κ hκ=>hk κ (by simp [hκ]))))
  exact ⟨_,Eu h1 h2,by simp [Sy.ok,DV,Rp]⟩) h hg hN hs
end
theorem xz (s:ByteArray):FnD Tryz.prog 90 [.s s] (.d (.b (cJ s))):=⟨cB Tryz.func90,fun F w vs hv hF=>by
 obtain ⟨v1,t,rfl,⟨h0,h1⟩,h3⟩:=hv
 cases (show t = [] from h3)
 cases h0
 refine (mu _ _ h1).mono ?_
 rintro e w' ⟨rfl,hX⟩
 exact ⟨_,rfl,hX,rfl⟩⟩
theorem tu (l:List ByteArray):FnD Tryz.prog 139 [DS l] (.d (.b (dg l))):=by
 refine af Tryz.func139 (fun hw W0=>?_)
 have hl:=(wfM hw.1).1
 refine kgo ?_
 refine ai [0] (fun i:Nat=>i≤l.length∧(List.range i).all (BA l)=true) (fun i=>l.length - i) (fun i=>[(3,.sy (.d (.i i)))]) 0 ⟨Nat.zero_le _,rfl⟩ (fun i hi=>?_)
 refine kgo ?_
 refine aJ (fun h=>?_) (fun h=>?_)
 ·have hlt:i<l.length:=by omega
  have hbad:=qa l i hlt
  have hok:BA l i=true→(List.range (i+1)).all (BA l)=true:=fun e=>by rw [aI,hi.2,e];rfl
  rw [rc l i hlt] at hbad hok
  have f1:=xz l[i]
  refine kgo ?_
  cases h1:cJ l[i]
  ·rw [hbad (by rw [h1];rfl)]
   refine kgo ?_
   (repeat refine uu ?_)
   refine kgo ?_
   exact aj
  rw [h1] at hbad hok
  cases i with
  | zero=>
   refine kgo ?_
   exact aa 1 ⟨hlt,hok rfl⟩ (by show _ - 1<_ - 0;omega)
  | succ j=>
   refine kgo ?_
   cases hg:decide ((0:Int)<((j+1:Nat):Int))
   ·exact absurd hg (by simp)
   refine kgo ?_
   refine cS (n:=j) (fun _=>?_) rfl rfl (congrArg some (show ((j+1:Nat):Int) - 1=j by omega))
   refine kgo ?_
   refine Jp ?_
   refine kgo ?_
   have hgd:l.getD (j+1 - 1) ⟨#[]⟩=l[j]:=by rw [List.getD_eq_getElem?_getD,Nat.add_sub_cancel,List.getElem?_eq_getElem (by omega)];rfl
   have hsl:cN l[j] l[j+1]=Op.bytesLess l[j].toList l[j+1].toList:=by unfold cN;rfl
   rw [hgd,hsl] at hbad hok
   cases h2:Op.bytesLess l[j].toList l[j+1].toList
   ·rw [hbad (by rw [h2];simp)]
    refine kgo ?_
    exact aj
   refine kgo ?_
   exact aa (j+1+1) ⟨hlt,hok (by rw [h2];simp)⟩ (by show _ - (j+1+1)<_ - (j+1);omega)
 obtain rfl:i=l.length:=by omega
 rw [show dg l=decide ((l.length:Int)≤16) by unfold dg;rw [hi.2];rfl]
 refine kgo ?_
 exact aj
attribute [local irreducible] fW
theorem fO (sig:List Ctl) (b:Big) (hl:b.inner.length≤1048576):FnD Tryz.prog 92 [.l 3 (sig.map Ctl.D),b.D] (.d (.b (aH sig b))):=by
 have f1:=wq sig
 have f2:=iM b.roots 0 4
 have f3:=iM b.edges 0 8
 have f4:=tu b.outer
 have f5:=tu (b.inner.map Wr.name)
 refine af Tryz.func92 (fun hw W0=>?_)
 have hs:=(wfM hw.2.1.2.2.1).1
 refine kgo ?_
 cases h1:iR sig
 ·rw [cq (by unfold gr;rw [h1];rfl)]
  refine kgo ?_
  exact aj
 refine kgo ?_
 cases h2:inR b.roots 0 4
 ·rw [cq (by unfold gr;rw [h2];simp)]
  refine kgo ?_
  exact aj
 refine kgo ?_
 cases h3:decide ((8:Int)<b.nodes.length)
 rotate_left
 ·rw [cq (by unfold gr;simp at h3;simp;omega)]
  refine kgo ?_
  exact aj
 refine kgo ?_
 cases h4:decide ((4:Int)<b.sites.length)
 rotate_left
 ·rw [cq (by unfold gr;simp at h4;simp;omega)]
  refine kgo ?_
  exact aj
 refine kgo ?_
 cases h5:inR b.edges 0 8
 ·rw [cq (by unfold gr;rw [h5];simp)]
  refine kgo ?_
  exact aj
 refine kgo ?_
 cases h6:dg b.outer
 ·rw [cq (by unfold gr;rw [h6];simp)]
  refine kgo ?_
  exact aj
 refine kgo ?_
 cases h7:decide ((16:Int)<b.inner.length)
 rotate_left
 ·rw [cq (by unfold gr;cases hh:dg (b.inner.map Wr.name) with
   | false=>simp
   | true=>have:=fq hh;simp at h7 this;omega)]
  refine kgo ?_
  exact aj
 have f6:=ke b (by simp at h7;omega)
 refine kgo ?_
 cases h8:dg (b.inner.map Wr.name)
 ·rw [cq (by unfold gr;rw [h8];simp)]
  refine kgo ?_
  exact aj
 have hH:gr sig b=true:=by unfold gr;rw [h1,h2,h5,h6,h8];simp at h3 h4 ⊢;omega
 have hr:=bB h2
 have he:=bB h5
 have ho:b.outer.length≤1000:=by have:=fq h6;omega
 simp only [decide_eq_false_iff_not] at h3 h4 h7
 refine kgo ?_
 refine ai [0,3] (fun i:Nat=>i≤b.nodes.length∧(List.range i).all (fW sig b)=true) (fun i=>b.nodes.length - i) (fun i=>[(5,.sy (.d (.i i)))]) 0 ⟨Nat.zero_le _,rfl⟩ (fun i hi=>?_)
 refine kgo ?_
 refine aJ (fun h=>?_) (fun h=>?_)
 ·have hlt:i<b.nodes.length:=by omega
  have f7:=ED sig b i hr he ho hlt (nV hi.2)
  refine kgo ?_
  cases h9:fW sig b i
  ·rw [gT i hlt h9]
   refine kgo ?_
   exact aj
  refine kgo ?_
  exact aa (i+1) ⟨hlt,by rw [aI,hi.2,h9];rfl⟩ (by show _ - (i+1)<_ - i;omega)
 obtain rfl:i=b.nodes.length:=by omega
 have hN:=hi.2
 refine kgo ?_
 refine ai [0,3] (fun i:Nat=>i≤b.sites.length∧(b.sites.take i).all (fU sig b)=true) (fun i=>b.sites.length - i) (fun i=>[(6,.sy (.d (.i i)))]) 0 ⟨Nat.zero_le _,rfl⟩ (fun i hi=>?_)
 refine kgo ?_
 refine aJ (fun h=>?_) (fun h=>?_)
 ·have hlt:i<b.sites.length:=by omega
  have f7:=tv sig b b.sites[i] b.nodes.length hr (Int.le_refl _) (nV hN)
  rw [← uq] at f7
  refine kgo ?_
  cases h9:fU sig b b.sites[i]
  ·rw [pD (oR _ _ i hlt h9)]
   refine kgo ?_
   exact aj
  refine kgo ?_
  exact aa (i+1) ⟨hlt,by rw [fA _ _ i hlt,hi.2,h9];rfl⟩ (by show _ - (i+1)<_ - i;omega)
 have hS:=gh _ _ _ (by omega) hi.2
 refine kgo ?_
 refine ai [3] (fun i:Nat=>i≤b.inner.length∧(b.inner.take i).all (gz b)=true) (fun i=>b.inner.length - i) (fun i=>[(7,.sy (.d (.i i)))]) 0 ⟨Nat.zero_le _,rfl⟩ (fun i hi=>?_)
 refine kgo ?_
 refine aJ (fun h=>?_) (fun h=>?_)
 ·have hlt:i<b.inner.length:=by omega
  have f7:=xT b (b.inner[i]).link he ho
  rw [← sL] at f7
  refine kgo ?_
  cases h9:gz b b.inner[i]
  ·rw [oA (oR _ _ i hlt h9)]
   refine kgo ?_
   exact aj
  refine kgo ?_
  exact aa (i+1) ⟨hlt,by rw [fA _ _ i hlt,hi.2,h9];rfl⟩ (by show _ - (i+1)<_ - i;omega)
 rw [wP hH hN hS (gh _ _ _ (by omega) hi.2)]
 refine kgo ?_
 exact aj
end Go.Proofs.YtnobdioccfeokaaGreatDoor
namespace Go.Proofs.YtnobdioccfeokaaGreatDoor
open Go.RowKit
set_option linter.unusedVariables false
set_option maxRecDepth 100000
set_option maxHeartbeats 4000000
attribute [local irreducible] ar Der At
theorem w8 {sig:List Ctl} {b:Big} (h:aH sig b=true) (by':Int) {ps:List Int} (hp:b.roots≤ps.length):∀n∈b.nodes,EZ by' ps n.parent:=by
 intro n hn
 obtain ⟨i,hi,rfl⟩:=List.mem_iff_getElem.1 hn
 have:=iE h i hi
 have:=bl h
 unfold EZ
 omega
theorem qW {sig:List Ctl} {b:Big} (h:aH sig b=true) (by':Int) {ps:List Int} (hp:b.roots≤ps.length):∀p∈b.sites,EZ by' ps p:=by
 intro p hp'
 have h3:=List.all_eq_true.1 (dj h).2.2.1 p hp'
 have:=bl h
 unfold fU dw at h3
 unfold EZ
 split at h3
 ·simp only [decide_eq_true_eq] at h3;omega
 ·simp only [Bool.and_eq_true,decide_eq_true_eq] at h3;omega
theorem xk {sig:List Ctl} {b:Big} (h:aH sig b=true) {ks:List Int} (hp:b.edges+b.outer.length≤ks.length):∀n∈b.nodes,∀l∈n.links,0≤l∧l<(ks.length:Int):=by
 intro n hn l hl
 obtain ⟨i,hi,rfl⟩:=List.mem_iff_getElem.1 hn
 have:=(e9 h i hi).2.2.2.2 l hl
 unfold fw at this
 have:=bB this
 omega
theorem w5 {sig:List Ctl} {b:Big} (h:aH sig b=true) {ks:List Int} (hp:b.edges+b.outer.length≤ks.length):∀x∈b.inner,0≤x.link∧x.link<(ks.length:Int):=by
 intro x hx
 have:=List.all_eq_true.1 (dj h).2.2.2 x hx
 unfold gz fw at this
 have:=bB this
 omega
theorem rl {sig:List Ctl} {b:Big} (h:aH sig b=true):∀n∈b.nodes,n.links.length≤1000:=by
 intro n hn
 obtain ⟨i,hi,rfl⟩:=List.mem_iff_getElem.1 hn
 exact (bw h).links i hi
def D6 (a b:Big) (outer:List ByteArray) (above below:List Int):Big:=
 ⟨a.roots,cU 0 (cZ 0 a.roots.toNat) (fb 0 a.edges.toNat++above) a.nodes++cU a.nodes.length (du 0 (cZ 0 a.roots.toNat) a.sites) (fb a.edges b.edges.toNat++below) b.nodes,du a.nodes.length (du 0 (cZ 0 a.roots.toNat) a.sites) b.sites,a.edges+b.edges,outer,dx (fb a.edges b.edges.toNat++below) b.inner⟩
theorem mF (m n:Int) (hn:0≤n∧n≤1000) (hm : -1000≤m∧m≤1000):FnD Tryz.prog 290 [.i m,.i n] (.row 1 3 ((cZ m n.toNat).map .i)):=by
 obtain ⟨k,rfl⟩:=Int.eq_ofNat_of_zero_le hn.1
 exact AS m k (by omega) hm
theorem gK (m n:Int) (hn:0≤n∧n≤1000) (hm : -1000≤m∧m≤1000):FnD Tryz.prog 155 [.i m,.i n] (.row 1 3 ((fb m n.toNat).map .i)):=by
 obtain ⟨k,rfl⟩:=Int.eq_ofNat_of_zero_le hn.1
 exact AC m k (by omega) hm
theorem Ce {sig:List Ctl} {a b:Big} (hA:aH sig a=true) (hB:aH sig b=true) (hf:(a.sites.length:Int)=b.roots) (outer:List ByteArray) (above below:List Int) (hol:outer.length≤1000) (h1:above.length=a.outer.length) (h2:below.length=b.outer.length) :
 FnD Tryz.prog 261 [a.D,b.D,DS outer,DI above,DI below] (.d (D6 a b outer above below).D):=by
 have ha:=bl hA
 have hb:=bl hB
 have l1:=eI 0 a.edges.toNat
 have l2:=eI a.edges b.edges.toNat
 have l3:=lQ 0 a.roots.toNat
 have l4:(du 0 (cZ 0 a.roots.toNat) a.sites).length=a.sites.length:=by unfold du;rw [List.length_map]
 have f1:=mF 0 a.roots (by omega) (by omega)
 have f2:=gK 0 a.edges (by omega) (by omega)
 have f3:=gK a.edges b.edges (by omega) (by omega)
 have f4:=mb a 0 (cZ 0 a.roots.toNat) (by omega) (qW hA 0 (by omega)) (by omega)
 have f5:=lZ a 0 (cZ 0 a.roots.toNat) (fb 0 a.edges.toNat++above) (by omega) (by omega) (rl hA) (w8 hA 0 (by omega)) (xk hA (by rw [List.length_append];omega))
 have f6:=lZ b a.nodes.length (du 0 (cZ 0 a.roots.toNat) a.sites) (fb a.edges b.edges.toNat++below) (by omega) (by omega) (rl hB) (w8 hB _ (by omega)) (xk hB (by rw [List.length_append];omega))
 have f7:=mb b a.nodes.length (du 0 (cZ 0 a.roots.toNat) a.sites) (by omega) (qW hB _ (by omega)) (by omega)
 have f8:=ph b (fb a.edges b.edges.toNat++below) (w5 hB (by rw [List.length_append];omega)) (by omega)
 have q1:(cU 0 (cZ 0 a.roots.toNat) (fb 0 a.edges.toNat++above) a.nodes).length≤1000:=by unfold cU;rw [List.length_map];omega
 have q2:(cU a.nodes.length (du 0 (cZ 0 a.roots.toNat) a.sites) (fb a.edges b.edges.toNat++below) b.nodes).length≤1000:=by unfold cU;rw [List.length_map];omega
 refine af Tryz.func261 (fun hw W0=>?_)
 repeat (first|refine cFz 11 ?_|refine cFz 12 ?_|refine cFz 13 ?_|refine cFz 14 ?_|(refine ca ?_;first|refine aM ?_|refine b6 ?_|refine aR ?_|refine bh ?_|refine aL ?_|refine bg ?_|refine aX ?_|refine az ?_|refine aV ?_)|(refine eG ?_;first|refine bH ?_|refine eC ?_|refine bP ?_|refine cb ?_)|(refine eT ?_;first|refine cS (fun _=>?_)|refine cd ?_|refine bR ?_|refine b9 ?_|refine bu ?_|refine bJ ?_|refine b8 ?_)|(refine eR ?_;first|refine ch ?_|refine d7 ?_|refine b7 ?_|refine bD ?_|refine bN ?_|refine bX ?_|refine bS ?_)|(refine eK ?_;first|refine eF ?_|refine eA ?_|refine bU ?_|refine bG ?_|refine eH ?_|refine bd ?_|refine bc ?_)|(refine bV ?_;first|refine ba ?_|refine bT ?_)|(refine eV ?_;first|refine bI ?_|refine bQ ?_|refine eJ ?_)|(refine bL ?_;first|refine bO ?_|refine aS ?_|refine aN ?_|refine aW ?_|refine aQ ?_|refine aY ?_)|(refine eE ?_;first|refine bZ ?_|refine eB ?_|refine be ?_|refine aP ?_|refine aU ?_)|(refine aK ?_;first|refine aq _ ?_|refine bf ?_|refine aw ?_|refine au ?_|refine ax ?_)|(refine eP ?_;first|refine bW ?_|refine bE ?_|refine bM ?_)|(refine gOp ?_;first|refine eD ?_|refine eM ?_|refine aZ ?_|refine eU ?_|refine eN ?_|refine bK ?_|refine aO ?_|refine cf ?_|refine eO ?_|refine bC ?_|refine bY ?_|refine aT ?_|refine sFz 45 ?_|refine sFz 46 ?_|refine sFz 52 ?_|refine sFz 60 ?_|refine sFz 63 ?_|refine ay ?_|refine cg ?_|refine sNo ?_|refine dU ?_|refine av ?_)|refine dY ?_|refine dq ?_|refine fj ?_|refine bj ?_|refine ci ?_|refine br ?_|refine fm ?_|refine fl ?_|refine eX ?_|refine dB ?_|refine ck ?_|refine bo ?_|refine aA ?_|refine bk ?_|refine ct ?_|refine bt ?_|refine aBlkX ?_|refine cm ?_|refine sFz 45 ?_|refine sFz 46 ?_|refine sFz 52 ?_|refine sFz 60 ?_|refine sFz 63 ?_)
 exact aj
theorem BH (a c:List ByteArray):FnD Tryz.prog 259 [DS a,DS c] (.d (.b (eqS a c))):=by
 refine af Tryz.func259 (fun hw W0=>?_)
 have hl:=(wfM hw.1).1
 refine kgo ?_
 refine cIf (fun h=>?_) (fun h=>?_)
 ·have h:¬(a.length:Int)=c.length:=by simpa using h
  refine kgo ?_
  rw [ve h]
  exact aj
 ·have h:(a.length:Int)=c.length:=by simpa using h
  refine kgo ?_
  refine eS (fun i:Nat=>i≤a.length∧(List.range i).all (mt a c)=true) (fun i=>a.length - i) (fun i=>[(0,.sy (.d (DS a))),(1,.sy (.d (DS c))),(5,.sy (.d (.i i)))]) 0 ⟨Nat.zero_le _,rfl⟩ (fun i hi=>?_)
  refine kgo ?_
  refine cIf (fun h2=>?_) (fun h2=>?_)
  ·have h2:=of_decide_eq_true h2
   have hlt:i<a.length:=by omega
   have hlt2:i<c.length:=by omega
   have hs:=mn a c i hlt hlt2
   refine kgo ?_
   refine cIf (fun h3=>?_) (fun h3=>?_)
   ·refine kgo ?_
    rw [vZ (c:=c) i hlt (by rw [hs];simpa using h3)]
    exact aj
   ·refine kgo ?_
    exact aa (i+1) ⟨hlt,by rw [aI,hi.2,hs];simpa using h3⟩ (by omega)
  ·have h2:=of_decide_eq_false h2
   refine kgo ?_
   rw [Gg h (by rw [← hi.2,show i=a.length by omega])]
   exact aj
def nh (a b:Big):Bool:=decide ((a.sites.length:Int)=b.roots) && eqS (a.inner.map Wr.name) b.outer
theorem DW (a b:Big) (hl:a.inner.length≤1000):FnD Tryz.prog 226 [a.D,b.D] (.d (.b (nh a b))):=by
 have f1:=ke a hl
 have f2:=BH (a.inner.map Wr.name) b.outer
 refine af Tryz.func226 (fun hw W0=>?_)
 have hs:=(wfM hw.1.2.2.1).1
 cases hc:decide ((a.sites.length:Int)=b.roots)
 ·rw [show nh a b=false from by unfold nh;rw [hc];rfl]
  refine kgo ?_
  rw [hc]
  refine kgo ?_
  exact aj
 ·rw [show nh a b=eqS (a.inner.map Wr.name) b.outer from by unfold nh;rw [hc];rfl]
  refine kgo ?_
  rw [hc]
  refine kgo ?_
  exact aj
end Go.Proofs.YtnobdioccfeokaaGreatDoor
namespace Go.Proofs.YtnobdioccfeokaaGreatDoor
open Go.RowKit
set_option linter.unusedVariables false
set_option maxRecDepth 100000
set_option maxHeartbeats 4000000
attribute [local irreducible] ar Der At
theorem wQ (sig:List Ctl) (b:Big) (hl:b.inner.length≤1048576):FnD Tryz.prog 227 [.l 3 (sig.map Ctl.D),b.D] (.tp [(if aH sig b then b else fK).D,.b (aH sig b)]):=by
 have f1:=fO sig b hl
 refine af Tryz.func227 (fun hw W0=>?_)
 cases hc:aH sig b
 ·rw [hc] at f1
  refine kgo ?_
  exact iS
 ·rw [hc] at f1
  refine kgo ?_
  exact iS
def Bc (a b:Big):List Int:=fb 0 a.edges.toNat++dy a.outer (a.edges+b.edges) a.outer
def vO (a b:Big):Big:=D6 a b a.outer (dy a.outer (a.edges+b.edges) a.outer) (a.inner.map fun x=>atI (Bc a b) x.link)
theorem Cl {sig:List Ctl} {a b:Big} (hA:aH sig a=true) (hB:aH sig b=true) (hf:(a.sites.length:Int)=b.roots) (hn:a.inner.length=b.outer.length):FnD Tryz.prog 228 [a.D,b.D] (.d (vO a b).D):=by
 have ha:=bl hA
 have hb:=bl hB
 have l1:=eI 0 a.edges.toNat
 have l2:(dy a.outer (a.edges+b.edges) a.outer).length=a.outer.length:=by unfold dy;rw [List.length_map]
 have l3:(Bc a b).length=a.edges.toNat+a.outer.length:=by unfold Bc;rw [List.length_append,l1,l2]
 have f1:=pb a.outer (a.edges+b.edges) a.outer (by omega) (by omega) (by omega)
 have f2:=gK 0 a.edges (by omega) (by omega)
 have f3:=Ce hA hB hf a.outer (dy a.outer (a.edges+b.edges) a.outer) (a.inner.map fun x=>atI (Bc a b) x.link) (by omega) l2 (by rw [List.length_map];exact hn)
 have hk:=w5 hA (ks:=Bc a b) (by omega)
 refine af Tryz.func228 (fun hw W0=>?_)
 repeat (first|refine cFz 5 ?_|(refine ca ?_;first|refine aM ?_|refine b6 ?_|refine aR ?_|refine bh ?_|refine aL ?_|refine bg ?_|refine aX ?_|refine az ?_|refine aV ?_)|(refine eG ?_;first|refine bH ?_|refine eC ?_|refine bP ?_|refine cb ?_)|(refine eT ?_;first|refine cS (fun _=>?_)|refine cd ?_|refine bR ?_|refine b9 ?_|refine bu ?_|refine bJ ?_|refine b8 ?_)|(refine eR ?_;first|refine ch ?_|refine d7 ?_|refine b7 ?_|refine bD ?_|refine bN ?_|refine bX ?_|refine bS ?_)|(refine eK ?_;first|refine eF ?_|refine eA ?_|refine bU ?_|refine bG ?_|refine eH ?_|refine bd ?_|refine bc ?_)|(refine bV ?_;first|refine ba ?_|refine bT ?_)|(refine eV ?_;first|refine bI ?_|refine bQ ?_|refine eJ ?_)|(refine bL ?_;first|refine bO ?_|refine aS ?_|refine aN ?_|refine aW ?_|refine aQ ?_|refine aY ?_)|(refine eE ?_;first|refine bZ ?_|refine eB ?_|refine be ?_|refine aP ?_|refine aU ?_)|(refine aK ?_;first|refine aq _ ?_|refine bf ?_|refine aw ?_|refine au ?_|refine ax ?_)|(refine eP ?_;first|refine bW ?_|refine bE ?_|refine bM ?_)|(refine gOp ?_;first|refine eD ?_|refine eM ?_|refine aZ ?_|refine eU ?_|refine eN ?_|refine bK ?_|refine aO ?_|refine cf ?_|refine eO ?_|refine bC ?_|refine bY ?_|refine aT ?_|refine ay ?_|refine cg ?_|refine sNo ?_|refine dU ?_|refine av ?_)|refine dY ?_|refine dq ?_|refine fj ?_|refine bj ?_|refine ci ?_|refine br ?_|refine fm ?_|refine fl ?_|refine eX ?_|refine dB ?_|refine ck ?_|refine bo ?_|refine aA ?_|refine bk ?_|refine ct ?_|refine bt ?_|refine aBlkX ?_|refine cm ?_)
 refine cFz 6 ?_
 refine eS (fun i:Nat=>i≤a.inner.length) (fun i=>a.inner.length - i) (fun i=>[(2,.sy (.bx 10002 0)),(10002,.tk (.bx (ij a.D))),(3,.sy (.bx 10003 0)),(10003,.tk (.bx (ij b.D))),(4,.sy (.bx 10004 0)),(10004,.tk (.bx (ij (.t [.i 0,.n 3,.n 1,.i 0,.n 1,.n 2])))),(5,.sy (.d (DI (dy a.outer (a.edges+b.edges) a.outer)))),(6,.sy (.d (DI (Bc a b)))),(7,.sy (.k 10024)),(10024,.tk (.row 1 3 (((a.inner.take i).map fun x=>atI (Bc a b) x.link).map .i))),(8,.sy (.d (.i i)))]) 0 (Nat.zero_le _) (fun i hi=>?_)
 refine kgo ?_
 refine cIf (fun h=>?_) (fun h=>?_)
 ·have h:=of_decide_eq_true h
  have hlt:i<a.inner.length:=by omega
  have hk2:=hk _ (List.getElem_mem hlt)
  have hs:((a.inner.take (i+1)).map fun x=>atI (Bc a b) x.link).map D.i=((a.inner.take i).map fun x=>atI (Bc a b) x.link).map D.i++[.i (atI (Bc a b) (a.inner[i]).link)]:=by rw [List.take_succ_eq_append_getElem hlt,List.map_append,List.map_append];rfl
  refine kgo ?_
  exact aa (i+1) hlt (by omega)
 ·have h:=of_decide_eq_false h
  rw [List.take_of_length_le (by omega)]
  repeat (first|(refine ca ?_;first|refine aM ?_|refine b6 ?_|refine aR ?_|refine bh ?_|refine aL ?_|refine bg ?_|refine aX ?_|refine az ?_|refine aV ?_)|(refine eG ?_;first|refine bH ?_|refine eC ?_|refine bP ?_|refine cb ?_)|(refine eT ?_;first|refine cS (fun _=>?_)|refine cd ?_|refine bR ?_|refine b9 ?_|refine bu ?_|refine bJ ?_|refine b8 ?_)|(refine eR ?_;first|refine ch ?_|refine d7 ?_|refine b7 ?_|refine bD ?_|refine bN ?_|refine bX ?_|refine bS ?_)|(refine eK ?_;first|refine eF ?_|refine eA ?_|refine bU ?_|refine bG ?_|refine eH ?_|refine bd ?_|refine bc ?_)|(refine bV ?_;first|refine ba ?_|refine bT ?_)|(refine eV ?_;first|refine bI ?_|refine bQ ?_|refine eJ ?_)|(refine bL ?_;first|refine bO ?_|refine aS ?_|refine aN ?_|refine aW ?_|refine aQ ?_|refine aY ?_)|(refine eE ?_;first|refine bZ ?_|refine eB ?_|refine be ?_|refine aP ?_|refine aU ?_)|(refine aK ?_;first|refine aq _ ?_|refine bf ?_|refine aw ?_|refine au ?_|refine ax ?_)|(refine eP ?_;first|refine bW ?_|refine bE ?_|refine bM ?_)|(refine gOp ?_;first|refine eD ?_|refine eM ?_|refine aZ ?_|refine eU ?_|refine eN ?_|refine bK ?_|refine aO ?_|refine cf ?_|refine eO ?_|refine bC ?_|refine bY ?_|refine aT ?_|refine sFz 49 ?_|refine ay ?_|refine cg ?_|refine sNo ?_|refine dU ?_|refine av ?_)|refine dY ?_|refine dq ?_|refine fj ?_|refine bj ?_|refine ci ?_|refine br ?_|refine fm ?_|refine fl ?_|refine eX ?_|refine dB ?_|refine ck ?_|refine bo ?_|refine aA ?_|refine bk ?_|refine ct ?_|refine bt ?_|refine aBlkX ?_|refine cm ?_|refine sFz 49 ?_)
  exact aj
theorem ta (names:List ByteArray) (hl:names.length≤1000):FnD Tryz.prog 225 [.i 0,DS names] (.d (idB names).D):=by
 refine af Tryz.func225 (fun hw W0=>?_)
 repeat (first|(refine ca ?_;first|refine aM ?_|refine b6 ?_|refine aR ?_|refine bh ?_|refine aL ?_|refine bg ?_|refine aX ?_|refine az ?_|refine aV ?_)|(refine eG ?_;first|refine bH ?_|refine eC ?_|refine bP ?_|refine cb ?_)|(refine eT ?_;first|refine cS (fun _=>?_)|refine cd ?_|refine bR ?_|refine b9 ?_|refine bu ?_|refine bJ ?_|refine b8 ?_)|(refine eR ?_;first|refine ch ?_|refine d7 ?_|refine b7 ?_|refine bD ?_|refine bN ?_|refine bX ?_|refine bS ?_)|(refine eK ?_;first|refine eF ?_|refine eA ?_|refine bU ?_|refine bG ?_|refine eH ?_|refine bd ?_|refine bc ?_)|(refine bV ?_;first|refine ba ?_|refine bT ?_)|(refine eV ?_;first|refine bI ?_|refine bQ ?_|refine eJ ?_)|(refine bL ?_;first|refine bO ?_|refine aS ?_|refine aN ?_|refine aW ?_|refine aQ ?_|refine aY ?_)|(refine eE ?_;first|refine bZ ?_|refine eB ?_|refine be ?_|refine aP ?_|refine aU ?_)|(refine aK ?_;first|refine aq _ ?_|refine bf ?_|refine aw ?_|refine au ?_|refine ax ?_)|(refine eP ?_;first|refine bW ?_|refine bE ?_|refine bM ?_)|(refine gOp ?_;first|refine eD ?_|refine eM ?_|refine aZ ?_|refine eU ?_|refine eN ?_|refine bK ?_|refine aO ?_|refine cf ?_|refine eO ?_|refine bC ?_|refine bY ?_|refine aT ?_|refine sFz 11 ?_|refine ay ?_|refine cg ?_|refine sNo ?_|refine dU ?_|refine av ?_)|refine dY ?_|refine dq ?_|refine fj ?_|refine bj ?_|refine ci ?_|refine br ?_|refine fm ?_|refine fl ?_|refine eX ?_|refine dB ?_|refine ck ?_|refine bo ?_|refine aA ?_|refine bk ?_|refine ct ?_|refine bt ?_|refine aBlkX ?_|refine cm ?_|refine sFz 11 ?_)
 refine eS (fun _:Unit=>True) (fun _=>0) (fun _=>[(0,.sy (.d (.i 0))),(1,.sy (.d (DS names))),(4,.sy (.bx 10004 0)),(10004,.tk (.bx (ij (.t [.i 0,.n 3,.n 1,.i 0,.n 1,.n 2])))),(5,.sy (.bx 10005 0)),(10005,.tk (.bx [.d (.i 0),.d (.n 3),.d (.n 1),.d (.i 0),.d (DS names),.d (.n 2)])),(6,.sy (.d (.i 0)))]) () trivial (fun _ _=>?_)
 refine kgo ?_
 refine oH 10005 5 20001 155 ?_
 refine eS (fun i:Nat=>i≤names.length) (fun i=>names.length - i) (fun i=>[(1,.sy (.d (DS names))),(4,.sy (.bx 10004 0)),(10004,.tk (.bx (ij (.t [.i 0,.n 3,.n 1,.i 0,.n 1,.n 2])))),(5,.sy (.bx 10005 0)),(10005,.tk (.bx [.d (.i 0),.d (.n 3),.d (.n 1),.d (.i 0),.d (DS names),.k 20001])),(20001,.tk (.row 2 155 (((names.mapIdx fun i s=>(⟨s,i⟩:Wr)).take i).map Wr.D))),(7,.sy (.d (.i i)))]) 0 (Nat.zero_le _) (fun i hi=>?_)
 refine kgo ?_
 refine cIf (fun h=>?_) (fun h=>?_)
 ·have h:=of_decide_eq_true h
  have hlt:i<names.length:=by omega
  have hq:((names.mapIdx fun i s=>(⟨s,i⟩:Wr)).take i).length≤1000:=by rw [List.length_take,List.length_mapIdx];omega
  have hs:((names.mapIdx fun i s=>(⟨s,i⟩:Wr)).take (i+1)).map Wr.D=((names.mapIdx fun i s=>(⟨s,i⟩:Wr)).take i).map Wr.D++[Wr.D ⟨names[i],i⟩]:=by rw [List.take_succ_eq_append_getElem (by rw [List.length_mapIdx];exact hlt),List.map_append,List.getElem_mapIdx];rfl
  refine kgo ?_
  exact aa (i+1) hlt (by omega)
 ·have h:=of_decide_eq_false h
  rw [List.take_of_length_le (by rw [List.length_mapIdx];omega)]
  refine br (aA (aA (bt (bo ?_))))
  refine pI 10005 5 ?_
  refine kgo ?_
  exact aj
theorem rP {a b:Big}:(vO a b).inner.length=b.inner.length:=by unfold vO D6 dx;simp
def fG (sig:List Ctl) (a b:Big):Big × Bool:=if aH sig a && (aH sig b && (nh a b && aH sig (vO a b))) then (vO a b,true) else (fK,false)
theorem pl (sig:List Ctl) (a b:Big) (hla:a.inner.length≤1000) (hlb:b.inner.length≤1000):FnD Tryz.prog 162 [.l 3 (sig.map Ctl.D),a.D,b.D] (.tp [(fG sig a b).1.D,.b (fG sig a b).2]):=by
 have f1:=fO sig a (by omega)
 have f2:=fO sig b (by omega)
 have f3:=DW a b hla
 have f4:=wQ sig (vO a b) (by rw [rP];omega)
 refine af Tryz.func162 (fun hw W0=>?_)
 cases h1:aH sig a
 ·rw [show fG sig a b=(fK,false) from by unfold fG;rw [h1];rfl]
  rw [h1] at f1
  refine kgo ?_
  exact iS
 cases h2:aH sig b
 ·rw [show fG sig a b=(fK,false) from by unfold fG;rw [h1,h2];rfl]
  rw [h1] at f1
  rw [h2] at f2
  refine kgo ?_
  exact iS
 cases h3:nh a b
 ·rw [show fG sig a b=(fK,false) from by unfold fG;rw [h1,h2,h3];rfl]
  rw [h1] at f1
  rw [h2] at f2
  rw [h3] at f3
  refine kgo ?_
  exact iS
 have h4:(a.sites.length:Int)=b.roots∧a.inner.length=b.outer.length:=by
  unfold nh at h3
  rw [Bool.and_eq_true,decide_eq_true_eq] at h3
  refine ⟨h3.1,?_⟩
  have:=h3.2
  by_cases hh:((a.inner.map Wr.name).length:Int)=b.outer.length
  ·rw [List.length_map] at hh;omega
  ·rw [ve hh] at this;cases this
 have f5:=Cl h1 h2 h4.1 h4.2
 rw [show fG sig a b=(if aH sig (vO a b) then vO a b else fK,aH sig (vO a b)) from by unfold fG;rw [h1,h2,h3];cases aH sig (vO a b) <;> rfl]
 rw [h1] at f1
 rw [h2] at f2
 rw [h3] at f3
 refine kgo ?_
 exact iS
end Go.Proofs.YtnobdioccfeokaaGreatDoor
namespace Go.Proofs.YtnobdioccfeokaaGreatDoor
open Go.RowKit
set_option linter.unusedVariables false
set_option maxRecDepth 100000
set_option maxHeartbeats 4000000
attribute [local irreducible] ar Der At
theorem kl (a:List Wr):∀b:List Wr,(cu a b).length=a.length+b.length:=by
 unfold cu
 intro b
 induction b generalizing a with
 | nil=>rfl
 | cons x b ih=>rw [List.foldl_cons,ih,pa,List.length_cons];omega
theorem wB (a b:List Wr) (i:Nat) (h:i<b.length):cu a (b.take (i+1))=fT wLt (cu a (b.take i)) b[i]:=by
 unfold cu;rw [List.take_succ_eq_append_getElem h,List.foldl_append];rfl
theorem ut (a b:List Wr) (hla:a.length≤1000) (hlb:b.length≤1000):FnD Tryz.prog 159 [.l 2 (a.map Wr.D),.l 2 (b.map Wr.D)] (.d (.l 2 ((cu a b).map Wr.D))):=by
 refine af Tryz.func159 (fun hw W0=>?_)
 repeat (first|(refine ca ?_;first|refine aM ?_|refine b6 ?_|refine aR ?_|refine bh ?_|refine aL ?_|refine bg ?_|refine aX ?_|refine az ?_|refine aV ?_)|(refine eG ?_;first|refine bH ?_|refine eC ?_|refine bP ?_|refine cb ?_)|(refine eT ?_;first|refine cS (fun _=>?_)|refine cd ?_|refine bR ?_|refine b9 ?_|refine bu ?_|refine bJ ?_|refine b8 ?_)|(refine eR ?_;first|refine ch ?_|refine d7 ?_|refine b7 ?_|refine bD ?_|refine bN ?_|refine bX ?_|refine bS ?_)|(refine eK ?_;first|refine eF ?_|refine eA ?_|refine bU ?_|refine bG ?_|refine eH ?_|refine bd ?_|refine bc ?_)|(refine bV ?_;first|refine cD (d:=5) ?_|refine ba ?_|refine bT ?_)|(refine eV ?_;first|refine dL (d:=5) ?_|refine bI ?_|refine bQ ?_|refine eJ ?_)|(refine bL ?_;first|refine bO ?_|refine aS ?_|refine aN ?_|refine aW ?_|refine aQ ?_|refine aY ?_)|(refine eE ?_;first|refine bZ ?_|refine eB ?_|refine be ?_|refine aP ?_|refine aU ?_)|(refine aK ?_;first|refine aq _ ?_|refine bf ?_|refine aw ?_|refine au ?_|refine ax ?_)|(refine eP ?_;first|refine bW ?_|refine bE ?_|refine bM ?_)|(refine gOp ?_;first|refine eD ?_|refine eM ?_|refine aZ ?_|refine eU ?_|refine eN ?_|refine bK ?_|refine aO ?_|refine cf ?_|refine eO ?_|refine bC ?_|refine bY ?_|refine aT ?_|refine ay ?_|refine cg ?_|refine sNo ?_|refine dU ?_|refine av ?_)|refine dY ?_|refine dq ?_|refine fj ?_|refine bj ?_|refine ci ?_|refine br ?_|refine fm ?_|refine fl ?_|refine eX ?_|refine dB ?_|refine ck ?_|refine bo ?_|refine aA ?_|refine bk ?_|refine ct ?_|refine bt ?_|refine aBlkX ?_|refine cm ?_)
 refine eS (fun i:Nat=>i≤b.length) (fun i=>b.length - i) (fun i=>[(1,.sy (.d (.l 2 (b.map Wr.D)))),(5,.sy (.d (.l 2 ((cu a (b.take i)).map Wr.D)))),(6,.sy (.d (.i i)))]) 0 (Nat.zero_le _) (fun i hi=>?_)
 refine kgo ?_
 refine cIf (fun h=>?_) (fun h=>?_)
 ·have h:=of_decide_eq_true h
  have hlt:i<b.length:=by omega
  have hml:=kl a (b.take i)
  rw [List.length_take] at hml
  refine kgo ?_
  refine eS (fun k:Nat=>k≤(cu a (b.take i)).length∧∀j (h:j<(cu a (b.take i)).length),j<k→wLt (cu a (b.take i))[j] b[i]=true) (fun k=>(cu a (b.take i)).length - k) (fun k=>[(1,.sy (.d (.l 2 (b.map Wr.D)))),(5,.sy (.d (.l 2 ((cu a (b.take i)).map Wr.D)))),(6,.sy (.d (.i i))),(7,.sy (.d (.i k)))]) 0 ⟨Nat.zero_le _,fun j _ h=>absurd h (Nat.not_lt_zero _)⟩ (fun k hk=>?_)
  obtain ⟨hk1,hk2⟩:=hk
  have out (hno:∀h:k<(cu a (b.take i)).length,wLt (cu a (b.take i))[k] b[i]=false):cu a (b.take (i+1))=(cu a (b.take i)).take k++b[i] :: (cu a (b.take i)).drop k:=by
   rw [wB a b i hlt,wI wLt b[i] _ k hk1 hk2 hno]
  cases hc:decide ((k:Int)<((cu a (b.take i)).length:Int))
  ·have hc':=of_decide_eq_false hc
   refine kgo ?_
   rw [hc]
   have e:=out (fun h=>absurd h (by omega))
   clear out
   have hs:D.l 2 ((cu a (b.take (i+1))).map Wr.D)=D.l (1+1) ([]++((cu a (b.take i)).take k).map Wr.D++[CW (Wr.D b[i])]++((cu a (b.take i)).drop k).map Wr.D):=by rw [e,show CW (Wr.D b[i])=Wr.D b[i] from rfl];simp
   repeat (first|(refine ca ?_;first|refine aM ?_|refine b6 ?_|refine aR ?_|refine bh ?_|refine aL ?_|refine bg ?_|refine aX ?_|refine az ?_|refine aV ?_)|(refine eG ?_;first|refine bH ?_|refine eC ?_|refine bP ?_|refine cb ?_)|(refine eT ?_;first|refine cS (fun _=>?_)|refine cd ?_|refine bR ?_|refine b9 ?_|refine bu ?_|refine bJ ?_|refine b8 ?_)|(refine eR ?_;first|refine ch ?_|refine d7 ?_|refine b7 ?_|refine bD ?_|refine bN ?_|refine bX ?_|refine bS ?_)|(refine eK ?_;first|refine eF ?_|refine eA ?_|refine bU ?_|refine bG ?_|refine eH ?_|refine bd ?_|refine bc ?_)|(refine bV ?_;first|refine cD (d:=5) ?_|refine ba ?_|refine bT ?_)|(refine eV ?_;first|refine dL (d:=5) ?_|refine bI ?_|refine bQ ?_|refine eJ ?_)|(refine bL ?_;first|refine bO ?_|refine aS ?_|refine aN ?_|refine aW ?_|refine aQ ?_|refine aY ?_)|(refine eE ?_;first|refine bZ ?_|refine eB ?_|refine be ?_|refine aP ?_|refine aU ?_)|(refine aK ?_;first|refine aq _ ?_|refine bf ?_|refine aw ?_|refine au ?_|refine ax ?_)|(refine eP ?_;first|refine bW ?_|refine bE ?_|refine bM ?_)|(refine gOp ?_;first|refine eD ?_|refine eM ?_|refine aZ ?_|refine eU ?_|refine eN ?_|refine bK ?_|refine aO ?_|refine cf ?_|refine eO ?_|refine bC ?_|refine bY ?_|refine aT ?_|refine ay ?_|refine cg ?_|refine sNo ?_|refine dU ?_|refine av ?_)|refine dY ?_|refine dq ?_|refine fj ?_|refine bj ?_|refine ci ?_|refine br ?_|refine fm ?_|refine fl ?_|refine eX ?_|refine dB ?_|refine ck ?_|refine bo ?_|refine aA ?_|refine bk ?_|refine ct ?_|refine bt ?_|refine aBlkX ?_|refine cm ?_)
   exact aa (i+1) hlt (by omega)
  ·have hc':=of_decide_eq_true hc
   have hkl:k<(cu a (b.take i)).length:=by omega
   refine kgo ?_
   rw [hc]
   refine kgo ?_
   refine cIf (fun h2=>?_) (fun h2=>?_)
   ·refine kgo ?_
    exact aa (k+1) ⟨hkl,fun j h1 h3=>by
     rcases Nat.lt_or_ge j k with h4|h4
     ·exact hk2 j h1 h4
     ·rw [show (cu a (b.take i))[j]=(cu a (b.take i))[k] from by congr 1;omega];exact h2⟩ (by omega)
   ·have e:=out (fun h=>h2)
    clear out
    have hs:D.l 2 ((cu a (b.take (i+1))).map Wr.D)=D.l (1+1) ([]++((cu a (b.take i)).take k).map Wr.D++[CW (Wr.D b[i])]++((cu a (b.take i)).drop k).map Wr.D):=by rw [e,show CW (Wr.D b[i])=Wr.D b[i] from rfl];simp
    repeat (first|(refine ca ?_;first|refine aM ?_|refine b6 ?_|refine aR ?_|refine bh ?_|refine aL ?_|refine bg ?_|refine aX ?_|refine az ?_|refine aV ?_)|(refine eG ?_;first|refine bH ?_|refine eC ?_|refine bP ?_|refine cb ?_)|(refine eT ?_;first|refine cS (fun _=>?_)|refine cd ?_|refine bR ?_|refine b9 ?_|refine bu ?_|refine bJ ?_|refine b8 ?_)|(refine eR ?_;first|refine ch ?_|refine d7 ?_|refine b7 ?_|refine bD ?_|refine bN ?_|refine bX ?_|refine bS ?_)|(refine eK ?_;first|refine eF ?_|refine eA ?_|refine bU ?_|refine bG ?_|refine eH ?_|refine bd ?_|refine bc ?_)|(refine bV ?_;first|refine cD (d:=5) ?_|refine ba ?_|refine bT ?_)|(refine eV ?_;first|refine dL (d:=5) ?_|refine bI ?_|refine bQ ?_|refine eJ ?_)|(refine bL ?_;first|refine bO ?_|refine aS ?_|refine aN ?_|refine aW ?_|refine aQ ?_|refine aY ?_)|(refine eE ?_;first|refine bZ ?_|refine eB ?_|refine be ?_|refine aP ?_|refine aU ?_)|(refine aK ?_;first|refine aq _ ?_|refine bf ?_|refine aw ?_|refine au ?_|refine ax ?_)|(refine eP ?_;first|refine bW ?_|refine bE ?_|refine bM ?_)|(refine gOp ?_;first|refine eD ?_|refine eM ?_|refine aZ ?_|refine eU ?_|refine eN ?_|refine bK ?_|refine aO ?_|refine cf ?_|refine eO ?_|refine bC ?_|refine bY ?_|refine aT ?_|refine ay ?_|refine cg ?_|refine sNo ?_|refine dU ?_|refine av ?_)|refine dY ?_|refine dq ?_|refine fj ?_|refine bj ?_|refine ci ?_|refine br ?_|refine fm ?_|refine fl ?_|refine eX ?_|refine dB ?_|refine ck ?_|refine bo ?_|refine aA ?_|refine bk ?_|refine ct ?_|refine bt ?_|refine aBlkX ?_|refine cm ?_)
    exact aa (i+1) hlt (by omega)
 ·have h:=of_decide_eq_false h
  refine kgo ?_
  rw [List.take_of_length_le (by omega)]
  exact aj
theorem Bm {l:List ByteArray} {n:ByteArray} {k:Nat} (hs:l.Pairwise NLt) (hk1:k≤l.length) (hk2:∀j (h:j<l.length),j<k→cN l[j] n=true) (hno:∀h:k<l.length,cN l[k] n=false) (hne:∀h:k<l.length,(l[k].toList == n.toList)=false):sc l n=l.take k++n :: l.drop k:=by
 unfold sc
 rw [if_neg,wI cN n l k hk1 hk2 hno]
 intro hh
 obtain ⟨x,hx,e⟩:=List.any_eq_true.1 hh
 rw [beq_iff_eq] at e
 have e:=fN e
 subst e
 obtain ⟨j,hj,e⟩:=List.getElem_of_mem hx
 rcases Nat.lt_trichotomy j k with h|h|h
 ·have:=hk2 j hj h
  rw [e] at this
  exact NLt.irr _ this
 ·subst h
  have:=hne hj
  rw [e] at this
  simp at this
 ·have h1:cN _ _=true:=List.pairwise_iff_getElem.1 hs k j (by omega) hj h
  rw [e,hno (by omega)] at h1
  cases h1
theorem FU {l:List ByteArray} {n:ByteArray} {k:Nat} (h:k<l.length) (he:(l[k].toList == n.toList)=true):sc l n=l:=by
 unfold sc
 rw [if_pos (List.any_eq_true.2 ⟨l[k],List.getElem_mem h,he⟩)]
theorem yj (l:List ByteArray) (i:Nat) (h:i<l.length):cG (l.take (i+1))=sc (cG (l.take i)) l[i]:=by
 unfold cG;rw [List.take_succ_eq_append_getElem h,List.foldl_append];rfl
theorem DM (l:List ByteArray) (s:ByteArray):(sc l s).length≤l.length+1:=by
 unfold sc;split
 ·omega
 ·rw [pa];exact Nat.le_refl _
theorem jG:∀(l a:List ByteArray),(l.foldl sc a).length≤a.length+l.length
 | [],a=>by simp
 | s :: l,a=>by
  have:=jG l (sc a s)
  have:=DM a s
  rw [List.foldl_cons,List.length_cons];omega
theorem zm (l:List ByteArray) (hl:l.length≤100000):FnD Tryz.prog 289 [DS l] (.d (DS (cG l))):=by
 refine af Tryz.func289 (fun hw W0=>?_)
 repeat (first|(refine ca ?_;first|refine aM ?_|refine b6 ?_|refine aR ?_|refine bh ?_|refine aL ?_|refine bg ?_|refine aX ?_|refine az ?_|refine aV ?_)|(refine eG ?_;first|refine bH ?_|refine eC ?_|refine bP ?_|refine cb ?_)|(refine eT ?_;first|refine cS (fun _=>?_)|refine cd ?_|refine bR ?_|refine b9 ?_|refine bu ?_|refine bJ ?_|refine b8 ?_)|(refine eR ?_;first|refine ch ?_|refine d7 ?_|refine b7 ?_|refine bD ?_|refine bN ?_|refine bX ?_|refine bS ?_)|(refine eK ?_;first|refine eF ?_|refine eA ?_|refine bU ?_|refine bG ?_|refine eH ?_|refine bd ?_|refine bc ?_)|(refine bV ?_;first|refine cD (d:=3) ?_|refine ba ?_|refine bT ?_)|(refine eV ?_;first|refine dL (d:=3) ?_|refine bI ?_|refine bQ ?_|refine eJ ?_)|(refine bL ?_;first|refine bO ?_|refine aS ?_|refine aN ?_|refine aW ?_|refine aQ ?_|refine aY ?_)|(refine eE ?_;first|refine bZ ?_|refine eB ?_|refine be ?_|refine aP ?_|refine aU ?_)|(refine aK ?_;first|refine aq _ ?_|refine bf ?_|refine aw ?_|refine au ?_|refine ax ?_)|(refine eP ?_;first|refine bW ?_|refine bE ?_|refine bM ?_)|(refine gOp ?_;first|refine eD ?_|refine eM ?_|refine aZ ?_|refine eU ?_|refine eN ?_|refine bK ?_|refine aO ?_|refine cf ?_|refine eO ?_|refine bC ?_|refine bY ?_|refine aT ?_|refine ay ?_|refine cg ?_|refine sNo ?_|refine dU ?_|refine av ?_)|refine dY ?_|refine dq ?_|refine fj ?_|refine bj ?_|refine ci ?_|refine br ?_|refine fm ?_|refine fl ?_|refine eX ?_|refine dB ?_|refine ck ?_|refine bo ?_|refine aA ?_|refine bk ?_|refine ct ?_|refine bt ?_|refine aBlkX ?_|refine cm ?_)
 refine eS (fun i:Nat=>i≤l.length) (fun i=>l.length - i) (fun i=>[(0,.sy (.d (DS l))),(3,.sy (.d (DS (cG (l.take i))))),(4,.sy (.d (.i i)))]) 0 (Nat.zero_le _) (fun i hi=>?_)
 have hsn:=tS (l.take i)
 have hml:=jG (l.take i) []
 rw [show (l.take i).foldl sc []=cG (l.take i) from rfl,List.length_take,List.length_nil] at hml
 refine kgo ?_
 refine cIf (fun h=>?_) (fun h=>?_)
 ·have h:=of_decide_eq_true h
  have hlt:i<l.length:=by omega
  have hsu:=yj l i hlt
  revert hsn hml hsu
  generalize cG (l.take i)=m
  intro hsn hml hsu
  refine kgo ?_
  refine eS (fun k:Nat=>k≤m.length∧∀j (h:j<m.length),j<k→cN m[j] l[i]=true) (fun k=>m.length - k) (fun k=>[(0,.sy (.d (DS l))),(3,.sy (.d (DS m))),(4,.sy (.d (.i i))),(5,.sy (.d (.i k)))]) 0 ⟨Nat.zero_le _,fun j _ h=>absurd h (Nat.not_lt_zero _)⟩ (fun k hk=>?_)
  obtain ⟨hk1,hk2⟩:=hk
  have hs0 (e:sc m l[i]=m.take k++l[i] :: m.drop k):DS (cG (l.take (i+1)))=D.l (0+1) ([]++(m.take k).map D.s++[CW (D.s l[i])]++(m.drop k).map D.s):=by rw [hsu,e,show CW (D.s l[i])=D.s l[i] from rfl];simp [DS]
  cases hc:decide ((k:Int)<(m.length:Int))
  ·have hc':=of_decide_eq_false hc
   have hc2:decide ((k:Int)=(m.length:Int))=true:=decide_eq_true (by omega)
   have hs:=hs0 (Bm hsn hk1 hk2 (fun h=>absurd h (by omega)) (fun h=>absurd h (by omega)))
   clear hs0
   refine kgo ?_
   rw [hc]
   refine kgo ?_
   rw [hc2]
   repeat (first|(refine ca ?_;first|refine aM ?_|refine b6 ?_|refine aR ?_|refine bh ?_|refine aL ?_|refine bg ?_|refine aX ?_|refine az ?_|refine aV ?_)|(refine eG ?_;first|refine bH ?_|refine eC ?_|refine bP ?_|refine cb ?_)|(refine eT ?_;first|refine cS (fun _=>?_)|refine cd ?_|refine bR ?_|refine b9 ?_|refine bu ?_|refine bJ ?_|refine b8 ?_)|(refine eR ?_;first|refine ch ?_|refine d7 ?_|refine b7 ?_|refine bD ?_|refine bN ?_|refine bX ?_|refine bS ?_)|(refine eK ?_;first|refine eF ?_|refine eA ?_|refine bU ?_|refine bG ?_|refine eH ?_|refine bd ?_|refine bc ?_)|(refine bV ?_;first|refine cD (d:=3) ?_|refine ba ?_|refine bT ?_)|(refine eV ?_;first|refine dL (d:=3) ?_|refine bI ?_|refine bQ ?_|refine eJ ?_)|(refine bL ?_;first|refine bO ?_|refine aS ?_|refine aN ?_|refine aW ?_|refine aQ ?_|refine aY ?_)|(refine eE ?_;first|refine bZ ?_|refine eB ?_|refine be ?_|refine aP ?_|refine aU ?_)|(refine aK ?_;first|refine aq _ ?_|refine bf ?_|refine aw ?_|refine au ?_|refine ax ?_)|(refine eP ?_;first|refine bW ?_|refine bE ?_|refine bM ?_)|(refine gOp ?_;first|refine eD ?_|refine eM ?_|refine aZ ?_|refine eU ?_|refine eN ?_|refine bK ?_|refine aO ?_|refine cf ?_|refine eO ?_|refine bC ?_|refine bY ?_|refine aT ?_|refine ay ?_|refine cg ?_|refine sNo ?_|refine dU ?_|refine av ?_)|refine dY ?_|refine dq ?_|refine fj ?_|refine bj ?_|refine ci ?_|refine br ?_|refine fm ?_|refine fl ?_|refine eX ?_|refine dB ?_|refine ck ?_|refine bo ?_|refine aA ?_|refine bk ?_|refine ct ?_|refine bt ?_|refine aBlkX ?_|refine cm ?_)
   exact aa (i+1) hlt (by omega)
  ·have hc':=of_decide_eq_true hc
   have hkl:k<m.length:=by omega
   have hc2:decide ((k:Int)=(m.length:Int))=false:=decide_eq_false (by omega)
   refine kgo ?_
   rw [hc]
   refine kgo ?_
   refine cIf (fun h2=>?_) (fun h2=>?_)
   ·refine kgo ?_
    exact aa (k+1) ⟨hkl,fun j h1 h3=>by
     rcases Nat.lt_or_ge j k with h4|h4
     ·exact hk2 j h1 h4
     ·rw [show m[j]=m[k] from by congr 1;omega];exact h2⟩ (by omega)
   ·refine kgo ?_
    rw [hc2]
    refine kgo ?_
    refine cIf (fun h3=>?_) (fun h3=>?_)
    ·rw [Bool.not_eq_true'] at h3
     have hs:=hs0 (Bm hsn hk1 hk2 (fun h=>h2) (fun h=>h3))
     clear hs0
     repeat (first|(refine ca ?_;first|refine aM ?_|refine b6 ?_|refine aR ?_|refine bh ?_|refine aL ?_|refine bg ?_|refine aX ?_|refine az ?_|refine aV ?_)|(refine eG ?_;first|refine bH ?_|refine eC ?_|refine bP ?_|refine cb ?_)|(refine eT ?_;first|refine cS (fun _=>?_)|refine cd ?_|refine bR ?_|refine b9 ?_|refine bu ?_|refine bJ ?_|refine b8 ?_)|(refine eR ?_;first|refine ch ?_|refine d7 ?_|refine b7 ?_|refine bD ?_|refine bN ?_|refine bX ?_|refine bS ?_)|(refine eK ?_;first|refine eF ?_|refine eA ?_|refine bU ?_|refine bG ?_|refine eH ?_|refine bd ?_|refine bc ?_)|(refine bV ?_;first|refine cD (d:=3) ?_|refine ba ?_|refine bT ?_)|(refine eV ?_;first|refine dL (d:=3) ?_|refine bI ?_|refine bQ ?_|refine eJ ?_)|(refine bL ?_;first|refine bO ?_|refine aS ?_|refine aN ?_|refine aW ?_|refine aQ ?_|refine aY ?_)|(refine eE ?_;first|refine bZ ?_|refine eB ?_|refine be ?_|refine aP ?_|refine aU ?_)|(refine aK ?_;first|refine aq _ ?_|refine bf ?_|refine aw ?_|refine au ?_|refine ax ?_)|(refine eP ?_;first|refine bW ?_|refine bE ?_|refine bM ?_)|(refine gOp ?_;first|refine eD ?_|refine eM ?_|refine aZ ?_|refine eU ?_|refine eN ?_|refine bK ?_|refine aO ?_|refine cf ?_|refine eO ?_|refine bC ?_|refine bY ?_|refine aT ?_|refine ay ?_|refine cg ?_|refine sNo ?_|refine dU ?_|refine av ?_)|refine dY ?_|refine dq ?_|refine fj ?_|refine bj ?_|refine ci ?_|refine br ?_|refine fm ?_|refine fl ?_|refine eX ?_|refine dB ?_|refine ck ?_|refine bo ?_|refine aA ?_|refine bk ?_|refine ct ?_|refine bt ?_|refine aBlkX ?_|refine cm ?_)
     exact aa (i+1) hlt (by omega)
    ·rw [Bool.not_eq_false'] at h3
     have hs:DS (cG (l.take (i+1)))=DS m:=by rw [hsu,FU hkl h3]
     clear hs0
     refine kgo ?_
     exact aa (i+1) hlt (by omega)
 ·have h:=of_decide_eq_false h
  refine kgo ?_
  rw [List.take_of_length_le (by omega)]
  exact aj
def js (a b:Big):List ByteArray:=cG (a.outer++b.outer)
def gP (a b c:Big) (n:Int):List Int:=fb n c.edges.toNat++dy c.outer (a.edges+b.edges) (js a b)
def ip (a b:Big):Big:=
 ⟨a.roots+b.roots,cU 0 (cZ 0 a.roots.toNat) (gP a b a 0) a.nodes++cU a.nodes.length (cZ a.roots b.roots.toNat) (gP a b b a.edges) b.nodes,du 0 (cZ 0 a.roots.toNat) a.sites++du a.nodes.length (cZ a.roots b.roots.toNat) b.sites,a.edges+b.edges,js a b,cu (dx (gP a b a 0) a.inner) (dx (gP a b b a.edges) b.inner)⟩
theorem DU {sig:List Ctl} {a b:Big} (hA:aH sig a=true) (hB:aH sig b=true) (hia:a.inner.length≤1000) (hib:b.inner.length≤1000) :
 FnD Tryz.prog 258 [a.D,b.D] (.d (ip a b).D):=by
 have ha:=bl hA
 have hb:=bl hB
 have l0:=jG (a.outer++b.outer) []
 rw [show (a.outer++b.outer).foldl sc []=js a b from rfl,List.length_append,List.length_nil] at l0
 have l1:=eI 0 a.edges.toNat
 have l2:=eI a.edges b.edges.toNat
 have l3:=lQ 0 a.roots.toNat
 have l4:=lQ a.roots b.roots.toNat
 have l5:(dy a.outer (a.edges+b.edges) (js a b)).length=a.outer.length:=by unfold dy;rw [List.length_map]
 have l6:(dy b.outer (a.edges+b.edges) (js a b)).length=b.outer.length:=by unfold dy;rw [List.length_map]
 have l7:(gP a b a 0).length=a.edges.toNat+a.outer.length:=by unfold gP;rw [List.length_append,l1,l5]
 have l8:(gP a b b a.edges).length=b.edges.toNat+b.outer.length:=by unfold gP;rw [List.length_append,l2,l6]
 have f1:=zm (a.outer++b.outer) (by rw [List.length_append];omega)
 rw [show cG (a.outer++b.outer)=js a b from rfl] at f1
 have f2:=gK 0 a.edges (by omega) (by omega)
 have f3:=gK a.edges b.edges (by omega) (by omega)
 have f4:=pb a.outer (a.edges+b.edges) (js a b) (by omega) (by omega) (by omega)
 have f5:=pb b.outer (a.edges+b.edges) (js a b) (by omega) (by omega) (by omega)
 have f6:=mF 0 a.roots (by omega) (by omega)
 have f7:=mF a.roots b.roots (by omega) (by omega)
 have f8:=lZ a 0 (cZ 0 a.roots.toNat) (gP a b a 0) (by omega) (by omega) (rl hA) (w8 hA 0 (by omega)) (xk hA (by omega))
 have f9:=lZ b a.nodes.length (cZ a.roots b.roots.toNat) (gP a b b a.edges) (by omega) (by omega) (rl hB) (w8 hB _ (by omega)) (xk hB (by omega))
 have g1:=mb a 0 (cZ 0 a.roots.toNat) (by omega) (qW hA 0 (by omega)) (by omega)
 have g2:=mb b a.nodes.length (cZ a.roots b.roots.toNat) (by omega) (qW hB _ (by omega)) (by omega)
 have g3:=ph a (gP a b a 0) (w5 hA (by omega)) (by omega)
 have g4:=ph b (gP a b b a.edges) (w5 hB (by omega)) (by omega)
 have g5:=ut (dx (gP a b a 0) a.inner) (dx (gP a b b a.edges) b.inner) (by unfold dx;rw [List.length_map];omega) (by unfold dx;rw [List.length_map];omega)
 have q1:(cU 0 (cZ 0 a.roots.toNat) (gP a b a 0) a.nodes).length=a.nodes.length:=by unfold cU;rw [List.length_map]
 have q2:(cU a.nodes.length (cZ a.roots b.roots.toNat) (gP a b b a.edges) b.nodes).length=b.nodes.length:=by unfold cU;rw [List.length_map]
 have q3:(du 0 (cZ 0 a.roots.toNat) a.sites).length=a.sites.length:=by unfold du;rw [List.length_map]
 have q4:(du a.nodes.length (cZ a.roots b.roots.toNat) b.sites).length=b.sites.length:=by unfold du;rw [List.length_map]
 refine af Tryz.func258 (fun hw W0=>?_)
 repeat (first|refine cFz 7 ?_|refine cFz 8 ?_|refine cFz 9 ?_|refine cFz 10 ?_|(refine ca ?_;first|refine aM ?_|refine b6 ?_|refine aR ?_|refine bh ?_|refine aL ?_|refine bg ?_|refine aX ?_|refine az ?_|refine aV ?_)|(refine eG ?_;first|refine bH ?_|refine eC ?_|refine bP ?_|refine cb ?_)|(refine eT ?_;first|refine cS (fun _=>?_)|refine cd ?_|refine bR ?_|refine b9 ?_|refine bu ?_|refine bJ ?_|refine b8 ?_)|(refine eR ?_;first|refine ch ?_|refine d7 ?_|refine b7 ?_|refine bD ?_|refine bN ?_|refine bX ?_|refine bS ?_)|(refine eK ?_;first|refine eF ?_|refine eA ?_|refine bU ?_|refine bG ?_|refine eH ?_|refine bd ?_|refine bc ?_)|(refine bV ?_;first|refine ba ?_|refine bT ?_)|(refine eV ?_;first|refine bI ?_|refine bQ ?_|refine eJ ?_)|(refine bL ?_;first|refine bO ?_|refine aS ?_|refine aN ?_|refine aW ?_|refine aQ ?_|refine aY ?_)|(refine eE ?_;first|refine bZ ?_|refine eB ?_|refine be ?_|refine aP ?_|refine aU ?_)|(refine aK ?_;first|refine aq _ ?_|refine bf ?_|refine aw ?_|refine au ?_|refine ax ?_)|(refine eP ?_;first|refine bW ?_|refine bE ?_|refine bM ?_)|(refine gOp ?_;first|refine eD ?_|refine eM ?_|refine aZ ?_|refine eU ?_|refine eN ?_|refine bK ?_|refine aO ?_|refine cf ?_|refine eO ?_|refine bC ?_|refine bY ?_|refine aT ?_|refine sFz 17 ?_|refine sFz 31 ?_|refine sFz 42 ?_|refine sFz 67 ?_|refine sFz 68 ?_|refine sFz 77 ?_|refine sFz 78 ?_|refine sFz 83 ?_|refine sFz 86 ?_|refine ay ?_|refine cg ?_|refine sNo ?_|refine dU ?_|refine av ?_)|refine dY ?_|refine dq ?_|refine fj ?_|refine bj ?_|refine ci ?_|refine br ?_|refine fm ?_|refine fl ?_|refine eX ?_|refine dB ?_|refine ck ?_|refine bo ?_|refine aA ?_|refine bk ?_|refine ct ?_|refine bt ?_|refine aBlkX ?_|refine cm ?_|refine sFz 17 ?_|refine sFz 31 ?_|refine sFz 42 ?_|refine sFz 67 ?_|refine sFz 68 ?_|refine sFz 77 ?_|refine sFz 78 ?_|refine sFz 83 ?_|refine sFz 86 ?_)
 exact aj
end Go.Proofs.YtnobdioccfeokaaGreatDoor
namespace Go.Proofs.YtnobdioccfeokaaGreatDoor
open Go.RowKit
set_option linter.unusedVariables false
set_option maxRecDepth 100000
set_option maxHeartbeats 4000000
attribute [local irreducible] ar Der At
theorem ou {a b:Big}:(ip a b).inner.length=a.inner.length+b.inner.length:=by unfold ip dx;simp only [kl,List.length_map]
def oF (sig:List Ctl) (a b:Big):Big × Bool:=if aH sig a && (aH sig b && (iu a.outer b.outer && (iu (a.inner.map Wr.name) (b.inner.map Wr.name) && aH sig (ip a b)))) then (ip a b,true) else (fK,false)
theorem zl (sig:List Ctl) (a b:Big) (hla:a.inner.length≤1000) (hlb:b.inner.length≤1000):FnD Tryz.prog 224 [.l 3 (sig.map Ctl.D),a.D,b.D] (.tp [(oF sig a b).1.D,.b (oF sig a b).2]):=by
 have f1:=fO sig a (by omega)
 have f2:=fO sig b (by omega)
 have f3:=sR a.outer b.outer
 have f4:=ke a hla
 have f5:=ke b hlb
 have f6:=sR (a.inner.map Wr.name) (b.inner.map Wr.name)
 have f8:=wQ sig (ip a b) (by rw [ou];omega)
 refine af Tryz.func224 (fun hw W0=>?_)
 unfold oF
 cases h1:aH sig a
 ·rw [h1] at f1
  refine kgo ?_
  exact iS
 cases h2:aH sig b
 ·rw [h1] at f1
  rw [h2] at f2
  refine kgo ?_
  exact iS
 have f7:=DU h1 h2 hla hlb
 rw [h1] at f1
 rw [h2] at f2
 cases h3:iu a.outer b.outer
 ·rw [h3] at f3
  refine kgo ?_
  exact iS
 rw [h3] at f3
 cases h4:iu (a.inner.map Wr.name) (b.inner.map Wr.name)
 ·rw [h4] at f6
  refine kgo ?_
  exact iS
 rw [h4] at f6
 rw [show (if true && (true && (true && (true && aH sig (ip a b)))) then (ip a b,true) else (fK,false))=(if aH sig (ip a b) then ip a b else fK,aH sig (ip a b)) from by cases aH sig (ip a b) <;> rfl]
 refine kgo ?_
 exact iS
def fa (xs ys:List ByteArray):List ByteArray:=ys.filter fun y=>decide (jo xs y<0)
theorem ym (xs ys:List ByteArray) (i:Nat) (h:i<ys.length):fa xs (ys.take (i+1))=if decide (jo xs ys[i]<0)=true then fa xs (ys.take i)++[ys[i]] else fa xs (ys.take i):=by
 unfold fa
 rw [List.take_succ_eq_append_getElem h,List.filter_append]
 by_cases hh:decide (jo xs ys[i]<0)=true <;> simp [hh]
theorem yh (sig:List Ctl) (a b:Big) (hla:a.inner.length≤1000) (hlb:b.inner.length≤1000):FnD Tryz.prog 161 [.l 3 (sig.map Ctl.D),a.D,b.D] (.tp [(oF sig a (idB (fa a.outer (b.inner.map Wr.name)))).1.D,.b (oF sig a (idB (fa a.outer (b.inner.map Wr.name)))).2]):=by
 have f1:=ke b hlb
 have hll:(b.inner.map Wr.name).length≤1000:=by rw [List.length_map];exact hlb
 refine af Tryz.func161 (fun hw W0=>?_)
 revert f1 hll
 generalize b.inner.map Wr.name=ys
 intro f1 hll
 have hr:(fa a.outer ys).length≤1000:=Nat.le_trans (List.length_filter_le _ _) hll
 have f3:=ta (fa a.outer ys) hr
 have f4:=zl sig a (idB (fa a.outer ys)) hla (by unfold idB;simpa using hr)
 refine kgo ?_
 refine eS (fun i:Nat=>i≤ys.length) (fun i=>ys.length - i) (fun i=>[(0,.sy (.d (.l 3 (sig.map Ctl.D)))),(4,.sy (.bx 10004 0)),(10004,.tk (.bx (ij a.D))),(6,.sy (.bx 10006 0)),(10006,.tk (.bx (ij (.t [.i 0,.n 3,.n 1,.i 0,.n 1,.n 2])))),(8,.sy (.k 10011)),(10011,.tk (.row 1 9 ((fa a.outer (ys.take i)).map D.s))),(9,.sy (.d (DS ys))),(10,.sy (.d (.i i)))]) 0 (Nat.zero_le _) (fun i hi=>?_)
 refine kgo ?_
 refine cIf (fun h=>?_) (fun h=>?_)
 ·have h:=of_decide_eq_true h
  have hlt:i<ys.length:=by omega
  have f2:=sv a.outer ys[i]
  have hq:(fa a.outer (ys.take i)).length≤1000:=Nat.le_trans (List.length_filter_le _ _) (by rw [List.length_take];omega)
  have hsu:=ym a.outer ys i hlt
  refine kgo ?_
  refine cIf (fun h2=>?_) (fun h2=>?_)
  ·rw [if_pos h2] at hsu
   have hs:(fa a.outer (ys.take (i+1))).map D.s=(fa a.outer (ys.take i)).map D.s++[.s ys[i]]:=by rw [hsu,List.map_append];rfl
   refine kgo ?_
   exact aa (i+1) hlt (by omega)
  ·rw [if_neg (by rw [h2];exact Bool.false_ne_true)] at hsu
   have hs:(fa a.outer (ys.take (i+1))).map D.s=(fa a.outer (ys.take i)).map D.s:=by rw [hsu]
   refine kgo ?_
   exact aa (i+1) hlt (by omega)
 ·have h:=of_decide_eq_false h
  rw [List.take_of_length_le (by omega)]
  repeat (first|refine cFz 8 ?_|(refine ca ?_;first|refine aM ?_|refine b6 ?_|refine aR ?_|refine bh ?_|refine aL ?_|refine bg ?_|refine aX ?_|refine az ?_|refine aV ?_)|(refine eG ?_;first|refine bH ?_|refine eC ?_|refine bP ?_|refine cb ?_)|(refine eT ?_;first|refine cS (fun _=>?_)|refine cd ?_|refine bR ?_|refine b9 ?_|refine bu ?_|refine bJ ?_|refine b8 ?_)|(refine eR ?_;first|refine ch ?_|refine d7 ?_|refine b7 ?_|refine bD ?_|refine bN ?_|refine bX ?_|refine bS ?_)|(refine eK ?_;first|refine eF ?_|refine eA ?_|refine bU ?_|refine bG ?_|refine eH ?_|refine bd ?_|refine bc ?_)|(refine bV ?_;first|refine ba ?_|refine bT ?_)|(refine eV ?_;first|refine bI ?_|refine bQ ?_|refine eJ ?_)|(refine bL ?_;first|refine bO ?_|refine aS ?_|refine aN ?_|refine aW ?_|refine aQ ?_|refine aY ?_)|(refine eE ?_;first|refine bZ ?_|refine eB ?_|refine be ?_|refine aP ?_|refine aU ?_)|(refine aK ?_;first|refine aq _ ?_|refine bf ?_|refine aw ?_|refine au ?_|refine ax ?_)|(refine eP ?_;first|refine bW ?_|refine bE ?_|refine bM ?_)|(refine gOp ?_;first|refine eD ?_|refine eM ?_|refine aZ ?_|refine eU ?_|refine eN ?_|refine bK ?_|refine aO ?_|refine cf ?_|refine eO ?_|refine bC ?_|refine bY ?_|refine aT ?_|refine ay ?_|refine cg ?_|refine sNo ?_|refine dU ?_|refine av ?_)|refine dY ?_|refine dq ?_|refine fj ?_|refine bj ?_|refine ci ?_|refine br ?_|refine fm ?_|refine fl ?_|refine eX ?_|refine dB ?_|refine ck ?_|refine bo ?_|refine aA ?_|refine bk ?_|refine ct ?_|refine bt ?_|refine aBlkX ?_|refine cm ?_)
  exact iS
def nD (sig:List Ctl) (mid ctx par:Big):Big × Bool:=
 if (oF sig mid (idB (fa mid.outer (ctx.inner.map Wr.name)))).2 then (if (fG sig ctx (oF sig mid (idB (fa mid.outer (ctx.inner.map Wr.name)))).1).2 then fG sig (fG sig ctx (oF sig mid (idB (fa mid.outer (ctx.inner.map Wr.name)))).1).1 par else (fK,false)) else (fK,false)
theorem xX (sig:List Ctl) (a b:Big):(oF sig a b).1.inner.length≤a.inner.length+b.inner.length:=by
 unfold oF
 split
 ·rw [ou];omega
 ·exact Nat.zero_le _
theorem uk (sig:List Ctl) (a b:Big):(fG sig a b).1.inner.length≤b.inner.length:=by
 unfold fG
 split
 ·rw [rP];omega
 ·exact Nat.zero_le _
theorem ze (sig:List Ctl) (mid ctx par:Big) (hl:mid.inner.length+ctx.inner.length≤1000) (hp:par.inner.length≤1000):FnD Tryz.prog 101 [.l 3 (sig.map Ctl.D),mid.D,ctx.D,par.D] (.tp [(nD sig mid ctx par).1.D,.b (nD sig mid ctx par).2]):=by
 have f1:=yh sig mid ctx (by omega) (by omega)
 have hr:(fa mid.outer (ctx.inner.map Wr.name)).length≤ctx.inner.length:=Nat.le_trans (List.length_filter_le _ _) (by rw [List.length_map];omega)
 refine af Tryz.func101 (fun hw W0=>?_)
 unfold nD
 revert f1 hr
 generalize fa mid.outer (ctx.inner.map Wr.name)=ns
 intro f1 hr
 have hb:=xX sig mid (idB ns)
 rw [show (idB ns).inner.length=ns.length from by unfold idB;simp] at hb
 revert f1 hb
 generalize oF sig mid (idB ns)=r
 obtain ⟨r,k⟩:=r
 intro f1 hb
 cases k
 ·refine kgo ?_
  exact iS
 have f2:=pl sig ctx r (by omega) (by simp only at hb;omega)
 have hc:=uk sig ctx r
 simp only [if_true]
 revert f2 hc
 generalize fG sig ctx r=q
 obtain ⟨q,k⟩:=q
 intro f2 hc
 cases k
 ·refine kgo ?_
  exact iS
 have f3:=pl sig q par (by simp only at hb hc;omega) hp
 refine kgo ?_
 exact iS
end Go.Proofs.YtnobdioccfeokaaGreatDoor
namespace Go.Proofs.YtnobdioccfeokaaGreatDoor
open Go.RowKit
set_option linter.unusedVariables false
set_option maxRecDepth 100000
set_option maxHeartbeats 4000000
attribute [local irreducible] ar Der At
abbrev cH (x:Int × Int):D:=.t [.i x.1,.i x.2]
theorem GZ:Lik iW cH:=⟨fun w S x cs h=>by
 obtain ⟨c,e,rfl,⟨rfl,h1⟩,c',e',rfl,⟨rfl,h2⟩,rfl⟩:=h
 exact ⟨rfl,h1,h2⟩,fun w lo hi x cs h=>by
 obtain ⟨rfl,h1,h2⟩:=h
 exact ⟨[_],[_],rfl,⟨rfl,h1⟩,[_],[],rfl,⟨rfl,h2⟩,rfl⟩⟩
theorem jU (b:Big) (l:Int) (hn:b.nodes.length≤1000) (hl:∀i (h:i<b.nodes.length),(b.nodes[i]).links.length≤1000):FnD Tryz.prog 146 [b.D,.i l] (.d (.l 2 ((aD b l).map cH))):=⟨cB Tryz.func146,fun F w vs hv hF=>by
 obtain ⟨v1,t,rfl,h1,v2,t2,rfl,⟨h2,_⟩,h3⟩:=hv
 cases (show t2 = [] from h3)
 obtain ⟨cs,rfl,hb⟩:=xf h1
 cases h2
 refine (pQ _ _ _ _ _ _ hb hn hl).mono ?_
 rintro e w' ⟨v,rfl,hV,hX⟩
 exact ⟨_,rfl,hX,nY (GZ.ofV hV)⟩⟩
theorem lT (b:Big) (p:Int) (hl:b.sites.length≤1048576):FnD Tryz.prog 223 [b.D,.i p] (.d (DI (cC b p))):=⟨cB Tryz.func223,fun F w vs hv hF=>by
 obtain ⟨v1,t,rfl,h1,v2,t2,rfl,⟨h2,_⟩,h3⟩:=hv
 cases (show t2 = [] from h3)
 obtain ⟨cs,rfl,hb⟩:=xf h1
 cases h2
 refine (pY _ _ _ _ _ _ hb hl).mono ?_
 rintro e w' ⟨v,rfl,hV,hX⟩
 exact ⟨_,rfl,hX,nY (Gh.ofV hV)⟩⟩
def mT (row:List Bool) (v:Bool) (ps:List (Int × Int)):Nat:=(ps.filter fun p=>row.getD p.1.toNat false == v).length
theorem yP (row:List Bool) (v:Bool) (ps:List (Int × Int)) (i:Nat) (h:i<ps.length):mT row v (ps.take (i+1))=if (row.getD (ps[i]).1.toNat false == v)=true then mT row v (ps.take i)+1 else mT row v (ps.take i):=by
 unfold mT
 rw [List.take_succ_eq_append_getElem h,List.filter_append]
 by_cases hh:(row.getD (ps[i]).1.toNat false == v)=true
 ·rw [if_pos hh];simp only [List.length_append,List.filter_cons,hh,if_true,List.filter_nil,List.length_cons,List.length_nil]
 ·rw [if_neg hh];simp only [List.length_append,List.filter_cons,if_neg hh,List.filter_nil,List.length_nil,Nat.add_zero]
theorem di (b:Big) (l:Int) (hn:b.nodes.length≤1000) (hl:∀i (h:i<b.nodes.length),(b.nodes[i]).links.length≤1000):(aD b l).length≤1000000:=by
 have:=oq b l b.nodes.length (Nat.le_refl _) hl
 unfold aD
 omega
theorem Ev (b:Big) (l:Int) (row:List Bool) (v:Bool) (hn:b.nodes.length≤1000) (hl:∀i (h:i<b.nodes.length),(b.nodes[i]).links.length≤1000) (hr:b.nodes.length≤row.length):FnD Tryz.prog 152 [b.D,.i l,.l 1 (row.map .b),.b v] (.d (.i (mT row v (aD b l)))):=by
 have f1:=jU b l hn hl
 have hp:∀q∈aD b l,∃n:Nat,q.1=(n:Int)∧n<row.length:=fun q hq=>by
  obtain ⟨i,k,hi,_,_,e⟩:=d9.1 hq
  exact ⟨i,by rw [e],by omega⟩
 refine af Tryz.func152 (fun hw W0=>?_)
 have hpl:(aD b l).length≤1000000:=di b l hn hl
 revert f1 hp hpl
 generalize aD b l=ps
 intro f1 hp hpl
 refine kgo ?_
 refine eS (fun i:Nat=>i≤ps.length) (fun i=>ps.length - i) (fun i=>[(2,.sy (.d (.l 1 (row.map .b)))),(3,.sy (.d (.b v))),(9,.sy (.d (.l 2 (ps.map cH)))),(10,.sy (.d (.i (mT row v (ps.take i))))),(11,.sy (.d (.i i)))]) 0 (Nat.zero_le _) (fun i hi=>?_)
 refine kgo ?_
 refine cIf (fun h=>?_) (fun h=>?_)
 ·have h:=of_decide_eq_true h
  have hlt:i<ps.length:=by omega
  obtain ⟨n,hq,hnr⟩:=hp _ (List.getElem_mem hlt)
  have hsu:=yP row v ps i hlt
  have hm:mT row v (ps.take i)≤ps.length:=Nat.le_trans (List.length_filter_le _ _) (by rw [List.length_take];omega)
  rw [hq,show (n:Int).toNat=n from rfl,List.getD_eq_getElem?_getD,List.getElem?_eq_getElem hnr,Option.getD_some] at hsu
  refine kgo ?_
  refine cS (n:=n) (fun _=>?_) rfl rfl (congrArg some hq)
  refine kgo ?_
  refine cIf (fun h2=>?_) (fun h2=>?_)
  ·rw [if_pos h2] at hsu
   have hs:D.i ((mT row v (ps.take (i+1)):Nat):Int)=D.i ((mT row v (ps.take i):Nat)+1):=by rw [hsu];rfl
   refine kgo ?_
   exact aa (i+1) hlt (by omega)
  ·rw [if_neg (by rw [h2];exact Bool.false_ne_true)] at hsu
   have hs:D.i ((mT row v (ps.take (i+1)):Nat):Int)=D.i (mT row v (ps.take i):Nat):=by rw [hsu]
   refine kgo ?_
   exact aa (i+1) hlt (by omega)
 ·have h:=of_decide_eq_false h
  refine kgo ?_
  rw [List.take_of_length_le (by omega)]
  exact aj
theorem C3 (r:Big) (m:Mat) (p:Int) (hl:r.sites.length≤1000) (hs:fp m.nodes p=true) (hh:0<(cC r (dh m.nodes p)).length):FnD Tryz.prog 160 [r.D,m.D,.i p] (.d (.i (kQ r m.nodes p))):=by
 refine af Tryz.func160 (fun hw W0=>?_)
 have hml:=(wfM hw.2.1.1).1
 refine kgo ?_
 refine eS (fun i:Nat=>i≤m.nodes.length∧fp (m.nodes.take i) p=false) (fun i=>m.nodes.length - i) (fun i=>[(2,.sy (.d (.i p))),(3,.sy (.bx 10003 0)),(10003,.tk (.bx (ij r.D))),(4,.sy (.bx 10004 0)),(10004,.tk (.bx (ij m.D))),(7,.sy (.d (.i i)))]) 0 ⟨Nat.zero_le _,rfl⟩ (fun i hi=>?_)
 refine kgo ?_
 refine cIf (fun h=>?_) (fun h=>?_)
 ·have h:=of_decide_eq_true h
  have hlt:i<m.nodes.length:=by omega
  refine kgo ?_
  refine cIf (fun h2=>?_) (fun h2=>?_)
  ·have h2:=of_decide_eq_true h2
   have hix:dh m.nodes p=(i:Int):=vN p m.nodes i hlt h2 (by have:=hi.2;unfold fp at this;rw [← this];congr 1;funext x;exact Bool.beq_comm ..)
   have f1:=lT r i (by omega)
   rw [← hix] at f1
   have f1:FnD Tryz.prog 223 [r.D,.i i] (.d (DI (cC r (dh m.nodes p)))):=by rw [hix] at f1 ⊢;exact f1
   have hz:(0:Int)≤0∧(0:Int)<((cC r (dh m.nodes p)).length:Int):=⟨Int.le_refl _,by omega⟩
   have hso:kQ r m.nodes p=(cC r (dh m.nodes p))[0]:=by unfold kQ atI;simp [List.getElem?_eq_getElem hh]
   refine kgo ?_
   rw [hso]
   exact aj
  ·have h2:=of_decide_eq_false h2
   have hx:fp (m.nodes.take (i+1)) p=false:=by
    have:=hi.2
    unfold fp at this ⊢
    rw [List.take_succ_eq_append_getElem hlt,List.any_append,this]
    simp;omega
   refine kgo ?_
   exact aa (i+1) ⟨hlt,hx⟩ (by omega)
 ·have h:=of_decide_eq_false h
  have:=hi.2
  rw [List.take_of_length_le (by omega),hs] at this
  cases this
theorem A7:∀i:Fin 26,(⟨#[97,98,99,100,101,102,103,104,105,106,107,108,109,110,111,112,113,114,115,116,117,118,119,120,121,122]⟩:ByteArray).extract i (i+1)=⟨#[UInt8.ofNat (97+i)]⟩:=by decide
theorem zq (i:Nat) (hi:i<26):FnD Tryz.prog 153 [.i i] (.d (.s ⟨#[UInt8.ofNat (97+i)]⟩)):=by
 refine af Tryz.func153 (fun hw W0=>?_)
 have hij:i≤i+1∧i+1≤(⟨#[97,98,99,100,101,102,103,104,105,106,107,108,109,110,111,112,113,114,115,116,117,118,119,120,121,122]⟩:ByteArray).size:=⟨by omega,by show i+1≤26;omega⟩
 have hl:=A7 ⟨i,hi⟩
 simp only at hl
 rw [← hl]
 refine kgo ?_
 exact aj
end Go.Proofs.YtnobdioccfeokaaGreatDoor
namespace Go.Proofs.YtnobdioccfeokaaGreatDoor
open Go.RowKit
set_option linter.unusedVariables false
set_option maxRecDepth 100000
set_option maxHeartbeats 4000000
attribute [local irreducible] ar Der At
def tkF (row:List Bool) (v:Bool) (i:Nat):Bool:=row.getD i false == v
def atN (row:List Bool) (v:Bool) (i:Nat):Int:=((List.range i).filter (tkF row v)).length
def atL (row:List Bool) (v:Bool) (n:Nat):List Int:=(List.range n).map (atN row v)
def te (row:List Bool) (v dn:Bool) (p:Int):Int:=if decide (0≤p) && tkF row v p.toNat then atN row v p.toNat else if dn then -1 else p
def G8 (row:List Bool) (v dn:Bool) (ks:List Int) (n:Nd):Nd:=⟨n.control,te row v dn n.parent,ew ks n.links⟩
def gD (b:Big) (row:List Bool) (v dn:Bool) (ks:List Int) (n:Nat):List Nd:=((List.range n).filter (tkF row v)).map fun (i:Nat)=>G8 row v dn ks (dF b (i:Int))
theorem AW (b:Big) (row:List Bool) (v dn:Bool) (ks:List Int) (n:Nat):((gD b row v dn ks n).length:Int)=atN row v n:=by unfold gD atN;rw [List.length_map]
theorem DL (b:Big) (row:List Bool) (v dn:Bool) (ks:List Int) (n:Nat):(gD b row v dn ks n).length≤n:=by
 unfold gD;rw [List.length_map];exact Nat.le_trans (List.length_filter_le _ _) (by rw [List.length_range];exact Nat.le_refl _)
theorem yE (b:Big) (row:List Bool) (v dn:Bool) (ks:List Int) (n:Nat):gD b row v dn ks (n+1)=if tkF row v n=true then gD b row v dn ks n++[G8 row v dn ks (dF b n)] else gD b row v dn ks n:=by
 unfold gD
 rw [List.range_succ,List.filter_append]
 by_cases h:tkF row v n=true <;> simp [h]
theorem xa (row:List Bool) (v:Bool) (n:Nat):atL row v (n+1)=atL row v n++[atN row v n]:=by unfold atL;rw [List.range_succ,List.map_append];rfl
theorem jf (row:List Bool) (v:Bool) (n:Nat):(atL row v n).length=n:=by unfold atL;simp
theorem IR (row:List Bool) (v:Bool) (n i:Nat) (h:i<(atL row v n).length):(atL row v n)[i]=atN row v i:=by simp [atL]
theorem uh (row:List Bool) (v:Bool) (i:Nat) (h:i<row.length):tkF row v i=(row[i] == v):=by unfold tkF;rw [List.getD_eq_getElem?_getD,List.getElem?_eq_getElem h];rfl
theorem wZ (b:Big) (row:List Bool) (v dn:Bool) (ks:List Int) (hl:b.nodes.length≤1000) (hr:b.nodes.length≤row.length) (hup:∀i (h:i<b.nodes.length),(b.nodes[i]).parent<i) (hll:∀n∈b.nodes,n.links.length≤1000) (hlk:∀n∈b.nodes,∀l∈n.links,0≤l∧l<(ks.length:Int)):FnD Tryz.prog 157 [b.D,.l 1 (row.map .b),.b v,DI ks,.b dn] (.row 3 153 ((gD b row v dn ks b.nodes.length).map Nd.D)):=by
 refine af Tryz.func157 (fun hw W0=>?_)
 refine kgo ?_
 refine eS (fun i:Nat=>i≤b.nodes.length) (fun i=>b.nodes.length - i) (fun i=>[(1,.sy (.d (.l 1 (row.map .b)))),(2,.sy (.d (.b v))),(3,.sy (.d (DI ks))),(4,.sy (.d (.b dn))),(5,.sy (.bx 10005 0)),(10005,.tk (.bx (ij b.D))),(11,.sy (.k 10017)),(10017,.tk (.row 3 153 ((gD b row v dn ks i).map Nd.D))),(12,.sy (.k 10018)),(10018,.tk (.row 1 3 ((atL row v i).map .i))),(13,.sy (.d (.i i)))]) 0 (Nat.zero_le _) (fun i hi=>?_)
 refine kgo ?_
 refine cIf (fun h=>?_) (fun h=>?_)
 ·have h:=of_decide_eq_true h
  have hlt:i<b.nodes.length:=by omega
  have hir:i<row.length:=by omega
  have hm:=List.getElem_mem hlt
  have hL:=hll _ hm
  have hK:=hlk _ hm
  have hU:=hup i hlt
  have hq:=DL b row v dn ks i
  have hat:=jf row v i
  have hsa:(atL row v (i+1)).map D.i=(atL row v i).map D.i++[.i ((gD b row v dn ks i).map Nd.D).length]:=by rw [xa,List.map_append,List.length_map,AW];rfl
  have hst:=yE b row v dn ks i
  rw [uh row v i hir,aB b i hlt] at hst
  refine kgo ?_
  refine cIf (fun h2=>?_) (fun h2=>?_)
  ·rw [Bool.not_eq_true'] at h2
   rw [if_neg (by rw [h2];exact Bool.false_ne_true)] at hst
   have hs:(gD b row v dn ks (i+1)).map Nd.D=(gD b row v dn ks i).map Nd.D:=by rw [hst]
   refine kgo ?_
   exact aa (i+1) hlt (by omega)
  ·rw [Bool.not_eq_false'] at h2
   rw [if_pos h2] at hst
   have hs:(gD b row v dn ks (i+1)).map Nd.D=(gD b row v dn ks i).map Nd.D++[Nd.D (G8 row v dn ks b.nodes[i])]:=by rw [hst,List.map_append];rfl
   refine kgo ?_
   cases hc:decide (0≤(b.nodes[i]).parent)
   have hT:te row v dn (b.nodes[i]).parent=if dn=true then -1 else (b.nodes[i]).parent:=by unfold te;rw [hc];rfl
   refine kgo ?_
   refine cIf (fun h4=>?_) (fun h4=>?_)
   have hP:D.i (te row v dn (b.nodes[i]).parent)=D.i (-1):=by rw [hT,h4];rfl
   rotate_left
   have hP:D.i (te row v dn (b.nodes[i]).parent)=D.i (b.nodes[i]).parent:=by rw [hT,h4];rfl
   rotate_left
   have hc':=of_decide_eq_true hc
   obtain ⟨j,hj⟩:=Int.eq_ofNat_of_zero_le hc'
   have hjr:j<row.length:=by omega
   have hT:te row v dn (b.nodes[i]).parent=if (row[j] == v)=true then atN row v j else if dn=true then -1 else (b.nodes[i]).parent:=by unfold te;rw [hc,hj,← uh row v j hjr];rfl
   refine kgo ?_
   refine cS (n:=j) (fun _=>?_) rfl rfl (congrArg some hj)
   refine kgo ?_
   refine cIf (fun h3=>?_) (fun h3=>?_)
   have hnj:j<((atL row v i).map D.i++[D.i ((gD b row v dn ks i).map Nd.D).length]).length:=by rw [List.length_append,List.length_map,hat];show j<i+1;omega
   have hnk:j<(atL row v (i+1)).length:=by rw [jf];omega
   have hP:D.i (te row v dn (b.nodes[i]).parent)=D.i (atL row v (i+1))[j]:=by rw [hT,if_pos h3,IR row v (i+1) j hnk]
   refine kgo ?_
   refine bu (n:=j) ?_ rfl rfl rfl (congrArg some hj)
   refine aL (f:=D.i) (l:=atL row v (i+1)) ?_ rfl (by exact jz rfl hsa.symm) hnk
   rotate_left
   rw [if_neg (by rw [h3];exact Bool.false_ne_true)] at hT
   refine kgo ?_
   refine cIf (fun h4=>?_) (fun h4=>?_)
   have hP:D.i (te row v dn (b.nodes[i]).parent)=D.i (-1):=by rw [hT,h4];rfl
   rotate_left
   have hP:D.i (te row v dn (b.nodes[i]).parent)=D.i (b.nodes[i]).parent:=by rw [hT,h4];rfl
   all_goals
    refine kgo ?_
    refine eS (fun k:Nat=>k≤(b.nodes[i]).links.length) (fun k=>(b.nodes[i]).links.length - k) (fun k=>[(1,.sy (.d (.l 1 (row.map .b)))),(2,.sy (.d (.b v))),(3,.sy (.d (DI ks))),(4,.sy (.d (.b dn))),(5,.sy (.bx 10005 0)),(10005,.tk (.bx (ij b.D))),(11,.sy (.k 10017)),(10017,.tk (.row 3 153 ((gD b row v dn ks i).map Nd.D))),(12,.sy (.k 10030)),(10030,.tk (.row 1 3 ((atL row v (i+1)).map .i))),(13,.sy (.d (.i i))),(14,.sy (.d (.i (te row v dn (b.nodes[i]).parent)))),(15,.sy (.k 10058)),(10058,.tk (.row 1 3 ((ew ks ((b.nodes[i]).links.take k)).map .i))),(16,.sy (.d (.i k)))]) 0 (Nat.zero_le _) (fun k hk=>?_)
    refine kgo ?_
    refine cIf (fun h5=>?_) (fun h5=>?_)
    ·have h5:=of_decide_eq_true h5
     have hkl:k<(b.nodes[i]).links.length:=by omega
     have hk2:=hK _ (List.getElem_mem hkl)
     have hs5:(ew ks ((b.nodes[i]).links.take (k+1))).map D.i=(ew ks ((b.nodes[i]).links.take k)).map D.i++[.i (atI ks (b.nodes[i]).links[k])]:=by rw [pz ks k hkl,List.map_append];rfl
     have hq5:(ew ks ((b.nodes[i]).links.take k)).length≤1000:=by unfold ew;rw [List.length_map,List.length_take];omega
     refine kgo ?_
     exact aa (k+1) hkl (by omega)
    ·have h5:=of_decide_eq_false h5
     rw [show (b.nodes[i]).links.take k=(b.nodes[i]).links from List.take_of_length_le (by omega)]
     repeat (first|(refine ca ?_;first|refine aM ?_|refine b6 ?_|refine aR ?_|refine bh ?_|refine aL ?_|refine bg ?_|refine aX ?_|refine az ?_|refine aV ?_)|(refine eG ?_;first|refine bH ?_|refine eC ?_|refine bP ?_|refine cb ?_)|(refine eT ?_;first|refine cS (fun _=>?_)|refine cd ?_|refine bR ?_|refine b9 ?_|refine bu ?_|refine bJ ?_|refine b8 ?_)|(refine eR ?_;first|refine ch ?_|refine d7 ?_|refine b7 ?_|refine bD ?_|refine bN ?_|refine bX ?_|refine bS ?_)|(refine eK ?_;first|refine eF ?_|refine eA ?_|refine bU ?_|refine bG ?_|refine eH ?_|refine bd ?_|refine bc ?_)|(refine bV ?_;first|refine ba ?_|refine bT ?_)|(refine eV ?_;first|refine bI ?_|refine bQ ?_|refine eJ ?_)|(refine bL ?_;first|refine bO ?_|refine aS ?_|refine aN ?_|refine aW ?_|refine aQ ?_|refine aY ?_)|(refine eE ?_;first|refine bZ ?_|refine eB ?_|refine be ?_|refine aP ?_|refine aU ?_)|(refine aK ?_;first|refine aq _ ?_|refine bf ?_|refine aw ?_|refine au ?_|refine ax ?_)|(refine eP ?_;first|refine bW ?_|refine bE ?_|refine bM ?_)|(refine gOp ?_;first|refine eD ?_|refine eM ?_|refine aZ ?_|refine eU ?_|refine eN ?_|refine bK ?_|refine aO ?_|refine cf ?_|refine eO ?_|refine bC ?_|refine bY ?_|refine aT ?_|refine sFz 93 ?_|refine ay ?_|refine cg ?_|refine sNo ?_|refine dU ?_|refine av ?_)|refine dY ?_|refine dq ?_|refine fj ?_|refine bj ?_|refine ci ?_|refine br ?_|refine fm ?_|refine fl ?_|refine eX ?_|refine dB ?_|refine ck ?_|refine bo ?_|refine aA ?_|refine bk ?_|refine ct ?_|refine bt ?_|refine aBlkX ?_|refine cm ?_|refine sFz 93 ?_)
     exact aa (i+1) hlt (by omega)
 ·have h:=of_decide_eq_false h
  refine kgo ?_
  rw [show i=b.nodes.length by omega]
  exact pJ
end Go.Proofs.YtnobdioccfeokaaGreatDoor
namespace Go.Proofs.YtnobdioccfeokaaGreatDoor
open Go.RowKit
set_option linter.unusedVariables false
set_option maxRecDepth 100000
set_option maxHeartbeats 4000000
attribute [local irreducible] ar Der At
def zX (to:List Int) (p:Int):Int:=if p<0 then p else atI to p
theorem D9 (p:Int) (to:List Int) (hp:p<to.length):FnD Tryz.prog 158 [.i p,DI to] (.d (.i (zX to p))):=by
 refine af Tryz.func158 (fun hw W0=>?_)
 refine kgo ?_
 refine cIf (fun h=>?_) (fun h=>?_)
 ·have h:=of_decide_eq_true h
  rw [show zX to p=p from if_pos h]
  refine kgo ?_
  exact aj
 ·have h:=of_decide_eq_false h
  rw [show zX to p=atI to p from if_neg h]
  refine kgo ?_
  exact aj
theorem Gm {sig:List Ctl} {r a:Big} {ns:List Int} (h:oK r a ns) (hr:aH sig r=true) (ha:aH sig a=true) (l:Int) (j:Nat) (hj:j<(aD r l).length):∃mm:Nat,∃hm:mm<a.nodes.length,(0≤((aD r l)[j]).1∧((aD r l)[j]).1<ns.length)∧atI ns ((aD r l)[j]).1=(mm:Int)∧(0≤((aD r l)[j]).2∧((aD r l)[j]).2<(a.nodes[mm]).links.length)∧gO a ns (aD r l)[j]=atI (a.nodes[mm]).links ((aD r l)[j]).2:=by
 obtain ⟨i,k,hi,hk,_,hq⟩:=d9.1 (List.getElem_mem hj)
 obtain ⟨mm,hm,hl,e1,e2⟩:=h.img hr ha hi hk
 have:=h.len
 refine ⟨mm,hm,by rw [hq];dsimp only;omega,by rw [hq];exact e1,by rw [hq];dsimp only;omega,?_⟩
 rw [hq,e2];exact (bF _ k hl).symm
theorem Ak {sig:List Ctl} {r a:Big} (m:Mat) (l:Nat) (hbr:aH sig r=true) (hba:aH sig a=true) (him:oK r a m.nodes) (hp0:aD r l≠[]):FnD Tryz.prog 222 [r.D,a.D,m.D,.i l] (.tp [.i (mC r a m.nodes l),.b (ic r a m.nodes l)]):=by
 have dr:=bw hbr
 have da:=bw hba
 have h0:0<(aD r l).length:=List.length_pos_iff.2 hp0
 have hpa:=Gm him hbr hba l
 have hpl:=di r l dr.3 dr.7
 have f1:=jU r l dr.3 dr.7
 have f2:=jU a (mC r a m.nodes l) da.3 da.7
 have hpl2:=di a (mC r a m.nodes l) da.3 da.7
 have hhead:mC r a m.nodes l=gO a m.nodes (aD r l)[0]:=vj _ _ _ h0
 have hla:ic r a m.nodes l=((aD r l).all (fun q=>decide (gO a m.nodes q=mC r a m.nodes l)) && (!(decide ((l:Int)<r.edges)) || (decide (mC r a m.nodes l<a.edges) && decide ((aD a (mC r a m.nodes l)).length=(aD r l).length)))):=rfl
 obtain ⟨m0,hm0,q1,q2,q3,q4⟩:=hpa 0 h0
 rw [q4] at hhead
 revert hla f2 hpl2 hhead
 generalize mC r a m.nodes l=im
 generalize ic r a m.nodes l=la
 generalize aD r l=ps at *
 intro f2 hpl2 hla hhead
 refine af Tryz.func222 (fun hw W0=>?_)
 refine kgo ?_
 refine cS (n:=m0) (fun _=>?_) rfl rfl (congrArg some q2)
 refine kgo ?_
 rw [← hhead]
 refine ai [3,4,5,6,10,11] (fun j:Nat=>1≤j∧j≤ps.length∧(ps.take j).all (fun q=>decide (gO a m.nodes q=im))=true) (fun j=>ps.length - j) (fun j=>[(12,.sy (.d (.i j)))]) 1 ⟨Nat.le_refl _,h0,by rw [List.take_succ_eq_append_getElem h0,List.take_zero,List.nil_append,List.all_cons,q4,hhead,decide_eq_true rfl];rfl⟩ (fun j hj=>?_)
 refine kgo ?_
 refine aJ (fun h2=>?_) (fun h2=>?_)
 ·have hlt:j<ps.length:=by omega
  obtain ⟨mj,hmj,p1,p2,p3,p4⟩:=hpa j hlt
  refine kgo ?_
  refine cS (n:=mj) (fun _=>?_) rfl rfl (congrArg some p2)
  refine kgo ?_
  rw [← p4]
  refine kp (fun h5=>?_) (fun h5=>?_)
  ·rw [show ps.all (fun q=>decide (gO a m.nodes q=im))=false from List.all_eq_false.2 ⟨_,List.getElem_mem hlt,by rw [decide_eq_false h5];exact Bool.false_ne_true⟩,Bool.false_and] at hla
   refine kgo ?_
   rw [hla]
   exact iS
  ·refine kgo ?_
   exact aa (j+1) ⟨by omega,hlt,by rw [List.take_succ_eq_append_getElem hlt,List.all_append,hj.2.2,List.all_cons,decide_eq_true h5];rfl⟩ (by omega)
 rw [fS _ _ j (by omega) hj.2.2,Bool.true_and] at hla
 refine kgo ?_
 refine aJ (fun h3=>?_) (fun h3=>?_)
 ·rw [decide_eq_true h3,Bool.not_true,Bool.false_or] at hla
  refine kgo ?_
  cases h4:decide (im<a.edges)
  ·rw [h4] at hla
   refine kgo ?_
   rw [hla]
   exact iS
  ·rw [h4] at hla
   refine kgo ?_
   rw [hla]
   rw [show decide ((aD a im).length=ps.length)=decide (((aD a im).length:Int)=(ps.length:Int)) from decide_eq_decide.2 (by omega)]
   exact iS
 ·rw [decide_eq_false h3] at hla
  refine kgo ?_
  rw [hla]
  exact iS
theorem ue {sig:List Ctl} {r a:Big} (m:Mat) (hbr:aH sig r=true) (hba:aH sig a=true) (him:oK r a m.nodes) (hp0:∀l:Nat,l<ak r→aD r l≠[]):FnD Tryz.prog 154 [r.D,a.D,m.D] (.tp [DI (ot r a m.nodes),.b (fX r a m.nodes)]):=by
 have hdr:=bl hbr
 have hlr:r.edges+(r.outer.length:Int)=(ak r:Nat):=by unfold ak;omega
 have hlb:ak r≤1000:=by unfold ak;omega
 refine af Tryz.func154 (fun hw W0=>?_)
 refine kgo ?_
 refine ai [3,4,5] (fun i:Nat=>i≤ak r∧(List.range i).all (ic r a m.nodes)=true) (fun i=>ak r - i) (fun i=>[(8,.sy (.k 20001)),(20001,.tk (.row 1 3 ((gF r a m.nodes i).map .i))),(9,.sy (.d (.i i)))]) 0 ⟨Nat.zero_le _,rfl⟩ (fun i hi=>?_)
 refine kgo ?_
 refine aJ (fun h=>?_) (fun h=>?_)
 ·have hlt:i<ak r:=by omega
  have f1:=Ak m i hbr hba him (hp0 i hlt)
  have hs:(gF r a m.nodes (i+1)).map D.i=(gF r a m.nodes i).map D.i++[.i (mC r a m.nodes i)]:=by rw [rJ,List.map_append];rfl
  have hil:(gF r a m.nodes i).length=i:=by unfold gF;simp
  refine kgo ?_
  refine cIf (fun h2=>?_) (fun h2=>?_)
  ·rw [Bool.not_eq_true'] at h2
   have hb:=kD hlt h2
   rw [lW hb,hb]
   repeat (first|(refine ca ?_;first|refine aM ?_|refine b6 ?_|refine aR ?_|refine bh ?_|refine aL ?_|refine bg ?_|refine aX ?_|refine az ?_|refine aV ?_)|(refine eG ?_;first|refine bH ?_|refine eC ?_|refine bP ?_|refine cb ?_)|(refine eT ?_;first|refine cS (fun _=>?_)|refine cd ?_|refine bR ?_|refine b9 ?_|refine bu ?_|refine bJ ?_|refine b8 ?_)|(refine eR ?_;first|refine ch ?_|refine d7 ?_|refine b7 ?_|refine bD ?_|refine bN ?_|refine bX ?_|refine bS ?_)|(refine eK ?_;first|refine eF ?_|refine eA ?_|refine bU ?_|refine bG ?_|refine eH ?_|refine bd ?_|refine bc ?_)|(refine bV ?_;first|refine cD (d:=6) ?_|refine ba ?_|refine bT ?_)|(refine eV ?_;first|refine dL (d:=6) ?_|refine bI ?_|refine bQ ?_|refine eJ ?_)|(refine bL ?_;first|refine bO ?_|refine aS ?_|refine aN ?_|refine aW ?_|refine aQ ?_|refine aY ?_)|(refine eE ?_;first|refine bZ ?_|refine eB ?_|refine be ?_|refine aP ?_|refine aU ?_)|(refine aK ?_;first|refine aq _ ?_|refine bf ?_|refine aw ?_|refine au ?_|refine ax ?_)|(refine eP ?_;first|refine bW ?_|refine bE ?_|refine bM ?_)|(refine gOp ?_;first|refine eD ?_|refine eM ?_|refine aZ ?_|refine eU ?_|refine eN ?_|refine bK ?_|refine aO ?_|refine cf ?_|refine eO ?_|refine bC ?_|refine bY ?_|refine aT ?_|refine ay ?_|refine cg ?_|refine sNo ?_|refine dU ?_|refine av ?_)|refine dY ?_|refine dq ?_|refine fj ?_|refine bj ?_|refine ci ?_|refine br ?_|refine fm ?_|refine fl ?_|refine eX ?_|refine dB ?_|refine ck ?_|refine bo ?_|refine aA ?_|refine bk ?_|refine ct ?_|refine bt ?_|refine aBlkX ?_|refine cm ?_)
   exact iS
  ·rw [Bool.not_eq_false'] at h2
   refine kgo ?_
   exact aa (i+1) ⟨hlt,by rw [cL,hi.2,h2];rfl⟩ (by omega)
 have hb:fX r a m.nodes=true:=fC _ _ i (by omega) hi.1 hi.2
 rw [kr hb,hb,show bi r a m.nodes=gF r a m.nodes i from by rw [show i=ak r by omega];rfl]
 repeat (first|(refine ca ?_;first|refine aM ?_|refine b6 ?_|refine aR ?_|refine bh ?_|refine aL ?_|refine bg ?_|refine aX ?_|refine az ?_|refine aV ?_)|(refine eG ?_;first|refine bH ?_|refine eC ?_|refine bP ?_|refine cb ?_)|(refine eT ?_;first|refine cS (fun _=>?_)|refine cd ?_|refine bR ?_|refine b9 ?_|refine bu ?_|refine bJ ?_|refine b8 ?_)|(refine eR ?_;first|refine ch ?_|refine d7 ?_|refine b7 ?_|refine bD ?_|refine bN ?_|refine bX ?_|refine bS ?_)|(refine eK ?_;first|refine eF ?_|refine eA ?_|refine bU ?_|refine bG ?_|refine eH ?_|refine bd ?_|refine bc ?_)|(refine bV ?_;first|refine cD (d:=6) ?_|refine ba ?_|refine bT ?_)|(refine eV ?_;first|refine dL (d:=6) ?_|refine bI ?_|refine bQ ?_|refine eJ ?_)|(refine bL ?_;first|refine bO ?_|refine aS ?_|refine aN ?_|refine aW ?_|refine aQ ?_|refine aY ?_)|(refine eE ?_;first|refine bZ ?_|refine eB ?_|refine be ?_|refine aP ?_|refine aU ?_)|(refine aK ?_;first|refine aq _ ?_|refine bf ?_|refine aw ?_|refine au ?_|refine ax ?_)|(refine eP ?_;first|refine bW ?_|refine bE ?_|refine bM ?_)|(refine gOp ?_;first|refine eD ?_|refine eM ?_|refine aZ ?_|refine eU ?_|refine eN ?_|refine bK ?_|refine aO ?_|refine cf ?_|refine eO ?_|refine bC ?_|refine bY ?_|refine aT ?_|refine ay ?_|refine cg ?_|refine sNo ?_|refine dU ?_|refine av ?_)|refine dY ?_|refine dq ?_|refine fj ?_|refine bj ?_|refine ci ?_|refine br ?_|refine fm ?_|refine fl ?_|refine eX ?_|refine dB ?_|refine ck ?_|refine bo ?_|refine aA ?_|refine bk ?_|refine ct ?_|refine bt ?_|refine aBlkX ?_|refine cm ?_)
 exact iS
end Go.Proofs.YtnobdioccfeokaaGreatDoor
namespace Go.Proofs.YtnobdioccfeokaaGreatDoor
open Go.RowKit
set_option linter.unusedVariables false
set_option maxRecDepth 100000
set_option maxHeartbeats 4000000
attribute [local irreducible] ar Der At
def fy (ims:List Int) (re l:Nat):Bool:=!fp (ims.take re) l
def iO (f:Nat→Bool) (n:Nat):Int:=((List.range n).filter f).length
def jd (f:Nat→Bool) (n:Nat):List Int:=(List.range n).map fun l=>if f l=true then iO f l else -1
theorem zk (f:Nat→Bool) (n:Nat):jd f (n+1)=jd f n++[if f n=true then iO f n else -1]:=by unfold jd;rw [List.range_succ,List.map_append];rfl
theorem zu (f:Nat→Bool) (n:Nat):iO f (n+1)=if f n=true then iO f n+1 else iO f n:=by
 unfold iO
 rw [List.range_succ,List.filter_append]
 by_cases h:f n=true <;> simp [h]
theorem xt (f:Nat→Bool) (n:Nat):0≤iO f n∧iO f n≤n:=by
 unfold iO
 have:=List.length_filter_le f (List.range n)
 rw [List.length_range] at this
 omega
def Fo (a:Big) (ns:List Int) (k:Nat):Bool:=!il a ns k
def dm (a:Big) (ns:List Int) (n:Nat):List Bool:=(List.range n).map (Fo a ns)
theorem vU (a:Big) (ns:List Int) (n:Nat):dm a ns (n+1)=dm a ns n++[Fo a ns n]:=by unfold dm;rw [List.range_succ,List.map_append];rfl
theorem Eb (row:List Bool) (v:Bool) (n:Nat):atN row v (n+1)=if tkF row v n=true then atN row v n+1 else atN row v n:=by
 unfold atN
 rw [List.range_succ,List.filter_append]
 by_cases h:tkF row v n=true <;> simp [h]
theorem H0 (row:List Bool) (v:Bool) (n:Nat):0≤atN row v n∧atN row v n≤n:=by
 unfold atN
 have:=List.length_filter_le (tkF row v) (List.range n)
 rw [List.length_range] at this
 omega
def toK (row:List Bool) (i k:Nat):List Int:=atL row true i++[atN row true k]
theorem F0 (row:List Bool) (i k:Nat):(toK row i k).length=i+1:=by unfold toK;rw [List.length_append,jf];rfl
theorem Id (row:List Bool) (i k:Nat) (h:i<(toK row i k).length):(toK row i k)[i]=atN row true k:=by
 have h1:(toK row i k)[i]? = some (atN row true k):=by
  unfold toK
  rw [List.getElem?_append_right (by rw [jf];exact Nat.le_refl _),jf,Nat.sub_self];rfl
 rw [List.getElem?_eq_getElem h] at h1
 exact Option.some.inj h1
theorem FO (row:List Bool) (i k:Nat) (x:Int) (hx:atN row true (k+1)=x):(toK row i k).set i x=toK row i (k+1):=by
 unfold toK
 rw [List.set_append_right _ _ (by rw [jf];exact Nat.le_refl _),jf,Nat.sub_self,hx];rfl
def lR (r a:Big) (ns:List Int):List Int:=jd (fy (bi r a ns) r.edges.toNat) a.edges.toNat++fb (iO (fy (bi r a ns) r.edges.toNat) a.edges.toNat) a.outer.length
def pm (r:Big) (lk ims:List Int):List Wr:=r.outer.mapIdx fun i s=>⟨s,atI lk (atI ims (r.edges+i))⟩
def zW (lk ps:List Int) (names:List ByteArray):List Wr:=names.mapIdx fun i s=>⟨s,atI lk (atI ps i)⟩
def Hd (r a:Big) (m:Mat) (ps:List Int) (names:List ByteArray):Big:=
 ⟨a.roots,gD a (dm a m.nodes a.nodes.length) true false (lR r a m.nodes) a.nodes.length,m.roots.map (zX (atL (dm a m.nodes a.nodes.length) true a.nodes.length)),iO (fy (bi r a m.nodes) r.edges.toNat) a.edges.toNat,a.outer,cu (pm r (lR r a m.nodes) (bi r a m.nodes)) (zW (lR r a m.nodes) ps names)⟩
theorem Bp {sig:List Ctl} {r a:Big} {ns:List Int} (h:oK r a ns) (hr:aH sig r=true) (ha:aH sig a=true) {l:Int} (hp:aD r l≠[]):fw a (mC r a ns l)=true:=by
 cases hc:aD r l with
 | nil=>exact absurd hc hp
 | cons q u=>
  have h1:=h.img_link hr ha (q:=q) (l:=l) (by rw [hc];simp)
  rwa [show mC r a ns l=gO a ns q from by unfold mC;rw [hc]]
theorem z7 {sig:List Ctl} {r a:Big} {ns:List Int} (h:oK r a ns) (hr:aH sig r=true) (ha:aH sig a=true) (hp0:∀l:Nat,l<ak r→aD r l≠[]) (j:Int) (h0:0≤j) (h1:j<(ak r:Int)):0≤atI (bi r a ns) j∧atI (bi r a ns) j<(ak a:Int):=by
 obtain ⟨k,rfl⟩:=Int.eq_ofNat_of_zero_le h0
 have hk:k<(bi r a ns).length:=by unfold bi;simp;omega
 rw [bF _ k hk,show (bi r a ns)[k]=mC r a ns k from by simp [bi]]
 obtain ⟨n,h2,h3⟩:=iC (Bp h hr ha (hp0 k (by omega)))
 rw [h2];omega
theorem uD (a b:List Wr) (w:Wr):cu a (b++[w])=cu (cu a b) [w]:=by unfold cu;rw [List.foldl_append]
theorem B8 (r:Big) (lk ims:List Int) (i:Nat) (h:i<r.outer.length):(pm r lk ims).take (i+1)=(pm r lk ims).take i++[⟨r.outer[i],atI lk (atI ims (r.edges+i))⟩]:=by
 have hl:i<(pm r lk ims).length:=by unfold pm;simpa using h
 rw [List.take_succ_eq_append_getElem hl];simp [pm]
theorem FE (lk ps:List Int) (names:List ByteArray) (i:Nat) (h:i<names.length):(zW lk ps names).take (i+1)=(zW lk ps names).take i++[⟨names[i],atI lk (atI ps i)⟩]:=by
 have hl:i<(zW lk ps names).length:=by unfold zW;simpa using h
 rw [List.take_succ_eq_append_getElem hl];simp [zW]
theorem vi {sig:List Ctl} {r a:Big} (m:Mat) (hbr:aH sig r=true) (hba:aH sig a=true) (him:oK r a m.nodes) (hp0:∀l:Nat,l<ak r→aD r l≠[]) (hL:fX r a m.nodes=true) (hrt:∀p∈m.roots,p<(a.nodes.length:Int)) (hrl:m.roots.length≤1000) (ps:List Int) (names:List ByteArray) (hps:∀l∈ps,0≤l∧l<(ak a:Int)) (hnm:names.length=ps.length) (hpl:ps.length≤500):FnD Tryz.prog 99 [r.D,a.D,m.D,DI ps,DS names] (.d (Hd r a m ps names).D):=by
 have f1:=ue m hbr hba him hp0
 rw [hL,kr hL] at f1
 have ha:=bl hba
 have hr:=bl hbr
 obtain ⟨ae,hae⟩:=Int.eq_ofNat_of_zero_le ha.2.2.2.1.1
 obtain ⟨re,hre⟩:=Int.eq_ofNat_of_zero_le hr.2.2.2.1.1
 have hil:(bi r a m.nodes).length=ak r:=by unfold bi;simp
 have hix:=z7 him hbr hba hp0
 have hE:Hd r a m ps names=⟨a.roots,gD a (dm a m.nodes a.nodes.length) true false (lR r a m.nodes) a.nodes.length,m.roots.map (zX (atL (dm a m.nodes a.nodes.length) true a.nodes.length)),iO (fy (bi r a m.nodes) re) ae,a.outer,cu (pm r (lR r a m.nodes) (bi r a m.nodes)) (zW (lR r a m.nodes) ps names)⟩:=by unfold Hd;rw [hae,hre];rfl
 have hlkE:lR r a m.nodes=jd (fy (bi r a m.nodes) re) ae++fb (iO (fy (bi r a m.nodes) re) ae) a.outer.length:=by unfold lR;rw [hae,hre];rfl
 have hna:ak a=ae+a.outer.length:=by unfold ak;omega
 have hnr:ak r=re+r.outer.length:=by unfold ak;omega
 have hlkl:(lR r a m.nodes).length=ak a:=by rw [hlkE,List.length_append,eI,hna];unfold jd;simp
 have hup:=fun i h=>(iE hba i h).2
 have hnode:=e9 hba
 have hnl:∀n∈a.nodes,n.links.length≤1000∧∀l∈n.links,0≤l∧l<(ak a:Int):=fun n hn=>by
  obtain ⟨k,hk,rfl⟩:=List.mem_iff_getElem.1 hn
  obtain ⟨_,_,_,c3,c4⟩:=hnode k hk
  refine ⟨by have:=(bw hba).7 k hk;omega,fun l hl=>?_⟩
  obtain ⟨j,rfl,hj⟩:=iC (c4 l hl)
  omega
 rw [hE]
 clear hE
 revert f1 hil hix hlkE hlkl
 generalize bi r a m.nodes=ims
 generalize lR r a m.nodes=lk
 intro f1 hil hix hlkE hlkl
 refine af Tryz.func99 (fun hw W0=>?_)
 repeat (first|(refine ca ?_;first|refine aM ?_|refine b6 ?_|refine aR ?_|refine bh ?_|refine aL ?_|refine bg ?_|refine aX ?_|refine az ?_|refine aV ?_)|(refine eG ?_;first|refine bH ?_|refine eC ?_|refine bP ?_|refine cb ?_)|(refine eT ?_;first|refine cS (fun _=>?_)|refine cd ?_|refine bR ?_|refine b9 ?_|refine bu ?_|refine bJ ?_|refine b8 ?_)|(refine eR ?_;first|refine ch ?_|refine d7 ?_|refine b7 ?_|refine bD ?_|refine bN ?_|refine bX ?_|refine bS ?_)|(refine eK ?_;first|refine eF ?_|refine eA ?_|refine bU ?_|refine bG ?_|refine eH ?_|refine bd ?_|refine bc ?_)|(refine bV ?_;first|refine ba ?_|refine bT ?_)|(refine eV ?_;first|refine bI ?_|refine bQ ?_|refine eJ ?_)|(refine bL ?_;first|refine bO ?_|refine aS ?_|refine aN ?_|refine aW ?_|refine aQ ?_|refine aY ?_)|(refine eE ?_;first|refine bZ ?_|refine eB ?_|refine be ?_|refine aP ?_|refine aU ?_)|(refine aK ?_;first|refine aq _ ?_|refine bf ?_|refine aw ?_|refine au ?_|refine ax ?_)|(refine eP ?_;first|refine bW ?_|refine bE ?_|refine bM ?_)|(refine gOp ?_;first|refine eD ?_|refine eM ?_|refine aZ ?_|refine eU ?_|refine eN ?_|refine bK ?_|refine aO ?_|refine cf ?_|refine eO ?_|refine bC ?_|refine bY ?_|refine aT ?_|refine sFz 36 ?_|refine ay ?_|refine cg ?_|refine sNo ?_|refine dU ?_|refine av ?_)|refine dY ?_|refine dq ?_|refine fj ?_|refine bj ?_|refine ci ?_|refine br ?_|refine fm ?_|refine fl ?_|refine eX ?_|refine dB ?_|refine ck ?_|refine bo ?_|refine aA ?_|refine bk ?_|refine ct ?_|refine bt ?_|refine aBlkX ?_|refine cm ?_|refine sFz 36 ?_)
 refine ai [3,4,5,6,7,10,11,13] (fun i:Nat=>i≤ae) (fun i=>ae - i) (fun i=>[(10013,.tk (.bx [.d (.i a.roots),.d (.n 3),.d (.n 1),.d (.i (iO (fy ims re) i)),.d (DS a.outer),.d (.n 2)])),(14,.sy (.k 10038)),(10038,.tk (.row 1 3 ((jd (fy ims re) i).map .i))),(15,.sy (.d (.i i)))]) 0 (Nat.zero_le _) (fun i hi=>?_)
 refine kgo ?_
 refine aJ (fun h=>?_) (fun h=>?_)
 ·have hlt:i<ae:=by omega
  have f2:=jJ (ims.take re) i
  have hq:=zk (fy ims re) i
  have hn1:=zu (fy ims re) i
  have hn2:=xt (fy ims re) i
  have hkl:(jd (fy ims re) i).length=i:=by unfold jd;simp
  refine kgo ?_
  refine bE (n:=re) ?_ rfl rfl (congrArg some hre)
  cases hk:fp (ims.take re) i
  ·rw [hk] at f2
   have hf:fy ims re i=true:=by unfold fy;rw [hk];rfl
   rw [if_pos hf] at hq hn1
   have hs:(jd (fy ims re) (i+1)).map D.i=(jd (fy ims re) i).map D.i++[.i (iO (fy ims re) i)]:=by rw [hq,List.map_append];rfl
   refine kgo ?_
   rw [← hn1]
   exact aa (i+1) hlt (by omega)
  ·rw [hk] at f2
   have hf:¬fy ims re i=true:=by unfold fy;rw [hk];exact Bool.false_ne_true
   rw [if_neg hf] at hq hn1
   have hs:(jd (fy ims re) (i+1)).map D.i=(jd (fy ims re) i).map D.i++[.i (-1)]:=by rw [hq,List.map_append];rfl
   refine kgo ?_
   rw [← hn1]
   exact aa (i+1) hlt (by omega)
 rw [show i=ae by omega]
 have hkn:=xt (fy ims re) ae
 have f3:=gK (iO (fy ims re) ae) a.outer.length (by omega) (by omega)
 rw [Int.toNat_natCast] at f3
 have hkl:(jd (fy ims re) ae).length=ae:=by unfold jd;simp
 have hfl:=eI (iO (fy ims re) ae) a.outer.length
 have hlkD:lk.map D.i=(jd (fy ims re) ae++fb (iO (fy ims re) ae) a.outer.length).map D.i:=by rw [hlkE]
 have hmove:∀p∈m.roots,FnD Tryz.prog 158 [.i p,DI (atL (dm a m.nodes a.nodes.length) true a.nodes.length)] (.d (.i (zX (atL (dm a m.nodes a.nodes.length) true a.nodes.length) p))):=fun p hp=>D9 p _ (by rw [jf];exact hrt p hp)
 have hrr:∀k,k<a.nodes.length→tkF (dm a m.nodes a.nodes.length) true k=Fo a m.nodes k:=fun k hk=>by
  rw [uh _ _ _ (by unfold dm;simpa using hk)]
  simp [dm]
 have hrrl:(dm a m.nodes a.nodes.length).length=a.nodes.length:=by unfold dm;simp
 have f5:=wZ a (dm a m.nodes a.nodes.length) true false lk (by omega) (by omega) hup (fun n hn=>(hnl n hn).1) (fun n hn l hl=>by rw [hlkl];exact (hnl n hn).2 l hl)
 revert hmove hrr hrrl f5
 generalize hgr:dm a m.nodes a.nodes.length=rr
 intro hmove hrr hrrl f5
 repeat (first|(refine ca ?_;first|refine aM ?_|refine b6 ?_|refine aR ?_|refine bh ?_|refine aL ?_|refine bg ?_|refine aX ?_|refine az ?_|refine aV ?_)|(refine eG ?_;first|refine bH ?_|refine eC ?_|refine bP ?_|refine cb ?_)|(refine eT ?_;first|refine cS (fun _=>?_)|refine cd ?_|refine bR ?_|refine b9 ?_|refine bu ?_|refine bJ ?_|refine b8 ?_)|(refine eR ?_;first|refine ch ?_|refine d7 ?_|refine b7 ?_|refine bD ?_|refine bN ?_|refine bX ?_|refine bS ?_)|(refine eK ?_;first|refine eF ?_|refine eA ?_|refine bU ?_|refine bG ?_|refine eH ?_|refine bd ?_|refine bc ?_)|(refine bV ?_;first|refine ba ?_|refine bT ?_)|(refine eV ?_;first|refine bI ?_|refine bQ ?_|refine eJ ?_)|(refine bL ?_;first|refine bO ?_|refine aS ?_|refine aN ?_|refine aW ?_|refine aQ ?_|refine aY ?_)|(refine eE ?_;first|refine bZ ?_|refine eB ?_|refine be ?_|refine aP ?_|refine aU ?_)|(refine aK ?_;first|refine aq _ ?_|refine bf ?_|refine aw ?_|refine au ?_|refine ax ?_)|(refine eP ?_;first|refine bW ?_|refine bE ?_|refine bM ?_)|(refine gOp ?_;first|refine eD ?_|refine eM ?_|refine aZ ?_|refine eU ?_|refine eN ?_|refine bK ?_|refine aO ?_|refine cf ?_|refine eO ?_|refine bC ?_|refine bY ?_|refine aT ?_|refine sFz 69 ?_|refine ay ?_|refine cg ?_|refine sNo ?_|refine dU ?_|refine av ?_)|refine dY ?_|refine dq ?_|refine fj ?_|refine bj ?_|refine ci ?_|refine br ?_|refine fm ?_|refine fl ?_|refine eX ?_|refine dB ?_|refine ck ?_|refine bo ?_|refine aA ?_|refine bk ?_|refine ct ?_|refine bt ?_|refine aBlkX ?_|refine cm ?_|refine sFz 69 ?_)
 rw [← hlkE]
 refine ai [3,4,5,6,7,10,11,13,14] (fun i:Nat=>i≤a.nodes.length) (fun i=>a.nodes.length - i) (fun i=>[(16,.sy (.k 10071)),(10071,.tk (.row 1 4 ((dm a m.nodes i).map .b))),(17,.sy (.k 10072)),(10072,.tk (.row 1 3 ((atL rr true i).map .i))),(18,.sy (.d (.i i)))]) 0 (Nat.zero_le _) (fun i hi=>?_)
 refine kgo ?_
 refine aJ (fun h=>?_) (fun h=>?_)
 ·have hlt:i<a.nodes.length:=by omega
  have hal:=jf rr true i
  have hol:(dm a m.nodes i).length=i:=by unfold dm;simp
  have hs0:(toK rr i 0).map D.i=(atL rr true i).map D.i++[.i 0]:=by unfold toK;rw [List.map_append];rfl
  refine kgo ?_
  refine ai [3,4,5,6,7,10,11,13,14,16,17,18] (fun k:Nat=>k≤i) (fun k=>i - k) (fun k=>[(17,.sy (.k 10082)),(10082,.tk (.row 1 3 ((toK rr i k).map .i))),(19,.sy (.d (.i k)))]) 0 (Nat.zero_le _) (fun k hk=>?_)
  refine kgo ?_
  refine aJ (fun h2=>?_) (fun h2=>?_)
  ·have hki:k<i:=by omega
   have hkr:k<(dm a m.nodes i).length:=by omega
   have hek:(dm a m.nodes i)[k]=tkF rr true k:=by rw [hrr k (by omega)];simp [dm]
   have htl:=F0 rr i k
   have hsn:=Eb rr true k
   have hnl:=H0 rr true k
   have hil:i<(toK rr i k).length:=by omega
   have hat:=Id rr i k hil
   have hb:I64 ((toK rr i k)[i]+1):=by rw [hat];unfold I64;omega
   refine kgo ?_
   refine cIf (fun h3=>?_) (fun h3=>?_)
   ·rw [hek] at h3
    rw [if_pos h3] at hsn
    have hst:=FO rr i k ((toK rr i k)[i]+1) (by rw [hat];exact hsn)
    refine kgo ?_
    rw [hst]
    exact aa (k+1) hki (by omega)
   ·rw [hek] at h3
    rw [if_neg (by rw [h3];exact Bool.false_ne_true)] at hsn
    have hs2:(toK rr i (k+1)).map D.i=(toK rr i k).map D.i:=by unfold toK;rw [hsn]
    refine kgo ?_
    exact aa (k+1) hki (by omega)
  ·have hki:k=i:=by omega
   subst hki
   have f6:=na hba m k (by omega)
   have hs3:(dm a m.nodes (k+1)).map D.b=(dm a m.nodes k).map D.b++[.b (!il a m.nodes k)]:=by rw [vU,List.map_append];rfl
   have hs4:(atL rr true (k+1)).map D.i=(toK rr k k).map D.i:=by rw [xa];rfl
   refine kgo ?_
   exact aa (k+1) hlt (by omega)
 have hie:i=a.nodes.length:=by omega
 subst hie
 rw [hgr]
 repeat (first|refine cFz 14 ?_|refine cFz 16 ?_|refine cFz 17 ?_|(refine ca ?_;first|refine aM ?_|refine b6 ?_|refine aR ?_|refine bh ?_|refine aL ?_|refine bg ?_|refine aX ?_|refine az ?_|refine aV ?_)|(refine eG ?_;first|refine bH ?_|refine eC ?_|refine bP ?_|refine cb ?_)|(refine eT ?_;first|refine cS (fun _=>?_)|refine cd ?_|refine bR ?_|refine b9 ?_|refine bu ?_|refine bJ ?_|refine b8 ?_)|(refine eR ?_;first|refine ch ?_|refine d7 ?_|refine b7 ?_|refine bD ?_|refine bN ?_|refine bX ?_|refine bS ?_)|(refine eK ?_;first|refine eF ?_|refine eA ?_|refine bU ?_|refine bG ?_|refine eH ?_|refine bd ?_|refine bc ?_)|(refine bV ?_;first|refine ba ?_|refine bT ?_)|(refine eV ?_;first|refine bI ?_|refine bQ ?_|refine eJ ?_)|(refine bL ?_;first|refine bO ?_|refine aS ?_|refine aN ?_|refine aW ?_|refine aQ ?_|refine aY ?_)|(refine eE ?_;first|refine bZ ?_|refine eB ?_|refine be ?_|refine aP ?_|refine aU ?_)|(refine aK ?_;first|refine aq _ ?_|refine bf ?_|refine aw ?_|refine au ?_|refine ax ?_)|(refine eP ?_;first|refine bW ?_|refine bE ?_|refine bM ?_)|(refine gOp ?_;first|refine eD ?_|refine eM ?_|refine aZ ?_|refine eU ?_|refine eN ?_|refine bK ?_|refine aO ?_|refine cf ?_|refine eO ?_|refine bC ?_|refine bY ?_|refine aT ?_|refine ay ?_|refine cg ?_|refine sNo ?_|refine dU ?_|refine av ?_)|refine dY ?_|refine dq ?_|refine fj ?_|refine bj ?_|refine ci ?_|refine br ?_|refine fm ?_|refine fl ?_|refine eX ?_|refine dB ?_|refine ck ?_|refine bo ?_|refine aA ?_|refine bk ?_|refine ct ?_|refine bt ?_|refine aBlkX ?_|refine cm ?_)
 refine pI 10013 1 ?_
 refine oH 10013 2 20001 3 ?_
 refine ai [3,4,5,7,10,11,13,14,17] (fun i:Nat=>i≤m.roots.length) (fun i=>m.roots.length - i) (fun i=>[(10013,.tk (.bx [.d (.i a.roots),.d (.l 3 ((gD a rr true false lk a.nodes.length).map Nd.D)),.k 20001,.d (.i (iO (fy ims re) ae)),.d (DS a.outer),.d (.n 2)])),(20001,.tk (.row 1 3 (((m.roots.take i).map (zX (atL rr true a.nodes.length))).map .i))),(20,.sy (.d (.i i)))]) 0 (Nat.zero_le _) (fun i hi=>?_)
 refine kgo ?_
 refine aJ (fun h=>?_) (fun h=>?_)
 ·have hlt:i<m.roots.length:=by omega
  have f6:=hmove _ (List.getElem_mem hlt)
  have hs:((m.roots.take (i+1)).map (zX (atL rr true a.nodes.length))).map D.i=((m.roots.take i).map (zX (atL rr true a.nodes.length))).map D.i++[.i (zX (atL rr true a.nodes.length) m.roots[i])]:=by rw [List.take_succ_eq_append_getElem hlt,List.map_append,List.map_append];rfl
  have hq:((m.roots.take i).map (zX (atL rr true a.nodes.length))).length≤1000:=by rw [List.length_map,List.length_take];omega
  refine kgo ?_
  exact aa (i+1) hlt (by omega)
 rw [show m.roots.take i=m.roots from List.take_of_length_le (by omega)]
 refine pI 10013 2 ?_
 refine kgo ?_
 refine ai [3,4,5,10,11,13,14] (fun i:Nat=>i≤r.outer.length) (fun i=>r.outer.length - i) (fun i=>[(21,.sy (.k 20002)),(20002,.tk (.row 2 155 (((pm r lk ims).take i).map Wr.D))),(22,.sy (.d (.i i)))]) 0 (Nat.zero_le _) (fun i hi=>?_)
 refine kgo ?_
 refine aJ (fun h=>?_) (fun h=>?_)
 ·have hlt:i<r.outer.length:=by omega
  have hx:=hix (r.edges+i) (by omega) (by omega)
  have hs:((pm r lk ims).take (i+1)).map Wr.D=((pm r lk ims).take i).map Wr.D++[Wr.D ⟨r.outer[i],atI lk (atI ims (r.edges+i))⟩]:=by rw [B8 r lk ims i hlt,List.map_append];rfl
  have hq:((pm r lk ims).take i).length≤1000:=by rw [List.length_take];omega
  refine kgo ?_
  exact aa (i+1) hlt (by omega)
 have hol:(pm r lk ims).length=r.outer.length:=by unfold pm;simp
 rw [show (pm r lk ims).take i=pm r lk ims from List.take_of_length_le (by omega)]
 refine cFz 21 ?_
 refine kgo ?_
 refine ai [3,4,10,13,14] (fun i:Nat=>i≤ps.length) (fun i=>ps.length - i) (fun i=>[(21,.sy (.d (.l 2 ((cu (pm r lk ims) ((zW lk ps names).take i)).map Wr.D)))),(23,.sy (.d (.i i)))]) 0 (Nat.zero_le _) (fun i hi=>?_)
 refine kgo ?_
 refine aJ (fun h=>?_) (fun h=>?_)
 ·have hlt:i<ps.length:=by omega
  have hltn:i<names.length:=by omega
  have hx:=hps _ (List.getElem_mem hlt)
  have hl:(cu (pm r lk ims) ((zW lk ps names).take i)).length≤1000:=by have:=kl (pm r lk ims) ((zW lk ps names).take i);rw [List.length_take] at this;omega
  have f6:FnD Tryz.prog 159 [.l 2 ((cu (pm r lk ims) ((zW lk ps names).take i)).map Wr.D),.l 2 ([(⟨names[i],atI lk ps[i]⟩:Wr)].map Wr.D)] (.d (.l 2 ((cu (pm r lk ims) ((zW lk ps names).take (i+1))).map Wr.D))):=by
   rw [FE lk ps names i hltn,uD,bF ps i hlt]
   exact ut _ _ hl (by simp)
  repeat (first|(refine ca ?_;first|refine aM ?_|refine b6 ?_|refine aR ?_|refine bh ?_|refine aL ?_|refine bg ?_|refine aX ?_|refine az ?_|refine aV ?_)|(refine eG ?_;first|refine bH ?_|refine eC ?_|refine bP ?_|refine cb ?_)|(refine eT ?_;first|refine cS (fun _=>?_)|refine cd ?_|refine bR ?_|refine b9 ?_|refine bu ?_|refine bJ ?_|refine b8 ?_)|(refine eR ?_;first|refine ch ?_|refine d7 ?_|refine b7 ?_|refine bD ?_|refine bN ?_|refine bX ?_|refine bS ?_)|(refine eK ?_;first|refine eF ?_|refine eA ?_|refine bU ?_|refine bG ?_|refine eH ?_|refine bd ?_|refine bc ?_)|(refine bV ?_;first|refine ba ?_|refine bT ?_)|(refine eV ?_;first|refine bI ?_|refine bQ ?_|refine eJ ?_)|(refine bL ?_;first|refine bO ?_|refine aS ?_|refine aN ?_|refine aW ?_|refine aQ ?_|refine aY ?_)|(refine eE ?_;first|refine bZ ?_|refine eB ?_|refine be ?_|refine aP ?_|refine aU ?_)|(refine aK ?_;first|refine aq _ ?_|refine bf ?_|refine aw ?_|refine au ?_|refine ax ?_)|(refine eP ?_;first|refine bW ?_|refine bE ?_|refine bM ?_)|(refine gOp ?_;first|refine eD ?_|refine eM ?_|refine aZ ?_|refine eU ?_|refine eN ?_|refine bK ?_|refine aO ?_|refine cf ?_|refine eO ?_|refine bC ?_|refine bY ?_|refine aT ?_|refine sFz 178 ?_|refine ay ?_|refine cg ?_|refine sNo ?_|refine dU ?_|refine av ?_)|refine dY ?_|refine dq ?_|refine fj ?_|refine bj ?_|refine ci ?_|refine br ?_|refine fm ?_|refine fl ?_|refine eX ?_|refine dB ?_|refine ck ?_|refine bo ?_|refine aA ?_|refine bk ?_|refine ct ?_|refine bt ?_|refine aBlkX ?_|refine cm ?_|refine sFz 178 ?_)
  exact aa (i+1) hlt (by omega)
 have hzl:(zW lk ps names).length=ps.length:=by unfold zW;simpa using hnm
 rw [show (zW lk ps names).take i=zW lk ps names from List.take_of_length_le (by omega)]
 refine kgo ?_
 exact aj
end Go.Proofs.YtnobdioccfeokaaGreatDoor
namespace Go.Proofs.YtnobdioccfeokaaGreatDoor
open Go.RowKit
set_option linter.unusedVariables false
set_option maxRecDepth 100000
set_option maxHeartbeats 4000000
attribute [local irreducible] ar Der At
def psF (a:Big) (ns:List Int) (l:Nat):Bool:=decide (0<mT (dX a ns a.nodes.length) true (aD a l))
theorem vr (f:Nat→Bool) (n:Nat):idxOf f (n+1)=if f n=true then idxOf f n++[(n:Int)] else idxOf f n:=by
 unfold idxOf
 rw [List.range_succ,List.filter_append]
 by_cases h:f n=true <;> simp [h]
theorem wX {α:Type} [DecidableEq α]:∀(xs ys:List α),xs.Nodup→(∀x∈xs,x∈ys)→xs.length≤ys.length
 | [],_,_,_=>Nat.zero_le _
 | x :: xs,ys,h,hs=>by
  have h1:=List.nodup_cons.1 h
  have hx:=hs x (by simp)
  have h2:=wX xs (ys.erase x) h1.2 (fun y hy=>(List.mem_erase_of_ne (fun (e:y=x)=>h1.1 (by rw [← e];exact hy))).2 (hs y (by simp [hy])))
  rw [List.length_erase_of_mem hx] at h2
  have:=List.length_pos_of_mem hx
  rw [List.length_cons];omega
def k7 (outer:List ByteArray) (n:Nat):List ByteArray:=((List.range n).filter (lA outer)).map mJ
theorem oN (outer:List ByteArray) (n:Nat):k7 outer (n+1)=if lA outer n=true then k7 outer n++[mJ n] else k7 outer n:=by
 unfold k7
 rw [List.range_succ,List.filter_append]
 by_cases h:lA outer n=true <;> simp [h]
theorem AK:∀i j:Fin 26,mJ i=mJ j→i=j:=by decide
theorem ul:∀i:Fin 26,(⟨#[122]⟩:ByteArray) ++ ⟨#[UInt8.ofNat (97+i)]⟩=mJ i:=by decide
theorem xy (f:Nat→Bool):∀n,((List.range n).filter f).length+((List.range n).filter (fun i=>!f i)).length=n
 | 0=>rfl
 | n+1=>by
  have:=xy f n
  rw [List.range_succ,List.filter_append,List.filter_append]
  cases h:f n <;> simp [h] <;> omega
theorem A8 (outer:List ByteArray) (n:Nat) (hn:n≤26):n≤(k7 outer n).length+outer.length:=by
 have h1:=xy (lA outer) n
 have h2:(((List.range n).filter (fun i=>!lA outer i)).map mJ).length≤outer.length:=wX _ _ (by
  refine List.pairwise_map.2 (List.Pairwise.imp_of_mem (fun {x y} hx hy hne e=>hne ?_) (List.nodup_range.filter _))
  have hx:=List.mem_range.1 (List.mem_filter.1 hx).1
  have hy:=List.mem_range.1 (List.mem_filter.1 hy).1
  exact congrArg Fin.val (AK ⟨x,by omega⟩ ⟨y,by omega⟩ e)) (fun s hs=>by
  obtain ⟨i,hi,rfl⟩:=List.mem_map.1 hs
  have h3:=(List.mem_filter.1 hi).2
  unfold lA at h3
  rw [Bool.not_not] at h3
  obtain ⟨x,hx,e⟩:=List.any_eq_true.1 h3
  rw [beq_iff_eq] at e
  rw [← fN e];exact hx)
 rw [List.length_map] at h2
 unfold k7
 rw [List.length_map]
 omega
theorem tC (outer:List ByteArray) (i:Nat):∀d,∃t,k7 outer (i+d)=k7 outer i++t
 | 0=>⟨[],by simp⟩
 | d+1=>by
  obtain ⟨t,h⟩:=tC outer i d
  rw [show i+(d+1)=(i+d)+1 from rfl,oN,h]
  by_cases hf:lA outer (i+d)=true
  ·exact ⟨t++[mJ (i+d)],by rw [if_pos hf,List.append_assoc]⟩
  ·exact ⟨t,by rw [if_neg hf]⟩
theorem tM (outer:List ByteArray) (i:Nat) (hi:i≤26):cj outer (k7 outer i).length=k7 outer i:=by
 obtain ⟨t,h⟩:=tC outer i (26 - i)
 rw [show i+(26 - i)=26 by omega] at h
 show (k7 outer 26).take _=_
 rw [h];simp
def dR (r a:Big) (ns:List Int):List Int × List ByteArray × Bool:=
 if decide (16<((idxOf (psF a ns) (ak a)).length:Int)+r.outer.length) then ([],[],false) else (idxOf (psF a ns) (ak a),cj r.outer (idxOf (psF a ns) (ak a)).length,true)
theorem zG {sig:List Ctl} {r a:Big} (hB:aH sig a=true) (m:Mat) (hro:r.outer.length≤1000):FnD Tryz.prog 98 [r.D,a.D,m.D] (.tp [DI (dR r a m.nodes).1,DS (dR r a m.nodes).2.1,.b (dR r a m.nodes).2.2]):=by
 have ha:=bl hB
 have f1:=mq hB m
 have hpl:(dX a m.nodes a.nodes.length).length=a.nodes.length:=by simp [dX]
 have hll:=(bw hB).links
 refine af Tryz.func98 (fun hw W0=>?_)
 refine kgo ?_
 refine eS (fun i:Nat=>i≤ak a) (fun i=>ak a - i) (fun i=>[(3,.sy (.bx 10003 0)),(10003,.tk (.bx (ij r.D))),(4,.sy (.bx 10004 0)),(10004,.tk (.bx (ij a.D))),(9,.sy (.k 10015)),(10015,.tk (.row 1 3 (idxOf (psF a m.nodes) i |>.map .i))),(10,.sy (.k 10016)),(10016,.tk (.row 1 9 [])),(11,.sy (.d (.l 1 ((dX a m.nodes a.nodes.length).map .b)))),(12,.sy (.d (.i i)))]) 0 (Nat.zero_le _) (fun i hi=>?_)
 have hln:(ak a:Int)=a.edges+a.outer.length:=by unfold ak;omega
 refine kgo ?_
 refine cIf (fun h=>?_) (fun h=>?_)
 ·have h:=of_decide_eq_true h
  have hlt:i<ak a:=by omega
  have f2:=Ev a i (dX a m.nodes a.nodes.length) true (by omega) hll (by omega)
  have hq:(idxOf (psF a m.nodes) i).length≤1000:=Nat.le_trans (dz _ _) (by omega)
  have hsu:=vr (psF a m.nodes) i
  refine kgo ?_
  refine cIf (fun h2=>?_) (fun h2=>?_)
  ·have h3:psF a m.nodes i=true:=by unfold psF;have:=of_decide_eq_true h2;exact decide_eq_true (by omega)
   rw [if_pos h3] at hsu
   have hs:(idxOf (psF a m.nodes) (i+1)).map D.i=(idxOf (psF a m.nodes) i).map D.i++[.i i]:=by rw [hsu,List.map_append];rfl
   refine kgo ?_
   exact aa (i+1) hlt (by omega)
  ·have h3:¬psF a m.nodes i=true:=by unfold psF;have:=of_decide_eq_false h2;rw [decide_eq_true_eq];omega
   rw [if_neg h3] at hsu
   have hs:(idxOf (psF a m.nodes) (i+1)).map D.i=(idxOf (psF a m.nodes) i).map D.i:=by rw [hsu]
   refine kgo ?_
   exact aa (i+1) hlt (by omega)
 ·have h:=of_decide_eq_false h
  have hie:i=ak a:=by omega
  subst hie
  have hq:(idxOf (psF a m.nodes) (ak a)).length≤1000000:=Nat.le_trans (dz _ _) (by omega)
  repeat (first|refine cFz 9 ?_|(refine ca ?_;first|refine aM ?_|refine b6 ?_|refine aR ?_|refine bh ?_|refine aL ?_|refine bg ?_|refine aX ?_|refine az ?_|refine aV ?_)|(refine eG ?_;first|refine bH ?_|refine eC ?_|refine bP ?_|refine cb ?_)|(refine eT ?_;first|refine cS (fun _=>?_)|refine cd ?_|refine bR ?_|refine b9 ?_|refine bu ?_|refine bJ ?_|refine b8 ?_)|(refine eR ?_;first|refine ch ?_|refine d7 ?_|refine b7 ?_|refine bD ?_|refine bN ?_|refine bX ?_|refine bS ?_)|(refine eK ?_;first|refine eF ?_|refine eA ?_|refine bU ?_|refine bG ?_|refine eH ?_|refine bd ?_|refine bc ?_)|(refine bV ?_;first|refine ba ?_|refine bT ?_)|(refine eV ?_;first|refine bI ?_|refine bQ ?_|refine eJ ?_)|(refine bL ?_;first|refine bO ?_|refine aS ?_|refine aN ?_|refine aW ?_|refine aQ ?_|refine aY ?_)|(refine eE ?_;first|refine bZ ?_|refine eB ?_|refine be ?_|refine aP ?_|refine aU ?_)|(refine aK ?_;first|refine aq _ ?_|refine bf ?_|refine aw ?_|refine au ?_|refine ax ?_)|(refine eP ?_;first|refine bW ?_|refine bE ?_|refine bM ?_)|(refine gOp ?_;first|refine eD ?_|refine eM ?_|refine aZ ?_|refine eU ?_|refine eN ?_|refine bK ?_|refine aO ?_|refine cf ?_|refine eO ?_|refine bC ?_|refine bY ?_|refine aT ?_|refine ay ?_|refine cg ?_|refine sNo ?_|refine dU ?_|refine av ?_)|refine dY ?_|refine dq ?_|refine fj ?_|refine bj ?_|refine ci ?_|refine br ?_|refine fm ?_|refine fl ?_|refine eX ?_|refine dB ?_|refine ck ?_|refine bo ?_|refine aA ?_|refine bk ?_|refine ct ?_|refine bt ?_|refine aBlkX ?_|refine cm ?_)
  refine cIf (fun h2=>?_) (fun h2=>?_)
  ·rw [show dR r a m.nodes=([],[],false) from by unfold dR;rw [h2];rfl]
   repeat (first|(refine ca ?_;first|refine aM ?_|refine b6 ?_|refine aR ?_|refine bh ?_|refine aL ?_|refine bg ?_|refine aX ?_|refine az ?_|refine aV ?_)|(refine eG ?_;first|refine bH ?_|refine eC ?_|refine bP ?_|refine cb ?_)|(refine eT ?_;first|refine cS (fun _=>?_)|refine cd ?_|refine bR ?_|refine b9 ?_|refine bu ?_|refine bJ ?_|refine b8 ?_)|(refine eR ?_;first|refine ch ?_|refine d7 ?_|refine b7 ?_|refine bD ?_|refine bN ?_|refine bX ?_|refine bS ?_)|(refine eK ?_;first|refine eF ?_|refine eA ?_|refine bU ?_|refine bG ?_|refine eH ?_|refine bd ?_|refine bc ?_)|(refine bV ?_;first|refine cD (d:=6) ?_|refine cD (d:=7) ?_|refine ba ?_|refine bT ?_)|(refine eV ?_;first|refine dL (d:=6) ?_|refine dL (d:=7) ?_|refine bI ?_|refine bQ ?_|refine eJ ?_)|(refine bL ?_;first|refine bO ?_|refine aS ?_|refine aN ?_|refine aW ?_|refine aQ ?_|refine aY ?_)|(refine eE ?_;first|refine bZ ?_|refine eB ?_|refine be ?_|refine aP ?_|refine aU ?_)|(refine aK ?_;first|refine aq _ ?_|refine bf ?_|refine aw ?_|refine au ?_|refine ax ?_)|(refine eP ?_;first|refine bW ?_|refine bE ?_|refine bM ?_)|(refine gOp ?_;first|refine eD ?_|refine eM ?_|refine aZ ?_|refine eU ?_|refine eN ?_|refine bK ?_|refine aO ?_|refine cf ?_|refine eO ?_|refine bC ?_|refine bY ?_|refine aT ?_|refine sFz 46 ?_|refine sFz 47 ?_|refine ay ?_|refine cg ?_|refine sNo ?_|refine dU ?_|refine av ?_)|refine dY ?_|refine dq ?_|refine fj ?_|refine bj ?_|refine ci ?_|refine br ?_|refine fm ?_|refine fl ?_|refine eX ?_|refine dB ?_|refine ck ?_|refine bo ?_|refine aA ?_|refine bk ?_|refine ct ?_|refine bt ?_|refine aBlkX ?_|refine cm ?_|refine sFz 46 ?_|refine sFz 47 ?_)
   exact iS
  ·rw [show dR r a m.nodes=(idxOf (psF a m.nodes) (ak a),cj r.outer (idxOf (psF a m.nodes) (ak a)).length,true) from by unfold dR;rw [h2];rfl]
   have h2:=of_decide_eq_false h2
   revert hq h2
   generalize idxOf (psF a m.nodes) (ak a)=ls
   intro hq h2
   refine kgo ?_
   refine eS (fun i:Nat=>i≤16∧(k7 r.outer i).length≤ls.length) (fun i=>16 - i) (fun i=>[(3,.sy (.bx 10003 0)),(10003,.tk (.bx (ij r.D))),(9,.sy (.d (DI ls))),(10,.sy (.k 10016)),(10016,.tk (.row 1 9 ((k7 r.outer i).map .s))),(13,.sy (.d (.i i)))]) 0 ⟨by omega,Nat.zero_le _⟩ (fun i hi=>?_)
   obtain ⟨hi1,hi2⟩:=hi
   refine kgo ?_
   refine cIf (fun h3=>?_) (fun h3=>?_)
   ·have h3:=of_decide_eq_true h3
    simp only [List.length_map] at h3
    have hfew:=A8 r.outer i (by omega)
    have f2:=zq i (by omega)
    have f3:=sv r.outer ((⟨#[122]⟩:ByteArray) ++ ⟨#[UInt8.ofNat (97+i)]⟩)
    have hb:(⟨#[122]⟩:ByteArray).size+(⟨#[UInt8.ofNat (97+i)]⟩:ByteArray).size≤1000000:=by show 1+1≤1000000;omega
    have hz:=ul ⟨i,by omega⟩
    simp only at hz
    have hsu:=oN r.outer i
    refine kgo ?_
    refine cIf (fun h4=>?_) (fun h4=>?_)
    ·have h4:=of_decide_eq_true h4
     have hf:lA r.outer i=true:=by
      rw [hz] at h4
      unfold jo at h4
      unfold lA
      split at h4
      ·omega
      ·simp_all
     rw [if_pos hf] at hsu
     have hs:(k7 r.outer (i+1)).map D.s=(k7 r.outer i).map D.s++[.s ((⟨#[122]⟩:ByteArray) ++ ⟨#[UInt8.ofNat (97+i)]⟩)]:=by rw [hsu,List.map_append,hz];rfl
     have hl2:(k7 r.outer (i+1)).length≤ls.length:=by rw [hsu,List.length_append];show _+1≤_;omega
     refine kgo ?_
     exact aa (i+1) ⟨by omega,hl2⟩ (by omega)
    ·have h4:=of_decide_eq_false h4
     have hf:¬lA r.outer i=true:=by
      rw [hz] at h4
      unfold jo at h4
      unfold lA
      split at h4
      ·simp_all
      ·omega
     rw [if_neg hf] at hsu
     have hs:(k7 r.outer (i+1)).map D.s=(k7 r.outer i).map D.s:=by rw [hsu]
     refine kgo ?_
     exact aa (i+1) ⟨by omega,by rw [hsu];exact hi2⟩ (by omega)
   ·have h3:=of_decide_eq_false h3
    simp only [List.length_map] at h3
    rw [show ls.length=(k7 r.outer i).length by omega,tM r.outer i (by omega)]
    repeat (first|refine cFz 10 ?_|(refine ca ?_;first|refine aM ?_|refine b6 ?_|refine aR ?_|refine bh ?_|refine aL ?_|refine bg ?_|refine aX ?_|refine az ?_|refine aV ?_)|(refine eG ?_;first|refine bH ?_|refine eC ?_|refine bP ?_|refine cb ?_)|(refine eT ?_;first|refine cS (fun _=>?_)|refine cd ?_|refine bR ?_|refine b9 ?_|refine bu ?_|refine bJ ?_|refine b8 ?_)|(refine eR ?_;first|refine ch ?_|refine d7 ?_|refine b7 ?_|refine bD ?_|refine bN ?_|refine bX ?_|refine bS ?_)|(refine eK ?_;first|refine eF ?_|refine eA ?_|refine bU ?_|refine bG ?_|refine eH ?_|refine bd ?_|refine bc ?_)|(refine bV ?_;first|refine ba ?_|refine bT ?_)|(refine eV ?_;first|refine bI ?_|refine bQ ?_|refine eJ ?_)|(refine bL ?_;first|refine bO ?_|refine aS ?_|refine aN ?_|refine aW ?_|refine aQ ?_|refine aY ?_)|(refine eE ?_;first|refine bZ ?_|refine eB ?_|refine be ?_|refine aP ?_|refine aU ?_)|(refine aK ?_;first|refine aq _ ?_|refine bf ?_|refine aw ?_|refine au ?_|refine ax ?_)|(refine eP ?_;first|refine bW ?_|refine bE ?_|refine bM ?_)|(refine gOp ?_;first|refine eD ?_|refine eM ?_|refine aZ ?_|refine eU ?_|refine eN ?_|refine bK ?_|refine aO ?_|refine cf ?_|refine eO ?_|refine bC ?_|refine bY ?_|refine aT ?_|refine ay ?_|refine cg ?_|refine sNo ?_|refine dU ?_|refine av ?_)|refine dY ?_|refine dq ?_|refine fj ?_|refine bj ?_|refine ci ?_|refine br ?_|refine fm ?_|refine fl ?_|refine eX ?_|refine dB ?_|refine ck ?_|refine bo ?_|refine aA ?_|refine bk ?_|refine ct ?_|refine bt ?_|refine aBlkX ?_|refine cm ?_)
    exact iS
end Go.Proofs.YtnobdioccfeokaaGreatDoor
namespace Go.Proofs.YtnobdioccfeokaaGreatDoor
open Go.RowKit
set_option linter.unusedVariables false
set_option maxRecDepth 100000
set_option maxHeartbeats 4000000
attribute [local irreducible] ar Der At
theorem qA (f:Nat→Bool) (i m:Nat) (hf:f i=true):∃rest,(List.range (i+1+m)).filter f=(List.range i).filter f++i :: rest∧∀k∈rest,i<k:=by
 induction m with
 | zero=>exact ⟨[],by rw [Nat.add_zero,List.range_succ,List.filter_append];simp [hf],fun k h=>by cases h⟩
 | succ m ih=>
  obtain ⟨rest,h1,h2⟩:=ih
  rw [← Nat.add_assoc,List.range_succ,List.filter_append,h1]
  refine ⟨rest++[i+1+m].filter f,by rw [List.append_assoc];rfl,fun k hk=>?_⟩
  rcases List.mem_append.1 hk with h|h
  ·exact h2 k h
  ·have:=List.mem_singleton.1 (List.mem_filter.1 h).1
   omega
theorem DT {α:Type} (f:Nat→Bool) (g g':Nat→α) (i n:Nat) (hi:i<n) (hf:f i=true) (hg:∀k,k≠i→g' k=g k):((List.range n).filter f).map g'=(((List.range n).filter f).map g).set ((List.range i).filter f).length (g' i):=by
 obtain ⟨rest,h1,h2⟩:=qA f i (n - (i+1)) hf
 rw [show i+1+(n - (i+1))=n by omega] at h1
 rw [h1,List.map_append,List.map_append,List.map_cons,List.map_cons,List.set_append_right _ _ (by rw [List.length_map];exact Nat.le_refl _),List.length_map,Nat.sub_self,List.set_cons_zero]
 congr 1
 ·refine List.map_congr_left fun k hk=>hg k ?_
  have:=List.mem_range.1 (List.mem_filter.1 hk).1
  omega
 ·congr 1
  refine List.map_congr_left fun k hk=>hg k ?_
  have:=h2 k hk
  omega
theorem Gw {α:Type} (f:Nat→Bool) (g:Nat→α) (i n:Nat) (hi:i<n) (hf:f i=true):∃h:((List.range i).filter f).length<(((List.range n).filter f).map g).length,(((List.range n).filter f).map g)[((List.range i).filter f).length]=g i:=by
 obtain ⟨rest,h1,h2⟩:=qA f i (n - (i+1)) hf
 rw [show i+1+(n - (i+1))=n by omega] at h1
 have h3:(((List.range n).filter f).map g)[((List.range i).filter f).length]? = some (g i):=by
  rw [h1,List.map_append,List.getElem?_append_right (by rw [List.length_map];exact Nat.le_refl _),List.length_map,Nat.sub_self];rfl
 obtain ⟨h4,h5⟩:=List.getElem?_eq_some_iff.1 h3
 exact ⟨h4,h5⟩
def mi (ps z:List Int) (k:Nat):List Int:=(List.range k).foldl (fun l (i:Nat)=>l.set (atI ps i).toNat (i:Int)) z
theorem qD (ps z:List Int) (k:Nat):mi ps z (k+1)=(mi ps z k).set (atI ps k).toNat k:=by unfold mi;rw [List.range_succ,List.foldl_append];rfl
theorem tc (ps z:List Int) (k:Nat):(mi ps z k).length=z.length:=by
 induction k with
 | zero=>simp [mi]
 | succ k ih=>rw [qD,List.length_set,ih]
def jO (r a:Big) (ns:List Int) (row:List Bool) (lk:List Int) (i k:Nat):Nd:=
 ⟨(dF a k).control,if decide (k<i) && fp ns (dF a k).parent then -1 - kQ r ns (dF a k).parent else te row true false (dF a k).parent,ew lk (dF a k).links⟩
def jD (r a:Big) (ns:List Int) (row:List Bool) (lk:List Int) (i:Nat):List Nd:=((List.range a.nodes.length).filter (tkF row true)).map (jO r a ns row lk i)
def uw (row:List Bool) (i:Nat):Nat:=((List.range i).filter (tkF row true)).length
theorem AT (row:List Bool) (i:Nat):uw row (i+1)=if tkF row true i=true then uw row i+1 else uw row i:=by
 unfold uw
 rw [List.range_succ,List.filter_append]
 by_cases h:tkF row true i=true <;> simp [h]
theorem y7 (r a:Big) (ns:List Int) (row:List Bool) (lk:List Int):jD r a ns row lk 0=gD a row true false lk a.nodes.length:=by
 unfold jD gD
 refine List.map_congr_left fun k _=>?_
 unfold jO G8
 simp
theorem tT (r a:Big) (ns:List Int) (row:List Bool) (lk:List Int) (i k:Nat) (h:k≠i):jO r a ns row lk (i+1) k=jO r a ns row lk i k:=by
 unfold jO
 rw [show decide (k<i+1)=decide (k<i) from decide_eq_decide.2 (by omega)]
theorem wS (r a:Big) (ns:List Int) (row:List Bool) (lk:List Int) (i:Nat) (h:tkF row true i=false∨fp ns (dF a i).parent=false):jD r a ns row lk (i+1)=jD r a ns row lk i:=by
 unfold jD
 refine List.map_congr_left fun k hk=>?_
 by_cases e:k=i
 ·subst e
  rcases h with h|h
  ·rw [(List.mem_filter.1 hk).2] at h;cases h
  ·unfold jO;rw [h];simp
 ·exact tT r a ns row lk i k e
theorem Bv (r a:Big) (ns:List Int) (row:List Bool) (lk:List Int) (i:Nat) (hi:i<a.nodes.length) (h1:tkF row true i=true) (h2:fp ns (dF a i).parent=true):∃h:uw row i<(jD r a ns row lk i).length,jD r a ns row lk (i+1)=(jD r a ns row lk i).set (uw row i) ⟨(jD r a ns row lk i)[uw row i].control,-1 - kQ r ns (dF a i).parent,(jD r a ns row lk i)[uw row i].links⟩:=by
 obtain ⟨h,e⟩:=Gw (tkF row true) (jO r a ns row lk i) i a.nodes.length hi h1
 refine ⟨h,?_⟩
 have e2:=DT (tkF row true) (jO r a ns row lk i) (jO r a ns row lk (i+1)) i a.nodes.length hi h1 (fun k hk=>tT r a ns row lk i k hk)
 refine e2.trans ?_
 unfold jD uw
 rw [e]
 congr 1
 unfold jO
 rw [h2];simp
theorem um (r:Big) (ns:List Int) (p:Int) (h:0<(cC r (dh ns p)).length):0≤kQ r ns p∧kQ r ns p<r.sites.length:=by
 have h1:kQ r ns p∈cC r (dh ns p):=og (by decide) (by omega)
 obtain ⟨i,h2,_,h3⟩:=bp.1 h1
 omega
def Hq (r a:Big) (m:Mat) (ps:List Int) (names:List ByteArray):Big:=
 ⟨r.sites.length,jD r a m.nodes (dX a m.nodes a.nodes.length) (mi ps (List.replicate (ak a) 0) ps.length) a.nodes.length,[],0,names,[]⟩
theorem Dg {sig:List Ctl} {r a:Big} (m:Mat) (hbr:aH sig r=true) (hba:aH sig a=true) (hsite:∀i:Nat,i<a.nodes.length→mH a m.nodes i=true→fp m.nodes (dF a i).parent=true→0<(cC r (dh m.nodes (dF a i).parent)).length) (ps:List Int) (names:List ByteArray) (hps:∀l∈ps,0≤l∧l<(ak a:Int)) (hnm:names.length=ps.length) (hpl:ps.length≤500):FnD Tryz.prog 100 [r.D,a.D,m.D,DI ps,DS names] (.d (Hq r a m ps names).D):=by
 have f1:=mq hba m
 have ha:=bl hba
 have hr:=bl hbr
 have hla:a.edges+(a.outer.length:Int)=(ak a:Nat):=by unfold ak;omega
 have hlb:ak a≤1000:=by unfold ak;omega
 have hup:=fun i h=>(iE hba i h).2
 have hnode:=e9 hba
 have hnl:∀n∈a.nodes,n.links.length≤1000∧∀l∈n.links,0≤l∧l<(ak a:Int):=fun n hn=>by
  obtain ⟨k,hk,rfl⟩:=List.mem_iff_getElem.1 hn
  obtain ⟨_,_,_,c3,c4⟩:=hnode k hk
  refine ⟨by have:=(bw hba).7 k hk;omega,fun l hl=>?_⟩
  obtain ⟨j,rfl,hj⟩:=iC (c4 l hl)
  omega
 have hz:List.replicate (ak a) (D.i 0)=(mi ps (List.replicate (ak a) 0) 0).map D.i:=by rw [show mi ps (List.replicate (ak a) 0) 0=List.replicate (ak a) 0 from by simp [mi],List.map_replicate]
 have hrrl:(dX a m.nodes a.nodes.length).length=a.nodes.length:=by unfold dX;simp
 have hrr:∀k,k<a.nodes.length→tkF (dX a m.nodes a.nodes.length) true k=mH a m.nodes k:=fun k hk=>by
  rw [uh _ _ _ (by omega)]
  simp [dX]
 unfold Hq
 revert f1 hrr hrrl
 generalize dX a m.nodes a.nodes.length=row
 intro f1 hrrl hrr
 refine af Tryz.func100 (fun hw W0=>?_)
 refine kgo ?_
 refine bC (n:=ak a) (r:=.i 0) ?_ rfl rfl (congrArg some hla) (congrArg some hla) (hb:=by show 8 * ak a≤1000000000;omega)
 refine kgo ?_
 refine ai [3,4,5,6,7,10,11,12] (fun i:Nat=>i≤ps.length) (fun i=>ps.length - i) (fun i=>[(10027,.tk (.row 1 3 ((mi ps (List.replicate (ak a) 0) i).map .i))),(13,.sy (.d (.i i)))]) 0 (Nat.zero_le _) (fun i hi=>?_)
 refine kgo ?_
 refine aJ (fun h=>?_) (fun h=>?_)
 ·have hlt:i<ps.length:=by omega
  have hp:=hps _ (List.getElem_mem hlt)
  obtain ⟨j,hj⟩:=Int.eq_ofNat_of_zero_le hp.1
  have hpt:=tc ps (List.replicate (ak a) 0) i
  rw [List.length_replicate] at hpt
  have hjl:j<(mi ps (List.replicate (ak a) 0) i).length:=by omega
  have hs:=qD ps (List.replicate (ak a) 0) i
  rw [bF ps i hlt,hj,Int.toNat_natCast] at hs
  refine kgo ?_
  refine bu (n:=j) ?_ rfl rfl rfl (congrArg some hj)
  refine kgo ?_
  rw [← hs]
  exact aa (i+1) hlt (by omega)
 rw [show i=ps.length by omega]
 have hpt:=tc ps (List.replicate (ak a) 0) ps.length
 rw [List.length_replicate] at hpt
 revert hpt
 generalize mi ps (List.replicate (ak a) 0) ps.length=lk
 intro hpt
 have f5:=wZ a row true false lk (by omega) (by omega) hup (fun n hn=>(hnl n hn).1) (fun n hn l hl=>by rw [hpt];exact (hnl n hn).2 l hl)
 rw [← y7 r a m.nodes row lk] at f5
 repeat (first|refine cFz 12 ?_|(refine ca ?_;first|refine aM ?_|refine b6 ?_|refine aR ?_|refine bh ?_|refine aL ?_|refine bg ?_|refine aX ?_|refine az ?_|refine aV ?_)|(refine eG ?_;first|refine bH ?_|refine eC ?_|refine bP ?_|refine cb ?_)|(refine eT ?_;first|refine cS (fun _=>?_)|refine cd ?_|refine bR ?_|refine b9 ?_|refine bu ?_|refine bJ ?_|refine b8 ?_)|(refine eR ?_;first|refine ch ?_|refine d7 ?_|refine b7 ?_|refine bD ?_|refine bN ?_|refine bX ?_|refine bS ?_)|(refine eK ?_;first|refine eF ?_|refine eA ?_|refine bU ?_|refine bG ?_|refine eH ?_|refine bd ?_|refine bc ?_)|(refine bV ?_;first|refine ba ?_|refine bT ?_)|(refine eV ?_;first|refine bI ?_|refine bQ ?_|refine eJ ?_)|(refine bL ?_;first|refine bO ?_|refine aS ?_|refine aN ?_|refine aW ?_|refine aQ ?_|refine aY ?_)|(refine eE ?_;first|refine bZ ?_|refine eB ?_|refine be ?_|refine aP ?_|refine aU ?_)|(refine aK ?_;first|refine aq _ ?_|refine bf ?_|refine aw ?_|refine au ?_|refine ax ?_)|(refine eP ?_;first|refine bW ?_|refine bE ?_|refine bM ?_)|(refine gOp ?_;first|refine eD ?_|refine eM ?_|refine aZ ?_|refine eU ?_|refine eN ?_|refine bK ?_|refine aO ?_|refine cf ?_|refine eO ?_|refine bC ?_|refine bY ?_|refine aT ?_|refine ay ?_|refine cg ?_|refine sNo ?_|refine dU ?_|refine av ?_)|refine dY ?_|refine dq ?_|refine fj ?_|refine bj ?_|refine ci ?_|refine br ?_|refine fm ?_|refine fl ?_|refine eX ?_|refine dB ?_|refine ck ?_|refine bo ?_|refine aA ?_|refine bk ?_|refine ct ?_|refine bt ?_|refine aBlkX ?_|refine cm ?_)
 refine ai [5,6,7,10,11,14] (fun i:Nat=>i≤a.nodes.length) (fun i=>a.nodes.length - i) (fun i=>[(10051,.tk (.row 3 153 ((jD r a m.nodes row lk i).map Nd.D))),(15,.sy (.d (.i (uw row i)))),(16,.sy (.d (.i i)))]) 0 (Nat.zero_le _) (fun i hi=>?_)
 refine kgo ?_
 refine aJ (fun h=>?_) (fun h=>?_)
 ·have hlt:i<a.nodes.length:=by omega
  have hltr:i<row.length:=by omega
  have hk:tkF row true i=row[i]:=by rw [uh row true i hltr];simp
  have hcs:=AT row i
  have hcl:uw row i≤i:=by unfold uw;exact Nat.le_trans (List.length_filter_le _ _) (by simp)
  refine kgo ?_
  refine cIf (fun h2=>?_) (fun h2=>?_)
  ·rw [Bool.not_eq_true'] at h2
   rw [h2] at hk
   rw [if_neg (by rw [hk];exact Bool.false_ne_true)] at hcs
   have hs:=wS r a m.nodes row lk i (.inl hk)
   refine kgo ?_
   rw [← hs,← hcs]
   exact aa (i+1) hlt (by omega)
  ·rw [Bool.not_eq_false'] at h2
   rw [h2] at hk
   rw [if_pos hk] at hcs
   have hcd:D.i (uw row (i+1):Nat)=D.i ((uw row i:Nat)+1):=by rw [hcs];rfl
   have hnd:dF a i=a.nodes[i]:=aB a i hlt
   have f6:=jJ m.nodes (a.nodes[i]).parent
   refine kgo ?_
   refine cIf (fun h3=>?_) (fun h3=>?_)
   ·rw [← hnd] at h3
    obtain ⟨hcl2,hs⟩:=Bv r a m.nodes row lk i hlt hk h3
    have hh:=hsite i hlt (by rw [← hrr i hlt];exact hk) h3
    have f7:=C3 r m (dF a i).parent (by omega) h3 hh
    rw [hnd] at f7 hs
    have hsr:=um r m.nodes _ hh
    rw [hnd] at hsr
    refine kgo ?_
    refine aq (f:=Nd.D) (l:=jD r a m.nodes row lk i) ⟨(jD r a m.nodes row lk i)[uw row i].control,-1 - kQ r m.nodes (a.nodes[i]).parent,(jD r a m.nodes row lk i)[uw row i].links⟩ ?_
    refine kgo ?_
    rw [← hs]
    exact aa (i+1) hlt (by omega)
   ·rw [← hnd] at h3
    have hs:=wS r a m.nodes row lk i (.inr h3)
    refine kgo ?_
    rw [← hs]
    exact aa (i+1) hlt (by omega)
 rw [show i=a.nodes.length by omega]
 refine br (aA (aA (bt (bo ?_))))
 refine pI 10014 1 ?_
 refine pI 10014 4 ?_
 refine kgo ?_
 exact aj
end Go.Proofs.YtnobdioccfeokaaGreatDoor
