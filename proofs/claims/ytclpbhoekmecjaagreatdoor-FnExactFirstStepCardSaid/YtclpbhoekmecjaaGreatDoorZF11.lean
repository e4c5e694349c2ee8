/-
  Proved facts that the law leans on.
-/
import Derived.Test.YtclpbhoekmecjaaGreatDoorZF5
import Derived.Test.YtclpbhoekmecjaaGreatDoorZF6
import Derived.Test.YtclpbhoekmecjaaGreatDoorZF7
import Derived.Test.YtclpbhoekmecjaaGreatDoorZF9
namespace Go.Proofs.YtclpbhoekmecjaaGreatDoor
open Go.RowKit
set_option linter.unusedVariables false
set_option maxRecDepth 100000
set_option maxHeartbeats 1000000
attribute [local irreducible] au Der At
theorem lh (l:List Int) (n:Int):FnD Tryz.prog 191 [DI l,.i n] (.d (.b (fh l n))):=by
 refine ah Tryz.func191 (fun hw W0=>?_)
 have hl:=(wfM hw.1).1
 refine kgo ?_
 refine aq [0,1] (fun i:Nat=>i≤l.length∧(l.take i).any (fun x=>x == n)=false) (fun i=>l.length - i) (fun i=>[(5,.sy (.d (.i i)))]) 0 ⟨Nat.zero_le _,rfl⟩ (fun i hi=>?_)
 refine kgo ?_
 refine cIf (fun h=>?_) (fun h=>?_)
 ·have h:=of_decide_eq_true h
  have hlt:i<l.length:=by omega
  refine kgo ?_
  refine cIf (fun h2=>?_) (fun h2=>?_)
  ·have h2:=of_decide_eq_true h2
   refine kgo ?_
   rw [show fh l n=true from pA _ _ i hlt (by simp [h2])]
   exact aD
  ·have h2:=of_decide_eq_false h2
   refine kgo ?_
   exact af (i+1) ⟨hlt,by rw [eh _ l i hlt,hi.2];simpa using h2⟩ (by omega)
 ·have h:=of_decide_eq_false h
  refine kgo ?_
  rw [show fh l n=false from by unfold fh;rw [← hi.2,List.take_of_length_le (by omega)]]
  exact aD
theorem yw (m:Int) (n:Nat) (hn:n≤1000) (hm : -1000≤m∧m≤1000):FnD Tryz.prog 300 [.i m,.i n] (.row 1 3 ((dh m n).map .i)):=by
 refine ah Tryz.func300 (fun hw W0=>?_)
 refine kgo ?_
 refine aq [0,1] (fun i:Nat=>i≤n) (fun i=>n - i) (fun i=>[(5,.sy (.k 10007)),(10007,.tk (.row 1 3 ((dh m i).map .i))),(6,.sy (.d (.i i)))]) 0 (Nat.zero_le _) (fun i hi=>?_)
 refine kgo ?_
 refine cIf (fun h=>?_) (fun h=>?_)
 ·have h:=of_decide_eq_true h
  have hs:(dh m (i+1)).map D.i=(dh m i).map D.i++[.i (-1 - m - i)]:=by rw [wZ,List.map_append];rfl
  have hl:=lC m i
  refine kgo ?_
  exact af (i+1) (by omega) (by omega)
 ·have h:=of_decide_eq_false h
  refine kgo ?_
  rw [show i=n by omega]
  exact oX
theorem AE (m:Int) (n:Nat) (hn:n≤1000) (hm : -1000≤m∧m≤1000):FnD Tryz.prog 201 [.i m,.i n] (.row 1 3 ((eM m n).map .i)):=by
 refine ah Tryz.func201 (fun hw W0=>?_)
 refine kgo ?_
 refine eJ (fun i:Nat=>i≤n) (fun i=>n - i) (fun i=>[(0,.sy (.d (.i m))),(1,.sy (.d (.i n))),(5,.sy (.k 10007)),(10007,.tk (.row 1 3 ((eM m i).map .i))),(6,.sy (.d (.i i)))]) 0 (Nat.zero_le _) (fun i hi=>?_)
 refine kgo ?_
 refine cIf (fun h=>?_) (fun h=>?_)
 ·have h:=of_decide_eq_true h
  have hs:(eM m (i+1)).map D.i=(eM m i).map D.i++[.i (m+i)]:=by rw [xu,List.map_append];rfl
  have hl:=eH m i
  refine kgo ?_
  exact af (i+1) (by omega) (by omega)
 ·have h:=of_decide_eq_false h
  refine kgo ?_
  rw [show i=n by omega]
  exact oX
end Go.Proofs.YtclpbhoekmecjaaGreatDoor
namespace Go.Proofs.YtclpbhoekmecjaaGreatDoor
open Go.RowKit
set_option linter.unusedVariables false
set_option maxRecDepth 100000
set_option maxHeartbeats 1000000
attribute [local irreducible] au Der At
theorem uY {l:List ByteArray} {s:ByteArray} {i:Nat} (h:i<l.length) (he:(l[i].toList == s.toList)=true) (hn:∀j (h:j<i),((l[j]'(by omega)).toList == s.toList)=false):js l s=i:=by
 unfold js
 rw [if_pos (List.any_eq_true.2 ⟨_,List.getElem_mem h,he⟩)]
 have:l.findIdx (fun x=>x.toList == s.toList)=i:=(List.findIdx_eq h).2 ⟨he,fun j hj=>by simpa using hn j hj⟩
 rw [this]
theorem Af {l:List ByteArray} {s:ByteArray} (hn:∀j (h:j<l.length),(l[j].toList == s.toList)=false):js l s = -1:=by
 unfold js
 rw [if_neg]
 rw [List.any_eq_true]
 rintro ⟨x,hx,he⟩
 obtain ⟨j,hj,rfl⟩:=List.mem_iff_getElem.1 hx
 rw [hn j hj] at he;cases he
theorem aN {sig:List Ctl} {b:Big} (h:ay sig b=true):(0≤b.roots∧b.roots≤4)∧b.nodes.length≤8∧b.sites.length≤4∧(0≤b.edges∧b.edges≤8)∧b.outer.length≤16∧b.inner.length≤16:=by
 obtain ⟨_,h1,h2,h3,h4,h5,h6⟩:=eQ (ex h).1
 have:=fH h6
 rw [List.length_map] at this
 exact ⟨bT h1,h2,h3,bT h4,fH h5,this⟩
theorem dS (f:Nat→Bool) (n:Nat):(idxOf f n).length≤n:=by
 unfold idxOf
 rw [List.length_map]
 exact Nat.le_trans (List.length_filter_le _ _) (by simp)
theorem mC {sig:List Ctl} {a:Big} (hB:ay sig a=true) (m:Mat) (p0:Int) (hp:p0<a.nodes.length):FnD Tryz.prog 193 [a.D,m.D,.i p0] (.d (.b (hZ a m.nodes p0))):=by
 refine ah Tryz.func193 (fun hw W0=>?_)
 refine kgo ?_
 refine eJ (fun p:Int=>p<a.nodes.length∧hZ a m.nodes p0=hZ a m.nodes p) (fun p=>(p+1).toNat) (fun p=>[(2,.sy (.d (.i p))),(3,.sy (.bx 10003 0)),(10003,.tk (.bx (flat a.D))),(4,.sy (.bx 10004 0)),(10004,.tk (.bx (flat m.D)))]) p0 ⟨hp,rfl⟩ (fun p hi=>?_)
 refine kgo ?_
 refine cIf (fun h=>?_) (fun h=>?_)
 ·have h:=of_decide_eq_true h
  obtain ⟨k,rfl⟩:=Int.eq_ofNat_of_zero_le h
  have hk:k<a.nodes.length:=by omega
  have hs:hZ a m.nodes k=(fh m.nodes k || hZ a m.nodes (a.nodes[k]).parent):=eP hB _ k hk
  have hu:=iy hB k hk
  have f1:=lh m.nodes k
  refine kgo ?_
  refine cIf (fun h2=>?_) (fun h2=>?_)
  ·refine kgo ?_
   rw [hi.2,hs,h2]
   exact aD
  ·refine kgo ?_
   exact af (a.nodes[k]).parent ⟨by omega,by rw [hi.2,hs,h2];rfl⟩ (by omega)
 ·have h:=of_decide_eq_false h
  refine kgo ?_
  rw [hi.2,show hZ a m.nodes p=false from d8 _ _ (by omega)]
  exact aD
theorem EG {sig:List Ctl} {b:Big} (hB:ay sig b=true) (p0:Int) (hp:p0<b.nodes.length):FnD Tryz.prog 236 [b.D,.i p0] (.d (.i (Ae b p0))):=by
 refine ah Tryz.func236 (fun hw W0=>?_)
 refine kgo ?_
 refine eJ (fun p:Int=>p<b.nodes.length∧Ae b p0=Ae b p) (fun p=>(p+1).toNat) (fun p=>[(1,.sy (.d (.i p))),(2,.sy (.bx 10002 0)),(10002,.tk (.bx (flat b.D)))]) p0 ⟨hp,rfl⟩ (fun p hi=>?_)
 refine kgo ?_
 refine cIf (fun h=>?_) (fun h=>?_)
 ·have h:=of_decide_eq_true h
  obtain ⟨k,rfl⟩:=Int.eq_ofNat_of_zero_le h
  have hk:k<b.nodes.length:=by omega
  have hu:=iy hB k hk
  refine kgo ?_
  exact af (b.nodes[k]).parent ⟨by omega,by rw [hi.2,oP hB k hk]⟩ (by omega)
 ·have h:=of_decide_eq_false h
  refine kgo ?_
  rw [hi.2,nF b (by omega)]
  exact aD
theorem zD {sig:List Ctl} {b:Big} (hB:ay sig b=true) (r:Int):FnD Tryz.prog 207 [b.D,.i r] (.row 1 3 ((o5 b r).map .i)):=by
 have hn:=(aN hB).2.1
 refine ah Tryz.func207 (fun hw W0=>?_)
 refine kgo ?_
 refine eJ (fun i:Nat=>i≤b.nodes.length) (fun i=>b.nodes.length - i) (fun i=>[(1,.sy (.d (.i r))),(2,.sy (.bx 10002 0)),(10002,.tk (.bx (flat b.D))),(5,.sy (.k 10007)),(10007,.tk (.row 1 3 ((idxOf (iF b r) i).map .i))),(6,.sy (.d (.i i)))]) 0 (Nat.zero_le _) (fun i hi=>?_)
 refine kgo ?_
 refine cIf (fun h=>?_) (fun h=>?_)
 ·have h:=of_decide_eq_true h
  have hlt:i<b.nodes.length:=by omega
  have hu:=iy hB i hlt
  have f1:=EG hB (b.nodes[i]).parent (by omega)
  have hf:=oR b r i hlt
  have hl:=dS (iF b r) i
  refine kgo ?_
  refine cIf (fun h2=>?_) (fun h2=>?_)
  ·have hs:(idxOf (iF b r) (i+1)).map D.i=(idxOf (iF b r) i).map D.i++[.i i]:=by rw [cY (hf.trans h2),List.map_append];rfl
   refine kgo ?_
   exact af (i+1) (by omega) (by omega)
  ·have hs:(idxOf (iF b r) (i+1)).map D.i=(idxOf (iF b r) i).map D.i:=by rw [dQ (hf.trans h2)]
   refine kgo ?_
   exact af (i+1) (by omega) (by omega)
 ·have h:=of_decide_eq_false h
  refine kgo ?_
  rw [show i=b.nodes.length by omega]
  exact oX
theorem wv (l:List ByteArray) (s:ByteArray):FnD Tryz.prog 200 [DS l,.s s] (.d (.i (js l s))):=by
 refine ah Tryz.func200 (fun hw W0=>?_)
 have hl:=(wfM hw.1).1
 refine kgo ?_
 refine eJ (fun i:Nat=>i≤l.length∧∀j (h:j<l.length),j<i→(l[j].toList == s.toList)=false) (fun i=>l.length - i) (fun i=>[(0,.sy (.d (DS l))),(1,.sy (.d (.s s))),(5,.sy (.d (.i i)))]) 0 ⟨Nat.zero_le _,fun j _ h=>absurd h (Nat.not_lt_zero _)⟩ (fun i hi=>?_)
 refine kgo ?_
 refine cIf (fun h=>?_) (fun h=>?_)
 ·have h:=of_decide_eq_true h
  have hlt:i<l.length:=by omega
  refine kgo ?_
  refine cIf (fun h2=>?_) (fun h2=>?_)
  ·refine kgo ?_
   rw [uY hlt h2 (fun j hj=>hi.2 j (by omega) hj)]
   exact aD
  ·refine kgo ?_
   exact af (i+1) ⟨hlt,fun j h1 h3=>by
    rcases Nat.lt_or_ge j i with h4|h4
    ·exact hi.2 j h1 h4
    ·rw [show l[j]=l[i] from by congr 1;omega];exact h2⟩ (by omega)
 ·have h:=of_decide_eq_false h
  refine kgo ?_
  rw [Af (fun j h1=>hi.2 j h1 (by omega))]
  exact aD
end Go.Proofs.YtclpbhoekmecjaaGreatDoor
namespace Go.Proofs.YtclpbhoekmecjaaGreatDoor
open Go.RowKit
set_option linter.unusedVariables false
set_option maxRecDepth 100000
set_option maxHeartbeats 1000000
attribute [local irreducible] au Der At
theorem As {sig:List Ctl} {a:Big} (hB:ay sig a=true) (p0:Int) (hp:p0<a.nodes.length):FnD Tryz.prog 133 [.l 3 (sig.map Ctl.D),a.D,.i p0] (.d (.b (kI sig a p0))):=by
 refine ah Tryz.func133 (fun hw W0=>?_)
 refine kgo ?_
 refine eJ (fun p:Int=>p<a.nodes.length∧kI sig a p0=kI sig a p) (fun p=>(p+1).toNat) (fun p=>[(0,.sy (.d (.l 3 (sig.map Ctl.D)))),(2,.sy (.d (.i p))),(4,.sy (.bx 10004 0)),(10004,.tk (.bx (flat a.D)))]) p0 ⟨hp,rfl⟩ (fun p hi=>?_)
 refine kgo ?_
 refine cIf (fun h=>?_) (fun h=>?_)
 ·have h:=of_decide_eq_true h
  obtain ⟨k,rfl⟩:=Int.eq_ofNat_of_zero_le h
  have hk:k<a.nodes.length:=by omega
  have hs:kI sig a k=(ry sig a k || kI sig a (a.nodes[k]).parent):=eP hB _ k hk
  have hu:=iy hB k hk
  obtain ⟨c0,c1,_⟩:=eN hB k hk
  obtain ⟨j,hj⟩:=Int.eq_ofNat_of_zero_le c0
  have hjl:j<sig.length:=by omega
  have hpf:ry sig a k=decide ((sig[j]).kind=1):=by unfold ry;rw [aw a k hk,hj,jo sig j hjl]
  refine kgo ?_
  refine eB (n:=j) (fun _=>?_) rfl rfl (congrArg some hj)
  refine kgo ?_
  refine cIf (fun h2=>?_) (fun h2=>?_)
  ·refine kgo ?_
   rw [hi.2,hs,hpf,h2]
   exact aD
  ·refine kgo ?_
   exact af (a.nodes[k]).parent ⟨by omega,by rw [hi.2,hs,hpf,h2];rfl⟩ (by omega)
 ·have h:=of_decide_eq_false h
  refine kgo ?_
  rw [hi.2,show kI sig a p=false from d8 _ _ (by omega)]
  exact aD
theorem xF {sig:List Ctl} {a:Big} (hB:ay sig a=true) (m:Mat) (hr:∀p∈m.roots,p<(a.nodes.length:Int)):FnD Tryz.prog 93 [.l 3 (sig.map Ctl.D),a.D,m.D] (.d (.b (jD sig a m.roots))):=by
 refine ah Tryz.func93 (fun hw W0=>?_)
 have hl:=(wfM hw.2.2.1.2.1).1
 refine kgo ?_
 refine eJ (fun i:Nat=>i≤m.roots.length∧(m.roots.take i).all (fun p=>!kI sig a p)=true) (fun i=>m.roots.length - i) (fun i=>[(0,.sy (.d (.l 3 (sig.map Ctl.D)))),(4,.sy (.bx 10004 0)),(10004,.tk (.bx (flat a.D))),(5,.sy (.bx 10005 0)),(10005,.tk (.bx (flat m.D))),(7,.sy (.d (.i i)))]) 0 ⟨Nat.zero_le _,rfl⟩ (fun i hi=>?_)
 refine kgo ?_
 refine cIf (fun h=>?_) (fun h=>?_)
 ·have h:=of_decide_eq_true h
  have hlt:i<m.roots.length:=by omega
  have f1:=As hB m.roots[i] (hr _ (List.getElem_mem hlt))
  refine kgo ?_
  refine cIf (fun h2=>?_) (fun h2=>?_)
  ·refine kgo ?_
   rw [show jD sig a m.roots=false from List.all_eq_false.2 ⟨_,List.getElem_mem hlt,by simp [h2]⟩]
   exact aD
  ·refine kgo ?_
   exact af (i+1) ⟨hlt,by rw [List.take_succ_eq_append_getElem hlt,List.all_append,hi.2];simp [h2]⟩ (by omega)
 ·have h:=of_decide_eq_false h
  refine kgo ?_
  rw [show jD sig a m.roots=true from by rw [← hi.2,List.take_of_length_le (by omega)];rfl]
  exact aD
def dY (a:Big) (ns:List Int) (n:Nat):List Bool:=(List.range n).map (mn a ns)
theorem uF (a:Big) (ns:List Int) (n:Nat):dY a ns (n+1)=dY a ns n++[mn a ns n]:=by unfold dY;rw [List.range_succ,List.map_append];rfl
theorem lv {sig:List Ctl} {a:Big} (hB:ay sig a=true) (m:Mat):FnD Tryz.prog 197 [a.D,m.D] (.d (.l 1 ((dY a m.nodes a.nodes.length).map .b))):=by
 have hn:=(aN hB).2.1
 refine ah Tryz.func197 (fun hw W0=>?_)
 refine kgo ?_
 refine eJ (fun i:Nat=>i≤a.nodes.length) (fun i=>a.nodes.length - i) (fun i=>[(2,.sy (.bx 10002 0)),(10002,.tk (.bx (flat a.D))),(3,.sy (.bx 10003 0)),(10003,.tk (.bx (flat m.D))),(5,.sy (.k 10007)),(10007,.tk (.row 1 4 ((dY a m.nodes i).map .b))),(6,.sy (.d (.i i)))]) 0 (Nat.zero_le _) (fun i hi=>?_)
 refine kgo ?_
 refine cIf (fun h=>?_) (fun h=>?_)
 ·have h:=of_decide_eq_true h
  have hlt:i<a.nodes.length:=by omega
  have f1:=lh m.nodes i
  have f2:=mC hB m i (by omega)
  have hs:(dY a m.nodes (i+1)).map D.b=(dY a m.nodes i).map D.b++[.b (hZ a m.nodes i && !fh m.nodes i)]:=by rw [uF,List.map_append];rfl
  have hl:(dY a m.nodes i).length=i:=by simp [dY]
  cases hc:fh m.nodes i
  ·rw [hc] at hs f1
   simp only [Bool.not_false,Bool.and_true] at hs
   refine kgo ?_
   exact af (i+1) (by omega) (by omega)
  ·rw [hc] at hs f1
   simp only [Bool.not_true,Bool.and_false] at hs
   refine kgo ?_
   exact af (i+1) (by omega) (by omega)
 ·have h:=of_decide_eq_false h
  refine kgo ?_
  rw [show i=a.nodes.length by omega]
  exact HM
end Go.Proofs.YtclpbhoekmecjaaGreatDoor
namespace Go.Proofs.YtclpbhoekmecjaaGreatDoor
open Go.RowKit
set_option linter.unusedVariables false
set_option maxRecDepth 100000
set_option maxHeartbeats 1000000
attribute [local irreducible] au Der At
theorem pG (p by':Int) (ps:List Int) (hok:Dr by' ps p) (hb : -1000≤by'∧by'≤1000):FnD Tryz.prog 324 [.i p,.i by',DI ps] (.d (.i (upF by' ps p))):=by
 refine ah Tryz.func324 (fun hw W0=>?_)
 have h1:=hw.1
 have h2:=(wfM hw.2.2.1).1
 unfold Wf I64 at h1
 unfold Dr at hok
 refine kgo ?_
 refine cIf (fun h=>?_) (fun h=>?_)
 ·have h:=of_decide_eq_true h
  refine kgo ?_
  rw [show upF by' ps p=atI ps (-1 - p) from if_pos h]
  exact aD
 ·have h:=of_decide_eq_false h
  refine kgo ?_
  rw [show upF by' ps p=p+by' from if_neg h]
  exact aD
theorem lK (b:Big) (by':Int) (ps:List Int) (hl:b.sites.length≤1000) (hok:∀p∈b.sites,Dr by' ps p) (hb : -1000≤by'∧by'≤1000):FnD Tryz.prog 302 [b.D,.i by',DI ps] (.row 1 3 ((dy by' ps b.sites).map .i)):=by
 refine ah Tryz.func302 (fun hw W0=>?_)
 refine kgo ?_
 refine eJ (fun i:Nat=>i≤b.sites.length) (fun i=>b.sites.length - i) (fun i=>[(1,.sy (.d (.i by'))),(2,.sy (.d (DI ps))),(3,.sy (.bx 10003 0)),(10003,.tk (.bx (flat b.D))),(7,.sy (.k 10009)),(10009,.tk (.row 1 3 ((dy by' ps (b.sites.take i)).map .i))),(8,.sy (.d (.i i)))]) 0 (Nat.zero_le _) (fun i hi=>?_)
 refine kgo ?_
 refine cIf (fun h=>?_) (fun h=>?_)
 ·have h:=of_decide_eq_true h
  have hlt:i<b.sites.length:=by omega
  have f1:=pG b.sites[i] by' ps (hok _ (List.getElem_mem hlt)) hb
  have hs:(dy by' ps (b.sites.take (i+1))).map D.i=(dy by' ps (b.sites.take i)).map D.i++[.i (upF by' ps b.sites[i])]:=by unfold dy;rw [List.take_succ_eq_append_getElem hlt,List.map_append,List.map_append];rfl
  have hq:(dy by' ps (b.sites.take i)).length≤1000:=by unfold dy;rw [List.length_map,List.length_take];omega
  refine kgo ?_
  exact af (i+1) hlt (by omega)
 ·have h:=of_decide_eq_false h
  refine kgo ?_
  rw [List.take_of_length_le (by omega)]
  exact oX
theorem nS (xs:List ByteArray) (m:Int) (ys:List ByteArray) (hl:xs.length≤1000) (hy:ys.length≤1000) (hm:0≤m∧m≤1000):FnD Tryz.prog 265 [DS xs,.i m,DS ys] (.row 1 3 ((dA xs m ys).map .i)):=by
 refine ah Tryz.func265 (fun hw W0=>?_)
 refine kgo ?_
 refine eJ (fun i:Nat=>i≤xs.length) (fun i=>xs.length - i) (fun i=>[(0,.sy (.d (DS xs))),(1,.sy (.d (.i m))),(2,.sy (.d (DS ys))),(7,.sy (.k 10009)),(10009,.tk (.row 1 3 ((dA (xs.take i) m ys).map .i))),(8,.sy (.d (.i i)))]) 0 (Nat.zero_le _) (fun i hi=>?_)
 refine kgo ?_
 refine cIf (fun h=>?_) (fun h=>?_)
 ·have h:=of_decide_eq_true h
  have hlt:i<xs.length:=by omega
  have f1:=wv ys xs[i]
  have hr:=mh ys xs[i]
  have hs:(dA (xs.take (i+1)) m ys).map D.i=(dA (xs.take i) m ys).map D.i++[.i (m+js ys xs[i])]:=by rw [uC m ys i hlt,List.map_append];rfl
  have hq:(dA (xs.take i) m ys).length≤1000:=by unfold dA;rw [List.length_map,List.length_take];omega
  refine kgo ?_
  exact af (i+1) hlt (by omega)
 ·have h:=of_decide_eq_false h
  refine kgo ?_
  rw [List.take_of_length_le (by omega)]
  exact oX
theorem lO (b:Big) (by':Int) (ps ks:List Int) (hb : -1000≤by'∧by'≤1000) (hl:b.nodes.length≤1000) (hll:∀n∈b.nodes,n.links.length≤1000) (hok:∀n∈b.nodes,Dr by' ps n.parent) (hlk:∀n∈b.nodes,∀l∈n.links,0≤l∧l<(ks.length:Int)):FnD Tryz.prog 301 [b.D,.i by',DI ps,DI ks] (.row 3 131 ((cX by' ps ks b.nodes).map Nd.D)):=by
 refine ah Tryz.func301 (fun hw W0=>?_)
 refine kgo ?_
 refine eJ (fun i:Nat=>i≤b.nodes.length) (fun i=>b.nodes.length - i) (fun i=>[(1,.sy (.d (.i by'))),(2,.sy (.d (DI ps))),(3,.sy (.d (DI ks))),(4,.sy (.bx 10004 0)),(10004,.tk (.bx (flat b.D))),(9,.sy (.k 10013)),(10013,.tk (.row 3 131 ((cX by' ps ks (b.nodes.take i)).map Nd.D))),(10,.sy (.d (.i i)))]) 0 (Nat.zero_le _) (fun i hi=>?_)
 refine kgo ?_
 refine cIf (fun h=>?_) (fun h=>?_)
 ·have h:=of_decide_eq_true h
  have hlt:i<b.nodes.length:=by omega
  have hm:=List.getElem_mem hlt
  have hq:(cX by' ps ks (b.nodes.take i)).length≤1000:=by unfold cX;rw [List.length_map,List.length_take];omega
  have hL:=hll _ hm
  have hK:=hlk _ hm
  refine kgo ?_
  refine eJ (fun j:Nat=>j≤(b.nodes[i]).links.length) (fun j=>(b.nodes[i]).links.length - j) (fun j=>[(1,.sy (.d (.i by'))),(2,.sy (.d (DI ps))),(3,.sy (.d (DI ks))),(4,.sy (.bx 10004 0)),(10004,.tk (.bx (flat b.D))),(9,.sy (.k 10013)),(10013,.tk (.row 3 131 ((cX by' ps ks (b.nodes.take i)).map Nd.D))),(10,.sy (.d (.i i))),(11,.sy (.k 10021)),(10021,.tk (.row 1 3 ((ey ks ((b.nodes[i]).links.take j)).map .i))),(12,.sy (.d (.i j)))]) 0 (Nat.zero_le _) (fun j hj=>?_)
  refine kgo ?_
  refine cIf (fun h2=>?_) (fun h2=>?_)
  ·have h2:=of_decide_eq_true h2
   have hjl:j<(b.nodes[i]).links.length:=by omega
   have hk2:=hK _ (List.getElem_mem hjl)
   have hs:(ey ks ((b.nodes[i]).links.take (j+1))).map D.i=(ey ks ((b.nodes[i]).links.take j)).map D.i++[.i (atI ks (b.nodes[i]).links[j])]:=by rw [nU ks j hjl,List.map_append];rfl
   have hq2:(ey ks ((b.nodes[i]).links.take j)).length≤1000:=by unfold ey;rw [List.length_map,List.length_take];omega
   refine kgo ?_
   exact af (j+1) hjl (by omega)
  ·have h2:=of_decide_eq_false h2
   rw [show (b.nodes[i]).links.take j=(b.nodes[i]).links from List.take_of_length_le (by omega)]
   have f1:=pG (b.nodes[i]).parent by' ps (hok _ hm) hb
   have hs:(cX by' ps ks (b.nodes.take (i+1))).map Nd.D=(cX by' ps ks (b.nodes.take i)).map Nd.D++[Nd.D ⟨(b.nodes[i]).control,upF by' ps (b.nodes[i]).parent,ey ks (b.nodes[i]).links⟩]:=by rw [tY by' ps ks i hlt,List.map_append];rfl
   repeat (first|(refine b8 ?_;first|refine aP ?_|refine cF ?_|refine bh ?_|refine bo ?_|refine aU ?_|refine bl ?_|refine aY ?_|refine aF ?_|refine bk ?_)|(refine fo ?_;first|refine bX ?_|refine fQ ?_|refine cu ?_|refine cD ?_)|(refine fB ?_;first|refine eB (fun _=>?_)|refine cq ?_|refine cf ?_|refine bP ?_|refine cy ?_|refine cB ?_|refine ci ?_)|(refine fx ?_;first|refine b7 ?_|refine eV ?_|refine ca ?_|refine bS ?_|refine cj ?_|refine cm ?_|refine b9 ?_)|(refine fp ?_;first|refine fG ?_|refine fb ?_|refine ch ?_|refine bY ?_|refine fJ ?_|refine be ?_|refine bm ?_)|(refine cb ?_;first|refine bf ?_|refine cC ?_)|(refine ft ?_;first|refine co ?_|refine cr ?_|refine fq ?_)|(refine b6 ?_;first|refine cG ?_|refine bj ?_|refine aT ?_|refine aX ?_|refine aQ ?_|refine bp ?_)|(refine fS ?_;first|refine cd ?_|refine fj ?_|refine bg ?_|refine aR ?_|refine bc ?_)|(refine aO ?_;first|refine ax _ ?_|refine aW ?_|refine aG ?_|refine az ?_|refine aC ?_)|(refine fl ?_;first|refine cz ?_|refine bR ?_|refine cA ?_)|(refine gOp ?_;first|refine fw ?_|refine fy ?_|refine ba ?_|refine fu ?_|refine fE ?_|refine cg ?_|refine aS ?_|refine cE ?_|refine fF ?_|refine bV ?_|refine ct ?_|refine bd ?_|refine sFz 64 ?_|refine aE ?_|refine cw ?_|refine sNo ?_|refine fa ?_|refine aA ?_)|refine e9 ?_|refine ez ?_|refine gx ?_|refine bq ?_|refine cI ?_|refine bF ?_|refine fX ?_|refine gd ?_|refine fU ?_|refine eD ?_|refine cM ?_|refine bu ?_|refine aB ?_|refine br ?_|refine cL ?_|refine bG ?_|refine aBlkX ?_|refine cJ ?_|refine sFz 64 ?_)
   exact af (i+1) hlt (by omega)
 ·have h:=of_decide_eq_false h
  refine kgo ?_
  rw [List.take_of_length_le (by omega)]
  exact oX
theorem oF (b:Big) (ps:List Int) (hok:∀x∈b.inner,0≤x.link∧x.link<(ps.length:Int)) (hl:b.inner.length≤1000):FnD Tryz.prog 303 [b.D,DI ps] (.row 2 133 ((dx ps b.inner).map Wr.D)):=by
 refine ah Tryz.func303 (fun hw W0=>?_)
 refine kgo ?_
 refine eJ (fun i:Nat=>i≤b.inner.length) (fun i=>b.inner.length - i) (fun i=>[(1,.sy (.d (DI ps))),(2,.sy (.bx 10002 0)),(10002,.tk (.bx (flat b.D))),(5,.sy (.k 10007)),(10007,.tk (.row 2 133 ((dx ps (b.inner.take i)).map Wr.D))),(6,.sy (.d (.i i)))]) 0 (Nat.zero_le _) (fun i hi=>?_)
 refine kgo ?_
 refine cIf (fun h=>?_) (fun h=>?_)
 ·have h:=of_decide_eq_true h
  have hlt:i<b.inner.length:=by omega
  have hk:=hok _ (List.getElem_mem hlt)
  have hb:(dx ps (b.inner.take i)).length≤1000:=by unfold dx;rw [List.length_map,List.length_take];omega
  have hs:(dx ps (b.inner.take (i+1))).map Wr.D=(dx ps (b.inner.take i)).map Wr.D++[Wr.D ⟨(b.inner[i]).name,atI ps (b.inner[i]).link⟩]:=by rw [ud ps i hlt,List.map_append];rfl
  refine kgo ?_
  exact af (i+1) hlt (by omega)
 ·have h:=of_decide_eq_false h
  refine kgo ?_
  rw [List.take_of_length_le (by omega)]
  exact oX
theorem tv (l:List Int) (hl:l.length≤1000):FnD Tryz.prog 208 [DI l] (.row 1 3 (l.map .i)):=by
 refine ah Tryz.func208 (fun hw W0=>?_)
 refine kgo ?_
 exact oX
theorem lM (b:Big) (hl:b.inner.length≤1000):FnD Tryz.prog 181 [b.D] (.d (DS (b.inner.map Wr.name))):=by
 refine ah Tryz.func181 (fun hw W0=>?_)
 refine kgo ?_
 refine eJ (fun i:Nat=>i≤b.inner.length) (fun i=>b.inner.length - i) (fun i=>[(1,.sy (.bx 10001 0)),(10001,.tk (.bx (flat b.D))),(3,.sy (.k 10005)),(10005,.tk (.row 1 9 (((b.inner.take i).map Wr.name).map .s))),(4,.sy (.d (.i i)))]) 0 (Nat.zero_le _) (fun i hi=>?_)
 refine kgo ?_
 refine cIf (fun h=>?_) (fun h=>?_)
 ·have h:=of_decide_eq_true h
  have hlt:i<b.inner.length:=by omega
  have hs:((b.inner.take (i+1)).map Wr.name).map D.s=((b.inner.take i).map Wr.name).map D.s++[.s (b.inner[i]).name]:=by rw [List.take_succ_eq_append_getElem hlt,List.map_append,List.map_append];rfl
  refine kgo ?_
  exact af (i+1) hlt (by omega)
 ·have h:=of_decide_eq_false h
  refine kgo ?_
  rw [List.take_of_length_le (by omega)]
  exact HM
theorem rJ (xs ys:List ByteArray):FnD Tryz.prog 262 [DS xs,DS ys] (.d (.b (io xs ys))):=by
 refine ah Tryz.func262 (fun hw W0=>?_)
 have hl:=(wfM hw.1).1
 refine kgo ?_
 refine eJ (fun i:Nat=>i≤xs.length∧(xs.take i).all (fun s=>!ys.any fun x=>x.toList == s.toList)=true) (fun i=>xs.length - i) (fun i=>[(0,.sy (.d (DS xs))),(1,.sy (.d (DS ys))),(5,.sy (.d (.i i)))]) 0 ⟨Nat.zero_le _,rfl⟩ (fun i hi=>?_)
 refine kgo ?_
 refine cIf (fun h=>?_) (fun h=>?_)
 ·have h:=of_decide_eq_true h
  have hlt:i<xs.length:=by omega
  have f1:=wv ys xs[i]
  have hp:=ri ys xs[i]
  refine kgo ?_
  refine cIf (fun h2=>?_) (fun h2=>?_)
  ·refine kgo ?_
   rw [show io xs ys=false from List.all_eq_false.2 ⟨_,List.getElem_mem hlt,by rw [← hp,h2];simp⟩]
   exact aD
  ·refine kgo ?_
   exact af (i+1) ⟨hlt,by rw [List.take_succ_eq_append_getElem hlt,List.all_append,hi.2,List.all_cons,← hp,h2];rfl⟩ (by omega)
 ·have h:=of_decide_eq_false h
  refine kgo ?_
  rw [show io xs ys=true from by rw [← hi.2,List.take_of_length_le (by omega)];rfl]
  exact aD
end Go.Proofs.YtclpbhoekmecjaaGreatDoor
namespace Go.Proofs.YtclpbhoekmecjaaGreatDoor
open Go.RowKit
set_option linter.unusedVariables false
set_option maxRecDepth 100000
set_option maxHeartbeats 4000000
attribute [local irreducible] au Der At
theorem vP {sig:List Ctl} {b:Big} (h:ay sig b=true) (by':Int) {ps:List Int} (hp:b.roots≤ps.length):∀n∈b.nodes,Dr by' ps n.parent:=by
 intro n hn
 obtain ⟨i,hi,rfl⟩:=List.mem_iff_getElem.1 hn
 have:=iy h i hi
 have:=aN h
 unfold Dr
 omega
theorem qR {sig:List Ctl} {b:Big} (h:ay sig b=true) (by':Int) {ps:List Int} (hp:b.roots≤ps.length):∀p∈b.sites,Dr by' ps p:=by
 intro p hp'
 have h3:=List.all_eq_true.1 (ex h).2.2.1 p hp'
 have:=aN h
 unfold fg dF at h3
 unfold Dr
 split at h3
 ·simp only [decide_eq_true_eq] at h3;omega
 ·simp only [Bool.and_eq_true,decide_eq_true_eq] at h3;omega
theorem vH {sig:List Ctl} {b:Big} (h:ay sig b=true) {ks:List Int} (hp:b.edges+b.outer.length≤ks.length):∀n∈b.nodes,∀l∈n.links,0≤l∧l<(ks.length:Int):=by
 intro n hn l hl
 obtain ⟨i,hi,rfl⟩:=List.mem_iff_getElem.1 hn
 have:=(eN h i hi).2.2.2.2 l hl
 unfold eE at this
 have:=bT this
 omega
theorem vw {sig:List Ctl} {b:Big} (h:ay sig b=true) {ks:List Int} (hp:b.edges+b.outer.length≤ks.length):∀x∈b.inner,0≤x.link∧x.link<(ks.length:Int):=by
 intro x hx
 have:=List.all_eq_true.1 (ex h).2.2.2 x hx
 unfold gg eE at this
 have:=bT this
 omega
theorem qq {sig:List Ctl} {b:Big} (h:ay sig b=true):∀n∈b.nodes,n.links.length≤1000:=by
 intro n hn
 obtain ⟨i,hi,rfl⟩:=List.mem_iff_getElem.1 hn
 exact (bD h).links i hi
def BT (a b:Big) (outer:List ByteArray) (above below:List Int):Big:=
 ⟨a.roots,cX 0 (dh 0 a.roots.toNat) (eM 0 a.edges.toNat++above) a.nodes++cX a.nodes.length (dy 0 (dh 0 a.roots.toNat) a.sites) (eM a.edges b.edges.toNat++below) b.nodes,dy a.nodes.length (dy 0 (dh 0 a.roots.toNat) a.sites) b.sites,a.edges+b.edges,outer,dx (eM a.edges b.edges.toNat++below) b.inner⟩
theorem mI (m n:Int) (hn:0≤n∧n≤1000) (hm : -1000≤m∧m≤1000):FnD Tryz.prog 300 [.i m,.i n] (.row 1 3 ((dh m n.toNat).map .i)):=by
 obtain ⟨k,rfl⟩:=Int.eq_ofNat_of_zero_le hn.1
 exact yw m k (by omega) hm
theorem gJ (m n:Int) (hn:0≤n∧n≤1000) (hm : -1000≤m∧m≤1000):FnD Tryz.prog 201 [.i m,.i n] (.row 1 3 ((eM m n.toNat).map .i)):=by
 obtain ⟨k,rfl⟩:=Int.eq_ofNat_of_zero_le hn.1
 exact AE m k (by omega) hm
theorem yX {sig:List Ctl} {a b:Big} (hA:ay sig a=true) (hB:ay sig b=true) (hf:(a.sites.length:Int)=b.roots) (outer:List ByteArray) (above below:List Int) (hol:outer.length≤1000) (h1:above.length=a.outer.length) (h2:below.length=b.outer.length) :
 FnD Tryz.prog 266 [a.D,b.D,DS outer,DI above,DI below] (.d (BT a b outer above below).D):=by
 have ha:=aN hA
 have hb:=aN hB
 have l1:=eH 0 a.edges.toNat
 have l2:=eH a.edges b.edges.toNat
 have l3:=lC 0 a.roots.toNat
 have l4:(dy 0 (dh 0 a.roots.toNat) a.sites).length=a.sites.length:=by unfold dy;rw [List.length_map]
 have f1:=mI 0 a.roots (by omega) (by omega)
 have f2:=gJ 0 a.edges (by omega) (by omega)
 have f3:=gJ a.edges b.edges (by omega) (by omega)
 have f4:=lK a 0 (dh 0 a.roots.toNat) (by omega) (qR hA 0 (by omega)) (by omega)
 have f5:=lO a 0 (dh 0 a.roots.toNat) (eM 0 a.edges.toNat++above) (by omega) (by omega) (qq hA) (vP hA 0 (by omega)) (vH hA (by rw [List.length_append];omega))
 have f6:=lO b a.nodes.length (dy 0 (dh 0 a.roots.toNat) a.sites) (eM a.edges b.edges.toNat++below) (by omega) (by omega) (qq hB) (vP hB _ (by omega)) (vH hB (by rw [List.length_append];omega))
 have f7:=lK b a.nodes.length (dy 0 (dh 0 a.roots.toNat) a.sites) (by omega) (qR hB _ (by omega)) (by omega)
 have f8:=oF b (eM a.edges b.edges.toNat++below) (vw hB (by rw [List.length_append];omega)) (by omega)
 have q1:(cX 0 (dh 0 a.roots.toNat) (eM 0 a.edges.toNat++above) a.nodes).length≤1000:=by unfold cX;rw [List.length_map];omega
 have q2:(cX a.nodes.length (dy 0 (dh 0 a.roots.toNat) a.sites) (eM a.edges b.edges.toNat++below) b.nodes).length≤1000:=by unfold cX;rw [List.length_map];omega
 refine ah Tryz.func266 (fun hw W0=>?_)
 repeat (first|refine cFz 11 ?_|refine cFz 12 ?_|refine cFz 13 ?_|refine cFz 14 ?_|(refine b8 ?_;first|refine aP ?_|refine cF ?_|refine bh ?_|refine bo ?_|refine aU ?_|refine bl ?_|refine aY ?_|refine aF ?_|refine bk ?_)|(refine fo ?_;first|refine bX ?_|refine fQ ?_|refine cu ?_|refine cD ?_)|(refine fB ?_;first|refine eB (fun _=>?_)|refine cq ?_|refine cf ?_|refine bP ?_|refine cy ?_|refine cB ?_|refine ci ?_)|(refine fx ?_;first|refine b7 ?_|refine eV ?_|refine ca ?_|refine bS ?_|refine cj ?_|refine cm ?_|refine b9 ?_)|(refine fp ?_;first|refine fG ?_|refine fb ?_|refine ch ?_|refine bY ?_|refine fJ ?_|refine be ?_|refine bm ?_)|(refine cb ?_;first|refine bf ?_|refine cC ?_)|(refine ft ?_;first|refine co ?_|refine cr ?_|refine fq ?_)|(refine b6 ?_;first|refine cG ?_|refine bj ?_|refine aT ?_|refine aX ?_|refine aQ ?_|refine bp ?_)|(refine fS ?_;first|refine cd ?_|refine fj ?_|refine bg ?_|refine aR ?_|refine bc ?_)|(refine aO ?_;first|refine ax _ ?_|refine aW ?_|refine aG ?_|refine az ?_|refine aC ?_)|(refine fl ?_;first|refine cz ?_|refine bR ?_|refine cA ?_)|(refine gOp ?_;first|refine fw ?_|refine fy ?_|refine ba ?_|refine fu ?_|refine fE ?_|refine cg ?_|refine aS ?_|refine cE ?_|refine fF ?_|refine bV ?_|refine ct ?_|refine bd ?_|refine sFz 45 ?_|refine sFz 46 ?_|refine sFz 52 ?_|refine sFz 60 ?_|refine sFz 63 ?_|refine aE ?_|refine cw ?_|refine sNo ?_|refine fa ?_|refine aA ?_)|refine e9 ?_|refine ez ?_|refine gx ?_|refine bq ?_|refine cI ?_|refine bF ?_|refine fX ?_|refine gd ?_|refine fU ?_|refine eD ?_|refine cM ?_|refine bu ?_|refine aB ?_|refine br ?_|refine cL ?_|refine bG ?_|refine aBlkX ?_|refine cJ ?_|refine sFz 45 ?_|refine sFz 46 ?_|refine sFz 52 ?_|refine sFz 60 ?_|refine sFz 63 ?_)
 exact aD
theorem fV (sig:List Ctl) (b:Big) (hl:b.inner.length≤1048576):FnD Tryz.prog 123 [.l 3 (sig.map Ctl.D),b.D] (.d (.b (ay sig b))):=⟨cH Tryz.func123,fun F w vs hv hF=>by
 obtain ⟨v1,t,rfl,h1,v2,t2,rfl,h2,h3⟩:=hv
 cases (show t2 = [] from h3)
 obtain ⟨cs,rfl,hb⟩:=pB h2
 refine (rh _ _ _ _ _ _ _ _ _ (rW.toV (by decide) h1) hb hl).mono ?_
 rintro e w' ⟨rfl,hX⟩
 exact ⟨_,rfl,hX,rfl⟩⟩
theorem zb (a c:List ByteArray):FnD Tryz.prog 264 [DS a,DS c] (.d (.b (eqS a c))):=by
 refine ah Tryz.func264 (fun hw W0=>?_)
 have hl:=(wfM hw.1).1
 refine kgo ?_
 refine cIf (fun h=>?_) (fun h=>?_)
 ·have h:¬(a.length:Int)=c.length:=by simpa using h
  refine kgo ?_
  rw [rg h]
  exact aD
 ·have h:(a.length:Int)=c.length:=by simpa using h
  refine kgo ?_
  refine eJ (fun i:Nat=>i≤a.length∧(List.range i).all (jI a c)=true) (fun i=>a.length - i) (fun i=>[(0,.sy (.d (DS a))),(1,.sy (.d (DS c))),(5,.sy (.d (.i i)))]) 0 ⟨Nat.zero_le _,rfl⟩ (fun i hi=>?_)
  refine kgo ?_
  refine cIf (fun h2=>?_) (fun h2=>?_)
  ·have h2:=of_decide_eq_true h2
   have hlt:i<a.length:=by omega
   have hlt2:i<c.length:=by omega
   have hs:=ka a c i hlt hlt2
   refine kgo ?_
   refine cIf (fun h3=>?_) (fun h3=>?_)
   ·refine kgo ?_
    rw [qo (c:=c) i hlt (by rw [hs];simpa using h3)]
    exact aD
   ·refine kgo ?_
    exact af (i+1) ⟨hlt,by rw [bN,hi.2,hs];simpa using h3⟩ (by omega)
  ·have h2:=of_decide_eq_false h2
   refine kgo ?_
   rw [yv h (by rw [← hi.2,show i=a.length by omega])]
   exact aD
def ni (a b:Big):Bool:=decide ((a.sites.length:Int)=b.roots) && eqS (a.inner.map Wr.name) b.outer
theorem Bv (a b:Big) (hl:a.inner.length≤1000):FnD Tryz.prog 233 [a.D,b.D] (.d (.b (ni a b))):=by
 have f1:=lM a hl
 have f2:=zb (a.inner.map Wr.name) b.outer
 refine ah Tryz.func233 (fun hw W0=>?_)
 have hs:=(wfM hw.1.2.2.1).1
 cases hc:decide ((a.sites.length:Int)=b.roots)
 ·rw [show ni a b=false from by unfold ni;rw [hc];rfl]
  refine kgo ?_
  rw [hc]
  refine kgo ?_
  exact aD
 ·rw [show ni a b=eqS (a.inner.map Wr.name) b.outer from by unfold ni;rw [hc];rfl]
  refine kgo ?_
  rw [hc]
  refine kgo ?_
  exact aD
end Go.Proofs.YtclpbhoekmecjaaGreatDoor
namespace Go.Proofs.YtclpbhoekmecjaaGreatDoor
open Go.RowKit
set_option linter.unusedVariables false
set_option maxRecDepth 100000
set_option maxHeartbeats 4000000
attribute [local irreducible] au Der At
theorem wJ (sig:List Ctl) (b:Big) (hl:b.inner.length≤1048576):FnD Tryz.prog 234 [.l 3 (sig.map Ctl.D),b.D] (.tp [(if ay sig b then b else eU).D,.b (ay sig b)]):=by
 have f1:=fV sig b hl
 refine ah Tryz.func234 (fun hw W0=>?_)
 cases hc:ay sig b
 ·rw [hc] at f1
  refine kgo ?_
  exact ig
 ·rw [hc] at f1
  refine kgo ?_
  exact ig
def Aj (a b:Big):List Int:=eM 0 a.edges.toNat++dA a.outer (a.edges+b.edges) a.outer
def ta (a b:Big):Big:=BT a b a.outer (dA a.outer (a.edges+b.edges) a.outer) (a.inner.map fun x=>atI (Aj a b) x.link)
theorem z6 {sig:List Ctl} {a b:Big} (hA:ay sig a=true) (hB:ay sig b=true) (hf:(a.sites.length:Int)=b.roots) (hn:a.inner.length=b.outer.length):FnD Tryz.prog 235 [a.D,b.D] (.d (ta a b).D):=by
 have ha:=aN hA
 have hb:=aN hB
 have l1:=eH 0 a.edges.toNat
 have l2:(dA a.outer (a.edges+b.edges) a.outer).length=a.outer.length:=by unfold dA;rw [List.length_map]
 have l3:(Aj a b).length=a.edges.toNat+a.outer.length:=by unfold Aj;rw [List.length_append,l1,l2]
 have f1:=nS a.outer (a.edges+b.edges) a.outer (by omega) (by omega) (by omega)
 have f2:=gJ 0 a.edges (by omega) (by omega)
 have f3:=yX hA hB hf a.outer (dA a.outer (a.edges+b.edges) a.outer) (a.inner.map fun x=>atI (Aj a b) x.link) (by omega) l2 (by rw [List.length_map];exact hn)
 have hk:=vw hA (ks:=Aj a b) (by omega)
 refine ah Tryz.func235 (fun hw W0=>?_)
 repeat (first|refine cFz 5 ?_|(refine b8 ?_;first|refine aP ?_|refine cF ?_|refine bh ?_|refine bo ?_|refine aU ?_|refine bl ?_|refine aY ?_|refine aF ?_|refine bk ?_)|(refine fo ?_;first|refine bX ?_|refine fQ ?_|refine cu ?_|refine cD ?_)|(refine fB ?_;first|refine eB (fun _=>?_)|refine cq ?_|refine cf ?_|refine bP ?_|refine cy ?_|refine cB ?_|refine ci ?_)|(refine fx ?_;first|refine b7 ?_|refine eV ?_|refine ca ?_|refine bS ?_|refine cj ?_|refine cm ?_|refine b9 ?_)|(refine fp ?_;first|refine fG ?_|refine fb ?_|refine ch ?_|refine bY ?_|refine fJ ?_|refine be ?_|refine bm ?_)|(refine cb ?_;first|refine bf ?_|refine cC ?_)|(refine ft ?_;first|refine co ?_|refine cr ?_|refine fq ?_)|(refine b6 ?_;first|refine cG ?_|refine bj ?_|refine aT ?_|refine aX ?_|refine aQ ?_|refine bp ?_)|(refine fS ?_;first|refine cd ?_|refine fj ?_|refine bg ?_|refine aR ?_|refine bc ?_)|(refine aO ?_;first|refine ax _ ?_|refine aW ?_|refine aG ?_|refine az ?_|refine aC ?_)|(refine fl ?_;first|refine cz ?_|refine bR ?_|refine cA ?_)|(refine gOp ?_;first|refine fw ?_|refine fy ?_|refine ba ?_|refine fu ?_|refine fE ?_|refine cg ?_|refine aS ?_|refine cE ?_|refine fF ?_|refine bV ?_|refine ct ?_|refine bd ?_|refine aE ?_|refine cw ?_|refine sNo ?_|refine fa ?_|refine aA ?_)|refine e9 ?_|refine ez ?_|refine gx ?_|refine bq ?_|refine cI ?_|refine bF ?_|refine fX ?_|refine gd ?_|refine fU ?_|refine eD ?_|refine cM ?_|refine bu ?_|refine aB ?_|refine br ?_|refine cL ?_|refine bG ?_|refine aBlkX ?_|refine cJ ?_)
 refine cFz 6 ?_
 refine eJ (fun i:Nat=>i≤a.inner.length) (fun i=>a.inner.length - i) (fun i=>[(2,.sy (.bx 10002 0)),(10002,.tk (.bx (flat a.D))),(3,.sy (.bx 10003 0)),(10003,.tk (.bx (flat b.D))),(4,.sy (.bx 10004 0)),(10004,.tk (.bx (flat (.t [.i 0,.n 3,.n 1,.i 0,.n 1,.n 2])))),(5,.sy (.d (DI (dA a.outer (a.edges+b.edges) a.outer)))),(6,.sy (.d (DI (Aj a b)))),(7,.sy (.k 10024)),(10024,.tk (.row 1 3 (((a.inner.take i).map fun x=>atI (Aj a b) x.link).map .i))),(8,.sy (.d (.i i)))]) 0 (Nat.zero_le _) (fun i hi=>?_)
 refine kgo ?_
 refine cIf (fun h=>?_) (fun h=>?_)
 ·have h:=of_decide_eq_true h
  have hlt:i<a.inner.length:=by omega
  have hk2:=hk _ (List.getElem_mem hlt)
  have hs:((a.inner.take (i+1)).map fun x=>atI (Aj a b) x.link).map D.i=((a.inner.take i).map fun x=>atI (Aj a b) x.link).map D.i++[.i (atI (Aj a b) (a.inner[i]).link)]:=by rw [List.take_succ_eq_append_getElem hlt,List.map_append,List.map_append];rfl
  refine kgo ?_
  exact af (i+1) hlt (by omega)
 ·have h:=of_decide_eq_false h
  rw [List.take_of_length_le (by omega)]
  repeat (first|(refine b8 ?_;first|refine aP ?_|refine cF ?_|refine bh ?_|refine bo ?_|refine aU ?_|refine bl ?_|refine aY ?_|refine aF ?_|refine bk ?_)|(refine fo ?_;first|refine bX ?_|refine fQ ?_|refine cu ?_|refine cD ?_)|(refine fB ?_;first|refine eB (fun _=>?_)|refine cq ?_|refine cf ?_|refine bP ?_|refine cy ?_|refine cB ?_|refine ci ?_)|(refine fx ?_;first|refine b7 ?_|refine eV ?_|refine ca ?_|refine bS ?_|refine cj ?_|refine cm ?_|refine b9 ?_)|(refine fp ?_;first|refine fG ?_|refine fb ?_|refine ch ?_|refine bY ?_|refine fJ ?_|refine be ?_|refine bm ?_)|(refine cb ?_;first|refine bf ?_|refine cC ?_)|(refine ft ?_;first|refine co ?_|refine cr ?_|refine fq ?_)|(refine b6 ?_;first|refine cG ?_|refine bj ?_|refine aT ?_|refine aX ?_|refine aQ ?_|refine bp ?_)|(refine fS ?_;first|refine cd ?_|refine fj ?_|refine bg ?_|refine aR ?_|refine bc ?_)|(refine aO ?_;first|refine ax _ ?_|refine aW ?_|refine aG ?_|refine az ?_|refine aC ?_)|(refine fl ?_;first|refine cz ?_|refine bR ?_|refine cA ?_)|(refine gOp ?_;first|refine fw ?_|refine fy ?_|refine ba ?_|refine fu ?_|refine fE ?_|refine cg ?_|refine aS ?_|refine cE ?_|refine fF ?_|refine bV ?_|refine ct ?_|refine bd ?_|refine sFz 49 ?_|refine aE ?_|refine cw ?_|refine sNo ?_|refine fa ?_|refine aA ?_)|refine e9 ?_|refine ez ?_|refine gx ?_|refine bq ?_|refine cI ?_|refine bF ?_|refine fX ?_|refine gd ?_|refine fU ?_|refine eD ?_|refine cM ?_|refine bu ?_|refine aB ?_|refine br ?_|refine cL ?_|refine bG ?_|refine aBlkX ?_|refine cJ ?_|refine sFz 49 ?_)
  exact aD
theorem sV (names:List ByteArray) (hl:names.length≤1000):FnD Tryz.prog 232 [.i 0,DS names] (.d (idB names).D):=by
 refine ah Tryz.func232 (fun hw W0=>?_)
 repeat (first|(refine b8 ?_;first|refine aP ?_|refine cF ?_|refine bh ?_|refine bo ?_|refine aU ?_|refine bl ?_|refine aY ?_|refine aF ?_|refine bk ?_)|(refine fo ?_;first|refine bX ?_|refine fQ ?_|refine cu ?_|refine cD ?_)|(refine fB ?_;first|refine eB (fun _=>?_)|refine cq ?_|refine cf ?_|refine bP ?_|refine cy ?_|refine cB ?_|refine ci ?_)|(refine fx ?_;first|refine b7 ?_|refine eV ?_|refine ca ?_|refine bS ?_|refine cj ?_|refine cm ?_|refine b9 ?_)|(refine fp ?_;first|refine fG ?_|refine fb ?_|refine ch ?_|refine bY ?_|refine fJ ?_|refine be ?_|refine bm ?_)|(refine cb ?_;first|refine bf ?_|refine cC ?_)|(refine ft ?_;first|refine co ?_|refine cr ?_|refine fq ?_)|(refine b6 ?_;first|refine cG ?_|refine bj ?_|refine aT ?_|refine aX ?_|refine aQ ?_|refine bp ?_)|(refine fS ?_;first|refine cd ?_|refine fj ?_|refine bg ?_|refine aR ?_|refine bc ?_)|(refine aO ?_;first|refine ax _ ?_|refine aW ?_|refine aG ?_|refine az ?_|refine aC ?_)|(refine fl ?_;first|refine cz ?_|refine bR ?_|refine cA ?_)|(refine gOp ?_;first|refine fw ?_|refine fy ?_|refine ba ?_|refine fu ?_|refine fE ?_|refine cg ?_|refine aS ?_|refine cE ?_|refine fF ?_|refine bV ?_|refine ct ?_|refine bd ?_|refine sFz 11 ?_|refine aE ?_|refine cw ?_|refine sNo ?_|refine fa ?_|refine aA ?_)|refine e9 ?_|refine ez ?_|refine gx ?_|refine bq ?_|refine cI ?_|refine bF ?_|refine fX ?_|refine gd ?_|refine fU ?_|refine eD ?_|refine cM ?_|refine bu ?_|refine aB ?_|refine br ?_|refine cL ?_|refine bG ?_|refine aBlkX ?_|refine cJ ?_|refine sFz 11 ?_)
 refine eJ (fun _:Unit=>True) (fun _=>0) (fun _=>[(0,.sy (.d (.i 0))),(1,.sy (.d (DS names))),(4,.sy (.bx 10004 0)),(10004,.tk (.bx (flat (.t [.i 0,.n 3,.n 1,.i 0,.n 1,.n 2])))),(5,.sy (.bx 10005 0)),(10005,.tk (.bx [.d (.i 0),.d (.n 3),.d (.n 1),.d (.i 0),.d (DS names),.d (.n 2)])),(6,.sy (.d (.i 0)))]) () trivial (fun _ _=>?_)
 refine kgo ?_
 refine oG 10005 5 20001 133 ?_
 refine eJ (fun i:Nat=>i≤names.length) (fun i=>names.length - i) (fun i=>[(1,.sy (.d (DS names))),(4,.sy (.bx 10004 0)),(10004,.tk (.bx (flat (.t [.i 0,.n 3,.n 1,.i 0,.n 1,.n 2])))),(5,.sy (.bx 10005 0)),(10005,.tk (.bx [.d (.i 0),.d (.n 3),.d (.n 1),.d (.i 0),.d (DS names),.k 20001])),(20001,.tk (.row 2 133 (((names.mapIdx fun i s=>(⟨s,i⟩:Wr)).take i).map Wr.D))),(7,.sy (.d (.i i)))]) 0 (Nat.zero_le _) (fun i hi=>?_)
 refine kgo ?_
 refine cIf (fun h=>?_) (fun h=>?_)
 ·have h:=of_decide_eq_true h
  have hlt:i<names.length:=by omega
  have hq:((names.mapIdx fun i s=>(⟨s,i⟩:Wr)).take i).length≤1000:=by rw [List.length_take,List.length_mapIdx];omega
  have hs:((names.mapIdx fun i s=>(⟨s,i⟩:Wr)).take (i+1)).map Wr.D=((names.mapIdx fun i s=>(⟨s,i⟩:Wr)).take i).map Wr.D++[Wr.D ⟨names[i],i⟩]:=by rw [List.take_succ_eq_append_getElem (by rw [List.length_mapIdx];exact hlt),List.map_append,List.getElem_mapIdx];rfl
  refine kgo ?_
  exact af (i+1) hlt (by omega)
 ·have h:=of_decide_eq_false h
  rw [List.take_of_length_le (by rw [List.length_mapIdx];omega)]
  refine bF (aB (aB (bG (bu ?_))))
  refine o7 10005 5 ?_
  refine kgo ?_
  exact aD
theorem qn {a b:Big}:(ta a b).inner.length=b.inner.length:=by unfold ta BT dx;simp
def eO (sig:List Ctl) (a b:Big):Big × Bool:=if ay sig a && (ay sig b && (ni a b && ay sig (ta a b))) then (ta a b,true) else (eU,false)
theorem oW (sig:List Ctl) (a b:Big) (hla:a.inner.length≤1000) (hlb:b.inner.length≤1000):FnD Tryz.prog 206 [.l 3 (sig.map Ctl.D),a.D,b.D] (.tp [(eO sig a b).1.D,.b (eO sig a b).2]):=by
 have f1:=fV sig a (by omega)
 have f2:=fV sig b (by omega)
 have f3:=Bv a b hla
 have f4:=wJ sig (ta a b) (by rw [qn];omega)
 refine ah Tryz.func206 (fun hw W0=>?_)
 cases h1:ay sig a
 ·rw [show eO sig a b=(eU,false) from by unfold eO;rw [h1];rfl]
  rw [h1] at f1
  refine kgo ?_
  exact ig
 cases h2:ay sig b
 ·rw [show eO sig a b=(eU,false) from by unfold eO;rw [h1,h2];rfl]
  rw [h1] at f1
  rw [h2] at f2
  refine kgo ?_
  exact ig
 cases h3:ni a b
 ·rw [show eO sig a b=(eU,false) from by unfold eO;rw [h1,h2,h3];rfl]
  rw [h1] at f1
  rw [h2] at f2
  rw [h3] at f3
  refine kgo ?_
  exact ig
 have h4:(a.sites.length:Int)=b.roots∧a.inner.length=b.outer.length:=by
  unfold ni at h3
  rw [Bool.and_eq_true,decide_eq_true_eq] at h3
  refine ⟨h3.1,?_⟩
  have:=h3.2
  by_cases hh:((a.inner.map Wr.name).length:Int)=b.outer.length
  ·rw [List.length_map] at hh;omega
  ·rw [rg hh] at this;cases this
 have f5:=z6 h1 h2 h4.1 h4.2
 rw [show eO sig a b=(if ay sig (ta a b) then ta a b else eU,ay sig (ta a b)) from by unfold eO;rw [h1,h2,h3];cases ay sig (ta a b) <;> rfl]
 rw [h1] at f1
 rw [h2] at f2
 rw [h3] at f3
 refine kgo ?_
 exact ig
end Go.Proofs.YtclpbhoekmecjaaGreatDoor
namespace Go.Proofs.YtclpbhoekmecjaaGreatDoor
open Go.RowKit
set_option linter.unusedVariables false
set_option maxRecDepth 100000
set_option maxHeartbeats 4000000
attribute [local irreducible] au Der At
theorem kg (a:List Wr):∀b:List Wr,(bJ a b).length=a.length+b.length:=by
 unfold bJ
 intro b
 induction b generalizing a with
 | nil=>rfl
 | cons x b ih=>rw [List.foldl_cons,ih,oy,List.length_cons];omega
theorem tO (a b:List Wr) (i:Nat) (h:i<b.length):bJ a (b.take (i+1))=gw wLt (bJ a (b.take i)) b[i]:=by
 unfold bJ;rw [List.take_succ_eq_append_getElem h,List.foldl_append];rfl
theorem sJ (a b:List Wr) (hla:a.length≤1000) (hlb:b.length≤1000):FnD Tryz.prog 203 [.l 2 (a.map Wr.D),.l 2 (b.map Wr.D)] (.d (.l 2 ((bJ a b).map Wr.D))):=by
 refine ah Tryz.func203 (fun hw W0=>?_)
 repeat (first|(refine b8 ?_;first|refine aP ?_|refine cF ?_|refine bh ?_|refine bo ?_|refine aU ?_|refine bl ?_|refine aY ?_|refine aF ?_|refine bk ?_)|(refine fo ?_;first|refine bX ?_|refine fQ ?_|refine cu ?_|refine cD ?_)|(refine fB ?_;first|refine eB (fun _=>?_)|refine cq ?_|refine cf ?_|refine bP ?_|refine cy ?_|refine cB ?_|refine ci ?_)|(refine fx ?_;first|refine b7 ?_|refine eV ?_|refine ca ?_|refine bS ?_|refine cj ?_|refine cm ?_|refine b9 ?_)|(refine fp ?_;first|refine fG ?_|refine fb ?_|refine ch ?_|refine bY ?_|refine fJ ?_|refine be ?_|refine bm ?_)|(refine cb ?_;first|refine bf ?_|refine cC ?_)|(refine ft ?_;first|refine fM (d:=5) ?_|refine co ?_|refine cr ?_|refine fq ?_)|(refine b6 ?_;first|refine cG ?_|refine bj ?_|refine aT ?_|refine aX ?_|refine aQ ?_|refine bp ?_)|(refine fS ?_;first|refine cd ?_|refine fj ?_|refine bg ?_|refine aR ?_|refine bc ?_)|(refine aO ?_;first|refine ax _ ?_|refine aW ?_|refine aG ?_|refine az ?_|refine aC ?_)|(refine fl ?_;first|refine cz ?_|refine bR ?_|refine cA ?_)|(refine gOp ?_;first|refine fw ?_|refine fy ?_|refine ba ?_|refine fu ?_|refine fE ?_|refine cg ?_|refine aS ?_|refine cE ?_|refine fF ?_|refine bV ?_|refine ct ?_|refine bd ?_|refine aE ?_|refine cw ?_|refine sNo ?_|refine fa ?_|refine aA ?_)|refine e9 ?_|refine ez ?_|refine gx ?_|refine bq ?_|refine cI ?_|refine bF ?_|refine fX ?_|refine gd ?_|refine fU ?_|refine eD ?_|refine cM ?_|refine bu ?_|refine aB ?_|refine br ?_|refine cL ?_|refine bG ?_|refine aBlkX ?_|refine cJ ?_)
 refine eJ (fun i:Nat=>i≤b.length) (fun i=>b.length - i) (fun i=>[(1,.sy (.d (.l 2 (b.map Wr.D)))),(5,.sy (.d (.l 2 ((bJ a (b.take i)).map Wr.D)))),(6,.sy (.d (.i i)))]) 0 (Nat.zero_le _) (fun i hi=>?_)
 refine kgo ?_
 refine cIf (fun h=>?_) (fun h=>?_)
 ·have h:=of_decide_eq_true h
  have hlt:i<b.length:=by omega
  have hml:=kg a (b.take i)
  rw [List.length_take] at hml
  refine kgo ?_
  refine eJ (fun k:Nat=>k≤(bJ a (b.take i)).length∧∀j (h:j<(bJ a (b.take i)).length),j<k→wLt (bJ a (b.take i))[j] b[i]=true) (fun k=>(bJ a (b.take i)).length - k) (fun k=>[(1,.sy (.d (.l 2 (b.map Wr.D)))),(5,.sy (.d (.l 2 ((bJ a (b.take i)).map Wr.D)))),(6,.sy (.d (.i i))),(7,.sy (.d (.i k)))]) 0 ⟨Nat.zero_le _,fun j _ h=>absurd h (Nat.not_lt_zero _)⟩ (fun k hk=>?_)
  obtain ⟨hk1,hk2⟩:=hk
  have out (hno:∀h:k<(bJ a (b.take i)).length,wLt (bJ a (b.take i))[k] b[i]=false):bJ a (b.take (i+1))=(bJ a (b.take i)).take k++b[i] :: (bJ a (b.take i)).drop k:=by
   rw [tO a b i hlt,vK wLt b[i] _ k hk1 hk2 hno]
  cases hc:decide ((k:Int)<((bJ a (b.take i)).length:Int))
  ·have hc':=of_decide_eq_false hc
   refine kgo ?_
   rw [hc]
   have e:=out (fun h=>absurd h (by omega))
   clear out
   have hs:D.l 2 ((bJ a (b.take (i+1))).map Wr.D)=D.l (1+1) ([]++((bJ a (b.take i)).take k).map Wr.D++[Bj (Wr.D b[i])]++((bJ a (b.take i)).drop k).map Wr.D):=by rw [e,show Bj (Wr.D b[i])=Wr.D b[i] from rfl];simp
   repeat (first|(refine b8 ?_;first|refine aP ?_|refine cF ?_|refine bh ?_|refine bo ?_|refine aU ?_|refine bl ?_|refine aY ?_|refine aF ?_|refine bk ?_)|(refine fo ?_;first|refine bX ?_|refine fQ ?_|refine cu ?_|refine cD ?_)|(refine fB ?_;first|refine eB (fun _=>?_)|refine cq ?_|refine cf ?_|refine bP ?_|refine cy ?_|refine cB ?_|refine ci ?_)|(refine fx ?_;first|refine b7 ?_|refine eV ?_|refine ca ?_|refine bS ?_|refine cj ?_|refine cm ?_|refine b9 ?_)|(refine fp ?_;first|refine fG ?_|refine fb ?_|refine ch ?_|refine bY ?_|refine fJ ?_|refine be ?_|refine bm ?_)|(refine cb ?_;first|refine bf ?_|refine cC ?_)|(refine ft ?_;first|refine fM (d:=5) ?_|refine co ?_|refine cr ?_|refine fq ?_)|(refine b6 ?_;first|refine cG ?_|refine bj ?_|refine aT ?_|refine aX ?_|refine aQ ?_|refine bp ?_)|(refine fS ?_;first|refine cd ?_|refine fj ?_|refine bg ?_|refine aR ?_|refine bc ?_)|(refine aO ?_;first|refine ax _ ?_|refine aW ?_|refine aG ?_|refine az ?_|refine aC ?_)|(refine fl ?_;first|refine cz ?_|refine bR ?_|refine cA ?_)|(refine gOp ?_;first|refine fw ?_|refine fy ?_|refine ba ?_|refine fu ?_|refine fE ?_|refine cg ?_|refine aS ?_|refine cE ?_|refine fF ?_|refine bV ?_|refine ct ?_|refine bd ?_|refine aE ?_|refine cw ?_|refine sNo ?_|refine fa ?_|refine aA ?_)|refine e9 ?_|refine ez ?_|refine gx ?_|refine bq ?_|refine cI ?_|refine bF ?_|refine fX ?_|refine gd ?_|refine fU ?_|refine eD ?_|refine cM ?_|refine bu ?_|refine aB ?_|refine br ?_|refine cL ?_|refine bG ?_|refine aBlkX ?_|refine cJ ?_)
   exact af (i+1) hlt (by omega)
  ·have hc':=of_decide_eq_true hc
   have hkl:k<(bJ a (b.take i)).length:=by omega
   refine kgo ?_
   rw [hc]
   refine kgo ?_
   refine cIf (fun h2=>?_) (fun h2=>?_)
   ·refine kgo ?_
    exact af (k+1) ⟨hkl,fun j h1 h3=>by
     rcases Nat.lt_or_ge j k with h4|h4
     ·exact hk2 j h1 h4
     ·rw [show (bJ a (b.take i))[j]=(bJ a (b.take i))[k] from by congr 1;omega];exact h2⟩ (by omega)
   ·have e:=out (fun h=>h2)
    clear out
    have hs:D.l 2 ((bJ a (b.take (i+1))).map Wr.D)=D.l (1+1) ([]++((bJ a (b.take i)).take k).map Wr.D++[Bj (Wr.D b[i])]++((bJ a (b.take i)).drop k).map Wr.D):=by rw [e,show Bj (Wr.D b[i])=Wr.D b[i] from rfl];simp
    repeat (first|(refine b8 ?_;first|refine aP ?_|refine cF ?_|refine bh ?_|refine bo ?_|refine aU ?_|refine bl ?_|refine aY ?_|refine aF ?_|refine bk ?_)|(refine fo ?_;first|refine bX ?_|refine fQ ?_|refine cu ?_|refine cD ?_)|(refine fB ?_;first|refine eB (fun _=>?_)|refine cq ?_|refine cf ?_|refine bP ?_|refine cy ?_|refine cB ?_|refine ci ?_)|(refine fx ?_;first|refine b7 ?_|refine eV ?_|refine ca ?_|refine bS ?_|refine cj ?_|refine cm ?_|refine b9 ?_)|(refine fp ?_;first|refine fG ?_|refine fb ?_|refine ch ?_|refine bY ?_|refine fJ ?_|refine be ?_|refine bm ?_)|(refine cb ?_;first|refine bf ?_|refine cC ?_)|(refine ft ?_;first|refine fM (d:=5) ?_|refine co ?_|refine cr ?_|refine fq ?_)|(refine b6 ?_;first|refine cG ?_|refine bj ?_|refine aT ?_|refine aX ?_|refine aQ ?_|refine bp ?_)|(refine fS ?_;first|refine cd ?_|refine fj ?_|refine bg ?_|refine aR ?_|refine bc ?_)|(refine aO ?_;first|refine ax _ ?_|refine aW ?_|refine aG ?_|refine az ?_|refine aC ?_)|(refine fl ?_;first|refine cz ?_|refine bR ?_|refine cA ?_)|(refine gOp ?_;first|refine fw ?_|refine fy ?_|refine ba ?_|refine fu ?_|refine fE ?_|refine cg ?_|refine aS ?_|refine cE ?_|refine fF ?_|refine bV ?_|refine ct ?_|refine bd ?_|refine aE ?_|refine cw ?_|refine sNo ?_|refine fa ?_|refine aA ?_)|refine e9 ?_|refine ez ?_|refine gx ?_|refine bq ?_|refine cI ?_|refine bF ?_|refine fX ?_|refine gd ?_|refine fU ?_|refine eD ?_|refine cM ?_|refine bu ?_|refine aB ?_|refine br ?_|refine cL ?_|refine bG ?_|refine aBlkX ?_|refine cJ ?_)
    exact af (i+1) hlt (by omega)
 ·have h:=of_decide_eq_false h
  refine kgo ?_
  rw [List.take_of_length_le (by omega)]
  exact aD
theorem AP {l:List ByteArray} {n:ByteArray} {k:Nat} (hs:l.Pairwise NLt) (hk1:k≤l.length) (hk2:∀j (h:j<l.length),j<k→dg l[j] n=true) (hno:∀h:k<l.length,dg l[k] n=false) (hne:∀h:k<l.length,(l[k].toList == n.toList)=false):rv l n=l.take k++n :: l.drop k:=by
 unfold rv
 rw [if_neg,vK dg n l k hk1 hk2 hno]
 intro hh
 obtain ⟨x,hx,e⟩:=List.any_eq_true.1 hh
 rw [beq_iff_eq] at e
 have e:=fR e
 subst e
 obtain ⟨j,hj,e⟩:=List.getElem_of_mem hx
 rcases Nat.lt_trichotomy j k with h|h|h
 ·have:=hk2 j hj h
  rw [e] at this
  exact NLt.irr _ this
 ·subst h
  have:=hne hj
  rw [e] at this
  simp at this
 ·have h1:dg _ _=true:=List.pairwise_iff_getElem.1 hs k j (by omega) hj h
  rw [e,hno (by omega)] at h1
  cases h1
theorem EZ {l:List ByteArray} {n:ByteArray} {k:Nat} (h:k<l.length) (he:(l[k].toList == n.toList)=true):rv l n=l:=by
 unfold rv
 rw [if_pos (List.any_eq_true.2 ⟨l[k],List.getElem_mem h,he⟩)]
theorem x6 (l:List ByteArray) (i:Nat) (h:i<l.length):cN (l.take (i+1))=rv (cN (l.take i)) l[i]:=by
 unfold cN;rw [List.take_succ_eq_append_getElem h,List.foldl_append];rfl
theorem BU (l:List ByteArray) (s:ByteArray):(rv l s).length≤l.length+1:=by
 unfold rv;split
 ·omega
 ·rw [oy];exact Nat.le_refl _
theorem jx:∀(l a:List ByteArray),(l.foldl rv a).length≤a.length+l.length
 | [],a=>by simp
 | s :: l,a=>by
  have:=jx l (rv a s)
  have:=BU a s
  rw [List.foldl_cons,List.length_cons];omega
theorem xg (l:List ByteArray) (hl:l.length≤100000):FnD Tryz.prog 299 [DS l] (.d (DS (cN l))):=by
 refine ah Tryz.func299 (fun hw W0=>?_)
 repeat (first|(refine b8 ?_;first|refine aP ?_|refine cF ?_|refine bh ?_|refine bo ?_|refine aU ?_|refine bl ?_|refine aY ?_|refine aF ?_|refine bk ?_)|(refine fo ?_;first|refine bX ?_|refine fQ ?_|refine cu ?_|refine cD ?_)|(refine fB ?_;first|refine eB (fun _=>?_)|refine cq ?_|refine cf ?_|refine bP ?_|refine cy ?_|refine cB ?_|refine ci ?_)|(refine fx ?_;first|refine b7 ?_|refine eV ?_|refine ca ?_|refine bS ?_|refine cj ?_|refine cm ?_|refine b9 ?_)|(refine fp ?_;first|refine fG ?_|refine fb ?_|refine ch ?_|refine bY ?_|refine fJ ?_|refine be ?_|refine bm ?_)|(refine cb ?_;first|refine bf ?_|refine cC ?_)|(refine ft ?_;first|refine fM (d:=3) ?_|refine co ?_|refine cr ?_|refine fq ?_)|(refine b6 ?_;first|refine cG ?_|refine bj ?_|refine aT ?_|refine aX ?_|refine aQ ?_|refine bp ?_)|(refine fS ?_;first|refine cd ?_|refine fj ?_|refine bg ?_|refine aR ?_|refine bc ?_)|(refine aO ?_;first|refine ax _ ?_|refine aW ?_|refine aG ?_|refine az ?_|refine aC ?_)|(refine fl ?_;first|refine cz ?_|refine bR ?_|refine cA ?_)|(refine gOp ?_;first|refine fw ?_|refine fy ?_|refine ba ?_|refine fu ?_|refine fE ?_|refine cg ?_|refine aS ?_|refine cE ?_|refine fF ?_|refine bV ?_|refine ct ?_|refine bd ?_|refine aE ?_|refine cw ?_|refine sNo ?_|refine fa ?_|refine aA ?_)|refine e9 ?_|refine ez ?_|refine gx ?_|refine bq ?_|refine cI ?_|refine bF ?_|refine fX ?_|refine gd ?_|refine fU ?_|refine eD ?_|refine cM ?_|refine bu ?_|refine aB ?_|refine br ?_|refine cL ?_|refine bG ?_|refine aBlkX ?_|refine cJ ?_)
 refine eJ (fun i:Nat=>i≤l.length) (fun i=>l.length - i) (fun i=>[(0,.sy (.d (DS l))),(3,.sy (.d (DS (cN (l.take i))))),(4,.sy (.d (.i i)))]) 0 (Nat.zero_le _) (fun i hi=>?_)
 have hsn:=rD (l.take i)
 have hml:=jx (l.take i) []
 rw [show (l.take i).foldl rv []=cN (l.take i) from rfl,List.length_take,List.length_nil] at hml
 refine kgo ?_
 refine cIf (fun h=>?_) (fun h=>?_)
 ·have h:=of_decide_eq_true h
  have hlt:i<l.length:=by omega
  have hsu:=x6 l i hlt
  revert hsn hml hsu
  generalize cN (l.take i)=m
  intro hsn hml hsu
  refine kgo ?_
  refine eJ (fun k:Nat=>k≤m.length∧∀j (h:j<m.length),j<k→dg m[j] l[i]=true) (fun k=>m.length - k) (fun k=>[(0,.sy (.d (DS l))),(3,.sy (.d (DS m))),(4,.sy (.d (.i i))),(5,.sy (.d (.i k)))]) 0 ⟨Nat.zero_le _,fun j _ h=>absurd h (Nat.not_lt_zero _)⟩ (fun k hk=>?_)
  obtain ⟨hk1,hk2⟩:=hk
  have hs0 (e:rv m l[i]=m.take k++l[i] :: m.drop k):DS (cN (l.take (i+1)))=D.l (0+1) ([]++(m.take k).map D.s++[Bj (D.s l[i])]++(m.drop k).map D.s):=by rw [hsu,e,show Bj (D.s l[i])=D.s l[i] from rfl];simp [DS]
  cases hc:decide ((k:Int)<(m.length:Int))
  ·have hc':=of_decide_eq_false hc
   have hc2:decide ((k:Int)=(m.length:Int))=true:=decide_eq_true (by omega)
   have hs:=hs0 (AP hsn hk1 hk2 (fun h=>absurd h (by omega)) (fun h=>absurd h (by omega)))
   clear hs0
   refine kgo ?_
   rw [hc]
   refine kgo ?_
   rw [hc2]
   repeat (first|(refine b8 ?_;first|refine aP ?_|refine cF ?_|refine bh ?_|refine bo ?_|refine aU ?_|refine bl ?_|refine aY ?_|refine aF ?_|refine bk ?_)|(refine fo ?_;first|refine bX ?_|refine fQ ?_|refine cu ?_|refine cD ?_)|(refine fB ?_;first|refine eB (fun _=>?_)|refine cq ?_|refine cf ?_|refine bP ?_|refine cy ?_|refine cB ?_|refine ci ?_)|(refine fx ?_;first|refine b7 ?_|refine eV ?_|refine ca ?_|refine bS ?_|refine cj ?_|refine cm ?_|refine b9 ?_)|(refine fp ?_;first|refine fG ?_|refine fb ?_|refine ch ?_|refine bY ?_|refine fJ ?_|refine be ?_|refine bm ?_)|(refine cb ?_;first|refine bf ?_|refine cC ?_)|(refine ft ?_;first|refine fM (d:=3) ?_|refine co ?_|refine cr ?_|refine fq ?_)|(refine b6 ?_;first|refine cG ?_|refine bj ?_|refine aT ?_|refine aX ?_|refine aQ ?_|refine bp ?_)|(refine fS ?_;first|refine cd ?_|refine fj ?_|refine bg ?_|refine aR ?_|refine bc ?_)|(refine aO ?_;first|refine ax _ ?_|refine aW ?_|refine aG ?_|refine az ?_|refine aC ?_)|(refine fl ?_;first|refine cz ?_|refine bR ?_|refine cA ?_)|(refine gOp ?_;first|refine fw ?_|refine fy ?_|refine ba ?_|refine fu ?_|refine fE ?_|refine cg ?_|refine aS ?_|refine cE ?_|refine fF ?_|refine bV ?_|refine ct ?_|refine bd ?_|refine aE ?_|refine cw ?_|refine sNo ?_|refine fa ?_|refine aA ?_)|refine e9 ?_|refine ez ?_|refine gx ?_|refine bq ?_|refine cI ?_|refine bF ?_|refine fX ?_|refine gd ?_|refine fU ?_|refine eD ?_|refine cM ?_|refine bu ?_|refine aB ?_|refine br ?_|refine cL ?_|refine bG ?_|refine aBlkX ?_|refine cJ ?_)
   exact af (i+1) hlt (by omega)
  ·have hc':=of_decide_eq_true hc
   have hkl:k<m.length:=by omega
   have hc2:decide ((k:Int)=(m.length:Int))=false:=decide_eq_false (by omega)
   refine kgo ?_
   rw [hc]
   refine kgo ?_
   refine cIf (fun h2=>?_) (fun h2=>?_)
   ·refine kgo ?_
    exact af (k+1) ⟨hkl,fun j h1 h3=>by
     rcases Nat.lt_or_ge j k with h4|h4
     ·exact hk2 j h1 h4
     ·rw [show m[j]=m[k] from by congr 1;omega];exact h2⟩ (by omega)
   ·refine kgo ?_
    rw [hc2]
    refine kgo ?_
    refine cIf (fun h3=>?_) (fun h3=>?_)
    ·rw [Bool.not_eq_true'] at h3
     have hs:=hs0 (AP hsn hk1 hk2 (fun h=>h2) (fun h=>h3))
     clear hs0
     repeat (first|(refine b8 ?_;first|refine aP ?_|refine cF ?_|refine bh ?_|refine bo ?_|refine aU ?_|refine bl ?_|refine aY ?_|refine aF ?_|refine bk ?_)|(refine fo ?_;first|refine bX ?_|refine fQ ?_|refine cu ?_|refine cD ?_)|(refine fB ?_;first|refine eB (fun _=>?_)|refine cq ?_|refine cf ?_|refine bP ?_|refine cy ?_|refine cB ?_|refine ci ?_)|(refine fx ?_;first|refine b7 ?_|refine eV ?_|refine ca ?_|refine bS ?_|refine cj ?_|refine cm ?_|refine b9 ?_)|(refine fp ?_;first|refine fG ?_|refine fb ?_|refine ch ?_|refine bY ?_|refine fJ ?_|refine be ?_|refine bm ?_)|(refine cb ?_;first|refine bf ?_|refine cC ?_)|(refine ft ?_;first|refine fM (d:=3) ?_|refine co ?_|refine cr ?_|refine fq ?_)|(refine b6 ?_;first|refine cG ?_|refine bj ?_|refine aT ?_|refine aX ?_|refine aQ ?_|refine bp ?_)|(refine fS ?_;first|refine cd ?_|refine fj ?_|refine bg ?_|refine aR ?_|refine bc ?_)|(refine aO ?_;first|refine ax _ ?_|refine aW ?_|refine aG ?_|refine az ?_|refine aC ?_)|(refine fl ?_;first|refine cz ?_|refine bR ?_|refine cA ?_)|(refine gOp ?_;first|refine fw ?_|refine fy ?_|refine ba ?_|refine fu ?_|refine fE ?_|refine cg ?_|refine aS ?_|refine cE ?_|refine fF ?_|refine bV ?_|refine ct ?_|refine bd ?_|refine aE ?_|refine cw ?_|refine sNo ?_|refine fa ?_|refine aA ?_)|refine e9 ?_|refine ez ?_|refine gx ?_|refine bq ?_|refine cI ?_|refine bF ?_|refine fX ?_|refine gd ?_|refine fU ?_|refine eD ?_|refine cM ?_|refine bu ?_|refine aB ?_|refine br ?_|refine cL ?_|refine bG ?_|refine aBlkX ?_|refine cJ ?_)
     exact af (i+1) hlt (by omega)
    ·rw [Bool.not_eq_false'] at h3
     have hs:DS (cN (l.take (i+1)))=DS m:=by rw [hsu,EZ hkl h3]
     clear hs0
     refine kgo ?_
     exact af (i+1) hlt (by omega)
 ·have h:=of_decide_eq_false h
  refine kgo ?_
  rw [List.take_of_length_le (by omega)]
  exact aD
def ju (a b:Big):List ByteArray:=cN (a.outer++b.outer)
def gT (a b c:Big) (n:Int):List Int:=eM n c.edges.toNat++dA c.outer (a.edges+b.edges) (ju a b)
def g8 (a b:Big):Big:=
 ⟨a.roots+b.roots,cX 0 (dh 0 a.roots.toNat) (gT a b a 0) a.nodes++cX a.nodes.length (dh a.roots b.roots.toNat) (gT a b b a.edges) b.nodes,dy 0 (dh 0 a.roots.toNat) a.sites++dy a.nodes.length (dh a.roots b.roots.toNat) b.sites,a.edges+b.edges,ju a b,bJ (dx (gT a b a 0) a.inner) (dx (gT a b b a.edges) b.inner)⟩
theorem CI {sig:List Ctl} {a b:Big} (hA:ay sig a=true) (hB:ay sig b=true) (hia:a.inner.length≤1000) (hib:b.inner.length≤1000) :
 FnD Tryz.prog 263 [a.D,b.D] (.d (g8 a b).D):=by
 have ha:=aN hA
 have hb:=aN hB
 have l0:=jx (a.outer++b.outer) []
 rw [show (a.outer++b.outer).foldl rv []=ju a b from rfl,List.length_append,List.length_nil] at l0
 have l1:=eH 0 a.edges.toNat
 have l2:=eH a.edges b.edges.toNat
 have l3:=lC 0 a.roots.toNat
 have l4:=lC a.roots b.roots.toNat
 have l5:(dA a.outer (a.edges+b.edges) (ju a b)).length=a.outer.length:=by unfold dA;rw [List.length_map]
 have l6:(dA b.outer (a.edges+b.edges) (ju a b)).length=b.outer.length:=by unfold dA;rw [List.length_map]
 have l7:(gT a b a 0).length=a.edges.toNat+a.outer.length:=by unfold gT;rw [List.length_append,l1,l5]
 have l8:(gT a b b a.edges).length=b.edges.toNat+b.outer.length:=by unfold gT;rw [List.length_append,l2,l6]
 have f1:=xg (a.outer++b.outer) (by rw [List.length_append];omega)
 rw [show cN (a.outer++b.outer)=ju a b from rfl] at f1
 have f2:=gJ 0 a.edges (by omega) (by omega)
 have f3:=gJ a.edges b.edges (by omega) (by omega)
 have f4:=nS a.outer (a.edges+b.edges) (ju a b) (by omega) (by omega) (by omega)
 have f5:=nS b.outer (a.edges+b.edges) (ju a b) (by omega) (by omega) (by omega)
 have f6:=mI 0 a.roots (by omega) (by omega)
 have f7:=mI a.roots b.roots (by omega) (by omega)
 have f8:=lO a 0 (dh 0 a.roots.toNat) (gT a b a 0) (by omega) (by omega) (qq hA) (vP hA 0 (by omega)) (vH hA (by omega))
 have f9:=lO b a.nodes.length (dh a.roots b.roots.toNat) (gT a b b a.edges) (by omega) (by omega) (qq hB) (vP hB _ (by omega)) (vH hB (by omega))
 have g1:=lK a 0 (dh 0 a.roots.toNat) (by omega) (qR hA 0 (by omega)) (by omega)
 have g2:=lK b a.nodes.length (dh a.roots b.roots.toNat) (by omega) (qR hB _ (by omega)) (by omega)
 have g3:=oF a (gT a b a 0) (vw hA (by omega)) (by omega)
 have g4:=oF b (gT a b b a.edges) (vw hB (by omega)) (by omega)
 have g5:=sJ (dx (gT a b a 0) a.inner) (dx (gT a b b a.edges) b.inner) (by unfold dx;rw [List.length_map];omega) (by unfold dx;rw [List.length_map];omega)
 have q1:(cX 0 (dh 0 a.roots.toNat) (gT a b a 0) a.nodes).length=a.nodes.length:=by unfold cX;rw [List.length_map]
 have q2:(cX a.nodes.length (dh a.roots b.roots.toNat) (gT a b b a.edges) b.nodes).length=b.nodes.length:=by unfold cX;rw [List.length_map]
 have q3:(dy 0 (dh 0 a.roots.toNat) a.sites).length=a.sites.length:=by unfold dy;rw [List.length_map]
 have q4:(dy a.nodes.length (dh a.roots b.roots.toNat) b.sites).length=b.sites.length:=by unfold dy;rw [List.length_map]
 refine ah Tryz.func263 (fun hw W0=>?_)
 repeat (first|refine cFz 7 ?_|refine cFz 8 ?_|refine cFz 9 ?_|refine cFz 10 ?_|(refine b8 ?_;first|refine aP ?_|refine cF ?_|refine bh ?_|refine bo ?_|refine aU ?_|refine bl ?_|refine aY ?_|refine aF ?_|refine bk ?_)|(refine fo ?_;first|refine bX ?_|refine fQ ?_|refine cu ?_|refine cD ?_)|(refine fB ?_;first|refine eB (fun _=>?_)|refine cq ?_|refine cf ?_|refine bP ?_|refine cy ?_|refine cB ?_|refine ci ?_)|(refine fx ?_;first|refine b7 ?_|refine eV ?_|refine ca ?_|refine bS ?_|refine cj ?_|refine cm ?_|refine b9 ?_)|(refine fp ?_;first|refine fG ?_|refine fb ?_|refine ch ?_|refine bY ?_|refine fJ ?_|refine be ?_|refine bm ?_)|(refine cb ?_;first|refine bf ?_|refine cC ?_)|(refine ft ?_;first|refine co ?_|refine cr ?_|refine fq ?_)|(refine b6 ?_;first|refine cG ?_|refine bj ?_|refine aT ?_|refine aX ?_|refine aQ ?_|refine bp ?_)|(refine fS ?_;first|refine cd ?_|refine fj ?_|refine bg ?_|refine aR ?_|refine bc ?_)|(refine aO ?_;first|refine ax _ ?_|refine aW ?_|refine aG ?_|refine az ?_|refine aC ?_)|(refine fl ?_;first|refine cz ?_|refine bR ?_|refine cA ?_)|(refine gOp ?_;first|refine fw ?_|refine fy ?_|refine ba ?_|refine fu ?_|refine fE ?_|refine cg ?_|refine aS ?_|refine cE ?_|refine fF ?_|refine bV ?_|refine ct ?_|refine bd ?_|refine sFz 17 ?_|refine sFz 31 ?_|refine sFz 42 ?_|refine sFz 67 ?_|refine sFz 68 ?_|refine sFz 77 ?_|refine sFz 78 ?_|refine sFz 83 ?_|refine sFz 86 ?_|refine aE ?_|refine cw ?_|refine sNo ?_|refine fa ?_|refine aA ?_)|refine e9 ?_|refine ez ?_|refine gx ?_|refine bq ?_|refine cI ?_|refine bF ?_|refine fX ?_|refine gd ?_|refine fU ?_|refine eD ?_|refine cM ?_|refine bu ?_|refine aB ?_|refine br ?_|refine cL ?_|refine bG ?_|refine aBlkX ?_|refine cJ ?_|refine sFz 17 ?_|refine sFz 31 ?_|refine sFz 42 ?_|refine sFz 67 ?_|refine sFz 68 ?_|refine sFz 77 ?_|refine sFz 78 ?_|refine sFz 83 ?_|refine sFz 86 ?_)
 exact aD
end Go.Proofs.YtclpbhoekmecjaaGreatDoor
namespace Go.Proofs.YtclpbhoekmecjaaGreatDoor
open Go.RowKit
set_option linter.unusedVariables false
set_option maxRecDepth 100000
set_option maxHeartbeats 4000000
attribute [local irreducible] au Der At
theorem ol {a b:Big}:(g8 a b).inner.length=a.inner.length+b.inner.length:=by unfold g8 dx;simp only [kg,List.length_map]
def n7 (sig:List Ctl) (a b:Big):Big × Bool:=if ay sig a && (ay sig b && (io a.outer b.outer && (io (a.inner.map Wr.name) (b.inner.map Wr.name) && ay sig (g8 a b)))) then (g8 a b,true) else (eU,false)
theorem xJ (sig:List Ctl) (a b:Big) (hla:a.inner.length≤1000) (hlb:b.inner.length≤1000):FnD Tryz.prog 231 [.l 3 (sig.map Ctl.D),a.D,b.D] (.tp [(n7 sig a b).1.D,.b (n7 sig a b).2]):=by
 have f1:=fV sig a (by omega)
 have f2:=fV sig b (by omega)
 have f3:=rJ a.outer b.outer
 have f4:=lM a hla
 have f5:=lM b hlb
 have f6:=rJ (a.inner.map Wr.name) (b.inner.map Wr.name)
 have f8:=wJ sig (g8 a b) (by rw [ol];omega)
 refine ah Tryz.func231 (fun hw W0=>?_)
 unfold n7
 cases h1:ay sig a
 ·rw [h1] at f1
  refine kgo ?_
  exact ig
 cases h2:ay sig b
 ·rw [h1] at f1
  rw [h2] at f2
  refine kgo ?_
  exact ig
 have f7:=CI h1 h2 hla hlb
 rw [h1] at f1
 rw [h2] at f2
 cases h3:io a.outer b.outer
 ·rw [h3] at f3
  refine kgo ?_
  exact ig
 rw [h3] at f3
 cases h4:io (a.inner.map Wr.name) (b.inner.map Wr.name)
 ·rw [h4] at f6
  refine kgo ?_
  exact ig
 rw [h4] at f6
 rw [show (if true && (true && (true && (true && ay sig (g8 a b)))) then (g8 a b,true) else (eU,false))=(if ay sig (g8 a b) then g8 a b else eU,ay sig (g8 a b)) from by cases ay sig (g8 a b) <;> rfl]
 refine kgo ?_
 exact ig
def eR (xs ys:List ByteArray):List ByteArray:=ys.filter fun y=>decide (js xs y<0)
theorem xr (xs ys:List ByteArray) (i:Nat) (h:i<ys.length):eR xs (ys.take (i+1))=if decide (js xs ys[i]<0)=true then eR xs (ys.take i)++[ys[i]] else eR xs (ys.take i):=by
 unfold eR
 rw [List.take_succ_eq_append_getElem h,List.filter_append]
 by_cases hh:decide (js xs ys[i]<0)=true <;> simp [hh]
theorem xy (sig:List Ctl) (a b:Big) (hla:a.inner.length≤1000) (hlb:b.inner.length≤1000):FnD Tryz.prog 205 [.l 3 (sig.map Ctl.D),a.D,b.D] (.tp [(n7 sig a (idB (eR a.outer (b.inner.map Wr.name)))).1.D,.b (n7 sig a (idB (eR a.outer (b.inner.map Wr.name)))).2]):=by
 have f1:=lM b hlb
 have hll:(b.inner.map Wr.name).length≤1000:=by rw [List.length_map];exact hlb
 refine ah Tryz.func205 (fun hw W0=>?_)
 revert f1 hll
 generalize b.inner.map Wr.name=ys
 intro f1 hll
 have hr:(eR a.outer ys).length≤1000:=Nat.le_trans (List.length_filter_le _ _) hll
 have f3:=sV (eR a.outer ys) hr
 have f4:=xJ sig a (idB (eR a.outer ys)) hla (by unfold idB;simpa using hr)
 refine kgo ?_
 refine eJ (fun i:Nat=>i≤ys.length) (fun i=>ys.length - i) (fun i=>[(0,.sy (.d (.l 3 (sig.map Ctl.D)))),(4,.sy (.bx 10004 0)),(10004,.tk (.bx (flat a.D))),(6,.sy (.bx 10006 0)),(10006,.tk (.bx (flat (.t [.i 0,.n 3,.n 1,.i 0,.n 1,.n 2])))),(8,.sy (.k 10011)),(10011,.tk (.row 1 9 ((eR a.outer (ys.take i)).map D.s))),(9,.sy (.d (DS ys))),(10,.sy (.d (.i i)))]) 0 (Nat.zero_le _) (fun i hi=>?_)
 refine kgo ?_
 refine cIf (fun h=>?_) (fun h=>?_)
 ·have h:=of_decide_eq_true h
  have hlt:i<ys.length:=by omega
  have f2:=wv a.outer ys[i]
  have hq:(eR a.outer (ys.take i)).length≤1000:=Nat.le_trans (List.length_filter_le _ _) (by rw [List.length_take];omega)
  have hsu:=xr a.outer ys i hlt
  refine kgo ?_
  refine cIf (fun h2=>?_) (fun h2=>?_)
  ·rw [if_pos h2] at hsu
   have hs:(eR a.outer (ys.take (i+1))).map D.s=(eR a.outer (ys.take i)).map D.s++[.s ys[i]]:=by rw [hsu,List.map_append];rfl
   refine kgo ?_
   exact af (i+1) hlt (by omega)
  ·rw [if_neg (by rw [h2];exact Bool.false_ne_true)] at hsu
   have hs:(eR a.outer (ys.take (i+1))).map D.s=(eR a.outer (ys.take i)).map D.s:=by rw [hsu]
   refine kgo ?_
   exact af (i+1) hlt (by omega)
 ·have h:=of_decide_eq_false h
  rw [List.take_of_length_le (by omega)]
  repeat (first|refine cFz 8 ?_|(refine b8 ?_;first|refine aP ?_|refine cF ?_|refine bh ?_|refine bo ?_|refine aU ?_|refine bl ?_|refine aY ?_|refine aF ?_|refine bk ?_)|(refine fo ?_;first|refine bX ?_|refine fQ ?_|refine cu ?_|refine cD ?_)|(refine fB ?_;first|refine eB (fun _=>?_)|refine cq ?_|refine cf ?_|refine bP ?_|refine cy ?_|refine cB ?_|refine ci ?_)|(refine fx ?_;first|refine b7 ?_|refine eV ?_|refine ca ?_|refine bS ?_|refine cj ?_|refine cm ?_|refine b9 ?_)|(refine fp ?_;first|refine fG ?_|refine fb ?_|refine ch ?_|refine bY ?_|refine fJ ?_|refine be ?_|refine bm ?_)|(refine cb ?_;first|refine bf ?_|refine cC ?_)|(refine ft ?_;first|refine co ?_|refine cr ?_|refine fq ?_)|(refine b6 ?_;first|refine cG ?_|refine bj ?_|refine aT ?_|refine aX ?_|refine aQ ?_|refine bp ?_)|(refine fS ?_;first|refine cd ?_|refine fj ?_|refine bg ?_|refine aR ?_|refine bc ?_)|(refine aO ?_;first|refine ax _ ?_|refine aW ?_|refine aG ?_|refine az ?_|refine aC ?_)|(refine fl ?_;first|refine cz ?_|refine bR ?_|refine cA ?_)|(refine gOp ?_;first|refine fw ?_|refine fy ?_|refine ba ?_|refine fu ?_|refine fE ?_|refine cg ?_|refine aS ?_|refine cE ?_|refine fF ?_|refine bV ?_|refine ct ?_|refine bd ?_|refine aE ?_|refine cw ?_|refine sNo ?_|refine fa ?_|refine aA ?_)|refine e9 ?_|refine ez ?_|refine gx ?_|refine bq ?_|refine cI ?_|refine bF ?_|refine fX ?_|refine gd ?_|refine fU ?_|refine eD ?_|refine cM ?_|refine bu ?_|refine aB ?_|refine br ?_|refine cL ?_|refine bG ?_|refine aBlkX ?_|refine cJ ?_)
  exact ig
def mT (sig:List Ctl) (mid ctx par:Big):Big × Bool:=
 if (n7 sig mid (idB (eR mid.outer (ctx.inner.map Wr.name)))).2 then (if (eO sig ctx (n7 sig mid (idB (eR mid.outer (ctx.inner.map Wr.name)))).1).2 then eO sig (eO sig ctx (n7 sig mid (idB (eR mid.outer (ctx.inner.map Wr.name)))).1).1 par else (eU,false)) else (eU,false)
theorem vC (sig:List Ctl) (a b:Big):(n7 sig a b).1.inner.length≤a.inner.length+b.inner.length:=by
 unfold n7
 split
 ·rw [ol];omega
 ·exact Nat.zero_le _
theorem sf (sig:List Ctl) (a b:Big):(eO sig a b).1.inner.length≤b.inner.length:=by
 unfold eO
 split
 ·rw [qn];omega
 ·exact Nat.zero_le _
theorem w8 (sig:List Ctl) (mid ctx par:Big) (hl:mid.inner.length+ctx.inner.length≤1000) (hp:par.inner.length≤1000):FnD Tryz.prog 137 [.l 3 (sig.map Ctl.D),mid.D,ctx.D,par.D] (.tp [(mT sig mid ctx par).1.D,.b (mT sig mid ctx par).2]):=by
 have f1:=xy sig mid ctx (by omega) (by omega)
 have hr:(eR mid.outer (ctx.inner.map Wr.name)).length≤ctx.inner.length:=Nat.le_trans (List.length_filter_le _ _) (by rw [List.length_map];omega)
 refine ah Tryz.func137 (fun hw W0=>?_)
 unfold mT
 revert f1 hr
 generalize eR mid.outer (ctx.inner.map Wr.name)=ns
 intro f1 hr
 have hb:=vC sig mid (idB ns)
 rw [show (idB ns).inner.length=ns.length from by unfold idB;simp] at hb
 revert f1 hb
 generalize n7 sig mid (idB ns)=r
 obtain ⟨r,k⟩:=r
 intro f1 hb
 cases k
 ·refine kgo ?_
  exact ig
 have f2:=oW sig ctx r (by omega) (by simp only at hb;omega)
 have hc:=sf sig ctx r
 simp only [if_true]
 revert f2 hc
 generalize eO sig ctx r=q
 obtain ⟨q,k⟩:=q
 intro f2 hc
 cases k
 ·refine kgo ?_
  exact ig
 have f3:=oW sig q par (by simp only at hb hc;omega) hp
 refine kgo ?_
 exact ig
end Go.Proofs.YtclpbhoekmecjaaGreatDoor
namespace Go.Proofs.YtclpbhoekmecjaaGreatDoor
open Go.RowKit
set_option linter.unusedVariables false
set_option maxRecDepth 100000
set_option maxHeartbeats 4000000
attribute [local irreducible] au Der At
abbrev mw (x:Int × Int):D:=.t [.i x.1,.i x.2]
theorem E3:Lik dV mw:=⟨fun w S x cs h=>by
 obtain ⟨c,e,rfl,⟨rfl,h1⟩,c',e',rfl,⟨rfl,h2⟩,rfl⟩:=h
 exact ⟨rfl,h1,h2⟩,fun w lo hi x cs h=>by
 obtain ⟨rfl,h1,h2⟩:=h
 exact ⟨[_],[_],rfl,⟨rfl,h1⟩,[_],[],rfl,⟨rfl,h2⟩,rfl⟩⟩
theorem lF (b:Big) (l:Int) (hn:b.nodes.length≤1000) (hl:∀i (h:i<b.nodes.length),(b.nodes[i]).links.length≤1000):FnD Tryz.prog 230 [b.D,.i l] (.d (.l 2 ((aJ b l).map mw))):=⟨cH Tryz.func230,fun F w vs hv hF=>by
 obtain ⟨v1,t,rfl,h1,v2,t2,rfl,⟨h2,_⟩,h3⟩:=hv
 cases (show t2 = [] from h3)
 obtain ⟨cs,rfl,hb⟩:=pB h1
 cases h2
 refine (o9 _ _ _ _ _ _ hb hn hl).mono ?_
 rintro e w' ⟨v,rfl,hV,hX⟩
 exact ⟨_,rfl,hX,rm (E3.ofV hV)⟩⟩
theorem lI (b:Big) (p:Int) (hl:b.sites.length≤1048576):FnD Tryz.prog 195 [b.D,.i p] (.d (DI (bA b p))):=⟨cH Tryz.func195,fun F w vs hv hF=>by
 obtain ⟨v1,t,rfl,h1,v2,t2,rfl,⟨h2,_⟩,h3⟩:=hv
 cases (show t2 = [] from h3)
 obtain ⟨cs,rfl,hb⟩:=pB h1
 cases h2
 refine (pc _ _ _ _ _ _ hb hl).mono ?_
 rintro e w' ⟨v,rfl,hV,hX⟩
 exact ⟨_,rfl,hX,rm (Bq.ofV hV)⟩⟩
def mo (row:List Bool) (v:Bool) (ps:List (Int × Int)):Nat:=(ps.filter fun p=>row.getD p.1.toNat false == v).length
theorem wM (row:List Bool) (v:Bool) (ps:List (Int × Int)) (i:Nat) (h:i<ps.length):mo row v (ps.take (i+1))=if (row.getD (ps[i]).1.toNat false == v)=true then mo row v (ps.take i)+1 else mo row v (ps.take i):=by
 unfold mo
 rw [List.take_succ_eq_append_getElem h,List.filter_append]
 by_cases hh:(row.getD (ps[i]).1.toNat false == v)=true
 ·rw [if_pos hh];simp only [List.length_append,List.filter_cons,hh,if_true,List.filter_nil,List.length_cons,List.length_nil]
 ·rw [if_neg hh];simp only [List.length_append,List.filter_cons,if_neg hh,List.filter_nil,List.length_nil,Nat.add_zero]
theorem eT (b:Big) (l:Int) (hn:b.nodes.length≤1000) (hl:∀i (h:i<b.nodes.length),(b.nodes[i]).links.length≤1000):(aJ b l).length≤1000000:=by
 have:=gX b l b.nodes.length (Nat.le_refl _) hl
 unfold aJ
 omega
theorem BK (b:Big) (l:Int) (row:List Bool) (v:Bool) (hn:b.nodes.length≤1000) (hl:∀i (h:i<b.nodes.length),(b.nodes[i]).links.length≤1000) (hr:b.nodes.length≤row.length):FnD Tryz.prog 198 [b.D,.i l,.l 1 (row.map .b),.b v] (.d (.i (mo row v (aJ b l)))):=by
 have f1:=lF b l hn hl
 have hp:∀q∈aJ b l,∃n:Nat,q.1=(n:Int)∧n<row.length:=fun q hq=>by
  obtain ⟨i,k,hi,_,_,e⟩:=ef.1 hq
  exact ⟨i,by rw [e],by omega⟩
 refine ah Tryz.func198 (fun hw W0=>?_)
 have hpl:(aJ b l).length≤1000000:=eT b l hn hl
 revert f1 hp hpl
 generalize aJ b l=ps
 intro f1 hp hpl
 refine kgo ?_
 refine eJ (fun i:Nat=>i≤ps.length) (fun i=>ps.length - i) (fun i=>[(2,.sy (.d (.l 1 (row.map .b)))),(3,.sy (.d (.b v))),(9,.sy (.d (.l 2 (ps.map mw)))),(10,.sy (.d (.i (mo row v (ps.take i))))),(11,.sy (.d (.i i)))]) 0 (Nat.zero_le _) (fun i hi=>?_)
 refine kgo ?_
 refine cIf (fun h=>?_) (fun h=>?_)
 ·have h:=of_decide_eq_true h
  have hlt:i<ps.length:=by omega
  obtain ⟨n,hq,hnr⟩:=hp _ (List.getElem_mem hlt)
  have hsu:=wM row v ps i hlt
  have hm:mo row v (ps.take i)≤ps.length:=Nat.le_trans (List.length_filter_le _ _) (by rw [List.length_take];omega)
  rw [hq,show (n:Int).toNat=n from rfl,List.getD_eq_getElem?_getD,List.getElem?_eq_getElem hnr,Option.getD_some] at hsu
  refine kgo ?_
  refine eB (n:=n) (fun _=>?_) rfl rfl (congrArg some hq)
  refine kgo ?_
  refine cIf (fun h2=>?_) (fun h2=>?_)
  ·rw [if_pos h2] at hsu
   have hs:D.i ((mo row v (ps.take (i+1)):Nat):Int)=D.i ((mo row v (ps.take i):Nat)+1):=by rw [hsu];rfl
   refine kgo ?_
   exact af (i+1) hlt (by omega)
  ·rw [if_neg (by rw [h2];exact Bool.false_ne_true)] at hsu
   have hs:D.i ((mo row v (ps.take (i+1)):Nat):Int)=D.i (mo row v (ps.take i):Nat):=by rw [hsu]
   refine kgo ?_
   exact af (i+1) hlt (by omega)
 ·have h:=of_decide_eq_false h
  refine kgo ?_
  rw [List.take_of_length_le (by omega)]
  exact aD
theorem CR (r:Big) (m:Mat) (p:Int) (hl:r.sites.length≤1000) (hs:fh m.nodes p=true) (hh:0<(bA r (di m.nodes p)).length):FnD Tryz.prog 204 [r.D,m.D,.i p] (.d (.i (kS r m.nodes p))):=by
 refine ah Tryz.func204 (fun hw W0=>?_)
 have hml:=(wfM hw.2.1.1).1
 refine kgo ?_
 refine eJ (fun i:Nat=>i≤m.nodes.length∧fh (m.nodes.take i) p=false) (fun i=>m.nodes.length - i) (fun i=>[(2,.sy (.d (.i p))),(3,.sy (.bx 10003 0)),(10003,.tk (.bx (flat r.D))),(4,.sy (.bx 10004 0)),(10004,.tk (.bx (flat m.D))),(7,.sy (.d (.i i)))]) 0 ⟨Nat.zero_le _,rfl⟩ (fun i hi=>?_)
 refine kgo ?_
 refine cIf (fun h=>?_) (fun h=>?_)
 ·have h:=of_decide_eq_true h
  have hlt:i<m.nodes.length:=by omega
  refine kgo ?_
  refine cIf (fun h2=>?_) (fun h2=>?_)
  ·have h2:=of_decide_eq_true h2
   have hix:di m.nodes p=(i:Int):=tZ p m.nodes i hlt h2 (by have:=hi.2;unfold fh at this;rw [← this];congr 1;funext x;exact Bool.beq_comm ..)
   have f1:=lI r i (by omega)
   rw [← hix] at f1
   have f1:FnD Tryz.prog 195 [r.D,.i i] (.d (DI (bA r (di m.nodes p)))):=by rw [hix] at f1 ⊢;exact f1
   have hz:(0:Int)≤0∧(0:Int)<((bA r (di m.nodes p)).length:Int):=⟨Int.le_refl _,by omega⟩
   have hso:kS r m.nodes p=(bA r (di m.nodes p))[0]:=by unfold kS atI;simp [List.getElem?_eq_getElem hh]
   refine kgo ?_
   rw [hso]
   exact aD
  ·have h2:=of_decide_eq_false h2
   have hx:fh (m.nodes.take (i+1)) p=false:=by
    have:=hi.2
    unfold fh at this ⊢
    rw [List.take_succ_eq_append_getElem hlt,List.any_append,this]
    simp;omega
   refine kgo ?_
   exact af (i+1) ⟨hlt,hx⟩ (by omega)
 ·have h:=of_decide_eq_false h
  have:=hi.2
  rw [List.take_of_length_le (by omega),hs] at this
  cases this
theorem yU:∀i:Fin 26,(⟨#[97,98,99,100,101,102,103,104,105,106,107,108,109,110,111,112,113,114,115,116,117,118,119,120,121,122]⟩:ByteArray).extract i (i+1)=⟨#[UInt8.ofNat (97+i)]⟩:=by decide
theorem xq (i:Nat) (hi:i<26):FnD Tryz.prog 199 [.i i] (.d (.s ⟨#[UInt8.ofNat (97+i)]⟩)):=by
 refine ah Tryz.func199 (fun hw W0=>?_)
 have hij:i≤i+1∧i+1≤(⟨#[97,98,99,100,101,102,103,104,105,106,107,108,109,110,111,112,113,114,115,116,117,118,119,120,121,122]⟩:ByteArray).size:=⟨by omega,by show i+1≤26;omega⟩
 have hl:=yU ⟨i,hi⟩
 simp only at hl
 rw [← hl]
 refine kgo ?_
 exact aD
end Go.Proofs.YtclpbhoekmecjaaGreatDoor
namespace Go.Proofs.YtclpbhoekmecjaaGreatDoor
open Go.RowKit
set_option linter.unusedVariables false
set_option maxRecDepth 100000
set_option maxHeartbeats 4000000
attribute [local irreducible] au Der At
def tkF (row:List Bool) (v:Bool) (i:Nat):Bool:=row.getD i false == v
def atN (row:List Bool) (v:Bool) (i:Nat):Int:=((List.range i).filter (tkF row v)).length
def atL (row:List Bool) (v:Bool) (n:Nat):List Int:=(List.range n).map (atN row v)
def tg (row:List Bool) (v dn:Bool) (p:Int):Int:=if decide (0≤p) && tkF row v p.toNat then atN row v p.toNat else if dn then -1 else p
def Fl (row:List Bool) (v dn:Bool) (ks:List Int) (n:Nd):Nd:=⟨n.control,tg row v dn n.parent,ey ks n.links⟩
def gH (b:Big) (row:List Bool) (v dn:Bool) (ks:List Int) (n:Nat):List Nd:=((List.range n).filter (tkF row v)).map fun (i:Nat)=>Fl row v dn ks (dZ b (i:Int))
theorem Ao (b:Big) (row:List Bool) (v dn:Bool) (ks:List Int) (n:Nat):((gH b row v dn ks n).length:Int)=atN row v n:=by unfold gH atN;rw [List.length_map]
theorem BP (b:Big) (row:List Bool) (v dn:Bool) (ks:List Int) (n:Nat):(gH b row v dn ks n).length≤n:=by
 unfold gH;rw [List.length_map];exact Nat.le_trans (List.length_filter_le _ _) (by rw [List.length_range];exact Nat.le_refl _)
theorem xA (b:Big) (row:List Bool) (v dn:Bool) (ks:List Int) (n:Nat):gH b row v dn ks (n+1)=if tkF row v n=true then gH b row v dn ks n++[Fl row v dn ks (dZ b n)] else gH b row v dn ks n:=by
 unfold gH
 rw [List.range_succ,List.filter_append]
 by_cases h:tkF row v n=true <;> simp [h]
theorem vJ (row:List Bool) (v:Bool) (n:Nat):atL row v (n+1)=atL row v n++[atN row v n]:=by unfold atL;rw [List.range_succ,List.map_append];rfl
theorem jm (row:List Bool) (v:Bool) (n:Nat):(atL row v n).length=n:=by unfold atL;simp
theorem GD (row:List Bool) (v:Bool) (n i:Nat) (h:i<(atL row v n).length):(atL row v n)[i]=atN row v i:=by simp [atL]
theorem sn (row:List Bool) (v:Bool) (i:Nat) (h:i<row.length):tkF row v i=(row[i] == v):=by unfold tkF;rw [List.getD_eq_getElem?_getD,List.getElem?_eq_getElem h];rfl
theorem vx (b:Big) (row:List Bool) (v dn:Bool) (ks:List Int) (hl:b.nodes.length≤1000) (hr:b.nodes.length≤row.length) (hup:∀i (h:i<b.nodes.length),(b.nodes[i]).parent<i) (hll:∀n∈b.nodes,n.links.length≤1000) (hlk:∀n∈b.nodes,∀l∈n.links,0≤l∧l<(ks.length:Int)):FnD Tryz.prog 202 [b.D,.l 1 (row.map .b),.b v,DI ks,.b dn] (.row 3 131 ((gH b row v dn ks b.nodes.length).map Nd.D)):=by
 refine ah Tryz.func202 (fun hw W0=>?_)
 refine kgo ?_
 refine eJ (fun i:Nat=>i≤b.nodes.length) (fun i=>b.nodes.length - i) (fun i=>[(1,.sy (.d (.l 1 (row.map .b)))),(2,.sy (.d (.b v))),(3,.sy (.d (DI ks))),(4,.sy (.d (.b dn))),(5,.sy (.bx 10005 0)),(10005,.tk (.bx (flat b.D))),(11,.sy (.k 10017)),(10017,.tk (.row 3 131 ((gH b row v dn ks i).map Nd.D))),(12,.sy (.k 10018)),(10018,.tk (.row 1 3 ((atL row v i).map .i))),(13,.sy (.d (.i i)))]) 0 (Nat.zero_le _) (fun i hi=>?_)
 refine kgo ?_
 refine cIf (fun h=>?_) (fun h=>?_)
 ·have h:=of_decide_eq_true h
  have hlt:i<b.nodes.length:=by omega
  have hir:i<row.length:=by omega
  have hm:=List.getElem_mem hlt
  have hL:=hll _ hm
  have hK:=hlk _ hm
  have hU:=hup i hlt
  have hq:=BP b row v dn ks i
  have hat:=jm row v i
  have hsa:(atL row v (i+1)).map D.i=(atL row v i).map D.i++[.i ((gH b row v dn ks i).map Nd.D).length]:=by rw [vJ,List.map_append,List.length_map,Ao];rfl
  have hst:=xA b row v dn ks i
  rw [sn row v i hir,aw b i hlt] at hst
  refine kgo ?_
  refine cIf (fun h2=>?_) (fun h2=>?_)
  ·rw [Bool.not_eq_true'] at h2
   rw [if_neg (by rw [h2];exact Bool.false_ne_true)] at hst
   have hs:(gH b row v dn ks (i+1)).map Nd.D=(gH b row v dn ks i).map Nd.D:=by rw [hst]
   refine kgo ?_
   exact af (i+1) hlt (by omega)
  ·rw [Bool.not_eq_false'] at h2
   rw [if_pos h2] at hst
   have hs:(gH b row v dn ks (i+1)).map Nd.D=(gH b row v dn ks i).map Nd.D++[Nd.D (Fl row v dn ks b.nodes[i])]:=by rw [hst,List.map_append];rfl
   refine kgo ?_
   cases hc:decide (0≤(b.nodes[i]).parent)
   have hT:tg row v dn (b.nodes[i]).parent=if dn=true then -1 else (b.nodes[i]).parent:=by unfold tg;rw [hc];rfl
   refine kgo ?_
   refine cIf (fun h4=>?_) (fun h4=>?_)
   have hP:D.i (tg row v dn (b.nodes[i]).parent)=D.i (-1):=by rw [hT,h4];rfl
   rotate_left
   have hP:D.i (tg row v dn (b.nodes[i]).parent)=D.i (b.nodes[i]).parent:=by rw [hT,h4];rfl
   rotate_left
   have hc':=of_decide_eq_true hc
   obtain ⟨j,hj⟩:=Int.eq_ofNat_of_zero_le hc'
   have hjr:j<row.length:=by omega
   have hT:tg row v dn (b.nodes[i]).parent=if (row[j] == v)=true then atN row v j else if dn=true then -1 else (b.nodes[i]).parent:=by unfold tg;rw [hc,hj,← sn row v j hjr];rfl
   refine kgo ?_
   refine eB (n:=j) (fun _=>?_) rfl rfl (congrArg some hj)
   refine kgo ?_
   refine cIf (fun h3=>?_) (fun h3=>?_)
   have hnj:j<((atL row v i).map D.i++[D.i ((gH b row v dn ks i).map Nd.D).length]).length:=by rw [List.length_append,List.length_map,hat];show j<i+1;omega
   have hnk:j<(atL row v (i+1)).length:=by rw [jm];omega
   have hP:D.i (tg row v dn (b.nodes[i]).parent)=D.i (atL row v (i+1))[j]:=by rw [hT,if_pos h3,GD row v (i+1) j hnk]
   refine kgo ?_
   refine bP (n:=j) ?_ rfl rfl rfl (congrArg some hj)
   refine aU (f:=D.i) (l:=atL row v (i+1)) ?_ rfl (by exact jV rfl hsa.symm) hnk
   rotate_left
   rw [if_neg (by rw [h3];exact Bool.false_ne_true)] at hT
   refine kgo ?_
   refine cIf (fun h4=>?_) (fun h4=>?_)
   have hP:D.i (tg row v dn (b.nodes[i]).parent)=D.i (-1):=by rw [hT,h4];rfl
   rotate_left
   have hP:D.i (tg row v dn (b.nodes[i]).parent)=D.i (b.nodes[i]).parent:=by rw [hT,h4];rfl
   all_goals
    refine kgo ?_
    refine eJ (fun k:Nat=>k≤(b.nodes[i]).links.length) (fun k=>(b.nodes[i]).links.length - k) (fun k=>[(1,.sy (.d (.l 1 (row.map .b)))),(2,.sy (.d (.b v))),(3,.sy (.d (DI ks))),(4,.sy (.d (.b dn))),(5,.sy (.bx 10005 0)),(10005,.tk (.bx (flat b.D))),(11,.sy (.k 10017)),(10017,.tk (.row 3 131 ((gH b row v dn ks i).map Nd.D))),(12,.sy (.k 10030)),(10030,.tk (.row 1 3 ((atL row v (i+1)).map .i))),(13,.sy (.d (.i i))),(14,.sy (.d (.i (tg row v dn (b.nodes[i]).parent)))),(15,.sy (.k 10058)),(10058,.tk (.row 1 3 ((ey ks ((b.nodes[i]).links.take k)).map .i))),(16,.sy (.d (.i k)))]) 0 (Nat.zero_le _) (fun k hk=>?_)
    refine kgo ?_
    refine cIf (fun h5=>?_) (fun h5=>?_)
    ·have h5:=of_decide_eq_true h5
     have hkl:k<(b.nodes[i]).links.length:=by omega
     have hk2:=hK _ (List.getElem_mem hkl)
     have hs5:(ey ks ((b.nodes[i]).links.take (k+1))).map D.i=(ey ks ((b.nodes[i]).links.take k)).map D.i++[.i (atI ks (b.nodes[i]).links[k])]:=by rw [nU ks k hkl,List.map_append];rfl
     have hq5:(ey ks ((b.nodes[i]).links.take k)).length≤1000:=by unfold ey;rw [List.length_map,List.length_take];omega
     refine kgo ?_
     exact af (k+1) hkl (by omega)
    ·have h5:=of_decide_eq_false h5
     rw [show (b.nodes[i]).links.take k=(b.nodes[i]).links from List.take_of_length_le (by omega)]
     repeat (first|(refine b8 ?_;first|refine aP ?_|refine cF ?_|refine bh ?_|refine bo ?_|refine aU ?_|refine bl ?_|refine aY ?_|refine aF ?_|refine bk ?_)|(refine fo ?_;first|refine bX ?_|refine fQ ?_|refine cu ?_|refine cD ?_)|(refine fB ?_;first|refine eB (fun _=>?_)|refine cq ?_|refine cf ?_|refine bP ?_|refine cy ?_|refine cB ?_|refine ci ?_)|(refine fx ?_;first|refine b7 ?_|refine eV ?_|refine ca ?_|refine bS ?_|refine cj ?_|refine cm ?_|refine b9 ?_)|(refine fp ?_;first|refine fG ?_|refine fb ?_|refine ch ?_|refine bY ?_|refine fJ ?_|refine be ?_|refine bm ?_)|(refine cb ?_;first|refine bf ?_|refine cC ?_)|(refine ft ?_;first|refine co ?_|refine cr ?_|refine fq ?_)|(refine b6 ?_;first|refine cG ?_|refine bj ?_|refine aT ?_|refine aX ?_|refine aQ ?_|refine bp ?_)|(refine fS ?_;first|refine cd ?_|refine fj ?_|refine bg ?_|refine aR ?_|refine bc ?_)|(refine aO ?_;first|refine ax _ ?_|refine aW ?_|refine aG ?_|refine az ?_|refine aC ?_)|(refine fl ?_;first|refine cz ?_|refine bR ?_|refine cA ?_)|(refine gOp ?_;first|refine fw ?_|refine fy ?_|refine ba ?_|refine fu ?_|refine fE ?_|refine cg ?_|refine aS ?_|refine cE ?_|refine fF ?_|refine bV ?_|refine ct ?_|refine bd ?_|refine sFz 93 ?_|refine aE ?_|refine cw ?_|refine sNo ?_|refine fa ?_|refine aA ?_)|refine e9 ?_|refine ez ?_|refine gx ?_|refine bq ?_|refine cI ?_|refine bF ?_|refine fX ?_|refine gd ?_|refine fU ?_|refine eD ?_|refine cM ?_|refine bu ?_|refine aB ?_|refine br ?_|refine cL ?_|refine bG ?_|refine aBlkX ?_|refine cJ ?_|refine sFz 93 ?_)
     exact af (i+1) hlt (by omega)
 ·have h:=of_decide_eq_false h
  refine kgo ?_
  rw [show i=b.nodes.length by omega]
  exact oX
end Go.Proofs.YtclpbhoekmecjaaGreatDoor
namespace Go.Proofs.YtclpbhoekmecjaaGreatDoor
open Go.RowKit
set_option linter.unusedVariables false
set_option maxRecDepth 100000
set_option maxHeartbeats 4000000
attribute [local irreducible] au Der At
def yh (to:List Int) (p:Int):Int:=if p<0 then p else atI to p
theorem CX (p:Int) (to:List Int) (hp:p<to.length):FnD Tryz.prog 189 [.i p,DI to] (.d (.i (yh to p))):=by
 refine ah Tryz.func189 (fun hw W0=>?_)
 refine kgo ?_
 refine cIf (fun h=>?_) (fun h=>?_)
 ·have h:=of_decide_eq_true h
  rw [show yh to p=p from if_pos h]
  refine kgo ?_
  exact aD
 ·have h:=of_decide_eq_false h
  rw [show yh to p=atI to p from if_neg h]
  refine kgo ?_
  exact aD
theorem DL {sig:List Ctl} {r a:Big} {ns:List Int} (h:oS r a ns) (hr:ay sig r=true) (ha:ay sig a=true) (l:Int) (j:Nat) (hj:j<(aJ r l).length):∃mm:Nat,∃hm:mm<a.nodes.length,(0≤((aJ r l)[j]).1∧((aJ r l)[j]).1<ns.length)∧atI ns ((aJ r l)[j]).1=(mm:Int)∧(0≤((aJ r l)[j]).2∧((aJ r l)[j]).2<(a.nodes[mm]).links.length)∧gS a ns (aJ r l)[j]=atI (a.nodes[mm]).links ((aJ r l)[j]).2:=by
 obtain ⟨i,k,hi,hk,_,hq⟩:=ef.1 (List.getElem_mem hj)
 obtain ⟨mm,hm,hl,e1,e2⟩:=h.img hr ha hi hk
 have:=h.len
 refine ⟨mm,hm,by rw [hq];dsimp only;omega,by rw [hq];exact e1,by rw [hq];dsimp only;omega,?_⟩
 rw [hq,e2];exact (bZ _ k hl).symm
theorem Be {sig:List Ctl} {r a:Big} (m:Mat) (l:Nat) (hbr:ay sig r=true) (hba:ay sig a=true) (him:oS r a m.nodes) (hp0:aJ r l≠[]):FnD Tryz.prog 196 [r.D,a.D,m.D,.i l] (.tp [.i (mz r a m.nodes l),.b (gY r a m.nodes l)]):=by
 have dr:=bD hbr
 have da:=bD hba
 have h0:0<(aJ r l).length:=List.length_pos_iff.2 hp0
 have hpa:=DL him hbr hba l
 have hpl:=eT r l dr.3 dr.7
 have f1:=lF r l dr.3 dr.7
 have f2:=lF a (mz r a m.nodes l) da.3 da.7
 have hpl2:=eT a (mz r a m.nodes l) da.3 da.7
 have hhead:mz r a m.nodes l=gS a m.nodes (aJ r l)[0]:=u9 _ _ _ h0
 have hla:gY r a m.nodes l=((aJ r l).all (fun q=>decide (gS a m.nodes q=mz r a m.nodes l)) && (!(decide ((l:Int)<r.edges)) || (decide (mz r a m.nodes l<a.edges) && decide ((aJ a (mz r a m.nodes l)).length=(aJ r l).length)))):=rfl
 obtain ⟨m0,hm0,q1,q2,q3,q4⟩:=hpa 0 h0
 rw [q4] at hhead
 revert hla f2 hpl2 hhead
 generalize mz r a m.nodes l=im
 generalize gY r a m.nodes l=la
 generalize aJ r l=ps at *
 intro f2 hpl2 hla hhead
 refine ah Tryz.func196 (fun hw W0=>?_)
 refine kgo ?_
 refine eB (n:=m0) (fun _=>?_) rfl rfl (congrArg some q2)
 refine kgo ?_
 rw [← hhead]
 refine aq [3,4,5,6,10,11] (fun j:Nat=>1≤j∧j≤ps.length∧(ps.take j).all (fun q=>decide (gS a m.nodes q=im))=true) (fun j=>ps.length - j) (fun j=>[(12,.sy (.d (.i j)))]) 1 ⟨Nat.le_refl _,h0,by rw [List.take_succ_eq_append_getElem h0,List.take_zero,List.nil_append,List.all_cons,q4,hhead,decide_eq_true rfl];rfl⟩ (fun j hj=>?_)
 refine kgo ?_
 refine bt (fun h2=>?_) (fun h2=>?_)
 ·have hlt:j<ps.length:=by omega
  obtain ⟨mj,hmj,p1,p2,p3,p4⟩:=hpa j hlt
  refine kgo ?_
  refine eB (n:=mj) (fun _=>?_) rfl rfl (congrArg some p2)
  refine kgo ?_
  rw [← p4]
  refine lV (fun h5=>?_) (fun h5=>?_)
  ·rw [show ps.all (fun q=>decide (gS a m.nodes q=im))=false from List.all_eq_false.2 ⟨_,List.getElem_mem hlt,by rw [decide_eq_false h5];exact Bool.false_ne_true⟩,Bool.false_and] at hla
   refine kgo ?_
   rw [hla]
   exact ig
  ·refine kgo ?_
   exact af (j+1) ⟨by omega,hlt,by rw [List.take_succ_eq_append_getElem hlt,List.all_append,hj.2.2,List.all_cons,decide_eq_true h5];rfl⟩ (by omega)
 rw [gh _ _ j (by omega) hj.2.2,Bool.true_and] at hla
 refine kgo ?_
 refine bt (fun h3=>?_) (fun h3=>?_)
 ·rw [decide_eq_true h3,Bool.not_true,Bool.false_or] at hla
  refine kgo ?_
  cases h4:decide (im<a.edges)
  ·rw [h4] at hla
   refine kgo ?_
   rw [hla]
   exact ig
  ·rw [h4] at hla
   refine kgo ?_
   rw [hla]
   rw [show decide ((aJ a im).length=ps.length)=decide (((aJ a im).length:Int)=(ps.length:Int)) from decide_eq_decide.2 (by omega)]
   exact ig
 ·rw [decide_eq_false h3] at hla
  refine kgo ?_
  rw [hla]
  exact ig
theorem sw {sig:List Ctl} {r a:Big} (m:Mat) (hbr:ay sig r=true) (hba:ay sig a=true) (him:oS r a m.nodes) (hp0:∀l:Nat,l<ap r→aJ r l≠[]):FnD Tryz.prog 132 [r.D,a.D,m.D] (.tp [DI (oD r a m.nodes),.b (gm r a m.nodes)]):=by
 have hdr:=aN hbr
 have hlr:r.edges+(r.outer.length:Int)=(ap r:Nat):=by unfold ap;omega
 have hlb:ap r≤1000:=by unfold ap;omega
 refine ah Tryz.func132 (fun hw W0=>?_)
 refine kgo ?_
 refine aq [3,4,5] (fun i:Nat=>i≤ap r∧(List.range i).all (gY r a m.nodes)=true) (fun i=>ap r - i) (fun i=>[(8,.sy (.k 20001)),(20001,.tk (.row 1 3 ((gE r a m.nodes i).map .i))),(9,.sy (.d (.i i)))]) 0 ⟨Nat.zero_le _,rfl⟩ (fun i hi=>?_)
 refine kgo ?_
 refine bt (fun h=>?_) (fun h=>?_)
 ·have hlt:i<ap r:=by omega
  have f1:=Be m i hbr hba him (hp0 i hlt)
  have hs:(gE r a m.nodes (i+1)).map D.i=(gE r a m.nodes i).map D.i++[.i (mz r a m.nodes i)]:=by rw [qU,List.map_append];rfl
  have hil:(gE r a m.nodes i).length=i:=by unfold gE;simp
  refine kgo ?_
  refine cIf (fun h2=>?_) (fun h2=>?_)
  ·rw [Bool.not_eq_true'] at h2
   have hb:=kz hlt h2
   rw [lG hb,hb]
   repeat (first|(refine b8 ?_;first|refine aP ?_|refine cF ?_|refine bh ?_|refine bo ?_|refine aU ?_|refine bl ?_|refine aY ?_|refine aF ?_|refine bk ?_)|(refine fo ?_;first|refine bX ?_|refine fQ ?_|refine cu ?_|refine cD ?_)|(refine fB ?_;first|refine eB (fun _=>?_)|refine cq ?_|refine cf ?_|refine bP ?_|refine cy ?_|refine cB ?_|refine ci ?_)|(refine fx ?_;first|refine b7 ?_|refine eV ?_|refine ca ?_|refine bS ?_|refine cj ?_|refine cm ?_|refine b9 ?_)|(refine fp ?_;first|refine fG ?_|refine fb ?_|refine ch ?_|refine bY ?_|refine fJ ?_|refine be ?_|refine bm ?_)|(refine cb ?_;first|refine bf ?_|refine cC ?_)|(refine ft ?_;first|refine fM (d:=6) ?_|refine co ?_|refine cr ?_|refine fq ?_)|(refine b6 ?_;first|refine cG ?_|refine bj ?_|refine aT ?_|refine aX ?_|refine aQ ?_|refine bp ?_)|(refine fS ?_;first|refine cd ?_|refine fj ?_|refine bg ?_|refine aR ?_|refine bc ?_)|(refine aO ?_;first|refine ax _ ?_|refine aW ?_|refine aG ?_|refine az ?_|refine aC ?_)|(refine fl ?_;first|refine cz ?_|refine bR ?_|refine cA ?_)|(refine gOp ?_;first|refine fw ?_|refine fy ?_|refine ba ?_|refine fu ?_|refine fE ?_|refine cg ?_|refine aS ?_|refine cE ?_|refine fF ?_|refine bV ?_|refine ct ?_|refine bd ?_|refine aE ?_|refine cw ?_|refine sNo ?_|refine fa ?_|refine aA ?_)|refine e9 ?_|refine ez ?_|refine gx ?_|refine bq ?_|refine cI ?_|refine bF ?_|refine fX ?_|refine gd ?_|refine fU ?_|refine eD ?_|refine cM ?_|refine bu ?_|refine aB ?_|refine br ?_|refine cL ?_|refine bG ?_|refine aBlkX ?_|refine cJ ?_)
   exact ig
  ·rw [Bool.not_eq_false'] at h2
   refine kgo ?_
   exact af (i+1) ⟨hlt,by rw [dq,hi.2,h2];rfl⟩ (by omega)
 have hb:gm r a m.nodes=true:=eZ _ _ i (by omega) hi.1 hi.2
 rw [ku hb,hb,show aK r a m.nodes=gE r a m.nodes i from by rw [show i=ap r by omega];rfl]
 repeat (first|(refine b8 ?_;first|refine aP ?_|refine cF ?_|refine bh ?_|refine bo ?_|refine aU ?_|refine bl ?_|refine aY ?_|refine aF ?_|refine bk ?_)|(refine fo ?_;first|refine bX ?_|refine fQ ?_|refine cu ?_|refine cD ?_)|(refine fB ?_;first|refine eB (fun _=>?_)|refine cq ?_|refine cf ?_|refine bP ?_|refine cy ?_|refine cB ?_|refine ci ?_)|(refine fx ?_;first|refine b7 ?_|refine eV ?_|refine ca ?_|refine bS ?_|refine cj ?_|refine cm ?_|refine b9 ?_)|(refine fp ?_;first|refine fG ?_|refine fb ?_|refine ch ?_|refine bY ?_|refine fJ ?_|refine be ?_|refine bm ?_)|(refine cb ?_;first|refine bf ?_|refine cC ?_)|(refine ft ?_;first|refine fM (d:=6) ?_|refine co ?_|refine cr ?_|refine fq ?_)|(refine b6 ?_;first|refine cG ?_|refine bj ?_|refine aT ?_|refine aX ?_|refine aQ ?_|refine bp ?_)|(refine fS ?_;first|refine cd ?_|refine fj ?_|refine bg ?_|refine aR ?_|refine bc ?_)|(refine aO ?_;first|refine ax _ ?_|refine aW ?_|refine aG ?_|refine az ?_|refine aC ?_)|(refine fl ?_;first|refine cz ?_|refine bR ?_|refine cA ?_)|(refine gOp ?_;first|refine fw ?_|refine fy ?_|refine ba ?_|refine fu ?_|refine fE ?_|refine cg ?_|refine aS ?_|refine cE ?_|refine fF ?_|refine bV ?_|refine ct ?_|refine bd ?_|refine aE ?_|refine cw ?_|refine sNo ?_|refine fa ?_|refine aA ?_)|refine e9 ?_|refine ez ?_|refine gx ?_|refine bq ?_|refine cI ?_|refine bF ?_|refine fX ?_|refine gd ?_|refine fU ?_|refine eD ?_|refine cM ?_|refine bu ?_|refine aB ?_|refine br ?_|refine cL ?_|refine bG ?_|refine aBlkX ?_|refine cJ ?_)
 exact ig
end Go.Proofs.YtclpbhoekmecjaaGreatDoor
namespace Go.Proofs.YtclpbhoekmecjaaGreatDoor
open Go.RowKit
set_option linter.unusedVariables false
set_option maxRecDepth 100000
set_option maxHeartbeats 4000000
attribute [local irreducible] au Der At
def eX (ims:List Int) (re l:Nat):Bool:=!fh (ims.take re) l
def iA (f:Nat→Bool) (n:Nat):Int:=((List.range n).filter f).length
def jd (f:Nat→Bool) (n:Nat):List Int:=(List.range n).map fun l=>if f l=true then iA f l else -1
theorem wN (f:Nat→Bool) (n:Nat):jd f (n+1)=jd f n++[if f n=true then iA f n else -1]:=by unfold jd;rw [List.range_succ,List.map_append];rfl
theorem wX (f:Nat→Bool) (n:Nat):iA f (n+1)=if f n=true then iA f n+1 else iA f n:=by
 unfold iA
 rw [List.range_succ,List.filter_append]
 by_cases h:f n=true <;> simp [h]
theorem vS (f:Nat→Bool) (n:Nat):0≤iA f n∧iA f n≤n:=by
 unfold iA
 have:=List.length_filter_le f (List.range n)
 rw [List.length_range] at this
 omega
def Dy (a:Big) (ns:List Int) (k:Nat):Bool:=!hZ a ns k
def du (a:Big) (ns:List Int) (n:Nat):List Bool:=(List.range n).map (Dy a ns)
theorem uB (a:Big) (ns:List Int) (n:Nat):du a ns (n+1)=du a ns n++[Dy a ns n]:=by unfold du;rw [List.range_succ,List.map_append];rfl
theorem C6 (row:List Bool) (v:Bool) (n:Nat):atN row v (n+1)=if tkF row v n=true then atN row v n+1 else atN row v n:=by
 unfold atN
 rw [List.range_succ,List.filter_append]
 by_cases h:tkF row v n=true <;> simp [h]
theorem Gi (row:List Bool) (v:Bool) (n:Nat):0≤atN row v n∧atN row v n≤n:=by
 unfold atN
 have:=List.length_filter_le (tkF row v) (List.range n)
 rw [List.length_range] at this
 omega
def toK (row:List Bool) (i k:Nat):List Int:=atL row true i++[atN row true k]
theorem Ex (row:List Bool) (i k:Nat):(toK row i k).length=i+1:=by unfold toK;rw [List.length_append,jm];rfl
theorem Fy (row:List Bool) (i k:Nat) (h:i<(toK row i k).length):(toK row i k)[i]=atN row true k:=by
 have h1:(toK row i k)[i]? = some (atN row true k):=by
  unfold toK
  rw [List.getElem?_append_right (by rw [jm];exact Nat.le_refl _),jm,Nat.sub_self];rfl
 rw [List.getElem?_eq_getElem h] at h1
 exact Option.some.inj h1
theorem EC (row:List Bool) (i k:Nat) (x:Int) (hx:atN row true (k+1)=x):(toK row i k).set i x=toK row i (k+1):=by
 unfold toK
 rw [List.set_append_right _ _ (by rw [jm];exact Nat.le_refl _),jm,Nat.sub_self,hx];rfl
def lq (r a:Big) (ns:List Int):List Int:=jd (eX (aK r a ns) r.edges.toNat) a.edges.toNat++eM (iA (eX (aK r a ns) r.edges.toNat) a.edges.toNat) a.outer.length
def oQ (r:Big) (lk ims:List Int):List Wr:=r.outer.mapIdx fun i s=>⟨s,atI lk (atI ims (r.edges+i))⟩
def zW (lk ps:List Int) (names:List ByteArray):List Wr:=names.mapIdx fun i s=>⟨s,atI lk (atI ps i)⟩
def Fg (r a:Big) (m:Mat) (ps:List Int) (names:List ByteArray):Big:=
 ⟨a.roots,gH a (du a m.nodes a.nodes.length) true false (lq r a m.nodes) a.nodes.length,m.roots.map (yh (atL (du a m.nodes a.nodes.length) true a.nodes.length)),iA (eX (aK r a m.nodes) r.edges.toNat) a.edges.toNat,a.outer,bJ (oQ r (lq r a m.nodes) (aK r a m.nodes)) (zW (lq r a m.nodes) ps names)⟩
theorem AY {sig:List Ctl} {r a:Big} {ns:List Int} (h:oS r a ns) (hr:ay sig r=true) (ha:ay sig a=true) {l:Int} (hp:aJ r l≠[]):eE a (mz r a ns l)=true:=by
 cases hc:aJ r l with
 | nil=>exact absurd hc hp
 | cons q u=>
  have h1:=h.img_link hr ha (q:=q) (l:=l) (by rw [hc];simp)
  rwa [show mz r a ns l=gS a ns q from by unfold mz;rw [hc]]
theorem zS {sig:List Ctl} {r a:Big} {ns:List Int} (h:oS r a ns) (hr:ay sig r=true) (ha:ay sig a=true) (hp0:∀l:Nat,l<ap r→aJ r l≠[]) (j:Int) (h0:0≤j) (h1:j<(ap r:Int)):0≤atI (aK r a ns) j∧atI (aK r a ns) j<(ap a:Int):=by
 obtain ⟨k,rfl⟩:=Int.eq_ofNat_of_zero_le h0
 have hk:k<(aK r a ns).length:=by unfold aK;simp;omega
 rw [bZ _ k hk,show (aK r a ns)[k]=mz r a ns k from by simp [aK]]
 obtain ⟨n,h2,h3⟩:=iw (AY h hr ha (hp0 k (by omega)))
 rw [h2];omega
theorem vm (a b:List Wr) (w:Wr):bJ a (b++[w])=bJ (bJ a b) [w]:=by unfold bJ;rw [List.foldl_append]
theorem yK (r:Big) (lk ims:List Int) (i:Nat) (h:i<r.outer.length):(oQ r lk ims).take (i+1)=(oQ r lk ims).take i++[⟨r.outer[i],atI lk (atI ims (r.edges+i))⟩]:=by
 have hl:i<(oQ r lk ims).length:=by unfold oQ;simpa using h
 rw [List.take_succ_eq_append_getElem hl];simp [oQ]
theorem EM (lk ps:List Int) (names:List ByteArray) (i:Nat) (h:i<names.length):(zW lk ps names).take (i+1)=(zW lk ps names).take i++[⟨names[i],atI lk (atI ps i)⟩]:=by
 have hl:i<(zW lk ps names).length:=by unfold zW;simpa using h
 rw [List.take_succ_eq_append_getElem hl];simp [zW]
theorem vg {sig:List Ctl} {r a:Big} (m:Mat) (hbr:ay sig r=true) (hba:ay sig a=true) (him:oS r a m.nodes) (hp0:∀l:Nat,l<ap r→aJ r l≠[]) (hL:gm r a m.nodes=true) (hrt:∀p∈m.roots,p<(a.nodes.length:Int)) (hrl:m.roots.length≤1000) (ps:List Int) (names:List ByteArray) (hps:∀l∈ps,0≤l∧l<(ap a:Int)) (hnm:names.length=ps.length) (hpl:ps.length≤500):FnD Tryz.prog 135 [r.D,a.D,m.D,DI ps,DS names] (.d (Fg r a m ps names).D):=by
 have f1:=sw m hbr hba him hp0
 rw [hL,ku hL] at f1
 have ha:=aN hba
 have hr:=aN hbr
 obtain ⟨ae,hae⟩:=Int.eq_ofNat_of_zero_le ha.2.2.2.1.1
 obtain ⟨re,hre⟩:=Int.eq_ofNat_of_zero_le hr.2.2.2.1.1
 have hil:(aK r a m.nodes).length=ap r:=by unfold aK;simp
 have hix:=zS him hbr hba hp0
 have hE:Fg r a m ps names=⟨a.roots,gH a (du a m.nodes a.nodes.length) true false (lq r a m.nodes) a.nodes.length,m.roots.map (yh (atL (du a m.nodes a.nodes.length) true a.nodes.length)),iA (eX (aK r a m.nodes) re) ae,a.outer,bJ (oQ r (lq r a m.nodes) (aK r a m.nodes)) (zW (lq r a m.nodes) ps names)⟩:=by unfold Fg;rw [hae,hre];rfl
 have hlkE:lq r a m.nodes=jd (eX (aK r a m.nodes) re) ae++eM (iA (eX (aK r a m.nodes) re) ae) a.outer.length:=by unfold lq;rw [hae,hre];rfl
 have hna:ap a=ae+a.outer.length:=by unfold ap;omega
 have hnr:ap r=re+r.outer.length:=by unfold ap;omega
 have hlkl:(lq r a m.nodes).length=ap a:=by rw [hlkE,List.length_append,eH,hna];unfold jd;simp
 have hup:=fun i h=>(iy hba i h).2
 have hnode:=eN hba
 have hnl:∀n∈a.nodes,n.links.length≤1000∧∀l∈n.links,0≤l∧l<(ap a:Int):=fun n hn=>by
  obtain ⟨k,hk,rfl⟩:=List.mem_iff_getElem.1 hn
  obtain ⟨_,_,_,c3,c4⟩:=hnode k hk
  refine ⟨by have:=(bD hba).7 k hk;omega,fun l hl=>?_⟩
  obtain ⟨j,rfl,hj⟩:=iw (c4 l hl)
  omega
 rw [hE]
 clear hE
 revert f1 hil hix hlkE hlkl
 generalize aK r a m.nodes=ims
 generalize lq r a m.nodes=lk
 intro f1 hil hix hlkE hlkl
 refine ah Tryz.func135 (fun hw W0=>?_)
 repeat (first|(refine b8 ?_;first|refine aP ?_|refine cF ?_|refine bh ?_|refine bo ?_|refine aU ?_|refine bl ?_|refine aY ?_|refine aF ?_|refine bk ?_)|(refine fo ?_;first|refine bX ?_|refine fQ ?_|refine cu ?_|refine cD ?_)|(refine fB ?_;first|refine eB (fun _=>?_)|refine cq ?_|refine cf ?_|refine bP ?_|refine cy ?_|refine cB ?_|refine ci ?_)|(refine fx ?_;first|refine b7 ?_|refine eV ?_|refine ca ?_|refine bS ?_|refine cj ?_|refine cm ?_|refine b9 ?_)|(refine fp ?_;first|refine fG ?_|refine fb ?_|refine ch ?_|refine bY ?_|refine fJ ?_|refine be ?_|refine bm ?_)|(refine cb ?_;first|refine bf ?_|refine cC ?_)|(refine ft ?_;first|refine co ?_|refine cr ?_|refine fq ?_)|(refine b6 ?_;first|refine cG ?_|refine bj ?_|refine aT ?_|refine aX ?_|refine aQ ?_|refine bp ?_)|(refine fS ?_;first|refine cd ?_|refine fj ?_|refine bg ?_|refine aR ?_|refine bc ?_)|(refine aO ?_;first|refine ax _ ?_|refine aW ?_|refine aG ?_|refine az ?_|refine aC ?_)|(refine fl ?_;first|refine cz ?_|refine bR ?_|refine cA ?_)|(refine gOp ?_;first|refine fw ?_|refine fy ?_|refine ba ?_|refine fu ?_|refine fE ?_|refine cg ?_|refine aS ?_|refine cE ?_|refine fF ?_|refine bV ?_|refine ct ?_|refine bd ?_|refine sFz 36 ?_|refine aE ?_|refine cw ?_|refine sNo ?_|refine fa ?_|refine aA ?_)|refine e9 ?_|refine ez ?_|refine gx ?_|refine bq ?_|refine cI ?_|refine bF ?_|refine fX ?_|refine gd ?_|refine fU ?_|refine eD ?_|refine cM ?_|refine bu ?_|refine aB ?_|refine br ?_|refine cL ?_|refine bG ?_|refine aBlkX ?_|refine cJ ?_|refine sFz 36 ?_)
 refine aq [3,4,5,6,7,10,11,13] (fun i:Nat=>i≤ae) (fun i=>ae - i) (fun i=>[(10013,.tk (.bx [.d (.i a.roots),.d (.n 3),.d (.n 1),.d (.i (iA (eX ims re) i)),.d (DS a.outer),.d (.n 2)])),(14,.sy (.k 10038)),(10038,.tk (.row 1 3 ((jd (eX ims re) i).map .i))),(15,.sy (.d (.i i)))]) 0 (Nat.zero_le _) (fun i hi=>?_)
 refine kgo ?_
 refine bt (fun h=>?_) (fun h=>?_)
 ·have hlt:i<ae:=by omega
  have f2:=lh (ims.take re) i
  have hq:=wN (eX ims re) i
  have hn1:=wX (eX ims re) i
  have hn2:=vS (eX ims re) i
  have hkl:(jd (eX ims re) i).length=i:=by unfold jd;simp
  refine kgo ?_
  refine bR (n:=re) ?_ rfl rfl (congrArg some hre)
  cases hk:fh (ims.take re) i
  ·rw [hk] at f2
   have hf:eX ims re i=true:=by unfold eX;rw [hk];rfl
   rw [if_pos hf] at hq hn1
   have hs:(jd (eX ims re) (i+1)).map D.i=(jd (eX ims re) i).map D.i++[.i (iA (eX ims re) i)]:=by rw [hq,List.map_append];rfl
   refine kgo ?_
   rw [← hn1]
   exact af (i+1) hlt (by omega)
  ·rw [hk] at f2
   have hf:¬eX ims re i=true:=by unfold eX;rw [hk];exact Bool.false_ne_true
   rw [if_neg hf] at hq hn1
   have hs:(jd (eX ims re) (i+1)).map D.i=(jd (eX ims re) i).map D.i++[.i (-1)]:=by rw [hq,List.map_append];rfl
   refine kgo ?_
   rw [← hn1]
   exact af (i+1) hlt (by omega)
 rw [show i=ae by omega]
 have hkn:=vS (eX ims re) ae
 have f3:=gJ (iA (eX ims re) ae) a.outer.length (by omega) (by omega)
 rw [Int.toNat_natCast] at f3
 have hkl:(jd (eX ims re) ae).length=ae:=by unfold jd;simp
 have hfl:=eH (iA (eX ims re) ae) a.outer.length
 have hlkD:lk.map D.i=(jd (eX ims re) ae++eM (iA (eX ims re) ae) a.outer.length).map D.i:=by rw [hlkE]
 have hmove:∀p∈m.roots,FnD Tryz.prog 189 [.i p,DI (atL (du a m.nodes a.nodes.length) true a.nodes.length)] (.d (.i (yh (atL (du a m.nodes a.nodes.length) true a.nodes.length) p))):=fun p hp=>CX p _ (by rw [jm];exact hrt p hp)
 have hrr:∀k,k<a.nodes.length→tkF (du a m.nodes a.nodes.length) true k=Dy a m.nodes k:=fun k hk=>by
  rw [sn _ _ _ (by unfold du;simpa using hk)]
  simp [du]
 have hrrl:(du a m.nodes a.nodes.length).length=a.nodes.length:=by unfold du;simp
 have f5:=vx a (du a m.nodes a.nodes.length) true false lk (by omega) (by omega) hup (fun n hn=>(hnl n hn).1) (fun n hn l hl=>by rw [hlkl];exact (hnl n hn).2 l hl)
 revert hmove hrr hrrl f5
 generalize hgr:du a m.nodes a.nodes.length=rr
 intro hmove hrr hrrl f5
 repeat (first|(refine b8 ?_;first|refine aP ?_|refine cF ?_|refine bh ?_|refine bo ?_|refine aU ?_|refine bl ?_|refine aY ?_|refine aF ?_|refine bk ?_)|(refine fo ?_;first|refine bX ?_|refine fQ ?_|refine cu ?_|refine cD ?_)|(refine fB ?_;first|refine eB (fun _=>?_)|refine cq ?_|refine cf ?_|refine bP ?_|refine cy ?_|refine cB ?_|refine ci ?_)|(refine fx ?_;first|refine b7 ?_|refine eV ?_|refine ca ?_|refine bS ?_|refine cj ?_|refine cm ?_|refine b9 ?_)|(refine fp ?_;first|refine fG ?_|refine fb ?_|refine ch ?_|refine bY ?_|refine fJ ?_|refine be ?_|refine bm ?_)|(refine cb ?_;first|refine bf ?_|refine cC ?_)|(refine ft ?_;first|refine co ?_|refine cr ?_|refine fq ?_)|(refine b6 ?_;first|refine cG ?_|refine bj ?_|refine aT ?_|refine aX ?_|refine aQ ?_|refine bp ?_)|(refine fS ?_;first|refine cd ?_|refine fj ?_|refine bg ?_|refine aR ?_|refine bc ?_)|(refine aO ?_;first|refine ax _ ?_|refine aW ?_|refine aG ?_|refine az ?_|refine aC ?_)|(refine fl ?_;first|refine cz ?_|refine bR ?_|refine cA ?_)|(refine gOp ?_;first|refine fw ?_|refine fy ?_|refine ba ?_|refine fu ?_|refine fE ?_|refine cg ?_|refine aS ?_|refine cE ?_|refine fF ?_|refine bV ?_|refine ct ?_|refine bd ?_|refine sFz 69 ?_|refine aE ?_|refine cw ?_|refine sNo ?_|refine fa ?_|refine aA ?_)|refine e9 ?_|refine ez ?_|refine gx ?_|refine bq ?_|refine cI ?_|refine bF ?_|refine fX ?_|refine gd ?_|refine fU ?_|refine eD ?_|refine cM ?_|refine bu ?_|refine aB ?_|refine br ?_|refine cL ?_|refine bG ?_|refine aBlkX ?_|refine cJ ?_|refine sFz 69 ?_)
 rw [← hlkE]
 refine aq [3,4,5,6,7,10,11,13,14] (fun i:Nat=>i≤a.nodes.length) (fun i=>a.nodes.length - i) (fun i=>[(16,.sy (.k 10071)),(10071,.tk (.row 1 4 ((du a m.nodes i).map .b))),(17,.sy (.k 10072)),(10072,.tk (.row 1 3 ((atL rr true i).map .i))),(18,.sy (.d (.i i)))]) 0 (Nat.zero_le _) (fun i hi=>?_)
 refine kgo ?_
 refine bt (fun h=>?_) (fun h=>?_)
 ·have hlt:i<a.nodes.length:=by omega
  have hal:=jm rr true i
  have hol:(du a m.nodes i).length=i:=by unfold du;simp
  have hs0:(toK rr i 0).map D.i=(atL rr true i).map D.i++[.i 0]:=by unfold toK;rw [List.map_append];rfl
  refine kgo ?_
  refine aq [3,4,5,6,7,10,11,13,14,16,17,18] (fun k:Nat=>k≤i) (fun k=>i - k) (fun k=>[(17,.sy (.k 10082)),(10082,.tk (.row 1 3 ((toK rr i k).map .i))),(19,.sy (.d (.i k)))]) 0 (Nat.zero_le _) (fun k hk=>?_)
  refine kgo ?_
  refine bt (fun h2=>?_) (fun h2=>?_)
  ·have hki:k<i:=by omega
   have hkr:k<(du a m.nodes i).length:=by omega
   have hek:(du a m.nodes i)[k]=tkF rr true k:=by rw [hrr k (by omega)];simp [du]
   have htl:=Ex rr i k
   have hsn:=C6 rr true k
   have hnl:=Gi rr true k
   have hil:i<(toK rr i k).length:=by omega
   have hat:=Fy rr i k hil
   have hb:I64 ((toK rr i k)[i]+1):=by rw [hat];unfold I64;omega
   refine kgo ?_
   refine cIf (fun h3=>?_) (fun h3=>?_)
   ·rw [hek] at h3
    rw [if_pos h3] at hsn
    have hst:=EC rr i k ((toK rr i k)[i]+1) (by rw [hat];exact hsn)
    refine kgo ?_
    rw [hst]
    exact af (k+1) hki (by omega)
   ·rw [hek] at h3
    rw [if_neg (by rw [h3];exact Bool.false_ne_true)] at hsn
    have hs2:(toK rr i (k+1)).map D.i=(toK rr i k).map D.i:=by unfold toK;rw [hsn]
    refine kgo ?_
    exact af (k+1) hki (by omega)
  ·have hki:k=i:=by omega
   subst hki
   have f6:=mC hba m k (by omega)
   have hs3:(du a m.nodes (k+1)).map D.b=(du a m.nodes k).map D.b++[.b (!hZ a m.nodes k)]:=by rw [uB,List.map_append];rfl
   have hs4:(atL rr true (k+1)).map D.i=(toK rr k k).map D.i:=by rw [vJ];rfl
   refine kgo ?_
   exact af (k+1) hlt (by omega)
 have hie:i=a.nodes.length:=by omega
 subst hie
 rw [hgr]
 repeat (first|refine cFz 14 ?_|refine cFz 16 ?_|refine cFz 17 ?_|(refine b8 ?_;first|refine aP ?_|refine cF ?_|refine bh ?_|refine bo ?_|refine aU ?_|refine bl ?_|refine aY ?_|refine aF ?_|refine bk ?_)|(refine fo ?_;first|refine bX ?_|refine fQ ?_|refine cu ?_|refine cD ?_)|(refine fB ?_;first|refine eB (fun _=>?_)|refine cq ?_|refine cf ?_|refine bP ?_|refine cy ?_|refine cB ?_|refine ci ?_)|(refine fx ?_;first|refine b7 ?_|refine eV ?_|refine ca ?_|refine bS ?_|refine cj ?_|refine cm ?_|refine b9 ?_)|(refine fp ?_;first|refine fG ?_|refine fb ?_|refine ch ?_|refine bY ?_|refine fJ ?_|refine be ?_|refine bm ?_)|(refine cb ?_;first|refine bf ?_|refine cC ?_)|(refine ft ?_;first|refine co ?_|refine cr ?_|refine fq ?_)|(refine b6 ?_;first|refine cG ?_|refine bj ?_|refine aT ?_|refine aX ?_|refine aQ ?_|refine bp ?_)|(refine fS ?_;first|refine cd ?_|refine fj ?_|refine bg ?_|refine aR ?_|refine bc ?_)|(refine aO ?_;first|refine ax _ ?_|refine aW ?_|refine aG ?_|refine az ?_|refine aC ?_)|(refine fl ?_;first|refine cz ?_|refine bR ?_|refine cA ?_)|(refine gOp ?_;first|refine fw ?_|refine fy ?_|refine ba ?_|refine fu ?_|refine fE ?_|refine cg ?_|refine aS ?_|refine cE ?_|refine fF ?_|refine bV ?_|refine ct ?_|refine bd ?_|refine aE ?_|refine cw ?_|refine sNo ?_|refine fa ?_|refine aA ?_)|refine e9 ?_|refine ez ?_|refine gx ?_|refine bq ?_|refine cI ?_|refine bF ?_|refine fX ?_|refine gd ?_|refine fU ?_|refine eD ?_|refine cM ?_|refine bu ?_|refine aB ?_|refine br ?_|refine cL ?_|refine bG ?_|refine aBlkX ?_|refine cJ ?_)
 refine o7 10013 1 ?_
 refine oG 10013 2 20001 3 ?_
 refine aq [3,4,5,7,10,11,13,14,17] (fun i:Nat=>i≤m.roots.length) (fun i=>m.roots.length - i) (fun i=>[(10013,.tk (.bx [.d (.i a.roots),.d (.l 3 ((gH a rr true false lk a.nodes.length).map Nd.D)),.k 20001,.d (.i (iA (eX ims re) ae)),.d (DS a.outer),.d (.n 2)])),(20001,.tk (.row 1 3 (((m.roots.take i).map (yh (atL rr true a.nodes.length))).map .i))),(20,.sy (.d (.i i)))]) 0 (Nat.zero_le _) (fun i hi=>?_)
 refine kgo ?_
 refine bt (fun h=>?_) (fun h=>?_)
 ·have hlt:i<m.roots.length:=by omega
  have f6:=hmove _ (List.getElem_mem hlt)
  have hs:((m.roots.take (i+1)).map (yh (atL rr true a.nodes.length))).map D.i=((m.roots.take i).map (yh (atL rr true a.nodes.length))).map D.i++[.i (yh (atL rr true a.nodes.length) m.roots[i])]:=by rw [List.take_succ_eq_append_getElem hlt,List.map_append,List.map_append];rfl
  have hq:((m.roots.take i).map (yh (atL rr true a.nodes.length))).length≤1000:=by rw [List.length_map,List.length_take];omega
  refine kgo ?_
  exact af (i+1) hlt (by omega)
 rw [show m.roots.take i=m.roots from List.take_of_length_le (by omega)]
 refine o7 10013 2 ?_
 refine kgo ?_
 refine aq [3,4,5,10,11,13,14] (fun i:Nat=>i≤r.outer.length) (fun i=>r.outer.length - i) (fun i=>[(21,.sy (.k 20002)),(20002,.tk (.row 2 133 (((oQ r lk ims).take i).map Wr.D))),(22,.sy (.d (.i i)))]) 0 (Nat.zero_le _) (fun i hi=>?_)
 refine kgo ?_
 refine bt (fun h=>?_) (fun h=>?_)
 ·have hlt:i<r.outer.length:=by omega
  have hx:=hix (r.edges+i) (by omega) (by omega)
  have hs:((oQ r lk ims).take (i+1)).map Wr.D=((oQ r lk ims).take i).map Wr.D++[Wr.D ⟨r.outer[i],atI lk (atI ims (r.edges+i))⟩]:=by rw [yK r lk ims i hlt,List.map_append];rfl
  have hq:((oQ r lk ims).take i).length≤1000:=by rw [List.length_take];omega
  refine kgo ?_
  exact af (i+1) hlt (by omega)
 have hol:(oQ r lk ims).length=r.outer.length:=by unfold oQ;simp
 rw [show (oQ r lk ims).take i=oQ r lk ims from List.take_of_length_le (by omega)]
 refine cFz 21 ?_
 refine kgo ?_
 refine aq [3,4,10,13,14] (fun i:Nat=>i≤ps.length) (fun i=>ps.length - i) (fun i=>[(21,.sy (.d (.l 2 ((bJ (oQ r lk ims) ((zW lk ps names).take i)).map Wr.D)))),(23,.sy (.d (.i i)))]) 0 (Nat.zero_le _) (fun i hi=>?_)
 refine kgo ?_
 refine bt (fun h=>?_) (fun h=>?_)
 ·have hlt:i<ps.length:=by omega
  have hltn:i<names.length:=by omega
  have hx:=hps _ (List.getElem_mem hlt)
  have hl:(bJ (oQ r lk ims) ((zW lk ps names).take i)).length≤1000:=by have:=kg (oQ r lk ims) ((zW lk ps names).take i);rw [List.length_take] at this;omega
  have f6:FnD Tryz.prog 203 [.l 2 ((bJ (oQ r lk ims) ((zW lk ps names).take i)).map Wr.D),.l 2 ([(⟨names[i],atI lk ps[i]⟩:Wr)].map Wr.D)] (.d (.l 2 ((bJ (oQ r lk ims) ((zW lk ps names).take (i+1))).map Wr.D))):=by
   rw [EM lk ps names i hltn,vm,bZ ps i hlt]
   exact sJ _ _ hl (by simp)
  repeat (first|(refine b8 ?_;first|refine aP ?_|refine cF ?_|refine bh ?_|refine bo ?_|refine aU ?_|refine bl ?_|refine aY ?_|refine aF ?_|refine bk ?_)|(refine fo ?_;first|refine bX ?_|refine fQ ?_|refine cu ?_|refine cD ?_)|(refine fB ?_;first|refine eB (fun _=>?_)|refine cq ?_|refine cf ?_|refine bP ?_|refine cy ?_|refine cB ?_|refine ci ?_)|(refine fx ?_;first|refine b7 ?_|refine eV ?_|refine ca ?_|refine bS ?_|refine cj ?_|refine cm ?_|refine b9 ?_)|(refine fp ?_;first|refine fG ?_|refine fb ?_|refine ch ?_|refine bY ?_|refine fJ ?_|refine be ?_|refine bm ?_)|(refine cb ?_;first|refine bf ?_|refine cC ?_)|(refine ft ?_;first|refine co ?_|refine cr ?_|refine fq ?_)|(refine b6 ?_;first|refine cG ?_|refine bj ?_|refine aT ?_|refine aX ?_|refine aQ ?_|refine bp ?_)|(refine fS ?_;first|refine cd ?_|refine fj ?_|refine bg ?_|refine aR ?_|refine bc ?_)|(refine aO ?_;first|refine ax _ ?_|refine aW ?_|refine aG ?_|refine az ?_|refine aC ?_)|(refine fl ?_;first|refine cz ?_|refine bR ?_|refine cA ?_)|(refine gOp ?_;first|refine fw ?_|refine fy ?_|refine ba ?_|refine fu ?_|refine fE ?_|refine cg ?_|refine aS ?_|refine cE ?_|refine fF ?_|refine bV ?_|refine ct ?_|refine bd ?_|refine sFz 178 ?_|refine aE ?_|refine cw ?_|refine sNo ?_|refine fa ?_|refine aA ?_)|refine e9 ?_|refine ez ?_|refine gx ?_|refine bq ?_|refine cI ?_|refine bF ?_|refine fX ?_|refine gd ?_|refine fU ?_|refine eD ?_|refine cM ?_|refine bu ?_|refine aB ?_|refine br ?_|refine cL ?_|refine bG ?_|refine aBlkX ?_|refine cJ ?_|refine sFz 178 ?_)
  exact af (i+1) hlt (by omega)
 have hzl:(zW lk ps names).length=ps.length:=by unfold zW;simpa using hnm
 rw [show (zW lk ps names).take i=zW lk ps names from List.take_of_length_le (by omega)]
 refine kgo ?_
 exact aD
end Go.Proofs.YtclpbhoekmecjaaGreatDoor
namespace Go.Proofs.YtclpbhoekmecjaaGreatDoor
open Go.RowKit
set_option linter.unusedVariables false
set_option maxRecDepth 100000
set_option maxHeartbeats 4000000
attribute [local irreducible] au Der At
def psF (a:Big) (ns:List Int) (l:Nat):Bool:=decide (0<mo (dY a ns a.nodes.length) true (aJ a l))
theorem uj (f:Nat→Bool) (n:Nat):idxOf f (n+1)=if f n=true then idxOf f n++[(n:Int)] else idxOf f n:=by
 unfold idxOf
 rw [List.range_succ,List.filter_append]
 by_cases h:f n=true <;> simp [h]
theorem wB {α:Type} [DecidableEq α]:∀(xs ys:List α),xs.Nodup→(∀x∈xs,x∈ys)→xs.length≤ys.length
 | [],_,_,_=>Nat.zero_le _
 | x :: xs,ys,h,hs=>by
  have h1:=List.nodup_cons.1 h
  have hx:=hs x (by simp)
  have h2:=wB xs (ys.erase x) h1.2 (fun y hy=>(List.mem_erase_of_ne (fun (e:y=x)=>h1.1 (by rw [← e];exact hy))).2 (hs y (by simp [hy])))
  rw [List.length_erase_of_mem hx] at h2
  have:=List.length_pos_of_mem hx
  rw [List.length_cons];omega
def kO (outer:List ByteArray) (n:Nat):List ByteArray:=((List.range n).filter (k8 outer)).map mN
theorem nZ (outer:List ByteArray) (n:Nat):kO outer (n+1)=if k8 outer n=true then kO outer n++[mN n] else kO outer n:=by
 unfold kO
 rw [List.range_succ,List.filter_append]
 by_cases h:k8 outer n=true <;> simp [h]
theorem AU:∀i j:Fin 26,mN i=mN j→i=j:=by decide
theorem r9:∀i:Fin 26,(⟨#[122]⟩:ByteArray) ++ ⟨#[UInt8.ofNat (97+i)]⟩=mN i:=by decide
theorem vv (f:Nat→Bool):∀n,((List.range n).filter f).length+((List.range n).filter (fun i=>!f i)).length=n
 | 0=>rfl
 | n+1=>by
  have:=vv f n
  rw [List.range_succ,List.filter_append,List.filter_append]
  cases h:f n <;> simp [h] <;> omega
theorem AG (outer:List ByteArray) (n:Nat) (hn:n≤26):n≤(kO outer n).length+outer.length:=by
 have h1:=vv (k8 outer) n
 have h2:(((List.range n).filter (fun i=>!k8 outer i)).map mN).length≤outer.length:=wB _ _ (by
  refine List.pairwise_map.2 (List.Pairwise.imp_of_mem (fun {x y} hx hy hne e=>hne ?_) (List.nodup_range.filter _))
  have hx:=List.mem_range.1 (List.mem_filter.1 hx).1
  have hy:=List.mem_range.1 (List.mem_filter.1 hy).1
  exact congrArg Fin.val (AU ⟨x,by omega⟩ ⟨y,by omega⟩ e)) (fun s hs=>by
  obtain ⟨i,hi,rfl⟩:=List.mem_map.1 hs
  have h3:=(List.mem_filter.1 hi).2
  unfold k8 at h3
  rw [Bool.not_not] at h3
  obtain ⟨x,hx,e⟩:=List.any_eq_true.1 h3
  rw [beq_iff_eq] at e
  rw [← fR e];exact hx)
 rw [List.length_map] at h2
 unfold kO
 rw [List.length_map]
 omega
theorem rL (outer:List ByteArray) (i:Nat):∀d,∃t,kO outer (i+d)=kO outer i++t
 | 0=>⟨[],by simp⟩
 | d+1=>by
  obtain ⟨t,h⟩:=rL outer i d
  rw [show i+(d+1)=(i+d)+1 from rfl,nZ,h]
  by_cases hf:k8 outer (i+d)=true
  ·exact ⟨t++[mN (i+d)],by rw [if_pos hf,List.append_assoc]⟩
  ·exact ⟨t,by rw [if_neg hf]⟩
theorem su (outer:List ByteArray) (i:Nat) (hi:i≤26):bH outer (kO outer i).length=kO outer i:=by
 obtain ⟨t,h⟩:=rL outer i (26 - i)
 rw [show i+(26 - i)=26 by omega] at h
 show (kO outer 26).take _=_
 rw [h];simp
def dJ (r a:Big) (ns:List Int):List Int × List ByteArray × Bool:=
 if decide (16<((idxOf (psF a ns) (ap a)).length:Int)+r.outer.length) then ([],[],false) else (idxOf (psF a ns) (ap a),bH r.outer (idxOf (psF a ns) (ap a)).length,true)
theorem w0 {sig:List Ctl} {r a:Big} (hB:ay sig a=true) (m:Mat) (hro:r.outer.length≤1000):FnD Tryz.prog 134 [r.D,a.D,m.D] (.tp [DI (dJ r a m.nodes).1,DS (dJ r a m.nodes).2.1,.b (dJ r a m.nodes).2.2]):=by
 have ha:=aN hB
 have f1:=lv hB m
 have hpl:(dY a m.nodes a.nodes.length).length=a.nodes.length:=by simp [dY]
 have hll:=(bD hB).links
 refine ah Tryz.func134 (fun hw W0=>?_)
 refine kgo ?_
 refine eJ (fun i:Nat=>i≤ap a) (fun i=>ap a - i) (fun i=>[(3,.sy (.bx 10003 0)),(10003,.tk (.bx (flat r.D))),(4,.sy (.bx 10004 0)),(10004,.tk (.bx (flat a.D))),(9,.sy (.k 10015)),(10015,.tk (.row 1 3 (idxOf (psF a m.nodes) i |>.map .i))),(10,.sy (.k 10016)),(10016,.tk (.row 1 9 [])),(11,.sy (.d (.l 1 ((dY a m.nodes a.nodes.length).map .b)))),(12,.sy (.d (.i i)))]) 0 (Nat.zero_le _) (fun i hi=>?_)
 have hln:(ap a:Int)=a.edges+a.outer.length:=by unfold ap;omega
 refine kgo ?_
 refine cIf (fun h=>?_) (fun h=>?_)
 ·have h:=of_decide_eq_true h
  have hlt:i<ap a:=by omega
  have f2:=BK a i (dY a m.nodes a.nodes.length) true (by omega) hll (by omega)
  have hq:(idxOf (psF a m.nodes) i).length≤1000:=Nat.le_trans (dS _ _) (by omega)
  have hsu:=uj (psF a m.nodes) i
  refine kgo ?_
  refine cIf (fun h2=>?_) (fun h2=>?_)
  ·have h3:psF a m.nodes i=true:=by unfold psF;have:=of_decide_eq_true h2;exact decide_eq_true (by omega)
   rw [if_pos h3] at hsu
   have hs:(idxOf (psF a m.nodes) (i+1)).map D.i=(idxOf (psF a m.nodes) i).map D.i++[.i i]:=by rw [hsu,List.map_append];rfl
   refine kgo ?_
   exact af (i+1) hlt (by omega)
  ·have h3:¬psF a m.nodes i=true:=by unfold psF;have:=of_decide_eq_false h2;rw [decide_eq_true_eq];omega
   rw [if_neg h3] at hsu
   have hs:(idxOf (psF a m.nodes) (i+1)).map D.i=(idxOf (psF a m.nodes) i).map D.i:=by rw [hsu]
   refine kgo ?_
   exact af (i+1) hlt (by omega)
 ·have h:=of_decide_eq_false h
  have hie:i=ap a:=by omega
  subst hie
  have hq:(idxOf (psF a m.nodes) (ap a)).length≤1000000:=Nat.le_trans (dS _ _) (by omega)
  repeat (first|refine cFz 9 ?_|(refine b8 ?_;first|refine aP ?_|refine cF ?_|refine bh ?_|refine bo ?_|refine aU ?_|refine bl ?_|refine aY ?_|refine aF ?_|refine bk ?_)|(refine fo ?_;first|refine bX ?_|refine fQ ?_|refine cu ?_|refine cD ?_)|(refine fB ?_;first|refine eB (fun _=>?_)|refine cq ?_|refine cf ?_|refine bP ?_|refine cy ?_|refine cB ?_|refine ci ?_)|(refine fx ?_;first|refine b7 ?_|refine eV ?_|refine ca ?_|refine bS ?_|refine cj ?_|refine cm ?_|refine b9 ?_)|(refine fp ?_;first|refine fG ?_|refine fb ?_|refine ch ?_|refine bY ?_|refine fJ ?_|refine be ?_|refine bm ?_)|(refine cb ?_;first|refine bf ?_|refine cC ?_)|(refine ft ?_;first|refine co ?_|refine cr ?_|refine fq ?_)|(refine b6 ?_;first|refine cG ?_|refine bj ?_|refine aT ?_|refine aX ?_|refine aQ ?_|refine bp ?_)|(refine fS ?_;first|refine cd ?_|refine fj ?_|refine bg ?_|refine aR ?_|refine bc ?_)|(refine aO ?_;first|refine ax _ ?_|refine aW ?_|refine aG ?_|refine az ?_|refine aC ?_)|(refine fl ?_;first|refine cz ?_|refine bR ?_|refine cA ?_)|(refine gOp ?_;first|refine fw ?_|refine fy ?_|refine ba ?_|refine fu ?_|refine fE ?_|refine cg ?_|refine aS ?_|refine cE ?_|refine fF ?_|refine bV ?_|refine ct ?_|refine bd ?_|refine aE ?_|refine cw ?_|refine sNo ?_|refine fa ?_|refine aA ?_)|refine e9 ?_|refine ez ?_|refine gx ?_|refine bq ?_|refine cI ?_|refine bF ?_|refine fX ?_|refine gd ?_|refine fU ?_|refine eD ?_|refine cM ?_|refine bu ?_|refine aB ?_|refine br ?_|refine cL ?_|refine bG ?_|refine aBlkX ?_|refine cJ ?_)
  refine cIf (fun h2=>?_) (fun h2=>?_)
  ·rw [show dJ r a m.nodes=([],[],false) from by unfold dJ;rw [h2];rfl]
   repeat (first|(refine b8 ?_;first|refine aP ?_|refine cF ?_|refine bh ?_|refine bo ?_|refine aU ?_|refine bl ?_|refine aY ?_|refine aF ?_|refine bk ?_)|(refine fo ?_;first|refine bX ?_|refine fQ ?_|refine cu ?_|refine cD ?_)|(refine fB ?_;first|refine eB (fun _=>?_)|refine cq ?_|refine cf ?_|refine bP ?_|refine cy ?_|refine cB ?_|refine ci ?_)|(refine fx ?_;first|refine b7 ?_|refine eV ?_|refine ca ?_|refine bS ?_|refine cj ?_|refine cm ?_|refine b9 ?_)|(refine fp ?_;first|refine fG ?_|refine fb ?_|refine ch ?_|refine bY ?_|refine fJ ?_|refine be ?_|refine bm ?_)|(refine cb ?_;first|refine bf ?_|refine cC ?_)|(refine ft ?_;first|refine fM (d:=6) ?_|refine fM (d:=7) ?_|refine co ?_|refine cr ?_|refine fq ?_)|(refine b6 ?_;first|refine cG ?_|refine bj ?_|refine aT ?_|refine aX ?_|refine aQ ?_|refine bp ?_)|(refine fS ?_;first|refine cd ?_|refine fj ?_|refine bg ?_|refine aR ?_|refine bc ?_)|(refine aO ?_;first|refine ax _ ?_|refine aW ?_|refine aG ?_|refine az ?_|refine aC ?_)|(refine fl ?_;first|refine cz ?_|refine bR ?_|refine cA ?_)|(refine gOp ?_;first|refine fw ?_|refine fy ?_|refine ba ?_|refine fu ?_|refine fE ?_|refine cg ?_|refine aS ?_|refine cE ?_|refine fF ?_|refine bV ?_|refine ct ?_|refine bd ?_|refine sFz 46 ?_|refine sFz 47 ?_|refine aE ?_|refine cw ?_|refine sNo ?_|refine fa ?_|refine aA ?_)|refine e9 ?_|refine ez ?_|refine gx ?_|refine bq ?_|refine cI ?_|refine bF ?_|refine fX ?_|refine gd ?_|refine fU ?_|refine eD ?_|refine cM ?_|refine bu ?_|refine aB ?_|refine br ?_|refine cL ?_|refine bG ?_|refine aBlkX ?_|refine cJ ?_|refine sFz 46 ?_|refine sFz 47 ?_)
   exact ig
  ·rw [show dJ r a m.nodes=(idxOf (psF a m.nodes) (ap a),bH r.outer (idxOf (psF a m.nodes) (ap a)).length,true) from by unfold dJ;rw [h2];rfl]
   have h2:=of_decide_eq_false h2
   revert hq h2
   generalize idxOf (psF a m.nodes) (ap a)=ls
   intro hq h2
   refine kgo ?_
   refine eJ (fun i:Nat=>i≤16∧(kO r.outer i).length≤ls.length) (fun i=>16 - i) (fun i=>[(3,.sy (.bx 10003 0)),(10003,.tk (.bx (flat r.D))),(9,.sy (.d (DI ls))),(10,.sy (.k 10016)),(10016,.tk (.row 1 9 ((kO r.outer i).map .s))),(13,.sy (.d (.i i)))]) 0 ⟨by omega,Nat.zero_le _⟩ (fun i hi=>?_)
   obtain ⟨hi1,hi2⟩:=hi
   refine kgo ?_
   refine cIf (fun h3=>?_) (fun h3=>?_)
   ·have h3:=of_decide_eq_true h3
    simp only [List.length_map] at h3
    have hfew:=AG r.outer i (by omega)
    have f2:=xq i (by omega)
    have f3:=wv r.outer ((⟨#[122]⟩:ByteArray) ++ ⟨#[UInt8.ofNat (97+i)]⟩)
    have hb:(⟨#[122]⟩:ByteArray).size+(⟨#[UInt8.ofNat (97+i)]⟩:ByteArray).size≤1000000:=by show 1+1≤1000000;omega
    have hz:=r9 ⟨i,by omega⟩
    simp only at hz
    have hsu:=nZ r.outer i
    refine kgo ?_
    refine cIf (fun h4=>?_) (fun h4=>?_)
    ·have h4:=of_decide_eq_true h4
     have hf:k8 r.outer i=true:=by
      rw [hz] at h4
      unfold js at h4
      unfold k8
      split at h4
      ·omega
      ·simp_all
     rw [if_pos hf] at hsu
     have hs:(kO r.outer (i+1)).map D.s=(kO r.outer i).map D.s++[.s ((⟨#[122]⟩:ByteArray) ++ ⟨#[UInt8.ofNat (97+i)]⟩)]:=by rw [hsu,List.map_append,hz];rfl
     have hl2:(kO r.outer (i+1)).length≤ls.length:=by rw [hsu,List.length_append];show _+1≤_;omega
     refine kgo ?_
     exact af (i+1) ⟨by omega,hl2⟩ (by omega)
    ·have h4:=of_decide_eq_false h4
     have hf:¬k8 r.outer i=true:=by
      rw [hz] at h4
      unfold js at h4
      unfold k8
      split at h4
      ·simp_all
      ·omega
     rw [if_neg hf] at hsu
     have hs:(kO r.outer (i+1)).map D.s=(kO r.outer i).map D.s:=by rw [hsu]
     refine kgo ?_
     exact af (i+1) ⟨by omega,by rw [hsu];exact hi2⟩ (by omega)
   ·have h3:=of_decide_eq_false h3
    simp only [List.length_map] at h3
    rw [show ls.length=(kO r.outer i).length by omega,su r.outer i (by omega)]
    repeat (first|refine cFz 10 ?_|(refine b8 ?_;first|refine aP ?_|refine cF ?_|refine bh ?_|refine bo ?_|refine aU ?_|refine bl ?_|refine aY ?_|refine aF ?_|refine bk ?_)|(refine fo ?_;first|refine bX ?_|refine fQ ?_|refine cu ?_|refine cD ?_)|(refine fB ?_;first|refine eB (fun _=>?_)|refine cq ?_|refine cf ?_|refine bP ?_|refine cy ?_|refine cB ?_|refine ci ?_)|(refine fx ?_;first|refine b7 ?_|refine eV ?_|refine ca ?_|refine bS ?_|refine cj ?_|refine cm ?_|refine b9 ?_)|(refine fp ?_;first|refine fG ?_|refine fb ?_|refine ch ?_|refine bY ?_|refine fJ ?_|refine be ?_|refine bm ?_)|(refine cb ?_;first|refine bf ?_|refine cC ?_)|(refine ft ?_;first|refine co ?_|refine cr ?_|refine fq ?_)|(refine b6 ?_;first|refine cG ?_|refine bj ?_|refine aT ?_|refine aX ?_|refine aQ ?_|refine bp ?_)|(refine fS ?_;first|refine cd ?_|refine fj ?_|refine bg ?_|refine aR ?_|refine bc ?_)|(refine aO ?_;first|refine ax _ ?_|refine aW ?_|refine aG ?_|refine az ?_|refine aC ?_)|(refine fl ?_;first|refine cz ?_|refine bR ?_|refine cA ?_)|(refine gOp ?_;first|refine fw ?_|refine fy ?_|refine ba ?_|refine fu ?_|refine fE ?_|refine cg ?_|refine aS ?_|refine cE ?_|refine fF ?_|refine bV ?_|refine ct ?_|refine bd ?_|refine aE ?_|refine cw ?_|refine sNo ?_|refine fa ?_|refine aA ?_)|refine e9 ?_|refine ez ?_|refine gx ?_|refine bq ?_|refine cI ?_|refine bF ?_|refine fX ?_|refine gd ?_|refine fU ?_|refine eD ?_|refine cM ?_|refine bu ?_|refine aB ?_|refine br ?_|refine cL ?_|refine bG ?_|refine aBlkX ?_|refine cJ ?_)
    exact ig
end Go.Proofs.YtclpbhoekmecjaaGreatDoor
namespace Go.Proofs.YtclpbhoekmecjaaGreatDoor
open Go.RowKit
set_option linter.unusedVariables false
set_option maxRecDepth 100000
set_option maxHeartbeats 4000000
attribute [local irreducible] au Der At
theorem py (f:Nat→Bool) (i m:Nat) (hf:f i=true):∃rest,(List.range (i+1+m)).filter f=(List.range i).filter f++i :: rest∧∀k∈rest,i<k:=by
 induction m with
 | zero=>exact ⟨[],by rw [Nat.add_zero,List.range_succ,List.filter_append];simp [hf],fun k h=>by cases h⟩
 | succ m ih=>
  obtain ⟨rest,h1,h2⟩:=ih
  rw [← Nat.add_assoc,List.range_succ,List.filter_append,h1]
  refine ⟨rest++[i+1+m].filter f,by rw [List.append_assoc];rfl,fun k hk=>?_⟩
  rcases List.mem_append.1 hk with h|h
  ·exact h2 k h
  ·have:=List.mem_singleton.1 (List.mem_filter.1 h).1
   omega
theorem B9 {α:Type} (f:Nat→Bool) (g g':Nat→α) (i n:Nat) (hi:i<n) (hf:f i=true) (hg:∀k,k≠i→g' k=g k):((List.range n).filter f).map g'=(((List.range n).filter f).map g).set ((List.range i).filter f).length (g' i):=by
 obtain ⟨rest,h1,h2⟩:=py f i (n - (i+1)) hf
 rw [show i+1+(n - (i+1))=n by omega] at h1
 rw [h1,List.map_append,List.map_append,List.map_cons,List.map_cons,List.set_append_right _ _ (by rw [List.length_map];exact Nat.le_refl _),List.length_map,Nat.sub_self,List.set_cons_zero]
 congr 1
 ·refine List.map_congr_left fun k hk=>hg k ?_
  have:=List.mem_range.1 (List.mem_filter.1 hk).1
  omega
 ·congr 1
  refine List.map_congr_left fun k hk=>hg k ?_
  have:=h2 k hk
  omega
theorem E0 {α:Type} (f:Nat→Bool) (g:Nat→α) (i n:Nat) (hi:i<n) (hf:f i=true):∃h:((List.range i).filter f).length<(((List.range n).filter f).map g).length,(((List.range n).filter f).map g)[((List.range i).filter f).length]=g i:=by
 obtain ⟨rest,h1,h2⟩:=py f i (n - (i+1)) hf
 rw [show i+1+(n - (i+1))=n by omega] at h1
 have h3:(((List.range n).filter f).map g)[((List.range i).filter f).length]? = some (g i):=by
  rw [h1,List.map_append,List.getElem?_append_right (by rw [List.length_map];exact Nat.le_refl _),List.length_map,Nat.sub_self];rfl
 obtain ⟨h4,h5⟩:=List.getElem?_eq_some_iff.1 h3
 exact ⟨h4,h5⟩
def lQ (ps z:List Int) (k:Nat):List Int:=(List.range k).foldl (fun l (i:Nat)=>l.set (atI ps i).toNat (i:Int)) z
theorem pZ (ps z:List Int) (k:Nat):lQ ps z (k+1)=(lQ ps z k).set (atI ps k).toNat k:=by unfold lQ;rw [List.range_succ,List.foldl_append];rfl
theorem sN (ps z:List Int) (k:Nat):(lQ ps z k).length=z.length:=by
 induction k with
 | zero=>simp [lQ]
 | succ k ih=>rw [pZ,List.length_set,ih]
def jM (r a:Big) (ns:List Int) (row:List Bool) (lk:List Int) (i k:Nat):Nd:=
 ⟨(dZ a k).control,if decide (k<i) && fh ns (dZ a k).parent then -1 - kS r ns (dZ a k).parent else tg row true false (dZ a k).parent,ey lk (dZ a k).links⟩
def jL (r a:Big) (ns:List Int) (row:List Bool) (lk:List Int) (i:Nat):List Nd:=((List.range a.nodes.length).filter (tkF row true)).map (jM r a ns row lk i)
def tm (row:List Bool) (i:Nat):Nat:=((List.range i).filter (tkF row true)).length
theorem Al (row:List Bool) (i:Nat):tm row (i+1)=if tkF row true i=true then tm row i+1 else tm row i:=by
 unfold tm
 rw [List.range_succ,List.filter_append]
 by_cases h:tkF row true i=true <;> simp [h]
theorem xU (r a:Big) (ns:List Int) (row:List Bool) (lk:List Int):jL r a ns row lk 0=gH a row true false lk a.nodes.length:=by
 unfold jL gH
 refine List.map_congr_left fun k _=>?_
 unfold jM Fl
 simp
theorem sI (r a:Big) (ns:List Int) (row:List Bool) (lk:List Int) (i k:Nat) (h:k≠i):jM r a ns row lk (i+1) k=jM r a ns row lk i k:=by
 unfold jM
 rw [show decide (k<i+1)=decide (k<i) from decide_eq_decide.2 (by omega)]
theorem vL (r a:Big) (ns:List Int) (row:List Bool) (lk:List Int) (i:Nat) (h:tkF row true i=false∨fh ns (dZ a i).parent=false):jL r a ns row lk (i+1)=jL r a ns row lk i:=by
 unfold jL
 refine List.map_congr_left fun k hk=>?_
 by_cases e:k=i
 ·subst e
  rcases h with h|h
  ·rw [(List.mem_filter.1 hk).2] at h;cases h
  ·unfold jM;rw [h];simp
 ·exact sI r a ns row lk i k e
theorem zE (r a:Big) (ns:List Int) (row:List Bool) (lk:List Int) (i:Nat) (hi:i<a.nodes.length) (h1:tkF row true i=true) (h2:fh ns (dZ a i).parent=true):∃h:tm row i<(jL r a ns row lk i).length,jL r a ns row lk (i+1)=(jL r a ns row lk i).set (tm row i) ⟨(jL r a ns row lk i)[tm row i].control,-1 - kS r ns (dZ a i).parent,(jL r a ns row lk i)[tm row i].links⟩:=by
 obtain ⟨h,e⟩:=E0 (tkF row true) (jM r a ns row lk i) i a.nodes.length hi h1
 refine ⟨h,?_⟩
 have e2:=B9 (tkF row true) (jM r a ns row lk i) (jM r a ns row lk (i+1)) i a.nodes.length hi h1 (fun k hk=>sI r a ns row lk i k hk)
 refine e2.trans ?_
 unfold jL tm
 rw [e]
 congr 1
 unfold jM
 rw [h2];simp
theorem sk (r:Big) (ns:List Int) (p:Int) (h:0<(bA r (di ns p)).length):0≤kS r ns p∧kS r ns p<r.sites.length:=by
 have h1:kS r ns p∈bA r (di ns p):=og (by decide) (by omega)
 obtain ⟨i,h2,_,h3⟩:=bw.1 h1
 omega
def Fz (r a:Big) (m:Mat) (ps:List Int) (names:List ByteArray):Big:=
 ⟨r.sites.length,jL r a m.nodes (dY a m.nodes a.nodes.length) (lQ ps (List.replicate (ap a) 0) ps.length) a.nodes.length,[],0,names,[]⟩
theorem Cq {sig:List Ctl} {r a:Big} (m:Mat) (hbr:ay sig r=true) (hba:ay sig a=true) (hsite:∀i:Nat,i<a.nodes.length→mn a m.nodes i=true→fh m.nodes (dZ a i).parent=true→0<(bA r (di m.nodes (dZ a i).parent)).length) (ps:List Int) (names:List ByteArray) (hps:∀l∈ps,0≤l∧l<(ap a:Int)) (hnm:names.length=ps.length) (hpl:ps.length≤500):FnD Tryz.prog 136 [r.D,a.D,m.D,DI ps,DS names] (.d (Fz r a m ps names).D):=by
 have f1:=lv hba m
 have ha:=aN hba
 have hr:=aN hbr
 have hla:a.edges+(a.outer.length:Int)=(ap a:Nat):=by unfold ap;omega
 have hlb:ap a≤1000:=by unfold ap;omega
 have hup:=fun i h=>(iy hba i h).2
 have hnode:=eN hba
 have hnl:∀n∈a.nodes,n.links.length≤1000∧∀l∈n.links,0≤l∧l<(ap a:Int):=fun n hn=>by
  obtain ⟨k,hk,rfl⟩:=List.mem_iff_getElem.1 hn
  obtain ⟨_,_,_,c3,c4⟩:=hnode k hk
  refine ⟨by have:=(bD hba).7 k hk;omega,fun l hl=>?_⟩
  obtain ⟨j,rfl,hj⟩:=iw (c4 l hl)
  omega
 have hz:List.replicate (ap a) (D.i 0)=(lQ ps (List.replicate (ap a) 0) 0).map D.i:=by rw [show lQ ps (List.replicate (ap a) 0) 0=List.replicate (ap a) 0 from by simp [lQ],List.map_replicate]
 have hrrl:(dY a m.nodes a.nodes.length).length=a.nodes.length:=by unfold dY;simp
 have hrr:∀k,k<a.nodes.length→tkF (dY a m.nodes a.nodes.length) true k=mn a m.nodes k:=fun k hk=>by
  rw [sn _ _ _ (by omega)]
  simp [dY]
 unfold Fz
 revert f1 hrr hrrl
 generalize dY a m.nodes a.nodes.length=row
 intro f1 hrrl hrr
 refine ah Tryz.func136 (fun hw W0=>?_)
 refine kgo ?_
 refine bV (n:=ap a) (r:=.i 0) ?_ rfl rfl (congrArg some hla) (congrArg some hla) (hb:=by show 8 * ap a≤1000000000;omega)
 refine kgo ?_
 refine aq [3,4,5,6,7,10,11,12] (fun i:Nat=>i≤ps.length) (fun i=>ps.length - i) (fun i=>[(10027,.tk (.row 1 3 ((lQ ps (List.replicate (ap a) 0) i).map .i))),(13,.sy (.d (.i i)))]) 0 (Nat.zero_le _) (fun i hi=>?_)
 refine kgo ?_
 refine bt (fun h=>?_) (fun h=>?_)
 ·have hlt:i<ps.length:=by omega
  have hp:=hps _ (List.getElem_mem hlt)
  obtain ⟨j,hj⟩:=Int.eq_ofNat_of_zero_le hp.1
  have hpt:=sN ps (List.replicate (ap a) 0) i
  rw [List.length_replicate] at hpt
  have hjl:j<(lQ ps (List.replicate (ap a) 0) i).length:=by omega
  have hs:=pZ ps (List.replicate (ap a) 0) i
  rw [bZ ps i hlt,hj,Int.toNat_natCast] at hs
  refine kgo ?_
  refine bP (n:=j) ?_ rfl rfl rfl (congrArg some hj)
  refine kgo ?_
  rw [← hs]
  exact af (i+1) hlt (by omega)
 rw [show i=ps.length by omega]
 have hpt:=sN ps (List.replicate (ap a) 0) ps.length
 rw [List.length_replicate] at hpt
 revert hpt
 generalize lQ ps (List.replicate (ap a) 0) ps.length=lk
 intro hpt
 have f5:=vx a row true false lk (by omega) (by omega) hup (fun n hn=>(hnl n hn).1) (fun n hn l hl=>by rw [hpt];exact (hnl n hn).2 l hl)
 rw [← xU r a m.nodes row lk] at f5
 repeat (first|refine cFz 12 ?_|(refine b8 ?_;first|refine aP ?_|refine cF ?_|refine bh ?_|refine bo ?_|refine aU ?_|refine bl ?_|refine aY ?_|refine aF ?_|refine bk ?_)|(refine fo ?_;first|refine bX ?_|refine fQ ?_|refine cu ?_|refine cD ?_)|(refine fB ?_;first|refine eB (fun _=>?_)|refine cq ?_|refine cf ?_|refine bP ?_|refine cy ?_|refine cB ?_|refine ci ?_)|(refine fx ?_;first|refine b7 ?_|refine eV ?_|refine ca ?_|refine bS ?_|refine cj ?_|refine cm ?_|refine b9 ?_)|(refine fp ?_;first|refine fG ?_|refine fb ?_|refine ch ?_|refine bY ?_|refine fJ ?_|refine be ?_|refine bm ?_)|(refine cb ?_;first|refine bf ?_|refine cC ?_)|(refine ft ?_;first|refine co ?_|refine cr ?_|refine fq ?_)|(refine b6 ?_;first|refine cG ?_|refine bj ?_|refine aT ?_|refine aX ?_|refine aQ ?_|refine bp ?_)|(refine fS ?_;first|refine cd ?_|refine fj ?_|refine bg ?_|refine aR ?_|refine bc ?_)|(refine aO ?_;first|refine ax _ ?_|refine aW ?_|refine aG ?_|refine az ?_|refine aC ?_)|(refine fl ?_;first|refine cz ?_|refine bR ?_|refine cA ?_)|(refine gOp ?_;first|refine fw ?_|refine fy ?_|refine ba ?_|refine fu ?_|refine fE ?_|refine cg ?_|refine aS ?_|refine cE ?_|refine fF ?_|refine bV ?_|refine ct ?_|refine bd ?_|refine aE ?_|refine cw ?_|refine sNo ?_|refine fa ?_|refine aA ?_)|refine e9 ?_|refine ez ?_|refine gx ?_|refine bq ?_|refine cI ?_|refine bF ?_|refine fX ?_|refine gd ?_|refine fU ?_|refine eD ?_|refine cM ?_|refine bu ?_|refine aB ?_|refine br ?_|refine cL ?_|refine bG ?_|refine aBlkX ?_|refine cJ ?_)
 refine aq [5,6,7,10,11,14] (fun i:Nat=>i≤a.nodes.length) (fun i=>a.nodes.length - i) (fun i=>[(10051,.tk (.row 3 131 ((jL r a m.nodes row lk i).map Nd.D))),(15,.sy (.d (.i (tm row i)))),(16,.sy (.d (.i i)))]) 0 (Nat.zero_le _) (fun i hi=>?_)
 refine kgo ?_
 refine bt (fun h=>?_) (fun h=>?_)
 ·have hlt:i<a.nodes.length:=by omega
  have hltr:i<row.length:=by omega
  have hk:tkF row true i=row[i]:=by rw [sn row true i hltr];simp
  have hcs:=Al row i
  have hcl:tm row i≤i:=by unfold tm;exact Nat.le_trans (List.length_filter_le _ _) (by simp)
  refine kgo ?_
  refine cIf (fun h2=>?_) (fun h2=>?_)
  ·rw [Bool.not_eq_true'] at h2
   rw [h2] at hk
   rw [if_neg (by rw [hk];exact Bool.false_ne_true)] at hcs
   have hs:=vL r a m.nodes row lk i (.inl hk)
   refine kgo ?_
   rw [← hs,← hcs]
   exact af (i+1) hlt (by omega)
  ·rw [Bool.not_eq_false'] at h2
   rw [h2] at hk
   rw [if_pos hk] at hcs
   have hcd:D.i (tm row (i+1):Nat)=D.i ((tm row i:Nat)+1):=by rw [hcs];rfl
   have hnd:dZ a i=a.nodes[i]:=aw a i hlt
   have f6:=lh m.nodes (a.nodes[i]).parent
   refine kgo ?_
   refine cIf (fun h3=>?_) (fun h3=>?_)
   ·rw [← hnd] at h3
    obtain ⟨hcl2,hs⟩:=zE r a m.nodes row lk i hlt hk h3
    have hh:=hsite i hlt (by rw [← hrr i hlt];exact hk) h3
    have f7:=CR r m (dZ a i).parent (by omega) h3 hh
    rw [hnd] at f7 hs
    have hsr:=sk r m.nodes _ hh
    rw [hnd] at hsr
    refine kgo ?_
    refine ax (f:=Nd.D) (l:=jL r a m.nodes row lk i) ⟨(jL r a m.nodes row lk i)[tm row i].control,-1 - kS r m.nodes (a.nodes[i]).parent,(jL r a m.nodes row lk i)[tm row i].links⟩ ?_
    refine kgo ?_
    rw [← hs]
    exact af (i+1) hlt (by omega)
   ·rw [← hnd] at h3
    have hs:=vL r a m.nodes row lk i (.inr h3)
    refine kgo ?_
    rw [← hs]
    exact af (i+1) hlt (by omega)
 rw [show i=a.nodes.length by omega]
 refine bF (aB (aB (bG (bu ?_))))
 refine o7 10014 1 ?_
 refine o7 10014 4 ?_
 refine kgo ?_
 exact aD
end Go.Proofs.YtclpbhoekmecjaaGreatDoor
