/-
  Proved facts that the law leans on.
-/
import Derived.Test.YtclpbhoekmecjaaGreatDoorZU6
import Derived.Test.YtclpbhoekmecjaaGreatDoorZU7
import Derived.Test.YtclpbhoekmecjaaGreatDoorZU10
namespace Go.Proofs.YtclpbhoekmecjaaGreatDoor
open Go.RowKit
set_option linter.unusedVariables false
set_option maxRecDepth 100000
set_option maxHeartbeats 1000000
attribute [local irreducible] aq Der At
theorem lG (l:List Int) (n:Int):FnD Tryz.prog 191 [DI l,.i n] (.d (.b (fT l n))):=by
 refine ah Tryz.func191 (fun hw W0=>?_)
 have hl:=(wfM hw.1).1
 refine kgo ?_
 refine aj [0,1] (fun i:Nat=>i≤l.length∧(l.take i).any (fun x=>x == n)=false) (fun i=>l.length - i) (fun i=>[(5,.sy (.d (.i i)))]) 0 ⟨Nat.zero_le _,rfl⟩ (fun i hi=>?_)
 refine kgo ?_
 refine cIf (fun h=>?_) (fun h=>?_)
 ·have h:=of_decide_eq_true h
  have hlt:i<l.length:=by omega
  refine kgo ?_
  refine cIf (fun h2=>?_) (fun h2=>?_)
  ·have h2:=of_decide_eq_true h2
   refine kgo ?_
   rw [show fT l n=true from qt _ _ i hlt (by simp [h2])]
   exact ar
  ·have h2:=of_decide_eq_false h2
   refine kgo ?_
   exact af (i+1) ⟨hlt,by rw [eM _ l i hlt,hi.2];simpa using h2⟩ (by omega)
 ·have h:=of_decide_eq_false h
  refine kgo ?_
  rw [show fT l n=false from by unfold fT;rw [← hi.2,List.take_of_length_le (by omega)]]
  exact ar
theorem Bi (m:Int) (n:Nat) (hn:n≤1000) (hm : -1000≤m∧m≤1000):FnD Tryz.prog 300 [.i m,.i n] (.row 1 3 ((di m n).map .i)):=by
 refine ah Tryz.func300 (fun hw W0=>?_)
 refine kgo ?_
 refine aj [0,1] (fun i:Nat=>i≤n) (fun i=>n - i) (fun i=>[(5,.sy (.k 10007)),(10007,.tk (.row 1 3 ((di m i).map .i))),(6,.sy (.d (.i i)))]) 0 (Nat.zero_le _) (fun i hi=>?_)
 refine kgo ?_
 refine cIf (fun h=>?_) (fun h=>?_)
 ·have h:=of_decide_eq_true h
  have hs:(di m (i+1)).map D.i=(di m i).map D.i++[.i (-1 - m - i)]:=by rw [yt,List.map_append];rfl
  have hl:=mw m i
  refine kgo ?_
  exact af (i+1) (by omega) (by omega)
 ·have h:=of_decide_eq_false h
  refine kgo ?_
  rw [show i=n by omega]
  exact pE
theorem z6 (m:Int) (n:Nat) (hn:n≤1000) (hm : -1000≤m∧m≤1000):FnD Tryz.prog 201 [.i m,.i n] (.row 1 3 ((fg m n).map .i)):=by
 refine ah Tryz.func201 (fun hw W0=>?_)
 refine kgo ?_
 refine eX (fun i:Nat=>i≤n) (fun i=>n - i) (fun i=>[(0,.sy (.d (.i m))),(1,.sy (.d (.i n))),(5,.sy (.k 10007)),(10007,.tk (.row 1 3 ((fg m i).map .i))),(6,.sy (.d (.i i)))]) 0 (Nat.zero_le _) (fun i hi=>?_)
 refine kgo ?_
 refine cIf (fun h=>?_) (fun h=>?_)
 ·have h:=of_decide_eq_true h
  have hs:(fg m (i+1)).map D.i=(fg m i).map D.i++[.i (m+i)]:=by rw [yf,List.map_append];rfl
  have hl:=eU m i
  refine kgo ?_
  exact af (i+1) (by omega) (by omega)
 ·have h:=of_decide_eq_false h
  refine kgo ?_
  rw [show i=n by omega]
  exact pE
end Go.Proofs.YtclpbhoekmecjaaGreatDoor
namespace Go.Proofs.YtclpbhoekmecjaaGreatDoor
open Go.RowKit
set_option linter.unusedVariables false
set_option maxRecDepth 100000
set_option maxHeartbeats 1000000
attribute [local irreducible] aq Der At
theorem u9 {l:List ByteArray} {s:ByteArray} {i:Nat} (h:i<l.length) (he:(l[i].toList == s.toList)=true) (hn:∀j (h:j<i),((l[j]'(by omega)).toList == s.toList)=false):jU l s=i:=by
 unfold jU
 rw [if_pos (List.any_eq_true.2 ⟨_,List.getElem_mem h,he⟩)]
 have:l.findIdx (fun x=>x.toList == s.toList)=i:=(List.findIdx_eq h).2 ⟨he,fun j hj=>by simpa using hn j hj⟩
 rw [this]
theorem Bo {l:List ByteArray} {s:ByteArray} (hn:∀j (h:j<l.length),(l[j].toList == s.toList)=false):jU l s = -1:=by
 unfold jU
 rw [if_neg]
 rw [List.any_eq_true]
 rintro ⟨x,hx,he⟩
 obtain ⟨j,hj,rfl⟩:=List.mem_iff_getElem.1 hx
 rw [hn j hj] at he;cases he
theorem aL {sig:List Ctl} {b:Big} (h:aF sig b=true):(0≤b.roots∧b.roots≤4)∧b.nodes.length≤8∧b.sites.length≤4∧(0≤b.edges∧b.edges≤8)∧b.outer.length≤16∧b.inner.length≤16:=by
 obtain ⟨_,h1,h2,h3,h4,h5,h6⟩:=fd (dV h).1
 have:=gj h6
 rw [List.length_map] at this
 exact ⟨bO h1,h2,h3,bO h4,gj h5,this⟩
theorem d9 (f:Nat→Bool) (n:Nat):(idxOf f n).length≤n:=by
 unfold idxOf
 rw [List.length_map]
 exact Nat.le_trans (List.length_filter_le _ _) (by simp)
theorem m8 {sig:List Ctl} {a:Big} (hB:aF sig a=true) (m:Mat) (p0:Int) (hp:p0<a.nodes.length):FnD Tryz.prog 193 [a.D,m.D,.i p0] (.d (.b (iF a m.nodes p0))):=by
 refine ah Tryz.func193 (fun hw W0=>?_)
 refine kgo ?_
 refine eX (fun p:Int=>p<a.nodes.length∧iF a m.nodes p0=iF a m.nodes p) (fun p=>(p+1).toNat) (fun p=>[(2,.sy (.d (.i p))),(3,.sy (.bx 10003 0)),(10003,.tk (.bx (flat a.D))),(4,.sy (.bx 10004 0)),(10004,.tk (.bx (flat m.D)))]) p0 ⟨hp,rfl⟩ (fun p hi=>?_)
 refine kgo ?_
 refine cIf (fun h=>?_) (fun h=>?_)
 ·have h:=of_decide_eq_true h
  obtain ⟨k,rfl⟩:=Int.eq_ofNat_of_zero_le h
  have hk:k<a.nodes.length:=by omega
  have hs:iF a m.nodes k=(fT m.nodes k || iF a m.nodes (a.nodes[k]).parent):=fe hB _ k hk
  have hu:=iG hB k hk
  have f1:=lG m.nodes k
  refine kgo ?_
  refine cIf (fun h2=>?_) (fun h2=>?_)
  ·refine kgo ?_
   rw [hi.2,hs,h2]
   exact ar
  ·refine kgo ?_
   exact af (a.nodes[k]).parent ⟨by omega,by rw [hi.2,hs,h2];rfl⟩ (by omega)
 ·have h:=of_decide_eq_false h
  refine kgo ?_
  rw [hi.2,show iF a m.nodes p=false from eO _ _ (by omega)]
  exact ar
theorem EU {sig:List Ctl} {b:Big} (hB:aF sig b=true) (p0:Int) (hp:p0<b.nodes.length):FnD Tryz.prog 236 [b.D,.i p0] (.d (.i (A0 b p0))):=by
 refine ah Tryz.func236 (fun hw W0=>?_)
 refine kgo ?_
 refine eX (fun p:Int=>p<b.nodes.length∧A0 b p0=A0 b p) (fun p=>(p+1).toNat) (fun p=>[(1,.sy (.d (.i p))),(2,.sy (.bx 10002 0)),(10002,.tk (.bx (flat b.D)))]) p0 ⟨hp,rfl⟩ (fun p hi=>?_)
 refine kgo ?_
 refine cIf (fun h=>?_) (fun h=>?_)
 ·have h:=of_decide_eq_true h
  obtain ⟨k,rfl⟩:=Int.eq_ofNat_of_zero_le h
  have hk:k<b.nodes.length:=by omega
  have hu:=iG hB k hk
  refine kgo ?_
  exact af (b.nodes[k]).parent ⟨by omega,by rw [hi.2,pr hB k hk]⟩ (by omega)
 ·have h:=of_decide_eq_false h
  refine kgo ?_
  rw [hi.2,nU b (by omega)]
  exact ar
theorem BI {sig:List Ctl} {b:Big} (hB:aF sig b=true) (r:Int):FnD Tryz.prog 207 [b.D,.i r] (.row 1 3 ((pJ b r).map .i)):=by
 have hn:=(aL hB).2.1
 refine ah Tryz.func207 (fun hw W0=>?_)
 refine kgo ?_
 refine eX (fun i:Nat=>i≤b.nodes.length) (fun i=>b.nodes.length - i) (fun i=>[(1,.sy (.d (.i r))),(2,.sy (.bx 10002 0)),(10002,.tk (.bx (flat b.D))),(5,.sy (.k 10007)),(10007,.tk (.row 1 3 ((idxOf (i7 b r) i).map .i))),(6,.sy (.d (.i i)))]) 0 (Nat.zero_le _) (fun i hi=>?_)
 refine kgo ?_
 refine cIf (fun h=>?_) (fun h=>?_)
 ·have h:=of_decide_eq_true h
  have hlt:i<b.nodes.length:=by omega
  have hu:=iG hB i hlt
  have f1:=EU hB (b.nodes[i]).parent (by omega)
  have hf:=pB b r i hlt
  have hl:=d9 (i7 b r) i
  refine kgo ?_
  refine cIf (fun h2=>?_) (fun h2=>?_)
  ·have hs:(idxOf (i7 b r) (i+1)).map D.i=(idxOf (i7 b r) i).map D.i++[.i i]:=by rw [df (hf.trans h2),List.map_append];rfl
   refine kgo ?_
   exact af (i+1) (by omega) (by omega)
  ·have hs:(idxOf (i7 b r) (i+1)).map D.i=(idxOf (i7 b r) i).map D.i:=by rw [d7 (hf.trans h2)]
   refine kgo ?_
   exact af (i+1) (by omega) (by omega)
 ·have h:=of_decide_eq_false h
  refine kgo ?_
  rw [show i=b.nodes.length by omega]
  exact pE
theorem xj (l:List ByteArray) (s:ByteArray):FnD Tryz.prog 200 [DS l,.s s] (.d (.i (jU l s))):=by
 refine ah Tryz.func200 (fun hw W0=>?_)
 have hl:=(wfM hw.1).1
 refine kgo ?_
 refine eX (fun i:Nat=>i≤l.length∧∀j (h:j<l.length),j<i→(l[j].toList == s.toList)=false) (fun i=>l.length - i) (fun i=>[(0,.sy (.d (DS l))),(1,.sy (.d (.s s))),(5,.sy (.d (.i i)))]) 0 ⟨Nat.zero_le _,fun j _ h=>absurd h (Nat.not_lt_zero _)⟩ (fun i hi=>?_)
 refine kgo ?_
 refine cIf (fun h=>?_) (fun h=>?_)
 ·have h:=of_decide_eq_true h
  have hlt:i<l.length:=by omega
  refine kgo ?_
  refine cIf (fun h2=>?_) (fun h2=>?_)
  ·refine kgo ?_
   rw [u9 hlt h2 (fun j hj=>hi.2 j (by omega) hj)]
   exact ar
  ·refine kgo ?_
   exact af (i+1) ⟨hlt,fun j h1 h3=>by
    rcases Nat.lt_or_ge j i with h4|h4
    ·exact hi.2 j h1 h4
    ·rw [show l[j]=l[i] from by congr 1;omega];exact h2⟩ (by omega)
 ·have h:=of_decide_eq_false h
  refine kgo ?_
  rw [Bo (fun j h1=>hi.2 j h1 (by omega))]
  exact ar
end Go.Proofs.YtclpbhoekmecjaaGreatDoor
namespace Go.Proofs.YtclpbhoekmecjaaGreatDoor
open Go.RowKit
set_option linter.unusedVariables false
set_option maxRecDepth 100000
set_option maxHeartbeats 1000000
attribute [local irreducible] aq Der At
theorem zA {sig:List Ctl} {a:Big} (hB:aF sig a=true) (p0:Int) (hp:p0<a.nodes.length):FnD Tryz.prog 133 [.l 3 (sig.map Ctl.D),a.D,.i p0] (.d (.b (k9 sig a p0))):=by
 refine ah Tryz.func133 (fun hw W0=>?_)
 refine kgo ?_
 refine eX (fun p:Int=>p<a.nodes.length∧k9 sig a p0=k9 sig a p) (fun p=>(p+1).toNat) (fun p=>[(0,.sy (.d (.l 3 (sig.map Ctl.D)))),(2,.sy (.d (.i p))),(4,.sy (.bx 10004 0)),(10004,.tk (.bx (flat a.D)))]) p0 ⟨hp,rfl⟩ (fun p hi=>?_)
 refine kgo ?_
 refine cIf (fun h=>?_) (fun h=>?_)
 ·have h:=of_decide_eq_true h
  obtain ⟨k,rfl⟩:=Int.eq_ofNat_of_zero_le h
  have hk:k<a.nodes.length:=by omega
  have hs:k9 sig a k=(sg sig a k || k9 sig a (a.nodes[k]).parent):=fe hB _ k hk
  have hu:=iG hB k hk
  obtain ⟨c0,c1,_⟩:=eS hB k hk
  obtain ⟨j,hj⟩:=Int.eq_ofNat_of_zero_le c0
  have hjl:j<sig.length:=by omega
  have hpf:sg sig a k=decide ((sig[j]).kind=1):=by unfold sg;rw [av a k hk,hj,jE sig j hjl]
  refine kgo ?_
  refine ex (n:=j) (fun _=>?_) rfl rfl (congrArg some hj)
  refine kgo ?_
  refine cIf (fun h2=>?_) (fun h2=>?_)
  ·refine kgo ?_
   rw [hi.2,hs,hpf,h2]
   exact ar
  ·refine kgo ?_
   exact af (a.nodes[k]).parent ⟨by omega,by rw [hi.2,hs,hpf,h2];rfl⟩ (by omega)
 ·have h:=of_decide_eq_false h
  refine kgo ?_
  rw [hi.2,show k9 sig a p=false from eO _ _ (by omega)]
  exact ar
theorem yA {sig:List Ctl} {a:Big} (hB:aF sig a=true) (m:Mat) (hr:∀p∈m.roots,p<(a.nodes.length:Int)):FnD Tryz.prog 93 [.l 3 (sig.map Ctl.D),a.D,m.D] (.d (.b (ku sig a m.roots))):=by
 refine ah Tryz.func93 (fun hw W0=>?_)
 have hl:=(wfM hw.2.2.1.2.1).1
 refine kgo ?_
 refine eX (fun i:Nat=>i≤m.roots.length∧(m.roots.take i).all (fun p=>!k9 sig a p)=true) (fun i=>m.roots.length - i) (fun i=>[(0,.sy (.d (.l 3 (sig.map Ctl.D)))),(4,.sy (.bx 10004 0)),(10004,.tk (.bx (flat a.D))),(5,.sy (.bx 10005 0)),(10005,.tk (.bx (flat m.D))),(7,.sy (.d (.i i)))]) 0 ⟨Nat.zero_le _,rfl⟩ (fun i hi=>?_)
 refine kgo ?_
 refine cIf (fun h=>?_) (fun h=>?_)
 ·have h:=of_decide_eq_true h
  have hlt:i<m.roots.length:=by omega
  have f1:=zA hB m.roots[i] (hr _ (List.getElem_mem hlt))
  refine kgo ?_
  refine cIf (fun h2=>?_) (fun h2=>?_)
  ·refine kgo ?_
   rw [show ku sig a m.roots=false from List.all_eq_false.2 ⟨_,List.getElem_mem hlt,by simp [h2]⟩]
   exact ar
  ·refine kgo ?_
   exact af (i+1) ⟨hlt,by rw [List.take_succ_eq_append_getElem hlt,List.all_append,hi.2];simp [h2]⟩ (by omega)
 ·have h:=of_decide_eq_false h
  refine kgo ?_
  rw [show ku sig a m.roots=true from by rw [← hi.2,List.take_of_length_le (by omega)];rfl]
  exact ar
def ez (a:Big) (ns:List Int) (n:Nat):List Bool:=(List.range n).map (nr a ns)
theorem vj (a:Big) (ns:List Int) (n:Nat):ez a ns (n+1)=ez a ns n++[nr a ns n]:=by unfold ez;rw [List.range_succ,List.map_append];rfl
theorem l9 {sig:List Ctl} {a:Big} (hB:aF sig a=true) (m:Mat):FnD Tryz.prog 197 [a.D,m.D] (.d (.l 1 ((ez a m.nodes a.nodes.length).map .b))):=by
 have hn:=(aL hB).2.1
 refine ah Tryz.func197 (fun hw W0=>?_)
 refine kgo ?_
 refine eX (fun i:Nat=>i≤a.nodes.length) (fun i=>a.nodes.length - i) (fun i=>[(2,.sy (.bx 10002 0)),(10002,.tk (.bx (flat a.D))),(3,.sy (.bx 10003 0)),(10003,.tk (.bx (flat m.D))),(5,.sy (.k 10007)),(10007,.tk (.row 1 4 ((ez a m.nodes i).map .b))),(6,.sy (.d (.i i)))]) 0 (Nat.zero_le _) (fun i hi=>?_)
 refine kgo ?_
 refine cIf (fun h=>?_) (fun h=>?_)
 ·have h:=of_decide_eq_true h
  have hlt:i<a.nodes.length:=by omega
  have f1:=lG m.nodes i
  have f2:=m8 hB m i (by omega)
  have hs:(ez a m.nodes (i+1)).map D.b=(ez a m.nodes i).map D.b++[.b (iF a m.nodes i && !fT m.nodes i)]:=by rw [vj,List.map_append];rfl
  have hl:(ez a m.nodes i).length=i:=by simp [ez]
  cases hc:fT m.nodes i
  ·rw [hc] at hs f1
   simp only [Bool.not_false,Bool.and_true] at hs
   refine kgo ?_
   exact af (i+1) (by omega) (by omega)
  ·rw [hc] at hs f1
   simp only [Bool.not_true,Bool.and_false] at hs
   refine kgo ?_
   exact af (i+1) (by omega) (by omega)
 ·have h:=of_decide_eq_false h
  refine kgo ?_
  rw [show i=a.nodes.length by omega]
  exact IB
end Go.Proofs.YtclpbhoekmecjaaGreatDoor
namespace Go.Proofs.YtclpbhoekmecjaaGreatDoor
open Go.RowKit
set_option linter.unusedVariables false
set_option maxRecDepth 100000
set_option maxHeartbeats 1000000
attribute [local irreducible] aq Der At
theorem qb (p by':Int) (ps:List Int) (hok:D3 by' ps p) (hb : -1000≤by'∧by'≤1000):FnD Tryz.prog 324 [.i p,.i by',DI ps] (.d (.i (upF by' ps p))):=by
 refine ah Tryz.func324 (fun hw W0=>?_)
 have h1:=hw.1
 have h2:=(wfM hw.2.2.1).1
 unfold Wf I64 at h1
 unfold D3 at hok
 refine kgo ?_
 refine cIf (fun h=>?_) (fun h=>?_)
 ·have h:=of_decide_eq_true h
  refine kgo ?_
  rw [show upF by' ps p=atI ps (-1 - p) from if_pos h]
  exact ar
 ·have h:=of_decide_eq_false h
  refine kgo ?_
  rw [show upF by' ps p=p+by' from if_neg h]
  exact ar
theorem mc (b:Big) (by':Int) (ps:List Int) (hl:b.sites.length≤1000) (hok:∀p∈b.sites,D3 by' ps p) (hb : -1000≤by'∧by'≤1000):FnD Tryz.prog 302 [b.D,.i by',DI ps] (.row 1 3 ((dJ by' ps b.sites).map .i)):=by
 refine ah Tryz.func302 (fun hw W0=>?_)
 refine kgo ?_
 refine eX (fun i:Nat=>i≤b.sites.length) (fun i=>b.sites.length - i) (fun i=>[(1,.sy (.d (.i by'))),(2,.sy (.d (DI ps))),(3,.sy (.bx 10003 0)),(10003,.tk (.bx (flat b.D))),(7,.sy (.k 10009)),(10009,.tk (.row 1 3 ((dJ by' ps (b.sites.take i)).map .i))),(8,.sy (.d (.i i)))]) 0 (Nat.zero_le _) (fun i hi=>?_)
 refine kgo ?_
 refine cIf (fun h=>?_) (fun h=>?_)
 ·have h:=of_decide_eq_true h
  have hlt:i<b.sites.length:=by omega
  have f1:=qb b.sites[i] by' ps (hok _ (List.getElem_mem hlt)) hb
  have hs:(dJ by' ps (b.sites.take (i+1))).map D.i=(dJ by' ps (b.sites.take i)).map D.i++[.i (upF by' ps b.sites[i])]:=by unfold dJ;rw [List.take_succ_eq_append_getElem hlt,List.map_append,List.map_append];rfl
  have hq:(dJ by' ps (b.sites.take i)).length≤1000:=by unfold dJ;rw [List.length_map,List.length_take];omega
  refine kgo ?_
  exact af (i+1) hlt (by omega)
 ·have h:=of_decide_eq_false h
  refine kgo ?_
  rw [List.take_of_length_le (by omega)]
  exact pE
theorem ot (xs:List ByteArray) (m:Int) (ys:List ByteArray) (hl:xs.length≤1000) (hy:ys.length≤1000) (hm:0≤m∧m≤1000):FnD Tryz.prog 265 [DS xs,.i m,DS ys] (.row 1 3 ((dG xs m ys).map .i)):=by
 refine ah Tryz.func265 (fun hw W0=>?_)
 refine kgo ?_
 refine eX (fun i:Nat=>i≤xs.length) (fun i=>xs.length - i) (fun i=>[(0,.sy (.d (DS xs))),(1,.sy (.d (.i m))),(2,.sy (.d (DS ys))),(7,.sy (.k 10009)),(10009,.tk (.row 1 3 ((dG (xs.take i) m ys).map .i))),(8,.sy (.d (.i i)))]) 0 (Nat.zero_le _) (fun i hi=>?_)
 refine kgo ?_
 refine cIf (fun h=>?_) (fun h=>?_)
 ·have h:=of_decide_eq_true h
  have hlt:i<xs.length:=by omega
  have f1:=xj ys xs[i]
  have hr:=mK ys xs[i]
  have hs:(dG (xs.take (i+1)) m ys).map D.i=(dG (xs.take i) m ys).map D.i++[.i (m+jU ys xs[i])]:=by rw [vy m ys i hlt,List.map_append];rfl
  have hq:(dG (xs.take i) m ys).length≤1000:=by unfold dG;rw [List.length_map,List.length_take];omega
  refine kgo ?_
  exact af (i+1) hlt (by omega)
 ·have h:=of_decide_eq_false h
  refine kgo ?_
  rw [List.take_of_length_le (by omega)]
  exact pE
theorem mf (b:Big) (by':Int) (ps ks:List Int) (hb : -1000≤by'∧by'≤1000) (hl:b.nodes.length≤1000) (hll:∀n∈b.nodes,n.links.length≤1000) (hok:∀n∈b.nodes,D3 by' ps n.parent) (hlk:∀n∈b.nodes,∀l∈n.links,0≤l∧l<(ks.length:Int)):FnD Tryz.prog 301 [b.D,.i by',DI ps,DI ks] (.row 3 131 ((cY by' ps ks b.nodes).map Nd.D)):=by
 refine ah Tryz.func301 (fun hw W0=>?_)
 refine kgo ?_
 refine eX (fun i:Nat=>i≤b.nodes.length) (fun i=>b.nodes.length - i) (fun i=>[(1,.sy (.d (.i by'))),(2,.sy (.d (DI ps))),(3,.sy (.d (DI ks))),(4,.sy (.bx 10004 0)),(10004,.tk (.bx (flat b.D))),(9,.sy (.k 10013)),(10013,.tk (.row 3 131 ((cY by' ps ks (b.nodes.take i)).map Nd.D))),(10,.sy (.d (.i i)))]) 0 (Nat.zero_le _) (fun i hi=>?_)
 refine kgo ?_
 refine cIf (fun h=>?_) (fun h=>?_)
 ·have h:=of_decide_eq_true h
  have hlt:i<b.nodes.length:=by omega
  have hm:=List.getElem_mem hlt
  have hq:(cY by' ps ks (b.nodes.take i)).length≤1000:=by unfold cY;rw [List.length_map,List.length_take];omega
  have hL:=hll _ hm
  have hK:=hlk _ hm
  refine kgo ?_
  refine eX (fun j:Nat=>j≤(b.nodes[i]).links.length) (fun j=>(b.nodes[i]).links.length - j) (fun j=>[(1,.sy (.d (.i by'))),(2,.sy (.d (DI ps))),(3,.sy (.d (DI ks))),(4,.sy (.bx 10004 0)),(10004,.tk (.bx (flat b.D))),(9,.sy (.k 10013)),(10013,.tk (.row 3 131 ((cY by' ps ks (b.nodes.take i)).map Nd.D))),(10,.sy (.d (.i i))),(11,.sy (.k 10021)),(10021,.tk (.row 1 3 ((eP ks ((b.nodes[i]).links.take j)).map .i))),(12,.sy (.d (.i j)))]) 0 (Nat.zero_le _) (fun j hj=>?_)
  refine kgo ?_
  refine cIf (fun h2=>?_) (fun h2=>?_)
  ·have h2:=of_decide_eq_true h2
   have hjl:j<(b.nodes[i]).links.length:=by omega
   have hk2:=hK _ (List.getElem_mem hjl)
   have hs:(eP ks ((b.nodes[i]).links.take (j+1))).map D.i=(eP ks ((b.nodes[i]).links.take j)).map D.i++[.i (atI ks (b.nodes[i]).links[j])]:=by rw [oD ks j hjl,List.map_append];rfl
   have hq2:(eP ks ((b.nodes[i]).links.take j)).length≤1000:=by unfold eP;rw [List.length_map,List.length_take];omega
   refine kgo ?_
   exact af (j+1) hjl (by omega)
  ·have h2:=of_decide_eq_false h2
   rw [show (b.nodes[i]).links.take j=(b.nodes[i]).links from List.take_of_length_le (by omega)]
   have f1:=qb (b.nodes[i]).parent by' ps (hok _ hm) hb
   have hs:(cY by' ps ks (b.nodes.take (i+1))).map Nd.D=(cY by' ps ks (b.nodes.take i)).map Nd.D++[Nd.D ⟨(b.nodes[i]).control,upF by' ps (b.nodes[i]).parent,eP ks (b.nodes[i]).links⟩]:=by rw [wg by' ps ks i hlt,List.map_append];rfl
   repeat (first|(refine cI ?_;first|refine aU ?_|refine cb ?_|refine bp ?_|refine bk ?_|refine aS ?_|refine be ?_|refine bc ?_|refine aB ?_|refine bm ?_|refine bo ?_)|(refine fQ ?_;first|refine b6 ?_|refine fH ?_|refine cm ?_|refine cE ?_)|(refine fB ?_;first|refine ex (fun _=>?_)|refine cr ?_|refine ci ?_|refine bL ?_|refine ch ?_|refine cd ?_|refine ca ?_)|(refine fJ ?_;first|refine cF ?_|refine fb ?_|refine cu ?_|refine bS ?_|refine ck ?_|refine cz ?_|refine ct ?_)|(refine fE ?_;first|refine fM ?_|refine fq ?_|refine cj ?_|refine bY ?_|refine fF ?_|refine bg ?_|refine bf ?_)|(refine co ?_;first|refine br ?_|refine cH ?_)|(refine fK ?_;first|refine cB ?_|refine cy ?_|refine fL ?_)|(refine b9 ?_;first|refine cG ?_|refine aY ?_|refine aR ?_|refine aZ ?_|refine aW ?_|refine bj ?_)|(refine fC ?_;first|refine cf ?_|refine fA ?_|refine bh ?_|refine aT ?_|refine bq ?_)|(refine aN ?_;first|refine aw _ ?_|refine ba ?_|refine aC ?_|refine az ?_|refine aD ?_)|(refine fG ?_;first|refine cC ?_|refine bR ?_|refine cA ?_)|(refine gOp ?_;first|refine fI ?_|refine fP ?_|refine bl ?_|refine fO ?_|refine fN ?_|refine cD ?_|refine aV ?_|refine cw ?_|refine fR ?_|refine bV ?_|refine cq ?_|refine aX ?_|refine sFz 64 ?_|refine aA ?_|refine cg ?_|refine sNo ?_|refine fa ?_|refine ay ?_)|refine e9 ?_|refine dD ?_|refine fU ?_|refine bu ?_|refine bU ?_|refine bE ?_|refine fX ?_|refine fy ?_|refine fp ?_|refine dP ?_|refine cL ?_|refine aM ?_|refine ax ?_|refine bt ?_|refine cK ?_|refine bF ?_|refine cM ?_|refine cN ?_|refine sFz 64 ?_)
   exact af (i+1) hlt (by omega)
 ·have h:=of_decide_eq_false h
  refine kgo ?_
  rw [List.take_of_length_le (by omega)]
  exact pE
theorem n8 (b:Big) (ps:List Int) (hok:∀x∈b.inner,0≤x.link∧x.link<(ps.length:Int)) (hl:b.inner.length≤1000):FnD Tryz.prog 303 [b.D,DI ps] (.row 2 133 ((dI ps b.inner).map Wr.D)):=by
 refine ah Tryz.func303 (fun hw W0=>?_)
 refine kgo ?_
 refine eX (fun i:Nat=>i≤b.inner.length) (fun i=>b.inner.length - i) (fun i=>[(1,.sy (.d (DI ps))),(2,.sy (.bx 10002 0)),(10002,.tk (.bx (flat b.D))),(5,.sy (.k 10007)),(10007,.tk (.row 2 133 ((dI ps (b.inner.take i)).map Wr.D))),(6,.sy (.d (.i i)))]) 0 (Nat.zero_le _) (fun i hi=>?_)
 refine kgo ?_
 refine cIf (fun h=>?_) (fun h=>?_)
 ·have h:=of_decide_eq_true h
  have hlt:i<b.inner.length:=by omega
  have hk:=hok _ (List.getElem_mem hlt)
  have hb:(dI ps (b.inner.take i)).length≤1000:=by unfold dI;rw [List.length_map,List.length_take];omega
  have hs:(dI ps (b.inner.take (i+1))).map Wr.D=(dI ps (b.inner.take i)).map Wr.D++[Wr.D ⟨(b.inner[i]).name,atI ps (b.inner[i]).link⟩]:=by rw [uA ps i hlt,List.map_append];rfl
  refine kgo ?_
  exact af (i+1) hlt (by omega)
 ·have h:=of_decide_eq_false h
  refine kgo ?_
  rw [List.take_of_length_le (by omega)]
  exact pE
theorem vH (l:List Int) (hl:l.length≤1000):FnD Tryz.prog 208 [DI l] (.row 1 3 (l.map .i)):=by
 refine ah Tryz.func208 (fun hw W0=>?_)
 refine kgo ?_
 exact pE
theorem kq (b:Big) (hl:b.inner.length≤1000):FnD Tryz.prog 181 [b.D] (.d (DS (b.inner.map Wr.name))):=by
 refine ah Tryz.func181 (fun hw W0=>?_)
 refine kgo ?_
 refine eX (fun i:Nat=>i≤b.inner.length) (fun i=>b.inner.length - i) (fun i=>[(1,.sy (.bx 10001 0)),(10001,.tk (.bx (flat b.D))),(3,.sy (.k 10005)),(10005,.tk (.row 1 9 (((b.inner.take i).map Wr.name).map .s))),(4,.sy (.d (.i i)))]) 0 (Nat.zero_le _) (fun i hi=>?_)
 refine kgo ?_
 refine cIf (fun h=>?_) (fun h=>?_)
 ·have h:=of_decide_eq_true h
  have hlt:i<b.inner.length:=by omega
  have hs:((b.inner.take (i+1)).map Wr.name).map D.s=((b.inner.take i).map Wr.name).map D.s++[.s (b.inner[i]).name]:=by rw [List.take_succ_eq_append_getElem hlt,List.map_append,List.map_append];rfl
  refine kgo ?_
  exact af (i+1) hlt (by omega)
 ·have h:=of_decide_eq_false h
  refine kgo ?_
  rw [List.take_of_length_le (by omega)]
  exact IB
theorem tY (xs ys:List ByteArray):FnD Tryz.prog 262 [DS xs,DS ys] (.d (.b (iP xs ys))):=by
 refine ah Tryz.func262 (fun hw W0=>?_)
 have hl:=(wfM hw.1).1
 refine kgo ?_
 refine eX (fun i:Nat=>i≤xs.length∧(xs.take i).all (fun s=>!ys.any fun x=>x.toList == s.toList)=true) (fun i=>xs.length - i) (fun i=>[(0,.sy (.d (DS xs))),(1,.sy (.d (DS ys))),(5,.sy (.d (.i i)))]) 0 ⟨Nat.zero_le _,rfl⟩ (fun i hi=>?_)
 refine kgo ?_
 refine cIf (fun h=>?_) (fun h=>?_)
 ·have h:=of_decide_eq_true h
  have hlt:i<xs.length:=by omega
  have f1:=xj ys xs[i]
  have hp:=rD ys xs[i]
  refine kgo ?_
  refine cIf (fun h2=>?_) (fun h2=>?_)
  ·refine kgo ?_
   rw [show iP xs ys=false from List.all_eq_false.2 ⟨_,List.getElem_mem hlt,by rw [← hp,h2];simp⟩]
   exact ar
  ·refine kgo ?_
   exact af (i+1) ⟨hlt,by rw [List.take_succ_eq_append_getElem hlt,List.all_append,hi.2,List.all_cons,← hp,h2];rfl⟩ (by omega)
 ·have h:=of_decide_eq_false h
  refine kgo ?_
  rw [show iP xs ys=true from by rw [← hi.2,List.take_of_length_le (by omega)];rfl]
  exact ar
end Go.Proofs.YtclpbhoekmecjaaGreatDoor
namespace Go.Proofs.YtclpbhoekmecjaaGreatDoor
open Go.RowKit
set_option linter.unusedVariables false
set_option linter.unusedSimpArgs false
set_option maxRecDepth 100000
set_option maxHeartbeats 4000000
theorem IW {P:Program} {ops:Array Oper} {W0:b7} {N:Nat} {Fin:Us→Env→Prop} {os:List Oper} {us:Us} {pk fk:List Nat} {σ:Env} {d ty:Nat} {pos:String} {after:Array Edge} {op:Op} {j d':Nat} {want:Bool} (h:Der P ops W0 N Fin os (us++[((d :: [d'])++pk,([d])++fk)]) [] [] ((d,.sy (.v undef)) :: σ)) (hj:(ops[j]?).bind (·.dst)=some d':=by rfl) (hu:ai σ d'=some (.sy (.v undef)):=by rfl) (hN:Nat.blt d N=true:=by rfl) (hs:aG σ d=true:=by rfl):Der P ops W0 N Fin (⟨some d,op,ty,pos,after,some (j,want)⟩ :: os) us pk fk σ:=by
 refine ⟨d :: [d'],[(d,.sy (.v undef))],fun σ' a w hk hh=>.inr ⟨?_,?_⟩,h⟩
 ·obtain ⟨c,hc⟩:=hh
  obtain ⟨v,h1,h2⟩:=hc.tmp d' _ ((hk d' (by simp)).trans hu)
  have:v=undef:=h2
  subst this
  show (yielded ops a.tmps j == some want)=false
  unfold yielded
  rw [hj]
  simp only [Option.bind_some,h1]
  rfl
 ·obtain ⟨c,hc⟩:=hh
  exact ⟨c,hc.put (Nat.blt_eq.mp hN) rfl (by rw [hk d (by simp)];exact jb hs)⟩
attribute [local irreducible] aq Der At
theorem o9 (n lo hi:Int):FnD Tryz.prog 86 [.i n,.i lo,.i hi] (.d (.b (inR n lo hi))):=by
 refine ah Tryz.func86 (fun hw W0=>?_)
 refine kgo ?_
 cases h:decide (lo≤n)
 ·refine kgo ?_
  rw [show inR n lo hi=false from by unfold inR;rw [h];rfl]
  exact ar
 ·refine kgo ?_
  rw [show inR n lo hi=decide (n≤hi) from by unfold inR;rw [h];rfl]
  exact ar
attribute [local irreducible] inR dE cZ lr dw du dU fV gO se
theorem wS (b:Big) (l:Int) (he:0≤b.edges∧b.edges≤8) (ho:b.outer.length≤1000):FnD Tryz.prog 184 [b.D,.i l] (.d (.b (dU b l))):=by
 have f1:=o9 l 0 (b.edges+b.outer.length - 1)
 rw [show dU b l=inR l 0 (b.edges+b.outer.length - 1) by unfold dU;rfl]
 refine ah Tryz.func184 (fun hw W0=>?_)
 refine kgo ?_
 exact ar
theorem tV (sig:List Ctl) (b:Big) (p below:Int) (hr:0≤b.roots∧b.roots≤4) (hb:below≤b.nodes.length) (hC:Be sig b below):FnD Tryz.prog 183 [.l 3 (sig.map Ctl.D),b.D,.i p,.i below] (.d (.b (du sig b p below))):=by
 refine ah Tryz.func183 (fun hw W0=>?_)
 have hp:I64 p:=hw.2.2.1
 refine kgo ?_
 refine aO (fun h=>?_) (fun h=>?_)
 ·have f1:=o9 (-1 - p) 0 (b.roots - 1)
  rw [← uC h hp]
  unfold I64 at hp
  refine kgo ?_
  exact ar
 rw [show du sig b p below=(decide (p<below) && !(decide ((se sig (ew b p).control).kind=2))) by unfold du;exact if_neg (by omega)]
 refine kgo ?_
 cases h2:decide (p<below)
 ·refine kgo ?_
  exact ar
 have h3:=of_decide_eq_true h2
 obtain ⟨n,rfl⟩:=Int.eq_ofNat_of_zero_le (show 0≤p by omega)
 have hn:n<b.nodes.length:=by omega
 obtain ⟨c0,c1⟩:=hC n hn h3
 obtain ⟨m,hm⟩:=Int.eq_ofNat_of_zero_le c0
 have hml:m<sig.length:=by omega
 rw [av b n hn,hm,jE sig m hml]
 refine kgo ?_
 refine ex (n:=m) (fun _=>?_) rfl rfl (congrArg some hm)
 refine kgo ?_
 exact ar
theorem CA (sig:List Ctl) (b:Big) (i:Nat) (hr:0≤b.roots∧b.roots≤4) (he:0≤b.edges∧b.edges≤8) (ho:b.outer.length≤1000) (hlt:i<b.nodes.length) (hC:Be sig b i):FnD Tryz.prog 182 [.l 3 (sig.map Ctl.D),b.D,.i i] (.d (.b (fW sig b i))):=by
 have f1:=o9 (b.nodes[i]).control 0 ((sig.length:Int) - 1)
 have f2:=tV sig b (b.nodes[i]).parent i hr (by omega) hC
 refine ah Tryz.func182 (fun hw W0=>?_)
 have hl:=(wfM hw.1).1
 have hnl:=(wfM ((wfM hw.2.1.2.1).2 _ (List.getElem_mem hlt)).2.2.1).1
 rw [x7 sig b i hlt]
 refine kgo ?_
 cases h1:inR (b.nodes[i]).control 0 ((sig.length:Int) - 1)
 ·refine kgo ?_
  exact ar
 refine kgo ?_
 cases h2:du sig b (b.nodes[i]).parent i
 ·refine kgo ?_
  exact ar
 obtain ⟨c0,c1⟩:=bO h1
 obtain ⟨m,hm⟩:=Int.eq_ofNat_of_zero_le c0
 have hml:m<sig.length:=by omega
 refine kgo ?_
 refine ex (n:=m) (fun _=>?_) rfl rfl (congrArg some hm)
 rw [show se sig (b.nodes[i]).control=sig[m] by rw [hm];exact jE sig m hml]
 refine kgo ?_
 refine cIf (fun h3=>?_) (fun h3=>?_)
 ·rw [decide_eq_false (by simpa using h3)]
  refine kgo ?_
  exact ar
 rw [decide_eq_true (by simpa using h3)]
 refine kgo ?_
 refine aj [4,7] (fun j:Nat=>j≤(b.nodes[i]).links.length∧((b.nodes[i]).links.take j).all (dU b)=true) (fun j=>(b.nodes[i]).links.length - j) (fun j=>[(8,.sy (.d (.i j)))]) 0 ⟨Nat.zero_le _,rfl⟩ (fun j hj=>?_)
 refine kgo ?_
 refine aO (fun h=>?_) (fun h=>?_)
 ·have hjl:j<(b.nodes[i]).links.length:=by omega
  have f3:=wS b ((b.nodes[i]).links[j]) he ho
  have ht:=jG (dU b) (b.nodes[i]).links j hjl
  refine kgo ?_
  cases h4:dU b ((b.nodes[i]).links[j])
  ·rw [uG (dU b) (b.nodes[i]).links j hjl h4]
   refine kgo ?_
   exact ar
  refine kgo ?_
  exact af (j+1) ⟨hjl,by rw [ht,hj.2,h4];rfl⟩ (by show _ - (j+1)<_ - j;omega)
 ·rw [kh (dU b) (b.nodes[i]).links j (by omega) hj.2]
  refine kgo ?_
  exact ar
theorem Ar (sig:List Ctl):FnD Tryz.prog 122 [.l 3 (sig.map Ctl.D)] (.d (.b (lr sig))):=⟨cO Tryz.func122,fun F w vs hv hF=>by
 obtain ⟨v1,t,rfl,h1,h3⟩:=hv
 cases (show t = [] from h3)
 refine (ui _ _ _ _ _ (wt.toV (by decide) h1)).mono ?_
 rintro e w' ⟨rfl,hX⟩
 exact ⟨_,rfl,hX,rfl⟩⟩
theorem Dw {P:Program} {ρ:Operand→Value} {w:World} {d g:_} {ty ty' ty2:Nat} {pos:String} {after:Array Edge} {x y:Operand} {m n:ByteArray} (h1:ρ x=.string m) (h2:ρ y=.string n):(execOp ρ ⟨d,.binOp .geq ty' x y ty2,ty,pos,after,g⟩).run P w=.ok (.value (.bool (!(Op.bytesLess m.toList n.toList)))) w:=by
 simp only [execOp,h1,h2]
 rfl
section
variable {P:Program} {ops:Array Oper} {W0:b7} {N:Nat} {Fin:Us→Env→Prop} {os:List Oper} {us:Us} {pk fk:List Nat} {σ:Env} {g:Option (Nat × Bool)} {gk:List Nat} {d ty ty':Nat} {pos:String} {after:Array Edge}
theorem HX {x y:Operand} {ty2:Nat} {s t:Sy} {m n:ByteArray} (h:Der P ops W0 N Fin os (us++[((d :: (gk++(kx x++kx y)))++pk,([d])++fk)]) [] [] ((d,.sy (.d (.b (!(Op.bytesLess m.toList n.toList))))) :: σ)) (hx:ev σ x=some s:=by rfl) (hy:ev σ y=some t:=by rfl) (hm:s.str? = some m:=by rfl) (hn:t.str? = some n:=by rfl) (hg:gst ops σ g=some (true,gk):=by rfl) (hN:Nat.blt d N=true:=by rfl) (hs:aG σ d=true:=by rfl):Der P ops W0 N Fin (⟨some d,.binOp .geq ty' x y ty2,ty,pos,after,g⟩ :: os) us pk fk σ:=
 bT (.d (.b (!(Op.bytesLess m.toList n.toList)))) (kx x++kx y) (fun σ' c a w hk hc=>by
  have h1:=pp hm (am hc (ab hx (fun κ hκ=>hk κ (by simp [hκ]))))
  have h2:=pp hn (am hc (ab hy (fun κ hκ=>hk κ (by simp [hκ]))))
  exact ⟨_,Dw h1 h2,by simp [Sy.ok,DV,Rp]⟩) h hg hN hs
end
theorem C8 (s:ByteArray):FnD Tryz.prog 179 [.s s] (.d (.b (dE s))):=⟨cO Tryz.func179,fun F w vs hv hF=>by
 obtain ⟨v1,t,rfl,⟨h0,h1⟩,h3⟩:=hv
 cases (show t = [] from h3)
 cases h0
 refine (mg _ _ h1).mono ?_
 rintro e w' ⟨rfl,hX⟩
 exact ⟨_,rfl,hX,rfl⟩⟩
theorem uf (l:List ByteArray):FnD Tryz.prog 180 [DS l] (.d (.b (dw l))):=by
 refine ah Tryz.func180 (fun hw W0=>?_)
 have hl:=(wfM hw.1).1
 refine kgo ?_
 refine aj [0] (fun i:Nat=>i≤l.length∧(List.range i).all (Aw l)=true) (fun i=>l.length - i) (fun i=>[(3,.sy (.d (.i i)))]) 0 ⟨Nat.zero_le _,rfl⟩ (fun i hi=>?_)
 refine kgo ?_
 refine aO (fun h=>?_) (fun h=>?_)
 ·have hlt:i<l.length:=by omega
  have hbad:=qi l i hlt
  have hok:Aw l i=true→(List.range (i+1)).all (Aw l)=true:=fun e=>by rw [bW,hi.2,e];rfl
  rw [qV l i hlt] at hbad hok
  have f1:=C8 l[i]
  refine kgo ?_
  cases h1:dE l[i]
  ·rw [hbad (by rw [h1];rfl)]
   refine kgo ?_
   (repeat refine IW ?_)
   refine kgo ?_
   exact ar
  rw [h1] at hbad hok
  cases i with
  | zero=>
   refine kgo ?_
   exact af 1 ⟨hlt,hok rfl⟩ (by show _ - 1<_ - 0;omega)
  | succ j=>
   refine kgo ?_
   cases hg:decide ((0:Int)<((j+1:Nat):Int))
   ·exact absurd hg (by simp)
   refine kgo ?_
   refine ex (n:=j) (fun _=>?_) rfl rfl (congrArg some (show ((j+1:Nat):Int) - 1=j by omega))
   refine kgo ?_
   refine HX ?_
   refine kgo ?_
   have hgd:l.getD (j+1 - 1) ⟨#[]⟩=l[j]:=by rw [List.getD_eq_getElem?_getD,Nat.add_sub_cancel,List.getElem?_eq_getElem (by omega)];rfl
   have hsl:cZ l[j] l[j+1]=Op.bytesLess l[j].toList l[j+1].toList:=by unfold cZ;rfl
   rw [hgd,hsl] at hbad hok
   cases h2:Op.bytesLess l[j].toList l[j+1].toList
   ·rw [hbad (by rw [h2];simp)]
    refine kgo ?_
    exact ar
   refine kgo ?_
   exact af (j+1+1) ⟨hlt,hok (by rw [h2];simp)⟩ (by show _ - (j+1+1)<_ - (j+1);omega)
 obtain rfl:i=l.length:=by omega
 rw [show dw l=decide ((l.length:Int)≤16) by unfold dw;rw [hi.2];rfl]
 refine kgo ?_
 exact ar
attribute [local irreducible] fW
theorem gv (sig:List Ctl) (b:Big) (hl:b.inner.length≤1048576):FnD Tryz.prog 123 [.l 3 (sig.map Ctl.D),b.D] (.d (.b (aF sig b))):=by
 have f1:=Ar sig
 have f2:=o9 b.roots 0 4
 have f3:=o9 b.edges 0 8
 have f4:=uf b.outer
 have f5:=uf (b.inner.map Wr.name)
 refine ah Tryz.func123 (fun hw W0=>?_)
 have hs:=(wfM hw.2.1.2.2.1).1
 refine kgo ?_
 cases h1:lr sig
 ·rw [dN (by unfold jC;rw [h1];rfl)]
  refine kgo ?_
  exact ar
 refine kgo ?_
 cases h2:inR b.roots 0 4
 ·rw [dN (by unfold jC;rw [h2];simp)]
  refine kgo ?_
  exact ar
 refine kgo ?_
 cases h3:decide ((8:Int)<b.nodes.length)
 rotate_left
 ·rw [dN (by unfold jC;simp at h3;simp;omega)]
  refine kgo ?_
  exact ar
 refine kgo ?_
 cases h4:decide ((4:Int)<b.sites.length)
 rotate_left
 ·rw [dN (by unfold jC;simp at h4;simp;omega)]
  refine kgo ?_
  exact ar
 refine kgo ?_
 cases h5:inR b.edges 0 8
 ·rw [dN (by unfold jC;rw [h5];simp)]
  refine kgo ?_
  exact ar
 refine kgo ?_
 cases h6:dw b.outer
 ·rw [dN (by unfold jC;rw [h6];simp)]
  refine kgo ?_
  exact ar
 refine kgo ?_
 cases h7:decide ((16:Int)<b.inner.length)
 rotate_left
 ·rw [dN (by unfold jC;cases hh:dw (b.inner.map Wr.name) with
   | false=>simp
   | true=>have:=gj hh;simp at h7 this;omega)]
  refine kgo ?_
  exact ar
 have f6:=kq b (by simp at h7;omega)
 refine kgo ?_
 cases h8:dw (b.inner.map Wr.name)
 ·rw [dN (by unfold jC;rw [h8];simp)]
  refine kgo ?_
  exact ar
 have hH:jC sig b=true:=by unfold jC;rw [h1,h2,h5,h6,h8];simp at h3 h4 ⊢;omega
 have hr:=bO h2
 have he:=bO h5
 have ho:b.outer.length≤1000:=by have:=gj h6;omega
 simp only [decide_eq_false_iff_not] at h3 h4 h7
 refine kgo ?_
 refine aj [0,3] (fun i:Nat=>i≤b.nodes.length∧(List.range i).all (fW sig b)=true) (fun i=>b.nodes.length - i) (fun i=>[(5,.sy (.d (.i i)))]) 0 ⟨Nat.zero_le _,rfl⟩ (fun i hi=>?_)
 refine kgo ?_
 refine aO (fun h=>?_) (fun h=>?_)
 ·have hlt:i<b.nodes.length:=by omega
  have f7:=CA sig b i hr he ho hlt (nT hi.2)
  refine kgo ?_
  cases h9:fW sig b i
  ·rw [oy i hlt h9]
   refine kgo ?_
   exact ar
  refine kgo ?_
  exact af (i+1) ⟨hlt,by rw [bW,hi.2,h9];rfl⟩ (by show _ - (i+1)<_ - i;omega)
 obtain rfl:i=b.nodes.length:=by omega
 have hN:=hi.2
 refine kgo ?_
 refine aj [0,3] (fun i:Nat=>i≤b.sites.length∧(b.sites.take i).all (fV sig b)=true) (fun i=>b.sites.length - i) (fun i=>[(6,.sy (.d (.i i)))]) 0 ⟨Nat.zero_le _,rfl⟩ (fun i hi=>?_)
 refine kgo ?_
 refine aO (fun h=>?_) (fun h=>?_)
 ·have hlt:i<b.sites.length:=by omega
  have f7:=tV sig b b.sites[i] b.nodes.length hr (Int.le_refl _) (nT hN)
  rw [← As] at f7
  refine kgo ?_
  cases h9:fV sig b b.sites[i]
  ·rw [vU (uG _ _ i hlt h9)]
   refine kgo ?_
   exact ar
  refine kgo ?_
  exact af (i+1) ⟨hlt,by rw [jG _ _ i hlt,hi.2,h9];rfl⟩ (by show _ - (i+1)<_ - i;omega)
 have hS:=kh _ _ _ (by omega) hi.2
 refine kgo ?_
 refine aj [3] (fun i:Nat=>i≤b.inner.length∧(b.inner.take i).all (gO b)=true) (fun i=>b.inner.length - i) (fun i=>[(7,.sy (.d (.i i)))]) 0 ⟨Nat.zero_le _,rfl⟩ (fun i hi=>?_)
 refine kgo ?_
 refine aO (fun h=>?_) (fun h=>?_)
 ·have hlt:i<b.inner.length:=by omega
  have f7:=wS b (b.inner[i]).link he ho
  rw [← A1] at f7
  refine kgo ?_
  cases h9:gO b b.inner[i]
  ·rw [wk (uG _ _ i hlt h9)]
   refine kgo ?_
   exact ar
  refine kgo ?_
  exact af (i+1) ⟨hlt,by rw [jG _ _ i hlt,hi.2,h9];rfl⟩ (by show _ - (i+1)<_ - i;omega)
 rw [Cg hH hN hS (kh _ _ _ (by omega) hi.2)]
 refine kgo ?_
 exact ar
end Go.Proofs.YtclpbhoekmecjaaGreatDoor
namespace Go.Proofs.YtclpbhoekmecjaaGreatDoor
open Go.RowKit
set_option linter.unusedVariables false
set_option maxRecDepth 100000
set_option maxHeartbeats 4000000
attribute [local irreducible] aq Der At
theorem w8 {sig:List Ctl} {b:Big} (h:aF sig b=true) (by':Int) {ps:List Int} (hp:b.roots≤ps.length):∀n∈b.nodes,D3 by' ps n.parent:=by
 intro n hn
 obtain ⟨i,hi,rfl⟩:=List.mem_iff_getElem.1 hn
 have:=iG h i hi
 have:=aL h
 unfold D3
 omega
theorem qM {sig:List Ctl} {b:Big} (h:aF sig b=true) (by':Int) {ps:List Int} (hp:b.roots≤ps.length):∀p∈b.sites,D3 by' ps p:=by
 intro p hp'
 have h3:=List.all_eq_true.1 (dV h).2.2.1 p hp'
 have:=aL h
 unfold fV du at h3
 unfold D3
 split at h3
 ·simp only [decide_eq_true_eq] at h3;omega
 ·simp only [Bool.and_eq_true,decide_eq_true_eq] at h3;omega
theorem wU {sig:List Ctl} {b:Big} (h:aF sig b=true) {ks:List Int} (hp:b.edges+b.outer.length≤ks.length):∀n∈b.nodes,∀l∈n.links,0≤l∧l<(ks.length:Int):=by
 intro n hn l hl
 obtain ⟨i,hi,rfl⟩:=List.mem_iff_getElem.1 hn
 have:=(eS h i hi).2.2.2.2 l hl
 unfold dU at this
 have:=bO this
 omega
theorem xt {sig:List Ctl} {b:Big} (h:aF sig b=true) {ks:List Int} (hp:b.edges+b.outer.length≤ks.length):∀x∈b.inner,0≤x.link∧x.link<(ks.length:Int):=by
 intro x hx
 have:=List.all_eq_true.1 (dV h).2.2.2 x hx
 unfold gO dU at this
 have:=bO this
 omega
theorem rh {sig:List Ctl} {b:Big} (h:aF sig b=true):∀n∈b.nodes,n.links.length≤1000:=by
 intro n hn
 obtain ⟨i,hi,rfl⟩:=List.mem_iff_getElem.1 hn
 exact (bB h).links i hi
def B1 (a b:Big) (outer:List ByteArray) (above below:List Int):Big:=
 ⟨a.roots,cY 0 (di 0 a.roots.toNat) (fg 0 a.edges.toNat++above) a.nodes++cY a.nodes.length (dJ 0 (di 0 a.roots.toNat) a.sites) (fg a.edges b.edges.toNat++below) b.nodes,dJ a.nodes.length (dJ 0 (di 0 a.roots.toNat) a.sites) b.sites,a.edges+b.edges,outer,dI (fg a.edges b.edges.toNat++below) b.inner⟩
theorem nq (m n:Int) (hn:0≤n∧n≤1000) (hm : -1000≤m∧m≤1000):FnD Tryz.prog 300 [.i m,.i n] (.row 1 3 ((di m n.toNat).map .i)):=by
 obtain ⟨k,rfl⟩:=Int.eq_ofNat_of_zero_le hn.1
 exact Bi m k (by omega) hm
theorem gZ (m n:Int) (hn:0≤n∧n≤1000) (hm : -1000≤m∧m≤1000):FnD Tryz.prog 201 [.i m,.i n] (.row 1 3 ((fg m n.toNat).map .i)):=by
 obtain ⟨k,rfl⟩:=Int.eq_ofNat_of_zero_le hn.1
 exact z6 m k (by omega) hm
theorem zC {sig:List Ctl} {a b:Big} (hA:aF sig a=true) (hB:aF sig b=true) (hf:(a.sites.length:Int)=b.roots) (outer:List ByteArray) (above below:List Int) (hol:outer.length≤1000) (h1:above.length=a.outer.length) (h2:below.length=b.outer.length) :
 FnD Tryz.prog 266 [a.D,b.D,DS outer,DI above,DI below] (.d (B1 a b outer above below).D):=by
 have ha:=aL hA
 have hb:=aL hB
 have l1:=eU 0 a.edges.toNat
 have l2:=eU a.edges b.edges.toNat
 have l3:=mw 0 a.roots.toNat
 have l4:(dJ 0 (di 0 a.roots.toNat) a.sites).length=a.sites.length:=by unfold dJ;rw [List.length_map]
 have f1:=nq 0 a.roots (by omega) (by omega)
 have f2:=gZ 0 a.edges (by omega) (by omega)
 have f3:=gZ a.edges b.edges (by omega) (by omega)
 have f4:=mc a 0 (di 0 a.roots.toNat) (by omega) (qM hA 0 (by omega)) (by omega)
 have f5:=mf a 0 (di 0 a.roots.toNat) (fg 0 a.edges.toNat++above) (by omega) (by omega) (rh hA) (w8 hA 0 (by omega)) (wU hA (by rw [List.length_append];omega))
 have f6:=mf b a.nodes.length (dJ 0 (di 0 a.roots.toNat) a.sites) (fg a.edges b.edges.toNat++below) (by omega) (by omega) (rh hB) (w8 hB _ (by omega)) (wU hB (by rw [List.length_append];omega))
 have f7:=mc b a.nodes.length (dJ 0 (di 0 a.roots.toNat) a.sites) (by omega) (qM hB _ (by omega)) (by omega)
 have f8:=n8 b (fg a.edges b.edges.toNat++below) (xt hB (by rw [List.length_append];omega)) (by omega)
 have q1:(cY 0 (di 0 a.roots.toNat) (fg 0 a.edges.toNat++above) a.nodes).length≤1000:=by unfold cY;rw [List.length_map];omega
 have q2:(cY a.nodes.length (dJ 0 (di 0 a.roots.toNat) a.sites) (fg a.edges b.edges.toNat++below) b.nodes).length≤1000:=by unfold cY;rw [List.length_map];omega
 refine ah Tryz.func266 (fun hw W0=>?_)
 repeat (first|refine cFz 11 ?_|refine cFz 12 ?_|refine cFz 13 ?_|refine cFz 14 ?_|(refine cI ?_;first|refine aU ?_|refine cb ?_|refine bp ?_|refine bk ?_|refine aS ?_|refine be ?_|refine bc ?_|refine aB ?_|refine bm ?_|refine bo ?_)|(refine fQ ?_;first|refine b6 ?_|refine fH ?_|refine cm ?_|refine cE ?_)|(refine fB ?_;first|refine ex (fun _=>?_)|refine cr ?_|refine ci ?_|refine bL ?_|refine ch ?_|refine cd ?_|refine ca ?_)|(refine fJ ?_;first|refine cF ?_|refine fb ?_|refine cu ?_|refine bS ?_|refine ck ?_|refine cz ?_|refine ct ?_)|(refine fE ?_;first|refine fM ?_|refine fq ?_|refine cj ?_|refine bY ?_|refine fF ?_|refine bg ?_|refine bf ?_)|(refine co ?_;first|refine br ?_|refine cH ?_)|(refine fK ?_;first|refine cB ?_|refine cy ?_|refine fL ?_)|(refine b9 ?_;first|refine cG ?_|refine aY ?_|refine aR ?_|refine aZ ?_|refine aW ?_|refine bj ?_)|(refine fC ?_;first|refine cf ?_|refine fA ?_|refine bh ?_|refine aT ?_|refine bq ?_)|(refine aN ?_;first|refine aw _ ?_|refine ba ?_|refine aC ?_|refine az ?_|refine aD ?_)|(refine fG ?_;first|refine cC ?_|refine bR ?_|refine cA ?_)|(refine gOp ?_;first|refine fI ?_|refine fP ?_|refine bl ?_|refine fO ?_|refine fN ?_|refine cD ?_|refine aV ?_|refine cw ?_|refine fR ?_|refine bV ?_|refine cq ?_|refine aX ?_|refine sFz 45 ?_|refine sFz 46 ?_|refine sFz 52 ?_|refine sFz 60 ?_|refine sFz 63 ?_|refine aA ?_|refine cg ?_|refine sNo ?_|refine fa ?_|refine ay ?_)|refine e9 ?_|refine dD ?_|refine fU ?_|refine bu ?_|refine bU ?_|refine bE ?_|refine fX ?_|refine fy ?_|refine fp ?_|refine dP ?_|refine cL ?_|refine aM ?_|refine ax ?_|refine bt ?_|refine cK ?_|refine bF ?_|refine cM ?_|refine cN ?_|refine sFz 45 ?_|refine sFz 46 ?_|refine sFz 52 ?_|refine sFz 60 ?_|refine sFz 63 ?_)
 exact ar
theorem BN (a c:List ByteArray):FnD Tryz.prog 264 [DS a,DS c] (.d (.b (eqS a c))):=by
 refine ah Tryz.func264 (fun hw W0=>?_)
 have hl:=(wfM hw.1).1
 refine kgo ?_
 refine cIf (fun h=>?_) (fun h=>?_)
 ·have h:¬(a.length:Int)=c.length:=by simpa using h
  refine kgo ?_
  rw [qZ h]
  exact ar
 ·have h:(a.length:Int)=c.length:=by simpa using h
  refine kgo ?_
  refine eX (fun i:Nat=>i≤a.length∧(List.range i).all (kv a c)=true) (fun i=>a.length - i) (fun i=>[(0,.sy (.d (DS a))),(1,.sy (.d (DS c))),(5,.sy (.d (.i i)))]) 0 ⟨Nat.zero_le _,rfl⟩ (fun i hi=>?_)
  refine kgo ?_
  refine cIf (fun h2=>?_) (fun h2=>?_)
  ·have h2:=of_decide_eq_true h2
   have hlt:i<a.length:=by omega
   have hlt2:i<c.length:=by omega
   have hs:=kB a c i hlt hlt2
   refine kgo ?_
   refine cIf (fun h3=>?_) (fun h3=>?_)
   ·refine kgo ?_
    rw [qD (c:=c) i hlt (by rw [hs];simpa using h3)]
    exact ar
   ·refine kgo ?_
    exact af (i+1) ⟨hlt,by rw [bW,hi.2,hs];simpa using h3⟩ (by omega)
  ·have h2:=of_decide_eq_false h2
   refine kgo ?_
   rw [BF h (by rw [← hi.2,show i=a.length by omega])]
   exact ar
def nJ (a b:Big):Bool:=decide ((a.sites.length:Int)=b.roots) && eqS (a.inner.map Wr.name) b.outer
theorem B8 (a b:Big) (hl:a.inner.length≤1000):FnD Tryz.prog 233 [a.D,b.D] (.d (.b (nJ a b))):=by
 have f1:=kq a hl
 have f2:=BN (a.inner.map Wr.name) b.outer
 refine ah Tryz.func233 (fun hw W0=>?_)
 have hs:=(wfM hw.1.2.2.1).1
 cases hc:decide ((a.sites.length:Int)=b.roots)
 ·rw [show nJ a b=false from by unfold nJ;rw [hc];rfl]
  refine kgo ?_
  rw [hc]
  refine kgo ?_
  exact ar
 ·rw [show nJ a b=eqS (a.inner.map Wr.name) b.outer from by unfold nJ;rw [hc];rfl]
  refine kgo ?_
  rw [hc]
  refine kgo ?_
  exact ar
end Go.Proofs.YtclpbhoekmecjaaGreatDoor
namespace Go.Proofs.YtclpbhoekmecjaaGreatDoor
open Go.RowKit
set_option linter.unusedVariables false
set_option maxRecDepth 100000
set_option maxHeartbeats 4000000
attribute [local irreducible] aq Der At
theorem wN (sig:List Ctl) (b:Big) (hl:b.inner.length≤1048576):FnD Tryz.prog 234 [.l 3 (sig.map Ctl.D),b.D] (.tp [(if aF sig b then b else dx).D,.b (aF sig b)]):=by
 have f1:=gv sig b hl
 refine ah Tryz.func234 (fun hw W0=>?_)
 cases hc:aF sig b
 ·rw [hc] at f1
  refine kgo ?_
  exact g8
 ·rw [hc] at f1
  refine kgo ?_
  exact g8
def Bj (a b:Big):List Int:=fg 0 a.edges.toNat++dG a.outer (a.edges+b.edges) a.outer
def tU (a b:Big):Big:=B1 a b a.outer (dG a.outer (a.edges+b.edges) a.outer) (a.inner.map fun x=>atI (Bj a b) x.link)
theorem Au {sig:List Ctl} {a b:Big} (hA:aF sig a=true) (hB:aF sig b=true) (hf:(a.sites.length:Int)=b.roots) (hn:a.inner.length=b.outer.length):FnD Tryz.prog 235 [a.D,b.D] (.d (tU a b).D):=by
 have ha:=aL hA
 have hb:=aL hB
 have l1:=eU 0 a.edges.toNat
 have l2:(dG a.outer (a.edges+b.edges) a.outer).length=a.outer.length:=by unfold dG;rw [List.length_map]
 have l3:(Bj a b).length=a.edges.toNat+a.outer.length:=by unfold Bj;rw [List.length_append,l1,l2]
 have f1:=ot a.outer (a.edges+b.edges) a.outer (by omega) (by omega) (by omega)
 have f2:=gZ 0 a.edges (by omega) (by omega)
 have f3:=zC hA hB hf a.outer (dG a.outer (a.edges+b.edges) a.outer) (a.inner.map fun x=>atI (Bj a b) x.link) (by omega) l2 (by rw [List.length_map];exact hn)
 have hk:=xt hA (ks:=Bj a b) (by omega)
 refine ah Tryz.func235 (fun hw W0=>?_)
 repeat (first|refine cFz 5 ?_|(refine cI ?_;first|refine aU ?_|refine cb ?_|refine bp ?_|refine bk ?_|refine aS ?_|refine be ?_|refine bc ?_|refine aB ?_|refine bm ?_|refine bo ?_)|(refine fQ ?_;first|refine b6 ?_|refine fH ?_|refine cm ?_|refine cE ?_)|(refine fB ?_;first|refine ex (fun _=>?_)|refine cr ?_|refine ci ?_|refine bL ?_|refine ch ?_|refine cd ?_|refine ca ?_)|(refine fJ ?_;first|refine cF ?_|refine fb ?_|refine cu ?_|refine bS ?_|refine ck ?_|refine cz ?_|refine ct ?_)|(refine fE ?_;first|refine fM ?_|refine fq ?_|refine cj ?_|refine bY ?_|refine fF ?_|refine bg ?_|refine bf ?_)|(refine co ?_;first|refine br ?_|refine cH ?_)|(refine fK ?_;first|refine cB ?_|refine cy ?_|refine fL ?_)|(refine b9 ?_;first|refine cG ?_|refine aY ?_|refine aR ?_|refine aZ ?_|refine aW ?_|refine bj ?_)|(refine fC ?_;first|refine cf ?_|refine fA ?_|refine bh ?_|refine aT ?_|refine bq ?_)|(refine aN ?_;first|refine aw _ ?_|refine ba ?_|refine aC ?_|refine az ?_|refine aD ?_)|(refine fG ?_;first|refine cC ?_|refine bR ?_|refine cA ?_)|(refine gOp ?_;first|refine fI ?_|refine fP ?_|refine bl ?_|refine fO ?_|refine fN ?_|refine cD ?_|refine aV ?_|refine cw ?_|refine fR ?_|refine bV ?_|refine cq ?_|refine aX ?_|refine aA ?_|refine cg ?_|refine sNo ?_|refine fa ?_|refine ay ?_)|refine e9 ?_|refine dD ?_|refine fU ?_|refine bu ?_|refine bU ?_|refine bE ?_|refine fX ?_|refine fy ?_|refine fp ?_|refine dP ?_|refine cL ?_|refine aM ?_|refine ax ?_|refine bt ?_|refine cK ?_|refine bF ?_|refine cM ?_|refine cN ?_)
 refine cFz 6 ?_
 refine eX (fun i:Nat=>i≤a.inner.length) (fun i=>a.inner.length - i) (fun i=>[(2,.sy (.bx 10002 0)),(10002,.tk (.bx (flat a.D))),(3,.sy (.bx 10003 0)),(10003,.tk (.bx (flat b.D))),(4,.sy (.bx 10004 0)),(10004,.tk (.bx (flat (.t [.i 0,.n 3,.n 1,.i 0,.n 1,.n 2])))),(5,.sy (.d (DI (dG a.outer (a.edges+b.edges) a.outer)))),(6,.sy (.d (DI (Bj a b)))),(7,.sy (.k 10024)),(10024,.tk (.row 1 3 (((a.inner.take i).map fun x=>atI (Bj a b) x.link).map .i))),(8,.sy (.d (.i i)))]) 0 (Nat.zero_le _) (fun i hi=>?_)
 refine kgo ?_
 refine cIf (fun h=>?_) (fun h=>?_)
 ·have h:=of_decide_eq_true h
  have hlt:i<a.inner.length:=by omega
  have hk2:=hk _ (List.getElem_mem hlt)
  have hs:((a.inner.take (i+1)).map fun x=>atI (Bj a b) x.link).map D.i=((a.inner.take i).map fun x=>atI (Bj a b) x.link).map D.i++[.i (atI (Bj a b) (a.inner[i]).link)]:=by rw [List.take_succ_eq_append_getElem hlt,List.map_append,List.map_append];rfl
  refine kgo ?_
  exact af (i+1) hlt (by omega)
 ·have h:=of_decide_eq_false h
  rw [List.take_of_length_le (by omega)]
  repeat (first|(refine cI ?_;first|refine aU ?_|refine cb ?_|refine bp ?_|refine bk ?_|refine aS ?_|refine be ?_|refine bc ?_|refine aB ?_|refine bm ?_|refine bo ?_)|(refine fQ ?_;first|refine b6 ?_|refine fH ?_|refine cm ?_|refine cE ?_)|(refine fB ?_;first|refine ex (fun _=>?_)|refine cr ?_|refine ci ?_|refine bL ?_|refine ch ?_|refine cd ?_|refine ca ?_)|(refine fJ ?_;first|refine cF ?_|refine fb ?_|refine cu ?_|refine bS ?_|refine ck ?_|refine cz ?_|refine ct ?_)|(refine fE ?_;first|refine fM ?_|refine fq ?_|refine cj ?_|refine bY ?_|refine fF ?_|refine bg ?_|refine bf ?_)|(refine co ?_;first|refine br ?_|refine cH ?_)|(refine fK ?_;first|refine cB ?_|refine cy ?_|refine fL ?_)|(refine b9 ?_;first|refine cG ?_|refine aY ?_|refine aR ?_|refine aZ ?_|refine aW ?_|refine bj ?_)|(refine fC ?_;first|refine cf ?_|refine fA ?_|refine bh ?_|refine aT ?_|refine bq ?_)|(refine aN ?_;first|refine aw _ ?_|refine ba ?_|refine aC ?_|refine az ?_|refine aD ?_)|(refine fG ?_;first|refine cC ?_|refine bR ?_|refine cA ?_)|(refine gOp ?_;first|refine fI ?_|refine fP ?_|refine bl ?_|refine fO ?_|refine fN ?_|refine cD ?_|refine aV ?_|refine cw ?_|refine fR ?_|refine bV ?_|refine cq ?_|refine aX ?_|refine sFz 49 ?_|refine aA ?_|refine cg ?_|refine sNo ?_|refine fa ?_|refine ay ?_)|refine e9 ?_|refine dD ?_|refine fU ?_|refine bu ?_|refine bU ?_|refine bE ?_|refine fX ?_|refine fy ?_|refine fp ?_|refine dP ?_|refine cL ?_|refine aM ?_|refine ax ?_|refine bt ?_|refine cK ?_|refine bF ?_|refine cM ?_|refine cN ?_|refine sFz 49 ?_)
  exact ar
theorem sk (names:List ByteArray) (hl:names.length≤1000):FnD Tryz.prog 232 [.i 0,DS names] (.d (idB names).D):=by
 refine ah Tryz.func232 (fun hw W0=>?_)
 repeat (first|(refine cI ?_;first|refine aU ?_|refine cb ?_|refine bp ?_|refine bk ?_|refine aS ?_|refine be ?_|refine bc ?_|refine aB ?_|refine bm ?_|refine bo ?_)|(refine fQ ?_;first|refine b6 ?_|refine fH ?_|refine cm ?_|refine cE ?_)|(refine fB ?_;first|refine ex (fun _=>?_)|refine cr ?_|refine ci ?_|refine bL ?_|refine ch ?_|refine cd ?_|refine ca ?_)|(refine fJ ?_;first|refine cF ?_|refine fb ?_|refine cu ?_|refine bS ?_|refine ck ?_|refine cz ?_|refine ct ?_)|(refine fE ?_;first|refine fM ?_|refine fq ?_|refine cj ?_|refine bY ?_|refine fF ?_|refine bg ?_|refine bf ?_)|(refine co ?_;first|refine br ?_|refine cH ?_)|(refine fK ?_;first|refine cB ?_|refine cy ?_|refine fL ?_)|(refine b9 ?_;first|refine cG ?_|refine aY ?_|refine aR ?_|refine aZ ?_|refine aW ?_|refine bj ?_)|(refine fC ?_;first|refine cf ?_|refine fA ?_|refine bh ?_|refine aT ?_|refine bq ?_)|(refine aN ?_;first|refine aw _ ?_|refine ba ?_|refine aC ?_|refine az ?_|refine aD ?_)|(refine fG ?_;first|refine cC ?_|refine bR ?_|refine cA ?_)|(refine gOp ?_;first|refine fI ?_|refine fP ?_|refine bl ?_|refine fO ?_|refine fN ?_|refine cD ?_|refine aV ?_|refine cw ?_|refine fR ?_|refine bV ?_|refine cq ?_|refine aX ?_|refine sFz 11 ?_|refine aA ?_|refine cg ?_|refine sNo ?_|refine fa ?_|refine ay ?_)|refine e9 ?_|refine dD ?_|refine fU ?_|refine bu ?_|refine bU ?_|refine bE ?_|refine fX ?_|refine fy ?_|refine fp ?_|refine dP ?_|refine cL ?_|refine aM ?_|refine ax ?_|refine bt ?_|refine cK ?_|refine bF ?_|refine cM ?_|refine cN ?_|refine sFz 11 ?_)
 refine eX (fun _:Unit=>True) (fun _=>0) (fun _=>[(0,.sy (.d (.i 0))),(1,.sy (.d (DS names))),(4,.sy (.bx 10004 0)),(10004,.tk (.bx (flat (.t [.i 0,.n 3,.n 1,.i 0,.n 1,.n 2])))),(5,.sy (.bx 10005 0)),(10005,.tk (.bx [.d (.i 0),.d (.n 3),.d (.n 1),.d (.i 0),.d (DS names),.d (.n 2)])),(6,.sy (.d (.i 0)))]) () trivial (fun _ _=>?_)
 refine kgo ?_
 refine lx 10005 5 20001 133 ?_
 refine eX (fun i:Nat=>i≤names.length) (fun i=>names.length - i) (fun i=>[(1,.sy (.d (DS names))),(4,.sy (.bx 10004 0)),(10004,.tk (.bx (flat (.t [.i 0,.n 3,.n 1,.i 0,.n 1,.n 2])))),(5,.sy (.bx 10005 0)),(10005,.tk (.bx [.d (.i 0),.d (.n 3),.d (.n 1),.d (.i 0),.d (DS names),.k 20001])),(20001,.tk (.row 2 133 (((names.mapIdx fun i s=>(⟨s,i⟩:Wr)).take i).map Wr.D))),(7,.sy (.d (.i i)))]) 0 (Nat.zero_le _) (fun i hi=>?_)
 refine kgo ?_
 refine cIf (fun h=>?_) (fun h=>?_)
 ·have h:=of_decide_eq_true h
  have hlt:i<names.length:=by omega
  have hq:((names.mapIdx fun i s=>(⟨s,i⟩:Wr)).take i).length≤1000:=by rw [List.length_take,List.length_mapIdx];omega
  have hs:((names.mapIdx fun i s=>(⟨s,i⟩:Wr)).take (i+1)).map Wr.D=((names.mapIdx fun i s=>(⟨s,i⟩:Wr)).take i).map Wr.D++[Wr.D ⟨names[i],i⟩]:=by rw [List.take_succ_eq_append_getElem (by rw [List.length_mapIdx];exact hlt),List.map_append,List.getElem_mapIdx];rfl
  refine kgo ?_
  exact af (i+1) hlt (by omega)
 ·have h:=of_decide_eq_false h
  rw [List.take_of_length_le (by rw [List.length_mapIdx];omega)]
  refine bE (ax (ax (bF (aM ?_))))
  refine mi 10005 5 ?_
  refine kgo ?_
  exact ar
theorem qQ {a b:Big}:(tU a b).inner.length=b.inner.length:=by unfold tU B1 dI;simp
def fc (sig:List Ctl) (a b:Big):Big × Bool:=if aF sig a && (aF sig b && (nJ a b && aF sig (tU a b))) then (tU a b,true) else (dx,false)
theorem n9 (sig:List Ctl) (a b:Big) (hla:a.inner.length≤1000) (hlb:b.inner.length≤1000):FnD Tryz.prog 206 [.l 3 (sig.map Ctl.D),a.D,b.D] (.tp [(fc sig a b).1.D,.b (fc sig a b).2]):=by
 have f1:=gv sig a (by omega)
 have f2:=gv sig b (by omega)
 have f3:=B8 a b hla
 have f4:=wN sig (tU a b) (by rw [qQ];omega)
 refine ah Tryz.func206 (fun hw W0=>?_)
 cases h1:aF sig a
 ·rw [show fc sig a b=(dx,false) from by unfold fc;rw [h1];rfl]
  rw [h1] at f1
  refine kgo ?_
  exact g8
 cases h2:aF sig b
 ·rw [show fc sig a b=(dx,false) from by unfold fc;rw [h1,h2];rfl]
  rw [h1] at f1
  rw [h2] at f2
  refine kgo ?_
  exact g8
 cases h3:nJ a b
 ·rw [show fc sig a b=(dx,false) from by unfold fc;rw [h1,h2,h3];rfl]
  rw [h1] at f1
  rw [h2] at f2
  rw [h3] at f3
  refine kgo ?_
  exact g8
 have h4:(a.sites.length:Int)=b.roots∧a.inner.length=b.outer.length:=by
  unfold nJ at h3
  rw [Bool.and_eq_true,decide_eq_true_eq] at h3
  refine ⟨h3.1,?_⟩
  have:=h3.2
  by_cases hh:((a.inner.map Wr.name).length:Int)=b.outer.length
  ·rw [List.length_map] at hh;omega
  ·rw [qZ hh] at this;cases this
 have f5:=Au h1 h2 h4.1 h4.2
 rw [show fc sig a b=(if aF sig (tU a b) then tU a b else dx,aF sig (tU a b)) from by unfold fc;rw [h1,h2,h3];cases aF sig (tU a b) <;> rfl]
 rw [h1] at f1
 rw [h2] at f2
 rw [h3] at f3
 refine kgo ?_
 exact g8
end Go.Proofs.YtclpbhoekmecjaaGreatDoor
namespace Go.Proofs.YtclpbhoekmecjaaGreatDoor
open Go.RowKit
set_option linter.unusedVariables false
set_option maxRecDepth 100000
set_option maxHeartbeats 4000000
attribute [local irreducible] aq Der At
theorem kV (a:List Wr):∀b:List Wr,(bQ a b).length=a.length+b.length:=by
 unfold bQ
 intro b
 induction b generalizing a with
 | nil=>rfl
 | cons x b ih=>rw [List.foldl_cons,ih,n7,List.length_cons];omega
theorem uS (a b:List Wr) (i:Nat) (h:i<b.length):bQ a (b.take (i+1))=gx wLt (bQ a (b.take i)) b[i]:=by
 unfold bQ;rw [List.take_succ_eq_append_getElem h,List.foldl_append];rfl
theorem tJ (a b:List Wr) (hla:a.length≤1000) (hlb:b.length≤1000):FnD Tryz.prog 203 [.l 2 (a.map Wr.D),.l 2 (b.map Wr.D)] (.d (.l 2 ((bQ a b).map Wr.D))):=by
 refine ah Tryz.func203 (fun hw W0=>?_)
 repeat (first|(refine cI ?_;first|refine aU ?_|refine cb ?_|refine bp ?_|refine bk ?_|refine aS ?_|refine be ?_|refine bc ?_|refine aB ?_|refine bm ?_|refine bo ?_)|(refine fQ ?_;first|refine b6 ?_|refine fH ?_|refine cm ?_|refine cE ?_)|(refine fB ?_;first|refine ex (fun _=>?_)|refine cr ?_|refine ci ?_|refine bL ?_|refine ch ?_|refine cd ?_|refine ca ?_)|(refine fJ ?_;first|refine cF ?_|refine fb ?_|refine cu ?_|refine bS ?_|refine ck ?_|refine cz ?_|refine ct ?_)|(refine fE ?_;first|refine fM ?_|refine fq ?_|refine cj ?_|refine bY ?_|refine fF ?_|refine bg ?_|refine bf ?_)|(refine co ?_;first|refine br ?_|refine cH ?_)|(refine fK ?_;first|refine gq (d:=5) ?_|refine cB ?_|refine cy ?_|refine fL ?_)|(refine b9 ?_;first|refine cG ?_|refine aY ?_|refine aR ?_|refine aZ ?_|refine aW ?_|refine bj ?_)|(refine fC ?_;first|refine cf ?_|refine fA ?_|refine bh ?_|refine aT ?_|refine bq ?_)|(refine aN ?_;first|refine aw _ ?_|refine ba ?_|refine aC ?_|refine az ?_|refine aD ?_)|(refine fG ?_;first|refine cC ?_|refine bR ?_|refine cA ?_)|(refine gOp ?_;first|refine fI ?_|refine fP ?_|refine bl ?_|refine fO ?_|refine fN ?_|refine cD ?_|refine aV ?_|refine cw ?_|refine fR ?_|refine bV ?_|refine cq ?_|refine aX ?_|refine aA ?_|refine cg ?_|refine sNo ?_|refine fa ?_|refine ay ?_)|refine e9 ?_|refine dD ?_|refine fU ?_|refine bu ?_|refine bU ?_|refine bE ?_|refine fX ?_|refine fy ?_|refine fp ?_|refine dP ?_|refine cL ?_|refine aM ?_|refine ax ?_|refine bt ?_|refine cK ?_|refine bF ?_|refine cM ?_|refine cN ?_)
 refine eX (fun i:Nat=>i≤b.length) (fun i=>b.length - i) (fun i=>[(1,.sy (.d (.l 2 (b.map Wr.D)))),(5,.sy (.d (.l 2 ((bQ a (b.take i)).map Wr.D)))),(6,.sy (.d (.i i)))]) 0 (Nat.zero_le _) (fun i hi=>?_)
 refine kgo ?_
 refine cIf (fun h=>?_) (fun h=>?_)
 ·have h:=of_decide_eq_true h
  have hlt:i<b.length:=by omega
  have hml:=kV a (b.take i)
  rw [List.length_take] at hml
  refine kgo ?_
  refine eX (fun k:Nat=>k≤(bQ a (b.take i)).length∧∀j (h:j<(bQ a (b.take i)).length),j<k→wLt (bQ a (b.take i))[j] b[i]=true) (fun k=>(bQ a (b.take i)).length - k) (fun k=>[(1,.sy (.d (.l 2 (b.map Wr.D)))),(5,.sy (.d (.l 2 ((bQ a (b.take i)).map Wr.D)))),(6,.sy (.d (.i i))),(7,.sy (.d (.i k)))]) 0 ⟨Nat.zero_le _,fun j _ h=>absurd h (Nat.not_lt_zero _)⟩ (fun k hk=>?_)
  obtain ⟨hk1,hk2⟩:=hk
  have out (hno:∀h:k<(bQ a (b.take i)).length,wLt (bQ a (b.take i))[k] b[i]=false):bQ a (b.take (i+1))=(bQ a (b.take i)).take k++b[i] :: (bQ a (b.take i)).drop k:=by
   rw [uS a b i hlt,xk wLt b[i] _ k hk1 hk2 hno]
  cases hc:decide ((k:Int)<((bQ a (b.take i)).length:Int))
  ·have hc':=of_decide_eq_false hc
   refine kgo ?_
   rw [hc]
   have e:=out (fun h=>absurd h (by omega))
   clear out
   have hs:D.l 2 ((bQ a (b.take (i+1))).map Wr.D)=D.l (1+1) ([]++((bQ a (b.take i)).take k).map Wr.D++[BU (Wr.D b[i])]++((bQ a (b.take i)).drop k).map Wr.D):=by rw [e,show BU (Wr.D b[i])=Wr.D b[i] from rfl];simp
   repeat (first|(refine cI ?_;first|refine aU ?_|refine cb ?_|refine bp ?_|refine bk ?_|refine aS ?_|refine be ?_|refine bc ?_|refine aB ?_|refine bm ?_|refine bo ?_)|(refine fQ ?_;first|refine b6 ?_|refine fH ?_|refine cm ?_|refine cE ?_)|(refine fB ?_;first|refine ex (fun _=>?_)|refine cr ?_|refine ci ?_|refine bL ?_|refine ch ?_|refine cd ?_|refine ca ?_)|(refine fJ ?_;first|refine cF ?_|refine fb ?_|refine cu ?_|refine bS ?_|refine ck ?_|refine cz ?_|refine ct ?_)|(refine fE ?_;first|refine fM ?_|refine fq ?_|refine cj ?_|refine bY ?_|refine fF ?_|refine bg ?_|refine bf ?_)|(refine co ?_;first|refine br ?_|refine cH ?_)|(refine fK ?_;first|refine gq (d:=5) ?_|refine cB ?_|refine cy ?_|refine fL ?_)|(refine b9 ?_;first|refine cG ?_|refine aY ?_|refine aR ?_|refine aZ ?_|refine aW ?_|refine bj ?_)|(refine fC ?_;first|refine cf ?_|refine fA ?_|refine bh ?_|refine aT ?_|refine bq ?_)|(refine aN ?_;first|refine aw _ ?_|refine ba ?_|refine aC ?_|refine az ?_|refine aD ?_)|(refine fG ?_;first|refine cC ?_|refine bR ?_|refine cA ?_)|(refine gOp ?_;first|refine fI ?_|refine fP ?_|refine bl ?_|refine fO ?_|refine fN ?_|refine cD ?_|refine aV ?_|refine cw ?_|refine fR ?_|refine bV ?_|refine cq ?_|refine aX ?_|refine aA ?_|refine cg ?_|refine sNo ?_|refine fa ?_|refine ay ?_)|refine e9 ?_|refine dD ?_|refine fU ?_|refine bu ?_|refine bU ?_|refine bE ?_|refine fX ?_|refine fy ?_|refine fp ?_|refine dP ?_|refine cL ?_|refine aM ?_|refine ax ?_|refine bt ?_|refine cK ?_|refine bF ?_|refine cM ?_|refine cN ?_)
   exact af (i+1) hlt (by omega)
  ·have hc':=of_decide_eq_true hc
   have hkl:k<(bQ a (b.take i)).length:=by omega
   refine kgo ?_
   rw [hc]
   refine kgo ?_
   refine cIf (fun h2=>?_) (fun h2=>?_)
   ·refine kgo ?_
    exact af (k+1) ⟨hkl,fun j h1 h3=>by
     rcases Nat.lt_or_ge j k with h4|h4
     ·exact hk2 j h1 h4
     ·rw [show (bQ a (b.take i))[j]=(bQ a (b.take i))[k] from by congr 1;omega];exact h2⟩ (by omega)
   ·have e:=out (fun h=>h2)
    clear out
    have hs:D.l 2 ((bQ a (b.take (i+1))).map Wr.D)=D.l (1+1) ([]++((bQ a (b.take i)).take k).map Wr.D++[BU (Wr.D b[i])]++((bQ a (b.take i)).drop k).map Wr.D):=by rw [e,show BU (Wr.D b[i])=Wr.D b[i] from rfl];simp
    repeat (first|(refine cI ?_;first|refine aU ?_|refine cb ?_|refine bp ?_|refine bk ?_|refine aS ?_|refine be ?_|refine bc ?_|refine aB ?_|refine bm ?_|refine bo ?_)|(refine fQ ?_;first|refine b6 ?_|refine fH ?_|refine cm ?_|refine cE ?_)|(refine fB ?_;first|refine ex (fun _=>?_)|refine cr ?_|refine ci ?_|refine bL ?_|refine ch ?_|refine cd ?_|refine ca ?_)|(refine fJ ?_;first|refine cF ?_|refine fb ?_|refine cu ?_|refine bS ?_|refine ck ?_|refine cz ?_|refine ct ?_)|(refine fE ?_;first|refine fM ?_|refine fq ?_|refine cj ?_|refine bY ?_|refine fF ?_|refine bg ?_|refine bf ?_)|(refine co ?_;first|refine br ?_|refine cH ?_)|(refine fK ?_;first|refine gq (d:=5) ?_|refine cB ?_|refine cy ?_|refine fL ?_)|(refine b9 ?_;first|refine cG ?_|refine aY ?_|refine aR ?_|refine aZ ?_|refine aW ?_|refine bj ?_)|(refine fC ?_;first|refine cf ?_|refine fA ?_|refine bh ?_|refine aT ?_|refine bq ?_)|(refine aN ?_;first|refine aw _ ?_|refine ba ?_|refine aC ?_|refine az ?_|refine aD ?_)|(refine fG ?_;first|refine cC ?_|refine bR ?_|refine cA ?_)|(refine gOp ?_;first|refine fI ?_|refine fP ?_|refine bl ?_|refine fO ?_|refine fN ?_|refine cD ?_|refine aV ?_|refine cw ?_|refine fR ?_|refine bV ?_|refine cq ?_|refine aX ?_|refine aA ?_|refine cg ?_|refine sNo ?_|refine fa ?_|refine ay ?_)|refine e9 ?_|refine dD ?_|refine fU ?_|refine bu ?_|refine bU ?_|refine bE ?_|refine fX ?_|refine fy ?_|refine fp ?_|refine dP ?_|refine cL ?_|refine aM ?_|refine ax ?_|refine bt ?_|refine cK ?_|refine bF ?_|refine cM ?_|refine cN ?_)
    exact af (i+1) hlt (by omega)
 ·have h:=of_decide_eq_false h
  refine kgo ?_
  rw [List.take_of_length_le (by omega)]
  exact ar
theorem Bd {l:List ByteArray} {n:ByteArray} {k:Nat} (hs:l.Pairwise NLt) (hk1:k≤l.length) (hk2:∀j (h:j<l.length),j<k→cZ l[j] n=true) (hno:∀h:k<l.length,cZ l[k] n=false) (hne:∀h:k<l.length,(l[k].toList == n.toList)=false):r9 l n=l.take k++n :: l.drop k:=by
 unfold r9
 rw [if_neg,xk cZ n l k hk1 hk2 hno]
 intro hh
 obtain ⟨x,hx,e⟩:=List.any_eq_true.1 hh
 rw [beq_iff_eq] at e
 have e:=gh e
 subst e
 obtain ⟨j,hj,e⟩:=List.getElem_of_mem hx
 rcases Nat.lt_trichotomy j k with h|h|h
 ·have:=hk2 j hj h
  rw [e] at this
  exact NLt.irr _ this
 ·subst h
  have:=hne hj
  rw [e] at this
  simp at this
 ·have h1:cZ _ _=true:=List.pairwise_iff_getElem.1 hs k j (by omega) hj h
  rw [e,hno (by omega)] at h1
  cases h1
theorem Fn {l:List ByteArray} {n:ByteArray} {k:Nat} (h:k<l.length) (he:(l[k].toList == n.toList)=true):r9 l n=l:=by
 unfold r9
 rw [if_pos (List.any_eq_true.2 ⟨l[k],List.getElem_mem h,he⟩)]
theorem yb (l:List ByteArray) (i:Nat) (h:i<l.length):cR (l.take (i+1))=r9 (cR (l.take i)) l[i]:=by
 unfold cR;rw [List.take_succ_eq_append_getElem h,List.foldl_append];rfl
theorem C1 (l:List ByteArray) (s:ByteArray):(r9 l s).length≤l.length+1:=by
 unfold r9;split
 ·omega
 ·rw [n7];exact Nat.le_refl _
theorem kl:∀(l a:List ByteArray),(l.foldl r9 a).length≤a.length+l.length
 | [],a=>by simp
 | s :: l,a=>by
  have:=kl l (r9 a s)
  have:=C1 a s
  rw [List.foldl_cons,List.length_cons];omega
theorem xJ (l:List ByteArray) (hl:l.length≤100000):FnD Tryz.prog 299 [DS l] (.d (DS (cR l))):=by
 refine ah Tryz.func299 (fun hw W0=>?_)
 repeat (first|(refine cI ?_;first|refine aU ?_|refine cb ?_|refine bp ?_|refine bk ?_|refine aS ?_|refine be ?_|refine bc ?_|refine aB ?_|refine bm ?_|refine bo ?_)|(refine fQ ?_;first|refine b6 ?_|refine fH ?_|refine cm ?_|refine cE ?_)|(refine fB ?_;first|refine ex (fun _=>?_)|refine cr ?_|refine ci ?_|refine bL ?_|refine ch ?_|refine cd ?_|refine ca ?_)|(refine fJ ?_;first|refine cF ?_|refine fb ?_|refine cu ?_|refine bS ?_|refine ck ?_|refine cz ?_|refine ct ?_)|(refine fE ?_;first|refine fM ?_|refine fq ?_|refine cj ?_|refine bY ?_|refine fF ?_|refine bg ?_|refine bf ?_)|(refine co ?_;first|refine br ?_|refine cH ?_)|(refine fK ?_;first|refine gq (d:=3) ?_|refine cB ?_|refine cy ?_|refine fL ?_)|(refine b9 ?_;first|refine cG ?_|refine aY ?_|refine aR ?_|refine aZ ?_|refine aW ?_|refine bj ?_)|(refine fC ?_;first|refine cf ?_|refine fA ?_|refine bh ?_|refine aT ?_|refine bq ?_)|(refine aN ?_;first|refine aw _ ?_|refine ba ?_|refine aC ?_|refine az ?_|refine aD ?_)|(refine fG ?_;first|refine cC ?_|refine bR ?_|refine cA ?_)|(refine gOp ?_;first|refine fI ?_|refine fP ?_|refine bl ?_|refine fO ?_|refine fN ?_|refine cD ?_|refine aV ?_|refine cw ?_|refine fR ?_|refine bV ?_|refine cq ?_|refine aX ?_|refine aA ?_|refine cg ?_|refine sNo ?_|refine fa ?_|refine ay ?_)|refine e9 ?_|refine dD ?_|refine fU ?_|refine bu ?_|refine bU ?_|refine bE ?_|refine fX ?_|refine fy ?_|refine fp ?_|refine dP ?_|refine cL ?_|refine aM ?_|refine ax ?_|refine bt ?_|refine cK ?_|refine bF ?_|refine cM ?_|refine cN ?_)
 refine eX (fun i:Nat=>i≤l.length) (fun i=>l.length - i) (fun i=>[(0,.sy (.d (DS l))),(3,.sy (.d (DS (cR (l.take i))))),(4,.sy (.d (.i i)))]) 0 (Nat.zero_le _) (fun i hi=>?_)
 have hsn:=te (l.take i)
 have hml:=kl (l.take i) []
 rw [show (l.take i).foldl r9 []=cR (l.take i) from rfl,List.length_take,List.length_nil] at hml
 refine kgo ?_
 refine cIf (fun h=>?_) (fun h=>?_)
 ·have h:=of_decide_eq_true h
  have hlt:i<l.length:=by omega
  have hsu:=yb l i hlt
  revert hsn hml hsu
  generalize cR (l.take i)=m
  intro hsn hml hsu
  refine kgo ?_
  refine eX (fun k:Nat=>k≤m.length∧∀j (h:j<m.length),j<k→cZ m[j] l[i]=true) (fun k=>m.length - k) (fun k=>[(0,.sy (.d (DS l))),(3,.sy (.d (DS m))),(4,.sy (.d (.i i))),(5,.sy (.d (.i k)))]) 0 ⟨Nat.zero_le _,fun j _ h=>absurd h (Nat.not_lt_zero _)⟩ (fun k hk=>?_)
  obtain ⟨hk1,hk2⟩:=hk
  have hs0 (e:r9 m l[i]=m.take k++l[i] :: m.drop k):DS (cR (l.take (i+1)))=D.l (0+1) ([]++(m.take k).map D.s++[BU (D.s l[i])]++(m.drop k).map D.s):=by rw [hsu,e,show BU (D.s l[i])=D.s l[i] from rfl];simp [DS]
  cases hc:decide ((k:Int)<(m.length:Int))
  ·have hc':=of_decide_eq_false hc
   have hc2:decide ((k:Int)=(m.length:Int))=true:=decide_eq_true (by omega)
   have hs:=hs0 (Bd hsn hk1 hk2 (fun h=>absurd h (by omega)) (fun h=>absurd h (by omega)))
   clear hs0
   refine kgo ?_
   rw [hc]
   refine kgo ?_
   rw [hc2]
   repeat (first|(refine cI ?_;first|refine aU ?_|refine cb ?_|refine bp ?_|refine bk ?_|refine aS ?_|refine be ?_|refine bc ?_|refine aB ?_|refine bm ?_|refine bo ?_)|(refine fQ ?_;first|refine b6 ?_|refine fH ?_|refine cm ?_|refine cE ?_)|(refine fB ?_;first|refine ex (fun _=>?_)|refine cr ?_|refine ci ?_|refine bL ?_|refine ch ?_|refine cd ?_|refine ca ?_)|(refine fJ ?_;first|refine cF ?_|refine fb ?_|refine cu ?_|refine bS ?_|refine ck ?_|refine cz ?_|refine ct ?_)|(refine fE ?_;first|refine fM ?_|refine fq ?_|refine cj ?_|refine bY ?_|refine fF ?_|refine bg ?_|refine bf ?_)|(refine co ?_;first|refine br ?_|refine cH ?_)|(refine fK ?_;first|refine gq (d:=3) ?_|refine cB ?_|refine cy ?_|refine fL ?_)|(refine b9 ?_;first|refine cG ?_|refine aY ?_|refine aR ?_|refine aZ ?_|refine aW ?_|refine bj ?_)|(refine fC ?_;first|refine cf ?_|refine fA ?_|refine bh ?_|refine aT ?_|refine bq ?_)|(refine aN ?_;first|refine aw _ ?_|refine ba ?_|refine aC ?_|refine az ?_|refine aD ?_)|(refine fG ?_;first|refine cC ?_|refine bR ?_|refine cA ?_)|(refine gOp ?_;first|refine fI ?_|refine fP ?_|refine bl ?_|refine fO ?_|refine fN ?_|refine cD ?_|refine aV ?_|refine cw ?_|refine fR ?_|refine bV ?_|refine cq ?_|refine aX ?_|refine aA ?_|refine cg ?_|refine sNo ?_|refine fa ?_|refine ay ?_)|refine e9 ?_|refine dD ?_|refine fU ?_|refine bu ?_|refine bU ?_|refine bE ?_|refine fX ?_|refine fy ?_|refine fp ?_|refine dP ?_|refine cL ?_|refine aM ?_|refine ax ?_|refine bt ?_|refine cK ?_|refine bF ?_|refine cM ?_|refine cN ?_)
   exact af (i+1) hlt (by omega)
  ·have hc':=of_decide_eq_true hc
   have hkl:k<m.length:=by omega
   have hc2:decide ((k:Int)=(m.length:Int))=false:=decide_eq_false (by omega)
   refine kgo ?_
   rw [hc]
   refine kgo ?_
   refine cIf (fun h2=>?_) (fun h2=>?_)
   ·refine kgo ?_
    exact af (k+1) ⟨hkl,fun j h1 h3=>by
     rcases Nat.lt_or_ge j k with h4|h4
     ·exact hk2 j h1 h4
     ·rw [show m[j]=m[k] from by congr 1;omega];exact h2⟩ (by omega)
   ·refine kgo ?_
    rw [hc2]
    refine kgo ?_
    refine cIf (fun h3=>?_) (fun h3=>?_)
    ·rw [Bool.not_eq_true'] at h3
     have hs:=hs0 (Bd hsn hk1 hk2 (fun h=>h2) (fun h=>h3))
     clear hs0
     repeat (first|(refine cI ?_;first|refine aU ?_|refine cb ?_|refine bp ?_|refine bk ?_|refine aS ?_|refine be ?_|refine bc ?_|refine aB ?_|refine bm ?_|refine bo ?_)|(refine fQ ?_;first|refine b6 ?_|refine fH ?_|refine cm ?_|refine cE ?_)|(refine fB ?_;first|refine ex (fun _=>?_)|refine cr ?_|refine ci ?_|refine bL ?_|refine ch ?_|refine cd ?_|refine ca ?_)|(refine fJ ?_;first|refine cF ?_|refine fb ?_|refine cu ?_|refine bS ?_|refine ck ?_|refine cz ?_|refine ct ?_)|(refine fE ?_;first|refine fM ?_|refine fq ?_|refine cj ?_|refine bY ?_|refine fF ?_|refine bg ?_|refine bf ?_)|(refine co ?_;first|refine br ?_|refine cH ?_)|(refine fK ?_;first|refine gq (d:=3) ?_|refine cB ?_|refine cy ?_|refine fL ?_)|(refine b9 ?_;first|refine cG ?_|refine aY ?_|refine aR ?_|refine aZ ?_|refine aW ?_|refine bj ?_)|(refine fC ?_;first|refine cf ?_|refine fA ?_|refine bh ?_|refine aT ?_|refine bq ?_)|(refine aN ?_;first|refine aw _ ?_|refine ba ?_|refine aC ?_|refine az ?_|refine aD ?_)|(refine fG ?_;first|refine cC ?_|refine bR ?_|refine cA ?_)|(refine gOp ?_;first|refine fI ?_|refine fP ?_|refine bl ?_|refine fO ?_|refine fN ?_|refine cD ?_|refine aV ?_|refine cw ?_|refine fR ?_|refine bV ?_|refine cq ?_|refine aX ?_|refine aA ?_|refine cg ?_|refine sNo ?_|refine fa ?_|refine ay ?_)|refine e9 ?_|refine dD ?_|refine fU ?_|refine bu ?_|refine bU ?_|refine bE ?_|refine fX ?_|refine fy ?_|refine fp ?_|refine dP ?_|refine cL ?_|refine aM ?_|refine ax ?_|refine bt ?_|refine cK ?_|refine bF ?_|refine cM ?_|refine cN ?_)
     exact af (i+1) hlt (by omega)
    ·rw [Bool.not_eq_false'] at h3
     have hs:DS (cR (l.take (i+1)))=DS m:=by rw [hsu,Fn hkl h3]
     clear hs0
     refine kgo ?_
     exact af (i+1) hlt (by omega)
 ·have h:=of_decide_eq_false h
  refine kgo ?_
  rw [List.take_of_length_le (by omega)]
  exact ar
def jQ (a b:Big):List ByteArray:=cR (a.outer++b.outer)
def ig (a b c:Big) (n:Int):List Int:=fg n c.edges.toNat++dG c.outer (a.edges+b.edges) (jQ a b)
def iE (a b:Big):Big:=
 ⟨a.roots+b.roots,cY 0 (di 0 a.roots.toNat) (ig a b a 0) a.nodes++cY a.nodes.length (di a.roots b.roots.toNat) (ig a b b a.edges) b.nodes,dJ 0 (di 0 a.roots.toNat) a.sites++dJ a.nodes.length (di a.roots b.roots.toNat) b.sites,a.edges+b.edges,jQ a b,bQ (dI (ig a b a 0) a.inner) (dI (ig a b b a.edges) b.inner)⟩
theorem DA {sig:List Ctl} {a b:Big} (hA:aF sig a=true) (hB:aF sig b=true) (hia:a.inner.length≤1000) (hib:b.inner.length≤1000) :
 FnD Tryz.prog 263 [a.D,b.D] (.d (iE a b).D):=by
 have ha:=aL hA
 have hb:=aL hB
 have l0:=kl (a.outer++b.outer) []
 rw [show (a.outer++b.outer).foldl r9 []=jQ a b from rfl,List.length_append,List.length_nil] at l0
 have l1:=eU 0 a.edges.toNat
 have l2:=eU a.edges b.edges.toNat
 have l3:=mw 0 a.roots.toNat
 have l4:=mw a.roots b.roots.toNat
 have l5:(dG a.outer (a.edges+b.edges) (jQ a b)).length=a.outer.length:=by unfold dG;rw [List.length_map]
 have l6:(dG b.outer (a.edges+b.edges) (jQ a b)).length=b.outer.length:=by unfold dG;rw [List.length_map]
 have l7:(ig a b a 0).length=a.edges.toNat+a.outer.length:=by unfold ig;rw [List.length_append,l1,l5]
 have l8:(ig a b b a.edges).length=b.edges.toNat+b.outer.length:=by unfold ig;rw [List.length_append,l2,l6]
 have f1:=xJ (a.outer++b.outer) (by rw [List.length_append];omega)
 rw [show cR (a.outer++b.outer)=jQ a b from rfl] at f1
 have f2:=gZ 0 a.edges (by omega) (by omega)
 have f3:=gZ a.edges b.edges (by omega) (by omega)
 have f4:=ot a.outer (a.edges+b.edges) (jQ a b) (by omega) (by omega) (by omega)
 have f5:=ot b.outer (a.edges+b.edges) (jQ a b) (by omega) (by omega) (by omega)
 have f6:=nq 0 a.roots (by omega) (by omega)
 have f7:=nq a.roots b.roots (by omega) (by omega)
 have f8:=mf a 0 (di 0 a.roots.toNat) (ig a b a 0) (by omega) (by omega) (rh hA) (w8 hA 0 (by omega)) (wU hA (by omega))
 have f9:=mf b a.nodes.length (di a.roots b.roots.toNat) (ig a b b a.edges) (by omega) (by omega) (rh hB) (w8 hB _ (by omega)) (wU hB (by omega))
 have g1:=mc a 0 (di 0 a.roots.toNat) (by omega) (qM hA 0 (by omega)) (by omega)
 have g2:=mc b a.nodes.length (di a.roots b.roots.toNat) (by omega) (qM hB _ (by omega)) (by omega)
 have g3:=n8 a (ig a b a 0) (xt hA (by omega)) (by omega)
 have g4:=n8 b (ig a b b a.edges) (xt hB (by omega)) (by omega)
 have g5:=tJ (dI (ig a b a 0) a.inner) (dI (ig a b b a.edges) b.inner) (by unfold dI;rw [List.length_map];omega) (by unfold dI;rw [List.length_map];omega)
 have q1:(cY 0 (di 0 a.roots.toNat) (ig a b a 0) a.nodes).length=a.nodes.length:=by unfold cY;rw [List.length_map]
 have q2:(cY a.nodes.length (di a.roots b.roots.toNat) (ig a b b a.edges) b.nodes).length=b.nodes.length:=by unfold cY;rw [List.length_map]
 have q3:(dJ 0 (di 0 a.roots.toNat) a.sites).length=a.sites.length:=by unfold dJ;rw [List.length_map]
 have q4:(dJ a.nodes.length (di a.roots b.roots.toNat) b.sites).length=b.sites.length:=by unfold dJ;rw [List.length_map]
 refine ah Tryz.func263 (fun hw W0=>?_)
 repeat (first|refine cFz 7 ?_|refine cFz 8 ?_|refine cFz 9 ?_|refine cFz 10 ?_|(refine cI ?_;first|refine aU ?_|refine cb ?_|refine bp ?_|refine bk ?_|refine aS ?_|refine be ?_|refine bc ?_|refine aB ?_|refine bm ?_|refine bo ?_)|(refine fQ ?_;first|refine b6 ?_|refine fH ?_|refine cm ?_|refine cE ?_)|(refine fB ?_;first|refine ex (fun _=>?_)|refine cr ?_|refine ci ?_|refine bL ?_|refine ch ?_|refine cd ?_|refine ca ?_)|(refine fJ ?_;first|refine cF ?_|refine fb ?_|refine cu ?_|refine bS ?_|refine ck ?_|refine cz ?_|refine ct ?_)|(refine fE ?_;first|refine fM ?_|refine fq ?_|refine cj ?_|refine bY ?_|refine fF ?_|refine bg ?_|refine bf ?_)|(refine co ?_;first|refine br ?_|refine cH ?_)|(refine fK ?_;first|refine cB ?_|refine cy ?_|refine fL ?_)|(refine b9 ?_;first|refine cG ?_|refine aY ?_|refine aR ?_|refine aZ ?_|refine aW ?_|refine bj ?_)|(refine fC ?_;first|refine cf ?_|refine fA ?_|refine bh ?_|refine aT ?_|refine bq ?_)|(refine aN ?_;first|refine aw _ ?_|refine ba ?_|refine aC ?_|refine az ?_|refine aD ?_)|(refine fG ?_;first|refine cC ?_|refine bR ?_|refine cA ?_)|(refine gOp ?_;first|refine fI ?_|refine fP ?_|refine bl ?_|refine fO ?_|refine fN ?_|refine cD ?_|refine aV ?_|refine cw ?_|refine fR ?_|refine bV ?_|refine cq ?_|refine aX ?_|refine sFz 17 ?_|refine sFz 31 ?_|refine sFz 42 ?_|refine sFz 67 ?_|refine sFz 68 ?_|refine sFz 77 ?_|refine sFz 78 ?_|refine sFz 83 ?_|refine sFz 86 ?_|refine aA ?_|refine cg ?_|refine sNo ?_|refine fa ?_|refine ay ?_)|refine e9 ?_|refine dD ?_|refine fU ?_|refine bu ?_|refine bU ?_|refine bE ?_|refine fX ?_|refine fy ?_|refine fp ?_|refine dP ?_|refine cL ?_|refine aM ?_|refine ax ?_|refine bt ?_|refine cK ?_|refine bF ?_|refine cM ?_|refine cN ?_|refine sFz 17 ?_|refine sFz 31 ?_|refine sFz 42 ?_|refine sFz 67 ?_|refine sFz 68 ?_|refine sFz 77 ?_|refine sFz 78 ?_|refine sFz 83 ?_|refine sFz 86 ?_)
 exact ar
end Go.Proofs.YtclpbhoekmecjaaGreatDoor
namespace Go.Proofs.YtclpbhoekmecjaaGreatDoor
open Go.RowKit
set_option linter.unusedVariables false
set_option maxRecDepth 100000
set_option maxHeartbeats 4000000
attribute [local irreducible] aq Der At
theorem pw {a b:Big}:(iE a b).inner.length=a.inner.length+b.inner.length:=by unfold iE dI;simp only [kV,List.length_map]
def oX (sig:List Ctl) (a b:Big):Big × Bool:=if aF sig a && (aF sig b && (iP a.outer b.outer && (iP (a.inner.map Wr.name) (b.inner.map Wr.name) && aF sig (iE a b)))) then (iE a b,true) else (dx,false)
theorem yE (sig:List Ctl) (a b:Big) (hla:a.inner.length≤1000) (hlb:b.inner.length≤1000):FnD Tryz.prog 231 [.l 3 (sig.map Ctl.D),a.D,b.D] (.tp [(oX sig a b).1.D,.b (oX sig a b).2]):=by
 have f1:=gv sig a (by omega)
 have f2:=gv sig b (by omega)
 have f3:=tY a.outer b.outer
 have f4:=kq a hla
 have f5:=kq b hlb
 have f6:=tY (a.inner.map Wr.name) (b.inner.map Wr.name)
 have f8:=wN sig (iE a b) (by rw [pw];omega)
 refine ah Tryz.func231 (fun hw W0=>?_)
 unfold oX
 cases h1:aF sig a
 ·rw [h1] at f1
  refine kgo ?_
  exact g8
 cases h2:aF sig b
 ·rw [h1] at f1
  rw [h2] at f2
  refine kgo ?_
  exact g8
 have f7:=DA h1 h2 hla hlb
 rw [h1] at f1
 rw [h2] at f2
 cases h3:iP a.outer b.outer
 ·rw [h3] at f3
  refine kgo ?_
  exact g8
 rw [h3] at f3
 cases h4:iP (a.inner.map Wr.name) (b.inner.map Wr.name)
 ·rw [h4] at f6
  refine kgo ?_
  exact g8
 rw [h4] at f6
 rw [show (if true && (true && (true && (true && aF sig (iE a b)))) then (iE a b,true) else (dx,false))=(if aF sig (iE a b) then iE a b else dx,aF sig (iE a b)) from by cases aF sig (iE a b) <;> rfl]
 refine kgo ?_
 exact g8
def ff (xs ys:List ByteArray):List ByteArray:=ys.filter fun y=>decide (jU xs y<0)
theorem xH (xs ys:List ByteArray) (i:Nat) (h:i<ys.length):ff xs (ys.take (i+1))=if decide (jU xs ys[i]<0)=true then ff xs (ys.take i)++[ys[i]] else ff xs (ys.take i):=by
 unfold ff
 rw [List.take_succ_eq_append_getElem h,List.filter_append]
 by_cases hh:decide (jU xs ys[i]<0)=true <;> simp [hh]
theorem xK (sig:List Ctl) (a b:Big) (hla:a.inner.length≤1000) (hlb:b.inner.length≤1000):FnD Tryz.prog 205 [.l 3 (sig.map Ctl.D),a.D,b.D] (.tp [(oX sig a (idB (ff a.outer (b.inner.map Wr.name)))).1.D,.b (oX sig a (idB (ff a.outer (b.inner.map Wr.name)))).2]):=by
 have f1:=kq b hlb
 have hll:(b.inner.map Wr.name).length≤1000:=by rw [List.length_map];exact hlb
 refine ah Tryz.func205 (fun hw W0=>?_)
 revert f1 hll
 generalize b.inner.map Wr.name=ys
 intro f1 hll
 have hr:(ff a.outer ys).length≤1000:=Nat.le_trans (List.length_filter_le _ _) hll
 have f3:=sk (ff a.outer ys) hr
 have f4:=yE sig a (idB (ff a.outer ys)) hla (by unfold idB;simpa using hr)
 refine kgo ?_
 refine eX (fun i:Nat=>i≤ys.length) (fun i=>ys.length - i) (fun i=>[(0,.sy (.d (.l 3 (sig.map Ctl.D)))),(4,.sy (.bx 10004 0)),(10004,.tk (.bx (flat a.D))),(6,.sy (.bx 10006 0)),(10006,.tk (.bx (flat (.t [.i 0,.n 3,.n 1,.i 0,.n 1,.n 2])))),(8,.sy (.k 10011)),(10011,.tk (.row 1 9 ((ff a.outer (ys.take i)).map D.s))),(9,.sy (.d (DS ys))),(10,.sy (.d (.i i)))]) 0 (Nat.zero_le _) (fun i hi=>?_)
 refine kgo ?_
 refine cIf (fun h=>?_) (fun h=>?_)
 ·have h:=of_decide_eq_true h
  have hlt:i<ys.length:=by omega
  have f2:=xj a.outer ys[i]
  have hq:(ff a.outer (ys.take i)).length≤1000:=Nat.le_trans (List.length_filter_le _ _) (by rw [List.length_take];omega)
  have hsu:=xH a.outer ys i hlt
  refine kgo ?_
  refine cIf (fun h2=>?_) (fun h2=>?_)
  ·rw [if_pos h2] at hsu
   have hs:(ff a.outer (ys.take (i+1))).map D.s=(ff a.outer (ys.take i)).map D.s++[.s ys[i]]:=by rw [hsu,List.map_append];rfl
   refine kgo ?_
   exact af (i+1) hlt (by omega)
  ·rw [if_neg (by rw [h2];exact Bool.false_ne_true)] at hsu
   have hs:(ff a.outer (ys.take (i+1))).map D.s=(ff a.outer (ys.take i)).map D.s:=by rw [hsu]
   refine kgo ?_
   exact af (i+1) hlt (by omega)
 ·have h:=of_decide_eq_false h
  rw [List.take_of_length_le (by omega)]
  repeat (first|refine cFz 8 ?_|(refine cI ?_;first|refine aU ?_|refine cb ?_|refine bp ?_|refine bk ?_|refine aS ?_|refine be ?_|refine bc ?_|refine aB ?_|refine bm ?_|refine bo ?_)|(refine fQ ?_;first|refine b6 ?_|refine fH ?_|refine cm ?_|refine cE ?_)|(refine fB ?_;first|refine ex (fun _=>?_)|refine cr ?_|refine ci ?_|refine bL ?_|refine ch ?_|refine cd ?_|refine ca ?_)|(refine fJ ?_;first|refine cF ?_|refine fb ?_|refine cu ?_|refine bS ?_|refine ck ?_|refine cz ?_|refine ct ?_)|(refine fE ?_;first|refine fM ?_|refine fq ?_|refine cj ?_|refine bY ?_|refine fF ?_|refine bg ?_|refine bf ?_)|(refine co ?_;first|refine br ?_|refine cH ?_)|(refine fK ?_;first|refine cB ?_|refine cy ?_|refine fL ?_)|(refine b9 ?_;first|refine cG ?_|refine aY ?_|refine aR ?_|refine aZ ?_|refine aW ?_|refine bj ?_)|(refine fC ?_;first|refine cf ?_|refine fA ?_|refine bh ?_|refine aT ?_|refine bq ?_)|(refine aN ?_;first|refine aw _ ?_|refine ba ?_|refine aC ?_|refine az ?_|refine aD ?_)|(refine fG ?_;first|refine cC ?_|refine bR ?_|refine cA ?_)|(refine gOp ?_;first|refine fI ?_|refine fP ?_|refine bl ?_|refine fO ?_|refine fN ?_|refine cD ?_|refine aV ?_|refine cw ?_|refine fR ?_|refine bV ?_|refine cq ?_|refine aX ?_|refine aA ?_|refine cg ?_|refine sNo ?_|refine fa ?_|refine ay ?_)|refine e9 ?_|refine dD ?_|refine fU ?_|refine bu ?_|refine bU ?_|refine bE ?_|refine fX ?_|refine fy ?_|refine fp ?_|refine dP ?_|refine cL ?_|refine aM ?_|refine ax ?_|refine bt ?_|refine cK ?_|refine bF ?_|refine cM ?_|refine cN ?_)
  exact g8
def nt (sig:List Ctl) (mid ctx par:Big):Big × Bool:=
 if (oX sig mid (idB (ff mid.outer (ctx.inner.map Wr.name)))).2 then (if (fc sig ctx (oX sig mid (idB (ff mid.outer (ctx.inner.map Wr.name)))).1).2 then fc sig (fc sig ctx (oX sig mid (idB (ff mid.outer (ctx.inner.map Wr.name)))).1).1 par else (dx,false)) else (dx,false)
theorem wB (sig:List Ctl) (a b:Big):(oX sig a b).1.inner.length≤a.inner.length+b.inner.length:=by
 unfold oX
 split
 ·rw [pw];omega
 ·exact Nat.zero_le _
theorem tn (sig:List Ctl) (a b:Big):(fc sig a b).1.inner.length≤b.inner.length:=by
 unfold fc
 split
 ·rw [qQ];omega
 ·exact Nat.zero_le _
theorem xF (sig:List Ctl) (mid ctx par:Big) (hl:mid.inner.length+ctx.inner.length≤1000) (hp:par.inner.length≤1000):FnD Tryz.prog 137 [.l 3 (sig.map Ctl.D),mid.D,ctx.D,par.D] (.tp [(nt sig mid ctx par).1.D,.b (nt sig mid ctx par).2]):=by
 have f1:=xK sig mid ctx (by omega) (by omega)
 have hr:(ff mid.outer (ctx.inner.map Wr.name)).length≤ctx.inner.length:=Nat.le_trans (List.length_filter_le _ _) (by rw [List.length_map];omega)
 refine ah Tryz.func137 (fun hw W0=>?_)
 unfold nt
 revert f1 hr
 generalize ff mid.outer (ctx.inner.map Wr.name)=ns
 intro f1 hr
 have hb:=wB sig mid (idB ns)
 rw [show (idB ns).inner.length=ns.length from by unfold idB;simp] at hb
 revert f1 hb
 generalize oX sig mid (idB ns)=r
 obtain ⟨r,k⟩:=r
 intro f1 hb
 cases k
 ·refine kgo ?_
  exact g8
 have f2:=n9 sig ctx r (by omega) (by simp only at hb;omega)
 have hc:=tn sig ctx r
 simp only [if_true]
 revert f2 hc
 generalize fc sig ctx r=q
 obtain ⟨q,k⟩:=q
 intro f2 hc
 cases k
 ·refine kgo ?_
  exact g8
 have f3:=n9 sig q par (by simp only at hb hc;omega) hp
 refine kgo ?_
 exact g8
end Go.Proofs.YtclpbhoekmecjaaGreatDoor
namespace Go.Proofs.YtclpbhoekmecjaaGreatDoor
open Go.RowKit
set_option linter.unusedVariables false
set_option maxRecDepth 100000
set_option maxHeartbeats 4000000
attribute [local irreducible] aq Der At
abbrev mS (x:Int × Int):D:=.t [.i x.1,.i x.2]
theorem EY:Lik eE mS:=⟨fun w S x cs h=>by
 obtain ⟨c,e,rfl,⟨rfl,h1⟩,c',e',rfl,⟨rfl,h2⟩,rfl⟩:=h
 exact ⟨rfl,h1,h2⟩,fun w lo hi x cs h=>by
 obtain ⟨rfl,h1,h2⟩:=h
 exact ⟨[_],[_],rfl,⟨rfl,h1⟩,[_],[],rfl,⟨rfl,h2⟩,rfl⟩⟩
theorem mB (b:Big) (l:Int) (hn:b.nodes.length≤1000) (hl:∀i (h:i<b.nodes.length),(b.nodes[i]).links.length≤1000):FnD Tryz.prog 230 [b.D,.i l] (.d (.l 2 ((aI b l).map mS))):=⟨cO Tryz.func230,fun F w vs hv hF=>by
 obtain ⟨v1,t,rfl,h1,v2,t2,rfl,⟨h2,_⟩,h3⟩:=hv
 cases (show t2 = [] from h3)
 obtain ⟨cs,rfl,hb⟩:=sA h1
 cases h2
 refine (pO _ _ _ _ _ _ hb hn hl).mono ?_
 rintro e w' ⟨v,rfl,hV,hX⟩
 exact ⟨_,rfl,hX,qS (EY.ofV hV)⟩⟩
theorem mC (b:Big) (p:Int) (hl:b.sites.length≤1048576):FnD Tryz.prog 195 [b.D,.i p] (.d (DI (bA b p))):=⟨cO Tryz.func195,fun F w vs hv hF=>by
 obtain ⟨v1,t,rfl,h1,v2,t2,rfl,⟨h2,_⟩,h3⟩:=hv
 cases (show t2 = [] from h3)
 obtain ⟨cs,rfl,hb⟩:=sA h1
 cases h2
 refine (pM _ _ _ _ _ _ hb hl).mono ?_
 rintro e w' ⟨v,rfl,hV,hX⟩
 exact ⟨_,rfl,hX,qS (Co.ofV hV)⟩⟩
def m7 (row:List Bool) (v:Bool) (ps:List (Int × Int)):Nat:=(ps.filter fun p=>row.getD p.1.toNat false == v).length
theorem yw (row:List Bool) (v:Bool) (ps:List (Int × Int)) (i:Nat) (h:i<ps.length):m7 row v (ps.take (i+1))=if (row.getD (ps[i]).1.toNat false == v)=true then m7 row v (ps.take i)+1 else m7 row v (ps.take i):=by
 unfold m7
 rw [List.take_succ_eq_append_getElem h,List.filter_append]
 by_cases hh:(row.getD (ps[i]).1.toNat false == v)=true
 ·rw [if_pos hh];simp only [List.length_append,List.filter_cons,hh,if_true,List.filter_nil,List.length_cons,List.length_nil]
 ·rw [if_neg hh];simp only [List.length_append,List.filter_cons,if_neg hh,List.filter_nil,List.length_nil,Nat.add_zero]
theorem fh (b:Big) (l:Int) (hn:b.nodes.length≤1000) (hl:∀i (h:i<b.nodes.length),(b.nodes[i]).links.length≤1000):(aI b l).length≤1000000:=by
 have:=iw b l b.nodes.length (Nat.le_refl _) hl
 unfold aI
 omega
theorem CU (b:Big) (l:Int) (row:List Bool) (v:Bool) (hn:b.nodes.length≤1000) (hl:∀i (h:i<b.nodes.length),(b.nodes[i]).links.length≤1000) (hr:b.nodes.length≤row.length):FnD Tryz.prog 198 [b.D,.i l,.l 1 (row.map .b),.b v] (.d (.i (m7 row v (aI b l)))):=by
 have f1:=mB b l hn hl
 have hp:∀q∈aI b l,∃n:Nat,q.1=(n:Int)∧n<row.length:=fun q hq=>by
  obtain ⟨i,k,hi,_,_,e⟩:=eN.1 hq
  exact ⟨i,by rw [e],by omega⟩
 refine ah Tryz.func198 (fun hw W0=>?_)
 have hpl:(aI b l).length≤1000000:=fh b l hn hl
 revert f1 hp hpl
 generalize aI b l=ps
 intro f1 hp hpl
 refine kgo ?_
 refine eX (fun i:Nat=>i≤ps.length) (fun i=>ps.length - i) (fun i=>[(2,.sy (.d (.l 1 (row.map .b)))),(3,.sy (.d (.b v))),(9,.sy (.d (.l 2 (ps.map mS)))),(10,.sy (.d (.i (m7 row v (ps.take i))))),(11,.sy (.d (.i i)))]) 0 (Nat.zero_le _) (fun i hi=>?_)
 refine kgo ?_
 refine cIf (fun h=>?_) (fun h=>?_)
 ·have h:=of_decide_eq_true h
  have hlt:i<ps.length:=by omega
  obtain ⟨n,hq,hnr⟩:=hp _ (List.getElem_mem hlt)
  have hsu:=yw row v ps i hlt
  have hm:m7 row v (ps.take i)≤ps.length:=Nat.le_trans (List.length_filter_le _ _) (by rw [List.length_take];omega)
  rw [hq,show (n:Int).toNat=n from rfl,List.getD_eq_getElem?_getD,List.getElem?_eq_getElem hnr,Option.getD_some] at hsu
  refine kgo ?_
  refine ex (n:=n) (fun _=>?_) rfl rfl (congrArg some hq)
  refine kgo ?_
  refine cIf (fun h2=>?_) (fun h2=>?_)
  ·rw [if_pos h2] at hsu
   have hs:D.i ((m7 row v (ps.take (i+1)):Nat):Int)=D.i ((m7 row v (ps.take i):Nat)+1):=by rw [hsu];rfl
   refine kgo ?_
   exact af (i+1) hlt (by omega)
  ·rw [if_neg (by rw [h2];exact Bool.false_ne_true)] at hsu
   have hs:D.i ((m7 row v (ps.take (i+1)):Nat):Int)=D.i (m7 row v (ps.take i):Nat):=by rw [hsu]
   refine kgo ?_
   exact af (i+1) hlt (by omega)
 ·have h:=of_decide_eq_false h
  refine kgo ?_
  rw [List.take_of_length_le (by omega)]
  exact ar
theorem Cb (r:Big) (m:Mat) (p:Int) (hl:r.sites.length≤1000) (hs:fT m.nodes p=true) (hh:0<(bA r (dv m.nodes p)).length):FnD Tryz.prog 204 [r.D,m.D,.i p] (.d (.i (lv r m.nodes p))):=by
 refine ah Tryz.func204 (fun hw W0=>?_)
 have hml:=(wfM hw.2.1.1).1
 refine kgo ?_
 refine eX (fun i:Nat=>i≤m.nodes.length∧fT (m.nodes.take i) p=false) (fun i=>m.nodes.length - i) (fun i=>[(2,.sy (.d (.i p))),(3,.sy (.bx 10003 0)),(10003,.tk (.bx (flat r.D))),(4,.sy (.bx 10004 0)),(10004,.tk (.bx (flat m.D))),(7,.sy (.d (.i i)))]) 0 ⟨Nat.zero_le _,rfl⟩ (fun i hi=>?_)
 refine kgo ?_
 refine cIf (fun h=>?_) (fun h=>?_)
 ·have h:=of_decide_eq_true h
  have hlt:i<m.nodes.length:=by omega
  refine kgo ?_
  refine cIf (fun h2=>?_) (fun h2=>?_)
  ·have h2:=of_decide_eq_true h2
   have hix:dv m.nodes p=(i:Int):=uy p m.nodes i hlt h2 (by have:=hi.2;unfold fT at this;rw [← this];congr 1;funext x;exact Bool.beq_comm ..)
   have f1:=mC r i (by omega)
   rw [← hix] at f1
   have f1:FnD Tryz.prog 195 [r.D,.i i] (.d (DI (bA r (dv m.nodes p)))):=by rw [hix] at f1 ⊢;exact f1
   have hz:(0:Int)≤0∧(0:Int)<((bA r (dv m.nodes p)).length:Int):=⟨Int.le_refl _,by omega⟩
   have hso:lv r m.nodes p=(bA r (dv m.nodes p))[0]:=by unfold lv atI;simp [List.getElem?_eq_getElem hh]
   refine kgo ?_
   rw [hso]
   exact ar
  ·have h2:=of_decide_eq_false h2
   have hx:fT (m.nodes.take (i+1)) p=false:=by
    have:=hi.2
    unfold fT at this ⊢
    rw [List.take_succ_eq_append_getElem hlt,List.any_append,this]
    simp;omega
   refine kgo ?_
   exact af (i+1) ⟨hlt,hx⟩ (by omega)
 ·have h:=of_decide_eq_false h
  have:=hi.2
  rw [List.take_of_length_le (by omega),hs] at this
  cases this
theorem A2:∀i:Fin 26,(⟨#[97,98,99,100,101,102,103,104,105,106,107,108,109,110,111,112,113,114,115,116,117,118,119,120,121,122]⟩:ByteArray).extract i (i+1)=⟨#[UInt8.ofNat (97+i)]⟩:=by decide
theorem yr (i:Nat) (hi:i<26):FnD Tryz.prog 199 [.i i] (.d (.s ⟨#[UInt8.ofNat (97+i)]⟩)):=by
 refine ah Tryz.func199 (fun hw W0=>?_)
 have hij:i≤i+1∧i+1≤(⟨#[97,98,99,100,101,102,103,104,105,106,107,108,109,110,111,112,113,114,115,116,117,118,119,120,121,122]⟩:ByteArray).size:=⟨by omega,by show i+1≤26;omega⟩
 have hl:=A2 ⟨i,hi⟩
 simp only at hl
 rw [← hl]
 refine kgo ?_
 exact ar
end Go.Proofs.YtclpbhoekmecjaaGreatDoor
namespace Go.Proofs.YtclpbhoekmecjaaGreatDoor
open Go.RowKit
set_option linter.unusedVariables false
set_option maxRecDepth 100000
set_option maxHeartbeats 4000000
attribute [local irreducible] aq Der At
def tkF (row:List Bool) (v:Bool) (i:Nat):Bool:=row.getD i false == v
def atN (row:List Bool) (v:Bool) (i:Nat):Int:=((List.range i).filter (tkF row v)).length
def atL (row:List Bool) (v:Bool) (n:Nat):List Int:=(List.range n).map (atN row v)
def tB (row:List Bool) (v dn:Bool) (p:Int):Int:=if decide (0≤p) && tkF row v p.toNat then atN row v p.toNat else if dn then -1 else p
def FT (row:List Bool) (v dn:Bool) (ks:List Int) (n:Nd):Nd:=⟨n.control,tB row v dn n.parent,eP ks n.links⟩
def gQ (b:Big) (row:List Bool) (v dn:Bool) (ks:List Int) (n:Nat):List Nd:=((List.range n).filter (tkF row v)).map fun (i:Nat)=>FT row v dn ks (ew b (i:Int))
theorem Aj (b:Big) (row:List Bool) (v dn:Bool) (ks:List Int) (n:Nat):((gQ b row v dn ks n).length:Int)=atN row v n:=by unfold gQ atN;rw [List.length_map]
theorem BW (b:Big) (row:List Bool) (v dn:Bool) (ks:List Int) (n:Nat):(gQ b row v dn ks n).length≤n:=by
 unfold gQ;rw [List.length_map];exact Nat.le_trans (List.length_filter_le _ _) (by rw [List.length_range];exact Nat.le_refl _)
theorem yH (b:Big) (row:List Bool) (v dn:Bool) (ks:List Int) (n:Nat):gQ b row v dn ks (n+1)=if tkF row v n=true then gQ b row v dn ks n++[FT row v dn ks (ew b n)] else gQ b row v dn ks n:=by
 unfold gQ
 rw [List.range_succ,List.filter_append]
 by_cases h:tkF row v n=true <;> simp [h]
theorem wX (row:List Bool) (v:Bool) (n:Nat):atL row v (n+1)=atL row v n++[atN row v n]:=by unfold atL;rw [List.range_succ,List.map_append];rfl
theorem jy (row:List Bool) (v:Bool) (n:Nat):(atL row v n).length=n:=by unfold atL;simp
theorem GQ (row:List Bool) (v:Bool) (n i:Nat) (h:i<(atL row v n).length):(atL row v n)[i]=atN row v i:=by simp [atL]
theorem sS (row:List Bool) (v:Bool) (i:Nat) (h:i<row.length):tkF row v i=(row[i] == v):=by unfold tkF;rw [List.getD_eq_getElem?_getD,List.getElem?_eq_getElem h];rfl
theorem xf (b:Big) (row:List Bool) (v dn:Bool) (ks:List Int) (hl:b.nodes.length≤1000) (hr:b.nodes.length≤row.length) (hup:∀i (h:i<b.nodes.length),(b.nodes[i]).parent<i) (hll:∀n∈b.nodes,n.links.length≤1000) (hlk:∀n∈b.nodes,∀l∈n.links,0≤l∧l<(ks.length:Int)):FnD Tryz.prog 202 [b.D,.l 1 (row.map .b),.b v,DI ks,.b dn] (.row 3 131 ((gQ b row v dn ks b.nodes.length).map Nd.D)):=by
 refine ah Tryz.func202 (fun hw W0=>?_)
 refine kgo ?_
 refine eX (fun i:Nat=>i≤b.nodes.length) (fun i=>b.nodes.length - i) (fun i=>[(1,.sy (.d (.l 1 (row.map .b)))),(2,.sy (.d (.b v))),(3,.sy (.d (DI ks))),(4,.sy (.d (.b dn))),(5,.sy (.bx 10005 0)),(10005,.tk (.bx (flat b.D))),(11,.sy (.k 10017)),(10017,.tk (.row 3 131 ((gQ b row v dn ks i).map Nd.D))),(12,.sy (.k 10018)),(10018,.tk (.row 1 3 ((atL row v i).map .i))),(13,.sy (.d (.i i)))]) 0 (Nat.zero_le _) (fun i hi=>?_)
 refine kgo ?_
 refine cIf (fun h=>?_) (fun h=>?_)
 ·have h:=of_decide_eq_true h
  have hlt:i<b.nodes.length:=by omega
  have hir:i<row.length:=by omega
  have hm:=List.getElem_mem hlt
  have hL:=hll _ hm
  have hK:=hlk _ hm
  have hU:=hup i hlt
  have hq:=BW b row v dn ks i
  have hat:=jy row v i
  have hsa:(atL row v (i+1)).map D.i=(atL row v i).map D.i++[.i ((gQ b row v dn ks i).map Nd.D).length]:=by rw [wX,List.map_append,List.length_map,Aj];rfl
  have hst:=yH b row v dn ks i
  rw [sS row v i hir,av b i hlt] at hst
  refine kgo ?_
  refine cIf (fun h2=>?_) (fun h2=>?_)
  ·rw [Bool.not_eq_true'] at h2
   rw [if_neg (by rw [h2];exact Bool.false_ne_true)] at hst
   have hs:(gQ b row v dn ks (i+1)).map Nd.D=(gQ b row v dn ks i).map Nd.D:=by rw [hst]
   refine kgo ?_
   exact af (i+1) hlt (by omega)
  ·rw [Bool.not_eq_false'] at h2
   rw [if_pos h2] at hst
   have hs:(gQ b row v dn ks (i+1)).map Nd.D=(gQ b row v dn ks i).map Nd.D++[Nd.D (FT row v dn ks b.nodes[i])]:=by rw [hst,List.map_append];rfl
   refine kgo ?_
   cases hc:decide (0≤(b.nodes[i]).parent)
   have hT:tB row v dn (b.nodes[i]).parent=if dn=true then -1 else (b.nodes[i]).parent:=by unfold tB;rw [hc];rfl
   refine kgo ?_
   refine cIf (fun h4=>?_) (fun h4=>?_)
   have hP:D.i (tB row v dn (b.nodes[i]).parent)=D.i (-1):=by rw [hT,h4];rfl
   rotate_left
   have hP:D.i (tB row v dn (b.nodes[i]).parent)=D.i (b.nodes[i]).parent:=by rw [hT,h4];rfl
   rotate_left
   have hc':=of_decide_eq_true hc
   obtain ⟨j,hj⟩:=Int.eq_ofNat_of_zero_le hc'
   have hjr:j<row.length:=by omega
   have hT:tB row v dn (b.nodes[i]).parent=if (row[j] == v)=true then atN row v j else if dn=true then -1 else (b.nodes[i]).parent:=by unfold tB;rw [hc,hj,← sS row v j hjr];rfl
   refine kgo ?_
   refine ex (n:=j) (fun _=>?_) rfl rfl (congrArg some hj)
   refine kgo ?_
   refine cIf (fun h3=>?_) (fun h3=>?_)
   have hnj:j<((atL row v i).map D.i++[D.i ((gQ b row v dn ks i).map Nd.D).length]).length:=by rw [List.length_append,List.length_map,hat];show j<i+1;omega
   have hnk:j<(atL row v (i+1)).length:=by rw [jy];omega
   have hP:D.i (tB row v dn (b.nodes[i]).parent)=D.i (atL row v (i+1))[j]:=by rw [hT,if_pos h3,GQ row v (i+1) j hnk]
   refine kgo ?_
   refine bL (n:=j) ?_ rfl rfl rfl (congrArg some hj)
   refine aS (f:=D.i) (l:=atL row v (i+1)) ?_ rfl (by exact jN rfl hsa.symm) hnk
   rotate_left
   rw [if_neg (by rw [h3];exact Bool.false_ne_true)] at hT
   refine kgo ?_
   refine cIf (fun h4=>?_) (fun h4=>?_)
   have hP:D.i (tB row v dn (b.nodes[i]).parent)=D.i (-1):=by rw [hT,h4];rfl
   rotate_left
   have hP:D.i (tB row v dn (b.nodes[i]).parent)=D.i (b.nodes[i]).parent:=by rw [hT,h4];rfl
   all_goals
    refine kgo ?_
    refine eX (fun k:Nat=>k≤(b.nodes[i]).links.length) (fun k=>(b.nodes[i]).links.length - k) (fun k=>[(1,.sy (.d (.l 1 (row.map .b)))),(2,.sy (.d (.b v))),(3,.sy (.d (DI ks))),(4,.sy (.d (.b dn))),(5,.sy (.bx 10005 0)),(10005,.tk (.bx (flat b.D))),(11,.sy (.k 10017)),(10017,.tk (.row 3 131 ((gQ b row v dn ks i).map Nd.D))),(12,.sy (.k 10030)),(10030,.tk (.row 1 3 ((atL row v (i+1)).map .i))),(13,.sy (.d (.i i))),(14,.sy (.d (.i (tB row v dn (b.nodes[i]).parent)))),(15,.sy (.k 10058)),(10058,.tk (.row 1 3 ((eP ks ((b.nodes[i]).links.take k)).map .i))),(16,.sy (.d (.i k)))]) 0 (Nat.zero_le _) (fun k hk=>?_)
    refine kgo ?_
    refine cIf (fun h5=>?_) (fun h5=>?_)
    ·have h5:=of_decide_eq_true h5
     have hkl:k<(b.nodes[i]).links.length:=by omega
     have hk2:=hK _ (List.getElem_mem hkl)
     have hs5:(eP ks ((b.nodes[i]).links.take (k+1))).map D.i=(eP ks ((b.nodes[i]).links.take k)).map D.i++[.i (atI ks (b.nodes[i]).links[k])]:=by rw [oD ks k hkl,List.map_append];rfl
     have hq5:(eP ks ((b.nodes[i]).links.take k)).length≤1000:=by unfold eP;rw [List.length_map,List.length_take];omega
     refine kgo ?_
     exact af (k+1) hkl (by omega)
    ·have h5:=of_decide_eq_false h5
     rw [show (b.nodes[i]).links.take k=(b.nodes[i]).links from List.take_of_length_le (by omega)]
     repeat (first|(refine cI ?_;first|refine aU ?_|refine cb ?_|refine bp ?_|refine bk ?_|refine aS ?_|refine be ?_|refine bc ?_|refine aB ?_|refine bm ?_|refine bo ?_)|(refine fQ ?_;first|refine b6 ?_|refine fH ?_|refine cm ?_|refine cE ?_)|(refine fB ?_;first|refine ex (fun _=>?_)|refine cr ?_|refine ci ?_|refine bL ?_|refine ch ?_|refine cd ?_|refine ca ?_)|(refine fJ ?_;first|refine cF ?_|refine fb ?_|refine cu ?_|refine bS ?_|refine ck ?_|refine cz ?_|refine ct ?_)|(refine fE ?_;first|refine fM ?_|refine fq ?_|refine cj ?_|refine bY ?_|refine fF ?_|refine bg ?_|refine bf ?_)|(refine co ?_;first|refine br ?_|refine cH ?_)|(refine fK ?_;first|refine cB ?_|refine cy ?_|refine fL ?_)|(refine b9 ?_;first|refine cG ?_|refine aY ?_|refine aR ?_|refine aZ ?_|refine aW ?_|refine bj ?_)|(refine fC ?_;first|refine cf ?_|refine fA ?_|refine bh ?_|refine aT ?_|refine bq ?_)|(refine aN ?_;first|refine aw _ ?_|refine ba ?_|refine aC ?_|refine az ?_|refine aD ?_)|(refine fG ?_;first|refine cC ?_|refine bR ?_|refine cA ?_)|(refine gOp ?_;first|refine fI ?_|refine fP ?_|refine bl ?_|refine fO ?_|refine fN ?_|refine cD ?_|refine aV ?_|refine cw ?_|refine fR ?_|refine bV ?_|refine cq ?_|refine aX ?_|refine sFz 93 ?_|refine aA ?_|refine cg ?_|refine sNo ?_|refine fa ?_|refine ay ?_)|refine e9 ?_|refine dD ?_|refine fU ?_|refine bu ?_|refine bU ?_|refine bE ?_|refine fX ?_|refine fy ?_|refine fp ?_|refine dP ?_|refine cL ?_|refine aM ?_|refine ax ?_|refine bt ?_|refine cK ?_|refine bF ?_|refine cM ?_|refine cN ?_|refine sFz 93 ?_)
     exact af (i+1) hlt (by omega)
 ·have h:=of_decide_eq_false h
  refine kgo ?_
  rw [show i=b.nodes.length by omega]
  exact pE
end Go.Proofs.YtclpbhoekmecjaaGreatDoor
namespace Go.Proofs.YtclpbhoekmecjaaGreatDoor
open Go.RowKit
set_option linter.unusedVariables false
set_option maxRecDepth 100000
set_option maxHeartbeats 4000000
attribute [local irreducible] aq Der At
def po (to:List Int) (p:Int):Int:=if p<0 then p else atI to p
theorem rV (p:Int) (to:List Int) (hp:p<to.length):FnD Tryz.prog 189 [.i p,DI to] (.d (.i (po to p))):=by
 refine ah Tryz.func189 (fun hw W0=>?_)
 refine kgo ?_
 refine cIf (fun h=>?_) (fun h=>?_)
 ·have h:=of_decide_eq_true h
  rw [show po to p=p from if_pos h]
  refine kgo ?_
  exact ar
 ·have h:=of_decide_eq_false h
  rw [show po to p=atI to p from if_neg h]
  refine kgo ?_
  exact ar
theorem EC {sig:List Ctl} {r a:Big} {ns:List Int} (h:oq r a ns) (hr:aF sig r=true) (ha:aF sig a=true) (l:Int) (j:Nat) (hj:j<(aI r l).length):∃mm:Nat,∃hm:mm<a.nodes.length,(0≤((aI r l)[j]).1∧((aI r l)[j]).1<ns.length)∧atI ns ((aI r l)[j]).1=(mm:Int)∧(0≤((aI r l)[j]).2∧((aI r l)[j]).2<(a.nodes[mm]).links.length)∧iy a ns (aI r l)[j]=atI (a.nodes[mm]).links ((aI r l)[j]).2:=by
 obtain ⟨i,k,hi,hk,_,hq⟩:=eN.1 (List.getElem_mem hj)
 obtain ⟨mm,hm,hl,e1,e2⟩:=h.img hr ha hi hk
 have:=h.len
 refine ⟨mm,hm,by rw [hq];dsimp only;omega,by rw [hq];exact e1,by rw [hq];dsimp only;omega,?_⟩
 rw [hq,e2];exact (b8 _ k hl).symm
theorem AN {sig:List Ctl} {r a:Big} (m:Mat) (l:Nat) (hbr:aF sig r=true) (hba:aF sig a=true) (him:oq r a m.nodes) (hp0:aI r l≠[]):FnD Tryz.prog 196 [r.D,a.D,m.D,.i l] (.tp [.i (ng r a m.nodes l),.b (io r a m.nodes l)]):=by
 have dr:=bB hbr
 have da:=bB hba
 have h0:0<(aI r l).length:=List.length_pos_iff.2 hp0
 have hpa:=EC him hbr hba l
 have hpl:=fh r l dr.3 dr.7
 have f1:=mB r l dr.3 dr.7
 have f2:=mB a (ng r a m.nodes l) da.3 da.7
 have hpl2:=fh a (ng r a m.nodes l) da.3 da.7
 have hhead:ng r a m.nodes l=iy a m.nodes (aI r l)[0]:=uR _ _ _ h0
 have hla:io r a m.nodes l=((aI r l).all (fun q=>decide (iy a m.nodes q=ng r a m.nodes l)) && (!(decide ((l:Int)<r.edges)) || (decide (ng r a m.nodes l<a.edges) && decide ((aI a (ng r a m.nodes l)).length=(aI r l).length)))):=rfl
 obtain ⟨m0,hm0,q1,q2,q3,q4⟩:=hpa 0 h0
 rw [q4] at hhead
 revert hla f2 hpl2 hhead
 generalize ng r a m.nodes l=im
 generalize io r a m.nodes l=la
 generalize aI r l=ps at *
 intro f2 hpl2 hla hhead
 refine ah Tryz.func196 (fun hw W0=>?_)
 refine kgo ?_
 refine ex (n:=m0) (fun _=>?_) rfl rfl (congrArg some q2)
 refine kgo ?_
 rw [← hhead]
 refine aj [3,4,5,6,10,11] (fun j:Nat=>1≤j∧j≤ps.length∧(ps.take j).all (fun q=>decide (iy a m.nodes q=im))=true) (fun j=>ps.length - j) (fun j=>[(12,.sy (.d (.i j)))]) 1 ⟨Nat.le_refl _,h0,by rw [List.take_succ_eq_append_getElem h0,List.take_zero,List.nil_append,List.all_cons,q4,hhead,decide_eq_true rfl];rfl⟩ (fun j hj=>?_)
 refine kgo ?_
 refine aO (fun h2=>?_) (fun h2=>?_)
 ·have hlt:j<ps.length:=by omega
  obtain ⟨mj,hmj,p1,p2,p3,p4⟩:=hpa j hlt
  refine kgo ?_
  refine ex (n:=mj) (fun _=>?_) rfl rfl (congrArg some p2)
  refine kgo ?_
  rw [← p4]
  refine kJ (fun h5=>?_) (fun h5=>?_)
  ·rw [show ps.all (fun q=>decide (iy a m.nodes q=im))=false from List.all_eq_false.2 ⟨_,List.getElem_mem hlt,by rw [decide_eq_false h5];exact Bool.false_ne_true⟩,Bool.false_and] at hla
   refine kgo ?_
   rw [hla]
   exact g8
  ·refine kgo ?_
   exact af (j+1) ⟨by omega,hlt,by rw [List.take_succ_eq_append_getElem hlt,List.all_append,hj.2.2,List.all_cons,decide_eq_true h5];rfl⟩ (by omega)
 rw [gC _ _ j (by omega) hj.2.2,Bool.true_and] at hla
 refine kgo ?_
 refine aO (fun h3=>?_) (fun h3=>?_)
 ·rw [decide_eq_true h3,Bool.not_true,Bool.false_or] at hla
  refine kgo ?_
  cases h4:decide (im<a.edges)
  ·rw [h4] at hla
   refine kgo ?_
   rw [hla]
   exact g8
  ·rw [h4] at hla
   refine kgo ?_
   rw [hla]
   rw [show decide ((aI a im).length=ps.length)=decide (((aI a im).length:Int)=(ps.length:Int)) from decide_eq_decide.2 (by omega)]
   exact g8
 ·rw [decide_eq_false h3] at hla
  refine kgo ?_
  rw [hla]
  exact g8
theorem uc {sig:List Ctl} {r a:Big} (m:Mat) (hbr:aF sig r=true) (hba:aF sig a=true) (him:oq r a m.nodes) (hp0:∀l:Nat,l<al r→aI r l≠[]):FnD Tryz.prog 132 [r.D,a.D,m.D] (.tp [DI (o7 r a m.nodes),.b (gB r a m.nodes)]):=by
 have hdr:=aL hbr
 have hlr:r.edges+(r.outer.length:Int)=(al r:Nat):=by unfold al;omega
 have hlb:al r≤1000:=by unfold al;omega
 refine ah Tryz.func132 (fun hw W0=>?_)
 refine kgo ?_
 refine aj [3,4,5] (fun i:Nat=>i≤al r∧(List.range i).all (io r a m.nodes)=true) (fun i=>al r - i) (fun i=>[(8,.sy (.k 20001)),(20001,.tk (.row 1 3 ((gS r a m.nodes i).map .i))),(9,.sy (.d (.i i)))]) 0 ⟨Nat.zero_le _,rfl⟩ (fun i hi=>?_)
 refine kgo ?_
 refine aO (fun h=>?_) (fun h=>?_)
 ·have hlt:i<al r:=by omega
  have f1:=AN m i hbr hba him (hp0 i hlt)
  have hs:(gS r a m.nodes (i+1)).map D.i=(gS r a m.nodes i).map D.i++[.i (ng r a m.nodes i)]:=by rw [qJ,List.map_append];rfl
  have hil:(gS r a m.nodes i).length=i:=by unfold gS;simp
  refine kgo ?_
  refine cIf (fun h2=>?_) (fun h2=>?_)
  ·rw [Bool.not_eq_true'] at h2
   have hb:=kK hlt h2
   rw [lV hb,hb]
   repeat (first|(refine cI ?_;first|refine aU ?_|refine cb ?_|refine bp ?_|refine bk ?_|refine aS ?_|refine be ?_|refine bc ?_|refine aB ?_|refine bm ?_|refine bo ?_)|(refine fQ ?_;first|refine b6 ?_|refine fH ?_|refine cm ?_|refine cE ?_)|(refine fB ?_;first|refine ex (fun _=>?_)|refine cr ?_|refine ci ?_|refine bL ?_|refine ch ?_|refine cd ?_|refine ca ?_)|(refine fJ ?_;first|refine cF ?_|refine fb ?_|refine cu ?_|refine bS ?_|refine ck ?_|refine cz ?_|refine ct ?_)|(refine fE ?_;first|refine fM ?_|refine fq ?_|refine cj ?_|refine bY ?_|refine fF ?_|refine bg ?_|refine bf ?_)|(refine co ?_;first|refine br ?_|refine cH ?_)|(refine fK ?_;first|refine gq (d:=6) ?_|refine cB ?_|refine cy ?_|refine fL ?_)|(refine b9 ?_;first|refine cG ?_|refine aY ?_|refine aR ?_|refine aZ ?_|refine aW ?_|refine bj ?_)|(refine fC ?_;first|refine cf ?_|refine fA ?_|refine bh ?_|refine aT ?_|refine bq ?_)|(refine aN ?_;first|refine aw _ ?_|refine ba ?_|refine aC ?_|refine az ?_|refine aD ?_)|(refine fG ?_;first|refine cC ?_|refine bR ?_|refine cA ?_)|(refine gOp ?_;first|refine fI ?_|refine fP ?_|refine bl ?_|refine fO ?_|refine fN ?_|refine cD ?_|refine aV ?_|refine cw ?_|refine fR ?_|refine bV ?_|refine cq ?_|refine aX ?_|refine aA ?_|refine cg ?_|refine sNo ?_|refine fa ?_|refine ay ?_)|refine e9 ?_|refine dD ?_|refine fU ?_|refine bu ?_|refine bU ?_|refine bE ?_|refine fX ?_|refine fy ?_|refine fp ?_|refine dP ?_|refine cL ?_|refine aM ?_|refine ax ?_|refine bt ?_|refine cK ?_|refine bF ?_|refine cM ?_|refine cN ?_)
   exact g8
  ·rw [Bool.not_eq_false'] at h2
   refine kgo ?_
   exact af (i+1) ⟨hlt,by rw [dz,hi.2,h2];rfl⟩ (by omega)
 have hb:gB r a m.nodes=true:=fu _ _ i (by omega) hi.1 hi.2
 rw [kM hb,hb,show aK r a m.nodes=gS r a m.nodes i from by rw [show i=al r by omega];rfl]
 repeat (first|(refine cI ?_;first|refine aU ?_|refine cb ?_|refine bp ?_|refine bk ?_|refine aS ?_|refine be ?_|refine bc ?_|refine aB ?_|refine bm ?_|refine bo ?_)|(refine fQ ?_;first|refine b6 ?_|refine fH ?_|refine cm ?_|refine cE ?_)|(refine fB ?_;first|refine ex (fun _=>?_)|refine cr ?_|refine ci ?_|refine bL ?_|refine ch ?_|refine cd ?_|refine ca ?_)|(refine fJ ?_;first|refine cF ?_|refine fb ?_|refine cu ?_|refine bS ?_|refine ck ?_|refine cz ?_|refine ct ?_)|(refine fE ?_;first|refine fM ?_|refine fq ?_|refine cj ?_|refine bY ?_|refine fF ?_|refine bg ?_|refine bf ?_)|(refine co ?_;first|refine br ?_|refine cH ?_)|(refine fK ?_;first|refine gq (d:=6) ?_|refine cB ?_|refine cy ?_|refine fL ?_)|(refine b9 ?_;first|refine cG ?_|refine aY ?_|refine aR ?_|refine aZ ?_|refine aW ?_|refine bj ?_)|(refine fC ?_;first|refine cf ?_|refine fA ?_|refine bh ?_|refine aT ?_|refine bq ?_)|(refine aN ?_;first|refine aw _ ?_|refine ba ?_|refine aC ?_|refine az ?_|refine aD ?_)|(refine fG ?_;first|refine cC ?_|refine bR ?_|refine cA ?_)|(refine gOp ?_;first|refine fI ?_|refine fP ?_|refine bl ?_|refine fO ?_|refine fN ?_|refine cD ?_|refine aV ?_|refine cw ?_|refine fR ?_|refine bV ?_|refine cq ?_|refine aX ?_|refine aA ?_|refine cg ?_|refine sNo ?_|refine fa ?_|refine ay ?_)|refine e9 ?_|refine dD ?_|refine fU ?_|refine bu ?_|refine bU ?_|refine bE ?_|refine fX ?_|refine fy ?_|refine fp ?_|refine dP ?_|refine cL ?_|refine aM ?_|refine ax ?_|refine bt ?_|refine cK ?_|refine bF ?_|refine cM ?_|refine cN ?_)
 exact g8
end Go.Proofs.YtclpbhoekmecjaaGreatDoor
namespace Go.Proofs.YtclpbhoekmecjaaGreatDoor
open Go.RowKit
set_option linter.unusedVariables false
set_option maxRecDepth 100000
set_option maxHeartbeats 4000000
attribute [local irreducible] aq Der At
def ft (ims:List Int) (re l:Nat):Bool:=!fT (ims.take re) l
def iT (f:Nat→Bool) (n:Nat):Int:=((List.range n).filter f).length
def jF (f:Nat→Bool) (n:Nat):List Int:=(List.range n).map fun l=>if f l=true then iT f l else -1
theorem x8 (f:Nat→Bool) (n:Nat):jF f (n+1)=jF f n++[if f n=true then iT f n else -1]:=by unfold jF;rw [List.range_succ,List.map_append];rfl
theorem yu (f:Nat→Bool) (n:Nat):iT f (n+1)=if f n=true then iT f n+1 else iT f n:=by
 unfold iT
 rw [List.range_succ,List.filter_append]
 by_cases h:f n=true <;> simp [h]
theorem wn (f:Nat→Bool) (n:Nat):0≤iT f n∧iT f n≤n:=by
 unfold iT
 have:=List.length_filter_le f (List.range n)
 rw [List.length_range] at this
 omega
def Eg (a:Big) (ns:List Int) (k:Nat):Bool:=!iF a ns k
def dC (a:Big) (ns:List Int) (n:Nat):List Bool:=(List.range n).map (Eg a ns)
theorem uM (a:Big) (ns:List Int) (n:Nat):dC a ns (n+1)=dC a ns n++[Eg a ns n]:=by unfold dC;rw [List.range_succ,List.map_append];rfl
theorem BX (row:List Bool) (v:Bool) (n:Nat):atN row v (n+1)=if tkF row v n=true then atN row v n+1 else atN row v n:=by
 unfold atN
 rw [List.range_succ,List.filter_append]
 by_cases h:tkF row v n=true <;> simp [h]
theorem Gb (row:List Bool) (v:Bool) (n:Nat):0≤atN row v n∧atN row v n≤n:=by
 unfold atN
 have:=List.length_filter_le (tkF row v) (List.range n)
 rw [List.length_range] at this
 omega
def toK (row:List Bool) (i k:Nat):List Int:=atL row true i++[atN row true k]
theorem ES (row:List Bool) (i k:Nat):(toK row i k).length=i+1:=by unfold toK;rw [List.length_append,jy];rfl
theorem GO (row:List Bool) (i k:Nat) (h:i<(toK row i k).length):(toK row i k)[i]=atN row true k:=by
 have h1:(toK row i k)[i]? = some (atN row true k):=by
  unfold toK
  rw [List.getElem?_append_right (by rw [jy];exact Nat.le_refl _),jy,Nat.sub_self];rfl
 rw [List.getElem?_eq_getElem h] at h1
 exact Option.some.inj h1
theorem E3 (row:List Bool) (i k:Nat) (x:Int) (hx:atN row true (k+1)=x):(toK row i k).set i x=toK row i (k+1):=by
 unfold toK
 rw [List.set_append_right _ _ (by rw [jy];exact Nat.le_refl _),jy,Nat.sub_self,hx];rfl
def me (r a:Big) (ns:List Int):List Int:=jF (ft (aK r a ns) r.edges.toNat) a.edges.toNat++fg (iT (ft (aK r a ns) r.edges.toNat) a.edges.toNat) a.outer.length
def o6 (r:Big) (lk ims:List Int):List Wr:=r.outer.mapIdx fun i s=>⟨s,atI lk (atI ims (r.edges+i))⟩
def zW (lk ps:List Int) (names:List ByteArray):List Wr:=names.mapIdx fun i s=>⟨s,atI lk (atI ps i)⟩
def FV (r a:Big) (m:Mat) (ps:List Int) (names:List ByteArray):Big:=
 ⟨a.roots,gQ a (dC a m.nodes a.nodes.length) true false (me r a m.nodes) a.nodes.length,m.roots.map (po (atL (dC a m.nodes a.nodes.length) true a.nodes.length)),iT (ft (aK r a m.nodes) r.edges.toNat) a.edges.toNat,a.outer,bQ (o6 r (me r a m.nodes) (aK r a m.nodes)) (zW (me r a m.nodes) ps names)⟩
theorem zc {sig:List Ctl} {r a:Big} {ns:List Int} (h:oq r a ns) (hr:aF sig r=true) (ha:aF sig a=true) {l:Int} (hp:aI r l≠[]):dU a (ng r a ns l)=true:=by
 cases hc:aI r l with
 | nil=>exact absurd hc hp
 | cons q u=>
  have h1:=h.img_link hr ha (q:=q) (l:=l) (by rw [hc];simp)
  rwa [show ng r a ns l=iy a ns q from by unfold ng;rw [hc]]
theorem zG {sig:List Ctl} {r a:Big} {ns:List Int} (h:oq r a ns) (hr:aF sig r=true) (ha:aF sig a=true) (hp0:∀l:Nat,l<al r→aI r l≠[]) (j:Int) (h0:0≤j) (h1:j<(al r:Int)):0≤atI (aK r a ns) j∧atI (aK r a ns) j<(al a:Int):=by
 obtain ⟨k,rfl⟩:=Int.eq_ofNat_of_zero_le h0
 have hk:k<(aK r a ns).length:=by unfold aK;simp;omega
 rw [b8 _ k hk,show (aK r a ns)[k]=ng r a ns k from by simp [aK]]
 obtain ⟨n,h2,h3⟩:=gR (zc h hr ha (hp0 k (by omega)))
 rw [h2];omega
theorem uI (a b:List Wr) (w:Wr):bQ a (b++[w])=bQ (bQ a b) [w]:=by unfold bQ;rw [List.foldl_append]
theorem Ay (r:Big) (lk ims:List Int) (i:Nat) (h:i<r.outer.length):(o6 r lk ims).take (i+1)=(o6 r lk ims).take i++[⟨r.outer[i],atI lk (atI ims (r.edges+i))⟩]:=by
 have hl:i<(o6 r lk ims).length:=by unfold o6;simpa using h
 rw [List.take_succ_eq_append_getElem hl];simp [o6]
theorem Fa (lk ps:List Int) (names:List ByteArray) (i:Nat) (h:i<names.length):(zW lk ps names).take (i+1)=(zW lk ps names).take i++[⟨names[i],atI lk (atI ps i)⟩]:=by
 have hl:i<(zW lk ps names).length:=by unfold zW;simpa using h
 rw [List.take_succ_eq_append_getElem hl];simp [zW]
theorem uW {sig:List Ctl} {r a:Big} (m:Mat) (hbr:aF sig r=true) (hba:aF sig a=true) (him:oq r a m.nodes) (hp0:∀l:Nat,l<al r→aI r l≠[]) (hL:gB r a m.nodes=true) (hrt:∀p∈m.roots,p<(a.nodes.length:Int)) (hrl:m.roots.length≤1000) (ps:List Int) (names:List ByteArray) (hps:∀l∈ps,0≤l∧l<(al a:Int)) (hnm:names.length=ps.length) (hpl:ps.length≤500):FnD Tryz.prog 135 [r.D,a.D,m.D,DI ps,DS names] (.d (FV r a m ps names).D):=by
 have f1:=uc m hbr hba him hp0
 rw [hL,kM hL] at f1
 have ha:=aL hba
 have hr:=aL hbr
 obtain ⟨ae,hae⟩:=Int.eq_ofNat_of_zero_le ha.2.2.2.1.1
 obtain ⟨re,hre⟩:=Int.eq_ofNat_of_zero_le hr.2.2.2.1.1
 have hil:(aK r a m.nodes).length=al r:=by unfold aK;simp
 have hix:=zG him hbr hba hp0
 have hE:FV r a m ps names=⟨a.roots,gQ a (dC a m.nodes a.nodes.length) true false (me r a m.nodes) a.nodes.length,m.roots.map (po (atL (dC a m.nodes a.nodes.length) true a.nodes.length)),iT (ft (aK r a m.nodes) re) ae,a.outer,bQ (o6 r (me r a m.nodes) (aK r a m.nodes)) (zW (me r a m.nodes) ps names)⟩:=by unfold FV;rw [hae,hre];rfl
 have hlkE:me r a m.nodes=jF (ft (aK r a m.nodes) re) ae++fg (iT (ft (aK r a m.nodes) re) ae) a.outer.length:=by unfold me;rw [hae,hre];rfl
 have hna:al a=ae+a.outer.length:=by unfold al;omega
 have hnr:al r=re+r.outer.length:=by unfold al;omega
 have hlkl:(me r a m.nodes).length=al a:=by rw [hlkE,List.length_append,eU,hna];unfold jF;simp
 have hup:=fun i h=>(iG hba i h).2
 have hnode:=eS hba
 have hnl:∀n∈a.nodes,n.links.length≤1000∧∀l∈n.links,0≤l∧l<(al a:Int):=fun n hn=>by
  obtain ⟨k,hk,rfl⟩:=List.mem_iff_getElem.1 hn
  obtain ⟨_,_,_,c3,c4⟩:=hnode k hk
  refine ⟨by have:=(bB hba).7 k hk;omega,fun l hl=>?_⟩
  obtain ⟨j,rfl,hj⟩:=gR (c4 l hl)
  omega
 rw [hE]
 clear hE
 revert f1 hil hix hlkE hlkl
 generalize aK r a m.nodes=ims
 generalize me r a m.nodes=lk
 intro f1 hil hix hlkE hlkl
 refine ah Tryz.func135 (fun hw W0=>?_)
 repeat (first|(refine cI ?_;first|refine aU ?_|refine cb ?_|refine bp ?_|refine bk ?_|refine aS ?_|refine be ?_|refine bc ?_|refine aB ?_|refine bm ?_|refine bo ?_)|(refine fQ ?_;first|refine b6 ?_|refine fH ?_|refine cm ?_|refine cE ?_)|(refine fB ?_;first|refine ex (fun _=>?_)|refine cr ?_|refine ci ?_|refine bL ?_|refine ch ?_|refine cd ?_|refine ca ?_)|(refine fJ ?_;first|refine cF ?_|refine fb ?_|refine cu ?_|refine bS ?_|refine ck ?_|refine cz ?_|refine ct ?_)|(refine fE ?_;first|refine fM ?_|refine fq ?_|refine cj ?_|refine bY ?_|refine fF ?_|refine bg ?_|refine bf ?_)|(refine co ?_;first|refine br ?_|refine cH ?_)|(refine fK ?_;first|refine cB ?_|refine cy ?_|refine fL ?_)|(refine b9 ?_;first|refine cG ?_|refine aY ?_|refine aR ?_|refine aZ ?_|refine aW ?_|refine bj ?_)|(refine fC ?_;first|refine cf ?_|refine fA ?_|refine bh ?_|refine aT ?_|refine bq ?_)|(refine aN ?_;first|refine aw _ ?_|refine ba ?_|refine aC ?_|refine az ?_|refine aD ?_)|(refine fG ?_;first|refine cC ?_|refine bR ?_|refine cA ?_)|(refine gOp ?_;first|refine fI ?_|refine fP ?_|refine bl ?_|refine fO ?_|refine fN ?_|refine cD ?_|refine aV ?_|refine cw ?_|refine fR ?_|refine bV ?_|refine cq ?_|refine aX ?_|refine sFz 36 ?_|refine aA ?_|refine cg ?_|refine sNo ?_|refine fa ?_|refine ay ?_)|refine e9 ?_|refine dD ?_|refine fU ?_|refine bu ?_|refine bU ?_|refine bE ?_|refine fX ?_|refine fy ?_|refine fp ?_|refine dP ?_|refine cL ?_|refine aM ?_|refine ax ?_|refine bt ?_|refine cK ?_|refine bF ?_|refine cM ?_|refine cN ?_|refine sFz 36 ?_)
 refine aj [3,4,5,6,7,10,11,13] (fun i:Nat=>i≤ae) (fun i=>ae - i) (fun i=>[(10013,.tk (.bx [.d (.i a.roots),.d (.n 3),.d (.n 1),.d (.i (iT (ft ims re) i)),.d (DS a.outer),.d (.n 2)])),(14,.sy (.k 10038)),(10038,.tk (.row 1 3 ((jF (ft ims re) i).map .i))),(15,.sy (.d (.i i)))]) 0 (Nat.zero_le _) (fun i hi=>?_)
 refine kgo ?_
 refine aO (fun h=>?_) (fun h=>?_)
 ·have hlt:i<ae:=by omega
  have f2:=lG (ims.take re) i
  have hq:=x8 (ft ims re) i
  have hn1:=yu (ft ims re) i
  have hn2:=wn (ft ims re) i
  have hkl:(jF (ft ims re) i).length=i:=by unfold jF;simp
  refine kgo ?_
  refine bR (n:=re) ?_ rfl rfl (congrArg some hre)
  cases hk:fT (ims.take re) i
  ·rw [hk] at f2
   have hf:ft ims re i=true:=by unfold ft;rw [hk];rfl
   rw [if_pos hf] at hq hn1
   have hs:(jF (ft ims re) (i+1)).map D.i=(jF (ft ims re) i).map D.i++[.i (iT (ft ims re) i)]:=by rw [hq,List.map_append];rfl
   refine kgo ?_
   rw [← hn1]
   exact af (i+1) hlt (by omega)
  ·rw [hk] at f2
   have hf:¬ft ims re i=true:=by unfold ft;rw [hk];exact Bool.false_ne_true
   rw [if_neg hf] at hq hn1
   have hs:(jF (ft ims re) (i+1)).map D.i=(jF (ft ims re) i).map D.i++[.i (-1)]:=by rw [hq,List.map_append];rfl
   refine kgo ?_
   rw [← hn1]
   exact af (i+1) hlt (by omega)
 rw [show i=ae by omega]
 have hkn:=wn (ft ims re) ae
 have f3:=gZ (iT (ft ims re) ae) a.outer.length (by omega) (by omega)
 rw [Int.toNat_natCast] at f3
 have hkl:(jF (ft ims re) ae).length=ae:=by unfold jF;simp
 have hfl:=eU (iT (ft ims re) ae) a.outer.length
 have hlkD:lk.map D.i=(jF (ft ims re) ae++fg (iT (ft ims re) ae) a.outer.length).map D.i:=by rw [hlkE]
 have hmove:∀p∈m.roots,FnD Tryz.prog 189 [.i p,DI (atL (dC a m.nodes a.nodes.length) true a.nodes.length)] (.d (.i (po (atL (dC a m.nodes a.nodes.length) true a.nodes.length) p))):=fun p hp=>rV p _ (by rw [jy];exact hrt p hp)
 have hrr:∀k,k<a.nodes.length→tkF (dC a m.nodes a.nodes.length) true k=Eg a m.nodes k:=fun k hk=>by
  rw [sS _ _ _ (by unfold dC;simpa using hk)]
  simp [dC]
 have hrrl:(dC a m.nodes a.nodes.length).length=a.nodes.length:=by unfold dC;simp
 have f5:=xf a (dC a m.nodes a.nodes.length) true false lk (by omega) (by omega) hup (fun n hn=>(hnl n hn).1) (fun n hn l hl=>by rw [hlkl];exact (hnl n hn).2 l hl)
 revert hmove hrr hrrl f5
 generalize hgr:dC a m.nodes a.nodes.length=rr
 intro hmove hrr hrrl f5
 repeat (first|(refine cI ?_;first|refine aU ?_|refine cb ?_|refine bp ?_|refine bk ?_|refine aS ?_|refine be ?_|refine bc ?_|refine aB ?_|refine bm ?_|refine bo ?_)|(refine fQ ?_;first|refine b6 ?_|refine fH ?_|refine cm ?_|refine cE ?_)|(refine fB ?_;first|refine ex (fun _=>?_)|refine cr ?_|refine ci ?_|refine bL ?_|refine ch ?_|refine cd ?_|refine ca ?_)|(refine fJ ?_;first|refine cF ?_|refine fb ?_|refine cu ?_|refine bS ?_|refine ck ?_|refine cz ?_|refine ct ?_)|(refine fE ?_;first|refine fM ?_|refine fq ?_|refine cj ?_|refine bY ?_|refine fF ?_|refine bg ?_|refine bf ?_)|(refine co ?_;first|refine br ?_|refine cH ?_)|(refine fK ?_;first|refine cB ?_|refine cy ?_|refine fL ?_)|(refine b9 ?_;first|refine cG ?_|refine aY ?_|refine aR ?_|refine aZ ?_|refine aW ?_|refine bj ?_)|(refine fC ?_;first|refine cf ?_|refine fA ?_|refine bh ?_|refine aT ?_|refine bq ?_)|(refine aN ?_;first|refine aw _ ?_|refine ba ?_|refine aC ?_|refine az ?_|refine aD ?_)|(refine fG ?_;first|refine cC ?_|refine bR ?_|refine cA ?_)|(refine gOp ?_;first|refine fI ?_|refine fP ?_|refine bl ?_|refine fO ?_|refine fN ?_|refine cD ?_|refine aV ?_|refine cw ?_|refine fR ?_|refine bV ?_|refine cq ?_|refine aX ?_|refine sFz 69 ?_|refine aA ?_|refine cg ?_|refine sNo ?_|refine fa ?_|refine ay ?_)|refine e9 ?_|refine dD ?_|refine fU ?_|refine bu ?_|refine bU ?_|refine bE ?_|refine fX ?_|refine fy ?_|refine fp ?_|refine dP ?_|refine cL ?_|refine aM ?_|refine ax ?_|refine bt ?_|refine cK ?_|refine bF ?_|refine cM ?_|refine cN ?_|refine sFz 69 ?_)
 rw [← hlkE]
 refine aj [3,4,5,6,7,10,11,13,14] (fun i:Nat=>i≤a.nodes.length) (fun i=>a.nodes.length - i) (fun i=>[(16,.sy (.k 10071)),(10071,.tk (.row 1 4 ((dC a m.nodes i).map .b))),(17,.sy (.k 10072)),(10072,.tk (.row 1 3 ((atL rr true i).map .i))),(18,.sy (.d (.i i)))]) 0 (Nat.zero_le _) (fun i hi=>?_)
 refine kgo ?_
 refine aO (fun h=>?_) (fun h=>?_)
 ·have hlt:i<a.nodes.length:=by omega
  have hal:=jy rr true i
  have hol:(dC a m.nodes i).length=i:=by unfold dC;simp
  have hs0:(toK rr i 0).map D.i=(atL rr true i).map D.i++[.i 0]:=by unfold toK;rw [List.map_append];rfl
  refine kgo ?_
  refine aj [3,4,5,6,7,10,11,13,14,16,17,18] (fun k:Nat=>k≤i) (fun k=>i - k) (fun k=>[(17,.sy (.k 10082)),(10082,.tk (.row 1 3 ((toK rr i k).map .i))),(19,.sy (.d (.i k)))]) 0 (Nat.zero_le _) (fun k hk=>?_)
  refine kgo ?_
  refine aO (fun h2=>?_) (fun h2=>?_)
  ·have hki:k<i:=by omega
   have hkr:k<(dC a m.nodes i).length:=by omega
   have hek:(dC a m.nodes i)[k]=tkF rr true k:=by rw [hrr k (by omega)];simp [dC]
   have htl:=ES rr i k
   have hsn:=BX rr true k
   have hnl:=Gb rr true k
   have hil:i<(toK rr i k).length:=by omega
   have hat:=GO rr i k hil
   have hb:I64 ((toK rr i k)[i]+1):=by rw [hat];unfold I64;omega
   refine kgo ?_
   refine cIf (fun h3=>?_) (fun h3=>?_)
   ·rw [hek] at h3
    rw [if_pos h3] at hsn
    have hst:=E3 rr i k ((toK rr i k)[i]+1) (by rw [hat];exact hsn)
    refine kgo ?_
    rw [hst]
    exact af (k+1) hki (by omega)
   ·rw [hek] at h3
    rw [if_neg (by rw [h3];exact Bool.false_ne_true)] at hsn
    have hs2:(toK rr i (k+1)).map D.i=(toK rr i k).map D.i:=by unfold toK;rw [hsn]
    refine kgo ?_
    exact af (k+1) hki (by omega)
  ·have hki:k=i:=by omega
   subst hki
   have f6:=m8 hba m k (by omega)
   have hs3:(dC a m.nodes (k+1)).map D.b=(dC a m.nodes k).map D.b++[.b (!iF a m.nodes k)]:=by rw [uM,List.map_append];rfl
   have hs4:(atL rr true (k+1)).map D.i=(toK rr k k).map D.i:=by rw [wX];rfl
   refine kgo ?_
   exact af (k+1) hlt (by omega)
 have hie:i=a.nodes.length:=by omega
 subst hie
 rw [hgr]
 repeat (first|refine cFz 14 ?_|refine cFz 16 ?_|refine cFz 17 ?_|(refine cI ?_;first|refine aU ?_|refine cb ?_|refine bp ?_|refine bk ?_|refine aS ?_|refine be ?_|refine bc ?_|refine aB ?_|refine bm ?_|refine bo ?_)|(refine fQ ?_;first|refine b6 ?_|refine fH ?_|refine cm ?_|refine cE ?_)|(refine fB ?_;first|refine ex (fun _=>?_)|refine cr ?_|refine ci ?_|refine bL ?_|refine ch ?_|refine cd ?_|refine ca ?_)|(refine fJ ?_;first|refine cF ?_|refine fb ?_|refine cu ?_|refine bS ?_|refine ck ?_|refine cz ?_|refine ct ?_)|(refine fE ?_;first|refine fM ?_|refine fq ?_|refine cj ?_|refine bY ?_|refine fF ?_|refine bg ?_|refine bf ?_)|(refine co ?_;first|refine br ?_|refine cH ?_)|(refine fK ?_;first|refine cB ?_|refine cy ?_|refine fL ?_)|(refine b9 ?_;first|refine cG ?_|refine aY ?_|refine aR ?_|refine aZ ?_|refine aW ?_|refine bj ?_)|(refine fC ?_;first|refine cf ?_|refine fA ?_|refine bh ?_|refine aT ?_|refine bq ?_)|(refine aN ?_;first|refine aw _ ?_|refine ba ?_|refine aC ?_|refine az ?_|refine aD ?_)|(refine fG ?_;first|refine cC ?_|refine bR ?_|refine cA ?_)|(refine gOp ?_;first|refine fI ?_|refine fP ?_|refine bl ?_|refine fO ?_|refine fN ?_|refine cD ?_|refine aV ?_|refine cw ?_|refine fR ?_|refine bV ?_|refine cq ?_|refine aX ?_|refine aA ?_|refine cg ?_|refine sNo ?_|refine fa ?_|refine ay ?_)|refine e9 ?_|refine dD ?_|refine fU ?_|refine bu ?_|refine bU ?_|refine bE ?_|refine fX ?_|refine fy ?_|refine fp ?_|refine dP ?_|refine cL ?_|refine aM ?_|refine ax ?_|refine bt ?_|refine cK ?_|refine bF ?_|refine cM ?_|refine cN ?_)
 refine mi 10013 1 ?_
 refine lx 10013 2 20001 3 ?_
 refine aj [3,4,5,7,10,11,13,14,17] (fun i:Nat=>i≤m.roots.length) (fun i=>m.roots.length - i) (fun i=>[(10013,.tk (.bx [.d (.i a.roots),.d (.l 3 ((gQ a rr true false lk a.nodes.length).map Nd.D)),.k 20001,.d (.i (iT (ft ims re) ae)),.d (DS a.outer),.d (.n 2)])),(20001,.tk (.row 1 3 (((m.roots.take i).map (po (atL rr true a.nodes.length))).map .i))),(20,.sy (.d (.i i)))]) 0 (Nat.zero_le _) (fun i hi=>?_)
 refine kgo ?_
 refine aO (fun h=>?_) (fun h=>?_)
 ·have hlt:i<m.roots.length:=by omega
  have f6:=hmove _ (List.getElem_mem hlt)
  have hs:((m.roots.take (i+1)).map (po (atL rr true a.nodes.length))).map D.i=((m.roots.take i).map (po (atL rr true a.nodes.length))).map D.i++[.i (po (atL rr true a.nodes.length) m.roots[i])]:=by rw [List.take_succ_eq_append_getElem hlt,List.map_append,List.map_append];rfl
  have hq:((m.roots.take i).map (po (atL rr true a.nodes.length))).length≤1000:=by rw [List.length_map,List.length_take];omega
  refine kgo ?_
  exact af (i+1) hlt (by omega)
 rw [show m.roots.take i=m.roots from List.take_of_length_le (by omega)]
 refine mi 10013 2 ?_
 refine kgo ?_
 refine aj [3,4,5,10,11,13,14] (fun i:Nat=>i≤r.outer.length) (fun i=>r.outer.length - i) (fun i=>[(21,.sy (.k 20002)),(20002,.tk (.row 2 133 (((o6 r lk ims).take i).map Wr.D))),(22,.sy (.d (.i i)))]) 0 (Nat.zero_le _) (fun i hi=>?_)
 refine kgo ?_
 refine aO (fun h=>?_) (fun h=>?_)
 ·have hlt:i<r.outer.length:=by omega
  have hx:=hix (r.edges+i) (by omega) (by omega)
  have hs:((o6 r lk ims).take (i+1)).map Wr.D=((o6 r lk ims).take i).map Wr.D++[Wr.D ⟨r.outer[i],atI lk (atI ims (r.edges+i))⟩]:=by rw [Ay r lk ims i hlt,List.map_append];rfl
  have hq:((o6 r lk ims).take i).length≤1000:=by rw [List.length_take];omega
  refine kgo ?_
  exact af (i+1) hlt (by omega)
 have hol:(o6 r lk ims).length=r.outer.length:=by unfold o6;simp
 rw [show (o6 r lk ims).take i=o6 r lk ims from List.take_of_length_le (by omega)]
 refine cFz 21 ?_
 refine kgo ?_
 refine aj [3,4,10,13,14] (fun i:Nat=>i≤ps.length) (fun i=>ps.length - i) (fun i=>[(21,.sy (.d (.l 2 ((bQ (o6 r lk ims) ((zW lk ps names).take i)).map Wr.D)))),(23,.sy (.d (.i i)))]) 0 (Nat.zero_le _) (fun i hi=>?_)
 refine kgo ?_
 refine aO (fun h=>?_) (fun h=>?_)
 ·have hlt:i<ps.length:=by omega
  have hltn:i<names.length:=by omega
  have hx:=hps _ (List.getElem_mem hlt)
  have hl:(bQ (o6 r lk ims) ((zW lk ps names).take i)).length≤1000:=by have:=kV (o6 r lk ims) ((zW lk ps names).take i);rw [List.length_take] at this;omega
  have f6:FnD Tryz.prog 203 [.l 2 ((bQ (o6 r lk ims) ((zW lk ps names).take i)).map Wr.D),.l 2 ([(⟨names[i],atI lk ps[i]⟩:Wr)].map Wr.D)] (.d (.l 2 ((bQ (o6 r lk ims) ((zW lk ps names).take (i+1))).map Wr.D))):=by
   rw [Fa lk ps names i hltn,uI,b8 ps i hlt]
   exact tJ _ _ hl (by simp)
  repeat (first|(refine cI ?_;first|refine aU ?_|refine cb ?_|refine bp ?_|refine bk ?_|refine aS ?_|refine be ?_|refine bc ?_|refine aB ?_|refine bm ?_|refine bo ?_)|(refine fQ ?_;first|refine b6 ?_|refine fH ?_|refine cm ?_|refine cE ?_)|(refine fB ?_;first|refine ex (fun _=>?_)|refine cr ?_|refine ci ?_|refine bL ?_|refine ch ?_|refine cd ?_|refine ca ?_)|(refine fJ ?_;first|refine cF ?_|refine fb ?_|refine cu ?_|refine bS ?_|refine ck ?_|refine cz ?_|refine ct ?_)|(refine fE ?_;first|refine fM ?_|refine fq ?_|refine cj ?_|refine bY ?_|refine fF ?_|refine bg ?_|refine bf ?_)|(refine co ?_;first|refine br ?_|refine cH ?_)|(refine fK ?_;first|refine cB ?_|refine cy ?_|refine fL ?_)|(refine b9 ?_;first|refine cG ?_|refine aY ?_|refine aR ?_|refine aZ ?_|refine aW ?_|refine bj ?_)|(refine fC ?_;first|refine cf ?_|refine fA ?_|refine bh ?_|refine aT ?_|refine bq ?_)|(refine aN ?_;first|refine aw _ ?_|refine ba ?_|refine aC ?_|refine az ?_|refine aD ?_)|(refine fG ?_;first|refine cC ?_|refine bR ?_|refine cA ?_)|(refine gOp ?_;first|refine fI ?_|refine fP ?_|refine bl ?_|refine fO ?_|refine fN ?_|refine cD ?_|refine aV ?_|refine cw ?_|refine fR ?_|refine bV ?_|refine cq ?_|refine aX ?_|refine sFz 178 ?_|refine aA ?_|refine cg ?_|refine sNo ?_|refine fa ?_|refine ay ?_)|refine e9 ?_|refine dD ?_|refine fU ?_|refine bu ?_|refine bU ?_|refine bE ?_|refine fX ?_|refine fy ?_|refine fp ?_|refine dP ?_|refine cL ?_|refine aM ?_|refine ax ?_|refine bt ?_|refine cK ?_|refine bF ?_|refine cM ?_|refine cN ?_|refine sFz 178 ?_)
  exact af (i+1) hlt (by omega)
 have hzl:(zW lk ps names).length=ps.length:=by unfold zW;simpa using hnm
 rw [show (zW lk ps names).take i=zW lk ps names from List.take_of_length_le (by omega)]
 refine kgo ?_
 exact ar
end Go.Proofs.YtclpbhoekmecjaaGreatDoor
namespace Go.Proofs.YtclpbhoekmecjaaGreatDoor
open Go.RowKit
set_option linter.unusedVariables false
set_option maxRecDepth 100000
set_option maxHeartbeats 4000000
attribute [local irreducible] aq Der At
def psF (a:Big) (ns:List Int) (l:Nat):Bool:=decide (0<m7 (ez a ns a.nodes.length) true (aI a l))
theorem wl (f:Nat→Bool) (n:Nat):idxOf f (n+1)=if f n=true then idxOf f n++[(n:Int)] else idxOf f n:=by
 unfold idxOf
 rw [List.range_succ,List.filter_append]
 by_cases h:f n=true <;> simp [h]
theorem w9 {α:Type} [DecidableEq α]:∀(xs ys:List α),xs.Nodup→(∀x∈xs,x∈ys)→xs.length≤ys.length
 | [],_,_,_=>Nat.zero_le _
 | x :: xs,ys,h,hs=>by
  have h1:=List.nodup_cons.1 h
  have hx:=hs x (by simp)
  have h2:=w9 xs (ys.erase x) h1.2 (fun y hy=>(List.mem_erase_of_ne (fun (e:y=x)=>h1.1 (by rw [← e];exact hy))).2 (hs y (by simp [hy])))
  rw [List.length_erase_of_mem hx] at h2
  have:=List.length_pos_of_mem hx
  rw [List.length_cons];omega
def lq (outer:List ByteArray) (n:Nat):List ByteArray:=((List.range n).filter (lA outer)).map nf
theorem oK (outer:List ByteArray) (n:Nat):lq outer (n+1)=if lA outer n=true then lq outer n++[nf n] else lq outer n:=by
 unfold lq
 rw [List.range_succ,List.filter_append]
 by_cases h:lA outer n=true <;> simp [h]
theorem Bx:∀i j:Fin 26,nf i=nf j→i=j:=by decide
theorem sK:∀i:Fin 26,(⟨#[122]⟩:ByteArray) ++ ⟨#[UInt8.ofNat (97+i)]⟩=nf i:=by decide
theorem w5 (f:Nat→Bool):∀n,((List.range n).filter f).length+((List.range n).filter (fun i=>!f i)).length=n
 | 0=>rfl
 | n+1=>by
  have:=w5 f n
  rw [List.range_succ,List.filter_append,List.filter_append]
  cases h:f n <;> simp [h] <;> omega
theorem AD (outer:List ByteArray) (n:Nat) (hn:n≤26):n≤(lq outer n).length+outer.length:=by
 have h1:=w5 (lA outer) n
 have h2:(((List.range n).filter (fun i=>!lA outer i)).map nf).length≤outer.length:=w9 _ _ (by
  refine List.pairwise_map.2 (List.Pairwise.imp_of_mem (fun {x y} hx hy hne e=>hne ?_) (List.nodup_range.filter _))
  have hx:=List.mem_range.1 (List.mem_filter.1 hx).1
  have hy:=List.mem_range.1 (List.mem_filter.1 hy).1
  exact congrArg Fin.val (Bx ⟨x,by omega⟩ ⟨y,by omega⟩ e)) (fun s hs=>by
  obtain ⟨i,hi,rfl⟩:=List.mem_map.1 hs
  have h3:=(List.mem_filter.1 hi).2
  unfold lA at h3
  rw [Bool.not_not] at h3
  obtain ⟨x,hx,e⟩:=List.any_eq_true.1 h3
  rw [beq_iff_eq] at e
  rw [← gh e];exact hx)
 rw [List.length_map] at h2
 unfold lq
 rw [List.length_map]
 omega
theorem tT (outer:List ByteArray) (i:Nat):∀d,∃t,lq outer (i+d)=lq outer i++t
 | 0=>⟨[],by simp⟩
 | d+1=>by
  obtain ⟨t,h⟩:=tT outer i d
  rw [show i+(d+1)=(i+d)+1 from rfl,oK,h]
  by_cases hf:lA outer (i+d)=true
  ·exact ⟨t++[nf (i+d)],by rw [if_pos hf,List.append_assoc]⟩
  ·exact ⟨t,by rw [if_neg hf]⟩
theorem sq (outer:List ByteArray) (i:Nat) (hi:i≤26):bJ outer (lq outer i).length=lq outer i:=by
 obtain ⟨t,h⟩:=tT outer i (26 - i)
 rw [show i+(26 - i)=26 by omega] at h
 show (lq outer 26).take _=_
 rw [h];simp
def dX (r a:Big) (ns:List Int):List Int × List ByteArray × Bool:=
 if decide (16<((idxOf (psF a ns) (al a)).length:Int)+r.outer.length) then ([],[],false) else (idxOf (psF a ns) (al a),bJ r.outer (idxOf (psF a ns) (al a)).length,true)
theorem xV {sig:List Ctl} {r a:Big} (hB:aF sig a=true) (m:Mat) (hro:r.outer.length≤1000):FnD Tryz.prog 134 [r.D,a.D,m.D] (.tp [DI (dX r a m.nodes).1,DS (dX r a m.nodes).2.1,.b (dX r a m.nodes).2.2]):=by
 have ha:=aL hB
 have f1:=l9 hB m
 have hpl:(ez a m.nodes a.nodes.length).length=a.nodes.length:=by simp [ez]
 have hll:=(bB hB).links
 refine ah Tryz.func134 (fun hw W0=>?_)
 refine kgo ?_
 refine eX (fun i:Nat=>i≤al a) (fun i=>al a - i) (fun i=>[(3,.sy (.bx 10003 0)),(10003,.tk (.bx (flat r.D))),(4,.sy (.bx 10004 0)),(10004,.tk (.bx (flat a.D))),(9,.sy (.k 10015)),(10015,.tk (.row 1 3 (idxOf (psF a m.nodes) i |>.map .i))),(10,.sy (.k 10016)),(10016,.tk (.row 1 9 [])),(11,.sy (.d (.l 1 ((ez a m.nodes a.nodes.length).map .b)))),(12,.sy (.d (.i i)))]) 0 (Nat.zero_le _) (fun i hi=>?_)
 have hln:(al a:Int)=a.edges+a.outer.length:=by unfold al;omega
 refine kgo ?_
 refine cIf (fun h=>?_) (fun h=>?_)
 ·have h:=of_decide_eq_true h
  have hlt:i<al a:=by omega
  have f2:=CU a i (ez a m.nodes a.nodes.length) true (by omega) hll (by omega)
  have hq:(idxOf (psF a m.nodes) i).length≤1000:=Nat.le_trans (d9 _ _) (by omega)
  have hsu:=wl (psF a m.nodes) i
  refine kgo ?_
  refine cIf (fun h2=>?_) (fun h2=>?_)
  ·have h3:psF a m.nodes i=true:=by unfold psF;have:=of_decide_eq_true h2;exact decide_eq_true (by omega)
   rw [if_pos h3] at hsu
   have hs:(idxOf (psF a m.nodes) (i+1)).map D.i=(idxOf (psF a m.nodes) i).map D.i++[.i i]:=by rw [hsu,List.map_append];rfl
   refine kgo ?_
   exact af (i+1) hlt (by omega)
  ·have h3:¬psF a m.nodes i=true:=by unfold psF;have:=of_decide_eq_false h2;rw [decide_eq_true_eq];omega
   rw [if_neg h3] at hsu
   have hs:(idxOf (psF a m.nodes) (i+1)).map D.i=(idxOf (psF a m.nodes) i).map D.i:=by rw [hsu]
   refine kgo ?_
   exact af (i+1) hlt (by omega)
 ·have h:=of_decide_eq_false h
  have hie:i=al a:=by omega
  subst hie
  have hq:(idxOf (psF a m.nodes) (al a)).length≤1000000:=Nat.le_trans (d9 _ _) (by omega)
  repeat (first|refine cFz 9 ?_|(refine cI ?_;first|refine aU ?_|refine cb ?_|refine bp ?_|refine bk ?_|refine aS ?_|refine be ?_|refine bc ?_|refine aB ?_|refine bm ?_|refine bo ?_)|(refine fQ ?_;first|refine b6 ?_|refine fH ?_|refine cm ?_|refine cE ?_)|(refine fB ?_;first|refine ex (fun _=>?_)|refine cr ?_|refine ci ?_|refine bL ?_|refine ch ?_|refine cd ?_|refine ca ?_)|(refine fJ ?_;first|refine cF ?_|refine fb ?_|refine cu ?_|refine bS ?_|refine ck ?_|refine cz ?_|refine ct ?_)|(refine fE ?_;first|refine fM ?_|refine fq ?_|refine cj ?_|refine bY ?_|refine fF ?_|refine bg ?_|refine bf ?_)|(refine co ?_;first|refine br ?_|refine cH ?_)|(refine fK ?_;first|refine cB ?_|refine cy ?_|refine fL ?_)|(refine b9 ?_;first|refine cG ?_|refine aY ?_|refine aR ?_|refine aZ ?_|refine aW ?_|refine bj ?_)|(refine fC ?_;first|refine cf ?_|refine fA ?_|refine bh ?_|refine aT ?_|refine bq ?_)|(refine aN ?_;first|refine aw _ ?_|refine ba ?_|refine aC ?_|refine az ?_|refine aD ?_)|(refine fG ?_;first|refine cC ?_|refine bR ?_|refine cA ?_)|(refine gOp ?_;first|refine fI ?_|refine fP ?_|refine bl ?_|refine fO ?_|refine fN ?_|refine cD ?_|refine aV ?_|refine cw ?_|refine fR ?_|refine bV ?_|refine cq ?_|refine aX ?_|refine aA ?_|refine cg ?_|refine sNo ?_|refine fa ?_|refine ay ?_)|refine e9 ?_|refine dD ?_|refine fU ?_|refine bu ?_|refine bU ?_|refine bE ?_|refine fX ?_|refine fy ?_|refine fp ?_|refine dP ?_|refine cL ?_|refine aM ?_|refine ax ?_|refine bt ?_|refine cK ?_|refine bF ?_|refine cM ?_|refine cN ?_)
  refine cIf (fun h2=>?_) (fun h2=>?_)
  ·rw [show dX r a m.nodes=([],[],false) from by unfold dX;rw [h2];rfl]
   repeat (first|(refine cI ?_;first|refine aU ?_|refine cb ?_|refine bp ?_|refine bk ?_|refine aS ?_|refine be ?_|refine bc ?_|refine aB ?_|refine bm ?_|refine bo ?_)|(refine fQ ?_;first|refine b6 ?_|refine fH ?_|refine cm ?_|refine cE ?_)|(refine fB ?_;first|refine ex (fun _=>?_)|refine cr ?_|refine ci ?_|refine bL ?_|refine ch ?_|refine cd ?_|refine ca ?_)|(refine fJ ?_;first|refine cF ?_|refine fb ?_|refine cu ?_|refine bS ?_|refine ck ?_|refine cz ?_|refine ct ?_)|(refine fE ?_;first|refine fM ?_|refine fq ?_|refine cj ?_|refine bY ?_|refine fF ?_|refine bg ?_|refine bf ?_)|(refine co ?_;first|refine br ?_|refine cH ?_)|(refine fK ?_;first|refine gq (d:=6) ?_|refine gq (d:=7) ?_|refine cB ?_|refine cy ?_|refine fL ?_)|(refine b9 ?_;first|refine cG ?_|refine aY ?_|refine aR ?_|refine aZ ?_|refine aW ?_|refine bj ?_)|(refine fC ?_;first|refine cf ?_|refine fA ?_|refine bh ?_|refine aT ?_|refine bq ?_)|(refine aN ?_;first|refine aw _ ?_|refine ba ?_|refine aC ?_|refine az ?_|refine aD ?_)|(refine fG ?_;first|refine cC ?_|refine bR ?_|refine cA ?_)|(refine gOp ?_;first|refine fI ?_|refine fP ?_|refine bl ?_|refine fO ?_|refine fN ?_|refine cD ?_|refine aV ?_|refine cw ?_|refine fR ?_|refine bV ?_|refine cq ?_|refine aX ?_|refine sFz 46 ?_|refine sFz 47 ?_|refine aA ?_|refine cg ?_|refine sNo ?_|refine fa ?_|refine ay ?_)|refine e9 ?_|refine dD ?_|refine fU ?_|refine bu ?_|refine bU ?_|refine bE ?_|refine fX ?_|refine fy ?_|refine fp ?_|refine dP ?_|refine cL ?_|refine aM ?_|refine ax ?_|refine bt ?_|refine cK ?_|refine bF ?_|refine cM ?_|refine cN ?_|refine sFz 46 ?_|refine sFz 47 ?_)
   exact g8
  ·rw [show dX r a m.nodes=(idxOf (psF a m.nodes) (al a),bJ r.outer (idxOf (psF a m.nodes) (al a)).length,true) from by unfold dX;rw [h2];rfl]
   have h2:=of_decide_eq_false h2
   revert hq h2
   generalize idxOf (psF a m.nodes) (al a)=ls
   intro hq h2
   refine kgo ?_
   refine eX (fun i:Nat=>i≤16∧(lq r.outer i).length≤ls.length) (fun i=>16 - i) (fun i=>[(3,.sy (.bx 10003 0)),(10003,.tk (.bx (flat r.D))),(9,.sy (.d (DI ls))),(10,.sy (.k 10016)),(10016,.tk (.row 1 9 ((lq r.outer i).map .s))),(13,.sy (.d (.i i)))]) 0 ⟨by omega,Nat.zero_le _⟩ (fun i hi=>?_)
   obtain ⟨hi1,hi2⟩:=hi
   refine kgo ?_
   refine cIf (fun h3=>?_) (fun h3=>?_)
   ·have h3:=of_decide_eq_true h3
    simp only [List.length_map] at h3
    have hfew:=AD r.outer i (by omega)
    have f2:=yr i (by omega)
    have f3:=xj r.outer ((⟨#[122]⟩:ByteArray) ++ ⟨#[UInt8.ofNat (97+i)]⟩)
    have hb:(⟨#[122]⟩:ByteArray).size+(⟨#[UInt8.ofNat (97+i)]⟩:ByteArray).size≤1000000:=by show 1+1≤1000000;omega
    have hz:=sK ⟨i,by omega⟩
    simp only at hz
    have hsu:=oK r.outer i
    refine kgo ?_
    refine cIf (fun h4=>?_) (fun h4=>?_)
    ·have h4:=of_decide_eq_true h4
     have hf:lA r.outer i=true:=by
      rw [hz] at h4
      unfold jU at h4
      unfold lA
      split at h4
      ·omega
      ·simp_all
     rw [if_pos hf] at hsu
     have hs:(lq r.outer (i+1)).map D.s=(lq r.outer i).map D.s++[.s ((⟨#[122]⟩:ByteArray) ++ ⟨#[UInt8.ofNat (97+i)]⟩)]:=by rw [hsu,List.map_append,hz];rfl
     have hl2:(lq r.outer (i+1)).length≤ls.length:=by rw [hsu,List.length_append];show _+1≤_;omega
     refine kgo ?_
     exact af (i+1) ⟨by omega,hl2⟩ (by omega)
    ·have h4:=of_decide_eq_false h4
     have hf:¬lA r.outer i=true:=by
      rw [hz] at h4
      unfold jU at h4
      unfold lA
      split at h4
      ·simp_all
      ·omega
     rw [if_neg hf] at hsu
     have hs:(lq r.outer (i+1)).map D.s=(lq r.outer i).map D.s:=by rw [hsu]
     refine kgo ?_
     exact af (i+1) ⟨by omega,by rw [hsu];exact hi2⟩ (by omega)
   ·have h3:=of_decide_eq_false h3
    simp only [List.length_map] at h3
    rw [show ls.length=(lq r.outer i).length by omega,sq r.outer i (by omega)]
    repeat (first|refine cFz 10 ?_|(refine cI ?_;first|refine aU ?_|refine cb ?_|refine bp ?_|refine bk ?_|refine aS ?_|refine be ?_|refine bc ?_|refine aB ?_|refine bm ?_|refine bo ?_)|(refine fQ ?_;first|refine b6 ?_|refine fH ?_|refine cm ?_|refine cE ?_)|(refine fB ?_;first|refine ex (fun _=>?_)|refine cr ?_|refine ci ?_|refine bL ?_|refine ch ?_|refine cd ?_|refine ca ?_)|(refine fJ ?_;first|refine cF ?_|refine fb ?_|refine cu ?_|refine bS ?_|refine ck ?_|refine cz ?_|refine ct ?_)|(refine fE ?_;first|refine fM ?_|refine fq ?_|refine cj ?_|refine bY ?_|refine fF ?_|refine bg ?_|refine bf ?_)|(refine co ?_;first|refine br ?_|refine cH ?_)|(refine fK ?_;first|refine cB ?_|refine cy ?_|refine fL ?_)|(refine b9 ?_;first|refine cG ?_|refine aY ?_|refine aR ?_|refine aZ ?_|refine aW ?_|refine bj ?_)|(refine fC ?_;first|refine cf ?_|refine fA ?_|refine bh ?_|refine aT ?_|refine bq ?_)|(refine aN ?_;first|refine aw _ ?_|refine ba ?_|refine aC ?_|refine az ?_|refine aD ?_)|(refine fG ?_;first|refine cC ?_|refine bR ?_|refine cA ?_)|(refine gOp ?_;first|refine fI ?_|refine fP ?_|refine bl ?_|refine fO ?_|refine fN ?_|refine cD ?_|refine aV ?_|refine cw ?_|refine fR ?_|refine bV ?_|refine cq ?_|refine aX ?_|refine aA ?_|refine cg ?_|refine sNo ?_|refine fa ?_|refine ay ?_)|refine e9 ?_|refine dD ?_|refine fU ?_|refine bu ?_|refine bU ?_|refine bE ?_|refine fX ?_|refine fy ?_|refine fp ?_|refine dP ?_|refine cL ?_|refine aM ?_|refine ax ?_|refine bt ?_|refine cK ?_|refine bF ?_|refine cM ?_|refine cN ?_)
    exact g8
end Go.Proofs.YtclpbhoekmecjaaGreatDoor
namespace Go.Proofs.YtclpbhoekmecjaaGreatDoor
open Go.RowKit
set_option linter.unusedVariables false
set_option maxRecDepth 100000
set_option maxHeartbeats 4000000
attribute [local irreducible] aq Der At
theorem qh (f:Nat→Bool) (i m:Nat) (hf:f i=true):∃rest,(List.range (i+1+m)).filter f=(List.range i).filter f++i :: rest∧∀k∈rest,i<k:=by
 induction m with
 | zero=>exact ⟨[],by rw [Nat.add_zero,List.range_succ,List.filter_append];simp [hf],fun k h=>by cases h⟩
 | succ m ih=>
  obtain ⟨rest,h1,h2⟩:=ih
  rw [← Nat.add_assoc,List.range_succ,List.filter_append,h1]
  refine ⟨rest++[i+1+m].filter f,by rw [List.append_assoc];rfl,fun k hk=>?_⟩
  rcases List.mem_append.1 hk with h|h
  ·exact h2 k h
  ·have:=List.mem_singleton.1 (List.mem_filter.1 h).1
   omega
theorem Cy {α:Type} (f:Nat→Bool) (g g':Nat→α) (i n:Nat) (hi:i<n) (hf:f i=true) (hg:∀k,k≠i→g' k=g k):((List.range n).filter f).map g'=(((List.range n).filter f).map g).set ((List.range i).filter f).length (g' i):=by
 obtain ⟨rest,h1,h2⟩:=qh f i (n - (i+1)) hf
 rw [show i+1+(n - (i+1))=n by omega] at h1
 rw [h1,List.map_append,List.map_append,List.map_cons,List.map_cons,List.set_append_right _ _ (by rw [List.length_map];exact Nat.le_refl _),List.length_map,Nat.sub_self,List.set_cons_zero]
 congr 1
 ·refine List.map_congr_left fun k hk=>hg k ?_
  have:=List.mem_range.1 (List.mem_filter.1 hk).1
  omega
 ·congr 1
  refine List.map_congr_left fun k hk=>hg k ?_
  have:=h2 k hk
  omega
theorem EP {α:Type} (f:Nat→Bool) (g:Nat→α) (i n:Nat) (hi:i<n) (hf:f i=true):∃h:((List.range i).filter f).length<(((List.range n).filter f).map g).length,(((List.range n).filter f).map g)[((List.range i).filter f).length]=g i:=by
 obtain ⟨rest,h1,h2⟩:=qh f i (n - (i+1)) hf
 rw [show i+1+(n - (i+1))=n by omega] at h1
 have h3:(((List.range n).filter f).map g)[((List.range i).filter f).length]? = some (g i):=by
  rw [h1,List.map_append,List.getElem?_append_right (by rw [List.length_map];exact Nat.le_refl _),List.length_map,Nat.sub_self];rfl
 obtain ⟨h4,h5⟩:=List.getElem?_eq_some_iff.1 h3
 exact ⟨h4,h5⟩
def lP (ps z:List Int) (k:Nat):List Int:=(List.range k).foldl (fun l (i:Nat)=>l.set (atI ps i).toNat (i:Int)) z
theorem pZ (ps z:List Int) (k:Nat):lP ps z (k+1)=(lP ps z k).set (atI ps k).toNat k:=by unfold lP;rw [List.range_succ,List.foldl_append];rfl
theorem sB (ps z:List Int) (k:Nat):(lP ps z k).length=z.length:=by
 induction k with
 | zero=>simp [lP]
 | succ k ih=>rw [pZ,List.length_set,ih]
def kz (r a:Big) (ns:List Int) (row:List Bool) (lk:List Int) (i k:Nat):Nd:=
 ⟨(ew a k).control,if decide (k<i) && fT ns (ew a k).parent then -1 - lv r ns (ew a k).parent else tB row true false (ew a k).parent,eP lk (ew a k).links⟩
def jW (r a:Big) (ns:List Int) (row:List Bool) (lk:List Int) (i:Nat):List Nd:=((List.range a.nodes.length).filter (tkF row true)).map (kz r a ns row lk i)
def un (row:List Bool) (i:Nat):Nat:=((List.range i).filter (tkF row true)).length
theorem Bp (row:List Bool) (i:Nat):un row (i+1)=if tkF row true i=true then un row i+1 else un row i:=by
 unfold un
 rw [List.range_succ,List.filter_append]
 by_cases h:tkF row true i=true <;> simp [h]
theorem yk (r a:Big) (ns:List Int) (row:List Bool) (lk:List Int):jW r a ns row lk 0=gQ a row true false lk a.nodes.length:=by
 unfold jW gQ
 refine List.map_congr_left fun k _=>?_
 unfold kz FT
 simp
theorem sE (r a:Big) (ns:List Int) (row:List Bool) (lk:List Int) (i k:Nat) (h:k≠i):kz r a ns row lk (i+1) k=kz r a ns row lk i k:=by
 unfold kz
 rw [show decide (k<i+1)=decide (k<i) from decide_eq_decide.2 (by omega)]
theorem xp (r a:Big) (ns:List Int) (row:List Bool) (lk:List Int) (i:Nat) (h:tkF row true i=false∨fT ns (ew a i).parent=false):jW r a ns row lk (i+1)=jW r a ns row lk i:=by
 unfold jW
 refine List.map_congr_left fun k hk=>?_
 by_cases e:k=i
 ·subst e
  rcases h with h|h
  ·rw [(List.mem_filter.1 hk).2] at h;cases h
  ·unfold kz;rw [h];simp
 ·exact sE r a ns row lk i k e
theorem zk (r a:Big) (ns:List Int) (row:List Bool) (lk:List Int) (i:Nat) (hi:i<a.nodes.length) (h1:tkF row true i=true) (h2:fT ns (ew a i).parent=true):∃h:un row i<(jW r a ns row lk i).length,jW r a ns row lk (i+1)=(jW r a ns row lk i).set (un row i) ⟨(jW r a ns row lk i)[un row i].control,-1 - lv r ns (ew a i).parent,(jW r a ns row lk i)[un row i].links⟩:=by
 obtain ⟨h,e⟩:=EP (tkF row true) (kz r a ns row lk i) i a.nodes.length hi h1
 refine ⟨h,?_⟩
 have e2:=Cy (tkF row true) (kz r a ns row lk i) (kz r a ns row lk (i+1)) i a.nodes.length hi h1 (fun k hk=>sE r a ns row lk i k hk)
 refine e2.trans ?_
 unfold jW un
 rw [e]
 congr 1
 unfold kz
 rw [h2];simp
theorem sP (r:Big) (ns:List Int) (p:Int) (h:0<(bA r (dv ns p)).length):0≤lv r ns p∧lv r ns p<r.sites.length:=by
 have h1:lv r ns p∈bA r (dv ns p):=oT (by decide) (by omega)
 obtain ⟨i,h2,_,h3⟩:=bz.1 h1
 omega
def GC (r a:Big) (m:Mat) (ps:List Int) (names:List ByteArray):Big:=
 ⟨r.sites.length,jW r a m.nodes (ez a m.nodes a.nodes.length) (lP ps (List.replicate (al a) 0) ps.length) a.nodes.length,[],0,names,[]⟩
theorem Dv {sig:List Ctl} {r a:Big} (m:Mat) (hbr:aF sig r=true) (hba:aF sig a=true) (hsite:∀i:Nat,i<a.nodes.length→nr a m.nodes i=true→fT m.nodes (ew a i).parent=true→0<(bA r (dv m.nodes (ew a i).parent)).length) (ps:List Int) (names:List ByteArray) (hps:∀l∈ps,0≤l∧l<(al a:Int)) (hnm:names.length=ps.length) (hpl:ps.length≤500):FnD Tryz.prog 136 [r.D,a.D,m.D,DI ps,DS names] (.d (GC r a m ps names).D):=by
 have f1:=l9 hba m
 have ha:=aL hba
 have hr:=aL hbr
 have hla:a.edges+(a.outer.length:Int)=(al a:Nat):=by unfold al;omega
 have hlb:al a≤1000:=by unfold al;omega
 have hup:=fun i h=>(iG hba i h).2
 have hnode:=eS hba
 have hnl:∀n∈a.nodes,n.links.length≤1000∧∀l∈n.links,0≤l∧l<(al a:Int):=fun n hn=>by
  obtain ⟨k,hk,rfl⟩:=List.mem_iff_getElem.1 hn
  obtain ⟨_,_,_,c3,c4⟩:=hnode k hk
  refine ⟨by have:=(bB hba).7 k hk;omega,fun l hl=>?_⟩
  obtain ⟨j,rfl,hj⟩:=gR (c4 l hl)
  omega
 have hz:List.replicate (al a) (D.i 0)=(lP ps (List.replicate (al a) 0) 0).map D.i:=by rw [show lP ps (List.replicate (al a) 0) 0=List.replicate (al a) 0 from by simp [lP],List.map_replicate]
 have hrrl:(ez a m.nodes a.nodes.length).length=a.nodes.length:=by unfold ez;simp
 have hrr:∀k,k<a.nodes.length→tkF (ez a m.nodes a.nodes.length) true k=nr a m.nodes k:=fun k hk=>by
  rw [sS _ _ _ (by omega)]
  simp [ez]
 unfold GC
 revert f1 hrr hrrl
 generalize ez a m.nodes a.nodes.length=row
 intro f1 hrrl hrr
 refine ah Tryz.func136 (fun hw W0=>?_)
 refine kgo ?_
 refine bV (n:=al a) (r:=.i 0) ?_ rfl rfl (congrArg some hla) (congrArg some hla) (hb:=by show 8 * al a≤1000000000;omega)
 refine kgo ?_
 refine aj [3,4,5,6,7,10,11,12] (fun i:Nat=>i≤ps.length) (fun i=>ps.length - i) (fun i=>[(10027,.tk (.row 1 3 ((lP ps (List.replicate (al a) 0) i).map .i))),(13,.sy (.d (.i i)))]) 0 (Nat.zero_le _) (fun i hi=>?_)
 refine kgo ?_
 refine aO (fun h=>?_) (fun h=>?_)
 ·have hlt:i<ps.length:=by omega
  have hp:=hps _ (List.getElem_mem hlt)
  obtain ⟨j,hj⟩:=Int.eq_ofNat_of_zero_le hp.1
  have hpt:=sB ps (List.replicate (al a) 0) i
  rw [List.length_replicate] at hpt
  have hjl:j<(lP ps (List.replicate (al a) 0) i).length:=by omega
  have hs:=pZ ps (List.replicate (al a) 0) i
  rw [b8 ps i hlt,hj,Int.toNat_natCast] at hs
  refine kgo ?_
  refine bL (n:=j) ?_ rfl rfl rfl (congrArg some hj)
  refine kgo ?_
  rw [← hs]
  exact af (i+1) hlt (by omega)
 rw [show i=ps.length by omega]
 have hpt:=sB ps (List.replicate (al a) 0) ps.length
 rw [List.length_replicate] at hpt
 revert hpt
 generalize lP ps (List.replicate (al a) 0) ps.length=lk
 intro hpt
 have f5:=xf a row true false lk (by omega) (by omega) hup (fun n hn=>(hnl n hn).1) (fun n hn l hl=>by rw [hpt];exact (hnl n hn).2 l hl)
 rw [← yk r a m.nodes row lk] at f5
 repeat (first|refine cFz 12 ?_|(refine cI ?_;first|refine aU ?_|refine cb ?_|refine bp ?_|refine bk ?_|refine aS ?_|refine be ?_|refine bc ?_|refine aB ?_|refine bm ?_|refine bo ?_)|(refine fQ ?_;first|refine b6 ?_|refine fH ?_|refine cm ?_|refine cE ?_)|(refine fB ?_;first|refine ex (fun _=>?_)|refine cr ?_|refine ci ?_|refine bL ?_|refine ch ?_|refine cd ?_|refine ca ?_)|(refine fJ ?_;first|refine cF ?_|refine fb ?_|refine cu ?_|refine bS ?_|refine ck ?_|refine cz ?_|refine ct ?_)|(refine fE ?_;first|refine fM ?_|refine fq ?_|refine cj ?_|refine bY ?_|refine fF ?_|refine bg ?_|refine bf ?_)|(refine co ?_;first|refine br ?_|refine cH ?_)|(refine fK ?_;first|refine cB ?_|refine cy ?_|refine fL ?_)|(refine b9 ?_;first|refine cG ?_|refine aY ?_|refine aR ?_|refine aZ ?_|refine aW ?_|refine bj ?_)|(refine fC ?_;first|refine cf ?_|refine fA ?_|refine bh ?_|refine aT ?_|refine bq ?_)|(refine aN ?_;first|refine aw _ ?_|refine ba ?_|refine aC ?_|refine az ?_|refine aD ?_)|(refine fG ?_;first|refine cC ?_|refine bR ?_|refine cA ?_)|(refine gOp ?_;first|refine fI ?_|refine fP ?_|refine bl ?_|refine fO ?_|refine fN ?_|refine cD ?_|refine aV ?_|refine cw ?_|refine fR ?_|refine bV ?_|refine cq ?_|refine aX ?_|refine aA ?_|refine cg ?_|refine sNo ?_|refine fa ?_|refine ay ?_)|refine e9 ?_|refine dD ?_|refine fU ?_|refine bu ?_|refine bU ?_|refine bE ?_|refine fX ?_|refine fy ?_|refine fp ?_|refine dP ?_|refine cL ?_|refine aM ?_|refine ax ?_|refine bt ?_|refine cK ?_|refine bF ?_|refine cM ?_|refine cN ?_)
 refine aj [5,6,7,10,11,14] (fun i:Nat=>i≤a.nodes.length) (fun i=>a.nodes.length - i) (fun i=>[(10051,.tk (.row 3 131 ((jW r a m.nodes row lk i).map Nd.D))),(15,.sy (.d (.i (un row i)))),(16,.sy (.d (.i i)))]) 0 (Nat.zero_le _) (fun i hi=>?_)
 refine kgo ?_
 refine aO (fun h=>?_) (fun h=>?_)
 ·have hlt:i<a.nodes.length:=by omega
  have hltr:i<row.length:=by omega
  have hk:tkF row true i=row[i]:=by rw [sS row true i hltr];simp
  have hcs:=Bp row i
  have hcl:un row i≤i:=by unfold un;exact Nat.le_trans (List.length_filter_le _ _) (by simp)
  refine kgo ?_
  refine cIf (fun h2=>?_) (fun h2=>?_)
  ·rw [Bool.not_eq_true'] at h2
   rw [h2] at hk
   rw [if_neg (by rw [hk];exact Bool.false_ne_true)] at hcs
   have hs:=xp r a m.nodes row lk i (.inl hk)
   refine kgo ?_
   rw [← hs,← hcs]
   exact af (i+1) hlt (by omega)
  ·rw [Bool.not_eq_false'] at h2
   rw [h2] at hk
   rw [if_pos hk] at hcs
   have hcd:D.i (un row (i+1):Nat)=D.i ((un row i:Nat)+1):=by rw [hcs];rfl
   have hnd:ew a i=a.nodes[i]:=av a i hlt
   have f6:=lG m.nodes (a.nodes[i]).parent
   refine kgo ?_
   refine cIf (fun h3=>?_) (fun h3=>?_)
   ·rw [← hnd] at h3
    obtain ⟨hcl2,hs⟩:=zk r a m.nodes row lk i hlt hk h3
    have hh:=hsite i hlt (by rw [← hrr i hlt];exact hk) h3
    have f7:=Cb r m (ew a i).parent (by omega) h3 hh
    rw [hnd] at f7 hs
    have hsr:=sP r m.nodes _ hh
    rw [hnd] at hsr
    refine kgo ?_
    refine aw (f:=Nd.D) (l:=jW r a m.nodes row lk i) ⟨(jW r a m.nodes row lk i)[un row i].control,-1 - lv r m.nodes (a.nodes[i]).parent,(jW r a m.nodes row lk i)[un row i].links⟩ ?_
    refine kgo ?_
    rw [← hs]
    exact af (i+1) hlt (by omega)
   ·rw [← hnd] at h3
    have hs:=xp r a m.nodes row lk i (.inr h3)
    refine kgo ?_
    rw [← hs]
    exact af (i+1) hlt (by omega)
 rw [show i=a.nodes.length by omega]
 refine bE (ax (ax (bF (aM ?_))))
 refine mi 10014 1 ?_
 refine mi 10014 4 ?_
 refine kgo ?_
 exact ar
end Go.Proofs.YtclpbhoekmecjaaGreatDoor
