/-
  Proved facts that the law leans on.
-/
import Derived.Test.YtacafmejcdgboaaGreatDoorZR4
import Derived.Test.YtacafmejcdgboaaGreatDoorZR5
import Derived.Test.YtacafmejcdgboaaGreatDoorZR7
namespace Go.Proofs.YtacafmejcdgboaaGreatDoor
open Go.RowKit
set_option linter.unusedVariables false
set_option maxRecDepth 100000
set_option maxHeartbeats 1000000
attribute [local irreducible] aD Der At
theorem js (l:List Int) (n:Int):FnD Tryz.prog 199 [DI l,.i n] (.d (.b (eq l n))):=by
 refine ah Tryz.func199 (fun hw W0=>?_)
 have hl:=(wfM hw.1).1
 refine kgo ?_
 refine aj [0,1] (fun i:Nat=>i≤l.length∧(l.take i).any (fun x=>x == n)=false) (fun i=>l.length - i) (fun i=>[(5,.sy (.d (.i i)))]) 0 ⟨Nat.zero_le _,rfl⟩ (fun i hi=>?_)
 refine kgo ?_
 refine cIf (fun h=>?_) (fun h=>?_)
 ·have h:=of_decide_eq_true h
  have hlt:i<l.length:=by omega
  refine kgo ?_
  refine cIf (fun h2=>?_) (fun h2=>?_)
  ·have h2:=of_decide_eq_true h2
   refine kgo ?_
   rw [show eq l n=true from oQ _ _ i hlt (by simp [h2])]
   exact ar
  ·have h2:=of_decide_eq_false h2
   refine kgo ?_
   exact ab (i+1) ⟨hlt,by rw [d7 _ l i hlt,hi.2];simpa using h2⟩ (by omega)
 ·have h:=of_decide_eq_false h
  refine kgo ?_
  rw [show eq l n=false from by unfold eq;rw [← hi.2,List.take_of_length_le (by omega)]]
  exact ar
theorem Af (m:Int) (n:Nat) (hn:n≤1000) (hm : -1000≤m∧m≤1000):FnD Tryz.prog 316 [.i m,.i n] (.row 1 3 ((cV m n).map .i)):=by
 refine ah Tryz.func316 (fun hw W0=>?_)
 refine kgo ?_
 refine aj [0,1] (fun i:Nat=>i≤n) (fun i=>n - i) (fun i=>[(5,.sy (.k 10007)),(10007,.tk (.row 1 3 ((cV m i).map .i))),(6,.sy (.d (.i i)))]) 0 (Nat.zero_le _) (fun i hi=>?_)
 refine kgo ?_
 refine cIf (fun h=>?_) (fun h=>?_)
 ·have h:=of_decide_eq_true h
  have hs:(cV m (i+1)).map D.i=(cV m i).map D.i++[.i (-1 - m - i)]:=by rw [wH,List.map_append];rfl
  have hl:=kZ m i
  refine kgo ?_
  exact ab (i+1) (by omega) (by omega)
 ·have h:=of_decide_eq_false h
  refine kgo ?_
  rw [show i=n by omega]
  exact qI
theorem Aj (m:Int) (n:Nat) (hn:n≤1000) (hm : -1000≤m∧m≤1000):FnD Tryz.prog 209 [.i m,.i n] (.row 1 3 ((eL m n).map .i)):=by
 refine ah Tryz.func209 (fun hw W0=>?_)
 refine kgo ?_
 refine eF (fun i:Nat=>i≤n) (fun i=>n - i) (fun i=>[(0,.sy (.d (.i m))),(1,.sy (.d (.i n))),(5,.sy (.k 10007)),(10007,.tk (.row 1 3 ((eL m i).map .i))),(6,.sy (.d (.i i)))]) 0 (Nat.zero_le _) (fun i hi=>?_)
 refine kgo ?_
 refine cIf (fun h=>?_) (fun h=>?_)
 ·have h:=of_decide_eq_true h
  have hs:(eL m (i+1)).map D.i=(eL m i).map D.i++[.i (m+i)]:=by rw [xi,List.map_append];rfl
  have hl:=ey m i
  refine kgo ?_
  exact ab (i+1) (by omega) (by omega)
 ·have h:=of_decide_eq_false h
  refine kgo ?_
  rw [show i=n by omega]
  exact qI
end Go.Proofs.YtacafmejcdgboaaGreatDoor
namespace Go.Proofs.YtacafmejcdgboaaGreatDoor
open Go.RowKit
set_option linter.unusedVariables false
set_option maxRecDepth 100000
set_option maxHeartbeats 1000000
attribute [local irreducible] aD Der At
theorem sS {l:List ByteArray} {s:ByteArray} {i:Nat} (h:i<l.length) (he:(l[i].toList == s.toList)=true) (hn:∀j (h:j<i),((l[j]'(by omega)).toList == s.toList)=false):jg l s=i:=by
 unfold jg
 rw [if_pos (List.any_eq_true.2 ⟨_,List.getElem_mem h,he⟩)]
 have:l.findIdx (fun x=>x.toList == s.toList)=i:=(List.findIdx_eq h).2 ⟨he,fun j hj=>by simpa using hn j hj⟩
 rw [this]
theorem z7 {l:List ByteArray} {s:ByteArray} (hn:∀j (h:j<l.length),(l[j].toList == s.toList)=false):jg l s = -1:=by
 unfold jg
 rw [if_neg]
 rw [List.any_eq_true]
 rintro ⟨x,hx,he⟩
 obtain ⟨j,hj,rfl⟩:=List.mem_iff_getElem.1 hx
 rw [hn j hj] at he;cases he
theorem aC {sig:List Ctl} {b:Big} (h:aw sig b=true):(0≤b.roots∧b.roots≤4)∧b.nodes.length≤8∧b.sites.length≤4∧(0≤b.edges∧b.edges≤8)∧b.outer.length≤16∧b.inner.length≤16:=by
 obtain ⟨_,h1,h2,h3,h4,h5,h6⟩:=eM (cZ h).1
 have:=fH h6
 rw [List.length_map] at this
 exact ⟨cA h1,h2,h3,cA h4,fH h5,this⟩
theorem dF (f:Nat→Bool) (n:Nat):(idxOf f n).length≤n:=by
 unfold idxOf
 rw [List.length_map]
 exact Nat.le_trans (List.length_filter_le _ _) (by simp)
theorem ma {sig:List Ctl} {a:Big} (hB:aw sig a=true) (m:Mat) (p0:Int) (hp:p0<a.nodes.length):FnD Tryz.prog 201 [a.D,m.D,.i p0] (.d (.b (gX a m.nodes p0))):=by
 refine ah Tryz.func201 (fun hw W0=>?_)
 refine kgo ?_
 refine eF (fun p:Int=>p<a.nodes.length∧gX a m.nodes p0=gX a m.nodes p) (fun p=>(p+1).toNat) (fun p=>[(2,.sy (.d (.i p))),(3,.sy (.bx 10003 0)),(10003,.tk (.bx (flat a.D))),(4,.sy (.bx 10004 0)),(10004,.tk (.bx (flat m.D)))]) p0 ⟨hp,rfl⟩ (fun p hi=>?_)
 refine kgo ?_
 refine cIf (fun h=>?_) (fun h=>?_)
 ·have h:=of_decide_eq_true h
  obtain ⟨k,rfl⟩:=Int.eq_ofNat_of_zero_le h
  have hk:k<a.nodes.length:=by omega
  have hs:gX a m.nodes k=(eq m.nodes k || gX a m.nodes (a.nodes[k]).parent):=eK hB _ k hk
  have hu:=gN hB k hk
  have f1:=js m.nodes k
  refine kgo ?_
  refine cIf (fun h2=>?_) (fun h2=>?_)
  ·refine kgo ?_
   rw [hi.2,hs,h2]
   exact ar
  ·refine kgo ?_
   exact ab (a.nodes[k]).parent ⟨by omega,by rw [hi.2,hs,h2];rfl⟩ (by omega)
 ·have h:=of_decide_eq_false h
  refine kgo ?_
  rw [hi.2,show gX a m.nodes p=false from dX _ _ (by omega)]
  exact ar
theorem Ex {sig:List Ctl} {b:Big} (hB:aw sig b=true) (p0:Int) (hp:p0<b.nodes.length):FnD Tryz.prog 259 [b.D,.i p0] (.d (.i (yG b p0))):=by
 refine ah Tryz.func259 (fun hw W0=>?_)
 refine kgo ?_
 refine eF (fun p:Int=>p<b.nodes.length∧yG b p0=yG b p) (fun p=>(p+1).toNat) (fun p=>[(1,.sy (.d (.i p))),(2,.sy (.bx 10002 0)),(10002,.tk (.bx (flat b.D)))]) p0 ⟨hp,rfl⟩ (fun p hi=>?_)
 refine kgo ?_
 refine cIf (fun h=>?_) (fun h=>?_)
 ·have h:=of_decide_eq_true h
  obtain ⟨k,rfl⟩:=Int.eq_ofNat_of_zero_le h
  have hk:k<b.nodes.length:=by omega
  have hu:=gN hB k hk
  refine kgo ?_
  exact ab (b.nodes[k]).parent ⟨by omega,by rw [hi.2,nA hB k hk]⟩ (by omega)
 ·have h:=of_decide_eq_false h
  refine kgo ?_
  rw [hi.2,mP b (by omega)]
  exact ar
theorem yE {sig:List Ctl} {b:Big} (hB:aw sig b=true) (r:Int):FnD Tryz.prog 215 [b.D,.i r] (.row 1 3 ((oz b r).map .i)):=by
 have hn:=(aC hB).2.1
 refine ah Tryz.func215 (fun hw W0=>?_)
 refine kgo ?_
 refine eF (fun i:Nat=>i≤b.nodes.length) (fun i=>b.nodes.length - i) (fun i=>[(1,.sy (.d (.i r))),(2,.sy (.bx 10002 0)),(10002,.tk (.bx (flat b.D))),(5,.sy (.k 10007)),(10007,.tk (.row 1 3 ((idxOf (ip b r) i).map .i))),(6,.sy (.d (.i i)))]) 0 (Nat.zero_le _) (fun i hi=>?_)
 refine kgo ?_
 refine cIf (fun h=>?_) (fun h=>?_)
 ·have h:=of_decide_eq_true h
  have hlt:i<b.nodes.length:=by omega
  have hu:=gN hB i hlt
  have f1:=Ex hB (b.nodes[i]).parent (by omega)
  have hf:=og b r i hlt
  have hl:=dF (ip b r) i
  refine kgo ?_
  refine cIf (fun h2=>?_) (fun h2=>?_)
  ·have hs:(idxOf (ip b r) (i+1)).map D.i=(idxOf (ip b r) i).map D.i++[.i i]:=by rw [cP (hf.trans h2),List.map_append];rfl
   refine kgo ?_
   exact ab (i+1) (by omega) (by omega)
  ·have hs:(idxOf (ip b r) (i+1)).map D.i=(idxOf (ip b r) i).map D.i:=by rw [dK (hf.trans h2)]
   refine kgo ?_
   exact ab (i+1) (by omega) (by omega)
 ·have h:=of_decide_eq_false h
  refine kgo ?_
  rw [show i=b.nodes.length by omega]
  exact qI
theorem uP (l:List ByteArray) (s:ByteArray):FnD Tryz.prog 208 [DS l,.s s] (.d (.i (jg l s))):=by
 refine ah Tryz.func208 (fun hw W0=>?_)
 have hl:=(wfM hw.1).1
 refine kgo ?_
 refine eF (fun i:Nat=>i≤l.length∧∀j (h:j<l.length),j<i→(l[j].toList == s.toList)=false) (fun i=>l.length - i) (fun i=>[(0,.sy (.d (DS l))),(1,.sy (.d (.s s))),(5,.sy (.d (.i i)))]) 0 ⟨Nat.zero_le _,fun j _ h=>absurd h (Nat.not_lt_zero _)⟩ (fun i hi=>?_)
 refine kgo ?_
 refine cIf (fun h=>?_) (fun h=>?_)
 ·have h:=of_decide_eq_true h
  have hlt:i<l.length:=by omega
  refine kgo ?_
  refine cIf (fun h2=>?_) (fun h2=>?_)
  ·refine kgo ?_
   rw [sS hlt h2 (fun j hj=>hi.2 j (by omega) hj)]
   exact ar
  ·refine kgo ?_
   exact ab (i+1) ⟨hlt,fun j h1 h3=>by
    rcases Nat.lt_or_ge j i with h4|h4
    ·exact hi.2 j h1 h4
    ·rw [show l[j]=l[i] from by congr 1;omega];exact h2⟩ (by omega)
 ·have h:=of_decide_eq_false h
  refine kgo ?_
  rw [z7 (fun j h1=>hi.2 j h1 (by omega))]
  exact ar
end Go.Proofs.YtacafmejcdgboaaGreatDoor
namespace Go.Proofs.YtacafmejcdgboaaGreatDoor
open Go.RowKit
set_option linter.unusedVariables false
set_option maxRecDepth 100000
set_option maxHeartbeats 1000000
attribute [local irreducible] aD Der At
theorem Ar {sig:List Ctl} {a:Big} (hB:aw sig a=true) (p0:Int) (hp:p0<a.nodes.length):FnD Tryz.prog 140 [.l 3 (sig.map Ctl.D),a.D,.i p0] (.d (.b (kz sig a p0))):=by
 refine ah Tryz.func140 (fun hw W0=>?_)
 refine kgo ?_
 refine eF (fun p:Int=>p<a.nodes.length∧kz sig a p0=kz sig a p) (fun p=>(p+1).toNat) (fun p=>[(0,.sy (.d (.l 3 (sig.map Ctl.D)))),(2,.sy (.d (.i p))),(4,.sy (.bx 10004 0)),(10004,.tk (.bx (flat a.D)))]) p0 ⟨hp,rfl⟩ (fun p hi=>?_)
 refine kgo ?_
 refine cIf (fun h=>?_) (fun h=>?_)
 ·have h:=of_decide_eq_true h
  obtain ⟨k,rfl⟩:=Int.eq_ofNat_of_zero_le h
  have hk:k<a.nodes.length:=by omega
  have hs:kz sig a k=(qC sig a k || kz sig a (a.nodes[k]).parent):=eK hB _ k hk
  have hu:=gN hB k hk
  obtain ⟨c0,c1,_⟩:=dc hB k hk
  obtain ⟨j,hj⟩:=Int.eq_ofNat_of_zero_le c0
  have hjl:j<sig.length:=by omega
  have hpf:qC sig a k=decide ((sig[j]).kind=1):=by unfold qC;rw [al a k hk,hj,iJ sig j hjl]
  refine kgo ?_
  refine dv (n:=j) (fun _=>?_) rfl rfl (congrArg some hj)
  refine kgo ?_
  refine cIf (fun h2=>?_) (fun h2=>?_)
  ·refine kgo ?_
   rw [hi.2,hs,hpf,h2]
   exact ar
  ·refine kgo ?_
   exact ab (a.nodes[k]).parent ⟨by omega,by rw [hi.2,hs,hpf,h2];rfl⟩ (by omega)
 ·have h:=of_decide_eq_false h
  refine kgo ?_
  rw [hi.2,show kz sig a p=false from dX _ _ (by omega)]
  exact ar
theorem xu {sig:List Ctl} {a:Big} (hB:aw sig a=true) (m:Mat) (hr:∀p∈m.roots,p<(a.nodes.length:Int)):FnD Tryz.prog 92 [.l 3 (sig.map Ctl.D),a.D,m.D] (.d (.b (ir sig a m.roots))):=by
 refine ah Tryz.func92 (fun hw W0=>?_)
 have hl:=(wfM hw.2.2.1.2.1).1
 refine kgo ?_
 refine eF (fun i:Nat=>i≤m.roots.length∧(m.roots.take i).all (fun p=>!kz sig a p)=true) (fun i=>m.roots.length - i) (fun i=>[(0,.sy (.d (.l 3 (sig.map Ctl.D)))),(4,.sy (.bx 10004 0)),(10004,.tk (.bx (flat a.D))),(5,.sy (.bx 10005 0)),(10005,.tk (.bx (flat m.D))),(7,.sy (.d (.i i)))]) 0 ⟨Nat.zero_le _,rfl⟩ (fun i hi=>?_)
 refine kgo ?_
 refine cIf (fun h=>?_) (fun h=>?_)
 ·have h:=of_decide_eq_true h
  have hlt:i<m.roots.length:=by omega
  have f1:=Ar hB m.roots[i] (hr _ (List.getElem_mem hlt))
  refine kgo ?_
  refine cIf (fun h2=>?_) (fun h2=>?_)
  ·refine kgo ?_
   rw [show ir sig a m.roots=false from List.all_eq_false.2 ⟨_,List.getElem_mem hlt,by simp [h2]⟩]
   exact ar
  ·refine kgo ?_
   exact ab (i+1) ⟨hlt,by rw [List.take_succ_eq_append_getElem hlt,List.all_append,hi.2];simp [h2]⟩ (by omega)
 ·have h:=of_decide_eq_false h
  refine kgo ?_
  rw [show ir sig a m.roots=true from by rw [← hi.2,List.take_of_length_le (by omega)];rfl]
  exact ar
def dQ (a:Big) (ns:List Int) (n:Nat):List Bool:=(List.range n).map (mi a ns)
theorem tb (a:Big) (ns:List Int) (n:Nat):dQ a ns (n+1)=dQ a ns n++[mi a ns n]:=by unfold dQ;rw [List.range_succ,List.map_append];rfl
theorem lg {sig:List Ctl} {a:Big} (hB:aw sig a=true) (m:Mat):FnD Tryz.prog 205 [a.D,m.D] (.d (.l 1 ((dQ a m.nodes a.nodes.length).map .b))):=by
 have hn:=(aC hB).2.1
 refine ah Tryz.func205 (fun hw W0=>?_)
 refine kgo ?_
 refine eF (fun i:Nat=>i≤a.nodes.length) (fun i=>a.nodes.length - i) (fun i=>[(2,.sy (.bx 10002 0)),(10002,.tk (.bx (flat a.D))),(3,.sy (.bx 10003 0)),(10003,.tk (.bx (flat m.D))),(5,.sy (.k 10007)),(10007,.tk (.row 1 4 ((dQ a m.nodes i).map .b))),(6,.sy (.d (.i i)))]) 0 (Nat.zero_le _) (fun i hi=>?_)
 refine kgo ?_
 refine cIf (fun h=>?_) (fun h=>?_)
 ·have h:=of_decide_eq_true h
  have hlt:i<a.nodes.length:=by omega
  have f1:=js m.nodes i
  have f2:=ma hB m i (by omega)
  have hs:(dQ a m.nodes (i+1)).map D.b=(dQ a m.nodes i).map D.b++[.b (gX a m.nodes i && !eq m.nodes i)]:=by rw [tb,List.map_append];rfl
  have hl:(dQ a m.nodes i).length=i:=by simp [dQ]
  cases hc:eq m.nodes i
  ·rw [hc] at hs f1
   simp only [Bool.not_false,Bool.and_true] at hs
   refine kgo ?_
   exact ab (i+1) (by omega) (by omega)
  ·rw [hc] at hs f1
   simp only [Bool.not_true,Bool.and_false] at hs
   refine kgo ?_
   exact ab (i+1) (by omega) (by omega)
 ·have h:=of_decide_eq_false h
  refine kgo ?_
  rw [show i=a.nodes.length by omega]
  exact GM
end Go.Proofs.YtacafmejcdgboaaGreatDoor
namespace Go.Proofs.YtacafmejcdgboaaGreatDoor
open Go.RowKit
set_option linter.unusedVariables false
set_option maxRecDepth 100000
set_option maxHeartbeats 1000000
attribute [local irreducible] aD Der At
theorem oX (p by':Int) (ps:List Int) (hok:CM by' ps p) (hb : -1000≤by'∧by'≤1000):FnD Tryz.prog 348 [.i p,.i by',DI ps] (.d (.i (upF by' ps p))):=by
 refine ah Tryz.func348 (fun hw W0=>?_)
 have h1:=hw.1
 have h2:=(wfM hw.2.2.1).1
 unfold Wf I64 at h1
 unfold CM at hok
 refine kgo ?_
 refine cIf (fun h=>?_) (fun h=>?_)
 ·have h:=of_decide_eq_true h
  refine kgo ?_
  rw [show upF by' ps p=atI ps (-1 - p) from if_pos h]
  exact ar
 ·have h:=of_decide_eq_false h
  refine kgo ?_
  rw [show upF by' ps p=p+by' from if_neg h]
  exact ar
theorem k9 (b:Big) (by':Int) (ps:List Int) (hl:b.sites.length≤1000) (hok:∀p∈b.sites,CM by' ps p) (hb : -1000≤by'∧by'≤1000):FnD Tryz.prog 318 [b.D,.i by',DI ps] (.row 1 3 ((dq by' ps b.sites).map .i)):=by
 refine ah Tryz.func318 (fun hw W0=>?_)
 refine kgo ?_
 refine eF (fun i:Nat=>i≤b.sites.length) (fun i=>b.sites.length - i) (fun i=>[(1,.sy (.d (.i by'))),(2,.sy (.d (DI ps))),(3,.sy (.bx 10003 0)),(10003,.tk (.bx (flat b.D))),(7,.sy (.k 10009)),(10009,.tk (.row 1 3 ((dq by' ps (b.sites.take i)).map .i))),(8,.sy (.d (.i i)))]) 0 (Nat.zero_le _) (fun i hi=>?_)
 refine kgo ?_
 refine cIf (fun h=>?_) (fun h=>?_)
 ·have h:=of_decide_eq_true h
  have hlt:i<b.sites.length:=by omega
  have f1:=oX b.sites[i] by' ps (hok _ (List.getElem_mem hlt)) hb
  have hs:(dq by' ps (b.sites.take (i+1))).map D.i=(dq by' ps (b.sites.take i)).map D.i++[.i (upF by' ps b.sites[i])]:=by unfold dq;rw [List.take_succ_eq_append_getElem hlt,List.map_append,List.map_append];rfl
  have hq:(dq by' ps (b.sites.take i)).length≤1000:=by unfold dq;rw [List.length_map,List.length_take];omega
  refine kgo ?_
  exact ab (i+1) hlt (by omega)
 ·have h:=of_decide_eq_false h
  refine kgo ?_
  rw [List.take_of_length_le (by omega)]
  exact qI
theorem od (xs:List ByteArray) (m:Int) (ys:List ByteArray) (hl:xs.length≤1000) (hy:ys.length≤1000) (hm:0≤m∧m≤1000):FnD Tryz.prog 283 [DS xs,.i m,DS ys] (.row 1 3 ((dm xs m ys).map .i)):=by
 refine ah Tryz.func283 (fun hw W0=>?_)
 refine kgo ?_
 refine eF (fun i:Nat=>i≤xs.length) (fun i=>xs.length - i) (fun i=>[(0,.sy (.d (DS xs))),(1,.sy (.d (.i m))),(2,.sy (.d (DS ys))),(7,.sy (.k 10009)),(10009,.tk (.row 1 3 ((dm (xs.take i) m ys).map .i))),(8,.sy (.d (.i i)))]) 0 (Nat.zero_le _) (fun i hi=>?_)
 refine kgo ?_
 refine cIf (fun h=>?_) (fun h=>?_)
 ·have h:=of_decide_eq_true h
  have hlt:i<xs.length:=by omega
  have f1:=uP ys xs[i]
  have hr:=ml ys xs[i]
  have hs:(dm (xs.take (i+1)) m ys).map D.i=(dm (xs.take i) m ys).map D.i++[.i (m+jg ys xs[i])]:=by rw [tx m ys i hlt,List.map_append];rfl
  have hq:(dm (xs.take i) m ys).length≤1000:=by unfold dm;rw [List.length_map,List.length_take];omega
  refine kgo ?_
  exact ab (i+1) hlt (by omega)
 ·have h:=of_decide_eq_false h
  refine kgo ?_
  rw [List.take_of_length_le (by omega)]
  exact qI
theorem lE (b:Big) (by':Int) (ps ks:List Int) (hb : -1000≤by'∧by'≤1000) (hl:b.nodes.length≤1000) (hll:∀n∈b.nodes,n.links.length≤1000) (hok:∀n∈b.nodes,CM by' ps n.parent) (hlk:∀n∈b.nodes,∀l∈n.links,0≤l∧l<(ks.length:Int)):FnD Tryz.prog 317 [b.D,.i by',DI ps,DI ks] (.row 3 151 ((cO by' ps ks b.nodes).map Nd.D)):=by
 refine ah Tryz.func317 (fun hw W0=>?_)
 refine kgo ?_
 refine eF (fun i:Nat=>i≤b.nodes.length) (fun i=>b.nodes.length - i) (fun i=>[(1,.sy (.d (.i by'))),(2,.sy (.d (DI ps))),(3,.sy (.d (DI ks))),(4,.sy (.bx 10004 0)),(10004,.tk (.bx (flat b.D))),(9,.sy (.k 10013)),(10013,.tk (.row 3 151 ((cO by' ps ks (b.nodes.take i)).map Nd.D))),(10,.sy (.d (.i i)))]) 0 (Nat.zero_le _) (fun i hi=>?_)
 refine kgo ?_
 refine cIf (fun h=>?_) (fun h=>?_)
 ·have h:=of_decide_eq_true h
  have hlt:i<b.nodes.length:=by omega
  have hm:=List.getElem_mem hlt
  have hq:(cO by' ps ks (b.nodes.take i)).length≤1000:=by unfold cO;rw [List.length_map,List.length_take];omega
  have hL:=hll _ hm
  have hK:=hlk _ hm
  refine kgo ?_
  refine eF (fun j:Nat=>j≤(b.nodes[i]).links.length) (fun j=>(b.nodes[i]).links.length - j) (fun j=>[(1,.sy (.d (.i by'))),(2,.sy (.d (DI ps))),(3,.sy (.d (DI ks))),(4,.sy (.bx 10004 0)),(10004,.tk (.bx (flat b.D))),(9,.sy (.k 10013)),(10013,.tk (.row 3 151 ((cO by' ps ks (b.nodes.take i)).map Nd.D))),(10,.sy (.d (.i i))),(11,.sy (.k 10021)),(10021,.tk (.row 1 3 ((ef ks ((b.nodes[i]).links.take j)).map .i))),(12,.sy (.d (.i j)))]) 0 (Nat.zero_le _) (fun j hj=>?_)
  refine kgo ?_
  refine cIf (fun h2=>?_) (fun h2=>?_)
  ·have h2:=of_decide_eq_true h2
   have hjl:j<(b.nodes[i]).links.length:=by omega
   have hk2:=hK _ (List.getElem_mem hjl)
   have hs:(ef ks ((b.nodes[i]).links.take (j+1))).map D.i=(ef ks ((b.nodes[i]).links.take j)).map D.i++[.i (atI ks (b.nodes[i]).links[j])]:=by rw [nY ks j hjl,List.map_append];rfl
   have hq2:(ef ks ((b.nodes[i]).links.take j)).length≤1000:=by unfold ef;rw [List.length_map,List.length_take];omega
   refine kgo ?_
   exact ab (j+1) hjl (by omega)
  ·have h2:=of_decide_eq_false h2
   rw [show (b.nodes[i]).links.take j=(b.nodes[i]).links from List.take_of_length_le (by omega)]
   have f1:=oX (b.nodes[i]).parent by' ps (hok _ hm) hb
   have hs:(cO by' ps ks (b.nodes.take (i+1))).map Nd.D=(cO by' ps ks (b.nodes.take i)).map Nd.D++[Nd.D ⟨(b.nodes[i]).control,upF by' ps (b.nodes[i]).parent,ef ks (b.nodes[i]).links⟩]:=by rw [ub by' ps ks i hlt,List.map_append];rfl
   repeat (first|(refine bZ ?_;first|refine aO ?_|refine b9 ?_|refine bf ?_|refine aX ?_|refine aQ ?_|refine aW ?_|refine aV ?_|refine aA ?_|refine bc ?_)|(refine fb ?_;first|refine bO ?_|refine fg ?_|refine bU ?_|refine cd ?_)|(refine fp ?_;first|refine dv (fun _=>?_)|refine ci ?_|refine cr ?_|refine bE ?_|refine bR ?_|refine bX ?_)|(refine ft ?_;first|refine b8 ?_|refine eG ?_|refine ca ?_|refine bI ?_|refine cb ?_|refine b7 ?_)|(refine fx ?_;first|refine fq ?_|refine eZ ?_|refine cm ?_|refine bQ ?_|refine fu ?_|refine aR ?_|refine bd ?_)|(refine bS ?_;first|refine bh ?_|refine bW ?_)|(refine fc ?_;first|refine cf ?_|refine ck ?_|refine fj ?_)|(refine bY ?_;first|refine cg ?_|refine be ?_|refine aZ ?_|refine bj ?_|refine aP ?_|refine aY ?_)|(refine fm ?_;first|refine co ?_|refine eX ?_|refine aU ?_|refine bg ?_)|(refine aS ?_;first|refine av _ ?_|refine ba ?_|refine aB ?_|refine ax ?_|refine az ?_)|(refine ff ?_;first|refine cq ?_|refine bJ ?_|refine cj ?_)|(refine gOp ?_;first|refine fd ?_|refine fa ?_|refine aT ?_|refine fl ?_|refine fh ?_|refine b6 ?_|refine aN ?_|refine bT ?_|refine fw ?_|refine bK ?_|refine ct ?_|refine bk ?_|refine sFz 64 ?_|refine ay ?_|refine ch ?_|refine sNo ?_|refine eS ?_)|refine eA ?_|refine eR ?_|refine fe ?_|refine bl ?_|refine bM ?_|refine bz ?_|refine fC ?_|refine fB ?_|refine fo ?_|refine eH ?_|refine bV ?_|refine bp ?_|refine au ?_|refine bm ?_|refine cw ?_|refine bA ?_|refine aBlkX ?_|refine cy ?_|refine sFz 64 ?_)
   exact ab (i+1) hlt (by omega)
 ·have h:=of_decide_eq_false h
  refine kgo ?_
  rw [List.take_of_length_le (by omega)]
  exact qI
theorem om (b:Big) (ps:List Int) (hok:∀x∈b.inner,0≤x.link∧x.link<(ps.length:Int)) (hl:b.inner.length≤1000):FnD Tryz.prog 319 [b.D,DI ps] (.row 2 153 ((dj ps b.inner).map Wr.D)):=by
 refine ah Tryz.func319 (fun hw W0=>?_)
 refine kgo ?_
 refine eF (fun i:Nat=>i≤b.inner.length) (fun i=>b.inner.length - i) (fun i=>[(1,.sy (.d (DI ps))),(2,.sy (.bx 10002 0)),(10002,.tk (.bx (flat b.D))),(5,.sy (.k 10007)),(10007,.tk (.row 2 153 ((dj ps (b.inner.take i)).map Wr.D))),(6,.sy (.d (.i i)))]) 0 (Nat.zero_le _) (fun i hi=>?_)
 refine kgo ?_
 refine cIf (fun h=>?_) (fun h=>?_)
 ·have h:=of_decide_eq_true h
  have hlt:i<b.inner.length:=by omega
  have hk:=hok _ (List.getElem_mem hlt)
  have hb:(dj ps (b.inner.take i)).length≤1000:=by unfold dj;rw [List.length_map,List.length_take];omega
  have hs:(dj ps (b.inner.take (i+1))).map Wr.D=(dj ps (b.inner.take i)).map Wr.D++[Wr.D ⟨(b.inner[i]).name,atI ps (b.inner[i]).link⟩]:=by rw [s9 ps i hlt,List.map_append];rfl
  refine kgo ?_
  exact ab (i+1) hlt (by omega)
 ·have h:=of_decide_eq_false h
  refine kgo ?_
  rw [List.take_of_length_le (by omega)]
  exact qI
theorem pW (l:List Int) (hl:l.length≤1000):FnD Tryz.prog 216 [DI l] (.row 1 3 (l.map .i)):=by
 refine ah Tryz.func216 (fun hw W0=>?_)
 refine kgo ?_
 exact qI
theorem gQ (b:Big) (hl:b.inner.length≤1000):FnD Tryz.prog 130 [b.D] (.d (DS (b.inner.map Wr.name))):=by
 refine ah Tryz.func130 (fun hw W0=>?_)
 refine kgo ?_
 refine eF (fun i:Nat=>i≤b.inner.length) (fun i=>b.inner.length - i) (fun i=>[(1,.sy (.bx 10001 0)),(10001,.tk (.bx (flat b.D))),(3,.sy (.k 10005)),(10005,.tk (.row 1 9 (((b.inner.take i).map Wr.name).map .s))),(4,.sy (.d (.i i)))]) 0 (Nat.zero_le _) (fun i hi=>?_)
 refine kgo ?_
 refine cIf (fun h=>?_) (fun h=>?_)
 ·have h:=of_decide_eq_true h
  have hlt:i<b.inner.length:=by omega
  have hs:((b.inner.take (i+1)).map Wr.name).map D.s=((b.inner.take i).map Wr.name).map D.s++[.s (b.inner[i]).name]:=by rw [List.take_succ_eq_append_getElem hlt,List.map_append,List.map_append];rfl
  refine kgo ?_
  exact ab (i+1) hlt (by omega)
 ·have h:=of_decide_eq_false h
  refine kgo ?_
  rw [List.take_of_length_le (by omega)]
  exact GM
theorem qQ (xs ys:List ByteArray):FnD Tryz.prog 280 [DS xs,DS ys] (.d (.b (hM xs ys))):=by
 refine ah Tryz.func280 (fun hw W0=>?_)
 have hl:=(wfM hw.1).1
 refine kgo ?_
 refine eF (fun i:Nat=>i≤xs.length∧(xs.take i).all (fun s=>!ys.any fun x=>x.toList == s.toList)=true) (fun i=>xs.length - i) (fun i=>[(0,.sy (.d (DS xs))),(1,.sy (.d (DS ys))),(5,.sy (.d (.i i)))]) 0 ⟨Nat.zero_le _,rfl⟩ (fun i hi=>?_)
 refine kgo ?_
 refine cIf (fun h=>?_) (fun h=>?_)
 ·have h:=of_decide_eq_true h
  have hlt:i<xs.length:=by omega
  have f1:=uP ys xs[i]
  have hp:=qi ys xs[i]
  refine kgo ?_
  refine cIf (fun h2=>?_) (fun h2=>?_)
  ·refine kgo ?_
   rw [show hM xs ys=false from List.all_eq_false.2 ⟨_,List.getElem_mem hlt,by rw [← hp,h2];simp⟩]
   exact ar
  ·refine kgo ?_
   exact ab (i+1) ⟨hlt,by rw [List.take_succ_eq_append_getElem hlt,List.all_append,hi.2,List.all_cons,← hp,h2];rfl⟩ (by omega)
 ·have h:=of_decide_eq_false h
  refine kgo ?_
  rw [show hM xs ys=true from by rw [← hi.2,List.take_of_length_le (by omega)];rfl]
  exact ar
end Go.Proofs.YtacafmejcdgboaaGreatDoor
namespace Go.Proofs.YtacafmejcdgboaaGreatDoor
open Go.RowKit
set_option linter.unusedVariables false
set_option linter.unusedSimpArgs false
set_option maxRecDepth 100000
set_option maxHeartbeats 4000000
theorem GX {P:Program} {ops:Array Oper} {W0:cE} {N:Nat} {Fin:Us→Env→Prop} {os:List Oper} {us:Us} {pk fk:List Nat} {σ:Env} {d ty:Nat} {pos:String} {after:Array Edge} {op:Op} {j d':Nat} {want:Bool} (h:Der P ops W0 N Fin os (us++[((d :: [d'])++pk,([d])++fk)]) [] [] ((d,.sy (.v undef)) :: σ)) (hj:(ops[j]?).bind (·.dst)=some d':=by rfl) (hu:am σ d'=some (.sy (.v undef)):=by rfl) (hN:Nat.blt d N=true:=by rfl) (hs:aI σ d=true:=by rfl):Der P ops W0 N Fin (⟨some d,op,ty,pos,after,some (j,want)⟩ :: os) us pk fk σ:=by
 refine ⟨d :: [d'],[(d,.sy (.v undef))],fun σ' a w hk hh=>.inr ⟨?_,?_⟩,h⟩
 ·obtain ⟨c,hc⟩:=hh
  obtain ⟨v,h1,h2⟩:=hc.tmp d' _ ((hk d' (by simp)).trans hu)
  have:v=undef:=h2
  subst this
  show (yielded ops a.tmps j == some want)=false
  unfold yielded
  rw [hj]
  simp only [Option.bind_some,h1]
  rfl
 ·obtain ⟨c,hc⟩:=hh
  exact ⟨c,hc.put (Nat.blt_eq.mp hN) rfl (by rw [hk d (by simp)];exact iH hs)⟩
attribute [local irreducible] aD Der At
theorem n9 (n lo hi:Int):FnD Tryz.prog 90 [.i n,.i lo,.i hi] (.d (.b (inR n lo hi))):=by
 refine ah Tryz.func90 (fun hw W0=>?_)
 refine kgo ?_
 cases h:decide (lo≤n)
 ·refine kgo ?_
  rw [show inR n lo hi=false from by unfold inR;rw [h];rfl]
  exact ar
 ·refine kgo ?_
  rw [show inR n lo hi=decide (n≤hi) from by unfold inR;rw [h];rfl]
  exact ar
attribute [local irreducible] inR di cT kl de cR dy eT go qD
theorem uS (b:Big) (l:Int) (he:0≤b.edges∧b.edges≤8) (ho:b.outer.length≤1000):FnD Tryz.prog 133 [b.D,.i l] (.d (.b (dy b l))):=by
 have f1:=n9 l 0 (b.edges+b.outer.length - 1)
 rw [show dy b l=inR l 0 (b.edges+b.outer.length - 1) by unfold dy;rfl]
 refine ah Tryz.func133 (fun hw W0=>?_)
 refine kgo ?_
 exact ar
theorem sq (sig:List Ctl) (b:Big) (p below:Int) (hr:0≤b.roots∧b.roots≤4) (hb:below≤b.nodes.length) (hC:z6 sig b below):FnD Tryz.prog 132 [.l 3 (sig.map Ctl.D),b.D,.i p,.i below] (.d (.b (cR sig b p below))):=by
 refine ah Tryz.func132 (fun hw W0=>?_)
 have hp:I64 p:=hw.2.2.1
 refine kgo ?_
 refine bo (fun h=>?_) (fun h=>?_)
 ·have f1:=n9 (-1 - p) 0 (b.roots - 1)
  rw [← t6 h hp]
  unfold I64 at hp
  refine kgo ?_
  exact ar
 rw [show cR sig b p below=(decide (p<below) && !(decide ((qD sig (cI b p).control).kind=2))) by unfold cR;exact if_neg (by omega)]
 refine kgo ?_
 cases h2:decide (p<below)
 ·refine kgo ?_
  exact ar
 have h3:=of_decide_eq_true h2
 obtain ⟨n,rfl⟩:=Int.eq_ofNat_of_zero_le (show 0≤p by omega)
 have hn:n<b.nodes.length:=by omega
 obtain ⟨c0,c1⟩:=hC n hn h3
 obtain ⟨m,hm⟩:=Int.eq_ofNat_of_zero_le c0
 have hml:m<sig.length:=by omega
 rw [al b n hn,hm,iJ sig m hml]
 refine kgo ?_
 refine dv (n:=m) (fun _=>?_) rfl rfl (congrArg some hm)
 refine kgo ?_
 exact ar
theorem Bw (sig:List Ctl) (b:Big) (i:Nat) (hr:0≤b.roots∧b.roots≤4) (he:0≤b.edges∧b.edges≤8) (ho:b.outer.length≤1000) (hlt:i<b.nodes.length) (hC:z6 sig b i):FnD Tryz.prog 131 [.l 3 (sig.map Ctl.D),b.D,.i i] (.d (.b (fF sig b i))):=by
 have f1:=n9 (b.nodes[i]).control 0 ((sig.length:Int) - 1)
 have f2:=sq sig b (b.nodes[i]).parent i hr (by omega) hC
 refine ah Tryz.func131 (fun hw W0=>?_)
 have hl:=(wfM hw.1).1
 have hnl:=(wfM ((wfM hw.2.1.2.1).2 _ (List.getElem_mem hlt)).2.2.1).1
 rw [wR sig b i hlt]
 refine kgo ?_
 cases h1:inR (b.nodes[i]).control 0 ((sig.length:Int) - 1)
 ·refine kgo ?_
  exact ar
 refine kgo ?_
 cases h2:cR sig b (b.nodes[i]).parent i
 ·refine kgo ?_
  exact ar
 obtain ⟨c0,c1⟩:=cA h1
 obtain ⟨m,hm⟩:=Int.eq_ofNat_of_zero_le c0
 have hml:m<sig.length:=by omega
 refine kgo ?_
 refine dv (n:=m) (fun _=>?_) rfl rfl (congrArg some hm)
 rw [show qD sig (b.nodes[i]).control=sig[m] by rw [hm];exact iJ sig m hml]
 refine kgo ?_
 refine cIf (fun h3=>?_) (fun h3=>?_)
 ·rw [decide_eq_false (by simpa using h3)]
  refine kgo ?_
  exact ar
 rw [decide_eq_true (by simpa using h3)]
 refine kgo ?_
 refine aj [4,7] (fun j:Nat=>j≤(b.nodes[i]).links.length∧((b.nodes[i]).links.take j).all (dy b)=true) (fun j=>(b.nodes[i]).links.length - j) (fun j=>[(8,.sy (.d (.i j)))]) 0 ⟨Nat.zero_le _,rfl⟩ (fun j hj=>?_)
 refine kgo ?_
 refine bo (fun h=>?_) (fun h=>?_)
 ·have hjl:j<(b.nodes[i]).links.length:=by omega
  have f3:=uS b ((b.nodes[i]).links[j]) he ho
  have ht:=iT (dy b) (b.nodes[i]).links j hjl
  refine kgo ?_
  cases h4:dy b ((b.nodes[i]).links[j])
  ·rw [sR (dy b) (b.nodes[i]).links j hjl h4]
   refine kgo ?_
   exact ar
  refine kgo ?_
  exact ab (j+1) ⟨hjl,by rw [ht,hj.2,h4];rfl⟩ (by show _ - (j+1)<_ - j;omega)
 ·rw [jz (dy b) (b.nodes[i]).links j (by omega) hj.2]
  refine kgo ?_
  exact ar
theorem x9 (sig:List Ctl):FnD Tryz.prog 128 [.l 3 (sig.map Ctl.D)] (.d (.b (kl sig))):=⟨cF Tryz.func128,fun F w vs hv hF=>by
 obtain ⟨v1,t,rfl,h1,h3⟩:=hv
 cases (show t = [] from h3)
 refine (sv _ _ _ _ _ (vK.toV (by decide) h1)).mono ?_
 rintro e w' ⟨rfl,hX⟩
 exact ⟨_,rfl,hX,rfl⟩⟩
theorem Cs {P:Program} {ρ:Operand→Value} {w:World} {d g:_} {ty ty' ty2:Nat} {pos:String} {after:Array Edge} {x y:Operand} {m n:ByteArray} (h1:ρ x=.string m) (h2:ρ y=.string n):(execOp ρ ⟨d,.binOp .geq ty' x y ty2,ty,pos,after,g⟩).run P w=.ok (.value (.bool (!(Op.bytesLess m.toList n.toList)))) w:=by
 simp only [execOp,h1,h2]
 rfl
section
variable {P:Program} {ops:Array Oper} {W0:cE} {N:Nat} {Fin:Us→Env→Prop} {os:List Oper} {us:Us} {pk fk:List Nat} {σ:Env} {g:Option (Nat × Bool)} {gk:List Nat} {d ty ty':Nat} {pos:String} {after:Array Edge}
theorem GC {x y:Operand} {ty2:Nat} {s t:Sy} {m n:ByteArray} (h:Der P ops W0 N Fin os (us++[((d :: (gk++(kx x++kx y)))++pk,([d])++fk)]) [] [] ((d,.sy (.d (.b (!(Op.bytesLess m.toList n.toList))))) :: σ)) (hx:ev σ x=some s:=by rfl) (hy:ev σ y=some t:=by rfl) (hm:s.str? = some m:=by rfl) (hn:t.str? = some n:=by rfl) (hg:gst ops σ g=some (true,gk):=by rfl) (hN:Nat.blt d N=true:=by rfl) (hs:aI σ d=true:=by rfl):Der P ops W0 N Fin (⟨some d,.binOp .geq ty' x y ty2,ty,pos,after,g⟩ :: os) us pk fk σ:=
 cC (.d (.b (!(Op.bytesLess m.toList n.toList)))) (kx x++kx y) (fun σ' c a w hk hc=>by
  have h1:=nf hm (aq hc (af hx (fun κ hκ=>hk κ (by simp [hκ]))))
  have h2:=nf hn (aq hc (af hy (fun κ hκ=>hk κ (by simp [hκ]))))
  exact ⟨_,Cs h1 h2,by simp [Sy.ok,DV,Rp]⟩) h hg hN hs
end
theorem Bg (s:ByteArray):FnD Tryz.prog 195 [.s s] (.d (.b (di s))):=⟨cF Tryz.func195,fun F w vs hv hF=>by
 obtain ⟨v1,t,rfl,⟨h0,h1⟩,h3⟩:=hv
 cases (show t = [] from h3)
 cases h0
 refine (kU _ _ h1).mono ?_
 rintro e w' ⟨rfl,hX⟩
 exact ⟨_,rfl,hX,rfl⟩⟩
theorem rh (l:List ByteArray):FnD Tryz.prog 129 [DS l] (.d (.b (de l))):=by
 refine ah Tryz.func129 (fun hw W0=>?_)
 have hl:=(wfM hw.1).1
 refine kgo ?_
 refine aj [0] (fun i:Nat=>i≤l.length∧(List.range i).all (zo l)=true) (fun i=>l.length - i) (fun i=>[(3,.sy (.d (.i i)))]) 0 ⟨Nat.zero_le _,rfl⟩ (fun i hi=>?_)
 refine kgo ?_
 refine bo (fun h=>?_) (fun h=>?_)
 ·have hlt:i<l.length:=by omega
  have hbad:=pg l i hlt
  have hok:zo l i=true→(List.range (i+1)).all (zo l)=true:=fun e=>by rw [bL,hi.2,e];rfl
  rw [pq l i hlt] at hbad hok
  have f1:=Bg l[i]
  refine kgo ?_
  cases h1:di l[i]
  ·rw [hbad (by rw [h1];rfl)]
   refine kgo ?_
   (repeat refine GX ?_)
   refine kgo ?_
   exact ar
  rw [h1] at hbad hok
  cases i with
  | zero=>
   refine kgo ?_
   exact ab 1 ⟨hlt,hok rfl⟩ (by show _ - 1<_ - 0;omega)
  | succ j=>
   refine kgo ?_
   cases hg:decide ((0:Int)<((j+1:Nat):Int))
   ·exact absurd hg (by simp)
   refine kgo ?_
   refine dv (n:=j) (fun _=>?_) rfl rfl (congrArg some (show ((j+1:Nat):Int) - 1=j by omega))
   refine kgo ?_
   refine GC ?_
   refine kgo ?_
   have hgd:l.getD (j+1 - 1) ⟨#[]⟩=l[j]:=by rw [List.getD_eq_getElem?_getD,Nat.add_sub_cancel,List.getElem?_eq_getElem (by omega)];rfl
   have hsl:cT l[j] l[j+1]=Op.bytesLess l[j].toList l[j+1].toList:=by unfold cT;rfl
   rw [hgd,hsl] at hbad hok
   cases h2:Op.bytesLess l[j].toList l[j+1].toList
   ·rw [hbad (by rw [h2];simp)]
    refine kgo ?_
    exact ar
   refine kgo ?_
   exact ab (j+1+1) ⟨hlt,hok (by rw [h2];simp)⟩ (by show _ - (j+1+1)<_ - (j+1);omega)
 obtain rfl:i=l.length:=by omega
 rw [show de l=decide ((l.length:Int)≤16) by unfold de;rw [hi.2];rfl]
 refine kgo ?_
 exact ar
attribute [local irreducible] fF
theorem fN (sig:List Ctl) (b:Big) (hl:b.inner.length≤1048576):FnD Tryz.prog 88 [.l 3 (sig.map Ctl.D),b.D] (.d (.b (aw sig b))):=by
 have f1:=x9 sig
 have f2:=n9 b.roots 0 4
 have f3:=n9 b.edges 0 8
 have f4:=rh b.outer
 have f5:=rh (b.inner.map Wr.name)
 refine ah Tryz.func88 (fun hw W0=>?_)
 have hs:=(wfM hw.2.1.2.2.1).1
 refine kgo ?_
 cases h1:kl sig
 ·rw [du (by unfold iN;rw [h1];rfl)]
  refine kgo ?_
  exact ar
 refine kgo ?_
 cases h2:inR b.roots 0 4
 ·rw [du (by unfold iN;rw [h2];simp)]
  refine kgo ?_
  exact ar
 refine kgo ?_
 cases h3:decide ((8:Int)<b.nodes.length)
 rotate_left
 ·rw [du (by unfold iN;simp at h3;simp;omega)]
  refine kgo ?_
  exact ar
 refine kgo ?_
 cases h4:decide ((4:Int)<b.sites.length)
 rotate_left
 ·rw [du (by unfold iN;simp at h4;simp;omega)]
  refine kgo ?_
  exact ar
 refine kgo ?_
 cases h5:inR b.edges 0 8
 ·rw [du (by unfold iN;rw [h5];simp)]
  refine kgo ?_
  exact ar
 refine kgo ?_
 cases h6:de b.outer
 ·rw [du (by unfold iN;rw [h6];simp)]
  refine kgo ?_
  exact ar
 refine kgo ?_
 cases h7:decide ((16:Int)<b.inner.length)
 rotate_left
 ·rw [du (by unfold iN;cases hh:de (b.inner.map Wr.name) with
   | false=>simp
   | true=>have:=fH hh;simp at h7 this;omega)]
  refine kgo ?_
  exact ar
 have f6:=gQ b (by simp at h7;omega)
 refine kgo ?_
 cases h8:de (b.inner.map Wr.name)
 ·rw [du (by unfold iN;rw [h8];simp)]
  refine kgo ?_
  exact ar
 have hH:iN sig b=true:=by unfold iN;rw [h1,h2,h5,h6,h8];simp at h3 h4 ⊢;omega
 have hr:=cA h2
 have he:=cA h5
 have ho:b.outer.length≤1000:=by have:=fH h6;omega
 simp only [decide_eq_false_iff_not] at h3 h4 h7
 refine kgo ?_
 refine aj [0,3] (fun i:Nat=>i≤b.nodes.length∧(List.range i).all (fF sig b)=true) (fun i=>b.nodes.length - i) (fun i=>[(5,.sy (.d (.i i)))]) 0 ⟨Nat.zero_le _,rfl⟩ (fun i hi=>?_)
 refine kgo ?_
 refine bo (fun h=>?_) (fun h=>?_)
 ·have hlt:i<b.nodes.length:=by omega
  have f7:=Bw sig b i hr he ho hlt (mR hi.2)
  refine kgo ?_
  cases h9:fF sig b i
  ·rw [m8 i hlt h9]
   refine kgo ?_
   exact ar
  refine kgo ?_
  exact ab (i+1) ⟨hlt,by rw [bL,hi.2,h9];rfl⟩ (by show _ - (i+1)<_ - i;omega)
 obtain rfl:i=b.nodes.length:=by omega
 have hN:=hi.2
 refine kgo ?_
 refine aj [0,3] (fun i:Nat=>i≤b.sites.length∧(b.sites.take i).all (eT sig b)=true) (fun i=>b.sites.length - i) (fun i=>[(6,.sy (.d (.i i)))]) 0 ⟨Nat.zero_le _,rfl⟩ (fun i hi=>?_)
 refine kgo ?_
 refine bo (fun h=>?_) (fun h=>?_)
 ·have hlt:i<b.sites.length:=by omega
  have f7:=sq sig b b.sites[i] b.nodes.length hr (Int.le_refl _) (mR hN)
  rw [← yR] at f7
  refine kgo ?_
  cases h9:eT sig b b.sites[i]
  ·rw [uq (sR _ _ i hlt h9)]
   refine kgo ?_
   exact ar
  refine kgo ?_
  exact ab (i+1) ⟨hlt,by rw [iT _ _ i hlt,hi.2,h9];rfl⟩ (by show _ - (i+1)<_ - i;omega)
 have hS:=jz _ _ _ (by omega) hi.2
 refine kgo ?_
 refine aj [3] (fun i:Nat=>i≤b.inner.length∧(b.inner.take i).all (go b)=true) (fun i=>b.inner.length - i) (fun i=>[(7,.sy (.d (.i i)))]) 0 ⟨Nat.zero_le _,rfl⟩ (fun i hi=>?_)
 refine kgo ?_
 refine bo (fun h=>?_) (fun h=>?_)
 ·have hlt:i<b.inner.length:=by omega
  have f7:=uS b (b.inner[i]).link he ho
  rw [← yv] at f7
  refine kgo ?_
  cases h9:go b b.inner[i]
  ·rw [tL (sR _ _ i hlt h9)]
   refine kgo ?_
   exact ar
  refine kgo ?_
  exact ab (i+1) ⟨hlt,by rw [iT _ _ i hlt,hi.2,h9];rfl⟩ (by show _ - (i+1)<_ - i;omega)
 rw [Co hH hN hS (jz _ _ _ (by omega) hi.2)]
 refine kgo ?_
 exact ar
end Go.Proofs.YtacafmejcdgboaaGreatDoor
namespace Go.Proofs.YtacafmejcdgboaaGreatDoor
open Go.RowKit
set_option linter.unusedVariables false
set_option maxRecDepth 100000
set_option maxHeartbeats 4000000
attribute [local irreducible] aD Der At
theorem uR {sig:List Ctl} {b:Big} (h:aw sig b=true) (by':Int) {ps:List Int} (hp:b.roots≤ps.length):∀n∈b.nodes,CM by' ps n.parent:=by
 intro n hn
 obtain ⟨i,hi,rfl⟩:=List.mem_iff_getElem.1 hn
 have:=gN h i hi
 have:=aC h
 unfold CM
 omega
theorem pH {sig:List Ctl} {b:Big} (h:aw sig b=true) (by':Int) {ps:List Int} (hp:b.roots≤ps.length):∀p∈b.sites,CM by' ps p:=by
 intro p hp'
 have h3:=List.all_eq_true.1 (cZ h).2.2.1 p hp'
 have:=aC h
 unfold eT cR at h3
 unfold CM
 split at h3
 ·simp only [decide_eq_true_eq] at h3;omega
 ·simp only [Bool.and_eq_true,decide_eq_true_eq] at h3;omega
theorem vx {sig:List Ctl} {b:Big} (h:aw sig b=true) {ks:List Int} (hp:b.edges+b.outer.length≤ks.length):∀n∈b.nodes,∀l∈n.links,0≤l∧l<(ks.length:Int):=by
 intro n hn l hl
 obtain ⟨i,hi,rfl⟩:=List.mem_iff_getElem.1 hn
 have:=(dc h i hi).2.2.2.2 l hl
 unfold dy at this
 have:=cA this
 omega
theorem uJ {sig:List Ctl} {b:Big} (h:aw sig b=true) {ks:List Int} (hp:b.edges+b.outer.length≤ks.length):∀x∈b.inner,0≤x.link∧x.link<(ks.length:Int):=by
 intro x hx
 have:=List.all_eq_true.1 (cZ h).2.2.2 x hx
 unfold go dy at this
 have:=cA this
 omega
theorem pV {sig:List Ctl} {b:Big} (h:aw sig b=true):∀n∈b.nodes,n.links.length≤1000:=by
 intro n hn
 obtain ⟨i,hi,rfl⟩:=List.mem_iff_getElem.1 hn
 exact (bw h).links i hi
def Cw (a b:Big) (outer:List ByteArray) (above below:List Int):Big:=
 ⟨a.roots,cO 0 (cV 0 a.roots.toNat) (eL 0 a.edges.toNat++above) a.nodes++cO a.nodes.length (dq 0 (cV 0 a.roots.toNat) a.sites) (eL a.edges b.edges.toNat++below) b.nodes,dq a.nodes.length (dq 0 (cV 0 a.roots.toNat) a.sites) b.sites,a.edges+b.edges,outer,dj (eL a.edges b.edges.toNat++below) b.inner⟩
theorem lW (m n:Int) (hn:0≤n∧n≤1000) (hm : -1000≤m∧m≤1000):FnD Tryz.prog 316 [.i m,.i n] (.row 1 3 ((cV m n.toNat).map .i)):=by
 obtain ⟨k,rfl⟩:=Int.eq_ofNat_of_zero_le hn.1
 exact Af m k (by omega) hm
theorem gC (m n:Int) (hn:0≤n∧n≤1000) (hm : -1000≤m∧m≤1000):FnD Tryz.prog 209 [.i m,.i n] (.row 1 3 ((eL m n.toNat).map .i)):=by
 obtain ⟨k,rfl⟩:=Int.eq_ofNat_of_zero_le hn.1
 exact Aj m k (by omega) hm
theorem An {sig:List Ctl} {a b:Big} (hA:aw sig a=true) (hB:aw sig b=true) (hf:(a.sites.length:Int)=b.roots) (outer:List ByteArray) (above below:List Int) (hol:outer.length≤1000) (h1:above.length=a.outer.length) (h2:below.length=b.outer.length) :
 FnD Tryz.prog 284 [a.D,b.D,DS outer,DI above,DI below] (.d (Cw a b outer above below).D):=by
 have ha:=aC hA
 have hb:=aC hB
 have l1:=ey 0 a.edges.toNat
 have l2:=ey a.edges b.edges.toNat
 have l3:=kZ 0 a.roots.toNat
 have l4:(dq 0 (cV 0 a.roots.toNat) a.sites).length=a.sites.length:=by unfold dq;rw [List.length_map]
 have f1:=lW 0 a.roots (by omega) (by omega)
 have f2:=gC 0 a.edges (by omega) (by omega)
 have f3:=gC a.edges b.edges (by omega) (by omega)
 have f4:=k9 a 0 (cV 0 a.roots.toNat) (by omega) (pH hA 0 (by omega)) (by omega)
 have f5:=lE a 0 (cV 0 a.roots.toNat) (eL 0 a.edges.toNat++above) (by omega) (by omega) (pV hA) (uR hA 0 (by omega)) (vx hA (by rw [List.length_append];omega))
 have f6:=lE b a.nodes.length (dq 0 (cV 0 a.roots.toNat) a.sites) (eL a.edges b.edges.toNat++below) (by omega) (by omega) (pV hB) (uR hB _ (by omega)) (vx hB (by rw [List.length_append];omega))
 have f7:=k9 b a.nodes.length (dq 0 (cV 0 a.roots.toNat) a.sites) (by omega) (pH hB _ (by omega)) (by omega)
 have f8:=om b (eL a.edges b.edges.toNat++below) (uJ hB (by rw [List.length_append];omega)) (by omega)
 have q1:(cO 0 (cV 0 a.roots.toNat) (eL 0 a.edges.toNat++above) a.nodes).length≤1000:=by unfold cO;rw [List.length_map];omega
 have q2:(cO a.nodes.length (dq 0 (cV 0 a.roots.toNat) a.sites) (eL a.edges b.edges.toNat++below) b.nodes).length≤1000:=by unfold cO;rw [List.length_map];omega
 refine ah Tryz.func284 (fun hw W0=>?_)
 repeat (first|refine cFz 11 ?_|refine cFz 12 ?_|refine cFz 13 ?_|refine cFz 14 ?_|(refine bZ ?_;first|refine aO ?_|refine b9 ?_|refine bf ?_|refine aX ?_|refine aQ ?_|refine aW ?_|refine aV ?_|refine aA ?_|refine bc ?_)|(refine fb ?_;first|refine bO ?_|refine fg ?_|refine bU ?_|refine cd ?_)|(refine fp ?_;first|refine dv (fun _=>?_)|refine ci ?_|refine cr ?_|refine bE ?_|refine bR ?_|refine bX ?_)|(refine ft ?_;first|refine b8 ?_|refine eG ?_|refine ca ?_|refine bI ?_|refine cb ?_|refine b7 ?_)|(refine fx ?_;first|refine fq ?_|refine eZ ?_|refine cm ?_|refine bQ ?_|refine fu ?_|refine aR ?_|refine bd ?_)|(refine bS ?_;first|refine bh ?_|refine bW ?_)|(refine fc ?_;first|refine cf ?_|refine ck ?_|refine fj ?_)|(refine bY ?_;first|refine cg ?_|refine be ?_|refine aZ ?_|refine bj ?_|refine aP ?_|refine aY ?_)|(refine fm ?_;first|refine co ?_|refine eX ?_|refine aU ?_|refine bg ?_)|(refine aS ?_;first|refine av _ ?_|refine ba ?_|refine aB ?_|refine ax ?_|refine az ?_)|(refine ff ?_;first|refine cq ?_|refine bJ ?_|refine cj ?_)|(refine gOp ?_;first|refine fd ?_|refine fa ?_|refine aT ?_|refine fl ?_|refine fh ?_|refine b6 ?_|refine aN ?_|refine bT ?_|refine fw ?_|refine bK ?_|refine ct ?_|refine bk ?_|refine sFz 45 ?_|refine sFz 46 ?_|refine sFz 52 ?_|refine sFz 60 ?_|refine sFz 63 ?_|refine ay ?_|refine ch ?_|refine sNo ?_|refine eS ?_)|refine eA ?_|refine eR ?_|refine fe ?_|refine bl ?_|refine bM ?_|refine bz ?_|refine fC ?_|refine fB ?_|refine fo ?_|refine eH ?_|refine bV ?_|refine bp ?_|refine au ?_|refine bm ?_|refine cw ?_|refine bA ?_|refine aBlkX ?_|refine cy ?_|refine sFz 45 ?_|refine sFz 46 ?_|refine sFz 52 ?_|refine sFz 60 ?_|refine sFz 63 ?_)
 exact ar
theorem AC (a c:List ByteArray):FnD Tryz.prog 282 [DS a,DS c] (.d (.b (eqS a c))):=by
 refine ah Tryz.func282 (fun hw W0=>?_)
 have hl:=(wfM hw.1).1
 refine kgo ?_
 refine cIf (fun h=>?_) (fun h=>?_)
 ·have h:¬(a.length:Int)=c.length:=by simpa using h
  refine kgo ?_
  rw [qd h]
  exact ar
 ·have h:(a.length:Int)=c.length:=by simpa using h
  refine kgo ?_
  refine eF (fun i:Nat=>i≤a.length∧(List.range i).all (jH a c)=true) (fun i=>a.length - i) (fun i=>[(0,.sy (.d (DS a))),(1,.sy (.d (DS c))),(5,.sy (.d (.i i)))]) 0 ⟨Nat.zero_le _,rfl⟩ (fun i hi=>?_)
  refine kgo ?_
  refine cIf (fun h2=>?_) (fun h2=>?_)
  ·have h2:=of_decide_eq_true h2
   have hlt:i<a.length:=by omega
   have hlt2:i<c.length:=by omega
   have hs:=jr a c i hlt hlt2
   refine kgo ?_
   refine cIf (fun h3=>?_) (fun h3=>?_)
   ·refine kgo ?_
    rw [qc (c:=c) i hlt (by rw [hs];simpa using h3)]
    exact ar
   ·refine kgo ?_
    exact ab (i+1) ⟨hlt,by rw [bL,hi.2,hs];simpa using h3⟩ (by omega)
  ·have h2:=of_decide_eq_false h2
   refine kgo ?_
   rw [xY h (by rw [← hi.2,show i=a.length by omega])]
   exact ar
def mF (a b:Big):Bool:=decide ((a.sites.length:Int)=b.roots) && eqS (a.inner.map Wr.name) b.outer
theorem BY (a b:Big) (hl:a.inner.length≤1000):FnD Tryz.prog 256 [a.D,b.D] (.d (.b (mF a b))):=by
 have f1:=gQ a hl
 have f2:=AC (a.inner.map Wr.name) b.outer
 refine ah Tryz.func256 (fun hw W0=>?_)
 have hs:=(wfM hw.1.2.2.1).1
 cases hc:decide ((a.sites.length:Int)=b.roots)
 ·rw [show mF a b=false from by unfold mF;rw [hc];rfl]
  refine kgo ?_
  rw [hc]
  refine kgo ?_
  exact ar
 ·rw [show mF a b=eqS (a.inner.map Wr.name) b.outer from by unfold mF;rw [hc];rfl]
  refine kgo ?_
  rw [hc]
  refine kgo ?_
  exact ar
end Go.Proofs.YtacafmejcdgboaaGreatDoor
namespace Go.Proofs.YtacafmejcdgboaaGreatDoor
open Go.RowKit
set_option linter.unusedVariables false
set_option maxRecDepth 100000
set_option maxHeartbeats 4000000
attribute [local irreducible] aD Der At
theorem vA (sig:List Ctl) (b:Big) (hl:b.inner.length≤1048576):FnD Tryz.prog 257 [.l 3 (sig.map Ctl.D),b.D] (.tp [(if aw sig b then b else ew).D,.b (aw sig b)]):=by
 have f1:=fN sig b hl
 refine ah Tryz.func257 (fun hw W0=>?_)
 cases hc:aw sig b
 ·rw [hc] at f1
  refine kgo ?_
  exact em
 ·rw [hc] at f1
  refine kgo ?_
  exact em
def zp (a b:Big):List Int:=eL 0 a.edges.toNat++dm a.outer (a.edges+b.edges) a.outer
def rm (a b:Big):Big:=Cw a b a.outer (dm a.outer (a.edges+b.edges) a.outer) (a.inner.map fun x=>atI (zp a b) x.link)
theorem yh {sig:List Ctl} {a b:Big} (hA:aw sig a=true) (hB:aw sig b=true) (hf:(a.sites.length:Int)=b.roots) (hn:a.inner.length=b.outer.length):FnD Tryz.prog 258 [a.D,b.D] (.d (rm a b).D):=by
 have ha:=aC hA
 have hb:=aC hB
 have l1:=ey 0 a.edges.toNat
 have l2:(dm a.outer (a.edges+b.edges) a.outer).length=a.outer.length:=by unfold dm;rw [List.length_map]
 have l3:(zp a b).length=a.edges.toNat+a.outer.length:=by unfold zp;rw [List.length_append,l1,l2]
 have f1:=od a.outer (a.edges+b.edges) a.outer (by omega) (by omega) (by omega)
 have f2:=gC 0 a.edges (by omega) (by omega)
 have f3:=An hA hB hf a.outer (dm a.outer (a.edges+b.edges) a.outer) (a.inner.map fun x=>atI (zp a b) x.link) (by omega) l2 (by rw [List.length_map];exact hn)
 have hk:=uJ hA (ks:=zp a b) (by omega)
 refine ah Tryz.func258 (fun hw W0=>?_)
 repeat (first|refine cFz 5 ?_|(refine bZ ?_;first|refine aO ?_|refine b9 ?_|refine bf ?_|refine aX ?_|refine aQ ?_|refine aW ?_|refine aV ?_|refine aA ?_|refine bc ?_)|(refine fb ?_;first|refine bO ?_|refine fg ?_|refine bU ?_|refine cd ?_)|(refine fp ?_;first|refine dv (fun _=>?_)|refine ci ?_|refine cr ?_|refine bE ?_|refine bR ?_|refine bX ?_)|(refine ft ?_;first|refine b8 ?_|refine eG ?_|refine ca ?_|refine bI ?_|refine cb ?_|refine b7 ?_)|(refine fx ?_;first|refine fq ?_|refine eZ ?_|refine cm ?_|refine bQ ?_|refine fu ?_|refine aR ?_|refine bd ?_)|(refine bS ?_;first|refine bh ?_|refine bW ?_)|(refine fc ?_;first|refine cf ?_|refine ck ?_|refine fj ?_)|(refine bY ?_;first|refine cg ?_|refine be ?_|refine aZ ?_|refine bj ?_|refine aP ?_|refine aY ?_)|(refine fm ?_;first|refine co ?_|refine eX ?_|refine aU ?_|refine bg ?_)|(refine aS ?_;first|refine av _ ?_|refine ba ?_|refine aB ?_|refine ax ?_|refine az ?_)|(refine ff ?_;first|refine cq ?_|refine bJ ?_|refine cj ?_)|(refine gOp ?_;first|refine fd ?_|refine fa ?_|refine aT ?_|refine fl ?_|refine fh ?_|refine b6 ?_|refine aN ?_|refine bT ?_|refine fw ?_|refine bK ?_|refine ct ?_|refine bk ?_|refine ay ?_|refine ch ?_|refine sNo ?_|refine eS ?_)|refine eA ?_|refine eR ?_|refine fe ?_|refine bl ?_|refine bM ?_|refine bz ?_|refine fC ?_|refine fB ?_|refine fo ?_|refine eH ?_|refine bV ?_|refine bp ?_|refine au ?_|refine bm ?_|refine cw ?_|refine bA ?_|refine aBlkX ?_|refine cy ?_)
 refine cFz 6 ?_
 refine eF (fun i:Nat=>i≤a.inner.length) (fun i=>a.inner.length - i) (fun i=>[(2,.sy (.bx 10002 0)),(10002,.tk (.bx (flat a.D))),(3,.sy (.bx 10003 0)),(10003,.tk (.bx (flat b.D))),(4,.sy (.bx 10004 0)),(10004,.tk (.bx (flat (.t [.i 0,.n 3,.n 1,.i 0,.n 1,.n 2])))),(5,.sy (.d (DI (dm a.outer (a.edges+b.edges) a.outer)))),(6,.sy (.d (DI (zp a b)))),(7,.sy (.k 10024)),(10024,.tk (.row 1 3 (((a.inner.take i).map fun x=>atI (zp a b) x.link).map .i))),(8,.sy (.d (.i i)))]) 0 (Nat.zero_le _) (fun i hi=>?_)
 refine kgo ?_
 refine cIf (fun h=>?_) (fun h=>?_)
 ·have h:=of_decide_eq_true h
  have hlt:i<a.inner.length:=by omega
  have hk2:=hk _ (List.getElem_mem hlt)
  have hs:((a.inner.take (i+1)).map fun x=>atI (zp a b) x.link).map D.i=((a.inner.take i).map fun x=>atI (zp a b) x.link).map D.i++[.i (atI (zp a b) (a.inner[i]).link)]:=by rw [List.take_succ_eq_append_getElem hlt,List.map_append,List.map_append];rfl
  refine kgo ?_
  exact ab (i+1) hlt (by omega)
 ·have h:=of_decide_eq_false h
  rw [List.take_of_length_le (by omega)]
  repeat (first|(refine bZ ?_;first|refine aO ?_|refine b9 ?_|refine bf ?_|refine aX ?_|refine aQ ?_|refine aW ?_|refine aV ?_|refine aA ?_|refine bc ?_)|(refine fb ?_;first|refine bO ?_|refine fg ?_|refine bU ?_|refine cd ?_)|(refine fp ?_;first|refine dv (fun _=>?_)|refine ci ?_|refine cr ?_|refine bE ?_|refine bR ?_|refine bX ?_)|(refine ft ?_;first|refine b8 ?_|refine eG ?_|refine ca ?_|refine bI ?_|refine cb ?_|refine b7 ?_)|(refine fx ?_;first|refine fq ?_|refine eZ ?_|refine cm ?_|refine bQ ?_|refine fu ?_|refine aR ?_|refine bd ?_)|(refine bS ?_;first|refine bh ?_|refine bW ?_)|(refine fc ?_;first|refine cf ?_|refine ck ?_|refine fj ?_)|(refine bY ?_;first|refine cg ?_|refine be ?_|refine aZ ?_|refine bj ?_|refine aP ?_|refine aY ?_)|(refine fm ?_;first|refine co ?_|refine eX ?_|refine aU ?_|refine bg ?_)|(refine aS ?_;first|refine av _ ?_|refine ba ?_|refine aB ?_|refine ax ?_|refine az ?_)|(refine ff ?_;first|refine cq ?_|refine bJ ?_|refine cj ?_)|(refine gOp ?_;first|refine fd ?_|refine fa ?_|refine aT ?_|refine fl ?_|refine fh ?_|refine b6 ?_|refine aN ?_|refine bT ?_|refine fw ?_|refine bK ?_|refine ct ?_|refine bk ?_|refine sFz 49 ?_|refine ay ?_|refine ch ?_|refine sNo ?_|refine eS ?_)|refine eA ?_|refine eR ?_|refine fe ?_|refine bl ?_|refine bM ?_|refine bz ?_|refine fC ?_|refine fB ?_|refine fo ?_|refine eH ?_|refine bV ?_|refine bp ?_|refine au ?_|refine bm ?_|refine cw ?_|refine bA ?_|refine aBlkX ?_|refine cy ?_|refine sFz 49 ?_)
  exact ar
theorem rI (names:List ByteArray) (hl:names.length≤1000):FnD Tryz.prog 255 [.i 0,DS names] (.d (idB names).D):=by
 refine ah Tryz.func255 (fun hw W0=>?_)
 repeat (first|(refine bZ ?_;first|refine aO ?_|refine b9 ?_|refine bf ?_|refine aX ?_|refine aQ ?_|refine aW ?_|refine aV ?_|refine aA ?_|refine bc ?_)|(refine fb ?_;first|refine bO ?_|refine fg ?_|refine bU ?_|refine cd ?_)|(refine fp ?_;first|refine dv (fun _=>?_)|refine ci ?_|refine cr ?_|refine bE ?_|refine bR ?_|refine bX ?_)|(refine ft ?_;first|refine b8 ?_|refine eG ?_|refine ca ?_|refine bI ?_|refine cb ?_|refine b7 ?_)|(refine fx ?_;first|refine fq ?_|refine eZ ?_|refine cm ?_|refine bQ ?_|refine fu ?_|refine aR ?_|refine bd ?_)|(refine bS ?_;first|refine bh ?_|refine bW ?_)|(refine fc ?_;first|refine cf ?_|refine ck ?_|refine fj ?_)|(refine bY ?_;first|refine cg ?_|refine be ?_|refine aZ ?_|refine bj ?_|refine aP ?_|refine aY ?_)|(refine fm ?_;first|refine co ?_|refine eX ?_|refine aU ?_|refine bg ?_)|(refine aS ?_;first|refine av _ ?_|refine ba ?_|refine aB ?_|refine ax ?_|refine az ?_)|(refine ff ?_;first|refine cq ?_|refine bJ ?_|refine cj ?_)|(refine gOp ?_;first|refine fd ?_|refine fa ?_|refine aT ?_|refine fl ?_|refine fh ?_|refine b6 ?_|refine aN ?_|refine bT ?_|refine fw ?_|refine bK ?_|refine ct ?_|refine bk ?_|refine sFz 11 ?_|refine ay ?_|refine ch ?_|refine sNo ?_|refine eS ?_)|refine eA ?_|refine eR ?_|refine fe ?_|refine bl ?_|refine bM ?_|refine bz ?_|refine fC ?_|refine fB ?_|refine fo ?_|refine eH ?_|refine bV ?_|refine bp ?_|refine au ?_|refine bm ?_|refine cw ?_|refine bA ?_|refine aBlkX ?_|refine cy ?_|refine sFz 11 ?_)
 refine eF (fun _:Unit=>True) (fun _=>0) (fun _=>[(0,.sy (.d (.i 0))),(1,.sy (.d (DS names))),(4,.sy (.bx 10004 0)),(10004,.tk (.bx (flat (.t [.i 0,.n 3,.n 1,.i 0,.n 1,.n 2])))),(5,.sy (.bx 10005 0)),(10005,.tk (.bx [.d (.i 0),.d (.n 3),.d (.n 1),.d (.i 0),.d (DS names),.d (.n 2)])),(6,.sy (.d (.i 0)))]) () trivial (fun _ _=>?_)
 refine kgo ?_
 refine l9 10005 5 20001 153 ?_
 refine eF (fun i:Nat=>i≤names.length) (fun i=>names.length - i) (fun i=>[(1,.sy (.d (DS names))),(4,.sy (.bx 10004 0)),(10004,.tk (.bx (flat (.t [.i 0,.n 3,.n 1,.i 0,.n 1,.n 2])))),(5,.sy (.bx 10005 0)),(10005,.tk (.bx [.d (.i 0),.d (.n 3),.d (.n 1),.d (.i 0),.d (DS names),.k 20001])),(20001,.tk (.row 2 153 (((names.mapIdx fun i s=>(⟨s,i⟩:Wr)).take i).map Wr.D))),(7,.sy (.d (.i i)))]) 0 (Nat.zero_le _) (fun i hi=>?_)
 refine kgo ?_
 refine cIf (fun h=>?_) (fun h=>?_)
 ·have h:=of_decide_eq_true h
  have hlt:i<names.length:=by omega
  have hq:((names.mapIdx fun i s=>(⟨s,i⟩:Wr)).take i).length≤1000:=by rw [List.length_take,List.length_mapIdx];omega
  have hs:((names.mapIdx fun i s=>(⟨s,i⟩:Wr)).take (i+1)).map Wr.D=((names.mapIdx fun i s=>(⟨s,i⟩:Wr)).take i).map Wr.D++[Wr.D ⟨names[i],i⟩]:=by rw [List.take_succ_eq_append_getElem (by rw [List.length_mapIdx];exact hlt),List.map_append,List.getElem_mapIdx];rfl
  refine kgo ?_
  exact ab (i+1) hlt (by omega)
 ·have h:=of_decide_eq_false h
  rw [List.take_of_length_le (by rw [List.length_mapIdx];omega)]
  refine bz (au (au (bA (bp ?_))))
  refine mY 10005 5 ?_
  refine kgo ?_
  exact ar
theorem qf {a b:Big}:(rm a b).inner.length=b.inner.length:=by unfold rm Cw dj;simp
def eN (sig:List Ctl) (a b:Big):Big × Bool:=if aw sig a && (aw sig b && (mF a b && aw sig (rm a b))) then (rm a b,true) else (ew,false)
theorem nk (sig:List Ctl) (a b:Big) (hla:a.inner.length≤1000) (hlb:b.inner.length≤1000):FnD Tryz.prog 214 [.l 3 (sig.map Ctl.D),a.D,b.D] (.tp [(eN sig a b).1.D,.b (eN sig a b).2]):=by
 have f1:=fN sig a (by omega)
 have f2:=fN sig b (by omega)
 have f3:=BY a b hla
 have f4:=vA sig (rm a b) (by rw [qf];omega)
 refine ah Tryz.func214 (fun hw W0=>?_)
 cases h1:aw sig a
 ·rw [show eN sig a b=(ew,false) from by unfold eN;rw [h1];rfl]
  rw [h1] at f1
  refine kgo ?_
  exact em
 cases h2:aw sig b
 ·rw [show eN sig a b=(ew,false) from by unfold eN;rw [h1,h2];rfl]
  rw [h1] at f1
  rw [h2] at f2
  refine kgo ?_
  exact em
 cases h3:mF a b
 ·rw [show eN sig a b=(ew,false) from by unfold eN;rw [h1,h2,h3];rfl]
  rw [h1] at f1
  rw [h2] at f2
  rw [h3] at f3
  refine kgo ?_
  exact em
 have h4:(a.sites.length:Int)=b.roots∧a.inner.length=b.outer.length:=by
  unfold mF at h3
  rw [Bool.and_eq_true,decide_eq_true_eq] at h3
  refine ⟨h3.1,?_⟩
  have:=h3.2
  by_cases hh:((a.inner.map Wr.name).length:Int)=b.outer.length
  ·rw [List.length_map] at hh;omega
  ·rw [qd hh] at this;cases this
 have f5:=yh h1 h2 h4.1 h4.2
 rw [show eN sig a b=(if aw sig (rm a b) then rm a b else ew,aw sig (rm a b)) from by unfold eN;rw [h1,h2,h3];cases aw sig (rm a b) <;> rfl]
 rw [h1] at f1
 rw [h2] at f2
 rw [h3] at f3
 refine kgo ?_
 exact em
end Go.Proofs.YtacafmejcdgboaaGreatDoor
namespace Go.Proofs.YtacafmejcdgboaaGreatDoor
open Go.RowKit
set_option linter.unusedVariables false
set_option maxRecDepth 100000
set_option maxHeartbeats 4000000
attribute [local irreducible] aD Der At
theorem ka (a:List Wr):∀b:List Wr,(bG a b).length=a.length+b.length:=by
 unfold bG
 intro b
 induction b generalizing a with
 | nil=>rfl
 | cons x b ih=>rw [List.foldl_cons,ih,ou,List.length_cons];omega
theorem ut (a b:List Wr) (i:Nat) (h:i<b.length):bG a (b.take (i+1))=fR wLt (bG a (b.take i)) b[i]:=by
 unfold bG;rw [List.take_succ_eq_append_getElem h,List.foldl_append];rfl
theorem sG (a b:List Wr) (hla:a.length≤1000) (hlb:b.length≤1000):FnD Tryz.prog 211 [.l 2 (a.map Wr.D),.l 2 (b.map Wr.D)] (.d (.l 2 ((bG a b).map Wr.D))):=by
 refine ah Tryz.func211 (fun hw W0=>?_)
 repeat (first|(refine bZ ?_;first|refine aO ?_|refine b9 ?_|refine bf ?_|refine aX ?_|refine aQ ?_|refine aW ?_|refine aV ?_|refine aA ?_|refine bc ?_)|(refine fb ?_;first|refine bO ?_|refine fg ?_|refine bU ?_|refine cd ?_)|(refine fp ?_;first|refine dv (fun _=>?_)|refine ci ?_|refine cr ?_|refine bE ?_|refine bR ?_|refine bX ?_)|(refine ft ?_;first|refine b8 ?_|refine eG ?_|refine ca ?_|refine bI ?_|refine cb ?_|refine b7 ?_)|(refine fx ?_;first|refine fq ?_|refine eZ ?_|refine cm ?_|refine bQ ?_|refine fu ?_|refine aR ?_|refine bd ?_)|(refine bS ?_;first|refine bh ?_|refine bW ?_)|(refine fc ?_;first|refine fA (d:=5) ?_|refine cf ?_|refine ck ?_|refine fj ?_)|(refine bY ?_;first|refine cg ?_|refine be ?_|refine aZ ?_|refine bj ?_|refine aP ?_|refine aY ?_)|(refine fm ?_;first|refine co ?_|refine eX ?_|refine aU ?_|refine bg ?_)|(refine aS ?_;first|refine av _ ?_|refine ba ?_|refine aB ?_|refine ax ?_|refine az ?_)|(refine ff ?_;first|refine cq ?_|refine bJ ?_|refine cj ?_)|(refine gOp ?_;first|refine fd ?_|refine fa ?_|refine aT ?_|refine fl ?_|refine fh ?_|refine b6 ?_|refine aN ?_|refine bT ?_|refine fw ?_|refine bK ?_|refine ct ?_|refine bk ?_|refine ay ?_|refine ch ?_|refine sNo ?_|refine eS ?_)|refine eA ?_|refine eR ?_|refine fe ?_|refine bl ?_|refine bM ?_|refine bz ?_|refine fC ?_|refine fB ?_|refine fo ?_|refine eH ?_|refine bV ?_|refine bp ?_|refine au ?_|refine bm ?_|refine cw ?_|refine bA ?_|refine aBlkX ?_|refine cy ?_)
 refine eF (fun i:Nat=>i≤b.length) (fun i=>b.length - i) (fun i=>[(1,.sy (.d (.l 2 (b.map Wr.D)))),(5,.sy (.d (.l 2 ((bG a (b.take i)).map Wr.D)))),(6,.sy (.d (.i i)))]) 0 (Nat.zero_le _) (fun i hi=>?_)
 refine kgo ?_
 refine cIf (fun h=>?_) (fun h=>?_)
 ·have h:=of_decide_eq_true h
  have hlt:i<b.length:=by omega
  have hml:=ka a (b.take i)
  rw [List.length_take] at hml
  refine kgo ?_
  refine eF (fun k:Nat=>k≤(bG a (b.take i)).length∧∀j (h:j<(bG a (b.take i)).length),j<k→wLt (bG a (b.take i))[j] b[i]=true) (fun k=>(bG a (b.take i)).length - k) (fun k=>[(1,.sy (.d (.l 2 (b.map Wr.D)))),(5,.sy (.d (.l 2 ((bG a (b.take i)).map Wr.D)))),(6,.sy (.d (.i i))),(7,.sy (.d (.i k)))]) 0 ⟨Nat.zero_le _,fun j _ h=>absurd h (Nat.not_lt_zero _)⟩ (fun k hk=>?_)
  obtain ⟨hk1,hk2⟩:=hk
  have out (hno:∀h:k<(bG a (b.take i)).length,wLt (bG a (b.take i))[k] b[i]=false):bG a (b.take (i+1))=(bG a (b.take i)).take k++b[i] :: (bG a (b.take i)).drop k:=by
   rw [ut a b i hlt,uZ wLt b[i] _ k hk1 hk2 hno]
  cases hc:decide ((k:Int)<((bG a (b.take i)).length:Int))
  ·have hc':=of_decide_eq_false hc
   refine kgo ?_
   rw [hc]
   have e:=out (fun h=>absurd h (by omega))
   clear out
   have hs:D.l 2 ((bG a (b.take (i+1))).map Wr.D)=D.l (1+1) ([]++((bG a (b.take i)).take k).map Wr.D++[AL (Wr.D b[i])]++((bG a (b.take i)).drop k).map Wr.D):=by rw [e,show AL (Wr.D b[i])=Wr.D b[i] from rfl];simp
   repeat (first|(refine bZ ?_;first|refine aO ?_|refine b9 ?_|refine bf ?_|refine aX ?_|refine aQ ?_|refine aW ?_|refine aV ?_|refine aA ?_|refine bc ?_)|(refine fb ?_;first|refine bO ?_|refine fg ?_|refine bU ?_|refine cd ?_)|(refine fp ?_;first|refine dv (fun _=>?_)|refine ci ?_|refine cr ?_|refine bE ?_|refine bR ?_|refine bX ?_)|(refine ft ?_;first|refine b8 ?_|refine eG ?_|refine ca ?_|refine bI ?_|refine cb ?_|refine b7 ?_)|(refine fx ?_;first|refine fq ?_|refine eZ ?_|refine cm ?_|refine bQ ?_|refine fu ?_|refine aR ?_|refine bd ?_)|(refine bS ?_;first|refine bh ?_|refine bW ?_)|(refine fc ?_;first|refine fA (d:=5) ?_|refine cf ?_|refine ck ?_|refine fj ?_)|(refine bY ?_;first|refine cg ?_|refine be ?_|refine aZ ?_|refine bj ?_|refine aP ?_|refine aY ?_)|(refine fm ?_;first|refine co ?_|refine eX ?_|refine aU ?_|refine bg ?_)|(refine aS ?_;first|refine av _ ?_|refine ba ?_|refine aB ?_|refine ax ?_|refine az ?_)|(refine ff ?_;first|refine cq ?_|refine bJ ?_|refine cj ?_)|(refine gOp ?_;first|refine fd ?_|refine fa ?_|refine aT ?_|refine fl ?_|refine fh ?_|refine b6 ?_|refine aN ?_|refine bT ?_|refine fw ?_|refine bK ?_|refine ct ?_|refine bk ?_|refine ay ?_|refine ch ?_|refine sNo ?_|refine eS ?_)|refine eA ?_|refine eR ?_|refine fe ?_|refine bl ?_|refine bM ?_|refine bz ?_|refine fC ?_|refine fB ?_|refine fo ?_|refine eH ?_|refine bV ?_|refine bp ?_|refine au ?_|refine bm ?_|refine cw ?_|refine bA ?_|refine aBlkX ?_|refine cy ?_)
   exact ab (i+1) hlt (by omega)
  ·have hc':=of_decide_eq_true hc
   have hkl:k<(bG a (b.take i)).length:=by omega
   refine kgo ?_
   rw [hc]
   refine kgo ?_
   refine cIf (fun h2=>?_) (fun h2=>?_)
   ·refine kgo ?_
    exact ab (k+1) ⟨hkl,fun j h1 h3=>by
     rcases Nat.lt_or_ge j k with h4|h4
     ·exact hk2 j h1 h4
     ·rw [show (bG a (b.take i))[j]=(bG a (b.take i))[k] from by congr 1;omega];exact h2⟩ (by omega)
   ·have e:=out (fun h=>h2)
    clear out
    have hs:D.l 2 ((bG a (b.take (i+1))).map Wr.D)=D.l (1+1) ([]++((bG a (b.take i)).take k).map Wr.D++[AL (Wr.D b[i])]++((bG a (b.take i)).drop k).map Wr.D):=by rw [e,show AL (Wr.D b[i])=Wr.D b[i] from rfl];simp
    repeat (first|(refine bZ ?_;first|refine aO ?_|refine b9 ?_|refine bf ?_|refine aX ?_|refine aQ ?_|refine aW ?_|refine aV ?_|refine aA ?_|refine bc ?_)|(refine fb ?_;first|refine bO ?_|refine fg ?_|refine bU ?_|refine cd ?_)|(refine fp ?_;first|refine dv (fun _=>?_)|refine ci ?_|refine cr ?_|refine bE ?_|refine bR ?_|refine bX ?_)|(refine ft ?_;first|refine b8 ?_|refine eG ?_|refine ca ?_|refine bI ?_|refine cb ?_|refine b7 ?_)|(refine fx ?_;first|refine fq ?_|refine eZ ?_|refine cm ?_|refine bQ ?_|refine fu ?_|refine aR ?_|refine bd ?_)|(refine bS ?_;first|refine bh ?_|refine bW ?_)|(refine fc ?_;first|refine fA (d:=5) ?_|refine cf ?_|refine ck ?_|refine fj ?_)|(refine bY ?_;first|refine cg ?_|refine be ?_|refine aZ ?_|refine bj ?_|refine aP ?_|refine aY ?_)|(refine fm ?_;first|refine co ?_|refine eX ?_|refine aU ?_|refine bg ?_)|(refine aS ?_;first|refine av _ ?_|refine ba ?_|refine aB ?_|refine ax ?_|refine az ?_)|(refine ff ?_;first|refine cq ?_|refine bJ ?_|refine cj ?_)|(refine gOp ?_;first|refine fd ?_|refine fa ?_|refine aT ?_|refine fl ?_|refine fh ?_|refine b6 ?_|refine aN ?_|refine bT ?_|refine fw ?_|refine bK ?_|refine ct ?_|refine bk ?_|refine ay ?_|refine ch ?_|refine sNo ?_|refine eS ?_)|refine eA ?_|refine eR ?_|refine fe ?_|refine bl ?_|refine bM ?_|refine bz ?_|refine fC ?_|refine fB ?_|refine fo ?_|refine eH ?_|refine bV ?_|refine bp ?_|refine au ?_|refine bm ?_|refine cw ?_|refine bA ?_|refine aBlkX ?_|refine cy ?_)
    exact ab (i+1) hlt (by omega)
 ·have h:=of_decide_eq_false h
  refine kgo ?_
  rw [List.take_of_length_le (by omega)]
  exact ar
theorem y6 {l:List ByteArray} {n:ByteArray} {k:Nat} (hs:l.Pairwise NLt) (hk1:k≤l.length) (hk2:∀j (h:j<l.length),j<k→cT l[j] n=true) (hno:∀h:k<l.length,cT l[k] n=false) (hne:∀h:k<l.length,(l[k].toList == n.toList)=false):qE l n=l.take k++n :: l.drop k:=by
 unfold qE
 rw [if_neg,uZ cT n l k hk1 hk2 hno]
 intro hh
 obtain ⟨x,hx,e⟩:=List.any_eq_true.1 hh
 rw [beq_iff_eq] at e
 have e:=fJ e
 subst e
 obtain ⟨j,hj,e⟩:=List.getElem_of_mem hx
 rcases Nat.lt_trichotomy j k with h|h|h
 ·have:=hk2 j hj h
  rw [e] at this
  exact NLt.irr _ this
 ·subst h
  have:=hne hj
  rw [e] at this
  simp at this
 ·have h1:cT _ _=true:=List.pairwise_iff_getElem.1 hs k j (by omega) hj h
  rw [e,hno (by omega)] at h1
  cases h1
theorem Eg {l:List ByteArray} {n:ByteArray} {k:Nat} (h:k<l.length) (he:(l[k].toList == n.toList)=true):qE l n=l:=by
 unfold qE
 rw [if_pos (List.any_eq_true.2 ⟨l[k],List.getElem_mem h,he⟩)]
theorem wX (l:List ByteArray) (i:Nat) (h:i<l.length):cG (l.take (i+1))=qE (cG (l.take i)) l[i]:=by
 unfold cG;rw [List.take_succ_eq_append_getElem h,List.foldl_append];rfl
theorem A2 (l:List ByteArray) (s:ByteArray):(qE l s).length≤l.length+1:=by
 unfold qE;split
 ·omega
 ·rw [ou];exact Nat.le_refl _
theorem jy:∀(l a:List ByteArray),(l.foldl qE a).length≤a.length+l.length
 | [],a=>by simp
 | s :: l,a=>by
  have:=jy l (qE a s)
  have:=A2 a s
  rw [List.foldl_cons,List.length_cons];omega
theorem vZ (l:List ByteArray) (hl:l.length≤100000):FnD Tryz.prog 315 [DS l] (.d (DS (cG l))):=by
 refine ah Tryz.func315 (fun hw W0=>?_)
 repeat (first|(refine bZ ?_;first|refine aO ?_|refine b9 ?_|refine bf ?_|refine aX ?_|refine aQ ?_|refine aW ?_|refine aV ?_|refine aA ?_|refine bc ?_)|(refine fb ?_;first|refine bO ?_|refine fg ?_|refine bU ?_|refine cd ?_)|(refine fp ?_;first|refine dv (fun _=>?_)|refine ci ?_|refine cr ?_|refine bE ?_|refine bR ?_|refine bX ?_)|(refine ft ?_;first|refine b8 ?_|refine eG ?_|refine ca ?_|refine bI ?_|refine cb ?_|refine b7 ?_)|(refine fx ?_;first|refine fq ?_|refine eZ ?_|refine cm ?_|refine bQ ?_|refine fu ?_|refine aR ?_|refine bd ?_)|(refine bS ?_;first|refine bh ?_|refine bW ?_)|(refine fc ?_;first|refine fA (d:=3) ?_|refine cf ?_|refine ck ?_|refine fj ?_)|(refine bY ?_;first|refine cg ?_|refine be ?_|refine aZ ?_|refine bj ?_|refine aP ?_|refine aY ?_)|(refine fm ?_;first|refine co ?_|refine eX ?_|refine aU ?_|refine bg ?_)|(refine aS ?_;first|refine av _ ?_|refine ba ?_|refine aB ?_|refine ax ?_|refine az ?_)|(refine ff ?_;first|refine cq ?_|refine bJ ?_|refine cj ?_)|(refine gOp ?_;first|refine fd ?_|refine fa ?_|refine aT ?_|refine fl ?_|refine fh ?_|refine b6 ?_|refine aN ?_|refine bT ?_|refine fw ?_|refine bK ?_|refine ct ?_|refine bk ?_|refine ay ?_|refine ch ?_|refine sNo ?_|refine eS ?_)|refine eA ?_|refine eR ?_|refine fe ?_|refine bl ?_|refine bM ?_|refine bz ?_|refine fC ?_|refine fB ?_|refine fo ?_|refine eH ?_|refine bV ?_|refine bp ?_|refine au ?_|refine bm ?_|refine cw ?_|refine bA ?_|refine aBlkX ?_|refine cy ?_)
 refine eF (fun i:Nat=>i≤l.length) (fun i=>l.length - i) (fun i=>[(0,.sy (.d (DS l))),(3,.sy (.d (DS (cG (l.take i))))),(4,.sy (.d (.i i)))]) 0 (Nat.zero_le _) (fun i hi=>?_)
 have hsn:=rL (l.take i)
 have hml:=jy (l.take i) []
 rw [show (l.take i).foldl qE []=cG (l.take i) from rfl,List.length_take,List.length_nil] at hml
 refine kgo ?_
 refine cIf (fun h=>?_) (fun h=>?_)
 ·have h:=of_decide_eq_true h
  have hlt:i<l.length:=by omega
  have hsu:=wX l i hlt
  revert hsn hml hsu
  generalize cG (l.take i)=m
  intro hsn hml hsu
  refine kgo ?_
  refine eF (fun k:Nat=>k≤m.length∧∀j (h:j<m.length),j<k→cT m[j] l[i]=true) (fun k=>m.length - k) (fun k=>[(0,.sy (.d (DS l))),(3,.sy (.d (DS m))),(4,.sy (.d (.i i))),(5,.sy (.d (.i k)))]) 0 ⟨Nat.zero_le _,fun j _ h=>absurd h (Nat.not_lt_zero _)⟩ (fun k hk=>?_)
  obtain ⟨hk1,hk2⟩:=hk
  have hs0 (e:qE m l[i]=m.take k++l[i] :: m.drop k):DS (cG (l.take (i+1)))=D.l (0+1) ([]++(m.take k).map D.s++[AL (D.s l[i])]++(m.drop k).map D.s):=by rw [hsu,e,show AL (D.s l[i])=D.s l[i] from rfl];simp [DS]
  cases hc:decide ((k:Int)<(m.length:Int))
  ·have hc':=of_decide_eq_false hc
   have hc2:decide ((k:Int)=(m.length:Int))=true:=decide_eq_true (by omega)
   have hs:=hs0 (y6 hsn hk1 hk2 (fun h=>absurd h (by omega)) (fun h=>absurd h (by omega)))
   clear hs0
   refine kgo ?_
   rw [hc]
   refine kgo ?_
   rw [hc2]
   repeat (first|(refine bZ ?_;first|refine aO ?_|refine b9 ?_|refine bf ?_|refine aX ?_|refine aQ ?_|refine aW ?_|refine aV ?_|refine aA ?_|refine bc ?_)|(refine fb ?_;first|refine bO ?_|refine fg ?_|refine bU ?_|refine cd ?_)|(refine fp ?_;first|refine dv (fun _=>?_)|refine ci ?_|refine cr ?_|refine bE ?_|refine bR ?_|refine bX ?_)|(refine ft ?_;first|refine b8 ?_|refine eG ?_|refine ca ?_|refine bI ?_|refine cb ?_|refine b7 ?_)|(refine fx ?_;first|refine fq ?_|refine eZ ?_|refine cm ?_|refine bQ ?_|refine fu ?_|refine aR ?_|refine bd ?_)|(refine bS ?_;first|refine bh ?_|refine bW ?_)|(refine fc ?_;first|refine fA (d:=3) ?_|refine cf ?_|refine ck ?_|refine fj ?_)|(refine bY ?_;first|refine cg ?_|refine be ?_|refine aZ ?_|refine bj ?_|refine aP ?_|refine aY ?_)|(refine fm ?_;first|refine co ?_|refine eX ?_|refine aU ?_|refine bg ?_)|(refine aS ?_;first|refine av _ ?_|refine ba ?_|refine aB ?_|refine ax ?_|refine az ?_)|(refine ff ?_;first|refine cq ?_|refine bJ ?_|refine cj ?_)|(refine gOp ?_;first|refine fd ?_|refine fa ?_|refine aT ?_|refine fl ?_|refine fh ?_|refine b6 ?_|refine aN ?_|refine bT ?_|refine fw ?_|refine bK ?_|refine ct ?_|refine bk ?_|refine ay ?_|refine ch ?_|refine sNo ?_|refine eS ?_)|refine eA ?_|refine eR ?_|refine fe ?_|refine bl ?_|refine bM ?_|refine bz ?_|refine fC ?_|refine fB ?_|refine fo ?_|refine eH ?_|refine bV ?_|refine bp ?_|refine au ?_|refine bm ?_|refine cw ?_|refine bA ?_|refine aBlkX ?_|refine cy ?_)
   exact ab (i+1) hlt (by omega)
  ·have hc':=of_decide_eq_true hc
   have hkl:k<m.length:=by omega
   have hc2:decide ((k:Int)=(m.length:Int))=false:=decide_eq_false (by omega)
   refine kgo ?_
   rw [hc]
   refine kgo ?_
   refine cIf (fun h2=>?_) (fun h2=>?_)
   ·refine kgo ?_
    exact ab (k+1) ⟨hkl,fun j h1 h3=>by
     rcases Nat.lt_or_ge j k with h4|h4
     ·exact hk2 j h1 h4
     ·rw [show m[j]=m[k] from by congr 1;omega];exact h2⟩ (by omega)
   ·refine kgo ?_
    rw [hc2]
    refine kgo ?_
    refine cIf (fun h3=>?_) (fun h3=>?_)
    ·rw [Bool.not_eq_true'] at h3
     have hs:=hs0 (y6 hsn hk1 hk2 (fun h=>h2) (fun h=>h3))
     clear hs0
     repeat (first|(refine bZ ?_;first|refine aO ?_|refine b9 ?_|refine bf ?_|refine aX ?_|refine aQ ?_|refine aW ?_|refine aV ?_|refine aA ?_|refine bc ?_)|(refine fb ?_;first|refine bO ?_|refine fg ?_|refine bU ?_|refine cd ?_)|(refine fp ?_;first|refine dv (fun _=>?_)|refine ci ?_|refine cr ?_|refine bE ?_|refine bR ?_|refine bX ?_)|(refine ft ?_;first|refine b8 ?_|refine eG ?_|refine ca ?_|refine bI ?_|refine cb ?_|refine b7 ?_)|(refine fx ?_;first|refine fq ?_|refine eZ ?_|refine cm ?_|refine bQ ?_|refine fu ?_|refine aR ?_|refine bd ?_)|(refine bS ?_;first|refine bh ?_|refine bW ?_)|(refine fc ?_;first|refine fA (d:=3) ?_|refine cf ?_|refine ck ?_|refine fj ?_)|(refine bY ?_;first|refine cg ?_|refine be ?_|refine aZ ?_|refine bj ?_|refine aP ?_|refine aY ?_)|(refine fm ?_;first|refine co ?_|refine eX ?_|refine aU ?_|refine bg ?_)|(refine aS ?_;first|refine av _ ?_|refine ba ?_|refine aB ?_|refine ax ?_|refine az ?_)|(refine ff ?_;first|refine cq ?_|refine bJ ?_|refine cj ?_)|(refine gOp ?_;first|refine fd ?_|refine fa ?_|refine aT ?_|refine fl ?_|refine fh ?_|refine b6 ?_|refine aN ?_|refine bT ?_|refine fw ?_|refine bK ?_|refine ct ?_|refine bk ?_|refine ay ?_|refine ch ?_|refine sNo ?_|refine eS ?_)|refine eA ?_|refine eR ?_|refine fe ?_|refine bl ?_|refine bM ?_|refine bz ?_|refine fC ?_|refine fB ?_|refine fo ?_|refine eH ?_|refine bV ?_|refine bp ?_|refine au ?_|refine bm ?_|refine cw ?_|refine bA ?_|refine aBlkX ?_|refine cy ?_)
     exact ab (i+1) hlt (by omega)
    ·rw [Bool.not_eq_false'] at h3
     have hs:DS (cG (l.take (i+1)))=DS m:=by rw [hsu,Eg hkl h3]
     clear hs0
     refine kgo ?_
     exact ab (i+1) hlt (by omega)
 ·have h:=of_decide_eq_false h
  refine kgo ?_
  rw [List.take_of_length_le (by omega)]
  exact ar
def jj (a b:Big):List ByteArray:=cG (a.outer++b.outer)
def gL (a b c:Big) (n:Int):List Int:=eL n c.edges.toNat++dm c.outer (a.edges+b.edges) (jj a b)
def gW (a b:Big):Big:=
 ⟨a.roots+b.roots,cO 0 (cV 0 a.roots.toNat) (gL a b a 0) a.nodes++cO a.nodes.length (cV a.roots b.roots.toNat) (gL a b b a.edges) b.nodes,dq 0 (cV 0 a.roots.toNat) a.sites++dq a.nodes.length (cV a.roots b.roots.toNat) b.sites,a.edges+b.edges,jj a b,bG (dj (gL a b a 0) a.inner) (dj (gL a b b a.edges) b.inner)⟩
theorem Bf {sig:List Ctl} {a b:Big} (hA:aw sig a=true) (hB:aw sig b=true) (hia:a.inner.length≤1000) (hib:b.inner.length≤1000) :
 FnD Tryz.prog 281 [a.D,b.D] (.d (gW a b).D):=by
 have ha:=aC hA
 have hb:=aC hB
 have l0:=jy (a.outer++b.outer) []
 rw [show (a.outer++b.outer).foldl qE []=jj a b from rfl,List.length_append,List.length_nil] at l0
 have l1:=ey 0 a.edges.toNat
 have l2:=ey a.edges b.edges.toNat
 have l3:=kZ 0 a.roots.toNat
 have l4:=kZ a.roots b.roots.toNat
 have l5:(dm a.outer (a.edges+b.edges) (jj a b)).length=a.outer.length:=by unfold dm;rw [List.length_map]
 have l6:(dm b.outer (a.edges+b.edges) (jj a b)).length=b.outer.length:=by unfold dm;rw [List.length_map]
 have l7:(gL a b a 0).length=a.edges.toNat+a.outer.length:=by unfold gL;rw [List.length_append,l1,l5]
 have l8:(gL a b b a.edges).length=b.edges.toNat+b.outer.length:=by unfold gL;rw [List.length_append,l2,l6]
 have f1:=vZ (a.outer++b.outer) (by rw [List.length_append];omega)
 rw [show cG (a.outer++b.outer)=jj a b from rfl] at f1
 have f2:=gC 0 a.edges (by omega) (by omega)
 have f3:=gC a.edges b.edges (by omega) (by omega)
 have f4:=od a.outer (a.edges+b.edges) (jj a b) (by omega) (by omega) (by omega)
 have f5:=od b.outer (a.edges+b.edges) (jj a b) (by omega) (by omega) (by omega)
 have f6:=lW 0 a.roots (by omega) (by omega)
 have f7:=lW a.roots b.roots (by omega) (by omega)
 have f8:=lE a 0 (cV 0 a.roots.toNat) (gL a b a 0) (by omega) (by omega) (pV hA) (uR hA 0 (by omega)) (vx hA (by omega))
 have f9:=lE b a.nodes.length (cV a.roots b.roots.toNat) (gL a b b a.edges) (by omega) (by omega) (pV hB) (uR hB _ (by omega)) (vx hB (by omega))
 have g1:=k9 a 0 (cV 0 a.roots.toNat) (by omega) (pH hA 0 (by omega)) (by omega)
 have g2:=k9 b a.nodes.length (cV a.roots b.roots.toNat) (by omega) (pH hB _ (by omega)) (by omega)
 have g3:=om a (gL a b a 0) (uJ hA (by omega)) (by omega)
 have g4:=om b (gL a b b a.edges) (uJ hB (by omega)) (by omega)
 have g5:=sG (dj (gL a b a 0) a.inner) (dj (gL a b b a.edges) b.inner) (by unfold dj;rw [List.length_map];omega) (by unfold dj;rw [List.length_map];omega)
 have q1:(cO 0 (cV 0 a.roots.toNat) (gL a b a 0) a.nodes).length=a.nodes.length:=by unfold cO;rw [List.length_map]
 have q2:(cO a.nodes.length (cV a.roots b.roots.toNat) (gL a b b a.edges) b.nodes).length=b.nodes.length:=by unfold cO;rw [List.length_map]
 have q3:(dq 0 (cV 0 a.roots.toNat) a.sites).length=a.sites.length:=by unfold dq;rw [List.length_map]
 have q4:(dq a.nodes.length (cV a.roots b.roots.toNat) b.sites).length=b.sites.length:=by unfold dq;rw [List.length_map]
 refine ah Tryz.func281 (fun hw W0=>?_)
 repeat (first|refine cFz 7 ?_|refine cFz 8 ?_|refine cFz 9 ?_|refine cFz 10 ?_|(refine bZ ?_;first|refine aO ?_|refine b9 ?_|refine bf ?_|refine aX ?_|refine aQ ?_|refine aW ?_|refine aV ?_|refine aA ?_|refine bc ?_)|(refine fb ?_;first|refine bO ?_|refine fg ?_|refine bU ?_|refine cd ?_)|(refine fp ?_;first|refine dv (fun _=>?_)|refine ci ?_|refine cr ?_|refine bE ?_|refine bR ?_|refine bX ?_)|(refine ft ?_;first|refine b8 ?_|refine eG ?_|refine ca ?_|refine bI ?_|refine cb ?_|refine b7 ?_)|(refine fx ?_;first|refine fq ?_|refine eZ ?_|refine cm ?_|refine bQ ?_|refine fu ?_|refine aR ?_|refine bd ?_)|(refine bS ?_;first|refine bh ?_|refine bW ?_)|(refine fc ?_;first|refine cf ?_|refine ck ?_|refine fj ?_)|(refine bY ?_;first|refine cg ?_|refine be ?_|refine aZ ?_|refine bj ?_|refine aP ?_|refine aY ?_)|(refine fm ?_;first|refine co ?_|refine eX ?_|refine aU ?_|refine bg ?_)|(refine aS ?_;first|refine av _ ?_|refine ba ?_|refine aB ?_|refine ax ?_|refine az ?_)|(refine ff ?_;first|refine cq ?_|refine bJ ?_|refine cj ?_)|(refine gOp ?_;first|refine fd ?_|refine fa ?_|refine aT ?_|refine fl ?_|refine fh ?_|refine b6 ?_|refine aN ?_|refine bT ?_|refine fw ?_|refine bK ?_|refine ct ?_|refine bk ?_|refine sFz 17 ?_|refine sFz 31 ?_|refine sFz 42 ?_|refine sFz 67 ?_|refine sFz 68 ?_|refine sFz 77 ?_|refine sFz 78 ?_|refine sFz 83 ?_|refine sFz 86 ?_|refine ay ?_|refine ch ?_|refine sNo ?_|refine eS ?_)|refine eA ?_|refine eR ?_|refine fe ?_|refine bl ?_|refine bM ?_|refine bz ?_|refine fC ?_|refine fB ?_|refine fo ?_|refine eH ?_|refine bV ?_|refine bp ?_|refine au ?_|refine bm ?_|refine cw ?_|refine bA ?_|refine aBlkX ?_|refine cy ?_|refine sFz 17 ?_|refine sFz 31 ?_|refine sFz 42 ?_|refine sFz 67 ?_|refine sFz 68 ?_|refine sFz 77 ?_|refine sFz 78 ?_|refine sFz 83 ?_|refine sFz 86 ?_)
 exact ar
end Go.Proofs.YtacafmejcdgboaaGreatDoor
namespace Go.Proofs.YtacafmejcdgboaaGreatDoor
open Go.RowKit
set_option linter.unusedVariables false
set_option maxRecDepth 100000
set_option maxHeartbeats 4000000
attribute [local irreducible] aD Der At
theorem nW {a b:Big}:(gW a b).inner.length=a.inner.length+b.inner.length:=by unfold gW dj;simp only [ka,List.length_map]
def nt (sig:List Ctl) (a b:Big):Big × Bool:=if aw sig a && (aw sig b && (hM a.outer b.outer && (hM (a.inner.map Wr.name) (b.inner.map Wr.name) && aw sig (gW a b)))) then (gW a b,true) else (ew,false)
theorem wL (sig:List Ctl) (a b:Big) (hla:a.inner.length≤1000) (hlb:b.inner.length≤1000):FnD Tryz.prog 254 [.l 3 (sig.map Ctl.D),a.D,b.D] (.tp [(nt sig a b).1.D,.b (nt sig a b).2]):=by
 have f1:=fN sig a (by omega)
 have f2:=fN sig b (by omega)
 have f3:=qQ a.outer b.outer
 have f4:=gQ a hla
 have f5:=gQ b hlb
 have f6:=qQ (a.inner.map Wr.name) (b.inner.map Wr.name)
 have f8:=vA sig (gW a b) (by rw [nW];omega)
 refine ah Tryz.func254 (fun hw W0=>?_)
 unfold nt
 cases h1:aw sig a
 ·rw [h1] at f1
  refine kgo ?_
  exact em
 cases h2:aw sig b
 ·rw [h1] at f1
  rw [h2] at f2
  refine kgo ?_
  exact em
 have f7:=Bf h1 h2 hla hlb
 rw [h1] at f1
 rw [h2] at f2
 cases h3:hM a.outer b.outer
 ·rw [h3] at f3
  refine kgo ?_
  exact em
 rw [h3] at f3
 cases h4:hM (a.inner.map Wr.name) (b.inner.map Wr.name)
 ·rw [h4] at f6
  refine kgo ?_
  exact em
 rw [h4] at f6
 rw [show (if true && (true && (true && (true && aw sig (gW a b)))) then (gW a b,true) else (ew,false))=(if aw sig (gW a b) then gW a b else ew,aw sig (gW a b)) from by cases aw sig (gW a b) <;> rfl]
 refine kgo ?_
 exact em
def eE (xs ys:List ByteArray):List ByteArray:=ys.filter fun y=>decide (jg xs y<0)
theorem xo (xs ys:List ByteArray) (i:Nat) (h:i<ys.length):eE xs (ys.take (i+1))=if decide (jg xs ys[i]<0)=true then eE xs (ys.take i)++[ys[i]] else eE xs (ys.take i):=by
 unfold eE
 rw [List.take_succ_eq_append_getElem h,List.filter_append]
 by_cases hh:decide (jg xs ys[i]<0)=true <;> simp [hh]
theorem wV (sig:List Ctl) (a b:Big) (hla:a.inner.length≤1000) (hlb:b.inner.length≤1000):FnD Tryz.prog 213 [.l 3 (sig.map Ctl.D),a.D,b.D] (.tp [(nt sig a (idB (eE a.outer (b.inner.map Wr.name)))).1.D,.b (nt sig a (idB (eE a.outer (b.inner.map Wr.name)))).2]):=by
 have f1:=gQ b hlb
 have hll:(b.inner.map Wr.name).length≤1000:=by rw [List.length_map];exact hlb
 refine ah Tryz.func213 (fun hw W0=>?_)
 revert f1 hll
 generalize b.inner.map Wr.name=ys
 intro f1 hll
 have hr:(eE a.outer ys).length≤1000:=Nat.le_trans (List.length_filter_le _ _) hll
 have f3:=rI (eE a.outer ys) hr
 have f4:=wL sig a (idB (eE a.outer ys)) hla (by unfold idB;simpa using hr)
 refine kgo ?_
 refine eF (fun i:Nat=>i≤ys.length) (fun i=>ys.length - i) (fun i=>[(0,.sy (.d (.l 3 (sig.map Ctl.D)))),(4,.sy (.bx 10004 0)),(10004,.tk (.bx (flat a.D))),(6,.sy (.bx 10006 0)),(10006,.tk (.bx (flat (.t [.i 0,.n 3,.n 1,.i 0,.n 1,.n 2])))),(8,.sy (.k 10011)),(10011,.tk (.row 1 9 ((eE a.outer (ys.take i)).map D.s))),(9,.sy (.d (DS ys))),(10,.sy (.d (.i i)))]) 0 (Nat.zero_le _) (fun i hi=>?_)
 refine kgo ?_
 refine cIf (fun h=>?_) (fun h=>?_)
 ·have h:=of_decide_eq_true h
  have hlt:i<ys.length:=by omega
  have f2:=uP a.outer ys[i]
  have hq:(eE a.outer (ys.take i)).length≤1000:=Nat.le_trans (List.length_filter_le _ _) (by rw [List.length_take];omega)
  have hsu:=xo a.outer ys i hlt
  refine kgo ?_
  refine cIf (fun h2=>?_) (fun h2=>?_)
  ·rw [if_pos h2] at hsu
   have hs:(eE a.outer (ys.take (i+1))).map D.s=(eE a.outer (ys.take i)).map D.s++[.s ys[i]]:=by rw [hsu,List.map_append];rfl
   refine kgo ?_
   exact ab (i+1) hlt (by omega)
  ·rw [if_neg (by rw [h2];exact Bool.false_ne_true)] at hsu
   have hs:(eE a.outer (ys.take (i+1))).map D.s=(eE a.outer (ys.take i)).map D.s:=by rw [hsu]
   refine kgo ?_
   exact ab (i+1) hlt (by omega)
 ·have h:=of_decide_eq_false h
  rw [List.take_of_length_le (by omega)]
  repeat (first|refine cFz 8 ?_|(refine bZ ?_;first|refine aO ?_|refine b9 ?_|refine bf ?_|refine aX ?_|refine aQ ?_|refine aW ?_|refine aV ?_|refine aA ?_|refine bc ?_)|(refine fb ?_;first|refine bO ?_|refine fg ?_|refine bU ?_|refine cd ?_)|(refine fp ?_;first|refine dv (fun _=>?_)|refine ci ?_|refine cr ?_|refine bE ?_|refine bR ?_|refine bX ?_)|(refine ft ?_;first|refine b8 ?_|refine eG ?_|refine ca ?_|refine bI ?_|refine cb ?_|refine b7 ?_)|(refine fx ?_;first|refine fq ?_|refine eZ ?_|refine cm ?_|refine bQ ?_|refine fu ?_|refine aR ?_|refine bd ?_)|(refine bS ?_;first|refine bh ?_|refine bW ?_)|(refine fc ?_;first|refine cf ?_|refine ck ?_|refine fj ?_)|(refine bY ?_;first|refine cg ?_|refine be ?_|refine aZ ?_|refine bj ?_|refine aP ?_|refine aY ?_)|(refine fm ?_;first|refine co ?_|refine eX ?_|refine aU ?_|refine bg ?_)|(refine aS ?_;first|refine av _ ?_|refine ba ?_|refine aB ?_|refine ax ?_|refine az ?_)|(refine ff ?_;first|refine cq ?_|refine bJ ?_|refine cj ?_)|(refine gOp ?_;first|refine fd ?_|refine fa ?_|refine aT ?_|refine fl ?_|refine fh ?_|refine b6 ?_|refine aN ?_|refine bT ?_|refine fw ?_|refine bK ?_|refine ct ?_|refine bk ?_|refine ay ?_|refine ch ?_|refine sNo ?_|refine eS ?_)|refine eA ?_|refine eR ?_|refine fe ?_|refine bl ?_|refine bM ?_|refine bz ?_|refine fC ?_|refine fB ?_|refine fo ?_|refine eH ?_|refine bV ?_|refine bp ?_|refine au ?_|refine bm ?_|refine cw ?_|refine bA ?_|refine aBlkX ?_|refine cy ?_)
  exact em
def mq (sig:List Ctl) (mid ctx par:Big):Big × Bool:=
 if (nt sig mid (idB (eE mid.outer (ctx.inner.map Wr.name)))).2 then (if (eN sig ctx (nt sig mid (idB (eE mid.outer (ctx.inner.map Wr.name)))).1).2 then eN sig (eN sig ctx (nt sig mid (idB (eE mid.outer (ctx.inner.map Wr.name)))).1).1 par else (ew,false)) else (ew,false)
theorem uT (sig:List Ctl) (a b:Big):(nt sig a b).1.inner.length≤a.inner.length+b.inner.length:=by
 unfold nt
 split
 ·rw [nW];omega
 ·exact Nat.zero_le _
theorem qP (sig:List Ctl) (a b:Big):(eN sig a b).1.inner.length≤b.inner.length:=by
 unfold eN
 split
 ·rw [qf];omega
 ·exact Nat.zero_le _
theorem wu (sig:List Ctl) (mid ctx par:Big) (hl:mid.inner.length+ctx.inner.length≤1000) (hp:par.inner.length≤1000):FnD Tryz.prog 144 [.l 3 (sig.map Ctl.D),mid.D,ctx.D,par.D] (.tp [(mq sig mid ctx par).1.D,.b (mq sig mid ctx par).2]):=by
 have f1:=wV sig mid ctx (by omega) (by omega)
 have hr:(eE mid.outer (ctx.inner.map Wr.name)).length≤ctx.inner.length:=Nat.le_trans (List.length_filter_le _ _) (by rw [List.length_map];omega)
 refine ah Tryz.func144 (fun hw W0=>?_)
 unfold mq
 revert f1 hr
 generalize eE mid.outer (ctx.inner.map Wr.name)=ns
 intro f1 hr
 have hb:=uT sig mid (idB ns)
 rw [show (idB ns).inner.length=ns.length from by unfold idB;simp] at hb
 revert f1 hb
 generalize nt sig mid (idB ns)=r
 obtain ⟨r,k⟩:=r
 intro f1 hb
 cases k
 ·refine kgo ?_
  exact em
 have f2:=nk sig ctx r (by omega) (by simp only at hb;omega)
 have hc:=qP sig ctx r
 simp only [if_true]
 revert f2 hc
 generalize eN sig ctx r=q
 obtain ⟨q,k⟩:=q
 intro f2 hc
 cases k
 ·refine kgo ?_
  exact em
 have f3:=nk sig q par (by simp only at hb hc;omega) hp
 refine kgo ?_
 exact em
end Go.Proofs.YtacafmejcdgboaaGreatDoor
namespace Go.Proofs.YtacafmejcdgboaaGreatDoor
open Go.RowKit
set_option linter.unusedVariables false
set_option maxRecDepth 100000
set_option maxHeartbeats 4000000
attribute [local irreducible] aD Der At
abbrev lH (x:Int × Int):D:=.t [.i x.1,.i x.2]
theorem DR:Lik dP lH:=⟨fun w S x cs h=>by
 obtain ⟨c,e,rfl,⟨rfl,h1⟩,c',e',rfl,⟨rfl,h2⟩,rfl⟩:=h
 exact ⟨rfl,h1,h2⟩,fun w lo hi x cs h=>by
 obtain ⟨rfl,h1,h2⟩:=h
 exact ⟨[_],[_],rfl,⟨rfl,h1⟩,[_],[],rfl,⟨rfl,h2⟩,rfl⟩⟩
theorem lA (b:Big) (l:Int) (hn:b.nodes.length≤1000) (hl:∀i (h:i<b.nodes.length),(b.nodes[i]).links.length≤1000):FnD Tryz.prog 253 [b.D,.i l] (.d (.l 2 ((aE b l).map lH))):=⟨cF Tryz.func253,fun F w vs hv hF=>by
 obtain ⟨v1,t,rfl,h1,v2,t2,rfl,⟨h2,_⟩,h3⟩:=hv
 cases (show t2 = [] from h3)
 obtain ⟨cs,rfl,hb⟩:=rK h1
 cases h2
 refine (oH _ _ _ _ _ _ hb hn hl).mono ?_
 rintro e w' ⟨v,rfl,hV,hX⟩
 exact ⟨_,rfl,hX,qp (DR.ofV hV)⟩⟩
theorem lw (b:Big) (p:Int) (hl:b.sites.length≤1048576):FnD Tryz.prog 203 [b.D,.i p] (.d (DI (bq b p))):=⟨cF Tryz.func203,fun F w vs hv hF=>by
 obtain ⟨v1,t,rfl,h1,v2,t2,rfl,⟨h2,_⟩,h3⟩:=hv
 cases (show t2 = [] from h3)
 obtain ⟨cs,rfl,hb⟩:=rK h1
 cases h2
 refine (oJ _ _ _ _ _ _ hb hl).mono ?_
 rintro e w' ⟨v,rfl,hV,hX⟩
 exact ⟨_,rfl,hX,qp (BJ.ofV hV)⟩⟩
def mg (row:List Bool) (v:Bool) (ps:List (Int × Int)):Nat:=(ps.filter fun p=>row.getD p.1.toNat false == v).length
theorem wI (row:List Bool) (v:Bool) (ps:List (Int × Int)) (i:Nat) (h:i<ps.length):mg row v (ps.take (i+1))=if (row.getD (ps[i]).1.toNat false == v)=true then mg row v (ps.take i)+1 else mg row v (ps.take i):=by
 unfold mg
 rw [List.take_succ_eq_append_getElem h,List.filter_append]
 by_cases hh:(row.getD (ps[i]).1.toNat false == v)=true
 ·rw [if_pos hh];simp only [List.length_append,List.filter_cons,hh,if_true,List.filter_nil,List.length_cons,List.length_nil]
 ·rw [if_neg hh];simp only [List.length_append,List.filter_cons,if_neg hh,List.filter_nil,List.length_nil,Nat.add_zero]
theorem d8 (b:Big) (l:Int) (hn:b.nodes.length≤1000) (hl:∀i (h:i<b.nodes.length),(b.nodes[i]).links.length≤1000):(aE b l).length≤1000000:=by
 have:=gP b l b.nodes.length (Nat.le_refl _) hl
 unfold aE
 omega
theorem AW (b:Big) (l:Int) (row:List Bool) (v:Bool) (hn:b.nodes.length≤1000) (hl:∀i (h:i<b.nodes.length),(b.nodes[i]).links.length≤1000) (hr:b.nodes.length≤row.length):FnD Tryz.prog 206 [b.D,.i l,.l 1 (row.map .b),.b v] (.d (.i (mg row v (aE b l)))):=by
 have f1:=lA b l hn hl
 have hp:∀q∈aE b l,∃n:Nat,q.1=(n:Int)∧n<row.length:=fun q hq=>by
  obtain ⟨i,k,hi,_,_,e⟩:=dz.1 hq
  exact ⟨i,by rw [e],by omega⟩
 refine ah Tryz.func206 (fun hw W0=>?_)
 have hpl:(aE b l).length≤1000000:=d8 b l hn hl
 revert f1 hp hpl
 generalize aE b l=ps
 intro f1 hp hpl
 refine kgo ?_
 refine eF (fun i:Nat=>i≤ps.length) (fun i=>ps.length - i) (fun i=>[(2,.sy (.d (.l 1 (row.map .b)))),(3,.sy (.d (.b v))),(9,.sy (.d (.l 2 (ps.map lH)))),(10,.sy (.d (.i (mg row v (ps.take i))))),(11,.sy (.d (.i i)))]) 0 (Nat.zero_le _) (fun i hi=>?_)
 refine kgo ?_
 refine cIf (fun h=>?_) (fun h=>?_)
 ·have h:=of_decide_eq_true h
  have hlt:i<ps.length:=by omega
  obtain ⟨n,hq,hnr⟩:=hp _ (List.getElem_mem hlt)
  have hsu:=wI row v ps i hlt
  have hm:mg row v (ps.take i)≤ps.length:=Nat.le_trans (List.length_filter_le _ _) (by rw [List.length_take];omega)
  rw [hq,show (n:Int).toNat=n from rfl,List.getD_eq_getElem?_getD,List.getElem?_eq_getElem hnr,Option.getD_some] at hsu
  refine kgo ?_
  refine dv (n:=n) (fun _=>?_) rfl rfl (congrArg some hq)
  refine kgo ?_
  refine cIf (fun h2=>?_) (fun h2=>?_)
  ·rw [if_pos h2] at hsu
   have hs:D.i ((mg row v (ps.take (i+1)):Nat):Int)=D.i ((mg row v (ps.take i):Nat)+1):=by rw [hsu];rfl
   refine kgo ?_
   exact ab (i+1) hlt (by omega)
  ·rw [if_neg (by rw [h2];exact Bool.false_ne_true)] at hsu
   have hs:D.i ((mg row v (ps.take (i+1)):Nat):Int)=D.i (mg row v (ps.take i):Nat):=by rw [hsu]
   refine kgo ?_
   exact ab (i+1) hlt (by omega)
 ·have h:=of_decide_eq_false h
  refine kgo ?_
  rw [List.take_of_length_le (by omega)]
  exact ar
theorem Be (r:Big) (m:Mat) (p:Int) (hl:r.sites.length≤1000) (hs:eq m.nodes p=true) (hh:0<(bq r (cX m.nodes p)).length):FnD Tryz.prog 212 [r.D,m.D,.i p] (.d (.i (ky r m.nodes p))):=by
 refine ah Tryz.func212 (fun hw W0=>?_)
 have hml:=(wfM hw.2.1.1).1
 refine kgo ?_
 refine eF (fun i:Nat=>i≤m.nodes.length∧eq (m.nodes.take i) p=false) (fun i=>m.nodes.length - i) (fun i=>[(2,.sy (.d (.i p))),(3,.sy (.bx 10003 0)),(10003,.tk (.bx (flat r.D))),(4,.sy (.bx 10004 0)),(10004,.tk (.bx (flat m.D))),(7,.sy (.d (.i i)))]) 0 ⟨Nat.zero_le _,rfl⟩ (fun i hi=>?_)
 refine kgo ?_
 refine cIf (fun h=>?_) (fun h=>?_)
 ·have h:=of_decide_eq_true h
  have hlt:i<m.nodes.length:=by omega
  refine kgo ?_
  refine cIf (fun h2=>?_) (fun h2=>?_)
  ·have h2:=of_decide_eq_true h2
   have hix:cX m.nodes p=(i:Int):=tu p m.nodes i hlt h2 (by have:=hi.2;unfold eq at this;rw [← this];congr 1;funext x;exact Bool.beq_comm ..)
   have f1:=lw r i (by omega)
   rw [← hix] at f1
   have f1:FnD Tryz.prog 203 [r.D,.i i] (.d (DI (bq r (cX m.nodes p)))):=by rw [hix] at f1 ⊢;exact f1
   have hz:(0:Int)≤0∧(0:Int)<((bq r (cX m.nodes p)).length:Int):=⟨Int.le_refl _,by omega⟩
   have hso:ky r m.nodes p=(bq r (cX m.nodes p))[0]:=by unfold ky atI;simp [List.getElem?_eq_getElem hh]
   refine kgo ?_
   rw [hso]
   exact ar
  ·have h2:=of_decide_eq_false h2
   have hx:eq (m.nodes.take (i+1)) p=false:=by
    have:=hi.2
    unfold eq at this ⊢
    rw [List.take_succ_eq_append_getElem hlt,List.any_append,this]
    simp;omega
   refine kgo ?_
   exact ab (i+1) ⟨hlt,hx⟩ (by omega)
 ·have h:=of_decide_eq_false h
  have:=hi.2
  rw [List.take_of_length_le (by omega),hs] at this
  cases this
theorem xZ:∀i:Fin 26,(⟨#[97,98,99,100,101,102,103,104,105,106,107,108,109,110,111,112,113,114,115,116,117,118,119,120,121,122]⟩:ByteArray).extract i (i+1)=⟨#[UInt8.ofNat (97+i)]⟩:=by decide
theorem w7 (i:Nat) (hi:i<26):FnD Tryz.prog 207 [.i i] (.d (.s ⟨#[UInt8.ofNat (97+i)]⟩)):=by
 refine ah Tryz.func207 (fun hw W0=>?_)
 have hij:i≤i+1∧i+1≤(⟨#[97,98,99,100,101,102,103,104,105,106,107,108,109,110,111,112,113,114,115,116,117,118,119,120,121,122]⟩:ByteArray).size:=⟨by omega,by show i+1≤26;omega⟩
 have hl:=xZ ⟨i,hi⟩
 simp only at hl
 rw [← hl]
 refine kgo ?_
 exact ar
end Go.Proofs.YtacafmejcdgboaaGreatDoor
namespace Go.Proofs.YtacafmejcdgboaaGreatDoor
open Go.RowKit
set_option linter.unusedVariables false
set_option maxRecDepth 100000
set_option maxHeartbeats 4000000
attribute [local irreducible] aD Der At
def tkF (row:List Bool) (v:Bool) (i:Nat):Bool:=row.getD i false == v
def atN (row:List Bool) (v:Bool) (i:Nat):Int:=((List.range i).filter (tkF row v)).length
def atL (row:List Bool) (v:Bool) (n:Nat):List Int:=(List.range n).map (atN row v)
def rT (row:List Bool) (v dn:Bool) (p:Int):Int:=if decide (0≤p) && tkF row v p.toNat then atN row v p.toNat else if dn then -1 else p
def EV (row:List Bool) (v dn:Bool) (ks:List Int) (n:Nd):Nd:=⟨n.control,rT row v dn n.parent,ef ks n.links⟩
def gu (b:Big) (row:List Bool) (v dn:Bool) (ks:List Int) (n:Nat):List Nd:=((List.range n).filter (tkF row v)).map fun (i:Nat)=>EV row v dn ks (cI b (i:Int))
theorem zP (b:Big) (row:List Bool) (v dn:Bool) (ks:List Int) (n:Nat):((gu b row v dn ks n).length:Int)=atN row v n:=by unfold gu atN;rw [List.length_map]
theorem BF (b:Big) (row:List Bool) (v dn:Bool) (ks:List Int) (n:Nat):(gu b row v dn ks n).length≤n:=by
 unfold gu;rw [List.length_map];exact Nat.le_trans (List.length_filter_le _ _) (by rw [List.length_range];exact Nat.le_refl _)
theorem xc (b:Big) (row:List Bool) (v dn:Bool) (ks:List Int) (n:Nat):gu b row v dn ks (n+1)=if tkF row v n=true then gu b row v dn ks n++[EV row v dn ks (cI b n)] else gu b row v dn ks n:=by
 unfold gu
 rw [List.range_succ,List.filter_append]
 by_cases h:tkF row v n=true <;> simp [h]
theorem uO (row:List Bool) (v:Bool) (n:Nat):atL row v (n+1)=atL row v n++[atN row v n]:=by unfold atL;rw [List.range_succ,List.map_append];rfl
theorem iK (row:List Bool) (v:Bool) (n:Nat):(atL row v n).length=n:=by unfold atL;simp
theorem Fz (row:List Bool) (v:Bool) (n i:Nat) (h:i<(atL row v n).length):(atL row v n)[i]=atN row v i:=by simp [atL]
theorem rz (row:List Bool) (v:Bool) (i:Nat) (h:i<row.length):tkF row v i=(row[i] == v):=by unfold tkF;rw [List.getD_eq_getElem?_getD,List.getElem?_eq_getElem h];rfl
theorem uY (b:Big) (row:List Bool) (v dn:Bool) (ks:List Int) (hl:b.nodes.length≤1000) (hr:b.nodes.length≤row.length) (hup:∀i (h:i<b.nodes.length),(b.nodes[i]).parent<i) (hll:∀n∈b.nodes,n.links.length≤1000) (hlk:∀n∈b.nodes,∀l∈n.links,0≤l∧l<(ks.length:Int)):FnD Tryz.prog 210 [b.D,.l 1 (row.map .b),.b v,DI ks,.b dn] (.row 3 151 ((gu b row v dn ks b.nodes.length).map Nd.D)):=by
 refine ah Tryz.func210 (fun hw W0=>?_)
 refine kgo ?_
 refine eF (fun i:Nat=>i≤b.nodes.length) (fun i=>b.nodes.length - i) (fun i=>[(1,.sy (.d (.l 1 (row.map .b)))),(2,.sy (.d (.b v))),(3,.sy (.d (DI ks))),(4,.sy (.d (.b dn))),(5,.sy (.bx 10005 0)),(10005,.tk (.bx (flat b.D))),(11,.sy (.k 10017)),(10017,.tk (.row 3 151 ((gu b row v dn ks i).map Nd.D))),(12,.sy (.k 10018)),(10018,.tk (.row 1 3 ((atL row v i).map .i))),(13,.sy (.d (.i i)))]) 0 (Nat.zero_le _) (fun i hi=>?_)
 refine kgo ?_
 refine cIf (fun h=>?_) (fun h=>?_)
 ·have h:=of_decide_eq_true h
  have hlt:i<b.nodes.length:=by omega
  have hir:i<row.length:=by omega
  have hm:=List.getElem_mem hlt
  have hL:=hll _ hm
  have hK:=hlk _ hm
  have hU:=hup i hlt
  have hq:=BF b row v dn ks i
  have hat:=iK row v i
  have hsa:(atL row v (i+1)).map D.i=(atL row v i).map D.i++[.i ((gu b row v dn ks i).map Nd.D).length]:=by rw [uO,List.map_append,List.length_map,zP];rfl
  have hst:=xc b row v dn ks i
  rw [rz row v i hir,al b i hlt] at hst
  refine kgo ?_
  refine cIf (fun h2=>?_) (fun h2=>?_)
  ·rw [Bool.not_eq_true'] at h2
   rw [if_neg (by rw [h2];exact Bool.false_ne_true)] at hst
   have hs:(gu b row v dn ks (i+1)).map Nd.D=(gu b row v dn ks i).map Nd.D:=by rw [hst]
   refine kgo ?_
   exact ab (i+1) hlt (by omega)
  ·rw [Bool.not_eq_false'] at h2
   rw [if_pos h2] at hst
   have hs:(gu b row v dn ks (i+1)).map Nd.D=(gu b row v dn ks i).map Nd.D++[Nd.D (EV row v dn ks b.nodes[i])]:=by rw [hst,List.map_append];rfl
   refine kgo ?_
   cases hc:decide (0≤(b.nodes[i]).parent)
   have hT:rT row v dn (b.nodes[i]).parent=if dn=true then -1 else (b.nodes[i]).parent:=by unfold rT;rw [hc];rfl
   refine kgo ?_
   refine cIf (fun h4=>?_) (fun h4=>?_)
   have hP:D.i (rT row v dn (b.nodes[i]).parent)=D.i (-1):=by rw [hT,h4];rfl
   rotate_left
   have hP:D.i (rT row v dn (b.nodes[i]).parent)=D.i (b.nodes[i]).parent:=by rw [hT,h4];rfl
   rotate_left
   have hc':=of_decide_eq_true hc
   obtain ⟨j,hj⟩:=Int.eq_ofNat_of_zero_le hc'
   have hjr:j<row.length:=by omega
   have hT:rT row v dn (b.nodes[i]).parent=if (row[j] == v)=true then atN row v j else if dn=true then -1 else (b.nodes[i]).parent:=by unfold rT;rw [hc,hj,← rz row v j hjr];rfl
   refine kgo ?_
   refine dv (n:=j) (fun _=>?_) rfl rfl (congrArg some hj)
   refine kgo ?_
   refine cIf (fun h3=>?_) (fun h3=>?_)
   have hnj:j<((atL row v i).map D.i++[D.i ((gu b row v dn ks i).map Nd.D).length]).length:=by rw [List.length_append,List.length_map,hat];show j<i+1;omega
   have hnk:j<(atL row v (i+1)).length:=by rw [iK];omega
   have hP:D.i (rT row v dn (b.nodes[i]).parent)=D.i (atL row v (i+1))[j]:=by rw [hT,if_pos h3,Fz row v (i+1) j hnk]
   refine kgo ?_
   refine bE (n:=j) ?_ rfl rfl rfl (congrArg some hj)
   refine aQ (f:=D.i) (l:=atL row v (i+1)) ?_ rfl (by exact jo rfl hsa.symm) hnk
   rotate_left
   rw [if_neg (by rw [h3];exact Bool.false_ne_true)] at hT
   refine kgo ?_
   refine cIf (fun h4=>?_) (fun h4=>?_)
   have hP:D.i (rT row v dn (b.nodes[i]).parent)=D.i (-1):=by rw [hT,h4];rfl
   rotate_left
   have hP:D.i (rT row v dn (b.nodes[i]).parent)=D.i (b.nodes[i]).parent:=by rw [hT,h4];rfl
   all_goals
    refine kgo ?_
    refine eF (fun k:Nat=>k≤(b.nodes[i]).links.length) (fun k=>(b.nodes[i]).links.length - k) (fun k=>[(1,.sy (.d (.l 1 (row.map .b)))),(2,.sy (.d (.b v))),(3,.sy (.d (DI ks))),(4,.sy (.d (.b dn))),(5,.sy (.bx 10005 0)),(10005,.tk (.bx (flat b.D))),(11,.sy (.k 10017)),(10017,.tk (.row 3 151 ((gu b row v dn ks i).map Nd.D))),(12,.sy (.k 10030)),(10030,.tk (.row 1 3 ((atL row v (i+1)).map .i))),(13,.sy (.d (.i i))),(14,.sy (.d (.i (rT row v dn (b.nodes[i]).parent)))),(15,.sy (.k 10058)),(10058,.tk (.row 1 3 ((ef ks ((b.nodes[i]).links.take k)).map .i))),(16,.sy (.d (.i k)))]) 0 (Nat.zero_le _) (fun k hk=>?_)
    refine kgo ?_
    refine cIf (fun h5=>?_) (fun h5=>?_)
    ·have h5:=of_decide_eq_true h5
     have hkl:k<(b.nodes[i]).links.length:=by omega
     have hk2:=hK _ (List.getElem_mem hkl)
     have hs5:(ef ks ((b.nodes[i]).links.take (k+1))).map D.i=(ef ks ((b.nodes[i]).links.take k)).map D.i++[.i (atI ks (b.nodes[i]).links[k])]:=by rw [nY ks k hkl,List.map_append];rfl
     have hq5:(ef ks ((b.nodes[i]).links.take k)).length≤1000:=by unfold ef;rw [List.length_map,List.length_take];omega
     refine kgo ?_
     exact ab (k+1) hkl (by omega)
    ·have h5:=of_decide_eq_false h5
     rw [show (b.nodes[i]).links.take k=(b.nodes[i]).links from List.take_of_length_le (by omega)]
     repeat (first|(refine bZ ?_;first|refine aO ?_|refine b9 ?_|refine bf ?_|refine aX ?_|refine aQ ?_|refine aW ?_|refine aV ?_|refine aA ?_|refine bc ?_)|(refine fb ?_;first|refine bO ?_|refine fg ?_|refine bU ?_|refine cd ?_)|(refine fp ?_;first|refine dv (fun _=>?_)|refine ci ?_|refine cr ?_|refine bE ?_|refine bR ?_|refine bX ?_)|(refine ft ?_;first|refine b8 ?_|refine eG ?_|refine ca ?_|refine bI ?_|refine cb ?_|refine b7 ?_)|(refine fx ?_;first|refine fq ?_|refine eZ ?_|refine cm ?_|refine bQ ?_|refine fu ?_|refine aR ?_|refine bd ?_)|(refine bS ?_;first|refine bh ?_|refine bW ?_)|(refine fc ?_;first|refine cf ?_|refine ck ?_|refine fj ?_)|(refine bY ?_;first|refine cg ?_|refine be ?_|refine aZ ?_|refine bj ?_|refine aP ?_|refine aY ?_)|(refine fm ?_;first|refine co ?_|refine eX ?_|refine aU ?_|refine bg ?_)|(refine aS ?_;first|refine av _ ?_|refine ba ?_|refine aB ?_|refine ax ?_|refine az ?_)|(refine ff ?_;first|refine cq ?_|refine bJ ?_|refine cj ?_)|(refine gOp ?_;first|refine fd ?_|refine fa ?_|refine aT ?_|refine fl ?_|refine fh ?_|refine b6 ?_|refine aN ?_|refine bT ?_|refine fw ?_|refine bK ?_|refine ct ?_|refine bk ?_|refine sFz 93 ?_|refine ay ?_|refine ch ?_|refine sNo ?_|refine eS ?_)|refine eA ?_|refine eR ?_|refine fe ?_|refine bl ?_|refine bM ?_|refine bz ?_|refine fC ?_|refine fB ?_|refine fo ?_|refine eH ?_|refine bV ?_|refine bp ?_|refine au ?_|refine bm ?_|refine cw ?_|refine bA ?_|refine aBlkX ?_|refine cy ?_|refine sFz 93 ?_)
     exact ab (i+1) hlt (by omega)
 ·have h:=of_decide_eq_false h
  refine kgo ?_
  rw [show i=b.nodes.length by omega]
  exact qI
end Go.Proofs.YtacafmejcdgboaaGreatDoor
namespace Go.Proofs.YtacafmejcdgboaaGreatDoor
open Go.RowKit
set_option linter.unusedVariables false
set_option maxRecDepth 100000
set_option maxHeartbeats 4000000
attribute [local irreducible] aD Der At
def iw (to:List Int) (p:Int):Int:=if p<0 then p else atI to p
theorem lh (p:Int) (to:List Int) (hp:p<to.length):FnD Tryz.prog 197 [.i p,DI to] (.d (.i (iw to p))):=by
 refine ah Tryz.func197 (fun hw W0=>?_)
 refine kgo ?_
 refine cIf (fun h=>?_) (fun h=>?_)
 ·have h:=of_decide_eq_true h
  rw [show iw to p=p from if_pos h]
  refine kgo ?_
  exact ar
 ·have h:=of_decide_eq_false h
  rw [show iw to p=atI to p from if_neg h]
  refine kgo ?_
  exact ar
theorem D6 {sig:List Ctl} {r a:Big} {ns:List Int} (h:nu r a ns) (hr:aw sig r=true) (ha:aw sig a=true) (l:Int) (j:Nat) (hj:j<(aE r l).length):∃mm:Nat,∃hm:mm<a.nodes.length,(0≤((aE r l)[j]).1∧((aE r l)[j]).1<ns.length)∧atI ns ((aE r l)[j]).1=(mm:Int)∧(0≤((aE r l)[j]).2∧((aE r l)[j]).2<(a.nodes[mm]).links.length)∧gS a ns (aE r l)[j]=atI (a.nodes[mm]).links ((aE r l)[j]).2:=by
 obtain ⟨i,k,hi,hk,_,hq⟩:=dz.1 (List.getElem_mem hj)
 obtain ⟨mm,hm,hl,e1,e2⟩:=h.img hr ha hi hk
 have:=h.len
 refine ⟨mm,hm,by rw [hq];dsimp only;omega,by rw [hq];exact e1,by rw [hq];dsimp only;omega,?_⟩
 rw [hq,e2];exact (br _ k hl).symm
theorem zR {sig:List Ctl} {r a:Big} (m:Mat) (l:Nat) (hbr:aw sig r=true) (hba:aw sig a=true) (him:nu r a m.nodes) (hp0:aE r l≠[]):FnD Tryz.prog 204 [r.D,a.D,m.D,.i l] (.tp [.i (mb r a m.nodes l),.b (gT r a m.nodes l)]):=by
 have dr:=bw hbr
 have da:=bw hba
 have h0:0<(aE r l).length:=List.length_pos_iff.2 hp0
 have hpa:=D6 him hbr hba l
 have hpl:=d8 r l dr.3 dr.7
 have f1:=lA r l dr.3 dr.7
 have f2:=lA a (mb r a m.nodes l) da.3 da.7
 have hpl2:=d8 a (mb r a m.nodes l) da.3 da.7
 have hhead:mb r a m.nodes l=gS a m.nodes (aE r l)[0]:=tQ _ _ _ h0
 have hla:gT r a m.nodes l=((aE r l).all (fun q=>decide (gS a m.nodes q=mb r a m.nodes l)) && (!(decide ((l:Int)<r.edges)) || (decide (mb r a m.nodes l<a.edges) && decide ((aE a (mb r a m.nodes l)).length=(aE r l).length)))):=rfl
 obtain ⟨m0,hm0,q1,q2,q3,q4⟩:=hpa 0 h0
 rw [q4] at hhead
 revert hla f2 hpl2 hhead
 generalize mb r a m.nodes l=im
 generalize gT r a m.nodes l=la
 generalize aE r l=ps at *
 intro f2 hpl2 hla hhead
 refine ah Tryz.func204 (fun hw W0=>?_)
 refine kgo ?_
 refine dv (n:=m0) (fun _=>?_) rfl rfl (congrArg some q2)
 refine kgo ?_
 rw [← hhead]
 refine aj [3,4,5,6,10,11] (fun j:Nat=>1≤j∧j≤ps.length∧(ps.take j).all (fun q=>decide (gS a m.nodes q=im))=true) (fun j=>ps.length - j) (fun j=>[(12,.sy (.d (.i j)))]) 1 ⟨Nat.le_refl _,h0,by rw [List.take_succ_eq_append_getElem h0,List.take_zero,List.nil_append,List.all_cons,q4,hhead,decide_eq_true rfl];rfl⟩ (fun j hj=>?_)
 refine kgo ?_
 refine bo (fun h2=>?_) (fun h2=>?_)
 ·have hlt:j<ps.length:=by omega
  obtain ⟨mj,hmj,p1,p2,p3,p4⟩:=hpa j hlt
  refine kgo ?_
  refine dv (n:=mj) (fun _=>?_) rfl rfl (congrArg some p2)
  refine kgo ?_
  rw [← p4]
  refine kR (fun h5=>?_) (fun h5=>?_)
  ·rw [show ps.all (fun q=>decide (gS a m.nodes q=im))=false from List.all_eq_false.2 ⟨_,List.getElem_mem hlt,by rw [decide_eq_false h5];exact Bool.false_ne_true⟩,Bool.false_and] at hla
   refine kgo ?_
   rw [hla]
   exact em
  ·refine kgo ?_
   exact ab (j+1) ⟨by omega,hlt,by rw [List.take_succ_eq_append_getElem hlt,List.all_append,hj.2.2,List.all_cons,decide_eq_true h5];rfl⟩ (by omega)
 rw [fT _ _ j (by omega) hj.2.2,Bool.true_and] at hla
 refine kgo ?_
 refine bo (fun h3=>?_) (fun h3=>?_)
 ·rw [decide_eq_true h3,Bool.not_true,Bool.false_or] at hla
  refine kgo ?_
  cases h4:decide (im<a.edges)
  ·rw [h4] at hla
   refine kgo ?_
   rw [hla]
   exact em
  ·rw [h4] at hla
   refine kgo ?_
   rw [hla]
   rw [show decide ((aE a im).length=ps.length)=decide (((aE a im).length:Int)=(ps.length:Int)) from decide_eq_decide.2 (by omega)]
   exact em
 ·rw [decide_eq_false h3] at hla
  refine kgo ?_
  rw [hla]
  exact em
theorem si {sig:List Ctl} {r a:Big} (m:Mat) (hbr:aw sig r=true) (hba:aw sig a=true) (him:nu r a m.nodes) (hp0:∀l:Nat,l<ak r→aE r l≠[]):FnD Tryz.prog 139 [r.D,a.D,m.D] (.tp [DI (ny r a m.nodes),.b (fQ r a m.nodes)]):=by
 have hdr:=aC hbr
 have hlr:r.edges+(r.outer.length:Int)=(ak r:Nat):=by unfold ak;omega
 have hlb:ak r≤1000:=by unfold ak;omega
 refine ah Tryz.func139 (fun hw W0=>?_)
 refine kgo ?_
 refine aj [3,4,5] (fun i:Nat=>i≤ak r∧(List.range i).all (gT r a m.nodes)=true) (fun i=>ak r - i) (fun i=>[(8,.sy (.k 20001)),(20001,.tk (.row 1 3 ((gw r a m.nodes i).map .i))),(9,.sy (.d (.i i)))]) 0 ⟨Nat.zero_le _,rfl⟩ (fun i hi=>?_)
 refine kgo ?_
 refine bo (fun h=>?_) (fun h=>?_)
 ·have hlt:i<ak r:=by omega
  have f1:=zR m i hbr hba him (hp0 i hlt)
  have hs:(gw r a m.nodes (i+1)).map D.i=(gw r a m.nodes i).map D.i++[.i (mb r a m.nodes i)]:=by rw [qh,List.map_append];rfl
  have hil:(gw r a m.nodes i).length=i:=by unfold gw;simp
  refine kgo ?_
  refine cIf (fun h2=>?_) (fun h2=>?_)
  ·rw [Bool.not_eq_true'] at h2
   have hb:=jN hlt h2
   rw [lC hb,hb]
   repeat (first|(refine bZ ?_;first|refine aO ?_|refine b9 ?_|refine bf ?_|refine aX ?_|refine aQ ?_|refine aW ?_|refine aV ?_|refine aA ?_|refine bc ?_)|(refine fb ?_;first|refine bO ?_|refine fg ?_|refine bU ?_|refine cd ?_)|(refine fp ?_;first|refine dv (fun _=>?_)|refine ci ?_|refine cr ?_|refine bE ?_|refine bR ?_|refine bX ?_)|(refine ft ?_;first|refine b8 ?_|refine eG ?_|refine ca ?_|refine bI ?_|refine cb ?_|refine b7 ?_)|(refine fx ?_;first|refine fq ?_|refine eZ ?_|refine cm ?_|refine bQ ?_|refine fu ?_|refine aR ?_|refine bd ?_)|(refine bS ?_;first|refine bh ?_|refine bW ?_)|(refine fc ?_;first|refine fA (d:=6) ?_|refine cf ?_|refine ck ?_|refine fj ?_)|(refine bY ?_;first|refine cg ?_|refine be ?_|refine aZ ?_|refine bj ?_|refine aP ?_|refine aY ?_)|(refine fm ?_;first|refine co ?_|refine eX ?_|refine aU ?_|refine bg ?_)|(refine aS ?_;first|refine av _ ?_|refine ba ?_|refine aB ?_|refine ax ?_|refine az ?_)|(refine ff ?_;first|refine cq ?_|refine bJ ?_|refine cj ?_)|(refine gOp ?_;first|refine fd ?_|refine fa ?_|refine aT ?_|refine fl ?_|refine fh ?_|refine b6 ?_|refine aN ?_|refine bT ?_|refine fw ?_|refine bK ?_|refine ct ?_|refine bk ?_|refine ay ?_|refine ch ?_|refine sNo ?_|refine eS ?_)|refine eA ?_|refine eR ?_|refine fe ?_|refine bl ?_|refine bM ?_|refine bz ?_|refine fC ?_|refine fB ?_|refine fo ?_|refine eH ?_|refine bV ?_|refine bp ?_|refine au ?_|refine bm ?_|refine cw ?_|refine bA ?_|refine aBlkX ?_|refine cy ?_)
   exact em
  ·rw [Bool.not_eq_false'] at h2
   refine kgo ?_
   exact ab (i+1) ⟨hlt,by rw [cJ,hi.2,h2];rfl⟩ (by omega)
 have hb:fQ r a m.nodes=true:=eV _ _ i (by omega) hi.1 hi.2
 rw [jX hb,hb,show aJ r a m.nodes=gw r a m.nodes i from by rw [show i=ak r by omega];rfl]
 repeat (first|(refine bZ ?_;first|refine aO ?_|refine b9 ?_|refine bf ?_|refine aX ?_|refine aQ ?_|refine aW ?_|refine aV ?_|refine aA ?_|refine bc ?_)|(refine fb ?_;first|refine bO ?_|refine fg ?_|refine bU ?_|refine cd ?_)|(refine fp ?_;first|refine dv (fun _=>?_)|refine ci ?_|refine cr ?_|refine bE ?_|refine bR ?_|refine bX ?_)|(refine ft ?_;first|refine b8 ?_|refine eG ?_|refine ca ?_|refine bI ?_|refine cb ?_|refine b7 ?_)|(refine fx ?_;first|refine fq ?_|refine eZ ?_|refine cm ?_|refine bQ ?_|refine fu ?_|refine aR ?_|refine bd ?_)|(refine bS ?_;first|refine bh ?_|refine bW ?_)|(refine fc ?_;first|refine fA (d:=6) ?_|refine cf ?_|refine ck ?_|refine fj ?_)|(refine bY ?_;first|refine cg ?_|refine be ?_|refine aZ ?_|refine bj ?_|refine aP ?_|refine aY ?_)|(refine fm ?_;first|refine co ?_|refine eX ?_|refine aU ?_|refine bg ?_)|(refine aS ?_;first|refine av _ ?_|refine ba ?_|refine aB ?_|refine ax ?_|refine az ?_)|(refine ff ?_;first|refine cq ?_|refine bJ ?_|refine cj ?_)|(refine gOp ?_;first|refine fd ?_|refine fa ?_|refine aT ?_|refine fl ?_|refine fh ?_|refine b6 ?_|refine aN ?_|refine bT ?_|refine fw ?_|refine bK ?_|refine ct ?_|refine bk ?_|refine ay ?_|refine ch ?_|refine sNo ?_|refine eS ?_)|refine eA ?_|refine eR ?_|refine fe ?_|refine bl ?_|refine bM ?_|refine bz ?_|refine fC ?_|refine fB ?_|refine fo ?_|refine eH ?_|refine bV ?_|refine bp ?_|refine au ?_|refine bm ?_|refine cw ?_|refine bA ?_|refine aBlkX ?_|refine cy ?_)
 exact em
end Go.Proofs.YtacafmejcdgboaaGreatDoor
namespace Go.Proofs.YtacafmejcdgboaaGreatDoor
open Go.RowKit
set_option linter.unusedVariables false
set_option maxRecDepth 100000
set_option maxHeartbeats 4000000
attribute [local irreducible] aD Der At
def eW (ims:List Int) (re l:Nat):Bool:=!eq (ims.take re) l
def io (f:Nat→Bool) (n:Nat):Int:=((List.range n).filter f).length
def i5 (f:Nat→Bool) (n:Nat):List Int:=(List.range n).map fun l=>if f l=true then io f l else -1
theorem wD (f:Nat→Bool) (n:Nat):i5 f (n+1)=i5 f n++[if f n=true then io f n else -1]:=by unfold i5;rw [List.range_succ,List.map_append];rfl
theorem xn (f:Nat→Bool) (n:Nat):io f (n+1)=if f n=true then io f n+1 else io f n:=by
 unfold io
 rw [List.range_succ,List.filter_append]
 by_cases h:f n=true <;> simp [h]
theorem vn (f:Nat→Bool) (n:Nat):0≤io f n∧io f n≤n:=by
 unfold io
 have:=List.length_filter_le f (List.range n)
 rw [List.length_range] at this
 omega
def CS (a:Big) (ns:List Int) (k:Nat):Bool:=!gX a ns k
def dg (a:Big) (ns:List Int) (n:Nat):List Bool:=(List.range n).map (CS a ns)
theorem tc (a:Big) (ns:List Int) (n:Nat):dg a ns (n+1)=dg a ns n++[CS a ns n]:=by unfold dg;rw [List.range_succ,List.map_append];rfl
theorem BQ (row:List Bool) (v:Bool) (n:Nat):atN row v (n+1)=if tkF row v n=true then atN row v n+1 else atN row v n:=by
 unfold atN
 rw [List.range_succ,List.filter_append]
 by_cases h:tkF row v n=true <;> simp [h]
theorem E5 (row:List Bool) (v:Bool) (n:Nat):0≤atN row v n∧atN row v n≤n:=by
 unfold atN
 have:=List.length_filter_le (tkF row v) (List.range n)
 rw [List.length_range] at this
 omega
def toK (row:List Bool) (i k:Nat):List Int:=atL row true i++[atN row true k]
theorem Do (row:List Bool) (i k:Nat):(toK row i k).length=i+1:=by unfold toK;rw [List.length_append,iK];rfl
theorem Fk (row:List Bool) (i k:Nat) (h:i<(toK row i k).length):(toK row i k)[i]=atN row true k:=by
 have h1:(toK row i k)[i]? = some (atN row true k):=by
  unfold toK
  rw [List.getElem?_append_right (by rw [iK];exact Nat.le_refl _),iK,Nat.sub_self];rfl
 rw [List.getElem?_eq_getElem h] at h1
 exact Option.some.inj h1
theorem DG (row:List Bool) (i k:Nat) (x:Int) (hx:atN row true (k+1)=x):(toK row i k).set i x=toK row i (k+1):=by
 unfold toK
 rw [List.set_append_right _ _ (by rw [iK];exact Nat.le_refl _),iK,Nat.sub_self,hx];rfl
def lr (r a:Big) (ns:List Int):List Int:=i5 (eW (aJ r a ns) r.edges.toNat) a.edges.toNat++eL (io (eW (aJ r a ns) r.edges.toNat) a.edges.toNat) a.outer.length
def nQ (r:Big) (lk ims:List Int):List Wr:=r.outer.mapIdx fun i s=>⟨s,atI lk (atI ims (r.edges+i))⟩
def zW (lk ps:List Int) (names:List ByteArray):List Wr:=names.mapIdx fun i s=>⟨s,atI lk (atI ps i)⟩
def EN (r a:Big) (m:Mat) (ps:List Int) (names:List ByteArray):Big:=
 ⟨a.roots,gu a (dg a m.nodes a.nodes.length) true false (lr r a m.nodes) a.nodes.length,m.roots.map (iw (atL (dg a m.nodes a.nodes.length) true a.nodes.length)),io (eW (aJ r a m.nodes) r.edges.toNat) a.edges.toNat,a.outer,bG (nQ r (lr r a m.nodes) (aJ r a m.nodes)) (zW (lr r a m.nodes) ps names)⟩
theorem yW {sig:List Ctl} {r a:Big} {ns:List Int} (h:nu r a ns) (hr:aw sig r=true) (ha:aw sig a=true) {l:Int} (hp:aE r l≠[]):dy a (mb r a ns l)=true:=by
 cases hc:aE r l with
 | nil=>exact absurd hc hp
 | cons q u=>
  have h1:=h.img_link hr ha (q:=q) (l:=l) (by rw [hc];simp)
  rwa [show mb r a ns l=gS a ns q from by unfold mb;rw [hc]]
theorem Ax {sig:List Ctl} {r a:Big} {ns:List Int} (h:nu r a ns) (hr:aw sig r=true) (ha:aw sig a=true) (hp0:∀l:Nat,l<ak r→aE r l≠[]) (j:Int) (h0:0≤j) (h1:j<(ak r:Int)):0≤atI (aJ r a ns) j∧atI (aJ r a ns) j<(ak a:Int):=by
 obtain ⟨k,rfl⟩:=Int.eq_ofNat_of_zero_le h0
 have hk:k<(aJ r a ns).length:=by unfold aJ;simp;omega
 rw [br _ k hk,show (aJ r a ns)[k]=mb r a ns k from by simp [aJ]]
 obtain ⟨n,h2,h3⟩:=gv (yW h hr ha (hp0 k (by omega)))
 rw [h2];omega
theorem uF (a b:List Wr) (w:Wr):bG a (b++[w])=bG (bG a b) [w]:=by unfold bG;rw [List.foldl_append]
theorem zc (r:Big) (lk ims:List Int) (i:Nat) (h:i<r.outer.length):(nQ r lk ims).take (i+1)=(nQ r lk ims).take i++[⟨r.outer[i],atI lk (atI ims (r.edges+i))⟩]:=by
 have hl:i<(nQ r lk ims).length:=by unfold nQ;simpa using h
 rw [List.take_succ_eq_append_getElem hl];simp [nQ]
theorem DO (lk ps:List Int) (names:List ByteArray) (i:Nat) (h:i<names.length):(zW lk ps names).take (i+1)=(zW lk ps names).take i++[⟨names[i],atI lk (atI ps i)⟩]:=by
 have hl:i<(zW lk ps names).length:=by unfold zW;simpa using h
 rw [List.take_succ_eq_append_getElem hl];simp [zW]
theorem uE {sig:List Ctl} {r a:Big} (m:Mat) (hbr:aw sig r=true) (hba:aw sig a=true) (him:nu r a m.nodes) (hp0:∀l:Nat,l<ak r→aE r l≠[]) (hL:fQ r a m.nodes=true) (hrt:∀p∈m.roots,p<(a.nodes.length:Int)) (hrl:m.roots.length≤1000) (ps:List Int) (names:List ByteArray) (hps:∀l∈ps,0≤l∧l<(ak a:Int)) (hnm:names.length=ps.length) (hpl:ps.length≤500):FnD Tryz.prog 142 [r.D,a.D,m.D,DI ps,DS names] (.d (EN r a m ps names).D):=by
 have f1:=si m hbr hba him hp0
 rw [hL,jX hL] at f1
 have ha:=aC hba
 have hr:=aC hbr
 obtain ⟨ae,hae⟩:=Int.eq_ofNat_of_zero_le ha.2.2.2.1.1
 obtain ⟨re,hre⟩:=Int.eq_ofNat_of_zero_le hr.2.2.2.1.1
 have hil:(aJ r a m.nodes).length=ak r:=by unfold aJ;simp
 have hix:=Ax him hbr hba hp0
 have hE:EN r a m ps names=⟨a.roots,gu a (dg a m.nodes a.nodes.length) true false (lr r a m.nodes) a.nodes.length,m.roots.map (iw (atL (dg a m.nodes a.nodes.length) true a.nodes.length)),io (eW (aJ r a m.nodes) re) ae,a.outer,bG (nQ r (lr r a m.nodes) (aJ r a m.nodes)) (zW (lr r a m.nodes) ps names)⟩:=by unfold EN;rw [hae,hre];rfl
 have hlkE:lr r a m.nodes=i5 (eW (aJ r a m.nodes) re) ae++eL (io (eW (aJ r a m.nodes) re) ae) a.outer.length:=by unfold lr;rw [hae,hre];rfl
 have hna:ak a=ae+a.outer.length:=by unfold ak;omega
 have hnr:ak r=re+r.outer.length:=by unfold ak;omega
 have hlkl:(lr r a m.nodes).length=ak a:=by rw [hlkE,List.length_append,ey,hna];unfold i5;simp
 have hup:=fun i h=>(gN hba i h).2
 have hnode:=dc hba
 have hnl:∀n∈a.nodes,n.links.length≤1000∧∀l∈n.links,0≤l∧l<(ak a:Int):=fun n hn=>by
  obtain ⟨k,hk,rfl⟩:=List.mem_iff_getElem.1 hn
  obtain ⟨_,_,_,c3,c4⟩:=hnode k hk
  refine ⟨by have:=(bw hba).7 k hk;omega,fun l hl=>?_⟩
  obtain ⟨j,rfl,hj⟩:=gv (c4 l hl)
  omega
 rw [hE]
 clear hE
 revert f1 hil hix hlkE hlkl
 generalize aJ r a m.nodes=ims
 generalize lr r a m.nodes=lk
 intro f1 hil hix hlkE hlkl
 refine ah Tryz.func142 (fun hw W0=>?_)
 repeat (first|(refine bZ ?_;first|refine aO ?_|refine b9 ?_|refine bf ?_|refine aX ?_|refine aQ ?_|refine aW ?_|refine aV ?_|refine aA ?_|refine bc ?_)|(refine fb ?_;first|refine bO ?_|refine fg ?_|refine bU ?_|refine cd ?_)|(refine fp ?_;first|refine dv (fun _=>?_)|refine ci ?_|refine cr ?_|refine bE ?_|refine bR ?_|refine bX ?_)|(refine ft ?_;first|refine b8 ?_|refine eG ?_|refine ca ?_|refine bI ?_|refine cb ?_|refine b7 ?_)|(refine fx ?_;first|refine fq ?_|refine eZ ?_|refine cm ?_|refine bQ ?_|refine fu ?_|refine aR ?_|refine bd ?_)|(refine bS ?_;first|refine bh ?_|refine bW ?_)|(refine fc ?_;first|refine cf ?_|refine ck ?_|refine fj ?_)|(refine bY ?_;first|refine cg ?_|refine be ?_|refine aZ ?_|refine bj ?_|refine aP ?_|refine aY ?_)|(refine fm ?_;first|refine co ?_|refine eX ?_|refine aU ?_|refine bg ?_)|(refine aS ?_;first|refine av _ ?_|refine ba ?_|refine aB ?_|refine ax ?_|refine az ?_)|(refine ff ?_;first|refine cq ?_|refine bJ ?_|refine cj ?_)|(refine gOp ?_;first|refine fd ?_|refine fa ?_|refine aT ?_|refine fl ?_|refine fh ?_|refine b6 ?_|refine aN ?_|refine bT ?_|refine fw ?_|refine bK ?_|refine ct ?_|refine bk ?_|refine sFz 36 ?_|refine ay ?_|refine ch ?_|refine sNo ?_|refine eS ?_)|refine eA ?_|refine eR ?_|refine fe ?_|refine bl ?_|refine bM ?_|refine bz ?_|refine fC ?_|refine fB ?_|refine fo ?_|refine eH ?_|refine bV ?_|refine bp ?_|refine au ?_|refine bm ?_|refine cw ?_|refine bA ?_|refine aBlkX ?_|refine cy ?_|refine sFz 36 ?_)
 refine aj [3,4,5,6,7,10,11,13] (fun i:Nat=>i≤ae) (fun i=>ae - i) (fun i=>[(10013,.tk (.bx [.d (.i a.roots),.d (.n 3),.d (.n 1),.d (.i (io (eW ims re) i)),.d (DS a.outer),.d (.n 2)])),(14,.sy (.k 10038)),(10038,.tk (.row 1 3 ((i5 (eW ims re) i).map .i))),(15,.sy (.d (.i i)))]) 0 (Nat.zero_le _) (fun i hi=>?_)
 refine kgo ?_
 refine bo (fun h=>?_) (fun h=>?_)
 ·have hlt:i<ae:=by omega
  have f2:=js (ims.take re) i
  have hq:=wD (eW ims re) i
  have hn1:=xn (eW ims re) i
  have hn2:=vn (eW ims re) i
  have hkl:(i5 (eW ims re) i).length=i:=by unfold i5;simp
  refine kgo ?_
  refine bJ (n:=re) ?_ rfl rfl (congrArg some hre)
  cases hk:eq (ims.take re) i
  ·rw [hk] at f2
   have hf:eW ims re i=true:=by unfold eW;rw [hk];rfl
   rw [if_pos hf] at hq hn1
   have hs:(i5 (eW ims re) (i+1)).map D.i=(i5 (eW ims re) i).map D.i++[.i (io (eW ims re) i)]:=by rw [hq,List.map_append];rfl
   refine kgo ?_
   rw [← hn1]
   exact ab (i+1) hlt (by omega)
  ·rw [hk] at f2
   have hf:¬eW ims re i=true:=by unfold eW;rw [hk];exact Bool.false_ne_true
   rw [if_neg hf] at hq hn1
   have hs:(i5 (eW ims re) (i+1)).map D.i=(i5 (eW ims re) i).map D.i++[.i (-1)]:=by rw [hq,List.map_append];rfl
   refine kgo ?_
   rw [← hn1]
   exact ab (i+1) hlt (by omega)
 rw [show i=ae by omega]
 have hkn:=vn (eW ims re) ae
 have f3:=gC (io (eW ims re) ae) a.outer.length (by omega) (by omega)
 rw [Int.toNat_natCast] at f3
 have hkl:(i5 (eW ims re) ae).length=ae:=by unfold i5;simp
 have hfl:=ey (io (eW ims re) ae) a.outer.length
 have hlkD:lk.map D.i=(i5 (eW ims re) ae++eL (io (eW ims re) ae) a.outer.length).map D.i:=by rw [hlkE]
 have hmove:∀p∈m.roots,FnD Tryz.prog 197 [.i p,DI (atL (dg a m.nodes a.nodes.length) true a.nodes.length)] (.d (.i (iw (atL (dg a m.nodes a.nodes.length) true a.nodes.length) p))):=fun p hp=>lh p _ (by rw [iK];exact hrt p hp)
 have hrr:∀k,k<a.nodes.length→tkF (dg a m.nodes a.nodes.length) true k=CS a m.nodes k:=fun k hk=>by
  rw [rz _ _ _ (by unfold dg;simpa using hk)]
  simp [dg]
 have hrrl:(dg a m.nodes a.nodes.length).length=a.nodes.length:=by unfold dg;simp
 have f5:=uY a (dg a m.nodes a.nodes.length) true false lk (by omega) (by omega) hup (fun n hn=>(hnl n hn).1) (fun n hn l hl=>by rw [hlkl];exact (hnl n hn).2 l hl)
 revert hmove hrr hrrl f5
 generalize hgr:dg a m.nodes a.nodes.length=rr
 intro hmove hrr hrrl f5
 repeat (first|(refine bZ ?_;first|refine aO ?_|refine b9 ?_|refine bf ?_|refine aX ?_|refine aQ ?_|refine aW ?_|refine aV ?_|refine aA ?_|refine bc ?_)|(refine fb ?_;first|refine bO ?_|refine fg ?_|refine bU ?_|refine cd ?_)|(refine fp ?_;first|refine dv (fun _=>?_)|refine ci ?_|refine cr ?_|refine bE ?_|refine bR ?_|refine bX ?_)|(refine ft ?_;first|refine b8 ?_|refine eG ?_|refine ca ?_|refine bI ?_|refine cb ?_|refine b7 ?_)|(refine fx ?_;first|refine fq ?_|refine eZ ?_|refine cm ?_|refine bQ ?_|refine fu ?_|refine aR ?_|refine bd ?_)|(refine bS ?_;first|refine bh ?_|refine bW ?_)|(refine fc ?_;first|refine cf ?_|refine ck ?_|refine fj ?_)|(refine bY ?_;first|refine cg ?_|refine be ?_|refine aZ ?_|refine bj ?_|refine aP ?_|refine aY ?_)|(refine fm ?_;first|refine co ?_|refine eX ?_|refine aU ?_|refine bg ?_)|(refine aS ?_;first|refine av _ ?_|refine ba ?_|refine aB ?_|refine ax ?_|refine az ?_)|(refine ff ?_;first|refine cq ?_|refine bJ ?_|refine cj ?_)|(refine gOp ?_;first|refine fd ?_|refine fa ?_|refine aT ?_|refine fl ?_|refine fh ?_|refine b6 ?_|refine aN ?_|refine bT ?_|refine fw ?_|refine bK ?_|refine ct ?_|refine bk ?_|refine sFz 69 ?_|refine ay ?_|refine ch ?_|refine sNo ?_|refine eS ?_)|refine eA ?_|refine eR ?_|refine fe ?_|refine bl ?_|refine bM ?_|refine bz ?_|refine fC ?_|refine fB ?_|refine fo ?_|refine eH ?_|refine bV ?_|refine bp ?_|refine au ?_|refine bm ?_|refine cw ?_|refine bA ?_|refine aBlkX ?_|refine cy ?_|refine sFz 69 ?_)
 rw [← hlkE]
 refine aj [3,4,5,6,7,10,11,13,14] (fun i:Nat=>i≤a.nodes.length) (fun i=>a.nodes.length - i) (fun i=>[(16,.sy (.k 10071)),(10071,.tk (.row 1 4 ((dg a m.nodes i).map .b))),(17,.sy (.k 10072)),(10072,.tk (.row 1 3 ((atL rr true i).map .i))),(18,.sy (.d (.i i)))]) 0 (Nat.zero_le _) (fun i hi=>?_)
 refine kgo ?_
 refine bo (fun h=>?_) (fun h=>?_)
 ·have hlt:i<a.nodes.length:=by omega
  have hal:=iK rr true i
  have hol:(dg a m.nodes i).length=i:=by unfold dg;simp
  have hs0:(toK rr i 0).map D.i=(atL rr true i).map D.i++[.i 0]:=by unfold toK;rw [List.map_append];rfl
  refine kgo ?_
  refine aj [3,4,5,6,7,10,11,13,14,16,17,18] (fun k:Nat=>k≤i) (fun k=>i - k) (fun k=>[(17,.sy (.k 10082)),(10082,.tk (.row 1 3 ((toK rr i k).map .i))),(19,.sy (.d (.i k)))]) 0 (Nat.zero_le _) (fun k hk=>?_)
  refine kgo ?_
  refine bo (fun h2=>?_) (fun h2=>?_)
  ·have hki:k<i:=by omega
   have hkr:k<(dg a m.nodes i).length:=by omega
   have hek:(dg a m.nodes i)[k]=tkF rr true k:=by rw [hrr k (by omega)];simp [dg]
   have htl:=Do rr i k
   have hsn:=BQ rr true k
   have hnl:=E5 rr true k
   have hil:i<(toK rr i k).length:=by omega
   have hat:=Fk rr i k hil
   have hb:I64 ((toK rr i k)[i]+1):=by rw [hat];unfold I64;omega
   refine kgo ?_
   refine cIf (fun h3=>?_) (fun h3=>?_)
   ·rw [hek] at h3
    rw [if_pos h3] at hsn
    have hst:=DG rr i k ((toK rr i k)[i]+1) (by rw [hat];exact hsn)
    refine kgo ?_
    rw [hst]
    exact ab (k+1) hki (by omega)
   ·rw [hek] at h3
    rw [if_neg (by rw [h3];exact Bool.false_ne_true)] at hsn
    have hs2:(toK rr i (k+1)).map D.i=(toK rr i k).map D.i:=by unfold toK;rw [hsn]
    refine kgo ?_
    exact ab (k+1) hki (by omega)
  ·have hki:k=i:=by omega
   subst hki
   have f6:=ma hba m k (by omega)
   have hs3:(dg a m.nodes (k+1)).map D.b=(dg a m.nodes k).map D.b++[.b (!gX a m.nodes k)]:=by rw [tc,List.map_append];rfl
   have hs4:(atL rr true (k+1)).map D.i=(toK rr k k).map D.i:=by rw [uO];rfl
   refine kgo ?_
   exact ab (k+1) hlt (by omega)
 have hie:i=a.nodes.length:=by omega
 subst hie
 rw [hgr]
 repeat (first|refine cFz 14 ?_|refine cFz 16 ?_|refine cFz 17 ?_|(refine bZ ?_;first|refine aO ?_|refine b9 ?_|refine bf ?_|refine aX ?_|refine aQ ?_|refine aW ?_|refine aV ?_|refine aA ?_|refine bc ?_)|(refine fb ?_;first|refine bO ?_|refine fg ?_|refine bU ?_|refine cd ?_)|(refine fp ?_;first|refine dv (fun _=>?_)|refine ci ?_|refine cr ?_|refine bE ?_|refine bR ?_|refine bX ?_)|(refine ft ?_;first|refine b8 ?_|refine eG ?_|refine ca ?_|refine bI ?_|refine cb ?_|refine b7 ?_)|(refine fx ?_;first|refine fq ?_|refine eZ ?_|refine cm ?_|refine bQ ?_|refine fu ?_|refine aR ?_|refine bd ?_)|(refine bS ?_;first|refine bh ?_|refine bW ?_)|(refine fc ?_;first|refine cf ?_|refine ck ?_|refine fj ?_)|(refine bY ?_;first|refine cg ?_|refine be ?_|refine aZ ?_|refine bj ?_|refine aP ?_|refine aY ?_)|(refine fm ?_;first|refine co ?_|refine eX ?_|refine aU ?_|refine bg ?_)|(refine aS ?_;first|refine av _ ?_|refine ba ?_|refine aB ?_|refine ax ?_|refine az ?_)|(refine ff ?_;first|refine cq ?_|refine bJ ?_|refine cj ?_)|(refine gOp ?_;first|refine fd ?_|refine fa ?_|refine aT ?_|refine fl ?_|refine fh ?_|refine b6 ?_|refine aN ?_|refine bT ?_|refine fw ?_|refine bK ?_|refine ct ?_|refine bk ?_|refine ay ?_|refine ch ?_|refine sNo ?_|refine eS ?_)|refine eA ?_|refine eR ?_|refine fe ?_|refine bl ?_|refine bM ?_|refine bz ?_|refine fC ?_|refine fB ?_|refine fo ?_|refine eH ?_|refine bV ?_|refine bp ?_|refine au ?_|refine bm ?_|refine cw ?_|refine bA ?_|refine aBlkX ?_|refine cy ?_)
 refine mY 10013 1 ?_
 refine l9 10013 2 20001 3 ?_
 refine aj [3,4,5,7,10,11,13,14,17] (fun i:Nat=>i≤m.roots.length) (fun i=>m.roots.length - i) (fun i=>[(10013,.tk (.bx [.d (.i a.roots),.d (.l 3 ((gu a rr true false lk a.nodes.length).map Nd.D)),.k 20001,.d (.i (io (eW ims re) ae)),.d (DS a.outer),.d (.n 2)])),(20001,.tk (.row 1 3 (((m.roots.take i).map (iw (atL rr true a.nodes.length))).map .i))),(20,.sy (.d (.i i)))]) 0 (Nat.zero_le _) (fun i hi=>?_)
 refine kgo ?_
 refine bo (fun h=>?_) (fun h=>?_)
 ·have hlt:i<m.roots.length:=by omega
  have f6:=hmove _ (List.getElem_mem hlt)
  have hs:((m.roots.take (i+1)).map (iw (atL rr true a.nodes.length))).map D.i=((m.roots.take i).map (iw (atL rr true a.nodes.length))).map D.i++[.i (iw (atL rr true a.nodes.length) m.roots[i])]:=by rw [List.take_succ_eq_append_getElem hlt,List.map_append,List.map_append];rfl
  have hq:((m.roots.take i).map (iw (atL rr true a.nodes.length))).length≤1000:=by rw [List.length_map,List.length_take];omega
  refine kgo ?_
  exact ab (i+1) hlt (by omega)
 rw [show m.roots.take i=m.roots from List.take_of_length_le (by omega)]
 refine mY 10013 2 ?_
 refine kgo ?_
 refine aj [3,4,5,10,11,13,14] (fun i:Nat=>i≤r.outer.length) (fun i=>r.outer.length - i) (fun i=>[(21,.sy (.k 20002)),(20002,.tk (.row 2 153 (((nQ r lk ims).take i).map Wr.D))),(22,.sy (.d (.i i)))]) 0 (Nat.zero_le _) (fun i hi=>?_)
 refine kgo ?_
 refine bo (fun h=>?_) (fun h=>?_)
 ·have hlt:i<r.outer.length:=by omega
  have hx:=hix (r.edges+i) (by omega) (by omega)
  have hs:((nQ r lk ims).take (i+1)).map Wr.D=((nQ r lk ims).take i).map Wr.D++[Wr.D ⟨r.outer[i],atI lk (atI ims (r.edges+i))⟩]:=by rw [zc r lk ims i hlt,List.map_append];rfl
  have hq:((nQ r lk ims).take i).length≤1000:=by rw [List.length_take];omega
  refine kgo ?_
  exact ab (i+1) hlt (by omega)
 have hol:(nQ r lk ims).length=r.outer.length:=by unfold nQ;simp
 rw [show (nQ r lk ims).take i=nQ r lk ims from List.take_of_length_le (by omega)]
 refine cFz 21 ?_
 refine kgo ?_
 refine aj [3,4,10,13,14] (fun i:Nat=>i≤ps.length) (fun i=>ps.length - i) (fun i=>[(21,.sy (.d (.l 2 ((bG (nQ r lk ims) ((zW lk ps names).take i)).map Wr.D)))),(23,.sy (.d (.i i)))]) 0 (Nat.zero_le _) (fun i hi=>?_)
 refine kgo ?_
 refine bo (fun h=>?_) (fun h=>?_)
 ·have hlt:i<ps.length:=by omega
  have hltn:i<names.length:=by omega
  have hx:=hps _ (List.getElem_mem hlt)
  have hl:(bG (nQ r lk ims) ((zW lk ps names).take i)).length≤1000:=by have:=ka (nQ r lk ims) ((zW lk ps names).take i);rw [List.length_take] at this;omega
  have f6:FnD Tryz.prog 211 [.l 2 ((bG (nQ r lk ims) ((zW lk ps names).take i)).map Wr.D),.l 2 ([(⟨names[i],atI lk ps[i]⟩:Wr)].map Wr.D)] (.d (.l 2 ((bG (nQ r lk ims) ((zW lk ps names).take (i+1))).map Wr.D))):=by
   rw [DO lk ps names i hltn,uF,br ps i hlt]
   exact sG _ _ hl (by simp)
  repeat (first|(refine bZ ?_;first|refine aO ?_|refine b9 ?_|refine bf ?_|refine aX ?_|refine aQ ?_|refine aW ?_|refine aV ?_|refine aA ?_|refine bc ?_)|(refine fb ?_;first|refine bO ?_|refine fg ?_|refine bU ?_|refine cd ?_)|(refine fp ?_;first|refine dv (fun _=>?_)|refine ci ?_|refine cr ?_|refine bE ?_|refine bR ?_|refine bX ?_)|(refine ft ?_;first|refine b8 ?_|refine eG ?_|refine ca ?_|refine bI ?_|refine cb ?_|refine b7 ?_)|(refine fx ?_;first|refine fq ?_|refine eZ ?_|refine cm ?_|refine bQ ?_|refine fu ?_|refine aR ?_|refine bd ?_)|(refine bS ?_;first|refine bh ?_|refine bW ?_)|(refine fc ?_;first|refine cf ?_|refine ck ?_|refine fj ?_)|(refine bY ?_;first|refine cg ?_|refine be ?_|refine aZ ?_|refine bj ?_|refine aP ?_|refine aY ?_)|(refine fm ?_;first|refine co ?_|refine eX ?_|refine aU ?_|refine bg ?_)|(refine aS ?_;first|refine av _ ?_|refine ba ?_|refine aB ?_|refine ax ?_|refine az ?_)|(refine ff ?_;first|refine cq ?_|refine bJ ?_|refine cj ?_)|(refine gOp ?_;first|refine fd ?_|refine fa ?_|refine aT ?_|refine fl ?_|refine fh ?_|refine b6 ?_|refine aN ?_|refine bT ?_|refine fw ?_|refine bK ?_|refine ct ?_|refine bk ?_|refine sFz 178 ?_|refine ay ?_|refine ch ?_|refine sNo ?_|refine eS ?_)|refine eA ?_|refine eR ?_|refine fe ?_|refine bl ?_|refine bM ?_|refine bz ?_|refine fC ?_|refine fB ?_|refine fo ?_|refine eH ?_|refine bV ?_|refine bp ?_|refine au ?_|refine bm ?_|refine cw ?_|refine bA ?_|refine aBlkX ?_|refine cy ?_|refine sFz 178 ?_)
  exact ab (i+1) hlt (by omega)
 have hzl:(zW lk ps names).length=ps.length:=by unfold zW;simpa using hnm
 rw [show (zW lk ps names).take i=zW lk ps names from List.take_of_length_le (by omega)]
 refine kgo ?_
 exact ar
end Go.Proofs.YtacafmejcdgboaaGreatDoor
namespace Go.Proofs.YtacafmejcdgboaaGreatDoor
open Go.RowKit
set_option linter.unusedVariables false
set_option maxRecDepth 100000
set_option maxHeartbeats 4000000
attribute [local irreducible] aD Der At
def psF (a:Big) (ns:List Int) (l:Nat):Bool:=decide (0<mg (dQ a ns a.nodes.length) true (aE a l))
theorem uu (f:Nat→Bool) (n:Nat):idxOf f (n+1)=if f n=true then idxOf f n++[(n:Int)] else idxOf f n:=by
 unfold idxOf
 rw [List.range_succ,List.filter_append]
 by_cases h:f n=true <;> simp [h]
theorem vb {α:Type} [DecidableEq α]:∀(xs ys:List α),xs.Nodup→(∀x∈xs,x∈ys)→xs.length≤ys.length
 | [],_,_,_=>Nat.zero_le _
 | x :: xs,ys,h,hs=>by
  have h1:=List.nodup_cons.1 h
  have hx:=hs x (by simp)
  have h2:=vb xs (ys.erase x) h1.2 (fun y hy=>(List.mem_erase_of_ne (fun (e:y=x)=>h1.1 (by rw [← e];exact hy))).2 (hs y (by simp [hy])))
  rw [List.length_erase_of_mem hx] at h2
  have:=List.length_pos_of_mem hx
  rw [List.length_cons];omega
def km (outer:List ByteArray) (n:Nat):List ByteArray:=((List.range n).filter (kF outer)).map lJ
theorem m9 (outer:List ByteArray) (n:Nat):km outer (n+1)=if kF outer n=true then km outer n++[lJ n] else km outer n:=by
 unfold km
 rw [List.range_succ,List.filter_append]
 by_cases h:kF outer n=true <;> simp [h]
theorem zl:∀i j:Fin 26,lJ i=lJ j→i=j:=by decide
theorem sr:∀i:Fin 26,(⟨#[122]⟩:ByteArray) ++ ⟨#[UInt8.ofNat (97+i)]⟩=lJ i:=by decide
theorem vo (f:Nat→Bool):∀n,((List.range n).filter f).length+((List.range n).filter (fun i=>!f i)).length=n
 | 0=>rfl
 | n+1=>by
  have:=vo f n
  rw [List.range_succ,List.filter_append,List.filter_append]
  cases h:f n <;> simp [h] <;> omega
theorem yp (outer:List ByteArray) (n:Nat) (hn:n≤26):n≤(km outer n).length+outer.length:=by
 have h1:=vo (kF outer) n
 have h2:(((List.range n).filter (fun i=>!kF outer i)).map lJ).length≤outer.length:=vb _ _ (by
  refine List.pairwise_map.2 (List.Pairwise.imp_of_mem (fun {x y} hx hy hne e=>hne ?_) (List.nodup_range.filter _))
  have hx:=List.mem_range.1 (List.mem_filter.1 hx).1
  have hy:=List.mem_range.1 (List.mem_filter.1 hy).1
  exact congrArg Fin.val (zl ⟨x,by omega⟩ ⟨y,by omega⟩ e)) (fun s hs=>by
  obtain ⟨i,hi,rfl⟩:=List.mem_map.1 hs
  have h3:=(List.mem_filter.1 hi).2
  unfold kF at h3
  rw [Bool.not_not] at h3
  obtain ⟨x,hx,e⟩:=List.any_eq_true.1 h3
  rw [beq_iff_eq] at e
  rw [← fJ e];exact hx)
 rw [List.length_map] at h2
 unfold km
 rw [List.length_map]
 omega
theorem sH (outer:List ByteArray) (i:Nat):∀d,∃t,km outer (i+d)=km outer i++t
 | 0=>⟨[],by simp⟩
 | d+1=>by
  obtain ⟨t,h⟩:=sH outer i d
  rw [show i+(d+1)=(i+d)+1 from rfl,m9,h]
  by_cases hf:kF outer (i+d)=true
  ·exact ⟨t++[lJ (i+d)],by rw [if_pos hf,List.append_assoc]⟩
  ·exact ⟨t,by rw [if_neg hf]⟩
theorem rA (outer:List ByteArray) (i:Nat) (hi:i≤26):bD outer (km outer i).length=km outer i:=by
 obtain ⟨t,h⟩:=sH outer i (26 - i)
 rw [show i+(26 - i)=26 by omega] at h
 show (km outer 26).take _=_
 rw [h];simp
def dE (r a:Big) (ns:List Int):List Int × List ByteArray × Bool:=
 if decide (16<((idxOf (psF a ns) (ak a)).length:Int)+r.outer.length) then ([],[],false) else (idxOf (psF a ns) (ak a),bD r.outer (idxOf (psF a ns) (ak a)).length,true)
theorem wF {sig:List Ctl} {r a:Big} (hB:aw sig a=true) (m:Mat) (hro:r.outer.length≤1000):FnD Tryz.prog 141 [r.D,a.D,m.D] (.tp [DI (dE r a m.nodes).1,DS (dE r a m.nodes).2.1,.b (dE r a m.nodes).2.2]):=by
 have ha:=aC hB
 have f1:=lg hB m
 have hpl:(dQ a m.nodes a.nodes.length).length=a.nodes.length:=by simp [dQ]
 have hll:=(bw hB).links
 refine ah Tryz.func141 (fun hw W0=>?_)
 refine kgo ?_
 refine eF (fun i:Nat=>i≤ak a) (fun i=>ak a - i) (fun i=>[(3,.sy (.bx 10003 0)),(10003,.tk (.bx (flat r.D))),(4,.sy (.bx 10004 0)),(10004,.tk (.bx (flat a.D))),(9,.sy (.k 10015)),(10015,.tk (.row 1 3 (idxOf (psF a m.nodes) i |>.map .i))),(10,.sy (.k 10016)),(10016,.tk (.row 1 9 [])),(11,.sy (.d (.l 1 ((dQ a m.nodes a.nodes.length).map .b)))),(12,.sy (.d (.i i)))]) 0 (Nat.zero_le _) (fun i hi=>?_)
 have hln:(ak a:Int)=a.edges+a.outer.length:=by unfold ak;omega
 refine kgo ?_
 refine cIf (fun h=>?_) (fun h=>?_)
 ·have h:=of_decide_eq_true h
  have hlt:i<ak a:=by omega
  have f2:=AW a i (dQ a m.nodes a.nodes.length) true (by omega) hll (by omega)
  have hq:(idxOf (psF a m.nodes) i).length≤1000:=Nat.le_trans (dF _ _) (by omega)
  have hsu:=uu (psF a m.nodes) i
  refine kgo ?_
  refine cIf (fun h2=>?_) (fun h2=>?_)
  ·have h3:psF a m.nodes i=true:=by unfold psF;have:=of_decide_eq_true h2;exact decide_eq_true (by omega)
   rw [if_pos h3] at hsu
   have hs:(idxOf (psF a m.nodes) (i+1)).map D.i=(idxOf (psF a m.nodes) i).map D.i++[.i i]:=by rw [hsu,List.map_append];rfl
   refine kgo ?_
   exact ab (i+1) hlt (by omega)
  ·have h3:¬psF a m.nodes i=true:=by unfold psF;have:=of_decide_eq_false h2;rw [decide_eq_true_eq];omega
   rw [if_neg h3] at hsu
   have hs:(idxOf (psF a m.nodes) (i+1)).map D.i=(idxOf (psF a m.nodes) i).map D.i:=by rw [hsu]
   refine kgo ?_
   exact ab (i+1) hlt (by omega)
 ·have h:=of_decide_eq_false h
  have hie:i=ak a:=by omega
  subst hie
  have hq:(idxOf (psF a m.nodes) (ak a)).length≤1000000:=Nat.le_trans (dF _ _) (by omega)
  repeat (first|refine cFz 9 ?_|(refine bZ ?_;first|refine aO ?_|refine b9 ?_|refine bf ?_|refine aX ?_|refine aQ ?_|refine aW ?_|refine aV ?_|refine aA ?_|refine bc ?_)|(refine fb ?_;first|refine bO ?_|refine fg ?_|refine bU ?_|refine cd ?_)|(refine fp ?_;first|refine dv (fun _=>?_)|refine ci ?_|refine cr ?_|refine bE ?_|refine bR ?_|refine bX ?_)|(refine ft ?_;first|refine b8 ?_|refine eG ?_|refine ca ?_|refine bI ?_|refine cb ?_|refine b7 ?_)|(refine fx ?_;first|refine fq ?_|refine eZ ?_|refine cm ?_|refine bQ ?_|refine fu ?_|refine aR ?_|refine bd ?_)|(refine bS ?_;first|refine bh ?_|refine bW ?_)|(refine fc ?_;first|refine cf ?_|refine ck ?_|refine fj ?_)|(refine bY ?_;first|refine cg ?_|refine be ?_|refine aZ ?_|refine bj ?_|refine aP ?_|refine aY ?_)|(refine fm ?_;first|refine co ?_|refine eX ?_|refine aU ?_|refine bg ?_)|(refine aS ?_;first|refine av _ ?_|refine ba ?_|refine aB ?_|refine ax ?_|refine az ?_)|(refine ff ?_;first|refine cq ?_|refine bJ ?_|refine cj ?_)|(refine gOp ?_;first|refine fd ?_|refine fa ?_|refine aT ?_|refine fl ?_|refine fh ?_|refine b6 ?_|refine aN ?_|refine bT ?_|refine fw ?_|refine bK ?_|refine ct ?_|refine bk ?_|refine ay ?_|refine ch ?_|refine sNo ?_|refine eS ?_)|refine eA ?_|refine eR ?_|refine fe ?_|refine bl ?_|refine bM ?_|refine bz ?_|refine fC ?_|refine fB ?_|refine fo ?_|refine eH ?_|refine bV ?_|refine bp ?_|refine au ?_|refine bm ?_|refine cw ?_|refine bA ?_|refine aBlkX ?_|refine cy ?_)
  refine cIf (fun h2=>?_) (fun h2=>?_)
  ·rw [show dE r a m.nodes=([],[],false) from by unfold dE;rw [h2];rfl]
   repeat (first|(refine bZ ?_;first|refine aO ?_|refine b9 ?_|refine bf ?_|refine aX ?_|refine aQ ?_|refine aW ?_|refine aV ?_|refine aA ?_|refine bc ?_)|(refine fb ?_;first|refine bO ?_|refine fg ?_|refine bU ?_|refine cd ?_)|(refine fp ?_;first|refine dv (fun _=>?_)|refine ci ?_|refine cr ?_|refine bE ?_|refine bR ?_|refine bX ?_)|(refine ft ?_;first|refine b8 ?_|refine eG ?_|refine ca ?_|refine bI ?_|refine cb ?_|refine b7 ?_)|(refine fx ?_;first|refine fq ?_|refine eZ ?_|refine cm ?_|refine bQ ?_|refine fu ?_|refine aR ?_|refine bd ?_)|(refine bS ?_;first|refine bh ?_|refine bW ?_)|(refine fc ?_;first|refine fA (d:=6) ?_|refine fA (d:=7) ?_|refine cf ?_|refine ck ?_|refine fj ?_)|(refine bY ?_;first|refine cg ?_|refine be ?_|refine aZ ?_|refine bj ?_|refine aP ?_|refine aY ?_)|(refine fm ?_;first|refine co ?_|refine eX ?_|refine aU ?_|refine bg ?_)|(refine aS ?_;first|refine av _ ?_|refine ba ?_|refine aB ?_|refine ax ?_|refine az ?_)|(refine ff ?_;first|refine cq ?_|refine bJ ?_|refine cj ?_)|(refine gOp ?_;first|refine fd ?_|refine fa ?_|refine aT ?_|refine fl ?_|refine fh ?_|refine b6 ?_|refine aN ?_|refine bT ?_|refine fw ?_|refine bK ?_|refine ct ?_|refine bk ?_|refine sFz 46 ?_|refine sFz 47 ?_|refine ay ?_|refine ch ?_|refine sNo ?_|refine eS ?_)|refine eA ?_|refine eR ?_|refine fe ?_|refine bl ?_|refine bM ?_|refine bz ?_|refine fC ?_|refine fB ?_|refine fo ?_|refine eH ?_|refine bV ?_|refine bp ?_|refine au ?_|refine bm ?_|refine cw ?_|refine bA ?_|refine aBlkX ?_|refine cy ?_|refine sFz 46 ?_|refine sFz 47 ?_)
   exact em
  ·rw [show dE r a m.nodes=(idxOf (psF a m.nodes) (ak a),bD r.outer (idxOf (psF a m.nodes) (ak a)).length,true) from by unfold dE;rw [h2];rfl]
   have h2:=of_decide_eq_false h2
   revert hq h2
   generalize idxOf (psF a m.nodes) (ak a)=ls
   intro hq h2
   refine kgo ?_
   refine eF (fun i:Nat=>i≤16∧(km r.outer i).length≤ls.length) (fun i=>16 - i) (fun i=>[(3,.sy (.bx 10003 0)),(10003,.tk (.bx (flat r.D))),(9,.sy (.d (DI ls))),(10,.sy (.k 10016)),(10016,.tk (.row 1 9 ((km r.outer i).map .s))),(13,.sy (.d (.i i)))]) 0 ⟨by omega,Nat.zero_le _⟩ (fun i hi=>?_)
   obtain ⟨hi1,hi2⟩:=hi
   refine kgo ?_
   refine cIf (fun h3=>?_) (fun h3=>?_)
   ·have h3:=of_decide_eq_true h3
    simp only [List.length_map] at h3
    have hfew:=yp r.outer i (by omega)
    have f2:=w7 i (by omega)
    have f3:=uP r.outer ((⟨#[122]⟩:ByteArray) ++ ⟨#[UInt8.ofNat (97+i)]⟩)
    have hb:(⟨#[122]⟩:ByteArray).size+(⟨#[UInt8.ofNat (97+i)]⟩:ByteArray).size≤1000000:=by show 1+1≤1000000;omega
    have hz:=sr ⟨i,by omega⟩
    simp only at hz
    have hsu:=m9 r.outer i
    refine kgo ?_
    refine cIf (fun h4=>?_) (fun h4=>?_)
    ·have h4:=of_decide_eq_true h4
     have hf:kF r.outer i=true:=by
      rw [hz] at h4
      unfold jg at h4
      unfold kF
      split at h4
      ·omega
      ·simp_all
     rw [if_pos hf] at hsu
     have hs:(km r.outer (i+1)).map D.s=(km r.outer i).map D.s++[.s ((⟨#[122]⟩:ByteArray) ++ ⟨#[UInt8.ofNat (97+i)]⟩)]:=by rw [hsu,List.map_append,hz];rfl
     have hl2:(km r.outer (i+1)).length≤ls.length:=by rw [hsu,List.length_append];show _+1≤_;omega
     refine kgo ?_
     exact ab (i+1) ⟨by omega,hl2⟩ (by omega)
    ·have h4:=of_decide_eq_false h4
     have hf:¬kF r.outer i=true:=by
      rw [hz] at h4
      unfold jg at h4
      unfold kF
      split at h4
      ·simp_all
      ·omega
     rw [if_neg hf] at hsu
     have hs:(km r.outer (i+1)).map D.s=(km r.outer i).map D.s:=by rw [hsu]
     refine kgo ?_
     exact ab (i+1) ⟨by omega,by rw [hsu];exact hi2⟩ (by omega)
   ·have h3:=of_decide_eq_false h3
    simp only [List.length_map] at h3
    rw [show ls.length=(km r.outer i).length by omega,rA r.outer i (by omega)]
    repeat (first|refine cFz 10 ?_|(refine bZ ?_;first|refine aO ?_|refine b9 ?_|refine bf ?_|refine aX ?_|refine aQ ?_|refine aW ?_|refine aV ?_|refine aA ?_|refine bc ?_)|(refine fb ?_;first|refine bO ?_|refine fg ?_|refine bU ?_|refine cd ?_)|(refine fp ?_;first|refine dv (fun _=>?_)|refine ci ?_|refine cr ?_|refine bE ?_|refine bR ?_|refine bX ?_)|(refine ft ?_;first|refine b8 ?_|refine eG ?_|refine ca ?_|refine bI ?_|refine cb ?_|refine b7 ?_)|(refine fx ?_;first|refine fq ?_|refine eZ ?_|refine cm ?_|refine bQ ?_|refine fu ?_|refine aR ?_|refine bd ?_)|(refine bS ?_;first|refine bh ?_|refine bW ?_)|(refine fc ?_;first|refine cf ?_|refine ck ?_|refine fj ?_)|(refine bY ?_;first|refine cg ?_|refine be ?_|refine aZ ?_|refine bj ?_|refine aP ?_|refine aY ?_)|(refine fm ?_;first|refine co ?_|refine eX ?_|refine aU ?_|refine bg ?_)|(refine aS ?_;first|refine av _ ?_|refine ba ?_|refine aB ?_|refine ax ?_|refine az ?_)|(refine ff ?_;first|refine cq ?_|refine bJ ?_|refine cj ?_)|(refine gOp ?_;first|refine fd ?_|refine fa ?_|refine aT ?_|refine fl ?_|refine fh ?_|refine b6 ?_|refine aN ?_|refine bT ?_|refine fw ?_|refine bK ?_|refine ct ?_|refine bk ?_|refine ay ?_|refine ch ?_|refine sNo ?_|refine eS ?_)|refine eA ?_|refine eR ?_|refine fe ?_|refine bl ?_|refine bM ?_|refine bz ?_|refine fC ?_|refine fB ?_|refine fo ?_|refine eH ?_|refine bV ?_|refine bp ?_|refine au ?_|refine bm ?_|refine cw ?_|refine bA ?_|refine aBlkX ?_|refine cy ?_)
    exact em
end Go.Proofs.YtacafmejcdgboaaGreatDoor
namespace Go.Proofs.YtacafmejcdgboaaGreatDoor
open Go.RowKit
set_option linter.unusedVariables false
set_option maxRecDepth 100000
set_option maxHeartbeats 4000000
attribute [local irreducible] aD Der At
theorem oS (f:Nat→Bool) (i m:Nat) (hf:f i=true):∃rest,(List.range (i+1+m)).filter f=(List.range i).filter f++i :: rest∧∀k∈rest,i<k:=by
 induction m with
 | zero=>exact ⟨[],by rw [Nat.add_zero,List.range_succ,List.filter_append];simp [hf],fun k h=>by cases h⟩
 | succ m ih=>
  obtain ⟨rest,h1,h2⟩:=ih
  rw [← Nat.add_assoc,List.range_succ,List.filter_append,h1]
  refine ⟨rest++[i+1+m].filter f,by rw [List.append_assoc];rfl,fun k hk=>?_⟩
  rcases List.mem_append.1 hk with h|h
  ·exact h2 k h
  ·have:=List.mem_singleton.1 (List.mem_filter.1 h).1
   omega
theorem BA {α:Type} (f:Nat→Bool) (g g':Nat→α) (i n:Nat) (hi:i<n) (hf:f i=true) (hg:∀k,k≠i→g' k=g k):((List.range n).filter f).map g'=(((List.range n).filter f).map g).set ((List.range i).filter f).length (g' i):=by
 obtain ⟨rest,h1,h2⟩:=oS f i (n - (i+1)) hf
 rw [show i+1+(n - (i+1))=n by omega] at h1
 rw [h1,List.map_append,List.map_append,List.map_cons,List.map_cons,List.set_append_right _ _ (by rw [List.length_map];exact Nat.le_refl _),List.length_map,Nat.sub_self,List.set_cons_zero]
 congr 1
 ·refine List.map_congr_left fun k hk=>hg k ?_
  have:=List.mem_range.1 (List.mem_filter.1 hk).1
  omega
 ·congr 1
  refine List.map_congr_left fun k hk=>hg k ?_
  have:=h2 k hk
  omega
theorem DP {α:Type} (f:Nat→Bool) (g:Nat→α) (i n:Nat) (hi:i<n) (hf:f i=true):∃h:((List.range i).filter f).length<(((List.range n).filter f).map g).length,(((List.range n).filter f).map g)[((List.range i).filter f).length]=g i:=by
 obtain ⟨rest,h1,h2⟩:=oS f i (n - (i+1)) hf
 rw [show i+1+(n - (i+1))=n by omega] at h1
 have h3:(((List.range n).filter f).map g)[((List.range i).filter f).length]? = some (g i):=by
  rw [h1,List.map_append,List.getElem?_append_right (by rw [List.length_map];exact Nat.le_refl _),List.length_map,Nat.sub_self];rfl
 obtain ⟨h4,h5⟩:=List.getElem?_eq_some_iff.1 h3
 exact ⟨h4,h5⟩
def lu (ps z:List Int) (k:Nat):List Int:=(List.range k).foldl (fun l (i:Nat)=>l.set (atI ps i).toNat (i:Int)) z
theorem pe (ps z:List Int) (k:Nat):lu ps z (k+1)=(lu ps z k).set (atI ps k).toNat k:=by unfold lu;rw [List.range_succ,List.foldl_append];rfl
theorem se (ps z:List Int) (k:Nat):(lu ps z k).length=z.length:=by
 induction k with
 | zero=>simp [lu]
 | succ k ih=>rw [pe,List.length_set,ih]
def jt (r a:Big) (ns:List Int) (row:List Bool) (lk:List Int) (i k:Nat):Nd:=
 ⟨(cI a k).control,if decide (k<i) && eq ns (cI a k).parent then -1 - ky r ns (cI a k).parent else rT row true false (cI a k).parent,ef lk (cI a k).links⟩
def jE (r a:Big) (ns:List Int) (row:List Bool) (lk:List Int) (i:Nat):List Nd:=((List.range a.nodes.length).filter (tkF row true)).map (jt r a ns row lk i)
def sN (row:List Bool) (i:Nat):Nat:=((List.range i).filter (tkF row true)).length
theorem yn (row:List Bool) (i:Nat):sN row (i+1)=if tkF row true i=true then sN row i+1 else sN row i:=by
 unfold sN
 rw [List.range_succ,List.filter_append]
 by_cases h:tkF row true i=true <;> simp [h]
theorem ws (r a:Big) (ns:List Int) (row:List Bool) (lk:List Int):jE r a ns row lk 0=gu a row true false lk a.nodes.length:=by
 unfold jE gu
 refine List.map_congr_left fun k _=>?_
 unfold jt EV
 simp
theorem rN (r a:Big) (ns:List Int) (row:List Bool) (lk:List Int) (i k:Nat) (h:k≠i):jt r a ns row lk (i+1) k=jt r a ns row lk i k:=by
 unfold jt
 rw [show decide (k<i+1)=decide (k<i) from decide_eq_decide.2 (by omega)]
theorem uK (r a:Big) (ns:List Int) (row:List Bool) (lk:List Int) (i:Nat) (h:tkF row true i=false∨eq ns (cI a i).parent=false):jE r a ns row lk (i+1)=jE r a ns row lk i:=by
 unfold jE
 refine List.map_congr_left fun k hk=>?_
 by_cases e:k=i
 ·subst e
  rcases h with h|h
  ·rw [(List.mem_filter.1 hk).2] at h;cases h
  ·unfold jt;rw [h];simp
 ·exact rN r a ns row lk i k e
theorem xT (r a:Big) (ns:List Int) (row:List Bool) (lk:List Int) (i:Nat) (hi:i<a.nodes.length) (h1:tkF row true i=true) (h2:eq ns (cI a i).parent=true):∃h:sN row i<(jE r a ns row lk i).length,jE r a ns row lk (i+1)=(jE r a ns row lk i).set (sN row i) ⟨(jE r a ns row lk i)[sN row i].control,-1 - ky r ns (cI a i).parent,(jE r a ns row lk i)[sN row i].links⟩:=by
 obtain ⟨h,e⟩:=DP (tkF row true) (jt r a ns row lk i) i a.nodes.length hi h1
 refine ⟨h,?_⟩
 have e2:=BA (tkF row true) (jt r a ns row lk i) (jt r a ns row lk (i+1)) i a.nodes.length hi h1 (fun k hk=>rN r a ns row lk i k hk)
 refine e2.trans ?_
 unfold jE sN
 rw [e]
 congr 1
 unfold jt
 rw [h2];simp
theorem qX (r:Big) (ns:List Int) (p:Int) (h:0<(bq r (cX ns p)).length):0≤ky r ns p∧ky r ns p<r.sites.length:=by
 have h1:ky r ns p∈bq r (cX ns p):=ud (by decide) (by omega)
 obtain ⟨i,h2,_,h3⟩:=bt.1 h1
 omega
def Fv (r a:Big) (m:Mat) (ps:List Int) (names:List ByteArray):Big:=
 ⟨r.sites.length,jE r a m.nodes (dQ a m.nodes a.nodes.length) (lu ps (List.replicate (ak a) 0) ps.length) a.nodes.length,[],0,names,[]⟩
theorem AS {sig:List Ctl} {r a:Big} (m:Mat) (hbr:aw sig r=true) (hba:aw sig a=true) (hsite:∀i:Nat,i<a.nodes.length→mi a m.nodes i=true→eq m.nodes (cI a i).parent=true→0<(bq r (cX m.nodes (cI a i).parent)).length) (ps:List Int) (names:List ByteArray) (hps:∀l∈ps,0≤l∧l<(ak a:Int)) (hnm:names.length=ps.length) (hpl:ps.length≤500):FnD Tryz.prog 143 [r.D,a.D,m.D,DI ps,DS names] (.d (Fv r a m ps names).D):=by
 have f1:=lg hba m
 have ha:=aC hba
 have hr:=aC hbr
 have hla:a.edges+(a.outer.length:Int)=(ak a:Nat):=by unfold ak;omega
 have hlb:ak a≤1000:=by unfold ak;omega
 have hup:=fun i h=>(gN hba i h).2
 have hnode:=dc hba
 have hnl:∀n∈a.nodes,n.links.length≤1000∧∀l∈n.links,0≤l∧l<(ak a:Int):=fun n hn=>by
  obtain ⟨k,hk,rfl⟩:=List.mem_iff_getElem.1 hn
  obtain ⟨_,_,_,c3,c4⟩:=hnode k hk
  refine ⟨by have:=(bw hba).7 k hk;omega,fun l hl=>?_⟩
  obtain ⟨j,rfl,hj⟩:=gv (c4 l hl)
  omega
 have hz:List.replicate (ak a) (D.i 0)=(lu ps (List.replicate (ak a) 0) 0).map D.i:=by rw [show lu ps (List.replicate (ak a) 0) 0=List.replicate (ak a) 0 from by simp [lu],List.map_replicate]
 have hrrl:(dQ a m.nodes a.nodes.length).length=a.nodes.length:=by unfold dQ;simp
 have hrr:∀k,k<a.nodes.length→tkF (dQ a m.nodes a.nodes.length) true k=mi a m.nodes k:=fun k hk=>by
  rw [rz _ _ _ (by omega)]
  simp [dQ]
 unfold Fv
 revert f1 hrr hrrl
 generalize dQ a m.nodes a.nodes.length=row
 intro f1 hrrl hrr
 refine ah Tryz.func143 (fun hw W0=>?_)
 refine kgo ?_
 refine bK (n:=ak a) (r:=.i 0) ?_ rfl rfl (congrArg some hla) (congrArg some hla) (hb:=by show 8 * ak a≤1000000000;omega)
 refine kgo ?_
 refine aj [3,4,5,6,7,10,11,12] (fun i:Nat=>i≤ps.length) (fun i=>ps.length - i) (fun i=>[(10027,.tk (.row 1 3 ((lu ps (List.replicate (ak a) 0) i).map .i))),(13,.sy (.d (.i i)))]) 0 (Nat.zero_le _) (fun i hi=>?_)
 refine kgo ?_
 refine bo (fun h=>?_) (fun h=>?_)
 ·have hlt:i<ps.length:=by omega
  have hp:=hps _ (List.getElem_mem hlt)
  obtain ⟨j,hj⟩:=Int.eq_ofNat_of_zero_le hp.1
  have hpt:=se ps (List.replicate (ak a) 0) i
  rw [List.length_replicate] at hpt
  have hjl:j<(lu ps (List.replicate (ak a) 0) i).length:=by omega
  have hs:=pe ps (List.replicate (ak a) 0) i
  rw [br ps i hlt,hj,Int.toNat_natCast] at hs
  refine kgo ?_
  refine bE (n:=j) ?_ rfl rfl rfl (congrArg some hj)
  refine kgo ?_
  rw [← hs]
  exact ab (i+1) hlt (by omega)
 rw [show i=ps.length by omega]
 have hpt:=se ps (List.replicate (ak a) 0) ps.length
 rw [List.length_replicate] at hpt
 revert hpt
 generalize lu ps (List.replicate (ak a) 0) ps.length=lk
 intro hpt
 have f5:=uY a row true false lk (by omega) (by omega) hup (fun n hn=>(hnl n hn).1) (fun n hn l hl=>by rw [hpt];exact (hnl n hn).2 l hl)
 rw [← ws r a m.nodes row lk] at f5
 repeat (first|refine cFz 12 ?_|(refine bZ ?_;first|refine aO ?_|refine b9 ?_|refine bf ?_|refine aX ?_|refine aQ ?_|refine aW ?_|refine aV ?_|refine aA ?_|refine bc ?_)|(refine fb ?_;first|refine bO ?_|refine fg ?_|refine bU ?_|refine cd ?_)|(refine fp ?_;first|refine dv (fun _=>?_)|refine ci ?_|refine cr ?_|refine bE ?_|refine bR ?_|refine bX ?_)|(refine ft ?_;first|refine b8 ?_|refine eG ?_|refine ca ?_|refine bI ?_|refine cb ?_|refine b7 ?_)|(refine fx ?_;first|refine fq ?_|refine eZ ?_|refine cm ?_|refine bQ ?_|refine fu ?_|refine aR ?_|refine bd ?_)|(refine bS ?_;first|refine bh ?_|refine bW ?_)|(refine fc ?_;first|refine cf ?_|refine ck ?_|refine fj ?_)|(refine bY ?_;first|refine cg ?_|refine be ?_|refine aZ ?_|refine bj ?_|refine aP ?_|refine aY ?_)|(refine fm ?_;first|refine co ?_|refine eX ?_|refine aU ?_|refine bg ?_)|(refine aS ?_;first|refine av _ ?_|refine ba ?_|refine aB ?_|refine ax ?_|refine az ?_)|(refine ff ?_;first|refine cq ?_|refine bJ ?_|refine cj ?_)|(refine gOp ?_;first|refine fd ?_|refine fa ?_|refine aT ?_|refine fl ?_|refine fh ?_|refine b6 ?_|refine aN ?_|refine bT ?_|refine fw ?_|refine bK ?_|refine ct ?_|refine bk ?_|refine ay ?_|refine ch ?_|refine sNo ?_|refine eS ?_)|refine eA ?_|refine eR ?_|refine fe ?_|refine bl ?_|refine bM ?_|refine bz ?_|refine fC ?_|refine fB ?_|refine fo ?_|refine eH ?_|refine bV ?_|refine bp ?_|refine au ?_|refine bm ?_|refine cw ?_|refine bA ?_|refine aBlkX ?_|refine cy ?_)
 refine aj [5,6,7,10,11,14] (fun i:Nat=>i≤a.nodes.length) (fun i=>a.nodes.length - i) (fun i=>[(10051,.tk (.row 3 151 ((jE r a m.nodes row lk i).map Nd.D))),(15,.sy (.d (.i (sN row i)))),(16,.sy (.d (.i i)))]) 0 (Nat.zero_le _) (fun i hi=>?_)
 refine kgo ?_
 refine bo (fun h=>?_) (fun h=>?_)
 ·have hlt:i<a.nodes.length:=by omega
  have hltr:i<row.length:=by omega
  have hk:tkF row true i=row[i]:=by rw [rz row true i hltr];simp
  have hcs:=yn row i
  have hcl:sN row i≤i:=by unfold sN;exact Nat.le_trans (List.length_filter_le _ _) (by simp)
  refine kgo ?_
  refine cIf (fun h2=>?_) (fun h2=>?_)
  ·rw [Bool.not_eq_true'] at h2
   rw [h2] at hk
   rw [if_neg (by rw [hk];exact Bool.false_ne_true)] at hcs
   have hs:=uK r a m.nodes row lk i (.inl hk)
   refine kgo ?_
   rw [← hs,← hcs]
   exact ab (i+1) hlt (by omega)
  ·rw [Bool.not_eq_false'] at h2
   rw [h2] at hk
   rw [if_pos hk] at hcs
   have hcd:D.i (sN row (i+1):Nat)=D.i ((sN row i:Nat)+1):=by rw [hcs];rfl
   have hnd:cI a i=a.nodes[i]:=al a i hlt
   have f6:=js m.nodes (a.nodes[i]).parent
   refine kgo ?_
   refine cIf (fun h3=>?_) (fun h3=>?_)
   ·rw [← hnd] at h3
    obtain ⟨hcl2,hs⟩:=xT r a m.nodes row lk i hlt hk h3
    have hh:=hsite i hlt (by rw [← hrr i hlt];exact hk) h3
    have f7:=Be r m (cI a i).parent (by omega) h3 hh
    rw [hnd] at f7 hs
    have hsr:=qX r m.nodes _ hh
    rw [hnd] at hsr
    refine kgo ?_
    refine av (f:=Nd.D) (l:=jE r a m.nodes row lk i) ⟨(jE r a m.nodes row lk i)[sN row i].control,-1 - ky r m.nodes (a.nodes[i]).parent,(jE r a m.nodes row lk i)[sN row i].links⟩ ?_
    refine kgo ?_
    rw [← hs]
    exact ab (i+1) hlt (by omega)
   ·rw [← hnd] at h3
    have hs:=uK r a m.nodes row lk i (.inr h3)
    refine kgo ?_
    rw [← hs]
    exact ab (i+1) hlt (by omega)
 rw [show i=a.nodes.length by omega]
 refine bz (au (au (bA (bp ?_))))
 refine mY 10014 1 ?_
 refine mY 10014 4 ?_
 refine kgo ?_
 exact ar
end Go.Proofs.YtacafmejcdgboaaGreatDoor
