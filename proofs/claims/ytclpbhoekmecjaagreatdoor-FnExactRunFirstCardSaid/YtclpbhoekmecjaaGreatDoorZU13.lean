/-
  Proved facts that the law leans on.
-/
import Derived.Test.YtclpbhoekmecjaaGreatDoorZU6
import Derived.Test.YtclpbhoekmecjaaGreatDoorZU10
import Derived.Test.YtclpbhoekmecjaaGreatDoorZU12
import Derived.Test.YtclpbhoekmecjaaGreatDoorCards
import Derived.Test.YtclpbhoekmecjaaGreatDoorTie
import Derived.Test.YtclpbhoekmecjaaGreatDoorRows
import Derived.Deep.DeepMust
import Derived.ProofKit
import Derived.ShutString
import Derived.Lib.SmallJoins
import Derived.Deep.DeepHandedRow
import Derived.Lib.LaidTab
import Derived.Lay
import Derived.LaidSub
import Derived.MakeChecks
namespace Go.Proofs.YtclpbhoekmecjaaGreatDoor
open Go.RowKit
set_option linter.unusedVariables false
set_option maxRecDepth 100000
set_option maxHeartbeats 4000000
attribute [local irreducible] aq Der At
theorem sZ {l:List Int} (h:l.Pairwise (· < ·)) {i j:Nat} (hi:i<l.length) (hj:j<l.length) (hij:i<j):l[i]<l[j]:=(List.pairwise_iff_getElem.1 h) i j hi hj hij
theorem ux {l:List Int} (h:l.Pairwise (· < ·)) (e:Nat) (he:e<l.length):dv l l[e]=e:=by
 have hm:l[e]∈l:=List.getElem_mem he
 unfold dv
 rw [if_pos (cT.2 hm)]
 have hd:l.idxOf l[e]<l.length:=List.idxOf_lt_length_of_mem hm
 have hv:l[l.idxOf l[e]]=l[e]:=List.getElem_idxOf hd
 rcases Nat.lt_trichotomy (l.idxOf l[e]) e with h1|h1|h1
 ·have:=sZ h hd he h1;omega
 ·rw [h1]
 ·have:=sZ h he hd h1;omega
def mr (ps z:List Int) (base k:Nat):List Int:=(List.range k).foldl (fun l (i:Nat)=>l.set (atI ps i).toNat ((base:Int)+i)) z
theorem nw (ps z:List Int) (base k:Nat):mr ps z base (k+1)=(mr ps z base k).set (atI ps k).toNat ((base:Int)+k):=by unfold mr;rw [List.range_succ,List.foldl_append];rfl
theorem od (ps z:List Int) (base k:Nat):(mr ps z base k).length=z.length:=by
 induction k with
 | zero=>simp [mr]
 | succ k ih=>rw [nw,List.length_set,ih]
theorem w6 {ps z:List Int} (base:Nat) (hi:ps.Pairwise (· < ·)) (h0:∀x∈ps,0≤x∧x<(z.length:Int)):∀k,k≤ps.length→∀e (he:e<ps.length),e<k→atI (mr ps z base k) ps[e]=base+e:=by
 intro k
 induction k with
 | zero=>intro _ e _ h;exact absurd h (Nat.not_lt_zero _)
 | succ k ih=>
  intro hk e he hek
  have hkl:k<ps.length:=by omega
  have b1:=h0 _ (List.getElem_mem he)
  have b2:=h0 _ (List.getElem_mem hkl)
  have hl:=od ps z base k
  rw [nw,b8 ps k hkl]
  unfold atI
  by_cases e1:e=k
  ·subst e1
   rw [List.getD_eq_getElem?_getD,List.getElem?_set_self (by omega)];rfl
  ·have hlt:=sZ hi he hkl (by omega)
   rw [List.getD_eq_getElem?_getD,List.getElem?_set_ne (by omega),← List.getD_eq_getElem?_getD]
   exact ih (by omega) e he (by omega)
theorem DD {f:Nat→Bool} {n:Nat} {k q j:Nat} (hk:k<(idxOf f n).length) (hq:(idxOf f n)[k]=(q:Int)) (hj:j<q) (hf:f j=true):∃e,e<k∧∃he:e<(idxOf f n).length,(idxOf f n)[e]=(j:Int):=by
 obtain ⟨i,hi,_,hqi⟩:=bz.1 (List.getElem_mem hk)
 have hm:(j:Int)∈idxOf f n:=bz.2 ⟨j,by omega,hf,rfl⟩
 obtain ⟨e,he,h1⟩:=List.mem_iff_getElem.1 hm
 refine ⟨e,?_,he,h1⟩
 rcases Nat.lt_trichotomy e k with h|h|h
 ·exact h
 ·subst h;omega
 ·have:=sZ (ir f n) hk he h;omega
def ef (p:Big) (list:List Int) (i base:Nat) (q:Int):Nd:=⟨(ew p q).control,if (ew p q).parent<0 then -1 - (i:Int) else (base:Int)+dv list (ew p q).parent,(ew p q).links⟩
def dM (p:Big) (cs:List Int):Nat→List Nd
 | 0=>[]
 | i+1=>dM p cs i++(pJ p (-1 - atI cs i)).map (ef p (pJ p (-1 - atI cs i)) i (dM p cs i).length)
def mo (cs:List Int) (p:Big):Big:=⟨cs.length,dM p cs cs.length,[],0,p.outer,[]⟩
theorem sm (p:Big) (cs:List Int) (i:Nat):(dM p cs i).length≤i * p.nodes.length:=by
 induction i with
 | zero=>simp [dM]
 | succ i ih=>
  have:=d9 (i7 p (-1 - atI cs i)) p.nodes.length
  unfold dM pJ
  rw [List.length_append,List.length_map,Nat.succ_mul]
  omega
theorem tS {sig:List Ctl} (r:Rul) {p:Big} (hp:aF sig p=true) (hc:r.copies.length≤100):FnD Tryz.prog 138 [r.D,p.D] (.d (mo r.copies p).D):=by
 have hd:=aL hp
 have hdm:=bB hp
 refine ah Tryz.func138 (fun hw W0=>?_)
 have hwc:=(wfM hw.1.2.2.1).2
 repeat (first|(refine cI ?_;first|refine aU ?_|refine cb ?_|refine bp ?_|refine bk ?_|refine aS ?_|refine be ?_|refine bc ?_|refine aB ?_|refine bm ?_|refine bo ?_)|(refine fQ ?_;first|refine b6 ?_|refine fH ?_|refine cm ?_|refine cE ?_)|(refine fB ?_;first|refine ex (fun _=>?_)|refine cr ?_|refine ci ?_|refine bL ?_|refine ch ?_|refine cd ?_|refine ca ?_)|(refine fJ ?_;first|refine cF ?_|refine fb ?_|refine cu ?_|refine bS ?_|refine ck ?_|refine cz ?_|refine ct ?_)|(refine fE ?_;first|refine fM ?_|refine fq ?_|refine cj ?_|refine bY ?_|refine fF ?_|refine bg ?_|refine bf ?_)|(refine co ?_;first|refine br ?_|refine cH ?_)|(refine fK ?_;first|refine cB ?_|refine cy ?_|refine fL ?_)|(refine b9 ?_;first|refine cG ?_|refine aY ?_|refine aR ?_|refine aZ ?_|refine aW ?_|refine bj ?_)|(refine fC ?_;first|refine cf ?_|refine fA ?_|refine bh ?_|refine aT ?_|refine bq ?_)|(refine aN ?_;first|refine aw _ ?_|refine ba ?_|refine aC ?_|refine az ?_|refine aD ?_)|(refine fG ?_;first|refine cC ?_|refine bR ?_|refine cA ?_)|(refine gOp ?_;first|refine fI ?_|refine fP ?_|refine bl ?_|refine fO ?_|refine fN ?_|refine cD ?_|refine aV ?_|refine cw ?_|refine fR ?_|refine bV ?_|refine cq ?_|refine aX ?_|refine sFz 19 ?_|refine aA ?_|refine cg ?_|refine sNo ?_|refine fa ?_|refine ay ?_)|refine e9 ?_|refine dD ?_|refine fU ?_|refine bu ?_|refine bU ?_|refine bE ?_|refine fX ?_|refine fy ?_|refine fp ?_|refine dP ?_|refine cL ?_|refine aM ?_|refine ax ?_|refine bt ?_|refine cK ?_|refine bF ?_|refine cM ?_|refine cN ?_|refine sFz 19 ?_)
 refine aj [2,3,4,5] (fun i:Nat=>i≤r.copies.length) (fun i=>r.copies.length - i) (fun i=>[(10005,.tk (.bx [.d (.i r.copies.length),.k 20001,.d (.n 1),.d (.i 0),.d (DS p.outer),.d (.n 2)])),(20001,.tk (.row 3 131 ((dM p r.copies i).map Nd.D))),(6,.sy (.d (.i i)))]) 0 (Nat.zero_le _) (fun i hi=>?_)
 refine kgo ?_
 refine aO (fun h=>?_) (fun h=>?_)
 ·have hlt:i<r.copies.length:=by omega
  have f1:=BI hp (-1 - r.copies[i])
  have hil:=sm p r.copies i
  have hb1:i * p.nodes.length≤100 * 8:=Nat.mul_le_mul (by omega) hd.2.1
  have hil2:(dM p r.copies i).length≤800:=by omega
  have hz:List.replicate p.nodes.length (D.i 0)=(mr (pJ p (-1 - r.copies[i])) (List.replicate p.nodes.length 0) (dM p r.copies i).length 0).map D.i:=by rw [show mr (pJ p (-1 - r.copies[i])) (List.replicate p.nodes.length 0) (dM p r.copies i).length 0=List.replicate p.nodes.length 0 from by simp [mr],List.map_replicate]
  have hnext:dM p r.copies (i+1)=dM p r.copies i++(pJ p (-1 - r.copies[i])).map (ef p (pJ p (-1 - r.copies[i])) i (dM p r.copies i).length):=by rw [← b8 r.copies i hlt];rfl
  have hcb:I64 (-1 - r.copies[i]):=by have:=hwc _ (List.getElem_mem hlt);unfold Wf I64 at this;unfold I64;omega
  repeat (first|(refine cI ?_;first|refine aU ?_|refine cb ?_|refine bp ?_|refine bk ?_|refine aS ?_|refine be ?_|refine bc ?_|refine aB ?_|refine bm ?_|refine bo ?_)|(refine fQ ?_;first|refine b6 ?_|refine fH ?_|refine cm ?_|refine cE ?_)|(refine fB ?_;first|refine ex (fun _=>?_)|refine cr ?_|refine ci ?_|refine bL ?_|refine ch ?_|refine cd ?_|refine ca ?_)|(refine fJ ?_;first|refine cF ?_|refine fb ?_|refine cu ?_|refine bS ?_|refine ck ?_|refine cz ?_|refine ct ?_)|(refine fE ?_;first|refine fM ?_|refine fq ?_|refine cj ?_|refine bY ?_|refine fF ?_|refine bg ?_|refine bf ?_)|(refine co ?_;first|refine br ?_|refine cH ?_)|(refine fK ?_;first|refine gq (d:=7) ?_|refine cB ?_|refine cy ?_|refine fL ?_)|(refine b9 ?_;first|refine cG ?_|refine aY ?_|refine aR ?_|refine aZ ?_|refine aW ?_|refine bj ?_)|(refine fC ?_;first|refine cf ?_|refine fA ?_|refine bh ?_|refine aT ?_|refine bq ?_)|(refine aN ?_;first|refine aw _ ?_|refine ba ?_|refine aC ?_|refine az ?_|refine aD ?_)|(refine fG ?_;first|refine cC ?_|refine bR ?_|refine cA ?_)|(refine gOp ?_;first|refine fI ?_|refine fP ?_|refine bl ?_|refine fO ?_|refine fN ?_|refine cD ?_|refine aV ?_|refine cw ?_|refine fR ?_|refine bV ?_|refine cq ?_|refine aX ?_|refine aA ?_|refine cg ?_|refine sNo ?_|refine fa ?_|refine ay ?_)|refine e9 ?_|refine dD ?_|refine fU ?_|refine bu ?_|refine bU ?_|refine bE ?_|refine fX ?_|refine fy ?_|refine fp ?_|refine dP ?_|refine cL ?_|refine aM ?_|refine ax ?_|refine bt ?_|refine cK ?_|refine bF ?_|refine cM ?_|refine cN ?_)
  refine bV (n:=p.nodes.length) (r:=.i 0) ?_ rfl rfl (hb:=by show 8 * p.nodes.length≤1000000000;omega)
  have hul:(pJ p (-1 - r.copies[i])).length≤p.nodes.length:=d9 _ _
  have hmem:∀x∈pJ p (-1 - r.copies[i]),∃q:Nat,q<p.nodes.length∧i7 p (-1 - r.copies[i]) q=true∧x=q:=fun x hx=>bz.1 hx
  have hinc:(pJ p (-1 - r.copies[i])).Pairwise (· < ·):=ir _ _
  have hup:∀(k q j:Nat) (hk:k<(pJ p (-1 - r.copies[i])).length),(pJ p (-1 - r.copies[i]))[k]=(q:Int)→j<q→i7 p (-1 - r.copies[i]) j=true→∃e,e<k∧∃he:e<(pJ p (-1 - r.copies[i])).length,(pJ p (-1 - r.copies[i]))[e]=(j:Int):=fun k q j hk hq hj hf=>DD hk hq hj hf
  generalize hba:(dM p r.copies i).length=base at *
  generalize pJ p (-1 - r.copies[i])=lst at *
  have h00:(dM p r.copies i).map Nd.D=(dM p r.copies i++(lst.take 0).map (ef p lst i base)).map Nd.D:=by simp
  refine kgo ?_
  refine aj [2,3,4,5,6,7,8] (fun k:Nat=>k≤lst.length) (fun k=>lst.length - k) (fun k=>[(10005,.tk (.bx [.d (.i r.copies.length),.k 20001,.d (.n 1),.d (.i 0),.d (DS p.outer),.d (.n 2)])),(20001,.tk (.row 3 131 ((dM p r.copies i++(lst.take k).map (ef p lst i base)).map Nd.D))),(10039,.tk (.row 1 3 ((mr lst (List.replicate p.nodes.length 0) base k).map .i))),(9,.sy (.d (.i k)))]) 0 (Nat.zero_le _) (fun k hk=>?_)
  refine kgo ?_
  refine aO (fun h2=>?_) (fun h2=>?_)
  ·have hkl:k<lst.length:=by omega
   obtain ⟨q,hq1,hq2,hq⟩:=hmem _ (List.getElem_mem hkl)
   have hpl:=od lst (List.replicate p.nodes.length 0) base k
   rw [List.length_replicate] at hpl
   have hs:=nw lst (List.replicate p.nodes.length 0) base k
   rw [b8 lst k hkl,hq,Int.toNat_natCast] at hs
   have hlen:((((dM p r.copies i++(lst.take k).map (ef p lst i base)).map Nd.D).length:Nat):Int)=(base:Int)+k:=by rw [List.length_map,List.length_append,List.length_map,List.length_take,hba];omega
   refine kgo ?_
   refine bL (n:=q) ?_ rfl rfl rfl (congrArg some hq)
   refine kgo ?_
   rw [hlen,← hs]
   refine ex (n:=q) (fun _=>?_) rfl rfl (congrArg some hq)
   have hnd:ew p q=p.nodes[q]:=av p q hq1
   have hll:=hdm.7 q hq1
   have hut:=iG hp q hq1
   have f2:=vH (p.nodes[q]).links hll
   have hlen2:(dM p r.copies i++(lst.take k).map (ef p lst i base)).length≤1000:=by rw [List.length_append,List.length_map,List.length_take,hba];omega
   have hs2:∀V:Int,V=(ef p lst i base q).parent→((dM p r.copies i++(lst.take (k+1)).map (ef p lst i base))).map Nd.D=((dM p r.copies i++(lst.take k).map (ef p lst i base))).map Nd.D++[Nd.D ⟨(p.nodes[q]).control,V,(p.nodes[q]).links⟩]:=fun V hV=>by
    simp only [List.take_succ_eq_append_getElem hkl,List.map_append,List.append_assoc,List.map_cons,List.map_nil,hq]
    rw [hV,← hnd];rfl
   have hpl2:=od lst (List.replicate p.nodes.length 0) base (k+1)
   rw [List.length_replicate] at hpl2
   refine kgo ?_
   refine aO (fun h3=>?_) (fun h3=>?_)
   ·obtain ⟨j,hj⟩:=Int.eq_ofNat_of_zero_le h3
    have hjq:j<q:=by omega
    have huj:i7 p (-1 - r.copies[i]) j=true:=by
     rw [pB p _ q hq1,hj,pr hp j (by omega)] at hq2
     rw [pB p _ j (by omega)];exact hq2
    obtain ⟨e,he1,he2,he3⟩:=hup k q j hkl hq hjq huj
    have hv:=w6 (z:=List.replicate p.nodes.length 0) base hinc (fun x hx=>by obtain ⟨y,h1,_,h2⟩:=hmem x hx;rw [List.length_replicate];omega) (k+1) hkl e he2 (by omega)
    have hix:=ux hinc e he2
    have hjl:j<(mr lst (List.replicate p.nodes.length 0) base (k+1)).length:=by omega
    rw [he3,b8 _ j hjl] at hv
    rw [he3] at hix
    have hs3:=hs2 ((mr lst (List.replicate p.nodes.length 0) base (k+1))[j]) (by rw [hv];show _=(if (ew p q).parent<0 then _ else _);rw [hnd,hj,if_neg (by omega),hix])
    refine kgo ?_
    refine bL (n:=j) ?_ rfl rfl rfl (congrArg some hj)
    repeat (first|(refine cI ?_;first|refine aU ?_|refine cb ?_|refine bp ?_|refine bk ?_|refine aS ?_|refine be ?_|refine bc ?_|refine aB ?_|refine bm ?_|refine bo ?_)|(refine fQ ?_;first|refine b6 ?_|refine fH ?_|refine cm ?_|refine cE ?_)|(refine fB ?_;first|refine ex (fun _=>?_)|refine cr ?_|refine ci ?_|refine bL ?_|refine ch ?_|refine cd ?_|refine ca ?_)|(refine fJ ?_;first|refine cF ?_|refine fb ?_|refine cu ?_|refine bS ?_|refine ck ?_|refine cz ?_|refine ct ?_)|(refine fE ?_;first|refine fM ?_|refine fq ?_|refine cj ?_|refine bY ?_|refine fF ?_|refine bg ?_|refine bf ?_)|(refine co ?_;first|refine br ?_|refine cH ?_)|(refine fK ?_;first|refine cB ?_|refine cy ?_|refine fL ?_)|(refine b9 ?_;first|refine cG ?_|refine aY ?_|refine aR ?_|refine aZ ?_|refine aW ?_|refine bj ?_)|(refine fC ?_;first|refine cf ?_|refine fA ?_|refine bh ?_|refine aT ?_|refine bq ?_)|(refine aN ?_;first|refine aw _ ?_|refine ba ?_|refine aC ?_|refine az ?_|refine aD ?_)|(refine fG ?_;first|refine cC ?_|refine bR ?_|refine cA ?_)|(refine gOp ?_;first|refine fI ?_|refine fP ?_|refine bl ?_|refine fO ?_|refine fN ?_|refine cD ?_|refine aV ?_|refine cw ?_|refine fR ?_|refine bV ?_|refine cq ?_|refine aX ?_|refine sFz 80 ?_|refine aA ?_|refine cg ?_|refine sNo ?_|refine fa ?_|refine ay ?_)|refine e9 ?_|refine dD ?_|refine fU ?_|refine bu ?_|refine bU ?_|refine bE ?_|refine fX ?_|refine fy ?_|refine fp ?_|refine dP ?_|refine cL ?_|refine aM ?_|refine ax ?_|refine bt ?_|refine cK ?_|refine bF ?_|refine cM ?_|refine cN ?_|refine sFz 80 ?_)
    exact af (k+1) hkl (by omega)
   ·have hs3:=hs2 (-1 - (i:Int)) (by show _=(if (ew p q).parent<0 then _ else _);rw [hnd,if_pos (by omega)])
    repeat (first|(refine cI ?_;first|refine aU ?_|refine cb ?_|refine bp ?_|refine bk ?_|refine aS ?_|refine be ?_|refine bc ?_|refine aB ?_|refine bm ?_|refine bo ?_)|(refine fQ ?_;first|refine b6 ?_|refine fH ?_|refine cm ?_|refine cE ?_)|(refine fB ?_;first|refine ex (fun _=>?_)|refine cr ?_|refine ci ?_|refine bL ?_|refine ch ?_|refine cd ?_|refine ca ?_)|(refine fJ ?_;first|refine cF ?_|refine fb ?_|refine cu ?_|refine bS ?_|refine ck ?_|refine cz ?_|refine ct ?_)|(refine fE ?_;first|refine fM ?_|refine fq ?_|refine cj ?_|refine bY ?_|refine fF ?_|refine bg ?_|refine bf ?_)|(refine co ?_;first|refine br ?_|refine cH ?_)|(refine fK ?_;first|refine cB ?_|refine cy ?_|refine fL ?_)|(refine b9 ?_;first|refine cG ?_|refine aY ?_|refine aR ?_|refine aZ ?_|refine aW ?_|refine bj ?_)|(refine fC ?_;first|refine cf ?_|refine fA ?_|refine bh ?_|refine aT ?_|refine bq ?_)|(refine aN ?_;first|refine aw _ ?_|refine ba ?_|refine aC ?_|refine az ?_|refine aD ?_)|(refine fG ?_;first|refine cC ?_|refine bR ?_|refine cA ?_)|(refine gOp ?_;first|refine fI ?_|refine fP ?_|refine bl ?_|refine fO ?_|refine fN ?_|refine cD ?_|refine aV ?_|refine cw ?_|refine fR ?_|refine bV ?_|refine cq ?_|refine aX ?_|refine sFz 80 ?_|refine aA ?_|refine cg ?_|refine sNo ?_|refine fa ?_|refine ay ?_)|refine e9 ?_|refine dD ?_|refine fU ?_|refine bu ?_|refine bU ?_|refine bE ?_|refine fX ?_|refine fy ?_|refine fp ?_|refine dP ?_|refine cL ?_|refine aM ?_|refine ax ?_|refine bt ?_|refine cK ?_|refine bF ?_|refine cM ?_|refine cN ?_|refine sFz 80 ?_)
    exact af (k+1) hkl (by omega)
  have hs4:(dM p r.copies i++(lst.take k).map (ef p lst i base)).map Nd.D=(dM p r.copies (i+1)).map Nd.D:=by rw [hnext,List.take_of_length_le (by omega)]
  refine kgo ?_
  exact af (i+1) hlt (by omega)
 rw [show i=r.copies.length by omega]
 refine bE (ax (ax (bF (aM ?_))))
 refine mi 10005 1 ?_
 refine kgo ?_
 exact ar
end Go.Proofs.YtclpbhoekmecjaaGreatDoor
namespace Go.Proofs.YtclpbhoekmecjaaGreatDoor
open Go.RowKit
set_option linter.unusedVariables false
set_option maxRecDepth 100000
set_option maxHeartbeats 4000000
attribute [local irreducible] aq Der At
def sV (r a:Big) (ns:List Int) (i:Nat):Bool:=
 if (!decide ((ew a i).control=(ew r ns.length).control) || fT ns i) then false else decide ((ew r ns.length).parent<0) || decide ((ew a i).parent=atI ns (ew r ns.length).parent)
theorem Fi {sig:List Ctl} {r a:Big} (hR:aF sig r=true) (ns:List Int) (i:Nat) (hi:i<a.nodes.length) (hn:ns.length<r.nodes.length):FnD Tryz.prog 228 [r.D,a.D,DI ns,.i i] (.d (.b (sV r a ns i))):=by
 have f1:=lG ns i
 have hu:=iG hR ns.length hn
 have hd:sV r a ns i=if (!decide ((a.nodes[i]).control=(r.nodes[ns.length]).control) || fT ns i) then false else decide ((r.nodes[ns.length]).parent<0) || decide ((a.nodes[i]).parent=atI ns (r.nodes[ns.length]).parent):=by unfold sV;rw [av a i hi,av r ns.length hn]
 rw [hd]
 clear hd
 refine ah Tryz.func228 (fun hw W0=>?_)
 refine kgo ?_
 cases hc:decide ((a.nodes[i]).control=(r.nodes[ns.length]).control)
 ·refine kgo ?_
  exact ar
 ·refine kgo ?_
  refine cIf (fun h=>?_) (fun h=>?_)
  ·rw [h]
   refine kgo ?_
   exact ar
  ·rw [h]
   refine kgo ?_
   cases hp:decide ((r.nodes[ns.length]).parent<0)
   ·have hp':=of_decide_eq_false hp
    refine kgo ?_
    exact ar
   ·refine kgo ?_
    exact ar
theorem rE (b:Big) (p:Int) (hl:b.nodes.length≤1048576):FnD Tryz.prog 194 [b.D,.i p] (.d (DI (dc b p))):=⟨cO Tryz.func194,fun F w vs hv hF=>by
 obtain ⟨v1,t,rfl,h1,v2,t2,rfl,⟨h2,_⟩,h3⟩:=hv
 cases (show t2 = [] from h3)
 obtain ⟨cs,rfl,hb⟩:=sA h1
 cases h2
 refine (rW _ _ _ _ _ _ hb hl).mono ?_
 rintro e w' ⟨v,rfl,hV,hX⟩
 exact ⟨_,rfl,hX,qS (Co.ofV hV)⟩⟩
def rtP (r a:Big) (ns:List Int) (n:Nat):Int:=(ew a (atI ns (atI (dc r (-1 - (n:Int))) 0))).parent
def rtL (r a:Big) (ns:List Int) (n:Nat):List Int:=(List.range n).map (rtP r a ns)
theorem wJ (r a:Big) (ns:List Int) (n:Nat):rtL r a ns (n+1)=rtL r a ns n++[rtP r a ns n]:=by unfold rtL;rw [List.range_succ,List.map_append];rfl
theorem zw {sig:List Ctl} {r a:Big} (hR:aF sig r=true) (ns:List Int) (hk:∀n:Nat,(n:Int)<r.roots→0<(dc r (-1 - (n:Int))).length) (hm:∀p,∀x∈dc r p,0≤x∧x<(ns.length:Int)) (hn:∀x∈ns,0≤x∧x<(a.nodes.length:Int)):FnD Tryz.prog 227 [r.D,a.D,DI ns] (.row 1 3 ((rtL r a ns r.roots.toNat).map .i)):=by
 have hr:=aL hR
 refine ah Tryz.func227 (fun hw W0=>?_)
 refine kgo ?_
 refine eX (fun i:Nat=>i≤r.roots.toNat) (fun i=>r.roots.toNat - i) (fun i=>[(2,.sy (.d (DI ns))),(3,.sy (.bx 10003 0)),(10003,.tk (.bx (flat r.D))),(4,.sy (.bx 10004 0)),(10004,.tk (.bx (flat a.D))),(7,.sy (.k 10009)),(10009,.tk (.row 1 3 ((rtL r a ns i).map .i))),(8,.sy (.d (.i i)))]) 0 (Nat.zero_le _) (fun i hi=>?_)
 refine kgo ?_
 refine cIf (fun h=>?_) (fun h=>?_)
 ·have h:=of_decide_eq_true h
  have f1:=rE r (-1 - (i:Int)) (by omega)
  have hk1:=hk i h
  have hz:(0:Int)≤0∧(0:Int)<((dc r (-1 - (i:Int))).length:Int):=⟨Int.le_refl _,by omega⟩
  have hm1:=hm _ _ (List.getElem_mem hk1)
  have hx1:=hn _ (oT hm1.1 hm1.2)
  have hql:(rtL r a ns i).length≤1000:=by unfold rtL;rw [List.length_map,List.length_range];omega
  obtain ⟨j,hj⟩:=Int.eq_ofNat_of_zero_le hx1.1
  have hjl:j<a.nodes.length:=by omega
  have hp:rtP r a ns i=(a.nodes[j]).parent:=by
   unfold rtP
   rw [show atI (dc r (-1 - (i:Int))) 0=(dc r (-1 - (i:Int)))[0] from by unfold atI;simp [List.getElem?_eq_getElem hk1],hj,av a j hjl]
  have hs:(rtL r a ns (i+1)).map D.i=(rtL r a ns i).map D.i++[.i (a.nodes[j]).parent]:=by rw [wJ,List.map_append,hp];rfl
  refine kgo ?_
  refine ex (n:=j) (fun _=>?_) rfl rfl (congrArg some hj)
  refine kgo ?_
  exact af (i+1) (by omega) (by omega)
 ·have h:=of_decide_eq_false h
  rw [show i=r.roots.toNat by omega]
  refine kgo ?_
  exact pE
end Go.Proofs.YtclpbhoekmecjaaGreatDoor
namespace Go.Proofs.YtclpbhoekmecjaaGreatDoor
open Go.RowKit
set_option linter.unusedVariables false
set_option maxRecDepth 100000
set_option maxHeartbeats 4000000
attribute [local irreducible] aq Der At
theorem tw (n lo hi:Int):FnD Tryz.prog 86 [.i n,.i lo,.i hi] (.d (.b (inR n lo hi))):=by
 refine ah Tryz.func86 (fun hw W0=>?_)
 refine kgo ?_
 cases h:decide (lo≤n)
 ·refine kgo ?_
  rw [show inR n lo hi=false from by unfold inR;rw [h];rfl]
  exact ar
 ·refine kgo ?_
  rw [show inR n lo hi=decide (n≤hi) from by unfold inR;rw [h];rfl]
  exact ar
theorem Gq (b:Big) (n:Int) (hl:b.nodes.length≤1000):FnD Tryz.prog 190 [b.D,.i n] (.d (.b (inR n 0 (b.nodes.length - 1)))):=by
 refine ah Tryz.func190 (fun hw W0=>?_)
 have f1:=tw n 0 (b.nodes.length - 1)
 refine kgo ?_
 exact ar
theorem BG (b:Big) (n:Int) (hl:b.nodes.length≤1000) (hr:inR b.roots 0 4=true):FnD Tryz.prog 192 [b.D,.i n] (.d (.b (inR n (-b.roots) (b.nodes.length - 1)))):=by
 have hr:=bO hr
 refine ah Tryz.func192 (fun hw W0=>?_)
 have f1:=tw n (-b.roots) (b.nodes.length - 1)
 refine kgo ?_
 exact ar
theorem rl {r a:Big} {ns:List Int} (i:Nat) (hi:i<ns.length) (h:F5 r a ns i=false):sd r a ns=false:=by
 rw [wW,bw _ _ i hi h];simp
theorem FG {n:Int} {k:Nat} (h:inR n 0 ((k:Int) - 1)=true):∃m:Nat,n=(m:Int)∧m<k:=by
 have h:=bO h
 obtain ⟨m,rfl⟩:=Int.eq_ofNat_of_zero_le h.1
 exact ⟨m,rfl,by omega⟩
theorem yC (r a:Big) (ns:List Int) (ha:a.nodes.length≤1000) (hr:r.nodes.length≤1000):FnD Tryz.prog 128 [r.D,a.D,DI ns] (.d (.b (sd r a ns))):=by
 refine ah Tryz.func128 (fun hw W0=>?_)
 refine kgo ?_
 refine kJ (fun h=>?_) (fun h=>?_)
 ·refine kgo ?_
  rw [show sd r a ns=false from by unfold sd;rw [decide_eq_false (by omega)];rfl]
  exact ar
 refine kgo ?_
 refine aj [2,3,4] (fun i:Nat=>i≤ns.length∧(List.range i).all (F5 r a ns)=true) (fun i=>ns.length - i) (fun i=>[(7,.sy (.d (.i i)))]) 0 ⟨Nat.zero_le _,rfl⟩ (fun i hi=>?_)
 refine kgo ?_
 refine aO (fun h2=>?_) (fun h2=>?_)
 ·have hlt:i<ns.length:=by omega
  have hlr:i<r.nodes.length:=by omega
  have f1:=Gq a ns[i] ha
  have f2:=lG (ns.take i) ns[i]
  have hok:=Fe r a ns i hlt hlr
  refine kgo ?_
  cases h3:inR ns[i] 0 (a.nodes.length - 1)
  ·rw [h3] at hok
   refine kgo ?_
   rw [rl i hlt hok]
   exact ar
  rw [h3] at hok
  refine kgo ?_
  cases h4:fT (ns.take i) ns[i]
  ·rw [h4] at hok
   obtain ⟨k,hk,hka⟩:=FG h3
   rw [hk,av a k hka] at hok
   refine kgo ?_
   refine ex (n:=k) (fun _=>?_) rfl rfl (congrArg some hk)
   refine kgo ?_
   refine kJ (fun h5=>?_) (fun h5=>?_)
   ·rw [decide_eq_false h5] at hok
    refine kgo ?_
    rw [rl i hlt hok]
    exact ar
   ·rw [decide_eq_true h5] at hok
    refine kgo ?_
    exact af (i+1) ⟨hlt,by rw [dz,hi.2,hok];rfl⟩ (by omega)
  ·rw [h4] at hok
   refine kgo ?_
   rw [rl i hlt hok]
   exact ar
 refine kgo ?_
 rw [show sd r a ns=true from by rw [wW,decide_eq_true (by omega),fu _ _ i (by omega) hi.1 hi.2];rfl]
 exact ar
theorem pV {r a:Big} {ns rs:List Int} (i:Nat) (hi:i<rs.length) (h:kg a ns rs[i]=false):fY r a ⟨ns,rs⟩=false:=by
 unfold fY
 rw [show (⟨ns,rs⟩:Mat).roots.all (kg a ns)=false from List.all_eq_false.2 ⟨_,List.getElem_mem hi,by rw [h];exact Bool.false_ne_true⟩];rfl
theorem ye {sig:List Ctl} (r a:Big) (m:Mat) (hb:aF sig a=true):FnD Tryz.prog 129 [r.D,a.D,m.D] (.d (.b (fY r a m))):=by
 have hd:=bB hb
 refine ah Tryz.func129 (fun hw W0=>?_)
 have hml:=(wfM hw.2.2.1.2.1).1
 refine kgo ?_
 refine aj [3,4,5] (fun i:Nat=>i≤m.roots.length∧(m.roots.take i).all (kg a m.nodes)=true) (fun i=>m.roots.length - i) (fun i=>[(7,.sy (.d (.i i)))]) 0 ⟨Nat.zero_le _,rfl⟩ (fun i hi=>?_)
 refine kgo ?_
 refine aO (fun h2=>?_) (fun h2=>?_)
 ·have hlt:i<m.roots.length:=by omega
  have f1:=BG a m.roots[i] hd.3 hd.1
  have hok:kg a m.nodes m.roots[i]=(inR m.roots[i] (-a.roots) (a.nodes.length - 1) && !iF a m.nodes m.roots[i]):=rfl
  refine kgo ?_
  cases h3:inR m.roots[i] (-a.roots) (a.nodes.length - 1)
  ·rw [h3] at hok
   refine kgo ?_
   rw [show fY r a m=false from pV i hlt hok]
   exact ar
  rw [h3] at hok
  have f2:=m8 hb m m.roots[i] (by have:=bO h3;omega)
  refine kgo ?_
  refine cIf (fun h5=>?_) (fun h5=>?_)
  ·rw [h5] at hok
   refine kgo ?_
   rw [show fY r a m=false from pV i hlt hok]
   exact ar
  ·rw [h5] at hok
   refine kgo ?_
   exact af (i+1) ⟨hlt,by rw [List.take_succ_eq_append_getElem hlt,List.all_append,hi.2,List.all_cons,hok];rfl⟩ (by omega)
 refine kgo ?_
 rw [show fY r a m=decide ((m.roots.length:Int)=r.roots) from by unfold fY;rw [gC _ _ i (by omega) hi.2];rfl]
 exact ar
theorem wK (r a:Big) (m:Mat) (i:Nat) (h:i<m.nodes.length) (hr:i<r.nodes.length) (k:Nat) (hk:m.nodes[i]=(k:Int)) (hka:k<a.nodes.length):pQ r a m i=decide ((a.nodes[k]).parent=if 0≤(r.nodes[i]).parent then atI m.nodes (r.nodes[i]).parent else atI m.roots (-1 - (r.nodes[i]).parent)):=by
 unfold pQ Gj
 rw [b8 _ i h,hk,av a k hka,av r i hr]
theorem uQ {sig:List Ctl} {r a:Big} (m:Mat) (hbr:aF sig r=true) (hba:aF sig a=true) (him:oq r a m.nodes) (hrs:(m.roots.length:Int)=r.roots):FnD Tryz.prog 130 [r.D,a.D,m.D] (.d (.b ((List.range m.nodes.length).all (pQ r a m)))):=by
 have hdr:=aL hbr
 refine ah Tryz.func130 (fun hw W0=>?_)
 have hml:=(wfM hw.2.2.1.1).1
 refine kgo ?_
 refine aj [3,4,5] (fun i:Nat=>i≤m.nodes.length∧(List.range i).all (pQ r a m)=true) (fun i=>m.nodes.length - i) (fun i=>[(7,.sy (.d (.i i)))]) 0 ⟨Nat.zero_le _,rfl⟩ (fun i hi=>?_)
 refine kgo ?_
 refine aO (fun h2=>?_) (fun h2=>?_)
 ·have hlt:i<m.nodes.length:=by omega
  have hlr:i<r.nodes.length:=by have:=him.len;omega
  obtain ⟨k,hka,hk0,_⟩:=him.at' i hlr
  rw [b8 _ i hlt] at hk0
  have hok:=wK r a m i hlt hlr k hk0 hka
  have hup:=iG hbr i hlr
  refine kgo ?_
  refine aO (fun h3=>?_) (fun h3=>?_)
  ·rw [if_pos h3] at hok
   have hx:(r.nodes[i]).parent<m.nodes.length:=by omega
   refine kgo ?_
   refine ex (n:=k) (fun _=>?_) rfl rfl (congrArg some hk0)
   refine kgo ?_
   refine kJ (fun h5=>?_) (fun h5=>?_)
   ·rw [decide_eq_false h5] at hok
    refine kgo ?_
    rw [bw _ _ i hlt hok]
    exact ar
   ·rw [decide_eq_true h5] at hok
    refine kgo ?_
    exact af (i+1) ⟨hlt,by rw [dz,hi.2,hok];rfl⟩ (by omega)
  ·rw [if_neg h3] at hok
   have hx : -1 - (r.nodes[i]).parent<m.roots.length:=by omega
   refine kgo ?_
   refine ex (n:=k) (fun _=>?_) rfl rfl (congrArg some hk0)
   refine kgo ?_
   refine kJ (fun h5=>?_) (fun h5=>?_)
   ·rw [decide_eq_false h5] at hok
    refine kgo ?_
    rw [bw _ _ i hlt hok]
    exact ar
   ·rw [decide_eq_true h5] at hok
    refine kgo ?_
    exact af (i+1) ⟨hlt,by rw [dz,hi.2,hok];rfl⟩ (by omega)
 refine kgo ?_
 rw [fu _ _ i (by omega) hi.1 hi.2]
 exact ar
theorem mt (b:Big) (p:Int):(bA b p).length≤b.sites.length:=d9 _ _
theorem ry (b:Big) (p:Int):(dc b p).length≤b.nodes.length:=d9 _ _
theorem CH {r a:Big} (m:Mat) (him:oq r a m.nodes) (dr:vV r) (da:vV a):FnD Tryz.prog 131 [r.D,a.D,m.D] (.d (.b ((List.range m.nodes.length).all (lI r a m)))):=by
 have hsi:=dr.4
 have hno:=da.3
 refine ah Tryz.func131 (fun hw W0=>?_)
 have hml:=(wfM hw.2.2.1.1).1
 refine kgo ?_
 refine aj [3,4,5] (fun i:Nat=>i≤m.nodes.length∧(List.range i).all (lI r a m)=true) (fun i=>m.nodes.length - i) (fun i=>[(7,.sy (.d (.i i)))]) 0 ⟨Nat.zero_le _,rfl⟩ (fun i hi=>?_)
 refine kgo ?_
 refine aO (fun h2=>?_) (fun h2=>?_)
 ·have hlt:i<m.nodes.length:=by omega
  have f1:=rE a m.nodes[i] (by omega)
  have f2:=mC r i (by omega)
  have hk1:=mt r i
  have hk2:=ry a m.nodes[i]
  have hok:lI r a m i=(!(decide ((bA r i).length=0)) || (dc a m.nodes[i]).all (fT m.nodes)):=by unfold lI;rw [b8 _ i hlt]
  have hnext:lI r a m i=true→(List.range (i+1)).all (lI r a m)=true:=fun h=>by rw [dz,hi.2,h];rfl
  refine kgo ?_
  refine aj [3,4,5,7,8] (fun k:Nat=>k≤(dc a m.nodes[i]).length∧(0<k→(bA r i).length=0)∧((dc a m.nodes[i]).take k).all (fT m.nodes)=true) (fun k=>(dc a m.nodes[i]).length - k) (fun k=>[(9,.sy (.d (.i k)))]) 0 ⟨Nat.zero_le _,fun h=>absurd h (by omega),rfl⟩ (fun k hk=>?_)
  refine kgo ?_
  cases h4:decide ((k:Int)<((dc a m.nodes[i]).length:Int))
  ·have h4:=of_decide_eq_false h4
   rw [gC _ _ k (by omega) hk.2.2,Bool.or_true] at hok
   refine kgo ?_
   exact af (i+1) ⟨hlt,hnext hok⟩ (by omega)
  have h4:=of_decide_eq_true h4
  have hkl:k<(dc a m.nodes[i]).length:=by omega
  refine kgo ?_
  refine aO (fun h5=>?_) (fun h5=>?_)
  ·have f3:=lG m.nodes (dc a m.nodes[i])[k]
   refine kgo ?_
   refine cIf (fun h6=>?_) (fun h6=>?_)
   ·rw [Bool.not_eq_true'] at h6
    rw [decide_eq_true (by omega),show (dc a m.nodes[i]).all (fT m.nodes)=false from List.all_eq_false.2 ⟨_,List.getElem_mem hkl,by rw [h6];exact Bool.false_ne_true⟩] at hok
    refine kgo ?_
    rw [bw _ _ i hlt hok]
    exact ar
   ·rw [Bool.not_eq_false'] at h6
    refine kgo ?_
    exact af (k+1) ⟨hkl,fun _=>by omega,by rw [List.take_succ_eq_append_getElem hkl,List.all_append,hk.2.2,List.all_cons,h6];rfl⟩ (by omega)
  ·rw [decide_eq_false (by omega)] at hok
   refine kgo ?_
   exact af (i+1) ⟨hlt,hnext hok⟩ (by omega)
 refine kgo ?_
 rw [fu _ _ i (by omega) hi.1 hi.2]
 exact ar
theorem zl {sig:List Ctl} {r a:Big} (m:Mat) (hbr:aF sig r=true) (hba:aF sig a=true) (hp0:∀l:Nat,l<al r→aI r l≠[]):FnD Tryz.prog 92 [r.D,a.D,m.D] (.d (.b (eh r a m))):=by
 have dr:=bB hbr
 have da:=bB hba
 have f1:=yC r a m.nodes da.3 dr.3
 have f2:=ye r a m hba
 have hm:eh r a m=((sd r a m.nodes && fY r a m) && ((List.range m.nodes.length).all (pQ r a m) && ((List.range m.nodes.length).all (lI r a m) && gB r a m.nodes))):=rfl
 have f3:sd r a m.nodes=true→fY r a m=true→FnD Tryz.prog 130 [r.D,a.D,m.D] (.d (.b ((List.range m.nodes.length).all (pQ r a m)))):=fun h1 h2=>uQ m hbr hba (iR h1) (ji h2)
 have f4:sd r a m.nodes=true→FnD Tryz.prog 131 [r.D,a.D,m.D] (.d (.b ((List.range m.nodes.length).all (lI r a m)))):=fun h1=>CH m (iR h1) dr da
 have f5:sd r a m.nodes=true→FnD Tryz.prog 132 [r.D,a.D,m.D] (.tp [DI (o7 r a m.nodes),.b (gB r a m.nodes)]):=fun h1=>uc m hbr hba (iR h1) hp0
 refine ah Tryz.func92 (fun hw W0=>?_)
 rw [hm]
 refine kgo ?_
 cases h1:sd r a m.nodes
 ·refine kgo ?_
  exact ar
 have f4:=f4 h1
 have f5:=f5 h1
 refine kgo ?_
 cases h2:fY r a m
 ·refine kgo ?_
  exact ar
 have f3:=f3 h1 h2
 refine kgo ?_
 cases h3:(List.range m.nodes.length).all (pQ r a m)
 ·refine kgo ?_
  exact ar
 refine kgo ?_
 cases h4:(List.range m.nodes.length).all (lI r a m)
 ·refine kgo ?_
  exact ar
 refine kgo ?_
 exact ar
end Go.Proofs.YtclpbhoekmecjaaGreatDoor
namespace Go.Proofs.YtclpbhoekmecjaaGreatDoor
open Go.RowKit
set_option linter.unusedVariables false
set_option maxRecDepth 100000
set_option maxHeartbeats 4000000
attribute [local irreducible] aq Der At
def xc (b:Big) (es:List Int) (l:Int):Int:=if b.edges≤l then l else atI es l
def CM (b:Big) (es:List Int) (l:Int):Prop:=0≤l∧(l<b.edges→l<es.length)
theorem zI (b:Big) (es:List Int) (l:Int) (h:CM b es l):FnD Tryz.prog 188 [b.D,.i l,DI es] (.d (.i (xc b es l))):=by
 refine ah Tryz.func188 (fun hw W0=>?_)
 obtain ⟨h0,h1⟩:=h
 refine kgo ?_
 refine aO (fun h=>?_) (fun h=>?_)
 ·refine kgo ?_
  rw [show xc b es l=l from if_pos h]
  exact ar
 ·have h1:=h1 (by omega)
  refine kgo ?_
  rw [show xc b es l=atI es l from if_neg h]
  exact ar
def yF (b:Big) (to es:List Int) (n:Nd):Nd:=⟨n.control,po to n.parent,n.links.map (xc b es)⟩
def um (b:Big) (to es:List Int) (k:Nat):List Nd:=(List.range k).foldl (fun l (i:Nat)=>l.set (atI to i).toNat (yF b to es (ew b i))) (List.replicate b.nodes.length ⟨0,0,[]⟩)
theorem oV (b:Big) (to es:List Int) (k:Nat):um b to es (k+1)=(um b to es k).set (atI to k).toNat (yF b to es (ew b k)):=by unfold um;rw [List.range_succ,List.foldl_append];rfl
theorem B7 (b:Big) (to es:List Int) (k:Nat):(um b to es k).length=b.nodes.length:=by
 induction k with
 | zero=>simp [um]
 | succ k ih=>rw [oV,List.length_set,ih]
def D9 (b:Big) (es:List Int) (w:Wr):Wr:=⟨w.name,xc b es w.link⟩
def If (b:Big) (to es:List Int):Big:=⟨b.roots,um b to es b.nodes.length,b.sites.map (po to),b.edges,b.outer,b.inner.map (D9 b es)⟩
structure DT (b:Big) (to es:List Int):Prop where
 len:to.length=b.nodes.length
 tos:∀x∈to,0≤x∧x<(b.nodes.length:Int)
 par:∀n∈b.nodes,n.parent<to.length
 links:∀n∈b.nodes,∀l∈n.links,CM b es l
 sites:∀p∈b.sites,p<to.length
 inner:∀w∈b.inner,CM b es w.link
 nodes:b.nodes.length≤1000
 sl:b.sites.length≤1000
 il:b.inner.length≤1000
 ol:b.outer.length≤1000
 ll:∀n∈b.nodes,n.links.length≤1000
theorem uh (b:Big) (to es:List Int) (H:DT b to es):FnD Tryz.prog 127 [b.D,DI to,DI es] (.d (If b to es).D):=by
 have hnl:=H.nodes
 have htl:=H.len
 have hsl:=H.sl
 have hil:=H.il
 have hol:=H.ol
 have hz:List.replicate b.nodes.length (Nd.D ⟨0,0,[]⟩)=(um b to es 0).map Nd.D:=by rw [show um b to es 0=List.replicate b.nodes.length ⟨0,0,[]⟩ from by simp [um],List.map_replicate]
 refine ah Tryz.func127 (fun hw W0=>?_)
 refine kgo ?_
 refine oz (n:=b.nodes.length) (Nd.D ⟨0,0,[]⟩) ?_ rfl rfl (hb:=by show 40 * b.nodes.length≤1000000000;omega)
 repeat (first|(refine cI ?_;first|refine aU ?_|refine cb ?_|refine bp ?_|refine bk ?_|refine aS ?_|refine be ?_|refine bc ?_|refine aB ?_|refine bm ?_|refine bo ?_)|(refine fQ ?_;first|refine b6 ?_|refine fH ?_|refine cm ?_|refine cE ?_)|(refine fB ?_;first|refine ex (fun _=>?_)|refine cr ?_|refine ci ?_|refine bL ?_|refine ch ?_|refine cd ?_|refine ca ?_)|(refine fJ ?_;first|refine cF ?_|refine fb ?_|refine cu ?_|refine bS ?_|refine ck ?_|refine cz ?_|refine ct ?_)|(refine fE ?_;first|refine fM ?_|refine fq ?_|refine cj ?_|refine bY ?_|refine fF ?_|refine bg ?_|refine bf ?_)|(refine co ?_;first|refine br ?_|refine cH ?_)|(refine fK ?_;first|refine cB ?_|refine cy ?_|refine fL ?_)|(refine b9 ?_;first|refine cG ?_|refine aY ?_|refine aR ?_|refine aZ ?_|refine aW ?_|refine bj ?_)|(refine fC ?_;first|refine cf ?_|refine fA ?_|refine bh ?_|refine aT ?_|refine bq ?_)|(refine aN ?_;first|refine aw _ ?_|refine ba ?_|refine aC ?_|refine az ?_|refine aD ?_)|(refine fG ?_;first|refine cC ?_|refine bR ?_|refine cA ?_)|(refine gOp ?_;first|refine fI ?_|refine fP ?_|refine bl ?_|refine fO ?_|refine fN ?_|refine cD ?_|refine aV ?_|refine cw ?_|refine fR ?_|refine bV ?_|refine cq ?_|refine aX ?_|refine sFz 24 ?_|refine aA ?_|refine cg ?_|refine sNo ?_|refine fa ?_|refine ay ?_)|refine e9 ?_|refine dD ?_|refine fU ?_|refine bu ?_|refine bU ?_|refine bE ?_|refine fX ?_|refine fy ?_|refine fp ?_|refine dP ?_|refine cL ?_|refine aM ?_|refine ax ?_|refine bt ?_|refine cK ?_|refine bF ?_|refine cM ?_|refine cN ?_|refine sFz 24 ?_)
 refine aj [1,2,3,6,7] (fun i:Nat=>i≤b.nodes.length) (fun i=>b.nodes.length - i) (fun i=>[(10007,.tk (.bx [.d (.i b.roots),.k 20001,.d (.n 1),.d (.i b.edges),.d (DS b.outer),.d (.n 2)])),(20001,.tk (.row 3 131 ((um b to es i).map Nd.D))),(8,.sy (.d (.i i)))]) 0 (Nat.zero_le _) (fun i hi=>?_)
 refine kgo ?_
 refine aO (fun h=>?_) (fun h=>?_)
 ·have hlt:i<b.nodes.length:=by omega
  have hm:=List.getElem_mem hlt
  have hll:=H.ll _ hm
  have htie:=H.links _ hm
  refine kgo ?_
  refine aj [1,2,3,6,7,8] (fun k:Nat=>k≤(b.nodes[i]).links.length) (fun k=>(b.nodes[i]).links.length - k) (fun k=>[(9,.sy (.k 20002)),(20002,.tk (.row 1 3 ((((b.nodes[i]).links.take k).map (xc b es)).map .i))),(10,.sy (.d (.i k)))]) 0 (Nat.zero_le _) (fun k hk=>?_)
  refine kgo ?_
  refine aO (fun h2=>?_) (fun h2=>?_)
  ·have hkl:k<(b.nodes[i]).links.length:=by omega
   have f1:=zI b es (b.nodes[i]).links[k] (htie _ (List.getElem_mem hkl))
   have hs:(((b.nodes[i]).links.take (k+1)).map (xc b es)).map D.i=(((b.nodes[i]).links.take k).map (xc b es)).map D.i++[.i (xc b es (b.nodes[i]).links[k])]:=by rw [List.take_succ_eq_append_getElem hkl,List.map_append,List.map_append];rfl
   have hq:(((b.nodes[i]).links.take k).map (xc b es)).length≤1000:=by rw [List.length_map,List.length_take];omega
   refine kgo ?_
   exact af (k+1) hkl (by omega)
  rw [show (b.nodes[i]).links.take k=(b.nodes[i]).links from List.take_of_length_le (by omega)]
  have hlt2:i<to.length:=by omega
  obtain ⟨h0,h1⟩:=H.tos _ (List.getElem_mem hlt2)
  obtain ⟨q,hq⟩:=Int.eq_ofNat_of_zero_le h0
  have hrl:=B7 b to es i
  have hs:=oV b to es i
  rw [b8 to i hlt2,hq,Int.toNat_natCast,av b i hlt] at hs
  have hql:q<(um b to es i).length:=by omega
  have f2:=rV (b.nodes[i]).parent to (H.par _ hm)
  repeat (first|(refine cI ?_;first|refine aU ?_|refine cb ?_|refine bp ?_|refine bk ?_|refine aS ?_|refine be ?_|refine bc ?_|refine aB ?_|refine bm ?_|refine bo ?_)|(refine fQ ?_;first|refine b6 ?_|refine fH ?_|refine cm ?_|refine cE ?_)|(refine fB ?_;first|refine ex (fun _=>?_)|refine cr ?_|refine ci ?_|refine bL ?_|refine ch ?_|refine cd ?_|refine ca ?_)|(refine fJ ?_;first|refine cF ?_|refine fb ?_|refine cu ?_|refine bS ?_|refine ck ?_|refine cz ?_|refine ct ?_)|(refine fE ?_;first|refine fM ?_|refine fq ?_|refine cj ?_|refine bY ?_|refine fF ?_|refine bg ?_|refine bf ?_)|(refine co ?_;first|refine br ?_|refine cH ?_)|(refine fK ?_;first|refine cB ?_|refine cy ?_|refine fL ?_)|(refine b9 ?_;first|refine cG ?_|refine aY ?_|refine aR ?_|refine aZ ?_|refine aW ?_|refine bj ?_)|(refine fC ?_;first|refine cf ?_|refine fA ?_|refine bh ?_|refine aT ?_|refine bq ?_)|(refine aN ?_;first|refine aw _ ?_|refine ba ?_|refine aC ?_|refine az ?_|refine aD ?_)|(refine fG ?_;first|refine cC ?_|refine bR ?_|refine cA ?_)|(refine gOp ?_;first|refine fI ?_|refine fP ?_|refine bl ?_|refine fO ?_|refine fN ?_|refine cD ?_|refine aV ?_|refine cw ?_|refine fR ?_|refine bV ?_|refine cq ?_|refine aX ?_|refine sFz 80 ?_|refine aA ?_|refine cg ?_|refine sNo ?_|refine fa ?_|refine ay ?_)|refine e9 ?_|refine dD ?_|refine fU ?_|refine bu ?_|refine bU ?_|refine bE ?_|refine fX ?_|refine fy ?_|refine fp ?_|refine dP ?_|refine cL ?_|refine aM ?_|refine ax ?_|refine bt ?_|refine cK ?_|refine bF ?_|refine cM ?_|refine cN ?_|refine sFz 80 ?_)
  refine bL (n:=q) ?_ rfl rfl rfl (congrArg some hq)
  refine Eo (f:=Nd.D) (l:=um b to es i) (yF b to es b.nodes[i]) ?_
  refine kgo ?_
  rw [← hs]
  exact af (i+1) hlt (by omega)
 rw [show i=b.nodes.length by omega]
 refine kgo ?_
 refine mi 10007 1 ?_
 refine lx 10007 2 20003 3 ?_
 refine aj [1,2,3,6,7] (fun i:Nat=>i≤b.sites.length) (fun i=>b.sites.length - i) (fun i=>[(10007,.tk (.bx [.d (.i b.roots),.d (.l 3 ((um b to es b.nodes.length).map Nd.D)),.k 20003,.d (.i b.edges),.d (DS b.outer),.d (.n 2)])),(20003,.tk (.row 1 3 (((b.sites.take i).map (po to)).map .i))),(11,.sy (.d (.i i)))]) 0 (Nat.zero_le _) (fun i hi=>?_)
 refine kgo ?_
 refine aO (fun h=>?_) (fun h=>?_)
 ·have hlt:i<b.sites.length:=by omega
  have f1:=rV b.sites[i] to (H.sites _ (List.getElem_mem hlt))
  have hs:((b.sites.take (i+1)).map (po to)).map D.i=((b.sites.take i).map (po to)).map D.i++[.i (po to b.sites[i])]:=by rw [List.take_succ_eq_append_getElem hlt,List.map_append,List.map_append];rfl
  have hq:((b.sites.take i).map (po to)).length≤1000:=by rw [List.length_map,List.length_take];omega
  refine kgo ?_
  exact af (i+1) hlt (by omega)
 rw [show b.sites.take i=b.sites from List.take_of_length_le (by omega)]
 refine kgo ?_
 refine mi 10007 2 ?_
 refine lx 10007 5 20004 133 ?_
 refine aj [2,3,6,7] (fun i:Nat=>i≤b.inner.length) (fun i=>b.inner.length - i) (fun i=>[(10007,.tk (.bx [.d (.i b.roots),.d (.l 3 ((um b to es b.nodes.length).map Nd.D)),.d (DI (b.sites.map (po to))),.d (.i b.edges),.d (DS b.outer),.k 20004])),(20004,.tk (.row 2 133 (((b.inner.take i).map (D9 b es)).map Wr.D))),(12,.sy (.d (.i i)))]) 0 (Nat.zero_le _) (fun i hi=>?_)
 refine kgo ?_
 refine aO (fun h=>?_) (fun h=>?_)
 ·have hlt:i<b.inner.length:=by omega
  have f1:=zI b es (b.inner[i]).link (H.inner _ (List.getElem_mem hlt))
  have hs:((b.inner.take (i+1)).map (D9 b es)).map Wr.D=((b.inner.take i).map (D9 b es)).map Wr.D++[Wr.D ⟨(b.inner[i]).name,xc b es (b.inner[i]).link⟩]:=by rw [List.take_succ_eq_append_getElem hlt,List.map_append,List.map_append];rfl
  have hq:((b.inner.take i).map (D9 b es)).length≤1000:=by rw [List.length_map,List.length_take];omega
  refine kgo ?_
  exact af (i+1) hlt (by omega)
 rw [show b.inner.take i=b.inner from List.take_of_length_le (by omega)]
 refine bE (ax (ax (bF (aM ?_))))
 refine mi 10007 5 ?_
 refine kgo ?_
 exact ar
def lj (n:Nat):List Int:=(List.range n).map fun (i:Nat)=>(i:Int)
theorem sY (n:Nat):lj (n+1)=lj n++[(n:Int)]:=by unfold lj;rw [List.range_succ,List.map_append];rfl
theorem iK (n:Nat):(lj n).length=n:=by unfold lj;simp
theorem uO (n i:Nat) (h:i<n):atI (lj n) i=i:=by rw [b8 _ i (by rw [iK];exact h)];simp [lj]
theorem Bw {b:Big} {l:Int} (h:dU b l=true):CM b (lj b.edges.toNat) l∧xc b (lj b.edges.toNat) l=l:=by
 obtain ⟨n,rfl,hn⟩:=gR h
 refine ⟨⟨by omega,fun h=>by rw [iK];omega⟩,?_⟩
 unfold xc
 split
 ·rfl
 ·exact uO _ n (by omega)
theorem EF {b:Big} (h:∀n∈b.nodes,yF b (lj b.nodes.length) (lj b.edges.toNat) n=n):∀k,k≤b.nodes.length→um b (lj b.nodes.length) (lj b.edges.toNat) k=b.nodes.take k++List.replicate (b.nodes.length - k) ⟨0,0,[]⟩:=by
 intro k
 induction k with
 | zero=>intro _;simp [um]
 | succ k ih=>
  intro hk
  rw [oV,ih (by omega),uO _ k hk,Int.toNat_natCast,av b k hk,h _ (List.getElem_mem _),List.set_append_right _ _ (by rw [List.length_take];omega),List.length_take,Nat.min_eq_left (by omega),Nat.sub_self,show b.nodes.length - k=(b.nodes.length - (k+1))+1 by omega,List.replicate_succ,List.set_cons_zero,List.take_succ_eq_append_getElem (by omega),List.append_assoc]
  rfl
theorem GK {sig:List Ctl} {b:Big} (hb:aF sig b=true):DT b (lj b.nodes.length) (lj b.edges.toNat)∧If b (lj b.nodes.length) (lj b.edges.toNat)=b:=by
 have hd:=aL hb
 have hdm:=bB hb
 obtain ⟨_,_,h3,h4⟩:=dV hb
 have hnode:∀n∈b.nodes,-b.roots≤n.parent∧n.parent<b.nodes.length∧(∀l∈n.links,dU b l=true)∧n.links.length≤1000:=fun n hn=>by
  obtain ⟨i,hi,rfl⟩:=List.mem_iff_getElem.1 hn
  have:=iG hb i hi
  exact ⟨this.1,by omega,(eS hb i hi).2.2.2.2,hdm.7 i hi⟩
 have hmv:∀p:Int,p<b.nodes.length→po (lj b.nodes.length) p=p:=fun p hp=>by
  unfold po
  split
  ·rfl
  ·obtain ⟨k,rfl⟩:=Int.eq_ofNat_of_zero_le (show 0≤p by omega)
   exact uO _ k (by omega)
 have hsite:∀p∈b.sites,p<b.nodes.length:=fun p hp=>by
  have h5:=List.all_eq_true.1 h3 p hp
  unfold fV du at h5
  split at h5
  ·omega
  ·simp only [Bool.and_eq_true,decide_eq_true_eq] at h5;exact h5.1
 have hlk:∀l,dU b l=true→xc b (lj b.edges.toNat) l=l:=fun l h=>(Bw h).2
 have hin:∀w∈b.inner,dU b w.link=true:=fun w hw=>List.all_eq_true.1 h4 w hw
 refine ⟨⟨iK _,fun x hx=>?_,fun n hn=>by rw [iK];exact (hnode n hn).2.1,fun n hn l hl=>(Bw ((hnode n hn).2.2.1 l hl)).1,fun p hp=>by rw [iK];exact hsite p hp,fun w hw=>(Bw (hin w hw)).1,by omega,by omega,by omega,by omega,fun n hn=>(hnode n hn).2.2.2⟩,?_⟩
 ·unfold lj at hx
  obtain ⟨i,hi,rfl⟩:=List.mem_map.1 hx
  have:=List.mem_range.1 hi;omega
 ·have e1:∀n∈b.nodes,yF b (lj b.nodes.length) (lj b.edges.toNat) n=n:=fun n hn=>by
   obtain ⟨c,p,ls⟩:=n
   obtain ⟨_,q1,q2,_⟩:=hnode _ hn
   unfold yF
   rw [hmv _ q1]
   congr 1
   exact (List.map_congr_left fun l hl=>hlk l (q2 l hl)).trans (List.map_id _)
  unfold If
  rw [EF e1 _ (Nat.le_refl _),Nat.sub_self,List.take_length,List.replicate_zero,List.append_nil]
  have e2:b.sites.map (po (lj b.nodes.length))=b.sites:=(List.map_congr_left fun p hp=>hmv p (hsite p hp)).trans (List.map_id _)
  have e3:b.inner.map (D9 b (lj b.edges.toNat))=b.inner:=(List.map_congr_left fun w hw=>show D9 b _ w=w by obtain ⟨nm,lk⟩:=w;unfold D9;rw [hlk _ (hin _ hw)]).trans (List.map_id _)
  rw [e2,e3]
theorem Er {sig:List Ctl} {b:Big} (hb:aF sig b=true):FnD Tryz.prog 87 [b.D] (.d b.D):=by
 obtain ⟨H,hE⟩:=GK hb
 have hd:=aL hb
 obtain ⟨e,he⟩:=Int.eq_ofNat_of_zero_le hd.2.2.2.1.1
 have f1:=uh b _ _ H
 rw [hE,he,Int.toNat_natCast] at f1
 refine ah Tryz.func87 (fun hw W0=>?_)
 refine kgo ?_
 refine aj [1,2,4] (fun i:Nat=>i≤b.nodes.length) (fun i=>b.nodes.length - i) (fun i=>[(3,.sy (.k 20001)),(20001,.tk (.row 1 3 ((lj i).map .i))),(5,.sy (.d (.i i)))]) 0 (Nat.zero_le _) (fun i hi=>?_)
 refine kgo ?_
 refine aO (fun h=>?_) (fun h=>?_)
 ·have hlt:i<b.nodes.length:=by omega
  have hs:(lj (i+1)).map D.i=(lj i).map D.i++[.i i]:=by rw [sY,List.map_append];rfl
  have hl:=iK i
  refine kgo ?_
  exact af (i+1) hlt (by omega)
 rw [show i=b.nodes.length by omega]
 refine kgo ?_
 refine aj [1,2,3] (fun i:Nat=>i≤e) (fun i=>e - i) (fun i=>[(4,.sy (.k 20002)),(20002,.tk (.row 1 3 ((lj i).map .i))),(6,.sy (.d (.i i)))]) 0 (Nat.zero_le _) (fun i hi=>?_)
 refine kgo ?_
 refine aO (fun h=>?_) (fun h=>?_)
 ·have hlt:i<e:=by omega
  have hs:(lj (i+1)).map D.i=(lj i).map D.i++[.i i]:=by rw [sY,List.map_append];rfl
  have hl:=iK i
  refine kgo ?_
  exact af (i+1) hlt (by omega)
 rw [show i=e by omega]
 repeat (first|refine cFz 3 ?_|refine cFz 4 ?_|(refine cI ?_;first|refine aU ?_|refine cb ?_|refine bp ?_|refine bk ?_|refine aS ?_|refine be ?_|refine bc ?_|refine aB ?_|refine bm ?_|refine bo ?_)|(refine fQ ?_;first|refine b6 ?_|refine fH ?_|refine cm ?_|refine cE ?_)|(refine fB ?_;first|refine ex (fun _=>?_)|refine cr ?_|refine ci ?_|refine bL ?_|refine ch ?_|refine cd ?_|refine ca ?_)|(refine fJ ?_;first|refine cF ?_|refine fb ?_|refine cu ?_|refine bS ?_|refine ck ?_|refine cz ?_|refine ct ?_)|(refine fE ?_;first|refine fM ?_|refine fq ?_|refine cj ?_|refine bY ?_|refine fF ?_|refine bg ?_|refine bf ?_)|(refine co ?_;first|refine br ?_|refine cH ?_)|(refine fK ?_;first|refine cB ?_|refine cy ?_|refine fL ?_)|(refine b9 ?_;first|refine cG ?_|refine aY ?_|refine aR ?_|refine aZ ?_|refine aW ?_|refine bj ?_)|(refine fC ?_;first|refine cf ?_|refine fA ?_|refine bh ?_|refine aT ?_|refine bq ?_)|(refine aN ?_;first|refine aw _ ?_|refine ba ?_|refine aC ?_|refine az ?_|refine aD ?_)|(refine fG ?_;first|refine cC ?_|refine bR ?_|refine cA ?_)|(refine gOp ?_;first|refine fI ?_|refine fP ?_|refine bl ?_|refine fO ?_|refine fN ?_|refine cD ?_|refine aV ?_|refine cw ?_|refine fR ?_|refine bV ?_|refine cq ?_|refine aX ?_|refine aA ?_|refine cg ?_|refine sNo ?_|refine fa ?_|refine ay ?_)|refine e9 ?_|refine dD ?_|refine fU ?_|refine bu ?_|refine bU ?_|refine bE ?_|refine fX ?_|refine fy ?_|refine fp ?_|refine dP ?_|refine cL ?_|refine aM ?_|refine ax ?_|refine bt ?_|refine cK ?_|refine bF ?_|refine cM ?_|refine cN ?_)
 exact ar
end Go.Proofs.YtclpbhoekmecjaaGreatDoor
namespace Go.Proofs.YtclpbhoekmecjaaGreatDoor
open Go.RowKit
set_option linter.unusedVariables false
set_option maxRecDepth 100000
set_option maxHeartbeats 4000000
attribute [local irreducible] aq Der At
theorem C3 (b:Big) (l:Int) (hl:b.inner.length≤1000):FnD Tryz.prog 298 [b.D,.i l] (.d (DS (na b l))):=by
 refine ah Tryz.func298 (fun hw W0=>?_)
 refine kgo ?_
 refine aj [1,2] (fun i:Nat=>i≤b.inner.length) (fun i=>b.inner.length - i) (fun i=>[(5,.sy (.k 20001)),(20001,.tk (.row 1 9 ((eA b l i).map .s))),(6,.sy (.d (.i i)))]) 0 (Nat.zero_le _) (fun i hi=>?_)
 refine kgo ?_
 refine aO (fun h=>?_) (fun h=>?_)
 ·have hlt:i<b.inner.length:=by omega
  have hq:=jh b l i
  refine kgo ?_
  refine aO (fun h2=>?_) (fun h2=>?_)
  ·have hs:(eA b l (i+1)).map D.s=(eA b l i).map D.s++[.s (b.inner[i]).name]:=by rw [nj hlt h2,List.map_append];rfl
   refine kgo ?_
   exact af (i+1) hlt (by omega)
  ·have hs:(eA b l (i+1)).map D.s=(eA b l i).map D.s:=by rw [pg hlt h2]
   refine kgo ?_
   exact af (i+1) hlt (by omega)
 rw [show na b l=eA b l i from by rw [show i=b.inner.length by omega];rfl]
 repeat (first|(refine cI ?_;first|refine aU ?_|refine cb ?_|refine bp ?_|refine bk ?_|refine aS ?_|refine be ?_|refine bc ?_|refine aB ?_|refine bm ?_|refine bo ?_)|(refine fQ ?_;first|refine b6 ?_|refine fH ?_|refine cm ?_|refine cE ?_)|(refine fB ?_;first|refine ex (fun _=>?_)|refine cr ?_|refine ci ?_|refine bL ?_|refine ch ?_|refine cd ?_|refine ca ?_)|(refine fJ ?_;first|refine cF ?_|refine fb ?_|refine cu ?_|refine bS ?_|refine ck ?_|refine cz ?_|refine ct ?_)|(refine fE ?_;first|refine fM ?_|refine fq ?_|refine cj ?_|refine bY ?_|refine fF ?_|refine bg ?_|refine bf ?_)|(refine co ?_;first|refine br ?_|refine cH ?_)|(refine fK ?_;first|refine gq (d:=4) ?_|refine cB ?_|refine cy ?_|refine fL ?_)|(refine b9 ?_;first|refine cG ?_|refine aY ?_|refine aR ?_|refine aZ ?_|refine aW ?_|refine bj ?_)|(refine fC ?_;first|refine cf ?_|refine fA ?_|refine bh ?_|refine aT ?_|refine bq ?_)|(refine aN ?_;first|refine aw _ ?_|refine ba ?_|refine aC ?_|refine az ?_|refine aD ?_)|(refine fG ?_;first|refine cC ?_|refine bR ?_|refine cA ?_)|(refine gOp ?_;first|refine fI ?_|refine fP ?_|refine bl ?_|refine fO ?_|refine fN ?_|refine cD ?_|refine aV ?_|refine cw ?_|refine fR ?_|refine bV ?_|refine cq ?_|refine aX ?_|refine aA ?_|refine cg ?_|refine sNo ?_|refine fa ?_|refine ay ?_)|refine e9 ?_|refine dD ?_|refine fU ?_|refine bu ?_|refine bU ?_|refine bE ?_|refine fX ?_|refine fy ?_|refine fp ?_|refine dP ?_|refine cL ?_|refine aM ?_|refine ax ?_|refine bt ?_|refine cK ?_|refine bF ?_|refine cM ?_|refine cN ?_)
 exact ar
theorem tQ {α:Type} (l:List α):decide ((l.length:Int)=0)=l.isEmpty:=by cases l <;> simp <;> omega
theorem CI {b:Big} (d:vV b) (l:Int) (hi:b.inner.length≤1000):FnD Tryz.prog 261 [b.D,.i l] (.d (.b (nP b l))):=by
 have f1:=mB b l d.3 d.7
 have f2:=C3 b l hi
 have hpl:=fh b l d.3 d.7
 have hel:=jh b l b.inner.length
 refine ah Tryz.func261 (fun hw W0=>?_)
 refine kgo ?_
 have e1:=tQ (aI b l)
 have e2:=tQ (na b l)
 unfold nP
 rw [← e1,← e2]
 cases h:decide (((aI b l).length:Int)=0)
 ·refine kgo ?_
  exact ar
 ·refine kgo ?_
  exact ar
theorem ur {b:Big} (h:(List.range (al b)).all (dB b)=false):bN b=false:=by unfold bN;rw [h];simp
theorem A3 {b:Big} (d:vV b) (hi:b.inner.length≤1000):FnD Tryz.prog 226 [b.D] (.d (.b (bN b))):=by
 have hr:=bO d.1
 have he:=bO d.2
 have hn:=d.3
 have hs:=d.4
 have ho:=d.5
 obtain ⟨R,hR⟩:=Int.eq_ofNat_of_zero_le hr.1
 have hlk:b.edges+(b.outer.length:Int)=(al b:Nat):=by unfold al;omega
 have hroot:∀i:Nat,gE b i=(!(decide ((dc b (-1 - (i:Int))).length=0)) && decide ((bA b (-1 - (i:Int))).length=0)):=fun i=>rfl
 refine ah Tryz.func226 (fun hw W0=>?_)
 refine kgo ?_
 cases h1:decide ((0:Int)<b.inner.length)
 ·have h1:=of_decide_eq_false h1
  refine kgo ?_
  refine aO (fun h2=>?_) (fun h2=>?_)
  ·refine kgo ?_
   rw [lE (.inr h2)]
   exact ar
  refine kgo ?_
  refine aj [1] (fun i:Nat=>i≤R∧(List.range i).all (gE b)=true) (fun i=>R - i) (fun i=>[(3,.sy (.d (.i i)))]) 0 ⟨Nat.zero_le _,rfl⟩ (fun i hi=>?_)
  refine kgo ?_
  refine aO (fun h3=>?_) (fun h3=>?_)
  ·have hlt:i<R:=by omega
   have f1:=rE b (-1 - (i:Int)) (by omega)
   have f2:=mC b (-1 - (i:Int)) (by omega)
   have hk1:=mt b (-1 - (i:Int))
   have hk2:=ry b (-1 - (i:Int))
   have hok:=hroot i
   have bad:gE b i=false→bN b=false:=fun h=>uE i (by rw [hR];exact hlt) h
   refine kgo ?_
   cases h4:decide (((dc b (-1 - (i:Int))).length:Int)=0)
   ·have h4:=of_decide_eq_false h4
    rw [decide_eq_false (by omega)] at hok
    refine kgo ?_
    refine aO (fun h5=>?_) (fun h5=>?_)
    ·rw [decide_eq_false (by omega)] at hok
     refine kgo ?_
     rw [bad hok]
     exact ar
    ·rw [decide_eq_true (by omega)] at hok
     refine kgo ?_
     exact af (i+1) ⟨hlt,by rw [dz,hi.2,hok];rfl⟩ (by omega)
   ·have h4:=of_decide_eq_true h4
    rw [decide_eq_true (by omega)] at hok
    refine kgo ?_
    rw [bad hok]
    exact ar
  have hroots:(List.range b.roots.toNat).all (gE b)=true:=by rw [hR,Int.toNat_natCast];exact fu _ _ i (by omega) hi.1 hi.2
  refine kgo ?_
  refine aj [1] (fun i:Nat=>i≤b.nodes.length∧(List.range i).all (dg b)=true) (fun i=>b.nodes.length - i) (fun i=>[(4,.sy (.d (.i i)))]) 0 ⟨Nat.zero_le _,rfl⟩ (fun i hi=>?_)
  refine kgo ?_
  refine aO (fun h3=>?_) (fun h3=>?_)
  ·have hlt:i<b.nodes.length:=by omega
   have f2:=mC b i (by omega)
   have hk1:=mt b i
   have hok:dg b i=decide ((bA b i).length≤1):=rfl
   refine kgo ?_
   refine aO (fun h5=>?_) (fun h5=>?_)
   ·rw [decide_eq_false (by omega)] at hok
    refine kgo ?_
    rw [vM i hlt hok]
    exact ar
   ·rw [decide_eq_true (by omega)] at hok
    refine kgo ?_
    exact af (i+1) ⟨hlt,by rw [dz,hi.2,hok];rfl⟩ (by omega)
  have hnodes:(List.range b.nodes.length).all (dg b)=true:=fu _ _ i (by omega) hi.1 hi.2
  refine kgo ?_
  refine aj [1] (fun i:Nat=>i≤al b∧(List.range i).all (dB b)=true) (fun i=>al b - i) (fun i=>[(5,.sy (.d (.i i)))]) 0 ⟨Nat.zero_le _,rfl⟩ (fun i hi=>?_)
  refine kgo ?_
  refine aO (fun h3=>?_) (fun h3=>?_)
  ·have hlt:i<al b:=by omega
   have f2:=CI d i (by assumption)
   have hok:dB b i = !(nP b i):=rfl
   refine kgo ?_
   refine cIf (fun h5=>?_) (fun h5=>?_)
   ·rw [h5] at hok
    refine kgo ?_
    rw [ur (bw _ _ i hlt hok)]
    exact ar
   ·rw [h5] at hok
    refine kgo ?_
    exact af (i+1) ⟨hlt,by rw [dz,hi.2,hok];rfl⟩ (by omega)
  refine kgo ?_
  rw [qy (by omega) h2 hroots hnodes (fu _ _ i (by omega) hi.1 hi.2)]
  exact ar
 ·have h1:=of_decide_eq_true h1
  refine kgo ?_
  rw [lE (.inl (by omega))]
  exact ar
theorem Bf (sig:List Ctl) (b:Big) (hl:b.inner.length≤1048576):FnD Tryz.prog 176 [.l 3 (sig.map Ctl.D),b.D] (.d (.b (aF sig b && bN b))):=by
 have f1:=gv sig b (by omega)
 refine ah Tryz.func176 (fun hw W0=>?_)
 refine kgo ?_
 cases h:aF sig b
 ·refine kgo ?_
  exact ar
 ·have f2:=A3 (bB h) (by have:=(aL h).2.2.2.2.2;omega)
  refine kgo ?_
  exact ar
theorem qW (a c:List ByteArray):FnD Tryz.prog 177 [DS a,DS c] (.d (.b (eqS a c))):=by
 refine ah Tryz.func177 (fun hw W0=>?_)
 have hl:=(wfM hw.1).1
 have hl2:=(wfM hw.2.1).1
 refine kgo ?_
 refine aj [0,1] (fun i:Nat=>i≤a.length∧i≤c.length∧(List.range i).all (kv a c)=true) (fun i=>a.length - i) (fun i=>[(5,.sy (.d (.i i)))]) 0 ⟨Nat.zero_le _,Nat.zero_le _,rfl⟩ (fun i hi=>?_)
 refine kgo ?_
 cases h:decide ((i:Int)<a.length)
 ·have h:=of_decide_eq_false h
  refine kgo ?_
  rw [show eqS a c=decide ((a.length:Int)=c.length) from by unfold eqS;rw [fu _ _ i (by omega) hi.1 hi.2.2,Bool.and_true];exact decide_eq_decide.2 (by omega)]
  exact ar
 have h:=of_decide_eq_true h
 refine kgo ?_
 refine aO (fun h2=>?_) (fun h2=>?_)
 ·have hlt:i<a.length:=by omega
  have hlt2:i<c.length:=by omega
  have hs:=kB a c i hlt hlt2
  refine kgo ?_
  refine cIf (fun h3=>?_) (fun h3=>?_)
  ·refine kgo ?_
   rw [qD (c:=c) i hlt (by rw [hs];simpa using h3)]
   exact ar
  ·refine kgo ?_
   exact af (i+1) ⟨hlt,hlt2,by rw [dz,hi.2.2,hs];simpa using h3⟩ (by omega)
 ·refine kgo ?_
  rw [show eqS a c=decide ((a.length:Int)=c.length) from by unfold eqS;rw [decide_eq_false (by omega),Bool.false_and,decide_eq_false (by omega)]]
  exact ar
theorem yi (r:Rul) (h1:r.redex.sites.length≤1000) (h2:r.reactum.sites.length≤1000):FnD Tryz.prog 178 [r.D] (.d (.b (decide (r.copies.length=r.reactum.sites.length) && r.copies.all (jk r)))):=by
 refine ah Tryz.func178 (fun hw W0=>?_)
 have hl:=(wfM hw.1.2.2.1).1
 refine kgo ?_
 refine aj [1] (fun i:Nat=>i≤r.copies.length∧(r.copies.take i).all (jk r)=true) (fun i=>r.copies.length - i) (fun i=>[(3,.sy (.d (.i i)))]) 0 ⟨Nat.zero_le _,rfl⟩ (fun i hi=>?_)
 refine kgo ?_
 refine aO (fun h=>?_) (fun h=>?_)
 ·have hlt:i<r.copies.length:=by omega
  have f1:=tw r.copies[i] 0 (r.redex.sites.length - 1)
  have hok:jk r r.copies[i]=inR r.copies[i] 0 ((r.redex.sites.length:Int) - 1):=rfl
  refine kgo ?_
  refine cIf (fun h3=>?_) (fun h3=>?_)
  ·rw [Bool.not_eq_true'] at h3
   rw [h3] at hok
   refine kgo ?_
   rw [show r.copies.all (jk r)=false from List.all_eq_false.2 ⟨_,List.getElem_mem hlt,by rw [hok];exact Bool.false_ne_true⟩,Bool.and_false]
   exact ar
  ·rw [Bool.not_eq_false'] at h3
   rw [h3] at hok
   refine kgo ?_
   exact af (i+1) ⟨hlt,by rw [List.take_succ_eq_append_getElem hlt,List.all_append,hi.2,List.all_cons,hok];rfl⟩ (by omega)
 refine kgo ?_
 rw [gC _ _ i (by omega) hi.2,Bool.and_true,show decide (r.copies.length=r.reactum.sites.length)=decide ((r.copies.length:Int)=r.reactum.sites.length) from decide_eq_decide.2 (by omega)]
 exact ar
theorem CD (sig:List Ctl) (r:Rul) (h1:r.redex.inner.length≤1048576) (h2:r.reactum.inner.length≤1048576):FnD Tryz.prog 121 [.l 3 (sig.map Ctl.D),r.D] (.d (.b (gV sig r))):=by
 have f1:=Bf sig r.redex h1
 have f2:=gv sig r.reactum (by omega)
 have f3:=qW r.redex.outer r.reactum.outer
 have hE:gV sig r=((aF sig r.redex && aF sig r.reactum) && (bN r.redex && (decide (r.reactum.inner.length=0) && (decide (r.redex.roots=r.reactum.roots) && (eqS r.redex.outer r.reactum.outer && (decide (r.copies.length=r.reactum.sites.length) && r.copies.all (jk r))))))):=rfl
 have hz:decide (r.reactum.inner.length=0)=decide ((r.reactum.inner.length:Int)=0):=decide_eq_decide.2 (by omega)
 rw [hz] at hE
 refine ah Tryz.func121 (fun hw W0=>?_)
 rw [hE]
 refine kgo ?_
 cases e1:aF sig r.redex
 ·refine kgo ?_
  exact ar
 cases e2:bN r.redex
 ·rw [Bool.false_and,Bool.and_false]
  refine kgo ?_
  exact ar
 refine kgo ?_
 cases e3:aF sig r.reactum
 ·refine kgo ?_
  exact ar
 refine kgo ?_
 cases e4:decide ((r.reactum.inner.length:Int)=0)
 ·refine kgo ?_
  exact ar
 refine kgo ?_
 cases e5:decide (r.redex.roots=r.reactum.roots)
 ·refine kgo ?_
  exact ar
 refine kgo ?_
 cases e6:eqS r.redex.outer r.reactum.outer
 ·refine kgo ?_
  exact ar
 have f4:=yi r (by have:=(bB e1).4;omega) (by have:=(bB e3).4;omega)
 refine kgo ?_
 exact ar
theorem uj (sig:List Ctl) (rs:List Rul) (hr:∀r∈rs,r.redex.inner.length≤1048576∧r.reactum.inner.length≤1048576):FnD Tryz.prog 82 [.l 3 (sig.map Ctl.D),.l 13 (rs.map Rul.D)] (.d (.b (fo sig rs))):=by
 have f2:=Ar sig
 have f3:=tw rs.length 1 6
 refine ah Tryz.func82 (fun hw W0=>?_)
 have hl:=(wfM hw.2.1).1
 refine kgo ?_
 refine aj [0,1] (fun i:Nat=>i≤rs.length∧(rs.take i).all (gV sig)=true) (fun i=>rs.length - i) (fun i=>[(5,.sy (.d (.i i)))]) 0 ⟨Nat.zero_le _,rfl⟩ (fun i hi=>?_)
 refine kgo ?_
 refine aO (fun h=>?_) (fun h=>?_)
 ·have hlt:i<rs.length:=by omega
  have hm:=List.getElem_mem hlt
  have f1:=CD sig rs[i] (hr _ hm).1 (hr _ hm).2
  refine kgo ?_
  refine cIf (fun h3=>?_) (fun h3=>?_)
  ·rw [Bool.not_eq_true'] at h3
   refine kgo ?_
   rw [show fo sig rs=false from by unfold fo;rw [show rs.all (gV sig)=false from List.all_eq_false.2 ⟨_,hm,by rw [h3];exact Bool.false_ne_true⟩,Bool.and_false]]
   exact ar
  ·rw [Bool.not_eq_false'] at h3
   refine kgo ?_
   exact af (i+1) ⟨hlt,by rw [List.take_succ_eq_append_getElem hlt,List.all_append,hi.2,List.all_cons,h3];rfl⟩ (by omega)
 have hall:=gC _ _ i (by omega) hi.2
 have hE:fo sig rs=inR (rs.length:Int) 1 6:=by unfold fo;rw [hall,Bool.and_true]
 refine kgo ?_
 cases e1:lr sig
 ·rw [show fo sig rs=false from by
   cases hb:fo sig rs with
   | false=>rfl
   | true=>rw [xP hb] at e1;cases e1]
  refine kgo ?_
  exact ar
 ·rw [hE]
  refine kgo ?_
  exact ar
theorem tZ (sig:List Ctl) (b:Big) (hl:b.inner.length≤1048576):FnD Tryz.prog 83 [.l 3 (sig.map Ctl.D),b.D] (.d (.b (dp sig b))):=by
 have f1:=gv sig b (by omega)
 have hE:dp sig b=(aF sig b && (decide ((b.sites.length:Int)=0) && decide ((b.inner.length:Int)=0))):=by
  unfold dp
  rw [show decide (b.sites.length=0)=decide ((b.sites.length:Int)=0) from decide_eq_decide.2 (by omega),show decide (b.inner.length=0)=decide ((b.inner.length:Int)=0) from decide_eq_decide.2 (by omega)]
 refine ah Tryz.func83 (fun hw W0=>?_)
 have hs:=(wfM hw.2.1.2.2.1).1
 rw [hE]
 refine kgo ?_
 cases e1:aF sig b
 ·refine kgo ?_
  exact ar
 refine kgo ?_
 cases e2:decide ((b.sites.length:Int)=0)
 ·refine kgo ?_
  exact ar
 refine kgo ?_
 exact ar
end Go.Proofs.YtclpbhoekmecjaaGreatDoor
namespace Go.Proofs.YtclpbhoekmecjaaGreatDoor
open Go.RowKit
set_option linter.unusedVariables false
set_option maxRecDepth 100000
set_option maxHeartbeats 4000000
attribute [local irreducible] aq Der At
theorem cP {r a:Big} {m:Mat} (h:eh r a m=true):sd r a m.nodes=true∧fY r a m=true∧(List.range m.nodes.length).all (lI r a m)=true∧gB r a m.nodes=true:=by
 unfold eh at h
 simp only [Bool.and_eq_true] at h
 exact ⟨h.1.1,h.1.2,h.2.2.1,h.2.2.2⟩
theorem lX {r a:Big} {m:Mat} (h:fY r a m=true):∀p∈m.roots,-a.roots≤p∧p<(a.nodes.length:Int):=fun p hp=>by
 unfold fY at h
 rw [Bool.and_eq_true] at h
 have h2:=List.all_eq_true.1 h.1 p hp
 unfold kg at h2
 rw [Bool.and_eq_true] at h2
 have:=bO h2.1
 omega
theorem gd {sig:List Ctl} {r:Rul} (h:gV sig r=true):aF sig r.redex=true∧aF sig r.reactum=true∧bN r.redex=true∧r.reactum.inner.length=0∧r.redex.roots=r.reactum.roots∧eqS r.redex.outer r.reactum.outer=true∧r.copies.length=r.reactum.sites.length∧r.copies.all (jk r)=true:=by
 unfold gV at h
 simp only [Bool.and_eq_true,decide_eq_true_eq] at h
 obtain ⟨⟨a,b⟩,c,d,e,f,g,i⟩:=h
 exact ⟨a,b,c,d,e,f,g,i⟩
theorem o8 {r a:Big} {m:Mat} (h:eh r a m=true) (i:Nat) (hi:i<a.nodes.length) (h1:nr a m.nodes i=true) (h2:fT m.nodes (ew a i).parent=true):0<(bA r (dv m.nodes (ew a i).parent)).length:=by
 have hk:=(cP h).2.2.1
 have hm:=cT.1 h2
 have hlt:m.nodes.idxOf (ew a i).parent<m.nodes.length:=List.idxOf_lt_length_of_mem hm
 have h3:=(aH _ _).1 hk _ hlt
 have he:atI m.nodes (m.nodes.idxOf (ew a i).parent:Nat)=(ew a i).parent:=by rw [b8 _ _ hlt];exact List.getElem_idxOf hlt
 unfold lI at h3
 rw [he] at h3
 rw [show dv m.nodes (ew a i).parent=(m.nodes.idxOf (ew a i).parent:Nat) from if_pos h2]
 by_cases hz:(bA r (m.nodes.idxOf (ew a i).parent:Nat)).length=0
 ·rw [decide_eq_true hz,Bool.not_true,Bool.false_or] at h3
  have hik:(i:Int)∈dc a (ew a i).parent:=bz.2 ⟨i,hi,by unfold pG;rw [List.getElem?_eq_getElem hi,av a i hi];exact decide_eq_true rfl,rfl⟩
  have h4:=List.all_eq_true.1 h3 _ hik
  unfold nr at h1
  rw [h4] at h1
  simp at h1
 ·omega
theorem mR {outer:List ByteArray} {n:Nat} (h:n+outer.length≤16):(bJ outer n).length=n:=by
 have:=AD outer 26 (Nat.le_refl _)
 show ((lq outer 26).take n).length=n
 rw [List.length_take];omega
theorem rT {r a:Big} {ns:List Int} (h:(dX r a ns).2.2=true):(dX r a ns).2.1.length=(dX r a ns).1.length∧(dX r a ns).1.length≤16∧∀l∈(dX r a ns).1,0≤l∧l<(al a:Int):=by
 unfold dX at h ⊢
 split at h
 ·cases h
 ·rename_i hn
  rw [if_neg hn]
  have hn:=of_decide_eq_false (by simpa using hn:decide (16<((idxOf (psF a ns) (al a)).length:Int)+r.outer.length)=false)
  dsimp only
  refine ⟨mR (by omega),by omega,fun l hl=>?_⟩
  obtain ⟨i,hi,_,rfl⟩:=bz.1 hl
  omega
abbrev gU (r:Big) (a:Big) (m:Mat):Big:=FV r a m (dX r a m.nodes).1 (dX r a m.nodes).2.1
abbrev gm (r:Big) (a:Big) (m:Mat):Big:=GC r a m (dX r a m.nodes).1 (dX r a m.nodes).2.1
def fw (sig:List Ctl) (r:Rul) (a:Big) (m:Mat):Big × Bool:=
 if (dX r.redex a m.nodes).2.2 && (aF sig (gU r.redex a m) && aF sig (gm r.redex a m)) then nt sig r.reactum (gU r.redex a m) (mo r.copies (gm r.redex a m)) else (dx,false)
theorem lR {sig:List Ctl} {r:Rul} {a:Big} {m:Mat} (h:((dX r.redex a m.nodes).2.2 && (aF sig (gU r.redex a m) && aF sig (gm r.redex a m)))=false):fw sig r a m=(dx,false):=by unfold fw;rw [h];rfl
theorem ox {sig:List Ctl} {r:Rul} {a:Big} {m:Mat} (h:((dX r.redex a m.nodes).2.2 && (aF sig (gU r.redex a m) && aF sig (gm r.redex a m)))=true):fw sig r a m=nt sig r.reactum (gU r.redex a m) (mo r.copies (gm r.redex a m)):=by unfold fw;rw [h];rfl
theorem yd {sig:List Ctl} {a b:Big} (h:(fc sig a b).2=true):(fc sig a b).1=tU a b∧aF sig (tU a b)=true:=by
 unfold fc at h ⊢
 split at h
 ·rename_i hc
  rw [if_pos hc]
  simp only [Bool.and_eq_true] at hc
  exact ⟨rfl,hc.2.2.2⟩
 ·cases h
theorem pb {sig:List Ctl} {r:Rul} {a:Big} {m:Mat} (h:(fw sig r a m).2=true):dp sig (fw sig r a m).1=true:=by
 cases hc:((dX r.redex a m.nodes).2.2 && (aF sig (gU r.redex a m) && aF sig (gm r.redex a m))) with
 | false=>rw [lR hc] at h;cases h
 | true=>
  rw [ox hc] at h ⊢
  unfold nt at h ⊢
  split at h
  ·rename_i h1
   split at h
   ·rename_i h2
    rw [if_pos h1,if_pos h2]
    obtain ⟨e1,e2⟩:=yd h
    rw [e1]
    unfold dp
    rw [e2]
    rfl
   ·cases h
  ·cases h
theorem zB {sig:List Ctl} {r:Rul} {a:Big} (m:Mat) (hr:gV sig r=true) (ha:aF sig a=true) (hm:eh r.redex a m=true):FnD Tryz.prog 94 [.l 3 (sig.map Ctl.D),r.D,a.D,m.D] (.tp [(fw sig r a m).1.D,.b (fw sig r a m).2]):=by
 obtain ⟨r1,r2,r3,r4,r5,r6,r7,r8⟩:=gd hr
 obtain ⟨m1,m2,m3,m4⟩:=cP hm
 have hd:=aL r1
 have hd2:=aL r2
 have f1:=xV (r:=r.redex) ha m (by omega)
 have hml:=ji (rs:=m.roots) (ns:=m.nodes) m2
 have f2:(dX r.redex a m.nodes).2.2=true→FnD Tryz.prog 135 [r.redex.D,a.D,m.D,DI (dX r.redex a m.nodes).1,DS (dX r.redex a m.nodes).2.1] (.d (gU r.redex a m).D):=fun h=>by
  obtain ⟨p1,p2,p3⟩:=rT h
  exact uW m r1 ha (iR m1) (iA r3) m4 (fun p hp=>(lX m2 p hp).2) (by omega) _ _ p3 p1 (by omega)
 have f3:(dX r.redex a m.nodes).2.2=true→FnD Tryz.prog 136 [r.redex.D,a.D,m.D,DI (dX r.redex a m.nodes).1,DS (dX r.redex a m.nodes).2.1] (.d (gm r.redex a m).D):=fun h=>by
  obtain ⟨p1,p2,p3⟩:=rT h
  exact Dv m r1 ha (o8 hm) _ _ p3 p1 (by omega)
 have hx:(dX r.redex a m.nodes).2.2=true→(gU r.redex a m).inner.length≤1000:=fun h=>by
  obtain ⟨p1,p2,p3⟩:=rT h
  show (bQ _ _).length≤1000
  rw [kV]
  unfold o6 zW
  rw [List.length_mapIdx,List.length_mapIdx];omega
 refine ah Tryz.func94 (fun hw W0=>?_)
 refine kgo ?_
 cases h1:(dX r.redex a m.nodes).2.2
 ·rw [lR (by rw [h1];rfl)]
  refine kgo ?_
  exact g8
 have f2:=f2 h1
 have f3:=f3 h1
 have hx:=hx h1
 have f4:=gv sig (gU r.redex a m) (by omega)
 have f5:=gv sig (gm r.redex a m) (by show (0:Nat)≤_;omega)
 have hno:(aF sig (gU r.redex a m) && aF sig (gm r.redex a m))=false→fw sig r a m=(dx,false):=fun h=>lR (by rw [h1,h];rfl)
 have hyes:(aF sig (gU r.redex a m) && aF sig (gm r.redex a m))=true→fw sig r a m=nt sig r.reactum (gU r.redex a m) (mo r.copies (gm r.redex a m)):=fun h=>ox (by rw [h1,h];rfl)
 generalize gU r.redex a m=C at *
 generalize gm r.redex a m=Q at *
 refine kgo ?_
 cases h2:aF sig C
 ·rw [hno (by rw [h2];rfl)]
  refine kgo ?_
  exact g8
 refine kgo ?_
 cases h3:aF sig Q
 ·rw [hno (by rw [h2,h3];rfl)]
  refine kgo ?_
  exact g8
 rw [hyes (by rw [h2,h3];rfl)]
 have f6:=tS r h3 (by omega)
 have f7:=xF sig r.reactum C (mo r.copies Q) (by omega) (by show (0:Nat)≤_;omega)
 refine kgo ?_
 exact g8
structure Trc where
 rules:List Int
 ms:List Mat
abbrev Trc.D (t:Trc):D:=.t [DI t.rules,.l 2 (t.ms.map Mat.D)]
theorem ij {sig:List Ctl} {b:Big} (h:dp sig b=true):aF sig b=true:=(Bool.and_eq_true_iff.1 h).1
end Go.Proofs.YtclpbhoekmecjaaGreatDoor
namespace Go.Proofs.YtclpbhoekmecjaaGreatDoor
open Go.RowKit Go.ChangeShapes Go.WideShapes Go.ChangeAt Go.Joins
set_option linter.unusedVariables false
set_option linter.unusedSimpArgs false
set_option maxRecDepth 100000
theorem own:ownKnob Tryz.prog.godebug=none:=by kernel_rfl
theorem lL:laidOutB Tryz.prog=true:=by kernel_rfl
def xx : List (String × DataW Unit) := [("unicode/utf8.acceptRanges", Rows.laid_unicode_utf8_acceptRanges), ("unicode/utf8.first", Rows.laid_unicode_utf8_first)]
theorem wq (os:Os) (args:Array Value):laidMetH Tryz.prog xx ((World.laidAll Tryz.prog os xx).forCall (fun _ _=>0) ⟨#[],args,[]⟩).memory:=by
 rw [MakeChecks.laidMetH_plain _ _ _ (by kernel_rfl)];exact laidMet_laidAll _ (by kernel_rfl) (by kernel_rfl)
def LD {α:Type} (f:α→D):Lie α:=fun lo hi w cs x=>Rp w (fun b=>b<hi) (f x) cs
theorem qk {α:Type} {f:α→D} {z hi:Nat} {w:World} {v:Value} {xs:List α} (h:SlV z (LD f) 0 hi w v xs):Rp w (fun b=>b<hi) (.l z (xs.map f)) [v]:=by
 obtain ⟨a,k,h1,h2,h3,h4,h5⟩:=h
 refine ⟨a,k,by rw [h1,List.length_map],by rw [List.length_map];exact h2,h3,h4,?_⟩
 rcases h5 with h5|⟨b,o,e1,_,e2,e3⟩
 ·exact .inl (by rw [h5];rfl)
 ·refine .inr ⟨b,o,e1,e2,(iO _ _).2 fun j hj=>?_⟩
  obtain ⟨cs,q1,q2,q3⟩:=e3 j (by rw [List.length_map] at hj;exact hj)
  exact ⟨cs,q1,by rw [List.getElem_map];exact q2,q3⟩
section
variable {H:Type} {enc:TypeId × Value→H} {w:World}
theorem gI:Tryz.prog.cellsOf 3=1:=by kernel_rfl
theorem kb:Tryz.prog.cellsOf 9=1:=by kernel_rfl
theorem ke:iq enc Tryz.prog w 3 (LD D.i):=fun fuel cs x h=>by obtain ⟨n,h1,h2⟩:=A5 Tryz.underlying3 fuel cs x h;exact ⟨n,h1,h2⟩
theorem uX:iq enc Tryz.prog w 9 (LD D.s):=fun fuel cs x h=>by obtain ⟨n,h1,h2⟩:=sO Tryz.underlying9 fuel cs x h;exact ⟨n,h1,h2⟩
theorem lQ:Tryz.prog.cellsOf 80=3:=by kernel_rfl
theorem qz:iq enc Tryz.prog w 80 (LD Ctl.D):=by
 intro fuel cs x h
 obtain ⟨hl,n,hf⟩:=ip Tryz.underlying80 h
 rw [lQ] at hl
 obtain ⟨c0,c1,c2,rfl⟩:=G6 hl
 obtain ⟨y0,e0⟩:=hf 0 _ rfl
 replace e0:DataW.trod enc Tryz.prog w 0 (fun _=>true) true n 9 [c0]=some y0:=by simpa [kb] using e0
 obtain ⟨x0,b0⟩:=uX _ _ _ e0
 obtain ⟨y1,e1⟩:=hf 1 _ rfl
 replace e1:DataW.trod enc Tryz.prog w 0 (fun _=>true) true n 3 [c1]=some y1:=by simpa [gI] using e1
 obtain ⟨x1,b1⟩:=ke _ _ _ e1
 obtain ⟨y2,e2⟩:=hf 2 _ rfl
 replace e2:DataW.trod enc Tryz.prog w 0 (fun _=>true) true n 3 [c2]=some y2:=by simpa [gI] using e2
 obtain ⟨x2,b2⟩:=ke _ _ _ e2
 exact ⟨⟨x0,x1,x2⟩,[c0],_,rfl,b0,[c1],_,rfl,b1,[c2],_,rfl,b2,rfl⟩
theorem mU:Tryz.prog.cellsOf 25=1:=by kernel_rfl
theorem mP:∀fuel cs x,DataW.trod enc Tryz.prog w 0 (fun _=>true) true fuel 25 cs=some x→∃v xs,cs = [v]∧Rp w (fun b=>b<w.heap.size) (.l 1 (List.map D.i xs)) [v]:=fun fuel cs x h=>by obtain ⟨v,xs,h1,h2⟩:=fZ Tryz.underlying25 gI (by decide) ke fuel cs x h;exact ⟨v,xs,h1,qk h2⟩
theorem qr:Tryz.prog.cellsOf 125=3:=by kernel_rfl
theorem xU:iq enc Tryz.prog w 125 (LD Nd.D):=by
 intro fuel cs x h
 obtain ⟨hl,n,hf⟩:=ip Tryz.underlying125 h
 rw [qr] at hl
 obtain ⟨c0,c1,c2,rfl⟩:=G6 hl
 obtain ⟨y0,e0⟩:=hf 0 _ rfl
 replace e0:DataW.trod enc Tryz.prog w 0 (fun _=>true) true n 3 [c0]=some y0:=by simpa [gI] using e0
 obtain ⟨x0,b0⟩:=ke _ _ _ e0
 obtain ⟨y1,e1⟩:=hf 1 _ rfl
 replace e1:DataW.trod enc Tryz.prog w 0 (fun _=>true) true n 3 [c1]=some y1:=by simpa [gI] using e1
 obtain ⟨x1,b1⟩:=ke _ _ _ e1
 obtain ⟨y2,e2⟩:=hf 2 _ rfl
 replace e2:DataW.trod enc Tryz.prog w 0 (fun _=>true) true n 25 [c2]=some y2:=by simpa [mU] using e2
 obtain ⟨v2,x2,h2,b2⟩:=mP _ _ _ e2
 obtain rfl:=(List.cons.inj h2).1
 exact ⟨⟨x0,x1,x2⟩,[c0],_,rfl,b0,[c1],_,rfl,b1,[c2],_,rfl,b2,rfl⟩
theorem qd:Tryz.prog.cellsOf 128=2:=by kernel_rfl
theorem yQ:iq enc Tryz.prog w 128 (LD Wr.D):=by
 intro fuel cs x h
 obtain ⟨hl,n,hf⟩:=ip Tryz.underlying128 h
 rw [qd] at hl
 obtain ⟨c0,c1,rfl⟩:=Ig hl
 obtain ⟨y0,e0⟩:=hf 0 _ rfl
 replace e0:DataW.trod enc Tryz.prog w 0 (fun _=>true) true n 9 [c0]=some y0:=by simpa [kb] using e0
 obtain ⟨x0,b0⟩:=uX _ _ _ e0
 obtain ⟨y1,e1⟩:=hf 1 _ rfl
 replace e1:DataW.trod enc Tryz.prog w 0 (fun _=>true) true n 3 [c1]=some y1:=by simpa [gI] using e1
 obtain ⟨x1,b1⟩:=ke _ _ _ e1
 exact ⟨⟨x0,x1⟩,[c0],_,rfl,b0,[c1],_,rfl,b1,rfl⟩
theorem vZ:Tryz.prog.cellsOf 24=1:=by kernel_rfl
theorem uu:∀fuel cs x,DataW.trod enc Tryz.prog w 0 (fun _=>true) true fuel 24 cs=some x→∃v xs,cs = [v]∧Rp w (fun b=>b<w.heap.size) (.l 3 (List.map Nd.D xs)) [v]:=fun fuel cs x h=>by obtain ⟨v,xs,h1,h2⟩:=fZ Tryz.underlying24 qr (by decide) xU fuel cs x h;exact ⟨v,xs,h1,qk h2⟩
theorem rZ:Tryz.prog.cellsOf 26=1:=by kernel_rfl
theorem qH:∀fuel cs x,DataW.trod enc Tryz.prog w 0 (fun _=>true) true fuel 26 cs=some x→∃v xs,cs = [v]∧Rp w (fun b=>b<w.heap.size) (.l 1 (List.map D.s xs)) [v]:=fun fuel cs x h=>by obtain ⟨v,xs,h1,h2⟩:=fZ Tryz.underlying26 kb (by decide) uX fuel cs x h;exact ⟨v,xs,h1,qk h2⟩
theorem vl:Tryz.prog.cellsOf 27=1:=by kernel_rfl
theorem wd:∀fuel cs x,DataW.trod enc Tryz.prog w 0 (fun _=>true) true fuel 27 cs=some x→∃v xs,cs = [v]∧Rp w (fun b=>b<w.heap.size) (.l 2 (List.map Wr.D xs)) [v]:=fun fuel cs x h=>by obtain ⟨v,xs,h1,h2⟩:=fZ Tryz.underlying27 qd (by decide) yQ fuel cs x h;exact ⟨v,xs,h1,qk h2⟩
theorem js:Tryz.prog.cellsOf 29=6:=by kernel_rfl
theorem gT:iq enc Tryz.prog w 29 (LD Big.D):=by
 intro fuel cs x h
 obtain ⟨hl,n,hf⟩:=ip Tryz.underlying29 h
 rw [js] at hl
 obtain ⟨c0,c1,c2,c3,c4,c5,rfl⟩:=It hl
 obtain ⟨y0,e0⟩:=hf 0 _ rfl
 replace e0:DataW.trod enc Tryz.prog w 0 (fun _=>true) true n 3 [c0]=some y0:=by simpa [gI] using e0
 obtain ⟨x0,b0⟩:=ke _ _ _ e0
 obtain ⟨y1,e1⟩:=hf 1 _ rfl
 replace e1:DataW.trod enc Tryz.prog w 0 (fun _=>true) true n 24 [c1]=some y1:=by simpa [vZ] using e1
 obtain ⟨v1,x1,h1,b1⟩:=uu _ _ _ e1
 obtain rfl:=(List.cons.inj h1).1
 obtain ⟨y2,e2⟩:=hf 2 _ rfl
 replace e2:DataW.trod enc Tryz.prog w 0 (fun _=>true) true n 25 [c2]=some y2:=by simpa [mU] using e2
 obtain ⟨v2,x2,h2,b2⟩:=mP _ _ _ e2
 obtain rfl:=(List.cons.inj h2).1
 obtain ⟨y3,e3⟩:=hf 3 _ rfl
 replace e3:DataW.trod enc Tryz.prog w 0 (fun _=>true) true n 3 [c3]=some y3:=by simpa [gI] using e3
 obtain ⟨x3,b3⟩:=ke _ _ _ e3
 obtain ⟨y4,e4⟩:=hf 4 _ rfl
 replace e4:DataW.trod enc Tryz.prog w 0 (fun _=>true) true n 26 [c4]=some y4:=by simpa [rZ] using e4
 obtain ⟨v4,x4,h4,b4⟩:=qH _ _ _ e4
 obtain rfl:=(List.cons.inj h4).1
 obtain ⟨y5,e5⟩:=hf 5 _ rfl
 replace e5:DataW.trod enc Tryz.prog w 0 (fun _=>true) true n 27 [c5]=some y5:=by simpa [vl] using e5
 obtain ⟨v5,x5,h5,b5⟩:=wd _ _ _ e5
 obtain rfl:=(List.cons.inj h5).1
 exact ⟨⟨x0,x1,x2,x3,x4,x5⟩,[c0],_,rfl,b0,[c1],_,rfl,b1,[c2],_,rfl,b2,[c3],_,rfl,b3,[c4],_,rfl,b4,[c5],_,rfl,b5,rfl⟩
theorem qw:Tryz.prog.cellsOf 83=13:=by kernel_rfl
theorem xD:iq enc Tryz.prog w 83 (LD Rul.D):=by
 intro fuel cs x h
 obtain ⟨hl,n,hf⟩:=ip Tryz.underlying83 h
 rw [qw] at hl
 obtain ⟨c0,c1,c2,c3,c4,c5,c6,c7,c8,c9,c10,c11,c12,rfl⟩:=GI hl
 obtain ⟨y0,e0⟩:=hf 0 _ rfl
 replace e0:DataW.trod enc Tryz.prog w 0 (fun _=>true) true n 29 [c0,c1,c2,c3,c4,c5]=some y0:=by simpa [js] using e0
 obtain ⟨x0,b0⟩:=gT _ _ _ e0
 obtain ⟨y1,e1⟩:=hf 1 _ rfl
 replace e1:DataW.trod enc Tryz.prog w 0 (fun _=>true) true n 29 [c6,c7,c8,c9,c10,c11]=some y1:=by simpa [js] using e1
 obtain ⟨x1,b1⟩:=gT _ _ _ e1
 obtain ⟨y2,e2⟩:=hf 2 _ rfl
 replace e2:DataW.trod enc Tryz.prog w 0 (fun _=>true) true n 25 [c12]=some y2:=by simpa [mU] using e2
 obtain ⟨v2,x2,h2,b2⟩:=mP _ _ _ e2
 obtain rfl:=(List.cons.inj h2).1
 exact ⟨⟨x0,x1,x2⟩,[c0,c1,c2,c3,c4,c5],_,rfl,b0,[c6,c7,c8,c9,c10,c11],_,rfl,b1,[c12],_,rfl,b2,rfl⟩
theorem k8:∀fuel cs x,DataW.trod enc Tryz.prog w 0 (fun _=>true) true fuel 22 cs=some x→∃v xs,cs = [v]∧Rp w (fun b=>b<w.heap.size) (.l 3 (List.map Ctl.D xs)) [v]:=fun fuel cs x h=>by obtain ⟨v,xs,h1,h2⟩:=fZ Tryz.underlying22 lQ (by decide) qz fuel cs x h;exact ⟨v,xs,h1,qk h2⟩
theorem oY:∀fuel cs x,DataW.trod enc Tryz.prog w 0 (fun _=>true) true fuel 23 cs=some x→∃v xs,cs = [v]∧Rp w (fun b=>b<w.heap.size) (.l 13 (List.map Rul.D xs)) [v]:=fun fuel cs x h=>by obtain ⟨v,xs,h1,h2⟩:=fZ Tryz.underlying23 qw (by decide) xD fuel cs x h;exact ⟨v,xs,h1,qk h2⟩
theorem DN {t:TypeId} {fs:Array Field} {α:Type} {f:α→D} {b0:Nat} {r:Reach} {v:Value} {d:DataW H} {p:List MemPlace} (hs:Tryz.prog.underlying t=some (.struct fs)) (ho:iq enc Tryz.prog w t (LD f))
 (hv:Value.okWide Tryz.prog w r b0 t v) (h:DataW.Trod enc Tryz.prog w 0 (fun _=>true) true t v d p):∃(cs:List Value) (x:α),v=.agg cs.toArray∧Rp w (fun b=>b<w.heap.size) (f x) cs:=by
 obtain ⟨cs,rfl,_⟩:=okWide_struct hs hv
 obtain ⟨fuel,hf⟩:=h
 obtain ⟨x,hx⟩:=ho _ _ _ hf
 exact ⟨cs.toList,x,by simp,by simpa [Value.cells,LD] using hx⟩
theorem rX {t e:TypeId} {α:Type} {f:α→D} {z b0:Nat} {r:Reach} {v:Value} {d:DataW H} {p:List MemPlace} (hs:Tryz.prog.underlying t=some (.slice e))
 (ho:∀fuel cs x,DataW.trod enc Tryz.prog w 0 (fun _=>true) true fuel t cs=some x→∃v xs,cs = [v]∧Rp w (fun b=>b<w.heap.size) (.l z (List.map f xs)) [v])
 (hv:Value.okWide Tryz.prog w r b0 t v) (h:DataW.Trod enc Tryz.prog w 0 (fun _=>true) true t v d p):∃(u:Value) (xs:List α),v=u∧Rp w (fun b=>b<w.heap.size) (.l z (List.map f xs)) [u]:=by
 obtain ⟨a,n,k,rfl⟩:=okWide_slice hs hv
 obtain ⟨fuel,hf⟩:=h
 obtain ⟨u,xs,e,hx⟩:=ho _ _ _ hf
 simp [Value.cells] at e
 exact ⟨u,xs,e,hx⟩
end
theorem Ec {f:FuncId} {ds:List D} (h:FnD Tryz.prog f ds (.d (.b true))) {vs:List Value} {w:World} (hv:DVs w (fun b=>b<w.heap.size) ds vs):Calls Tryz.prog f vs.toArray w fun e w'=>e=.returned (.bool true)∧Ext w w':=
 (h.calls _ w vs hv (fun _ h=>h)).mono fun e w' ⟨v,h1,h2,h3⟩=>⟨by rw [h1,show v=.bool true from (List.cons.inj (show [v] = [Value.bool true] from h3)).1],h2⟩
end Go.Proofs.YtclpbhoekmecjaaGreatDoor
namespace Go.Proofs.YtclpbhoekmecjaaGreatDoor
open Go.RowKit
set_option linter.unusedVariables false
set_option maxRecDepth 100000
set_option maxHeartbeats 4000000
attribute [local irreducible] aq Der At
theorem rU (n lo hi:Int):FnD Tryz.prog 58 [.i n,.i lo,.i hi] (.d (.b (inR n lo hi))):=by
 refine ah Tryz.func58 (fun hw W0=>?_)
 refine kgo ?_
 cases h:decide (lo≤n)
 ·refine kgo ?_
  rw [show inR n lo hi=false from by unfold inR;rw [h];rfl]
  exact ar
 ·refine kgo ?_
  rw [show inR n lo hi=decide (n≤hi) from by unfold inR;rw [h];rfl]
  exact ar
theorem Dn (b:Big) (n:Int) (hl:b.nodes.length≤1000):FnD Tryz.prog 106 [b.D,.i n] (.d (.b (inR n 0 (b.nodes.length - 1)))):=by
 refine ah Tryz.func106 (fun hw W0=>?_)
 have f1:=rU n 0 (b.nodes.length - 1)
 refine kgo ?_
 exact ar
def pH {α:Type} (p:α→Bool) (l:List α):Int:=if l.any p then (l.findIdx p:Int) else -1
theorem uL {α:Type} {p:α→Bool} {l:List α} {i:Nat} (h:i<l.length) (he:p l[i]=true) (hn:(l.take i).any p=false):pH p l=i:=by
 unfold pH
 rw [if_pos (List.any_eq_true.2 ⟨_,List.getElem_mem h,he⟩)]
 have:l.findIdx p=i:=(List.findIdx_eq h).2 ⟨he,fun j hj=>by
  have:=List.any_eq_false.1 hn (l[j]) (List.mem_iff_getElem.2 ⟨j,by rw [List.length_take];omega,by rw [List.getElem_take]⟩)
  simpa using this⟩
 rw [this]
theorem rN {α:Type} {p:α→Bool} {l:List α} (hn:l.any p=false):pH p l = -1:=by unfold pH;rw [hn];rfl
theorem qE {α:Type} (p:α→Bool) (l:List α):decide (0≤pH p l)=l.any p:=by
 unfold pH
 cases h:l.any p
 ·rfl
 ·simp
theorem gX {α:Type} (p:α→Bool) (l:List α) : -1≤pH p l∧pH p l<l.length:=by
 unfold pH
 split
 ·rename_i h
  have:=List.findIdx_lt_length_of_exists (List.any_eq_true.1 h)
  omega
 ·omega
theorem qU {α:Type} {p:α→Bool} {l:List α} {i:Nat} (h:i<l.length) (hi:(l.take i).any p=false) (hp:p l[i]=false):(l.take (i+1)).any p=false:=by
 rw [List.take_succ_eq_append_getElem h,List.any_append,hi,List.any_cons,hp];rfl
theorem vf {α:Type} {p:α→Bool} {l:List α} {i:Nat} (h:l.length≤i) (hi:(l.take i).any p=false):l.any p=false:=by rwa [List.take_of_length_le h] at hi
theorem iM (l:List Int) (n:Int):FnD Tryz.prog 153 [DI l,.i n] (.d (.i (pH (fun x=>x == n) l))):=by
 refine ah Tryz.func153 (fun hw W0=>?_)
 have hl:=(wfM hw.1).1
 refine kgo ?_
 refine aj [0,1,7] (fun i:Nat=>i≤l.length∧(l.take i).any (fun x=>x == n)=false) (fun i=>l.length - i) (fun i=>[(8,.sy (.d (.i i)))]) 0 ⟨Nat.zero_le _,rfl⟩ (fun i hi=>?_)
 refine kgo ?_
 refine aO (fun h=>?_) (fun h=>?_)
 ·have hlt:i<l.length:=by omega
  refine kgo ?_
  refine aO (fun h2=>?_) (fun h2=>?_)
  ·refine kgo ?_
   rw [uL hlt (by rw [← h2];exact beq_self_eq_true _) hi.2]
   exact ar
  ·refine kgo ?_
   exact af (i+1) ⟨hlt,qU hlt hi.2 (by rw [beq_eq_false_iff_ne];exact fun e=>h2 e.symm)⟩ (by omega)
 refine kgo ?_
 rw [rN (vf (by omega) hi.2)]
 exact ar
theorem gg (l:List Int) (n:Int):FnD Tryz.prog 107 [DI l,.i n] (.d (.b (fT l n))):=by
 refine ah Tryz.func107 (fun hw W0=>?_)
 have f1:=iM l n
 have hr:=gX (fun x=>x == n) l
 have hp:=qE (fun x=>x == n) l
 refine kgo ?_
 rw [show fT l n=l.any (fun x=>x == n) from rfl,← hp]
 exact ar
theorem s7 (l:List Int) (g:Nat) (cs:List D) (p:Int→Bool) (hct:(cs.all fun r=>!isT r)=true) (hp:∀x∈l,FnD Tryz.prog g ([.i x]++cs) (.d (.b (p x)))):FnD Tryz.prog 154 [DI l,.f g cs] (.d (.i (pH p l))):=by
 refine ah Tryz.func154 (fun hw W0=>?_)
 have hl:=(wfM hw.1).1
 refine kgo ?_
 refine aj [0,1,7] (fun i:Nat=>i≤l.length∧(l.take i).any p=false) (fun i=>l.length - i) (fun i=>[(8,.sy (.d (.i i)))]) 0 ⟨Nat.zero_le _,rfl⟩ (fun i hi=>?_)
 refine kgo ?_
 refine aO (fun h=>?_) (fun h=>?_)
 ·have hlt:i<l.length:=by omega
  have f1:=hp _ (List.getElem_mem hlt)
  refine kgo ?_
  refine cIf (fun h2=>?_) (fun h2=>?_)
  ·refine kgo ?_
   rw [uL hlt h2 hi.2]
   exact ar
  ·refine kgo ?_
   exact af (i+1) ⟨hlt,qU hlt hi.2 h2⟩ (by omega)
 refine kgo ?_
 rw [rN (vf (by omega) hi.2)]
 exact ar
theorem ik (l:List Int) (g:Nat) (cs:List D) (p:Int→Bool) (hct:(cs.all fun r=>!isT r)=true) (hp:∀x∈l,FnD Tryz.prog g ([.i x]++cs) (.d (.b (p x)))):FnD Tryz.prog 108 [DI l,.f g cs] (.d (.b (l.any p))):=by
 refine ah Tryz.func108 (fun hw W0=>?_)
 have f1:=s7 l g cs p hct hp
 have hr:=gX p l
 have hq:=qE p l
 refine kgo ?_
 rw [← hq]
 exact ar
theorem lZ {sig:List Ctl} {a:Big} (hB:aF sig a=true) (ns:List Int) (p0:Int) (hp:p0<a.nodes.length):FnD Tryz.prog 110 [a.D,.i p0,DI ns] (.d (.b (iF a ns p0))):=by
 refine ah Tryz.func110 (fun hw W0=>?_)
 refine kgo ?_
 refine aj [2,3] (fun p:Int=>p<a.nodes.length∧iF a ns p0=iF a ns p) (fun p=>(p+1).toNat) (fun p=>[(1,.sy (.d (.i p)))]) p0 ⟨hp,rfl⟩ (fun p hi=>?_)
 refine kgo ?_
 refine aO (fun h=>?_) (fun h=>?_)
 ·obtain ⟨k,rfl⟩:=Int.eq_ofNat_of_zero_le h
  have hk:k<a.nodes.length:=by omega
  have hs:iF a ns k=(fT ns k || iF a ns (a.nodes[k]).parent):=fe hB _ k hk
  have hu:=iG hB k hk
  have f1:=gg ns k
  refine kgo ?_
  refine cIf (fun h2=>?_) (fun h2=>?_)
  ·refine kgo ?_
   rw [hi.2,hs,h2]
   exact ar
  ·refine kgo ?_
   exact af (a.nodes[k]).parent ⟨by omega,by rw [hi.2,hs,h2];rfl⟩ (by omega)
 refine kgo ?_
 rw [hi.2,show iF a ns p=false from eO _ _ (by omega)]
 exact ar
theorem kp (b:Big) (p:Int) (hn:b.nodes.length≤1000) (hs:b.sites.length≤1000):FnD Tryz.prog 155 [b.D,.i p] (.tp [DI (dc b p),DI (bA b p)]):=by
 refine ah Tryz.func155 (fun hw W0=>?_)
 refine kgo ?_
 refine aj [1,2,7,15,16] (fun i:Nat=>i≤b.nodes.length) (fun i=>b.nodes.length - i) (fun i=>[(6,.sy (.k 20001)),(20001,.tk (.row 1 3 ((idxOf (pG b p) i).map .i))),(17,.sy (.d (.i i)))]) 0 (Nat.zero_le _) (fun i hi=>?_)
 refine kgo ?_
 refine aO (fun h=>?_) (fun h=>?_)
 ·have hlt:i<b.nodes.length:=by omega
  have hf:pG b p i=decide ((b.nodes[i]).parent=p):=by unfold pG;rw [List.getElem?_eq_getElem hlt]
  have hl:=d9 (pG b p) i
  refine kgo ?_
  refine aO (fun h2=>?_) (fun h2=>?_)
  ·have hs:(idxOf (pG b p) (i+1)).map D.i=(idxOf (pG b p) i).map D.i++[.i i]:=by rw [df (hf.trans (decide_eq_true h2)),List.map_append];rfl
   refine kgo ?_
   exact af (i+1) (by omega) (by omega)
  ·have hs:(idxOf (pG b p) (i+1)).map D.i=(idxOf (pG b p) i).map D.i:=by rw [d7 (hf.trans (decide_eq_false h2))]
   refine kgo ?_
   exact af (i+1) (by omega) (by omega)
 rw [show dc b p=idxOf (pG b p) i from by rw [show i=b.nodes.length by omega];rfl]
 generalize idxOf (pG b p) i=ks
 refine kgo ?_
 refine aj [1,6,32,33] (fun i:Nat=>i≤b.sites.length) (fun i=>b.sites.length - i) (fun i=>[(7,.sy (.k 20002)),(20002,.tk (.row 1 3 ((idxOf (iC b p) i).map .i))),(34,.sy (.d (.i i)))]) 0 (Nat.zero_le _) (fun i hi=>?_)
 refine kgo ?_
 refine aO (fun h=>?_) (fun h=>?_)
 ·have hlt:i<b.sites.length:=by omega
  have hf:iC b p i=decide (b.sites[i]=p):=by unfold iC;rw [List.getElem?_eq_getElem hlt]
  have hl:=d9 (iC b p) i
  refine kgo ?_
  refine aO (fun h2=>?_) (fun h2=>?_)
  ·have hs:(idxOf (iC b p) (i+1)).map D.i=(idxOf (iC b p) i).map D.i++[.i i]:=by rw [df (hf.trans (decide_eq_true h2)),List.map_append];rfl
   refine kgo ?_
   exact af (i+1) (by omega) (by omega)
  ·have hs:(idxOf (iC b p) (i+1)).map D.i=(idxOf (iC b p) i).map D.i:=by rw [d7 (hf.trans (decide_eq_false h2))]
   refine kgo ?_
   exact af (i+1) (by omega) (by omega)
 rw [show bA b p=idxOf (iC b p) i from by rw [show i=b.sites.length by omega];rfl]
 repeat (first|(refine cI ?_;first|refine aU ?_|refine cb ?_|refine bp ?_|refine bk ?_|refine aS ?_|refine be ?_|refine bc ?_|refine aB ?_|refine bm ?_|refine bo ?_)|(refine fQ ?_;first|refine b6 ?_|refine fH ?_|refine cm ?_|refine cE ?_)|(refine fB ?_;first|refine ex (fun _=>?_)|refine cr ?_|refine ci ?_|refine bL ?_|refine ch ?_|refine cd ?_|refine ca ?_)|(refine fJ ?_;first|refine cF ?_|refine fb ?_|refine cu ?_|refine bS ?_|refine ck ?_|refine cz ?_|refine ct ?_)|(refine fE ?_;first|refine fM ?_|refine fq ?_|refine cj ?_|refine bY ?_|refine fF ?_|refine bg ?_|refine bf ?_)|(refine co ?_;first|refine br ?_|refine cH ?_)|(refine fK ?_;first|refine gq (d:=4) ?_|refine gq (d:=5) ?_|refine cB ?_|refine cy ?_|refine fL ?_)|(refine b9 ?_;first|refine cG ?_|refine aY ?_|refine aR ?_|refine aZ ?_|refine aW ?_|refine bj ?_)|(refine fC ?_;first|refine cf ?_|refine fA ?_|refine bh ?_|refine aT ?_|refine bq ?_)|(refine aN ?_;first|refine aw _ ?_|refine ba ?_|refine aC ?_|refine az ?_|refine aD ?_)|(refine fG ?_;first|refine cC ?_|refine bR ?_|refine cA ?_)|(refine gOp ?_;first|refine fI ?_|refine fP ?_|refine bl ?_|refine fO ?_|refine fN ?_|refine cD ?_|refine aV ?_|refine cw ?_|refine fR ?_|refine bV ?_|refine cq ?_|refine aX ?_|refine aA ?_|refine cg ?_|refine sNo ?_|refine fa ?_|refine ay ?_)|refine e9 ?_|refine dD ?_|refine fU ?_|refine bu ?_|refine bU ?_|refine bE ?_|refine fX ?_|refine fy ?_|refine fp ?_|refine dP ?_|refine cL ?_|refine aM ?_|refine ax ?_|refine bt ?_|refine cK ?_|refine bF ?_|refine cM ?_|refine cN ?_)
 exact g8
theorem qf (b:Big) (l:Int) (hn:b.nodes.length≤1000) (hl:∀i (h:i<b.nodes.length),(b.nodes[i]).links.length≤1000) (hin:b.inner.length≤1000):FnD Tryz.prog 158 [b.D,.i l] (.tp [.l 2 ((aI b l).map mS),DS (na b l)]):=by
 refine ah Tryz.func158 (fun hw W0=>?_)
 refine kgo ?_
 refine aj [1,2,7,17,18] (fun i:Nat=>i≤b.nodes.length) (fun i=>b.nodes.length - i) (fun i=>[(6,.sy (.k 20001)),(20001,.tk (.row 2 219 ((aQ b l i 0).map mS))),(19,.sy (.d (.i i)))]) 0 (Nat.zero_le _) (fun i hi=>?_)
 refine kgo ?_
 refine aO (fun h=>?_) (fun h=>?_)
 ·have hlt:i<b.nodes.length:=by omega
  have hll:=hl i hlt
  refine kgo ?_
  refine aj [1,2,7,8,17,18,19,25,26] (fun j:Nat=>j≤(b.nodes[i]).links.length) (fun j=>(b.nodes[i]).links.length - j) (fun j=>[(6,.sy (.k 20001)),(20001,.tk (.row 2 219 ((aQ b l i j).map mS))),(27,.sy (.d (.i j)))]) 0 (Nat.zero_le _) (fun j hj=>?_)
  refine kgo ?_
  refine aO (fun h2=>?_) (fun h2=>?_)
  ·have hjl:j<(b.nodes[i]).links.length:=by omega
   have hpl:(aQ b l i j).length≤1000000:=by
    obtain ⟨t,ht⟩:=jL b l i j hlt hj
    have:=fh b l hn hl
    rw [ht,List.length_append] at this;omega
   refine kgo ?_
   refine aO (fun h3=>?_) (fun h3=>?_)
   ·have hpl:(aQ b l i j).length+1≤1000000:=by
     obtain ⟨t,ht⟩:=jL b l i (j+1) hlt hjl
     have:=fh b l hn hl
     rw [ht,List.length_append,jH b l i j hlt hjl h3,List.length_append] at this
     simp only [List.length_cons,List.length_nil] at this;omega
    have hs:(aQ b l i (j+1)).map mS=(aQ b l i j).map mS++[mS ((i:Int),(j:Int))]:=by rw [jH b l i j hlt hjl h3,List.map_append];rfl
    refine kgo ?_
    exact af (j+1) hjl (by omega)
   ·have hs:(aQ b l i (j+1)).map mS=(aQ b l i j).map mS:=by rw [qc b l i j hlt hjl h3]
    refine kgo ?_
    exact af (j+1) hjl (by omega)
  have hs:(aQ b l (i+1) 0).map mS=(aQ b l i j).map mS:=by rw [ka b l i hlt,show j=(b.nodes[i]).links.length by omega]
  refine kgo ?_
  exact af (i+1) hlt (by omega)
 rw [show aI b l=aQ b l i 0 from by rw [show i=b.nodes.length by omega,jz]]
 generalize aQ b l i 0=ps
 refine kgo ?_
 refine aj [1,6,44,45] (fun i:Nat=>i≤b.inner.length) (fun i=>b.inner.length - i) (fun i=>[(7,.sy (.k 20002)),(20002,.tk (.row 1 9 ((eA b l i).map .s))),(46,.sy (.d (.i i)))]) 0 (Nat.zero_le _) (fun i hi=>?_)
 refine kgo ?_
 refine aO (fun h=>?_) (fun h=>?_)
 ·have hlt:i<b.inner.length:=by omega
  have hq:=jh b l i
  refine kgo ?_
  refine aO (fun h2=>?_) (fun h2=>?_)
  ·have hs:(eA b l (i+1)).map D.s=(eA b l i).map D.s++[.s (b.inner[i]).name]:=by rw [nj hlt h2,List.map_append];rfl
   refine kgo ?_
   exact af (i+1) hlt (by omega)
  ·have hs:(eA b l (i+1)).map D.s=(eA b l i).map D.s:=by rw [pg hlt h2]
   refine kgo ?_
   exact af (i+1) hlt (by omega)
 rw [show na b l=eA b l i from by rw [show i=b.inner.length by omega];rfl]
 repeat (first|(refine cI ?_;first|refine aU ?_|refine cb ?_|refine bp ?_|refine bk ?_|refine aS ?_|refine be ?_|refine bc ?_|refine aB ?_|refine bm ?_|refine bo ?_)|(refine fQ ?_;first|refine b6 ?_|refine fH ?_|refine cm ?_|refine cE ?_)|(refine fB ?_;first|refine ex (fun _=>?_)|refine cr ?_|refine ci ?_|refine bL ?_|refine ch ?_|refine cd ?_|refine ca ?_)|(refine fJ ?_;first|refine cF ?_|refine fb ?_|refine cu ?_|refine bS ?_|refine ck ?_|refine cz ?_|refine ct ?_)|(refine fE ?_;first|refine fM ?_|refine fq ?_|refine cj ?_|refine bY ?_|refine fF ?_|refine bg ?_|refine bf ?_)|(refine co ?_;first|refine br ?_|refine cH ?_)|(refine fK ?_;first|refine gq (d:=4) ?_|refine gq (d:=5) ?_|refine cB ?_|refine cy ?_|refine fL ?_)|(refine b9 ?_;first|refine cG ?_|refine aY ?_|refine aR ?_|refine aZ ?_|refine aW ?_|refine bj ?_)|(refine fC ?_;first|refine cf ?_|refine fA ?_|refine bh ?_|refine aT ?_|refine bq ?_)|(refine aN ?_;first|refine aw _ ?_|refine ba ?_|refine aC ?_|refine az ?_|refine aD ?_)|(refine fG ?_;first|refine cC ?_|refine bR ?_|refine cA ?_)|(refine gOp ?_;first|refine fI ?_|refine fP ?_|refine bl ?_|refine fO ?_|refine fN ?_|refine cD ?_|refine aV ?_|refine cw ?_|refine fR ?_|refine bV ?_|refine cq ?_|refine aX ?_|refine aA ?_|refine cg ?_|refine sNo ?_|refine fa ?_|refine ay ?_)|refine e9 ?_|refine dD ?_|refine fU ?_|refine bu ?_|refine bU ?_|refine bE ?_|refine fX ?_|refine fy ?_|refine fp ?_|refine dP ?_|refine cL ?_|refine aM ?_|refine ax ?_|refine bt ?_|refine cK ?_|refine bF ?_|refine cM ?_|refine cN ?_)
 exact g8
end Go.Proofs.YtclpbhoekmecjaaGreatDoor
namespace Go.Proofs.YtclpbhoekmecjaaGreatDoor
open Go.RowKit
set_option linter.unusedVariables false
set_option maxRecDepth 100000
set_option maxHeartbeats 4000000
attribute [local irreducible] aq Der At
theorem th (m:Mat) (x:Int):FnD Tryz.prog 156 [.i x,.p m.D] (.d (.b (!fT m.nodes x))):=by
 refine ah Tryz.func156 (fun hw W0=>?_)
 have f1:=gg m.nodes x
 refine kgo ?_
 exact ar
theorem yn (r a:Big) (m:Mat) (i:Nat) (h:i<m.nodes.length) (hr:i<r.nodes.length) (k:Nat) (hk:m.nodes[i]=(k:Int)) (hka:k<a.nodes.length):gL r a m i=(decide ((a.nodes[k]).control=(r.nodes[i]).control) && (decide ((a.nodes[k]).parent=if 0≤(r.nodes[i]).parent then atI m.nodes (r.nodes[i]).parent else atI m.roots (-1 - (r.nodes[i]).parent)) && (!(decide ((bA r i).length=0)) || (dc a m.nodes[i]).all (fT m.nodes)))):=by
 unfold gL uY lI
 rw [wK r a m i h hr k hk hka,b8 _ i h,hk,av a k hka,av r i hr]
theorem vp {sig:List Ctl} {r a:Big} (m:Mat) (hbr:aF sig r=true) (dr:vV r) (da:vV a) (hid:(List.range m.nodes.length).all (uP a m.nodes)=true) (hlen:m.nodes.length=r.nodes.length) (hrs:(m.roots.length:Int)=r.roots):FnD Tryz.prog 111 [r.D,a.D,m.D] (.d (.b ((List.range m.nodes.length).all (gL r a m)))):=by
 have hdr:=aL hbr
 refine ah Tryz.func111 (fun hw W0=>?_)
 refine kgo ?_
 refine G8 5 m.D ?_
 refine aj [3,4,5,16,17] (fun i:Nat=>i≤m.nodes.length∧(List.range i).all (gL r a m)=true) (fun i=>m.nodes.length - i) (fun i=>[(18,.sy (.d (.i i)))]) 0 ⟨Nat.zero_le _,rfl⟩ (fun i hi=>?_)
 refine kgo ?_
 refine aO (fun h2=>?_) (fun h2=>?_)
 ·have hlr:i<r.nodes.length:=by omega
  have hlt:i<m.nodes.length:=by omega
  obtain ⟨k,hka,hk0⟩:=F6 hid i hlt
  rw [b8 _ i hlt] at hk0
  have hok:=yn r a m i hlt hlr k hk0 hka
  have hup:=iG hbr i hlr
  have f1:=kp r i dr.3 dr.4
  have f2:=kp a m.nodes[i] da.3 da.4
  have f3:=ik (dc a m.nodes[i]) 156 [.p m.D] (fun x=>!fT m.nodes x) rfl (fun x _=>th m x)
  have hk1:=mt r i
  have hk2:=ry a m.nodes[i]
  have hrn:=dr.4
  have bad:gL r a m i=false→(List.range m.nodes.length).all (gL r a m)=false:=fun h=>bw _ _ i hlt h
  have good:gL r a m i=true→(List.range (i+1)).all (gL r a m)=true:=fun h=>by rw [dz,hi.2,h];rfl
  refine kgo ?_
  refine ex (n:=k) (fun _=>?_) rfl rfl (congrArg some hk0)
  refine kgo ?_
  refine aO (fun h3=>?_) (fun h3=>?_)
  ·rw [if_pos h3] at hok
   have hx:(r.nodes[i]).parent<m.nodes.length:=by omega
   refine kgo ?_
   cases h4:decide ((a.nodes[k]).control=(r.nodes[i]).control)
   ·rw [h4] at hok
    refine kgo ?_
    rw [bad hok]
    exact ar
   rw [h4,Bool.true_and] at hok
   refine kgo ?_
   refine kJ (fun h5=>?_) (fun h5=>?_)
   ·rw [decide_eq_false h5] at hok
    refine kgo ?_
    rw [bad hok]
    exact ar
   rw [decide_eq_true h5,Bool.true_and] at hok
   refine kgo ?_
   refine aO (fun h6=>?_) (fun h6=>?_)
   ·rw [decide_eq_false (by omega)] at hok
    refine kgo ?_
    exact af (i+1) ⟨hlt,good hok⟩ (by omega)
   rw [decide_eq_true (by omega),Bool.not_true,Bool.false_or] at hok
   refine kgo ?_
   refine cIf (fun h7=>?_) (fun h7=>?_)
   ·rw [i5,Bool.not_eq_true'] at h7
    rw [h7] at hok
    refine kgo ?_
    rw [bad hok]
    exact ar
   ·rw [i5,Bool.not_eq_false'] at h7
    rw [h7] at hok
    refine kgo ?_
    exact af (i+1) ⟨hlt,good hok⟩ (by omega)
  ·rw [if_neg h3] at hok
   have hx : -1 - (r.nodes[i]).parent<m.roots.length:=by omega
   refine kgo ?_
   cases h4:decide ((a.nodes[k]).control=(r.nodes[i]).control)
   ·rw [h4] at hok
    refine kgo ?_
    rw [bad hok]
    exact ar
   rw [h4,Bool.true_and] at hok
   refine kgo ?_
   refine kJ (fun h5=>?_) (fun h5=>?_)
   ·rw [decide_eq_false h5] at hok
    refine kgo ?_
    rw [bad hok]
    exact ar
   rw [decide_eq_true h5,Bool.true_and] at hok
   refine kgo ?_
   refine aO (fun h6=>?_) (fun h6=>?_)
   ·rw [decide_eq_false (by omega)] at hok
    refine kgo ?_
    exact af (i+1) ⟨hlt,good hok⟩ (by omega)
   rw [decide_eq_true (by omega),Bool.not_true,Bool.false_or] at hok
   refine kgo ?_
   refine cIf (fun h7=>?_) (fun h7=>?_)
   ·rw [i5,Bool.not_eq_true'] at h7
    rw [h7] at hok
    refine kgo ?_
    rw [bad hok]
    exact ar
   ·rw [i5,Bool.not_eq_false'] at h7
    rw [h7] at hok
    refine kgo ?_
    exact af (i+1) ⟨hlt,good hok⟩ (by omega)
 refine kgo ?_
 rw [fu _ _ i (by omega) hi.1 hi.2]
 exact ar
theorem Dh (x:Int) (n:Nat) (hn:n≤1000) (hx:I64 x):FnD Tryz.prog 157 [DI [x],.i n] (.row 1 3 ((List.replicate n x).map .i)):=⟨cO Tryz.func157,fun F w vs hv hF=>by
 obtain ⟨v1,t,rfl,h1,v2,t2,rfl,h2,h3⟩:=hv
 cases (show t2 = [] from h3)
 cases (show v2=.int .i64 n from by simpa [DV,Rp] using h2.1)
 refine (jx _ _ _ x n w (Co.toV (by decide) h1) hn).mono ?_
 rintro e w' ⟨g,rfl,hg,hr,hX⟩
 refine ⟨_,rfl,hX,.inr ⟨(List.replicate n x).map (Value.int .i64),?_,fun j hj=>⟨[.int .i64 x],rfl,?_,fun t u ht=>?_⟩⟩⟩
 ·refine ⟨by simp,.inr ⟨g,n,((List.replicate n x).map (Value.int .i64)).toArray,by simp,hg,hr,by simp,?_,by simp,by simp⟩⟩
  unfold maxLen;omega
 ·rw [List.getElem_map,List.getElem_replicate];exact ⟨rfl,hx⟩
 ·simp only [List.length_map,List.length_replicate] at hj
  rcases t with _|t
  ·simp at ht
   subst ht
   simp [hj]
  ·simp at ht⟩
theorem nG {sig:List Ctl} {r a:Big} (ns:List Int) (hbr:aF sig r=true) (hba:aF sig a=true) (him:oq r a ns):FnD Tryz.prog 112 [r.D,a.D,DI ns] (.tp [DI (o7 r a ns),.b (gB r a ns)]):=by
 have hdr:=aL hbr
 have hda:=aL hba
 have dr:=bB hbr
 have da:=bB hba
 have hlr:r.edges+(r.outer.length:Int)=(al r:Nat):=by unfold al;omega
 have hlb:al r≤1000:=by unfold al;omega
 obtain ⟨E,hE⟩:=Int.eq_ofNat_of_zero_le hdr.2.2.2.1.1
 have f0:FnD Tryz.prog 157 [DI [-1],.i (r.edges+(r.outer.length:Int))] (.row 1 3 ((List.replicate (al r) (-1)).map .i)):=by rw [hlr];exact Dh (-1) _ hlb (by unfold I64;omega)
 have hz:(List.replicate (al r) (-1)).map D.i=(iX r a ns 0 0).map D.i:=by rw [yK]
 have hlen:=him.len
 refine ah Tryz.func112 (fun hw W0=>?_)
 repeat (first|(refine cI ?_;first|refine aU ?_|refine cb ?_|refine bp ?_|refine bk ?_|refine aS ?_|refine be ?_|refine bc ?_|refine aB ?_|refine bm ?_|refine bo ?_)|(refine fQ ?_;first|refine b6 ?_|refine fH ?_|refine cm ?_|refine cE ?_)|(refine fB ?_;first|refine ex (fun _=>?_)|refine cr ?_|refine ci ?_|refine bL ?_|refine ch ?_|refine cd ?_|refine ca ?_)|(refine fJ ?_;first|refine cF ?_|refine fb ?_|refine cu ?_|refine bS ?_|refine ck ?_|refine cz ?_|refine ct ?_)|(refine fE ?_;first|refine fM ?_|refine fq ?_|refine cj ?_|refine bY ?_|refine fF ?_|refine bg ?_|refine bf ?_)|(refine co ?_;first|refine br ?_|refine cH ?_)|(refine fK ?_;first|refine cB ?_|refine cy ?_|refine fL ?_)|(refine b9 ?_;first|refine cG ?_|refine aY ?_|refine aR ?_|refine aZ ?_|refine aW ?_|refine bj ?_)|(refine fC ?_;first|refine cf ?_|refine fA ?_|refine bh ?_|refine aT ?_|refine bq ?_)|(refine aN ?_;first|refine aw _ ?_|refine ba ?_|refine aC ?_|refine az ?_|refine aD ?_)|(refine fG ?_;first|refine cC ?_|refine bR ?_|refine cA ?_)|(refine gOp ?_;first|refine fI ?_|refine fP ?_|refine bl ?_|refine fO ?_|refine fN ?_|refine cD ?_|refine aV ?_|refine cw ?_|refine fR ?_|refine bV ?_|refine cq ?_|refine aX ?_|refine sFz 19 ?_|refine aA ?_|refine cg ?_|refine sNo ?_|refine fa ?_|refine ay ?_)|refine e9 ?_|refine dD ?_|refine fU ?_|refine bu ?_|refine bU ?_|refine bE ?_|refine fX ?_|refine fy ?_|refine fp ?_|refine dP ?_|refine cL ?_|refine aM ?_|refine ax ?_|refine bt ?_|refine cK ?_|refine bF ?_|refine cM ?_|refine cN ?_|refine sFz 19 ?_)
 refine aj [2,3,4,8,28,29] (fun k:Nat=>k≤r.nodes.length∧g9 r a ns k 0) (fun k=>r.nodes.length - k) (fun k=>[(10026,.tk (.row 1 3 ((iX r a ns k 0).map .i))),(30,.sy (.d (.i k)))]) 0 ⟨Nat.zero_le _,yM r a ns⟩ (fun k hk=>?_)
 refine kgo ?_
 refine aO (fun h=>?_) (fun h=>?_)
 ·have hkr:k<r.nodes.length:=by omega
  have hkn:k<ns.length:=by omega
  have hlinks:=(eS hbr k hkr).2.2.2.2
  have hll:=dr.7 k hkr
  refine kgo ?_
  refine aj [2,3,4,8,9,28,29,30,36,37] (fun i:Nat=>i≤(r.nodes[k]).links.length∧g9 r a ns k i) (fun i=>(r.nodes[k]).links.length - i) (fun i=>[(10026,.tk (.row 1 3 ((iX r a ns k i).map .i))),(38,.sy (.d (.i i)))]) 0 ⟨Nat.zero_le _,hk.2⟩ (fun i hi=>?_)
  refine kgo ?_
  refine aO (fun h2=>?_) (fun h2=>?_)
  ·have hil:i<(r.nodes[k]).links.length:=by omega
   obtain ⟨mm,hmm,hml,e1,e2⟩:=him.img hbr hba hkr hil
   rw [b8 _ k hkn] at e1
   obtain ⟨ll,hl,hlN⟩:=gR (hlinks _ (List.getElem_mem hil))
   have hol:=Ah r a ns k i
   have hlo:ll<(iX r a ns k i).length:=by omega
   have hat:=nW r a ns k i ll hlo
   have hpos:=him.up_pos hbr hba (l:=ll) hkr (show i≤(r.nodes[k]).links.length by omega)
   refine kgo ?_
   refine ex (n:=mm) (fun _=>?_) rfl rfl (congrArg some e1)
   rw [hl]
   refine kgo ?_
   rw [hat,← e2]
   have stp:=yU (ns:=ns) hkr hil hl hlN hi.2
   cases h3:decide (0≤jP a ns (aQ r ll k i))
   ·have h3:=of_decide_eq_false h3
    obtain ⟨q1,q2⟩:=stp (.inl (by omega)) hpos
    refine kgo ?_
    rw [← q1]
    exact af (i+1) ⟨hil,q2⟩ (by omega)
   have h3:=of_decide_eq_true h3
   refine kgo ?_
   rw [hat]
   refine kJ (fun h4=>?_) (fun h4=>?_)
   ·have hb:=kK hlN (yo hkr hil hl h3 h4)
    rw [lV hb,hb]
    refine kgo ?_
    exact g8
   ·obtain ⟨q1,q2⟩:=stp (.inr h4) hpos
    refine kgo ?_
    rw [← q1]
    exact af (i+1) ⟨hil,q2⟩ (by omega)
  have hie:i=(r.nodes[k]).links.length:=by omega
  have hs:(iX r a ns (k+1) 0).map D.i=(iX r a ns k i).map D.i:=by rw [xy r a ns k hkr,hie]
  refine kgo ?_
  exact af (k+1) ⟨hkr,yL hkr (by rw [← hie];exact hi.2)⟩ (by omega)
 have hke:k=r.nodes.length:=by omega
 have hag:g9 r a ns r.nodes.length 0:=by rw [← hke];exact hk.2
 rw [hke,AS]
 have hil:(aK r a ns).length=al r:=by unfold aK;simp
 refine kgo ?_
 refine aj [3,4,8,75] (fun e:Nat=>e≤E∧(List.range e).all (io r a ns)=true) (fun e=>E - e) (fun e=>[(76,.sy (.d (.i e)))]) 0 ⟨Nat.zero_le _,rfl⟩ (fun e he=>?_)
 refine kgo ?_
 refine aO (fun h2=>?_) (fun h2=>?_)
 ·have heE:e<E:=by omega
  have hel:e<al r:=by omega
  have hei:e<(aK r a ns).length:=by omega
  have hia:(aK r a ns)[e]=ng r a ns e:=by simp [aK]
  have f1:=qf r e dr.3 dr.7 (by omega)
  have f2:=qf a (aK r a ns)[e] da.3 da.7 (by omega)
  have hla:=Dr hag e hel (by omega)
  have hp1:=fh r e dr.3 dr.7
  have hp2:=fh a (aK r a ns)[e] da.3 da.7
  rw [← hia] at hla
  refine kgo ?_
  cases h3:decide (a.edges≤(aK r a ns)[e])
  ·have h3:=of_decide_eq_false h3
   rw [decide_eq_true (show (aK r a ns)[e]<a.edges by omega),Bool.true_and] at hla
   refine kgo ?_
   refine kJ (fun h4=>?_) (fun h4=>?_)
   ·rw [decide_eq_false (by omega)] at hla
    have hb:=kK hel hla
    rw [lV hb,hb]
    refine kgo ?_
    exact g8
   ·rw [decide_eq_true (by omega)] at hla
    refine kgo ?_
    exact af (e+1) ⟨heE,by rw [dz,he.2,hla];rfl⟩ (by omega)
  ·have h3:=of_decide_eq_true h3
   rw [decide_eq_false (show ¬(aK r a ns)[e]<a.edges by omega),Bool.false_and] at hla
   have hb:=kK hel hla
   rw [lV hb,hb]
   refine kgo ?_
   exact g8
 have hb:gB r a ns=true:=AI hag (fun l h1 _=>(aH _ _).1 he.2 l (by omega))
 rw [kM hb,hb]
 repeat (first|(refine cI ?_;first|refine aU ?_|refine cb ?_|refine bp ?_|refine bk ?_|refine aS ?_|refine be ?_|refine bc ?_|refine aB ?_|refine bm ?_|refine bo ?_)|(refine fQ ?_;first|refine b6 ?_|refine fH ?_|refine cm ?_|refine cE ?_)|(refine fB ?_;first|refine ex (fun _=>?_)|refine cr ?_|refine ci ?_|refine bL ?_|refine ch ?_|refine cd ?_|refine ca ?_)|(refine fJ ?_;first|refine cF ?_|refine fb ?_|refine cu ?_|refine bS ?_|refine ck ?_|refine cz ?_|refine ct ?_)|(refine fE ?_;first|refine fM ?_|refine fq ?_|refine cj ?_|refine bY ?_|refine fF ?_|refine bg ?_|refine bf ?_)|(refine co ?_;first|refine br ?_|refine cH ?_)|(refine fK ?_;first|refine gq (d:=6) ?_|refine cB ?_|refine cy ?_|refine fL ?_)|(refine b9 ?_;first|refine cG ?_|refine aY ?_|refine aR ?_|refine aZ ?_|refine aW ?_|refine bj ?_)|(refine fC ?_;first|refine cf ?_|refine fA ?_|refine bh ?_|refine aT ?_|refine bq ?_)|(refine aN ?_;first|refine aw _ ?_|refine ba ?_|refine aC ?_|refine az ?_|refine aD ?_)|(refine fG ?_;first|refine cC ?_|refine bR ?_|refine cA ?_)|(refine gOp ?_;first|refine fI ?_|refine fP ?_|refine bl ?_|refine fO ?_|refine fN ?_|refine cD ?_|refine aV ?_|refine cw ?_|refine fR ?_|refine bV ?_|refine cq ?_|refine aX ?_|refine aA ?_|refine cg ?_|refine sNo ?_|refine fa ?_|refine ay ?_)|refine e9 ?_|refine dD ?_|refine fU ?_|refine bu ?_|refine bU ?_|refine bE ?_|refine fX ?_|refine fy ?_|refine fp ?_|refine dP ?_|refine cL ?_|refine aM ?_|refine ax ?_|refine bt ?_|refine cK ?_|refine bF ?_|refine cM ?_|refine cN ?_)
 exact g8
theorem ym {sig:List Ctl} {a:Big} (hba:aF sig a=true) (m:Mat) (x:Int):FnD Tryz.prog 109 [.i x,.p a.D,.p m.D] (.d (.b (!kg a m.nodes x))):=by
 have hda:=aL hba
 have da:=bB hba
 have hok:kg a m.nodes x=(inR x (-a.roots) (a.nodes.length - 1) && !iF a m.nodes x):=rfl
 refine ah Tryz.func109 (fun hw W0=>?_)
 have f1:=rU x (-a.roots) (a.nodes.length - 1)
 rw [hok]
 refine kgo ?_
 cases h:inR x (-a.roots) (a.nodes.length - 1)
 ·refine kgo ?_
  exact ar
 have f2:=lZ hba m.nodes x (by have:=bO h;omega)
 rw [Bool.true_and,Bool.not_not]
 refine kgo ?_
 exact ar
theorem BE {sig:List Ctl} {r a:Big} (m:Mat) (hbr:aF sig r=true) (hba:aF sig a=true):FnD Tryz.prog 59 [r.D,a.D,m.D] (.d (.b (eh r a m))):=by
 have dr:=bB hbr
 have da:=bB hba
 have hrn:=dr.3
 have hr:=bO dr.1
 have hm:=xS r a m
 refine ah Tryz.func59 (fun hw W0=>?_)
 have hmr:=(wfM hw.2.2.1.2.1).1
 refine kgo ?_
 cases h1:decide ((m.nodes.length:Int)=r.nodes.length)
 ·have h1:=of_decide_eq_false h1
  rw [decide_eq_false (show ¬m.nodes.length=r.nodes.length by omega)] at hm
  rw [hm]
  refine kgo ?_
  exact ar
 have h1:=of_decide_eq_true h1
 have hlen:m.nodes.length=r.nodes.length:=by omega
 refine kgo ?_
 refine kJ (fun h2=>?_) (fun h2=>?_)
 ·rw [decide_eq_false h2,Bool.and_false] at hm
  rw [hm]
  refine kgo ?_
  exact ar
 rw [decide_eq_true hlen,decide_eq_true h2,Bool.true_and,Bool.true_and] at hm
 refine kgo ?_
 refine G8 4 a.D ?_
 refine G8 5 m.D ?_
 refine aj [3,4,5,27,28] (fun i:Nat=>i≤m.nodes.length∧(List.range i).all (uP a m.nodes)=true) (fun i=>m.nodes.length - i) (fun i=>[(29,.sy (.d (.i i)))]) 0 ⟨Nat.zero_le _,rfl⟩ (fun i hi=>?_)
 refine kgo ?_
 refine aO (fun h3=>?_) (fun h3=>?_)
 ·have hlt:i<m.nodes.length:=by omega
  have f1:=Dn a m.nodes[i] da.3
  have f2:=gg (m.nodes.take i) m.nodes[i]
  have hok:uP a m.nodes i=(inR m.nodes[i] 0 (a.nodes.length - 1) && !fT (m.nodes.take i) m.nodes[i]):=by unfold uP;rw [b8 _ i hlt]
  have bad:uP a m.nodes i=false→eh r a m=false:=fun h=>by rw [hm,bw _ _ i hlt h];rfl
  refine kgo ?_
  cases h4:inR m.nodes[i] 0 (a.nodes.length - 1)
  ·rw [h4] at hok
   refine kgo ?_
   rw [bad hok]
   exact ar
  rw [h4] at hok
  refine kgo ?_
  refine cIf (fun h5=>?_) (fun h5=>?_)
  ·rw [h5] at hok
   refine kgo ?_
   rw [bad hok]
   exact ar
  ·rw [h5] at hok
   refine kgo ?_
   exact af (i+1) ⟨hlt,by rw [dz,hi.2,hok];rfl⟩ (by omega)
 have hid:(List.range m.nodes.length).all (uP a m.nodes)=true:=fu _ _ i (by omega) hi.1 hi.2
 rw [hid,Bool.true_and] at hm
 have f1:=ik m.roots 109 [.p a.D,.p m.D] (fun x=>!kg a m.nodes x) rfl (fun x _=>ym hba m x)
 rw [i5] at f1
 refine kgo ?_
 refine cIf (fun h4=>?_) (fun h4=>?_)
 ·rw [Bool.not_eq_true'] at h4
  rw [h4] at hm
  rw [hm]
  refine kgo ?_
  exact ar
 rw [Bool.not_eq_false'] at h4
 rw [h4,Bool.true_and] at hm
 have f2:=vp m hbr dr da hid hlen h2
 refine kgo ?_
 refine cIf (fun h5=>?_) (fun h5=>?_)
 ·rw [Bool.not_eq_true'] at h5
  rw [h5] at hm
  rw [hm]
  refine kgo ?_
  exact ar
 rw [Bool.not_eq_false'] at h5
 rw [h5,Bool.true_and] at hm
 have f3:=nG m.nodes hbr hba (C5 hid h5 hlen)
 refine kgo ?_
 rw [hm]
 exact ar
theorem vz {sig:List Ctl} {a:Big} (hba:aF sig a=true) (ps:List Int) (x:Int) (hx:x<a.nodes.length):FnD Tryz.prog 113 [.i x,.p a.D,.p (DI ps)] (.d (.b (iF a ps x))):=by
 refine ah Tryz.func113 (fun hw W0=>?_)
 have f1:=lZ hba ps x hx
 refine kgo ?_
 exact ar
theorem xW {sig:List Ctl} {a:Big} (hba:aF sig a=true) (m:Mat) (hx:∀p∈m.roots,p<(a.nodes.length:Int)):FnD Tryz.prog 60 [.l 3 (sig.map Ctl.D),a.D,m.D] (.d (.b (ku sig a m.roots))):=by
 have da:=bB hba
 have hn:=da.3
 refine ah Tryz.func60 (fun hw W0=>?_)
 refine kgo ?_
 refine aj [0,4,5,7,12,13] (fun i:Nat=>i≤a.nodes.length) (fun i=>a.nodes.length - i) (fun i=>[(10007,.tk (.bx [.k 20001])),(20001,.tk (.row 1 3 ((idxOf (fun i=>sg sig a i) i).map .i))),(14,.sy (.d (.i i)))]) 0 (Nat.zero_le _) (fun i hi=>?_)
 refine kgo ?_
 refine aO (fun h=>?_) (fun h=>?_)
 ·have hlt:i<a.nodes.length:=by omega
  obtain ⟨c0,c1,_⟩:=eS hba i hlt
  obtain ⟨j,hj⟩:=Int.eq_ofNat_of_zero_le c0
  have hjl:j<sig.length:=by omega
  have hpf:sg sig a i=decide ((sig[j]).kind=1):=by unfold sg;rw [av a i hlt,hj,jE sig j hjl]
  have hl:=d9 (fun i=>sg sig a i) i
  refine kgo ?_
  refine ex (n:=j) (fun _=>?_) rfl rfl (congrArg some hj)
  refine kgo ?_
  refine aO (fun h2=>?_) (fun h2=>?_)
  ·have hs:(idxOf (fun i=>sg sig a i) (i+1)).map D.i=(idxOf (fun i=>sg sig a i) i).map D.i++[.i i]:=by rw [df (hpf.trans (decide_eq_true h2)),List.map_append];rfl
   refine kgo ?_
   exact af (i+1) (by omega) (by omega)
  ·have hs:(idxOf (fun i=>sg sig a i) (i+1)).map D.i=(idxOf (fun i=>sg sig a i) i).map D.i:=by rw [d7 (hpf.trans (decide_eq_false h2))]
   refine kgo ?_
   exact af (i+1) (by omega) (by omega)
 have hin:∀p∈m.roots,iF a (idxOf (fun i=>sg sig a i) i) p=k9 sig a p:=fun p hp=>by
  rw [show i=a.nodes.length by omega];exact Cd hba (hx p hp)
 have f1:=ik m.roots 113 [.p a.D,.p (DI (idxOf (fun i=>sg sig a i) i))] (fun x=>iF a (idxOf (fun i=>sg sig a i) i) x) rfl (fun x hxm=>vz hba _ x (hx x hxm))
 have hE:(!(m.roots.any fun x=>iF a (idxOf (fun i=>sg sig a i) i) x))=ku sig a m.roots:=by
  unfold ku
  rw [Bool.eq_iff_iff]
  simp only [Bool.not_eq_true',List.any_eq_false,List.all_eq_true]
  exact ⟨fun h p hp=>by rw [← hin p hp];simpa using h p hp,fun h p hp=>by rw [hin p hp];have:=h p hp;simpa using this⟩
 rw [← hE]
 refine bE (ax (ax (bF (aM ?_))))
 refine G8 4 a.D ?_
 refine mi 10007 0 ?_
 refine G8 7 (DI (idxOf (fun i=>sg sig a i) i)) ?_
 refine kgo ?_
 exact ar
end Go.Proofs.YtclpbhoekmecjaaGreatDoor
namespace Go.Proofs.YtclpbhoekmecjaaGreatDoor
open Go.RowKit
set_option linter.unusedVariables false
set_option maxRecDepth 100000
set_option maxHeartbeats 4000000
attribute [local irreducible] aq Der At
theorem Ce {sig:List Ctl} {a:Big} (m:Mat) (hba:aF sig a=true):FnD Tryz.prog 160 [a.D,m.D] (.d (DI (m9 a m.nodes))):=by
 have da:=bB hba
 have hn:=da.3
 refine ah Tryz.func160 (fun hw W0=>?_)
 refine kgo ?_
 refine aj [2,3,10] (fun i:Nat=>i≤a.nodes.length) (fun i=>a.nodes.length - i) (fun i=>[(5,.sy (.k 20001)),(20001,.tk (.row 1 3 ((idxOf (fun i=>!iF a m.nodes i) i).map .i))),(11,.sy (.d (.i i)))]) 0 (Nat.zero_le _) (fun i hi=>?_)
 refine kgo ?_
 refine aO (fun h=>?_) (fun h=>?_)
 ·have hlt:i<a.nodes.length:=by omega
  have f1:=lZ hba m.nodes i (by omega)
  have hl:=d9 (fun i=>!iF a m.nodes i) i
  refine kgo ?_
  refine cIf (fun h2=>?_) (fun h2=>?_)
  ·have hs:(idxOf (fun i=>!iF a m.nodes i) (i+1)).map D.i=(idxOf (fun i=>!iF a m.nodes i) i).map D.i++[.i i]:=by rw [df h2,List.map_append];rfl
   refine kgo ?_
   exact af (i+1) (by omega) (by omega)
  ·have hs:(idxOf (fun i=>!iF a m.nodes i) (i+1)).map D.i=(idxOf (fun i=>!iF a m.nodes i) i).map D.i:=by rw [d7 h2]
   refine kgo ?_
   exact af (i+1) (by omega) (by omega)
 rw [show m9 a m.nodes=idxOf (fun i=>!iF a m.nodes i) i from by rw [show i=a.nodes.length by omega];rfl]
 repeat (first|(refine cI ?_;first|refine aU ?_|refine cb ?_|refine bp ?_|refine bk ?_|refine aS ?_|refine be ?_|refine bc ?_|refine aB ?_|refine bm ?_|refine bo ?_)|(refine fQ ?_;first|refine b6 ?_|refine fH ?_|refine cm ?_|refine cE ?_)|(refine fB ?_;first|refine ex (fun _=>?_)|refine cr ?_|refine ci ?_|refine bL ?_|refine ch ?_|refine cd ?_|refine ca ?_)|(refine fJ ?_;first|refine cF ?_|refine fb ?_|refine cu ?_|refine bS ?_|refine ck ?_|refine cz ?_|refine ct ?_)|(refine fE ?_;first|refine fM ?_|refine fq ?_|refine cj ?_|refine bY ?_|refine fF ?_|refine bg ?_|refine bf ?_)|(refine co ?_;first|refine br ?_|refine cH ?_)|(refine fK ?_;first|refine gq (d:=4) ?_|refine cB ?_|refine cy ?_|refine fL ?_)|(refine b9 ?_;first|refine cG ?_|refine aY ?_|refine aR ?_|refine aZ ?_|refine aW ?_|refine bj ?_)|(refine fC ?_;first|refine cf ?_|refine fA ?_|refine bh ?_|refine aT ?_|refine bq ?_)|(refine aN ?_;first|refine aw _ ?_|refine ba ?_|refine aC ?_|refine az ?_|refine aD ?_)|(refine fG ?_;first|refine cC ?_|refine bR ?_|refine cA ?_)|(refine gOp ?_;first|refine fI ?_|refine fP ?_|refine bl ?_|refine fO ?_|refine fN ?_|refine cD ?_|refine aV ?_|refine cw ?_|refine fR ?_|refine bV ?_|refine cq ?_|refine aX ?_|refine aA ?_|refine cg ?_|refine sNo ?_|refine fa ?_|refine ay ?_)|refine e9 ?_|refine dD ?_|refine fU ?_|refine bu ?_|refine bU ?_|refine bE ?_|refine fX ?_|refine fy ?_|refine fp ?_|refine dP ?_|refine cL ?_|refine aM ?_|refine ax ?_|refine bt ?_|refine cK ?_|refine bF ?_|refine cM ?_|refine cN ?_)
 exact ar
theorem my {sig:List Ctl} {a:Big} (m:Mat) (hba:aF sig a=true):FnD Tryz.prog 167 [a.D,m.D] (.d (DI (bC a m.nodes))):=by
 have da:=bB hba
 have hn:=da.3
 refine ah Tryz.func167 (fun hw W0=>?_)
 refine kgo ?_
 refine aj [2,3,10] (fun i:Nat=>i≤a.nodes.length) (fun i=>a.nodes.length - i) (fun i=>[(5,.sy (.k 20001)),(20001,.tk (.row 1 3 ((idxOf (nr a m.nodes) i).map .i))),(11,.sy (.d (.i i)))]) 0 (Nat.zero_le _) (fun i hi=>?_)
 refine kgo ?_
 refine aO (fun h=>?_) (fun h=>?_)
 ·have hlt:i<a.nodes.length:=by omega
  have f1:=lZ hba m.nodes i (by omega)
  have f2:=gg m.nodes i
  have hl:=d9 (nr a m.nodes) i
  have hp:nr a m.nodes i=(iF a m.nodes i && !fT m.nodes i):=rfl
  refine kgo ?_
  cases h3:iF a m.nodes i
  ·rw [h3] at hp
   have hs:(idxOf (nr a m.nodes) (i+1)).map D.i=(idxOf (nr a m.nodes) i).map D.i:=by rw [d7 hp]
   refine kgo ?_
   exact af (i+1) (by omega) (by omega)
  rw [h3,Bool.true_and] at hp
  refine kgo ?_
  refine cIf (fun h2=>?_) (fun h2=>?_)
  ·have hs:(idxOf (nr a m.nodes) (i+1)).map D.i=(idxOf (nr a m.nodes) i).map D.i++[.i i]:=by rw [df (hp.trans h2),List.map_append];rfl
   refine kgo ?_
   exact af (i+1) (by omega) (by omega)
  ·have hs:(idxOf (nr a m.nodes) (i+1)).map D.i=(idxOf (nr a m.nodes) i).map D.i:=by rw [d7 (hp.trans h2)]
   refine kgo ?_
   exact af (i+1) (by omega) (by omega)
 rw [show bC a m.nodes=idxOf (nr a m.nodes) i from by rw [show i=a.nodes.length by omega];rfl]
 repeat (first|(refine cI ?_;first|refine aU ?_|refine cb ?_|refine bp ?_|refine bk ?_|refine aS ?_|refine be ?_|refine bc ?_|refine aB ?_|refine bm ?_|refine bo ?_)|(refine fQ ?_;first|refine b6 ?_|refine fH ?_|refine cm ?_|refine cE ?_)|(refine fB ?_;first|refine ex (fun _=>?_)|refine cr ?_|refine ci ?_|refine bL ?_|refine ch ?_|refine cd ?_|refine ca ?_)|(refine fJ ?_;first|refine cF ?_|refine fb ?_|refine cu ?_|refine bS ?_|refine ck ?_|refine cz ?_|refine ct ?_)|(refine fE ?_;first|refine fM ?_|refine fq ?_|refine cj ?_|refine bY ?_|refine fF ?_|refine bg ?_|refine bf ?_)|(refine co ?_;first|refine br ?_|refine cH ?_)|(refine fK ?_;first|refine gq (d:=4) ?_|refine cB ?_|refine cy ?_|refine fL ?_)|(refine b9 ?_;first|refine cG ?_|refine aY ?_|refine aR ?_|refine aZ ?_|refine aW ?_|refine bj ?_)|(refine fC ?_;first|refine cf ?_|refine fA ?_|refine bh ?_|refine aT ?_|refine bq ?_)|(refine aN ?_;first|refine aw _ ?_|refine ba ?_|refine aC ?_|refine az ?_|refine aD ?_)|(refine fG ?_;first|refine cC ?_|refine bR ?_|refine cA ?_)|(refine gOp ?_;first|refine fI ?_|refine fP ?_|refine bl ?_|refine fO ?_|refine fN ?_|refine cD ?_|refine aV ?_|refine cw ?_|refine fR ?_|refine bV ?_|refine cq ?_|refine aX ?_|refine aA ?_|refine cg ?_|refine sNo ?_|refine fa ?_|refine ay ?_)|refine e9 ?_|refine dD ?_|refine fU ?_|refine bu ?_|refine bU ?_|refine bE ?_|refine fX ?_|refine fy ?_|refine fp ?_|refine dP ?_|refine cL ?_|refine aM ?_|refine ax ?_|refine bt ?_|refine cK ?_|refine bF ?_|refine cM ?_|refine cN ?_)
 exact ar
theorem nZ (l:List ByteArray) (s:ByteArray):FnD Tryz.prog 218 [DS l,.s s] (.d (.i (jU l s))):=by
 refine ah Tryz.func218 (fun hw W0=>?_)
 have hl:=(wfM hw.1).1
 refine kgo ?_
 refine aj [0,1,7] (fun i:Nat=>i≤l.length∧∀j (h:j<l.length),j<i→(l[j].toList == s.toList)=false) (fun i=>l.length - i) (fun i=>[(8,.sy (.d (.i i)))]) 0 ⟨Nat.zero_le _,fun j _ h=>absurd h (Nat.not_lt_zero _)⟩ (fun i hi=>?_)
 refine kgo ?_
 refine aO (fun h=>?_) (fun h=>?_)
 ·have hlt:i<l.length:=by omega
  refine kgo ?_
  refine cIf (fun h2=>?_) (fun h2=>?_)
  ·rw [Bool.beq_comm] at h2
   refine kgo ?_
   rw [u9 hlt h2 (fun j hj=>hi.2 j (by omega) hj)]
   exact ar
  ·rw [Bool.beq_comm] at h2
   refine kgo ?_
   exact af (i+1) ⟨hlt,fun j h1 h3=>by
    rcases Nat.lt_or_ge j i with h4|h4
    ·exact hi.2 j h1 h4
    ·rw [show l[j]=l[i] from by congr 1;omega];exact h2⟩ (by omega)
 refine kgo ?_
 rw [Bo (fun j h1=>hi.2 j h1 (by omega))]
 exact ar
def rf (l:List ByteArray) (s:ByteArray):Bool:=decide (0≤jU l s)
theorem pz (l:List ByteArray) (s:ByteArray):FnD Tryz.prog 172 [DS l,.s s] (.d (.b (rf l s))):=by
 refine ah Tryz.func172 (fun hw W0=>?_)
 have f1:=nZ l s
 refine kgo ?_
 exact ar
def ld (es:List Int) (outer:List ByteArray) (name:Int→ByteArray) (l:Int):Int:=if 0≤dv es l then dv es l else es.length+jU (cR outer) (name l)
def mF (b:Big) (es:List Int) (outer:List ByteArray) (place:Int→Int) (name:Int→ByteArray) (k:Int):Nd:=⟨(ew b k).control,place (ew b k).parent,(ew b k).links.map (ld es outer name)⟩
def pS (b:Big) (ns es:List Int) (outer:List ByteArray) (place:Int→Int) (name:Int→ByteArray):Big:=⟨b.roots,ns.map (mF b es outer place name),[],es.length,cR outer,[]⟩
theorem tO (rest:List Int) (p:Int):FnD Tryz.prog 161 [.i p,.p (DI rest)] (.d (.i (if 0≤p then dv rest p else p))):=by
 refine ah Tryz.func161 (fun hw W0=>?_)
 have f1:=iM rest p
 refine kgo ?_
 refine aO (fun h=>?_) (fun h=>?_)
 ·rw [if_pos h]
  refine kgo ?_
  exact ar
 ·rw [if_neg h]
  refine kgo ?_
  exact ar
theorem t7 (a:Big) (l:Int) (h0:0≤l - a.edges) (h1:l - a.edges<a.outer.length) (he:0≤a.edges∧a.edges≤1000) (hol:a.outer.length≤1000):FnD Tryz.prog 163 [.i l,.p a.D] (.d (.s (a.outer.getD (l - a.edges).toNat ⟨#[]⟩))):=by
 obtain ⟨q,hq⟩:=Int.eq_ofNat_of_zero_le h0
 have hql:q<a.outer.length:=by omega
 refine ah Tryz.func163 (fun hw W0=>?_)
 refine kgo ?_
 refine ex (n:=q) (fun _=>?_) rfl rfl (congrArg some hq)
 rw [show a.outer.getD (l - a.edges).toNat ⟨#[]⟩=a.outer[q] from by rw [hq,Int.toNat_natCast];simp [hql]]
 refine kgo ?_
 exact ar
theorem sM (a:Big) (es:List Int) (l:Int) (h0:0≤l∧l≤1000) (he:0≤a.edges∧a.edges≤1000) (hes:es.length≤1000):FnD Tryz.prog 164 [.i l,.p a.D,.p (DI es)] (.d (.i (if l<a.edges then dv es l else es.length+(l - a.edges)))):=by
 refine ah Tryz.func164 (fun hw W0=>?_)
 have f1:=iM es l
 refine kgo ?_
 refine aO (fun h=>?_) (fun h=>?_)
 ·rw [if_pos h]
  refine kgo ?_
  exact ar
 ·rw [if_neg h,show (es.length:Int)+(l - a.edges)=(es.length:Int)+l - a.edges by omega]
  refine kgo ?_
  exact ar
end Go.Proofs.YtclpbhoekmecjaaGreatDoor
