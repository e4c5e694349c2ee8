/-
  Proved facts that the law leans on.
-/
import Derived.Test.YtclpbhoekmecjaaGreatDoorZF5
import Derived.Test.YtclpbhoekmecjaaGreatDoorZF9
import Derived.Test.YtclpbhoekmecjaaGreatDoorZF11
import Derived.Test.YtclpbhoekmecjaaGreatDoorCards
import Derived.Test.YtclpbhoekmecjaaGreatDoorTie
import Derived.Test.YtclpbhoekmecjaaGreatDoorRows
import Derived.Deep.DeepMust
import Derived.ProofKit
import Derived.ShutString
import Derived.Lib.SmallJoins
import Derived.Deep.DeepHandedRow
import Derived.Lib.LaidTab
import Derived.Lay
import Derived.LaidSub
import Derived.MakeChecks
namespace Go.Proofs.YtclpbhoekmecjaaGreatDoor
open Go.RowKit
set_option linter.unusedVariables false
set_option maxRecDepth 100000
set_option maxHeartbeats 4000000
attribute [local irreducible] au Der At
theorem td {l:List Int} (h:l.Pairwise (· < ·)) {i j:Nat} (hi:i<l.length) (hj:j<l.length) (hij:i<j):l[i]<l[j]:=(List.pairwise_iff_getElem.1 h) i j hi hj hij
theorem vl {l:List Int} (h:l.Pairwise (· < ·)) (e:Nat) (he:e<l.length):di l l[e]=e:=by
 have hm:l[e]∈l:=List.getElem_mem he
 unfold di
 rw [if_pos (cS.2 hm)]
 have hd:l.idxOf l[e]<l.length:=List.idxOf_lt_length_of_mem hm
 have hv:l[l.idxOf l[e]]=l[e]:=List.getElem_idxOf hd
 rcases Nat.lt_trichotomy (l.idxOf l[e]) e with h1|h1|h1
 ·have:=td h hd he h1;omega
 ·rw [h1]
 ·have:=td h he hd h1;omega
def lP (ps z:List Int) (base k:Nat):List Int:=(List.range k).foldl (fun l (i:Nat)=>l.set (atI ps i).toNat ((base:Int)+i)) z
theorem mi (ps z:List Int) (base k:Nat):lP ps z base (k+1)=(lP ps z base k).set (atI ps k).toNat ((base:Int)+k):=by unfold lP;rw [List.range_succ,List.foldl_append];rfl
theorem n9 (ps z:List Int) (base k:Nat):(lP ps z base k).length=z.length:=by
 induction k with
 | zero=>simp [lP]
 | succ k ih=>rw [mi,List.length_set,ih]
theorem wF {ps z:List Int} (base:Nat) (hi:ps.Pairwise (· < ·)) (h0:∀x∈ps,0≤x∧x<(z.length:Int)):∀k,k≤ps.length→∀e (he:e<ps.length),e<k→atI (lP ps z base k) ps[e]=base+e:=by
 intro k
 induction k with
 | zero=>intro _ e _ h;exact absurd h (Nat.not_lt_zero _)
 | succ k ih=>
  intro hk e he hek
  have hkl:k<ps.length:=by omega
  have b1:=h0 _ (List.getElem_mem he)
  have b2:=h0 _ (List.getElem_mem hkl)
  have hl:=n9 ps z base k
  rw [mi,bZ ps k hkl]
  unfold atI
  by_cases e1:e=k
  ·subst e1
   rw [List.getD_eq_getElem?_getD,List.getElem?_set_self (by omega)];rfl
  ·have hlt:=td hi he hkl (by omega)
   rw [List.getD_eq_getElem?_getD,List.getElem?_set_ne (by omega),← List.getD_eq_getElem?_getD]
   exact ih (by omega) e he (by omega)
theorem BM {f:Nat→Bool} {n:Nat} {k q j:Nat} (hk:k<(idxOf f n).length) (hq:(idxOf f n)[k]=(q:Int)) (hj:j<q) (hf:f j=true):∃e,e<k∧∃he:e<(idxOf f n).length,(idxOf f n)[e]=(j:Int):=by
 obtain ⟨i,hi,_,hqi⟩:=bw.1 (List.getElem_mem hk)
 have hm:(j:Int)∈idxOf f n:=bw.2 ⟨j,by omega,hf,rfl⟩
 obtain ⟨e,he,h1⟩:=List.mem_iff_getElem.1 hm
 refine ⟨e,?_,he,h1⟩
 rcases Nat.lt_trichotomy e k with h|h|h
 ·exact h
 ·subst h;omega
 ·have:=td (gM f n) hk he h;omega
def dN (p:Big) (list:List Int) (i base:Nat) (q:Int):Nd:=⟨(dZ p q).control,if (dZ p q).parent<0 then -1 - (i:Int) else (base:Int)+di list (dZ p q).parent,(dZ p q).links⟩
def dB (p:Big) (cs:List Int):Nat→List Nd
 | 0=>[]
 | i+1=>dB p cs i++(o5 p (-1 - atI cs i)).map (dN p (o5 p (-1 - atI cs i)) i (dB p cs i).length)
def lX (cs:List Int) (p:Big):Big:=⟨cs.length,dB p cs cs.length,[],0,p.outer,[]⟩
theorem tb (p:Big) (cs:List Int) (i:Nat):(dB p cs i).length≤i * p.nodes.length:=by
 induction i with
 | zero=>simp [dB]
 | succ i ih=>
  have:=dS (iF p (-1 - atI cs i)) p.nodes.length
  unfold dB o5
  rw [List.length_append,List.length_map,Nat.succ_mul]
  omega
theorem rK {sig:List Ctl} (r:Rul) {p:Big} (hp:ay sig p=true) (hc:r.copies.length≤100):FnD Tryz.prog 138 [r.D,p.D] (.d (lX r.copies p).D):=by
 have hd:=aN hp
 have hdm:=bD hp
 refine ah Tryz.func138 (fun hw W0=>?_)
 have hwc:=(wfM hw.1.2.2.1).2
 repeat (first|(refine b8 ?_;first|refine aP ?_|refine cF ?_|refine bh ?_|refine bo ?_|refine aU ?_|refine bl ?_|refine aY ?_|refine aF ?_|refine bk ?_)|(refine fo ?_;first|refine bX ?_|refine fQ ?_|refine cu ?_|refine cD ?_)|(refine fB ?_;first|refine eB (fun _=>?_)|refine cq ?_|refine cf ?_|refine bP ?_|refine cy ?_|refine cB ?_|refine ci ?_)|(refine fx ?_;first|refine b7 ?_|refine eV ?_|refine ca ?_|refine bS ?_|refine cj ?_|refine cm ?_|refine b9 ?_)|(refine fp ?_;first|refine fG ?_|refine fb ?_|refine ch ?_|refine bY ?_|refine fJ ?_|refine be ?_|refine bm ?_)|(refine cb ?_;first|refine bf ?_|refine cC ?_)|(refine ft ?_;first|refine co ?_|refine cr ?_|refine fq ?_)|(refine b6 ?_;first|refine cG ?_|refine bj ?_|refine aT ?_|refine aX ?_|refine aQ ?_|refine bp ?_)|(refine fS ?_;first|refine cd ?_|refine fj ?_|refine bg ?_|refine aR ?_|refine bc ?_)|(refine aO ?_;first|refine ax _ ?_|refine aW ?_|refine aG ?_|refine az ?_|refine aC ?_)|(refine fl ?_;first|refine cz ?_|refine bR ?_|refine cA ?_)|(refine gOp ?_;first|refine fw ?_|refine fy ?_|refine ba ?_|refine fu ?_|refine fE ?_|refine cg ?_|refine aS ?_|refine cE ?_|refine fF ?_|refine bV ?_|refine ct ?_|refine bd ?_|refine sFz 19 ?_|refine aE ?_|refine cw ?_|refine sNo ?_|refine fa ?_|refine aA ?_)|refine e9 ?_|refine ez ?_|refine gx ?_|refine bq ?_|refine cI ?_|refine bF ?_|refine fX ?_|refine gd ?_|refine fU ?_|refine eD ?_|refine cM ?_|refine bu ?_|refine aB ?_|refine br ?_|refine cL ?_|refine bG ?_|refine aBlkX ?_|refine cJ ?_|refine sFz 19 ?_)
 refine aq [2,3,4,5] (fun i:Nat=>i≤r.copies.length) (fun i=>r.copies.length - i) (fun i=>[(10005,.tk (.bx [.d (.i r.copies.length),.k 20001,.d (.n 1),.d (.i 0),.d (DS p.outer),.d (.n 2)])),(20001,.tk (.row 3 131 ((dB p r.copies i).map Nd.D))),(6,.sy (.d (.i i)))]) 0 (Nat.zero_le _) (fun i hi=>?_)
 refine kgo ?_
 refine bt (fun h=>?_) (fun h=>?_)
 ·have hlt:i<r.copies.length:=by omega
  have f1:=zD hp (-1 - r.copies[i])
  have hil:=tb p r.copies i
  have hb1:i * p.nodes.length≤100 * 8:=Nat.mul_le_mul (by omega) hd.2.1
  have hil2:(dB p r.copies i).length≤800:=by omega
  have hz:List.replicate p.nodes.length (D.i 0)=(lP (o5 p (-1 - r.copies[i])) (List.replicate p.nodes.length 0) (dB p r.copies i).length 0).map D.i:=by rw [show lP (o5 p (-1 - r.copies[i])) (List.replicate p.nodes.length 0) (dB p r.copies i).length 0=List.replicate p.nodes.length 0 from by simp [lP],List.map_replicate]
  have hnext:dB p r.copies (i+1)=dB p r.copies i++(o5 p (-1 - r.copies[i])).map (dN p (o5 p (-1 - r.copies[i])) i (dB p r.copies i).length):=by rw [← bZ r.copies i hlt];rfl
  have hcb:I64 (-1 - r.copies[i]):=by have:=hwc _ (List.getElem_mem hlt);unfold Wf I64 at this;unfold I64;omega
  repeat (first|(refine b8 ?_;first|refine aP ?_|refine cF ?_|refine bh ?_|refine bo ?_|refine aU ?_|refine bl ?_|refine aY ?_|refine aF ?_|refine bk ?_)|(refine fo ?_;first|refine bX ?_|refine fQ ?_|refine cu ?_|refine cD ?_)|(refine fB ?_;first|refine eB (fun _=>?_)|refine cq ?_|refine cf ?_|refine bP ?_|refine cy ?_|refine cB ?_|refine ci ?_)|(refine fx ?_;first|refine b7 ?_|refine eV ?_|refine ca ?_|refine bS ?_|refine cj ?_|refine cm ?_|refine b9 ?_)|(refine fp ?_;first|refine fG ?_|refine fb ?_|refine ch ?_|refine bY ?_|refine fJ ?_|refine be ?_|refine bm ?_)|(refine cb ?_;first|refine bf ?_|refine cC ?_)|(refine ft ?_;first|refine fM (d:=7) ?_|refine co ?_|refine cr ?_|refine fq ?_)|(refine b6 ?_;first|refine cG ?_|refine bj ?_|refine aT ?_|refine aX ?_|refine aQ ?_|refine bp ?_)|(refine fS ?_;first|refine cd ?_|refine fj ?_|refine bg ?_|refine aR ?_|refine bc ?_)|(refine aO ?_;first|refine ax _ ?_|refine aW ?_|refine aG ?_|refine az ?_|refine aC ?_)|(refine fl ?_;first|refine cz ?_|refine bR ?_|refine cA ?_)|(refine gOp ?_;first|refine fw ?_|refine fy ?_|refine ba ?_|refine fu ?_|refine fE ?_|refine cg ?_|refine aS ?_|refine cE ?_|refine fF ?_|refine bV ?_|refine ct ?_|refine bd ?_|refine aE ?_|refine cw ?_|refine sNo ?_|refine fa ?_|refine aA ?_)|refine e9 ?_|refine ez ?_|refine gx ?_|refine bq ?_|refine cI ?_|refine bF ?_|refine fX ?_|refine gd ?_|refine fU ?_|refine eD ?_|refine cM ?_|refine bu ?_|refine aB ?_|refine br ?_|refine cL ?_|refine bG ?_|refine aBlkX ?_|refine cJ ?_)
  refine bV (n:=p.nodes.length) (r:=.i 0) ?_ rfl rfl (hb:=by show 8 * p.nodes.length≤1000000000;omega)
  have hul:(o5 p (-1 - r.copies[i])).length≤p.nodes.length:=dS _ _
  have hmem:∀x∈o5 p (-1 - r.copies[i]),∃q:Nat,q<p.nodes.length∧iF p (-1 - r.copies[i]) q=true∧x=q:=fun x hx=>bw.1 hx
  have hinc:(o5 p (-1 - r.copies[i])).Pairwise (· < ·):=gM _ _
  have hup:∀(k q j:Nat) (hk:k<(o5 p (-1 - r.copies[i])).length),(o5 p (-1 - r.copies[i]))[k]=(q:Int)→j<q→iF p (-1 - r.copies[i]) j=true→∃e,e<k∧∃he:e<(o5 p (-1 - r.copies[i])).length,(o5 p (-1 - r.copies[i]))[e]=(j:Int):=fun k q j hk hq hj hf=>BM hk hq hj hf
  generalize hba:(dB p r.copies i).length=base at *
  generalize o5 p (-1 - r.copies[i])=lst at *
  have h00:(dB p r.copies i).map Nd.D=(dB p r.copies i++(lst.take 0).map (dN p lst i base)).map Nd.D:=by simp
  refine kgo ?_
  refine aq [2,3,4,5,6,7,8] (fun k:Nat=>k≤lst.length) (fun k=>lst.length - k) (fun k=>[(10005,.tk (.bx [.d (.i r.copies.length),.k 20001,.d (.n 1),.d (.i 0),.d (DS p.outer),.d (.n 2)])),(20001,.tk (.row 3 131 ((dB p r.copies i++(lst.take k).map (dN p lst i base)).map Nd.D))),(10039,.tk (.row 1 3 ((lP lst (List.replicate p.nodes.length 0) base k).map .i))),(9,.sy (.d (.i k)))]) 0 (Nat.zero_le _) (fun k hk=>?_)
  refine kgo ?_
  refine bt (fun h2=>?_) (fun h2=>?_)
  ·have hkl:k<lst.length:=by omega
   obtain ⟨q,hq1,hq2,hq⟩:=hmem _ (List.getElem_mem hkl)
   have hpl:=n9 lst (List.replicate p.nodes.length 0) base k
   rw [List.length_replicate] at hpl
   have hs:=mi lst (List.replicate p.nodes.length 0) base k
   rw [bZ lst k hkl,hq,Int.toNat_natCast] at hs
   have hlen:((((dB p r.copies i++(lst.take k).map (dN p lst i base)).map Nd.D).length:Nat):Int)=(base:Int)+k:=by rw [List.length_map,List.length_append,List.length_map,List.length_take,hba];omega
   refine kgo ?_
   refine bP (n:=q) ?_ rfl rfl rfl (congrArg some hq)
   refine kgo ?_
   rw [hlen,← hs]
   refine eB (n:=q) (fun _=>?_) rfl rfl (congrArg some hq)
   have hnd:dZ p q=p.nodes[q]:=aw p q hq1
   have hll:=hdm.7 q hq1
   have hut:=iy hp q hq1
   have f2:=tv (p.nodes[q]).links hll
   have hlen2:(dB p r.copies i++(lst.take k).map (dN p lst i base)).length≤1000:=by rw [List.length_append,List.length_map,List.length_take,hba];omega
   have hs2:∀V:Int,V=(dN p lst i base q).parent→((dB p r.copies i++(lst.take (k+1)).map (dN p lst i base))).map Nd.D=((dB p r.copies i++(lst.take k).map (dN p lst i base))).map Nd.D++[Nd.D ⟨(p.nodes[q]).control,V,(p.nodes[q]).links⟩]:=fun V hV=>by
    simp only [List.take_succ_eq_append_getElem hkl,List.map_append,List.append_assoc,List.map_cons,List.map_nil,hq]
    rw [hV,← hnd];rfl
   have hpl2:=n9 lst (List.replicate p.nodes.length 0) base (k+1)
   rw [List.length_replicate] at hpl2
   refine kgo ?_
   refine bt (fun h3=>?_) (fun h3=>?_)
   ·obtain ⟨j,hj⟩:=Int.eq_ofNat_of_zero_le h3
    have hjq:j<q:=by omega
    have huj:iF p (-1 - r.copies[i]) j=true:=by
     rw [oR p _ q hq1,hj,oP hp j (by omega)] at hq2
     rw [oR p _ j (by omega)];exact hq2
    obtain ⟨e,he1,he2,he3⟩:=hup k q j hkl hq hjq huj
    have hv:=wF (z:=List.replicate p.nodes.length 0) base hinc (fun x hx=>by obtain ⟨y,h1,_,h2⟩:=hmem x hx;rw [List.length_replicate];omega) (k+1) hkl e he2 (by omega)
    have hix:=vl hinc e he2
    have hjl:j<(lP lst (List.replicate p.nodes.length 0) base (k+1)).length:=by omega
    rw [he3,bZ _ j hjl] at hv
    rw [he3] at hix
    have hs3:=hs2 ((lP lst (List.replicate p.nodes.length 0) base (k+1))[j]) (by rw [hv];show _=(if (dZ p q).parent<0 then _ else _);rw [hnd,hj,if_neg (by omega),hix])
    refine kgo ?_
    refine bP (n:=j) ?_ rfl rfl rfl (congrArg some hj)
    repeat (first|(refine b8 ?_;first|refine aP ?_|refine cF ?_|refine bh ?_|refine bo ?_|refine aU ?_|refine bl ?_|refine aY ?_|refine aF ?_|refine bk ?_)|(refine fo ?_;first|refine bX ?_|refine fQ ?_|refine cu ?_|refine cD ?_)|(refine fB ?_;first|refine eB (fun _=>?_)|refine cq ?_|refine cf ?_|refine bP ?_|refine cy ?_|refine cB ?_|refine ci ?_)|(refine fx ?_;first|refine b7 ?_|refine eV ?_|refine ca ?_|refine bS ?_|refine cj ?_|refine cm ?_|refine b9 ?_)|(refine fp ?_;first|refine fG ?_|refine fb ?_|refine ch ?_|refine bY ?_|refine fJ ?_|refine be ?_|refine bm ?_)|(refine cb ?_;first|refine bf ?_|refine cC ?_)|(refine ft ?_;first|refine co ?_|refine cr ?_|refine fq ?_)|(refine b6 ?_;first|refine cG ?_|refine bj ?_|refine aT ?_|refine aX ?_|refine aQ ?_|refine bp ?_)|(refine fS ?_;first|refine cd ?_|refine fj ?_|refine bg ?_|refine aR ?_|refine bc ?_)|(refine aO ?_;first|refine ax _ ?_|refine aW ?_|refine aG ?_|refine az ?_|refine aC ?_)|(refine fl ?_;first|refine cz ?_|refine bR ?_|refine cA ?_)|(refine gOp ?_;first|refine fw ?_|refine fy ?_|refine ba ?_|refine fu ?_|refine fE ?_|refine cg ?_|refine aS ?_|refine cE ?_|refine fF ?_|refine bV ?_|refine ct ?_|refine bd ?_|refine sFz 80 ?_|refine aE ?_|refine cw ?_|refine sNo ?_|refine fa ?_|refine aA ?_)|refine e9 ?_|refine ez ?_|refine gx ?_|refine bq ?_|refine cI ?_|refine bF ?_|refine fX ?_|refine gd ?_|refine fU ?_|refine eD ?_|refine cM ?_|refine bu ?_|refine aB ?_|refine br ?_|refine cL ?_|refine bG ?_|refine aBlkX ?_|refine cJ ?_|refine sFz 80 ?_)
    exact af (k+1) hkl (by omega)
   ·have hs3:=hs2 (-1 - (i:Int)) (by show _=(if (dZ p q).parent<0 then _ else _);rw [hnd,if_pos (by omega)])
    repeat (first|(refine b8 ?_;first|refine aP ?_|refine cF ?_|refine bh ?_|refine bo ?_|refine aU ?_|refine bl ?_|refine aY ?_|refine aF ?_|refine bk ?_)|(refine fo ?_;first|refine bX ?_|refine fQ ?_|refine cu ?_|refine cD ?_)|(refine fB ?_;first|refine eB (fun _=>?_)|refine cq ?_|refine cf ?_|refine bP ?_|refine cy ?_|refine cB ?_|refine ci ?_)|(refine fx ?_;first|refine b7 ?_|refine eV ?_|refine ca ?_|refine bS ?_|refine cj ?_|refine cm ?_|refine b9 ?_)|(refine fp ?_;first|refine fG ?_|refine fb ?_|refine ch ?_|refine bY ?_|refine fJ ?_|refine be ?_|refine bm ?_)|(refine cb ?_;first|refine bf ?_|refine cC ?_)|(refine ft ?_;first|refine co ?_|refine cr ?_|refine fq ?_)|(refine b6 ?_;first|refine cG ?_|refine bj ?_|refine aT ?_|refine aX ?_|refine aQ ?_|refine bp ?_)|(refine fS ?_;first|refine cd ?_|refine fj ?_|refine bg ?_|refine aR ?_|refine bc ?_)|(refine aO ?_;first|refine ax _ ?_|refine aW ?_|refine aG ?_|refine az ?_|refine aC ?_)|(refine fl ?_;first|refine cz ?_|refine bR ?_|refine cA ?_)|(refine gOp ?_;first|refine fw ?_|refine fy ?_|refine ba ?_|refine fu ?_|refine fE ?_|refine cg ?_|refine aS ?_|refine cE ?_|refine fF ?_|refine bV ?_|refine ct ?_|refine bd ?_|refine sFz 80 ?_|refine aE ?_|refine cw ?_|refine sNo ?_|refine fa ?_|refine aA ?_)|refine e9 ?_|refine ez ?_|refine gx ?_|refine bq ?_|refine cI ?_|refine bF ?_|refine fX ?_|refine gd ?_|refine fU ?_|refine eD ?_|refine cM ?_|refine bu ?_|refine aB ?_|refine br ?_|refine cL ?_|refine bG ?_|refine aBlkX ?_|refine cJ ?_|refine sFz 80 ?_)
    exact af (k+1) hkl (by omega)
  have hs4:(dB p r.copies i++(lst.take k).map (dN p lst i base)).map Nd.D=(dB p r.copies (i+1)).map Nd.D:=by rw [hnext,List.take_of_length_le (by omega)]
  refine kgo ?_
  exact af (i+1) hlt (by omega)
 rw [show i=r.copies.length by omega]
 refine bF (aB (aB (bG (bu ?_))))
 refine o7 10005 1 ?_
 refine kgo ?_
 exact aD
end Go.Proofs.YtclpbhoekmecjaaGreatDoor
namespace Go.Proofs.YtclpbhoekmecjaaGreatDoor
open Go.RowKit
set_option linter.unusedVariables false
set_option maxRecDepth 100000
set_option maxHeartbeats 4000000
attribute [local irreducible] au Der At
def sD (r a:Big) (ns:List Int) (i:Nat):Bool:=
 if (!decide ((dZ a i).control=(dZ r ns.length).control) || fh ns i) then false else decide ((dZ r ns.length).parent<0) || decide ((dZ a i).parent=atI ns (dZ r ns.length).parent)
theorem Ey {sig:List Ctl} {r a:Big} (hR:ay sig r=true) (ns:List Int) (i:Nat) (hi:i<a.nodes.length) (hn:ns.length<r.nodes.length):FnD Tryz.prog 228 [r.D,a.D,DI ns,.i i] (.d (.b (sD r a ns i))):=by
 have f1:=lh ns i
 have hu:=iy hR ns.length hn
 have hd:sD r a ns i=if (!decide ((a.nodes[i]).control=(r.nodes[ns.length]).control) || fh ns i) then false else decide ((r.nodes[ns.length]).parent<0) || decide ((a.nodes[i]).parent=atI ns (r.nodes[ns.length]).parent):=by unfold sD;rw [aw a i hi,aw r ns.length hn]
 rw [hd]
 clear hd
 refine ah Tryz.func228 (fun hw W0=>?_)
 refine kgo ?_
 cases hc:decide ((a.nodes[i]).control=(r.nodes[ns.length]).control)
 ·refine kgo ?_
  exact aD
 ·refine kgo ?_
  refine cIf (fun h=>?_) (fun h=>?_)
  ·rw [h]
   refine kgo ?_
   exact aD
  ·rw [h]
   refine kgo ?_
   cases hp:decide ((r.nodes[ns.length]).parent<0)
   ·have hp':=of_decide_eq_false hp
    refine kgo ?_
    exact aD
   ·refine kgo ?_
    exact aD
theorem qr (b:Big) (p:Int) (hl:b.nodes.length≤1048576):FnD Tryz.prog 194 [b.D,.i p] (.d (DI (dc b p))):=⟨cH Tryz.func194,fun F w vs hv hF=>by
 obtain ⟨v1,t,rfl,h1,v2,t2,rfl,⟨h2,_⟩,h3⟩:=hv
 cases (show t2 = [] from h3)
 obtain ⟨cs,rfl,hb⟩:=pB h1
 cases h2
 refine (qT _ _ _ _ _ _ hb hl).mono ?_
 rintro e w' ⟨v,rfl,hV,hX⟩
 exact ⟨_,rfl,hX,rm (Bq.ofV hV)⟩⟩
def rtP (r a:Big) (ns:List Int) (n:Nat):Int:=(dZ a (atI ns (atI (dc r (-1 - (n:Int))) 0))).parent
def rtL (r a:Big) (ns:List Int) (n:Nat):List Int:=(List.range n).map (rtP r a ns)
theorem vE (r a:Big) (ns:List Int) (n:Nat):rtL r a ns (n+1)=rtL r a ns n++[rtP r a ns n]:=by unfold rtL;rw [List.range_succ,List.map_append];rfl
theorem A8 {sig:List Ctl} {r a:Big} (hR:ay sig r=true) (ns:List Int) (hk:∀n:Nat,(n:Int)<r.roots→0<(dc r (-1 - (n:Int))).length) (hm:∀p,∀x∈dc r p,0≤x∧x<(ns.length:Int)) (hn:∀x∈ns,0≤x∧x<(a.nodes.length:Int)):FnD Tryz.prog 227 [r.D,a.D,DI ns] (.row 1 3 ((rtL r a ns r.roots.toNat).map .i)):=by
 have hr:=aN hR
 refine ah Tryz.func227 (fun hw W0=>?_)
 refine kgo ?_
 refine eJ (fun i:Nat=>i≤r.roots.toNat) (fun i=>r.roots.toNat - i) (fun i=>[(2,.sy (.d (DI ns))),(3,.sy (.bx 10003 0)),(10003,.tk (.bx (flat r.D))),(4,.sy (.bx 10004 0)),(10004,.tk (.bx (flat a.D))),(7,.sy (.k 10009)),(10009,.tk (.row 1 3 ((rtL r a ns i).map .i))),(8,.sy (.d (.i i)))]) 0 (Nat.zero_le _) (fun i hi=>?_)
 refine kgo ?_
 refine cIf (fun h=>?_) (fun h=>?_)
 ·have h:=of_decide_eq_true h
  have f1:=qr r (-1 - (i:Int)) (by omega)
  have hk1:=hk i h
  have hz:(0:Int)≤0∧(0:Int)<((dc r (-1 - (i:Int))).length:Int):=⟨Int.le_refl _,by omega⟩
  have hm1:=hm _ _ (List.getElem_mem hk1)
  have hx1:=hn _ (og hm1.1 hm1.2)
  have hql:(rtL r a ns i).length≤1000:=by unfold rtL;rw [List.length_map,List.length_range];omega
  obtain ⟨j,hj⟩:=Int.eq_ofNat_of_zero_le hx1.1
  have hjl:j<a.nodes.length:=by omega
  have hp:rtP r a ns i=(a.nodes[j]).parent:=by
   unfold rtP
   rw [show atI (dc r (-1 - (i:Int))) 0=(dc r (-1 - (i:Int)))[0] from by unfold atI;simp [List.getElem?_eq_getElem hk1],hj,aw a j hjl]
  have hs:(rtL r a ns (i+1)).map D.i=(rtL r a ns i).map D.i++[.i (a.nodes[j]).parent]:=by rw [vE,List.map_append,hp];rfl
  refine kgo ?_
  refine eB (n:=j) (fun _=>?_) rfl rfl (congrArg some hj)
  refine kgo ?_
  exact af (i+1) (by omega) (by omega)
 ·have h:=of_decide_eq_false h
  rw [show i=r.roots.toNat by omega]
  refine kgo ?_
  exact oX
end Go.Proofs.YtclpbhoekmecjaaGreatDoor
namespace Go.Proofs.YtclpbhoekmecjaaGreatDoor
open Go.RowKit
set_option linter.unusedVariables false
set_option maxRecDepth 100000
set_option maxHeartbeats 4000000
attribute [local irreducible] au Der At
theorem wn (n lo hi:Int):FnD Tryz.prog 86 [.i n,.i lo,.i hi] (.d (.b (inR n lo hi))):=by
 refine ah Tryz.func86 (fun hw W0=>?_)
 refine kgo ?_
 cases h:decide (lo≤n)
 ·refine kgo ?_
  rw [show inR n lo hi=false from by unfold inR;rw [h];rfl]
  exact aD
 ·refine kgo ?_
  rw [show inR n lo hi=decide (n≤hi) from by unfold inR;rw [h];rfl]
  exact aD
theorem Ge (b:Big) (n:Int) (hl:b.nodes.length≤1000):FnD Tryz.prog 190 [b.D,.i n] (.d (.b (inR n 0 (b.nodes.length - 1)))):=by
 refine ah Tryz.func190 (fun hw W0=>?_)
 have f1:=wn n 0 (b.nodes.length - 1)
 refine kgo ?_
 exact aD
theorem Ba (b:Big) (n:Int) (hl:b.nodes.length≤1000) (hr:inR b.roots 0 4=true):FnD Tryz.prog 192 [b.D,.i n] (.d (.b (inR n (-b.roots) (b.nodes.length - 1)))):=by
 have hr:=bT hr
 refine ah Tryz.func192 (fun hw W0=>?_)
 have f1:=wn n (-b.roots) (b.nodes.length - 1)
 refine kgo ?_
 exact aD
theorem qa {r a:Big} {ns:List Int} (i:Nat) (hi:i<ns.length) (h:Fj r a ns i=false):rz r a ns=false:=by
 rw [vF,aV _ _ i hi h];simp
theorem En {n:Int} {k:Nat} (h:inR n 0 ((k:Int) - 1)=true):∃m:Nat,n=(m:Int)∧m<k:=by
 have h:=bT h
 obtain ⟨m,rfl⟩:=Int.eq_ofNat_of_zero_le h.1
 exact ⟨m,rfl,by omega⟩
theorem xo (r a:Big) (ns:List Int) (ha:a.nodes.length≤1000) (hr:r.nodes.length≤1000):FnD Tryz.prog 128 [r.D,a.D,DI ns] (.d (.b (rz r a ns))):=by
 refine ah Tryz.func128 (fun hw W0=>?_)
 refine kgo ?_
 refine lV (fun h=>?_) (fun h=>?_)
 ·refine kgo ?_
  rw [show rz r a ns=false from by unfold rz;rw [decide_eq_false (by omega)];rfl]
  exact aD
 refine kgo ?_
 refine aq [2,3,4] (fun i:Nat=>i≤ns.length∧(List.range i).all (Fj r a ns)=true) (fun i=>ns.length - i) (fun i=>[(7,.sy (.d (.i i)))]) 0 ⟨Nat.zero_le _,rfl⟩ (fun i hi=>?_)
 refine kgo ?_
 refine bt (fun h2=>?_) (fun h2=>?_)
 ·have hlt:i<ns.length:=by omega
  have hlr:i<r.nodes.length:=by omega
  have f1:=Ge a ns[i] ha
  have f2:=lh (ns.take i) ns[i]
  have hok:=Ea r a ns i hlt hlr
  refine kgo ?_
  cases h3:inR ns[i] 0 (a.nodes.length - 1)
  ·rw [h3] at hok
   refine kgo ?_
   rw [qa i hlt hok]
   exact aD
  rw [h3] at hok
  refine kgo ?_
  cases h4:fh (ns.take i) ns[i]
  ·rw [h4] at hok
   obtain ⟨k,hk,hka⟩:=En h3
   rw [hk,aw a k hka] at hok
   refine kgo ?_
   refine eB (n:=k) (fun _=>?_) rfl rfl (congrArg some hk)
   refine kgo ?_
   refine lV (fun h5=>?_) (fun h5=>?_)
   ·rw [decide_eq_false h5] at hok
    refine kgo ?_
    rw [qa i hlt hok]
    exact aD
   ·rw [decide_eq_true h5] at hok
    refine kgo ?_
    exact af (i+1) ⟨hlt,by rw [dq,hi.2,hok];rfl⟩ (by omega)
  ·rw [h4] at hok
   refine kgo ?_
   rw [qa i hlt hok]
   exact aD
 refine kgo ?_
 rw [show rz r a ns=true from by rw [vF,decide_eq_true (by omega),eZ _ _ i (by omega) hi.1 hi.2];rfl]
 exact aD
theorem pQ {r a:Big} {ns rs:List Int} (i:Nat) (hi:i<rs.length) (h:jz a ns rs[i]=false):fe r a ⟨ns,rs⟩=false:=by
 unfold fe
 rw [show (⟨ns,rs⟩:Mat).roots.all (jz a ns)=false from List.all_eq_false.2 ⟨_,List.getElem_mem hi,by rw [h];exact Bool.false_ne_true⟩];rfl
theorem wY {sig:List Ctl} (r a:Big) (m:Mat) (hb:ay sig a=true):FnD Tryz.prog 129 [r.D,a.D,m.D] (.d (.b (fe r a m))):=by
 have hd:=bD hb
 refine ah Tryz.func129 (fun hw W0=>?_)
 have hml:=(wfM hw.2.2.1.2.1).1
 refine kgo ?_
 refine aq [3,4,5] (fun i:Nat=>i≤m.roots.length∧(m.roots.take i).all (jz a m.nodes)=true) (fun i=>m.roots.length - i) (fun i=>[(7,.sy (.d (.i i)))]) 0 ⟨Nat.zero_le _,rfl⟩ (fun i hi=>?_)
 refine kgo ?_
 refine bt (fun h2=>?_) (fun h2=>?_)
 ·have hlt:i<m.roots.length:=by omega
  have f1:=Ba a m.roots[i] hd.3 hd.1
  have hok:jz a m.nodes m.roots[i]=(inR m.roots[i] (-a.roots) (a.nodes.length - 1) && !hZ a m.nodes m.roots[i]):=rfl
  refine kgo ?_
  cases h3:inR m.roots[i] (-a.roots) (a.nodes.length - 1)
  ·rw [h3] at hok
   refine kgo ?_
   rw [show fe r a m=false from pQ i hlt hok]
   exact aD
  rw [h3] at hok
  have f2:=mC hb m m.roots[i] (by have:=bT h3;omega)
  refine kgo ?_
  refine cIf (fun h5=>?_) (fun h5=>?_)
  ·rw [h5] at hok
   refine kgo ?_
   rw [show fe r a m=false from pQ i hlt hok]
   exact aD
  ·rw [h5] at hok
   refine kgo ?_
   exact af (i+1) ⟨hlt,by rw [List.take_succ_eq_append_getElem hlt,List.all_append,hi.2,List.all_cons,hok];rfl⟩ (by omega)
 refine kgo ?_
 rw [show fe r a m=decide ((m.roots.length:Int)=r.roots) from by unfold fe;rw [gh _ _ i (by omega) hi.2];rfl]
 exact aD
theorem vZ (r a:Big) (m:Mat) (i:Nat) (h:i<m.nodes.length) (hr:i<r.nodes.length) (k:Nat) (hk:m.nodes[i]=(k:Int)) (hka:k<a.nodes.length):pd r a m i=decide ((a.nodes[k]).parent=if 0≤(r.nodes[i]).parent then atI m.nodes (r.nodes[i]).parent else atI m.roots (-1 - (r.nodes[i]).parent)):=by
 unfold pd FV
 rw [bZ _ i h,hk,aw a k hka,aw r i hr]
theorem tF {sig:List Ctl} {r a:Big} (m:Mat) (hbr:ay sig r=true) (hba:ay sig a=true) (him:oS r a m.nodes) (hrs:(m.roots.length:Int)=r.roots):FnD Tryz.prog 130 [r.D,a.D,m.D] (.d (.b ((List.range m.nodes.length).all (pd r a m)))):=by
 have hdr:=aN hbr
 refine ah Tryz.func130 (fun hw W0=>?_)
 have hml:=(wfM hw.2.2.1.1).1
 refine kgo ?_
 refine aq [3,4,5] (fun i:Nat=>i≤m.nodes.length∧(List.range i).all (pd r a m)=true) (fun i=>m.nodes.length - i) (fun i=>[(7,.sy (.d (.i i)))]) 0 ⟨Nat.zero_le _,rfl⟩ (fun i hi=>?_)
 refine kgo ?_
 refine bt (fun h2=>?_) (fun h2=>?_)
 ·have hlt:i<m.nodes.length:=by omega
  have hlr:i<r.nodes.length:=by have:=him.len;omega
  obtain ⟨k,hka,hk0,_⟩:=him.at' i hlr
  rw [bZ _ i hlt] at hk0
  have hok:=vZ r a m i hlt hlr k hk0 hka
  have hup:=iy hbr i hlr
  refine kgo ?_
  refine bt (fun h3=>?_) (fun h3=>?_)
  ·rw [if_pos h3] at hok
   have hx:(r.nodes[i]).parent<m.nodes.length:=by omega
   refine kgo ?_
   refine eB (n:=k) (fun _=>?_) rfl rfl (congrArg some hk0)
   refine kgo ?_
   refine lV (fun h5=>?_) (fun h5=>?_)
   ·rw [decide_eq_false h5] at hok
    refine kgo ?_
    rw [aV _ _ i hlt hok]
    exact aD
   ·rw [decide_eq_true h5] at hok
    refine kgo ?_
    exact af (i+1) ⟨hlt,by rw [dq,hi.2,hok];rfl⟩ (by omega)
  ·rw [if_neg h3] at hok
   have hx : -1 - (r.nodes[i]).parent<m.roots.length:=by omega
   refine kgo ?_
   refine eB (n:=k) (fun _=>?_) rfl rfl (congrArg some hk0)
   refine kgo ?_
   refine lV (fun h5=>?_) (fun h5=>?_)
   ·rw [decide_eq_false h5] at hok
    refine kgo ?_
    rw [aV _ _ i hlt hok]
    exact aD
   ·rw [decide_eq_true h5] at hok
    refine kgo ?_
    exact af (i+1) ⟨hlt,by rw [dq,hi.2,hok];rfl⟩ (by omega)
 refine kgo ?_
 rw [eZ _ _ i (by omega) hi.1 hi.2]
 exact aD
theorem lD (b:Big) (p:Int):(bA b p).length≤b.sites.length:=dS _ _
theorem qH (b:Big) (p:Int):(dc b p).length≤b.nodes.length:=dS _ _
theorem BC {r a:Big} (m:Mat) (him:oS r a m.nodes) (dr:vn r) (da:vn a):FnD Tryz.prog 131 [r.D,a.D,m.D] (.d (.b ((List.range m.nodes.length).all (kZ r a m)))):=by
 have hsi:=dr.4
 have hno:=da.3
 refine ah Tryz.func131 (fun hw W0=>?_)
 have hml:=(wfM hw.2.2.1.1).1
 refine kgo ?_
 refine aq [3,4,5] (fun i:Nat=>i≤m.nodes.length∧(List.range i).all (kZ r a m)=true) (fun i=>m.nodes.length - i) (fun i=>[(7,.sy (.d (.i i)))]) 0 ⟨Nat.zero_le _,rfl⟩ (fun i hi=>?_)
 refine kgo ?_
 refine bt (fun h2=>?_) (fun h2=>?_)
 ·have hlt:i<m.nodes.length:=by omega
  have f1:=qr a m.nodes[i] (by omega)
  have f2:=lI r i (by omega)
  have hk1:=lD r i
  have hk2:=qH a m.nodes[i]
  have hok:kZ r a m i=(!(decide ((bA r i).length=0)) || (dc a m.nodes[i]).all (fh m.nodes)):=by unfold kZ;rw [bZ _ i hlt]
  have hnext:kZ r a m i=true→(List.range (i+1)).all (kZ r a m)=true:=fun h=>by rw [dq,hi.2,h];rfl
  refine kgo ?_
  refine aq [3,4,5,7,8] (fun k:Nat=>k≤(dc a m.nodes[i]).length∧(0<k→(bA r i).length=0)∧((dc a m.nodes[i]).take k).all (fh m.nodes)=true) (fun k=>(dc a m.nodes[i]).length - k) (fun k=>[(9,.sy (.d (.i k)))]) 0 ⟨Nat.zero_le _,fun h=>absurd h (by omega),rfl⟩ (fun k hk=>?_)
  refine kgo ?_
  cases h4:decide ((k:Int)<((dc a m.nodes[i]).length:Int))
  ·have h4:=of_decide_eq_false h4
   rw [gh _ _ k (by omega) hk.2.2,Bool.or_true] at hok
   refine kgo ?_
   exact af (i+1) ⟨hlt,hnext hok⟩ (by omega)
  have h4:=of_decide_eq_true h4
  have hkl:k<(dc a m.nodes[i]).length:=by omega
  refine kgo ?_
  refine bt (fun h5=>?_) (fun h5=>?_)
  ·have f3:=lh m.nodes (dc a m.nodes[i])[k]
   refine kgo ?_
   refine cIf (fun h6=>?_) (fun h6=>?_)
   ·rw [Bool.not_eq_true'] at h6
    rw [decide_eq_true (by omega),show (dc a m.nodes[i]).all (fh m.nodes)=false from List.all_eq_false.2 ⟨_,List.getElem_mem hkl,by rw [h6];exact Bool.false_ne_true⟩] at hok
    refine kgo ?_
    rw [aV _ _ i hlt hok]
    exact aD
   ·rw [Bool.not_eq_false'] at h6
    refine kgo ?_
    exact af (k+1) ⟨hkl,fun _=>by omega,by rw [List.take_succ_eq_append_getElem hkl,List.all_append,hk.2.2,List.all_cons,h6];rfl⟩ (by omega)
  ·rw [decide_eq_false (by omega)] at hok
   refine kgo ?_
   exact af (i+1) ⟨hlt,hnext hok⟩ (by omega)
 refine kgo ?_
 rw [eZ _ _ i (by omega) hi.1 hi.2]
 exact aD
theorem AV {sig:List Ctl} {r a:Big} (m:Mat) (hbr:ay sig r=true) (hba:ay sig a=true) (hp0:∀l:Nat,l<ap r→aJ r l≠[]):FnD Tryz.prog 92 [r.D,a.D,m.D] (.d (.b (dO r a m))):=by
 have dr:=bD hbr
 have da:=bD hba
 have f1:=xo r a m.nodes da.3 dr.3
 have f2:=wY r a m hba
 have hm:dO r a m=((rz r a m.nodes && fe r a m) && ((List.range m.nodes.length).all (pd r a m) && ((List.range m.nodes.length).all (kZ r a m) && gm r a m.nodes))):=rfl
 have f3:rz r a m.nodes=true→fe r a m=true→FnD Tryz.prog 130 [r.D,a.D,m.D] (.d (.b ((List.range m.nodes.length).all (pd r a m)))):=fun h1 h2=>tF m hbr hba (iB h1) (iN h2)
 have f4:rz r a m.nodes=true→FnD Tryz.prog 131 [r.D,a.D,m.D] (.d (.b ((List.range m.nodes.length).all (kZ r a m)))):=fun h1=>BC m (iB h1) dr da
 have f5:rz r a m.nodes=true→FnD Tryz.prog 132 [r.D,a.D,m.D] (.tp [DI (oD r a m.nodes),.b (gm r a m.nodes)]):=fun h1=>sw m hbr hba (iB h1) hp0
 refine ah Tryz.func92 (fun hw W0=>?_)
 rw [hm]
 refine kgo ?_
 cases h1:rz r a m.nodes
 ·refine kgo ?_
  exact aD
 have f4:=f4 h1
 have f5:=f5 h1
 refine kgo ?_
 cases h2:fe r a m
 ·refine kgo ?_
  exact aD
 have f3:=f3 h1 h2
 refine kgo ?_
 cases h3:(List.range m.nodes.length).all (pd r a m)
 ·refine kgo ?_
  exact aD
 refine kgo ?_
 cases h4:(List.range m.nodes.length).all (kZ r a m)
 ·refine kgo ?_
  exact aD
 refine kgo ?_
 exact aD
end Go.Proofs.YtclpbhoekmecjaaGreatDoor
namespace Go.Proofs.YtclpbhoekmecjaaGreatDoor
open Go.RowKit
set_option linter.unusedVariables false
set_option maxRecDepth 100000
set_option maxHeartbeats 4000000
attribute [local irreducible] au Der At
def GH (n:Nat):List Int:=(List.range n).map fun (i:Nat)=>(i:Int)
theorem CE (n:Nat):(GH n).length=n:=by unfold GH;simp
end Go.Proofs.YtclpbhoekmecjaaGreatDoor
namespace Go.Proofs.YtclpbhoekmecjaaGreatDoor
open Go.RowKit
set_option linter.unusedVariables false
set_option maxRecDepth 100000
set_option maxHeartbeats 4000000
attribute [local irreducible] au Der At
theorem CC (b:Big) (l:Int) (hl:b.inner.length≤1000):FnD Tryz.prog 298 [b.D,.i l] (.d (DS (mq b l))):=by
 refine ah Tryz.func298 (fun hw W0=>?_)
 refine kgo ?_
 refine aq [1,2] (fun i:Nat=>i≤b.inner.length) (fun i=>b.inner.length - i) (fun i=>[(5,.sy (.k 20001)),(20001,.tk (.row 1 9 ((dW b l i).map .s))),(6,.sy (.d (.i i)))]) 0 (Nat.zero_le _) (fun i hi=>?_)
 refine kgo ?_
 refine bt (fun h=>?_) (fun h=>?_)
 ·have hlt:i<b.inner.length:=by omega
  have hq:=iU b l i
  refine kgo ?_
  refine bt (fun h2=>?_) (fun h2=>?_)
  ·have hs:(dW b l (i+1)).map D.s=(dW b l i).map D.s++[.s (b.inner[i]).name]:=by rw [mO hlt h2,List.map_append];rfl
   refine kgo ?_
   exact af (i+1) hlt (by omega)
  ·have hs:(dW b l (i+1)).map D.s=(dW b l i).map D.s:=by rw [oK hlt h2]
   refine kgo ?_
   exact af (i+1) hlt (by omega)
 rw [show mq b l=dW b l i from by rw [show i=b.inner.length by omega];rfl]
 repeat (first|(refine b8 ?_;first|refine aP ?_|refine cF ?_|refine bh ?_|refine bo ?_|refine aU ?_|refine bl ?_|refine aY ?_|refine aF ?_|refine bk ?_)|(refine fo ?_;first|refine bX ?_|refine fQ ?_|refine cu ?_|refine cD ?_)|(refine fB ?_;first|refine eB (fun _=>?_)|refine cq ?_|refine cf ?_|refine bP ?_|refine cy ?_|refine cB ?_|refine ci ?_)|(refine fx ?_;first|refine b7 ?_|refine eV ?_|refine ca ?_|refine bS ?_|refine cj ?_|refine cm ?_|refine b9 ?_)|(refine fp ?_;first|refine fG ?_|refine fb ?_|refine ch ?_|refine bY ?_|refine fJ ?_|refine be ?_|refine bm ?_)|(refine cb ?_;first|refine bf ?_|refine cC ?_)|(refine ft ?_;first|refine fM (d:=4) ?_|refine co ?_|refine cr ?_|refine fq ?_)|(refine b6 ?_;first|refine cG ?_|refine bj ?_|refine aT ?_|refine aX ?_|refine aQ ?_|refine bp ?_)|(refine fS ?_;first|refine cd ?_|refine fj ?_|refine bg ?_|refine aR ?_|refine bc ?_)|(refine aO ?_;first|refine ax _ ?_|refine aW ?_|refine aG ?_|refine az ?_|refine aC ?_)|(refine fl ?_;first|refine cz ?_|refine bR ?_|refine cA ?_)|(refine gOp ?_;first|refine fw ?_|refine fy ?_|refine ba ?_|refine fu ?_|refine fE ?_|refine cg ?_|refine aS ?_|refine cE ?_|refine fF ?_|refine bV ?_|refine ct ?_|refine bd ?_|refine aE ?_|refine cw ?_|refine sNo ?_|refine fa ?_|refine aA ?_)|refine e9 ?_|refine ez ?_|refine gx ?_|refine bq ?_|refine cI ?_|refine bF ?_|refine fX ?_|refine gd ?_|refine fU ?_|refine eD ?_|refine cM ?_|refine bu ?_|refine aB ?_|refine br ?_|refine cL ?_|refine bG ?_|refine aBlkX ?_|refine cJ ?_)
 exact aD
theorem rI {α:Type} (l:List α):decide ((l.length:Int)=0)=l.isEmpty:=by cases l <;> simp <;> omega
theorem CA {b:Big} (d:vn b) (l:Int) (hi:b.inner.length≤1000):FnD Tryz.prog 261 [b.D,.i l] (.d (.b (nt b l))):=by
 have f1:=lF b l d.3 d.7
 have f2:=CC b l hi
 have hpl:=eT b l d.3 d.7
 have hel:=iU b l b.inner.length
 refine ah Tryz.func261 (fun hw W0=>?_)
 refine kgo ?_
 have e1:=rI (aJ b l)
 have e2:=rI (mq b l)
 unfold nt
 rw [← e1,← e2]
 cases h:decide (((aJ b l).length:Int)=0)
 ·refine kgo ?_
  exact aD
 ·refine kgo ?_
  exact aD
theorem t7 {b:Big} (h:(List.range (ap b)).all (dt b)=false):bL b=false:=by unfold bL;rw [h];simp
theorem zw {b:Big} (d:vn b) (hi:b.inner.length≤1000):FnD Tryz.prog 226 [b.D] (.d (.b (bL b))):=by
 have hr:=bT d.1
 have he:=bT d.2
 have hn:=d.3
 have hs:=d.4
 have ho:=d.5
 obtain ⟨R,hR⟩:=Int.eq_ofNat_of_zero_le hr.1
 have hlk:b.edges+(b.outer.length:Int)=(ap b:Nat):=by unfold ap;omega
 have hroot:∀i:Nat,gi b i=(!(decide ((dc b (-1 - (i:Int))).length=0)) && decide ((bA b (-1 - (i:Int))).length=0)):=fun i=>rfl
 refine ah Tryz.func226 (fun hw W0=>?_)
 refine kgo ?_
 cases h1:decide ((0:Int)<b.inner.length)
 ·have h1:=of_decide_eq_false h1
  refine kgo ?_
  refine bt (fun h2=>?_) (fun h2=>?_)
  ·refine kgo ?_
   rw [lg (.inr h2)]
   exact aD
  refine kgo ?_
  refine aq [1] (fun i:Nat=>i≤R∧(List.range i).all (gi b)=true) (fun i=>R - i) (fun i=>[(3,.sy (.d (.i i)))]) 0 ⟨Nat.zero_le _,rfl⟩ (fun i hi=>?_)
  refine kgo ?_
  refine bt (fun h3=>?_) (fun h3=>?_)
  ·have hlt:i<R:=by omega
   have f1:=qr b (-1 - (i:Int)) (by omega)
   have f2:=lI b (-1 - (i:Int)) (by omega)
   have hk1:=lD b (-1 - (i:Int))
   have hk2:=qH b (-1 - (i:Int))
   have hok:=hroot i
   have bad:gi b i=false→bL b=false:=fun h=>tw i (by rw [hR];exact hlt) h
   refine kgo ?_
   cases h4:decide (((dc b (-1 - (i:Int))).length:Int)=0)
   ·have h4:=of_decide_eq_false h4
    rw [decide_eq_false (by omega)] at hok
    refine kgo ?_
    refine bt (fun h5=>?_) (fun h5=>?_)
    ·rw [decide_eq_false (by omega)] at hok
     refine kgo ?_
     rw [bad hok]
     exact aD
    ·rw [decide_eq_true (by omega)] at hok
     refine kgo ?_
     exact af (i+1) ⟨hlt,by rw [dq,hi.2,hok];rfl⟩ (by omega)
   ·have h4:=of_decide_eq_true h4
    rw [decide_eq_true (by omega)] at hok
    refine kgo ?_
    rw [bad hok]
    exact aD
  have hroots:(List.range b.roots.toNat).all (gi b)=true:=by rw [hR,Int.toNat_natCast];exact eZ _ _ i (by omega) hi.1 hi.2
  refine kgo ?_
  refine aq [1] (fun i:Nat=>i≤b.nodes.length∧(List.range i).all (cZ b)=true) (fun i=>b.nodes.length - i) (fun i=>[(4,.sy (.d (.i i)))]) 0 ⟨Nat.zero_le _,rfl⟩ (fun i hi=>?_)
  refine kgo ?_
  refine bt (fun h3=>?_) (fun h3=>?_)
  ·have hlt:i<b.nodes.length:=by omega
   have f2:=lI b i (by omega)
   have hk1:=lD b i
   have hok:cZ b i=decide ((bA b i).length≤1):=rfl
   refine kgo ?_
   refine bt (fun h5=>?_) (fun h5=>?_)
   ·rw [decide_eq_false (by omega)] at hok
    refine kgo ?_
    rw [ue i hlt hok]
    exact aD
   ·rw [decide_eq_true (by omega)] at hok
    refine kgo ?_
    exact af (i+1) ⟨hlt,by rw [dq,hi.2,hok];rfl⟩ (by omega)
  have hnodes:(List.range b.nodes.length).all (cZ b)=true:=eZ _ _ i (by omega) hi.1 hi.2
  refine kgo ?_
  refine aq [1] (fun i:Nat=>i≤ap b∧(List.range i).all (dt b)=true) (fun i=>ap b - i) (fun i=>[(5,.sy (.d (.i i)))]) 0 ⟨Nat.zero_le _,rfl⟩ (fun i hi=>?_)
  refine kgo ?_
  refine bt (fun h3=>?_) (fun h3=>?_)
  ·have hlt:i<ap b:=by omega
   have f2:=CA d i (by assumption)
   have hok:dt b i = !(nt b i):=rfl
   refine kgo ?_
   refine cIf (fun h5=>?_) (fun h5=>?_)
   ·rw [h5] at hok
    refine kgo ?_
    rw [t7 (aV _ _ i hlt hok)]
    exact aD
   ·rw [h5] at hok
    refine kgo ?_
    exact af (i+1) ⟨hlt,by rw [dq,hi.2,hok];rfl⟩ (by omega)
  refine kgo ?_
  rw [pp (by omega) h2 hroots hnodes (eZ _ _ i (by omega) hi.1 hi.2)]
  exact aD
 ·have h1:=of_decide_eq_true h1
  refine kgo ?_
  rw [lg (.inl (by omega))]
  exact aD
theorem zk (sig:List Ctl) (b:Big) (hl:b.inner.length≤1048576):FnD Tryz.prog 176 [.l 3 (sig.map Ctl.D),b.D] (.d (.b (ay sig b && bL b))):=by
 have f1:=fV sig b (by omega)
 refine ah Tryz.func176 (fun hw W0=>?_)
 refine kgo ?_
 cases h:ay sig b
 ·refine kgo ?_
  exact aD
 ·have f2:=zw (bD h) (by have:=(aN h).2.2.2.2.2;omega)
  refine kgo ?_
  exact aD
theorem ru (a c:List ByteArray):FnD Tryz.prog 177 [DS a,DS c] (.d (.b (eqS a c))):=by
 refine ah Tryz.func177 (fun hw W0=>?_)
 have hl:=(wfM hw.1).1
 have hl2:=(wfM hw.2.1).1
 refine kgo ?_
 refine aq [0,1] (fun i:Nat=>i≤a.length∧i≤c.length∧(List.range i).all (jI a c)=true) (fun i=>a.length - i) (fun i=>[(5,.sy (.d (.i i)))]) 0 ⟨Nat.zero_le _,Nat.zero_le _,rfl⟩ (fun i hi=>?_)
 refine kgo ?_
 cases h:decide ((i:Int)<a.length)
 ·have h:=of_decide_eq_false h
  refine kgo ?_
  rw [show eqS a c=decide ((a.length:Int)=c.length) from by unfold eqS;rw [eZ _ _ i (by omega) hi.1 hi.2.2,Bool.and_true];exact decide_eq_decide.2 (by omega)]
  exact aD
 have h:=of_decide_eq_true h
 refine kgo ?_
 refine bt (fun h2=>?_) (fun h2=>?_)
 ·have hlt:i<a.length:=by omega
  have hlt2:i<c.length:=by omega
  have hs:=ka a c i hlt hlt2
  refine kgo ?_
  refine cIf (fun h3=>?_) (fun h3=>?_)
  ·refine kgo ?_
   rw [qo (c:=c) i hlt (by rw [hs];simpa using h3)]
   exact aD
  ·refine kgo ?_
   exact af (i+1) ⟨hlt,hlt2,by rw [dq,hi.2.2,hs];simpa using h3⟩ (by omega)
 ·refine kgo ?_
  rw [show eqS a c=decide ((a.length:Int)=c.length) from by unfold eqS;rw [decide_eq_false (by omega),Bool.false_and,decide_eq_false (by omega)]]
  exact aD
theorem wL (r:Rul) (h1:r.redex.sites.length≤1000) (h2:r.reactum.sites.length≤1000):FnD Tryz.prog 178 [r.D] (.d (.b (decide (r.copies.length=r.reactum.sites.length) && r.copies.all (iP r)))):=by
 refine ah Tryz.func178 (fun hw W0=>?_)
 have hl:=(wfM hw.1.2.2.1).1
 refine kgo ?_
 refine aq [1] (fun i:Nat=>i≤r.copies.length∧(r.copies.take i).all (iP r)=true) (fun i=>r.copies.length - i) (fun i=>[(3,.sy (.d (.i i)))]) 0 ⟨Nat.zero_le _,rfl⟩ (fun i hi=>?_)
 refine kgo ?_
 refine bt (fun h=>?_) (fun h=>?_)
 ·have hlt:i<r.copies.length:=by omega
  have f1:=wn r.copies[i] 0 (r.redex.sites.length - 1)
  have hok:iP r r.copies[i]=inR r.copies[i] 0 ((r.redex.sites.length:Int) - 1):=rfl
  refine kgo ?_
  refine cIf (fun h3=>?_) (fun h3=>?_)
  ·rw [Bool.not_eq_true'] at h3
   rw [h3] at hok
   refine kgo ?_
   rw [show r.copies.all (iP r)=false from List.all_eq_false.2 ⟨_,List.getElem_mem hlt,by rw [hok];exact Bool.false_ne_true⟩,Bool.and_false]
   exact aD
  ·rw [Bool.not_eq_false'] at h3
   rw [h3] at hok
   refine kgo ?_
   exact af (i+1) ⟨hlt,by rw [List.take_succ_eq_append_getElem hlt,List.all_append,hi.2,List.all_cons,hok];rfl⟩ (by omega)
 refine kgo ?_
 rw [gh _ _ i (by omega) hi.2,Bool.and_true,show decide (r.copies.length=r.reactum.sites.length)=decide ((r.copies.length:Int)=r.reactum.sites.length) from decide_eq_decide.2 (by omega)]
 exact aD
theorem CN (sig:List Ctl) (r:Rul) (h1:r.redex.inner.length≤1048576) (h2:r.reactum.inner.length≤1048576):FnD Tryz.prog 121 [.l 3 (sig.map Ctl.D),r.D] (.d (.b (gC sig r))):=by
 have f1:=zk sig r.redex h1
 have f2:=fV sig r.reactum (by omega)
 have f3:=ru r.redex.outer r.reactum.outer
 have hE:gC sig r=((ay sig r.redex && ay sig r.reactum) && (bL r.redex && (decide (r.reactum.inner.length=0) && (decide (r.redex.roots=r.reactum.roots) && (eqS r.redex.outer r.reactum.outer && (decide (r.copies.length=r.reactum.sites.length) && r.copies.all (iP r))))))):=rfl
 have hz:decide (r.reactum.inner.length=0)=decide ((r.reactum.inner.length:Int)=0):=decide_eq_decide.2 (by omega)
 rw [hz] at hE
 refine ah Tryz.func121 (fun hw W0=>?_)
 rw [hE]
 refine kgo ?_
 cases e1:ay sig r.redex
 ·refine kgo ?_
  exact aD
 cases e2:bL r.redex
 ·rw [Bool.false_and,Bool.and_false]
  refine kgo ?_
  exact aD
 refine kgo ?_
 cases e3:ay sig r.reactum
 ·refine kgo ?_
  exact aD
 refine kgo ?_
 cases e4:decide ((r.reactum.inner.length:Int)=0)
 ·refine kgo ?_
  exact aD
 refine kgo ?_
 cases e5:decide (r.redex.roots=r.reactum.roots)
 ·refine kgo ?_
  exact aD
 refine kgo ?_
 cases e6:eqS r.redex.outer r.reactum.outer
 ·refine kgo ?_
  exact aD
 have f4:=wL r (by have:=(bD e1).4;omega) (by have:=(bD e3).4;omega)
 refine kgo ?_
 exact aD
theorem E4 (sig:List Ctl):FnD Tryz.prog 122 [.l 3 (sig.map Ctl.D)] (.d (.b (k9 sig))):=⟨cH Tryz.func122,fun F w vs hv hF=>by
 obtain ⟨v1,t,rfl,h1,h3⟩:=hv
 cases (show t = [] from h3)
 refine (ng _ _ _ _ _ (rW.toV (by decide) h1)).mono ?_
 rintro e w' ⟨rfl,hX⟩
 exact ⟨_,rfl,hX,rfl⟩⟩
theorem zi (sig:List Ctl) (rs:List Rul) (hr:∀r∈rs,r.redex.inner.length≤1048576∧r.reactum.inner.length≤1048576):FnD Tryz.prog 82 [.l 3 (sig.map Ctl.D),.l 13 (rs.map Rul.D)] (.d (.b (fY sig rs))):=by
 have f2:=E4 sig
 have f3:=wn rs.length 1 6
 refine ah Tryz.func82 (fun hw W0=>?_)
 have hl:=(wfM hw.2.1).1
 refine kgo ?_
 refine aq [0,1] (fun i:Nat=>i≤rs.length∧(rs.take i).all (gC sig)=true) (fun i=>rs.length - i) (fun i=>[(5,.sy (.d (.i i)))]) 0 ⟨Nat.zero_le _,rfl⟩ (fun i hi=>?_)
 refine kgo ?_
 refine bt (fun h=>?_) (fun h=>?_)
 ·have hlt:i<rs.length:=by omega
  have hm:=List.getElem_mem hlt
  have f1:=CN sig rs[i] (hr _ hm).1 (hr _ hm).2
  refine kgo ?_
  refine cIf (fun h3=>?_) (fun h3=>?_)
  ·rw [Bool.not_eq_true'] at h3
   refine kgo ?_
   rw [show fY sig rs=false from by unfold fY;rw [show rs.all (gC sig)=false from List.all_eq_false.2 ⟨_,hm,by rw [h3];exact Bool.false_ne_true⟩,Bool.and_false]]
   exact aD
  ·rw [Bool.not_eq_false'] at h3
   refine kgo ?_
   exact af (i+1) ⟨hlt,by rw [List.take_succ_eq_append_getElem hlt,List.all_append,hi.2,List.all_cons,h3];rfl⟩ (by omega)
 have hall:=gh _ _ i (by omega) hi.2
 have hE:fY sig rs=inR (rs.length:Int) 1 6:=by unfold fY;rw [hall,Bool.and_true]
 refine kgo ?_
 cases e1:k9 sig
 ·rw [show fY sig rs=false from by
   cases hb:fY sig rs with
   | false=>rfl
   | true=>rw [xZ hb] at e1;cases e1]
  refine kgo ?_
  exact aD
 ·rw [hE]
  refine kgo ?_
  exact aD
theorem yA (sig:List Ctl) (b:Big) (hl:b.inner.length≤1048576):FnD Tryz.prog 83 [.l 3 (sig.map Ctl.D),b.D] (.d (.b (gQ sig b))):=by
 have f1:=fV sig b (by omega)
 have hE:gQ sig b=(ay sig b && (decide ((b.sites.length:Int)=0) && decide ((b.inner.length:Int)=0))):=by
  unfold gQ
  rw [show decide (b.sites.length=0)=decide ((b.sites.length:Int)=0) from decide_eq_decide.2 (by omega),show decide (b.inner.length=0)=decide ((b.inner.length:Int)=0) from decide_eq_decide.2 (by omega)]
 refine ah Tryz.func83 (fun hw W0=>?_)
 have hs:=(wfM hw.2.1.2.2.1).1
 rw [hE]
 refine kgo ?_
 cases e1:ay sig b
 ·refine kgo ?_
  exact aD
 refine kgo ?_
 cases e2:decide ((b.sites.length:Int)=0)
 ·refine kgo ?_
  exact aD
 refine kgo ?_
 exact aD
end Go.Proofs.YtclpbhoekmecjaaGreatDoor
namespace Go.Proofs.YtclpbhoekmecjaaGreatDoor
open Go.RowKit
set_option linter.unusedVariables false
set_option maxRecDepth 100000
set_option maxHeartbeats 4000000
attribute [local irreducible] au Der At
theorem cK {r a:Big} {m:Mat} (h:dO r a m=true):rz r a m.nodes=true∧fe r a m=true∧(List.range m.nodes.length).all (kZ r a m)=true∧gm r a m.nodes=true:=by
 unfold dO at h
 simp only [Bool.and_eq_true] at h
 exact ⟨h.1.1,h.1.2,h.2.2.1,h.2.2.2⟩
theorem lS {r a:Big} {m:Mat} (h:fe r a m=true):∀p∈m.roots,-a.roots≤p∧p<(a.nodes.length:Int):=fun p hp=>by
 unfold fe at h
 rw [Bool.and_eq_true] at h
 have h2:=List.all_eq_true.1 h.1 p hp
 unfold jz at h2
 rw [Bool.and_eq_true] at h2
 have:=bT h2.1
 omega
theorem gO {sig:List Ctl} {r:Rul} (h:gC sig r=true):ay sig r.redex=true∧ay sig r.reactum=true∧bL r.redex=true∧r.reactum.inner.length=0∧r.redex.roots=r.reactum.roots∧eqS r.redex.outer r.reactum.outer=true∧r.copies.length=r.reactum.sites.length∧r.copies.all (iP r)=true:=by
 unfold gC at h
 simp only [Bool.and_eq_true,decide_eq_true_eq] at h
 obtain ⟨⟨a,b⟩,c,d,e,f,g,i⟩:=h
 exact ⟨a,b,c,d,e,f,g,i⟩
theorem oH {r a:Big} {m:Mat} (h:dO r a m=true) (i:Nat) (hi:i<a.nodes.length) (h1:mn a m.nodes i=true) (h2:fh m.nodes (dZ a i).parent=true):0<(bA r (di m.nodes (dZ a i).parent)).length:=by
 have hk:=(cK h).2.2.1
 have hm:=cS.1 h2
 have hlt:m.nodes.idxOf (dZ a i).parent<m.nodes.length:=List.idxOf_lt_length_of_mem hm
 have h3:=(aI _ _).1 hk _ hlt
 have he:atI m.nodes (m.nodes.idxOf (dZ a i).parent:Nat)=(dZ a i).parent:=by rw [bZ _ _ hlt];exact List.getElem_idxOf hlt
 unfold kZ at h3
 rw [he] at h3
 rw [show di m.nodes (dZ a i).parent=(m.nodes.idxOf (dZ a i).parent:Nat) from if_pos h2]
 by_cases hz:(bA r (m.nodes.idxOf (dZ a i).parent:Nat)).length=0
 ·rw [decide_eq_true hz,Bool.not_true,Bool.false_or] at h3
  have hik:(i:Int)∈dc a (dZ a i).parent:=bw.2 ⟨i,hi,by unfold oY;rw [List.getElem?_eq_getElem hi,aw a i hi];exact decide_eq_true rfl,rfl⟩
  have h4:=List.all_eq_true.1 h3 _ hik
  unfold mn at h1
  rw [h4] at h1
  simp at h1
 ·omega
theorem mt {outer:List ByteArray} {n:Nat} (h:n+outer.length≤16):(bH outer n).length=n:=by
 have:=AG outer 26 (Nat.le_refl _)
 show ((kO outer 26).take n).length=n
 rw [List.length_take];omega
theorem qp {r a:Big} {ns:List Int} (h:(dJ r a ns).2.2=true):(dJ r a ns).2.1.length=(dJ r a ns).1.length∧(dJ r a ns).1.length≤16∧∀l∈(dJ r a ns).1,0≤l∧l<(ap a:Int):=by
 unfold dJ at h ⊢
 split at h
 ·cases h
 ·rename_i hn
  rw [if_neg hn]
  have hn:=of_decide_eq_false (by simpa using hn:decide (16<((idxOf (psF a ns) (ap a)).length:Int)+r.outer.length)=false)
  dsimp only
  refine ⟨mt (by omega),by omega,fun l hl=>?_⟩
  obtain ⟨i,hi,_,rfl⟩:=bw.1 hl
  omega
abbrev gD (r:Big) (a:Big) (m:Mat):Big:=Fg r a m (dJ r a m.nodes).1 (dJ r a m.nodes).2.1
abbrev fC (r:Big) (a:Big) (m:Mat):Big:=Fz r a m (dJ r a m.nodes).1 (dJ r a m.nodes).2.1
def eY (sig:List Ctl) (r:Rul) (a:Big) (m:Mat):Big × Bool:=
 if (dJ r.redex a m.nodes).2.2 && (ay sig (gD r.redex a m) && ay sig (fC r.redex a m)) then mT sig r.reactum (gD r.redex a m) (lX r.copies (fC r.redex a m)) else (eU,false)
theorem mc {sig:List Ctl} {r:Rul} {a:Big} {m:Mat} (h:((dJ r.redex a m.nodes).2.2 && (ay sig (gD r.redex a m) && ay sig (fC r.redex a m)))=false):eY sig r a m=(eU,false):=by unfold eY;rw [h];rfl
theorem n8 {sig:List Ctl} {r:Rul} {a:Big} {m:Mat} (h:((dJ r.redex a m.nodes).2.2 && (ay sig (gD r.redex a m) && ay sig (fC r.redex a m)))=true):eY sig r a m=mT sig r.reactum (gD r.redex a m) (lX r.copies (fC r.redex a m)):=by unfold eY;rw [h];rfl
theorem xY {sig:List Ctl} {a b:Big} (h:(eO sig a b).2=true):(eO sig a b).1=ta a b∧ay sig (ta a b)=true:=by
 unfold eO at h ⊢
 split at h
 ·rename_i hc
  rw [if_pos hc]
  simp only [Bool.and_eq_true] at hc
  exact ⟨rfl,hc.2.2.2⟩
 ·cases h
theorem vi {sig:List Ctl} {r:Rul} {a:Big} {m:Mat} (h:(eY sig r a m).2=true):gQ sig (eY sig r a m).1=true:=by
 cases hc:((dJ r.redex a m.nodes).2.2 && (ay sig (gD r.redex a m) && ay sig (fC r.redex a m))) with
 | false=>rw [mc hc] at h;cases h
 | true=>
  rw [n8 hc] at h ⊢
  unfold mT at h ⊢
  split at h
  ·rename_i h1
   split at h
   ·rename_i h2
    rw [if_pos h1,if_pos h2]
    obtain ⟨e1,e2⟩:=xY h
    rw [e1]
    unfold gQ
    rw [e2]
    rfl
   ·cases h
  ·cases h
theorem AF {sig:List Ctl} {r:Rul} {a:Big} (m:Mat) (hr:gC sig r=true) (ha:ay sig a=true) (hm:dO r.redex a m=true):FnD Tryz.prog 94 [.l 3 (sig.map Ctl.D),r.D,a.D,m.D] (.tp [(eY sig r a m).1.D,.b (eY sig r a m).2]):=by
 obtain ⟨r1,r2,r3,r4,r5,r6,r7,r8⟩:=gO hr
 obtain ⟨m1,m2,m3,m4⟩:=cK hm
 have hd:=aN r1
 have hd2:=aN r2
 have f1:=w0 (r:=r.redex) ha m (by omega)
 have hml:=iN (rs:=m.roots) (ns:=m.nodes) m2
 have f2:(dJ r.redex a m.nodes).2.2=true→FnD Tryz.prog 135 [r.redex.D,a.D,m.D,DI (dJ r.redex a m.nodes).1,DS (dJ r.redex a m.nodes).2.1] (.d (gD r.redex a m).D):=fun h=>by
  obtain ⟨p1,p2,p3⟩:=qp h
  exact vg m r1 ha (iB m1) (gR r3) m4 (fun p hp=>(lS m2 p hp).2) (by omega) _ _ p3 p1 (by omega)
 have f3:(dJ r.redex a m.nodes).2.2=true→FnD Tryz.prog 136 [r.redex.D,a.D,m.D,DI (dJ r.redex a m.nodes).1,DS (dJ r.redex a m.nodes).2.1] (.d (fC r.redex a m).D):=fun h=>by
  obtain ⟨p1,p2,p3⟩:=qp h
  exact Cq m r1 ha (oH hm) _ _ p3 p1 (by omega)
 have hx:(dJ r.redex a m.nodes).2.2=true→(gD r.redex a m).inner.length≤1000:=fun h=>by
  obtain ⟨p1,p2,p3⟩:=qp h
  show (bJ _ _).length≤1000
  rw [kg]
  unfold oQ zW
  rw [List.length_mapIdx,List.length_mapIdx];omega
 refine ah Tryz.func94 (fun hw W0=>?_)
 refine kgo ?_
 cases h1:(dJ r.redex a m.nodes).2.2
 ·rw [mc (by rw [h1];rfl)]
  refine kgo ?_
  exact ig
 have f2:=f2 h1
 have f3:=f3 h1
 have hx:=hx h1
 have f4:=fV sig (gD r.redex a m) (by omega)
 have f5:=fV sig (fC r.redex a m) (by show (0:Nat)≤_;omega)
 have hno:(ay sig (gD r.redex a m) && ay sig (fC r.redex a m))=false→eY sig r a m=(eU,false):=fun h=>mc (by rw [h1,h];rfl)
 have hyes:(ay sig (gD r.redex a m) && ay sig (fC r.redex a m))=true→eY sig r a m=mT sig r.reactum (gD r.redex a m) (lX r.copies (fC r.redex a m)):=fun h=>n8 (by rw [h1,h];rfl)
 generalize gD r.redex a m=C at *
 generalize fC r.redex a m=Q at *
 refine kgo ?_
 cases h2:ay sig C
 ·rw [hno (by rw [h2];rfl)]
  refine kgo ?_
  exact ig
 refine kgo ?_
 cases h3:ay sig Q
 ·rw [hno (by rw [h2,h3];rfl)]
  refine kgo ?_
  exact ig
 rw [hyes (by rw [h2,h3];rfl)]
 have f6:=rK r h3 (by omega)
 have f7:=w8 sig r.reactum C (lX r.copies Q) (by omega) (by show (0:Nat)≤_;omega)
 refine kgo ?_
 exact ig
theorem ot {sig:List Ctl} {b:Big} (h:gQ sig b=true):ay sig b=true:=(Bool.and_eq_true_iff.1 h).1
end Go.Proofs.YtclpbhoekmecjaaGreatDoor
namespace Go.Proofs.YtclpbhoekmecjaaGreatDoor
open Go.RowKit Go.ChangeShapes Go.WideShapes Go.ChangeAt Go.Joins
set_option linter.unusedVariables false
set_option linter.unusedSimpArgs false
set_option maxRecDepth 100000
theorem own:ownKnob Tryz.prog.godebug=none:=by kernel_rfl
theorem uH:laidOutB Tryz.prog=true:=by kernel_rfl
def B6 : List (String × DataW Unit) := [("unicode/utf8.acceptRanges", Rows.laid_unicode_utf8_acceptRanges), ("unicode/utf8.first", Rows.laid_unicode_utf8_first)]
theorem B1 (os:Os) (args:Array Value):laidMetH Tryz.prog B6 ((World.laidAll Tryz.prog os B6).forCall (fun _ _=>0) ⟨#[],args,[]⟩).memory:=by
 rw [MakeChecks.laidMetH_plain _ _ _ (by kernel_rfl)];exact laidMet_laidAll _ (by kernel_rfl) (by kernel_rfl)
def LD {α:Type} (f:α→D):Lie α:=fun lo hi w cs x=>Rp w (fun b=>b<hi) (f x) cs
theorem pS {α:Type} {f:α→D} {z hi:Nat} {w:World} {v:Value} {xs:List α} (h:SlV z (LD f) 0 hi w v xs):Rp w (fun b=>b<hi) (.l z (xs.map f)) [v]:=by
 obtain ⟨a,k,h1,h2,h3,h4,h5⟩:=h
 refine ⟨a,k,by rw [h1,List.length_map],by rw [List.length_map];exact h2,h3,h4,?_⟩
 rcases h5 with h5|⟨b,o,e1,_,e2,e3⟩
 ·exact .inl (by rw [h5];rfl)
 ·refine .inr ⟨b,o,e1,e2,(ik _ _).2 fun j hj=>?_⟩
  obtain ⟨cs,q1,q2,q3⟩:=e3 j (by rw [List.length_map] at hj;exact hj)
  exact ⟨cs,q1,by rw [List.getElem_map];exact q2,q3⟩
section
variable {H:Type} {enc:TypeId × Value→H} {w:World}
theorem gq:Tryz.prog.cellsOf 3=1:=by kernel_rfl
theorem jX:Tryz.prog.cellsOf 9=1:=by kernel_rfl
theorem jY:gU enc Tryz.prog w 3 (LD D.i):=fun fuel cs x h=>by obtain ⟨n,h1,h2⟩:=A4 Tryz.underlying3 fuel cs x h;exact ⟨n,h1,h2⟩
theorem tT:gU enc Tryz.prog w 9 (LD D.s):=fun fuel cs x h=>by obtain ⟨n,h1,h2⟩:=sM Tryz.underlying9 fuel cs x h;exact ⟨n,h1,h2⟩
theorem lp:Tryz.prog.cellsOf 80=3:=by kernel_rfl
theorem rf:gU enc Tryz.prog w 80 (LD Ctl.D):=by
 intro fuel cs x h
 obtain ⟨hl,n,hf⟩:=gW Tryz.underlying80 h
 rw [lp] at hl
 obtain ⟨c0,c1,c2,rfl⟩:=Gv hl
 obtain ⟨y0,e0⟩:=hf 0 _ rfl
 replace e0:DataW.trod enc Tryz.prog w 0 (fun _=>true) true n 9 [c0]=some y0:=by simpa [jX] using e0
 obtain ⟨x0,b0⟩:=tT _ _ _ e0
 obtain ⟨y1,e1⟩:=hf 1 _ rfl
 replace e1:DataW.trod enc Tryz.prog w 0 (fun _=>true) true n 3 [c1]=some y1:=by simpa [gq] using e1
 obtain ⟨x1,b1⟩:=jY _ _ _ e1
 obtain ⟨y2,e2⟩:=hf 2 _ rfl
 replace e2:DataW.trod enc Tryz.prog w 0 (fun _=>true) true n 3 [c2]=some y2:=by simpa [gq] using e2
 obtain ⟨x2,b2⟩:=jY _ _ _ e2
 exact ⟨⟨x0,x1,x2⟩,[c0],_,rfl,b0,[c1],_,rfl,b1,[c2],_,rfl,b2,rfl⟩
theorem mV:Tryz.prog.cellsOf 25=1:=by kernel_rfl
theorem mF:∀fuel cs x,DataW.trod enc Tryz.prog w 0 (fun _=>true) true fuel 25 cs=some x→∃v xs,cs = [v]∧Rp w (fun b=>b<w.heap.size) (.l 1 (List.map D.i xs)) [v]:=fun fuel cs x h=>by obtain ⟨v,xs,h1,h2⟩:=fm Tryz.underlying25 gq (by decide) jY fuel cs x h;exact ⟨v,xs,h1,pS h2⟩
theorem pT:Tryz.prog.cellsOf 125=3:=by kernel_rfl
theorem wW:gU enc Tryz.prog w 125 (LD Nd.D):=by
 intro fuel cs x h
 obtain ⟨hl,n,hf⟩:=gW Tryz.underlying125 h
 rw [pT] at hl
 obtain ⟨c0,c1,c2,rfl⟩:=Gv hl
 obtain ⟨y0,e0⟩:=hf 0 _ rfl
 replace e0:DataW.trod enc Tryz.prog w 0 (fun _=>true) true n 3 [c0]=some y0:=by simpa [gq] using e0
 obtain ⟨x0,b0⟩:=jY _ _ _ e0
 obtain ⟨y1,e1⟩:=hf 1 _ rfl
 replace e1:DataW.trod enc Tryz.prog w 0 (fun _=>true) true n 3 [c1]=some y1:=by simpa [gq] using e1
 obtain ⟨x1,b1⟩:=jY _ _ _ e1
 obtain ⟨y2,e2⟩:=hf 2 _ rfl
 replace e2:DataW.trod enc Tryz.prog w 0 (fun _=>true) true n 25 [c2]=some y2:=by simpa [mV] using e2
 obtain ⟨v2,x2,h2,b2⟩:=mF _ _ _ e2
 obtain rfl:=(List.cons.inj h2).1
 exact ⟨⟨x0,x1,x2⟩,[c0],_,rfl,b0,[c1],_,rfl,b1,[c2],_,rfl,b2,rfl⟩
theorem pL:Tryz.prog.cellsOf 128=2:=by kernel_rfl
theorem ye:gU enc Tryz.prog w 128 (LD Wr.D):=by
 intro fuel cs x h
 obtain ⟨hl,n,hf⟩:=gW Tryz.underlying128 h
 rw [pL] at hl
 obtain ⟨c0,c1,rfl⟩:=GQ hl
 obtain ⟨y0,e0⟩:=hf 0 _ rfl
 replace e0:DataW.trod enc Tryz.prog w 0 (fun _=>true) true n 9 [c0]=some y0:=by simpa [jX] using e0
 obtain ⟨x0,b0⟩:=tT _ _ _ e0
 obtain ⟨y1,e1⟩:=hf 1 _ rfl
 replace e1:DataW.trod enc Tryz.prog w 0 (fun _=>true) true n 3 [c1]=some y1:=by simpa [gq] using e1
 obtain ⟨x1,b1⟩:=jY _ _ _ e1
 exact ⟨⟨x0,x1⟩,[c0],_,rfl,b0,[c1],_,rfl,b1,rfl⟩
theorem uS:Tryz.prog.cellsOf 24=1:=by kernel_rfl
theorem tD:∀fuel cs x,DataW.trod enc Tryz.prog w 0 (fun _=>true) true fuel 24 cs=some x→∃v xs,cs = [v]∧Rp w (fun b=>b<w.heap.size) (.l 3 (List.map Nd.D xs)) [v]:=fun fuel cs x h=>by obtain ⟨v,xs,h1,h2⟩:=fm Tryz.underlying24 pT (by decide) wW fuel cs x h;exact ⟨v,xs,h1,pS h2⟩
theorem qP:Tryz.prog.cellsOf 26=1:=by kernel_rfl
theorem qu:∀fuel cs x,DataW.trod enc Tryz.prog w 0 (fun _=>true) true fuel 26 cs=some x→∃v xs,cs = [v]∧Rp w (fun b=>b<w.heap.size) (.l 1 (List.map D.s xs)) [v]:=fun fuel cs x h=>by obtain ⟨v,xs,h1,h2⟩:=fm Tryz.underlying26 jX (by decide) tT fuel cs x h;exact ⟨v,xs,h1,pS h2⟩
theorem ut:Tryz.prog.cellsOf 27=1:=by kernel_rfl
theorem ub:∀fuel cs x,DataW.trod enc Tryz.prog w 0 (fun _=>true) true fuel 27 cs=some x→∃v xs,cs = [v]∧Rp w (fun b=>b<w.heap.size) (.l 2 (List.map Wr.D xs)) [v]:=fun fuel cs x h=>by obtain ⟨v,xs,h1,h2⟩:=fm Tryz.underlying27 pL (by decide) ye fuel cs x h;exact ⟨v,xs,h1,pS h2⟩
theorem i5:Tryz.prog.cellsOf 29=6:=by kernel_rfl
theorem jg:gU enc Tryz.prog w 29 (LD Big.D):=by
 intro fuel cs x h
 obtain ⟨hl,n,hf⟩:=gW Tryz.underlying29 h
 rw [i5] at hl
 obtain ⟨c0,c1,c2,c3,c4,c5,rfl⟩:=GU hl
 obtain ⟨y0,e0⟩:=hf 0 _ rfl
 replace e0:DataW.trod enc Tryz.prog w 0 (fun _=>true) true n 3 [c0]=some y0:=by simpa [gq] using e0
 obtain ⟨x0,b0⟩:=jY _ _ _ e0
 obtain ⟨y1,e1⟩:=hf 1 _ rfl
 replace e1:DataW.trod enc Tryz.prog w 0 (fun _=>true) true n 24 [c1]=some y1:=by simpa [uS] using e1
 obtain ⟨v1,x1,h1,b1⟩:=tD _ _ _ e1
 obtain rfl:=(List.cons.inj h1).1
 obtain ⟨y2,e2⟩:=hf 2 _ rfl
 replace e2:DataW.trod enc Tryz.prog w 0 (fun _=>true) true n 25 [c2]=some y2:=by simpa [mV] using e2
 obtain ⟨v2,x2,h2,b2⟩:=mF _ _ _ e2
 obtain rfl:=(List.cons.inj h2).1
 obtain ⟨y3,e3⟩:=hf 3 _ rfl
 replace e3:DataW.trod enc Tryz.prog w 0 (fun _=>true) true n 3 [c3]=some y3:=by simpa [gq] using e3
 obtain ⟨x3,b3⟩:=jY _ _ _ e3
 obtain ⟨y4,e4⟩:=hf 4 _ rfl
 replace e4:DataW.trod enc Tryz.prog w 0 (fun _=>true) true n 26 [c4]=some y4:=by simpa [qP] using e4
 obtain ⟨v4,x4,h4,b4⟩:=qu _ _ _ e4
 obtain rfl:=(List.cons.inj h4).1
 obtain ⟨y5,e5⟩:=hf 5 _ rfl
 replace e5:DataW.trod enc Tryz.prog w 0 (fun _=>true) true n 27 [c5]=some y5:=by simpa [ut] using e5
 obtain ⟨v5,x5,h5,b5⟩:=ub _ _ _ e5
 obtain rfl:=(List.cons.inj h5).1
 exact ⟨⟨x0,x1,x2,x3,x4,x5⟩,[c0],_,rfl,b0,[c1],_,rfl,b1,[c2],_,rfl,b2,[c3],_,rfl,b3,[c4],_,rfl,b4,[c5],_,rfl,b5,rfl⟩
theorem pE:Tryz.prog.cellsOf 83=13:=by kernel_rfl
theorem xD:gU enc Tryz.prog w 83 (LD Rul.D):=by
 intro fuel cs x h
 obtain ⟨hl,n,hf⟩:=gW Tryz.underlying83 h
 rw [pE] at hl
 obtain ⟨c0,c1,c2,c3,c4,c5,c6,c7,c8,c9,c10,c11,c12,rfl⟩:=Gr hl
 obtain ⟨y0,e0⟩:=hf 0 _ rfl
 replace e0:DataW.trod enc Tryz.prog w 0 (fun _=>true) true n 29 [c0,c1,c2,c3,c4,c5]=some y0:=by simpa [i5] using e0
 obtain ⟨x0,b0⟩:=jg _ _ _ e0
 obtain ⟨y1,e1⟩:=hf 1 _ rfl
 replace e1:DataW.trod enc Tryz.prog w 0 (fun _=>true) true n 29 [c6,c7,c8,c9,c10,c11]=some y1:=by simpa [i5] using e1
 obtain ⟨x1,b1⟩:=jg _ _ _ e1
 obtain ⟨y2,e2⟩:=hf 2 _ rfl
 replace e2:DataW.trod enc Tryz.prog w 0 (fun _=>true) true n 25 [c12]=some y2:=by simpa [mV] using e2
 obtain ⟨v2,x2,h2,b2⟩:=mF _ _ _ e2
 obtain rfl:=(List.cons.inj h2).1
 exact ⟨⟨x0,x1,x2⟩,[c0,c1,c2,c3,c4,c5],_,rfl,b0,[c6,c7,c8,c9,c10,c11],_,rfl,b1,[c12],_,rfl,b2,rfl⟩
theorem pm:∀fuel cs x,DataW.trod enc Tryz.prog w 0 (fun _=>true) true fuel 22 cs=some x→∃v xs,cs = [v]∧Rp w (fun b=>b<w.heap.size) (.l 3 (List.map Ctl.D xs)) [v]:=fun fuel cs x h=>by obtain ⟨v,xs,h1,h2⟩:=fm Tryz.underlying22 lp (by decide) rf fuel cs x h;exact ⟨v,xs,h1,pS h2⟩
theorem ui:∀fuel cs x,DataW.trod enc Tryz.prog w 0 (fun _=>true) true fuel 23 cs=some x→∃v xs,cs = [v]∧Rp w (fun b=>b<w.heap.size) (.l 13 (List.map Rul.D xs)) [v]:=fun fuel cs x h=>by obtain ⟨v,xs,h1,h2⟩:=fm Tryz.underlying23 pE (by decide) xD fuel cs x h;exact ⟨v,xs,h1,pS h2⟩
theorem GB {t:TypeId} {fs:Array Field} {α:Type} {f:α→D} {b0:Nat} {r:Reach} {v:Value} {d:DataW H} {p:List MemPlace} (hs:Tryz.prog.underlying t=some (.struct fs)) (ho:gU enc Tryz.prog w t (LD f))
 (hv:Value.okWide Tryz.prog w r b0 t v) (h:DataW.Trod enc Tryz.prog w 0 (fun _=>true) true t v d p):∃(cs:List Value) (x:α),v=.agg cs.toArray∧Rp w (fun b=>b<w.heap.size) (f x) cs:=by
 obtain ⟨cs,rfl,_⟩:=okWide_struct hs hv
 obtain ⟨fuel,hf⟩:=h
 obtain ⟨x,hx⟩:=ho _ _ _ hf
 exact ⟨cs.toList,x,by simp,by simpa [Value.cells,LD] using hx⟩
theorem yE {t e:TypeId} {α:Type} {f:α→D} {z b0:Nat} {r:Reach} {v:Value} {d:DataW H} {p:List MemPlace} (hs:Tryz.prog.underlying t=some (.slice e))
 (ho:∀fuel cs x,DataW.trod enc Tryz.prog w 0 (fun _=>true) true fuel t cs=some x→∃v xs,cs = [v]∧Rp w (fun b=>b<w.heap.size) (.l z (List.map f xs)) [v])
 (hv:Value.okWide Tryz.prog w r b0 t v) (h:DataW.Trod enc Tryz.prog w 0 (fun _=>true) true t v d p):∃(u:Value) (xs:List α),v=u∧Rp w (fun b=>b<w.heap.size) (.l z (List.map f xs)) [u]:=by
 obtain ⟨a,n,k,rfl⟩:=okWide_slice hs hv
 obtain ⟨fuel,hf⟩:=h
 obtain ⟨u,xs,e,hx⟩:=ho _ _ _ hf
 simp [Value.cells] at e
 exact ⟨u,xs,e,hx⟩
end
theorem FN {f:FuncId} {ds:List D} (h:FnD Tryz.prog f ds (.d (.b true))) {vs:List Value} {w:World} (hv:DVs w (fun b=>b<w.heap.size) ds vs):Calls Tryz.prog f vs.toArray w fun e w'=>e=.returned (.bool true)∧Ext w w':=
 (h.calls _ w vs hv (fun _ h=>h)).mono fun e w' ⟨v,h1,h2,h3⟩=>⟨by rw [h1,show v=.bool true from (List.cons.inj (show [v] = [Value.bool true] from h3)).1],h2⟩
end Go.Proofs.YtclpbhoekmecjaaGreatDoor
namespace Go.Proofs.YtclpbhoekmecjaaGreatDoor
open Go.RowKit
set_option linter.unusedVariables false
set_option maxRecDepth 100000
set_option maxHeartbeats 4000000
attribute [local irreducible] au Der At
theorem vq (n lo hi:Int):FnD Tryz.prog 58 [.i n,.i lo,.i hi] (.d (.b (inR n lo hi))):=by
 refine ah Tryz.func58 (fun hw W0=>?_)
 refine kgo ?_
 cases h:decide (lo≤n)
 ·refine kgo ?_
  rw [show inR n lo hi=false from by unfold inR;rw [h];rfl]
  exact aD
 ·refine kgo ?_
  rw [show inR n lo hi=decide (n≤hi) from by unfold inR;rw [h];rfl]
  exact aD
theorem By (b:Big) (n:Int) (hl:b.nodes.length≤1000):FnD Tryz.prog 106 [b.D,.i n] (.d (.b (inR n 0 (b.nodes.length - 1)))):=by
 refine ah Tryz.func106 (fun hw W0=>?_)
 have f1:=vq n 0 (b.nodes.length - 1)
 refine kgo ?_
 exact aD
def o6 {α:Type} (p:α→Bool) (l:List α):Int:=if l.any p then (l.findIdx p:Int) else -1
theorem tQ {α:Type} {p:α→Bool} {l:List α} {i:Nat} (h:i<l.length) (he:p l[i]=true) (hn:(l.take i).any p=false):o6 p l=i:=by
 unfold o6
 rw [if_pos (List.any_eq_true.2 ⟨_,List.getElem_mem h,he⟩)]
 have:l.findIdx p=i:=(List.findIdx_eq h).2 ⟨he,fun j hj=>by
  have:=List.any_eq_false.1 hn (l[j]) (List.mem_iff_getElem.2 ⟨j,by rw [List.length_take];omega,by rw [List.getElem_take]⟩)
  simpa using this⟩
 rw [this]
theorem qQ {α:Type} {p:α→Bool} {l:List α} (hn:l.any p=false):o6 p l = -1:=by unfold o6;rw [hn];rfl
theorem qe {α:Type} (p:α→Bool) (l:List α):decide (0≤o6 p l)=l.any p:=by
 unfold o6
 cases h:l.any p
 ·rfl
 ·simp
theorem gI {α:Type} (p:α→Bool) (l:List α) : -1≤o6 p l∧o6 p l<l.length:=by
 unfold o6
 split
 ·rename_i h
  have:=List.findIdx_lt_length_of_exists (List.any_eq_true.1 h)
  omega
 ·omega
theorem qw {α:Type} {p:α→Bool} {l:List α} {i:Nat} (h:i<l.length) (hi:(l.take i).any p=false) (hp:p l[i]=false):(l.take (i+1)).any p=false:=by
 rw [List.take_succ_eq_append_getElem h,List.any_append,hi,List.any_cons,hp];rfl
theorem um {α:Type} {p:α→Bool} {l:List α} {i:Nat} (h:l.length≤i) (hi:(l.take i).any p=false):l.any p=false:=by rwa [List.take_of_length_le h] at hi
theorem iq (l:List Int) (n:Int):FnD Tryz.prog 153 [DI l,.i n] (.d (.i (o6 (fun x=>x == n) l))):=by
 refine ah Tryz.func153 (fun hw W0=>?_)
 have hl:=(wfM hw.1).1
 refine kgo ?_
 refine aq [0,1,7] (fun i:Nat=>i≤l.length∧(l.take i).any (fun x=>x == n)=false) (fun i=>l.length - i) (fun i=>[(8,.sy (.d (.i i)))]) 0 ⟨Nat.zero_le _,rfl⟩ (fun i hi=>?_)
 refine kgo ?_
 refine bt (fun h=>?_) (fun h=>?_)
 ·have hlt:i<l.length:=by omega
  refine kgo ?_
  refine bt (fun h2=>?_) (fun h2=>?_)
  ·refine kgo ?_
   rw [tQ hlt (by rw [← h2];exact beq_self_eq_true _) hi.2]
   exact aD
  ·refine kgo ?_
   exact af (i+1) ⟨hlt,qw hlt hi.2 (by rw [beq_eq_false_iff_ne];exact fun e=>h2 e.symm)⟩ (by omega)
 refine kgo ?_
 rw [qQ (um (by omega) hi.2)]
 exact aD
theorem fP (l:List Int) (n:Int):FnD Tryz.prog 107 [DI l,.i n] (.d (.b (fh l n))):=by
 refine ah Tryz.func107 (fun hw W0=>?_)
 have f1:=iq l n
 have hr:=gI (fun x=>x == n) l
 have hp:=qe (fun x=>x == n) l
 refine kgo ?_
 rw [show fh l n=l.any (fun x=>x == n) from rfl,← hp]
 exact aD
theorem s9 (l:List Int) (g:Nat) (cs:List D) (p:Int→Bool) (hct:(cs.all fun r=>!isT r)=true) (hp:∀x∈l,FnD Tryz.prog g ([.i x]++cs) (.d (.b (p x)))):FnD Tryz.prog 154 [DI l,.f g cs] (.d (.i (o6 p l))):=by
 refine ah Tryz.func154 (fun hw W0=>?_)
 have hl:=(wfM hw.1).1
 refine kgo ?_
 refine aq [0,1,7] (fun i:Nat=>i≤l.length∧(l.take i).any p=false) (fun i=>l.length - i) (fun i=>[(8,.sy (.d (.i i)))]) 0 ⟨Nat.zero_le _,rfl⟩ (fun i hi=>?_)
 refine kgo ?_
 refine bt (fun h=>?_) (fun h=>?_)
 ·have hlt:i<l.length:=by omega
  have f1:=hp _ (List.getElem_mem hlt)
  refine kgo ?_
  refine cIf (fun h2=>?_) (fun h2=>?_)
  ·refine kgo ?_
   rw [tQ hlt h2 hi.2]
   exact aD
  ·refine kgo ?_
   exact af (i+1) ⟨hlt,qw hlt hi.2 h2⟩ (by omega)
 refine kgo ?_
 rw [qQ (um (by omega) hi.2)]
 exact aD
theorem gZ (l:List Int) (g:Nat) (cs:List D) (p:Int→Bool) (hct:(cs.all fun r=>!isT r)=true) (hp:∀x∈l,FnD Tryz.prog g ([.i x]++cs) (.d (.b (p x)))):FnD Tryz.prog 108 [DI l,.f g cs] (.d (.b (l.any p))):=by
 refine ah Tryz.func108 (fun hw W0=>?_)
 have f1:=s9 l g cs p hct hp
 have hr:=gI p l
 have hq:=qe p l
 refine kgo ?_
 rw [← hq]
 exact aD
theorem me {sig:List Ctl} {a:Big} (hB:ay sig a=true) (ns:List Int) (p0:Int) (hp:p0<a.nodes.length):FnD Tryz.prog 110 [a.D,.i p0,DI ns] (.d (.b (hZ a ns p0))):=by
 refine ah Tryz.func110 (fun hw W0=>?_)
 refine kgo ?_
 refine aq [2,3] (fun p:Int=>p<a.nodes.length∧hZ a ns p0=hZ a ns p) (fun p=>(p+1).toNat) (fun p=>[(1,.sy (.d (.i p)))]) p0 ⟨hp,rfl⟩ (fun p hi=>?_)
 refine kgo ?_
 refine bt (fun h=>?_) (fun h=>?_)
 ·obtain ⟨k,rfl⟩:=Int.eq_ofNat_of_zero_le h
  have hk:k<a.nodes.length:=by omega
  have hs:hZ a ns k=(fh ns k || hZ a ns (a.nodes[k]).parent):=eP hB _ k hk
  have hu:=iy hB k hk
  have f1:=fP ns k
  refine kgo ?_
  refine cIf (fun h2=>?_) (fun h2=>?_)
  ·refine kgo ?_
   rw [hi.2,hs,h2]
   exact aD
  ·refine kgo ?_
   exact af (a.nodes[k]).parent ⟨by omega,by rw [hi.2,hs,h2];rfl⟩ (by omega)
 refine kgo ?_
 rw [hi.2,show hZ a ns p=false from d8 _ _ (by omega)]
 exact aD
theorem jO (b:Big) (p:Int) (hn:b.nodes.length≤1000) (hs:b.sites.length≤1000):FnD Tryz.prog 155 [b.D,.i p] (.tp [DI (dc b p),DI (bA b p)]):=by
 refine ah Tryz.func155 (fun hw W0=>?_)
 refine kgo ?_
 refine aq [1,2,7,15,16] (fun i:Nat=>i≤b.nodes.length) (fun i=>b.nodes.length - i) (fun i=>[(6,.sy (.k 20001)),(20001,.tk (.row 1 3 ((idxOf (oY b p) i).map .i))),(17,.sy (.d (.i i)))]) 0 (Nat.zero_le _) (fun i hi=>?_)
 refine kgo ?_
 refine bt (fun h=>?_) (fun h=>?_)
 ·have hlt:i<b.nodes.length:=by omega
  have hf:oY b p i=decide ((b.nodes[i]).parent=p):=by unfold oY;rw [List.getElem?_eq_getElem hlt]
  have hl:=dS (oY b p) i
  refine kgo ?_
  refine bt (fun h2=>?_) (fun h2=>?_)
  ·have hs:(idxOf (oY b p) (i+1)).map D.i=(idxOf (oY b p) i).map D.i++[.i i]:=by rw [cY (hf.trans (decide_eq_true h2)),List.map_append];rfl
   refine kgo ?_
   exact af (i+1) (by omega) (by omega)
  ·have hs:(idxOf (oY b p) (i+1)).map D.i=(idxOf (oY b p) i).map D.i:=by rw [dQ (hf.trans (decide_eq_false h2))]
   refine kgo ?_
   exact af (i+1) (by omega) (by omega)
 rw [show dc b p=idxOf (oY b p) i from by rw [show i=b.nodes.length by omega];rfl]
 generalize idxOf (oY b p) i=ks
 refine kgo ?_
 refine aq [1,6,32,33] (fun i:Nat=>i≤b.sites.length) (fun i=>b.sites.length - i) (fun i=>[(7,.sy (.k 20002)),(20002,.tk (.row 1 3 ((idxOf (ii b p) i).map .i))),(34,.sy (.d (.i i)))]) 0 (Nat.zero_le _) (fun i hi=>?_)
 refine kgo ?_
 refine bt (fun h=>?_) (fun h=>?_)
 ·have hlt:i<b.sites.length:=by omega
  have hf:ii b p i=decide (b.sites[i]=p):=by unfold ii;rw [List.getElem?_eq_getElem hlt]
  have hl:=dS (ii b p) i
  refine kgo ?_
  refine bt (fun h2=>?_) (fun h2=>?_)
  ·have hs:(idxOf (ii b p) (i+1)).map D.i=(idxOf (ii b p) i).map D.i++[.i i]:=by rw [cY (hf.trans (decide_eq_true h2)),List.map_append];rfl
   refine kgo ?_
   exact af (i+1) (by omega) (by omega)
  ·have hs:(idxOf (ii b p) (i+1)).map D.i=(idxOf (ii b p) i).map D.i:=by rw [dQ (hf.trans (decide_eq_false h2))]
   refine kgo ?_
   exact af (i+1) (by omega) (by omega)
 rw [show bA b p=idxOf (ii b p) i from by rw [show i=b.sites.length by omega];rfl]
 repeat (first|(refine b8 ?_;first|refine aP ?_|refine cF ?_|refine bh ?_|refine bo ?_|refine aU ?_|refine bl ?_|refine aY ?_|refine aF ?_|refine bk ?_)|(refine fo ?_;first|refine bX ?_|refine fQ ?_|refine cu ?_|refine cD ?_)|(refine fB ?_;first|refine eB (fun _=>?_)|refine cq ?_|refine cf ?_|refine bP ?_|refine cy ?_|refine cB ?_|refine ci ?_)|(refine fx ?_;first|refine b7 ?_|refine eV ?_|refine ca ?_|refine bS ?_|refine cj ?_|refine cm ?_|refine b9 ?_)|(refine fp ?_;first|refine fG ?_|refine fb ?_|refine ch ?_|refine bY ?_|refine fJ ?_|refine be ?_|refine bm ?_)|(refine cb ?_;first|refine bf ?_|refine cC ?_)|(refine ft ?_;first|refine fM (d:=4) ?_|refine fM (d:=5) ?_|refine co ?_|refine cr ?_|refine fq ?_)|(refine b6 ?_;first|refine cG ?_|refine bj ?_|refine aT ?_|refine aX ?_|refine aQ ?_|refine bp ?_)|(refine fS ?_;first|refine cd ?_|refine fj ?_|refine bg ?_|refine aR ?_|refine bc ?_)|(refine aO ?_;first|refine ax _ ?_|refine aW ?_|refine aG ?_|refine az ?_|refine aC ?_)|(refine fl ?_;first|refine cz ?_|refine bR ?_|refine cA ?_)|(refine gOp ?_;first|refine fw ?_|refine fy ?_|refine ba ?_|refine fu ?_|refine fE ?_|refine cg ?_|refine aS ?_|refine cE ?_|refine fF ?_|refine bV ?_|refine ct ?_|refine bd ?_|refine aE ?_|refine cw ?_|refine sNo ?_|refine fa ?_|refine aA ?_)|refine e9 ?_|refine ez ?_|refine gx ?_|refine bq ?_|refine cI ?_|refine bF ?_|refine fX ?_|refine gd ?_|refine fU ?_|refine eD ?_|refine cM ?_|refine bu ?_|refine aB ?_|refine br ?_|refine cL ?_|refine bG ?_|refine aBlkX ?_|refine cJ ?_)
 exact ig
theorem pt (b:Big) (l:Int) (hn:b.nodes.length≤1000) (hl:∀i (h:i<b.nodes.length),(b.nodes[i]).links.length≤1000) (hin:b.inner.length≤1000):FnD Tryz.prog 158 [b.D,.i l] (.tp [.l 2 ((aJ b l).map mw),DS (mq b l)]):=by
 refine ah Tryz.func158 (fun hw W0=>?_)
 refine kgo ?_
 refine aq [1,2,7,17,18] (fun i:Nat=>i≤b.nodes.length) (fun i=>b.nodes.length - i) (fun i=>[(6,.sy (.k 20001)),(20001,.tk (.row 2 219 ((aM b l i 0).map mw))),(19,.sy (.d (.i i)))]) 0 (Nat.zero_le _) (fun i hi=>?_)
 refine kgo ?_
 refine bt (fun h=>?_) (fun h=>?_)
 ·have hlt:i<b.nodes.length:=by omega
  have hll:=hl i hlt
  refine kgo ?_
  refine aq [1,2,7,8,17,18,19,25,26] (fun j:Nat=>j≤(b.nodes[i]).links.length) (fun j=>(b.nodes[i]).links.length - j) (fun j=>[(6,.sy (.k 20001)),(20001,.tk (.row 2 219 ((aM b l i j).map mw))),(27,.sy (.d (.i j)))]) 0 (Nat.zero_le _) (fun j hj=>?_)
  refine kgo ?_
  refine bt (fun h2=>?_) (fun h2=>?_)
  ·have hjl:j<(b.nodes[i]).links.length:=by omega
   have hpl:(aM b l i j).length≤1000000:=by
    obtain ⟨t,ht⟩:=jk b l i j hlt hj
    have:=eT b l hn hl
    rw [ht,List.length_append] at this;omega
   refine kgo ?_
   refine bt (fun h3=>?_) (fun h3=>?_)
   ·have hpl:(aM b l i j).length+1≤1000000:=by
     obtain ⟨t,ht⟩:=jk b l i (j+1) hlt hjl
     have:=eT b l hn hl
     rw [ht,List.length_append,iZ b l i j hlt hjl h3,List.length_append] at this
     simp only [List.length_cons,List.length_nil] at this;omega
    have hs:(aM b l i (j+1)).map mw=(aM b l i j).map mw++[mw ((i:Int),(j:Int))]:=by rw [iZ b l i j hlt hjl h3,List.map_append];rfl
    refine kgo ?_
    exact af (j+1) hjl (by omega)
   ·have hs:(aM b l i (j+1)).map mw=(aM b l i j).map mw:=by rw [pq b l i j hlt hjl h3]
    refine kgo ?_
    exact af (j+1) hjl (by omega)
  have hs:(aM b l (i+1) 0).map mw=(aM b l i j).map mw:=by rw [jR b l i hlt,show j=(b.nodes[i]).links.length by omega]
  refine kgo ?_
  exact af (i+1) hlt (by omega)
 rw [show aJ b l=aM b l i 0 from by rw [show i=b.nodes.length by omega,jb]]
 generalize aM b l i 0=ps
 refine kgo ?_
 refine aq [1,6,44,45] (fun i:Nat=>i≤b.inner.length) (fun i=>b.inner.length - i) (fun i=>[(7,.sy (.k 20002)),(20002,.tk (.row 1 9 ((dW b l i).map .s))),(46,.sy (.d (.i i)))]) 0 (Nat.zero_le _) (fun i hi=>?_)
 refine kgo ?_
 refine bt (fun h=>?_) (fun h=>?_)
 ·have hlt:i<b.inner.length:=by omega
  have hq:=iU b l i
  refine kgo ?_
  refine bt (fun h2=>?_) (fun h2=>?_)
  ·have hs:(dW b l (i+1)).map D.s=(dW b l i).map D.s++[.s (b.inner[i]).name]:=by rw [mO hlt h2,List.map_append];rfl
   refine kgo ?_
   exact af (i+1) hlt (by omega)
  ·have hs:(dW b l (i+1)).map D.s=(dW b l i).map D.s:=by rw [oK hlt h2]
   refine kgo ?_
   exact af (i+1) hlt (by omega)
 rw [show mq b l=dW b l i from by rw [show i=b.inner.length by omega];rfl]
 repeat (first|(refine b8 ?_;first|refine aP ?_|refine cF ?_|refine bh ?_|refine bo ?_|refine aU ?_|refine bl ?_|refine aY ?_|refine aF ?_|refine bk ?_)|(refine fo ?_;first|refine bX ?_|refine fQ ?_|refine cu ?_|refine cD ?_)|(refine fB ?_;first|refine eB (fun _=>?_)|refine cq ?_|refine cf ?_|refine bP ?_|refine cy ?_|refine cB ?_|refine ci ?_)|(refine fx ?_;first|refine b7 ?_|refine eV ?_|refine ca ?_|refine bS ?_|refine cj ?_|refine cm ?_|refine b9 ?_)|(refine fp ?_;first|refine fG ?_|refine fb ?_|refine ch ?_|refine bY ?_|refine fJ ?_|refine be ?_|refine bm ?_)|(refine cb ?_;first|refine bf ?_|refine cC ?_)|(refine ft ?_;first|refine fM (d:=4) ?_|refine fM (d:=5) ?_|refine co ?_|refine cr ?_|refine fq ?_)|(refine b6 ?_;first|refine cG ?_|refine bj ?_|refine aT ?_|refine aX ?_|refine aQ ?_|refine bp ?_)|(refine fS ?_;first|refine cd ?_|refine fj ?_|refine bg ?_|refine aR ?_|refine bc ?_)|(refine aO ?_;first|refine ax _ ?_|refine aW ?_|refine aG ?_|refine az ?_|refine aC ?_)|(refine fl ?_;first|refine cz ?_|refine bR ?_|refine cA ?_)|(refine gOp ?_;first|refine fw ?_|refine fy ?_|refine ba ?_|refine fu ?_|refine fE ?_|refine cg ?_|refine aS ?_|refine cE ?_|refine fF ?_|refine bV ?_|refine ct ?_|refine bd ?_|refine aE ?_|refine cw ?_|refine sNo ?_|refine fa ?_|refine aA ?_)|refine e9 ?_|refine ez ?_|refine gx ?_|refine bq ?_|refine cI ?_|refine bF ?_|refine fX ?_|refine gd ?_|refine fU ?_|refine eD ?_|refine cM ?_|refine bu ?_|refine aB ?_|refine br ?_|refine cL ?_|refine bG ?_|refine aBlkX ?_|refine cJ ?_)
 exact ig
end Go.Proofs.YtclpbhoekmecjaaGreatDoor
namespace Go.Proofs.YtclpbhoekmecjaaGreatDoor
open Go.RowKit
set_option linter.unusedVariables false
set_option maxRecDepth 100000
set_option maxHeartbeats 4000000
attribute [local irreducible] au Der At
theorem s6 (m:Mat) (x:Int):FnD Tryz.prog 156 [.i x,.p m.D] (.d (.b (!fh m.nodes x))):=by
 refine ah Tryz.func156 (fun hw W0=>?_)
 have f1:=fP m.nodes x
 refine kgo ?_
 exact aD
theorem xO (r a:Big) (m:Mat) (i:Nat) (h:i<m.nodes.length) (hr:i<r.nodes.length) (k:Nat) (hk:m.nodes[i]=(k:Int)) (hka:k<a.nodes.length):gA r a m i=(decide ((a.nodes[k]).control=(r.nodes[i]).control) && (decide ((a.nodes[k]).parent=if 0≤(r.nodes[i]).parent then atI m.nodes (r.nodes[i]).parent else atI m.roots (-1 - (r.nodes[i]).parent)) && (!(decide ((bA r i).length=0)) || (dc a m.nodes[i]).all (fh m.nodes)))):=by
 unfold gA uw kZ
 rw [vZ r a m i h hr k hk hka,bZ _ i h,hk,aw a k hka,aw r i hr]
theorem t8 {sig:List Ctl} {r a:Big} (m:Mat) (hbr:ay sig r=true) (dr:vn r) (da:vn a) (hid:(List.range m.nodes.length).all (uG a m.nodes)=true) (hlen:m.nodes.length=r.nodes.length) (hrs:(m.roots.length:Int)=r.roots):FnD Tryz.prog 111 [r.D,a.D,m.D] (.d (.b ((List.range m.nodes.length).all (gA r a m)))):=by
 have hdr:=aN hbr
 refine ah Tryz.func111 (fun hw W0=>?_)
 refine kgo ?_
 refine Gy 5 m.D ?_
 refine aq [3,4,5,16,17] (fun i:Nat=>i≤m.nodes.length∧(List.range i).all (gA r a m)=true) (fun i=>m.nodes.length - i) (fun i=>[(18,.sy (.d (.i i)))]) 0 ⟨Nat.zero_le _,rfl⟩ (fun i hi=>?_)
 refine kgo ?_
 refine bt (fun h2=>?_) (fun h2=>?_)
 ·have hlr:i<r.nodes.length:=by omega
  have hlt:i<m.nodes.length:=by omega
  obtain ⟨k,hka,hk0⟩:=GA hid i hlt
  rw [bZ _ i hlt] at hk0
  have hok:=xO r a m i hlt hlr k hk0 hka
  have hup:=iy hbr i hlr
  have f1:=jO r i dr.3 dr.4
  have f2:=jO a m.nodes[i] da.3 da.4
  have f3:=gZ (dc a m.nodes[i]) 156 [.p m.D] (fun x=>!fh m.nodes x) rfl (fun x _=>s6 m x)
  have hk1:=lD r i
  have hk2:=qH a m.nodes[i]
  have hrn:=dr.4
  have bad:gA r a m i=false→(List.range m.nodes.length).all (gA r a m)=false:=fun h=>aV _ _ i hlt h
  have good:gA r a m i=true→(List.range (i+1)).all (gA r a m)=true:=fun h=>by rw [dq,hi.2,h];rfl
  refine kgo ?_
  refine eB (n:=k) (fun _=>?_) rfl rfl (congrArg some hk0)
  refine kgo ?_
  refine bt (fun h3=>?_) (fun h3=>?_)
  ·rw [if_pos h3] at hok
   have hx:(r.nodes[i]).parent<m.nodes.length:=by omega
   refine kgo ?_
   cases h4:decide ((a.nodes[k]).control=(r.nodes[i]).control)
   ·rw [h4] at hok
    refine kgo ?_
    rw [bad hok]
    exact aD
   rw [h4,Bool.true_and] at hok
   refine kgo ?_
   refine lV (fun h5=>?_) (fun h5=>?_)
   ·rw [decide_eq_false h5] at hok
    refine kgo ?_
    rw [bad hok]
    exact aD
   rw [decide_eq_true h5,Bool.true_and] at hok
   refine kgo ?_
   refine bt (fun h6=>?_) (fun h6=>?_)
   ·rw [decide_eq_false (by omega)] at hok
    refine kgo ?_
    exact af (i+1) ⟨hlt,good hok⟩ (by omega)
   rw [decide_eq_true (by omega),Bool.not_true,Bool.false_or] at hok
   refine kgo ?_
   refine cIf (fun h7=>?_) (fun h7=>?_)
   ·rw [iI,Bool.not_eq_true'] at h7
    rw [h7] at hok
    refine kgo ?_
    rw [bad hok]
    exact aD
   ·rw [iI,Bool.not_eq_false'] at h7
    rw [h7] at hok
    refine kgo ?_
    exact af (i+1) ⟨hlt,good hok⟩ (by omega)
  ·rw [if_neg h3] at hok
   have hx : -1 - (r.nodes[i]).parent<m.roots.length:=by omega
   refine kgo ?_
   cases h4:decide ((a.nodes[k]).control=(r.nodes[i]).control)
   ·rw [h4] at hok
    refine kgo ?_
    rw [bad hok]
    exact aD
   rw [h4,Bool.true_and] at hok
   refine kgo ?_
   refine lV (fun h5=>?_) (fun h5=>?_)
   ·rw [decide_eq_false h5] at hok
    refine kgo ?_
    rw [bad hok]
    exact aD
   rw [decide_eq_true h5,Bool.true_and] at hok
   refine kgo ?_
   refine bt (fun h6=>?_) (fun h6=>?_)
   ·rw [decide_eq_false (by omega)] at hok
    refine kgo ?_
    exact af (i+1) ⟨hlt,good hok⟩ (by omega)
   rw [decide_eq_true (by omega),Bool.not_true,Bool.false_or] at hok
   refine kgo ?_
   refine cIf (fun h7=>?_) (fun h7=>?_)
   ·rw [iI,Bool.not_eq_true'] at h7
    rw [h7] at hok
    refine kgo ?_
    rw [bad hok]
    exact aD
   ·rw [iI,Bool.not_eq_false'] at h7
    rw [h7] at hok
    refine kgo ?_
    exact af (i+1) ⟨hlt,good hok⟩ (by omega)
 refine kgo ?_
 rw [eZ _ _ i (by omega) hi.1 hi.2]
 exact aD
theorem CF (x:Int) (n:Nat) (hn:n≤1000) (hx:I64 x):FnD Tryz.prog 157 [DI [x],.i n] (.row 1 3 ((List.replicate n x).map .i)):=⟨cH Tryz.func157,fun F w vs hv hF=>by
 obtain ⟨v1,t,rfl,h1,v2,t2,rfl,h2,h3⟩:=hv
 cases (show t2 = [] from h3)
 cases (show v2=.int .i64 n from by simpa [DV,Rp] using h2.1)
 refine (iW _ _ _ x n w (Bq.toV (by decide) h1) hn).mono ?_
 rintro e w' ⟨g,rfl,hg,hr,hX⟩
 refine ⟨_,rfl,hX,.inr ⟨(List.replicate n x).map (Value.int .i64),?_,fun j hj=>⟨[.int .i64 x],rfl,?_,fun t u ht=>?_⟩⟩⟩
 ·refine ⟨by simp,.inr ⟨g,n,((List.replicate n x).map (Value.int .i64)).toArray,by simp,hg,hr,by simp,?_,by simp,by simp⟩⟩
  unfold maxLen;omega
 ·rw [List.getElem_map,List.getElem_replicate];exact ⟨rfl,hx⟩
 ·simp only [List.length_map,List.length_replicate] at hj
  rcases t with _|t
  ·simp at ht
   subst ht
   simp [hj]
  ·simp at ht⟩
theorem m8 {sig:List Ctl} {r a:Big} (ns:List Int) (hbr:ay sig r=true) (hba:ay sig a=true) (him:oS r a ns):FnD Tryz.prog 112 [r.D,a.D,DI ns] (.tp [DI (oD r a ns),.b (gm r a ns)]):=by
 have hdr:=aN hbr
 have hda:=aN hba
 have dr:=bD hbr
 have da:=bD hba
 have hlr:r.edges+(r.outer.length:Int)=(ap r:Nat):=by unfold ap;omega
 have hlb:ap r≤1000:=by unfold ap;omega
 obtain ⟨E,hE⟩:=Int.eq_ofNat_of_zero_le hdr.2.2.2.1.1
 have f0:FnD Tryz.prog 157 [DI [-1],.i (r.edges+(r.outer.length:Int))] (.row 1 3 ((List.replicate (ap r) (-1)).map .i)):=by rw [hlr];exact CF (-1) _ hlb (by unfold I64;omega)
 have hz:(List.replicate (ap r) (-1)).map D.i=(iG r a ns 0 0).map D.i:=by rw [wV]
 have hlen:=him.len
 refine ah Tryz.func112 (fun hw W0=>?_)
 repeat (first|(refine b8 ?_;first|refine aP ?_|refine cF ?_|refine bh ?_|refine bo ?_|refine aU ?_|refine bl ?_|refine aY ?_|refine aF ?_|refine bk ?_)|(refine fo ?_;first|refine bX ?_|refine fQ ?_|refine cu ?_|refine cD ?_)|(refine fB ?_;first|refine eB (fun _=>?_)|refine cq ?_|refine cf ?_|refine bP ?_|refine cy ?_|refine cB ?_|refine ci ?_)|(refine fx ?_;first|refine b7 ?_|refine eV ?_|refine ca ?_|refine bS ?_|refine cj ?_|refine cm ?_|refine b9 ?_)|(refine fp ?_;first|refine fG ?_|refine fb ?_|refine ch ?_|refine bY ?_|refine fJ ?_|refine be ?_|refine bm ?_)|(refine cb ?_;first|refine bf ?_|refine cC ?_)|(refine ft ?_;first|refine co ?_|refine cr ?_|refine fq ?_)|(refine b6 ?_;first|refine cG ?_|refine bj ?_|refine aT ?_|refine aX ?_|refine aQ ?_|refine bp ?_)|(refine fS ?_;first|refine cd ?_|refine fj ?_|refine bg ?_|refine aR ?_|refine bc ?_)|(refine aO ?_;first|refine ax _ ?_|refine aW ?_|refine aG ?_|refine az ?_|refine aC ?_)|(refine fl ?_;first|refine cz ?_|refine bR ?_|refine cA ?_)|(refine gOp ?_;first|refine fw ?_|refine fy ?_|refine ba ?_|refine fu ?_|refine fE ?_|refine cg ?_|refine aS ?_|refine cE ?_|refine fF ?_|refine bV ?_|refine ct ?_|refine bd ?_|refine sFz 19 ?_|refine aE ?_|refine cw ?_|refine sNo ?_|refine fa ?_|refine aA ?_)|refine e9 ?_|refine ez ?_|refine gx ?_|refine bq ?_|refine cI ?_|refine bF ?_|refine fX ?_|refine gd ?_|refine fU ?_|refine eD ?_|refine cM ?_|refine bu ?_|refine aB ?_|refine br ?_|refine cL ?_|refine bG ?_|refine aBlkX ?_|refine cJ ?_|refine sFz 19 ?_)
 refine aq [2,3,4,8,28,29] (fun k:Nat=>k≤r.nodes.length∧g6 r a ns k 0) (fun k=>r.nodes.length - k) (fun k=>[(10026,.tk (.row 1 3 ((iG r a ns k 0).map .i))),(30,.sy (.d (.i k)))]) 0 ⟨Nat.zero_le _,xk r a ns⟩ (fun k hk=>?_)
 refine kgo ?_
 refine bt (fun h=>?_) (fun h=>?_)
 ·have hkr:k<r.nodes.length:=by omega
  have hkn:k<ns.length:=by omega
  have hlinks:=(eN hbr k hkr).2.2.2.2
  have hll:=dr.7 k hkr
  refine kgo ?_
  refine aq [2,3,4,8,9,28,29,30,36,37] (fun i:Nat=>i≤(r.nodes[k]).links.length∧g6 r a ns k i) (fun i=>(r.nodes[k]).links.length - i) (fun i=>[(10026,.tk (.row 1 3 ((iG r a ns k i).map .i))),(38,.sy (.d (.i i)))]) 0 ⟨Nat.zero_le _,hk.2⟩ (fun i hi=>?_)
  refine kgo ?_
  refine bt (fun h2=>?_) (fun h2=>?_)
  ·have hil:i<(r.nodes[k]).links.length:=by omega
   obtain ⟨mm,hmm,hml,e1,e2⟩:=him.img hbr hba hkr hil
   rw [bZ _ k hkn] at e1
   obtain ⟨ll,hl,hlN⟩:=iw (hlinks _ (List.getElem_mem hil))
   have hol:=zo r a ns k i
   have hlo:ll<(iG r a ns k i).length:=by omega
   have hat:=nB r a ns k i ll hlo
   have hpos:=him.up_pos hbr hba (l:=ll) hkr (show i≤(r.nodes[k]).links.length by omega)
   refine kgo ?_
   refine eB (n:=mm) (fun _=>?_) rfl rfl (congrArg some e1)
   rw [hl]
   refine kgo ?_
   rw [hat,← e2]
   have stp:=w6 (ns:=ns) hkr hil hl hlN hi.2
   cases h3:decide (0≤jr a ns (aM r ll k i))
   ·have h3:=of_decide_eq_false h3
    obtain ⟨q1,q2⟩:=stp (.inl (by omega)) hpos
    refine kgo ?_
    rw [← q1]
    exact af (i+1) ⟨hil,q2⟩ (by omega)
   have h3:=of_decide_eq_true h3
   refine kgo ?_
   rw [hat]
   refine lV (fun h4=>?_) (fun h4=>?_)
   ·have hb:=kz hlN (w4 hkr hil hl h3 h4)
    rw [lG hb,hb]
    refine kgo ?_
    exact ig
   ·obtain ⟨q1,q2⟩:=stp (.inr h4) hpos
    refine kgo ?_
    rw [← q1]
    exact af (i+1) ⟨hil,q2⟩ (by omega)
  have hie:i=(r.nodes[k]).links.length:=by omega
  have hs:(iG r a ns (k+1) 0).map D.i=(iG r a ns k i).map D.i:=by rw [wK r a ns k hkr,hie]
  refine kgo ?_
  exact af (k+1) ⟨hkr,ya hkr (by rw [← hie];exact hi.2)⟩ (by omega)
 have hke:k=r.nodes.length:=by omega
 have hag:g6 r a ns r.nodes.length 0:=by rw [← hke];exact hk.2
 rw [hke,Ax]
 have hil:(aK r a ns).length=ap r:=by unfold aK;simp
 refine kgo ?_
 refine aq [3,4,8,75] (fun e:Nat=>e≤E∧(List.range e).all (gY r a ns)=true) (fun e=>E - e) (fun e=>[(76,.sy (.d (.i e)))]) 0 ⟨Nat.zero_le _,rfl⟩ (fun e he=>?_)
 refine kgo ?_
 refine bt (fun h2=>?_) (fun h2=>?_)
 ·have heE:e<E:=by omega
  have hel:e<ap r:=by omega
  have hei:e<(aK r a ns).length:=by omega
  have hia:(aK r a ns)[e]=mz r a ns e:=by simp [aK]
  have f1:=pt r e dr.3 dr.7 (by omega)
  have f2:=pt a (aK r a ns)[e] da.3 da.7 (by omega)
  have hla:=Bz hag e hel (by omega)
  have hp1:=eT r e dr.3 dr.7
  have hp2:=eT a (aK r a ns)[e] da.3 da.7
  rw [← hia] at hla
  refine kgo ?_
  cases h3:decide (a.edges≤(aK r a ns)[e])
  ·have h3:=of_decide_eq_false h3
   rw [decide_eq_true (show (aK r a ns)[e]<a.edges by omega),Bool.true_and] at hla
   refine kgo ?_
   refine lV (fun h4=>?_) (fun h4=>?_)
   ·rw [decide_eq_false (by omega)] at hla
    have hb:=kz hel hla
    rw [lG hb,hb]
    refine kgo ?_
    exact ig
   ·rw [decide_eq_true (by omega)] at hla
    refine kgo ?_
    exact af (e+1) ⟨heE,by rw [dq,he.2,hla];rfl⟩ (by omega)
  ·have h3:=of_decide_eq_true h3
   rw [decide_eq_false (show ¬(aK r a ns)[e]<a.edges by omega),Bool.false_and] at hla
   have hb:=kz hel hla
   rw [lG hb,hb]
   refine kgo ?_
   exact ig
 have hb:gm r a ns=true:=A1 hag (fun l h1 _=>(aI _ _).1 he.2 l (by omega))
 rw [ku hb,hb]
 repeat (first|(refine b8 ?_;first|refine aP ?_|refine cF ?_|refine bh ?_|refine bo ?_|refine aU ?_|refine bl ?_|refine aY ?_|refine aF ?_|refine bk ?_)|(refine fo ?_;first|refine bX ?_|refine fQ ?_|refine cu ?_|refine cD ?_)|(refine fB ?_;first|refine eB (fun _=>?_)|refine cq ?_|refine cf ?_|refine bP ?_|refine cy ?_|refine cB ?_|refine ci ?_)|(refine fx ?_;first|refine b7 ?_|refine eV ?_|refine ca ?_|refine bS ?_|refine cj ?_|refine cm ?_|refine b9 ?_)|(refine fp ?_;first|refine fG ?_|refine fb ?_|refine ch ?_|refine bY ?_|refine fJ ?_|refine be ?_|refine bm ?_)|(refine cb ?_;first|refine bf ?_|refine cC ?_)|(refine ft ?_;first|refine fM (d:=6) ?_|refine co ?_|refine cr ?_|refine fq ?_)|(refine b6 ?_;first|refine cG ?_|refine bj ?_|refine aT ?_|refine aX ?_|refine aQ ?_|refine bp ?_)|(refine fS ?_;first|refine cd ?_|refine fj ?_|refine bg ?_|refine aR ?_|refine bc ?_)|(refine aO ?_;first|refine ax _ ?_|refine aW ?_|refine aG ?_|refine az ?_|refine aC ?_)|(refine fl ?_;first|refine cz ?_|refine bR ?_|refine cA ?_)|(refine gOp ?_;first|refine fw ?_|refine fy ?_|refine ba ?_|refine fu ?_|refine fE ?_|refine cg ?_|refine aS ?_|refine cE ?_|refine fF ?_|refine bV ?_|refine ct ?_|refine bd ?_|refine aE ?_|refine cw ?_|refine sNo ?_|refine fa ?_|refine aA ?_)|refine e9 ?_|refine ez ?_|refine gx ?_|refine bq ?_|refine cI ?_|refine bF ?_|refine fX ?_|refine gd ?_|refine fU ?_|refine eD ?_|refine cM ?_|refine bu ?_|refine aB ?_|refine br ?_|refine cL ?_|refine bG ?_|refine aBlkX ?_|refine cJ ?_)
 exact ig
theorem xh {sig:List Ctl} {a:Big} (hba:ay sig a=true) (m:Mat) (x:Int):FnD Tryz.prog 109 [.i x,.p a.D,.p m.D] (.d (.b (!jz a m.nodes x))):=by
 have hda:=aN hba
 have da:=bD hba
 have hok:jz a m.nodes x=(inR x (-a.roots) (a.nodes.length - 1) && !hZ a m.nodes x):=rfl
 refine ah Tryz.func109 (fun hw W0=>?_)
 have f1:=vq x (-a.roots) (a.nodes.length - 1)
 rw [hok]
 refine kgo ?_
 cases h:inR x (-a.roots) (a.nodes.length - 1)
 ·refine kgo ?_
  exact aD
 have f2:=me hba m.nodes x (by have:=bT h;omega)
 rw [Bool.true_and,Bool.not_not]
 refine kgo ?_
 exact aD
theorem zn {sig:List Ctl} {r a:Big} (m:Mat) (hbr:ay sig r=true) (hba:ay sig a=true):FnD Tryz.prog 59 [r.D,a.D,m.D] (.d (.b (dO r a m))):=by
 have dr:=bD hbr
 have da:=bD hba
 have hrn:=dr.3
 have hr:=bT dr.1
 have hm:=xi r a m
 refine ah Tryz.func59 (fun hw W0=>?_)
 have hmr:=(wfM hw.2.2.1.2.1).1
 refine kgo ?_
 cases h1:decide ((m.nodes.length:Int)=r.nodes.length)
 ·have h1:=of_decide_eq_false h1
  rw [decide_eq_false (show ¬m.nodes.length=r.nodes.length by omega)] at hm
  rw [hm]
  refine kgo ?_
  exact aD
 have h1:=of_decide_eq_true h1
 have hlen:m.nodes.length=r.nodes.length:=by omega
 refine kgo ?_
 refine lV (fun h2=>?_) (fun h2=>?_)
 ·rw [decide_eq_false h2,Bool.and_false] at hm
  rw [hm]
  refine kgo ?_
  exact aD
 rw [decide_eq_true hlen,decide_eq_true h2,Bool.true_and,Bool.true_and] at hm
 refine kgo ?_
 refine Gy 4 a.D ?_
 refine Gy 5 m.D ?_
 refine aq [3,4,5,27,28] (fun i:Nat=>i≤m.nodes.length∧(List.range i).all (uG a m.nodes)=true) (fun i=>m.nodes.length - i) (fun i=>[(29,.sy (.d (.i i)))]) 0 ⟨Nat.zero_le _,rfl⟩ (fun i hi=>?_)
 refine kgo ?_
 refine bt (fun h3=>?_) (fun h3=>?_)
 ·have hlt:i<m.nodes.length:=by omega
  have f1:=By a m.nodes[i] da.3
  have f2:=fP (m.nodes.take i) m.nodes[i]
  have hok:uG a m.nodes i=(inR m.nodes[i] 0 (a.nodes.length - 1) && !fh (m.nodes.take i) m.nodes[i]):=by unfold uG;rw [bZ _ i hlt]
  have bad:uG a m.nodes i=false→dO r a m=false:=fun h=>by rw [hm,aV _ _ i hlt h];rfl
  refine kgo ?_
  cases h4:inR m.nodes[i] 0 (a.nodes.length - 1)
  ·rw [h4] at hok
   refine kgo ?_
   rw [bad hok]
   exact aD
  rw [h4] at hok
  refine kgo ?_
  refine cIf (fun h5=>?_) (fun h5=>?_)
  ·rw [h5] at hok
   refine kgo ?_
   rw [bad hok]
   exact aD
  ·rw [h5] at hok
   refine kgo ?_
   exact af (i+1) ⟨hlt,by rw [dq,hi.2,hok];rfl⟩ (by omega)
 have hid:(List.range m.nodes.length).all (uG a m.nodes)=true:=eZ _ _ i (by omega) hi.1 hi.2
 rw [hid,Bool.true_and] at hm
 have f1:=gZ m.roots 109 [.p a.D,.p m.D] (fun x=>!jz a m.nodes x) rfl (fun x _=>xh hba m x)
 rw [iI] at f1
 refine kgo ?_
 refine cIf (fun h4=>?_) (fun h4=>?_)
 ·rw [Bool.not_eq_true'] at h4
  rw [h4] at hm
  rw [hm]
  refine kgo ?_
  exact aD
 rw [Bool.not_eq_false'] at h4
 rw [h4,Bool.true_and] at hm
 have f2:=t8 m hbr dr da hid hlen h2
 refine kgo ?_
 refine cIf (fun h5=>?_) (fun h5=>?_)
 ·rw [Bool.not_eq_true'] at h5
  rw [h5] at hm
  rw [hm]
  refine kgo ?_
  exact aD
 rw [Bool.not_eq_false'] at h5
 rw [h5,Bool.true_and] at hm
 have f3:=m8 m.nodes hbr hba (Cl hid h5 hlen)
 refine kgo ?_
 rw [hm]
 exact aD
theorem uM {sig:List Ctl} {a:Big} (hba:ay sig a=true) (ps:List Int) (x:Int) (hx:x<a.nodes.length):FnD Tryz.prog 113 [.i x,.p a.D,.p (DI ps)] (.d (.b (hZ a ps x))):=by
 refine ah Tryz.func113 (fun hw W0=>?_)
 have f1:=me hba ps x hx
 refine kgo ?_
 exact aD
theorem xl {sig:List Ctl} {a:Big} (hba:ay sig a=true) (m:Mat) (hx:∀p∈m.roots,p<(a.nodes.length:Int)):FnD Tryz.prog 60 [.l 3 (sig.map Ctl.D),a.D,m.D] (.d (.b (jD sig a m.roots))):=by
 have da:=bD hba
 have hn:=da.3
 refine ah Tryz.func60 (fun hw W0=>?_)
 refine kgo ?_
 refine aq [0,4,5,7,12,13] (fun i:Nat=>i≤a.nodes.length) (fun i=>a.nodes.length - i) (fun i=>[(10007,.tk (.bx [.k 20001])),(20001,.tk (.row 1 3 ((idxOf (fun i=>ry sig a i) i).map .i))),(14,.sy (.d (.i i)))]) 0 (Nat.zero_le _) (fun i hi=>?_)
 refine kgo ?_
 refine bt (fun h=>?_) (fun h=>?_)
 ·have hlt:i<a.nodes.length:=by omega
  obtain ⟨c0,c1,_⟩:=eN hba i hlt
  obtain ⟨j,hj⟩:=Int.eq_ofNat_of_zero_le c0
  have hjl:j<sig.length:=by omega
  have hpf:ry sig a i=decide ((sig[j]).kind=1):=by unfold ry;rw [aw a i hlt,hj,jo sig j hjl]
  have hl:=dS (fun i=>ry sig a i) i
  refine kgo ?_
  refine eB (n:=j) (fun _=>?_) rfl rfl (congrArg some hj)
  refine kgo ?_
  refine bt (fun h2=>?_) (fun h2=>?_)
  ·have hs:(idxOf (fun i=>ry sig a i) (i+1)).map D.i=(idxOf (fun i=>ry sig a i) i).map D.i++[.i i]:=by rw [cY (hpf.trans (decide_eq_true h2)),List.map_append];rfl
   refine kgo ?_
   exact af (i+1) (by omega) (by omega)
  ·have hs:(idxOf (fun i=>ry sig a i) (i+1)).map D.i=(idxOf (fun i=>ry sig a i) i).map D.i:=by rw [dQ (hpf.trans (decide_eq_false h2))]
   refine kgo ?_
   exact af (i+1) (by omega) (by omega)
 have hin:∀p∈m.roots,hZ a (idxOf (fun i=>ry sig a i) i) p=kI sig a p:=fun p hp=>by
  rw [show i=a.nodes.length by omega];exact Cc hba (hx p hp)
 have f1:=gZ m.roots 113 [.p a.D,.p (DI (idxOf (fun i=>ry sig a i) i))] (fun x=>hZ a (idxOf (fun i=>ry sig a i) i) x) rfl (fun x hxm=>uM hba _ x (hx x hxm))
 have hE:(!(m.roots.any fun x=>hZ a (idxOf (fun i=>ry sig a i) i) x))=jD sig a m.roots:=by
  unfold jD
  rw [Bool.eq_iff_iff]
  simp only [Bool.not_eq_true',List.any_eq_false,List.all_eq_true]
  exact ⟨fun h p hp=>by rw [← hin p hp];simpa using h p hp,fun h p hp=>by rw [hin p hp];have:=h p hp;simpa using this⟩
 rw [← hE]
 refine bF (aB (aB (bG (bu ?_))))
 refine Gy 4 a.D ?_
 refine o7 10007 0 ?_
 refine Gy 7 (DI (idxOf (fun i=>ry sig a i) i)) ?_
 refine kgo ?_
 exact aD
end Go.Proofs.YtclpbhoekmecjaaGreatDoor
namespace Go.Proofs.YtclpbhoekmecjaaGreatDoor
open Go.RowKit
set_option linter.unusedVariables false
set_option maxRecDepth 100000
set_option maxHeartbeats 4000000
attribute [local irreducible] au Der At
theorem Bt {sig:List Ctl} {a:Big} (m:Mat) (hba:ay sig a=true):FnD Tryz.prog 160 [a.D,m.D] (.d (DI (mx a m.nodes))):=by
 have da:=bD hba
 have hn:=da.3
 refine ah Tryz.func160 (fun hw W0=>?_)
 refine kgo ?_
 refine aq [2,3,10] (fun i:Nat=>i≤a.nodes.length) (fun i=>a.nodes.length - i) (fun i=>[(5,.sy (.k 20001)),(20001,.tk (.row 1 3 ((idxOf (fun i=>!hZ a m.nodes i) i).map .i))),(11,.sy (.d (.i i)))]) 0 (Nat.zero_le _) (fun i hi=>?_)
 refine kgo ?_
 refine bt (fun h=>?_) (fun h=>?_)
 ·have hlt:i<a.nodes.length:=by omega
  have f1:=me hba m.nodes i (by omega)
  have hl:=dS (fun i=>!hZ a m.nodes i) i
  refine kgo ?_
  refine cIf (fun h2=>?_) (fun h2=>?_)
  ·have hs:(idxOf (fun i=>!hZ a m.nodes i) (i+1)).map D.i=(idxOf (fun i=>!hZ a m.nodes i) i).map D.i++[.i i]:=by rw [cY h2,List.map_append];rfl
   refine kgo ?_
   exact af (i+1) (by omega) (by omega)
  ·have hs:(idxOf (fun i=>!hZ a m.nodes i) (i+1)).map D.i=(idxOf (fun i=>!hZ a m.nodes i) i).map D.i:=by rw [dQ h2]
   refine kgo ?_
   exact af (i+1) (by omega) (by omega)
 rw [show mx a m.nodes=idxOf (fun i=>!hZ a m.nodes i) i from by rw [show i=a.nodes.length by omega];rfl]
 repeat (first|(refine b8 ?_;first|refine aP ?_|refine cF ?_|refine bh ?_|refine bo ?_|refine aU ?_|refine bl ?_|refine aY ?_|refine aF ?_|refine bk ?_)|(refine fo ?_;first|refine bX ?_|refine fQ ?_|refine cu ?_|refine cD ?_)|(refine fB ?_;first|refine eB (fun _=>?_)|refine cq ?_|refine cf ?_|refine bP ?_|refine cy ?_|refine cB ?_|refine ci ?_)|(refine fx ?_;first|refine b7 ?_|refine eV ?_|refine ca ?_|refine bS ?_|refine cj ?_|refine cm ?_|refine b9 ?_)|(refine fp ?_;first|refine fG ?_|refine fb ?_|refine ch ?_|refine bY ?_|refine fJ ?_|refine be ?_|refine bm ?_)|(refine cb ?_;first|refine bf ?_|refine cC ?_)|(refine ft ?_;first|refine fM (d:=4) ?_|refine co ?_|refine cr ?_|refine fq ?_)|(refine b6 ?_;first|refine cG ?_|refine bj ?_|refine aT ?_|refine aX ?_|refine aQ ?_|refine bp ?_)|(refine fS ?_;first|refine cd ?_|refine fj ?_|refine bg ?_|refine aR ?_|refine bc ?_)|(refine aO ?_;first|refine ax _ ?_|refine aW ?_|refine aG ?_|refine az ?_|refine aC ?_)|(refine fl ?_;first|refine cz ?_|refine bR ?_|refine cA ?_)|(refine gOp ?_;first|refine fw ?_|refine fy ?_|refine ba ?_|refine fu ?_|refine fE ?_|refine cg ?_|refine aS ?_|refine cE ?_|refine fF ?_|refine bV ?_|refine ct ?_|refine bd ?_|refine aE ?_|refine cw ?_|refine sNo ?_|refine fa ?_|refine aA ?_)|refine e9 ?_|refine ez ?_|refine gx ?_|refine bq ?_|refine cI ?_|refine bF ?_|refine fX ?_|refine gd ?_|refine fU ?_|refine eD ?_|refine cM ?_|refine bu ?_|refine aB ?_|refine br ?_|refine cL ?_|refine bG ?_|refine aBlkX ?_|refine cJ ?_)
 exact aD
theorem lB {sig:List Ctl} {a:Big} (m:Mat) (hba:ay sig a=true):FnD Tryz.prog 167 [a.D,m.D] (.d (DI (bB a m.nodes))):=by
 have da:=bD hba
 have hn:=da.3
 refine ah Tryz.func167 (fun hw W0=>?_)
 refine kgo ?_
 refine aq [2,3,10] (fun i:Nat=>i≤a.nodes.length) (fun i=>a.nodes.length - i) (fun i=>[(5,.sy (.k 20001)),(20001,.tk (.row 1 3 ((idxOf (mn a m.nodes) i).map .i))),(11,.sy (.d (.i i)))]) 0 (Nat.zero_le _) (fun i hi=>?_)
 refine kgo ?_
 refine bt (fun h=>?_) (fun h=>?_)
 ·have hlt:i<a.nodes.length:=by omega
  have f1:=me hba m.nodes i (by omega)
  have f2:=fP m.nodes i
  have hl:=dS (mn a m.nodes) i
  have hp:mn a m.nodes i=(hZ a m.nodes i && !fh m.nodes i):=rfl
  refine kgo ?_
  cases h3:hZ a m.nodes i
  ·rw [h3] at hp
   have hs:(idxOf (mn a m.nodes) (i+1)).map D.i=(idxOf (mn a m.nodes) i).map D.i:=by rw [dQ hp]
   refine kgo ?_
   exact af (i+1) (by omega) (by omega)
  rw [h3,Bool.true_and] at hp
  refine kgo ?_
  refine cIf (fun h2=>?_) (fun h2=>?_)
  ·have hs:(idxOf (mn a m.nodes) (i+1)).map D.i=(idxOf (mn a m.nodes) i).map D.i++[.i i]:=by rw [cY (hp.trans h2),List.map_append];rfl
   refine kgo ?_
   exact af (i+1) (by omega) (by omega)
  ·have hs:(idxOf (mn a m.nodes) (i+1)).map D.i=(idxOf (mn a m.nodes) i).map D.i:=by rw [dQ (hp.trans h2)]
   refine kgo ?_
   exact af (i+1) (by omega) (by omega)
 rw [show bB a m.nodes=idxOf (mn a m.nodes) i from by rw [show i=a.nodes.length by omega];rfl]
 repeat (first|(refine b8 ?_;first|refine aP ?_|refine cF ?_|refine bh ?_|refine bo ?_|refine aU ?_|refine bl ?_|refine aY ?_|refine aF ?_|refine bk ?_)|(refine fo ?_;first|refine bX ?_|refine fQ ?_|refine cu ?_|refine cD ?_)|(refine fB ?_;first|refine eB (fun _=>?_)|refine cq ?_|refine cf ?_|refine bP ?_|refine cy ?_|refine cB ?_|refine ci ?_)|(refine fx ?_;first|refine b7 ?_|refine eV ?_|refine ca ?_|refine bS ?_|refine cj ?_|refine cm ?_|refine b9 ?_)|(refine fp ?_;first|refine fG ?_|refine fb ?_|refine ch ?_|refine bY ?_|refine fJ ?_|refine be ?_|refine bm ?_)|(refine cb ?_;first|refine bf ?_|refine cC ?_)|(refine ft ?_;first|refine fM (d:=4) ?_|refine co ?_|refine cr ?_|refine fq ?_)|(refine b6 ?_;first|refine cG ?_|refine bj ?_|refine aT ?_|refine aX ?_|refine aQ ?_|refine bp ?_)|(refine fS ?_;first|refine cd ?_|refine fj ?_|refine bg ?_|refine aR ?_|refine bc ?_)|(refine aO ?_;first|refine ax _ ?_|refine aW ?_|refine aG ?_|refine az ?_|refine aC ?_)|(refine fl ?_;first|refine cz ?_|refine bR ?_|refine cA ?_)|(refine gOp ?_;first|refine fw ?_|refine fy ?_|refine ba ?_|refine fu ?_|refine fE ?_|refine cg ?_|refine aS ?_|refine cE ?_|refine fF ?_|refine bV ?_|refine ct ?_|refine bd ?_|refine aE ?_|refine cw ?_|refine sNo ?_|refine fa ?_|refine aA ?_)|refine e9 ?_|refine ez ?_|refine gx ?_|refine bq ?_|refine cI ?_|refine bF ?_|refine fX ?_|refine gd ?_|refine fU ?_|refine eD ?_|refine cM ?_|refine bu ?_|refine aB ?_|refine br ?_|refine cL ?_|refine bG ?_|refine aBlkX ?_|refine cJ ?_)
 exact aD
theorem ny (l:List ByteArray) (s:ByteArray):FnD Tryz.prog 218 [DS l,.s s] (.d (.i (js l s))):=by
 refine ah Tryz.func218 (fun hw W0=>?_)
 have hl:=(wfM hw.1).1
 refine kgo ?_
 refine aq [0,1,7] (fun i:Nat=>i≤l.length∧∀j (h:j<l.length),j<i→(l[j].toList == s.toList)=false) (fun i=>l.length - i) (fun i=>[(8,.sy (.d (.i i)))]) 0 ⟨Nat.zero_le _,fun j _ h=>absurd h (Nat.not_lt_zero _)⟩ (fun i hi=>?_)
 refine kgo ?_
 refine bt (fun h=>?_) (fun h=>?_)
 ·have hlt:i<l.length:=by omega
  refine kgo ?_
  refine cIf (fun h2=>?_) (fun h2=>?_)
  ·rw [Bool.beq_comm] at h2
   refine kgo ?_
   rw [uY hlt h2 (fun j hj=>hi.2 j (by omega) hj)]
   exact aD
  ·rw [Bool.beq_comm] at h2
   refine kgo ?_
   exact af (i+1) ⟨hlt,fun j h1 h3=>by
    rcases Nat.lt_or_ge j i with h4|h4
    ·exact hi.2 j h1 h4
    ·rw [show l[j]=l[i] from by congr 1;omega];exact h2⟩ (by omega)
 refine kgo ?_
 rw [Af (fun j h1=>hi.2 j h1 (by omega))]
 exact aD
def qx (l:List ByteArray) (s:ByteArray):Bool:=decide (0≤js l s)
theorem nI (l:List ByteArray) (s:ByteArray):FnD Tryz.prog 172 [DS l,.s s] (.d (.b (qx l s))):=by
 refine ah Tryz.func172 (fun hw W0=>?_)
 have f1:=ny l s
 refine kgo ?_
 exact aD
def kK (es:List Int) (outer:List ByteArray) (name:Int→ByteArray) (l:Int):Int:=if 0≤di es l then di es l else es.length+js (cN outer) (name l)
def lJ (b:Big) (es:List Int) (outer:List ByteArray) (place:Int→Int) (name:Int→ByteArray) (k:Int):Nd:=⟨(dZ b k).control,place (dZ b k).parent,(dZ b k).links.map (kK es outer name)⟩
def pe (b:Big) (ns es:List Int) (outer:List ByteArray) (place:Int→Int) (name:Int→ByteArray):Big:=⟨b.roots,ns.map (lJ b es outer place name),[],es.length,cN outer,[]⟩
theorem sP (rest:List Int) (p:Int):FnD Tryz.prog 161 [.i p,.p (DI rest)] (.d (.i (if 0≤p then di rest p else p))):=by
 refine ah Tryz.func161 (fun hw W0=>?_)
 have f1:=iq rest p
 refine kgo ?_
 refine bt (fun h=>?_) (fun h=>?_)
 ·rw [if_pos h]
  refine kgo ?_
  exact aD
 ·rw [if_neg h]
  refine kgo ?_
  exact aD
theorem sp (a:Big) (l:Int) (h0:0≤l - a.edges) (h1:l - a.edges<a.outer.length) (he:0≤a.edges∧a.edges≤1000) (hol:a.outer.length≤1000):FnD Tryz.prog 163 [.i l,.p a.D] (.d (.s (a.outer.getD (l - a.edges).toNat ⟨#[]⟩))):=by
 obtain ⟨q,hq⟩:=Int.eq_ofNat_of_zero_le h0
 have hql:q<a.outer.length:=by omega
 refine ah Tryz.func163 (fun hw W0=>?_)
 refine kgo ?_
 refine eB (n:=q) (fun _=>?_) rfl rfl (congrArg some hq)
 rw [show a.outer.getD (l - a.edges).toNat ⟨#[]⟩=a.outer[q] from by rw [hq,Int.toNat_natCast];simp [hql]]
 refine kgo ?_
 exact aD
theorem sd (a:Big) (es:List Int) (l:Int) (h0:0≤l∧l≤1000) (he:0≤a.edges∧a.edges≤1000) (hes:es.length≤1000):FnD Tryz.prog 164 [.i l,.p a.D,.p (DI es)] (.d (.i (if l<a.edges then di es l else es.length+(l - a.edges)))):=by
 refine ah Tryz.func164 (fun hw W0=>?_)
 have f1:=iq es l
 refine kgo ?_
 refine bt (fun h=>?_) (fun h=>?_)
 ·rw [if_pos h]
  refine kgo ?_
  exact aD
 ·rw [if_neg h,show (es.length:Int)+(l - a.edges)=(es.length:Int)+l - a.edges by omega]
  refine kgo ?_
  exact aD
end Go.Proofs.YtclpbhoekmecjaaGreatDoor
