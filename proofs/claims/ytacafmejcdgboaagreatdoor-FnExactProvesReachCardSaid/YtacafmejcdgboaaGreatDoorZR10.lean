/-
  Proved facts that the law leans on.
-/
import Derived.Test.YtacafmejcdgboaaGreatDoorZR4
import Derived.Test.YtacafmejcdgboaaGreatDoorZR8
import Derived.Test.YtacafmejcdgboaaGreatDoorZR9
import Derived.Test.YtacafmejcdgboaaGreatDoorCards
import Derived.Test.YtacafmejcdgboaaGreatDoorTie
import Derived.Test.YtacafmejcdgboaaGreatDoorRows
import Derived.Deep.DeepMust
import Derived.ProofKit
import Derived.ShutString
import Derived.Lib.SmallJoins
import Derived.Deep.DeepHandedRow
import Derived.Lib.LaidTab
import Derived.Lay
import Derived.LaidSub
import Derived.MakeChecks
namespace Go.Proofs.YtacafmejcdgboaaGreatDoor
open Go.RowKit
set_option linter.unusedVariables false
set_option maxRecDepth 100000
set_option maxHeartbeats 4000000
attribute [local irreducible] aD Der At
theorem ry {l:List Int} (h:l.Pairwise (· < ·)) {i j:Nat} (hi:i<l.length) (hj:j<l.length) (hij:i<j):l[i]<l[j]:=(List.pairwise_iff_getElem.1 h) i j hi hj hij
theorem tz {l:List Int} (h:l.Pairwise (· < ·)) (e:Nat) (he:e<l.length):cX l l[e]=e:=by
 have hm:l[e]∈l:=List.getElem_mem he
 unfold cX
 rw [if_pos (cz.2 hm)]
 have hd:l.idxOf l[e]<l.length:=List.idxOf_lt_length_of_mem hm
 have hv:l[l.idxOf l[e]]=l[e]:=List.getElem_idxOf hd
 rcases Nat.lt_trichotomy (l.idxOf l[e]) e with h1|h1|h1
 ·have:=ry h hd he h1;omega
 ·rw [h1]
 ·have:=ry h he hd h1;omega
def kT (ps z:List Int) (base k:Nat):List Int:=(List.range k).foldl (fun l (i:Nat)=>l.set (atI ps i).toNat ((base:Int)+i)) z
theorem lI (ps z:List Int) (base k:Nat):kT ps z base (k+1)=(kT ps z base k).set (atI ps k).toNat ((base:Int)+k):=by unfold kT;rw [List.range_succ,List.foldl_append];rfl
theorem mZ (ps z:List Int) (base k:Nat):(kT ps z base k).length=z.length:=by
 induction k with
 | zero=>simp [kT]
 | succ k ih=>rw [lI,List.length_set,ih]
theorem vy {ps z:List Int} (base:Nat) (hi:ps.Pairwise (· < ·)) (h0:∀x∈ps,0≤x∧x<(z.length:Int)):∀k,k≤ps.length→∀e (he:e<ps.length),e<k→atI (kT ps z base k) ps[e]=base+e:=by
 intro k
 induction k with
 | zero=>intro _ e _ h;exact absurd h (Nat.not_lt_zero _)
 | succ k ih=>
  intro hk e he hek
  have hkl:k<ps.length:=by omega
  have b1:=h0 _ (List.getElem_mem he)
  have b2:=h0 _ (List.getElem_mem hkl)
  have hl:=mZ ps z base k
  rw [lI,br ps k hkl]
  unfold atI
  by_cases e1:e=k
  ·subst e1
   rw [List.getD_eq_getElem?_getD,List.getElem?_set_self (by omega)];rfl
  ·have hlt:=ry hi he hkl (by omega)
   rw [List.getD_eq_getElem?_getD,List.getElem?_set_ne (by omega),← List.getD_eq_getElem?_getD]
   exact ih (by omega) e he (by omega)
theorem A3 {f:Nat→Bool} {n:Nat} {k q j:Nat} (hk:k<(idxOf f n).length) (hq:(idxOf f n)[k]=(q:Int)) (hj:j<q) (hf:f j=true):∃e,e<k∧∃he:e<(idxOf f n).length,(idxOf f n)[e]=(j:Int):=by
 obtain ⟨i,hi,_,hqi⟩:=bt.1 (List.getElem_mem hk)
 have hm:(j:Int)∈idxOf f n:=bt.2 ⟨j,by omega,hf,rfl⟩
 obtain ⟨e,he,h1⟩:=List.mem_iff_getElem.1 hm
 refine ⟨e,?_,he,h1⟩
 rcases Nat.lt_trichotomy e k with h|h|h
 ·exact h
 ·subst h;omega
 ·have:=ry (gG f n) hk he h;omega
def dG (p:Big) (list:List Int) (i base:Nat) (q:Int):Nd:=⟨(cI p q).control,if (cI p q).parent<0 then -1 - (i:Int) else (base:Int)+cX list (cI p q).parent,(cI p q).links⟩
def dt (p:Big) (cs:List Int):Nat→List Nd
 | 0=>[]
 | i+1=>dt p cs i++(oz p (-1 - atI cs i)).map (dG p (oz p (-1 - atI cs i)) i (dt p cs i).length)
def lv (cs:List Int) (p:Big):Big:=⟨cs.length,dt p cs cs.length,[],0,p.outer,[]⟩
theorem rS (p:Big) (cs:List Int) (i:Nat):(dt p cs i).length≤i * p.nodes.length:=by
 induction i with
 | zero=>simp [dt]
 | succ i ih=>
  have:=dF (ip p (-1 - atI cs i)) p.nodes.length
  unfold dt oz
  rw [List.length_append,List.length_map,Nat.succ_mul]
  omega
theorem rX {sig:List Ctl} (r:Rul) {p:Big} (hp:aw sig p=true) (hc:r.copies.length≤100):FnD Tryz.prog 145 [r.D,p.D] (.d (lv r.copies p).D):=by
 have hd:=aC hp
 have hdm:=bw hp
 refine ah Tryz.func145 (fun hw W0=>?_)
 have hwc:=(wfM hw.1.2.2.1).2
 repeat (first|(refine bZ ?_;first|refine aO ?_|refine b9 ?_|refine bf ?_|refine aX ?_|refine aQ ?_|refine aW ?_|refine aV ?_|refine aA ?_|refine bc ?_)|(refine fb ?_;first|refine bO ?_|refine fg ?_|refine bU ?_|refine cd ?_)|(refine fp ?_;first|refine dv (fun _=>?_)|refine ci ?_|refine cr ?_|refine bE ?_|refine bR ?_|refine bX ?_)|(refine ft ?_;first|refine b8 ?_|refine eG ?_|refine ca ?_|refine bI ?_|refine cb ?_|refine b7 ?_)|(refine fx ?_;first|refine fq ?_|refine eZ ?_|refine cm ?_|refine bQ ?_|refine fu ?_|refine aR ?_|refine bd ?_)|(refine bS ?_;first|refine bh ?_|refine bW ?_)|(refine fc ?_;first|refine cf ?_|refine ck ?_|refine fj ?_)|(refine bY ?_;first|refine cg ?_|refine be ?_|refine aZ ?_|refine bj ?_|refine aP ?_|refine aY ?_)|(refine fm ?_;first|refine co ?_|refine eX ?_|refine aU ?_|refine bg ?_)|(refine aS ?_;first|refine av _ ?_|refine ba ?_|refine aB ?_|refine ax ?_|refine az ?_)|(refine ff ?_;first|refine cq ?_|refine bJ ?_|refine cj ?_)|(refine gOp ?_;first|refine fd ?_|refine fa ?_|refine aT ?_|refine fl ?_|refine fh ?_|refine b6 ?_|refine aN ?_|refine bT ?_|refine fw ?_|refine bK ?_|refine ct ?_|refine bk ?_|refine sFz 19 ?_|refine ay ?_|refine ch ?_|refine sNo ?_|refine eS ?_)|refine eA ?_|refine eR ?_|refine fe ?_|refine bl ?_|refine bM ?_|refine bz ?_|refine fC ?_|refine fB ?_|refine fo ?_|refine eH ?_|refine bV ?_|refine bp ?_|refine au ?_|refine bm ?_|refine cw ?_|refine bA ?_|refine aBlkX ?_|refine cy ?_|refine sFz 19 ?_)
 refine aj [2,3,4,5] (fun i:Nat=>i≤r.copies.length) (fun i=>r.copies.length - i) (fun i=>[(10005,.tk (.bx [.d (.i r.copies.length),.k 20001,.d (.n 1),.d (.i 0),.d (DS p.outer),.d (.n 2)])),(20001,.tk (.row 3 151 ((dt p r.copies i).map Nd.D))),(6,.sy (.d (.i i)))]) 0 (Nat.zero_le _) (fun i hi=>?_)
 refine kgo ?_
 refine bo (fun h=>?_) (fun h=>?_)
 ·have hlt:i<r.copies.length:=by omega
  have f1:=yE hp (-1 - r.copies[i])
  have hil:=rS p r.copies i
  have hb1:i * p.nodes.length≤100 * 8:=Nat.mul_le_mul (by omega) hd.2.1
  have hil2:(dt p r.copies i).length≤800:=by omega
  have hz:List.replicate p.nodes.length (D.i 0)=(kT (oz p (-1 - r.copies[i])) (List.replicate p.nodes.length 0) (dt p r.copies i).length 0).map D.i:=by rw [show kT (oz p (-1 - r.copies[i])) (List.replicate p.nodes.length 0) (dt p r.copies i).length 0=List.replicate p.nodes.length 0 from by simp [kT],List.map_replicate]
  have hnext:dt p r.copies (i+1)=dt p r.copies i++(oz p (-1 - r.copies[i])).map (dG p (oz p (-1 - r.copies[i])) i (dt p r.copies i).length):=by rw [← br r.copies i hlt];rfl
  have hcb:I64 (-1 - r.copies[i]):=by have:=hwc _ (List.getElem_mem hlt);unfold Wf I64 at this;unfold I64;omega
  repeat (first|(refine bZ ?_;first|refine aO ?_|refine b9 ?_|refine bf ?_|refine aX ?_|refine aQ ?_|refine aW ?_|refine aV ?_|refine aA ?_|refine bc ?_)|(refine fb ?_;first|refine bO ?_|refine fg ?_|refine bU ?_|refine cd ?_)|(refine fp ?_;first|refine dv (fun _=>?_)|refine ci ?_|refine cr ?_|refine bE ?_|refine bR ?_|refine bX ?_)|(refine ft ?_;first|refine b8 ?_|refine eG ?_|refine ca ?_|refine bI ?_|refine cb ?_|refine b7 ?_)|(refine fx ?_;first|refine fq ?_|refine eZ ?_|refine cm ?_|refine bQ ?_|refine fu ?_|refine aR ?_|refine bd ?_)|(refine bS ?_;first|refine bh ?_|refine bW ?_)|(refine fc ?_;first|refine fA (d:=7) ?_|refine cf ?_|refine ck ?_|refine fj ?_)|(refine bY ?_;first|refine cg ?_|refine be ?_|refine aZ ?_|refine bj ?_|refine aP ?_|refine aY ?_)|(refine fm ?_;first|refine co ?_|refine eX ?_|refine aU ?_|refine bg ?_)|(refine aS ?_;first|refine av _ ?_|refine ba ?_|refine aB ?_|refine ax ?_|refine az ?_)|(refine ff ?_;first|refine cq ?_|refine bJ ?_|refine cj ?_)|(refine gOp ?_;first|refine fd ?_|refine fa ?_|refine aT ?_|refine fl ?_|refine fh ?_|refine b6 ?_|refine aN ?_|refine bT ?_|refine fw ?_|refine bK ?_|refine ct ?_|refine bk ?_|refine ay ?_|refine ch ?_|refine sNo ?_|refine eS ?_)|refine eA ?_|refine eR ?_|refine fe ?_|refine bl ?_|refine bM ?_|refine bz ?_|refine fC ?_|refine fB ?_|refine fo ?_|refine eH ?_|refine bV ?_|refine bp ?_|refine au ?_|refine bm ?_|refine cw ?_|refine bA ?_|refine aBlkX ?_|refine cy ?_)
  refine bK (n:=p.nodes.length) (r:=.i 0) ?_ rfl rfl (hb:=by show 8 * p.nodes.length≤1000000000;omega)
  have hul:(oz p (-1 - r.copies[i])).length≤p.nodes.length:=dF _ _
  have hmem:∀x∈oz p (-1 - r.copies[i]),∃q:Nat,q<p.nodes.length∧ip p (-1 - r.copies[i]) q=true∧x=q:=fun x hx=>bt.1 hx
  have hinc:(oz p (-1 - r.copies[i])).Pairwise (· < ·):=gG _ _
  have hup:∀(k q j:Nat) (hk:k<(oz p (-1 - r.copies[i])).length),(oz p (-1 - r.copies[i]))[k]=(q:Int)→j<q→ip p (-1 - r.copies[i]) j=true→∃e,e<k∧∃he:e<(oz p (-1 - r.copies[i])).length,(oz p (-1 - r.copies[i]))[e]=(j:Int):=fun k q j hk hq hj hf=>A3 hk hq hj hf
  generalize hba:(dt p r.copies i).length=base at *
  generalize oz p (-1 - r.copies[i])=lst at *
  have h00:(dt p r.copies i).map Nd.D=(dt p r.copies i++(lst.take 0).map (dG p lst i base)).map Nd.D:=by simp
  refine kgo ?_
  refine aj [2,3,4,5,6,7,8] (fun k:Nat=>k≤lst.length) (fun k=>lst.length - k) (fun k=>[(10005,.tk (.bx [.d (.i r.copies.length),.k 20001,.d (.n 1),.d (.i 0),.d (DS p.outer),.d (.n 2)])),(20001,.tk (.row 3 151 ((dt p r.copies i++(lst.take k).map (dG p lst i base)).map Nd.D))),(10039,.tk (.row 1 3 ((kT lst (List.replicate p.nodes.length 0) base k).map .i))),(9,.sy (.d (.i k)))]) 0 (Nat.zero_le _) (fun k hk=>?_)
  refine kgo ?_
  refine bo (fun h2=>?_) (fun h2=>?_)
  ·have hkl:k<lst.length:=by omega
   obtain ⟨q,hq1,hq2,hq⟩:=hmem _ (List.getElem_mem hkl)
   have hpl:=mZ lst (List.replicate p.nodes.length 0) base k
   rw [List.length_replicate] at hpl
   have hs:=lI lst (List.replicate p.nodes.length 0) base k
   rw [br lst k hkl,hq,Int.toNat_natCast] at hs
   have hlen:((((dt p r.copies i++(lst.take k).map (dG p lst i base)).map Nd.D).length:Nat):Int)=(base:Int)+k:=by rw [List.length_map,List.length_append,List.length_map,List.length_take,hba];omega
   refine kgo ?_
   refine bE (n:=q) ?_ rfl rfl rfl (congrArg some hq)
   refine kgo ?_
   rw [hlen,← hs]
   refine dv (n:=q) (fun _=>?_) rfl rfl (congrArg some hq)
   have hnd:cI p q=p.nodes[q]:=al p q hq1
   have hll:=hdm.7 q hq1
   have hut:=gN hp q hq1
   have f2:=pW (p.nodes[q]).links hll
   have hlen2:(dt p r.copies i++(lst.take k).map (dG p lst i base)).length≤1000:=by rw [List.length_append,List.length_map,List.length_take,hba];omega
   have hs2:∀V:Int,V=(dG p lst i base q).parent→((dt p r.copies i++(lst.take (k+1)).map (dG p lst i base))).map Nd.D=((dt p r.copies i++(lst.take k).map (dG p lst i base))).map Nd.D++[Nd.D ⟨(p.nodes[q]).control,V,(p.nodes[q]).links⟩]:=fun V hV=>by
    simp only [List.take_succ_eq_append_getElem hkl,List.map_append,List.append_assoc,List.map_cons,List.map_nil,hq]
    rw [hV,← hnd];rfl
   have hpl2:=mZ lst (List.replicate p.nodes.length 0) base (k+1)
   rw [List.length_replicate] at hpl2
   refine kgo ?_
   refine bo (fun h3=>?_) (fun h3=>?_)
   ·obtain ⟨j,hj⟩:=Int.eq_ofNat_of_zero_le h3
    have hjq:j<q:=by omega
    have huj:ip p (-1 - r.copies[i]) j=true:=by
     rw [og p _ q hq1,hj,nA hp j (by omega)] at hq2
     rw [og p _ j (by omega)];exact hq2
    obtain ⟨e,he1,he2,he3⟩:=hup k q j hkl hq hjq huj
    have hv:=vy (z:=List.replicate p.nodes.length 0) base hinc (fun x hx=>by obtain ⟨y,h1,_,h2⟩:=hmem x hx;rw [List.length_replicate];omega) (k+1) hkl e he2 (by omega)
    have hix:=tz hinc e he2
    have hjl:j<(kT lst (List.replicate p.nodes.length 0) base (k+1)).length:=by omega
    rw [he3,br _ j hjl] at hv
    rw [he3] at hix
    have hs3:=hs2 ((kT lst (List.replicate p.nodes.length 0) base (k+1))[j]) (by rw [hv];show _=(if (cI p q).parent<0 then _ else _);rw [hnd,hj,if_neg (by omega),hix])
    refine kgo ?_
    refine bE (n:=j) ?_ rfl rfl rfl (congrArg some hj)
    repeat (first|(refine bZ ?_;first|refine aO ?_|refine b9 ?_|refine bf ?_|refine aX ?_|refine aQ ?_|refine aW ?_|refine aV ?_|refine aA ?_|refine bc ?_)|(refine fb ?_;first|refine bO ?_|refine fg ?_|refine bU ?_|refine cd ?_)|(refine fp ?_;first|refine dv (fun _=>?_)|refine ci ?_|refine cr ?_|refine bE ?_|refine bR ?_|refine bX ?_)|(refine ft ?_;first|refine b8 ?_|refine eG ?_|refine ca ?_|refine bI ?_|refine cb ?_|refine b7 ?_)|(refine fx ?_;first|refine fq ?_|refine eZ ?_|refine cm ?_|refine bQ ?_|refine fu ?_|refine aR ?_|refine bd ?_)|(refine bS ?_;first|refine bh ?_|refine bW ?_)|(refine fc ?_;first|refine cf ?_|refine ck ?_|refine fj ?_)|(refine bY ?_;first|refine cg ?_|refine be ?_|refine aZ ?_|refine bj ?_|refine aP ?_|refine aY ?_)|(refine fm ?_;first|refine co ?_|refine eX ?_|refine aU ?_|refine bg ?_)|(refine aS ?_;first|refine av _ ?_|refine ba ?_|refine aB ?_|refine ax ?_|refine az ?_)|(refine ff ?_;first|refine cq ?_|refine bJ ?_|refine cj ?_)|(refine gOp ?_;first|refine fd ?_|refine fa ?_|refine aT ?_|refine fl ?_|refine fh ?_|refine b6 ?_|refine aN ?_|refine bT ?_|refine fw ?_|refine bK ?_|refine ct ?_|refine bk ?_|refine sFz 80 ?_|refine ay ?_|refine ch ?_|refine sNo ?_|refine eS ?_)|refine eA ?_|refine eR ?_|refine fe ?_|refine bl ?_|refine bM ?_|refine bz ?_|refine fC ?_|refine fB ?_|refine fo ?_|refine eH ?_|refine bV ?_|refine bp ?_|refine au ?_|refine bm ?_|refine cw ?_|refine bA ?_|refine aBlkX ?_|refine cy ?_|refine sFz 80 ?_)
    exact ab (k+1) hkl (by omega)
   ·have hs3:=hs2 (-1 - (i:Int)) (by show _=(if (cI p q).parent<0 then _ else _);rw [hnd,if_pos (by omega)])
    repeat (first|(refine bZ ?_;first|refine aO ?_|refine b9 ?_|refine bf ?_|refine aX ?_|refine aQ ?_|refine aW ?_|refine aV ?_|refine aA ?_|refine bc ?_)|(refine fb ?_;first|refine bO ?_|refine fg ?_|refine bU ?_|refine cd ?_)|(refine fp ?_;first|refine dv (fun _=>?_)|refine ci ?_|refine cr ?_|refine bE ?_|refine bR ?_|refine bX ?_)|(refine ft ?_;first|refine b8 ?_|refine eG ?_|refine ca ?_|refine bI ?_|refine cb ?_|refine b7 ?_)|(refine fx ?_;first|refine fq ?_|refine eZ ?_|refine cm ?_|refine bQ ?_|refine fu ?_|refine aR ?_|refine bd ?_)|(refine bS ?_;first|refine bh ?_|refine bW ?_)|(refine fc ?_;first|refine cf ?_|refine ck ?_|refine fj ?_)|(refine bY ?_;first|refine cg ?_|refine be ?_|refine aZ ?_|refine bj ?_|refine aP ?_|refine aY ?_)|(refine fm ?_;first|refine co ?_|refine eX ?_|refine aU ?_|refine bg ?_)|(refine aS ?_;first|refine av _ ?_|refine ba ?_|refine aB ?_|refine ax ?_|refine az ?_)|(refine ff ?_;first|refine cq ?_|refine bJ ?_|refine cj ?_)|(refine gOp ?_;first|refine fd ?_|refine fa ?_|refine aT ?_|refine fl ?_|refine fh ?_|refine b6 ?_|refine aN ?_|refine bT ?_|refine fw ?_|refine bK ?_|refine ct ?_|refine bk ?_|refine sFz 80 ?_|refine ay ?_|refine ch ?_|refine sNo ?_|refine eS ?_)|refine eA ?_|refine eR ?_|refine fe ?_|refine bl ?_|refine bM ?_|refine bz ?_|refine fC ?_|refine fB ?_|refine fo ?_|refine eH ?_|refine bV ?_|refine bp ?_|refine au ?_|refine bm ?_|refine cw ?_|refine bA ?_|refine aBlkX ?_|refine cy ?_|refine sFz 80 ?_)
    exact ab (k+1) hkl (by omega)
  have hs4:(dt p r.copies i++(lst.take k).map (dG p lst i base)).map Nd.D=(dt p r.copies (i+1)).map Nd.D:=by rw [hnext,List.take_of_length_le (by omega)]
  refine kgo ?_
  exact ab (i+1) hlt (by omega)
 rw [show i=r.copies.length by omega]
 refine bz (au (au (bA (bp ?_))))
 refine mY 10005 1 ?_
 refine kgo ?_
 exact ar
end Go.Proofs.YtacafmejcdgboaaGreatDoor
namespace Go.Proofs.YtacafmejcdgboaaGreatDoor
open Go.RowKit
set_option linter.unusedVariables false
set_option maxRecDepth 100000
set_option maxHeartbeats 4000000
attribute [local irreducible] aD Der At
theorem vl (b:Big) (p:Int) (hl:b.nodes.length≤1048576):FnD Tryz.prog 202 [b.D,.i p] (.d (DI (eI b p))):=⟨cF Tryz.func202,fun F w vs hv hF=>by
 obtain ⟨v1,t,rfl,h1,v2,t2,rfl,⟨h2,_⟩,h3⟩:=hv
 cases (show t2 = [] from h3)
 obtain ⟨cs,rfl,hb⟩:=rK h1
 cases h2
 refine (pM _ _ _ _ _ _ hb hl).mono ?_
 rintro e w' ⟨v,rfl,hV,hX⟩
 exact ⟨_,rfl,hX,qp (BJ.ofV hV)⟩⟩
end Go.Proofs.YtacafmejcdgboaaGreatDoor
namespace Go.Proofs.YtacafmejcdgboaaGreatDoor
open Go.RowKit
set_option linter.unusedVariables false
set_option maxRecDepth 100000
set_option maxHeartbeats 4000000
attribute [local irreducible] aD Der At
theorem ru (n lo hi:Int):FnD Tryz.prog 90 [.i n,.i lo,.i hi] (.d (.b (inR n lo hi))):=by
 refine ah Tryz.func90 (fun hw W0=>?_)
 refine kgo ?_
 cases h:decide (lo≤n)
 ·refine kgo ?_
  rw [show inR n lo hi=false from by unfold inR;rw [h];rfl]
  exact ar
 ·refine kgo ?_
  rw [show inR n lo hi=decide (n≤hi) from by unfold inR;rw [h];rfl]
  exact ar
theorem FJ (b:Big) (n:Int) (hl:b.nodes.length≤1000):FnD Tryz.prog 198 [b.D,.i n] (.d (.b (inR n 0 (b.nodes.length - 1)))):=by
 refine ah Tryz.func198 (fun hw W0=>?_)
 have f1:=ru n 0 (b.nodes.length - 1)
 refine kgo ?_
 exact ar
theorem y9 (b:Big) (n:Int) (hl:b.nodes.length≤1000) (hr:inR b.roots 0 4=true):FnD Tryz.prog 200 [b.D,.i n] (.d (.b (inR n (-b.roots) (b.nodes.length - 1)))):=by
 have hr:=cA hr
 refine ah Tryz.func200 (fun hw W0=>?_)
 have f1:=ru n (-b.roots) (b.nodes.length - 1)
 refine kgo ?_
 exact ar
theorem qt {r a:Big} {ns:List Int} (i:Nat) (hi:i<ns.length) (h:E0 r a ns i=false):qG r a ns=false:=by
 rw [vG,aK _ _ i hi h];simp
theorem tI {n:Int} {k:Nat} (h:inR n 0 ((k:Int) - 1)=true):∃m:Nat,n=(m:Int)∧m<k:=by
 have h:=cA h
 obtain ⟨m,rfl⟩:=Int.eq_ofNat_of_zero_le h.1
 exact ⟨m,rfl,by omega⟩
theorem w4 (r a:Big) (ns:List Int) (ha:a.nodes.length≤1000) (hr:r.nodes.length≤1000):FnD Tryz.prog 135 [r.D,a.D,DI ns] (.d (.b (qG r a ns))):=by
 refine ah Tryz.func135 (fun hw W0=>?_)
 refine kgo ?_
 refine kR (fun h=>?_) (fun h=>?_)
 ·refine kgo ?_
  rw [show qG r a ns=false from by unfold qG;rw [decide_eq_false (by omega)];rfl]
  exact ar
 refine kgo ?_
 refine aj [2,3,4] (fun i:Nat=>i≤ns.length∧(List.range i).all (E0 r a ns)=true) (fun i=>ns.length - i) (fun i=>[(7,.sy (.d (.i i)))]) 0 ⟨Nat.zero_le _,rfl⟩ (fun i hi=>?_)
 refine kgo ?_
 refine bo (fun h2=>?_) (fun h2=>?_)
 ·have hlt:i<ns.length:=by omega
  have hlr:i<r.nodes.length:=by omega
  have f1:=FJ a ns[i] ha
  have f2:=js (ns.take i) ns[i]
  have hok:=DN r a ns i hlt hlr
  refine kgo ?_
  cases h3:inR ns[i] 0 (a.nodes.length - 1)
  ·rw [h3] at hok
   refine kgo ?_
   rw [qt i hlt hok]
   exact ar
  rw [h3] at hok
  refine kgo ?_
  cases h4:eq (ns.take i) ns[i]
  ·rw [h4] at hok
   obtain ⟨k,hk,hka⟩:=tI h3
   rw [hk,al a k hka] at hok
   refine kgo ?_
   refine dv (n:=k) (fun _=>?_) rfl rfl (congrArg some hk)
   refine kgo ?_
   refine kR (fun h5=>?_) (fun h5=>?_)
   ·rw [decide_eq_false h5] at hok
    refine kgo ?_
    rw [qt i hlt hok]
    exact ar
   ·rw [decide_eq_true h5] at hok
    refine kgo ?_
    exact ab (i+1) ⟨hlt,by rw [cJ,hi.2,hok];rfl⟩ (by omega)
  ·rw [h4] at hok
   refine kgo ?_
   rw [qt i hlt hok]
   exact ar
 refine kgo ?_
 rw [show qG r a ns=true from by rw [vG,decide_eq_true (by omega),eV _ _ i (by omega) hi.1 hi.2];rfl]
 exact ar
theorem oW {r a:Big} {ns rs:List Int} (i:Nat) (hi:i<rs.length) (h:jG a ns rs[i]=false):fE r a ⟨ns,rs⟩=false:=by
 unfold fE
 rw [show (⟨ns,rs⟩:Mat).roots.all (jG a ns)=false from List.all_eq_false.2 ⟨_,List.getElem_mem hi,by rw [h];exact Bool.false_ne_true⟩];rfl
theorem vY {sig:List Ctl} (r a:Big) (m:Mat) (hb:aw sig a=true):FnD Tryz.prog 136 [r.D,a.D,m.D] (.d (.b (fE r a m))):=by
 have hd:=bw hb
 refine ah Tryz.func136 (fun hw W0=>?_)
 have hml:=(wfM hw.2.2.1.2.1).1
 refine kgo ?_
 refine aj [3,4,5] (fun i:Nat=>i≤m.roots.length∧(m.roots.take i).all (jG a m.nodes)=true) (fun i=>m.roots.length - i) (fun i=>[(7,.sy (.d (.i i)))]) 0 ⟨Nat.zero_le _,rfl⟩ (fun i hi=>?_)
 refine kgo ?_
 refine bo (fun h2=>?_) (fun h2=>?_)
 ·have hlt:i<m.roots.length:=by omega
  have f1:=y9 a m.roots[i] hd.3 hd.1
  have hok:jG a m.nodes m.roots[i]=(inR m.roots[i] (-a.roots) (a.nodes.length - 1) && !gX a m.nodes m.roots[i]):=rfl
  refine kgo ?_
  cases h3:inR m.roots[i] (-a.roots) (a.nodes.length - 1)
  ·rw [h3] at hok
   refine kgo ?_
   rw [show fE r a m=false from oW i hlt hok]
   exact ar
  rw [h3] at hok
  have f2:=ma hb m m.roots[i] (by have:=cA h3;omega)
  refine kgo ?_
  refine cIf (fun h5=>?_) (fun h5=>?_)
  ·rw [h5] at hok
   refine kgo ?_
   rw [show fE r a m=false from oW i hlt hok]
   exact ar
  ·rw [h5] at hok
   refine kgo ?_
   exact ab (i+1) ⟨hlt,by rw [List.take_succ_eq_append_getElem hlt,List.all_append,hi.2,List.all_cons,hok];rfl⟩ (by omega)
 refine kgo ?_
 rw [show fE r a m=decide ((m.roots.length:Int)=r.roots) from by unfold fE;rw [fT _ _ i (by omega) hi.2];rfl]
 exact ar
theorem vS (r a:Big) (m:Mat) (i:Nat) (h:i<m.nodes.length) (hr:i<r.nodes.length) (k:Nat) (hk:m.nodes[i]=(k:Int)) (hka:k<a.nodes.length):oK r a m i=decide ((a.nodes[k]).parent=if 0≤(r.nodes[i]).parent then atI m.nodes (r.nodes[i]).parent else atI m.roots (-1 - (r.nodes[i]).parent)):=by
 unfold oK Fg
 rw [br _ i h,hk,al a k hka,al r i hr]
theorem ux {sig:List Ctl} {r a:Big} (m:Mat) (hbr:aw sig r=true) (hba:aw sig a=true) (him:nu r a m.nodes) (hrs:(m.roots.length:Int)=r.roots):FnD Tryz.prog 137 [r.D,a.D,m.D] (.d (.b ((List.range m.nodes.length).all (oK r a m)))):=by
 have hdr:=aC hbr
 refine ah Tryz.func137 (fun hw W0=>?_)
 have hml:=(wfM hw.2.2.1.1).1
 refine kgo ?_
 refine aj [3,4,5] (fun i:Nat=>i≤m.nodes.length∧(List.range i).all (oK r a m)=true) (fun i=>m.nodes.length - i) (fun i=>[(7,.sy (.d (.i i)))]) 0 ⟨Nat.zero_le _,rfl⟩ (fun i hi=>?_)
 refine kgo ?_
 refine bo (fun h2=>?_) (fun h2=>?_)
 ·have hlt:i<m.nodes.length:=by omega
  have hlr:i<r.nodes.length:=by have:=him.len;omega
  obtain ⟨k,hka,hk0,_⟩:=him.at' i hlr
  rw [br _ i hlt] at hk0
  have hok:=vS r a m i hlt hlr k hk0 hka
  have hup:=gN hbr i hlr
  refine kgo ?_
  refine bo (fun h3=>?_) (fun h3=>?_)
  ·rw [if_pos h3] at hok
   have hx:(r.nodes[i]).parent<m.nodes.length:=by omega
   refine kgo ?_
   refine dv (n:=k) (fun _=>?_) rfl rfl (congrArg some hk0)
   refine kgo ?_
   refine kR (fun h5=>?_) (fun h5=>?_)
   ·rw [decide_eq_false h5] at hok
    refine kgo ?_
    rw [aK _ _ i hlt hok]
    exact ar
   ·rw [decide_eq_true h5] at hok
    refine kgo ?_
    exact ab (i+1) ⟨hlt,by rw [cJ,hi.2,hok];rfl⟩ (by omega)
  ·rw [if_neg h3] at hok
   have hx : -1 - (r.nodes[i]).parent<m.roots.length:=by omega
   refine kgo ?_
   refine dv (n:=k) (fun _=>?_) rfl rfl (congrArg some hk0)
   refine kgo ?_
   refine kR (fun h5=>?_) (fun h5=>?_)
   ·rw [decide_eq_false h5] at hok
    refine kgo ?_
    rw [aK _ _ i hlt hok]
    exact ar
   ·rw [decide_eq_true h5] at hok
    refine kgo ?_
    exact ab (i+1) ⟨hlt,by rw [cJ,hi.2,hok];rfl⟩ (by omega)
 refine kgo ?_
 rw [eV _ _ i (by omega) hi.1 hi.2]
 exact ar
theorem kV (b:Big) (p:Int):(bq b p).length≤b.sites.length:=dF _ _
theorem pF (b:Big) (p:Int):(eI b p).length≤b.nodes.length:=dF _ _
theorem AT {r a:Big} (m:Mat) (him:nu r a m.nodes) (dr:qK r) (da:qK a):FnD Tryz.prog 138 [r.D,a.D,m.D] (.d (.b ((List.range m.nodes.length).all (kO r a m)))):=by
 have hsi:=dr.4
 have hno:=da.3
 refine ah Tryz.func138 (fun hw W0=>?_)
 have hml:=(wfM hw.2.2.1.1).1
 refine kgo ?_
 refine aj [3,4,5] (fun i:Nat=>i≤m.nodes.length∧(List.range i).all (kO r a m)=true) (fun i=>m.nodes.length - i) (fun i=>[(7,.sy (.d (.i i)))]) 0 ⟨Nat.zero_le _,rfl⟩ (fun i hi=>?_)
 refine kgo ?_
 refine bo (fun h2=>?_) (fun h2=>?_)
 ·have hlt:i<m.nodes.length:=by omega
  have f1:=vl a m.nodes[i] (by omega)
  have f2:=lw r i (by omega)
  have hk1:=kV r i
  have hk2:=pF a m.nodes[i]
  have hok:kO r a m i=(!(decide ((bq r i).length=0)) || (eI a m.nodes[i]).all (eq m.nodes)):=by unfold kO;rw [br _ i hlt]
  have hnext:kO r a m i=true→(List.range (i+1)).all (kO r a m)=true:=fun h=>by rw [cJ,hi.2,h];rfl
  refine kgo ?_
  refine aj [3,4,5,7,8] (fun k:Nat=>k≤(eI a m.nodes[i]).length∧(0<k→(bq r i).length=0)∧((eI a m.nodes[i]).take k).all (eq m.nodes)=true) (fun k=>(eI a m.nodes[i]).length - k) (fun k=>[(9,.sy (.d (.i k)))]) 0 ⟨Nat.zero_le _,fun h=>absurd h (by omega),rfl⟩ (fun k hk=>?_)
  refine kgo ?_
  cases h4:decide ((k:Int)<((eI a m.nodes[i]).length:Int))
  ·have h4:=of_decide_eq_false h4
   rw [fT _ _ k (by omega) hk.2.2,Bool.or_true] at hok
   refine kgo ?_
   exact ab (i+1) ⟨hlt,hnext hok⟩ (by omega)
  have h4:=of_decide_eq_true h4
  have hkl:k<(eI a m.nodes[i]).length:=by omega
  refine kgo ?_
  refine bo (fun h5=>?_) (fun h5=>?_)
  ·have f3:=js m.nodes (eI a m.nodes[i])[k]
   refine kgo ?_
   refine cIf (fun h6=>?_) (fun h6=>?_)
   ·rw [Bool.not_eq_true'] at h6
    rw [decide_eq_true (by omega),show (eI a m.nodes[i]).all (eq m.nodes)=false from List.all_eq_false.2 ⟨_,List.getElem_mem hkl,by rw [h6];exact Bool.false_ne_true⟩] at hok
    refine kgo ?_
    rw [aK _ _ i hlt hok]
    exact ar
   ·rw [Bool.not_eq_false'] at h6
    refine kgo ?_
    exact ab (k+1) ⟨hkl,fun _=>by omega,by rw [List.take_succ_eq_append_getElem hkl,List.all_append,hk.2.2,List.all_cons,h6];rfl⟩ (by omega)
  ·rw [decide_eq_false (by omega)] at hok
   refine kgo ?_
   exact ab (i+1) ⟨hlt,hnext hok⟩ (by omega)
 refine kgo ?_
 rw [eV _ _ i (by omega) hi.1 hi.2]
 exact ar
theorem Ae {sig:List Ctl} {r a:Big} (m:Mat) (hbr:aw sig r=true) (hba:aw sig a=true) (hp0:∀l:Nat,l<ak r→aE r l≠[]):FnD Tryz.prog 91 [r.D,a.D,m.D] (.d (.b (eQ r a m))):=by
 have dr:=bw hbr
 have da:=bw hba
 have f1:=w4 r a m.nodes da.3 dr.3
 have f2:=vY r a m hba
 have hm:eQ r a m=((qG r a m.nodes && fE r a m) && ((List.range m.nodes.length).all (oK r a m) && ((List.range m.nodes.length).all (kO r a m) && fQ r a m.nodes))):=rfl
 have f3:qG r a m.nodes=true→fE r a m=true→FnD Tryz.prog 137 [r.D,a.D,m.D] (.d (.b ((List.range m.nodes.length).all (oK r a m)))):=fun h1 h2=>ux m hbr hba (jp h1) (lT h2)
 have f4:qG r a m.nodes=true→FnD Tryz.prog 138 [r.D,a.D,m.D] (.d (.b ((List.range m.nodes.length).all (kO r a m)))):=fun h1=>AT m (jp h1) dr da
 have f5:qG r a m.nodes=true→FnD Tryz.prog 139 [r.D,a.D,m.D] (.tp [DI (ny r a m.nodes),.b (fQ r a m.nodes)]):=fun h1=>si m hbr hba (jp h1) hp0
 refine ah Tryz.func91 (fun hw W0=>?_)
 rw [hm]
 refine kgo ?_
 cases h1:qG r a m.nodes
 ·refine kgo ?_
  exact ar
 have f4:=f4 h1
 have f5:=f5 h1
 refine kgo ?_
 cases h2:fE r a m
 ·refine kgo ?_
  exact ar
 have f3:=f3 h1 h2
 refine kgo ?_
 cases h3:(List.range m.nodes.length).all (oK r a m)
 ·refine kgo ?_
  exact ar
 refine kgo ?_
 cases h4:(List.range m.nodes.length).all (kO r a m)
 ·refine kgo ?_
  exact ar
 refine kgo ?_
 exact ar
end Go.Proofs.YtacafmejcdgboaaGreatDoor
namespace Go.Proofs.YtacafmejcdgboaaGreatDoor
open Go.RowKit
set_option linter.unusedVariables false
set_option maxRecDepth 100000
set_option maxHeartbeats 4000000
attribute [local irreducible] aD Der At
def vM (b:Big) (es:List Int) (l:Int):Int:=if b.edges≤l then l else atI es l
def BO (b:Big) (es:List Int) (l:Int):Prop:=0≤l∧(l<b.edges→l<es.length)
theorem yL (b:Big) (es:List Int) (l:Int) (h:BO b es l):FnD Tryz.prog 196 [b.D,.i l,DI es] (.d (.i (vM b es l))):=by
 refine ah Tryz.func196 (fun hw W0=>?_)
 obtain ⟨h0,h1⟩:=h
 refine kgo ?_
 refine bo (fun h=>?_) (fun h=>?_)
 ·refine kgo ?_
  rw [show vM b es l=l from if_pos h]
  exact ar
 ·have h1:=h1 (by omega)
  refine kgo ?_
  rw [show vM b es l=atI es l from if_neg h]
  exact ar
def w5 (b:Big) (to es:List Int) (n:Nd):Nd:=⟨n.control,iw to n.parent,n.links.map (vM b es)⟩
def sO (b:Big) (to es:List Int) (k:Nat):List Nd:=(List.range k).foldl (fun l (i:Nat)=>l.set (atI to i).toNat (w5 b to es (cI b i))) (List.replicate b.nodes.length ⟨0,0,[]⟩)
theorem nE (b:Big) (to es:List Int) (k:Nat):sO b to es (k+1)=(sO b to es k).set (atI to k).toNat (w5 b to es (cI b k)):=by unfold sO;rw [List.range_succ,List.foldl_append];rfl
theorem BB (b:Big) (to es:List Int) (k:Nat):(sO b to es k).length=b.nodes.length:=by
 induction k with
 | zero=>simp [sO]
 | succ k ih=>rw [nE,List.length_set,ih]
def C7 (b:Big) (es:List Int) (w:Wr):Wr:=⟨w.name,vM b es w.link⟩
def Gw (b:Big) (to es:List Int):Big:=⟨b.roots,sO b to es b.nodes.length,b.sites.map (iw to),b.edges,b.outer,b.inner.map (C7 b es)⟩
structure Da (b:Big) (to es:List Int):Prop where
 len:to.length=b.nodes.length
 tos:∀x∈to,0≤x∧x<(b.nodes.length:Int)
 par:∀n∈b.nodes,n.parent<to.length
 links:∀n∈b.nodes,∀l∈n.links,BO b es l
 sites:∀p∈b.sites,p<to.length
 inner:∀w∈b.inner,BO b es w.link
 nodes:b.nodes.length≤1000
 sl:b.sites.length≤1000
 il:b.inner.length≤1000
 ol:b.outer.length≤1000
 ll:∀n∈b.nodes,n.links.length≤1000
theorem rJ (b:Big) (to es:List Int) (H:Da b to es):FnD Tryz.prog 134 [b.D,DI to,DI es] (.d (Gw b to es).D):=by
 have hnl:=H.nodes
 have htl:=H.len
 have hsl:=H.sl
 have hil:=H.il
 have hol:=H.ol
 have hz:List.replicate b.nodes.length (Nd.D ⟨0,0,[]⟩)=(sO b to es 0).map Nd.D:=by rw [show sO b to es 0=List.replicate b.nodes.length ⟨0,0,[]⟩ from by simp [sO],List.map_replicate]
 refine ah Tryz.func134 (fun hw W0=>?_)
 refine kgo ?_
 refine mu (n:=b.nodes.length) (Nd.D ⟨0,0,[]⟩) ?_ rfl rfl (hb:=by show 40 * b.nodes.length≤1000000000;omega)
 repeat (first|(refine bZ ?_;first|refine aO ?_|refine b9 ?_|refine bf ?_|refine aX ?_|refine aQ ?_|refine aW ?_|refine aV ?_|refine aA ?_|refine bc ?_)|(refine fb ?_;first|refine bO ?_|refine fg ?_|refine bU ?_|refine cd ?_)|(refine fp ?_;first|refine dv (fun _=>?_)|refine ci ?_|refine cr ?_|refine bE ?_|refine bR ?_|refine bX ?_)|(refine ft ?_;first|refine b8 ?_|refine eG ?_|refine ca ?_|refine bI ?_|refine cb ?_|refine b7 ?_)|(refine fx ?_;first|refine fq ?_|refine eZ ?_|refine cm ?_|refine bQ ?_|refine fu ?_|refine aR ?_|refine bd ?_)|(refine bS ?_;first|refine bh ?_|refine bW ?_)|(refine fc ?_;first|refine cf ?_|refine ck ?_|refine fj ?_)|(refine bY ?_;first|refine cg ?_|refine be ?_|refine aZ ?_|refine bj ?_|refine aP ?_|refine aY ?_)|(refine fm ?_;first|refine co ?_|refine eX ?_|refine aU ?_|refine bg ?_)|(refine aS ?_;first|refine av _ ?_|refine ba ?_|refine aB ?_|refine ax ?_|refine az ?_)|(refine ff ?_;first|refine cq ?_|refine bJ ?_|refine cj ?_)|(refine gOp ?_;first|refine fd ?_|refine fa ?_|refine aT ?_|refine fl ?_|refine fh ?_|refine b6 ?_|refine aN ?_|refine bT ?_|refine fw ?_|refine bK ?_|refine ct ?_|refine bk ?_|refine sFz 24 ?_|refine ay ?_|refine ch ?_|refine sNo ?_|refine eS ?_)|refine eA ?_|refine eR ?_|refine fe ?_|refine bl ?_|refine bM ?_|refine bz ?_|refine fC ?_|refine fB ?_|refine fo ?_|refine eH ?_|refine bV ?_|refine bp ?_|refine au ?_|refine bm ?_|refine cw ?_|refine bA ?_|refine aBlkX ?_|refine cy ?_|refine sFz 24 ?_)
 refine aj [1,2,3,6,7] (fun i:Nat=>i≤b.nodes.length) (fun i=>b.nodes.length - i) (fun i=>[(10007,.tk (.bx [.d (.i b.roots),.k 20001,.d (.n 1),.d (.i b.edges),.d (DS b.outer),.d (.n 2)])),(20001,.tk (.row 3 151 ((sO b to es i).map Nd.D))),(8,.sy (.d (.i i)))]) 0 (Nat.zero_le _) (fun i hi=>?_)
 refine kgo ?_
 refine bo (fun h=>?_) (fun h=>?_)
 ·have hlt:i<b.nodes.length:=by omega
  have hm:=List.getElem_mem hlt
  have hll:=H.ll _ hm
  have htie:=H.links _ hm
  refine kgo ?_
  refine aj [1,2,3,6,7,8] (fun k:Nat=>k≤(b.nodes[i]).links.length) (fun k=>(b.nodes[i]).links.length - k) (fun k=>[(9,.sy (.k 20002)),(20002,.tk (.row 1 3 ((((b.nodes[i]).links.take k).map (vM b es)).map .i))),(10,.sy (.d (.i k)))]) 0 (Nat.zero_le _) (fun k hk=>?_)
  refine kgo ?_
  refine bo (fun h2=>?_) (fun h2=>?_)
  ·have hkl:k<(b.nodes[i]).links.length:=by omega
   have f1:=yL b es (b.nodes[i]).links[k] (htie _ (List.getElem_mem hkl))
   have hs:(((b.nodes[i]).links.take (k+1)).map (vM b es)).map D.i=(((b.nodes[i]).links.take k).map (vM b es)).map D.i++[.i (vM b es (b.nodes[i]).links[k])]:=by rw [List.take_succ_eq_append_getElem hkl,List.map_append,List.map_append];rfl
   have hq:(((b.nodes[i]).links.take k).map (vM b es)).length≤1000:=by rw [List.length_map,List.length_take];omega
   refine kgo ?_
   exact ab (k+1) hkl (by omega)
  rw [show (b.nodes[i]).links.take k=(b.nodes[i]).links from List.take_of_length_le (by omega)]
  have hlt2:i<to.length:=by omega
  obtain ⟨h0,h1⟩:=H.tos _ (List.getElem_mem hlt2)
  obtain ⟨q,hq⟩:=Int.eq_ofNat_of_zero_le h0
  have hrl:=BB b to es i
  have hs:=nE b to es i
  rw [br to i hlt2,hq,Int.toNat_natCast,al b i hlt] at hs
  have hql:q<(sO b to es i).length:=by omega
  have f2:=lh (b.nodes[i]).parent to (H.par _ hm)
  repeat (first|(refine bZ ?_;first|refine aO ?_|refine b9 ?_|refine bf ?_|refine aX ?_|refine aQ ?_|refine aW ?_|refine aV ?_|refine aA ?_|refine bc ?_)|(refine fb ?_;first|refine bO ?_|refine fg ?_|refine bU ?_|refine cd ?_)|(refine fp ?_;first|refine dv (fun _=>?_)|refine ci ?_|refine cr ?_|refine bE ?_|refine bR ?_|refine bX ?_)|(refine ft ?_;first|refine b8 ?_|refine eG ?_|refine ca ?_|refine bI ?_|refine cb ?_|refine b7 ?_)|(refine fx ?_;first|refine fq ?_|refine eZ ?_|refine cm ?_|refine bQ ?_|refine fu ?_|refine aR ?_|refine bd ?_)|(refine bS ?_;first|refine bh ?_|refine bW ?_)|(refine fc ?_;first|refine cf ?_|refine ck ?_|refine fj ?_)|(refine bY ?_;first|refine cg ?_|refine be ?_|refine aZ ?_|refine bj ?_|refine aP ?_|refine aY ?_)|(refine fm ?_;first|refine co ?_|refine eX ?_|refine aU ?_|refine bg ?_)|(refine aS ?_;first|refine av _ ?_|refine ba ?_|refine aB ?_|refine ax ?_|refine az ?_)|(refine ff ?_;first|refine cq ?_|refine bJ ?_|refine cj ?_)|(refine gOp ?_;first|refine fd ?_|refine fa ?_|refine aT ?_|refine fl ?_|refine fh ?_|refine b6 ?_|refine aN ?_|refine bT ?_|refine fw ?_|refine bK ?_|refine ct ?_|refine bk ?_|refine sFz 80 ?_|refine ay ?_|refine ch ?_|refine sNo ?_|refine eS ?_)|refine eA ?_|refine eR ?_|refine fe ?_|refine bl ?_|refine bM ?_|refine bz ?_|refine fC ?_|refine fB ?_|refine fo ?_|refine eH ?_|refine bV ?_|refine bp ?_|refine au ?_|refine bm ?_|refine cw ?_|refine bA ?_|refine aBlkX ?_|refine cy ?_|refine sFz 80 ?_)
  refine bE (n:=q) ?_ rfl rfl rfl (congrArg some hq)
  refine Dm (f:=Nd.D) (l:=sO b to es i) (w5 b to es b.nodes[i]) ?_
  refine kgo ?_
  rw [← hs]
  exact ab (i+1) hlt (by omega)
 rw [show i=b.nodes.length by omega]
 refine kgo ?_
 refine mY 10007 1 ?_
 refine l9 10007 2 20003 3 ?_
 refine aj [1,2,3,6,7] (fun i:Nat=>i≤b.sites.length) (fun i=>b.sites.length - i) (fun i=>[(10007,.tk (.bx [.d (.i b.roots),.d (.l 3 ((sO b to es b.nodes.length).map Nd.D)),.k 20003,.d (.i b.edges),.d (DS b.outer),.d (.n 2)])),(20003,.tk (.row 1 3 (((b.sites.take i).map (iw to)).map .i))),(11,.sy (.d (.i i)))]) 0 (Nat.zero_le _) (fun i hi=>?_)
 refine kgo ?_
 refine bo (fun h=>?_) (fun h=>?_)
 ·have hlt:i<b.sites.length:=by omega
  have f1:=lh b.sites[i] to (H.sites _ (List.getElem_mem hlt))
  have hs:((b.sites.take (i+1)).map (iw to)).map D.i=((b.sites.take i).map (iw to)).map D.i++[.i (iw to b.sites[i])]:=by rw [List.take_succ_eq_append_getElem hlt,List.map_append,List.map_append];rfl
  have hq:((b.sites.take i).map (iw to)).length≤1000:=by rw [List.length_map,List.length_take];omega
  refine kgo ?_
  exact ab (i+1) hlt (by omega)
 rw [show b.sites.take i=b.sites from List.take_of_length_le (by omega)]
 refine kgo ?_
 refine mY 10007 2 ?_
 refine l9 10007 5 20004 153 ?_
 refine aj [2,3,6,7] (fun i:Nat=>i≤b.inner.length) (fun i=>b.inner.length - i) (fun i=>[(10007,.tk (.bx [.d (.i b.roots),.d (.l 3 ((sO b to es b.nodes.length).map Nd.D)),.d (DI (b.sites.map (iw to))),.d (.i b.edges),.d (DS b.outer),.k 20004])),(20004,.tk (.row 2 153 (((b.inner.take i).map (C7 b es)).map Wr.D))),(12,.sy (.d (.i i)))]) 0 (Nat.zero_le _) (fun i hi=>?_)
 refine kgo ?_
 refine bo (fun h=>?_) (fun h=>?_)
 ·have hlt:i<b.inner.length:=by omega
  have f1:=yL b es (b.inner[i]).link (H.inner _ (List.getElem_mem hlt))
  have hs:((b.inner.take (i+1)).map (C7 b es)).map Wr.D=((b.inner.take i).map (C7 b es)).map Wr.D++[Wr.D ⟨(b.inner[i]).name,vM b es (b.inner[i]).link⟩]:=by rw [List.take_succ_eq_append_getElem hlt,List.map_append,List.map_append];rfl
  have hq:((b.inner.take i).map (C7 b es)).length≤1000:=by rw [List.length_map,List.length_take];omega
  refine kgo ?_
  exact ab (i+1) hlt (by omega)
 rw [show b.inner.take i=b.inner from List.take_of_length_le (by omega)]
 refine bz (au (au (bA (bp ?_))))
 refine mY 10007 5 ?_
 refine kgo ?_
 exact ar
def kA (n:Nat):List Int:=(List.range n).map fun (i:Nat)=>(i:Int)
theorem rZ (n:Nat):kA (n+1)=kA n++[(n:Int)]:=by unfold kA;rw [List.range_succ,List.map_append];rfl
theorem ic (n:Nat):(kA n).length=n:=by unfold kA;simp
theorem tw (n i:Nat) (h:i<n):atI (kA n) i=i:=by rw [br _ i (by rw [ic];exact h)];simp [kA]
theorem yj {b:Big} {l:Int} (h:dy b l=true):BO b (kA b.edges.toNat) l∧vM b (kA b.edges.toNat) l=l:=by
 obtain ⟨n,rfl,hn⟩:=gv h
 refine ⟨⟨by omega,fun h=>by rw [ic];omega⟩,?_⟩
 unfold vM
 split
 ·rfl
 ·exact tw _ n (by omega)
theorem Er {b:Big} (h:∀n∈b.nodes,w5 b (kA b.nodes.length) (kA b.edges.toNat) n=n):∀k,k≤b.nodes.length→sO b (kA b.nodes.length) (kA b.edges.toNat) k=b.nodes.take k++List.replicate (b.nodes.length - k) ⟨0,0,[]⟩:=by
 intro k
 induction k with
 | zero=>intro _;simp [sO]
 | succ k ih=>
  intro hk
  rw [nE,ih (by omega),tw _ k hk,Int.toNat_natCast,al b k hk,h _ (List.getElem_mem _),List.set_append_right _ _ (by rw [List.length_take];omega),List.length_take,Nat.min_eq_left (by omega),Nat.sub_self,show b.nodes.length - k=(b.nodes.length - (k+1))+1 by omega,List.replicate_succ,List.set_cons_zero,List.take_succ_eq_append_getElem (by omega),List.append_assoc]
  rfl
theorem FN {sig:List Ctl} {b:Big} (hb:aw sig b=true):Da b (kA b.nodes.length) (kA b.edges.toNat)∧Gw b (kA b.nodes.length) (kA b.edges.toNat)=b:=by
 have hd:=aC hb
 have hdm:=bw hb
 obtain ⟨_,_,h3,h4⟩:=cZ hb
 have hnode:∀n∈b.nodes,-b.roots≤n.parent∧n.parent<b.nodes.length∧(∀l∈n.links,dy b l=true)∧n.links.length≤1000:=fun n hn=>by
  obtain ⟨i,hi,rfl⟩:=List.mem_iff_getElem.1 hn
  have:=gN hb i hi
  exact ⟨this.1,by omega,(dc hb i hi).2.2.2.2,hdm.7 i hi⟩
 have hmv:∀p:Int,p<b.nodes.length→iw (kA b.nodes.length) p=p:=fun p hp=>by
  unfold iw
  split
  ·rfl
  ·obtain ⟨k,rfl⟩:=Int.eq_ofNat_of_zero_le (show 0≤p by omega)
   exact tw _ k (by omega)
 have hsite:∀p∈b.sites,p<b.nodes.length:=fun p hp=>by
  have h5:=List.all_eq_true.1 h3 p hp
  unfold eT cR at h5
  split at h5
  ·omega
  ·simp only [Bool.and_eq_true,decide_eq_true_eq] at h5;exact h5.1
 have hlk:∀l,dy b l=true→vM b (kA b.edges.toNat) l=l:=fun l h=>(yj h).2
 have hin:∀w∈b.inner,dy b w.link=true:=fun w hw=>List.all_eq_true.1 h4 w hw
 refine ⟨⟨ic _,fun x hx=>?_,fun n hn=>by rw [ic];exact (hnode n hn).2.1,fun n hn l hl=>(yj ((hnode n hn).2.2.1 l hl)).1,fun p hp=>by rw [ic];exact hsite p hp,fun w hw=>(yj (hin w hw)).1,by omega,by omega,by omega,by omega,fun n hn=>(hnode n hn).2.2.2⟩,?_⟩
 ·unfold kA at hx
  obtain ⟨i,hi,rfl⟩:=List.mem_map.1 hx
  have:=List.mem_range.1 hi;omega
 ·have e1:∀n∈b.nodes,w5 b (kA b.nodes.length) (kA b.edges.toNat) n=n:=fun n hn=>by
   obtain ⟨c,p,ls⟩:=n
   obtain ⟨_,q1,q2,_⟩:=hnode _ hn
   unfold w5
   rw [hmv _ q1]
   congr 1
   exact (List.map_congr_left fun l hl=>hlk l (q2 l hl)).trans (List.map_id _)
  unfold Gw
  rw [Er e1 _ (Nat.le_refl _),Nat.sub_self,List.take_length,List.replicate_zero,List.append_nil]
  have e2:b.sites.map (iw (kA b.nodes.length))=b.sites:=(List.map_congr_left fun p hp=>hmv p (hsite p hp)).trans (List.map_id _)
  have e3:b.inner.map (C7 b (kA b.edges.toNat))=b.inner:=(List.map_congr_left fun w hw=>show C7 b _ w=w by obtain ⟨nm,lk⟩:=w;unfold C7;rw [hlk _ (hin _ hw)]).trans (List.map_id _)
  rw [e2,e3]
theorem Dg {sig:List Ctl} {b:Big} (hb:aw sig b=true):FnD Tryz.prog 89 [b.D] (.d b.D):=by
 obtain ⟨H,hE⟩:=FN hb
 have hd:=aC hb
 obtain ⟨e,he⟩:=Int.eq_ofNat_of_zero_le hd.2.2.2.1.1
 have f1:=rJ b _ _ H
 rw [hE,he,Int.toNat_natCast] at f1
 refine ah Tryz.func89 (fun hw W0=>?_)
 refine kgo ?_
 refine aj [1,2,4] (fun i:Nat=>i≤b.nodes.length) (fun i=>b.nodes.length - i) (fun i=>[(3,.sy (.k 20001)),(20001,.tk (.row 1 3 ((kA i).map .i))),(5,.sy (.d (.i i)))]) 0 (Nat.zero_le _) (fun i hi=>?_)
 refine kgo ?_
 refine bo (fun h=>?_) (fun h=>?_)
 ·have hlt:i<b.nodes.length:=by omega
  have hs:(kA (i+1)).map D.i=(kA i).map D.i++[.i i]:=by rw [rZ,List.map_append];rfl
  have hl:=ic i
  refine kgo ?_
  exact ab (i+1) hlt (by omega)
 rw [show i=b.nodes.length by omega]
 refine kgo ?_
 refine aj [1,2,3] (fun i:Nat=>i≤e) (fun i=>e - i) (fun i=>[(4,.sy (.k 20002)),(20002,.tk (.row 1 3 ((kA i).map .i))),(6,.sy (.d (.i i)))]) 0 (Nat.zero_le _) (fun i hi=>?_)
 refine kgo ?_
 refine bo (fun h=>?_) (fun h=>?_)
 ·have hlt:i<e:=by omega
  have hs:(kA (i+1)).map D.i=(kA i).map D.i++[.i i]:=by rw [rZ,List.map_append];rfl
  have hl:=ic i
  refine kgo ?_
  exact ab (i+1) hlt (by omega)
 rw [show i=e by omega]
 repeat (first|refine cFz 3 ?_|refine cFz 4 ?_|(refine bZ ?_;first|refine aO ?_|refine b9 ?_|refine bf ?_|refine aX ?_|refine aQ ?_|refine aW ?_|refine aV ?_|refine aA ?_|refine bc ?_)|(refine fb ?_;first|refine bO ?_|refine fg ?_|refine bU ?_|refine cd ?_)|(refine fp ?_;first|refine dv (fun _=>?_)|refine ci ?_|refine cr ?_|refine bE ?_|refine bR ?_|refine bX ?_)|(refine ft ?_;first|refine b8 ?_|refine eG ?_|refine ca ?_|refine bI ?_|refine cb ?_|refine b7 ?_)|(refine fx ?_;first|refine fq ?_|refine eZ ?_|refine cm ?_|refine bQ ?_|refine fu ?_|refine aR ?_|refine bd ?_)|(refine bS ?_;first|refine bh ?_|refine bW ?_)|(refine fc ?_;first|refine cf ?_|refine ck ?_|refine fj ?_)|(refine bY ?_;first|refine cg ?_|refine be ?_|refine aZ ?_|refine bj ?_|refine aP ?_|refine aY ?_)|(refine fm ?_;first|refine co ?_|refine eX ?_|refine aU ?_|refine bg ?_)|(refine aS ?_;first|refine av _ ?_|refine ba ?_|refine aB ?_|refine ax ?_|refine az ?_)|(refine ff ?_;first|refine cq ?_|refine bJ ?_|refine cj ?_)|(refine gOp ?_;first|refine fd ?_|refine fa ?_|refine aT ?_|refine fl ?_|refine fh ?_|refine b6 ?_|refine aN ?_|refine bT ?_|refine fw ?_|refine bK ?_|refine ct ?_|refine bk ?_|refine ay ?_|refine ch ?_|refine sNo ?_|refine eS ?_)|refine eA ?_|refine eR ?_|refine fe ?_|refine bl ?_|refine bM ?_|refine bz ?_|refine fC ?_|refine fB ?_|refine fo ?_|refine eH ?_|refine bV ?_|refine bp ?_|refine au ?_|refine bm ?_|refine cw ?_|refine bA ?_|refine aBlkX ?_|refine cy ?_)
 exact ar
end Go.Proofs.YtacafmejcdgboaaGreatDoor
namespace Go.Proofs.YtacafmejcdgboaaGreatDoor
open Go.RowKit
set_option linter.unusedVariables false
set_option maxRecDepth 100000
set_option maxHeartbeats 4000000
attribute [local irreducible] aD Der At
theorem BZ (b:Big) (l:Int) (hl:b.inner.length≤1000):FnD Tryz.prog 314 [b.D,.i l] (.d (DS (iP b l))):=by
 refine ah Tryz.func314 (fun hw W0=>?_)
 refine kgo ?_
 refine aj [1,2] (fun i:Nat=>i≤b.inner.length) (fun i=>b.inner.length - i) (fun i=>[(5,.sy (.k 20001)),(20001,.tk (.row 1 9 ((dJ b l i).map .s))),(6,.sy (.d (.i i)))]) 0 (Nat.zero_le _) (fun i hi=>?_)
 refine kgo ?_
 refine bo (fun h=>?_) (fun h=>?_)
 ·have hlt:i<b.inner.length:=by omega
  have hq:=gA b l i
  refine kgo ?_
  refine bo (fun h2=>?_) (fun h2=>?_)
  ·have hs:(dJ b l (i+1)).map D.s=(dJ b l i).map D.s++[.s (b.inner[i]).name]:=by rw [lP hlt h2,List.map_append];rfl
   refine kgo ?_
   exact ab (i+1) hlt (by omega)
  ·have hs:(dJ b l (i+1)).map D.s=(dJ b l i).map D.s:=by rw [nJ hlt h2]
   refine kgo ?_
   exact ab (i+1) hlt (by omega)
 rw [show iP b l=dJ b l i from by rw [show i=b.inner.length by omega];rfl]
 repeat (first|(refine bZ ?_;first|refine aO ?_|refine b9 ?_|refine bf ?_|refine aX ?_|refine aQ ?_|refine aW ?_|refine aV ?_|refine aA ?_|refine bc ?_)|(refine fb ?_;first|refine bO ?_|refine fg ?_|refine bU ?_|refine cd ?_)|(refine fp ?_;first|refine dv (fun _=>?_)|refine ci ?_|refine cr ?_|refine bE ?_|refine bR ?_|refine bX ?_)|(refine ft ?_;first|refine b8 ?_|refine eG ?_|refine ca ?_|refine bI ?_|refine cb ?_|refine b7 ?_)|(refine fx ?_;first|refine fq ?_|refine eZ ?_|refine cm ?_|refine bQ ?_|refine fu ?_|refine aR ?_|refine bd ?_)|(refine bS ?_;first|refine bh ?_|refine bW ?_)|(refine fc ?_;first|refine fA (d:=4) ?_|refine cf ?_|refine ck ?_|refine fj ?_)|(refine bY ?_;first|refine cg ?_|refine be ?_|refine aZ ?_|refine bj ?_|refine aP ?_|refine aY ?_)|(refine fm ?_;first|refine co ?_|refine eX ?_|refine aU ?_|refine bg ?_)|(refine aS ?_;first|refine av _ ?_|refine ba ?_|refine aB ?_|refine ax ?_|refine az ?_)|(refine ff ?_;first|refine cq ?_|refine bJ ?_|refine cj ?_)|(refine gOp ?_;first|refine fd ?_|refine fa ?_|refine aT ?_|refine fl ?_|refine fh ?_|refine b6 ?_|refine aN ?_|refine bT ?_|refine fw ?_|refine bK ?_|refine ct ?_|refine bk ?_|refine ay ?_|refine ch ?_|refine sNo ?_|refine eS ?_)|refine eA ?_|refine eR ?_|refine fe ?_|refine bl ?_|refine bM ?_|refine bz ?_|refine fC ?_|refine fB ?_|refine fo ?_|refine eH ?_|refine bV ?_|refine bp ?_|refine au ?_|refine bm ?_|refine cw ?_|refine bA ?_|refine aBlkX ?_|refine cy ?_)
 exact ar
theorem rF {α:Type} (l:List α):decide ((l.length:Int)=0)=l.isEmpty:=by cases l <;> simp <;> omega
theorem A0 {b:Big} (d:qK b) (l:Int) (hi:b.inner.length≤1000):FnD Tryz.prog 279 [b.D,.i l] (.d (.b (jf b l))):=by
 have f1:=lA b l d.3 d.7
 have f2:=BZ b l hi
 have hpl:=d8 b l d.3 d.7
 have hel:=gA b l b.inner.length
 refine ah Tryz.func279 (fun hw W0=>?_)
 refine kgo ?_
 have e1:=rF (aE b l)
 have e2:=rF (iP b l)
 unfold jf
 rw [← e1,← e2]
 cases h:decide (((aE b l).length:Int)=0)
 ·refine kgo ?_
  exact ar
 ·refine kgo ?_
  exact ar
theorem tf {b:Big} (h:(List.range (ak b)).all (cY b)=false):cD b=false:=by unfold cD;rw [h];simp
theorem xN {b:Big} (d:qK b) (hi:b.inner.length≤1000):FnD Tryz.prog 246 [b.D] (.d (.b (cD b))):=by
 have hr:=cA d.1
 have he:=cA d.2
 have hn:=d.3
 have hs:=d.4
 have ho:=d.5
 obtain ⟨R,hR⟩:=Int.eq_ofNat_of_zero_le hr.1
 have hlk:b.edges+(b.outer.length:Int)=(ak b:Nat):=by unfold ak;omega
 have hroot:∀i:Nat,gj b i=(!(decide ((eI b (-1 - (i:Int))).length=0)) && decide ((bq b (-1 - (i:Int))).length=0)):=fun i=>rfl
 refine ah Tryz.func246 (fun hw W0=>?_)
 refine kgo ?_
 cases h1:decide ((0:Int)<b.inner.length)
 ·have h1:=of_decide_eq_false h1
  refine kgo ?_
  refine bo (fun h2=>?_) (fun h2=>?_)
  ·refine kgo ?_
   rw [kL (.inr h2)]
   exact ar
  refine kgo ?_
  refine aj [1] (fun i:Nat=>i≤R∧(List.range i).all (gj b)=true) (fun i=>R - i) (fun i=>[(3,.sy (.d (.i i)))]) 0 ⟨Nat.zero_le _,rfl⟩ (fun i hi=>?_)
  refine kgo ?_
  refine bo (fun h3=>?_) (fun h3=>?_)
  ·have hlt:i<R:=by omega
   have f1:=vl b (-1 - (i:Int)) (by omega)
   have f2:=lw b (-1 - (i:Int)) (by omega)
   have hk1:=kV b (-1 - (i:Int))
   have hk2:=pF b (-1 - (i:Int))
   have hok:=hroot i
   have bad:gj b i=false→cD b=false:=fun h=>uj i (by rw [hR];exact hlt) h
   refine kgo ?_
   cases h4:decide (((eI b (-1 - (i:Int))).length:Int)=0)
   ·have h4:=of_decide_eq_false h4
    rw [decide_eq_false (by omega)] at hok
    refine kgo ?_
    refine bo (fun h5=>?_) (fun h5=>?_)
    ·rw [decide_eq_false (by omega)] at hok
     refine kgo ?_
     rw [bad hok]
     exact ar
    ·rw [decide_eq_true (by omega)] at hok
     refine kgo ?_
     exact ab (i+1) ⟨hlt,by rw [cJ,hi.2,hok];rfl⟩ (by omega)
   ·have h4:=of_decide_eq_true h4
    rw [decide_eq_true (by omega)] at hok
    refine kgo ?_
    rw [bad hok]
    exact ar
  have hroots:(List.range b.roots.toNat).all (gj b)=true:=by rw [hR,Int.toNat_natCast];exact eV _ _ i (by omega) hi.1 hi.2
  refine kgo ?_
  refine aj [1] (fun i:Nat=>i≤b.nodes.length∧(List.range i).all (cS b)=true) (fun i=>b.nodes.length - i) (fun i=>[(4,.sy (.d (.i i)))]) 0 ⟨Nat.zero_le _,rfl⟩ (fun i hi=>?_)
  refine kgo ?_
  refine bo (fun h3=>?_) (fun h3=>?_)
  ·have hlt:i<b.nodes.length:=by omega
   have f2:=lw b i (by omega)
   have hk1:=kV b i
   have hok:cS b i=decide ((bq b i).length≤1):=rfl
   refine kgo ?_
   refine bo (fun h5=>?_) (fun h5=>?_)
   ·rw [decide_eq_false (by omega)] at hok
    refine kgo ?_
    rw [uc i hlt hok]
    exact ar
   ·rw [decide_eq_true (by omega)] at hok
    refine kgo ?_
    exact ab (i+1) ⟨hlt,by rw [cJ,hi.2,hok];rfl⟩ (by omega)
  have hnodes:(List.range b.nodes.length).all (cS b)=true:=eV _ _ i (by omega) hi.1 hi.2
  refine kgo ?_
  refine aj [1] (fun i:Nat=>i≤ak b∧(List.range i).all (cY b)=true) (fun i=>ak b - i) (fun i=>[(5,.sy (.d (.i i)))]) 0 ⟨Nat.zero_le _,rfl⟩ (fun i hi=>?_)
  refine kgo ?_
  refine bo (fun h3=>?_) (fun h3=>?_)
  ·have hlt:i<ak b:=by omega
   have f2:=A0 d i (by assumption)
   have hok:cY b i = !(jf b i):=rfl
   refine kgo ?_
   refine cIf (fun h5=>?_) (fun h5=>?_)
   ·rw [h5] at hok
    refine kgo ?_
    rw [tf (aK _ _ i hlt hok)]
    exact ar
   ·rw [h5] at hok
    refine kgo ?_
    exact ab (i+1) ⟨hlt,by rw [cJ,hi.2,hok];rfl⟩ (by omega)
  refine kgo ?_
  rw [pl (by omega) h2 hroots hnodes (eV _ _ i (by omega) hi.1 hi.2)]
  exact ar
 ·have h1:=of_decide_eq_true h1
  refine kgo ?_
  rw [kL (.inl (by omega))]
  exact ar
theorem xQ (sig:List Ctl) (b:Big) (hl:b.inner.length≤1048576):FnD Tryz.prog 179 [.l 3 (sig.map Ctl.D),b.D] (.d (.b (aw sig b && cD b))):=by
 have f1:=fN sig b (by omega)
 refine ah Tryz.func179 (fun hw W0=>?_)
 refine kgo ?_
 cases h:aw sig b
 ·refine kgo ?_
  exact ar
 ·have f2:=xN (bw h) (by have:=(aC h).2.2.2.2.2;omega)
  refine kgo ?_
  exact ar
theorem iZ (a c:List ByteArray):FnD Tryz.prog 180 [DS a,DS c] (.d (.b (eqS a c))):=by
 refine ah Tryz.func180 (fun hw W0=>?_)
 have hl:=(wfM hw.1).1
 have hl2:=(wfM hw.2.1).1
 refine kgo ?_
 refine aj [0,1] (fun i:Nat=>i≤a.length∧i≤c.length∧(List.range i).all (jH a c)=true) (fun i=>a.length - i) (fun i=>[(5,.sy (.d (.i i)))]) 0 ⟨Nat.zero_le _,Nat.zero_le _,rfl⟩ (fun i hi=>?_)
 refine kgo ?_
 cases h:decide ((i:Int)<a.length)
 ·have h:=of_decide_eq_false h
  refine kgo ?_
  rw [show eqS a c=decide ((a.length:Int)=c.length) from by unfold eqS;rw [eV _ _ i (by omega) hi.1 hi.2.2,Bool.and_true];exact decide_eq_decide.2 (by omega)]
  exact ar
 have h:=of_decide_eq_true h
 refine kgo ?_
 refine bo (fun h2=>?_) (fun h2=>?_)
 ·have hlt:i<a.length:=by omega
  have hlt2:i<c.length:=by omega
  have hs:=jr a c i hlt hlt2
  refine kgo ?_
  refine cIf (fun h3=>?_) (fun h3=>?_)
  ·refine kgo ?_
   rw [qc (c:=c) i hlt (by rw [hs];simpa using h3)]
   exact ar
  ·refine kgo ?_
   exact ab (i+1) ⟨hlt,hlt2,by rw [cJ,hi.2.2,hs];simpa using h3⟩ (by omega)
 ·refine kgo ?_
  rw [show eqS a c=decide ((a.length:Int)=c.length) from by unfold eqS;rw [decide_eq_false (by omega),Bool.false_and,decide_eq_false (by omega)]]
  exact ar
theorem wS (r:Rul) (h1:r.redex.sites.length≤1000) (h2:r.reactum.sites.length≤1000):FnD Tryz.prog 181 [r.D] (.d (.b (decide (r.copies.length=r.reactum.sites.length) && r.copies.all (iG r)))):=by
 refine ah Tryz.func181 (fun hw W0=>?_)
 have hl:=(wfM hw.1.2.2.1).1
 refine kgo ?_
 refine aj [1] (fun i:Nat=>i≤r.copies.length∧(r.copies.take i).all (iG r)=true) (fun i=>r.copies.length - i) (fun i=>[(3,.sy (.d (.i i)))]) 0 ⟨Nat.zero_le _,rfl⟩ (fun i hi=>?_)
 refine kgo ?_
 refine bo (fun h=>?_) (fun h=>?_)
 ·have hlt:i<r.copies.length:=by omega
  have f1:=ru r.copies[i] 0 (r.redex.sites.length - 1)
  have hok:iG r r.copies[i]=inR r.copies[i] 0 ((r.redex.sites.length:Int) - 1):=rfl
  refine kgo ?_
  refine cIf (fun h3=>?_) (fun h3=>?_)
  ·rw [Bool.not_eq_true'] at h3
   rw [h3] at hok
   refine kgo ?_
   rw [show r.copies.all (iG r)=false from List.all_eq_false.2 ⟨_,List.getElem_mem hlt,by rw [hok];exact Bool.false_ne_true⟩,Bool.and_false]
   exact ar
  ·rw [Bool.not_eq_false'] at h3
   rw [h3] at hok
   refine kgo ?_
   exact ab (i+1) ⟨hlt,by rw [List.take_succ_eq_append_getElem hlt,List.all_append,hi.2,List.all_cons,hok];rfl⟩ (by omega)
 refine kgo ?_
 rw [fT _ _ i (by omega) hi.2,Bool.and_true,show decide (r.copies.length=r.reactum.sites.length)=decide ((r.copies.length:Int)=r.reactum.sites.length) from decide_eq_decide.2 (by omega)]
 exact ar
theorem BM (sig:List Ctl) (r:Rul) (h1:r.redex.inner.length≤1048576) (h2:r.reactum.inner.length≤1048576):FnD Tryz.prog 112 [.l 3 (sig.map Ctl.D),r.D] (.d (.b (gx sig r))):=by
 have f1:=xQ sig r.redex h1
 have f2:=fN sig r.reactum (by omega)
 have f3:=iZ r.redex.outer r.reactum.outer
 have hE:gx sig r=((aw sig r.redex && aw sig r.reactum) && (cD r.redex && (decide (r.reactum.inner.length=0) && (decide (r.redex.roots=r.reactum.roots) && (eqS r.redex.outer r.reactum.outer && (decide (r.copies.length=r.reactum.sites.length) && r.copies.all (iG r))))))):=rfl
 have hz:decide (r.reactum.inner.length=0)=decide ((r.reactum.inner.length:Int)=0):=decide_eq_decide.2 (by omega)
 rw [hz] at hE
 refine ah Tryz.func112 (fun hw W0=>?_)
 rw [hE]
 refine kgo ?_
 cases e1:aw sig r.redex
 ·refine kgo ?_
  exact ar
 cases e2:cD r.redex
 ·rw [Bool.false_and,Bool.and_false]
  refine kgo ?_
  exact ar
 refine kgo ?_
 cases e3:aw sig r.reactum
 ·refine kgo ?_
  exact ar
 refine kgo ?_
 cases e4:decide ((r.reactum.inner.length:Int)=0)
 ·refine kgo ?_
  exact ar
 refine kgo ?_
 cases e5:decide (r.redex.roots=r.reactum.roots)
 ·refine kgo ?_
  exact ar
 refine kgo ?_
 cases e6:eqS r.redex.outer r.reactum.outer
 ·refine kgo ?_
  exact ar
 have f4:=wS r (by have:=(bw e1).4;omega) (by have:=(bw e3).4;omega)
 refine kgo ?_
 exact ar
theorem zY (sig:List Ctl) (rs:List Rul) (hr:∀r∈rs,r.redex.inner.length≤1048576∧r.reactum.inner.length≤1048576):FnD Tryz.prog 87 [.l 3 (sig.map Ctl.D),.l 13 (rs.map Rul.D)] (.d (.b (fU sig rs))):=by
 have f2:=x9 sig
 have f3:=ru rs.length 1 6
 refine ah Tryz.func87 (fun hw W0=>?_)
 have hl:=(wfM hw.2.1).1
 refine kgo ?_
 refine aj [0,1] (fun i:Nat=>i≤rs.length∧(rs.take i).all (gx sig)=true) (fun i=>rs.length - i) (fun i=>[(5,.sy (.d (.i i)))]) 0 ⟨Nat.zero_le _,rfl⟩ (fun i hi=>?_)
 refine kgo ?_
 refine bo (fun h=>?_) (fun h=>?_)
 ·have hlt:i<rs.length:=by omega
  have hm:=List.getElem_mem hlt
  have f1:=BM sig rs[i] (hr _ hm).1 (hr _ hm).2
  refine kgo ?_
  refine cIf (fun h3=>?_) (fun h3=>?_)
  ·rw [Bool.not_eq_true'] at h3
   refine kgo ?_
   rw [show fU sig rs=false from by unfold fU;rw [show rs.all (gx sig)=false from List.all_eq_false.2 ⟨_,hm,by rw [h3];exact Bool.false_ne_true⟩,Bool.and_false]]
   exact ar
  ·rw [Bool.not_eq_false'] at h3
   refine kgo ?_
   exact ab (i+1) ⟨hlt,by rw [List.take_succ_eq_append_getElem hlt,List.all_append,hi.2,List.all_cons,h3];rfl⟩ (by omega)
 have hall:=fT _ _ i (by omega) hi.2
 have hE:fU sig rs=inR (rs.length:Int) 1 6:=by unfold fU;rw [hall,Bool.and_true]
 refine kgo ?_
 cases e1:kl sig
 ·rw [show fU sig rs=false from by
   cases hb:fU sig rs with
   | false=>rfl
   | true=>rw [xz hb] at e1;cases e1]
  refine kgo ?_
  exact ar
 ·rw [hE]
  refine kgo ?_
  exact ar
theorem rH (sig:List Ctl) (b:Big) (hl:b.inner.length≤1048576):FnD Tryz.prog 38 [.l 3 (sig.map Ctl.D),b.D] (.d (.b (dN sig b))):=by
 have f1:=fN sig b (by omega)
 have hE:dN sig b=(aw sig b && (decide ((b.sites.length:Int)=0) && decide ((b.inner.length:Int)=0))):=by
  unfold dN
  rw [show decide (b.sites.length=0)=decide ((b.sites.length:Int)=0) from decide_eq_decide.2 (by omega),show decide (b.inner.length=0)=decide ((b.inner.length:Int)=0) from decide_eq_decide.2 (by omega)]
 refine ah Tryz.func38 (fun hw W0=>?_)
 have hs:=(wfM hw.2.1.2.2.1).1
 rw [hE]
 refine kgo ?_
 cases e1:aw sig b
 ·refine kgo ?_
  exact ar
 refine kgo ?_
 cases e2:decide ((b.sites.length:Int)=0)
 ·refine kgo ?_
  exact ar
 refine kgo ?_
 exact ar
end Go.Proofs.YtacafmejcdgboaaGreatDoor
namespace Go.Proofs.YtacafmejcdgboaaGreatDoor
open Go.RowKit
set_option linter.unusedVariables false
set_option maxRecDepth 100000
set_option maxHeartbeats 4000000
attribute [local irreducible] aD Der At
theorem dO {r a:Big} {m:Mat} (h:eQ r a m=true):qG r a m.nodes=true∧fE r a m=true∧(List.range m.nodes.length).all (kO r a m)=true∧fQ r a m.nodes=true:=by
 unfold eQ at h
 simp only [Bool.and_eq_true] at h
 exact ⟨h.1.1,h.1.2,h.2.2.1,h.2.2.2⟩
theorem lx {r a:Big} {m:Mat} (h:fE r a m=true):∀p∈m.roots,-a.roots≤p∧p<(a.nodes.length:Int):=fun p hp=>by
 unfold fE at h
 rw [Bool.and_eq_true] at h
 have h2:=List.all_eq_true.1 h.1 p hp
 unfold jG at h2
 rw [Bool.and_eq_true] at h2
 have:=cA h2.1
 omega
theorem iO {sig:List Ctl} {r:Rul} (h:gx sig r=true):aw sig r.redex=true∧aw sig r.reactum=true∧cD r.redex=true∧r.reactum.inner.length=0∧r.redex.roots=r.reactum.roots∧eqS r.redex.outer r.reactum.outer=true∧r.copies.length=r.reactum.sites.length∧r.copies.all (iG r)=true:=by
 unfold gx at h
 simp only [Bool.and_eq_true,decide_eq_true_eq] at h
 obtain ⟨⟨a,b⟩,c,d,e,f,g,i⟩:=h
 exact ⟨a,b,c,d,e,f,g,i⟩
theorem nU {r a:Big} {m:Mat} (h:eQ r a m=true) (i:Nat) (hi:i<a.nodes.length) (h1:mi a m.nodes i=true) (h2:eq m.nodes (cI a i).parent=true):0<(bq r (cX m.nodes (cI a i).parent)).length:=by
 have hk:=(dO h).2.2.1
 have hm:=cz.1 h2
 have hlt:m.nodes.idxOf (cI a i).parent<m.nodes.length:=List.idxOf_lt_length_of_mem hm
 have h3:=(aG _ _).1 hk _ hlt
 have he:atI m.nodes (m.nodes.idxOf (cI a i).parent:Nat)=(cI a i).parent:=by rw [br _ _ hlt];exact List.getElem_idxOf hlt
 unfold kO at h3
 rw [he] at h3
 rw [show cX m.nodes (cI a i).parent=(m.nodes.idxOf (cI a i).parent:Nat) from if_pos h2]
 by_cases hz:(bq r (m.nodes.idxOf (cI a i).parent:Nat)).length=0
 ·rw [decide_eq_true hz,Bool.not_true,Bool.false_or] at h3
  have hik:(i:Int)∈eI a (cI a i).parent:=bt.2 ⟨i,hi,by unfold oA;rw [List.getElem?_eq_getElem hi,al a i hi];exact decide_eq_true rfl,rfl⟩
  have h4:=List.all_eq_true.1 h3 _ hik
  unfold mi at h1
  rw [h4] at h1
  simp at h1
 ·omega
theorem mf {outer:List ByteArray} {n:Nat} (h:n+outer.length≤16):(bD outer n).length=n:=by
 have:=yp outer 26 (Nat.le_refl _)
 show ((km outer 26).take n).length=n
 rw [List.length_take];omega
theorem px {r a:Big} {ns:List Int} (h:(dE r a ns).2.2=true):(dE r a ns).2.1.length=(dE r a ns).1.length∧(dE r a ns).1.length≤16∧∀l∈(dE r a ns).1,0≤l∧l<(ak a:Int):=by
 unfold dE at h ⊢
 split at h
 ·cases h
 ·rename_i hn
  rw [if_neg hn]
  have hn:=of_decide_eq_false (by simpa using hn:decide (16<((idxOf (psF a ns) (ak a)).length:Int)+r.outer.length)=false)
  dsimp only
  refine ⟨mf (by omega),by omega,fun l hl=>?_⟩
  obtain ⟨i,hi,_,rfl⟩:=bt.1 hl
  omega
abbrev gq (r:Big) (a:Big) (m:Mat):Big:=EN r a m (dE r a m.nodes).1 (dE r a m.nodes).2.1
abbrev fK (r:Big) (a:Big) (m:Mat):Big:=Fv r a m (dE r a m.nodes).1 (dE r a m.nodes).2.1
def gg (sig:List Ctl) (r:Rul) (a:Big) (m:Mat):Big × Bool:=
 if (dE r.redex a m.nodes).2.2 && (aw sig (gq r.redex a m) && aw sig (fK r.redex a m)) then mq sig r.reactum (gq r.redex a m) (lv r.copies (fK r.redex a m)) else (ew,false)
theorem lc {sig:List Ctl} {r:Rul} {a:Big} {m:Mat} (h:((dE r.redex a m.nodes).2.2 && (aw sig (gq r.redex a m) && aw sig (fK r.redex a m)))=false):gg sig r a m=(ew,false):=by unfold gg;rw [h];rfl
theorem nX {sig:List Ctl} {r:Rul} {a:Big} {m:Mat} (h:((dE r.redex a m.nodes).2.2 && (aw sig (gq r.redex a m) && aw sig (fK r.redex a m)))=true):gg sig r a m=mq sig r.reactum (gq r.redex a m) (lv r.copies (fK r.redex a m)):=by unfold gg;rw [h];rfl
theorem xA {sig:List Ctl} {a b:Big} (h:(eN sig a b).2=true):(eN sig a b).1=rm a b∧aw sig (rm a b)=true:=by
 unfold eN at h ⊢
 split at h
 ·rename_i hc
  rw [if_pos hc]
  simp only [Bool.and_eq_true] at hc
  exact ⟨rfl,hc.2.2.2⟩
 ·cases h
theorem kP {sig:List Ctl} {r:Rul} {a:Big} {m:Mat} (h:(gg sig r a m).2=true):dN sig (gg sig r a m).1=true:=by
 cases hc:((dE r.redex a m.nodes).2.2 && (aw sig (gq r.redex a m) && aw sig (fK r.redex a m))) with
 | false=>rw [lc hc] at h;cases h
 | true=>
  rw [nX hc] at h ⊢
  unfold mq at h ⊢
  split at h
  ·rename_i h1
   split at h
   ·rename_i h2
    rw [if_pos h1,if_pos h2]
    obtain ⟨e1,e2⟩:=xA h
    rw [e1]
    unfold dN
    rw [e2]
    rfl
   ·cases h
  ·cases h
theorem zL {sig:List Ctl} {r:Rul} {a:Big} (m:Mat) (hr:gx sig r=true) (ha:aw sig a=true) (hm:eQ r.redex a m=true):FnD Tryz.prog 93 [.l 3 (sig.map Ctl.D),r.D,a.D,m.D] (.tp [(gg sig r a m).1.D,.b (gg sig r a m).2]):=by
 obtain ⟨r1,r2,r3,r4,r5,r6,r7,r8⟩:=iO hr
 obtain ⟨m1,m2,m3,m4⟩:=dO hm
 have hd:=aC r1
 have hd2:=aC r2
 have f1:=wF (r:=r.redex) ha m (by omega)
 have hml:=lT (rs:=m.roots) (ns:=m.nodes) m2
 have f2:(dE r.redex a m.nodes).2.2=true→FnD Tryz.prog 142 [r.redex.D,a.D,m.D,DI (dE r.redex a m.nodes).1,DS (dE r.redex a m.nodes).2.1] (.d (gq r.redex a m).D):=fun h=>by
  obtain ⟨p1,p2,p3⟩:=px h
  exact uE m r1 ha (jp m1) (gD r3) m4 (fun p hp=>(lx m2 p hp).2) (by omega) _ _ p3 p1 (by omega)
 have f3:(dE r.redex a m.nodes).2.2=true→FnD Tryz.prog 143 [r.redex.D,a.D,m.D,DI (dE r.redex a m.nodes).1,DS (dE r.redex a m.nodes).2.1] (.d (fK r.redex a m).D):=fun h=>by
  obtain ⟨p1,p2,p3⟩:=px h
  exact AS m r1 ha (nU hm) _ _ p3 p1 (by omega)
 have hx:(dE r.redex a m.nodes).2.2=true→(gq r.redex a m).inner.length≤1000:=fun h=>by
  obtain ⟨p1,p2,p3⟩:=px h
  show (bG _ _).length≤1000
  rw [ka]
  unfold nQ zW
  rw [List.length_mapIdx,List.length_mapIdx];omega
 refine ah Tryz.func93 (fun hw W0=>?_)
 refine kgo ?_
 cases h1:(dE r.redex a m.nodes).2.2
 ·rw [lc (by rw [h1];rfl)]
  refine kgo ?_
  exact em
 have f2:=f2 h1
 have f3:=f3 h1
 have hx:=hx h1
 have f4:=fN sig (gq r.redex a m) (by omega)
 have f5:=fN sig (fK r.redex a m) (by show (0:Nat)≤_;omega)
 have hno:(aw sig (gq r.redex a m) && aw sig (fK r.redex a m))=false→gg sig r a m=(ew,false):=fun h=>lc (by rw [h1,h];rfl)
 have hyes:(aw sig (gq r.redex a m) && aw sig (fK r.redex a m))=true→gg sig r a m=mq sig r.reactum (gq r.redex a m) (lv r.copies (fK r.redex a m)):=fun h=>nX (by rw [h1,h];rfl)
 generalize gq r.redex a m=C at *
 generalize fK r.redex a m=Q at *
 refine kgo ?_
 cases h2:aw sig C
 ·rw [hno (by rw [h2];rfl)]
  refine kgo ?_
  exact em
 refine kgo ?_
 cases h3:aw sig Q
 ·rw [hno (by rw [h2,h3];rfl)]
  refine kgo ?_
  exact em
 rw [hyes (by rw [h2,h3];rfl)]
 have f6:=rX r h3 (by omega)
 have f7:=wu sig r.reactum C (lv r.copies Q) (by omega) (by show (0:Nat)≤_;omega)
 refine kgo ?_
 exact em
structure Trc where
 rules:List Int
 ms:List Mat
abbrev Trc.D (t:Trc):D:=.t [DI t.rules,.l 2 (t.ms.map Mat.D)]
def mG (rs:List Rul) (k:Int):Rul:=rs.getD k.toNat ⟨ew,ew,[]⟩
def zb (sig:List Ctl) (rs:List Rul) (b:Big) (k:Int) (m:Mat):Bool:=inR k 0 (rs.length - 1) && (eQ (mG rs k).redex b m && (ir sig b m.roots && (gg sig (mG rs k) b m).2))
def qy (sig:List Ctl) (rs:List Rul):List (Int × Mat)→Big→Nat→Big × Nat
 | [],b,i=>(b,i)
 | (k,m) :: t,b,i=>if zb sig rs b k m then qy sig rs t (gg sig (mG rs k) b m).1 (i+1) else (b,i)
def kk (sig:List Ctl) (rs:List Rul) (a:Big) (t:Trc):Big × Nat:=qy sig rs (t.rules.zip t.ms) a 0
theorem r9 (rs:List Rul) (q:Nat) (h:q<rs.length):mG rs q=rs[q]:=by unfold mG;simp [h]
theorem oN {sig:List Ctl} {rs:List Rul} {t:Trc} (hl:t.rules.length=t.ms.length) (i:Nat) (h1:i<t.rules.length) (h2:i<t.ms.length) (b:Big):qy sig rs ((t.rules.zip t.ms).drop i) b i=if zb sig rs b t.rules[i] t.ms[i] then qy sig rs ((t.rules.zip t.ms).drop (i+1)) (gg sig (mG rs t.rules[i]) b t.ms[i]).1 (i+1) else (b,i):=by
 rw [List.drop_eq_getElem_cons (by rw [List.length_zip];omega),List.getElem_zip];rfl
theorem rC {sig:List Ctl} {rs:List Rul} {t:Trc} (hl:t.rules.length=t.ms.length) (i:Nat) (h1:t.rules.length≤i) (b:Big):qy sig rs ((t.rules.zip t.ms).drop i) b i=(b,i):=by
 rw [List.drop_eq_nil_of_le (by rw [List.length_zip];omega)];rfl
theorem df {sig:List Ctl} {b:Big} (h:dN sig b=true):aw sig b=true:=(Bool.and_eq_true_iff.1 h).1
theorem BP {sig:List Ctl} {rs:List Rul} {a:Big} (t:Trc) (hr:fU sig rs=true) (ha:dN sig a=true) (hl:t.rules.length=t.ms.length) (hl2:t.rules.length≤1000):FnD Tryz.prog 39 [.l 3 (sig.map Ctl.D),.l 13 (rs.map Rul.D),a.D,t.D] (.tp [(kk sig rs a t).1.D,.i (kk sig rs a t).2]):=by
 have hrs:=List.all_eq_true.1 (Bool.and_eq_true_iff.1 hr).2
 have hrl:=cA (Bool.and_eq_true_iff.1 hr).1
 have f0:=Dg (df ha)
 refine ah Tryz.func39 (fun hw W0=>?_)
 refine kgo ?_
 refine aj [0,1,7,8,10] (fun x:Nat × Big=>x.1≤t.rules.length∧dN sig x.2=true∧kk sig rs a t=qy sig rs ((t.rules.zip t.ms).drop x.1) x.2 x.1) (fun x=>t.rules.length - x.1) (fun x=>[(10010,.tk (.bx (flat x.2.D))),(11,.sy (.d (.i x.1)))]) (0,a) ⟨Nat.zero_le _,ha,rfl⟩ (fun x hx=>?_)
 obtain ⟨i,b⟩:=x
 obtain ⟨hi,hb,hp⟩:=hx
 dsimp only at hi hb hp ⊢
 rw [hp]
 refine kgo ?_
 refine bo (fun h=>?_) (fun h=>?_)
 ·have hlt:i<t.rules.length:=by omega
  have hlt2:i<t.ms.length:=by omega
  rw [oN hl i hlt hlt2]
  have hst:zb sig rs b t.rules[i] t.ms[i]=(inR t.rules[i] 0 (rs.length - 1) && (eQ (mG rs t.rules[i]).redex b t.ms[i] && (ir sig b (t.ms[i]).roots && (gg sig (mG rs t.rules[i]) b t.ms[i]).2))):=rfl
  have f1:=ru t.rules[i] 0 (rs.length - 1)
  refine kgo ?_
  refine cIf (fun h2=>?_) (fun h2=>?_)
  ·rw [Bool.not_eq_true'] at h2
   rw [h2] at hst
   rw [if_neg (by rw [hst];exact Bool.false_ne_true)]
   refine kgo ?_
   exact em
  rw [Bool.not_eq_false'] at h2
  obtain ⟨q,hq,hql⟩:=tI h2
  have hru:=hrs _ (List.getElem_mem hql)
  obtain ⟨r1,r2,r3,r4,r5,r6,r7,r8⟩:=iO hru
  have hrq:mG rs t.rules[i]=rs[q]:=by rw [hq,r9 rs q hql]
  rw [h2,hrq,Bool.true_and] at hst
  rw [hrq]
  have f2:=Ae t.ms[i] r1 (df hb) (gD r3)
  refine kgo ?_
  refine dv (n:=q) (fun _=>?_) rfl rfl (congrArg some hq)
  refine kgo ?_
  cases h3:eQ (rs[q]).redex b t.ms[i]
  ·rw [h3] at hst
   rw [if_neg (by rw [hst];exact Bool.false_ne_true)]
   refine kgo ?_
   exact em
  rw [h3,Bool.true_and] at hst
  have f3:=xu (df hb) t.ms[i] (fun p hp=>(lx (dO h3).2.1 p hp).2)
  refine kgo ?_
  refine cIf (fun h4=>?_) (fun h4=>?_)
  ·rw [Bool.not_eq_true'] at h4
   rw [h4] at hst
   rw [if_neg (by rw [hst];exact Bool.false_ne_true)]
   refine kgo ?_
   exact em
  rw [Bool.not_eq_false'] at h4
  rw [h4,Bool.true_and] at hst
  have f4:=zL t.ms[i] hru (df hb) h3
  have hag:=kP (sig:=sig) (r:=rs[q]) (a:=b) (m:=t.ms[i])
  refine kgo ?_
  refine cIf (fun h5=>?_) (fun h5=>?_)
  ·rw [Bool.not_eq_true'] at h5
   rw [h5] at hst
   rw [if_neg (by rw [hst];exact Bool.false_ne_true)]
   refine kgo ?_
   exact em
  rw [Bool.not_eq_false'] at h5
  rw [h5] at hst
  refine kgo ?_
  exact ab (i+1,(gg sig rs[q] b t.ms[i]).1) ⟨hlt,hag h5,by rw [hst];rfl⟩ (by show _ - (i+1)<_ - i;omega)
 rw [rC hl i (by omega)]
 refine kgo ?_
 rw [show i=t.rules.length by omega]
 exact em
def gh (sig:List Ctl) (rs:List Rul) (a:Big) (t:Trc):Bool:=fU sig rs && (dN sig a && (decide ((t.rules.length:Int)≤20) && decide ((t.ms.length:Int)=t.rules.length)))
theorem wU (sig:List Ctl) (rs:List Rul) (a:Big) (t:Trc) (hr:∀r∈rs,r.redex.inner.length≤1048576∧r.reactum.inner.length≤1048576) (ha:a.inner.length≤1048576):FnD Tryz.prog 37 [.l 3 (sig.map Ctl.D),.l 13 (rs.map Rul.D),a.D,t.D] (.d (.b (gh sig rs a t))):=by
 have f1:=zY sig rs hr
 have f2:=rH sig a ha
 refine ah Tryz.func37 (fun hw W0=>?_)
 unfold gh
 refine kgo ?_
 cases h1:fU sig rs
 ·refine kgo ?_
  exact ar
 refine kgo ?_
 cases h2:dN sig a
 ·refine kgo ?_
  exact ar
 refine kgo ?_
 cases h3:decide ((t.rules.length:Int)≤20)
 ·refine kgo ?_
  exact ar
 refine kgo ?_
 exact ar
def g7 (sig:List Ctl) (rs:List Rul) (a:Big) (t:Trc):Big × Int × Bool:=if gh sig rs a t then ((kk sig rs a t).1,(kk sig rs a t).2,true) else (ew,0,false)
end Go.Proofs.YtacafmejcdgboaaGreatDoor
namespace Go.Proofs.YtacafmejcdgboaaGreatDoor
open Go.RowKit Go.ChangeShapes Go.WideShapes Go.ChangeAt Go.Joins
set_option linter.unusedVariables false
set_option linter.unusedSimpArgs false
set_option maxRecDepth 100000
theorem own:ownKnob Tryz.prog.godebug=none:=by kernel_rfl
theorem nK:laidOutB Tryz.prog=true:=by kernel_rfl
def Ca : List (String × DataW Unit) := [("unicode/utf8.acceptRanges", Rows.laid_unicode_utf8_acceptRanges), ("unicode/utf8.first", Rows.laid_unicode_utf8_first)]
theorem Cy (os:Os) (args:Array Value):laidMetH Tryz.prog Ca ((World.laidAll Tryz.prog os Ca).forCall (fun _ _=>0) ⟨#[],args,[]⟩).memory:=by
 rw [MakeChecks.laidMetH_plain _ _ _ (by kernel_rfl)];exact laidMet_laidAll _ (by kernel_rfl) (by kernel_rfl)
def LD {α:Type} (f:α→D):Lie α:=fun lo hi w cs x=>Rp w (fun b=>b<hi) (f x) cs
theorem nZ {α:Type} {f:α→D} {z hi:Nat} {w:World} {v:Value} {xs:List α} (h:SlV z (LD f) 0 hi w v xs):Rp w (fun b=>b<hi) (.l z (xs.map f)) [v]:=by
 obtain ⟨a,k,h1,h2,h3,h4,h5⟩:=h
 refine ⟨a,k,by rw [h1,List.length_map],by rw [List.length_map];exact h2,h3,h4,?_⟩
 rcases h5 with h5|⟨b,o,e1,_,e2,e3⟩
 ·exact .inl (by rw [h5];rfl)
 ·refine .inr ⟨b,o,e1,e2,(hZ _ _).2 fun j hj=>?_⟩
  obtain ⟨cs,q1,q2,q3⟩:=e3 j (by rw [List.length_map] at hj;exact hj)
  exact ⟨cs,q1,by rw [List.getElem_map];exact q2,q3⟩
section
variable {H:Type} {enc:TypeId × Value→H} {w:World}
theorem fV:Tryz.prog.cellsOf 3=1:=by kernel_rfl
theorem jM:Tryz.prog.cellsOf 9=1:=by kernel_rfl
theorem jB:fG enc Tryz.prog w 3 (LD D.i):=fun fuel cs x h=>by obtain ⟨n,h1,h2⟩:=xS Tryz.underlying3 fuel cs x h;exact ⟨n,h1,h2⟩
theorem tH:fG enc Tryz.prog w 9 (LD D.s):=fun fuel cs x h=>by obtain ⟨n,h1,h2⟩:=rY Tryz.underlying9 fuel cs x h;exact ⟨n,h1,h2⟩
theorem kX:Tryz.prog.cellsOf 73=3:=by kernel_rfl
theorem qo:fG enc Tryz.prog w 73 (LD Ctl.D):=by
 intro fuel cs x h
 obtain ⟨hl,n,hf⟩:=eO Tryz.underlying73 h
 rw [kX] at hl
 obtain ⟨c0,c1,c2,rfl⟩:=Fx hl
 obtain ⟨y0,e0⟩:=hf 0 _ rfl
 replace e0:DataW.trod enc Tryz.prog w 0 (fun _=>true) true n 9 [c0]=some y0:=by simpa [jM] using e0
 obtain ⟨x0,b0⟩:=tH _ _ _ e0
 obtain ⟨y1,e1⟩:=hf 1 _ rfl
 replace e1:DataW.trod enc Tryz.prog w 0 (fun _=>true) true n 3 [c1]=some y1:=by simpa [fV] using e1
 obtain ⟨x1,b1⟩:=jB _ _ _ e1
 obtain ⟨y2,e2⟩:=hf 2 _ rfl
 replace e2:DataW.trod enc Tryz.prog w 0 (fun _=>true) true n 3 [c2]=some y2:=by simpa [fV] using e2
 obtain ⟨x2,b2⟩:=jB _ _ _ e2
 exact ⟨⟨x0,x1,x2⟩,[c0],_,rfl,b0,[c1],_,rfl,b1,[c2],_,rfl,b2,rfl⟩
theorem gz:Tryz.prog.cellsOf 25=1:=by kernel_rfl
theorem gB:∀fuel cs x,DataW.trod enc Tryz.prog w 0 (fun _=>true) true fuel 25 cs=some x→∃v xs,cs = [v]∧Rp w (fun b=>b<w.heap.size) (.l 1 (List.map D.i xs)) [v]:=fun fuel cs x h=>by obtain ⟨v,xs,h1,h2⟩:=eJ Tryz.underlying25 fV (by decide) jB fuel cs x h;exact ⟨v,xs,h1,nZ h2⟩
theorem o9:Tryz.prog.cellsOf 136=3:=by kernel_rfl
theorem w8:fG enc Tryz.prog w 136 (LD Nd.D):=by
 intro fuel cs x h
 obtain ⟨hl,n,hf⟩:=eO Tryz.underlying136 h
 rw [o9] at hl
 obtain ⟨c0,c1,c2,rfl⟩:=Fx hl
 obtain ⟨y0,e0⟩:=hf 0 _ rfl
 replace e0:DataW.trod enc Tryz.prog w 0 (fun _=>true) true n 3 [c0]=some y0:=by simpa [fV] using e0
 obtain ⟨x0,b0⟩:=jB _ _ _ e0
 obtain ⟨y1,e1⟩:=hf 1 _ rfl
 replace e1:DataW.trod enc Tryz.prog w 0 (fun _=>true) true n 3 [c1]=some y1:=by simpa [fV] using e1
 obtain ⟨x1,b1⟩:=jB _ _ _ e1
 obtain ⟨y2,e2⟩:=hf 2 _ rfl
 replace e2:DataW.trod enc Tryz.prog w 0 (fun _=>true) true n 25 [c2]=some y2:=by simpa [gz] using e2
 obtain ⟨v2,x2,h2,b2⟩:=gB _ _ _ e2
 obtain rfl:=(List.cons.inj h2).1
 exact ⟨⟨x0,x1,x2⟩,[c0],_,rfl,b0,[c1],_,rfl,b1,[c2],_,rfl,b2,rfl⟩
theorem oR:Tryz.prog.cellsOf 139=2:=by kernel_rfl
theorem xf:fG enc Tryz.prog w 139 (LD Wr.D):=by
 intro fuel cs x h
 obtain ⟨hl,n,hf⟩:=eO Tryz.underlying139 h
 rw [oR] at hl
 obtain ⟨c0,c1,rfl⟩:=Dv hl
 obtain ⟨y0,e0⟩:=hf 0 _ rfl
 replace e0:DataW.trod enc Tryz.prog w 0 (fun _=>true) true n 9 [c0]=some y0:=by simpa [jM] using e0
 obtain ⟨x0,b0⟩:=tH _ _ _ e0
 obtain ⟨y1,e1⟩:=hf 1 _ rfl
 replace e1:DataW.trod enc Tryz.prog w 0 (fun _=>true) true n 3 [c1]=some y1:=by simpa [fV] using e1
 obtain ⟨x1,b1⟩:=jB _ _ _ e1
 exact ⟨⟨x0,x1⟩,[c0],_,rfl,b0,[c1],_,rfl,b1,rfl⟩
theorem tR:Tryz.prog.cellsOf 24=1:=by kernel_rfl
theorem td:∀fuel cs x,DataW.trod enc Tryz.prog w 0 (fun _=>true) true fuel 24 cs=some x→∃v xs,cs = [v]∧Rp w (fun b=>b<w.heap.size) (.l 3 (List.map Nd.D xs)) [v]:=fun fuel cs x h=>by obtain ⟨v,xs,h1,h2⟩:=eJ Tryz.underlying24 o9 (by decide) w8 fuel cs x h;exact ⟨v,xs,h1,nZ h2⟩
theorem pT:Tryz.prog.cellsOf 26=1:=by kernel_rfl
theorem qq:∀fuel cs x,DataW.trod enc Tryz.prog w 0 (fun _=>true) true fuel 26 cs=some x→∃v xs,cs = [v]∧Rp w (fun b=>b<w.heap.size) (.l 1 (List.map D.s xs)) [v]:=fun fuel cs x h=>by obtain ⟨v,xs,h1,h2⟩:=eJ Tryz.underlying26 jM (by decide) tH fuel cs x h;exact ⟨v,xs,h1,nZ h2⟩
theorem tB:Tryz.prog.cellsOf 27=1:=by kernel_rfl
theorem uh:∀fuel cs x,DataW.trod enc Tryz.prog w 0 (fun _=>true) true fuel 27 cs=some x→∃v xs,cs = [v]∧Rp w (fun b=>b<w.heap.size) (.l 2 (List.map Wr.D xs)) [v]:=fun fuel cs x h=>by obtain ⟨v,xs,h1,h2⟩:=eJ Tryz.underlying27 oR (by decide) xf fuel cs x h;exact ⟨v,xs,h1,nZ h2⟩
theorem jc:Tryz.prog.cellsOf 29=6:=by kernel_rfl
theorem gr:fG enc Tryz.prog w 29 (LD Big.D):=by
 intro fuel cs x h
 obtain ⟨hl,n,hf⟩:=eO Tryz.underlying29 h
 rw [jc] at hl
 obtain ⟨c0,c1,c2,c3,c4,c5,rfl⟩:=Gn hl
 obtain ⟨y0,e0⟩:=hf 0 _ rfl
 replace e0:DataW.trod enc Tryz.prog w 0 (fun _=>true) true n 3 [c0]=some y0:=by simpa [fV] using e0
 obtain ⟨x0,b0⟩:=jB _ _ _ e0
 obtain ⟨y1,e1⟩:=hf 1 _ rfl
 replace e1:DataW.trod enc Tryz.prog w 0 (fun _=>true) true n 24 [c1]=some y1:=by simpa [tR] using e1
 obtain ⟨v1,x1,h1,b1⟩:=td _ _ _ e1
 obtain rfl:=(List.cons.inj h1).1
 obtain ⟨y2,e2⟩:=hf 2 _ rfl
 replace e2:DataW.trod enc Tryz.prog w 0 (fun _=>true) true n 25 [c2]=some y2:=by simpa [gz] using e2
 obtain ⟨v2,x2,h2,b2⟩:=gB _ _ _ e2
 obtain rfl:=(List.cons.inj h2).1
 obtain ⟨y3,e3⟩:=hf 3 _ rfl
 replace e3:DataW.trod enc Tryz.prog w 0 (fun _=>true) true n 3 [c3]=some y3:=by simpa [fV] using e3
 obtain ⟨x3,b3⟩:=jB _ _ _ e3
 obtain ⟨y4,e4⟩:=hf 4 _ rfl
 replace e4:DataW.trod enc Tryz.prog w 0 (fun _=>true) true n 26 [c4]=some y4:=by simpa [pT] using e4
 obtain ⟨v4,x4,h4,b4⟩:=qq _ _ _ e4
 obtain rfl:=(List.cons.inj h4).1
 obtain ⟨y5,e5⟩:=hf 5 _ rfl
 replace e5:DataW.trod enc Tryz.prog w 0 (fun _=>true) true n 27 [c5]=some y5:=by simpa [tB] using e5
 obtain ⟨v5,x5,h5,b5⟩:=uh _ _ _ e5
 obtain rfl:=(List.cons.inj h5).1
 exact ⟨⟨x0,x1,x2,x3,x4,x5⟩,[c0],_,rfl,b0,[c1],_,rfl,b1,[c2],_,rfl,b2,[c3],_,rfl,b3,[c4],_,rfl,b4,[c5],_,rfl,b5,rfl⟩
theorem o6:Tryz.prog.cellsOf 76=13:=by kernel_rfl
theorem wY:fG enc Tryz.prog w 76 (LD Rul.D):=by
 intro fuel cs x h
 obtain ⟨hl,n,hf⟩:=eO Tryz.underlying76 h
 rw [o6] at hl
 obtain ⟨c0,c1,c2,c3,c4,c5,c6,c7,c8,c9,c10,c11,c12,rfl⟩:=E6 hl
 obtain ⟨y0,e0⟩:=hf 0 _ rfl
 replace e0:DataW.trod enc Tryz.prog w 0 (fun _=>true) true n 29 [c0,c1,c2,c3,c4,c5]=some y0:=by simpa [jc] using e0
 obtain ⟨x0,b0⟩:=gr _ _ _ e0
 obtain ⟨y1,e1⟩:=hf 1 _ rfl
 replace e1:DataW.trod enc Tryz.prog w 0 (fun _=>true) true n 29 [c6,c7,c8,c9,c10,c11]=some y1:=by simpa [jc] using e1
 obtain ⟨x1,b1⟩:=gr _ _ _ e1
 obtain ⟨y2,e2⟩:=hf 2 _ rfl
 replace e2:DataW.trod enc Tryz.prog w 0 (fun _=>true) true n 25 [c12]=some y2:=by simpa [gz] using e2
 obtain ⟨v2,x2,h2,b2⟩:=gB _ _ _ e2
 obtain rfl:=(List.cons.inj h2).1
 exact ⟨⟨x0,x1,x2⟩,[c0,c1,c2,c3,c4,c5],_,rfl,b0,[c6,c7,c8,c9,c10,c11],_,rfl,b1,[c12],_,rfl,b2,rfl⟩
theorem nn:Tryz.prog.cellsOf 141=2:=by kernel_rfl
theorem tE:fG enc Tryz.prog w 141 (LD Mat.D):=by
 intro fuel cs x h
 obtain ⟨hl,n,hf⟩:=eO Tryz.underlying141 h
 rw [nn] at hl
 obtain ⟨c0,c1,rfl⟩:=Dv hl
 obtain ⟨y0,e0⟩:=hf 0 _ rfl
 replace e0:DataW.trod enc Tryz.prog w 0 (fun _=>true) true n 25 [c0]=some y0:=by simpa [gz] using e0
 obtain ⟨v0,x0,h0,b0⟩:=gB _ _ _ e0
 obtain rfl:=(List.cons.inj h0).1
 obtain ⟨y1,e1⟩:=hf 1 _ rfl
 replace e1:DataW.trod enc Tryz.prog w 0 (fun _=>true) true n 25 [c1]=some y1:=by simpa [gz] using e1
 obtain ⟨v1,x1,h1,b1⟩:=gB _ _ _ e1
 obtain rfl:=(List.cons.inj h1).1
 exact ⟨⟨x0,x1⟩,[c0],_,rfl,b0,[c1],_,rfl,b1,rfl⟩
theorem qR:Tryz.prog.cellsOf 30=1:=by kernel_rfl
theorem sF:∀fuel cs x,DataW.trod enc Tryz.prog w 0 (fun _=>true) true fuel 30 cs=some x→∃v xs,cs = [v]∧Rp w (fun b=>b<w.heap.size) (.l 2 (List.map Mat.D xs)) [v]:=fun fuel cs x h=>by obtain ⟨v,xs,h1,h2⟩:=eJ Tryz.underlying30 nn (by decide) tE fuel cs x h;exact ⟨v,xs,h1,nZ h2⟩
theorem sU:Tryz.prog.cellsOf 32=2:=by kernel_rfl
theorem tv:fG enc Tryz.prog w 32 (LD Trc.D):=by
 intro fuel cs x h
 obtain ⟨hl,n,hf⟩:=eO Tryz.underlying32 h
 rw [sU] at hl
 obtain ⟨c0,c1,rfl⟩:=Dv hl
 obtain ⟨y0,e0⟩:=hf 0 _ rfl
 replace e0:DataW.trod enc Tryz.prog w 0 (fun _=>true) true n 25 [c0]=some y0:=by simpa [gz] using e0
 obtain ⟨v0,x0,h0,b0⟩:=gB _ _ _ e0
 obtain rfl:=(List.cons.inj h0).1
 obtain ⟨y1,e1⟩:=hf 1 _ rfl
 replace e1:DataW.trod enc Tryz.prog w 0 (fun _=>true) true n 30 [c1]=some y1:=by simpa [qR] using e1
 obtain ⟨v1,x1,h1,b1⟩:=sF _ _ _ e1
 obtain rfl:=(List.cons.inj h1).1
 exact ⟨⟨x0,x1⟩,[c0],_,rfl,b0,[c1],_,rfl,b1,rfl⟩
theorem oG:∀fuel cs x,DataW.trod enc Tryz.prog w 0 (fun _=>true) true fuel 22 cs=some x→∃v xs,cs = [v]∧Rp w (fun b=>b<w.heap.size) (.l 3 (List.map Ctl.D xs)) [v]:=fun fuel cs x h=>by obtain ⟨v,xs,h1,h2⟩:=eJ Tryz.underlying22 kX (by decide) qo fuel cs x h;exact ⟨v,xs,h1,nZ h2⟩
theorem tq:∀fuel cs x,DataW.trod enc Tryz.prog w 0 (fun _=>true) true fuel 23 cs=some x→∃v xs,cs = [v]∧Rp w (fun b=>b<w.heap.size) (.l 13 (List.map Rul.D xs)) [v]:=fun fuel cs x h=>by obtain ⟨v,xs,h1,h2⟩:=eJ Tryz.underlying23 o6 (by decide) wY fuel cs x h;exact ⟨v,xs,h1,nZ h2⟩
theorem Al {t:TypeId} {fs:Array Field} {α:Type} {f:α→D} {b0:Nat} {r:Reach} {v:Value} {d:DataW H} {p:List MemPlace} (hs:Tryz.prog.underlying t=some (.struct fs)) (ho:fG enc Tryz.prog w t (LD f))
 (hv:Value.okWide Tryz.prog w r b0 t v) (h:DataW.Trod enc Tryz.prog w 0 (fun _=>true) true t v d p):∃(cs:List Value) (x:α),v=.agg cs.toArray∧Rp w (fun b=>b<w.heap.size) (f x) cs:=by
 obtain ⟨cs,rfl,_⟩:=okWide_struct hs hv
 obtain ⟨fuel,hf⟩:=h
 obtain ⟨x,hx⟩:=ho _ _ _ hf
 exact ⟨cs.toList,x,by simp,by simpa [Value.cells,LD] using hx⟩
theorem Ap {t e:TypeId} {α:Type} {f:α→D} {z b0:Nat} {r:Reach} {v:Value} {d:DataW H} {p:List MemPlace} (hs:Tryz.prog.underlying t=some (.slice e))
 (ho:∀fuel cs x,DataW.trod enc Tryz.prog w 0 (fun _=>true) true fuel t cs=some x→∃v xs,cs = [v]∧Rp w (fun b=>b<w.heap.size) (.l z (List.map f xs)) [v])
 (hv:Value.okWide Tryz.prog w r b0 t v) (h:DataW.Trod enc Tryz.prog w 0 (fun _=>true) true t v d p):∃(u:Value) (xs:List α),v=u∧Rp w (fun b=>b<w.heap.size) (.l z (List.map f xs)) [u]:=by
 obtain ⟨a,n,k,rfl⟩:=okWide_slice hs hv
 obtain ⟨fuel,hf⟩:=h
 obtain ⟨u,xs,e,hx⟩:=ho _ _ _ hf
 simp [Value.cells] at e
 exact ⟨u,xs,e,hx⟩
end
theorem Fr {f:FuncId} {ds:List D} (h:FnD Tryz.prog f ds (.d (.b true))) {vs:List Value} {w:World} (hv:DVs w (fun b=>b<w.heap.size) ds vs):Calls Tryz.prog f vs.toArray w fun e w'=>e=.returned (.bool true)∧Ext w w':=
 (h.calls _ w vs hv (fun _ h=>h)).mono fun e w' ⟨v,h1,h2,h3⟩=>⟨by rw [h1,show v=.bool true from (List.cons.inj (show [v] = [Value.bool true] from h3)).1],h2⟩
end Go.Proofs.YtacafmejcdgboaaGreatDoor
namespace Go.Proofs.YtacafmejcdgboaaGreatDoor
open Go.RowKit
set_option linter.unusedVariables false
set_option maxRecDepth 100000
set_option maxHeartbeats 4000000
attribute [local irreducible] aD Der At
theorem qv (n lo hi:Int):FnD Tryz.prog 100 [.i n,.i lo,.i hi] (.d (.b (inR n lo hi))):=by
 refine ah Tryz.func100 (fun hw W0=>?_)
 refine kgo ?_
 cases h:decide (lo≤n)
 ·refine kgo ?_
  rw [show inR n lo hi=false from by unfold inR;rw [h];rfl]
  exact ar
 ·refine kgo ?_
  rw [show inR n lo hi=decide (n≤hi) from by unfold inR;rw [h];rfl]
  exact ar
theorem Bz (b:Big) (n:Int) (hl:b.nodes.length≤1000):FnD Tryz.prog 154 [b.D,.i n] (.d (.b (inR n 0 (b.nodes.length - 1)))):=by
 refine ah Tryz.func154 (fun hw W0=>?_)
 have f1:=qv n 0 (b.nodes.length - 1)
 refine kgo ?_
 exact ar
def oB {α:Type} (p:α→Bool) (l:List α):Int:=if l.any p then (l.findIdx p:Int) else -1
theorem t8 {α:Type} {p:α→Bool} {l:List α} {i:Nat} (h:i<l.length) (he:p l[i]=true) (hn:(l.take i).any p=false):oB p l=i:=by
 unfold oB
 rw [if_pos (List.any_eq_true.2 ⟨_,List.getElem_mem h,he⟩)]
 have:l.findIdx p=i:=(List.findIdx_eq h).2 ⟨he,fun j hj=>by
  have:=List.any_eq_false.1 hn (l[j]) (List.mem_iff_getElem.2 ⟨j,by rw [List.length_take];omega,by rw [List.getElem_take]⟩)
  simpa using this⟩
 rw [this]
theorem pE {α:Type} {p:α→Bool} {l:List α} (hn:l.any p=false):oB p l = -1:=by unfold oB;rw [hn];rfl
theorem qe {α:Type} (p:α→Bool) (l:List α):decide (0≤oB p l)=l.any p:=by
 unfold oB
 cases h:l.any p
 ·rfl
 ·simp
theorem gy {α:Type} (p:α→Bool) (l:List α) : -1≤oB p l∧oB p l<l.length:=by
 unfold oB
 split
 ·rename_i h
  have:=List.findIdx_lt_length_of_exists (List.any_eq_true.1 h)
  omega
 ·omega
theorem qk {α:Type} {p:α→Bool} {l:List α} {i:Nat} (h:i<l.length) (hi:(l.take i).any p=false) (hp:p l[i]=false):(l.take (i+1)).any p=false:=by
 rw [List.take_succ_eq_append_getElem h,List.any_append,hi,List.any_cons,hp];rfl
theorem uo {α:Type} {p:α→Bool} {l:List α} {i:Nat} (h:l.length≤i) (hi:(l.take i).any p=false):l.any p=false:=by rwa [List.take_of_length_le h] at hi
theorem g8 (l:List Int) (n:Int):FnD Tryz.prog 221 [DI l,.i n] (.d (.i (oB (fun x=>x == n) l))):=by
 refine ah Tryz.func221 (fun hw W0=>?_)
 have hl:=(wfM hw.1).1
 refine kgo ?_
 refine aj [0,1,7] (fun i:Nat=>i≤l.length∧(l.take i).any (fun x=>x == n)=false) (fun i=>l.length - i) (fun i=>[(8,.sy (.d (.i i)))]) 0 ⟨Nat.zero_le _,rfl⟩ (fun i hi=>?_)
 refine kgo ?_
 refine bo (fun h=>?_) (fun h=>?_)
 ·have hlt:i<l.length:=by omega
  refine kgo ?_
  refine bo (fun h2=>?_) (fun h2=>?_)
  ·refine kgo ?_
   rw [t8 hlt (by rw [← h2];exact beq_self_eq_true _) hi.2]
   exact ar
  ·refine kgo ?_
   exact ab (i+1) ⟨hlt,qk hlt hi.2 (by rw [beq_eq_false_iff_ne];exact fun e=>h2 e.symm)⟩ (by omega)
 refine kgo ?_
 rw [pE (uo (by omega) hi.2)]
 exact ar
theorem dU (l:List Int) (n:Int):FnD Tryz.prog 155 [DI l,.i n] (.d (.b (eq l n))):=by
 refine ah Tryz.func155 (fun hw W0=>?_)
 have f1:=g8 l n
 have hr:=gy (fun x=>x == n) l
 have hp:=qe (fun x=>x == n) l
 refine kgo ?_
 rw [show eq l n=l.any (fun x=>x == n) from rfl,← hp]
 exact ar
theorem rv (l:List Int) (g:Nat) (cs:List D) (p:Int→Bool) (hct:(cs.all fun r=>!isT r)=true) (hp:∀x∈l,FnD Tryz.prog g ([.i x]++cs) (.d (.b (p x)))):FnD Tryz.prog 222 [DI l,.f g cs] (.d (.i (oB p l))):=by
 refine ah Tryz.func222 (fun hw W0=>?_)
 have hl:=(wfM hw.1).1
 refine kgo ?_
 refine aj [0,1,7] (fun i:Nat=>i≤l.length∧(l.take i).any p=false) (fun i=>l.length - i) (fun i=>[(8,.sy (.d (.i i)))]) 0 ⟨Nat.zero_le _,rfl⟩ (fun i hi=>?_)
 refine kgo ?_
 refine bo (fun h=>?_) (fun h=>?_)
 ·have hlt:i<l.length:=by omega
  have f1:=hp _ (List.getElem_mem hlt)
  refine kgo ?_
  refine cIf (fun h2=>?_) (fun h2=>?_)
  ·refine kgo ?_
   rw [t8 hlt h2 hi.2]
   exact ar
  ·refine kgo ?_
   exact ab (i+1) ⟨hlt,qk hlt hi.2 h2⟩ (by omega)
 refine kgo ?_
 rw [pE (uo (by omega) hi.2)]
 exact ar
theorem gO (l:List Int) (g:Nat) (cs:List D) (p:Int→Bool) (hct:(cs.all fun r=>!isT r)=true) (hp:∀x∈l,FnD Tryz.prog g ([.i x]++cs) (.d (.b (p x)))):FnD Tryz.prog 156 [DI l,.f g cs] (.d (.b (l.any p))):=by
 refine ah Tryz.func156 (fun hw W0=>?_)
 have f1:=rv l g cs p hct hp
 have hr:=gy p l
 have hq:=qe p l
 refine kgo ?_
 rw [← hq]
 exact ar
theorem kW {sig:List Ctl} {a:Big} (hB:aw sig a=true) (ns:List Int) (p0:Int) (hp:p0<a.nodes.length):FnD Tryz.prog 158 [a.D,.i p0,DI ns] (.d (.b (gX a ns p0))):=by
 refine ah Tryz.func158 (fun hw W0=>?_)
 refine kgo ?_
 refine aj [2,3] (fun p:Int=>p<a.nodes.length∧gX a ns p0=gX a ns p) (fun p=>(p+1).toNat) (fun p=>[(1,.sy (.d (.i p)))]) p0 ⟨hp,rfl⟩ (fun p hi=>?_)
 refine kgo ?_
 refine bo (fun h=>?_) (fun h=>?_)
 ·obtain ⟨k,rfl⟩:=Int.eq_ofNat_of_zero_le h
  have hk:k<a.nodes.length:=by omega
  have hs:gX a ns k=(eq ns k || gX a ns (a.nodes[k]).parent):=eK hB _ k hk
  have hu:=gN hB k hk
  have f1:=dU ns k
  refine kgo ?_
  refine cIf (fun h2=>?_) (fun h2=>?_)
  ·refine kgo ?_
   rw [hi.2,hs,h2]
   exact ar
  ·refine kgo ?_
   exact ab (a.nodes[k]).parent ⟨by omega,by rw [hi.2,hs,h2];rfl⟩ (by omega)
 refine kgo ?_
 rw [hi.2,show gX a ns p=false from dX _ _ (by omega)]
 exact ar
theorem mC (b:Big) (p:Int) (hn:b.nodes.length≤1000) (hs:b.sites.length≤1000):FnD Tryz.prog 191 [b.D,.i p] (.tp [DI (eI b p),DI (bq b p)]):=by
 refine ah Tryz.func191 (fun hw W0=>?_)
 refine kgo ?_
 refine aj [1,2,7,15,16] (fun i:Nat=>i≤b.nodes.length) (fun i=>b.nodes.length - i) (fun i=>[(6,.sy (.k 20001)),(20001,.tk (.row 1 3 ((idxOf (oA b p) i).map .i))),(17,.sy (.d (.i i)))]) 0 (Nat.zero_le _) (fun i hi=>?_)
 refine kgo ?_
 refine bo (fun h=>?_) (fun h=>?_)
 ·have hlt:i<b.nodes.length:=by omega
  have hf:oA b p i=decide ((b.nodes[i]).parent=p):=by unfold oA;rw [List.getElem?_eq_getElem hlt]
  have hl:=dF (oA b p) i
  refine kgo ?_
  refine bo (fun h2=>?_) (fun h2=>?_)
  ·have hs:(idxOf (oA b p) (i+1)).map D.i=(idxOf (oA b p) i).map D.i++[.i i]:=by rw [cP (hf.trans (decide_eq_true h2)),List.map_append];rfl
   refine kgo ?_
   exact ab (i+1) (by omega) (by omega)
  ·have hs:(idxOf (oA b p) (i+1)).map D.i=(idxOf (oA b p) i).map D.i:=by rw [dK (hf.trans (decide_eq_false h2))]
   refine kgo ?_
   exact ab (i+1) (by omega) (by omega)
 rw [show eI b p=idxOf (oA b p) i from by rw [show i=b.nodes.length by omega];rfl]
 generalize idxOf (oA b p) i=ks
 refine kgo ?_
 refine aj [1,6,32,33] (fun i:Nat=>i≤b.sites.length) (fun i=>b.sites.length - i) (fun i=>[(7,.sy (.k 20002)),(20002,.tk (.row 1 3 ((idxOf (gY b p) i).map .i))),(34,.sy (.d (.i i)))]) 0 (Nat.zero_le _) (fun i hi=>?_)
 refine kgo ?_
 refine bo (fun h=>?_) (fun h=>?_)
 ·have hlt:i<b.sites.length:=by omega
  have hf:gY b p i=decide (b.sites[i]=p):=by unfold gY;rw [List.getElem?_eq_getElem hlt]
  have hl:=dF (gY b p) i
  refine kgo ?_
  refine bo (fun h2=>?_) (fun h2=>?_)
  ·have hs:(idxOf (gY b p) (i+1)).map D.i=(idxOf (gY b p) i).map D.i++[.i i]:=by rw [cP (hf.trans (decide_eq_true h2)),List.map_append];rfl
   refine kgo ?_
   exact ab (i+1) (by omega) (by omega)
  ·have hs:(idxOf (gY b p) (i+1)).map D.i=(idxOf (gY b p) i).map D.i:=by rw [dK (hf.trans (decide_eq_false h2))]
   refine kgo ?_
   exact ab (i+1) (by omega) (by omega)
 rw [show bq b p=idxOf (gY b p) i from by rw [show i=b.sites.length by omega];rfl]
 repeat (first|(refine bZ ?_;first|refine aO ?_|refine b9 ?_|refine bf ?_|refine aX ?_|refine aQ ?_|refine aW ?_|refine aV ?_|refine aA ?_|refine bc ?_)|(refine fb ?_;first|refine bO ?_|refine fg ?_|refine bU ?_|refine cd ?_)|(refine fp ?_;first|refine dv (fun _=>?_)|refine ci ?_|refine cr ?_|refine bE ?_|refine bR ?_|refine bX ?_)|(refine ft ?_;first|refine b8 ?_|refine eG ?_|refine ca ?_|refine bI ?_|refine cb ?_|refine b7 ?_)|(refine fx ?_;first|refine fq ?_|refine eZ ?_|refine cm ?_|refine bQ ?_|refine fu ?_|refine aR ?_|refine bd ?_)|(refine bS ?_;first|refine bh ?_|refine bW ?_)|(refine fc ?_;first|refine fA (d:=4) ?_|refine fA (d:=5) ?_|refine cf ?_|refine ck ?_|refine fj ?_)|(refine bY ?_;first|refine cg ?_|refine be ?_|refine aZ ?_|refine bj ?_|refine aP ?_|refine aY ?_)|(refine fm ?_;first|refine co ?_|refine eX ?_|refine aU ?_|refine bg ?_)|(refine aS ?_;first|refine av _ ?_|refine ba ?_|refine aB ?_|refine ax ?_|refine az ?_)|(refine ff ?_;first|refine cq ?_|refine bJ ?_|refine cj ?_)|(refine gOp ?_;first|refine fd ?_|refine fa ?_|refine aT ?_|refine fl ?_|refine fh ?_|refine b6 ?_|refine aN ?_|refine bT ?_|refine fw ?_|refine bK ?_|refine ct ?_|refine bk ?_|refine ay ?_|refine ch ?_|refine sNo ?_|refine eS ?_)|refine eA ?_|refine eR ?_|refine fe ?_|refine bl ?_|refine bM ?_|refine bz ?_|refine fC ?_|refine fB ?_|refine fo ?_|refine eH ?_|refine bV ?_|refine bp ?_|refine au ?_|refine bm ?_|refine cw ?_|refine bA ?_|refine aBlkX ?_|refine cy ?_)
 exact em
theorem lN (b:Big) (l:Int) (hn:b.nodes.length≤1000) (hl:∀i (h:i<b.nodes.length),(b.nodes[i]).links.length≤1000) (hin:b.inner.length≤1000):FnD Tryz.prog 225 [b.D,.i l] (.tp [.l 2 ((aE b l).map lH),DS (iP b l)]):=by
 refine ah Tryz.func225 (fun hw W0=>?_)
 refine kgo ?_
 refine aj [1,2,7,17,18] (fun i:Nat=>i≤b.nodes.length) (fun i=>b.nodes.length - i) (fun i=>[(6,.sy (.k 20001)),(20001,.tk (.row 2 261 ((aM b l i 0).map lH))),(19,.sy (.d (.i i)))]) 0 (Nat.zero_le _) (fun i hi=>?_)
 refine kgo ?_
 refine bo (fun h=>?_) (fun h=>?_)
 ·have hlt:i<b.nodes.length:=by omega
  have hll:=hl i hlt
  refine kgo ?_
  refine aj [1,2,7,8,17,18,19,25,26] (fun j:Nat=>j≤(b.nodes[i]).links.length) (fun j=>(b.nodes[i]).links.length - j) (fun j=>[(6,.sy (.k 20001)),(20001,.tk (.row 2 261 ((aM b l i j).map lH))),(27,.sy (.d (.i j)))]) 0 (Nat.zero_le _) (fun j hj=>?_)
  refine kgo ?_
  refine bo (fun h2=>?_) (fun h2=>?_)
  ·have hjl:j<(b.nodes[i]).links.length:=by omega
   have hpl:(aM b l i j).length≤1000000:=by
    obtain ⟨t,ht⟩:=ja b l i j hlt hj
    have:=d8 b l hn hl
    rw [ht,List.length_append] at this;omega
   refine kgo ?_
   refine bo (fun h3=>?_) (fun h3=>?_)
   ·have hpl:(aM b l i j).length+1≤1000000:=by
     obtain ⟨t,ht⟩:=ja b l i (j+1) hlt hjl
     have:=d8 b l hn hl
     rw [ht,List.length_append,jb b l i j hlt hjl h3,List.length_append] at this
     simp only [List.length_cons,List.length_nil] at this;omega
    have hs:(aM b l i (j+1)).map lH=(aM b l i j).map lH++[lH ((i:Int),(j:Int))]:=by rw [jb b l i j hlt hjl h3,List.map_append];rfl
    refine kgo ?_
    exact ab (j+1) hjl (by omega)
   ·have hs:(aM b l i (j+1)).map lH=(aM b l i j).map lH:=by rw [o8 b l i j hlt hjl h3]
    refine kgo ?_
    exact ab (j+1) hjl (by omega)
  have hs:(aM b l (i+1) 0).map lH=(aM b l i j).map lH:=by rw [jI b l i hlt,show j=(b.nodes[i]).links.length by omega]
  refine kgo ?_
  exact ab (i+1) hlt (by omega)
 rw [show aE b l=aM b l i 0 from by rw [show i=b.nodes.length by omega,iU]]
 generalize aM b l i 0=ps
 refine kgo ?_
 refine aj [1,6,44,45] (fun i:Nat=>i≤b.inner.length) (fun i=>b.inner.length - i) (fun i=>[(7,.sy (.k 20002)),(20002,.tk (.row 1 9 ((dJ b l i).map .s))),(46,.sy (.d (.i i)))]) 0 (Nat.zero_le _) (fun i hi=>?_)
 refine kgo ?_
 refine bo (fun h=>?_) (fun h=>?_)
 ·have hlt:i<b.inner.length:=by omega
  have hq:=gA b l i
  refine kgo ?_
  refine bo (fun h2=>?_) (fun h2=>?_)
  ·have hs:(dJ b l (i+1)).map D.s=(dJ b l i).map D.s++[.s (b.inner[i]).name]:=by rw [lP hlt h2,List.map_append];rfl
   refine kgo ?_
   exact ab (i+1) hlt (by omega)
  ·have hs:(dJ b l (i+1)).map D.s=(dJ b l i).map D.s:=by rw [nJ hlt h2]
   refine kgo ?_
   exact ab (i+1) hlt (by omega)
 rw [show iP b l=dJ b l i from by rw [show i=b.inner.length by omega];rfl]
 repeat (first|(refine bZ ?_;first|refine aO ?_|refine b9 ?_|refine bf ?_|refine aX ?_|refine aQ ?_|refine aW ?_|refine aV ?_|refine aA ?_|refine bc ?_)|(refine fb ?_;first|refine bO ?_|refine fg ?_|refine bU ?_|refine cd ?_)|(refine fp ?_;first|refine dv (fun _=>?_)|refine ci ?_|refine cr ?_|refine bE ?_|refine bR ?_|refine bX ?_)|(refine ft ?_;first|refine b8 ?_|refine eG ?_|refine ca ?_|refine bI ?_|refine cb ?_|refine b7 ?_)|(refine fx ?_;first|refine fq ?_|refine eZ ?_|refine cm ?_|refine bQ ?_|refine fu ?_|refine aR ?_|refine bd ?_)|(refine bS ?_;first|refine bh ?_|refine bW ?_)|(refine fc ?_;first|refine fA (d:=4) ?_|refine fA (d:=5) ?_|refine cf ?_|refine ck ?_|refine fj ?_)|(refine bY ?_;first|refine cg ?_|refine be ?_|refine aZ ?_|refine bj ?_|refine aP ?_|refine aY ?_)|(refine fm ?_;first|refine co ?_|refine eX ?_|refine aU ?_|refine bg ?_)|(refine aS ?_;first|refine av _ ?_|refine ba ?_|refine aB ?_|refine ax ?_|refine az ?_)|(refine ff ?_;first|refine cq ?_|refine bJ ?_|refine cj ?_)|(refine gOp ?_;first|refine fd ?_|refine fa ?_|refine aT ?_|refine fl ?_|refine fh ?_|refine b6 ?_|refine aN ?_|refine bT ?_|refine fw ?_|refine bK ?_|refine ct ?_|refine bk ?_|refine ay ?_|refine ch ?_|refine sNo ?_|refine eS ?_)|refine eA ?_|refine eR ?_|refine fe ?_|refine bl ?_|refine bM ?_|refine bz ?_|refine fC ?_|refine fB ?_|refine fo ?_|refine eH ?_|refine bV ?_|refine bp ?_|refine au ?_|refine bm ?_|refine cw ?_|refine bA ?_|refine aBlkX ?_|refine cy ?_)
 exact em
end Go.Proofs.YtacafmejcdgboaaGreatDoor
namespace Go.Proofs.YtacafmejcdgboaaGreatDoor
open Go.RowKit
set_option linter.unusedVariables false
set_option maxRecDepth 100000
set_option maxHeartbeats 4000000
attribute [local irreducible] aD Der At
theorem sK (m:Mat) (x:Int):FnD Tryz.prog 223 [.i x,.p m.D] (.d (.b (!eq m.nodes x))):=by
 refine ah Tryz.func223 (fun hw W0=>?_)
 have f1:=dU m.nodes x
 refine kgo ?_
 exact ar
theorem w6 (r a:Big) (m:Mat) (i:Nat) (h:i<m.nodes.length) (hr:i<r.nodes.length) (k:Nat) (hk:m.nodes[i]=(k:Int)) (hka:k<a.nodes.length):fZ r a m i=(decide ((a.nodes[k]).control=(r.nodes[i]).control) && (decide ((a.nodes[k]).parent=if 0≤(r.nodes[i]).parent then atI m.nodes (r.nodes[i]).parent else atI m.roots (-1 - (r.nodes[i]).parent)) && (!(decide ((bq r i).length=0)) || (eI a m.nodes[i]).all (eq m.nodes)))):=by
 unfold fZ sZ kO
 rw [vS r a m i h hr k hk hka,br _ i h,hk,al a k hka,al r i hr]
theorem sX {sig:List Ctl} {r a:Big} (m:Mat) (hbr:aw sig r=true) (dr:qK r) (da:qK a) (hid:(List.range m.nodes.length).all (tj a m.nodes)=true) (hlen:m.nodes.length=r.nodes.length) (hrs:(m.roots.length:Int)=r.roots):FnD Tryz.prog 159 [r.D,a.D,m.D] (.d (.b ((List.range m.nodes.length).all (fZ r a m)))):=by
 have hdr:=aC hbr
 refine ah Tryz.func159 (fun hw W0=>?_)
 refine kgo ?_
 refine Dc 5 m.D ?_
 refine aj [3,4,5,16,17] (fun i:Nat=>i≤m.nodes.length∧(List.range i).all (fZ r a m)=true) (fun i=>m.nodes.length - i) (fun i=>[(18,.sy (.d (.i i)))]) 0 ⟨Nat.zero_le _,rfl⟩ (fun i hi=>?_)
 refine kgo ?_
 refine bo (fun h2=>?_) (fun h2=>?_)
 ·have hlr:i<r.nodes.length:=by omega
  have hlt:i<m.nodes.length:=by omega
  obtain ⟨k,hka,hk0⟩:=FK hid i hlt
  rw [br _ i hlt] at hk0
  have hok:=w6 r a m i hlt hlr k hk0 hka
  have hup:=gN hbr i hlr
  have f1:=mC r i dr.3 dr.4
  have f2:=mC a m.nodes[i] da.3 da.4
  have f3:=gO (eI a m.nodes[i]) 223 [.p m.D] (fun x=>!eq m.nodes x) rfl (fun x _=>sK m x)
  have hk1:=kV r i
  have hk2:=pF a m.nodes[i]
  have hrn:=dr.4
  have bad:fZ r a m i=false→(List.range m.nodes.length).all (fZ r a m)=false:=fun h=>aK _ _ i hlt h
  have good:fZ r a m i=true→(List.range (i+1)).all (fZ r a m)=true:=fun h=>by rw [cJ,hi.2,h];rfl
  refine kgo ?_
  refine dv (n:=k) (fun _=>?_) rfl rfl (congrArg some hk0)
  refine kgo ?_
  refine bo (fun h3=>?_) (fun h3=>?_)
  ·rw [if_pos h3] at hok
   have hx:(r.nodes[i]).parent<m.nodes.length:=by omega
   refine kgo ?_
   cases h4:decide ((a.nodes[k]).control=(r.nodes[i]).control)
   ·rw [h4] at hok
    refine kgo ?_
    rw [bad hok]
    exact ar
   rw [h4,Bool.true_and] at hok
   refine kgo ?_
   refine kR (fun h5=>?_) (fun h5=>?_)
   ·rw [decide_eq_false h5] at hok
    refine kgo ?_
    rw [bad hok]
    exact ar
   rw [decide_eq_true h5,Bool.true_and] at hok
   refine kgo ?_
   refine bo (fun h6=>?_) (fun h6=>?_)
   ·rw [decide_eq_false (by omega)] at hok
    refine kgo ?_
    exact ab (i+1) ⟨hlt,good hok⟩ (by omega)
   rw [decide_eq_true (by omega),Bool.not_true,Bool.false_or] at hok
   refine kgo ?_
   refine cIf (fun h7=>?_) (fun h7=>?_)
   ·rw [iv,Bool.not_eq_true'] at h7
    rw [h7] at hok
    refine kgo ?_
    rw [bad hok]
    exact ar
   ·rw [iv,Bool.not_eq_false'] at h7
    rw [h7] at hok
    refine kgo ?_
    exact ab (i+1) ⟨hlt,good hok⟩ (by omega)
  ·rw [if_neg h3] at hok
   have hx : -1 - (r.nodes[i]).parent<m.roots.length:=by omega
   refine kgo ?_
   cases h4:decide ((a.nodes[k]).control=(r.nodes[i]).control)
   ·rw [h4] at hok
    refine kgo ?_
    rw [bad hok]
    exact ar
   rw [h4,Bool.true_and] at hok
   refine kgo ?_
   refine kR (fun h5=>?_) (fun h5=>?_)
   ·rw [decide_eq_false h5] at hok
    refine kgo ?_
    rw [bad hok]
    exact ar
   rw [decide_eq_true h5,Bool.true_and] at hok
   refine kgo ?_
   refine bo (fun h6=>?_) (fun h6=>?_)
   ·rw [decide_eq_false (by omega)] at hok
    refine kgo ?_
    exact ab (i+1) ⟨hlt,good hok⟩ (by omega)
   rw [decide_eq_true (by omega),Bool.not_true,Bool.false_or] at hok
   refine kgo ?_
   refine cIf (fun h7=>?_) (fun h7=>?_)
   ·rw [iv,Bool.not_eq_true'] at h7
    rw [h7] at hok
    refine kgo ?_
    rw [bad hok]
    exact ar
   ·rw [iv,Bool.not_eq_false'] at h7
    rw [h7] at hok
    refine kgo ?_
    exact ab (i+1) ⟨hlt,good hok⟩ (by omega)
 refine kgo ?_
 rw [eV _ _ i (by omega) hi.1 hi.2]
 exact ar
theorem vE (x:Int) (n:Nat) (hn:n≤1000) (hx:I64 x):FnD Tryz.prog 224 [DI [x],.i n] (.row 1 3 ((List.replicate n x).map .i)):=⟨cF Tryz.func224,fun F w vs hv hF=>by
 obtain ⟨v1,t,rfl,h1,v2,t2,rfl,h2,h3⟩:=hv
 cases (show t2 = [] from h3)
 cases (show v2=.int .i64 n from by simpa [DV,Rp] using h2.1)
 refine (iV _ _ _ x n w (BJ.toV (by decide) h1) hn).mono ?_
 rintro e w' ⟨g,rfl,hg,hr,hX⟩
 refine ⟨_,rfl,hX,.inr ⟨(List.replicate n x).map (Value.int .i64),?_,fun j hj=>⟨[.int .i64 x],rfl,?_,fun t u ht=>?_⟩⟩⟩
 ·refine ⟨by simp,.inr ⟨g,n,((List.replicate n x).map (Value.int .i64)).toArray,by simp,hg,hr,by simp,?_,by simp,by simp⟩⟩
  unfold maxLen;omega
 ·rw [List.getElem_map,List.getElem_replicate];exact ⟨rfl,hx⟩
 ·simp only [List.length_map,List.length_replicate] at hj
  rcases t with _|t
  ·simp at ht
   subst ht
   simp [hj]
  ·simp at ht⟩
theorem mA {sig:List Ctl} {r a:Big} (ns:List Int) (hbr:aw sig r=true) (hba:aw sig a=true) (him:nu r a ns):FnD Tryz.prog 160 [r.D,a.D,DI ns] (.tp [DI (ny r a ns),.b (fQ r a ns)]):=by
 have hdr:=aC hbr
 have hda:=aC hba
 have dr:=bw hbr
 have da:=bw hba
 have hlr:r.edges+(r.outer.length:Int)=(ak r:Nat):=by unfold ak;omega
 have hlb:ak r≤1000:=by unfold ak;omega
 obtain ⟨E,hE⟩:=Int.eq_ofNat_of_zero_le hdr.2.2.2.1.1
 have f0:FnD Tryz.prog 224 [DI [-1],.i (r.edges+(r.outer.length:Int))] (.row 1 3 ((List.replicate (ak r) (-1)).map .i)):=by rw [hlr];exact vE (-1) _ hlb (by unfold I64;omega)
 have hz:(List.replicate (ak r) (-1)).map D.i=(ij r a ns 0 0).map D.i:=by rw [wQ]
 have hlen:=him.len
 refine ah Tryz.func160 (fun hw W0=>?_)
 repeat (first|(refine bZ ?_;first|refine aO ?_|refine b9 ?_|refine bf ?_|refine aX ?_|refine aQ ?_|refine aW ?_|refine aV ?_|refine aA ?_|refine bc ?_)|(refine fb ?_;first|refine bO ?_|refine fg ?_|refine bU ?_|refine cd ?_)|(refine fp ?_;first|refine dv (fun _=>?_)|refine ci ?_|refine cr ?_|refine bE ?_|refine bR ?_|refine bX ?_)|(refine ft ?_;first|refine b8 ?_|refine eG ?_|refine ca ?_|refine bI ?_|refine cb ?_|refine b7 ?_)|(refine fx ?_;first|refine fq ?_|refine eZ ?_|refine cm ?_|refine bQ ?_|refine fu ?_|refine aR ?_|refine bd ?_)|(refine bS ?_;first|refine bh ?_|refine bW ?_)|(refine fc ?_;first|refine cf ?_|refine ck ?_|refine fj ?_)|(refine bY ?_;first|refine cg ?_|refine be ?_|refine aZ ?_|refine bj ?_|refine aP ?_|refine aY ?_)|(refine fm ?_;first|refine co ?_|refine eX ?_|refine aU ?_|refine bg ?_)|(refine aS ?_;first|refine av _ ?_|refine ba ?_|refine aB ?_|refine ax ?_|refine az ?_)|(refine ff ?_;first|refine cq ?_|refine bJ ?_|refine cj ?_)|(refine gOp ?_;first|refine fd ?_|refine fa ?_|refine aT ?_|refine fl ?_|refine fh ?_|refine b6 ?_|refine aN ?_|refine bT ?_|refine fw ?_|refine bK ?_|refine ct ?_|refine bk ?_|refine sFz 19 ?_|refine ay ?_|refine ch ?_|refine sNo ?_|refine eS ?_)|refine eA ?_|refine eR ?_|refine fe ?_|refine bl ?_|refine bM ?_|refine bz ?_|refine fC ?_|refine fB ?_|refine fo ?_|refine eH ?_|refine bV ?_|refine bp ?_|refine au ?_|refine bm ?_|refine cw ?_|refine bA ?_|refine aBlkX ?_|refine cy ?_|refine sFz 19 ?_)
 refine aj [2,3,4,8,28,29] (fun k:Nat=>k≤r.nodes.length∧gR r a ns k 0) (fun k=>r.nodes.length - k) (fun k=>[(10026,.tk (.row 1 3 ((ij r a ns k 0).map .i))),(30,.sy (.d (.i k)))]) 0 ⟨Nat.zero_le _,ww r a ns⟩ (fun k hk=>?_)
 refine kgo ?_
 refine bo (fun h=>?_) (fun h=>?_)
 ·have hkr:k<r.nodes.length:=by omega
  have hkn:k<ns.length:=by omega
  have hlinks:=(dc hbr k hkr).2.2.2.2
  have hll:=dr.7 k hkr
  refine kgo ?_
  refine aj [2,3,4,8,9,28,29,30,36,37] (fun i:Nat=>i≤(r.nodes[k]).links.length∧gR r a ns k i) (fun i=>(r.nodes[k]).links.length - i) (fun i=>[(10026,.tk (.row 1 3 ((ij r a ns k i).map .i))),(38,.sy (.d (.i i)))]) 0 ⟨Nat.zero_le _,hk.2⟩ (fun i hi=>?_)
  refine kgo ?_
  refine bo (fun h2=>?_) (fun h2=>?_)
  ·have hil:i<(r.nodes[k]).links.length:=by omega
   obtain ⟨mm,hmm,hml,e1,e2⟩:=him.img hbr hba hkr hil
   rw [br _ k hkn] at e1
   obtain ⟨ll,hl,hlN⟩:=gv (hlinks _ (List.getElem_mem hil))
   have hol:=AE r a ns k i
   have hlo:ll<(ij r a ns k i).length:=by omega
   have hat:=mW r a ns k i ll hlo
   have hpos:=him.up_pos hbr hba (l:=ll) hkr (show i≤(r.nodes[k]).links.length by omega)
   refine kgo ?_
   refine dv (n:=mm) (fun _=>?_) rfl rfl (congrArg some e1)
   rw [hl]
   refine kgo ?_
   rw [hat,← e2]
   have stp:=xh (ns:=ns) hkr hil hl hlN hi.2
   cases h3:decide (0≤ji a ns (aM r ll k i))
   ·have h3:=of_decide_eq_false h3
    obtain ⟨q1,q2⟩:=stp (.inl (by omega)) hpos
    refine kgo ?_
    rw [← q1]
    exact ab (i+1) ⟨hil,q2⟩ (by omega)
   have h3:=of_decide_eq_true h3
   refine kgo ?_
   rw [hat]
   refine kR (fun h4=>?_) (fun h4=>?_)
   ·have hb:=jN hlN (wB hkr hil hl h3 h4)
    rw [lC hb,hb]
    refine kgo ?_
    exact em
   ·obtain ⟨q1,q2⟩:=stp (.inr h4) hpos
    refine kgo ?_
    rw [← q1]
    exact ab (i+1) ⟨hil,q2⟩ (by omega)
  have hie:i=(r.nodes[k]).links.length:=by omega
  have hs:(ij r a ns (k+1) 0).map D.i=(ij r a ns k i).map D.i:=by rw [wt r a ns k hkr,hie]
  refine kgo ?_
  exact ab (k+1) ⟨hkr,wZ hkr (by rw [← hie];exact hi.2)⟩ (by omega)
 have hke:k=r.nodes.length:=by omega
 have hag:gR r a ns r.nodes.length 0:=by rw [← hke];exact hk.2
 rw [hke,ye]
 have hil:(aJ r a ns).length=ak r:=by unfold aJ;simp
 refine kgo ?_
 refine aj [3,4,8,75] (fun e:Nat=>e≤E∧(List.range e).all (gT r a ns)=true) (fun e=>E - e) (fun e=>[(76,.sy (.d (.i e)))]) 0 ⟨Nat.zero_le _,rfl⟩ (fun e he=>?_)
 refine kgo ?_
 refine bo (fun h2=>?_) (fun h2=>?_)
 ·have heE:e<E:=by omega
  have hel:e<ak r:=by omega
  have hei:e<(aJ r a ns).length:=by omega
  have hia:(aJ r a ns)[e]=mb r a ns e:=by simp [aJ]
  have f1:=lN r e dr.3 dr.7 (by omega)
  have f2:=lN a (aJ r a ns)[e] da.3 da.7 (by omega)
  have hla:=BT hag e hel (by omega)
  have hp1:=d8 r e dr.3 dr.7
  have hp2:=d8 a (aJ r a ns)[e] da.3 da.7
  rw [← hia] at hla
  refine kgo ?_
  cases h3:decide (a.edges≤(aJ r a ns)[e])
  ·have h3:=of_decide_eq_false h3
   rw [decide_eq_true (show (aJ r a ns)[e]<a.edges by omega),Bool.true_and] at hla
   refine kgo ?_
   refine kR (fun h4=>?_) (fun h4=>?_)
   ·rw [decide_eq_false (by omega)] at hla
    have hb:=jN hel hla
    rw [lC hb,hb]
    refine kgo ?_
    exact em
   ·rw [decide_eq_true (by omega)] at hla
    refine kgo ?_
    exact ab (e+1) ⟨heE,by rw [cJ,he.2,hla];rfl⟩ (by omega)
  ·have h3:=of_decide_eq_true h3
   rw [decide_eq_false (show ¬(aJ r a ns)[e]<a.edges by omega),Bool.false_and] at hla
   have hb:=jN hel hla
   rw [lC hb,hb]
   refine kgo ?_
   exact em
 have hb:fQ r a ns=true:=yN hag (fun l h1 _=>(aG _ _).1 he.2 l (by omega))
 rw [jX hb,hb]
 repeat (first|(refine bZ ?_;first|refine aO ?_|refine b9 ?_|refine bf ?_|refine aX ?_|refine aQ ?_|refine aW ?_|refine aV ?_|refine aA ?_|refine bc ?_)|(refine fb ?_;first|refine bO ?_|refine fg ?_|refine bU ?_|refine cd ?_)|(refine fp ?_;first|refine dv (fun _=>?_)|refine ci ?_|refine cr ?_|refine bE ?_|refine bR ?_|refine bX ?_)|(refine ft ?_;first|refine b8 ?_|refine eG ?_|refine ca ?_|refine bI ?_|refine cb ?_|refine b7 ?_)|(refine fx ?_;first|refine fq ?_|refine eZ ?_|refine cm ?_|refine bQ ?_|refine fu ?_|refine aR ?_|refine bd ?_)|(refine bS ?_;first|refine bh ?_|refine bW ?_)|(refine fc ?_;first|refine fA (d:=6) ?_|refine cf ?_|refine ck ?_|refine fj ?_)|(refine bY ?_;first|refine cg ?_|refine be ?_|refine aZ ?_|refine bj ?_|refine aP ?_|refine aY ?_)|(refine fm ?_;first|refine co ?_|refine eX ?_|refine aU ?_|refine bg ?_)|(refine aS ?_;first|refine av _ ?_|refine ba ?_|refine aB ?_|refine ax ?_|refine az ?_)|(refine ff ?_;first|refine cq ?_|refine bJ ?_|refine cj ?_)|(refine gOp ?_;first|refine fd ?_|refine fa ?_|refine aT ?_|refine fl ?_|refine fh ?_|refine b6 ?_|refine aN ?_|refine bT ?_|refine fw ?_|refine bK ?_|refine ct ?_|refine bk ?_|refine ay ?_|refine ch ?_|refine sNo ?_|refine eS ?_)|refine eA ?_|refine eR ?_|refine fe ?_|refine bl ?_|refine bM ?_|refine bz ?_|refine fC ?_|refine fB ?_|refine fo ?_|refine eH ?_|refine bV ?_|refine bp ?_|refine au ?_|refine bm ?_|refine cw ?_|refine bA ?_|refine aBlkX ?_|refine cy ?_)
 exact em
theorem wy {sig:List Ctl} {a:Big} (hba:aw sig a=true) (m:Mat) (x:Int):FnD Tryz.prog 157 [.i x,.p a.D,.p m.D] (.d (.b (!jG a m.nodes x))):=by
 have hda:=aC hba
 have da:=bw hba
 have hok:jG a m.nodes x=(inR x (-a.roots) (a.nodes.length - 1) && !gX a m.nodes x):=rfl
 refine ah Tryz.func157 (fun hw W0=>?_)
 have f1:=qv x (-a.roots) (a.nodes.length - 1)
 rw [hok]
 refine kgo ?_
 cases h:inR x (-a.roots) (a.nodes.length - 1)
 ·refine kgo ?_
  exact ar
 have f2:=kW hba m.nodes x (by have:=cA h;omega)
 rw [Bool.true_and,Bool.not_not]
 refine kgo ?_
 exact ar
theorem xO {sig:List Ctl} {r a:Big} (m:Mat) (hbr:aw sig r=true) (hba:aw sig a=true):FnD Tryz.prog 101 [r.D,a.D,m.D] (.d (.b (eQ r a m))):=by
 have dr:=bw hbr
 have da:=bw hba
 have hrn:=dr.3
 have hr:=cA dr.1
 have hm:=wg r a m
 refine ah Tryz.func101 (fun hw W0=>?_)
 have hmr:=(wfM hw.2.2.1.2.1).1
 refine kgo ?_
 cases h1:decide ((m.nodes.length:Int)=r.nodes.length)
 ·have h1:=of_decide_eq_false h1
  rw [decide_eq_false (show ¬m.nodes.length=r.nodes.length by omega)] at hm
  rw [hm]
  refine kgo ?_
  exact ar
 have h1:=of_decide_eq_true h1
 have hlen:m.nodes.length=r.nodes.length:=by omega
 refine kgo ?_
 refine kR (fun h2=>?_) (fun h2=>?_)
 ·rw [decide_eq_false h2,Bool.and_false] at hm
  rw [hm]
  refine kgo ?_
  exact ar
 rw [decide_eq_true hlen,decide_eq_true h2,Bool.true_and,Bool.true_and] at hm
 refine kgo ?_
 refine Dc 4 a.D ?_
 refine Dc 5 m.D ?_
 refine aj [3,4,5,27,28] (fun i:Nat=>i≤m.nodes.length∧(List.range i).all (tj a m.nodes)=true) (fun i=>m.nodes.length - i) (fun i=>[(29,.sy (.d (.i i)))]) 0 ⟨Nat.zero_le _,rfl⟩ (fun i hi=>?_)
 refine kgo ?_
 refine bo (fun h3=>?_) (fun h3=>?_)
 ·have hlt:i<m.nodes.length:=by omega
  have f1:=Bz a m.nodes[i] da.3
  have f2:=dU (m.nodes.take i) m.nodes[i]
  have hok:tj a m.nodes i=(inR m.nodes[i] 0 (a.nodes.length - 1) && !eq (m.nodes.take i) m.nodes[i]):=by unfold tj;rw [br _ i hlt]
  have bad:tj a m.nodes i=false→eQ r a m=false:=fun h=>by rw [hm,aK _ _ i hlt h];rfl
  refine kgo ?_
  cases h4:inR m.nodes[i] 0 (a.nodes.length - 1)
  ·rw [h4] at hok
   refine kgo ?_
   rw [bad hok]
   exact ar
  rw [h4] at hok
  refine kgo ?_
  refine cIf (fun h5=>?_) (fun h5=>?_)
  ·rw [h5] at hok
   refine kgo ?_
   rw [bad hok]
   exact ar
  ·rw [h5] at hok
   refine kgo ?_
   exact ab (i+1) ⟨hlt,by rw [cJ,hi.2,hok];rfl⟩ (by omega)
 have hid:(List.range m.nodes.length).all (tj a m.nodes)=true:=eV _ _ i (by omega) hi.1 hi.2
 rw [hid,Bool.true_and] at hm
 have f1:=gO m.roots 157 [.p a.D,.p m.D] (fun x=>!jG a m.nodes x) rfl (fun x _=>wy hba m x)
 rw [iv] at f1
 refine kgo ?_
 refine cIf (fun h4=>?_) (fun h4=>?_)
 ·rw [Bool.not_eq_true'] at h4
  rw [h4] at hm
  rw [hm]
  refine kgo ?_
  exact ar
 rw [Bool.not_eq_false'] at h4
 rw [h4,Bool.true_and] at hm
 have f2:=sX m hbr dr da hid hlen h2
 refine kgo ?_
 refine cIf (fun h5=>?_) (fun h5=>?_)
 ·rw [Bool.not_eq_true'] at h5
  rw [h5] at hm
  rw [hm]
  refine kgo ?_
  exact ar
 rw [Bool.not_eq_false'] at h5
 rw [h5,Bool.true_and] at hm
 have f3:=mA m.nodes hbr hba (Ce hid h5 hlen)
 refine kgo ?_
 rw [hm]
 exact ar
theorem tY {sig:List Ctl} {a:Big} (hba:aw sig a=true) (ps:List Int) (x:Int) (hx:x<a.nodes.length):FnD Tryz.prog 161 [.i x,.p a.D,.p (DI ps)] (.d (.b (gX a ps x))):=by
 refine ah Tryz.func161 (fun hw W0=>?_)
 have f1:=kW hba ps x hx
 refine kgo ?_
 exact ar
theorem wP {sig:List Ctl} {a:Big} (hba:aw sig a=true) (m:Mat) (hx:∀p∈m.roots,p<(a.nodes.length:Int)):FnD Tryz.prog 102 [.l 3 (sig.map Ctl.D),a.D,m.D] (.d (.b (ir sig a m.roots))):=by
 have da:=bw hba
 have hn:=da.3
 refine ah Tryz.func102 (fun hw W0=>?_)
 refine kgo ?_
 refine aj [0,4,5,7,12,13] (fun i:Nat=>i≤a.nodes.length) (fun i=>a.nodes.length - i) (fun i=>[(10007,.tk (.bx [.k 20001])),(20001,.tk (.row 1 3 ((idxOf (fun i=>qC sig a i) i).map .i))),(14,.sy (.d (.i i)))]) 0 (Nat.zero_le _) (fun i hi=>?_)
 refine kgo ?_
 refine bo (fun h=>?_) (fun h=>?_)
 ·have hlt:i<a.nodes.length:=by omega
  obtain ⟨c0,c1,_⟩:=dc hba i hlt
  obtain ⟨j,hj⟩:=Int.eq_ofNat_of_zero_le c0
  have hjl:j<sig.length:=by omega
  have hpf:qC sig a i=decide ((sig[j]).kind=1):=by unfold qC;rw [al a i hlt,hj,iJ sig j hjl]
  have hl:=dF (fun i=>qC sig a i) i
  refine kgo ?_
  refine dv (n:=j) (fun _=>?_) rfl rfl (congrArg some hj)
  refine kgo ?_
  refine bo (fun h2=>?_) (fun h2=>?_)
  ·have hs:(idxOf (fun i=>qC sig a i) (i+1)).map D.i=(idxOf (fun i=>qC sig a i) i).map D.i++[.i i]:=by rw [cP (hpf.trans (decide_eq_true h2)),List.map_append];rfl
   refine kgo ?_
   exact ab (i+1) (by omega) (by omega)
  ·have hs:(idxOf (fun i=>qC sig a i) (i+1)).map D.i=(idxOf (fun i=>qC sig a i) i).map D.i:=by rw [dK (hpf.trans (decide_eq_false h2))]
   refine kgo ?_
   exact ab (i+1) (by omega) (by omega)
 have hin:∀p∈m.roots,gX a (idxOf (fun i=>qC sig a i) i) p=kz sig a p:=fun p hp=>by
  rw [show i=a.nodes.length by omega];exact Bm hba (hx p hp)
 have f1:=gO m.roots 161 [.p a.D,.p (DI (idxOf (fun i=>qC sig a i) i))] (fun x=>gX a (idxOf (fun i=>qC sig a i) i) x) rfl (fun x hxm=>tY hba _ x (hx x hxm))
 have hE:(!(m.roots.any fun x=>gX a (idxOf (fun i=>qC sig a i) i) x))=ir sig a m.roots:=by
  unfold ir
  rw [Bool.eq_iff_iff]
  simp only [Bool.not_eq_true',List.any_eq_false,List.all_eq_true]
  exact ⟨fun h p hp=>by rw [← hin p hp];simpa using h p hp,fun h p hp=>by rw [hin p hp];have:=h p hp;simpa using this⟩
 rw [← hE]
 refine bz (au (au (bA (bp ?_))))
 refine Dc 4 a.D ?_
 refine mY 10007 0 ?_
 refine Dc 7 (DI (idxOf (fun i=>qC sig a i) i)) ?_
 refine kgo ?_
 exact ar
end Go.Proofs.YtacafmejcdgboaaGreatDoor
namespace Go.Proofs.YtacafmejcdgboaaGreatDoor
open Go.RowKit
set_option linter.unusedVariables false
set_option maxRecDepth 100000
set_option maxHeartbeats 4000000
attribute [local irreducible] aD Der At
theorem Cn {sig:List Ctl} {a:Big} (m:Mat) (hba:aw sig a=true):FnD Tryz.prog 122 [a.D,m.D] (.d (DI (lX a m.nodes))):=by
 have da:=bw hba
 have hn:=da.3
 refine ah Tryz.func122 (fun hw W0=>?_)
 refine kgo ?_
 refine aj [2,3,10] (fun i:Nat=>i≤a.nodes.length) (fun i=>a.nodes.length - i) (fun i=>[(5,.sy (.k 20001)),(20001,.tk (.row 1 3 ((idxOf (fun i=>!gX a m.nodes i) i).map .i))),(11,.sy (.d (.i i)))]) 0 (Nat.zero_le _) (fun i hi=>?_)
 refine kgo ?_
 refine bo (fun h=>?_) (fun h=>?_)
 ·have hlt:i<a.nodes.length:=by omega
  have f1:=kW hba m.nodes i (by omega)
  have hl:=dF (fun i=>!gX a m.nodes i) i
  refine kgo ?_
  refine cIf (fun h2=>?_) (fun h2=>?_)
  ·have hs:(idxOf (fun i=>!gX a m.nodes i) (i+1)).map D.i=(idxOf (fun i=>!gX a m.nodes i) i).map D.i++[.i i]:=by rw [cP h2,List.map_append];rfl
   refine kgo ?_
   exact ab (i+1) (by omega) (by omega)
  ·have hs:(idxOf (fun i=>!gX a m.nodes i) (i+1)).map D.i=(idxOf (fun i=>!gX a m.nodes i) i).map D.i:=by rw [dK h2]
   refine kgo ?_
   exact ab (i+1) (by omega) (by omega)
 rw [show lX a m.nodes=idxOf (fun i=>!gX a m.nodes i) i from by rw [show i=a.nodes.length by omega];rfl]
 repeat (first|(refine bZ ?_;first|refine aO ?_|refine b9 ?_|refine bf ?_|refine aX ?_|refine aQ ?_|refine aW ?_|refine aV ?_|refine aA ?_|refine bc ?_)|(refine fb ?_;first|refine bO ?_|refine fg ?_|refine bU ?_|refine cd ?_)|(refine fp ?_;first|refine dv (fun _=>?_)|refine ci ?_|refine cr ?_|refine bE ?_|refine bR ?_|refine bX ?_)|(refine ft ?_;first|refine b8 ?_|refine eG ?_|refine ca ?_|refine bI ?_|refine cb ?_|refine b7 ?_)|(refine fx ?_;first|refine fq ?_|refine eZ ?_|refine cm ?_|refine bQ ?_|refine fu ?_|refine aR ?_|refine bd ?_)|(refine bS ?_;first|refine bh ?_|refine bW ?_)|(refine fc ?_;first|refine fA (d:=4) ?_|refine cf ?_|refine ck ?_|refine fj ?_)|(refine bY ?_;first|refine cg ?_|refine be ?_|refine aZ ?_|refine bj ?_|refine aP ?_|refine aY ?_)|(refine fm ?_;first|refine co ?_|refine eX ?_|refine aU ?_|refine bg ?_)|(refine aS ?_;first|refine av _ ?_|refine ba ?_|refine aB ?_|refine ax ?_|refine az ?_)|(refine ff ?_;first|refine cq ?_|refine bJ ?_|refine cj ?_)|(refine gOp ?_;first|refine fd ?_|refine fa ?_|refine aT ?_|refine fl ?_|refine fh ?_|refine b6 ?_|refine aN ?_|refine bT ?_|refine fw ?_|refine bK ?_|refine ct ?_|refine bk ?_|refine ay ?_|refine ch ?_|refine sNo ?_|refine eS ?_)|refine eA ?_|refine eR ?_|refine fe ?_|refine bl ?_|refine bM ?_|refine bz ?_|refine fC ?_|refine fB ?_|refine fo ?_|refine eH ?_|refine bV ?_|refine bp ?_|refine au ?_|refine bm ?_|refine cw ?_|refine bA ?_|refine aBlkX ?_|refine cy ?_)
 exact ar
theorem lm {sig:List Ctl} {a:Big} (m:Mat) (hba:aw sig a=true):FnD Tryz.prog 123 [a.D,m.D] (.d (DI (bu a m.nodes))):=by
 have da:=bw hba
 have hn:=da.3
 refine ah Tryz.func123 (fun hw W0=>?_)
 refine kgo ?_
 refine aj [2,3,10] (fun i:Nat=>i≤a.nodes.length) (fun i=>a.nodes.length - i) (fun i=>[(5,.sy (.k 20001)),(20001,.tk (.row 1 3 ((idxOf (mi a m.nodes) i).map .i))),(11,.sy (.d (.i i)))]) 0 (Nat.zero_le _) (fun i hi=>?_)
 refine kgo ?_
 refine bo (fun h=>?_) (fun h=>?_)
 ·have hlt:i<a.nodes.length:=by omega
  have f1:=kW hba m.nodes i (by omega)
  have f2:=dU m.nodes i
  have hl:=dF (mi a m.nodes) i
  have hp:mi a m.nodes i=(gX a m.nodes i && !eq m.nodes i):=rfl
  refine kgo ?_
  cases h3:gX a m.nodes i
  ·rw [h3] at hp
   have hs:(idxOf (mi a m.nodes) (i+1)).map D.i=(idxOf (mi a m.nodes) i).map D.i:=by rw [dK hp]
   refine kgo ?_
   exact ab (i+1) (by omega) (by omega)
  rw [h3,Bool.true_and] at hp
  refine kgo ?_
  refine cIf (fun h2=>?_) (fun h2=>?_)
  ·have hs:(idxOf (mi a m.nodes) (i+1)).map D.i=(idxOf (mi a m.nodes) i).map D.i++[.i i]:=by rw [cP (hp.trans h2),List.map_append];rfl
   refine kgo ?_
   exact ab (i+1) (by omega) (by omega)
  ·have hs:(idxOf (mi a m.nodes) (i+1)).map D.i=(idxOf (mi a m.nodes) i).map D.i:=by rw [dK (hp.trans h2)]
   refine kgo ?_
   exact ab (i+1) (by omega) (by omega)
 rw [show bu a m.nodes=idxOf (mi a m.nodes) i from by rw [show i=a.nodes.length by omega];rfl]
 repeat (first|(refine bZ ?_;first|refine aO ?_|refine b9 ?_|refine bf ?_|refine aX ?_|refine aQ ?_|refine aW ?_|refine aV ?_|refine aA ?_|refine bc ?_)|(refine fb ?_;first|refine bO ?_|refine fg ?_|refine bU ?_|refine cd ?_)|(refine fp ?_;first|refine dv (fun _=>?_)|refine ci ?_|refine cr ?_|refine bE ?_|refine bR ?_|refine bX ?_)|(refine ft ?_;first|refine b8 ?_|refine eG ?_|refine ca ?_|refine bI ?_|refine cb ?_|refine b7 ?_)|(refine fx ?_;first|refine fq ?_|refine eZ ?_|refine cm ?_|refine bQ ?_|refine fu ?_|refine aR ?_|refine bd ?_)|(refine bS ?_;first|refine bh ?_|refine bW ?_)|(refine fc ?_;first|refine fA (d:=4) ?_|refine cf ?_|refine ck ?_|refine fj ?_)|(refine bY ?_;first|refine cg ?_|refine be ?_|refine aZ ?_|refine bj ?_|refine aP ?_|refine aY ?_)|(refine fm ?_;first|refine co ?_|refine eX ?_|refine aU ?_|refine bg ?_)|(refine aS ?_;first|refine av _ ?_|refine ba ?_|refine aB ?_|refine ax ?_|refine az ?_)|(refine ff ?_;first|refine cq ?_|refine bJ ?_|refine cj ?_)|(refine gOp ?_;first|refine fd ?_|refine fa ?_|refine aT ?_|refine fl ?_|refine fh ?_|refine b6 ?_|refine aN ?_|refine bT ?_|refine fw ?_|refine bK ?_|refine ct ?_|refine bk ?_|refine ay ?_|refine ch ?_|refine sNo ?_|refine eS ?_)|refine eA ?_|refine eR ?_|refine fe ?_|refine bl ?_|refine bM ?_|refine bz ?_|refine fC ?_|refine fB ?_|refine fo ?_|refine eH ?_|refine bV ?_|refine bp ?_|refine au ?_|refine bm ?_|refine cw ?_|refine bA ?_|refine aBlkX ?_|refine cy ?_)
 exact ar
theorem mN (l:List ByteArray) (s:ByteArray):FnD Tryz.prog 265 [DS l,.s s] (.d (.i (jg l s))):=by
 refine ah Tryz.func265 (fun hw W0=>?_)
 have hl:=(wfM hw.1).1
 refine kgo ?_
 refine aj [0,1,7] (fun i:Nat=>i≤l.length∧∀j (h:j<l.length),j<i→(l[j].toList == s.toList)=false) (fun i=>l.length - i) (fun i=>[(8,.sy (.d (.i i)))]) 0 ⟨Nat.zero_le _,fun j _ h=>absurd h (Nat.not_lt_zero _)⟩ (fun i hi=>?_)
 refine kgo ?_
 refine bo (fun h=>?_) (fun h=>?_)
 ·have hlt:i<l.length:=by omega
  refine kgo ?_
  refine cIf (fun h2=>?_) (fun h2=>?_)
  ·rw [Bool.beq_comm] at h2
   refine kgo ?_
   rw [sS hlt h2 (fun j hj=>hi.2 j (by omega) hj)]
   exact ar
  ·rw [Bool.beq_comm] at h2
   refine kgo ?_
   exact ab (i+1) ⟨hlt,fun j h1 h3=>by
    rcases Nat.lt_or_ge j i with h4|h4
    ·exact hi.2 j h1 h4
    ·rw [show l[j]=l[i] from by congr 1;omega];exact h2⟩ (by omega)
 refine kgo ?_
 rw [z7 (fun j h1=>hi.2 j h1 (by omega))]
 exact ar
def qz (l:List ByteArray) (s:ByteArray):Bool:=decide (0≤jg l s)
theorem nB (l:List ByteArray) (s:ByteArray):FnD Tryz.prog 237 [DS l,.s s] (.d (.b (qz l s))):=by
 refine ah Tryz.func237 (fun hw W0=>?_)
 have f1:=mN l s
 refine kgo ?_
 exact ar
def kB (es:List Int) (outer:List ByteArray) (name:Int→ByteArray) (l:Int):Int:=if 0≤cX es l then cX es l else es.length+jg (cG outer) (name l)
def lB (b:Big) (es:List Int) (outer:List ByteArray) (place:Int→Int) (name:Int→ByteArray) (k:Int):Nd:=⟨(cI b k).control,place (cI b k).parent,(cI b k).links.map (kB es outer name)⟩
def oL (b:Big) (ns es:List Int) (outer:List ByteArray) (place:Int→Int) (name:Int→ByteArray):Big:=⟨b.roots,ns.map (lB b es outer place name),[],es.length,cG outer,[]⟩
theorem rG (rest:List Int) (p:Int):FnD Tryz.prog 227 [.i p,.p (DI rest)] (.d (.i (if 0≤p then cX rest p else p))):=by
 refine ah Tryz.func227 (fun hw W0=>?_)
 have f1:=g8 rest p
 refine kgo ?_
 refine bo (fun h=>?_) (fun h=>?_)
 ·rw [if_pos h]
  refine kgo ?_
  exact ar
 ·rw [if_neg h]
  refine kgo ?_
  exact ar
theorem qN (a:Big) (l:Int) (h0:0≤l - a.edges) (h1:l - a.edges<a.outer.length) (he:0≤a.edges∧a.edges≤1000) (hol:a.outer.length≤1000):FnD Tryz.prog 229 [.i l,.p a.D] (.d (.s (a.outer.getD (l - a.edges).toNat ⟨#[]⟩))):=by
 obtain ⟨q,hq⟩:=Int.eq_ofNat_of_zero_le h0
 have hql:q<a.outer.length:=by omega
 refine ah Tryz.func229 (fun hw W0=>?_)
 refine kgo ?_
 refine dv (n:=q) (fun _=>?_) rfl rfl (congrArg some hq)
 rw [show a.outer.getD (l - a.edges).toNat ⟨#[]⟩=a.outer[q] from by rw [hq,Int.toNat_natCast];simp [hql]]
 refine kgo ?_
 exact ar
theorem rR (a:Big) (es:List Int) (l:Int) (h0:0≤l∧l≤1000) (he:0≤a.edges∧a.edges≤1000) (hes:es.length≤1000):FnD Tryz.prog 230 [.i l,.p a.D,.p (DI es)] (.d (.i (if l<a.edges then cX es l else es.length+(l - a.edges)))):=by
 refine ah Tryz.func230 (fun hw W0=>?_)
 have f1:=g8 es l
 refine kgo ?_
 refine bo (fun h=>?_) (fun h=>?_)
 ·rw [if_pos h]
  refine kgo ?_
  exact ar
 ·rw [if_neg h,show (es.length:Int)+(l - a.edges)=(es.length:Int)+l - a.edges by omega]
  refine kgo ?_
  exact ar
end Go.Proofs.YtacafmejcdgboaaGreatDoor
