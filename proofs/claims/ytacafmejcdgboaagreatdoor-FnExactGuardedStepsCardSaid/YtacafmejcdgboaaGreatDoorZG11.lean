/-
  Proved facts that the law leans on.
-/
import Derived.Test.YtacafmejcdgboaaGreatDoorZG5
import Derived.Test.YtacafmejcdgboaaGreatDoorZG9
import Derived.Test.YtacafmejcdgboaaGreatDoorZG10
import Derived.Test.YtacafmejcdgboaaGreatDoorCards
import Derived.Test.YtacafmejcdgboaaGreatDoorTie
import Derived.Test.YtacafmejcdgboaaGreatDoorRows
import Derived.Deep.DeepMust
import Derived.ProofKit
import Derived.ShutString
import Derived.Lib.SmallJoins
import Derived.Deep.DeepHandedRow
import Derived.Lib.LaidTab
import Derived.Lay
import Derived.LaidSub
import Derived.MakeChecks
namespace Go.Proofs.YtacafmejcdgboaaGreatDoor
open Go.RowKit
set_option linter.unusedVariables false
set_option maxRecDepth 100000
set_option maxHeartbeats 4000000
attribute [local irreducible] ar Der At
theorem sH {l:List Int} (h:l.Pairwise (· < ·)) {i j:Nat} (hi:i<l.length) (hj:j<l.length) (hij:i<j):l[i]<l[j]:=(List.pairwise_iff_getElem.1 h) i j hi hj hij
theorem vl {l:List Int} (h:l.Pairwise (· < ·)) (e:Nat) (he:e<l.length):dc l l[e]=e:=by
 have hm:l[e]∈l:=List.getElem_mem he
 unfold dc
 rw [if_pos (cM.2 hm)]
 have hd:l.idxOf l[e]<l.length:=List.idxOf_lt_length_of_mem hm
 have hv:l[l.idxOf l[e]]=l[e]:=List.getElem_idxOf hd
 rcases Nat.lt_trichotomy (l.idxOf l[e]) e with h1|h1|h1
 ·have:=sH h hd he h1;omega
 ·rw [h1]
 ·have:=sH h he hd h1;omega
def mg (ps z:List Int) (base k:Nat):List Int:=(List.range k).foldl (fun l (i:Nat)=>l.set (atI ps i).toNat ((base:Int)+i)) z
theorem mD (ps z:List Int) (base k:Nat):mg ps z base (k+1)=(mg ps z base k).set (atI ps k).toNat ((base:Int)+k):=by unfold mg;rw [List.range_succ,List.foldl_append];rfl
theorem pa (ps z:List Int) (base k:Nat):(mg ps z base k).length=z.length:=by
 induction k with
 | zero=>simp [mg]
 | succ k ih=>rw [mD,List.length_set,ih]
theorem wX {ps z:List Int} (base:Nat) (hi:ps.Pairwise (· < ·)) (h0:∀x∈ps,0≤x∧x<(z.length:Int)):∀k,k≤ps.length→∀e (he:e<ps.length),e<k→atI (mg ps z base k) ps[e]=base+e:=by
 intro k
 induction k with
 | zero=>intro _ e _ h;exact absurd h (Nat.not_lt_zero _)
 | succ k ih=>
  intro hk e he hek
  have hkl:k<ps.length:=by omega
  have b1:=h0 _ (List.getElem_mem he)
  have b2:=h0 _ (List.getElem_mem hkl)
  have hl:=pa ps z base k
  rw [mD,cE ps k hkl]
  unfold atI
  by_cases e1:e=k
  ·subst e1
   rw [List.getD_eq_getElem?_getD,List.getElem?_set_self (by omega)];rfl
  ·have hlt:=sH hi he hkl (by omega)
   rw [List.getD_eq_getElem?_getD,List.getElem?_set_ne (by omega),← List.getD_eq_getElem?_getD]
   exact ih (by omega) e he (by omega)
theorem C5 {f:Nat→Bool} {n:Nat} {k q j:Nat} (hk:k<(idxOf f n).length) (hq:(idxOf f n)[k]=(q:Int)) (hj:j<q) (hf:f j=true):∃e,e<k∧∃he:e<(idxOf f n).length,(idxOf f n)[e]=(j:Int):=by
 obtain ⟨i,hi,_,hqi⟩:=bw.1 (List.getElem_mem hk)
 have hm:(j:Int)∈idxOf f n:=bw.2 ⟨j,by omega,hf,rfl⟩
 obtain ⟨e,he,h1⟩:=List.mem_iff_getElem.1 hm
 refine ⟨e,?_,he,h1⟩
 rcases Nat.lt_trichotomy e k with h|h|h
 ·exact h
 ·subst h;omega
 ·have:=sH (hZ f n) hk he h;omega
def dL (p:Big) (list:List Int) (i base:Nat) (q:Int):Nd:=⟨(dR p q).control,if (dR p q).parent<0 then -1 - (i:Int) else (base:Int)+dc list (dR p q).parent,(dR p q).links⟩
def dA (p:Big) (cs:List Int):Nat→List Nd
 | 0=>[]
 | i+1=>dA p cs i++(pr p (-1 - atI cs i)).map (dL p (pr p (-1 - atI cs i)) i (dA p cs i).length)
def mn (cs:List Int) (p:Big):Big:=⟨cs.length,dA p cs cs.length,[],0,p.outer,[]⟩
theorem td (p:Big) (cs:List Int) (i:Nat):(dA p cs i).length≤i * p.nodes.length:=by
 induction i with
 | zero=>simp [dA]
 | succ i ih=>
  have:=de (iJ p (-1 - atI cs i)) p.nodes.length
  unfold dA pr
  rw [List.length_append,List.length_map,Nat.succ_mul]
  omega
theorem rU {sig:List Ctl} (r:Rul) {p:Big} (hp:aF sig p=true) (hc:r.copies.length≤100):FnD Tryz.prog 145 [r.D,p.D] (.d (mn r.copies p).D):=by
 have hd:=aJ hp
 have hdm:=bu hp
 refine ah Tryz.func145 (fun hw W0=>?_)
 have hwc:=(wfM hw.1.2.2.1).2
 repeat (first|(refine cy ?_;first|refine aV ?_|refine bY ?_|refine aY ?_|refine aZ ?_|refine aS ?_|refine bg ?_|refine bi ?_|refine ay ?_|refine be ?_)|(refine fo ?_;first|refine bQ ?_|refine eZ ?_|refine cr ?_|refine b8 ?_)|(refine fa ?_;first|refine dm (fun _=>?_)|refine b9 ?_|refine cm ?_|refine bG ?_|refine cw ?_|refine ck ?_)|(refine fh ?_;first|refine cg ?_|refine eB ?_|refine bT ?_|refine bI ?_|refine cq ?_|refine bV ?_|refine bZ ?_)|(refine fe ?_;first|refine fl ?_|refine eS ?_|refine cd ?_|refine bP ?_|refine fq ?_|refine bl ?_|refine bo ?_)|(refine cu ?_;first|refine aX ?_|refine ch ?_)|(refine ff ?_;first|refine cj ?_|refine ct ?_|refine ft ?_)|(refine cf ?_;first|refine ca ?_|refine bd ?_|refine aQ ?_|refine ba ?_|refine aU ?_|refine bh ?_)|(refine fc ?_;first|refine b7 ?_|refine eY ?_|refine bj ?_|refine aR ?_|refine bm ?_)|(refine aI ?_;first|refine au _ ?_|refine bf ?_|refine aA ?_|refine av ?_|refine ax ?_)|(refine fu ?_;first|refine cb ?_|refine bH ?_|refine bX ?_)|(refine gOp ?_;first|refine fd ?_|refine fm ?_|refine bc ?_|refine fp ?_|refine fj ?_|refine bU ?_|refine aT ?_|refine co ?_|refine fw ?_|refine bM ?_|refine b6 ?_|refine bk ?_|refine sFz 19 ?_|refine az ?_|refine bW ?_|refine sNo ?_|refine dO ?_|refine aw ?_)|refine dZ ?_|refine cN ?_|refine fB ?_|refine bp ?_|refine cz ?_|refine bB ?_|refine fC ?_|refine fI ?_|refine fx ?_|refine df ?_|refine cC ?_|refine aN ?_|refine aB ?_|refine bq ?_|refine ci ?_|refine bC ?_|refine aBlkX ?_|refine cA ?_|refine sFz 19 ?_)
 refine ai [2,3,4,5] (fun i:Nat=>i≤r.copies.length) (fun i=>r.copies.length - i) (fun i=>[(10005,.tk (.bx [.d (.i r.copies.length),.k 20001,.d (.n 1),.d (.i 0),.d (DS p.outer),.d (.n 2)])),(20001,.tk (.row 3 151 ((dA p r.copies i).map Nd.D))),(6,.sy (.d (.i i)))]) 0 (Nat.zero_le _) (fun i hi=>?_)
 refine kgo ?_
 refine aL (fun h=>?_) (fun h=>?_)
 ·have hlt:i<r.copies.length:=by omega
  have f1:=zk hp (-1 - r.copies[i])
  have hil:=td p r.copies i
  have hb1:i * p.nodes.length≤100 * 8:=Nat.mul_le_mul (by omega) hd.2.1
  have hil2:(dA p r.copies i).length≤800:=by omega
  have hz:List.replicate p.nodes.length (D.i 0)=(mg (pr p (-1 - r.copies[i])) (List.replicate p.nodes.length 0) (dA p r.copies i).length 0).map D.i:=by rw [show mg (pr p (-1 - r.copies[i])) (List.replicate p.nodes.length 0) (dA p r.copies i).length 0=List.replicate p.nodes.length 0 from by simp [mg],List.map_replicate]
  have hnext:dA p r.copies (i+1)=dA p r.copies i++(pr p (-1 - r.copies[i])).map (dL p (pr p (-1 - r.copies[i])) i (dA p r.copies i).length):=by rw [← cE r.copies i hlt];rfl
  have hcb:I64 (-1 - r.copies[i]):=by have:=hwc _ (List.getElem_mem hlt);unfold Wf I64 at this;unfold I64;omega
  repeat (first|(refine cy ?_;first|refine aV ?_|refine bY ?_|refine aY ?_|refine aZ ?_|refine aS ?_|refine bg ?_|refine bi ?_|refine ay ?_|refine be ?_)|(refine fo ?_;first|refine bQ ?_|refine eZ ?_|refine cr ?_|refine b8 ?_)|(refine fa ?_;first|refine dm (fun _=>?_)|refine b9 ?_|refine cm ?_|refine bG ?_|refine cw ?_|refine ck ?_)|(refine fh ?_;first|refine cg ?_|refine eB ?_|refine bT ?_|refine bI ?_|refine cq ?_|refine bV ?_|refine bZ ?_)|(refine fe ?_;first|refine fl ?_|refine eS ?_|refine cd ?_|refine bP ?_|refine fq ?_|refine bl ?_|refine bo ?_)|(refine cu ?_;first|refine aX ?_|refine ch ?_)|(refine ff ?_;first|refine fF (d:=7) ?_|refine cj ?_|refine ct ?_|refine ft ?_)|(refine cf ?_;first|refine ca ?_|refine bd ?_|refine aQ ?_|refine ba ?_|refine aU ?_|refine bh ?_)|(refine fc ?_;first|refine b7 ?_|refine eY ?_|refine bj ?_|refine aR ?_|refine bm ?_)|(refine aI ?_;first|refine au _ ?_|refine bf ?_|refine aA ?_|refine av ?_|refine ax ?_)|(refine fu ?_;first|refine cb ?_|refine bH ?_|refine bX ?_)|(refine gOp ?_;first|refine fd ?_|refine fm ?_|refine bc ?_|refine fp ?_|refine fj ?_|refine bU ?_|refine aT ?_|refine co ?_|refine fw ?_|refine bM ?_|refine b6 ?_|refine bk ?_|refine az ?_|refine bW ?_|refine sNo ?_|refine dO ?_|refine aw ?_)|refine dZ ?_|refine cN ?_|refine fB ?_|refine bp ?_|refine cz ?_|refine bB ?_|refine fC ?_|refine fI ?_|refine fx ?_|refine df ?_|refine cC ?_|refine aN ?_|refine aB ?_|refine bq ?_|refine ci ?_|refine bC ?_|refine aBlkX ?_|refine cA ?_)
  refine bM (n:=p.nodes.length) (r:=.i 0) ?_ rfl rfl (hb:=by show 8 * p.nodes.length≤1000000000;omega)
  have hul:(pr p (-1 - r.copies[i])).length≤p.nodes.length:=de _ _
  have hmem:∀x∈pr p (-1 - r.copies[i]),∃q:Nat,q<p.nodes.length∧iJ p (-1 - r.copies[i]) q=true∧x=q:=fun x hx=>bw.1 hx
  have hinc:(pr p (-1 - r.copies[i])).Pairwise (· < ·):=hZ _ _
  have hup:∀(k q j:Nat) (hk:k<(pr p (-1 - r.copies[i])).length),(pr p (-1 - r.copies[i]))[k]=(q:Int)→j<q→iJ p (-1 - r.copies[i]) j=true→∃e,e<k∧∃he:e<(pr p (-1 - r.copies[i])).length,(pr p (-1 - r.copies[i]))[e]=(j:Int):=fun k q j hk hq hj hf=>C5 hk hq hj hf
  generalize hba:(dA p r.copies i).length=base at *
  generalize pr p (-1 - r.copies[i])=lst at *
  have h00:(dA p r.copies i).map Nd.D=(dA p r.copies i++(lst.take 0).map (dL p lst i base)).map Nd.D:=by simp
  refine kgo ?_
  refine ai [2,3,4,5,6,7,8] (fun k:Nat=>k≤lst.length) (fun k=>lst.length - k) (fun k=>[(10005,.tk (.bx [.d (.i r.copies.length),.k 20001,.d (.n 1),.d (.i 0),.d (DS p.outer),.d (.n 2)])),(20001,.tk (.row 3 151 ((dA p r.copies i++(lst.take k).map (dL p lst i base)).map Nd.D))),(10039,.tk (.row 1 3 ((mg lst (List.replicate p.nodes.length 0) base k).map .i))),(9,.sy (.d (.i k)))]) 0 (Nat.zero_le _) (fun k hk=>?_)
  refine kgo ?_
  refine aL (fun h2=>?_) (fun h2=>?_)
  ·have hkl:k<lst.length:=by omega
   obtain ⟨q,hq1,hq2,hq⟩:=hmem _ (List.getElem_mem hkl)
   have hpl:=pa lst (List.replicate p.nodes.length 0) base k
   rw [List.length_replicate] at hpl
   have hs:=mD lst (List.replicate p.nodes.length 0) base k
   rw [cE lst k hkl,hq,Int.toNat_natCast] at hs
   have hlen:((((dA p r.copies i++(lst.take k).map (dL p lst i base)).map Nd.D).length:Nat):Int)=(base:Int)+k:=by rw [List.length_map,List.length_append,List.length_map,List.length_take,hba];omega
   refine kgo ?_
   refine bG (n:=q) ?_ rfl rfl rfl (congrArg some hq)
   refine kgo ?_
   rw [hlen,← hs]
   refine dm (n:=q) (fun _=>?_) rfl rfl (congrArg some hq)
   have hnd:dR p q=p.nodes[q]:=aD p q hq1
   have hll:=hdm.7 q hq1
   have hut:=iI hp q hq1
   have f2:=qU (p.nodes[q]).links hll
   have hlen2:(dA p r.copies i++(lst.take k).map (dL p lst i base)).length≤1000:=by rw [List.length_append,List.length_map,List.length_take,hba];omega
   have hs2:∀V:Int,V=(dL p lst i base q).parent→((dA p r.copies i++(lst.take (k+1)).map (dL p lst i base))).map Nd.D=((dA p r.copies i++(lst.take k).map (dL p lst i base))).map Nd.D++[Nd.D ⟨(p.nodes[q]).control,V,(p.nodes[q]).links⟩]:=fun V hV=>by
    simp only [List.take_succ_eq_append_getElem hkl,List.map_append,List.append_assoc,List.map_cons,List.map_nil,hq]
    rw [hV,← hnd];rfl
   have hpl2:=pa lst (List.replicate p.nodes.length 0) base (k+1)
   rw [List.length_replicate] at hpl2
   refine kgo ?_
   refine aL (fun h3=>?_) (fun h3=>?_)
   ·obtain ⟨j,hj⟩:=Int.eq_ofNat_of_zero_le h3
    have hjq:j<q:=by omega
    have huj:iJ p (-1 - r.copies[i]) j=true:=by
     rw [oB p _ q hq1,hj,pi hp j (by omega)] at hq2
     rw [oB p _ j (by omega)];exact hq2
    obtain ⟨e,he1,he2,he3⟩:=hup k q j hkl hq hjq huj
    have hv:=wX (z:=List.replicate p.nodes.length 0) base hinc (fun x hx=>by obtain ⟨y,h1,_,h2⟩:=hmem x hx;rw [List.length_replicate];omega) (k+1) hkl e he2 (by omega)
    have hix:=vl hinc e he2
    have hjl:j<(mg lst (List.replicate p.nodes.length 0) base (k+1)).length:=by omega
    rw [he3,cE _ j hjl] at hv
    rw [he3] at hix
    have hs3:=hs2 ((mg lst (List.replicate p.nodes.length 0) base (k+1))[j]) (by rw [hv];show _=(if (dR p q).parent<0 then _ else _);rw [hnd,hj,if_neg (by omega),hix])
    refine kgo ?_
    refine bG (n:=j) ?_ rfl rfl rfl (congrArg some hj)
    repeat (first|(refine cy ?_;first|refine aV ?_|refine bY ?_|refine aY ?_|refine aZ ?_|refine aS ?_|refine bg ?_|refine bi ?_|refine ay ?_|refine be ?_)|(refine fo ?_;first|refine bQ ?_|refine eZ ?_|refine cr ?_|refine b8 ?_)|(refine fa ?_;first|refine dm (fun _=>?_)|refine b9 ?_|refine cm ?_|refine bG ?_|refine cw ?_|refine ck ?_)|(refine fh ?_;first|refine cg ?_|refine eB ?_|refine bT ?_|refine bI ?_|refine cq ?_|refine bV ?_|refine bZ ?_)|(refine fe ?_;first|refine fl ?_|refine eS ?_|refine cd ?_|refine bP ?_|refine fq ?_|refine bl ?_|refine bo ?_)|(refine cu ?_;first|refine aX ?_|refine ch ?_)|(refine ff ?_;first|refine cj ?_|refine ct ?_|refine ft ?_)|(refine cf ?_;first|refine ca ?_|refine bd ?_|refine aQ ?_|refine ba ?_|refine aU ?_|refine bh ?_)|(refine fc ?_;first|refine b7 ?_|refine eY ?_|refine bj ?_|refine aR ?_|refine bm ?_)|(refine aI ?_;first|refine au _ ?_|refine bf ?_|refine aA ?_|refine av ?_|refine ax ?_)|(refine fu ?_;first|refine cb ?_|refine bH ?_|refine bX ?_)|(refine gOp ?_;first|refine fd ?_|refine fm ?_|refine bc ?_|refine fp ?_|refine fj ?_|refine bU ?_|refine aT ?_|refine co ?_|refine fw ?_|refine bM ?_|refine b6 ?_|refine bk ?_|refine sFz 80 ?_|refine az ?_|refine bW ?_|refine sNo ?_|refine dO ?_|refine aw ?_)|refine dZ ?_|refine cN ?_|refine fB ?_|refine bp ?_|refine cz ?_|refine bB ?_|refine fC ?_|refine fI ?_|refine fx ?_|refine df ?_|refine cC ?_|refine aN ?_|refine aB ?_|refine bq ?_|refine ci ?_|refine bC ?_|refine aBlkX ?_|refine cA ?_|refine sFz 80 ?_)
    exact af (k+1) hkl (by omega)
   ·have hs3:=hs2 (-1 - (i:Int)) (by show _=(if (dR p q).parent<0 then _ else _);rw [hnd,if_pos (by omega)])
    repeat (first|(refine cy ?_;first|refine aV ?_|refine bY ?_|refine aY ?_|refine aZ ?_|refine aS ?_|refine bg ?_|refine bi ?_|refine ay ?_|refine be ?_)|(refine fo ?_;first|refine bQ ?_|refine eZ ?_|refine cr ?_|refine b8 ?_)|(refine fa ?_;first|refine dm (fun _=>?_)|refine b9 ?_|refine cm ?_|refine bG ?_|refine cw ?_|refine ck ?_)|(refine fh ?_;first|refine cg ?_|refine eB ?_|refine bT ?_|refine bI ?_|refine cq ?_|refine bV ?_|refine bZ ?_)|(refine fe ?_;first|refine fl ?_|refine eS ?_|refine cd ?_|refine bP ?_|refine fq ?_|refine bl ?_|refine bo ?_)|(refine cu ?_;first|refine aX ?_|refine ch ?_)|(refine ff ?_;first|refine cj ?_|refine ct ?_|refine ft ?_)|(refine cf ?_;first|refine ca ?_|refine bd ?_|refine aQ ?_|refine ba ?_|refine aU ?_|refine bh ?_)|(refine fc ?_;first|refine b7 ?_|refine eY ?_|refine bj ?_|refine aR ?_|refine bm ?_)|(refine aI ?_;first|refine au _ ?_|refine bf ?_|refine aA ?_|refine av ?_|refine ax ?_)|(refine fu ?_;first|refine cb ?_|refine bH ?_|refine bX ?_)|(refine gOp ?_;first|refine fd ?_|refine fm ?_|refine bc ?_|refine fp ?_|refine fj ?_|refine bU ?_|refine aT ?_|refine co ?_|refine fw ?_|refine bM ?_|refine b6 ?_|refine bk ?_|refine sFz 80 ?_|refine az ?_|refine bW ?_|refine sNo ?_|refine dO ?_|refine aw ?_)|refine dZ ?_|refine cN ?_|refine fB ?_|refine bp ?_|refine cz ?_|refine bB ?_|refine fC ?_|refine fI ?_|refine fx ?_|refine df ?_|refine cC ?_|refine aN ?_|refine aB ?_|refine bq ?_|refine ci ?_|refine bC ?_|refine aBlkX ?_|refine cA ?_|refine sFz 80 ?_)
    exact af (k+1) hkl (by omega)
  have hs4:(dA p r.copies i++(lst.take k).map (dL p lst i base)).map Nd.D=(dA p r.copies (i+1)).map Nd.D:=by rw [hnext,List.take_of_length_le (by omega)]
  refine kgo ?_
  exact af (i+1) hlt (by omega)
 rw [show i=r.copies.length by omega]
 refine bB (aB (aB (bC (aN ?_))))
 refine ou 10005 1 ?_
 refine kgo ?_
 exact aq
end Go.Proofs.YtacafmejcdgboaaGreatDoor
namespace Go.Proofs.YtacafmejcdgboaaGreatDoor
open Go.RowKit
set_option linter.unusedVariables false
set_option maxRecDepth 100000
set_option maxHeartbeats 4000000
attribute [local irreducible] ar Der At
def nR (r a:Big) (ns:List Int) (i:Nat):Bool:=
 if (!decide ((dR a i).control=(dR r ns.length).control) || dP ns i) then false else decide ((dR r ns.length).parent<0) || decide ((dR a i).parent=atI ns (dR r ns.length).parent)
theorem Ab {sig:List Ctl} {r a:Big} (hR:aF sig r=true) (ns:List Int) (i:Nat) (hi:i<a.nodes.length) (hn:ns.length<r.nodes.length):FnD Tryz.prog 249 [r.D,a.D,DI ns,.i i] (.d (.b (nR r a ns i))):=by
 have f1:=jG ns i
 have hu:=iI hR ns.length hn
 have hd:nR r a ns i=if (!decide ((a.nodes[i]).control=(r.nodes[ns.length]).control) || dP ns i) then false else decide ((r.nodes[ns.length]).parent<0) || decide ((a.nodes[i]).parent=atI ns (r.nodes[ns.length]).parent):=by unfold nR;rw [aD a i hi,aD r ns.length hn]
 rw [hd]
 clear hd
 refine ah Tryz.func249 (fun hw W0=>?_)
 refine kgo ?_
 cases hc:decide ((a.nodes[i]).control=(r.nodes[ns.length]).control)
 ·refine kgo ?_
  exact aq
 ·refine kgo ?_
  refine cIf (fun h=>?_) (fun h=>?_)
  ·rw [h]
   refine kgo ?_
   exact aq
  ·rw [h]
   refine kgo ?_
   cases hp:decide ((r.nodes[ns.length]).parent<0)
   ·have hp':=of_decide_eq_false hp
    refine kgo ?_
    exact aq
   ·refine kgo ?_
    exact aq
theorem qK (b:Big) (p:Int) (hl:b.nodes.length≤1048576):FnD Tryz.prog 202 [b.D,.i p] (.d (DI (dC b p))):=⟨bS Tryz.func202,fun F w vs hv hF=>by
 obtain ⟨v1,t,rfl,h1,v2,t2,rfl,⟨h2,_⟩,h3⟩:=hv
 cases (show t2 = [] from h3)
 obtain ⟨cs,rfl,hb⟩:=sZ h1
 cases h2
 refine (rc _ _ _ _ _ _ hb hl).mono ?_
 rintro e w' ⟨v,rfl,hV,hX⟩
 exact ⟨_,rfl,hX,ql (Gn.ofV hV)⟩⟩
def rtP (r a:Big) (ns:List Int) (n:Nat):Int:=(dR a (atI ns (atI (dC r (-1 - (n:Int))) 0))).parent
def rtL (r a:Big) (ns:List Int) (n:Nat):List Int:=(List.range n).map (rtP r a ns)
theorem xf (r a:Big) (ns:List Int) (n:Nat):rtL r a ns (n+1)=rtL r a ns n++[rtP r a ns n]:=by unfold rtL;rw [List.range_succ,List.map_append];rfl
theorem tq {sig:List Ctl} {r a:Big} (hR:aF sig r=true) (ns:List Int) (hk:∀n:Nat,(n:Int)<r.roots→0<(dC r (-1 - (n:Int))).length) (hm:∀p,∀x∈dC r p,0≤x∧x<(ns.length:Int)) (hn:∀x∈ns,0≤x∧x<(a.nodes.length:Int)):FnD Tryz.prog 248 [r.D,a.D,DI ns] (.row 1 3 ((rtL r a ns r.roots.toNat).map .i)):=by
 have hr:=aJ hR
 refine ah Tryz.func248 (fun hw W0=>?_)
 refine kgo ?_
 refine eG (fun i:Nat=>i≤r.roots.toNat) (fun i=>r.roots.toNat - i) (fun i=>[(2,.sy (.d (DI ns))),(3,.sy (.bx 10003 0)),(10003,.tk (.bx (iu r.D))),(4,.sy (.bx 10004 0)),(10004,.tk (.bx (iu a.D))),(7,.sy (.k 10009)),(10009,.tk (.row 1 3 ((rtL r a ns i).map .i))),(8,.sy (.d (.i i)))]) 0 (Nat.zero_le _) (fun i hi=>?_)
 refine kgo ?_
 refine cIf (fun h=>?_) (fun h=>?_)
 ·have h:=of_decide_eq_true h
  have f1:=qK r (-1 - (i:Int)) (by omega)
  have hk1:=hk i h
  have hz:(0:Int)≤0∧(0:Int)<((dC r (-1 - (i:Int))).length:Int):=⟨Int.le_refl _,by omega⟩
  have hm1:=hm _ _ (List.getElem_mem hk1)
  have hx1:=hn _ (ow hm1.1 hm1.2)
  have hql:(rtL r a ns i).length≤1000:=by unfold rtL;rw [List.length_map,List.length_range];omega
  obtain ⟨j,hj⟩:=Int.eq_ofNat_of_zero_le hx1.1
  have hjl:j<a.nodes.length:=by omega
  have hp:rtP r a ns i=(a.nodes[j]).parent:=by
   unfold rtP
   rw [show atI (dC r (-1 - (i:Int))) 0=(dC r (-1 - (i:Int)))[0] from by unfold atI;simp [List.getElem?_eq_getElem hk1],hj,aD a j hjl]
  have hs:(rtL r a ns (i+1)).map D.i=(rtL r a ns i).map D.i++[.i (a.nodes[j]).parent]:=by rw [xf,List.map_append,hp];rfl
  refine kgo ?_
  refine dm (n:=j) (fun _=>?_) rfl rfl (congrArg some hj)
  refine kgo ?_
  exact af (i+1) (by omega) (by omega)
 ·have h:=of_decide_eq_false h
  rw [show i=r.roots.toNat by omega]
  refine kgo ?_
  exact pt
end Go.Proofs.YtacafmejcdgboaaGreatDoor
namespace Go.Proofs.YtacafmejcdgboaaGreatDoor
open Go.RowKit
set_option linter.unusedVariables false
set_option maxRecDepth 100000
set_option maxHeartbeats 4000000
attribute [local irreducible] ar Der At
theorem pU (n lo hi:Int):FnD Tryz.prog 90 [.i n,.i lo,.i hi] (.d (.b (inR n lo hi))):=by
 refine ah Tryz.func90 (fun hw W0=>?_)
 refine kgo ?_
 cases h:decide (lo≤n)
 ·refine kgo ?_
  rw [show inR n lo hi=false from by unfold inR;rw [h];rfl]
  exact aq
 ·refine kgo ?_
  rw [show inR n lo hi=decide (n≤hi) from by unfold inR;rw [h];rfl]
  exact aq
theorem GW (b:Big) (n:Int) (hl:b.nodes.length≤1000):FnD Tryz.prog 198 [b.D,.i n] (.d (.b (inR n 0 (b.nodes.length - 1)))):=by
 refine ah Tryz.func198 (fun hw W0=>?_)
 have f1:=pU n 0 (b.nodes.length - 1)
 refine kgo ?_
 exact aq
theorem Be (b:Big) (n:Int) (hl:b.nodes.length≤1000) (hr:inR b.roots 0 4=true):FnD Tryz.prog 200 [b.D,.i n] (.d (.b (inR n (-b.roots) (b.nodes.length - 1)))):=by
 have hr:=bK hr
 refine ah Tryz.func200 (fun hw W0=>?_)
 have f1:=pU n (-b.roots) (b.nodes.length - 1)
 refine kgo ?_
 exact aq
theorem qG {r a:Big} {ns:List Int} (i:Nat) (hi:i<ns.length) (h:GE r a ns i=false):rH r a ns=false:=by
 rw [ws,br _ _ i hi h];simp
theorem Gc {n:Int} {k:Nat} (h:inR n 0 ((k:Int) - 1)=true):∃m:Nat,n=(m:Int)∧m<k:=by
 have h:=bK h
 obtain ⟨m,rfl⟩:=Int.eq_ofNat_of_zero_le h.1
 exact ⟨m,rfl,by omega⟩
theorem xY (r a:Big) (ns:List Int) (ha:a.nodes.length≤1000) (hr:r.nodes.length≤1000):FnD Tryz.prog 135 [r.D,a.D,DI ns] (.d (.b (rH r a ns))):=by
 refine ah Tryz.func135 (fun hw W0=>?_)
 refine kgo ?_
 refine jE (fun h=>?_) (fun h=>?_)
 ·refine kgo ?_
  rw [show rH r a ns=false from by unfold rH;rw [decide_eq_false (by omega)];rfl]
  exact aq
 refine kgo ?_
 refine ai [2,3,4] (fun i:Nat=>i≤ns.length∧(List.range i).all (GE r a ns)=true) (fun i=>ns.length - i) (fun i=>[(7,.sy (.d (.i i)))]) 0 ⟨Nat.zero_le _,rfl⟩ (fun i hi=>?_)
 refine kgo ?_
 refine aL (fun h2=>?_) (fun h2=>?_)
 ·have hlt:i<ns.length:=by omega
  have hlr:i<r.nodes.length:=by omega
  have f1:=GW a ns[i] ha
  have f2:=jG (ns.take i) ns[i]
  have hok:=EV r a ns i hlt hlr
  refine kgo ?_
  cases h3:inR ns[i] 0 (a.nodes.length - 1)
  ·rw [h3] at hok
   refine kgo ?_
   rw [qG i hlt hok]
   exact aq
  rw [h3] at hok
  refine kgo ?_
  cases h4:dP (ns.take i) ns[i]
  ·rw [h4] at hok
   obtain ⟨k,hk,hka⟩:=Gc h3
   rw [hk,aD a k hka] at hok
   refine kgo ?_
   refine dm (n:=k) (fun _=>?_) rfl rfl (congrArg some hk)
   refine kgo ?_
   refine jE (fun h5=>?_) (fun h5=>?_)
   ·rw [decide_eq_false h5] at hok
    refine kgo ?_
    rw [qG i hlt hok]
    exact aq
   ·rw [decide_eq_true h5] at hok
    refine kgo ?_
    exact af (i+1) ⟨hlt,by rw [cL,hi.2,hok];rfl⟩ (by omega)
  ·rw [h4] at hok
   refine kgo ?_
   rw [qG i hlt hok]
   exact aq
 refine kgo ?_
 rw [show rH r a ns=true from by rw [ws,decide_eq_true (by omega),fL _ _ i (by omega) hi.1 hi.2];rfl]
 exact aq
theorem pP {r a:Big} {ns rs:List Int} (i:Nat) (hi:i<rs.length) (h:jP a ns rs[i]=false):fP r a ⟨ns,rs⟩=false:=by
 unfold fP
 rw [show (⟨ns,rs⟩:Mat).roots.all (jP a ns)=false from List.all_eq_false.2 ⟨_,List.getElem_mem hi,by rw [h];exact Bool.false_ne_true⟩];rfl
theorem xo {sig:List Ctl} (r a:Big) (m:Mat) (hb:aF sig a=true):FnD Tryz.prog 136 [r.D,a.D,m.D] (.d (.b (fP r a m))):=by
 have hd:=bu hb
 refine ah Tryz.func136 (fun hw W0=>?_)
 have hml:=(wfM hw.2.2.1.2.1).1
 refine kgo ?_
 refine ai [3,4,5] (fun i:Nat=>i≤m.roots.length∧(m.roots.take i).all (jP a m.nodes)=true) (fun i=>m.roots.length - i) (fun i=>[(7,.sy (.d (.i i)))]) 0 ⟨Nat.zero_le _,rfl⟩ (fun i hi=>?_)
 refine kgo ?_
 refine aL (fun h2=>?_) (fun h2=>?_)
 ·have hlt:i<m.roots.length:=by omega
  have f1:=Be a m.roots[i] hd.3 hd.1
  have hok:jP a m.nodes m.roots[i]=(inR m.roots[i] (-a.roots) (a.nodes.length - 1) && !gV a m.nodes m.roots[i]):=rfl
  refine kgo ?_
  cases h3:inR m.roots[i] (-a.roots) (a.nodes.length - 1)
  ·rw [h3] at hok
   refine kgo ?_
   rw [show fP r a m=false from pP i hlt hok]
   exact aq
  rw [h3] at hok
  have f2:=kA hb m m.roots[i] (by have:=bK h3;omega)
  refine kgo ?_
  refine cIf (fun h5=>?_) (fun h5=>?_)
  ·rw [h5] at hok
   refine kgo ?_
   rw [show fP r a m=false from pP i hlt hok]
   exact aq
  ·rw [h5] at hok
   refine kgo ?_
   exact af (i+1) ⟨hlt,by rw [List.take_succ_eq_append_getElem hlt,List.all_append,hi.2,List.all_cons,hok];rfl⟩ (by omega)
 refine kgo ?_
 rw [show fP r a m=decide ((m.roots.length:Int)=r.roots) from by unfold fP;rw [gB _ _ i (by omega) hi.2];rfl]
 exact aq
theorem wD (r a:Big) (m:Mat) (i:Nat) (h:i<m.nodes.length) (hr:i<r.nodes.length) (k:Nat) (hk:m.nodes[i]=(k:Int)) (hka:k<a.nodes.length):pu r a m i=decide ((a.nodes[k]).parent=if 0≤(r.nodes[i]).parent then atI m.nodes (r.nodes[i]).parent else atI m.roots (-1 - (r.nodes[i]).parent)):=by
 unfold pu GJ
 rw [cE _ i h,hk,aD a k hka,aD r i hr]
theorem uv {sig:List Ctl} {r a:Big} (m:Mat) (hbr:aF sig r=true) (hba:aF sig a=true) (him:ox r a m.nodes) (hrs:(m.roots.length:Int)=r.roots):FnD Tryz.prog 137 [r.D,a.D,m.D] (.d (.b ((List.range m.nodes.length).all (pu r a m)))):=by
 have hdr:=aJ hbr
 refine ah Tryz.func137 (fun hw W0=>?_)
 have hml:=(wfM hw.2.2.1.1).1
 refine kgo ?_
 refine ai [3,4,5] (fun i:Nat=>i≤m.nodes.length∧(List.range i).all (pu r a m)=true) (fun i=>m.nodes.length - i) (fun i=>[(7,.sy (.d (.i i)))]) 0 ⟨Nat.zero_le _,rfl⟩ (fun i hi=>?_)
 refine kgo ?_
 refine aL (fun h2=>?_) (fun h2=>?_)
 ·have hlt:i<m.nodes.length:=by omega
  have hlr:i<r.nodes.length:=by have:=him.len;omega
  obtain ⟨k,hka,hk0,_⟩:=him.at' i hlr
  rw [cE _ i hlt] at hk0
  have hok:=wD r a m i hlt hlr k hk0 hka
  have hup:=iI hbr i hlr
  refine kgo ?_
  refine aL (fun h3=>?_) (fun h3=>?_)
  ·rw [if_pos h3] at hok
   have hx:(r.nodes[i]).parent<m.nodes.length:=by omega
   refine kgo ?_
   refine dm (n:=k) (fun _=>?_) rfl rfl (congrArg some hk0)
   refine kgo ?_
   refine jE (fun h5=>?_) (fun h5=>?_)
   ·rw [decide_eq_false h5] at hok
    refine kgo ?_
    rw [br _ _ i hlt hok]
    exact aq
   ·rw [decide_eq_true h5] at hok
    refine kgo ?_
    exact af (i+1) ⟨hlt,by rw [cL,hi.2,hok];rfl⟩ (by omega)
  ·rw [if_neg h3] at hok
   have hx : -1 - (r.nodes[i]).parent<m.roots.length:=by omega
   refine kgo ?_
   refine dm (n:=k) (fun _=>?_) rfl rfl (congrArg some hk0)
   refine kgo ?_
   refine jE (fun h5=>?_) (fun h5=>?_)
   ·rw [decide_eq_false h5] at hok
    refine kgo ?_
    rw [br _ _ i hlt hok]
    exact aq
   ·rw [decide_eq_true h5] at hok
    refine kgo ?_
    exact af (i+1) ⟨hlt,by rw [cL,hi.2,hok];rfl⟩ (by omega)
 refine kgo ?_
 rw [fL _ _ i (by omega) hi.1 hi.2]
 exact aq
theorem lE (b:Big) (p:Int):(cD b p).length≤b.sites.length:=de _ _
theorem qp (b:Big) (p:Int):(dC b p).length≤b.nodes.length:=de _ _
theorem DD {r a:Big} (m:Mat) (him:ox r a m.nodes) (dr:vz r) (da:vz a):FnD Tryz.prog 138 [r.D,a.D,m.D] (.d (.b ((List.range m.nodes.length).all (lu r a m)))):=by
 have hsi:=dr.4
 have hno:=da.3
 refine ah Tryz.func138 (fun hw W0=>?_)
 have hml:=(wfM hw.2.2.1.1).1
 refine kgo ?_
 refine ai [3,4,5] (fun i:Nat=>i≤m.nodes.length∧(List.range i).all (lu r a m)=true) (fun i=>m.nodes.length - i) (fun i=>[(7,.sy (.d (.i i)))]) 0 ⟨Nat.zero_le _,rfl⟩ (fun i hi=>?_)
 refine kgo ?_
 refine aL (fun h2=>?_) (fun h2=>?_)
 ·have hlt:i<m.nodes.length:=by omega
  have f1:=qK a m.nodes[i] (by omega)
  have f2:=ma r i (by omega)
  have hk1:=lE r i
  have hk2:=qp a m.nodes[i]
  have hok:lu r a m i=(!(decide ((cD r i).length=0)) || (dC a m.nodes[i]).all (dP m.nodes)):=by unfold lu;rw [cE _ i hlt]
  have hnext:lu r a m i=true→(List.range (i+1)).all (lu r a m)=true:=fun h=>by rw [cL,hi.2,h];rfl
  refine kgo ?_
  refine ai [3,4,5,7,8] (fun k:Nat=>k≤(dC a m.nodes[i]).length∧(0<k→(cD r i).length=0)∧((dC a m.nodes[i]).take k).all (dP m.nodes)=true) (fun k=>(dC a m.nodes[i]).length - k) (fun k=>[(9,.sy (.d (.i k)))]) 0 ⟨Nat.zero_le _,fun h=>absurd h (by omega),rfl⟩ (fun k hk=>?_)
  refine kgo ?_
  cases h4:decide ((k:Int)<((dC a m.nodes[i]).length:Int))
  ·have h4:=of_decide_eq_false h4
   rw [gB _ _ k (by omega) hk.2.2,Bool.or_true] at hok
   refine kgo ?_
   exact af (i+1) ⟨hlt,hnext hok⟩ (by omega)
  have h4:=of_decide_eq_true h4
  have hkl:k<(dC a m.nodes[i]).length:=by omega
  refine kgo ?_
  refine aL (fun h5=>?_) (fun h5=>?_)
  ·have f3:=jG m.nodes (dC a m.nodes[i])[k]
   refine kgo ?_
   refine cIf (fun h6=>?_) (fun h6=>?_)
   ·rw [Bool.not_eq_true'] at h6
    rw [decide_eq_true (by omega),show (dC a m.nodes[i]).all (dP m.nodes)=false from List.all_eq_false.2 ⟨_,List.getElem_mem hkl,by rw [h6];exact Bool.false_ne_true⟩] at hok
    refine kgo ?_
    rw [br _ _ i hlt hok]
    exact aq
   ·rw [Bool.not_eq_false'] at h6
    refine kgo ?_
    exact af (k+1) ⟨hkl,fun _=>by omega,by rw [List.take_succ_eq_append_getElem hkl,List.all_append,hk.2.2,List.all_cons,h6];rfl⟩ (by omega)
  ·rw [decide_eq_false (by omega)] at hok
   refine kgo ?_
   exact af (i+1) ⟨hlt,hnext hok⟩ (by omega)
 refine kgo ?_
 rw [fL _ _ i (by omega) hi.1 hi.2]
 exact aq
theorem sS {sig:List Ctl} {r a:Big} (m:Mat) (hbr:aF sig r=true) (hba:aF sig a=true) (hp0:∀l:Nat,l<ap r→aK r l≠[]):FnD Tryz.prog 91 [r.D,a.D,m.D] (.d (.b (dD r a m))):=by
 have dr:=bu hbr
 have da:=bu hba
 have f1:=xY r a m.nodes da.3 dr.3
 have f2:=xo r a m hba
 have hm:dD r a m=((rH r a m.nodes && fP r a m) && ((List.range m.nodes.length).all (pu r a m) && ((List.range m.nodes.length).all (lu r a m) && gw r a m.nodes))):=rfl
 have f3:rH r a m.nodes=true→fP r a m=true→FnD Tryz.prog 137 [r.D,a.D,m.D] (.d (.b ((List.range m.nodes.length).all (pu r a m)))):=fun h1 h2=>uv m hbr hba (iQ h1) (i1 h2)
 have f4:rH r a m.nodes=true→FnD Tryz.prog 138 [r.D,a.D,m.D] (.d (.b ((List.range m.nodes.length).all (lu r a m)))):=fun h1=>DD m (iQ h1) dr da
 have f5:rH r a m.nodes=true→FnD Tryz.prog 139 [r.D,a.D,m.D] (.tp [DI (pj r a m.nodes),.b (gw r a m.nodes)]):=fun h1=>tH m hbr hba (iQ h1) hp0
 refine ah Tryz.func91 (fun hw W0=>?_)
 rw [hm]
 refine kgo ?_
 cases h1:rH r a m.nodes
 ·refine kgo ?_
  exact aq
 have f4:=f4 h1
 have f5:=f5 h1
 refine kgo ?_
 cases h2:fP r a m
 ·refine kgo ?_
  exact aq
 have f3:=f3 h1 h2
 refine kgo ?_
 cases h3:(List.range m.nodes.length).all (pu r a m)
 ·refine kgo ?_
  exact aq
 refine kgo ?_
 cases h4:(List.range m.nodes.length).all (lu r a m)
 ·refine kgo ?_
  exact aq
 refine kgo ?_
 exact aq
end Go.Proofs.YtacafmejcdgboaaGreatDoor
namespace Go.Proofs.YtacafmejcdgboaaGreatDoor
open Go.RowKit
set_option linter.unusedVariables false
set_option maxRecDepth 100000
set_option maxHeartbeats 4000000
attribute [local irreducible] ar Der At
def Iy (n:Nat):List Int:=(List.range n).map fun (i:Nat)=>(i:Int)
theorem DO (n:Nat):(Iy n).length=n:=by unfold Iy;simp
end Go.Proofs.YtacafmejcdgboaaGreatDoor
namespace Go.Proofs.YtacafmejcdgboaaGreatDoor
open Go.RowKit
set_option linter.unusedVariables false
set_option maxRecDepth 100000
set_option maxHeartbeats 4000000
attribute [local irreducible] ar Der At
theorem Dv (b:Big) (l:Int) (hl:b.inner.length≤1000):FnD Tryz.prog 314 [b.D,.i l] (.d (DS (nF b l))):=by
 refine ah Tryz.func314 (fun hw W0=>?_)
 refine kgo ?_
 refine ai [1,2] (fun i:Nat=>i≤b.inner.length) (fun i=>b.inner.length - i) (fun i=>[(5,.sy (.k 20001)),(20001,.tk (.row 1 9 ((eA b l i).map .s))),(6,.sy (.d (.i i)))]) 0 (Nat.zero_le _) (fun i hi=>?_)
 refine kgo ?_
 refine aL (fun h=>?_) (fun h=>?_)
 ·have hlt:i<b.inner.length:=by omega
  have hq:=kC b l i
  refine kgo ?_
  refine aL (fun h2=>?_) (fun h2=>?_)
  ·have hs:(eA b l (i+1)).map D.s=(eA b l i).map D.s++[.s (b.inner[i]).name]:=by rw [qa hlt h2,List.map_append];rfl
   refine kgo ?_
   exact af (i+1) hlt (by omega)
  ·have hs:(eA b l (i+1)).map D.s=(eA b l i).map D.s:=by rw [rX hlt h2]
   refine kgo ?_
   exact af (i+1) hlt (by omega)
 rw [show nF b l=eA b l i from by rw [show i=b.inner.length by omega];rfl]
 repeat (first|(refine cy ?_;first|refine aV ?_|refine bY ?_|refine aY ?_|refine aZ ?_|refine aS ?_|refine bg ?_|refine bi ?_|refine ay ?_|refine be ?_)|(refine fo ?_;first|refine bQ ?_|refine eZ ?_|refine cr ?_|refine b8 ?_)|(refine fa ?_;first|refine dm (fun _=>?_)|refine b9 ?_|refine cm ?_|refine bG ?_|refine cw ?_|refine ck ?_)|(refine fh ?_;first|refine cg ?_|refine eB ?_|refine bT ?_|refine bI ?_|refine cq ?_|refine bV ?_|refine bZ ?_)|(refine fe ?_;first|refine fl ?_|refine eS ?_|refine cd ?_|refine bP ?_|refine fq ?_|refine bl ?_|refine bo ?_)|(refine cu ?_;first|refine aX ?_|refine ch ?_)|(refine ff ?_;first|refine fF (d:=4) ?_|refine cj ?_|refine ct ?_|refine ft ?_)|(refine cf ?_;first|refine ca ?_|refine bd ?_|refine aQ ?_|refine ba ?_|refine aU ?_|refine bh ?_)|(refine fc ?_;first|refine b7 ?_|refine eY ?_|refine bj ?_|refine aR ?_|refine bm ?_)|(refine aI ?_;first|refine au _ ?_|refine bf ?_|refine aA ?_|refine av ?_|refine ax ?_)|(refine fu ?_;first|refine cb ?_|refine bH ?_|refine bX ?_)|(refine gOp ?_;first|refine fd ?_|refine fm ?_|refine bc ?_|refine fp ?_|refine fj ?_|refine bU ?_|refine aT ?_|refine co ?_|refine fw ?_|refine bM ?_|refine b6 ?_|refine bk ?_|refine az ?_|refine bW ?_|refine sNo ?_|refine dO ?_|refine aw ?_)|refine dZ ?_|refine cN ?_|refine fB ?_|refine bp ?_|refine cz ?_|refine bB ?_|refine fC ?_|refine fI ?_|refine fx ?_|refine df ?_|refine cC ?_|refine aN ?_|refine aB ?_|refine bq ?_|refine ci ?_|refine bC ?_|refine aBlkX ?_|refine cA ?_)
 exact aq
theorem sB {α:Type} (l:List α):decide ((l.length:Int)=0)=l.isEmpty:=by cases l <;> simp <;> omega
theorem Cl {b:Big} (d:vz b) (l:Int) (hi:b.inner.length≤1000):FnD Tryz.prog 279 [b.D,.i l] (.d (.b (pE b l))):=by
 have f1:=lJ b l d.3 d.7
 have f2:=Dv b l hi
 have hpl:=eu b l d.3 d.7
 have hel:=kC b l b.inner.length
 refine ah Tryz.func279 (fun hw W0=>?_)
 refine kgo ?_
 have e1:=sB (aK b l)
 have e2:=sB (nF b l)
 unfold pE
 rw [← e1,← e2]
 cases h:decide (((aK b l).length:Int)=0)
 ·refine kgo ?_
  exact aq
 ·refine kgo ?_
  exact aq
theorem uk {b:Big} (h:(List.range (ap b)).all (dG b)=false):bF b=false:=by unfold bF;rw [h];simp
theorem zj {b:Big} (d:vz b) (hi:b.inner.length≤1000):FnD Tryz.prog 246 [b.D] (.d (.b (bF b))):=by
 have hr:=bK d.1
 have he:=bK d.2
 have hn:=d.3
 have hs:=d.4
 have ho:=d.5
 obtain ⟨R,hR⟩:=Int.eq_ofNat_of_zero_le hr.1
 have hlk:b.edges+(b.outer.length:Int)=(ap b:Nat):=by unfold ap;omega
 have hroot:∀i:Nat,i2 b i=(!(decide ((dC b (-1 - (i:Int))).length=0)) && decide ((cD b (-1 - (i:Int))).length=0)):=fun i=>rfl
 refine ah Tryz.func246 (fun hw W0=>?_)
 refine kgo ?_
 cases h1:decide ((0:Int)<b.inner.length)
 ·have h1:=of_decide_eq_false h1
  refine kgo ?_
  refine aL (fun h2=>?_) (fun h2=>?_)
  ·refine kgo ?_
   rw [ph (.inr h2)]
   exact aq
  refine kgo ?_
  refine ai [1] (fun i:Nat=>i≤R∧(List.range i).all (i2 b)=true) (fun i=>R - i) (fun i=>[(3,.sy (.d (.i i)))]) 0 ⟨Nat.zero_le _,rfl⟩ (fun i hi=>?_)
  refine kgo ?_
  refine aL (fun h3=>?_) (fun h3=>?_)
  ·have hlt:i<R:=by omega
   have f1:=qK b (-1 - (i:Int)) (by omega)
   have f2:=ma b (-1 - (i:Int)) (by omega)
   have hk1:=lE b (-1 - (i:Int))
   have hk2:=qp b (-1 - (i:Int))
   have hok:=hroot i
   have bad:i2 b i=false→bF b=false:=fun h=>ut i (by rw [hR];exact hlt) h
   refine kgo ?_
   cases h4:decide (((dC b (-1 - (i:Int))).length:Int)=0)
   ·have h4:=of_decide_eq_false h4
    rw [decide_eq_false (by omega)] at hok
    refine kgo ?_
    refine aL (fun h5=>?_) (fun h5=>?_)
    ·rw [decide_eq_false (by omega)] at hok
     refine kgo ?_
     rw [bad hok]
     exact aq
    ·rw [decide_eq_true (by omega)] at hok
     refine kgo ?_
     exact af (i+1) ⟨hlt,by rw [cL,hi.2,hok];rfl⟩ (by omega)
   ·have h4:=of_decide_eq_true h4
    rw [decide_eq_true (by omega)] at hok
    refine kgo ?_
    rw [bad hok]
    exact aq
  have hroots:(List.range b.roots.toNat).all (i2 b)=true:=by rw [hR,Int.toNat_natCast];exact fL _ _ i (by omega) hi.1 hi.2
  refine kgo ?_
  refine ai [1] (fun i:Nat=>i≤b.nodes.length∧(List.range i).all (dS b)=true) (fun i=>b.nodes.length - i) (fun i=>[(4,.sy (.d (.i i)))]) 0 ⟨Nat.zero_le _,rfl⟩ (fun i hi=>?_)
  refine kgo ?_
  refine aL (fun h3=>?_) (fun h3=>?_)
  ·have hlt:i<b.nodes.length:=by omega
   have f2:=ma b i (by omega)
   have hk1:=lE b i
   have hok:dS b i=decide ((cD b i).length≤1):=rfl
   refine kgo ?_
   refine aL (fun h5=>?_) (fun h5=>?_)
   ·rw [decide_eq_false (by omega)] at hok
    refine kgo ?_
    rw [uK i hlt hok]
    exact aq
   ·rw [decide_eq_true (by omega)] at hok
    refine kgo ?_
    exact af (i+1) ⟨hlt,by rw [cL,hi.2,hok];rfl⟩ (by omega)
  have hnodes:(List.range b.nodes.length).all (dS b)=true:=fL _ _ i (by omega) hi.1 hi.2
  refine kgo ?_
  refine ai [1] (fun i:Nat=>i≤ap b∧(List.range i).all (dG b)=true) (fun i=>ap b - i) (fun i=>[(5,.sy (.d (.i i)))]) 0 ⟨Nat.zero_le _,rfl⟩ (fun i hi=>?_)
  refine kgo ?_
  refine aL (fun h3=>?_) (fun h3=>?_)
  ·have hlt:i<ap b:=by omega
   have f2:=Cl d i (by assumption)
   have hok:dG b i = !(pE b i):=rfl
   refine kgo ?_
   refine cIf (fun h5=>?_) (fun h5=>?_)
   ·rw [h5] at hok
    refine kgo ?_
    rw [uk (br _ _ i hlt hok)]
    exact aq
   ·rw [h5] at hok
    refine kgo ?_
    exact af (i+1) ⟨hlt,by rw [cL,hi.2,hok];rfl⟩ (by omega)
  refine kgo ?_
  rw [yz (by omega) h2 hroots hnodes (fL _ _ i (by omega) hi.1 hi.2)]
  exact aq
 ·have h1:=of_decide_eq_true h1
  refine kgo ?_
  rw [ph (.inl (by omega))]
  exact aq
theorem sj (sig:List Ctl) (b:Big) (hl:b.inner.length≤1048576):FnD Tryz.prog 179 [.l 3 (sig.map Ctl.D),b.D] (.d (.b (aF sig b && bF b))):=by
 have f1:=gh sig b (by omega)
 refine ah Tryz.func179 (fun hw W0=>?_)
 refine kgo ?_
 cases h:aF sig b
 ·refine kgo ?_
  exact aq
 ·have f2:=zj (bu h) (by have:=(aJ h).2.2.2.2.2;omega)
  refine kgo ?_
  exact aq
theorem rk (a c:List ByteArray):FnD Tryz.prog 180 [DS a,DS c] (.d (.b (eqS a c))):=by
 refine ah Tryz.func180 (fun hw W0=>?_)
 have hl:=(wfM hw.1).1
 have hl2:=(wfM hw.2.1).1
 refine kgo ?_
 refine ai [0,1] (fun i:Nat=>i≤a.length∧i≤c.length∧(List.range i).all (mb a c)=true) (fun i=>a.length - i) (fun i=>[(5,.sy (.d (.i i)))]) 0 ⟨Nat.zero_le _,Nat.zero_le _,rfl⟩ (fun i hi=>?_)
 refine kgo ?_
 cases h:decide ((i:Int)<a.length)
 ·have h:=of_decide_eq_false h
  refine kgo ?_
  rw [show eqS a c=decide ((a.length:Int)=c.length) from by unfold eqS;rw [fL _ _ i (by omega) hi.1 hi.2.2,Bool.and_true];exact decide_eq_decide.2 (by omega)]
  exact aq
 have h:=of_decide_eq_true h
 refine kgo ?_
 refine aL (fun h2=>?_) (fun h2=>?_)
 ·have hlt:i<a.length:=by omega
  have hlt2:i<c.length:=by omega
  have hs:=mt a c i hlt hlt2
  refine kgo ?_
  refine cIf (fun h3=>?_) (fun h3=>?_)
  ·refine kgo ?_
   rw [uO (c:=c) i hlt (by rw [hs];simpa using h3)]
   exact aq
  ·refine kgo ?_
   exact af (i+1) ⟨hlt,hlt2,by rw [cL,hi.2.2,hs];simpa using h3⟩ (by omega)
 ·refine kgo ?_
  rw [show eqS a c=decide ((a.length:Int)=c.length) from by unfold eqS;rw [decide_eq_false (by omega),Bool.false_and,decide_eq_false (by omega)]]
  exact aq
theorem yl (r:Rul) (h1:r.redex.sites.length≤1000) (h2:r.reactum.sites.length≤1000):FnD Tryz.prog 181 [r.D] (.d (.b (decide (r.copies.length=r.reactum.sites.length) && r.copies.all (gI r)))):=by
 refine ah Tryz.func181 (fun hw W0=>?_)
 have hl:=(wfM hw.1.2.2.1).1
 refine kgo ?_
 refine ai [1] (fun i:Nat=>i≤r.copies.length∧(r.copies.take i).all (gI r)=true) (fun i=>r.copies.length - i) (fun i=>[(3,.sy (.d (.i i)))]) 0 ⟨Nat.zero_le _,rfl⟩ (fun i hi=>?_)
 refine kgo ?_
 refine aL (fun h=>?_) (fun h=>?_)
 ·have hlt:i<r.copies.length:=by omega
  have f1:=pU r.copies[i] 0 (r.redex.sites.length - 1)
  have hok:gI r r.copies[i]=inR r.copies[i] 0 ((r.redex.sites.length:Int) - 1):=rfl
  refine kgo ?_
  refine cIf (fun h3=>?_) (fun h3=>?_)
  ·rw [Bool.not_eq_true'] at h3
   rw [h3] at hok
   refine kgo ?_
   rw [show r.copies.all (gI r)=false from List.all_eq_false.2 ⟨_,List.getElem_mem hlt,by rw [hok];exact Bool.false_ne_true⟩,Bool.and_false]
   exact aq
  ·rw [Bool.not_eq_false'] at h3
   rw [h3] at hok
   refine kgo ?_
   exact af (i+1) ⟨hlt,by rw [List.take_succ_eq_append_getElem hlt,List.all_append,hi.2,List.all_cons,hok];rfl⟩ (by omega)
 refine kgo ?_
 rw [gB _ _ i (by omega) hi.2,Bool.and_true,show decide (r.copies.length=r.reactum.sites.length)=decide ((r.copies.length:Int)=r.reactum.sites.length) from decide_eq_decide.2 (by omega)]
 exact aq
theorem wc (sig:List Ctl) (r:Rul) (h1:r.redex.inner.length≤1048576) (h2:r.reactum.inner.length≤1048576):FnD Tryz.prog 112 [.l 3 (sig.map Ctl.D),r.D] (.d (.b (fO sig r))):=by
 have f1:=sj sig r.redex h1
 have f2:=gh sig r.reactum (by omega)
 have f3:=rk r.redex.outer r.reactum.outer
 have hE:fO sig r=((aF sig r.redex && aF sig r.reactum) && (bF r.redex && (decide (r.reactum.inner.length=0) && (decide (r.redex.roots=r.reactum.roots) && (eqS r.redex.outer r.reactum.outer && (decide (r.copies.length=r.reactum.sites.length) && r.copies.all (gI r))))))):=rfl
 have hz:decide (r.reactum.inner.length=0)=decide ((r.reactum.inner.length:Int)=0):=decide_eq_decide.2 (by omega)
 rw [hz] at hE
 refine ah Tryz.func112 (fun hw W0=>?_)
 rw [hE]
 refine kgo ?_
 cases e1:aF sig r.redex
 ·refine kgo ?_
  exact aq
 cases e2:bF r.redex
 ·rw [Bool.false_and,Bool.and_false]
  refine kgo ?_
  exact aq
 refine kgo ?_
 cases e3:aF sig r.reactum
 ·refine kgo ?_
  exact aq
 refine kgo ?_
 cases e4:decide ((r.reactum.inner.length:Int)=0)
 ·refine kgo ?_
  exact aq
 refine kgo ?_
 cases e5:decide (r.redex.roots=r.reactum.roots)
 ·refine kgo ?_
  exact aq
 refine kgo ?_
 cases e6:eqS r.redex.outer r.reactum.outer
 ·refine kgo ?_
  exact aq
 have f4:=yl r (by have:=(bu e1).4;omega) (by have:=(bu e3).4;omega)
 refine kgo ?_
 exact aq
theorem zI (sig:List Ctl) (rs:List Rul) (hr:∀r∈rs,r.redex.inner.length≤1048576∧r.reactum.inner.length≤1048576):FnD Tryz.prog 87 [.l 3 (sig.map Ctl.D),.l 13 (rs.map Rul.D)] (.d (.b (fQ sig rs))):=by
 have f2:=Bo sig
 have f3:=pU rs.length 1 6
 refine ah Tryz.func87 (fun hw W0=>?_)
 have hl:=(wfM hw.2.1).1
 refine kgo ?_
 refine ai [0,1] (fun i:Nat=>i≤rs.length∧(rs.take i).all (fO sig)=true) (fun i=>rs.length - i) (fun i=>[(5,.sy (.d (.i i)))]) 0 ⟨Nat.zero_le _,rfl⟩ (fun i hi=>?_)
 refine kgo ?_
 refine aL (fun h=>?_) (fun h=>?_)
 ·have hlt:i<rs.length:=by omega
  have hm:=List.getElem_mem hlt
  have f1:=wc sig rs[i] (hr _ hm).1 (hr _ hm).2
  refine kgo ?_
  refine cIf (fun h3=>?_) (fun h3=>?_)
  ·rw [Bool.not_eq_true'] at h3
   refine kgo ?_
   rw [show fQ sig rs=false from by unfold fQ;rw [show rs.all (fO sig)=false from List.all_eq_false.2 ⟨_,hm,by rw [h3];exact Bool.false_ne_true⟩,Bool.and_false]]
   exact aq
  ·rw [Bool.not_eq_false'] at h3
   refine kgo ?_
   exact af (i+1) ⟨hlt,by rw [List.take_succ_eq_append_getElem hlt,List.all_append,hi.2,List.all_cons,h3];rfl⟩ (by omega)
 have hall:=gB _ _ i (by omega) hi.2
 have hE:fQ sig rs=inR (rs.length:Int) 1 6:=by unfold fQ;rw [hall,Bool.and_true]
 refine kgo ?_
 cases e1:kV sig
 ·rw [show fQ sig rs=false from by
   cases hb:fQ sig rs with
   | false=>rfl
   | true=>rw [x6 hb] at e1;cases e1]
  refine kgo ?_
  exact aq
 ·rw [hE]
  refine kgo ?_
  exact aq
theorem AX (sig:List Ctl) (b:Big) (hl:b.inner.length≤1048576):FnD Tryz.prog 38 [.l 3 (sig.map Ctl.D),b.D] (.d (.b (fS sig b))):=by
 have f1:=gh sig b (by omega)
 have hE:fS sig b=(aF sig b && (decide ((b.sites.length:Int)=0) && decide ((b.inner.length:Int)=0))):=by
  unfold fS
  rw [show decide (b.sites.length=0)=decide ((b.sites.length:Int)=0) from decide_eq_decide.2 (by omega),show decide (b.inner.length=0)=decide ((b.inner.length:Int)=0) from decide_eq_decide.2 (by omega)]
 refine ah Tryz.func38 (fun hw W0=>?_)
 have hs:=(wfM hw.2.1.2.2.1).1
 rw [hE]
 refine kgo ?_
 cases e1:aF sig b
 ·refine kgo ?_
  exact aq
 refine kgo ?_
 cases e2:decide ((b.sites.length:Int)=0)
 ·refine kgo ?_
  exact aq
 refine kgo ?_
 exact aq
end Go.Proofs.YtacafmejcdgboaaGreatDoor
namespace Go.Proofs.YtacafmejcdgboaaGreatDoor
open Go.RowKit
set_option linter.unusedVariables false
set_option maxRecDepth 100000
set_option maxHeartbeats 4000000
attribute [local irreducible] ar Der At
theorem cF {r a:Big} {m:Mat} (h:dD r a m=true):rH r a m.nodes=true∧fP r a m=true∧(List.range m.nodes.length).all (lu r a m)=true∧gw r a m.nodes=true:=by
 unfold dD at h
 simp only [Bool.and_eq_true] at h
 exact ⟨h.1.1,h.1.2,h.2.2.1,h.2.2.2⟩
theorem lD {r a:Big} {m:Mat} (h:fP r a m=true):∀p∈m.roots,-a.roots≤p∧p<(a.nodes.length:Int):=fun p hp=>by
 unfold fP at h
 rw [Bool.and_eq_true] at h
 have h2:=List.all_eq_true.1 h.1 p hp
 unfold jP at h2
 rw [Bool.and_eq_true] at h2
 have:=bK h2.1
 omega
theorem ii {sig:List Ctl} {r:Rul} (h:fO sig r=true):aF sig r.redex=true∧aF sig r.reactum=true∧bF r.redex=true∧r.reactum.inner.length=0∧r.redex.roots=r.reactum.roots∧eqS r.redex.outer r.reactum.outer=true∧r.copies.length=r.reactum.sites.length∧r.copies.all (gI r)=true:=by
 unfold fO at h
 simp only [Bool.and_eq_true,decide_eq_true_eq] at h
 obtain ⟨⟨a,b⟩,c,d,e,f,g,i⟩:=h
 exact ⟨a,b,c,d,e,f,g,i⟩
theorem oV {r a:Big} {m:Mat} (h:dD r a m=true) (i:Nat) (hi:i<a.nodes.length) (h1:mw a m.nodes i=true) (h2:dP m.nodes (dR a i).parent=true):0<(cD r (dc m.nodes (dR a i).parent)).length:=by
 have hk:=(cF h).2.2.1
 have hm:=cM.1 h2
 have hlt:m.nodes.idxOf (dR a i).parent<m.nodes.length:=List.idxOf_lt_length_of_mem hm
 have h3:=(aG _ _).1 hk _ hlt
 have he:atI m.nodes (m.nodes.idxOf (dR a i).parent:Nat)=(dR a i).parent:=by rw [cE _ _ hlt];exact List.getElem_idxOf hlt
 unfold lu at h3
 rw [he] at h3
 rw [show dc m.nodes (dR a i).parent=(m.nodes.idxOf (dR a i).parent:Nat) from if_pos h2]
 by_cases hz:(cD r (m.nodes.idxOf (dR a i).parent:Nat)).length=0
 ·rw [decide_eq_true hz,Bool.not_true,Bool.false_or] at h3
  have hik:(i:Int)∈dC a (dR a i).parent:=bw.2 ⟨i,hi,by unfold rF;rw [List.getElem?_eq_getElem hi,aD a i hi];exact decide_eq_true rfl,rfl⟩
  have h4:=List.all_eq_true.1 h3 _ hik
  unfold mw at h1
  rw [h4] at h1
  simp at h1
 ·omega
theorem mX {outer:List ByteArray} {n:Nat} (h:n+outer.length≤16):(bJ outer n).length=n:=by
 have:=zn outer 26 (Nat.le_refl _)
 show ((kY outer 26).take n).length=n
 rw [List.length_take];omega
theorem qQ {r a:Big} {ns:List Int} (h:(dJ r a ns).2.2=true):(dJ r a ns).2.1.length=(dJ r a ns).1.length∧(dJ r a ns).1.length≤16∧∀l∈(dJ r a ns).1,0≤l∧l<(ap a:Int):=by
 unfold dJ at h ⊢
 split at h
 ·cases h
 ·rename_i hn
  rw [if_neg hn]
  have hn:=of_decide_eq_false (by simpa using hn:decide (16<((idxOf (psF a ns) (ap a)).length:Int)+r.outer.length)=false)
  dsimp only
  refine ⟨mX (by omega),by omega,fun l hl=>?_⟩
  obtain ⟨i,hi,_,rfl⟩:=bw.1 hl
  omega
abbrev gN (r:Big) (a:Big) (m:Mat):Big:=GF r a m (dJ r a m.nodes).1 (dJ r a m.nodes).2.1
abbrev fY (r:Big) (a:Big) (m:Mat):Big:=GY r a m (dJ r a m.nodes).1 (dJ r a m.nodes).2.1
def fM (sig:List Ctl) (r:Rul) (a:Big) (m:Mat):Big × Bool:=
 if (dJ r.redex a m.nodes).2.2 && (aF sig (gN r.redex a m) && aF sig (fY r.redex a m)) then mW sig r.reactum (gN r.redex a m) (mn r.copies (fY r.redex a m)) else (fN,false)
theorem lN {sig:List Ctl} {r:Rul} {a:Big} {m:Mat} (h:((dJ r.redex a m.nodes).2.2 && (aF sig (gN r.redex a m) && aF sig (fY r.redex a m)))=false):fM sig r a m=(fN,false):=by unfold fM;rw [h];rfl
theorem ov {sig:List Ctl} {r:Rul} {a:Big} {m:Mat} (h:((dJ r.redex a m.nodes).2.2 && (aF sig (gN r.redex a m) && aF sig (fY r.redex a m)))=true):fM sig r a m=mW sig r.reactum (gN r.redex a m) (mn r.copies (fY r.redex a m)):=by unfold fM;rw [h];rfl
theorem xn {sig:List Ctl} {a b:Big} (h:(eP sig a b).2=true):(eP sig a b).1=s6 a b∧aF sig (s6 a b)=true:=by
 unfold eP at h ⊢
 split at h
 ·rename_i hc
  rw [if_pos hc]
  simp only [Bool.and_eq_true] at hc
  exact ⟨rfl,hc.2.2.2⟩
 ·cases h
theorem vD {sig:List Ctl} {r:Rul} {a:Big} {m:Mat} (h:(fM sig r a m).2=true):fS sig (fM sig r a m).1=true:=by
 cases hc:((dJ r.redex a m.nodes).2.2 && (aF sig (gN r.redex a m) && aF sig (fY r.redex a m))) with
 | false=>rw [lN hc] at h;cases h
 | true=>
  rw [ov hc] at h ⊢
  unfold mW at h ⊢
  split at h
  ·rename_i h1
   split at h
   ·rename_i h2
    rw [if_pos h1,if_pos h2]
    obtain ⟨e1,e2⟩:=xn h
    rw [e1]
    unfold fS
    rw [e2]
    rfl
   ·cases h
  ·cases h
theorem A7 {sig:List Ctl} {r:Rul} {a:Big} (m:Mat) (hr:fO sig r=true) (ha:aF sig a=true) (hm:dD r.redex a m=true):FnD Tryz.prog 93 [.l 3 (sig.map Ctl.D),r.D,a.D,m.D] (.tp [(fM sig r a m).1.D,.b (fM sig r a m).2]):=by
 obtain ⟨r1,r2,r3,r4,r5,r6,r7,r8⟩:=ii hr
 obtain ⟨m1,m2,m3,m4⟩:=cF hm
 have hd:=aJ r1
 have hd2:=aJ r2
 have f1:=yP (r:=r.redex) ha m (by omega)
 have hml:=i1 (rs:=m.roots) (ns:=m.nodes) m2
 have f2:(dJ r.redex a m.nodes).2.2=true→FnD Tryz.prog 142 [r.redex.D,a.D,m.D,DI (dJ r.redex a m.nodes).1,DS (dJ r.redex a m.nodes).2.1] (.d (gN r.redex a m).D):=fun h=>by
  obtain ⟨p1,p2,p3⟩:=qQ h
  exact uz m r1 ha (iQ m1) (fW r3) m4 (fun p hp=>(lD m2 p hp).2) (by omega) _ _ p3 p1 (by omega)
 have f3:(dJ r.redex a m.nodes).2.2=true→FnD Tryz.prog 143 [r.redex.D,a.D,m.D,DI (dJ r.redex a m.nodes).1,DS (dJ r.redex a m.nodes).2.1] (.d (fY r.redex a m).D):=fun h=>by
  obtain ⟨p1,p2,p3⟩:=qQ h
  exact Cn m r1 ha (oV hm) _ _ p3 p1 (by omega)
 have hx:(dJ r.redex a m.nodes).2.2=true→(gN r.redex a m).inner.length≤1000:=fun h=>by
  obtain ⟨p1,p2,p3⟩:=qQ h
  show (bR _ _).length≤1000
  rw [kq]
  unfold og zW
  rw [List.length_mapIdx,List.length_mapIdx];omega
 refine ah Tryz.func93 (fun hw W0=>?_)
 refine kgo ?_
 cases h1:(dJ r.redex a m.nodes).2.2
 ·rw [lN (by rw [h1];rfl)]
  refine kgo ?_
  exact iA
 have f2:=f2 h1
 have f3:=f3 h1
 have hx:=hx h1
 have f4:=gh sig (gN r.redex a m) (by omega)
 have f5:=gh sig (fY r.redex a m) (by show (0:Nat)≤_;omega)
 have hno:(aF sig (gN r.redex a m) && aF sig (fY r.redex a m))=false→fM sig r a m=(fN,false):=fun h=>lN (by rw [h1,h];rfl)
 have hyes:(aF sig (gN r.redex a m) && aF sig (fY r.redex a m))=true→fM sig r a m=mW sig r.reactum (gN r.redex a m) (mn r.copies (fY r.redex a m)):=fun h=>ov (by rw [h1,h];rfl)
 generalize gN r.redex a m=C at *
 generalize fY r.redex a m=Q at *
 refine kgo ?_
 cases h2:aF sig C
 ·rw [hno (by rw [h2];rfl)]
  refine kgo ?_
  exact iA
 refine kgo ?_
 cases h3:aF sig Q
 ·rw [hno (by rw [h2,h3];rfl)]
  refine kgo ?_
  exact iA
 rw [hyes (by rw [h2,h3];rfl)]
 have f6:=rU r h3 (by omega)
 have f7:=yb sig r.reactum C (mn r.copies Q) (by omega) (by show (0:Nat)≤_;omega)
 refine kgo ?_
 exact iA
theorem kg {sig:List Ctl} {b:Big} (h:fS sig b=true):aF sig b=true:=(Bool.and_eq_true_iff.1 h).1
end Go.Proofs.YtacafmejcdgboaaGreatDoor
namespace Go.Proofs.YtacafmejcdgboaaGreatDoor
open Go.RowKit Go.ChangeShapes Go.WideShapes Go.ChangeAt Go.Joins
set_option linter.unusedVariables false
set_option linter.unusedSimpArgs false
set_option maxRecDepth 100000
theorem own:ownKnob Tryz.prog.godebug=none:=by kernel_rfl
theorem vE:laidOutB Tryz.prog=true:=by kernel_rfl
def Ds : List (String × DataW Unit) := [("unicode/utf8.acceptRanges", Rows.laid_unicode_utf8_acceptRanges), ("unicode/utf8.first", Rows.laid_unicode_utf8_first)]
theorem D9 (os:Os) (args:Array Value):laidMetH Tryz.prog Ds ((World.laidAll Tryz.prog os Ds).forCall (fun _ _=>0) ⟨#[],args,[]⟩).memory:=by
 rw [MakeChecks.laidMetH_plain _ _ _ (by kernel_rfl)];exact laidMet_laidAll _ (by kernel_rfl) (by kernel_rfl)
def LD {α:Type} (f:α→D):Lie α:=fun lo hi w cs x=>Rp w (fun b=>b<hi) (f x) cs
theorem oM {α:Type} {f:α→D} {z hi:Nat} {w:World} {v:Value} {xs:List α} (h:SlV z (LD f) 0 hi w v xs):Rp w (fun b=>b<hi) (.l z (xs.map f)) [v]:=by
 obtain ⟨a,k,h1,h2,h3,h4,h5⟩:=h
 refine ⟨a,k,by rw [h1,List.length_map],by rw [List.length_map];exact h2,h3,h4,?_⟩
 rcases h5 with h5|⟨b,o,e1,_,e2,e3⟩
 ·exact .inl (by rw [h5];rfl)
 ·refine .inr ⟨b,o,e1,e2,(iB _ _).2 fun j hj=>?_⟩
  obtain ⟨cs,q1,q2,q3⟩:=e3 j (by rw [List.length_map] at hj;exact hj)
  exact ⟨cs,q1,by rw [List.getElem_map];exact q2,q3⟩
section
variable {H:Type} {enc:TypeId × Value→H} {w:World}
theorem eH:Tryz.prog.cellsOf 3=1:=by kernel_rfl
theorem jM:Tryz.prog.cellsOf 9=1:=by kernel_rfl
theorem iH:fK enc Tryz.prog w 3 (LD D.i):=fun fuel cs x h=>by obtain ⟨n,h1,h2⟩:=z8 Tryz.underlying3 fuel cs x h;exact ⟨n,h1,h2⟩
theorem tY:fK enc Tryz.prog w 9 (LD D.s):=fun fuel cs x h=>by obtain ⟨n,h1,h2⟩:=rS Tryz.underlying9 fuel cs x h;exact ⟨n,h1,h2⟩
theorem lW:Tryz.prog.cellsOf 73=3:=by kernel_rfl
theorem rB:fK enc Tryz.prog w 73 (LD Ctl.D):=by
 intro fuel cs x h
 obtain ⟨hl,n,hf⟩:=eX Tryz.underlying73 h
 rw [lW] at hl
 obtain ⟨c0,c1,c2,rfl⟩:=GI hl
 obtain ⟨y0,e0⟩:=hf 0 _ rfl
 replace e0:DataW.trod enc Tryz.prog w 0 (fun _=>true) true n 9 [c0]=some y0:=by simpa [jM] using e0
 obtain ⟨x0,b0⟩:=tY _ _ _ e0
 obtain ⟨y1,e1⟩:=hf 1 _ rfl
 replace e1:DataW.trod enc Tryz.prog w 0 (fun _=>true) true n 3 [c1]=some y1:=by simpa [eH] using e1
 obtain ⟨x1,b1⟩:=iH _ _ _ e1
 obtain ⟨y2,e2⟩:=hf 2 _ rfl
 replace e2:DataW.trod enc Tryz.prog w 0 (fun _=>true) true n 3 [c2]=some y2:=by simpa [eH] using e2
 obtain ⟨x2,b2⟩:=iH _ _ _ e2
 exact ⟨⟨x0,x1,x2⟩,[c0],_,rfl,b0,[c1],_,rfl,b1,[c2],_,rfl,b2,rfl⟩
theorem mQ:Tryz.prog.cellsOf 25=1:=by kernel_rfl
theorem mK:∀fuel cs x,DataW.trod enc Tryz.prog w 0 (fun _=>true) true fuel 25 cs=some x→∃v xs,cs = [v]∧Rp w (fun b=>b<w.heap.size) (.l 1 (List.map D.i xs)) [v]:=fun fuel cs x h=>by obtain ⟨v,xs,h1,h2⟩:=eM Tryz.underlying25 eH (by decide) iH fuel cs x h;exact ⟨v,xs,h1,oM h2⟩
theorem pT:Tryz.prog.cellsOf 136=3:=by kernel_rfl
theorem xJ:fK enc Tryz.prog w 136 (LD Nd.D):=by
 intro fuel cs x h
 obtain ⟨hl,n,hf⟩:=eX Tryz.underlying136 h
 rw [pT] at hl
 obtain ⟨c0,c1,c2,rfl⟩:=GI hl
 obtain ⟨y0,e0⟩:=hf 0 _ rfl
 replace e0:DataW.trod enc Tryz.prog w 0 (fun _=>true) true n 3 [c0]=some y0:=by simpa [eH] using e0
 obtain ⟨x0,b0⟩:=iH _ _ _ e0
 obtain ⟨y1,e1⟩:=hf 1 _ rfl
 replace e1:DataW.trod enc Tryz.prog w 0 (fun _=>true) true n 3 [c1]=some y1:=by simpa [eH] using e1
 obtain ⟨x1,b1⟩:=iH _ _ _ e1
 obtain ⟨y2,e2⟩:=hf 2 _ rfl
 replace e2:DataW.trod enc Tryz.prog w 0 (fun _=>true) true n 25 [c2]=some y2:=by simpa [mQ] using e2
 obtain ⟨v2,x2,h2,b2⟩:=mK _ _ _ e2
 obtain rfl:=(List.cons.inj h2).1
 exact ⟨⟨x0,x1,x2⟩,[c0],_,rfl,b0,[c1],_,rfl,b1,[c2],_,rfl,b2,rfl⟩
theorem qc:Tryz.prog.cellsOf 139=2:=by kernel_rfl
theorem yj:fK enc Tryz.prog w 139 (LD Wr.D):=by
 intro fuel cs x h
 obtain ⟨hl,n,hf⟩:=eX Tryz.underlying139 h
 rw [qc] at hl
 obtain ⟨c0,c1,rfl⟩:=Jb hl
 obtain ⟨y0,e0⟩:=hf 0 _ rfl
 replace e0:DataW.trod enc Tryz.prog w 0 (fun _=>true) true n 9 [c0]=some y0:=by simpa [jM] using e0
 obtain ⟨x0,b0⟩:=tY _ _ _ e0
 obtain ⟨y1,e1⟩:=hf 1 _ rfl
 replace e1:DataW.trod enc Tryz.prog w 0 (fun _=>true) true n 3 [c1]=some y1:=by simpa [eH] using e1
 obtain ⟨x1,b1⟩:=iH _ _ _ e1
 exact ⟨⟨x0,x1⟩,[c0],_,rfl,b0,[c1],_,rfl,b1,rfl⟩
theorem tR:Tryz.prog.cellsOf 24=1:=by kernel_rfl
theorem uI:∀fuel cs x,DataW.trod enc Tryz.prog w 0 (fun _=>true) true fuel 24 cs=some x→∃v xs,cs = [v]∧Rp w (fun b=>b<w.heap.size) (.l 3 (List.map Nd.D xs)) [v]:=fun fuel cs x h=>by obtain ⟨v,xs,h1,h2⟩:=eM Tryz.underlying24 pT (by decide) xJ fuel cs x h;exact ⟨v,xs,h1,oM h2⟩
theorem ry:Tryz.prog.cellsOf 26=1:=by kernel_rfl
theorem rm:∀fuel cs x,DataW.trod enc Tryz.prog w 0 (fun _=>true) true fuel 26 cs=some x→∃v xs,cs = [v]∧Rp w (fun b=>b<w.heap.size) (.l 1 (List.map D.s xs)) [v]:=fun fuel cs x h=>by obtain ⟨v,xs,h1,h2⟩:=eM Tryz.underlying26 jM (by decide) tY fuel cs x h;exact ⟨v,xs,h1,oM h2⟩
theorem vL:Tryz.prog.cellsOf 27=1:=by kernel_rfl
theorem ui:∀fuel cs x,DataW.trod enc Tryz.prog w 0 (fun _=>true) true fuel 27 cs=some x→∃v xs,cs = [v]∧Rp w (fun b=>b<w.heap.size) (.l 2 (List.map Wr.D xs)) [v]:=fun fuel cs x h=>by obtain ⟨v,xs,h1,h2⟩:=eM Tryz.underlying27 qc (by decide) yj fuel cs x h;exact ⟨v,xs,h1,oM h2⟩
theorem gQ:Tryz.prog.cellsOf 29=6:=by kernel_rfl
theorem gR:fK enc Tryz.prog w 29 (LD Big.D):=by
 intro fuel cs x h
 obtain ⟨hl,n,hf⟩:=eX Tryz.underlying29 h
 rw [gQ] at hl
 obtain ⟨c0,c1,c2,c3,c4,c5,rfl⟩:=I2 hl
 obtain ⟨y0,e0⟩:=hf 0 _ rfl
 replace e0:DataW.trod enc Tryz.prog w 0 (fun _=>true) true n 3 [c0]=some y0:=by simpa [eH] using e0
 obtain ⟨x0,b0⟩:=iH _ _ _ e0
 obtain ⟨y1,e1⟩:=hf 1 _ rfl
 replace e1:DataW.trod enc Tryz.prog w 0 (fun _=>true) true n 24 [c1]=some y1:=by simpa [tR] using e1
 obtain ⟨v1,x1,h1,b1⟩:=uI _ _ _ e1
 obtain rfl:=(List.cons.inj h1).1
 obtain ⟨y2,e2⟩:=hf 2 _ rfl
 replace e2:DataW.trod enc Tryz.prog w 0 (fun _=>true) true n 25 [c2]=some y2:=by simpa [mQ] using e2
 obtain ⟨v2,x2,h2,b2⟩:=mK _ _ _ e2
 obtain rfl:=(List.cons.inj h2).1
 obtain ⟨y3,e3⟩:=hf 3 _ rfl
 replace e3:DataW.trod enc Tryz.prog w 0 (fun _=>true) true n 3 [c3]=some y3:=by simpa [eH] using e3
 obtain ⟨x3,b3⟩:=iH _ _ _ e3
 obtain ⟨y4,e4⟩:=hf 4 _ rfl
 replace e4:DataW.trod enc Tryz.prog w 0 (fun _=>true) true n 26 [c4]=some y4:=by simpa [ry] using e4
 obtain ⟨v4,x4,h4,b4⟩:=rm _ _ _ e4
 obtain rfl:=(List.cons.inj h4).1
 obtain ⟨y5,e5⟩:=hf 5 _ rfl
 replace e5:DataW.trod enc Tryz.prog w 0 (fun _=>true) true n 27 [c5]=some y5:=by simpa [vL] using e5
 obtain ⟨v5,x5,h5,b5⟩:=ui _ _ _ e5
 obtain rfl:=(List.cons.inj h5).1
 exact ⟨⟨x0,x1,x2,x3,x4,x5⟩,[c0],_,rfl,b0,[c1],_,rfl,b1,[c2],_,rfl,b2,[c3],_,rfl,b3,[c4],_,rfl,b4,[c5],_,rfl,b5,rfl⟩
theorem qe:Tryz.prog.cellsOf 76=13:=by kernel_rfl
theorem xO:fK enc Tryz.prog w 76 (LD Rul.D):=by
 intro fuel cs x h
 obtain ⟨hl,n,hf⟩:=eX Tryz.underlying76 h
 rw [qe] at hl
 obtain ⟨c0,c1,c2,c3,c4,c5,c6,c7,c8,c9,c10,c11,c12,rfl⟩:=GR hl
 obtain ⟨y0,e0⟩:=hf 0 _ rfl
 replace e0:DataW.trod enc Tryz.prog w 0 (fun _=>true) true n 29 [c0,c1,c2,c3,c4,c5]=some y0:=by simpa [gQ] using e0
 obtain ⟨x0,b0⟩:=gR _ _ _ e0
 obtain ⟨y1,e1⟩:=hf 1 _ rfl
 replace e1:DataW.trod enc Tryz.prog w 0 (fun _=>true) true n 29 [c6,c7,c8,c9,c10,c11]=some y1:=by simpa [gQ] using e1
 obtain ⟨x1,b1⟩:=gR _ _ _ e1
 obtain ⟨y2,e2⟩:=hf 2 _ rfl
 replace e2:DataW.trod enc Tryz.prog w 0 (fun _=>true) true n 25 [c12]=some y2:=by simpa [mQ] using e2
 obtain ⟨v2,x2,h2,b2⟩:=mK _ _ _ e2
 obtain rfl:=(List.cons.inj h2).1
 exact ⟨⟨x0,x1,x2⟩,[c0,c1,c2,c3,c4,c5],_,rfl,b0,[c6,c7,c8,c9,c10,c11],_,rfl,b1,[c12],_,rfl,b2,rfl⟩
theorem pF:∀fuel cs x,DataW.trod enc Tryz.prog w 0 (fun _=>true) true fuel 22 cs=some x→∃v xs,cs = [v]∧Rp w (fun b=>b<w.heap.size) (.l 3 (List.map Ctl.D xs)) [v]:=fun fuel cs x h=>by obtain ⟨v,xs,h1,h2⟩:=eM Tryz.underlying22 lW (by decide) rB fuel cs x h;exact ⟨v,xs,h1,oM h2⟩
theorem Hh {t:TypeId} {fs:Array Field} {α:Type} {f:α→D} {b0:Nat} {r:Reach} {v:Value} {d:DataW H} {p:List MemPlace} (hs:Tryz.prog.underlying t=some (.struct fs)) (ho:fK enc Tryz.prog w t (LD f))
 (hv:Value.okWide Tryz.prog w r b0 t v) (h:DataW.Trod enc Tryz.prog w 0 (fun _=>true) true t v d p):∃(cs:List Value) (x:α),v=.agg cs.toArray∧Rp w (fun b=>b<w.heap.size) (f x) cs:=by
 obtain ⟨cs,rfl,_⟩:=okWide_struct hs hv
 obtain ⟨fuel,hf⟩:=h
 obtain ⟨x,hx⟩:=ho _ _ _ hf
 exact ⟨cs.toList,x,by simp,by simpa [Value.cells,LD] using hx⟩
theorem AF {t e:TypeId} {α:Type} {f:α→D} {z b0:Nat} {r:Reach} {v:Value} {d:DataW H} {p:List MemPlace} (hs:Tryz.prog.underlying t=some (.slice e))
 (ho:∀fuel cs x,DataW.trod enc Tryz.prog w 0 (fun _=>true) true fuel t cs=some x→∃v xs,cs = [v]∧Rp w (fun b=>b<w.heap.size) (.l z (List.map f xs)) [v])
 (hv:Value.okWide Tryz.prog w r b0 t v) (h:DataW.Trod enc Tryz.prog w 0 (fun _=>true) true t v d p):∃(u:Value) (xs:List α),v=u∧Rp w (fun b=>b<w.heap.size) (.l z (List.map f xs)) [u]:=by
 obtain ⟨a,n,k,rfl⟩:=okWide_slice hs hv
 obtain ⟨fuel,hf⟩:=h
 obtain ⟨u,xs,e,hx⟩:=ho _ _ _ hf
 simp [Value.cells] at e
 exact ⟨u,xs,e,hx⟩
end
theorem Hg {f:FuncId} {ds:List D} (h:FnD Tryz.prog f ds (.d (.b true))) {vs:List Value} {w:World} (hv:DVs w (fun b=>b<w.heap.size) ds vs):Calls Tryz.prog f vs.toArray w fun e w'=>e=.returned (.bool true)∧Ext w w':=
 (h.calls _ w vs hv (fun _ h=>h)).mono fun e w' ⟨v,h1,h2,h3⟩=>⟨by rw [h1,show v=.bool true from (List.cons.inj (show [v] = [Value.bool true] from h3)).1],h2⟩
end Go.Proofs.YtacafmejcdgboaaGreatDoor
namespace Go.Proofs.YtacafmejcdgboaaGreatDoor
open Go.RowKit
set_option linter.unusedVariables false
set_option maxRecDepth 100000
set_option maxHeartbeats 1000000
attribute [local irreducible] ar Der At jr mkL cnL lj
def xg (m:Mat):Nat:=cnL c1 m.nodes+cnL c1 m.roots
theorem iT (n:Int) (h0:0≤n) (h1:n≤1000000000):FnD Tryz.prog 74 [.i n] (.d (.s (jr n))):=⟨bS Tryz.func74,fun F w vs hv hF=>by
 obtain ⟨v1,t,rfl,⟨h3,_⟩,h4⟩:=hv
 cases h3
 cases (show t = [] from h4)
 refine (oh n w h0 h1).mono ?_
 rintro e w' ⟨rfl,hX⟩
 exact ⟨_,rfl,hX,rfl,AB n h0 h1⟩⟩
theorem er (xs:List Int) (k:Int) (h0:0≤k) (h1:k+cnL c1 xs≤1000000000):FnM Tryz.prog 76 (.l 1 (xs.map D.i)) (.l 1 ((mkL mkI c1 k xs).map D.i)) k (k+cnL c1 xs):=by
 refine nz Tryz.func76 (DH h0 (by omega)) (fun W0 v M hM hw=>?_)
 have hw':xs.length≤9223372036854775807:=by rw [← List.length_map];exact hw
 refine kgm ?_
 refine ai [0,20000] (fun x:Nat × Int × List D=>x.1≤xs.length∧x.2.1=k+cnL c1 (xs.take x.1)∧x.2.2=(lj mkI c1 x.1 k xs).map D.i) (fun x=>xs.length - x.1) (fun x=>[(1,.sy (.d (.i x.2.1))),(5,.sy (.d (.i x.1))),(20000,.tk (.own (.l 1 x.2.2) none (some (v,M))))]) (0,k,xs.map D.i) ⟨Nat.zero_le _,by simp [cnL],by rw [gz]⟩ (fun x hx=>?_)
 obtain ⟨i,K,ds⟩:=x
 obtain ⟨hi,hK,hd⟩:=hx
 dsimp only at hi hK hd ⊢
 have hl:=tc hd
 have hc:=aH c1 xs i
 refine kgm ?_
 refine aL (fun h=>?_) (fun h=>?_)
 ·have hlt:i<xs.length:=by omega
  have hlt':i<ds.length:=by omega
  have hct:=ef c1 xs i hlt
  have hc':=aH c1 xs (i+1)
  have hcx:c1 xs[i]=1:=by first|rfl|(simp only [kO,ig,kU];omega)|(simp only [xg];omega)
  have hKb:K+c1 xs[i]≤1000000000:=by omega
  have hK0:0≤K:=by omega

  refine jK 20000 (congrArg (fun d=>Tk.own (.l 1 d) none (some (v,M))) (su hlt hd)) ?_
  refine kgm ?_
  exact af (i+1,K+1,ds.set i (D.i (mkI K xs[i]))) ⟨hlt,by show K+1=k+(cnL c1 (xs.take (i+1)):Nat);omega,nk hlt hd hK⟩ (by show _ - (i+1)<_ - i;omega)
 have hie:i=xs.length:=by omega
 rw [sk hie hd]
 rw [hie,fZ] at hK
 rw [← hK]
 refine kgm ?_
 exact Ed hM
theorem fA (xs:List ByteArray) (k:Int) (h0:0≤k) (h1:k+cnL c1 xs≤1000000000):FnM Tryz.prog 77 (.l 1 (xs.map D.s)) (.l 1 ((mkL mkS c1 k xs).map D.s)) k (k+cnL c1 xs):=by
 refine nz Tryz.func77 (DH h0 (by omega)) (fun W0 v M hM hw=>?_)
 have hw':xs.length≤9223372036854775807:=by rw [← List.length_map];exact hw
 refine kgm ?_
 refine ai [0,20000] (fun x:Nat × Int × List D=>x.1≤xs.length∧x.2.1=k+cnL c1 (xs.take x.1)∧x.2.2=(lj mkS c1 x.1 k xs).map D.s) (fun x=>xs.length - x.1) (fun x=>[(1,.sy (.d (.i x.2.1))),(5,.sy (.d (.i x.1))),(20000,.tk (.own (.l 1 x.2.2) none (some (v,M))))]) (0,k,xs.map D.s) ⟨Nat.zero_le _,by simp [cnL],by rw [gz]⟩ (fun x hx=>?_)
 obtain ⟨i,K,ds⟩:=x
 obtain ⟨hi,hK,hd⟩:=hx
 dsimp only at hi hK hd ⊢
 have hl:=tc hd
 have hc:=aH c1 xs i
 refine kgm ?_
 refine aL (fun h=>?_) (fun h=>?_)
 ·have hlt:i<xs.length:=by omega
  have hlt':i<ds.length:=by omega
  have hct:=ef c1 xs i hlt
  have hc':=aH c1 xs (i+1)
  have hcx:c1 xs[i]=1:=by first|rfl|(simp only [kO,ig,kU];omega)|(simp only [xg];omega)
  have hKb:K+c1 xs[i]≤1000000000:=by omega
  have hK0:0≤K:=by omega

  have f0:=iT (K) (by omega) (by omega)
  refine jK 20000 (congrArg (fun d=>Tk.own (.l 1 d) none (some (v,M))) (su hlt hd)) ?_
  refine kgm ?_
  exact af (i+1,K+1,ds.set i (D.s (mkS K xs[i]))) ⟨hlt,by show K+1=k+(cnL c1 (xs.take (i+1)):Nat);omega,nk hlt hd hK⟩ (by show _ - (i+1)<_ - i;omega)
 have hie:i=xs.length:=by omega
 rw [sk hie hd]
 rw [hie,fZ] at hK
 rw [← hK]
 refine kgm ?_
 exact Ed hM
theorem pJ (xs:List Ctl) (k:Int) (h0:0≤k) (h1:k+cnL c3 xs≤1000000000):FnM Tryz.prog 25 (.l 3 (xs.map Ctl.D)) (.l 3 ((mkL FQ c3 k xs).map Ctl.D)) k (k+cnL c3 xs):=by
 refine nz Tryz.func25 (DH h0 (by omega)) (fun W0 v M hM hw=>?_)
 have hw':xs.length≤9223372036854775807:=by rw [← List.length_map];exact hw
 refine kgm ?_
 refine ai [0,20000] (fun x:Nat × Int × List D=>x.1≤xs.length∧x.2.1=k+cnL c3 (xs.take x.1)∧x.2.2=(lj FQ c3 x.1 k xs).map Ctl.D) (fun x=>xs.length - x.1) (fun x=>[(1,.sy (.d (.i x.2.1))),(5,.sy (.d (.i x.1))),(20000,.tk (.own (.l 3 x.2.2) none (some (v,M))))]) (0,k,xs.map Ctl.D) ⟨Nat.zero_le _,by simp [cnL],by rw [gz]⟩ (fun x hx=>?_)
 obtain ⟨i,K,ds⟩:=x
 obtain ⟨hi,hK,hd⟩:=hx
 dsimp only at hi hK hd ⊢
 have hl:=tc hd
 have hc:=aH c3 xs i
 refine kgm ?_
 refine aL (fun h=>?_) (fun h=>?_)
 ·have hlt:i<xs.length:=by omega
  have hlt':i<ds.length:=by omega
  have hct:=ef c3 xs i hlt
  have hc':=aH c3 xs (i+1)
  have hcx:c3 xs[i]=3:=by first|rfl|(simp only [kO,ig,kU];omega)|(simp only [xg];omega)
  have hKb:K+c3 xs[i]≤1000000000:=by omega
  have hK0:0≤K:=by omega

  have f0:=iT (K) (by omega) (by omega)
  refine jK 20000 (congrArg (fun d=>Tk.own (.l 3 d) none (some (v,M))) (su hlt hd)) ?_
  refine kgm ?_
  exact af (i+1,K+1+1+1,ds.set i (Ctl.D (FQ K xs[i]))) ⟨hlt,by show K+1+1+1=k+(cnL c3 (xs.take (i+1)):Nat);omega,nk hlt hd hK⟩ (by show _ - (i+1)<_ - i;omega)
 have hie:i=xs.length:=by omega
 rw [sk hie hd]
 rw [hie,fZ] at hK
 rw [← hK]
 refine kgm ?_
 exact Ed hM
theorem ij (xs:List Wr) (k:Int) (h0:0≤k) (h1:k+cnL c2 xs≤1000000000):FnM Tryz.prog 78 (.l 2 (xs.map Wr.D)) (.l 2 ((mkL yT c2 k xs).map Wr.D)) k (k+cnL c2 xs):=by
 refine nz Tryz.func78 (DH h0 (by omega)) (fun W0 v M hM hw=>?_)
 have hw':xs.length≤9223372036854775807:=by rw [← List.length_map];exact hw
 refine kgm ?_
 refine ai [0,20000] (fun x:Nat × Int × List D=>x.1≤xs.length∧x.2.1=k+cnL c2 (xs.take x.1)∧x.2.2=(lj yT c2 x.1 k xs).map Wr.D) (fun x=>xs.length - x.1) (fun x=>[(1,.sy (.d (.i x.2.1))),(5,.sy (.d (.i x.1))),(20000,.tk (.own (.l 2 x.2.2) none (some (v,M))))]) (0,k,xs.map Wr.D) ⟨Nat.zero_le _,by simp [cnL],by rw [gz]⟩ (fun x hx=>?_)
 obtain ⟨i,K,ds⟩:=x
 obtain ⟨hi,hK,hd⟩:=hx
 dsimp only at hi hK hd ⊢
 have hl:=tc hd
 have hc:=aH c2 xs i
 refine kgm ?_
 refine aL (fun h=>?_) (fun h=>?_)
 ·have hlt:i<xs.length:=by omega
  have hlt':i<ds.length:=by omega
  have hct:=ef c2 xs i hlt
  have hc':=aH c2 xs (i+1)
  have hcx:c2 xs[i]=2:=by first|rfl|(simp only [kO,ig,kU];omega)|(simp only [xg];omega)
  have hKb:K+c2 xs[i]≤1000000000:=by omega
  have hK0:0≤K:=by omega

  have f0:=iT (K) (by omega) (by omega)
  refine jK 20000 (congrArg (fun d=>Tk.own (.l 2 d) none (some (v,M))) (su hlt hd)) ?_
  refine kgm ?_
  exact af (i+1,K+1+1,ds.set i (Wr.D (yT K xs[i]))) ⟨hlt,by show K+1+1=k+(cnL c2 (xs.take (i+1)):Nat);omega,nk hlt hd hK⟩ (by show _ - (i+1)<_ - i;omega)
 have hie:i=xs.length:=by omega
 rw [sk hie hd]
 rw [hie,fZ] at hK
 rw [← hK]
 refine kgm ?_
 exact Ed hM
theorem gY (xs:List Nd) (k:Int) (h0:0≤k) (h1:k+cnL cNd xs≤1000000000):FnM Tryz.prog 75 (.l 3 (xs.map Nd.D)) (.l 3 ((mkL rM cNd k xs).map Nd.D)) k (k+cnL cNd xs):=by
 refine nz Tryz.func75 (DH h0 (by omega)) (fun W0 v M hM hw=>?_)
 have hw':xs.length≤9223372036854775807:=by rw [← List.length_map];exact hw
 refine kgm ?_
 refine ai [0,20000] (fun x:Nat × Int × List D=>x.1≤xs.length∧x.2.1=k+cnL cNd (xs.take x.1)∧x.2.2=(lj rM cNd x.1 k xs).map Nd.D) (fun x=>xs.length - x.1) (fun x=>[(1,.sy (.d (.i x.2.1))),(5,.sy (.d (.i x.1))),(20000,.tk (.own (.l 3 x.2.2) none (some (v,M))))]) (0,k,xs.map Nd.D) ⟨Nat.zero_le _,by simp [cnL],by rw [gz]⟩ (fun x hx=>?_)
 obtain ⟨i,K,ds⟩:=x
 obtain ⟨hi,hK,hd⟩:=hx
 dsimp only at hi hK hd ⊢
 have hl:=tc hd
 have hc:=aH cNd xs i
 refine kgm ?_
 refine aL (fun h=>?_) (fun h=>?_)
 ·have hlt:i<xs.length:=by omega
  have hlt':i<ds.length:=by omega
  have hct:=ef cNd xs i hlt
  have hc':=aH cNd xs (i+1)
  have hcx:cNd xs[i]=2+cnL c1 xs[i].links:=by first|rfl|(simp only [kO,ig,kU];omega)|(simp only [xg];omega)
  have hKb:K+cNd xs[i]≤1000000000:=by omega
  have hK0:0≤K:=by omega

  have f2:=er xs[i].links (K+1+1) (by omega) (by omega)
  refine jK 20000 (congrArg (fun d=>Tk.own (.l 3 d) none (some (v,M))) (su hlt hd)) ?_
  refine kgm ?_
  refine iP 20000 2 (fun u=>?_)
  refine cN ?_
  refine kgm ?_
  exact af (i+1,K+1+1+(cnL c1 xs[i].links:Nat),ds.set i (Nd.D (rM K xs[i]))) ⟨hlt,by show K+1+1+(cnL c1 xs[i].links:Nat)=k+(cnL cNd (xs.take (i+1)):Nat);omega,nk hlt hd hK⟩ (by show _ - (i+1)<_ - i;omega)
 have hie:i=xs.length:=by omega
 rw [sk hie hd]
 rw [hie,fZ] at hK
 rw [← hK]
 refine kgm ?_
 exact Ed hM
end Go.Proofs.YtacafmejcdgboaaGreatDoor
namespace Go.Proofs.YtacafmejcdgboaaGreatDoor
open Go.RowKit
structure Grd where
 w:Int
 no:Bool
 pat:Big
abbrev Grd.D (g:Grd):D:=.t [.i g.w,.b g.no,g.pat.D]
structure GRl where
 rule:Rul
 guards:List Grd
 prio:Int
abbrev GRl.D (g:GRl):D:=.t [g.rule.D,.l 8 (g.guards.map Grd.D),.i g.prio]
def eI (g:Grd):Nat:=cI g.pat
def cU (g:GRl):Nat:=jB g.rule+wtL eI g.guards
def oQ (g:Grd):Nat:=2+ig g.pat
def zy (k:Int) (g:Grd):Grd:=⟨k,decide (Int.tmod (k+1) 3=0),wW (k+1+1) g.pat⟩
def qg (g:GRl):Nat:=kO g.rule+cnL oQ g.guards+1
def Fb (k:Int) (g:GRl):GRl:=⟨GM k g.rule,mkL zy oQ (oe (oe k g.rule.redex) g.rule.reactum+cnL c1 g.rule.copies) g.guards,oe (oe k g.rule.redex) g.rule.reactum+cnL c1 g.rule.copies+cnL oQ g.guards⟩
end Go.Proofs.YtacafmejcdgboaaGreatDoor
namespace Go.Proofs.YtacafmejcdgboaaGreatDoor
open Go.RowKit Go.ChangeShapes Go.WideShapes Go.ChangeAt Go.Joins
set_option linter.unusedVariables false
set_option linter.unusedSimpArgs false
set_option maxRecDepth 100000
section
variable {H:Type} {enc:TypeId × Value→H} {w:World}
theorem yg:Tryz.prog.cellsOf 4=1:=by kernel_rfl
theorem ET:fK enc Tryz.prog w 4 (LD D.b):=fun fuel cs x h=>by obtain ⟨n,rfl,_⟩:=DataW.trod_bool Tryz.underlying4 h;exact ⟨n,rfl⟩
theorem od:Tryz.prog.cellsOf 209=8:=by kernel_rfl
theorem uV:fK enc Tryz.prog w 209 (LD Grd.D):=by
 intro fuel cs x h
 obtain ⟨hl,n,hf⟩:=eX Tryz.underlying209 h
 rw [od] at hl
 obtain ⟨c0,c1,c2,c3,c4,c5,c6,c7,rfl⟩:∃c0 c1 c2 c3 c4 c5 c6 c7,cs = [c0,c1,c2,c3,c4,c5,c6,c7]:=by
  match cs,hl with
  | [c0,c1,c2,c3,c4,c5,c6,c7],_=>exact ⟨c0,c1,c2,c3,c4,c5,c6,c7,rfl⟩
 obtain ⟨y0,e0⟩:=hf 0 _ rfl
 replace e0:DataW.trod enc Tryz.prog w 0 (fun _=>true) true n 3 [c0]=some y0:=by simpa [eH] using e0
 obtain ⟨x0,b0⟩:=iH _ _ _ e0
 obtain ⟨y1,e1⟩:=hf 1 _ rfl
 replace e1:DataW.trod enc Tryz.prog w 0 (fun _=>true) true n 4 [c1]=some y1:=by simpa [yg] using e1
 obtain ⟨x1,b1⟩:=ET _ _ _ e1
 obtain ⟨y2,e2⟩:=hf 2 _ rfl
 replace e2:DataW.trod enc Tryz.prog w 0 (fun _=>true) true n 29 [c2,c3,c4,c5,c6,c7]=some y2:=by simpa [gQ] using e2
 obtain ⟨x2,b2⟩:=gR _ _ _ e2
 exact ⟨⟨x0,x1,x2⟩,[c0],_,rfl,b0,[c1],_,rfl,b1,[c2,c3,c4,c5,c6,c7],_,rfl,b2,rfl⟩
theorem sL:Tryz.prog.cellsOf 106=1:=by kernel_rfl
theorem sM:∀fuel cs x,DataW.trod enc Tryz.prog w 0 (fun _=>true) true fuel 106 cs=some x→∃v xs,cs = [v]∧Rp w (fun b=>b<w.heap.size) (.l 8 (List.map Grd.D xs)) [v]:=fun fuel cs x h=>by obtain ⟨v,xs,h1,h2⟩:=eM Tryz.underlying106 od (by decide) uV fuel cs x h;exact ⟨v,xs,h1,oM h2⟩
theorem iV:Tryz.prog.cellsOf 108=15:=by kernel_rfl
theorem my:fK enc Tryz.prog w 108 (LD GRl.D):=by
 intro fuel cs x h
 obtain ⟨hl,n,hf⟩:=eX Tryz.underlying108 h
 rw [iV] at hl
 obtain ⟨c0,c1,c2,c3,c4,c5,c6,c7,c8,c9,c10,c11,c12,c13,c14,rfl⟩:∃c0 c1 c2 c3 c4 c5 c6 c7 c8 c9 c10 c11 c12 c13 c14,cs = [c0,c1,c2,c3,c4,c5,c6,c7,c8,c9,c10,c11,c12,c13,c14]:=by
  match cs,hl with
  | [c0,c1,c2,c3,c4,c5,c6,c7,c8,c9,c10,c11,c12,c13,c14],_=>exact ⟨c0,c1,c2,c3,c4,c5,c6,c7,c8,c9,c10,c11,c12,c13,c14,rfl⟩
 obtain ⟨y0,e0⟩:=hf 0 _ rfl
 replace e0:DataW.trod enc Tryz.prog w 0 (fun _=>true) true n 76 [c0,c1,c2,c3,c4,c5,c6,c7,c8,c9,c10,c11,c12]=some y0:=by simpa [qe] using e0
 obtain ⟨x0,b0⟩:=xO _ _ _ e0
 obtain ⟨y1,e1⟩:=hf 1 _ rfl
 replace e1:DataW.trod enc Tryz.prog w 0 (fun _=>true) true n 106 [c13]=some y1:=by simpa [sL] using e1
 obtain ⟨v1,x1,h1,b1⟩:=sM _ _ _ e1
 obtain rfl:=(List.cons.inj h1).1
 obtain ⟨y2,e2⟩:=hf 2 _ rfl
 replace e2:DataW.trod enc Tryz.prog w 0 (fun _=>true) true n 3 [c14]=some y2:=by simpa [eH] using e2
 obtain ⟨x2,b2⟩:=iH _ _ _ e2
 exact ⟨⟨x0,x1,x2⟩,[c0,c1,c2,c3,c4,c5,c6,c7,c8,c9,c10,c11,c12],_,rfl,b0,[c13],_,rfl,b1,[c14],_,rfl,b2,rfl⟩
theorem l9:∀fuel cs x,DataW.trod enc Tryz.prog w 0 (fun _=>true) true fuel 57 cs=some x→∃v xs,cs = [v]∧Rp w (fun b=>b<w.heap.size) (.l 15 (List.map GRl.D xs)) [v]:=fun fuel cs x h=>by obtain ⟨v,xs,h1,h2⟩:=eM Tryz.underlying57 iV (by decide) my fuel cs x h;exact ⟨v,xs,h1,oM h2⟩
end
end Go.Proofs.YtacafmejcdgboaaGreatDoor
namespace Go.Proofs.YtacafmejcdgboaaGreatDoor
open Go.RowKit
set_option linter.unusedVariables false
set_option maxRecDepth 100000
set_option maxHeartbeats 4000000
attribute [local irreducible] ar Der At
theorem kp (n lo hi:Int):FnD Tryz.prog 100 [.i n,.i lo,.i hi] (.d (.b (inR n lo hi))):=by
 refine ah Tryz.func100 (fun hw W0=>?_)
 refine kgo ?_
 cases h:decide (lo≤n)
 ·refine kgo ?_
  rw [show inR n lo hi=false from by unfold inR;rw [h];rfl]
  exact aq
 ·refine kgo ?_
  rw [show inR n lo hi=decide (n≤hi) from by unfold inR;rw [h];rfl]
  exact aq
theorem Cp (b:Big) (n:Int) (hl:b.nodes.length≤1000):FnD Tryz.prog 154 [b.D,.i n] (.d (.b (inR n 0 (b.nodes.length - 1)))):=by
 refine ah Tryz.func154 (fun hw W0=>?_)
 have f1:=kp n 0 (b.nodes.length - 1)
 refine kgo ?_
 exact aq
def lc {α:Type} (p:α→Bool) (l:List α):Int:=if l.any p then (l.findIdx p:Int) else -1
theorem mG {α:Type} {p:α→Bool} {l:List α} {i:Nat} (h:i<l.length) (he:p l[i]=true) (hn:(l.take i).any p=false):lc p l=i:=by
 unfold lc
 rw [if_pos (List.any_eq_true.2 ⟨_,List.getElem_mem h,he⟩)]
 have:l.findIdx p=i:=(List.findIdx_eq h).2 ⟨he,fun j hj=>by
  have:=List.any_eq_false.1 hn (l[j]) (List.mem_iff_getElem.2 ⟨j,by rw [List.length_take];omega,by rw [List.getElem_take]⟩)
  simpa using this⟩
 rw [this]
theorem kh {α:Type} {p:α→Bool} {l:List α} (hn:l.any p=false):lc p l = -1:=by unfold lc;rw [hn];rfl
theorem lG {α:Type} (p:α→Bool) (l:List α):decide (0≤lc p l)=l.any p:=by
 unfold lc
 cases h:l.any p
 ·rfl
 ·simp
theorem ex {α:Type} (p:α→Bool) (l:List α) : -1≤lc p l∧lc p l<l.length:=by
 unfold lc
 split
 ·rename_i h
  have:=List.findIdx_lt_length_of_exists (List.any_eq_true.1 h)
  omega
 ·omega
theorem kI {α:Type} {p:α→Bool} {l:List α} {i:Nat} (h:i<l.length) (hi:(l.take i).any p=false) (hp:p l[i]=false):(l.take (i+1)).any p=false:=by
 rw [List.take_succ_eq_append_getElem h,List.any_append,hi,List.any_cons,hp];rfl
theorem mY {α:Type} {p:α→Bool} {l:List α} {i:Nat} (h:l.length≤i) (hi:(l.take i).any p=false):l.any p=false:=by rwa [List.take_of_length_le h] at hi
theorem iD (l:List Int) (n:Int):FnD Tryz.prog 221 [DI l,.i n] (.d (.i (lc (fun x=>x == n) l))):=by
 refine ah Tryz.func221 (fun hw W0=>?_)
 have hl:=(wfM hw.1).1
 refine kgo ?_
 refine ai [0,1,7] (fun i:Nat=>i≤l.length∧(l.take i).any (fun x=>x == n)=false) (fun i=>l.length - i) (fun i=>[(8,.sy (.d (.i i)))]) 0 ⟨Nat.zero_le _,rfl⟩ (fun i hi=>?_)
 refine kgo ?_
 refine aL (fun h=>?_) (fun h=>?_)
 ·have hlt:i<l.length:=by omega
  refine kgo ?_
  refine aL (fun h2=>?_) (fun h2=>?_)
  ·refine kgo ?_
   rw [mG hlt (by rw [← h2];exact beq_self_eq_true _) hi.2]
   exact aq
  ·refine kgo ?_
   exact af (i+1) ⟨hlt,kI hlt hi.2 (by rw [beq_eq_false_iff_ne];exact fun e=>h2 e.symm)⟩ (by omega)
 refine kgo ?_
 rw [kh (mY (by omega) hi.2)]
 exact aq
theorem eR (l:List Int) (n:Int):FnD Tryz.prog 155 [DI l,.i n] (.d (.b (dP l n))):=by
 refine ah Tryz.func155 (fun hw W0=>?_)
 have f1:=iD l n
 have hr:=ex (fun x=>x == n) l
 have hp:=lG (fun x=>x == n) l
 refine kgo ?_
 rw [show dP l n=l.any (fun x=>x == n) from rfl,← hp]
 exact aq
theorem sU (l:List Int) (g:Nat) (cs:List D) (p:Int→Bool) (hct:(cs.all fun r=>!isT r)=true) (hp:∀x∈l,FnD Tryz.prog g ([.i x]++cs) (.d (.b (p x)))):FnD Tryz.prog 222 [DI l,.f g cs] (.d (.i (lc p l))):=by
 refine ah Tryz.func222 (fun hw W0=>?_)
 have hl:=(wfM hw.1).1
 refine kgo ?_
 refine ai [0,1,7] (fun i:Nat=>i≤l.length∧(l.take i).any p=false) (fun i=>l.length - i) (fun i=>[(8,.sy (.d (.i i)))]) 0 ⟨Nat.zero_le _,rfl⟩ (fun i hi=>?_)
 refine kgo ?_
 refine aL (fun h=>?_) (fun h=>?_)
 ·have hlt:i<l.length:=by omega
  have f1:=hp _ (List.getElem_mem hlt)
  refine kgo ?_
  refine cIf (fun h2=>?_) (fun h2=>?_)
  ·refine kgo ?_
   rw [mG hlt h2 hi.2]
   exact aq
  ·refine kgo ?_
   exact af (i+1) ⟨hlt,kI hlt hi.2 h2⟩ (by omega)
 refine kgo ?_
 rw [kh (mY (by omega) hi.2)]
 exact aq
theorem dY (l:List Int) (g:Nat) (cs:List D) (p:Int→Bool) (hct:(cs.all fun r=>!isT r)=true) (hp:∀x∈l,FnD Tryz.prog g ([.i x]++cs) (.d (.b (p x)))):FnD Tryz.prog 156 [DI l,.f g cs] (.d (.b (l.any p))):=by
 refine ah Tryz.func156 (fun hw W0=>?_)
 have f1:=sU l g cs p hct hp
 have hr:=ex p l
 have hq:=lG p l
 refine kgo ?_
 rw [← hq]
 exact aq
theorem mh {sig:List Ctl} {a:Big} (hB:aF sig a=true) (ns:List Int) (p0:Int) (hp:p0<a.nodes.length):FnD Tryz.prog 158 [a.D,.i p0,DI ns] (.d (.b (gV a ns p0))):=by
 refine ah Tryz.func158 (fun hw W0=>?_)
 refine kgo ?_
 refine ai [2,3] (fun p:Int=>p<a.nodes.length∧gV a ns p0=gV a ns p) (fun p=>(p+1).toNat) (fun p=>[(1,.sy (.d (.i p)))]) p0 ⟨hp,rfl⟩ (fun p hi=>?_)
 refine kgo ?_
 refine aL (fun h=>?_) (fun h=>?_)
 ·obtain ⟨k,rfl⟩:=Int.eq_ofNat_of_zero_le h
  have hk:k<a.nodes.length:=by omega
  have hs:gV a ns k=(dP ns k || gV a ns (a.nodes[k]).parent):=eQ hB _ k hk
  have hu:=iI hB k hk
  have f1:=eR ns k
  refine kgo ?_
  refine cIf (fun h2=>?_) (fun h2=>?_)
  ·refine kgo ?_
   rw [hi.2,hs,h2]
   exact aq
  ·refine kgo ?_
   exact af (a.nodes[k]).parent ⟨by omega,by rw [hi.2,hs,h2];rfl⟩ (by omega)
 refine kgo ?_
 rw [hi.2,show gV a ns p=false from eh _ _ (by omega)]
 exact aq
theorem iz (b:Big) (p:Int) (hn:b.nodes.length≤1000) (hs:b.sites.length≤1000):FnD Tryz.prog 191 [b.D,.i p] (.tp [DI (dC b p),DI (cD b p)]):=by
 refine ah Tryz.func191 (fun hw W0=>?_)
 refine kgo ?_
 refine ai [1,2,7,15,16] (fun i:Nat=>i≤b.nodes.length) (fun i=>b.nodes.length - i) (fun i=>[(6,.sy (.k 20001)),(20001,.tk (.row 1 3 ((idxOf (rF b p) i).map .i))),(17,.sy (.d (.i i)))]) 0 (Nat.zero_le _) (fun i hi=>?_)
 refine kgo ?_
 refine aL (fun h=>?_) (fun h=>?_)
 ·have hlt:i<b.nodes.length:=by omega
  have hf:rF b p i=decide ((b.nodes[i]).parent=p):=by unfold rF;rw [List.getElem?_eq_getElem hlt]
  have hl:=de (rF b p) i
  refine kgo ?_
  refine aL (fun h2=>?_) (fun h2=>?_)
  ·have hs:(idxOf (rF b p) (i+1)).map D.i=(idxOf (rF b p) i).map D.i++[.i i]:=by rw [dg (hf.trans (decide_eq_true h2)),List.map_append];rfl
   refine kgo ?_
   exact af (i+1) (by omega) (by omega)
  ·have hs:(idxOf (rF b p) (i+1)).map D.i=(idxOf (rF b p) i).map D.i:=by rw [eJ (hf.trans (decide_eq_false h2))]
   refine kgo ?_
   exact af (i+1) (by omega) (by omega)
 rw [show dC b p=idxOf (rF b p) i from by rw [show i=b.nodes.length by omega];rfl]
 generalize idxOf (rF b p) i=ks
 refine kgo ?_
 refine ai [1,6,32,33] (fun i:Nat=>i≤b.sites.length) (fun i=>b.sites.length - i) (fun i=>[(7,.sy (.k 20002)),(20002,.tk (.row 1 3 ((idxOf (jA b p) i).map .i))),(34,.sy (.d (.i i)))]) 0 (Nat.zero_le _) (fun i hi=>?_)
 refine kgo ?_
 refine aL (fun h=>?_) (fun h=>?_)
 ·have hlt:i<b.sites.length:=by omega
  have hf:jA b p i=decide (b.sites[i]=p):=by unfold jA;rw [List.getElem?_eq_getElem hlt]
  have hl:=de (jA b p) i
  refine kgo ?_
  refine aL (fun h2=>?_) (fun h2=>?_)
  ·have hs:(idxOf (jA b p) (i+1)).map D.i=(idxOf (jA b p) i).map D.i++[.i i]:=by rw [dg (hf.trans (decide_eq_true h2)),List.map_append];rfl
   refine kgo ?_
   exact af (i+1) (by omega) (by omega)
  ·have hs:(idxOf (jA b p) (i+1)).map D.i=(idxOf (jA b p) i).map D.i:=by rw [eJ (hf.trans (decide_eq_false h2))]
   refine kgo ?_
   exact af (i+1) (by omega) (by omega)
 rw [show cD b p=idxOf (jA b p) i from by rw [show i=b.sites.length by omega];rfl]
 repeat (first|(refine cy ?_;first|refine aV ?_|refine bY ?_|refine aY ?_|refine aZ ?_|refine aS ?_|refine bg ?_|refine bi ?_|refine ay ?_|refine be ?_)|(refine fo ?_;first|refine bQ ?_|refine eZ ?_|refine cr ?_|refine b8 ?_)|(refine fa ?_;first|refine dm (fun _=>?_)|refine b9 ?_|refine cm ?_|refine bG ?_|refine cw ?_|refine ck ?_)|(refine fh ?_;first|refine cg ?_|refine eB ?_|refine bT ?_|refine bI ?_|refine cq ?_|refine bV ?_|refine bZ ?_)|(refine fe ?_;first|refine fl ?_|refine eS ?_|refine cd ?_|refine bP ?_|refine fq ?_|refine bl ?_|refine bo ?_)|(refine cu ?_;first|refine aX ?_|refine ch ?_)|(refine ff ?_;first|refine fF (d:=4) ?_|refine fF (d:=5) ?_|refine cj ?_|refine ct ?_|refine ft ?_)|(refine cf ?_;first|refine ca ?_|refine bd ?_|refine aQ ?_|refine ba ?_|refine aU ?_|refine bh ?_)|(refine fc ?_;first|refine b7 ?_|refine eY ?_|refine bj ?_|refine aR ?_|refine bm ?_)|(refine aI ?_;first|refine au _ ?_|refine bf ?_|refine aA ?_|refine av ?_|refine ax ?_)|(refine fu ?_;first|refine cb ?_|refine bH ?_|refine bX ?_)|(refine gOp ?_;first|refine fd ?_|refine fm ?_|refine bc ?_|refine fp ?_|refine fj ?_|refine bU ?_|refine aT ?_|refine co ?_|refine fw ?_|refine bM ?_|refine b6 ?_|refine bk ?_|refine az ?_|refine bW ?_|refine sNo ?_|refine dO ?_|refine aw ?_)|refine dZ ?_|refine cN ?_|refine fB ?_|refine bp ?_|refine cz ?_|refine bB ?_|refine fC ?_|refine fI ?_|refine fx ?_|refine df ?_|refine cC ?_|refine aN ?_|refine aB ?_|refine bq ?_|refine ci ?_|refine bC ?_|refine aBlkX ?_|refine cA ?_)
 exact iA
theorem mT (b:Big) (l:Int) (hn:b.nodes.length≤1000) (hl:∀i (h:i<b.nodes.length),(b.nodes[i]).links.length≤1000) (hin:b.inner.length≤1000):FnD Tryz.prog 225 [b.D,.i l] (.tp [.l 2 ((aK b l).map nb),DS (nF b l)]):=by
 refine ah Tryz.func225 (fun hw W0=>?_)
 refine kgo ?_
 refine ai [1,2,7,17,18] (fun i:Nat=>i≤b.nodes.length) (fun i=>b.nodes.length - i) (fun i=>[(6,.sy (.k 20001)),(20001,.tk (.row 2 261 ((aW b l i 0).map nb))),(19,.sy (.d (.i i)))]) 0 (Nat.zero_le _) (fun i hi=>?_)
 refine kgo ?_
 refine aL (fun h=>?_) (fun h=>?_)
 ·have hlt:i<b.nodes.length:=by omega
  have hll:=hl i hlt
  refine kgo ?_
  refine ai [1,2,7,8,17,18,19,25,26] (fun j:Nat=>j≤(b.nodes[i]).links.length) (fun j=>(b.nodes[i]).links.length - j) (fun j=>[(6,.sy (.k 20001)),(20001,.tk (.row 2 261 ((aW b l i j).map nb))),(27,.sy (.d (.i j)))]) 0 (Nat.zero_le _) (fun j hj=>?_)
  refine kgo ?_
  refine aL (fun h2=>?_) (fun h2=>?_)
  ·have hjl:j<(b.nodes[i]).links.length:=by omega
   have hpl:(aW b l i j).length≤1000000:=by
    obtain ⟨t,ht⟩:=jm b l i j hlt hj
    have:=eu b l hn hl
    rw [ht,List.length_append] at this;omega
   refine kgo ?_
   refine aL (fun h3=>?_) (fun h3=>?_)
   ·have hpl:(aW b l i j).length+1≤1000000:=by
     obtain ⟨t,ht⟩:=jm b l i (j+1) hlt hjl
     have:=eu b l hn hl
     rw [ht,List.length_append,i9 b l i j hlt hjl h3,List.length_append] at this
     simp only [List.length_cons,List.length_nil] at this;omega
    have hs:(aW b l i (j+1)).map nb=(aW b l i j).map nb++[nb ((i:Int),(j:Int))]:=by rw [i9 b l i j hlt hjl h3,List.map_append];rfl
    refine kgo ?_
    exact af (j+1) hjl (by omega)
   ·have hs:(aW b l i (j+1)).map nb=(aW b l i j).map nb:=by rw [pR b l i j hlt hjl h3]
    refine kgo ?_
    exact af (j+1) hjl (by omega)
  have hs:(aW b l (i+1) 0).map nb=(aW b l i j).map nb:=by rw [jJ b l i hlt,show j=(b.nodes[i]).links.length by omega]
  refine kgo ?_
  exact af (i+1) hlt (by omega)
 rw [show aK b l=aW b l i 0 from by rw [show i=b.nodes.length by omega,jg]]
 generalize aW b l i 0=ps
 refine kgo ?_
 refine ai [1,6,44,45] (fun i:Nat=>i≤b.inner.length) (fun i=>b.inner.length - i) (fun i=>[(7,.sy (.k 20002)),(20002,.tk (.row 1 9 ((eA b l i).map .s))),(46,.sy (.d (.i i)))]) 0 (Nat.zero_le _) (fun i hi=>?_)
 refine kgo ?_
 refine aL (fun h=>?_) (fun h=>?_)
 ·have hlt:i<b.inner.length:=by omega
  have hq:=kC b l i
  refine kgo ?_
  refine aL (fun h2=>?_) (fun h2=>?_)
  ·have hs:(eA b l (i+1)).map D.s=(eA b l i).map D.s++[.s (b.inner[i]).name]:=by rw [qa hlt h2,List.map_append];rfl
   refine kgo ?_
   exact af (i+1) hlt (by omega)
  ·have hs:(eA b l (i+1)).map D.s=(eA b l i).map D.s:=by rw [rX hlt h2]
   refine kgo ?_
   exact af (i+1) hlt (by omega)
 rw [show nF b l=eA b l i from by rw [show i=b.inner.length by omega];rfl]
 repeat (first|(refine cy ?_;first|refine aV ?_|refine bY ?_|refine aY ?_|refine aZ ?_|refine aS ?_|refine bg ?_|refine bi ?_|refine ay ?_|refine be ?_)|(refine fo ?_;first|refine bQ ?_|refine eZ ?_|refine cr ?_|refine b8 ?_)|(refine fa ?_;first|refine dm (fun _=>?_)|refine b9 ?_|refine cm ?_|refine bG ?_|refine cw ?_|refine ck ?_)|(refine fh ?_;first|refine cg ?_|refine eB ?_|refine bT ?_|refine bI ?_|refine cq ?_|refine bV ?_|refine bZ ?_)|(refine fe ?_;first|refine fl ?_|refine eS ?_|refine cd ?_|refine bP ?_|refine fq ?_|refine bl ?_|refine bo ?_)|(refine cu ?_;first|refine aX ?_|refine ch ?_)|(refine ff ?_;first|refine fF (d:=4) ?_|refine fF (d:=5) ?_|refine cj ?_|refine ct ?_|refine ft ?_)|(refine cf ?_;first|refine ca ?_|refine bd ?_|refine aQ ?_|refine ba ?_|refine aU ?_|refine bh ?_)|(refine fc ?_;first|refine b7 ?_|refine eY ?_|refine bj ?_|refine aR ?_|refine bm ?_)|(refine aI ?_;first|refine au _ ?_|refine bf ?_|refine aA ?_|refine av ?_|refine ax ?_)|(refine fu ?_;first|refine cb ?_|refine bH ?_|refine bX ?_)|(refine gOp ?_;first|refine fd ?_|refine fm ?_|refine bc ?_|refine fp ?_|refine fj ?_|refine bU ?_|refine aT ?_|refine co ?_|refine fw ?_|refine bM ?_|refine b6 ?_|refine bk ?_|refine az ?_|refine bW ?_|refine sNo ?_|refine dO ?_|refine aw ?_)|refine dZ ?_|refine cN ?_|refine fB ?_|refine bp ?_|refine cz ?_|refine bB ?_|refine fC ?_|refine fI ?_|refine fx ?_|refine df ?_|refine cC ?_|refine aN ?_|refine aB ?_|refine bq ?_|refine ci ?_|refine bC ?_|refine aBlkX ?_|refine cA ?_)
 exact iA
end Go.Proofs.YtacafmejcdgboaaGreatDoor
namespace Go.Proofs.YtacafmejcdgboaaGreatDoor
open Go.RowKit
set_option linter.unusedVariables false
set_option maxRecDepth 100000
set_option maxHeartbeats 4000000
attribute [local irreducible] ar Der At
theorem r9 (m:Mat) (x:Int):FnD Tryz.prog 223 [.i x,.p m.D] (.d (.b (!dP m.nodes x))):=by
 refine ah Tryz.func223 (fun hw W0=>?_)
 have f1:=eR m.nodes x
 refine kgo ?_
 exact aq
theorem yq (r a:Big) (m:Mat) (i:Nat) (h:i<m.nodes.length) (hr:i<r.nodes.length) (k:Nat) (hk:m.nodes[i]=(k:Int)) (hka:k<a.nodes.length):gC r a m i=(decide ((a.nodes[k]).control=(r.nodes[i]).control) && (decide ((a.nodes[k]).parent=if 0≤(r.nodes[i]).parent then atI m.nodes (r.nodes[i]).parent else atI m.roots (-1 - (r.nodes[i]).parent)) && (!(decide ((cD r i).length=0)) || (dC a m.nodes[i]).all (dP m.nodes)))):=by
 unfold gC uu lu
 rw [wD r a m i h hr k hk hka,cE _ i h,hk,aD a k hka,aD r i hr]
theorem uC {sig:List Ctl} {r a:Big} (m:Mat) (hbr:aF sig r=true) (dr:vz r) (da:vz a) (hid:(List.range m.nodes.length).all (tZ a m.nodes)=true) (hlen:m.nodes.length=r.nodes.length) (hrs:(m.roots.length:Int)=r.roots):FnD Tryz.prog 159 [r.D,a.D,m.D] (.d (.b ((List.range m.nodes.length).all (gC r a m)))):=by
 have hdr:=aJ hbr
 refine ah Tryz.func159 (fun hw W0=>?_)
 refine kgo ?_
 refine tL 5 m.D ?_
 refine ai [3,4,5,16,17] (fun i:Nat=>i≤m.nodes.length∧(List.range i).all (gC r a m)=true) (fun i=>m.nodes.length - i) (fun i=>[(18,.sy (.d (.i i)))]) 0 ⟨Nat.zero_le _,rfl⟩ (fun i hi=>?_)
 refine kgo ?_
 refine aL (fun h2=>?_) (fun h2=>?_)
 ·have hlr:i<r.nodes.length:=by omega
  have hlt:i<m.nodes.length:=by omega
  obtain ⟨k,hka,hk0⟩:=Im hid i hlt
  rw [cE _ i hlt] at hk0
  have hok:=yq r a m i hlt hlr k hk0 hka
  have hup:=iI hbr i hlr
  have f1:=iz r i dr.3 dr.4
  have f2:=iz a m.nodes[i] da.3 da.4
  have f3:=dY (dC a m.nodes[i]) 223 [.p m.D] (fun x=>!dP m.nodes x) rfl (fun x _=>r9 m x)
  have hk1:=lE r i
  have hk2:=qp a m.nodes[i]
  have hrn:=dr.4
  have bad:gC r a m i=false→(List.range m.nodes.length).all (gC r a m)=false:=fun h=>br _ _ i hlt h
  have good:gC r a m i=true→(List.range (i+1)).all (gC r a m)=true:=fun h=>by rw [cL,hi.2,h];rfl
  refine kgo ?_
  refine dm (n:=k) (fun _=>?_) rfl rfl (congrArg some hk0)
  refine kgo ?_
  refine aL (fun h3=>?_) (fun h3=>?_)
  ·rw [if_pos h3] at hok
   have hx:(r.nodes[i]).parent<m.nodes.length:=by omega
   refine kgo ?_
   cases h4:decide ((a.nodes[k]).control=(r.nodes[i]).control)
   ·rw [h4] at hok
    refine kgo ?_
    rw [bad hok]
    exact aq
   rw [h4,Bool.true_and] at hok
   refine kgo ?_
   refine jE (fun h5=>?_) (fun h5=>?_)
   ·rw [decide_eq_false h5] at hok
    refine kgo ?_
    rw [bad hok]
    exact aq
   rw [decide_eq_true h5,Bool.true_and] at hok
   refine kgo ?_
   refine aL (fun h6=>?_) (fun h6=>?_)
   ·rw [decide_eq_false (by omega)] at hok
    refine kgo ?_
    exact af (i+1) ⟨hlt,good hok⟩ (by omega)
   rw [decide_eq_true (by omega),Bool.not_true,Bool.false_or] at hok
   refine kgo ?_
   refine cIf (fun h7=>?_) (fun h7=>?_)
   ·rw [iK,Bool.not_eq_true'] at h7
    rw [h7] at hok
    refine kgo ?_
    rw [bad hok]
    exact aq
   ·rw [iK,Bool.not_eq_false'] at h7
    rw [h7] at hok
    refine kgo ?_
    exact af (i+1) ⟨hlt,good hok⟩ (by omega)
  ·rw [if_neg h3] at hok
   have hx : -1 - (r.nodes[i]).parent<m.roots.length:=by omega
   refine kgo ?_
   cases h4:decide ((a.nodes[k]).control=(r.nodes[i]).control)
   ·rw [h4] at hok
    refine kgo ?_
    rw [bad hok]
    exact aq
   rw [h4,Bool.true_and] at hok
   refine kgo ?_
   refine jE (fun h5=>?_) (fun h5=>?_)
   ·rw [decide_eq_false h5] at hok
    refine kgo ?_
    rw [bad hok]
    exact aq
   rw [decide_eq_true h5,Bool.true_and] at hok
   refine kgo ?_
   refine aL (fun h6=>?_) (fun h6=>?_)
   ·rw [decide_eq_false (by omega)] at hok
    refine kgo ?_
    exact af (i+1) ⟨hlt,good hok⟩ (by omega)
   rw [decide_eq_true (by omega),Bool.not_true,Bool.false_or] at hok
   refine kgo ?_
   refine cIf (fun h7=>?_) (fun h7=>?_)
   ·rw [iK,Bool.not_eq_true'] at h7
    rw [h7] at hok
    refine kgo ?_
    rw [bad hok]
    exact aq
   ·rw [iK,Bool.not_eq_false'] at h7
    rw [h7] at hok
    refine kgo ?_
    exact af (i+1) ⟨hlt,good hok⟩ (by omega)
 refine kgo ?_
 rw [fL _ _ i (by omega) hi.1 hi.2]
 exact aq
theorem Dz (x:Int) (n:Nat) (hn:n≤1000) (hx:I64 x):FnD Tryz.prog 224 [DI [x],.i n] (.row 1 3 ((List.replicate n x).map .i)):=⟨bS Tryz.func224,fun F w vs hv hF=>by
 obtain ⟨v1,t,rfl,h1,v2,t2,rfl,h2,h3⟩:=hv
 cases (show t2 = [] from h3)
 cases (show v2=.int .i64 n from by simpa [DV,Rp] using h2.1)
 refine (ji _ _ _ x n w (Gn.toV (by decide) h1) hn).mono ?_
 rintro e w' ⟨g,rfl,hg,hr,hX⟩
 refine ⟨_,rfl,hX,.inr ⟨(List.replicate n x).map (Value.int .i64),?_,fun j hj=>⟨[.int .i64 x],rfl,?_,fun t u ht=>?_⟩⟩⟩
 ·refine ⟨by simp,.inr ⟨g,n,((List.replicate n x).map (Value.int .i64)).toArray,by simp,hg,hr,by simp,?_,by simp,by simp⟩⟩
  unfold maxLen;omega
 ·rw [List.getElem_map,List.getElem_replicate];exact ⟨rfl,hx⟩
 ·simp only [List.length_map,List.length_replicate] at hj
  rcases t with _|t
  ·simp at ht
   subst ht
   simp [hj]
  ·simp at ht⟩
theorem nh {sig:List Ctl} {r a:Big} (ns:List Int) (hbr:aF sig r=true) (hba:aF sig a=true) (him:ox r a ns):FnD Tryz.prog 160 [r.D,a.D,DI ns] (.tp [DI (pj r a ns),.b (gw r a ns)]):=by
 have hdr:=aJ hbr
 have hda:=aJ hba
 have dr:=bu hbr
 have da:=bu hba
 have hlr:r.edges+(r.outer.length:Int)=(ap r:Nat):=by unfold ap;omega
 have hlb:ap r≤1000:=by unfold ap;omega
 obtain ⟨E,hE⟩:=Int.eq_ofNat_of_zero_le hdr.2.2.2.1.1
 have f0:FnD Tryz.prog 224 [DI [-1],.i (r.edges+(r.outer.length:Int))] (.row 1 3 ((List.replicate (ap r) (-1)).map .i)):=by rw [hlr];exact Dz (-1) _ hlb (by unfold I64;omega)
 have hz:(List.replicate (ap r) (-1)).map D.i=(iO r a ns 0 0).map D.i:=by rw [xE]
 have hlen:=him.len
 refine ah Tryz.func160 (fun hw W0=>?_)
 repeat (first|(refine cy ?_;first|refine aV ?_|refine bY ?_|refine aY ?_|refine aZ ?_|refine aS ?_|refine bg ?_|refine bi ?_|refine ay ?_|refine be ?_)|(refine fo ?_;first|refine bQ ?_|refine eZ ?_|refine cr ?_|refine b8 ?_)|(refine fa ?_;first|refine dm (fun _=>?_)|refine b9 ?_|refine cm ?_|refine bG ?_|refine cw ?_|refine ck ?_)|(refine fh ?_;first|refine cg ?_|refine eB ?_|refine bT ?_|refine bI ?_|refine cq ?_|refine bV ?_|refine bZ ?_)|(refine fe ?_;first|refine fl ?_|refine eS ?_|refine cd ?_|refine bP ?_|refine fq ?_|refine bl ?_|refine bo ?_)|(refine cu ?_;first|refine aX ?_|refine ch ?_)|(refine ff ?_;first|refine cj ?_|refine ct ?_|refine ft ?_)|(refine cf ?_;first|refine ca ?_|refine bd ?_|refine aQ ?_|refine ba ?_|refine aU ?_|refine bh ?_)|(refine fc ?_;first|refine b7 ?_|refine eY ?_|refine bj ?_|refine aR ?_|refine bm ?_)|(refine aI ?_;first|refine au _ ?_|refine bf ?_|refine aA ?_|refine av ?_|refine ax ?_)|(refine fu ?_;first|refine cb ?_|refine bH ?_|refine bX ?_)|(refine gOp ?_;first|refine fd ?_|refine fm ?_|refine bc ?_|refine fp ?_|refine fj ?_|refine bU ?_|refine aT ?_|refine co ?_|refine fw ?_|refine bM ?_|refine b6 ?_|refine bk ?_|refine sFz 19 ?_|refine az ?_|refine bW ?_|refine sNo ?_|refine dO ?_|refine aw ?_)|refine dZ ?_|refine cN ?_|refine fB ?_|refine bp ?_|refine cz ?_|refine bB ?_|refine fC ?_|refine fI ?_|refine fx ?_|refine df ?_|refine cC ?_|refine aN ?_|refine aB ?_|refine bq ?_|refine ci ?_|refine bC ?_|refine aBlkX ?_|refine cA ?_|refine sFz 19 ?_)
 refine ai [2,3,4,8,28,29] (fun k:Nat=>k≤r.nodes.length∧g6 r a ns k 0) (fun k=>r.nodes.length - k) (fun k=>[(10026,.tk (.row 1 3 ((iO r a ns k 0).map .i))),(30,.sy (.d (.i k)))]) 0 ⟨Nat.zero_le _,yB r a ns⟩ (fun k hk=>?_)
 refine kgo ?_
 refine aL (fun h=>?_) (fun h=>?_)
 ·have hkr:k<r.nodes.length:=by omega
  have hkn:k<ns.length:=by omega
  have hlinks:=(eW hbr k hkr).2.2.2.2
  have hll:=dr.7 k hkr
  refine kgo ?_
  refine ai [2,3,4,8,9,28,29,30,36,37] (fun i:Nat=>i≤(r.nodes[k]).links.length∧g6 r a ns k i) (fun i=>(r.nodes[k]).links.length - i) (fun i=>[(10026,.tk (.row 1 3 ((iO r a ns k i).map .i))),(38,.sy (.d (.i i)))]) 0 ⟨Nat.zero_le _,hk.2⟩ (fun i hi=>?_)
  refine kgo ?_
  refine aL (fun h2=>?_) (fun h2=>?_)
  ·have hil:i<(r.nodes[k]).links.length:=by omega
   obtain ⟨mm,hmm,hml,e1,e2⟩:=him.img hbr hba hkr hil
   rw [cE _ k hkn] at e1
   obtain ⟨ll,hl,hlN⟩:=iE (hlinks _ (List.getElem_mem hil))
   have hol:=zR r a ns k i
   have hlo:ll<(iO r a ns k i).length:=by omega
   have hat:=nK r a ns k i ll hlo
   have hpos:=him.up_pos hbr hba (l:=ll) hkr (show i≤(r.nodes[k]).links.length by omega)
   refine kgo ?_
   refine dm (n:=mm) (fun _=>?_) rfl rfl (congrArg some e1)
   rw [hl]
   refine kgo ?_
   rw [hat,← e2]
   have stp:=x9 (ns:=ns) hkr hil hl hlN hi.2
   cases h3:decide (0≤jy a ns (aW r ll k i))
   ·have h3:=of_decide_eq_false h3
    obtain ⟨q1,q2⟩:=stp (.inl (by omega)) hpos
    refine kgo ?_
    rw [← q1]
    exact af (i+1) ⟨hil,q2⟩ (by omega)
   have h3:=of_decide_eq_true h3
   refine kgo ?_
   rw [hat]
   refine jE (fun h4=>?_) (fun h4=>?_)
   ·have hb:=kv hlN (yp hkr hil hl h3 h4)
    rw [lA hb,hb]
    refine kgo ?_
    exact iA
   ·obtain ⟨q1,q2⟩:=stp (.inr h4) hpos
    refine kgo ?_
    rw [← q1]
    exact af (i+1) ⟨hil,q2⟩ (by omega)
  have hie:i=(r.nodes[k]).links.length:=by omega
  have hs:(iO r a ns (k+1) 0).map D.i=(iO r a ns k i).map D.i:=by rw [yf r a ns k hkr,hie]
  refine kgo ?_
  exact af (k+1) ⟨hkr,yd hkr (by rw [← hie];exact hi.2)⟩ (by omega)
 have hke:k=r.nodes.length:=by omega
 have hag:g6 r a ns r.nodes.length 0:=by rw [← hke];exact hk.2
 rw [hke,Ba]
 have hil:(aM r a ns).length=ap r:=by unfold aM;simp
 refine kgo ?_
 refine ai [3,4,8,75] (fun e:Nat=>e≤E∧(List.range e).all (ir r a ns)=true) (fun e=>E - e) (fun e=>[(76,.sy (.d (.i e)))]) 0 ⟨Nat.zero_le _,rfl⟩ (fun e he=>?_)
 refine kgo ?_
 refine aL (fun h2=>?_) (fun h2=>?_)
 ·have heE:e<E:=by omega
  have hel:e<ap r:=by omega
  have hei:e<(aM r a ns).length:=by omega
  have hia:(aM r a ns)[e]=mE r a ns e:=by simp [aM]
  have f1:=mT r e dr.3 dr.7 (by omega)
  have f2:=mT a (aM r a ns)[e] da.3 da.7 (by omega)
  have hla:=Cw hag e hel (by omega)
  have hp1:=eu r e dr.3 dr.7
  have hp2:=eu a (aM r a ns)[e] da.3 da.7
  rw [← hia] at hla
  refine kgo ?_
  cases h3:decide (a.edges≤(aM r a ns)[e])
  ·have h3:=of_decide_eq_false h3
   rw [decide_eq_true (show (aM r a ns)[e]<a.edges by omega),Bool.true_and] at hla
   refine kgo ?_
   refine jE (fun h4=>?_) (fun h4=>?_)
   ·rw [decide_eq_false (by omega)] at hla
    have hb:=kv hel hla
    rw [lA hb,hb]
    refine kgo ?_
    exact iA
   ·rw [decide_eq_true (by omega)] at hla
    refine kgo ?_
    exact af (e+1) ⟨heE,by rw [cL,he.2,hla];rfl⟩ (by omega)
  ·have h3:=of_decide_eq_true h3
   rw [decide_eq_false (show ¬(aM r a ns)[e]<a.edges by omega),Bool.false_and] at hla
   have hb:=kv hel hla
   rw [lA hb,hb]
   refine kgo ?_
   exact iA
 have hb:gw r a ns=true:=Ay hag (fun l h1 _=>(aG _ _).1 he.2 l (by omega))
 rw [kG hb,hb]
 repeat (first|(refine cy ?_;first|refine aV ?_|refine bY ?_|refine aY ?_|refine aZ ?_|refine aS ?_|refine bg ?_|refine bi ?_|refine ay ?_|refine be ?_)|(refine fo ?_;first|refine bQ ?_|refine eZ ?_|refine cr ?_|refine b8 ?_)|(refine fa ?_;first|refine dm (fun _=>?_)|refine b9 ?_|refine cm ?_|refine bG ?_|refine cw ?_|refine ck ?_)|(refine fh ?_;first|refine cg ?_|refine eB ?_|refine bT ?_|refine bI ?_|refine cq ?_|refine bV ?_|refine bZ ?_)|(refine fe ?_;first|refine fl ?_|refine eS ?_|refine cd ?_|refine bP ?_|refine fq ?_|refine bl ?_|refine bo ?_)|(refine cu ?_;first|refine aX ?_|refine ch ?_)|(refine ff ?_;first|refine fF (d:=6) ?_|refine cj ?_|refine ct ?_|refine ft ?_)|(refine cf ?_;first|refine ca ?_|refine bd ?_|refine aQ ?_|refine ba ?_|refine aU ?_|refine bh ?_)|(refine fc ?_;first|refine b7 ?_|refine eY ?_|refine bj ?_|refine aR ?_|refine bm ?_)|(refine aI ?_;first|refine au _ ?_|refine bf ?_|refine aA ?_|refine av ?_|refine ax ?_)|(refine fu ?_;first|refine cb ?_|refine bH ?_|refine bX ?_)|(refine gOp ?_;first|refine fd ?_|refine fm ?_|refine bc ?_|refine fp ?_|refine fj ?_|refine bU ?_|refine aT ?_|refine co ?_|refine fw ?_|refine bM ?_|refine b6 ?_|refine bk ?_|refine az ?_|refine bW ?_|refine sNo ?_|refine dO ?_|refine aw ?_)|refine dZ ?_|refine cN ?_|refine fB ?_|refine bp ?_|refine cz ?_|refine bB ?_|refine fC ?_|refine fI ?_|refine fx ?_|refine df ?_|refine cC ?_|refine aN ?_|refine aB ?_|refine bq ?_|refine ci ?_|refine bC ?_|refine aBlkX ?_|refine cA ?_)
 exact iA
theorem xz {sig:List Ctl} {a:Big} (hba:aF sig a=true) (m:Mat) (x:Int):FnD Tryz.prog 157 [.i x,.p a.D,.p m.D] (.d (.b (!jP a m.nodes x))):=by
 have hda:=aJ hba
 have da:=bu hba
 have hok:jP a m.nodes x=(inR x (-a.roots) (a.nodes.length - 1) && !gV a m.nodes x):=rfl
 refine ah Tryz.func157 (fun hw W0=>?_)
 have f1:=kp x (-a.roots) (a.nodes.length - 1)
 rw [hok]
 refine kgo ?_
 cases h:inR x (-a.roots) (a.nodes.length - 1)
 ·refine kgo ?_
  exact aq
 have f2:=mh hba m.nodes x (by have:=bK h;omega)
 rw [Bool.true_and,Bool.not_not]
 refine kgo ?_
 exact aq
theorem ze {sig:List Ctl} {r a:Big} (m:Mat) (hbr:aF sig r=true) (hba:aF sig a=true):FnD Tryz.prog 101 [r.D,a.D,m.D] (.d (.b (dD r a m))):=by
 have dr:=bu hbr
 have da:=bu hba
 have hrn:=dr.3
 have hr:=bK dr.1
 have hm:=yF r a m
 refine ah Tryz.func101 (fun hw W0=>?_)
 have hmr:=(wfM hw.2.2.1.2.1).1
 refine kgo ?_
 cases h1:decide ((m.nodes.length:Int)=r.nodes.length)
 ·have h1:=of_decide_eq_false h1
  rw [decide_eq_false (show ¬m.nodes.length=r.nodes.length by omega)] at hm
  rw [hm]
  refine kgo ?_
  exact aq
 have h1:=of_decide_eq_true h1
 have hlen:m.nodes.length=r.nodes.length:=by omega
 refine kgo ?_
 refine jE (fun h2=>?_) (fun h2=>?_)
 ·rw [decide_eq_false h2,Bool.and_false] at hm
  rw [hm]
  refine kgo ?_
  exact aq
 rw [decide_eq_true hlen,decide_eq_true h2,Bool.true_and,Bool.true_and] at hm
 refine kgo ?_
 refine tL 4 a.D ?_
 refine tL 5 m.D ?_
 refine ai [3,4,5,27,28] (fun i:Nat=>i≤m.nodes.length∧(List.range i).all (tZ a m.nodes)=true) (fun i=>m.nodes.length - i) (fun i=>[(29,.sy (.d (.i i)))]) 0 ⟨Nat.zero_le _,rfl⟩ (fun i hi=>?_)
 refine kgo ?_
 refine aL (fun h3=>?_) (fun h3=>?_)
 ·have hlt:i<m.nodes.length:=by omega
  have f1:=Cp a m.nodes[i] da.3
  have f2:=eR (m.nodes.take i) m.nodes[i]
  have hok:tZ a m.nodes i=(inR m.nodes[i] 0 (a.nodes.length - 1) && !dP (m.nodes.take i) m.nodes[i]):=by unfold tZ;rw [cE _ i hlt]
  have bad:tZ a m.nodes i=false→dD r a m=false:=fun h=>by rw [hm,br _ _ i hlt h];rfl
  refine kgo ?_
  cases h4:inR m.nodes[i] 0 (a.nodes.length - 1)
  ·rw [h4] at hok
   refine kgo ?_
   rw [bad hok]
   exact aq
  rw [h4] at hok
  refine kgo ?_
  refine cIf (fun h5=>?_) (fun h5=>?_)
  ·rw [h5] at hok
   refine kgo ?_
   rw [bad hok]
   exact aq
  ·rw [h5] at hok
   refine kgo ?_
   exact af (i+1) ⟨hlt,by rw [cL,hi.2,hok];rfl⟩ (by omega)
 have hid:(List.range m.nodes.length).all (tZ a m.nodes)=true:=fL _ _ i (by omega) hi.1 hi.2
 rw [hid,Bool.true_and] at hm
 have f1:=dY m.roots 157 [.p a.D,.p m.D] (fun x=>!jP a m.nodes x) rfl (fun x _=>xz hba m x)
 rw [iK] at f1
 refine kgo ?_
 refine cIf (fun h4=>?_) (fun h4=>?_)
 ·rw [Bool.not_eq_true'] at h4
  rw [h4] at hm
  rw [hm]
  refine kgo ?_
  exact aq
 rw [Bool.not_eq_false'] at h4
 rw [h4,Bool.true_and] at hm
 have f2:=uC m hbr dr da hid hlen h2
 refine kgo ?_
 refine cIf (fun h5=>?_) (fun h5=>?_)
 ·rw [Bool.not_eq_true'] at h5
  rw [h5] at hm
  rw [hm]
  refine kgo ?_
  exact aq
 rw [Bool.not_eq_false'] at h5
 rw [h5,Bool.true_and] at hm
 have f3:=nh m.nodes hbr hba (CG hid h5 hlen)
 refine kgo ?_
 rw [hm]
 exact aq
theorem vB {sig:List Ctl} {a:Big} (hba:aF sig a=true) (ps:List Int) (x:Int) (hx:x<a.nodes.length):FnD Tryz.prog 161 [.i x,.p a.D,.p (DI ps)] (.d (.b (gV a ps x))):=by
 refine ah Tryz.func161 (fun hw W0=>?_)
 have f1:=mh hba ps x hx
 refine kgo ?_
 exact aq
theorem yM {sig:List Ctl} {a:Big} (hba:aF sig a=true) (m:Mat) (hx:∀p∈m.roots,p<(a.nodes.length:Int)):FnD Tryz.prog 102 [.l 3 (sig.map Ctl.D),a.D,m.D] (.d (.b (kj sig a m.roots))):=by
 have da:=bu hba
 have hn:=da.3
 refine ah Tryz.func102 (fun hw W0=>?_)
 refine kgo ?_
 refine ai [0,4,5,7,12,13] (fun i:Nat=>i≤a.nodes.length) (fun i=>a.nodes.length - i) (fun i=>[(10007,.tk (.bx [.k 20001])),(20001,.tk (.row 1 3 ((idxOf (fun i=>rK sig a i) i).map .i))),(14,.sy (.d (.i i)))]) 0 (Nat.zero_le _) (fun i hi=>?_)
 refine kgo ?_
 refine aL (fun h=>?_) (fun h=>?_)
 ·have hlt:i<a.nodes.length:=by omega
  obtain ⟨c0,c1,_⟩:=eW hba i hlt
  obtain ⟨j,hj⟩:=Int.eq_ofNat_of_zero_le c0
  have hjl:j<sig.length:=by omega
  have hpf:rK sig a i=decide ((sig[j]).kind=1):=by unfold rK;rw [aD a i hlt,hj,jb sig j hjl]
  have hl:=de (fun i=>rK sig a i) i
  refine kgo ?_
  refine dm (n:=j) (fun _=>?_) rfl rfl (congrArg some hj)
  refine kgo ?_
  refine aL (fun h2=>?_) (fun h2=>?_)
  ·have hs:(idxOf (fun i=>rK sig a i) (i+1)).map D.i=(idxOf (fun i=>rK sig a i) i).map D.i++[.i i]:=by rw [dg (hpf.trans (decide_eq_true h2)),List.map_append];rfl
   refine kgo ?_
   exact af (i+1) (by omega) (by omega)
  ·have hs:(idxOf (fun i=>rK sig a i) (i+1)).map D.i=(idxOf (fun i=>rK sig a i) i).map D.i:=by rw [eJ (hpf.trans (decide_eq_false h2))]
   refine kgo ?_
   exact af (i+1) (by omega) (by omega)
 have hin:∀p∈m.roots,gV a (idxOf (fun i=>rK sig a i) i) p=k8 sig a p:=fun p hp=>by
  rw [show i=a.nodes.length by omega];exact DP hba (hx p hp)
 have f1:=dY m.roots 161 [.p a.D,.p (DI (idxOf (fun i=>rK sig a i) i))] (fun x=>gV a (idxOf (fun i=>rK sig a i) i) x) rfl (fun x hxm=>vB hba _ x (hx x hxm))
 have hE:(!(m.roots.any fun x=>gV a (idxOf (fun i=>rK sig a i) i) x))=kj sig a m.roots:=by
  unfold kj
  rw [Bool.eq_iff_iff]
  simp only [Bool.not_eq_true',List.any_eq_false,List.all_eq_true]
  exact ⟨fun h p hp=>by rw [← hin p hp];simpa using h p hp,fun h p hp=>by rw [hin p hp];have:=h p hp;simpa using this⟩
 rw [← hE]
 refine bB (aB (aB (bC (aN ?_))))
 refine tL 4 a.D ?_
 refine ou 10007 0 ?_
 refine tL 7 (DI (idxOf (fun i=>rK sig a i) i)) ?_
 refine kgo ?_
 exact aq
end Go.Proofs.YtacafmejcdgboaaGreatDoor
namespace Go.Proofs.YtacafmejcdgboaaGreatDoor
open Go.RowKit
set_option linter.unusedVariables false
set_option maxRecDepth 100000
set_option maxHeartbeats 4000000
attribute [local irreducible] ar Der At
theorem vS {sig:List Ctl} {a:Big} (m:Mat) (hba:aF sig a=true):FnD Tryz.prog 122 [a.D,m.D] (.d (DI (jV a m.nodes))):=by
 have da:=bu hba
 have hn:=da.3
 refine ah Tryz.func122 (fun hw W0=>?_)
 refine kgo ?_
 refine ai [2,3,10] (fun i:Nat=>i≤a.nodes.length) (fun i=>a.nodes.length - i) (fun i=>[(5,.sy (.k 20001)),(20001,.tk (.row 1 3 ((idxOf (fun i=>!gV a m.nodes i) i).map .i))),(11,.sy (.d (.i i)))]) 0 (Nat.zero_le _) (fun i hi=>?_)
 refine kgo ?_
 refine aL (fun h=>?_) (fun h=>?_)
 ·have hlt:i<a.nodes.length:=by omega
  have f1:=mh hba m.nodes i (by omega)
  have hl:=de (fun i=>!gV a m.nodes i) i
  refine kgo ?_
  refine cIf (fun h2=>?_) (fun h2=>?_)
  ·have hs:(idxOf (fun i=>!gV a m.nodes i) (i+1)).map D.i=(idxOf (fun i=>!gV a m.nodes i) i).map D.i++[.i i]:=by rw [dg h2,List.map_append];rfl
   refine kgo ?_
   exact af (i+1) (by omega) (by omega)
  ·have hs:(idxOf (fun i=>!gV a m.nodes i) (i+1)).map D.i=(idxOf (fun i=>!gV a m.nodes i) i).map D.i:=by rw [eJ h2]
   refine kgo ?_
   exact af (i+1) (by omega) (by omega)
 rw [show jV a m.nodes=idxOf (fun i=>!gV a m.nodes i) i from by rw [show i=a.nodes.length by omega];rfl]
 repeat (first|(refine cy ?_;first|refine aV ?_|refine bY ?_|refine aY ?_|refine aZ ?_|refine aS ?_|refine bg ?_|refine bi ?_|refine ay ?_|refine be ?_)|(refine fo ?_;first|refine bQ ?_|refine eZ ?_|refine cr ?_|refine b8 ?_)|(refine fa ?_;first|refine dm (fun _=>?_)|refine b9 ?_|refine cm ?_|refine bG ?_|refine cw ?_|refine ck ?_)|(refine fh ?_;first|refine cg ?_|refine eB ?_|refine bT ?_|refine bI ?_|refine cq ?_|refine bV ?_|refine bZ ?_)|(refine fe ?_;first|refine fl ?_|refine eS ?_|refine cd ?_|refine bP ?_|refine fq ?_|refine bl ?_|refine bo ?_)|(refine cu ?_;first|refine aX ?_|refine ch ?_)|(refine ff ?_;first|refine fF (d:=4) ?_|refine cj ?_|refine ct ?_|refine ft ?_)|(refine cf ?_;first|refine ca ?_|refine bd ?_|refine aQ ?_|refine ba ?_|refine aU ?_|refine bh ?_)|(refine fc ?_;first|refine b7 ?_|refine eY ?_|refine bj ?_|refine aR ?_|refine bm ?_)|(refine aI ?_;first|refine au _ ?_|refine bf ?_|refine aA ?_|refine av ?_|refine ax ?_)|(refine fu ?_;first|refine cb ?_|refine bH ?_|refine bX ?_)|(refine gOp ?_;first|refine fd ?_|refine fm ?_|refine bc ?_|refine fp ?_|refine fj ?_|refine bU ?_|refine aT ?_|refine co ?_|refine fw ?_|refine bM ?_|refine b6 ?_|refine bk ?_|refine az ?_|refine bW ?_|refine sNo ?_|refine dO ?_|refine aw ?_)|refine dZ ?_|refine cN ?_|refine fB ?_|refine bp ?_|refine cz ?_|refine bB ?_|refine fC ?_|refine fI ?_|refine fx ?_|refine df ?_|refine cC ?_|refine aN ?_|refine aB ?_|refine bq ?_|refine ci ?_|refine bC ?_|refine aBlkX ?_|refine cA ?_)
 exact aq
theorem jo {sig:List Ctl} {a:Big} (m:Mat) (hba:aF sig a=true):FnD Tryz.prog 123 [a.D,m.D] (.d (DI (bz a m.nodes))):=by
 have da:=bu hba
 have hn:=da.3
 refine ah Tryz.func123 (fun hw W0=>?_)
 refine kgo ?_
 refine ai [2,3,10] (fun i:Nat=>i≤a.nodes.length) (fun i=>a.nodes.length - i) (fun i=>[(5,.sy (.k 20001)),(20001,.tk (.row 1 3 ((idxOf (mw a m.nodes) i).map .i))),(11,.sy (.d (.i i)))]) 0 (Nat.zero_le _) (fun i hi=>?_)
 refine kgo ?_
 refine aL (fun h=>?_) (fun h=>?_)
 ·have hlt:i<a.nodes.length:=by omega
  have f1:=mh hba m.nodes i (by omega)
  have f2:=eR m.nodes i
  have hl:=de (mw a m.nodes) i
  have hp:mw a m.nodes i=(gV a m.nodes i && !dP m.nodes i):=rfl
  refine kgo ?_
  cases h3:gV a m.nodes i
  ·rw [h3] at hp
   have hs:(idxOf (mw a m.nodes) (i+1)).map D.i=(idxOf (mw a m.nodes) i).map D.i:=by rw [eJ hp]
   refine kgo ?_
   exact af (i+1) (by omega) (by omega)
  rw [h3,Bool.true_and] at hp
  refine kgo ?_
  refine cIf (fun h2=>?_) (fun h2=>?_)
  ·have hs:(idxOf (mw a m.nodes) (i+1)).map D.i=(idxOf (mw a m.nodes) i).map D.i++[.i i]:=by rw [dg (hp.trans h2),List.map_append];rfl
   refine kgo ?_
   exact af (i+1) (by omega) (by omega)
  ·have hs:(idxOf (mw a m.nodes) (i+1)).map D.i=(idxOf (mw a m.nodes) i).map D.i:=by rw [eJ (hp.trans h2)]
   refine kgo ?_
   exact af (i+1) (by omega) (by omega)
 rw [show bz a m.nodes=idxOf (mw a m.nodes) i from by rw [show i=a.nodes.length by omega];rfl]
 repeat (first|(refine cy ?_;first|refine aV ?_|refine bY ?_|refine aY ?_|refine aZ ?_|refine aS ?_|refine bg ?_|refine bi ?_|refine ay ?_|refine be ?_)|(refine fo ?_;first|refine bQ ?_|refine eZ ?_|refine cr ?_|refine b8 ?_)|(refine fa ?_;first|refine dm (fun _=>?_)|refine b9 ?_|refine cm ?_|refine bG ?_|refine cw ?_|refine ck ?_)|(refine fh ?_;first|refine cg ?_|refine eB ?_|refine bT ?_|refine bI ?_|refine cq ?_|refine bV ?_|refine bZ ?_)|(refine fe ?_;first|refine fl ?_|refine eS ?_|refine cd ?_|refine bP ?_|refine fq ?_|refine bl ?_|refine bo ?_)|(refine cu ?_;first|refine aX ?_|refine ch ?_)|(refine ff ?_;first|refine fF (d:=4) ?_|refine cj ?_|refine ct ?_|refine ft ?_)|(refine cf ?_;first|refine ca ?_|refine bd ?_|refine aQ ?_|refine ba ?_|refine aU ?_|refine bh ?_)|(refine fc ?_;first|refine b7 ?_|refine eY ?_|refine bj ?_|refine aR ?_|refine bm ?_)|(refine aI ?_;first|refine au _ ?_|refine bf ?_|refine aA ?_|refine av ?_|refine ax ?_)|(refine fu ?_;first|refine cb ?_|refine bH ?_|refine bX ?_)|(refine gOp ?_;first|refine fd ?_|refine fm ?_|refine bc ?_|refine fp ?_|refine fj ?_|refine bU ?_|refine aT ?_|refine co ?_|refine fw ?_|refine bM ?_|refine b6 ?_|refine bk ?_|refine az ?_|refine bW ?_|refine sNo ?_|refine dO ?_|refine aw ?_)|refine dZ ?_|refine cN ?_|refine fB ?_|refine bp ?_|refine cz ?_|refine bB ?_|refine fC ?_|refine fI ?_|refine fx ?_|refine df ?_|refine cC ?_|refine aN ?_|refine aB ?_|refine bq ?_|refine ci ?_|refine bC ?_|refine aBlkX ?_|refine cA ?_)
 exact aq
theorem nI (l:List ByteArray) (s:ByteArray):FnD Tryz.prog 265 [DS l,.s s] (.d (.i (jx l s))):=by
 refine ah Tryz.func265 (fun hw W0=>?_)
 have hl:=(wfM hw.1).1
 refine kgo ?_
 refine ai [0,1,7] (fun i:Nat=>i≤l.length∧∀j (h:j<l.length),j<i→(l[j].toList == s.toList)=false) (fun i=>l.length - i) (fun i=>[(8,.sy (.d (.i i)))]) 0 ⟨Nat.zero_le _,fun j _ h=>absurd h (Nat.not_lt_zero _)⟩ (fun i hi=>?_)
 refine kgo ?_
 refine aL (fun h=>?_) (fun h=>?_)
 ·have hlt:i<l.length:=by omega
  refine kgo ?_
  refine cIf (fun h2=>?_) (fun h2=>?_)
  ·rw [Bool.beq_comm] at h2
   refine kgo ?_
   rw [vj hlt h2 (fun j hj=>hi.2 j (by omega) hj)]
   exact aq
  ·rw [Bool.beq_comm] at h2
   refine kgo ?_
   exact af (i+1) ⟨hlt,fun j h1 h3=>by
    rcases Nat.lt_or_ge j i with h4|h4
    ·exact hi.2 j h1 h4
    ·rw [show l[j]=l[i] from by congr 1;omega];exact h2⟩ (by omega)
 refine kgo ?_
 rw [AV (fun j h1=>hi.2 j h1 (by omega))]
 exact aq
def rv (l:List ByteArray) (s:ByteArray):Bool:=decide (0≤jx l s)
theorem oF (l:List ByteArray) (s:ByteArray):FnD Tryz.prog 237 [DS l,.s s] (.d (.b (rv l s))):=by
 refine ah Tryz.func237 (fun hw W0=>?_)
 have f1:=nI l s
 refine kgo ?_
 exact aq
def kW (es:List Int) (outer:List ByteArray) (name:Int→ByteArray) (l:Int):Int:=if 0≤dc es l then dc es l else es.length+jx (cH outer) (name l)
def lP (b:Big) (es:List Int) (outer:List ByteArray) (place:Int→Int) (name:Int→ByteArray) (k:Int):Nd:=⟨(dR b k).control,place (dR b k).parent,(dR b k).links.map (kW es outer name)⟩
def pA (b:Big) (ns es:List Int) (outer:List ByteArray) (place:Int→Int) (name:Int→ByteArray):Big:=⟨b.roots,ns.map (lP b es outer place name),[],es.length,cH outer,[]⟩
theorem tC (rest:List Int) (p:Int):FnD Tryz.prog 227 [.i p,.p (DI rest)] (.d (.i (if 0≤p then dc rest p else p))):=by
 refine ah Tryz.func227 (fun hw W0=>?_)
 have f1:=iD rest p
 refine kgo ?_
 refine aL (fun h=>?_) (fun h=>?_)
 ·rw [if_pos h]
  refine kgo ?_
  exact aq
 ·rw [if_neg h]
  refine kgo ?_
  exact aq
theorem sG (a:Big) (l:Int) (h0:0≤l - a.edges) (h1:l - a.edges<a.outer.length) (he:0≤a.edges∧a.edges≤1000) (hol:a.outer.length≤1000):FnD Tryz.prog 229 [.i l,.p a.D] (.d (.s (a.outer.getD (l - a.edges).toNat ⟨#[]⟩))):=by
 obtain ⟨q,hq⟩:=Int.eq_ofNat_of_zero_le h0
 have hql:q<a.outer.length:=by omega
 refine ah Tryz.func229 (fun hw W0=>?_)
 refine kgo ?_
 refine dm (n:=q) (fun _=>?_) rfl rfl (congrArg some hq)
 rw [show a.outer.getD (l - a.edges).toNat ⟨#[]⟩=a.outer[q] from by rw [hq,Int.toNat_natCast];simp [hql]]
 refine kgo ?_
 exact aq
theorem sn (a:Big) (es:List Int) (l:Int) (h0:0≤l∧l≤1000) (he:0≤a.edges∧a.edges≤1000) (hes:es.length≤1000):FnD Tryz.prog 230 [.i l,.p a.D,.p (DI es)] (.d (.i (if l<a.edges then dc es l else es.length+(l - a.edges)))):=by
 refine ah Tryz.func230 (fun hw W0=>?_)
 have f1:=iD es l
 refine kgo ?_
 refine aL (fun h=>?_) (fun h=>?_)
 ·rw [if_pos h]
  refine kgo ?_
  exact aq
 ·rw [if_neg h,show (es.length:Int)+(l - a.edges)=(es.length:Int)+l - a.edges by omega]
  refine kgo ?_
  exact aq
end Go.Proofs.YtacafmejcdgboaaGreatDoor
