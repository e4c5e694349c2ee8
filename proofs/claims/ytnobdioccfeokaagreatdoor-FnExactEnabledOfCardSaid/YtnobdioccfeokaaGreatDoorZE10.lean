/-
  Proved facts that the law leans on.
-/
import Derived.Test.YtnobdioccfeokaaGreatDoorZE4
import Derived.Test.YtnobdioccfeokaaGreatDoorZE5
import Derived.Test.YtnobdioccfeokaaGreatDoorZE7
import Derived.Test.YtnobdioccfeokaaGreatDoorZE9
import Derived.Test.YtnobdioccfeokaaGreatDoorCards
import Derived.Test.YtnobdioccfeokaaGreatDoorTie
import Derived.Test.YtnobdioccfeokaaGreatDoorRows
import Derived.Deep.DeepMust
import Derived.ProofKit
import Derived.ShutString
import Derived.Lib.SmallJoins
import Derived.Deep.DeepHandedRow
import Derived.Lib.LaidTab
import Derived.Lay
import Derived.LaidSub
import Derived.MakeChecks
namespace Go.Proofs.YtnobdioccfeokaaGreatDoor
open Go.RowKit
set_option linter.unusedVariables false
set_option maxRecDepth 100000
set_option maxHeartbeats 4000000
attribute [local irreducible] ar Der At
theorem si {l:List Int} (h:l.Pairwise (· < ·)) {i j:Nat} (hi:i<l.length) (hj:j<l.length) (hij:i<j):l[i]<l[j]:=(List.pairwise_iff_getElem.1 h) i j hi hj hij
theorem uY {l:List Int} (h:l.Pairwise (· < ·)) (e:Nat) (he:e<l.length):dh l l[e]=e:=by
 have hm:l[e]∈l:=List.getElem_mem he
 unfold dh
 rw [if_pos (cO.2 hm)]
 have hd:l.idxOf l[e]<l.length:=List.idxOf_lt_length_of_mem hm
 have hv:l[l.idxOf l[e]]=l[e]:=List.getElem_idxOf hd
 rcases Nat.lt_trichotomy (l.idxOf l[e]) e with h1|h1|h1
 ·have:=si h hd he h1;omega
 ·rw [h1]
 ·have:=si h he hd h1;omega
def ml (ps z:List Int) (base k:Nat):List Int:=(List.range k).foldl (fun l (i:Nat)=>l.set (atI ps i).toNat ((base:Int)+i)) z
theorem mU (ps z:List Int) (base k:Nat):ml ps z base (k+1)=(ml ps z base k).set (atI ps k).toNat ((base:Int)+k):=by unfold ml;rw [List.range_succ,List.foldl_append];rfl
theorem px (ps z:List Int) (base k:Nat):(ml ps z base k).length=z.length:=by
 induction k with
 | zero=>simp [ml]
 | succ k ih=>rw [mU,List.length_set,ih]
theorem xb {ps z:List Int} (base:Nat) (hi:ps.Pairwise (· < ·)) (h0:∀x∈ps,0≤x∧x<(z.length:Int)):∀k,k≤ps.length→∀e (he:e<ps.length),e<k→atI (ml ps z base k) ps[e]=base+e:=by
 intro k
 induction k with
 | zero=>intro _ e _ h;exact absurd h (Nat.not_lt_zero _)
 | succ k ih=>
  intro hk e he hek
  have hkl:k<ps.length:=by omega
  have b1:=h0 _ (List.getElem_mem he)
  have b2:=h0 _ (List.getElem_mem hkl)
  have hl:=px ps z base k
  rw [mU,bF ps k hkl]
  unfold atI
  by_cases e1:e=k
  ·subst e1
   rw [List.getD_eq_getElem?_getD,List.getElem?_set_self (by omega)];rfl
  ·have hlt:=si hi he hkl (by omega)
   rw [List.getD_eq_getElem?_getD,List.getElem?_set_ne (by omega),← List.getD_eq_getElem?_getD]
   exact ih (by omega) e he (by omega)
theorem EG {f:Nat→Bool} {n:Nat} {k q j:Nat} (hk:k<(idxOf f n).length) (hq:(idxOf f n)[k]=(q:Int)) (hj:j<q) (hf:f j=true):∃e,e<k∧∃he:e<(idxOf f n).length,(idxOf f n)[e]=(j:Int):=by
 obtain ⟨i,hi,_,hqi⟩:=bp.1 (List.getElem_mem hk)
 have hm:(j:Int)∈idxOf f n:=bp.2 ⟨j,by omega,hf,rfl⟩
 obtain ⟨e,he,h1⟩:=List.mem_iff_getElem.1 hm
 refine ⟨e,?_,he,h1⟩
 rcases Nat.lt_trichotomy e k with h|h|h
 ·exact h
 ·subst h;omega
 ·have:=si (gN f n) hk he h;omega
def dO (p:Big) (list:List Int) (i base:Nat) (q:Int):Nd:=⟨(dF p q).control,if (dF p q).parent<0 then -1 - (i:Int) else (base:Int)+dh list (dF p q).parent,(dF p q).links⟩
def dA (p:Big) (cs:List Int):Nat→List Nd
 | 0=>[]
 | i+1=>dA p cs i++(pK p (-1 - atI cs i)).map (dO p (pK p (-1 - atI cs i)) i (dA p cs i).length)
def mr (cs:List Int) (p:Big):Big:=⟨cs.length,dA p cs cs.length,[],0,p.outer,[]⟩
theorem sq (p:Big) (cs:List Int) (i:Nat):(dA p cs i).length≤i * p.nodes.length:=by
 induction i with
 | zero=>simp [dA]
 | succ i ih=>
  have:=dz (iK p (-1 - atI cs i)) p.nodes.length
  unfold dA pK
  rw [List.length_append,List.length_map,Nat.succ_mul]
  omega
theorem so {sig:List Ctl} (r:Rul) {p:Big} (hp:aH sig p=true) (hc:r.copies.length≤100):FnD Tryz.prog 102 [r.D,p.D] (.d (mr r.copies p).D):=by
 have hd:=bl hp
 have hdm:=bw hp
 refine af Tryz.func102 (fun hw W0=>?_)
 have hwc:=(wfM hw.1.2.2.1).2
 repeat (first|(refine ca ?_;first|refine aM ?_|refine b6 ?_|refine aR ?_|refine bh ?_|refine aL ?_|refine bg ?_|refine aX ?_|refine az ?_|refine aV ?_)|(refine eG ?_;first|refine bH ?_|refine eC ?_|refine bP ?_|refine cb ?_)|(refine eT ?_;first|refine cS (fun _=>?_)|refine cd ?_|refine bR ?_|refine b9 ?_|refine bu ?_|refine bJ ?_|refine b8 ?_)|(refine eR ?_;first|refine ch ?_|refine d7 ?_|refine b7 ?_|refine bD ?_|refine bN ?_|refine bX ?_|refine bS ?_)|(refine eK ?_;first|refine eF ?_|refine eA ?_|refine bU ?_|refine bG ?_|refine eH ?_|refine bd ?_|refine bc ?_)|(refine bV ?_;first|refine ba ?_|refine bT ?_)|(refine eV ?_;first|refine bI ?_|refine bQ ?_|refine eJ ?_)|(refine bL ?_;first|refine bO ?_|refine aS ?_|refine aN ?_|refine aW ?_|refine aQ ?_|refine aY ?_)|(refine eE ?_;first|refine bZ ?_|refine eB ?_|refine be ?_|refine aP ?_|refine aU ?_)|(refine aK ?_;first|refine aq _ ?_|refine bf ?_|refine aw ?_|refine au ?_|refine ax ?_)|(refine eP ?_;first|refine bW ?_|refine bE ?_|refine bM ?_)|(refine gOp ?_;first|refine eD ?_|refine eM ?_|refine aZ ?_|refine eU ?_|refine eN ?_|refine bK ?_|refine aO ?_|refine cf ?_|refine eO ?_|refine bC ?_|refine bY ?_|refine aT ?_|refine sFz 19 ?_|refine ay ?_|refine cg ?_|refine sNo ?_|refine dU ?_|refine av ?_)|refine dY ?_|refine dq ?_|refine fj ?_|refine bj ?_|refine ci ?_|refine br ?_|refine fm ?_|refine fl ?_|refine eX ?_|refine dB ?_|refine ck ?_|refine bo ?_|refine aA ?_|refine bk ?_|refine ct ?_|refine bt ?_|refine aBlkX ?_|refine cm ?_|refine sFz 19 ?_)
 refine ai [2,3,4,5] (fun i:Nat=>i≤r.copies.length) (fun i=>r.copies.length - i) (fun i=>[(10005,.tk (.bx [.d (.i r.copies.length),.k 20001,.d (.n 1),.d (.i 0),.d (DS p.outer),.d (.n 2)])),(20001,.tk (.row 3 153 ((dA p r.copies i).map Nd.D))),(6,.sy (.d (.i i)))]) 0 (Nat.zero_le _) (fun i hi=>?_)
 refine kgo ?_
 refine aJ (fun h=>?_) (fun h=>?_)
 ·have hlt:i<r.copies.length:=by omega
  have f1:=By hp (-1 - r.copies[i])
  have hil:=sq p r.copies i
  have hb1:i * p.nodes.length≤100 * 8:=Nat.mul_le_mul (by omega) hd.2.1
  have hil2:(dA p r.copies i).length≤800:=by omega
  have hz:List.replicate p.nodes.length (D.i 0)=(ml (pK p (-1 - r.copies[i])) (List.replicate p.nodes.length 0) (dA p r.copies i).length 0).map D.i:=by rw [show ml (pK p (-1 - r.copies[i])) (List.replicate p.nodes.length 0) (dA p r.copies i).length 0=List.replicate p.nodes.length 0 from by simp [ml],List.map_replicate]
  have hnext:dA p r.copies (i+1)=dA p r.copies i++(pK p (-1 - r.copies[i])).map (dO p (pK p (-1 - r.copies[i])) i (dA p r.copies i).length):=by rw [← bF r.copies i hlt];rfl
  have hcb:I64 (-1 - r.copies[i]):=by have:=hwc _ (List.getElem_mem hlt);unfold Wf I64 at this;unfold I64;omega
  repeat (first|(refine ca ?_;first|refine aM ?_|refine b6 ?_|refine aR ?_|refine bh ?_|refine aL ?_|refine bg ?_|refine aX ?_|refine az ?_|refine aV ?_)|(refine eG ?_;first|refine bH ?_|refine eC ?_|refine bP ?_|refine cb ?_)|(refine eT ?_;first|refine cS (fun _=>?_)|refine cd ?_|refine bR ?_|refine b9 ?_|refine bu ?_|refine bJ ?_|refine b8 ?_)|(refine eR ?_;first|refine ch ?_|refine d7 ?_|refine b7 ?_|refine bD ?_|refine bN ?_|refine bX ?_|refine bS ?_)|(refine eK ?_;first|refine eF ?_|refine eA ?_|refine bU ?_|refine bG ?_|refine eH ?_|refine bd ?_|refine bc ?_)|(refine bV ?_;first|refine cD (d:=7) ?_|refine ba ?_|refine bT ?_)|(refine eV ?_;first|refine dL (d:=7) ?_|refine bI ?_|refine bQ ?_|refine eJ ?_)|(refine bL ?_;first|refine bO ?_|refine aS ?_|refine aN ?_|refine aW ?_|refine aQ ?_|refine aY ?_)|(refine eE ?_;first|refine bZ ?_|refine eB ?_|refine be ?_|refine aP ?_|refine aU ?_)|(refine aK ?_;first|refine aq _ ?_|refine bf ?_|refine aw ?_|refine au ?_|refine ax ?_)|(refine eP ?_;first|refine bW ?_|refine bE ?_|refine bM ?_)|(refine gOp ?_;first|refine eD ?_|refine eM ?_|refine aZ ?_|refine eU ?_|refine eN ?_|refine bK ?_|refine aO ?_|refine cf ?_|refine eO ?_|refine bC ?_|refine bY ?_|refine aT ?_|refine ay ?_|refine cg ?_|refine sNo ?_|refine dU ?_|refine av ?_)|refine dY ?_|refine dq ?_|refine fj ?_|refine bj ?_|refine ci ?_|refine br ?_|refine fm ?_|refine fl ?_|refine eX ?_|refine dB ?_|refine ck ?_|refine bo ?_|refine aA ?_|refine bk ?_|refine ct ?_|refine bt ?_|refine aBlkX ?_|refine cm ?_)
  refine bC (n:=p.nodes.length) (r:=.i 0) ?_ rfl rfl (hb:=by show 8 * p.nodes.length≤1000000000;omega)
  have hul:(pK p (-1 - r.copies[i])).length≤p.nodes.length:=dz _ _
  have hmem:∀x∈pK p (-1 - r.copies[i]),∃q:Nat,q<p.nodes.length∧iK p (-1 - r.copies[i]) q=true∧x=q:=fun x hx=>bp.1 hx
  have hinc:(pK p (-1 - r.copies[i])).Pairwise (· < ·):=gN _ _
  have hup:∀(k q j:Nat) (hk:k<(pK p (-1 - r.copies[i])).length),(pK p (-1 - r.copies[i]))[k]=(q:Int)→j<q→iK p (-1 - r.copies[i]) j=true→∃e,e<k∧∃he:e<(pK p (-1 - r.copies[i])).length,(pK p (-1 - r.copies[i]))[e]=(j:Int):=fun k q j hk hq hj hf=>EG hk hq hj hf
  generalize hba:(dA p r.copies i).length=base at *
  generalize pK p (-1 - r.copies[i])=lst at *
  have h00:(dA p r.copies i).map Nd.D=(dA p r.copies i++(lst.take 0).map (dO p lst i base)).map Nd.D:=by simp
  refine kgo ?_
  refine ai [2,3,4,5,6,7,8] (fun k:Nat=>k≤lst.length) (fun k=>lst.length - k) (fun k=>[(10005,.tk (.bx [.d (.i r.copies.length),.k 20001,.d (.n 1),.d (.i 0),.d (DS p.outer),.d (.n 2)])),(20001,.tk (.row 3 153 ((dA p r.copies i++(lst.take k).map (dO p lst i base)).map Nd.D))),(10039,.tk (.row 1 3 ((ml lst (List.replicate p.nodes.length 0) base k).map .i))),(9,.sy (.d (.i k)))]) 0 (Nat.zero_le _) (fun k hk=>?_)
  refine kgo ?_
  refine aJ (fun h2=>?_) (fun h2=>?_)
  ·have hkl:k<lst.length:=by omega
   obtain ⟨q,hq1,hq2,hq⟩:=hmem _ (List.getElem_mem hkl)
   have hpl:=px lst (List.replicate p.nodes.length 0) base k
   rw [List.length_replicate] at hpl
   have hs:=mU lst (List.replicate p.nodes.length 0) base k
   rw [bF lst k hkl,hq,Int.toNat_natCast] at hs
   have hlen:((((dA p r.copies i++(lst.take k).map (dO p lst i base)).map Nd.D).length:Nat):Int)=(base:Int)+k:=by rw [List.length_map,List.length_append,List.length_map,List.length_take,hba];omega
   refine kgo ?_
   refine bu (n:=q) ?_ rfl rfl rfl (congrArg some hq)
   refine kgo ?_
   rw [hlen,← hs]
   refine cS (n:=q) (fun _=>?_) rfl rfl (congrArg some hq)
   have hnd:dF p q=p.nodes[q]:=aB p q hq1
   have hll:=hdm.7 q hq1
   have hut:=iE hp q hq1
   have f2:=uX (p.nodes[q]).links hll
   have hlen2:(dA p r.copies i++(lst.take k).map (dO p lst i base)).length≤1000:=by rw [List.length_append,List.length_map,List.length_take,hba];omega
   have hs2:∀V:Int,V=(dO p lst i base q).parent→((dA p r.copies i++(lst.take (k+1)).map (dO p lst i base))).map Nd.D=((dA p r.copies i++(lst.take k).map (dO p lst i base))).map Nd.D++[Nd.D ⟨(p.nodes[q]).control,V,(p.nodes[q]).links⟩]:=fun V hV=>by
    simp only [List.take_succ_eq_append_getElem hkl,List.map_append,List.append_assoc,List.map_cons,List.map_nil,hq]
    rw [hV,← hnd];rfl
   have hpl2:=px lst (List.replicate p.nodes.length 0) base (k+1)
   rw [List.length_replicate] at hpl2
   refine kgo ?_
   refine aJ (fun h3=>?_) (fun h3=>?_)
   ·obtain ⟨j,hj⟩:=Int.eq_ofNat_of_zero_le h3
    have hjq:j<q:=by omega
    have huj:iK p (-1 - r.copies[i]) j=true:=by
     rw [n8 p _ q hq1,hj,o9 hp j (by omega)] at hq2
     rw [n8 p _ j (by omega)];exact hq2
    obtain ⟨e,he1,he2,he3⟩:=hup k q j hkl hq hjq huj
    have hv:=xb (z:=List.replicate p.nodes.length 0) base hinc (fun x hx=>by obtain ⟨y,h1,_,h2⟩:=hmem x hx;rw [List.length_replicate];omega) (k+1) hkl e he2 (by omega)
    have hix:=uY hinc e he2
    have hjl:j<(ml lst (List.replicate p.nodes.length 0) base (k+1)).length:=by omega
    rw [he3,bF _ j hjl] at hv
    rw [he3] at hix
    have hs3:=hs2 ((ml lst (List.replicate p.nodes.length 0) base (k+1))[j]) (by rw [hv];show _=(if (dF p q).parent<0 then _ else _);rw [hnd,hj,if_neg (by omega),hix])
    refine kgo ?_
    refine bu (n:=j) ?_ rfl rfl rfl (congrArg some hj)
    repeat (first|(refine ca ?_;first|refine aM ?_|refine b6 ?_|refine aR ?_|refine bh ?_|refine aL ?_|refine bg ?_|refine aX ?_|refine az ?_|refine aV ?_)|(refine eG ?_;first|refine bH ?_|refine eC ?_|refine bP ?_|refine cb ?_)|(refine eT ?_;first|refine cS (fun _=>?_)|refine cd ?_|refine bR ?_|refine b9 ?_|refine bu ?_|refine bJ ?_|refine b8 ?_)|(refine eR ?_;first|refine ch ?_|refine d7 ?_|refine b7 ?_|refine bD ?_|refine bN ?_|refine bX ?_|refine bS ?_)|(refine eK ?_;first|refine eF ?_|refine eA ?_|refine bU ?_|refine bG ?_|refine eH ?_|refine bd ?_|refine bc ?_)|(refine bV ?_;first|refine ba ?_|refine bT ?_)|(refine eV ?_;first|refine bI ?_|refine bQ ?_|refine eJ ?_)|(refine bL ?_;first|refine bO ?_|refine aS ?_|refine aN ?_|refine aW ?_|refine aQ ?_|refine aY ?_)|(refine eE ?_;first|refine bZ ?_|refine eB ?_|refine be ?_|refine aP ?_|refine aU ?_)|(refine aK ?_;first|refine aq _ ?_|refine bf ?_|refine aw ?_|refine au ?_|refine ax ?_)|(refine eP ?_;first|refine bW ?_|refine bE ?_|refine bM ?_)|(refine gOp ?_;first|refine eD ?_|refine eM ?_|refine aZ ?_|refine eU ?_|refine eN ?_|refine bK ?_|refine aO ?_|refine cf ?_|refine eO ?_|refine bC ?_|refine bY ?_|refine aT ?_|refine sFz 80 ?_|refine ay ?_|refine cg ?_|refine sNo ?_|refine dU ?_|refine av ?_)|refine dY ?_|refine dq ?_|refine fj ?_|refine bj ?_|refine ci ?_|refine br ?_|refine fm ?_|refine fl ?_|refine eX ?_|refine dB ?_|refine ck ?_|refine bo ?_|refine aA ?_|refine bk ?_|refine ct ?_|refine bt ?_|refine aBlkX ?_|refine cm ?_|refine sFz 80 ?_)
    exact aa (k+1) hkl (by omega)
   ·have hs3:=hs2 (-1 - (i:Int)) (by show _=(if (dF p q).parent<0 then _ else _);rw [hnd,if_pos (by omega)])
    repeat (first|(refine ca ?_;first|refine aM ?_|refine b6 ?_|refine aR ?_|refine bh ?_|refine aL ?_|refine bg ?_|refine aX ?_|refine az ?_|refine aV ?_)|(refine eG ?_;first|refine bH ?_|refine eC ?_|refine bP ?_|refine cb ?_)|(refine eT ?_;first|refine cS (fun _=>?_)|refine cd ?_|refine bR ?_|refine b9 ?_|refine bu ?_|refine bJ ?_|refine b8 ?_)|(refine eR ?_;first|refine ch ?_|refine d7 ?_|refine b7 ?_|refine bD ?_|refine bN ?_|refine bX ?_|refine bS ?_)|(refine eK ?_;first|refine eF ?_|refine eA ?_|refine bU ?_|refine bG ?_|refine eH ?_|refine bd ?_|refine bc ?_)|(refine bV ?_;first|refine ba ?_|refine bT ?_)|(refine eV ?_;first|refine bI ?_|refine bQ ?_|refine eJ ?_)|(refine bL ?_;first|refine bO ?_|refine aS ?_|refine aN ?_|refine aW ?_|refine aQ ?_|refine aY ?_)|(refine eE ?_;first|refine bZ ?_|refine eB ?_|refine be ?_|refine aP ?_|refine aU ?_)|(refine aK ?_;first|refine aq _ ?_|refine bf ?_|refine aw ?_|refine au ?_|refine ax ?_)|(refine eP ?_;first|refine bW ?_|refine bE ?_|refine bM ?_)|(refine gOp ?_;first|refine eD ?_|refine eM ?_|refine aZ ?_|refine eU ?_|refine eN ?_|refine bK ?_|refine aO ?_|refine cf ?_|refine eO ?_|refine bC ?_|refine bY ?_|refine aT ?_|refine sFz 80 ?_|refine ay ?_|refine cg ?_|refine sNo ?_|refine dU ?_|refine av ?_)|refine dY ?_|refine dq ?_|refine fj ?_|refine bj ?_|refine ci ?_|refine br ?_|refine fm ?_|refine fl ?_|refine eX ?_|refine dB ?_|refine ck ?_|refine bo ?_|refine aA ?_|refine bk ?_|refine ct ?_|refine bt ?_|refine aBlkX ?_|refine cm ?_|refine sFz 80 ?_)
    exact aa (k+1) hkl (by omega)
  have hs4:(dA p r.copies i++(lst.take k).map (dO p lst i base)).map Nd.D=(dA p r.copies (i+1)).map Nd.D:=by rw [hnext,List.take_of_length_le (by omega)]
  refine kgo ?_
  exact aa (i+1) hlt (by omega)
 rw [show i=r.copies.length by omega]
 refine br (aA (aA (bt (bo ?_))))
 refine pI 10005 1 ?_
 refine kgo ?_
 exact aj
end Go.Proofs.YtnobdioccfeokaaGreatDoor
namespace Go.Proofs.YtnobdioccfeokaaGreatDoor
open Go.RowKit
set_option linter.unusedVariables false
set_option maxRecDepth 100000
set_option maxHeartbeats 4000000
attribute [local irreducible] ar Der At
def s9 (r a:Big) (ns:List Int) (i:Nat):Bool:=
 if (!decide ((dF a i).control=(dF r ns.length).control) || fp ns i) then false else decide ((dF r ns.length).parent<0) || decide ((dF a i).parent=atI ns (dF r ns.length).parent)
theorem GC {sig:List Ctl} {r a:Big} (hR:aH sig r=true) (ns:List Int) (i:Nat) (hi:i<a.nodes.length) (hn:ns.length<r.nodes.length):FnD Tryz.prog 150 [r.D,a.D,DI ns,.i i] (.d (.b (s9 r a ns i))):=by
 have f1:=jJ ns i
 have hu:=iE hR ns.length hn
 have hd:s9 r a ns i=if (!decide ((a.nodes[i]).control=(r.nodes[ns.length]).control) || fp ns i) then false else decide ((r.nodes[ns.length]).parent<0) || decide ((a.nodes[i]).parent=atI ns (r.nodes[ns.length]).parent):=by unfold s9;rw [aB a i hi,aB r ns.length hn]
 rw [hd]
 clear hd
 refine af Tryz.func150 (fun hw W0=>?_)
 refine kgo ?_
 cases hc:decide ((a.nodes[i]).control=(r.nodes[ns.length]).control)
 ·refine kgo ?_
  exact aj
 ·refine kgo ?_
  refine cIf (fun h=>?_) (fun h=>?_)
  ·rw [h]
   refine kgo ?_
   exact aj
  ·rw [h]
   refine kgo ?_
   cases hp:decide ((r.nodes[ns.length]).parent<0)
   ·have hp':=of_decide_eq_false hp
    refine kgo ?_
    exact aj
   ·refine kgo ?_
    exact aj
theorem rG (b:Big) (p:Int) (hl:b.nodes.length≤1048576):FnD Tryz.prog 217 [b.D,.i p] (.d (DI (dJ b p))):=⟨cB Tryz.func217,fun F w vs hv hF=>by
 obtain ⟨v1,t,rfl,h1,v2,t2,rfl,⟨h2,_⟩,h3⟩:=hv
 cases (show t2 = [] from h3)
 obtain ⟨cs,rfl,hb⟩:=xf h1
 cases h2
 refine (qN _ _ _ _ _ _ hb hl).mono ?_
 rintro e w' ⟨v,rfl,hV,hX⟩
 exact ⟨_,rfl,hX,nY (Gh.ofV hV)⟩⟩
def rtP (r a:Big) (ns:List Int) (n:Nat):Int:=(dF a (atI ns (atI (dJ r (-1 - (n:Int))) 0))).parent
def rtL (r a:Big) (ns:List Int) (n:Nat):List Int:=(List.range n).map (rtP r a ns)
theorem xB (r a:Big) (ns:List Int) (n:Nat):rtL r a ns (n+1)=rtL r a ns n++[rtP r a ns n]:=by unfold rtL;rw [List.range_succ,List.map_append];rfl
theorem Cq {sig:List Ctl} {r a:Big} (hR:aH sig r=true) (ns:List Int) (hk:∀n:Nat,(n:Int)<r.roots→0<(dJ r (-1 - (n:Int))).length) (hm:∀p,∀x∈dJ r p,0≤x∧x<(ns.length:Int)) (hn:∀x∈ns,0≤x∧x<(a.nodes.length:Int)):FnD Tryz.prog 148 [r.D,a.D,DI ns] (.row 1 3 ((rtL r a ns r.roots.toNat).map .i)):=by
 have hr:=bl hR
 refine af Tryz.func148 (fun hw W0=>?_)
 refine kgo ?_
 refine eS (fun i:Nat=>i≤r.roots.toNat) (fun i=>r.roots.toNat - i) (fun i=>[(2,.sy (.d (DI ns))),(3,.sy (.bx 10003 0)),(10003,.tk (.bx (ij r.D))),(4,.sy (.bx 10004 0)),(10004,.tk (.bx (ij a.D))),(7,.sy (.k 10009)),(10009,.tk (.row 1 3 ((rtL r a ns i).map .i))),(8,.sy (.d (.i i)))]) 0 (Nat.zero_le _) (fun i hi=>?_)
 refine kgo ?_
 refine cIf (fun h=>?_) (fun h=>?_)
 ·have h:=of_decide_eq_true h
  have f1:=rG r (-1 - (i:Int)) (by omega)
  have hk1:=hk i h
  have hz:(0:Int)≤0∧(0:Int)<((dJ r (-1 - (i:Int))).length:Int):=⟨Int.le_refl _,by omega⟩
  have hm1:=hm _ _ (List.getElem_mem hk1)
  have hx1:=hn _ (og hm1.1 hm1.2)
  have hql:(rtL r a ns i).length≤1000:=by unfold rtL;rw [List.length_map,List.length_range];omega
  obtain ⟨j,hj⟩:=Int.eq_ofNat_of_zero_le hx1.1
  have hjl:j<a.nodes.length:=by omega
  have hp:rtP r a ns i=(a.nodes[j]).parent:=by
   unfold rtP
   rw [show atI (dJ r (-1 - (i:Int))) 0=(dJ r (-1 - (i:Int)))[0] from by unfold atI;simp [List.getElem?_eq_getElem hk1],hj,aB a j hjl]
  have hs:(rtL r a ns (i+1)).map D.i=(rtL r a ns i).map D.i++[.i (a.nodes[j]).parent]:=by rw [xB,List.map_append,hp];rfl
  refine kgo ?_
  refine cS (n:=j) (fun _=>?_) rfl rfl (congrArg some hj)
  refine kgo ?_
  exact aa (i+1) (by omega) (by omega)
 ·have h:=of_decide_eq_false h
  rw [show i=r.roots.toNat by omega]
  refine kgo ?_
  exact pJ
end Go.Proofs.YtnobdioccfeokaaGreatDoor
namespace Go.Proofs.YtnobdioccfeokaaGreatDoor
open Go.RowKit
set_option linter.unusedVariables false
set_option maxRecDepth 100000
set_option maxHeartbeats 4000000
attribute [local irreducible] ar Der At
theorem wO (n lo hi:Int):FnD Tryz.prog 49 [.i n,.i lo,.i hi] (.d (.b (inR n lo hi))):=by
 refine af Tryz.func49 (fun hw W0=>?_)
 refine kgo ?_
 cases h:decide (lo≤n)
 ·refine kgo ?_
  rw [show inR n lo hi=false from by unfold inR;rw [h];rfl]
  exact aj
 ·refine kgo ?_
  rw [show inR n lo hi=decide (n≤hi) from by unfold inR;rw [h];rfl]
  exact aj
theorem HQ (b:Big) (n:Int) (hl:b.nodes.length≤1000):FnD Tryz.prog 255 [b.D,.i n] (.d (.b (inR n 0 (b.nodes.length - 1)))):=by
 refine af Tryz.func255 (fun hw W0=>?_)
 have f1:=wO n 0 (b.nodes.length - 1)
 refine kgo ?_
 exact aj
theorem AL (b:Big) (n:Int) (hl:b.nodes.length≤1000) (hr:inR b.roots 0 4=true):FnD Tryz.prog 256 [b.D,.i n] (.d (.b (inR n (-b.roots) (b.nodes.length - 1)))):=by
 have hr:=bB hr
 refine af Tryz.func256 (fun hw W0=>?_)
 have f1:=wO n (-b.roots) (b.nodes.length - 1)
 refine kgo ?_
 exact aj
theorem rC {r a:Big} {ns:List Int} (i:Nat) (hi:i<ns.length) (h:G9 r a ns i=false):sd r a ns=false:=by
 rw [wW,aG _ _ i hi h];simp
theorem GD {n:Int} {k:Nat} (h:inR n 0 ((k:Int) - 1)=true):∃m:Nat,n=(m:Int)∧m<k:=by
 have h:=bB h
 obtain ⟨m,rfl⟩:=Int.eq_ofNat_of_zero_le h.1
 exact ⟨m,rfl,by omega⟩
theorem yD (r a:Big) (ns:List Int) (ha:a.nodes.length≤1000) (hr:r.nodes.length≤1000):FnD Tryz.prog 218 [r.D,a.D,DI ns] (.d (.b (sd r a ns))):=by
 refine af Tryz.func218 (fun hw W0=>?_)
 refine kgo ?_
 refine kp (fun h=>?_) (fun h=>?_)
 ·refine kgo ?_
  rw [show sd r a ns=false from by unfold sd;rw [decide_eq_false (by omega)];rfl]
  exact aj
 refine kgo ?_
 refine ai [2,3,4] (fun i:Nat=>i≤ns.length∧(List.range i).all (G9 r a ns)=true) (fun i=>ns.length - i) (fun i=>[(7,.sy (.d (.i i)))]) 0 ⟨Nat.zero_le _,rfl⟩ (fun i hi=>?_)
 refine kgo ?_
 refine aJ (fun h2=>?_) (fun h2=>?_)
 ·have hlt:i<ns.length:=by omega
  have hlr:i<r.nodes.length:=by omega
  have f1:=HQ a ns[i] ha
  have f2:=jJ (ns.take i) ns[i]
  have hok:=F9 r a ns i hlt hlr
  refine kgo ?_
  cases h3:inR ns[i] 0 (a.nodes.length - 1)
  ·rw [h3] at hok
   refine kgo ?_
   rw [rC i hlt hok]
   exact aj
  rw [h3] at hok
  refine kgo ?_
  cases h4:fp (ns.take i) ns[i]
  ·rw [h4] at hok
   obtain ⟨k,hk,hka⟩:=GD h3
   rw [hk,aB a k hka] at hok
   refine kgo ?_
   refine cS (n:=k) (fun _=>?_) rfl rfl (congrArg some hk)
   refine kgo ?_
   refine kp (fun h5=>?_) (fun h5=>?_)
   ·rw [decide_eq_false h5] at hok
    refine kgo ?_
    rw [rC i hlt hok]
    exact aj
   ·rw [decide_eq_true h5] at hok
    refine kgo ?_
    exact aa (i+1) ⟨hlt,by rw [cL,hi.2,hok];rfl⟩ (by omega)
  ·rw [h4] at hok
   refine kgo ?_
   rw [rC i hlt hok]
   exact aj
 refine kgo ?_
 rw [show sd r a ns=true from by rw [wW,decide_eq_true (by omega),fC _ _ i (by omega) hi.1 hi.2];rfl]
 exact aj
theorem qe {r a:Big} {ns rs:List Int} (i:Nat) (hi:i<rs.length) (h:jN a ns rs[i]=false):fH r a ⟨ns,rs⟩=false:=by
 unfold fH
 rw [show (⟨ns,rs⟩:Mat).roots.all (jN a ns)=false from List.all_eq_false.2 ⟨_,List.getElem_mem hi,by rw [h];exact Bool.false_ne_true⟩];rfl
theorem yR {sig:List Ctl} (r a:Big) (m:Mat) (hb:aH sig a=true):FnD Tryz.prog 219 [r.D,a.D,m.D] (.d (.b (fH r a m))):=by
 have hd:=bw hb
 refine af Tryz.func219 (fun hw W0=>?_)
 have hml:=(wfM hw.2.2.1.2.1).1
 refine kgo ?_
 refine ai [3,4,5] (fun i:Nat=>i≤m.roots.length∧(m.roots.take i).all (jN a m.nodes)=true) (fun i=>m.roots.length - i) (fun i=>[(7,.sy (.d (.i i)))]) 0 ⟨Nat.zero_le _,rfl⟩ (fun i hi=>?_)
 refine kgo ?_
 refine aJ (fun h2=>?_) (fun h2=>?_)
 ·have hlt:i<m.roots.length:=by omega
  have f1:=AL a m.roots[i] hd.3 hd.1
  have hok:jN a m.nodes m.roots[i]=(inR m.roots[i] (-a.roots) (a.nodes.length - 1) && !il a m.nodes m.roots[i]):=rfl
  refine kgo ?_
  cases h3:inR m.roots[i] (-a.roots) (a.nodes.length - 1)
  ·rw [h3] at hok
   refine kgo ?_
   rw [show fH r a m=false from qe i hlt hok]
   exact aj
  rw [h3] at hok
  have f2:=na hb m m.roots[i] (by have:=bB h3;omega)
  refine kgo ?_
  refine cIf (fun h5=>?_) (fun h5=>?_)
  ·rw [h5] at hok
   refine kgo ?_
   rw [show fH r a m=false from qe i hlt hok]
   exact aj
  ·rw [h5] at hok
   refine kgo ?_
   exact aa (i+1) ⟨hlt,by rw [List.take_succ_eq_append_getElem hlt,List.all_append,hi.2,List.all_cons,hok];rfl⟩ (by omega)
 refine kgo ?_
 rw [show fH r a m=decide ((m.roots.length:Int)=r.roots) from by unfold fH;rw [fS _ _ i (by omega) hi.2];rfl]
 exact aj
theorem xj (r a:Big) (m:Mat) (i:Nat) (h:i<m.nodes.length) (hr:i<r.nodes.length) (k:Nat) (hk:m.nodes[i]=(k:Int)) (hka:k<a.nodes.length):pR r a m i=decide ((a.nodes[k]).parent=if 0≤(r.nodes[i]).parent then atI m.nodes (r.nodes[i]).parent else atI m.roots (-1 - (r.nodes[i]).parent)):=by
 unfold pR Hu
 rw [bF _ i h,hk,aB a k hka,aB r i hr]
theorem wC {sig:List Ctl} {r a:Big} (m:Mat) (hbr:aH sig r=true) (hba:aH sig a=true) (him:oK r a m.nodes) (hrs:(m.roots.length:Int)=r.roots):FnD Tryz.prog 220 [r.D,a.D,m.D] (.d (.b ((List.range m.nodes.length).all (pR r a m)))):=by
 have hdr:=bl hbr
 refine af Tryz.func220 (fun hw W0=>?_)
 have hml:=(wfM hw.2.2.1.1).1
 refine kgo ?_
 refine ai [3,4,5] (fun i:Nat=>i≤m.nodes.length∧(List.range i).all (pR r a m)=true) (fun i=>m.nodes.length - i) (fun i=>[(7,.sy (.d (.i i)))]) 0 ⟨Nat.zero_le _,rfl⟩ (fun i hi=>?_)
 refine kgo ?_
 refine aJ (fun h2=>?_) (fun h2=>?_)
 ·have hlt:i<m.nodes.length:=by omega
  have hlr:i<r.nodes.length:=by have:=him.len;omega
  obtain ⟨k,hka,hk0,_⟩:=him.at' i hlr
  rw [bF _ i hlt] at hk0
  have hok:=xj r a m i hlt hlr k hk0 hka
  have hup:=iE hbr i hlr
  refine kgo ?_
  refine aJ (fun h3=>?_) (fun h3=>?_)
  ·rw [if_pos h3] at hok
   have hx:(r.nodes[i]).parent<m.nodes.length:=by omega
   refine kgo ?_
   refine cS (n:=k) (fun _=>?_) rfl rfl (congrArg some hk0)
   refine kgo ?_
   refine kp (fun h5=>?_) (fun h5=>?_)
   ·rw [decide_eq_false h5] at hok
    refine kgo ?_
    rw [aG _ _ i hlt hok]
    exact aj
   ·rw [decide_eq_true h5] at hok
    refine kgo ?_
    exact aa (i+1) ⟨hlt,by rw [cL,hi.2,hok];rfl⟩ (by omega)
  ·rw [if_neg h3] at hok
   have hx : -1 - (r.nodes[i]).parent<m.roots.length:=by omega
   refine kgo ?_
   refine cS (n:=k) (fun _=>?_) rfl rfl (congrArg some hk0)
   refine kgo ?_
   refine kp (fun h5=>?_) (fun h5=>?_)
   ·rw [decide_eq_false h5] at hok
    refine kgo ?_
    rw [aG _ _ i hlt hok]
    exact aj
   ·rw [decide_eq_true h5] at hok
    refine kgo ?_
    exact aa (i+1) ⟨hlt,by rw [cL,hi.2,hok];rfl⟩ (by omega)
 refine kgo ?_
 rw [fC _ _ i (by omega) hi.1 hi.2]
 exact aj
theorem lG (b:Big) (p:Int):(cC b p).length≤b.sites.length:=dz _ _
theorem rW (b:Big) (p:Int):(dJ b p).length≤b.nodes.length:=dz _ _
theorem DX {r a:Big} (m:Mat) (him:oK r a m.nodes) (dr:wy r) (da:wy a):FnD Tryz.prog 221 [r.D,a.D,m.D] (.d (.b ((List.range m.nodes.length).all (k8 r a m)))):=by
 have hsi:=dr.4
 have hno:=da.3
 refine af Tryz.func221 (fun hw W0=>?_)
 have hml:=(wfM hw.2.2.1.1).1
 refine kgo ?_
 refine ai [3,4,5] (fun i:Nat=>i≤m.nodes.length∧(List.range i).all (k8 r a m)=true) (fun i=>m.nodes.length - i) (fun i=>[(7,.sy (.d (.i i)))]) 0 ⟨Nat.zero_le _,rfl⟩ (fun i hi=>?_)
 refine kgo ?_
 refine aJ (fun h2=>?_) (fun h2=>?_)
 ·have hlt:i<m.nodes.length:=by omega
  have f1:=rG a m.nodes[i] (by omega)
  have f2:=lT r i (by omega)
  have hk1:=lG r i
  have hk2:=rW a m.nodes[i]
  have hok:k8 r a m i=(!(decide ((cC r i).length=0)) || (dJ a m.nodes[i]).all (fp m.nodes)):=by unfold k8;rw [bF _ i hlt]
  have hnext:k8 r a m i=true→(List.range (i+1)).all (k8 r a m)=true:=fun h=>by rw [cL,hi.2,h];rfl
  refine kgo ?_
  refine ai [3,4,5,7,8] (fun k:Nat=>k≤(dJ a m.nodes[i]).length∧(0<k→(cC r i).length=0)∧((dJ a m.nodes[i]).take k).all (fp m.nodes)=true) (fun k=>(dJ a m.nodes[i]).length - k) (fun k=>[(9,.sy (.d (.i k)))]) 0 ⟨Nat.zero_le _,fun h=>absurd h (by omega),rfl⟩ (fun k hk=>?_)
  refine kgo ?_
  cases h4:decide ((k:Int)<((dJ a m.nodes[i]).length:Int))
  ·have h4:=of_decide_eq_false h4
   rw [fS _ _ k (by omega) hk.2.2,Bool.or_true] at hok
   refine kgo ?_
   exact aa (i+1) ⟨hlt,hnext hok⟩ (by omega)
  have h4:=of_decide_eq_true h4
  have hkl:k<(dJ a m.nodes[i]).length:=by omega
  refine kgo ?_
  refine aJ (fun h5=>?_) (fun h5=>?_)
  ·have f3:=jJ m.nodes (dJ a m.nodes[i])[k]
   refine kgo ?_
   refine cIf (fun h6=>?_) (fun h6=>?_)
   ·rw [Bool.not_eq_true'] at h6
    rw [decide_eq_true (by omega),show (dJ a m.nodes[i]).all (fp m.nodes)=false from List.all_eq_false.2 ⟨_,List.getElem_mem hkl,by rw [h6];exact Bool.false_ne_true⟩] at hok
    refine kgo ?_
    rw [aG _ _ i hlt hok]
    exact aj
   ·rw [Bool.not_eq_false'] at h6
    refine kgo ?_
    exact aa (k+1) ⟨hkl,fun _=>by omega,by rw [List.take_succ_eq_append_getElem hkl,List.all_append,hk.2.2,List.all_cons,h6];rfl⟩ (by omega)
  ·rw [decide_eq_false (by omega)] at hok
   refine kgo ?_
   exact aa (i+1) ⟨hlt,hnext hok⟩ (by omega)
 refine kgo ?_
 rw [fC _ _ i (by omega) hi.1 hi.2]
 exact aj
theorem Bt {sig:List Ctl} {r a:Big} (m:Mat) (hbr:aH sig r=true) (hba:aH sig a=true) (hp0:∀l:Nat,l<ak r→aD r l≠[]):FnD Tryz.prog 149 [r.D,a.D,m.D] (.d (.b (er r a m))):=by
 have dr:=bw hbr
 have da:=bw hba
 have f1:=yD r a m.nodes da.3 dr.3
 have f2:=yR r a m hba
 have hm:er r a m=((sd r a m.nodes && fH r a m) && ((List.range m.nodes.length).all (pR r a m) && ((List.range m.nodes.length).all (k8 r a m) && fX r a m.nodes))):=rfl
 have f3:sd r a m.nodes=true→fH r a m=true→FnD Tryz.prog 220 [r.D,a.D,m.D] (.d (.b ((List.range m.nodes.length).all (pR r a m)))):=fun h1 h2=>wC m hbr hba (jk h1) (kz h2)
 have f4:sd r a m.nodes=true→FnD Tryz.prog 221 [r.D,a.D,m.D] (.d (.b ((List.range m.nodes.length).all (k8 r a m)))):=fun h1=>DX m (jk h1) dr da
 have f5:sd r a m.nodes=true→FnD Tryz.prog 154 [r.D,a.D,m.D] (.tp [DI (ot r a m.nodes),.b (fX r a m.nodes)]):=fun h1=>ue m hbr hba (jk h1) hp0
 refine af Tryz.func149 (fun hw W0=>?_)
 rw [hm]
 refine kgo ?_
 cases h1:sd r a m.nodes
 ·refine kgo ?_
  exact aj
 have f4:=f4 h1
 have f5:=f5 h1
 refine kgo ?_
 cases h2:fH r a m
 ·refine kgo ?_
  exact aj
 have f3:=f3 h1 h2
 refine kgo ?_
 cases h3:(List.range m.nodes.length).all (pR r a m)
 ·refine kgo ?_
  exact aj
 refine kgo ?_
 cases h4:(List.range m.nodes.length).all (k8 r a m)
 ·refine kgo ?_
  exact aj
 refine kgo ?_
 exact aj
end Go.Proofs.YtnobdioccfeokaaGreatDoor
namespace Go.Proofs.YtnobdioccfeokaaGreatDoor
open Go.RowKit
set_option linter.unusedVariables false
set_option maxRecDepth 100000
set_option maxHeartbeats 4000000
attribute [local irreducible] ar Der At
def IY (n:Nat):List Int:=(List.range n).map fun (i:Nat)=>(i:Int)
theorem EP (n:Nat):(IY n).length=n:=by unfold IY;simp
end Go.Proofs.YtnobdioccfeokaaGreatDoor
namespace Go.Proofs.YtnobdioccfeokaaGreatDoor
open Go.RowKit
set_option linter.unusedVariables false
set_option maxRecDepth 100000
set_option maxHeartbeats 4000000
attribute [local irreducible] ar Der At
theorem Et (b:Big) (l:Int) (hl:b.inner.length≤1000):FnD Tryz.prog 288 [b.D,.i l] (.d (DS (nF b l))):=by
 refine af Tryz.func288 (fun hw W0=>?_)
 refine kgo ?_
 refine ai [1,2] (fun i:Nat=>i≤b.inner.length) (fun i=>b.inner.length - i) (fun i=>[(5,.sy (.k 20001)),(20001,.tk (.row 1 9 ((ex b l i).map .s))),(6,.sy (.d (.i i)))]) 0 (Nat.zero_le _) (fun i hi=>?_)
 refine kgo ?_
 refine aJ (fun h=>?_) (fun h=>?_)
 ·have hlt:i<b.inner.length:=by omega
  have hq:=kv b l i
  refine kgo ?_
  refine aJ (fun h2=>?_) (fun h2=>?_)
  ·have hs:(ex b l (i+1)).map D.s=(ex b l i).map D.s++[.s (b.inner[i]).name]:=by rw [qy hlt h2,List.map_append];rfl
   refine kgo ?_
   exact aa (i+1) hlt (by omega)
  ·have hs:(ex b l (i+1)).map D.s=(ex b l i).map D.s:=by rw [uf hlt h2]
   refine kgo ?_
   exact aa (i+1) hlt (by omega)
 rw [show nF b l=ex b l i from by rw [show i=b.inner.length by omega];rfl]
 repeat (first|(refine ca ?_;first|refine aM ?_|refine b6 ?_|refine aR ?_|refine bh ?_|refine aL ?_|refine bg ?_|refine aX ?_|refine az ?_|refine aV ?_)|(refine eG ?_;first|refine bH ?_|refine eC ?_|refine bP ?_|refine cb ?_)|(refine eT ?_;first|refine cS (fun _=>?_)|refine cd ?_|refine bR ?_|refine b9 ?_|refine bu ?_|refine bJ ?_|refine b8 ?_)|(refine eR ?_;first|refine ch ?_|refine d7 ?_|refine b7 ?_|refine bD ?_|refine bN ?_|refine bX ?_|refine bS ?_)|(refine eK ?_;first|refine eF ?_|refine eA ?_|refine bU ?_|refine bG ?_|refine eH ?_|refine bd ?_|refine bc ?_)|(refine bV ?_;first|refine cD (d:=4) ?_|refine ba ?_|refine bT ?_)|(refine eV ?_;first|refine dL (d:=4) ?_|refine bI ?_|refine bQ ?_|refine eJ ?_)|(refine bL ?_;first|refine bO ?_|refine aS ?_|refine aN ?_|refine aW ?_|refine aQ ?_|refine aY ?_)|(refine eE ?_;first|refine bZ ?_|refine eB ?_|refine be ?_|refine aP ?_|refine aU ?_)|(refine aK ?_;first|refine aq _ ?_|refine bf ?_|refine aw ?_|refine au ?_|refine ax ?_)|(refine eP ?_;first|refine bW ?_|refine bE ?_|refine bM ?_)|(refine gOp ?_;first|refine eD ?_|refine eM ?_|refine aZ ?_|refine eU ?_|refine eN ?_|refine bK ?_|refine aO ?_|refine cf ?_|refine eO ?_|refine bC ?_|refine bY ?_|refine aT ?_|refine ay ?_|refine cg ?_|refine sNo ?_|refine dU ?_|refine av ?_)|refine dY ?_|refine dq ?_|refine fj ?_|refine bj ?_|refine ci ?_|refine br ?_|refine fm ?_|refine fl ?_|refine eX ?_|refine dB ?_|refine ck ?_|refine bo ?_|refine aA ?_|refine bk ?_|refine ct ?_|refine bt ?_|refine aBlkX ?_|refine cm ?_)
 exact aj
theorem pq {α:Type} (l:List α):decide ((l.length:Int)=0)=l.isEmpty:=by cases l <;> simp <;> omega
theorem Es {b:Big} (d:wy b) (l:Int) (hi:b.inner.length≤1000):FnD Tryz.prog 254 [b.D,.i l] (.d (.b (pU b l))):=by
 have f1:=jU b l d.3 d.7
 have f2:=Et b l hi
 have hpl:=di b l d.3 d.7
 have hel:=kv b l b.inner.length
 refine af Tryz.func254 (fun hw W0=>?_)
 refine kgo ?_
 have e1:=pq (aD b l)
 have e2:=pq (nF b l)
 unfold pU
 rw [← e1,← e2]
 cases h:decide (((aD b l).length:Int)=0)
 ·refine kgo ?_
  exact aj
 ·refine kgo ?_
  exact aj
theorem uU {b:Big} (h:(List.range (ak b)).all (dH b)=false):cA b=false:=by unfold cA;rw [h];simp
theorem Al {b:Big} (d:wy b) (hi:b.inner.length≤1000):FnD Tryz.prog 216 [b.D] (.d (.b (cA b))):=by
 have hr:=bB d.1
 have he:=bB d.2
 have hn:=d.3
 have hs:=d.4
 have ho:=d.5
 obtain ⟨R,hR⟩:=Int.eq_ofNat_of_zero_le hr.1
 have hlk:b.edges+(b.outer.length:Int)=(ak b:Nat):=by unfold ak;omega
 have hroot:∀i:Nat,i4 b i=(!(decide ((dJ b (-1 - (i:Int))).length=0)) && decide ((cC b (-1 - (i:Int))).length=0)):=fun i=>rfl
 refine af Tryz.func216 (fun hw W0=>?_)
 refine kgo ?_
 cases h1:decide ((0:Int)<b.inner.length)
 ·have h1:=of_decide_eq_false h1
  refine kgo ?_
  refine aJ (fun h2=>?_) (fun h2=>?_)
  ·refine kgo ?_
   rw [pG (.inr h2)]
   exact aj
  refine kgo ?_
  refine ai [1] (fun i:Nat=>i≤R∧(List.range i).all (i4 b)=true) (fun i=>R - i) (fun i=>[(3,.sy (.d (.i i)))]) 0 ⟨Nat.zero_le _,rfl⟩ (fun i hi=>?_)
  refine kgo ?_
  refine aJ (fun h3=>?_) (fun h3=>?_)
  ·have hlt:i<R:=by omega
   have f1:=rG b (-1 - (i:Int)) (by omega)
   have f2:=lT b (-1 - (i:Int)) (by omega)
   have hk1:=lG b (-1 - (i:Int))
   have hk2:=rW b (-1 - (i:Int))
   have hok:=hroot i
   have bad:i4 b i=false→cA b=false:=fun h=>vw i (by rw [hR];exact hlt) h
   refine kgo ?_
   cases h4:decide (((dJ b (-1 - (i:Int))).length:Int)=0)
   ·have h4:=of_decide_eq_false h4
    rw [decide_eq_false (by omega)] at hok
    refine kgo ?_
    refine aJ (fun h5=>?_) (fun h5=>?_)
    ·rw [decide_eq_false (by omega)] at hok
     refine kgo ?_
     rw [bad hok]
     exact aj
    ·rw [decide_eq_true (by omega)] at hok
     refine kgo ?_
     exact aa (i+1) ⟨hlt,by rw [cL,hi.2,hok];rfl⟩ (by omega)
   ·have h4:=of_decide_eq_true h4
    rw [decide_eq_true (by omega)] at hok
    refine kgo ?_
    rw [bad hok]
    exact aj
  have hroots:(List.range b.roots.toNat).all (i4 b)=true:=by rw [hR,Int.toNat_natCast];exact fC _ _ i (by omega) hi.1 hi.2
  refine kgo ?_
  refine ai [1] (fun i:Nat=>i≤b.nodes.length∧(List.range i).all (dV b)=true) (fun i=>b.nodes.length - i) (fun i=>[(4,.sy (.d (.i i)))]) 0 ⟨Nat.zero_le _,rfl⟩ (fun i hi=>?_)
  refine kgo ?_
  refine aJ (fun h3=>?_) (fun h3=>?_)
  ·have hlt:i<b.nodes.length:=by omega
   have f2:=lT b i (by omega)
   have hk1:=lG b i
   have hok:dV b i=decide ((cC b i).length≤1):=rfl
   refine kgo ?_
   refine aJ (fun h5=>?_) (fun h5=>?_)
   ·rw [decide_eq_false (by omega)] at hok
    refine kgo ?_
    rw [vn i hlt hok]
    exact aj
   ·rw [decide_eq_true (by omega)] at hok
    refine kgo ?_
    exact aa (i+1) ⟨hlt,by rw [cL,hi.2,hok];rfl⟩ (by omega)
  have hnodes:(List.range b.nodes.length).all (dV b)=true:=fC _ _ i (by omega) hi.1 hi.2
  refine kgo ?_
  refine ai [1] (fun i:Nat=>i≤ak b∧(List.range i).all (dH b)=true) (fun i=>ak b - i) (fun i=>[(5,.sy (.d (.i i)))]) 0 ⟨Nat.zero_le _,rfl⟩ (fun i hi=>?_)
  refine kgo ?_
  refine aJ (fun h3=>?_) (fun h3=>?_)
  ·have hlt:i<ak b:=by omega
   have f2:=Es d i (by assumption)
   have hok:dH b i = !(pU b i):=rfl
   refine kgo ?_
   refine cIf (fun h5=>?_) (fun h5=>?_)
   ·rw [h5] at hok
    refine kgo ?_
    rw [uU (aG _ _ i hlt hok)]
    exact aj
   ·rw [h5] at hok
    refine kgo ?_
    exact aa (i+1) ⟨hlt,by rw [cL,hi.2,hok];rfl⟩ (by omega)
  refine kgo ?_
  rw [zt (by omega) h2 hroots hnodes (fC _ _ i (by omega) hi.1 hi.2)]
  exact aj
 ·have h1:=of_decide_eq_true h1
  refine kgo ?_
  rw [pG (.inl (by omega))]
  exact aj
theorem CN (sig:List Ctl) (b:Big) (hl:b.inner.length≤1048576):FnD Tryz.prog 136 [.l 3 (sig.map Ctl.D),b.D] (.d (.b (aH sig b && cA b))):=by
 have f1:=fO sig b (by omega)
 refine af Tryz.func136 (fun hw W0=>?_)
 refine kgo ?_
 cases h:aH sig b
 ·refine kgo ?_
  exact aj
 ·have f2:=Al (bw h) (by have:=(bl h).2.2.2.2.2;omega)
  refine kgo ?_
  exact aj
theorem rE (a c:List ByteArray):FnD Tryz.prog 137 [DS a,DS c] (.d (.b (eqS a c))):=by
 refine af Tryz.func137 (fun hw W0=>?_)
 have hl:=(wfM hw.1).1
 have hl2:=(wfM hw.2.1).1
 refine kgo ?_
 refine ai [0,1] (fun i:Nat=>i≤a.length∧i≤c.length∧(List.range i).all (mt a c)=true) (fun i=>a.length - i) (fun i=>[(5,.sy (.d (.i i)))]) 0 ⟨Nat.zero_le _,Nat.zero_le _,rfl⟩ (fun i hi=>?_)
 refine kgo ?_
 cases h:decide ((i:Int)<a.length)
 ·have h:=of_decide_eq_false h
  refine kgo ?_
  rw [show eqS a c=decide ((a.length:Int)=c.length) from by unfold eqS;rw [fC _ _ i (by omega) hi.1 hi.2.2,Bool.and_true];exact decide_eq_decide.2 (by omega)]
  exact aj
 have h:=of_decide_eq_true h
 refine kgo ?_
 refine aJ (fun h2=>?_) (fun h2=>?_)
 ·have hlt:i<a.length:=by omega
  have hlt2:i<c.length:=by omega
  have hs:=mn a c i hlt hlt2
  refine kgo ?_
  refine cIf (fun h3=>?_) (fun h3=>?_)
  ·refine kgo ?_
   rw [vZ (c:=c) i hlt (by rw [hs];simpa using h3)]
   exact aj
  ·refine kgo ?_
   exact aa (i+1) ⟨hlt,hlt2,by rw [cL,hi.2.2,hs];simpa using h3⟩ (by omega)
 ·refine kgo ?_
  rw [show eqS a c=decide ((a.length:Int)=c.length) from by unfold eqS;rw [decide_eq_false (by omega),Bool.false_and,decide_eq_false (by omega)]]
  exact aj
theorem zE (r:Rul) (h1:r.redex.sites.length≤1000) (h2:r.reactum.sites.length≤1000):FnD Tryz.prog 138 [r.D] (.d (.b (decide (r.copies.length=r.reactum.sites.length) && r.copies.all (gA r)))):=by
 refine af Tryz.func138 (fun hw W0=>?_)
 have hl:=(wfM hw.1.2.2.1).1
 refine kgo ?_
 refine ai [1] (fun i:Nat=>i≤r.copies.length∧(r.copies.take i).all (gA r)=true) (fun i=>r.copies.length - i) (fun i=>[(3,.sy (.d (.i i)))]) 0 ⟨Nat.zero_le _,rfl⟩ (fun i hi=>?_)
 refine kgo ?_
 refine aJ (fun h=>?_) (fun h=>?_)
 ·have hlt:i<r.copies.length:=by omega
  have f1:=wO r.copies[i] 0 (r.redex.sites.length - 1)
  have hok:gA r r.copies[i]=inR r.copies[i] 0 ((r.redex.sites.length:Int) - 1):=rfl
  refine kgo ?_
  refine cIf (fun h3=>?_) (fun h3=>?_)
  ·rw [Bool.not_eq_true'] at h3
   rw [h3] at hok
   refine kgo ?_
   rw [show r.copies.all (gA r)=false from List.all_eq_false.2 ⟨_,List.getElem_mem hlt,by rw [hok];exact Bool.false_ne_true⟩,Bool.and_false]
   exact aj
  ·rw [Bool.not_eq_false'] at h3
   rw [h3] at hok
   refine kgo ?_
   exact aa (i+1) ⟨hlt,by rw [List.take_succ_eq_append_getElem hlt,List.all_append,hi.2,List.all_cons,hok];rfl⟩ (by omega)
 refine kgo ?_
 rw [fS _ _ i (by omega) hi.2,Bool.and_true,show decide (r.copies.length=r.reactum.sites.length)=decide ((r.copies.length:Int)=r.reactum.sites.length) from decide_eq_decide.2 (by omega)]
 exact aj
theorem EH (sig:List Ctl) (r:Rul) (h1:r.redex.inner.length≤1048576) (h2:r.reactum.inner.length≤1048576):FnD Tryz.prog 89 [.l 3 (sig.map Ctl.D),r.D] (.d (.b (g9 sig r))):=by
 have f1:=CN sig r.redex h1
 have f2:=fO sig r.reactum (by omega)
 have f3:=rE r.redex.outer r.reactum.outer
 have hE:g9 sig r=((aH sig r.redex && aH sig r.reactum) && (cA r.redex && (decide (r.reactum.inner.length=0) && (decide (r.redex.roots=r.reactum.roots) && (eqS r.redex.outer r.reactum.outer && (decide (r.copies.length=r.reactum.sites.length) && r.copies.all (gA r))))))):=rfl
 have hz:decide (r.reactum.inner.length=0)=decide ((r.reactum.inner.length:Int)=0):=decide_eq_decide.2 (by omega)
 rw [hz] at hE
 refine af Tryz.func89 (fun hw W0=>?_)
 rw [hE]
 refine kgo ?_
 cases e1:aH sig r.redex
 ·refine kgo ?_
  exact aj
 cases e2:cA r.redex
 ·rw [Bool.false_and,Bool.and_false]
  refine kgo ?_
  exact aj
 refine kgo ?_
 cases e3:aH sig r.reactum
 ·refine kgo ?_
  exact aj
 refine kgo ?_
 cases e4:decide ((r.reactum.inner.length:Int)=0)
 ·refine kgo ?_
  exact aj
 refine kgo ?_
 cases e5:decide (r.redex.roots=r.reactum.roots)
 ·refine kgo ?_
  exact aj
 refine kgo ?_
 cases e6:eqS r.redex.outer r.reactum.outer
 ·refine kgo ?_
  exact aj
 have f4:=zE r (by have:=(bw e1).4;omega) (by have:=(bw e3).4;omega)
 refine kgo ?_
 exact aj
theorem BK (sig:List Ctl) (rs:List Rul) (hr:∀r∈rs,r.redex.inner.length≤1048576∧r.reactum.inner.length≤1048576):FnD Tryz.prog 45 [.l 3 (sig.map Ctl.D),.l 13 (rs.map Rul.D)] (.d (.b (dv sig rs))):=by
 have f2:=wq sig
 have f3:=wO rs.length 1 6
 refine af Tryz.func45 (fun hw W0=>?_)
 have hl:=(wfM hw.2.1).1
 refine kgo ?_
 refine ai [0,1] (fun i:Nat=>i≤rs.length∧(rs.take i).all (g9 sig)=true) (fun i=>rs.length - i) (fun i=>[(5,.sy (.d (.i i)))]) 0 ⟨Nat.zero_le _,rfl⟩ (fun i hi=>?_)
 refine kgo ?_
 refine aJ (fun h=>?_) (fun h=>?_)
 ·have hlt:i<rs.length:=by omega
  have hm:=List.getElem_mem hlt
  have f1:=EH sig rs[i] (hr _ hm).1 (hr _ hm).2
  refine kgo ?_
  refine cIf (fun h3=>?_) (fun h3=>?_)
  ·rw [Bool.not_eq_true'] at h3
   refine kgo ?_
   rw [show dv sig rs=false from by unfold dv;rw [show rs.all (g9 sig)=false from List.all_eq_false.2 ⟨_,hm,by rw [h3];exact Bool.false_ne_true⟩,Bool.and_false]]
   exact aj
  ·rw [Bool.not_eq_false'] at h3
   refine kgo ?_
   exact aa (i+1) ⟨hlt,by rw [List.take_succ_eq_append_getElem hlt,List.all_append,hi.2,List.all_cons,h3];rfl⟩ (by omega)
 have hall:=fS _ _ i (by omega) hi.2
 have hE:dv sig rs=inR (rs.length:Int) 1 6:=by unfold dv;rw [hall,Bool.and_true]
 refine kgo ?_
 cases e1:iR sig
 ·rw [show dv sig rs=false from by
   cases hb:dv sig rs with
   | false=>rfl
   | true=>rw [x9 hb] at e1;cases e1]
  refine kgo ?_
  exact aj
 ·rw [hE]
  refine kgo ?_
  exact aj
theorem Bl (sig:List Ctl) (b:Big) (hl:b.inner.length≤1048576):FnD Tryz.prog 47 [.l 3 (sig.map Ctl.D),b.D] (.d (.b (ft sig b))):=by
 have f1:=fO sig b (by omega)
 have hE:ft sig b=(aH sig b && (decide ((b.sites.length:Int)=0) && decide ((b.inner.length:Int)=0))):=by
  unfold ft
  rw [show decide (b.sites.length=0)=decide ((b.sites.length:Int)=0) from decide_eq_decide.2 (by omega),show decide (b.inner.length=0)=decide ((b.inner.length:Int)=0) from decide_eq_decide.2 (by omega)]
 refine af Tryz.func47 (fun hw W0=>?_)
 have hs:=(wfM hw.2.1.2.2.1).1
 rw [hE]
 refine kgo ?_
 cases e1:aH sig b
 ·refine kgo ?_
  exact aj
 refine kgo ?_
 cases e2:decide ((b.sites.length:Int)=0)
 ·refine kgo ?_
  exact aj
 refine kgo ?_
 exact aj
end Go.Proofs.YtnobdioccfeokaaGreatDoor
namespace Go.Proofs.YtnobdioccfeokaaGreatDoor
open Go.RowKit
set_option linter.unusedVariables false
set_option maxRecDepth 100000
set_option maxHeartbeats 4000000
attribute [local irreducible] ar Der At
theorem cW {r a:Big} {m:Mat} (h:er r a m=true):sd r a m.nodes=true∧fH r a m=true∧(List.range m.nodes.length).all (k8 r a m)=true∧fX r a m.nodes=true:=by
 unfold er at h
 simp only [Bool.and_eq_true] at h
 exact ⟨h.1.1,h.1.2,h.2.2.1,h.2.2.2⟩
theorem mv {r a:Big} {m:Mat} (h:fH r a m=true):∀p∈m.roots,-a.roots≤p∧p<(a.nodes.length:Int):=fun p hp=>by
 unfold fH at h
 rw [Bool.and_eq_true] at h
 have h2:=List.all_eq_true.1 h.1 p hp
 unfold jN at h2
 rw [Bool.and_eq_true] at h2
 have:=bB h2.1
 omega
theorem jc {sig:List Ctl} {r:Rul} (h:g9 sig r=true):aH sig r.redex=true∧aH sig r.reactum=true∧cA r.redex=true∧r.reactum.inner.length=0∧r.redex.roots=r.reactum.roots∧eqS r.redex.outer r.reactum.outer=true∧r.copies.length=r.reactum.sites.length∧r.copies.all (gA r)=true:=by
 unfold g9 at h
 simp only [Bool.and_eq_true,decide_eq_true_eq] at h
 obtain ⟨⟨a,b⟩,c,d,e,f,g,i⟩:=h
 exact ⟨a,b,c,d,e,f,g,i⟩
theorem oZ {r a:Big} {m:Mat} (h:er r a m=true) (i:Nat) (hi:i<a.nodes.length) (h1:mH a m.nodes i=true) (h2:fp m.nodes (dF a i).parent=true):0<(cC r (dh m.nodes (dF a i).parent)).length:=by
 have hk:=(cW h).2.2.1
 have hm:=cO.1 h2
 have hlt:m.nodes.idxOf (dF a i).parent<m.nodes.length:=List.idxOf_lt_length_of_mem hm
 have h3:=(aC _ _).1 hk _ hlt
 have he:atI m.nodes (m.nodes.idxOf (dF a i).parent:Nat)=(dF a i).parent:=by rw [bF _ _ hlt];exact List.getElem_idxOf hlt
 unfold k8 at h3
 rw [he] at h3
 rw [show dh m.nodes (dF a i).parent=(m.nodes.idxOf (dF a i).parent:Nat) from if_pos h2]
 by_cases hz:(cC r (m.nodes.idxOf (dF a i).parent:Nat)).length=0
 ·rw [decide_eq_true hz,Bool.not_true,Bool.false_or] at h3
  have hik:(i:Int)∈dJ a (dF a i).parent:=bp.2 ⟨i,hi,by unfold sf;rw [List.getElem?_eq_getElem hi,aB a i hi];exact decide_eq_true rfl,rfl⟩
  have h4:=List.all_eq_true.1 h3 _ hik
  unfold mH at h1
  rw [h4] at h1
  simp at h1
 ·omega
theorem mL {outer:List ByteArray} {n:Nat} (h:n+outer.length≤16):(cj outer n).length=n:=by
 have:=A8 outer 26 (Nat.le_refl _)
 show ((k7 outer 26).take n).length=n
 rw [List.length_take];omega
theorem qZ {r a:Big} {ns:List Int} (h:(dR r a ns).2.2=true):(dR r a ns).2.1.length=(dR r a ns).1.length∧(dR r a ns).1.length≤16∧∀l∈(dR r a ns).1,0≤l∧l<(ak a:Int):=by
 unfold dR at h ⊢
 split at h
 ·cases h
 ·rename_i hn
  rw [if_neg hn]
  have hn:=of_decide_eq_false (by simpa using hn:decide (16<((idxOf (psF a ns) (ak a)).length:Int)+r.outer.length)=false)
  dsimp only
  refine ⟨mL (by omega),by omega,fun l hl=>?_⟩
  obtain ⟨i,hi,_,rfl⟩:=bp.1 hl
  omega
abbrev gS (r:Big) (a:Big) (m:Mat):Big:=Hd r a m (dR r a m.nodes).1 (dR r a m.nodes).2.1
abbrev gj (r:Big) (a:Big) (m:Mat):Big:=Hq r a m (dR r a m.nodes).1 (dR r a m.nodes).2.1
def fL (sig:List Ctl) (r:Rul) (a:Big) (m:Mat):Big × Bool:=
 if (dR r.redex a m.nodes).2.2 && (aH sig (gS r.redex a m) && aH sig (gj r.redex a m)) then nD sig r.reactum (gS r.redex a m) (mr r.copies (gj r.redex a m)) else (fK,false)
theorem nP {sig:List Ctl} {r:Rul} {a:Big} {m:Mat} (h:((dR r.redex a m.nodes).2.2 && (aH sig (gS r.redex a m) && aH sig (gj r.redex a m)))=false):fL sig r a m=(fK,false):=by unfold fL;rw [h];rfl
theorem sO {sig:List Ctl} {r:Rul} {a:Big} {m:Mat} (h:((dR r.redex a m.nodes).2.2 && (aH sig (gS r.redex a m) && aH sig (gj r.redex a m)))=true):fL sig r a m=nD sig r.reactum (gS r.redex a m) (mr r.copies (gj r.redex a m)):=by unfold fL;rw [h];rfl
theorem z6 {sig:List Ctl} {r:Rul} {a:Big} (m:Mat) (hr:g9 sig r=true) (ha:aH sig a=true) (hm:er r.redex a m=true):FnD Tryz.prog 52 [.l 3 (sig.map Ctl.D),r.D,a.D,m.D] (.tp [(fL sig r a m).1.D,.b (fL sig r a m).2]):=by
 obtain ⟨r1,r2,r3,r4,r5,r6,r7,r8⟩:=jc hr
 obtain ⟨m1,m2,m3,m4⟩:=cW hm
 have hd:=bl r1
 have hd2:=bl r2
 have f1:=zG (r:=r.redex) ha m (by omega)
 have hml:=kz (rs:=m.roots) (ns:=m.nodes) m2
 have f2:(dR r.redex a m.nodes).2.2=true→FnD Tryz.prog 99 [r.redex.D,a.D,m.D,DI (dR r.redex a m.nodes).1,DS (dR r.redex a m.nodes).2.1] (.d (gS r.redex a m).D):=fun h=>by
  obtain ⟨p1,p2,p3⟩:=qZ h
  exact vi m r1 ha (jk m1) (ii r3) m4 (fun p hp=>(mv m2 p hp).2) (by omega) _ _ p3 p1 (by omega)
 have f3:(dR r.redex a m.nodes).2.2=true→FnD Tryz.prog 100 [r.redex.D,a.D,m.D,DI (dR r.redex a m.nodes).1,DS (dR r.redex a m.nodes).2.1] (.d (gj r.redex a m).D):=fun h=>by
  obtain ⟨p1,p2,p3⟩:=qZ h
  exact Dg m r1 ha (oZ hm) _ _ p3 p1 (by omega)
 have hx:(dR r.redex a m.nodes).2.2=true→(gS r.redex a m).inner.length≤1000:=fun h=>by
  obtain ⟨p1,p2,p3⟩:=qZ h
  show (cu _ _).length≤1000
  rw [kl]
  unfold pm zW
  rw [List.length_mapIdx,List.length_mapIdx];omega
 refine af Tryz.func52 (fun hw W0=>?_)
 refine kgo ?_
 cases h1:(dR r.redex a m.nodes).2.2
 ·rw [nP (by rw [h1];rfl)]
  refine kgo ?_
  exact iS
 have f2:=f2 h1
 have f3:=f3 h1
 have hx:=hx h1
 have f4:=fO sig (gS r.redex a m) (by omega)
 have f5:=fO sig (gj r.redex a m) (by show (0:Nat)≤_;omega)
 have hno:(aH sig (gS r.redex a m) && aH sig (gj r.redex a m))=false→fL sig r a m=(fK,false):=fun h=>nP (by rw [h1,h];rfl)
 have hyes:(aH sig (gS r.redex a m) && aH sig (gj r.redex a m))=true→fL sig r a m=nD sig r.reactum (gS r.redex a m) (mr r.copies (gj r.redex a m)):=fun h=>sO (by rw [h1,h];rfl)
 generalize gS r.redex a m=C at *
 generalize gj r.redex a m=Q at *
 refine kgo ?_
 cases h2:aH sig C
 ·rw [hno (by rw [h2];rfl)]
  refine kgo ?_
  exact iS
 refine kgo ?_
 cases h3:aH sig Q
 ·rw [hno (by rw [h2,h3];rfl)]
  refine kgo ?_
  exact iS
 rw [hyes (by rw [h2,h3];rfl)]
 have f6:=so r h3 (by omega)
 have f7:=ze sig r.reactum C (mr r.copies Q) (by omega) (by show (0:Nat)≤_;omega)
 refine kgo ?_
 exact iS
theorem tn {sig:List Ctl} {b:Big} (h:ft sig b=true):aH sig b=true:=(Bool.and_eq_true_iff.1 h).1
end Go.Proofs.YtnobdioccfeokaaGreatDoor
namespace Go.Proofs.YtnobdioccfeokaaGreatDoor
open Go.RowKit Go.ChangeShapes Go.WideShapes Go.ChangeAt Go.Joins
set_option linter.unusedVariables false
set_option linter.unusedSimpArgs false
set_option maxRecDepth 100000
theorem own:ownKnob Tryz.prog.godebug=none:=by kernel_rfl
theorem FA:laidOutB Tryz.prog=true:=by kernel_rfl
def C1 : List (String × DataW Unit) := [("unicode/utf8.acceptRanges", Rows.laid_unicode_utf8_acceptRanges), ("unicode/utf8.first", Rows.laid_unicode_utf8_first)]
theorem D8 (os:Os) (args:Array Value):laidMetH Tryz.prog C1 ((World.laidAll Tryz.prog os C1).forCall (fun _ _=>0) ⟨#[],args,[]⟩).memory:=by
 rw [MakeChecks.laidMetH_plain _ _ _ (by kernel_rfl)];exact laidMet_laidAll _ (by kernel_rfl) (by kernel_rfl)
def LD {α:Type} (f:α→D):Lie α:=fun lo hi w cs x=>Rp w (fun b=>b<hi) (f x) cs
theorem nf {α:Type} {f:α→D} {z hi:Nat} {w:World} {v:Value} {xs:List α} (h:SlV z (LD f) 0 hi w v xs):Rp w (fun b=>b<hi) (.l z (xs.map f)) [v]:=by
 obtain ⟨a,k,h1,h2,h3,h4,h5⟩:=h
 refine ⟨a,k,by rw [h1,List.length_map],by rw [List.length_map];exact h2,h3,h4,?_⟩
 rcases h5 with h5|⟨b,o,e1,_,e2,e3⟩
 ·exact .inl (by rw [h5];rfl)
 ·refine .inr ⟨b,o,e1,e2,(gB _ _).2 fun j hj=>?_⟩
  obtain ⟨cs,q1,q2,q3⟩:=e3 j (by rw [List.length_map] at hj;exact hj)
  exact ⟨cs,q1,by rw [List.getElem_map];exact q2,q3⟩
section
variable {H:Type} {enc:TypeId × Value→H} {w:World}
theorem eQ:Tryz.prog.cellsOf 3=1:=by kernel_rfl
theorem jH:Tryz.prog.cellsOf 9=1:=by kernel_rfl
theorem gX:fe enc Tryz.prog w 3 (LD D.i):=fun fuel cs x h=>by obtain ⟨n,h1,h2⟩:=Bk Tryz.underlying3 fuel cs x h;exact ⟨n,h1,h2⟩
theorem uP:fe enc Tryz.prog w 9 (LD D.s):=fun fuel cs x h=>by obtain ⟨n,h1,h2⟩:=uj Tryz.underlying9 fuel cs x h;exact ⟨n,h1,h2⟩
theorem lY:Tryz.prog.cellsOf 81=3:=by kernel_rfl
theorem ri:fe enc Tryz.prog w 81 (LD Ctl.D):=by
 intro fuel cs x h
 obtain ⟨hl,n,hf⟩:=fh Tryz.underlying81 h
 rw [lY] at hl
 obtain ⟨c0,c1,c2,rfl⟩:=II hl
 obtain ⟨y0,e0⟩:=hf 0 _ rfl
 replace e0:DataW.trod enc Tryz.prog w 0 (fun _=>true) true n 9 [c0]=some y0:=by simpa [jH] using e0
 obtain ⟨x0,b0⟩:=uP _ _ _ e0
 obtain ⟨y1,e1⟩:=hf 1 _ rfl
 replace e1:DataW.trod enc Tryz.prog w 0 (fun _=>true) true n 3 [c1]=some y1:=by simpa [eQ] using e1
 obtain ⟨x1,b1⟩:=gX _ _ _ e1
 obtain ⟨y2,e2⟩:=hf 2 _ rfl
 replace e2:DataW.trod enc Tryz.prog w 0 (fun _=>true) true n 3 [c2]=some y2:=by simpa [eQ] using e2
 obtain ⟨x2,b2⟩:=gX _ _ _ e2
 exact ⟨⟨x0,x1,x2⟩,[c0],_,rfl,b0,[c1],_,rfl,b1,[c2],_,rfl,b2,rfl⟩
theorem gL:Tryz.prog.cellsOf 23=1:=by kernel_rfl
theorem gJ:∀fuel cs x,DataW.trod enc Tryz.prog w 0 (fun _=>true) true fuel 23 cs=some x→∃v xs,cs = [v]∧Rp w (fun b=>b<w.heap.size) (.l 1 (List.map D.i xs)) [v]:=fun fuel cs x h=>by obtain ⟨v,xs,h1,h2⟩:=dS Tryz.underlying23 eQ (by decide) gX fuel cs x h;exact ⟨v,xs,h1,nf h2⟩
theorem qj:Tryz.prog.cellsOf 130=3:=by kernel_rfl
theorem zB:fe enc Tryz.prog w 130 (LD Nd.D):=by
 intro fuel cs x h
 obtain ⟨hl,n,hf⟩:=fh Tryz.underlying130 h
 rw [qj] at hl
 obtain ⟨c0,c1,c2,rfl⟩:=II hl
 obtain ⟨y0,e0⟩:=hf 0 _ rfl
 replace e0:DataW.trod enc Tryz.prog w 0 (fun _=>true) true n 3 [c0]=some y0:=by simpa [eQ] using e0
 obtain ⟨x0,b0⟩:=gX _ _ _ e0
 obtain ⟨y1,e1⟩:=hf 1 _ rfl
 replace e1:DataW.trod enc Tryz.prog w 0 (fun _=>true) true n 3 [c1]=some y1:=by simpa [eQ] using e1
 obtain ⟨x1,b1⟩:=gX _ _ _ e1
 obtain ⟨y2,e2⟩:=hf 2 _ rfl
 replace e2:DataW.trod enc Tryz.prog w 0 (fun _=>true) true n 23 [c2]=some y2:=by simpa [gL] using e2
 obtain ⟨v2,x2,h2,b2⟩:=gJ _ _ _ e2
 obtain rfl:=(List.cons.inj h2).1
 exact ⟨⟨x0,x1,x2⟩,[c0],_,rfl,b0,[c1],_,rfl,b1,[c2],_,rfl,b2,rfl⟩
theorem qk:Tryz.prog.cellsOf 133=2:=by kernel_rfl
theorem x7:fe enc Tryz.prog w 133 (LD Wr.D):=by
 intro fuel cs x h
 obtain ⟨hl,n,hf⟩:=fh Tryz.underlying133 h
 rw [qk] at hl
 obtain ⟨c0,c1,rfl⟩:=Iw hl
 obtain ⟨y0,e0⟩:=hf 0 _ rfl
 replace e0:DataW.trod enc Tryz.prog w 0 (fun _=>true) true n 9 [c0]=some y0:=by simpa [jH] using e0
 obtain ⟨x0,b0⟩:=uP _ _ _ e0
 obtain ⟨y1,e1⟩:=hf 1 _ rfl
 replace e1:DataW.trod enc Tryz.prog w 0 (fun _=>true) true n 3 [c1]=some y1:=by simpa [eQ] using e1
 obtain ⟨x1,b1⟩:=gX _ _ _ e1
 exact ⟨⟨x0,x1⟩,[c0],_,rfl,b0,[c1],_,rfl,b1,rfl⟩
theorem vQ:Tryz.prog.cellsOf 30=1:=by kernel_rfl
theorem wv:∀fuel cs x,DataW.trod enc Tryz.prog w 0 (fun _=>true) true fuel 30 cs=some x→∃v xs,cs = [v]∧Rp w (fun b=>b<w.heap.size) (.l 3 (List.map Nd.D xs)) [v]:=fun fuel cs x h=>by obtain ⟨v,xs,h1,h2⟩:=dS Tryz.underlying30 qj (by decide) zB fuel cs x h;exact ⟨v,xs,h1,nf h2⟩
theorem mh:Tryz.prog.cellsOf 29=1:=by kernel_rfl
theorem lE:∀fuel cs x,DataW.trod enc Tryz.prog w 0 (fun _=>true) true fuel 29 cs=some x→∃v xs,cs = [v]∧Rp w (fun b=>b<w.heap.size) (.l 1 (List.map D.s xs)) [v]:=fun fuel cs x h=>by obtain ⟨v,xs,h1,h2⟩:=dS Tryz.underlying29 jH (by decide) uP fuel cs x h;exact ⟨v,xs,h1,nf h2⟩
theorem wk:Tryz.prog.cellsOf 31=1:=by kernel_rfl
theorem uV:∀fuel cs x,DataW.trod enc Tryz.prog w 0 (fun _=>true) true fuel 31 cs=some x→∃v xs,cs = [v]∧Rp w (fun b=>b<w.heap.size) (.l 2 (List.map Wr.D xs)) [v]:=fun fuel cs x h=>by obtain ⟨v,xs,h1,h2⟩:=dS Tryz.underlying31 qk (by decide) x7 fuel cs x h;exact ⟨v,xs,h1,nf h2⟩
theorem gE:Tryz.prog.cellsOf 33=6:=by kernel_rfl
theorem jm:fe enc Tryz.prog w 33 (LD Big.D):=by
 intro fuel cs x h
 obtain ⟨hl,n,hf⟩:=fh Tryz.underlying33 h
 rw [gE] at hl
 obtain ⟨c0,c1,c2,c3,c4,c5,rfl⟩:=Jg hl
 obtain ⟨y0,e0⟩:=hf 0 _ rfl
 replace e0:DataW.trod enc Tryz.prog w 0 (fun _=>true) true n 3 [c0]=some y0:=by simpa [eQ] using e0
 obtain ⟨x0,b0⟩:=gX _ _ _ e0
 obtain ⟨y1,e1⟩:=hf 1 _ rfl
 replace e1:DataW.trod enc Tryz.prog w 0 (fun _=>true) true n 30 [c1]=some y1:=by simpa [vQ] using e1
 obtain ⟨v1,x1,h1,b1⟩:=wv _ _ _ e1
 obtain rfl:=(List.cons.inj h1).1
 obtain ⟨y2,e2⟩:=hf 2 _ rfl
 replace e2:DataW.trod enc Tryz.prog w 0 (fun _=>true) true n 23 [c2]=some y2:=by simpa [gL] using e2
 obtain ⟨v2,x2,h2,b2⟩:=gJ _ _ _ e2
 obtain rfl:=(List.cons.inj h2).1
 obtain ⟨y3,e3⟩:=hf 3 _ rfl
 replace e3:DataW.trod enc Tryz.prog w 0 (fun _=>true) true n 3 [c3]=some y3:=by simpa [eQ] using e3
 obtain ⟨x3,b3⟩:=gX _ _ _ e3
 obtain ⟨y4,e4⟩:=hf 4 _ rfl
 replace e4:DataW.trod enc Tryz.prog w 0 (fun _=>true) true n 29 [c4]=some y4:=by simpa [mh] using e4
 obtain ⟨v4,x4,h4,b4⟩:=lE _ _ _ e4
 obtain rfl:=(List.cons.inj h4).1
 obtain ⟨y5,e5⟩:=hf 5 _ rfl
 replace e5:DataW.trod enc Tryz.prog w 0 (fun _=>true) true n 31 [c5]=some y5:=by simpa [wk] using e5
 obtain ⟨v5,x5,h5,b5⟩:=uV _ _ _ e5
 obtain rfl:=(List.cons.inj h5).1
 exact ⟨⟨x0,x1,x2,x3,x4,x5⟩,[c0],_,rfl,b0,[c1],_,rfl,b1,[c2],_,rfl,b2,[c3],_,rfl,b3,[c4],_,rfl,b4,[c5],_,rfl,b5,rfl⟩
theorem qu:Tryz.prog.cellsOf 86=13:=by kernel_rfl
theorem zo:fe enc Tryz.prog w 86 (LD Rul.D):=by
 intro fuel cs x h
 obtain ⟨hl,n,hf⟩:=fh Tryz.underlying86 h
 rw [qu] at hl
 obtain ⟨c0,c1,c2,c3,c4,c5,c6,c7,c8,c9,c10,c11,c12,rfl⟩:=Hn hl
 obtain ⟨y0,e0⟩:=hf 0 _ rfl
 replace e0:DataW.trod enc Tryz.prog w 0 (fun _=>true) true n 33 [c0,c1,c2,c3,c4,c5]=some y0:=by simpa [gE] using e0
 obtain ⟨x0,b0⟩:=jm _ _ _ e0
 obtain ⟨y1,e1⟩:=hf 1 _ rfl
 replace e1:DataW.trod enc Tryz.prog w 0 (fun _=>true) true n 33 [c6,c7,c8,c9,c10,c11]=some y1:=by simpa [gE] using e1
 obtain ⟨x1,b1⟩:=jm _ _ _ e1
 obtain ⟨y2,e2⟩:=hf 2 _ rfl
 replace e2:DataW.trod enc Tryz.prog w 0 (fun _=>true) true n 23 [c12]=some y2:=by simpa [gL] using e2
 obtain ⟨v2,x2,h2,b2⟩:=gJ _ _ _ e2
 obtain rfl:=(List.cons.inj h2).1
 exact ⟨⟨x0,x1,x2⟩,[c0,c1,c2,c3,c4,c5],_,rfl,b0,[c6,c7,c8,c9,c10,c11],_,rfl,b1,[c12],_,rfl,b2,rfl⟩
theorem pO:Tryz.prog.cellsOf 22=1:=by kernel_rfl
theorem pS:∀fuel cs x,DataW.trod enc Tryz.prog w 0 (fun _=>true) true fuel 22 cs=some x→∃v xs,cs = [v]∧Rp w (fun b=>b<w.heap.size) (.l 3 (List.map Ctl.D xs)) [v]:=fun fuel cs x h=>by obtain ⟨v,xs,h1,h2⟩:=dS Tryz.underlying22 lY (by decide) ri fuel cs x h;exact ⟨v,xs,h1,nf h2⟩
theorem vL:Tryz.prog.cellsOf 28=1:=by kernel_rfl
theorem vE:∀fuel cs x,DataW.trod enc Tryz.prog w 0 (fun _=>true) true fuel 28 cs=some x→∃v xs,cs = [v]∧Rp w (fun b=>b<w.heap.size) (.l 13 (List.map Rul.D xs)) [v]:=fun fuel cs x h=>by obtain ⟨v,xs,h1,h2⟩:=dS Tryz.underlying28 qu (by decide) zo fuel cs x h;exact ⟨v,xs,h1,nf h2⟩
theorem Hm {t:TypeId} {fs:Array Field} {α:Type} {f:α→D} {b0:Nat} {r:Reach} {v:Value} {d:DataW H} {p:List MemPlace} (hs:Tryz.prog.underlying t=some (.struct fs)) (ho:fe enc Tryz.prog w t (LD f))
 (hv:Value.okWide Tryz.prog w r b0 t v) (h:DataW.Trod enc Tryz.prog w 0 (fun _=>true) true t v d p):∃(cs:List Value) (x:α),v=.agg cs.toArray∧Rp w (fun b=>b<w.heap.size) (f x) cs:=by
 obtain ⟨cs,rfl,_⟩:=okWide_struct hs hv
 obtain ⟨fuel,hf⟩:=h
 obtain ⟨x,hx⟩:=ho _ _ _ hf
 exact ⟨cs.toList,x,by simp,by simpa [Value.cells,LD] using hx⟩
end
theorem HH {f:FuncId} {ds:List D} (h:FnD Tryz.prog f ds (.d (.b true))) {vs:List Value} {w:World} (hv:DVs w (fun b=>b<w.heap.size) ds vs):Calls Tryz.prog f vs.toArray w fun e w'=>e=.returned (.bool true)∧Ext w w':=
 (h.calls _ w vs hv (fun _ h=>h)).mono fun e w' ⟨v,h1,h2,h3⟩=>⟨by rw [h1,show v=.bool true from (List.cons.inj (show [v] = [Value.bool true] from h3)).1],h2⟩
end Go.Proofs.YtnobdioccfeokaaGreatDoor
namespace Go.Proofs.YtnobdioccfeokaaGreatDoor
open Go.RowKit
set_option linter.unusedVariables false
set_option maxRecDepth 100000
set_option maxHeartbeats 4000000
attribute [local irreducible] ar Der At
theorem dC (n lo hi:Int):FnD Tryz.prog 62 [.i n,.i lo,.i hi] (.d (.b (inR n lo hi))):=by
 refine af Tryz.func62 (fun hw W0=>?_)
 refine kgo ?_
 cases h:decide (lo≤n)
 ·refine kgo ?_
  rw [show inR n lo hi=false from by unfold inR;rw [h];rfl]
  exact aj
 ·refine kgo ?_
  rw [show inR n lo hi=decide (n≤hi) from by unfold inR;rw [h];rfl]
  exact aj
theorem C4 (b:Big) (n:Int) (hl:b.nodes.length≤1000):FnD Tryz.prog 239 [b.D,.i n] (.d (.b (inR n 0 (b.nodes.length - 1)))):=by
 refine af Tryz.func239 (fun hw W0=>?_)
 have f1:=dC n 0 (b.nodes.length - 1)
 refine kgo ?_
 exact aj
def nK {α:Type} (p:α→Bool) (l:List α):Int:=if l.any p then (l.findIdx p:Int) else -1
theorem mO {α:Type} {p:α→Bool} {l:List α} {i:Nat} (h:i<l.length) (he:p l[i]=true) (hn:(l.take i).any p=false):nK p l=i:=by
 unfold nK
 rw [if_pos (List.any_eq_true.2 ⟨_,List.getElem_mem h,he⟩)]
 have:l.findIdx p=i:=(List.findIdx_eq h).2 ⟨he,fun j hj=>by
  have:=List.any_eq_false.1 hn (l[j]) (List.mem_iff_getElem.2 ⟨j,by rw [List.length_take];omega,by rw [List.getElem_take]⟩)
  simpa using this⟩
 rw [this]
theorem lv {α:Type} {p:α→Bool} {l:List α} (hn:l.any p=false):nK p l = -1:=by unfold nK;rw [hn];rfl
theorem ku {α:Type} (p:α→Bool) (l:List α):decide (0≤nK p l)=l.any p:=by
 unfold nK
 cases h:l.any p
 ·rfl
 ·simp
theorem eh {α:Type} (p:α→Bool) (l:List α) : -1≤nK p l∧nK p l<l.length:=by
 unfold nK
 split
 ·rename_i h
  have:=List.findIdx_lt_length_of_exists (List.any_eq_true.1 h)
  omega
 ·omega
theorem km {α:Type} {p:α→Bool} {l:List α} {i:Nat} (h:i<l.length) (hi:(l.take i).any p=false) (hp:p l[i]=false):(l.take (i+1)).any p=false:=by
 rw [List.take_succ_eq_append_getElem h,List.any_append,hi,List.any_cons,hp];rfl
theorem mP {α:Type} {p:α→Bool} {l:List α} {i:Nat} (h:l.length≤i) (hi:(l.take i).any p=false):l.any p=false:=by rwa [List.take_of_length_le h] at hi
theorem iv (l:List Int) (n:Int):FnD Tryz.prog 200 [DI l,.i n] (.d (.i (nK (fun x=>x == n) l))):=by
 refine af Tryz.func200 (fun hw W0=>?_)
 have hl:=(wfM hw.1).1
 refine kgo ?_
 refine ai [0,1,7] (fun i:Nat=>i≤l.length∧(l.take i).any (fun x=>x == n)=false) (fun i=>l.length - i) (fun i=>[(8,.sy (.d (.i i)))]) 0 ⟨Nat.zero_le _,rfl⟩ (fun i hi=>?_)
 refine kgo ?_
 refine aJ (fun h=>?_) (fun h=>?_)
 ·have hlt:i<l.length:=by omega
  refine kgo ?_
  refine aJ (fun h2=>?_) (fun h2=>?_)
  ·refine kgo ?_
   rw [mO hlt (by rw [← h2];exact beq_self_eq_true _) hi.2]
   exact aj
  ·refine kgo ?_
   exact aa (i+1) ⟨hlt,km hlt hi.2 (by rw [beq_eq_false_iff_ne];exact fun e=>h2 e.symm)⟩ (by omega)
 refine kgo ?_
 rw [lv (mP (by omega) hi.2)]
 exact aj
theorem fc (l:List Int) (n:Int):FnD Tryz.prog 189 [DI l,.i n] (.d (.b (fp l n))):=by
 refine af Tryz.func189 (fun hw W0=>?_)
 have f1:=iv l n
 have hr:=eh (fun x=>x == n) l
 have hp:=ku (fun x=>x == n) l
 refine kgo ?_
 rw [show fp l n=l.any (fun x=>x == n) from rfl,← hp]
 exact aj
theorem tQ (l:List Int) (g:Nat) (cs:List D) (p:Int→Bool) (hct:(cs.all fun r=>!isT r)=true) (hp:∀x∈l,FnD Tryz.prog g ([.i x]++cs) (.d (.b (p x)))):FnD Tryz.prog 166 [DI l,.f g cs] (.d (.i (nK p l))):=by
 refine af Tryz.func166 (fun hw W0=>?_)
 have hl:=(wfM hw.1).1
 refine kgo ?_
 refine ai [0,1,7] (fun i:Nat=>i≤l.length∧(l.take i).any p=false) (fun i=>l.length - i) (fun i=>[(8,.sy (.d (.i i)))]) 0 ⟨Nat.zero_le _,rfl⟩ (fun i hi=>?_)
 refine kgo ?_
 refine aJ (fun h=>?_) (fun h=>?_)
 ·have hlt:i<l.length:=by omega
  have f1:=hp _ (List.getElem_mem hlt)
  refine kgo ?_
  refine cIf (fun h2=>?_) (fun h2=>?_)
  ·refine kgo ?_
   rw [mO hlt h2 hi.2]
   exact aj
  ·refine kgo ?_
   exact aa (i+1) ⟨hlt,km hlt hi.2 h2⟩ (by omega)
 refine kgo ?_
 rw [lv (mP (by omega) hi.2)]
 exact aj
theorem cF (l:List Int) (g:Nat) (cs:List D) (p:Int→Bool) (hct:(cs.all fun r=>!isT r)=true) (hp:∀x∈l,FnD Tryz.prog g ([.i x]++cs) (.d (.b (p x)))):FnD Tryz.prog 108 [DI l,.f g cs] (.d (.b (l.any p))):=by
 refine af Tryz.func108 (fun hw W0=>?_)
 have f1:=tQ l g cs p hct hp
 have hr:=eh p l
 have hq:=ku p l
 refine kgo ?_
 rw [← hq]
 exact aj
theorem lX {sig:List Ctl} {a:Big} (hB:aH sig a=true) (ns:List Int) (p0:Int) (hp:p0<a.nodes.length):FnD Tryz.prog 125 [a.D,.i p0,DI ns] (.d (.b (il a ns p0))):=by
 refine af Tryz.func125 (fun hw W0=>?_)
 refine kgo ?_
 refine ai [2,3] (fun p:Int=>p<a.nodes.length∧il a ns p0=il a ns p) (fun p=>(p+1).toNat) (fun p=>[(1,.sy (.d (.i p)))]) p0 ⟨hp,rfl⟩ (fun p hi=>?_)
 refine kgo ?_
 refine aJ (fun h=>?_) (fun h=>?_)
 ·obtain ⟨k,rfl⟩:=Int.eq_ofNat_of_zero_le h
  have hk:k<a.nodes.length:=by omega
  have hs:il a ns k=(fp ns k || il a ns (a.nodes[k]).parent):=fg hB _ k hk
  have hu:=iE hB k hk
  have f1:=fc ns k
  refine kgo ?_
  refine cIf (fun h2=>?_) (fun h2=>?_)
  ·refine kgo ?_
   rw [hi.2,hs,h2]
   exact aj
  ·refine kgo ?_
   exact aa (a.nodes[k]).parent ⟨by omega,by rw [hi.2,hs,h2];rfl⟩ (by omega)
 refine kgo ?_
 rw [hi.2,show il a ns p=false from ee _ _ (by omega)]
 exact aj
theorem iy (b:Big) (p:Int) (hn:b.nodes.length≤1000) (hs:b.sites.length≤1000):FnD Tryz.prog 193 [b.D,.i p] (.tp [DI (dJ b p),DI (cC b p)]):=by
 refine af Tryz.func193 (fun hw W0=>?_)
 refine kgo ?_
 refine ai [1,2,7,15,16] (fun i:Nat=>i≤b.nodes.length) (fun i=>b.nodes.length - i) (fun i=>[(6,.sy (.k 20001)),(20001,.tk (.row 1 3 ((idxOf (sf b p) i).map .i))),(17,.sy (.d (.i i)))]) 0 (Nat.zero_le _) (fun i hi=>?_)
 refine kgo ?_
 refine aJ (fun h=>?_) (fun h=>?_)
 ·have hlt:i<b.nodes.length:=by omega
  have hf:sf b p i=decide ((b.nodes[i]).parent=p):=by unfold sf;rw [List.getElem?_eq_getElem hlt]
  have hl:=dz (sf b p) i
  refine kgo ?_
  refine aJ (fun h2=>?_) (fun h2=>?_)
  ·have hs:(idxOf (sf b p) (i+1)).map D.i=(idxOf (sf b p) i).map D.i++[.i i]:=by rw [dI (hf.trans (decide_eq_true h2)),List.map_append];rfl
   refine kgo ?_
   exact aa (i+1) (by omega) (by omega)
  ·have hs:(idxOf (sf b p) (i+1)).map D.i=(idxOf (sf b p) i).map D.i:=by rw [eY (hf.trans (decide_eq_false h2))]
   refine kgo ?_
   exact aa (i+1) (by omega) (by omega)
 rw [show dJ b p=idxOf (sf b p) i from by rw [show i=b.nodes.length by omega];rfl]
 generalize idxOf (sf b p) i=ks
 refine kgo ?_
 refine ai [1,6,32,33] (fun i:Nat=>i≤b.sites.length) (fun i=>b.sites.length - i) (fun i=>[(7,.sy (.k 20002)),(20002,.tk (.row 1 3 ((idxOf (ju b p) i).map .i))),(34,.sy (.d (.i i)))]) 0 (Nat.zero_le _) (fun i hi=>?_)
 refine kgo ?_
 refine aJ (fun h=>?_) (fun h=>?_)
 ·have hlt:i<b.sites.length:=by omega
  have hf:ju b p i=decide (b.sites[i]=p):=by unfold ju;rw [List.getElem?_eq_getElem hlt]
  have hl:=dz (ju b p) i
  refine kgo ?_
  refine aJ (fun h2=>?_) (fun h2=>?_)
  ·have hs:(idxOf (ju b p) (i+1)).map D.i=(idxOf (ju b p) i).map D.i++[.i i]:=by rw [dI (hf.trans (decide_eq_true h2)),List.map_append];rfl
   refine kgo ?_
   exact aa (i+1) (by omega) (by omega)
  ·have hs:(idxOf (ju b p) (i+1)).map D.i=(idxOf (ju b p) i).map D.i:=by rw [eY (hf.trans (decide_eq_false h2))]
   refine kgo ?_
   exact aa (i+1) (by omega) (by omega)
 rw [show cC b p=idxOf (ju b p) i from by rw [show i=b.sites.length by omega];rfl]
 repeat (first|(refine ca ?_;first|refine aM ?_|refine b6 ?_|refine aR ?_|refine bh ?_|refine aL ?_|refine bg ?_|refine aX ?_|refine az ?_|refine aV ?_)|(refine eG ?_;first|refine bH ?_|refine eC ?_|refine bP ?_|refine cb ?_)|(refine eT ?_;first|refine cS (fun _=>?_)|refine cd ?_|refine bR ?_|refine b9 ?_|refine bu ?_|refine bJ ?_|refine b8 ?_)|(refine eR ?_;first|refine ch ?_|refine d7 ?_|refine b7 ?_|refine bD ?_|refine bN ?_|refine bX ?_|refine bS ?_)|(refine eK ?_;first|refine eF ?_|refine eA ?_|refine bU ?_|refine bG ?_|refine eH ?_|refine bd ?_|refine bc ?_)|(refine bV ?_;first|refine cD (d:=4) ?_|refine cD (d:=5) ?_|refine ba ?_|refine bT ?_)|(refine eV ?_;first|refine dL (d:=4) ?_|refine dL (d:=5) ?_|refine bI ?_|refine bQ ?_|refine eJ ?_)|(refine bL ?_;first|refine bO ?_|refine aS ?_|refine aN ?_|refine aW ?_|refine aQ ?_|refine aY ?_)|(refine eE ?_;first|refine bZ ?_|refine eB ?_|refine be ?_|refine aP ?_|refine aU ?_)|(refine aK ?_;first|refine aq _ ?_|refine bf ?_|refine aw ?_|refine au ?_|refine ax ?_)|(refine eP ?_;first|refine bW ?_|refine bE ?_|refine bM ?_)|(refine gOp ?_;first|refine eD ?_|refine eM ?_|refine aZ ?_|refine eU ?_|refine eN ?_|refine bK ?_|refine aO ?_|refine cf ?_|refine eO ?_|refine bC ?_|refine bY ?_|refine aT ?_|refine ay ?_|refine cg ?_|refine sNo ?_|refine dU ?_|refine av ?_)|refine dY ?_|refine dq ?_|refine fj ?_|refine bj ?_|refine ci ?_|refine br ?_|refine fm ?_|refine fl ?_|refine eX ?_|refine dB ?_|refine ck ?_|refine bo ?_|refine aA ?_|refine bk ?_|refine ct ?_|refine bt ?_|refine aBlkX ?_|refine cm ?_)
 exact iS
theorem ky (b:Big) (l:Int) (hn:b.nodes.length≤1000) (hl:∀i (h:i<b.nodes.length),(b.nodes[i]).links.length≤1000) (hin:b.inner.length≤1000):FnD Tryz.prog 238 [b.D,.i l] (.tp [.l 2 ((aD b l).map cH),DS (nF b l)]):=by
 refine af Tryz.func238 (fun hw W0=>?_)
 refine kgo ?_
 refine ai [1,2,7,17,18] (fun i:Nat=>i≤b.nodes.length) (fun i=>b.nodes.length - i) (fun i=>[(6,.sy (.k 20001)),(20001,.tk (.row 2 138 ((bm b l i 0).map cH))),(19,.sy (.d (.i i)))]) 0 (Nat.zero_le _) (fun i hi=>?_)
 refine kgo ?_
 refine aJ (fun h=>?_) (fun h=>?_)
 ·have hlt:i<b.nodes.length:=by omega
  have hll:=hl i hlt
  refine kgo ?_
  refine ai [1,2,7,8,17,18,19,25,26] (fun j:Nat=>j≤(b.nodes[i]).links.length) (fun j=>(b.nodes[i]).links.length - j) (fun j=>[(6,.sy (.k 20001)),(20001,.tk (.row 2 138 ((bm b l i j).map cH))),(27,.sy (.d (.i j)))]) 0 (Nat.zero_le _) (fun j hj=>?_)
  refine kgo ?_
  refine aJ (fun h2=>?_) (fun h2=>?_)
  ·have hjl:j<(b.nodes[i]).links.length:=by omega
   have hpl:(bm b l i j).length≤1000000:=by
    obtain ⟨t,ht⟩:=jl b l i j hlt hj
    have:=di b l hn hl
    rw [ht,List.length_append] at this;omega
   refine kgo ?_
   refine aJ (fun h3=>?_) (fun h3=>?_)
   ·have hpl:(bm b l i j).length+1≤1000000:=by
     obtain ⟨t,ht⟩:=jl b l i (j+1) hlt hjl
     have:=di b l hn hl
     rw [ht,List.length_append,jb b l i j hlt hjl h3,List.length_append] at this
     simp only [List.length_cons,List.length_nil] at this;omega
    have hs:(bm b l i (j+1)).map cH=(bm b l i j).map cH++[cH ((i:Int),(j:Int))]:=by rw [jb b l i j hlt hjl h3,List.map_append];rfl
    refine kgo ?_
    exact aa (j+1) hjl (by omega)
   ·have hs:(bm b l i (j+1)).map cH=(bm b l i j).map cH:=by rw [qG b l i j hlt hjl h3]
    refine kgo ?_
    exact aa (j+1) hjl (by omega)
  have hs:(bm b l (i+1) 0).map cH=(bm b l i j).map cH:=by rw [jZ b l i hlt,show j=(b.nodes[i]).links.length by omega]
  refine kgo ?_
  exact aa (i+1) hlt (by omega)
 rw [show aD b l=bm b l i 0 from by rw [show i=b.nodes.length by omega,jg]]
 generalize bm b l i 0=ps
 refine kgo ?_
 refine ai [1,6,44,45] (fun i:Nat=>i≤b.inner.length) (fun i=>b.inner.length - i) (fun i=>[(7,.sy (.k 20002)),(20002,.tk (.row 1 9 ((ex b l i).map .s))),(46,.sy (.d (.i i)))]) 0 (Nat.zero_le _) (fun i hi=>?_)
 refine kgo ?_
 refine aJ (fun h=>?_) (fun h=>?_)
 ·have hlt:i<b.inner.length:=by omega
  have hq:=kv b l i
  refine kgo ?_
  refine aJ (fun h2=>?_) (fun h2=>?_)
  ·have hs:(ex b l (i+1)).map D.s=(ex b l i).map D.s++[.s (b.inner[i]).name]:=by rw [qy hlt h2,List.map_append];rfl
   refine kgo ?_
   exact aa (i+1) hlt (by omega)
  ·have hs:(ex b l (i+1)).map D.s=(ex b l i).map D.s:=by rw [uf hlt h2]
   refine kgo ?_
   exact aa (i+1) hlt (by omega)
 rw [show nF b l=ex b l i from by rw [show i=b.inner.length by omega];rfl]
 repeat (first|(refine ca ?_;first|refine aM ?_|refine b6 ?_|refine aR ?_|refine bh ?_|refine aL ?_|refine bg ?_|refine aX ?_|refine az ?_|refine aV ?_)|(refine eG ?_;first|refine bH ?_|refine eC ?_|refine bP ?_|refine cb ?_)|(refine eT ?_;first|refine cS (fun _=>?_)|refine cd ?_|refine bR ?_|refine b9 ?_|refine bu ?_|refine bJ ?_|refine b8 ?_)|(refine eR ?_;first|refine ch ?_|refine d7 ?_|refine b7 ?_|refine bD ?_|refine bN ?_|refine bX ?_|refine bS ?_)|(refine eK ?_;first|refine eF ?_|refine eA ?_|refine bU ?_|refine bG ?_|refine eH ?_|refine bd ?_|refine bc ?_)|(refine bV ?_;first|refine cD (d:=4) ?_|refine cD (d:=5) ?_|refine ba ?_|refine bT ?_)|(refine eV ?_;first|refine dL (d:=4) ?_|refine dL (d:=5) ?_|refine bI ?_|refine bQ ?_|refine eJ ?_)|(refine bL ?_;first|refine bO ?_|refine aS ?_|refine aN ?_|refine aW ?_|refine aQ ?_|refine aY ?_)|(refine eE ?_;first|refine bZ ?_|refine eB ?_|refine be ?_|refine aP ?_|refine aU ?_)|(refine aK ?_;first|refine aq _ ?_|refine bf ?_|refine aw ?_|refine au ?_|refine ax ?_)|(refine eP ?_;first|refine bW ?_|refine bE ?_|refine bM ?_)|(refine gOp ?_;first|refine eD ?_|refine eM ?_|refine aZ ?_|refine eU ?_|refine eN ?_|refine bK ?_|refine aO ?_|refine cf ?_|refine eO ?_|refine bC ?_|refine bY ?_|refine aT ?_|refine ay ?_|refine cg ?_|refine sNo ?_|refine dU ?_|refine av ?_)|refine dY ?_|refine dq ?_|refine fj ?_|refine bj ?_|refine ci ?_|refine br ?_|refine fm ?_|refine fl ?_|refine eX ?_|refine dB ?_|refine ck ?_|refine bo ?_|refine aA ?_|refine bk ?_|refine ct ?_|refine bt ?_|refine aBlkX ?_|refine cm ?_)
 exact iS
end Go.Proofs.YtnobdioccfeokaaGreatDoor
namespace Go.Proofs.YtnobdioccfeokaaGreatDoor
open Go.RowKit
set_option linter.unusedVariables false
set_option linter.unusedSimpArgs false
set_option maxRecDepth 100000
set_option maxHeartbeats 4000000
attribute [local irreducible] ar Der At
attribute [local irreducible] inR cJ cN iR dg dw fw fU gz qf
theorem xS (b:Big) (l:Int) (he:0≤b.edges∧b.edges≤8) (ho:b.outer.length≤1000):FnD Tryz.prog 184 [b.D,.i l] (.d (.b (fw b l))):=by
 have f1:=dC l 0 (b.edges+b.outer.length - 1)
 rw [show fw b l=inR l 0 (b.edges+b.outer.length - 1) by unfold fw;rfl]
 refine af Tryz.func184 (fun hw W0=>?_)
 refine kgo ?_
 exact aj
theorem qE (sig:List Ctl) (b:Big) (p below:Int) (hr:0≤b.roots∧b.roots≤4) (hb:below≤b.nodes.length) (hC:AA sig b below):FnD Tryz.prog 182 [b.D,.l 3 (sig.map Ctl.D),.i p,.i below] (.d (.b (dw sig b p below))):=by
 refine af Tryz.func182 (fun hw W0=>?_)
 refine kgo ?_
 refine aJ (fun h=>?_) (fun h=>?_)
 ·rw [qd h]
  refine kgo ?_
  exact aj
 rw [show dw sig b p below=(decide (p<below) && !(decide ((qf sig (dF b p).control).kind=2))) by unfold dw;exact if_neg (by omega)]
 refine kgo ?_
 cases h2:decide (p<below)
 ·refine kgo ?_
  exact aj
 have h3:=of_decide_eq_true h2
 obtain ⟨n,rfl⟩:=Int.eq_ofNat_of_zero_le (show 0≤p by omega)
 have hn:n<b.nodes.length:=by omega
 obtain ⟨c0,c1⟩:=hC n hn h3
 obtain ⟨m,hm⟩:=Int.eq_ofNat_of_zero_le c0
 have hml:m<sig.length:=by omega
 rw [aB b n hn,hm,iD sig m hml]
 refine kgo ?_
 refine cS (n:=m) (fun _=>?_) rfl rfl (congrArg some hm)
 refine kgo ?_
 exact aj
theorem sX (b:Big) (l:Int) (he:0≤b.edges∧b.edges≤8) (ho:b.outer.length≤1000):FnD Tryz.prog 183 [.i l,.p b.D] (.d (.b (!(fw b l)))):=by
 have f1:=xS b l he ho
 refine af Tryz.func183 (fun hw W0=>?_)
 refine kgo ?_
 exact aj
theorem sK (sig:List Ctl) (b:Big) (p:Int) (hr:0≤b.roots∧b.roots≤4) (hC:AA sig b b.nodes.length):FnD Tryz.prog 185 [.i p,.p b.D,.p (.l 3 (sig.map Ctl.D))] (.d (.b (!(fU sig b p)))):=by
 have f1:=qE sig b p b.nodes.length hr (Int.le_refl _) hC
 rw [← uq] at f1
 refine af Tryz.func185 (fun hw W0=>?_)
 refine kgo ?_
 exact aj
theorem ur (b:Big) (x:Wr) (he:0≤b.edges∧b.edges≤8) (ho:b.outer.length≤1000):FnD Tryz.prog 187 [x.D,.p b.D] (.d (.b (!(gz b x)))):=by
 have f1:=xS b x.link he ho
 rw [← sL] at f1
 refine af Tryz.func187 (fun hw W0=>?_)
 refine kgo ?_
 exact aj
theorem tI (l:List Wr) (g:Nat) (cs:List D) (p:Wr→Bool) (hct:(cs.all fun r=>!isT r)=true) (hp:∀x∈l,FnD Tryz.prog g ([x.D]++cs) (.d (.b (p x)))):FnD Tryz.prog 237 [.l 2 (l.map Wr.D),.f g cs] (.d (.i (nK p l))):=by
 refine af Tryz.func237 (fun hw W0=>?_)
 have hl:=(wfM hw.1).1
 refine kgo ?_
 refine ai [0,1,7] (fun i:Nat=>i≤l.length∧(l.take i).any p=false) (fun i=>l.length - i) (fun i=>[(8,.sy (.d (.i i)))]) 0 ⟨Nat.zero_le _,rfl⟩ (fun i hi=>?_)
 refine kgo ?_
 refine aJ (fun h=>?_) (fun h=>?_)
 ·have hlt:i<l.length:=by omega
  have f1:=hp _ (List.getElem_mem hlt)
  refine kgo ?_
  refine cIf (fun h2=>?_) (fun h2=>?_)
  ·refine kgo ?_
   rw [mO hlt h2 hi.2]
   exact aj
  ·refine kgo ?_
   exact aa (i+1) ⟨hlt,km hlt hi.2 h2⟩ (by omega)
 refine kgo ?_
 rw [lv (mP (by omega) hi.2)]
 exact aj
theorem pg (l:List Wr) (g:Nat) (cs:List D) (p:Wr→Bool) (hct:(cs.all fun r=>!isT r)=true) (hp:∀x∈l,FnD Tryz.prog g ([x.D]++cs) (.d (.b (p x)))):FnD Tryz.prog 186 [.l 2 (l.map Wr.D),.f g cs] (.d (.b (l.any p))):=by
 refine af Tryz.func186 (fun hw W0=>?_)
 have f1:=tI l g cs p hct hp
 have hr:=eh p l
 have hq:=ku p l
 refine kgo ?_
 rw [← hq]
 exact aj
theorem mo (sig:List Ctl):FnD Tryz.prog 106 [.l 3 (sig.map Ctl.D)] (.d (.b (iR sig))):=⟨cB Tryz.func106,fun F w vs hv hF=>by
 obtain ⟨v1,t,rfl,h1,h3⟩:=hv
 cases (show t = [] from h3)
 refine (lJ _ _ _ _ _ (E5.toV (by decide) h1)).mono ?_
 rintro e w' ⟨rfl,hX⟩
 exact ⟨_,rfl,hX,rfl⟩⟩
theorem qq (l:List ByteArray):FnD Tryz.prog 180 [DS l] (.d (.b (dg l))):=⟨cB Tryz.func180,fun F w vs hv hF=>by
 obtain ⟨v1,t,rfl,h1,h3⟩:=hv
 cases (show t = [] from h3)
 refine (oL _ _ _ _ _ (I0.toV (by decide) h1)).mono ?_
 rintro e w' ⟨rfl,hX⟩
 exact ⟨_,rfl,hX,rfl⟩⟩
theorem rL (b:Big) (hl:b.inner.length≤1048576):FnD Tryz.prog 181 [b.D] (.d (DS (b.inner.map Wr.name))):=⟨cB Tryz.func181,fun F w vs hv hF=>by
 obtain ⟨v1,t,rfl,h1,h3⟩:=hv
 cases (show t = [] from h3)
 obtain ⟨cs,rfl,hb⟩:=xf h1
 refine (iJ _ _ _ _ _ hb hl).mono ?_
 rintro e w' ⟨v,rfl,hV,hX⟩
 exact ⟨_,rfl,hX,nY (I0.ofV hV)⟩⟩
attribute [local irreducible] fW
theorem dW (sig:List Ctl) (b:Big) (hl:b.inner.length≤1048576):FnD Tryz.prog 117 [.l 3 (sig.map Ctl.D),b.D] (.d (.b (aH sig b))):=by
 have f1:=mo sig
 have f2:=dC b.roots 0 4
 have f3:=dC b.edges 0 8
 have f4:=qq b.outer
 have f5:=qq (b.inner.map Wr.name)
 have f6:=rL b hl
 refine af Tryz.func117 (fun hw W0=>?_)
 have hsl:=(wfM hw.1).1
 refine kgo ?_
 cases h1:iR sig
 ·rw [cq (by unfold gr;rw [h1];rfl)]
  refine kgo ?_
  exact aj
 refine kgo ?_
 cases h2:inR b.roots 0 4
 ·rw [cq (by unfold gr;rw [h2];simp)]
  refine kgo ?_
  exact aj
 refine kgo ?_
 cases h3:decide ((8:Int)<b.nodes.length)
 rotate_left
 ·rw [cq (by unfold gr;simp at h3;simp;omega)]
  refine kgo ?_
  exact aj
 refine kgo ?_
 cases h4:decide ((4:Int)<b.sites.length)
 rotate_left
 ·rw [cq (by unfold gr;simp at h4;simp;omega)]
  refine kgo ?_
  exact aj
 refine kgo ?_
 cases h5:inR b.edges 0 8
 ·rw [cq (by unfold gr;rw [h5];simp)]
  refine kgo ?_
  exact aj
 refine kgo ?_
 cases h6:dg b.outer
 ·rw [cq (by unfold gr;rw [h6];simp)]
  refine kgo ?_
  exact aj
 refine kgo ?_
 cases h8:dg (b.inner.map Wr.name)
 ·rw [cq (by unfold gr;rw [h8];simp)]
  refine kgo ?_
  exact aj
 have hH:gr sig b=true:=by unfold gr;rw [h1,h2,h5,h6,h8];simp at h3 h4 ⊢;omega
 have hr:=bB h2
 have he:=bB h5
 have ho:b.outer.length≤1000:=by have:=fq h6;omega
 simp only [decide_eq_false_iff_not] at h3 h4
 refine kgo ?_
 refine BW 3 b.D ?_
 refine BW 2 (.l 3 (sig.map Ctl.D)) ?_
 refine ai [2,3,47,48] (fun i:Nat=>i≤b.nodes.length∧(List.range i).all (fW sig b)=true) (fun i=>b.nodes.length - i) (fun i=>[(49,.sy (.d (.i i)))]) 0 ⟨Nat.zero_le _,rfl⟩ (fun i hi=>?_)
 refine kgo ?_
 refine aJ (fun h=>?_) (fun h=>?_)
 ·have hlt:i<b.nodes.length:=by omega
  have f7:=dC (b.nodes[i]).control 0 ((sig.length:Int) - 1)
  have f8:=qE sig b (b.nodes[i]).parent i hr (by omega) (nV hi.2)
  have f9:=cF (b.nodes[i]).links 183 [.p b.D] (fun l=>!(fw b l)) rfl (fun l _=>sX b l he ho)
  have hno:=jR sig b i hlt
  refine kgo ?_
  cases g1:inR (b.nodes[i]).control 0 ((sig.length:Int) - 1)
  ·rw [gT i hlt (by rw [hno,g1];rfl)]
   refine kgo ?_
   exact aj
  refine kgo ?_
  cases g2:dw sig b (b.nodes[i]).parent i
  ·rw [gT i hlt (by rw [hno,g2];simp)]
   refine kgo ?_
   exact aj
  obtain ⟨c0,c1⟩:=bB g1
  obtain ⟨m,hm⟩:=Int.eq_ofNat_of_zero_le c0
  have hml:m<sig.length:=by omega
  rw [show qf sig (b.nodes[i]).control=sig[m] by rw [hm];exact iD sig m hml,g1,g2] at hno
  refine kgo ?_
  refine cS (n:=m) (fun _=>?_) rfl rfl (congrArg some hm)
  refine kgo ?_
  cases g3:(!(decide (((b.nodes[i]).links.length:Int)=sig[m].ports)))
  rotate_left
  ·rw [gT i hlt (by rw [hno,show decide (((b.nodes[i]).links.length:Int)=sig[m].ports)=false by simpa using g3];rfl)]
   refine kgo ?_
   exact aj
  refine kgo ?_
  refine cIf (fun g4=>?_) (fun g4=>?_)
  ·rw [gT i hlt (by rw [hno,g4];simp)]
   refine kgo ?_
   exact aj
  refine kgo ?_
  exact aa (i+1) ⟨hlt,by rw [aI,hi.2,hno,g4,show decide (((b.nodes[i]).links.length:Int)=sig[m].ports)=true by simpa using g3];rfl⟩ (by show _ - (i+1)<_ - i;omega)
 obtain rfl:i=b.nodes.length:=by omega
 have hN:=hi.2
 have s1:=cF b.sites 185 [.p b.D,.p (.l 3 (sig.map Ctl.D))] (fun p=>!(fU sig b p)) rfl (fun p _=>sK sig b p hr (nV hN))
 have s2:=pg b.inner 187 [.p b.D] (fun x=>!(gz b x)) rfl (fun x _=>ur b x he ho)
 rw [ig] at s1 s2
 refine kgo ?_
 cases g1:b.sites.all (fU sig b)
 ·rw [pD g1]
  refine kgo ?_
  exact aj
 refine kgo ?_
 cases g2:b.inner.all (gz b)
 ·rw [oA g2]
  refine kgo ?_
  exact aj
 rw [wP hH hN g1 g2]
 refine kgo ?_
 exact aj
end Go.Proofs.YtnobdioccfeokaaGreatDoor
namespace Go.Proofs.YtnobdioccfeokaaGreatDoor
open Go.RowKit
set_option linter.unusedVariables false
set_option linter.unusedSimpArgs false
set_option maxRecDepth 100000
set_option maxHeartbeats 4000000
attribute [local irreducible] ar Der At
attribute [local irreducible] inR cJ cN iR
abbrev Srt.D (s:Srt):D:=.t [DI s.tops,.l 1 (s.nest.map DI),.l 1 (s.sorts.map DI),DI s.most,.l 2 (s.apart.map cH)]
theorem Av {w:World} {S:BS} {x:Int × Int} {v:Value} (h:DV w S (cH x) v):v=.agg #[.int .i64 x.1,.int .i64 x.2]:=by
 obtain ⟨cs,rfl,c1,e1,rfl,h1,c2,e2,rfl,h2,h3⟩:=h
 rw [(show e2 = [] from h3),h1.1,h2.1];rfl
theorem sD {l:List Int} {j:Nat} (h:j+1<l.length):l.getD (j+1 - 1) 0=l[j]:=by rw [List.getD_eq_getElem?_getD,Nat.add_sub_cancel,List.getElem?_eq_getElem (by omega)];rfl
theorem yA (l:List Int) (a b:Int):FnD Tryz.prog 135 [DI l,.i a,.i b] (.d (.b (iq a b l))):=by
 refine af Tryz.func135 (fun hw W0=>?_)
 have hl:=(wfM hw.1).1
 refine kgo ?_
 refine ai [0,1,2] (fun i:Nat=>i≤l.length∧(List.range i).all (kU a b l)=true) (fun i=>l.length - i) (fun i=>[(7,.sy (.d (.i i)))]) 0 ⟨Nat.zero_le _,rfl⟩ (fun i hi=>?_)
 refine kgo ?_
 refine aJ (fun h=>?_) (fun h=>?_)
 ·have hlt:i<l.length:=by omega
  have hbad:=tH a b l i hlt
  have hok:kU a b l i=true→(List.range (i+1)).all (kU a b l)=true:=fun e=>by rw [aI,hi.2,e];rfl
  rw [tW a b l i hlt] at hbad hok
  have f1:=iM l[i] a b
  refine kgo ?_
  cases h1:inR l[i] a b
  ·rw [hbad (by rw [h1];rfl)]
   refine kgo ?_
   (repeat refine uu ?_)
   refine kgo ?_
   exact aj
  rw [h1] at hbad hok
  cases i with
  | zero=>
   refine kgo ?_
   exact aa 1 ⟨hlt,hok rfl⟩ (by show _ - 1<_ - 0;omega)
  | succ j=>
   rw [sD hlt] at hbad hok
   refine kgo ?_
   cases hg:decide ((0:Int)<((j+1:Nat):Int))
   ·exact absurd hg (by simp)
   refine kgo ?_
   rw [show atI l (((j+1:Nat):Int) - 1)=l[j] from by rw [show ((j+1:Nat):Int) - 1=(j:Nat) by omega];exact bF l j (by omega)]
   cases h2:decide (l[j+1]≤l[j])
   ·refine kgo ?_
    exact aa (j+1+1) ⟨hlt,hok (by rw [show decide (l[j]<l[j+1])=true from decide_eq_true (by have:=of_decide_eq_false h2;omega)];simp)⟩ (by show _ - (j+1+1)<_ - (j+1);omega)
   rw [hbad (by rw [show decide (l[j]<l[j+1])=false from decide_eq_false (by have:=of_decide_eq_true h2;omega)];simp)]
   refine kgo ?_
   exact aj
 obtain rfl:i=l.length:=by omega
 rw [show iq a b l=true from hi.2]
 refine kgo ?_
 exact aj
theorem qJ (l:List Int) (b:Int) (hb:0≤b∧b≤1000000):FnD Tryz.prog 107 [DI l,.i b] (.d (.b (iq 0 (b - 1) l))):=by
 refine af Tryz.func107 (fun hw W0=>?_)
 have hl:=(wfM hw.1).1
 refine kgo ?_
 refine ai [0,1,7,8] (fun i:Nat=>i≤l.length∧(List.range i).all (kU 0 (b - 1) l)=true) (fun i=>l.length - i) (fun i=>[(9,.sy (.d (.i i)))]) 0 ⟨Nat.zero_le _,rfl⟩ (fun i hi=>?_)
 refine kgo ?_
 refine aJ (fun h=>?_) (fun h=>?_)
 ·have hlt:i<l.length:=by omega
  have hbad:=tH 0 (b - 1) l i hlt
  have hok:kU 0 (b - 1) l i=true→(List.range (i+1)).all (kU 0 (b - 1) l)=true:=fun e=>by rw [aI,hi.2,e];rfl
  rw [tW 0 (b - 1) l i hlt] at hbad hok
  have f1:=dC l[i] 0 (b - 1)
  refine kgo ?_
  cases h1:inR l[i] 0 (b - 1)
  ·rw [hbad (by rw [h1];rfl)]
   refine kgo ?_
   (repeat refine uu ?_)
   refine kgo ?_
   exact aj
  rw [h1] at hbad hok
  cases i with
  | zero=>
   refine kgo ?_
   exact aa 1 ⟨hlt,hok rfl⟩ (by show _ - 1<_ - 0;omega)
  | succ j=>
   rw [sD hlt] at hbad hok
   refine kgo ?_
   cases hg:decide ((0:Int)<((j+1:Nat):Int))
   ·exact absurd hg (by simp)
   refine kgo ?_
   rw [show atI l (((j+1:Nat):Int) - 1)=l[j] from by rw [show ((j+1:Nat):Int) - 1=(j:Nat) by omega];exact bF l j (by omega)]
   cases h2:decide (l[j+1]≤l[j])
   ·refine kgo ?_
    exact aa (j+1+1) ⟨hlt,hok (by rw [show decide (l[j]<l[j+1])=true from decide_eq_true (by have:=of_decide_eq_false h2;omega)];simp)⟩ (by show _ - (j+1+1)<_ - (j+1);omega)
   rw [hbad (by rw [show decide (l[j]<l[j+1])=false from decide_eq_false (by have:=of_decide_eq_true h2;omega)];simp)]
   refine kgo ?_
   exact aj
 obtain rfl:i=l.length:=by omega
 rw [show iq 0 (b - 1) l=true from hi.2]
 refine kgo ?_
 exact aj
theorem nw (sig:List Ctl) (l:List Int):FnD Tryz.prog 85 [.l 3 (sig.map Ctl.D),DI l] (.d (.b (iq 0 ((sig.length:Int) - 1) l))):=by
 have f1:=yA l 0 ((sig.length:Int) - 1)
 refine af Tryz.func85 (fun hw W0=>?_)
 have hl:=(wfM hw.1).1
 refine kgo ?_
 exact aj
attribute [local irreducible] iq
theorem Du (sig:List Ctl) (nest:List (List Int)):FnD Tryz.prog 86 [.l 3 (sig.map Ctl.D),.l 1 (nest.map DI)] (.d (.b (iT sig nest))):=by
 refine af Tryz.func86 (fun hw W0=>?_)
 have hl:=(wfM hw.1).1
 have hl2:=(wfM hw.2.1).1
 refine kgo ?_
 refine kp (fun h=>?_) (fun h=>?_)
 ·rw [show iT sig nest=false by unfold iT;rw [decide_eq_false (by omega)];rfl]
  refine kgo ?_
  exact aj
 have hle:nest.length≤sig.length:=by omega
 have hall:iT sig nest=(List.range nest.length).all (kV sig nest):=by unfold iT;rw [decide_eq_true (by omega)];rfl
 clear h
 refine kgo ?_
 refine ai [0,1] (fun i:Nat=>i≤nest.length∧(List.range i).all (kV sig nest)=true) (fun i=>nest.length - i) (fun i=>[(5,.sy (.d (.i i)))]) 0 ⟨Nat.zero_le _,rfl⟩ (fun i hi=>?_)
 refine kgo ?_
 refine aJ (fun h=>?_) (fun h=>?_)
 ·have hlt:i<nest.length:=by omega
  have hls:i<sig.length:=by omega
  have hbad:=Aj sig nest i hlt
  have hok:kV sig nest i=true→(List.range (i+1)).all (kV sig nest)=true:=fun e=>by rw [aI,hi.2,e];rfl
  rw [s6 sig nest i hls hlt] at hbad hok
  have f1:=nw sig nest[i]
  refine kgo ?_
  cases h1:iq 0 ((sig.length:Int) - 1) nest[i]
  ·rw [hbad (by rw [h1];rfl)]
   refine kgo ?_
   (repeat refine uu ?_)
   refine kgo ?_
   exact aj
  rw [h1] at hbad hok
  refine kgo ?_
  cases h2:decide ((sig[i]).kind=2)
  ·refine kgo ?_
   exact aa (i+1) ⟨hlt,hok (by rw [h2];rfl)⟩ (by show _ - (i+1)<_ - i;omega)
  rw [h2] at hbad hok
  refine kgo ?_
  refine aJ (fun h3=>?_) (fun h3=>?_)
  ·rw [hbad (by rw [decide_eq_true (by omega)];rfl)]
   refine kgo ?_
   exact aj
  refine kgo ?_
  exact aa (i+1) ⟨hlt,hok (by rw [decide_eq_false (by omega)];rfl)⟩ (by show _ - (i+1)<_ - i;omega)
 obtain rfl:i=nest.length:=by omega
 rw [hall,hi.2]
 refine kgo ?_
 exact aj
theorem A2 (sig:List Ctl) (nest:List (List Int)) (many:Int) (hm:0≤many∧many≤1000000):FnD Tryz.prog 87 [.l 3 (sig.map Ctl.D),.l 1 (nest.map DI),.i many] (.d (.b (fE sig nest many))):=by
 refine af Tryz.func87 (fun hw W0=>?_)
 have hl:=(wfM hw.1).1
 have hl2:=(wfM hw.2.1).1
 refine kgo ?_
 refine kp (fun h=>?_) (fun h=>?_)
 ·rw [show fE sig nest many=false by unfold fE;rw [decide_eq_false (by omega)];rfl]
  refine kgo ?_
  exact aj
 have hle:nest.length≤sig.length:=by omega
 have hall:fE sig nest many=(List.range nest.length).all (iQ sig nest many):=by unfold fE;rw [decide_eq_true (by omega)];rfl
 clear h
 refine kgo ?_
 refine ai [0,1,2] (fun i:Nat=>i≤nest.length∧(List.range i).all (iQ sig nest many)=true) (fun i=>nest.length - i) (fun i=>[(7,.sy (.d (.i i)))]) 0 ⟨Nat.zero_le _,rfl⟩ (fun i hi=>?_)
 refine kgo ?_
 refine aJ (fun h=>?_) (fun h=>?_)
 ·have hlt:i<nest.length:=by omega
  have hls:i<sig.length:=by omega
  have hbad:=zL sig nest many i hlt
  have hok:iQ sig nest many i=true→(List.range (i+1)).all (iQ sig nest many)=true:=fun e=>by rw [aI,hi.2,e];rfl
  rw [mN sig nest many i hls hlt] at hbad hok
  have hil:=(wfM ((wfM hw.2.1).2 _ (List.getElem_mem hlt))).1
  refine kgo ?_
  refine kp (fun h1=>?_) (fun h1=>?_)
  ·rw [hbad (by rw [decide_eq_false h1];rfl)]
   refine kgo ?_
   exact aj
  rw [decide_eq_true h1,Bool.true_and] at hbad hok
  clear h1
  refine kgo ?_
  refine ai [0,1,2,7] (fun j:Nat=>j≤(nest[i]).length∧((nest[i]).take j).all (fun x=>inR x 0 (many - 1))=true) (fun j=>(nest[i]).length - j) (fun j=>[(8,.sy (.d (.i j)))]) 0 ⟨Nat.zero_le _,rfl⟩ (fun j hj=>?_)
  refine kgo ?_
  refine aJ (fun h=>?_) (fun h=>?_)
  ·have hjl:j<(nest[i]).length:=by omega
   have f1:=iM (nest[i])[j] 0 (many - 1)
   refine kgo ?_
   cases h2:inR (nest[i])[j] 0 (many - 1)
   ·rw [hbad (oR _ _ j hjl h2)]
    refine kgo ?_
    exact aj
   refine kgo ?_
   exact aa (j+1) ⟨hjl,by rw [fA _ _ j hjl,hj.2,h2];rfl⟩ (by show _ - (j+1)<_ - j;omega)
  refine kgo ?_
  exact aa (i+1) ⟨hlt,hok (gh _ _ _ (by omega) hj.2)⟩ (by show _ - (i+1)<_ - i;omega)
 obtain rfl:i=nest.length:=by omega
 rw [hall,hi.2]
 refine kgo ?_
 exact aj
theorem yS (a b:Int × Int):FnD Tryz.prog 88 [cH a,cH b] (.d (.b (hZ a b))):=by
 refine af Tryz.func88 (fun hw W0=>?_)
 unfold hZ
 refine kgo ?_
 cases h:decide (a.1<b.1)
 ·refine kgo ?_
  cases h2:decide (a.1=b.1)
  ·refine kgo ?_
   exact aj
  refine kgo ?_
  exact aj
 refine kgo ?_
 (repeat refine uu ?_)
 refine kgo ?_
 exact aj
theorem pV (a b:Int × Int):FnD Tryz.prog 167 [cH a,cH b] (.d (.i (nG a b))):=⟨cB Tryz.func167,fun F w vs hv hF=>by
 obtain ⟨v1,t,rfl,h1,v2,t2,rfl,h2,h3⟩:=hv
 cases (show t2 = [] from h3)
 cases Av h1
 cases Av h2
 refine (lz a b w).mono ?_
 rintro e w' ⟨r,rfl,⟨_,rfl⟩,hX⟩
 exact ⟨_,rfl,hX,rfl,by unfold I64 nG;(repeat' split) <;> omega⟩⟩
section
variable {P:Program} {ops:Array Oper} {W0:cz} {N:Nat} {Fin:Us→Env→Prop} {os:List Oper} {us:Us} {pk fk:List Nat} {σ:Env} {g:Option (Nat × Bool)} {gk:List Nat} {d ty ty':Nat} {pos:String} {after:Array Edge}
theorem Jj {x y:Operand} {ty2:Nat} {s t:Sy} {n:Int} (h:∀X:Int,I64 X→(0≤n→X=n - 1)→Der P ops W0 N Fin os (us++[((d :: (gk++(kx x++kx y)))++pk,([d])++fk)]) [] [] ((d,.sy (.d (.i X))) :: σ)) (hb:I64 n) (hx:ev σ x=some s:=by rfl) (hy:ev σ y=some t:=by rfl) (hm:s.int? = some n:=by rfl) (hn:t.int? = some 1:=by rfl) (hg:gst ops σ g=some (true,gk):=by rfl) (hN:Nat.blt d N=true:=by rfl) (hs:aF σ d=true:=by rfl):Der P ops W0 N Fin (⟨some d,.binOp .sub ty' x y ty2,ty,pos,after,g⟩ :: os) us pk fk σ:=by
 unfold I64 at hb
 have hr:I64 (IntKind.i64.wrap (n - 1)):=by
  unfold I64 IntKind.wrap
  simp only [IntKind.bits,IntKind.signed]
  have:=Int.emod_nonneg (n - 1) (show (2:Int) ^ 64≠0 by decide)
  have:=Int.emod_lt_of_pos (n - 1) (show (0:Int)<2 ^ 64 by decide)
  have e1:(2:Int) ^ 64=18446744073709551616:=rfl
  have e2:(2:Int) ^ (64 - 1)=9223372036854775808:=rfl
  simp only [Bool.true_and,decide_eq_true_eq,e1,e2] at *
  split <;> constructor <;> omega
 refine cr (.d (.i (IntKind.i64.wrap (n - 1)))) (kx x++kx y) (fun σ' c a w hk hc=>by
  have h1:=df hm (ap hc (ah hx (fun κ hκ=>hk κ (by simp [hκ]))))
  have h2:=df hn (ap hc (ah hy (fun κ hκ=>hk κ (by simp [hκ]))))
  refine ⟨.int .i64 (IntKind.i64.wrap (n - 1)),?_,by simp [Sy.ok,DV,Rp];exact hr⟩
  simp only [execOp,h1,h2]
  rfl) (h _ hr (fun h0=>IntWalk.i64_in _ (by omega))) hg hN hs
end
theorem yo (l:List (Int × Int)) (many:Int) (hm:0≤many∧many≤1000000):FnD Tryz.prog 110 [.l 2 (l.map cH),.i many] (.d (.b (gg many l))):=by
 refine af Tryz.func110 (fun hw W0=>?_)
 have hl:=(wfM hw.1).1
 refine kgo ?_
 refine ai [0,1,7,8] (fun i:Nat=>i≤l.length∧(List.range i).all (kf many l)=true) (fun i=>l.length - i) (fun i=>[(9,.sy (.d (.i i)))]) 0 ⟨Nat.zero_le _,rfl⟩ (fun i hi=>?_)
 refine kgo ?_
 refine aJ (fun h=>?_) (fun h=>?_)
 ·have hlt:i<l.length:=by omega
  have hbad:=qv many l i hlt
  have hok:kf many l i=true→(List.range (i+1)).all (kf many l)=true:=fun e=>by rw [aI,hi.2,e];rfl
  rw [jM many l i hlt] at hbad hok
  have hI:=((wfM hw.1).2 _ (List.getElem_mem hlt)).2.1
  refine kgo ?_
  refine Jj (fun X hX1 hX2=>?_) hI
  have f1:=dC l[i].1 0 X
  have f2:=dC l[i].2 0 (many - 1)
  rw [← IK l[i].1 l[i].2 many X hX2] at hbad hok
  refine kgo ?_
  cases h1:inR l[i].1 0 X
  ·rw [hbad (by rw [h1];rfl)]
   refine kgo ?_
   (repeat refine uu ?_)
   refine kgo ?_
   exact aj
  rw [h1,Bool.true_and] at hbad hok
  refine kgo ?_
  cases h2:inR l[i].2 0 (many - 1)
  ·rw [hbad (by rw [h2];rfl)]
   refine kgo ?_
   (repeat refine uu ?_)
   refine kgo ?_
   exact aj
  rw [h2,Bool.true_and] at hbad hok
  cases i with
  | zero=>
   refine kgo ?_
   exact aa 1 ⟨hlt,hok rfl⟩ (by show _ - 1<_ - 0;omega)
  | succ j=>
   have hgd:l.getD (j+1 - 1) (0,0)=l[j]:=by rw [List.getD_eq_getElem?_getD,Nat.add_sub_cancel,List.getElem?_eq_getElem (by omega)];rfl
   rw [hgd] at hbad hok
   have hge:=D5 l[j] l[j+1]
   have f3:=pV l[j] l[j+1]
   refine kgo ?_
   cases hg:decide ((0:Int)<((j+1:Nat):Int))
   ·exact absurd hg (by simp)
   refine kgo ?_
   refine cS (n:=j) (fun _=>?_) rfl rfl (congrArg some (show ((j+1:Nat):Int) - 1=j by omega))
   refine kgo ?_
   cases h3:hZ l[j] l[j+1]
   ·rw [h3] at hbad hge
    rw [hge,hbad (by simp)]
    refine kgo ?_
    exact aj
   rw [h3] at hok hge
   rw [hge]
   refine kgo ?_
   exact aa (j+1+1) ⟨hlt,hok (by simp)⟩ (by show _ - (j+1+1)<_ - (j+1);omega)
 obtain rfl:i=l.length:=by omega
 rw [show gg many l=true from hi.2]
 refine kgo ?_
 exact aj
theorem sw (x:Int):FnD Tryz.prog 109 [.i x] (.d (.b (!(inR x 0 24)))):=by
 have f1:=dC x 0 24
 refine af Tryz.func109 (fun hw W0=>?_)
 refine kgo ?_
 exact aj
theorem sM (s:Srt) (x:Int) (h:s.most.length≤1000):FnD Tryz.prog 111 [.i x,.p s.D] (.d (.b (!(inR x 0 ((s.most.length:Int) - 1))))):=by
 have f1:=dC x 0 ((s.most.length:Int) - 1)
 refine af Tryz.func111 (fun hw W0=>?_)
 refine kgo ?_
 exact aj
attribute [local irreducible] gg iT fE iX
theorem vC (sig:List Ctl) (s:Srt):FnD Tryz.prog 60 [.l 3 (sig.map Ctl.D),s.D] (.d (.b (gm sig s))):=by
 have f1:=mo sig
 refine af Tryz.func60 (fun hw W0=>?_)
 have hsl:=(wfM hw.1).1
 have hn1:=(wfM hw.2.1.2.1).1
 have hn2:=(wfM hw.2.1.2.2.1).1
 refine kgo ?_
 cases h1:iR sig
 ·rw [jj (.inl h1)]
  refine kgo ?_
  exact aj
 have hs6:=EA h1
 have f2:=qJ s.tops sig.length (by omega)
 refine kgo ?_
 cases h2:iq 0 ((sig.length:Int) - 1) s.tops
 ·rw [jj (.inr (.inl h2))]
  refine kgo ?_
  exact aj
 refine kgo ?_
 cases h3:(!(decide ((s.nest.length:Int)=(sig.length:Int))))
 rotate_left
 ·rw [jj (.inr (.inr (.inl (by simpa using h3))))]
  refine kgo ?_
  exact aj
 have h3:(s.nest.length:Int)=(sig.length:Int):=by simpa using h3
 refine kgo ?_
 refine kp (fun h4=>?_) (fun h4=>?_)
 ·rw [jj (.inr (.inr (.inr (.inl h4))))]
  refine kgo ?_
  exact aj
 have f3:=dC s.most.length 1 4
 have f4:=cF s.most 109 [] (fun x=>!(inR x 0 24)) rfl (fun x _=>sw x)
 rw [DF] at f4
 refine kgo ?_
 cases h5:inR (s.most.length:Int) 1 4
 ·rw [jj (.inr (.inr (.inr (.inr (.inl h5)))))]
  refine kgo ?_
  exact aj
 have hm4:=bB h5
 have f5:=yo s.apart s.most.length (by omega)
 refine kgo ?_
 cases h6:s.most.all iX
 ·rw [jj (.inr (.inr (.inr (.inr (.inr (.inl h6))))))]
  refine kgo ?_
  exact aj
 refine kgo ?_
 cases h7:gg (s.most.length:Int) s.apart
 ·rw [jj (.inr (.inr (.inr (.inr (.inr (.inr h7))))))]
  refine kgo ?_
  exact aj
 refine kgo ?_
 refine BW 3 s.D ?_
 refine ai [0,3,53,54] (fun i:Nat=>i≤sig.length∧(List.range i).all (nz sig s)=true) (fun i=>sig.length - i) (fun i=>[(55,.sy (.d (.i i)))]) 0 ⟨Nat.zero_le _,rfl⟩ (fun i hi=>?_)
 refine kgo ?_
 refine aJ (fun h=>?_) (fun h=>?_)
 ·have hlt:i<sig.length:=by omega
  have hln:i<s.nest.length:=by omega
  have hls:i<s.sorts.length:=by omega
  have hbad:=AI sig s h3 h4 i hlt
  have hok:nz sig s i=true→(List.range (i+1)).all (nz sig s)=true:=fun e=>by rw [aI,hi.2,e];rfl
  rw [B7 sig s i hlt hln hls] at hbad hok
  have g1:=qJ s.nest[i] sig.length (by omega)
  have g2:=cF s.sorts[i] 111 [.p s.D] (fun x=>!(inR x 0 ((s.most.length:Int) - 1))) rfl (fun x _=>sM s x (by omega))
  have hil:=(wfM ((wfM hw.2.1.2.1).2 _ (List.getElem_mem hln))).1
  have hil2:=(wfM ((wfM hw.2.1.2.2.1).2 _ (List.getElem_mem hls))).1
  refine kgo ?_
  cases e1:iq 0 ((sig.length:Int) - 1) s.nest[i]
  ·rw [hbad (by rw [e1];rfl)]
   refine kgo ?_
   (repeat refine uu ?_)
   refine kgo ?_
   exact aj
  rw [e1,Bool.true_and] at hbad hok
  refine kgo ?_
  cases e2:decide (sig[i].kind=2)
  ·rw [e2,Bool.false_and,Bool.not_false,Bool.true_and] at hbad hok
   refine kgo ?_
   (repeat refine uu ?_)
   refine kgo ?_
   cases e4:(!(decide (((s.sorts[i]).length:Int)=sig[i].ports)))
   rotate_left
   ·rw [hbad (by rw [show decide (((s.sorts[i]).length:Int)=sig[i].ports)=false by simpa using e4];rfl)]
    refine kgo ?_
    exact aj
   rw [show decide (((s.sorts[i]).length:Int)=sig[i].ports)=true by simpa using e4,Bool.true_and] at hbad hok
   refine kgo ?_
   refine cIf (fun e5=>?_) (fun e5=>?_)
   ·rw [hbad (by rw [e5];rfl)]
    refine kgo ?_
    exact aj
   refine kgo ?_
   exact aa (i+1) ⟨hlt,hok (by rw [e5];rfl)⟩ (by show _ - (i+1)<_ - i;omega)
  refine kgo ?_
  cases e3:decide ((0:Int)<((s.nest[i]).length:Int))
  rotate_left
  ·rw [hbad (by rw [e2,decide_eq_true (by have:=of_decide_eq_true e3;omega)];rfl)]
   refine kgo ?_
   (repeat refine uu ?_)
   refine kgo ?_
   exact aj
  rw [e2,decide_eq_false (by have:=of_decide_eq_false e3;omega),Bool.true_and,Bool.not_false,Bool.true_and] at hbad hok
  refine kgo ?_
  cases e4:(!(decide (((s.sorts[i]).length:Int)=sig[i].ports)))
  rotate_left
  ·rw [hbad (by rw [show decide (((s.sorts[i]).length:Int)=sig[i].ports)=false by simpa using e4];rfl)]
   refine kgo ?_
   exact aj
  rw [show decide (((s.sorts[i]).length:Int)=sig[i].ports)=true by simpa using e4,Bool.true_and] at hbad hok
  refine kgo ?_
  refine cIf (fun e5=>?_) (fun e5=>?_)
  ·rw [hbad (by rw [e5];rfl)]
   refine kgo ?_
   exact aj
  refine kgo ?_
  exact aa (i+1) ⟨hlt,hok (by rw [e5];rfl)⟩ (by show _ - (i+1)<_ - i;omega)
 obtain rfl:i=sig.length:=by omega
 rw [zM h3 h4 h1 h2 h5 h6 h7 hi.2]
 refine kgo ?_
 exact aj
theorem C7 (sig:List Ctl) (s:Srt):FnD Tryz.prog 44 [.l 3 (sig.map Ctl.D),s.D] (.d (.b (gm sig s))):=by
 have f1:=wq sig
 have f2:=nw sig s.tops
 have f3:=Du sig s.nest
 have f4:=iM s.most.length 1 4
 refine af Tryz.func44 (fun hw W0=>?_)
 have hsl:=(wfM hw.1).1
 have hml:=(wfM hw.2.1.2.2.2.1).1
 have hal:=(wfM hw.2.1.2.2.2.2.1).1
 unfold gm
 refine kgo ?_
 cases h1:iR sig
 ·refine kgo ?_
  exact aj
 refine kgo ?_
 cases h2:iq 0 ((sig.length:Int) - 1) s.tops
 ·refine kgo ?_
  exact aj
 refine kgo ?_
 cases h3:iT sig s.nest
 ·refine kgo ?_
  exact aj
 refine kgo ?_
 cases h4:inR (s.most.length:Int) 1 4
 ·rw [Bool.false_and,Bool.and_false]
  refine kgo ?_
  exact aj
 have hm4:=bB h4
 have f5:=A2 sig s.sorts s.most.length (by omega)
 refine kgo ?_
 cases h5:fE sig s.sorts (s.most.length:Int)
 ·refine kgo ?_
  exact aj
 simp only [Bool.true_and]
 refine kgo ?_
 refine ai [3] (fun i:Nat=>i≤s.most.length∧(s.most.take i).all iX=true) (fun i=>s.most.length - i) (fun i=>[(5,.sy (.d (.i i)))]) 0 ⟨Nat.zero_le _,rfl⟩ (fun i hi=>?_)
 refine kgo ?_
 refine aJ (fun h=>?_) (fun h=>?_)
 ·have hlt:i<s.most.length:=by omega
  have f6:=iM s.most[i] 0 24
  have hmo:iX s.most[i]=inR s.most[i] 0 24:=by unfold iX;rfl
  rw [← hmo] at f6
  refine kgo ?_
  cases h6:iX s.most[i]
  ·rw [oR _ _ i hlt h6]
   refine kgo ?_
   exact aj
  refine kgo ?_
  exact aa (i+1) ⟨hlt,by rw [fA _ _ i hlt,hi.2,h6];rfl⟩ (by show _ - (i+1)<_ - i;omega)
 rw [gh _ _ _ (by omega) hi.2,Bool.true_and]
 refine kgo ?_
 refine ai [3] (fun i:Nat=>i≤s.apart.length∧(List.range i).all (kf (s.most.length:Int) s.apart)=true) (fun i=>s.apart.length - i) (fun i=>[(6,.sy (.d (.i i)))]) 0 ⟨Nat.zero_le _,rfl⟩ (fun i hi=>?_)
 refine kgo ?_
 refine aJ (fun h=>?_) (fun h=>?_)
 ·have hlt:i<s.apart.length:=by omega
  have hbad:=qv (s.most.length:Int) s.apart i hlt
  have hok:kf (s.most.length:Int) s.apart i=true→(List.range (i+1)).all (kf (s.most.length:Int) s.apart)=true:=fun e=>by rw [aI,hi.2,e];rfl
  rw [jM (s.most.length:Int) s.apart i hlt] at hbad hok
  refine kgo ?_
  cases e1:decide ((s.apart[i]).1<0)
  rotate_left
  ·rw [hbad (by rw [decide_eq_false (by have:=of_decide_eq_true e1;omega)];rfl)]
   refine kgo ?_
   (repeat refine uu ?_)
   refine kgo ?_
   exact aj
  rw [show decide (0≤(s.apart[i]).1)=true from decide_eq_true (by have:=of_decide_eq_false e1;omega),Bool.true_and] at hbad hok
  refine kgo ?_
  cases e2:decide ((s.apart[i]).2≤(s.apart[i]).1)
  rotate_left
  ·rw [hbad (by rw [decide_eq_false (by have:=of_decide_eq_true e2;omega)];rfl)]
   refine kgo ?_
   (repeat refine uu ?_)
   refine kgo ?_
   exact aj
  rw [show decide ((s.apart[i]).1<(s.apart[i]).2)=true from decide_eq_true (by have:=of_decide_eq_false e2;omega),Bool.true_and] at hbad hok
  refine kgo ?_
  cases e3:decide ((s.most.length:Int)≤(s.apart[i]).2)
  rotate_left
  ·rw [hbad (by rw [decide_eq_false (by have:=of_decide_eq_true e3;omega)];rfl)]
   refine kgo ?_
   (repeat refine uu ?_)
   refine kgo ?_
   exact aj
  rw [show decide ((s.apart[i]).2<(s.most.length:Int))=true from decide_eq_true (by have:=of_decide_eq_false e3;omega),Bool.true_and] at hbad hok
  cases i with
  | zero=>
   refine kgo ?_
   exact aa 1 ⟨hlt,hok rfl⟩ (by show _ - 1<_ - 0;omega)
  | succ j=>
   have hgd:s.apart.getD (j+1 - 1) (0,0)=s.apart[j]:=by rw [List.getD_eq_getElem?_getD,Nat.add_sub_cancel,List.getElem?_eq_getElem (by omega)];rfl
   rw [hgd] at hbad hok
   have f7:=yS s.apart[j] s.apart[j+1]
   refine kgo ?_
   cases hg:decide ((0:Int)<((j+1:Nat):Int))
   ·exact absurd hg (by simp)
   refine kgo ?_
   refine cS (n:=j) (fun _=>?_) rfl rfl (congrArg some (show ((j+1:Nat):Int) - 1=j by omega))
   refine kgo ?_
   cases h3:hZ s.apart[j] s.apart[j+1]
   ·rw [hbad (by rw [h3];simp)]
    refine kgo ?_
    exact aj
   refine kgo ?_
   exact aa (j+1+1) ⟨hlt,hok (by rw [h3];simp)⟩ (by show _ - (j+1+1)<_ - (j+1);omega)
 obtain rfl:i=s.apart.length:=by omega
 rw [show gg (s.most.length:Int) s.apart=true by unfold gg;exact hi.2]
 refine kgo ?_
 exact aj
end Go.Proofs.YtnobdioccfeokaaGreatDoor
namespace Go.Proofs.YtnobdioccfeokaaGreatDoor
open Go.RowKit
set_option linter.unusedVariables false
set_option maxRecDepth 100000
set_option maxHeartbeats 4000000
attribute [local irreducible] ar Der At
theorem sY (m:Mat) (x:Int):FnD Tryz.prog 266 [.i x,.p m.D] (.d (.b (!fp m.nodes x))):=by
 refine af Tryz.func266 (fun hw W0=>?_)
 have f1:=fc m.nodes x
 refine kgo ?_
 exact aj
theorem zI (r a:Big) (m:Mat) (i:Nat) (h:i<m.nodes.length) (hr:i<r.nodes.length) (k:Nat) (hk:m.nodes[i]=(k:Int)) (hka:k<a.nodes.length):gu r a m i=(decide ((a.nodes[k]).control=(r.nodes[i]).control) && (decide ((a.nodes[k]).parent=if 0≤(r.nodes[i]).parent then atI m.nodes (r.nodes[i]).parent else atI m.roots (-1 - (r.nodes[i]).parent)) && (!(decide ((cC r i).length=0)) || (dJ a m.nodes[i]).all (fp m.nodes)))):=by
 unfold gu vz k8
 rw [xj r a m i h hr k hk hka,bF _ i h,hk,aB a k hka,aB r i hr]
theorem wn {sig:List Ctl} {r a:Big} (m:Mat) (hbr:aH sig r=true) (dr:wy r) (da:wy a) (hid:(List.range m.nodes.length).all (uz a m.nodes)=true) (hlen:m.nodes.length=r.nodes.length) (hrs:(m.roots.length:Int)=r.roots):FnD Tryz.prog 241 [r.D,a.D,m.D] (.d (.b ((List.range m.nodes.length).all (gu r a m)))):=by
 have hdr:=bl hbr
 refine af Tryz.func241 (fun hw W0=>?_)
 refine kgo ?_
 refine BW 5 m.D ?_
 refine ai [3,4,5,16,17] (fun i:Nat=>i≤m.nodes.length∧(List.range i).all (gu r a m)=true) (fun i=>m.nodes.length - i) (fun i=>[(18,.sy (.d (.i i)))]) 0 ⟨Nat.zero_le _,rfl⟩ (fun i hi=>?_)
 refine kgo ?_
 refine aJ (fun h2=>?_) (fun h2=>?_)
 ·have hlr:i<r.nodes.length:=by omega
  have hlt:i<m.nodes.length:=by omega
  obtain ⟨k,hka,hk0⟩:=Ik hid i hlt
  rw [bF _ i hlt] at hk0
  have hok:=zI r a m i hlt hlr k hk0 hka
  have hup:=iE hbr i hlr
  have f1:=iy r i dr.3 dr.4
  have f2:=iy a m.nodes[i] da.3 da.4
  have f3:=cF (dJ a m.nodes[i]) 266 [.p m.D] (fun x=>!fp m.nodes x) rfl (fun x _=>sY m x)
  have hk1:=lG r i
  have hk2:=rW a m.nodes[i]
  have hrn:=dr.4
  have bad:gu r a m i=false→(List.range m.nodes.length).all (gu r a m)=false:=fun h=>aG _ _ i hlt h
  have good:gu r a m i=true→(List.range (i+1)).all (gu r a m)=true:=fun h=>by rw [cL,hi.2,h];rfl
  refine kgo ?_
  refine cS (n:=k) (fun _=>?_) rfl rfl (congrArg some hk0)
  refine kgo ?_
  refine aJ (fun h3=>?_) (fun h3=>?_)
  ·rw [if_pos h3] at hok
   have hx:(r.nodes[i]).parent<m.nodes.length:=by omega
   refine kgo ?_
   cases h4:decide ((a.nodes[k]).control=(r.nodes[i]).control)
   ·rw [h4] at hok
    refine kgo ?_
    rw [bad hok]
    exact aj
   rw [h4,Bool.true_and] at hok
   refine kgo ?_
   refine kp (fun h5=>?_) (fun h5=>?_)
   ·rw [decide_eq_false h5] at hok
    refine kgo ?_
    rw [bad hok]
    exact aj
   rw [decide_eq_true h5,Bool.true_and] at hok
   refine kgo ?_
   refine aJ (fun h6=>?_) (fun h6=>?_)
   ·rw [decide_eq_false (by omega)] at hok
    refine kgo ?_
    exact aa (i+1) ⟨hlt,good hok⟩ (by omega)
   rw [decide_eq_true (by omega),Bool.not_true,Bool.false_or] at hok
   refine kgo ?_
   refine cIf (fun h7=>?_) (fun h7=>?_)
   ·rw [ig,Bool.not_eq_true'] at h7
    rw [h7] at hok
    refine kgo ?_
    rw [bad hok]
    exact aj
   ·rw [ig,Bool.not_eq_false'] at h7
    rw [h7] at hok
    refine kgo ?_
    exact aa (i+1) ⟨hlt,good hok⟩ (by omega)
  ·rw [if_neg h3] at hok
   have hx : -1 - (r.nodes[i]).parent<m.roots.length:=by omega
   refine kgo ?_
   cases h4:decide ((a.nodes[k]).control=(r.nodes[i]).control)
   ·rw [h4] at hok
    refine kgo ?_
    rw [bad hok]
    exact aj
   rw [h4,Bool.true_and] at hok
   refine kgo ?_
   refine kp (fun h5=>?_) (fun h5=>?_)
   ·rw [decide_eq_false h5] at hok
    refine kgo ?_
    rw [bad hok]
    exact aj
   rw [decide_eq_true h5,Bool.true_and] at hok
   refine kgo ?_
   refine aJ (fun h6=>?_) (fun h6=>?_)
   ·rw [decide_eq_false (by omega)] at hok
    refine kgo ?_
    exact aa (i+1) ⟨hlt,good hok⟩ (by omega)
   rw [decide_eq_true (by omega),Bool.not_true,Bool.false_or] at hok
   refine kgo ?_
   refine cIf (fun h7=>?_) (fun h7=>?_)
   ·rw [ig,Bool.not_eq_true'] at h7
    rw [h7] at hok
    refine kgo ?_
    rw [bad hok]
    exact aj
   ·rw [ig,Bool.not_eq_false'] at h7
    rw [h7] at hok
    refine kgo ?_
    exact aa (i+1) ⟨hlt,good hok⟩ (by omega)
 refine kgo ?_
 rw [fC _ _ i (by omega) hi.1 hi.2]
 exact aj
theorem EO (x:Int) (n:Nat) (hn:n≤1000) (hx:I64 x):FnD Tryz.prog 244 [DI [x],.i n] (.row 1 3 ((List.replicate n x).map .i)):=⟨cB Tryz.func244,fun F w vs hv hF=>by
 obtain ⟨v1,t,rfl,h1,v2,t2,rfl,h2,h3⟩:=hv
 cases (show t2 = [] from h3)
 cases (show v2=.int .i64 n from by simpa [DV,Rp] using h2.1)
 refine (ji _ _ _ x n w (Gh.toV (by decide) h1) hn).mono ?_
 rintro e w' ⟨g,rfl,hg,hr,hX⟩
 refine ⟨_,rfl,hX,.inr ⟨(List.replicate n x).map (Value.int .i64),?_,fun j hj=>⟨[.int .i64 x],rfl,?_,fun t u ht=>?_⟩⟩⟩
 ·refine ⟨by simp,.inr ⟨g,n,((List.replicate n x).map (Value.int .i64)).toArray,by simp,hg,hr,by simp,?_,by simp,by simp⟩⟩
  unfold maxLen;omega
 ·rw [List.getElem_map,List.getElem_replicate];exact ⟨rfl,hx⟩
 ·simp only [List.length_map,List.length_replicate] at hj
  rcases t with _|t
  ·simp at ht
   subst ht
   simp [hj]
  ·simp at ht⟩
theorem nB {sig:List Ctl} {r a:Big} (ns:List Int) (hbr:aH sig r=true) (hba:aH sig a=true) (him:oK r a ns):FnD Tryz.prog 197 [r.D,a.D,DI ns] (.tp [DI (ot r a ns),.b (fX r a ns)]):=by
 have hdr:=bl hbr
 have hda:=bl hba
 have dr:=bw hbr
 have da:=bw hba
 have hlr:r.edges+(r.outer.length:Int)=(ak r:Nat):=by unfold ak;omega
 have hlb:ak r≤1000:=by unfold ak;omega
 obtain ⟨E,hE⟩:=Int.eq_ofNat_of_zero_le hdr.2.2.2.1.1
 have f0:FnD Tryz.prog 244 [DI [-1],.i (r.edges+(r.outer.length:Int))] (.row 1 3 ((List.replicate (ak r) (-1)).map .i)):=by rw [hlr];exact EO (-1) _ hlb (by unfold I64;omega)
 have hz:(List.replicate (ak r) (-1)).map D.i=(iF r a ns 0 0).map D.i:=by rw [yV]
 have hlen:=him.len
 refine af Tryz.func197 (fun hw W0=>?_)
 repeat (first|(refine ca ?_;first|refine aM ?_|refine b6 ?_|refine aR ?_|refine bh ?_|refine aL ?_|refine bg ?_|refine aX ?_|refine az ?_|refine aV ?_)|(refine eG ?_;first|refine bH ?_|refine eC ?_|refine bP ?_|refine cb ?_)|(refine eT ?_;first|refine cS (fun _=>?_)|refine cd ?_|refine bR ?_|refine b9 ?_|refine bu ?_|refine bJ ?_|refine b8 ?_)|(refine eR ?_;first|refine ch ?_|refine d7 ?_|refine b7 ?_|refine bD ?_|refine bN ?_|refine bX ?_|refine bS ?_)|(refine eK ?_;first|refine eF ?_|refine eA ?_|refine bU ?_|refine bG ?_|refine eH ?_|refine bd ?_|refine bc ?_)|(refine bV ?_;first|refine ba ?_|refine bT ?_)|(refine eV ?_;first|refine bI ?_|refine bQ ?_|refine eJ ?_)|(refine bL ?_;first|refine bO ?_|refine aS ?_|refine aN ?_|refine aW ?_|refine aQ ?_|refine aY ?_)|(refine eE ?_;first|refine bZ ?_|refine eB ?_|refine be ?_|refine aP ?_|refine aU ?_)|(refine aK ?_;first|refine aq _ ?_|refine bf ?_|refine aw ?_|refine au ?_|refine ax ?_)|(refine eP ?_;first|refine bW ?_|refine bE ?_|refine bM ?_)|(refine gOp ?_;first|refine eD ?_|refine eM ?_|refine aZ ?_|refine eU ?_|refine eN ?_|refine bK ?_|refine aO ?_|refine cf ?_|refine eO ?_|refine bC ?_|refine bY ?_|refine aT ?_|refine sFz 19 ?_|refine ay ?_|refine cg ?_|refine sNo ?_|refine dU ?_|refine av ?_)|refine dY ?_|refine dq ?_|refine fj ?_|refine bj ?_|refine ci ?_|refine br ?_|refine fm ?_|refine fl ?_|refine eX ?_|refine dB ?_|refine ck ?_|refine bo ?_|refine aA ?_|refine bk ?_|refine ct ?_|refine bt ?_|refine aBlkX ?_|refine cm ?_|refine sFz 19 ?_)
 refine ai [2,3,4,8,28,29] (fun k:Nat=>k≤r.nodes.length∧gV r a ns k 0) (fun k=>r.nodes.length - k) (fun k=>[(10026,.tk (.row 1 3 ((iF r a ns k 0).map .i))),(30,.sy (.d (.i k)))]) 0 ⟨Nat.zero_le _,x6 r a ns⟩ (fun k hk=>?_)
 refine kgo ?_
 refine aJ (fun h=>?_) (fun h=>?_)
 ·have hkr:k<r.nodes.length:=by omega
  have hkn:k<ns.length:=by omega
  have hlinks:=(e9 hbr k hkr).2.2.2.2
  have hll:=dr.7 k hkr
  refine kgo ?_
  refine ai [2,3,4,8,9,28,29,30,36,37] (fun i:Nat=>i≤(r.nodes[k]).links.length∧gV r a ns k i) (fun i=>(r.nodes[k]).links.length - i) (fun i=>[(10026,.tk (.row 1 3 ((iF r a ns k i).map .i))),(38,.sy (.d (.i i)))]) 0 ⟨Nat.zero_le _,hk.2⟩ (fun i hi=>?_)
  refine kgo ?_
  refine aJ (fun h2=>?_) (fun h2=>?_)
  ·have hil:i<(r.nodes[k]).links.length:=by omega
   obtain ⟨mm,hmm,hml,e1,e2⟩:=him.img hbr hba hkr hil
   rw [bF _ k hkn] at e1
   obtain ⟨ll,hl,hlN⟩:=iC (hlinks _ (List.getElem_mem hil))
   have hol:=Bu r a ns k i
   have hlo:ll<(iF r a ns k i).length:=by omega
   have hat:=nX r a ns k i ll hlo
   have hpos:=him.up_pos hbr hba (l:=ll) hkr (show i≤(r.nodes[k]).links.length by omega)
   refine kgo ?_
   refine cS (n:=mm) (fun _=>?_) rfl rfl (congrArg some e1)
   rw [hl]
   refine kgo ?_
   rw [hat,← e2]
   have stp:=yn (ns:=ns) hkr hil hl hlN hi.2
   cases h3:decide (0≤jr a ns (bm r ll k i))
   ·have h3:=of_decide_eq_false h3
    obtain ⟨q1,q2⟩:=stp (.inl (by omega)) hpos
    refine kgo ?_
    rw [← q1]
    exact aa (i+1) ⟨hil,q2⟩ (by omega)
   have h3:=of_decide_eq_true h3
   refine kgo ?_
   rw [hat]
   refine kp (fun h4=>?_) (fun h4=>?_)
   ·have hb:=kD hlN (yO hkr hil hl h3 h4)
    rw [lW hb,hb]
    refine kgo ?_
    exact iS
   ·obtain ⟨q1,q2⟩:=stp (.inr h4) hpos
    refine kgo ?_
    rw [← q1]
    exact aa (i+1) ⟨hil,q2⟩ (by omega)
  have hie:i=(r.nodes[k]).links.length:=by omega
  have hs:(iF r a ns (k+1) 0).map D.i=(iF r a ns k i).map D.i:=by rw [yt r a ns k hkr,hie]
  refine kgo ?_
  exact aa (k+1) ⟨hkr,zc hkr (by rw [← hie];exact hi.2)⟩ (by omega)
 have hke:k=r.nodes.length:=by omega
 have hag:gV r a ns r.nodes.length 0:=by rw [← hke];exact hk.2
 rw [hke,Ad]
 have hil:(bi r a ns).length=ak r:=by unfold bi;simp
 refine kgo ?_
 refine ai [3,4,8,75] (fun e:Nat=>e≤E∧(List.range e).all (ic r a ns)=true) (fun e=>E - e) (fun e=>[(76,.sy (.d (.i e)))]) 0 ⟨Nat.zero_le _,rfl⟩ (fun e he=>?_)
 refine kgo ?_
 refine aJ (fun h2=>?_) (fun h2=>?_)
 ·have heE:e<E:=by omega
  have hel:e<ak r:=by omega
  have hei:e<(bi r a ns).length:=by omega
  have hia:(bi r a ns)[e]=mC r a ns e:=by simp [bi]
  have f1:=ky r e dr.3 dr.7 (by omega)
  have f2:=ky a (bi r a ns)[e] da.3 da.7 (by omega)
  have hla:=EK hag e hel (by omega)
  have hp1:=di r e dr.3 dr.7
  have hp2:=di a (bi r a ns)[e] da.3 da.7
  rw [← hia] at hla
  refine kgo ?_
  cases h3:decide (a.edges≤(bi r a ns)[e])
  ·have h3:=of_decide_eq_false h3
   rw [decide_eq_true (show (bi r a ns)[e]<a.edges by omega),Bool.true_and] at hla
   refine kgo ?_
   refine kp (fun h4=>?_) (fun h4=>?_)
   ·rw [decide_eq_false (by omega)] at hla
    have hb:=kD hel hla
    rw [lW hb,hb]
    refine kgo ?_
    exact iS
   ·rw [decide_eq_true (by omega)] at hla
    refine kgo ?_
    exact aa (e+1) ⟨heE,by rw [cL,he.2,hla];rfl⟩ (by omega)
  ·have h3:=of_decide_eq_true h3
   rw [decide_eq_false (show ¬(bi r a ns)[e]<a.edges by omega),Bool.false_and] at hla
   have hb:=kD hel hla
   rw [lW hb,hb]
   refine kgo ?_
   exact iS
 have hb:fX r a ns=true:=Bg hag (fun l h1 _=>(aC _ _).1 he.2 l (by omega))
 rw [kr hb,hb]
 repeat (first|(refine ca ?_;first|refine aM ?_|refine b6 ?_|refine aR ?_|refine bh ?_|refine aL ?_|refine bg ?_|refine aX ?_|refine az ?_|refine aV ?_)|(refine eG ?_;first|refine bH ?_|refine eC ?_|refine bP ?_|refine cb ?_)|(refine eT ?_;first|refine cS (fun _=>?_)|refine cd ?_|refine bR ?_|refine b9 ?_|refine bu ?_|refine bJ ?_|refine b8 ?_)|(refine eR ?_;first|refine ch ?_|refine d7 ?_|refine b7 ?_|refine bD ?_|refine bN ?_|refine bX ?_|refine bS ?_)|(refine eK ?_;first|refine eF ?_|refine eA ?_|refine bU ?_|refine bG ?_|refine eH ?_|refine bd ?_|refine bc ?_)|(refine bV ?_;first|refine cD (d:=6) ?_|refine ba ?_|refine bT ?_)|(refine eV ?_;first|refine dL (d:=6) ?_|refine bI ?_|refine bQ ?_|refine eJ ?_)|(refine bL ?_;first|refine bO ?_|refine aS ?_|refine aN ?_|refine aW ?_|refine aQ ?_|refine aY ?_)|(refine eE ?_;first|refine bZ ?_|refine eB ?_|refine be ?_|refine aP ?_|refine aU ?_)|(refine aK ?_;first|refine aq _ ?_|refine bf ?_|refine aw ?_|refine au ?_|refine ax ?_)|(refine eP ?_;first|refine bW ?_|refine bE ?_|refine bM ?_)|(refine gOp ?_;first|refine eD ?_|refine eM ?_|refine aZ ?_|refine eU ?_|refine eN ?_|refine bK ?_|refine aO ?_|refine cf ?_|refine eO ?_|refine bC ?_|refine bY ?_|refine aT ?_|refine ay ?_|refine cg ?_|refine sNo ?_|refine dU ?_|refine av ?_)|refine dY ?_|refine dq ?_|refine fj ?_|refine bj ?_|refine ci ?_|refine br ?_|refine fm ?_|refine fl ?_|refine eX ?_|refine dB ?_|refine ck ?_|refine bo ?_|refine aA ?_|refine bk ?_|refine ct ?_|refine bt ?_|refine aBlkX ?_|refine cm ?_)
 exact iS
theorem zJ {sig:List Ctl} {a:Big} (hba:aH sig a=true) (m:Mat) (x:Int):FnD Tryz.prog 240 [.i x,.p a.D,.p m.D] (.d (.b (!jN a m.nodes x))):=by
 have hda:=bl hba
 have da:=bw hba
 have hok:jN a m.nodes x=(inR x (-a.roots) (a.nodes.length - 1) && !il a m.nodes x):=rfl
 refine af Tryz.func240 (fun hw W0=>?_)
 have f1:=dC x (-a.roots) (a.nodes.length - 1)
 rw [hok]
 refine kgo ?_
 cases h:inR x (-a.roots) (a.nodes.length - 1)
 ·refine kgo ?_
  exact aj
 have f2:=lX hba m.nodes x (by have:=bB h;omega)
 rw [Bool.true_and,Bool.not_not]
 refine kgo ?_
 exact aj
theorem Cb {sig:List Ctl} {r a:Big} (m:Mat) (hbr:aH sig r=true) (hba:aH sig a=true):FnD Tryz.prog 194 [r.D,a.D,m.D] (.d (.b (er r a m))):=by
 have dr:=bw hbr
 have da:=bw hba
 have hrn:=dr.3
 have hr:=bB dr.1
 have hm:=zK r a m
 refine af Tryz.func194 (fun hw W0=>?_)
 have hmr:=(wfM hw.2.2.1.2.1).1
 refine kgo ?_
 cases h1:decide ((m.nodes.length:Int)=r.nodes.length)
 ·have h1:=of_decide_eq_false h1
  rw [decide_eq_false (show ¬m.nodes.length=r.nodes.length by omega)] at hm
  rw [hm]
  refine kgo ?_
  exact aj
 have h1:=of_decide_eq_true h1
 have hlen:m.nodes.length=r.nodes.length:=by omega
 refine kgo ?_
 refine kp (fun h2=>?_) (fun h2=>?_)
 ·rw [decide_eq_false h2,Bool.and_false] at hm
  rw [hm]
  refine kgo ?_
  exact aj
 rw [decide_eq_true hlen,decide_eq_true h2,Bool.true_and,Bool.true_and] at hm
 refine kgo ?_
 refine BW 4 a.D ?_
 refine BW 5 m.D ?_
 refine ai [3,4,5,27,28] (fun i:Nat=>i≤m.nodes.length∧(List.range i).all (uz a m.nodes)=true) (fun i=>m.nodes.length - i) (fun i=>[(29,.sy (.d (.i i)))]) 0 ⟨Nat.zero_le _,rfl⟩ (fun i hi=>?_)
 refine kgo ?_
 refine aJ (fun h3=>?_) (fun h3=>?_)
 ·have hlt:i<m.nodes.length:=by omega
  have f1:=C4 a m.nodes[i] da.3
  have f2:=fc (m.nodes.take i) m.nodes[i]
  have hok:uz a m.nodes i=(inR m.nodes[i] 0 (a.nodes.length - 1) && !fp (m.nodes.take i) m.nodes[i]):=by unfold uz;rw [bF _ i hlt]
  have bad:uz a m.nodes i=false→er r a m=false:=fun h=>by rw [hm,aG _ _ i hlt h];rfl
  refine kgo ?_
  cases h4:inR m.nodes[i] 0 (a.nodes.length - 1)
  ·rw [h4] at hok
   refine kgo ?_
   rw [bad hok]
   exact aj
  rw [h4] at hok
  refine kgo ?_
  refine cIf (fun h5=>?_) (fun h5=>?_)
  ·rw [h5] at hok
   refine kgo ?_
   rw [bad hok]
   exact aj
  ·rw [h5] at hok
   refine kgo ?_
   exact aa (i+1) ⟨hlt,by rw [cL,hi.2,hok];rfl⟩ (by omega)
 have hid:(List.range m.nodes.length).all (uz a m.nodes)=true:=fC _ _ i (by omega) hi.1 hi.2
 rw [hid,Bool.true_and] at hm
 have f1:=cF m.roots 240 [.p a.D,.p m.D] (fun x=>!jN a m.nodes x) rfl (fun x _=>zJ hba m x)
 rw [ig] at f1
 refine kgo ?_
 refine cIf (fun h4=>?_) (fun h4=>?_)
 ·rw [Bool.not_eq_true'] at h4
  rw [h4] at hm
  rw [hm]
  refine kgo ?_
  exact aj
 rw [Bool.not_eq_false'] at h4
 rw [h4,Bool.true_and] at hm
 have f2:=wn m hbr dr da hid hlen h2
 refine kgo ?_
 refine cIf (fun h5=>?_) (fun h5=>?_)
 ·rw [Bool.not_eq_true'] at h5
  rw [h5] at hm
  rw [hm]
  refine kgo ?_
  exact aj
 rw [Bool.not_eq_false'] at h5
 rw [h5,Bool.true_and] at hm
 have f3:=nB m.nodes hbr hba (Da hid h5 hlen)
 refine kgo ?_
 rw [hm]
 exact aj
theorem uQ {sig:List Ctl} {a:Big} (hba:aH sig a=true) (ps:List Int) (x:Int) (hx:x<a.nodes.length):FnD Tryz.prog 124 [.i x,.p a.D,.p (DI ps)] (.d (.b (il a ps x))):=by
 refine af Tryz.func124 (fun hw W0=>?_)
 have f1:=lX hba ps x hx
 refine kgo ?_
 exact aj
theorem yr {sig:List Ctl} {a:Big} (hba:aH sig a=true) (m:Mat) (hx:∀p∈m.roots,p<(a.nodes.length:Int)):FnD Tryz.prog 68 [.l 3 (sig.map Ctl.D),a.D,m.D] (.d (.b (jV sig a m.roots))):=by
 have da:=bw hba
 have hn:=da.3
 refine af Tryz.func68 (fun hw W0=>?_)
 refine kgo ?_
 refine ai [0,4,5,7,12,13] (fun i:Nat=>i≤a.nodes.length) (fun i=>a.nodes.length - i) (fun i=>[(10007,.tk (.bx [.k 20001])),(20001,.tk (.row 1 3 ((idxOf (fun i=>sa sig a i) i).map .i))),(14,.sy (.d (.i i)))]) 0 (Nat.zero_le _) (fun i hi=>?_)
 refine kgo ?_
 refine aJ (fun h=>?_) (fun h=>?_)
 ·have hlt:i<a.nodes.length:=by omega
  obtain ⟨c0,c1,_⟩:=e9 hba i hlt
  obtain ⟨j,hj⟩:=Int.eq_ofNat_of_zero_le c0
  have hjl:j<sig.length:=by omega
  have hpf:sa sig a i=decide ((sig[j]).kind=1):=by unfold sa;rw [aB a i hlt,hj,iD sig j hjl]
  have hl:=dz (fun i=>sa sig a i) i
  refine kgo ?_
  refine cS (n:=j) (fun _=>?_) rfl rfl (congrArg some hj)
  refine kgo ?_
  refine aJ (fun h2=>?_) (fun h2=>?_)
  ·have hs:(idxOf (fun i=>sa sig a i) (i+1)).map D.i=(idxOf (fun i=>sa sig a i) i).map D.i++[.i i]:=by rw [dI (hpf.trans (decide_eq_true h2)),List.map_append];rfl
   refine kgo ?_
   exact aa (i+1) (by omega) (by omega)
  ·have hs:(idxOf (fun i=>sa sig a i) (i+1)).map D.i=(idxOf (fun i=>sa sig a i) i).map D.i:=by rw [eY (hpf.trans (decide_eq_false h2))]
   refine kgo ?_
   exact aa (i+1) (by omega) (by omega)
 have hin:∀p∈m.roots,il a (idxOf (fun i=>sa sig a i) i) p=kZ sig a p:=fun p hp=>by
  rw [show i=a.nodes.length by omega];exact D2 hba (hx p hp)
 have f1:=cF m.roots 124 [.p a.D,.p (DI (idxOf (fun i=>sa sig a i) i))] (fun x=>il a (idxOf (fun i=>sa sig a i) i) x) rfl (fun x hxm=>uQ hba _ x (hx x hxm))
 have hE:(!(m.roots.any fun x=>il a (idxOf (fun i=>sa sig a i) i) x))=jV sig a m.roots:=by
  unfold jV
  rw [Bool.eq_iff_iff]
  simp only [Bool.not_eq_true',List.any_eq_false,List.all_eq_true]
  exact ⟨fun h p hp=>by rw [← hin p hp];simpa using h p hp,fun h p hp=>by rw [hin p hp];have:=h p hp;simpa using this⟩
 rw [← hE]
 refine br (aA (aA (bt (bo ?_))))
 refine BW 4 a.D ?_
 refine pI 10007 0 ?_
 refine BW 7 (DI (idxOf (fun i=>sa sig a i) i)) ?_
 refine kgo ?_
 exact aj
end Go.Proofs.YtnobdioccfeokaaGreatDoor
namespace Go.Proofs.YtnobdioccfeokaaGreatDoor
open Go.RowKit
set_option linter.unusedVariables false
set_option maxRecDepth 100000
set_option maxHeartbeats 4000000
attribute [local irreducible] ar Der At
theorem Ea {sig:List Ctl} {a:Big} (m:Mat) (hba:aH sig a=true):FnD Tryz.prog 198 [a.D,m.D] (.d (DI (mY a m.nodes))):=by
 have da:=bw hba
 have hn:=da.3
 refine af Tryz.func198 (fun hw W0=>?_)
 refine kgo ?_
 refine ai [2,3,10] (fun i:Nat=>i≤a.nodes.length) (fun i=>a.nodes.length - i) (fun i=>[(5,.sy (.k 20001)),(20001,.tk (.row 1 3 ((idxOf (fun i=>!il a m.nodes i) i).map .i))),(11,.sy (.d (.i i)))]) 0 (Nat.zero_le _) (fun i hi=>?_)
 refine kgo ?_
 refine aJ (fun h=>?_) (fun h=>?_)
 ·have hlt:i<a.nodes.length:=by omega
  have f1:=lX hba m.nodes i (by omega)
  have hl:=dz (fun i=>!il a m.nodes i) i
  refine kgo ?_
  refine cIf (fun h2=>?_) (fun h2=>?_)
  ·have hs:(idxOf (fun i=>!il a m.nodes i) (i+1)).map D.i=(idxOf (fun i=>!il a m.nodes i) i).map D.i++[.i i]:=by rw [dI h2,List.map_append];rfl
   refine kgo ?_
   exact aa (i+1) (by omega) (by omega)
  ·have hs:(idxOf (fun i=>!il a m.nodes i) (i+1)).map D.i=(idxOf (fun i=>!il a m.nodes i) i).map D.i:=by rw [eY h2]
   refine kgo ?_
   exact aa (i+1) (by omega) (by omega)
 rw [show mY a m.nodes=idxOf (fun i=>!il a m.nodes i) i from by rw [show i=a.nodes.length by omega];rfl]
 repeat (first|(refine ca ?_;first|refine aM ?_|refine b6 ?_|refine aR ?_|refine bh ?_|refine aL ?_|refine bg ?_|refine aX ?_|refine az ?_|refine aV ?_)|(refine eG ?_;first|refine bH ?_|refine eC ?_|refine bP ?_|refine cb ?_)|(refine eT ?_;first|refine cS (fun _=>?_)|refine cd ?_|refine bR ?_|refine b9 ?_|refine bu ?_|refine bJ ?_|refine b8 ?_)|(refine eR ?_;first|refine ch ?_|refine d7 ?_|refine b7 ?_|refine bD ?_|refine bN ?_|refine bX ?_|refine bS ?_)|(refine eK ?_;first|refine eF ?_|refine eA ?_|refine bU ?_|refine bG ?_|refine eH ?_|refine bd ?_|refine bc ?_)|(refine bV ?_;first|refine cD (d:=4) ?_|refine ba ?_|refine bT ?_)|(refine eV ?_;first|refine dL (d:=4) ?_|refine bI ?_|refine bQ ?_|refine eJ ?_)|(refine bL ?_;first|refine bO ?_|refine aS ?_|refine aN ?_|refine aW ?_|refine aQ ?_|refine aY ?_)|(refine eE ?_;first|refine bZ ?_|refine eB ?_|refine be ?_|refine aP ?_|refine aU ?_)|(refine aK ?_;first|refine aq _ ?_|refine bf ?_|refine aw ?_|refine au ?_|refine ax ?_)|(refine eP ?_;first|refine bW ?_|refine bE ?_|refine bM ?_)|(refine gOp ?_;first|refine eD ?_|refine eM ?_|refine aZ ?_|refine eU ?_|refine eN ?_|refine bK ?_|refine aO ?_|refine cf ?_|refine eO ?_|refine bC ?_|refine bY ?_|refine aT ?_|refine ay ?_|refine cg ?_|refine sNo ?_|refine dU ?_|refine av ?_)|refine dY ?_|refine dq ?_|refine fj ?_|refine bj ?_|refine ci ?_|refine br ?_|refine fm ?_|refine fl ?_|refine eX ?_|refine dB ?_|refine ck ?_|refine bo ?_|refine aA ?_|refine bk ?_|refine ct ?_|refine bt ?_|refine aBlkX ?_|refine cm ?_)
 exact aj
theorem lO {sig:List Ctl} {a:Big} (m:Mat) (hba:aH sig a=true):FnD Tryz.prog 206 [a.D,m.D] (.d (DI (bz a m.nodes))):=by
 have da:=bw hba
 have hn:=da.3
 refine af Tryz.func206 (fun hw W0=>?_)
 refine kgo ?_
 refine ai [2,3,10] (fun i:Nat=>i≤a.nodes.length) (fun i=>a.nodes.length - i) (fun i=>[(5,.sy (.k 20001)),(20001,.tk (.row 1 3 ((idxOf (mH a m.nodes) i).map .i))),(11,.sy (.d (.i i)))]) 0 (Nat.zero_le _) (fun i hi=>?_)
 refine kgo ?_
 refine aJ (fun h=>?_) (fun h=>?_)
 ·have hlt:i<a.nodes.length:=by omega
  have f1:=lX hba m.nodes i (by omega)
  have f2:=fc m.nodes i
  have hl:=dz (mH a m.nodes) i
  have hp:mH a m.nodes i=(il a m.nodes i && !fp m.nodes i):=rfl
  refine kgo ?_
  cases h3:il a m.nodes i
  ·rw [h3] at hp
   have hs:(idxOf (mH a m.nodes) (i+1)).map D.i=(idxOf (mH a m.nodes) i).map D.i:=by rw [eY hp]
   refine kgo ?_
   exact aa (i+1) (by omega) (by omega)
  rw [h3,Bool.true_and] at hp
  refine kgo ?_
  refine cIf (fun h2=>?_) (fun h2=>?_)
  ·have hs:(idxOf (mH a m.nodes) (i+1)).map D.i=(idxOf (mH a m.nodes) i).map D.i++[.i i]:=by rw [dI (hp.trans h2),List.map_append];rfl
   refine kgo ?_
   exact aa (i+1) (by omega) (by omega)
  ·have hs:(idxOf (mH a m.nodes) (i+1)).map D.i=(idxOf (mH a m.nodes) i).map D.i:=by rw [eY (hp.trans h2)]
   refine kgo ?_
   exact aa (i+1) (by omega) (by omega)
 rw [show bz a m.nodes=idxOf (mH a m.nodes) i from by rw [show i=a.nodes.length by omega];rfl]
 repeat (first|(refine ca ?_;first|refine aM ?_|refine b6 ?_|refine aR ?_|refine bh ?_|refine aL ?_|refine bg ?_|refine aX ?_|refine az ?_|refine aV ?_)|(refine eG ?_;first|refine bH ?_|refine eC ?_|refine bP ?_|refine cb ?_)|(refine eT ?_;first|refine cS (fun _=>?_)|refine cd ?_|refine bR ?_|refine b9 ?_|refine bu ?_|refine bJ ?_|refine b8 ?_)|(refine eR ?_;first|refine ch ?_|refine d7 ?_|refine b7 ?_|refine bD ?_|refine bN ?_|refine bX ?_|refine bS ?_)|(refine eK ?_;first|refine eF ?_|refine eA ?_|refine bU ?_|refine bG ?_|refine eH ?_|refine bd ?_|refine bc ?_)|(refine bV ?_;first|refine cD (d:=4) ?_|refine ba ?_|refine bT ?_)|(refine eV ?_;first|refine dL (d:=4) ?_|refine bI ?_|refine bQ ?_|refine eJ ?_)|(refine bL ?_;first|refine bO ?_|refine aS ?_|refine aN ?_|refine aW ?_|refine aQ ?_|refine aY ?_)|(refine eE ?_;first|refine bZ ?_|refine eB ?_|refine be ?_|refine aP ?_|refine aU ?_)|(refine aK ?_;first|refine aq _ ?_|refine bf ?_|refine aw ?_|refine au ?_|refine ax ?_)|(refine eP ?_;first|refine bW ?_|refine bE ?_|refine bM ?_)|(refine gOp ?_;first|refine eD ?_|refine eM ?_|refine aZ ?_|refine eU ?_|refine eN ?_|refine bK ?_|refine aO ?_|refine cf ?_|refine eO ?_|refine bC ?_|refine bY ?_|refine aT ?_|refine ay ?_|refine cg ?_|refine sNo ?_|refine dU ?_|refine av ?_)|refine dY ?_|refine dq ?_|refine fj ?_|refine bj ?_|refine ci ?_|refine br ?_|refine fm ?_|refine fl ?_|refine eX ?_|refine dB ?_|refine ck ?_|refine bo ?_|refine aA ?_|refine bk ?_|refine ct ?_|refine bt ?_|refine aBlkX ?_|refine cm ?_)
 exact aj
theorem nR (l:List ByteArray) (s:ByteArray):FnD Tryz.prog 116 [DS l,.s s] (.d (.i (jo l s))):=by
 refine af Tryz.func116 (fun hw W0=>?_)
 have hl:=(wfM hw.1).1
 refine kgo ?_
 refine ai [0,1,7] (fun i:Nat=>i≤l.length∧∀j (h:j<l.length),j<i→(l[j].toList == s.toList)=false) (fun i=>l.length - i) (fun i=>[(8,.sy (.d (.i i)))]) 0 ⟨Nat.zero_le _,fun j _ h=>absurd h (Nat.not_lt_zero _)⟩ (fun i hi=>?_)
 refine kgo ?_
 refine aJ (fun h=>?_) (fun h=>?_)
 ·have hlt:i<l.length:=by omega
  refine kgo ?_
  refine cIf (fun h2=>?_) (fun h2=>?_)
  ·rw [Bool.beq_comm] at h2
   refine kgo ?_
   rw [vd hlt h2 (fun j hj=>hi.2 j (by omega) hj)]
   exact aj
  ·rw [Bool.beq_comm] at h2
   refine kgo ?_
   exact aa (i+1) ⟨hlt,fun j h1 h3=>by
    rcases Nat.lt_or_ge j i with h4|h4
    ·exact hi.2 j h1 h4
    ·rw [show l[j]=l[i] from by congr 1;omega];exact h2⟩ (by omega)
 refine kgo ?_
 rw [A4 (fun j h1=>hi.2 j h1 (by omega))]
 exact aj
def qc (l:List ByteArray) (s:ByteArray):Bool:=decide (0≤jo l s)
theorem lc (l:List ByteArray) (s:ByteArray):FnD Tryz.prog 64 [DS l,.s s] (.d (.b (qc l s))):=by
 refine af Tryz.func64 (fun hw W0=>?_)
 have f1:=nR l s
 refine kgo ?_
 exact aj
def kW (es:List Int) (outer:List ByteArray) (name:Int→ByteArray) (l:Int):Int:=if 0≤dh es l then dh es l else es.length+jo (cG outer) (name l)
def lI (b:Big) (es:List Int) (outer:List ByteArray) (place:Int→Int) (name:Int→ByteArray) (k:Int):Nd:=⟨(dF b k).control,place (dF b k).parent,(dF b k).links.map (kW es outer name)⟩
def pN (b:Big) (ns es:List Int) (outer:List ByteArray) (place:Int→Int) (name:Int→ByteArray):Big:=⟨b.roots,ns.map (lI b es outer place name),[],es.length,cG outer,[]⟩
theorem tg (rest:List Int) (p:Int):FnD Tryz.prog 199 [.i p,.p (DI rest)] (.d (.i (if 0≤p then dh rest p else p))):=by
 refine af Tryz.func199 (fun hw W0=>?_)
 have f1:=iv rest p
 refine kgo ?_
 refine aJ (fun h=>?_) (fun h=>?_)
 ·rw [if_pos h]
  refine kgo ?_
  exact aj
 ·rw [if_neg h]
  refine kgo ?_
  exact aj
theorem tD (a:Big) (l:Int) (h0:0≤l - a.edges) (h1:l - a.edges<a.outer.length) (he:0≤a.edges∧a.edges≤1000) (hol:a.outer.length≤1000):FnD Tryz.prog 202 [.i l,.p a.D] (.d (.s (a.outer.getD (l - a.edges).toNat ⟨#[]⟩))):=by
 obtain ⟨q,hq⟩:=Int.eq_ofNat_of_zero_le h0
 have hql:q<a.outer.length:=by omega
 refine af Tryz.func202 (fun hw W0=>?_)
 refine kgo ?_
 refine cS (n:=q) (fun _=>?_) rfl rfl (congrArg some hq)
 rw [show a.outer.getD (l - a.edges).toNat ⟨#[]⟩=a.outer[q] from by rw [hq,Int.toNat_natCast];simp [hql]]
 refine kgo ?_
 exact aj
theorem tx (a:Big) (es:List Int) (l:Int) (h0:0≤l∧l≤1000) (he:0≤a.edges∧a.edges≤1000) (hes:es.length≤1000):FnD Tryz.prog 203 [.i l,.p a.D,.p (DI es)] (.d (.i (if l<a.edges then dh es l else es.length+(l - a.edges)))):=by
 refine af Tryz.func203 (fun hw W0=>?_)
 have f1:=iv es l
 refine kgo ?_
 refine aJ (fun h=>?_) (fun h=>?_)
 ·rw [if_pos h]
  refine kgo ?_
  exact aj
 ·rw [if_neg h,show (es.length:Int)+(l - a.edges)=(es.length:Int)+l - a.edges by omega]
  refine kgo ?_
  exact aj
end Go.Proofs.YtnobdioccfeokaaGreatDoor
