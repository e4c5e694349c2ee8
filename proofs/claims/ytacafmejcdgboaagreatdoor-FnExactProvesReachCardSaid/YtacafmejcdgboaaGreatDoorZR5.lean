/-
  Proved facts that the law leans on.
-/
import Derived.Test.YtacafmejcdgboaaGreatDoorZR3
import Derived.Test.YtacafmejcdgboaaGreatDoorZR4
import Derived.Deep.Cut
namespace Go.Proofs.YtacafmejcdgboaaGreatDoor
open Go.RowKit
set_option linter.unusedVariables false
set_option linter.unusedSimpArgs false
def dj (ps:List Int) (l:List Wr):List Wr:=l.map fun w=>⟨w.name,atI ps w.link⟩
theorem s9 (ps:List Int) {l:List Wr} (i:Nat) (h:i<l.length):dj ps (l.take (i+1))=dj ps (l.take i)++[⟨(l[i]).name,atI ps (l[i]).link⟩]:=by
 unfold dj;rw [List.take_succ_eq_append_getElem h,List.map_append];rfl
attribute [local irreducible] dj
def ef (ks l:List Int):List Int:=l.map (atI ks)
theorem nY (ks:List Int) {l:List Int} (j:Nat) (h:j<l.length):ef ks (l.take (j+1))=ef ks (l.take j)++[atI ks l[j]]:=by
 unfold ef;rw [List.take_succ_eq_append_getElem h,List.map_append];rfl
def cO (by':Int) (ps ks:List Int) (l:List Nd):List Nd:=l.map fun n=>⟨n.control,upF by' ps n.parent,ef ks n.links⟩
theorem ub (by':Int) (ps ks:List Int) {l:List Nd} (i:Nat) (h:i<l.length):cO by' ps ks (l.take (i+1))=cO by' ps ks (l.take i)++[⟨(l[i]).control,upF by' ps (l[i]).parent,ef ks (l[i]).links⟩]:=by
 unfold cO;rw [List.take_succ_eq_append_getElem h,List.map_append];rfl
attribute [local irreducible] cO ef
end Go.Proofs.YtacafmejcdgboaaGreatDoor
namespace Go.Proofs.YtacafmejcdgboaaGreatDoor
open Go.RowKit
set_option linter.unusedVariables false
set_option linter.unusedSimpArgs false
def xI (b:Big):Nat→Int→Int
 | 0,p=>p
 | f+1,p=>if p<0 then p else xI b f (cI b p).parent
def yG (b:Big) (p:Int):Int:=xI b (p.toNat+1) p
theorem CT {sig:List Ctl} {b:Big} (h:aw sig b=true) (i:Nat) (hi:i<b.nodes.length) : -b.roots≤(b.nodes[i]).parent∧(b.nodes[i]).parent<i:=gN h i hi
theorem Bc {sig:List Ctl} {b:Big} (h:aw sig b=true):∀(f g:Nat) (p:Int),p<b.nodes.length→p.toNat<f→p.toNat<g→xI b f p=xI b g p:=by
 intro f
 induction f with
 | zero=>intro g p _ hf;omega
 | succ f ih=>
  intro g p hp hf hg
  cases g with
  | zero=>omega
  | succ g=>
   unfold xI
   by_cases hn:p<0
   ·rw [if_pos hn,if_pos hn]
   ·rw [if_neg hn,if_neg hn]
    obtain ⟨n,rfl⟩:=Int.eq_ofNat_of_zero_le (show 0≤p by omega)
    have hl:n<b.nodes.length:=by omega
    have:=CT h n hl
    rw [al b n hl]
    by_cases hq:(b.nodes[n]).parent<0
    ·cases f with
     | zero=>
      cases g with
      | zero=>rfl
      | succ g=>simp only [xI];rw [if_pos hq]
     | succ f=>
      cases g with
      | zero=>simp only [xI];rw [if_pos hq]
      | succ g=>simp only [xI];rw [if_pos hq,if_pos hq]
    ·exact ih g _ (by omega) (by omega) (by omega)
theorem mP (b:Big) {p:Int} (h:p<0):yG b p=p:=by
 unfold yG xI;rw [if_pos h]
theorem nA {sig:List Ctl} {b:Big} (h:aw sig b=true) (n:Nat) (hn:n<b.nodes.length):yG b (n:Int)=yG b (b.nodes[n]).parent:=by
 have hp:=CT h n hn
 have e:yG b (n:Int)=xI b n (b.nodes[n]).parent:=by
  unfold yG
  rw [show ((n:Int).toNat+1)=n+1 by omega,xI,if_neg (by omega),al b n hn]
 rw [e]
 by_cases hq:(b.nodes[n]).parent<0
 ·rw [mP b hq]
  cases n with
  | zero=>rfl
  | succ n=>rw [xI,if_pos hq]
 ·exact Bc h _ _ _ (by omega) (by omega) (by omega)
def ip (b:Big) (r:Int) (i:Nat):Bool:=match b.nodes[i]? with|none=>false|some n=>decide (yG b n.parent=r)
theorem og (b:Big) (r:Int) (i:Nat) (h:i<b.nodes.length):ip b r i=decide (yG b (b.nodes[i]).parent=r):=by unfold ip;rw [List.getElem?_eq_getElem h]
def oz (b:Big) (r:Int):List Int:=idxOf (ip b r) b.nodes.length
end Go.Proofs.YtacafmejcdgboaaGreatDoor
namespace Go.Proofs.YtacafmejcdgboaaGreatDoor
open Go.RowKit
set_option linter.unusedVariables false
set_option linter.unusedSimpArgs false
theorem wR (sig:List Ctl) (b:Big) (i:Nat) (h:i<b.nodes.length):fF sig b i=(inR (b.nodes[i]).control 0 ((sig.length:Int) - 1) && (cR sig b (b.nodes[i]).parent i && (decide (((b.nodes[i]).links.length:Int)=(qD sig (b.nodes[i]).control).ports) && (b.nodes[i]).links.all (dy b)))):=by
 unfold fF;rw [List.getElem?_eq_getElem h]
theorem jz {α:Type} (p:α→Bool) (xs:List α) (i:Nat) (h:xs.length≤i) (hp:(xs.take i).all p=true):xs.all p=true:=by rwa [List.take_of_length_le h] at hp
theorem uq {sig:List Ctl} {b:Big} (h:b.sites.all (eT sig b)=false):aw sig b=false:=by unfold aw;rw [h];simp
theorem tL {sig:List Ctl} {b:Big} (h:b.inner.all (go b)=false):aw sig b=false:=by unfold aw;rw [h];simp
theorem Co {sig:List Ctl} {b:Big} (a:iN sig b=true) (c:(List.range b.nodes.length).all (fF sig b)=true) (d:b.sites.all (eT sig b)=true) (e:b.inner.all (go b)=true):aw sig b=true:=by unfold aw;rw [a,c,d,e];rfl
theorem yR (sig:List Ctl) (b:Big) (p:Int):eT sig b p=cR sig b p b.nodes.length:=rfl
theorem yv (b:Big) (x:Wr):go b x=dy b x.link:=rfl
attribute [local irreducible] inR di cT kl de cR dy eT go qD
end Go.Proofs.YtacafmejcdgboaaGreatDoor
namespace Go.Proofs.YtacafmejcdgboaaGreatDoor
open Go.RowKit
set_option linter.unusedVariables false
set_option linter.unusedSimpArgs false
def dN (sig:List Ctl) (b:Big):Bool:=aw sig b && (decide (b.sites.length=0) && decide (b.inner.length=0))
attribute [local irreducible] inR di cT kl de cR dy eT go qD fF
end Go.Proofs.YtacafmejcdgboaaGreatDoor
namespace Go.Proofs.YtacafmejcdgboaaGreatDoor
open Go.RowKit
set_option linter.unusedVariables false
set_option linter.unusedSimpArgs false
attribute [local irreducible] inR di cT kl de cR dy eT go qD
set_option maxRecDepth 100000 in
set_option maxHeartbeats 6400000 in
theorem eB (lo hi lo' hi':Nat) (v:Value) (sig:List Ctl) (cs:List Value) (b:Big) (w:World) (h:nM lo hi w v sig) (hb:dw lo' hi' w cs b) (hlen:b.inner.length≤1048576) :
 Calls Tryz.prog 104 #[v,.agg cs.toArray] w fun e w'=>e=.returned (.bool (aw sig b))∧Ext w w':=by
 have hV:=h
 have hB:=hb
 obtain ⟨a,k,rfl,m1,m2,m3,m4⟩:=h
 obtain ⟨v1,v2,v4,v5,rfl,r1,r2,hN,hS,hO,hI⟩:=hb
 obtain ⟨a1,k1,rfl,g1,g2,g3,g4⟩:=hN
 obtain ⟨a2,k2,rfl,n1,n2,n3,_⟩:=id hS
 obtain ⟨a4,k4,rfl,o1,o2,o3,_⟩:=id hO
 obtain ⟨a5,k5,rfl,l1,l2,l3,_⟩:=id hI
 unfold maxLen at g2 m2 n2 o2 l2
 obtain ⟨W0,hW0,hbx0,hx0,hz0⟩:=bH w [.slice a sig.length k] 39
 obtain ⟨W1,hW1,hbx1,hx1,hz1⟩:=bH W0 [.int .i64 b.roots,.slice a1 b.nodes.length k1,.slice a2 b.sites.length k2,.int .i64 b.edges,.slice a4 b.outer.length k4,.slice a5 b.inner.length k5] 46
 have ps:=hx1.keep (hbx0 0 _ rfl).1
 have hbb:∀j u,([.int .i64 b.roots,.slice a1 b.nodes.length k1,.slice a2 b.sites.length k2,.int .i64 b.edges,.slice a4 b.outer.length k4,.slice a5 b.inner.length k5]:List Value)[j]? = some u→W1.cell? ⟨W0.heap.size,j,none⟩=some u:=fun j u hj=>(hbx1 j u hj).1
 have p0:=hbb 0 _ rfl
 have p1:=hbb 1 _ rfl
 have p2:=hbb 2 _ rfl
 have p3:=hbb 3 _ rfl
 have p4:=hbb 4 _ rfl
 have p5:=hbb 5 _ rfl
 have hzz:w.heap.size<W0.heap.size:=by omega
 clear hz0 hz1 hbx0 hbx1
 have hx01:=hx0.trans hx1
 replace hV:=hV.ext gU.keeps hx01
 replace hB:=dw.keeps _ _ _ _ _ _ (cW.ext hx01) hB
 replace hS:=hS.ext cH.keeps hx01
 replace hO:=hO.ext dV.keeps hx01
 replace hI:=hI.ext WrP.keeps hx01
 have HBB:=Lib.hid hbb
 clear hbb
 go_enter Tryz.func104,Tryz.ntmps104
 have Hr:=Lib.hid trivial
 have hn:True:=trivial
 have hs:True:=trivial
 have He:=Lib.hid trivial
 have Ho:=Lib.hid trivial
 have Hi:=Lib.hid trivial
 cases ha:kl sig
 have Ha:=Lib.hid ha;clear ha
 have isF:=trivial
 rotate_left
 have Ha:=Lib.hid ha;clear ha
 have hsl:=CF Ha.out
 cases hr:inR b.roots 0 4
 have Hr:=Lib.hid hr;clear hr
 have isF:=trivial
 rotate_left
 have Hr:=Lib.hid hr;clear hr
 by_cases hn:8<b.nodes.length
 have en:decide (8<b.nodes.length)=true:=decide_eq_true hn
 have isF:=trivial
 rotate_left
 have en:decide (8<b.nodes.length)=false:=decide_eq_false hn
 by_cases hs:4<b.sites.length
 have es:decide (4<b.sites.length)=true:=decide_eq_true hs
 have isF:=trivial
 rotate_left
 have es:decide (4<b.sites.length)=false:=decide_eq_false hs
 cases he:inR b.edges 0 8
 have He:=Lib.hid he;clear he
 have isF:=trivial
 rotate_left
 have He:=Lib.hid he;clear he
 cases ho:de b.outer
 have Ho:=Lib.hid ho;clear ho
 have isF:=trivial
 rotate_left
 have Ho:=Lib.hid ho;clear ho
 cases hi:de (b.inner.map Wr.name)
 have Hi:=Lib.hid hi;clear hi
 have isF:=trivial
 rotate_left
 have Hi:=Lib.hid hi;clear hi
 all_goals go_wp2_with (first|(go_at_call 168;(refine (ju _ _ _ _ _ hIN).mono ?_);rintro e y ⟨rfl,hb⟩;rw [Hi.out];replace ps:=Ext.keep hb ps;replace p0:=Ext.keep hb p0;replace p1:=Ext.keep hb p1;replace p2:=Ext.keep hb p2;replace p3:=Ext.keep hb p3;replace p4:=Ext.keep hb p4;replace p5:=Ext.keep hb p5;replace hV:=hV.ext gU.keeps hb;replace hB:=dw.keeps _ _ _ _ _ _ (cW.ext hb) hB;replace hS:=hS.ext cH.keeps hb;replace hO:=hO.ext dV.keeps hb;replace hI:=hI.ext WrP.keeps hb)|(go_at_call 168;(refine (ju lo' hi' _ _ _ hO).mono ?_);rintro e y ⟨rfl,hb⟩;rw [Ho.out];replace ps:=Ext.keep hb ps;replace p0:=Ext.keep hb p0;replace p1:=Ext.keep hb p1;replace p2:=Ext.keep hb p2;replace p3:=Ext.keep hb p3;replace p4:=Ext.keep hb p4;replace p5:=Ext.keep hb p5;replace hV:=hV.ext gU.keeps hb;replace hB:=dw.keeps _ _ _ _ _ _ (cW.ext hb) hB;replace hS:=hS.ext cH.keeps hb;replace hO:=hO.ext dV.keeps hb;replace hI:=hI.ext WrP.keeps hb)|(go_at_call 100;(refine (aL _ _ _ _).mono ?_);rintro e y ⟨rfl,rfl⟩;rw [He.out])|(go_at_call 100;(refine (aL _ _ _ _).mono ?_);rintro e y ⟨rfl,rfl⟩;rw [Hr.out])|(go_at_call 167;(refine (lp lo hi _ _ _ hV).mono ?_);rintro e y ⟨rfl,hb⟩;rw [Ha.out];replace ps:=Ext.keep hb ps;replace p0:=Ext.keep hb p0;replace p1:=Ext.keep hb p1;replace p2:=Ext.keep hb p2;replace p3:=Ext.keep hb p3;replace p4:=Ext.keep hb p4;replace p5:=Ext.keep hb p5;replace hV:=hV.ext gU.keeps hb;replace hB:=dw.keeps _ _ _ _ _ _ (cW.ext hb) hB;replace hS:=hS.ext cH.keeps hb;replace hO:=hO.ext dV.keeps hb;replace hI:=hI.ext WrP.keeps hb)|(go_at_call 169;refine (iu lo' hi' [.int .i64 b.roots,.slice a1 b.nodes.length k1,.slice a2 b.sites.length k2,.int .i64 b.edges,.slice a4 b.outer.length k4,.slice a5 b.inner.length k5] b _ hB hlen).mono ?_;rintro e y ⟨v9,rfl,hIN,hb⟩;replace ps:=Ext.keep hb ps;replace p0:=Ext.keep hb p0;replace p1:=Ext.keep hb p1;replace p2:=Ext.keep hb p2;replace p3:=Ext.keep hb p3;replace p4:=Ext.keep hb p4;replace p5:=Ext.keep hb p5;replace hV:=hV.ext gU.keeps hb;replace hB:=dw.keeps _ _ _ _ _ _ (cW.ext hb) hB;replace hS:=hS.ext cH.keeps hb;replace hO:=hO.ext dV.keeps hb;replace hI:=hI.ext WrP.keeps hb))
 all_goals first|(have:=isF;go_ret;exact ⟨ap (du (by unfold iN;simp [Ha.out,Hr.out,hn,hs,He.out,Ho.out,Hi.out];try omega)).symm,xw⟩)|skip
 have HH:=Lib.hid (show iN sig b=true by unfold iN;rw [Ha.out,Hr.out,He.out,Ho.out,Hi.out];simp;omega)
 clear hIN
 obtain ⟨_,hr,_,_,he,hno,_⟩:=eM HH.out
 have HR:=Lib.hid hr
 have HE:=Lib.hid he
 have hol:b.outer.length≤1000:=by have:=fH hno;omega
 clear hr he hno
 have eg1:∀args w,(callFunc 171 args).run Tryz.prog w=.ok (.enter 171 args) w:=enters_of Tryz.func171 (by kernel_rfl) rfl
 have eg2:∀args w,(callFunc 173 args).run Tryz.prog w=.ok (.enter 173 args) w:=enters_of Tryz.func173 (by kernel_rfl) rfl
 have eg3:∀args w,(callFunc 175 args).run Tryz.prog w=.ok (.enter 175 args) w:=enters_of Tryz.func175 (by kernel_rfl) rfl
 have hY1:Ext W1 y:=xw
 go_loopw [49] (fun c wr=>∃i:Nat,c=.int .i64 i∧i≤b.nodes.length∧(List.range i).all (fF sig b)=true∧Ext y wr) (fun c _=>b.nodes.length - (intOf c).toNat)
 case atStart=>exact ⟨0,rfl,Nat.zero_le _,rfl,Ext.refl _⟩
 case round=>
  obtain ⟨i,rfl,hi0,hok,hx⟩:=hrel
  have HOK:=Lib.hid hok
  clear hok
  have hX1:Ext W1 wr:=hY1.trans hx
  have hX:Ext w wr:=hx01.trans hX1
  replace ps:=hx.keep ps
  replace p0:=hx.keep p0
  replace p1:=hx.keep p1
  replace p2:=hx.keep p2
  replace p3:=hx.keep p3
  replace p4:=hx.keep p4
  replace p5:=hx.keep p5
  replace hV:=hV.ext gU.keeps hx
  replace hB:=dw.keeps _ _ _ _ _ _ (cW.ext hx) hB
  by_cases hlt:i<b.nodes.length
  ·have hbad:=m8 (sig:=sig) i hlt
   have HA:=Lib.hid (lj sig b i hlt)
   have HS:=Lib.hid (bL (fF sig b) i)
   have hC:=mR HOK.out
   have HSG:=Lib.hid (iJ sig)
   rcases g4 with g4|⟨b1,o1,rfl,gb1,gb2,g4⟩
   ·rw [g4] at hlt;simp at hlt
   obtain ⟨cs,hl,hnp,hc⟩:=g4 i hlt
   generalize hnd:b.nodes[i]=nd at hnp HA
   obtain ⟨nc,np,nl⟩:=nd
   obtain ⟨nv,rfl,e1,e2,e3⟩:=hnp
   have q0:=hX.keep (hc 0 _ rfl)
   have q1:=hX.keep (hc 1 _ rfl)
   have q2:=hX.keep (hc 2 _ rfl)
   rw [Nat.add_zero] at q0
   have hLV:=e3.ext cH.keeps hX
   obtain ⟨la,lk,rfl,y1,y2,y3,_⟩:=e3
   dsimp only at *
   unfold maxLen at y2
   clear hc g4 hnd
   unfold I64 at e1
   have hsw:=IntWalk.i64_in ((sig.length:Int) - 1) (by omega)
   cases hc:inR nc 0 ((sig.length:Int) - 1)
   ·have Hc:=Lib.hid hc
    clear hc
    have HB:=Lib.hid (hbad (by rw [HA.out];first|(rw [HK.out];simp [Hc.out];done)|simp [Hc.out]))
    clear hbad
    go_wp2_with fail
    refine wp_region_held_drew (S:=(fun w'=>dA w' wr.heap.size [.int .i64 nc,.int .i64 np,.slice la nl.length lk]∧Ext wr w')) (by kernel_rfl) ?_ (fun hHeld=>?_)
    ·(refine ⟨?_,xw⟩;all_goals (intro j u hj;rcases j with _|_|_|_|_|_|_|_|j <;> simp at hj <;> (subst hj;simp)))
    refine tkP 0 ?_ ?_ ?_;rotate_left;focus (intro w;go_simp;try with_reducible rfl)
    try simp only [Act.put,aH]
    refine tkY 1 ?_ ?_ ?_;rotate_left;focus (intro w hSw;(try dsimp only at hSw);obtain ⟨bx0,sx⟩:=hSw;have c0_0:=(bx0 0 _ rfl).1;have c0_1:=(bx0 1 _ rfl).1;have c0_2:=(bx0 2 _ rfl).1;have s_ps:=Ext.keep sx ps;have s_p0:=Ext.keep sx p0;have s_p1:=Ext.keep sx p1;have s_p2:=Ext.keep sx p2;have s_p3:=Ext.keep sx p3;have s_p4:=Ext.keep sx p4;have s_p5:=Ext.keep sx p5;(try have s_s1:=Ext.keep sx s1);go_simp;try with_reducible rfl)
    try simp only [Act.put,aH]
    refine tkY 2 ?_ ?_ ?_;rotate_left;focus (intro w hSw;(try dsimp only at hSw);obtain ⟨bx0,sx⟩:=hSw;have c0_0:=(bx0 0 _ rfl).1;have c0_1:=(bx0 1 _ rfl).1;have c0_2:=(bx0 2 _ rfl).1;have s_ps:=Ext.keep sx ps;have s_p0:=Ext.keep sx p0;have s_p1:=Ext.keep sx p1;have s_p2:=Ext.keep sx p2;have s_p3:=Ext.keep sx p3;have s_p4:=Ext.keep sx p4;have s_p5:=Ext.keep sx p5;(try have s_s1:=Ext.keep sx s1);go_simp;try with_reducible rfl)
    try simp only [Act.put,aH]
    refine tkP 3 ?_ ?_ ?_;rotate_left;focus (intro w;go_simp;try with_reducible rfl)
    try simp only [Act.put,aH]
    refine tkP 4 ?_ ?_ ?_;rotate_left;focus (intro w;go_simp;try with_reducible rfl)
    try simp only [Act.put,aH]
    refine wpAnyH_ready (rs:=[5]) (by kernel_rfl) (by simp) ?_
    refine AllReadyH.cons rfl (fun K hK=>?_) AllReadyH.nil
    (try simp only [aH])
    go_simp
    (go_at_call 100;(refine (aL _ _ _ _).mono ?_);rintro e y ⟨rfl,rfl⟩;rw [Hc.out])
    show K _ _
    refine hK.out _ _ (by exact hHeld) (fun hHeld=>?_)
    clear hK K
    try simp only [Act.put,aH]
    refine tkP 6 ?_ ?_ ?_;rotate_left;focus (intro w;go_simp;try with_reducible rfl)
    try simp only [Act.put,aH]
    refine tkP 7 ?_ ?_ ?_;rotate_left;focus (intro w;go_simp;try with_reducible rfl)
    try simp only [Act.put,aH]
    refine tkN 8 ?_
    try simp only [Act.put,aH]
    refine tkN 9 ?_
    try simp only [Act.put,aH]
    refine tkN 10 ?_
    try simp only [Act.put,aH]
    refine tkN 11 ?_
    try simp only [Act.put,aH]
    refine tkN 12 ?_
    try simp only [Act.put,aH]
    refine tkN 13 ?_
    try simp only [Act.put,aH]
    refine tkN 14 ?_
    try simp only [Act.put,aH]
    refine tkP 15 ?_ ?_ ?_;rotate_left;focus (intro w;go_simp;try with_reducible rfl)
    try simp only [Act.put,aH]
    refine tkP 16 ?_ ?_ ?_;rotate_left;focus (intro w;go_simp;try with_reducible rfl)
    try simp only [Act.put,aH]
    refine tkN 17 ?_
    try simp only [Act.put,aH]
    refine tkN 18 ?_
    try simp only [Act.put,aH]
    refine tkN 19 ?_
    try simp only [Act.put,aH]
    refine tkN 20 ?_
    try simp only [Act.put,aH]
    refine tkN 21 ?_
    try simp only [Act.put,aH]
    refine tkN 22 ?_
    try simp only [Act.put,aH]
    refine tkN 23 ?_
    try simp only [Act.put,aH]
    refine tkN 24 ?_
    try simp only [Act.put,aH]
    refine tkN 25 ?_
    try simp only [Act.put,aH]
    refine tkN 26 ?_
    try simp only [Act.put,aH]
    refine tkP 27 ?_ ?_ ?_;rotate_left;focus (intro w;go_simp;try with_reducible rfl)
    try simp only [Act.put,aH]
    refine tkP 28 ?_ ?_ ?_;rotate_left;focus (intro w;go_simp;try with_reducible rfl)
    try simp only [Act.put,aH]
    refine tkN 29 ?_
    try simp only [Act.put,aH]
    refine tkN 30 ?_
    try simp only [Act.put,aH]
    refine tkN 31 ?_
    try simp only [Act.put,aH]
    refine tkN 32 ?_
    try simp only [Act.put,aH]
    refine tkP 33 ?_ ?_ ?_;rotate_left;focus (intro w;go_simp;try with_reducible rfl)
    try simp only [Act.put,aH]
    refine wpAnyH_done (by kernel_rfl) ?_ _
    all_goals go_wp2
    all_goals go_ret
    all_goals exact ⟨ap HB.out.symm,xw⟩
   have Hc:=Lib.hid hc
   clear hc
   obtain ⟨hc0,hc1⟩:=cA Hc.out;obtain ⟨m,rfl⟩:=Int.eq_ofNat_of_zero_le hc0;have hml:m<sig.length:=(by omega);rcases m4 with m4|⟨b2,o2,rfl,mb1,mb2,m4⟩;(exfalso;rw [m4] at hml;simp at hml);obtain ⟨ds,dl,⟨rfl,d1,d2,d3⟩,hds⟩:=m4 m hml;have s1:=hX.keep (hds 1 _ rfl);have HK:=Lib.hid (HSG.out m hml);clear hds m4;unfold I64 at d2;have jm0:(0:Int)≤(m:Int):=(by omega);have jm1:(m:Int)<(sig.length:Int):=(by omega)
   cases hu:cR sig b np i
   ·have Hu:=Lib.hid hu
    clear hu
    have HB:=Lib.hid (hbad (by rw [HA.out];first|(rw [HK.out];simp [Hc.out,Hu.out];done)|simp [Hc.out,Hu.out]))
    clear hbad
    go_wp2_with fail
    refine wp_region_held_drew (S:=(fun w'=>dA w' wr.heap.size [.int .i64 (m:Int),.int .i64 np,.slice la nl.length lk]∧Ext wr w')) (by kernel_rfl) ?_ (fun hHeld=>?_)
    ·(refine ⟨?_,xw⟩;all_goals (intro j u hj;rcases j with _|_|_|_|_|_|_|_|j <;> simp at hj <;> (subst hj;simp)))
    refine tkP 0 ?_ ?_ ?_;rotate_left;focus (intro w;go_simp;try with_reducible rfl)
    try simp only [Act.put,aH]
    refine tkY 1 ?_ ?_ ?_;rotate_left;focus (intro w hSw;(try dsimp only at hSw);obtain ⟨bx0,sx⟩:=hSw;have c0_0:=(bx0 0 _ rfl).1;have c0_1:=(bx0 1 _ rfl).1;have c0_2:=(bx0 2 _ rfl).1;have s_ps:=Ext.keep sx ps;have s_p0:=Ext.keep sx p0;have s_p1:=Ext.keep sx p1;have s_p2:=Ext.keep sx p2;have s_p3:=Ext.keep sx p3;have s_p4:=Ext.keep sx p4;have s_p5:=Ext.keep sx p5;(try have s_s1:=Ext.keep sx s1);go_simp;try with_reducible rfl)
    try simp only [Act.put,aH]
    refine tkY 2 ?_ ?_ ?_;rotate_left;focus (intro w hSw;(try dsimp only at hSw);obtain ⟨bx0,sx⟩:=hSw;have c0_0:=(bx0 0 _ rfl).1;have c0_1:=(bx0 1 _ rfl).1;have c0_2:=(bx0 2 _ rfl).1;have s_ps:=Ext.keep sx ps;have s_p0:=Ext.keep sx p0;have s_p1:=Ext.keep sx p1;have s_p2:=Ext.keep sx p2;have s_p3:=Ext.keep sx p3;have s_p4:=Ext.keep sx p4;have s_p5:=Ext.keep sx p5;(try have s_s1:=Ext.keep sx s1);go_simp;try with_reducible rfl)
    try simp only [Act.put,aH]
    refine tkP 3 ?_ ?_ ?_;rotate_left;focus (intro w;go_simp;try with_reducible rfl)
    try simp only [Act.put,aH]
    refine tkP 4 ?_ ?_ ?_;rotate_left;focus (intro w;go_simp;try with_reducible rfl)
    try simp only [Act.put,aH]
    refine wpAnyH_ready (rs:=[5]) (by kernel_rfl) (by simp) ?_
    refine AllReadyH.cons rfl (fun K hK=>?_) AllReadyH.nil
    (try simp only [aH])
    go_simp
    (go_at_call 100;(refine (aL _ _ _ _).mono ?_);rintro e y ⟨rfl,rfl⟩;rw [Hc.out])
    show K _ _
    refine hK.out _ _ (by exact hHeld) (fun hHeld=>?_)
    clear hK K
    try simp only [Act.put,aH]
    refine tkP 6 ?_ ?_ ?_;rotate_left;focus (intro w;go_simp;try with_reducible rfl)
    try simp only [Act.put,aH]
    refine tkP 7 ?_ ?_ ?_;rotate_left;focus (intro w;go_simp;try with_reducible rfl)
    try simp only [Act.put,aH]
    refine tkY 8 ?_ ?_ ?_;rotate_left;focus (intro w hSw;(try dsimp only at hSw);obtain ⟨bx0,sx⟩:=hSw;have c0_0:=(bx0 0 _ rfl).1;have c0_1:=(bx0 1 _ rfl).1;have c0_2:=(bx0 2 _ rfl).1;have s_ps:=Ext.keep sx ps;have s_p0:=Ext.keep sx p0;have s_p1:=Ext.keep sx p1;have s_p2:=Ext.keep sx p2;have s_p3:=Ext.keep sx p3;have s_p4:=Ext.keep sx p4;have s_p5:=Ext.keep sx p5;(try have s_s1:=Ext.keep sx s1);go_simp;try with_reducible rfl)
    try simp only [Act.put,aH]
    refine tkY 9 ?_ ?_ ?_;rotate_left;focus (intro w hSw;(try dsimp only at hSw);obtain ⟨bx0,sx⟩:=hSw;have c0_0:=(bx0 0 _ rfl).1;have c0_1:=(bx0 1 _ rfl).1;have c0_2:=(bx0 2 _ rfl).1;have s_ps:=Ext.keep sx ps;have s_p0:=Ext.keep sx p0;have s_p1:=Ext.keep sx p1;have s_p2:=Ext.keep sx p2;have s_p3:=Ext.keep sx p3;have s_p4:=Ext.keep sx p4;have s_p5:=Ext.keep sx p5;(try have s_s1:=Ext.keep sx s1);go_simp;try with_reducible rfl)
    try simp only [Act.put,aH]
    refine tkP 10 ?_ ?_ ?_;rotate_left;focus (intro w;go_simp;try with_reducible rfl)
    try simp only [Act.put,aH]
    refine tkY 11 ?_ ?_ ?_;rotate_left;focus (intro w hSw;(try dsimp only at hSw);obtain ⟨bx0,sx⟩:=hSw;have c0_0:=(bx0 0 _ rfl).1;have c0_1:=(bx0 1 _ rfl).1;have c0_2:=(bx0 2 _ rfl).1;have s_ps:=Ext.keep sx ps;have s_p0:=Ext.keep sx p0;have s_p1:=Ext.keep sx p1;have s_p2:=Ext.keep sx p2;have s_p3:=Ext.keep sx p3;have s_p4:=Ext.keep sx p4;have s_p5:=Ext.keep sx p5;(try have s_s1:=Ext.keep sx s1);go_simp;try with_reducible rfl)
    try simp only [Act.put,aH]
    refine tkP 12 ?_ ?_ ?_;rotate_left;focus (intro w;go_simp;try with_reducible rfl)
    try simp only [Act.put,aH]
    refine wpAnyH_ready (rs:=[13]) (by kernel_rfl) (by simp) ?_
    refine AllReadyH.cons rfl (fun K hK=>?_) AllReadyH.nil
    (try simp only [aH])
    go_simp
    (have hSw:=hHeld;(try dsimp only at hSw);obtain ⟨bx0,sx⟩:=hSw;have c0_0:=(bx0 0 _ rfl).1;have c0_1:=(bx0 1 _ rfl).1;have c0_2:=(bx0 2 _ rfl).1;have s_ps:=Ext.keep sx ps;have s_p0:=Ext.keep sx p0;have s_p1:=Ext.keep sx p1;have s_p2:=Ext.keep sx p2;have s_p3:=Ext.keep sx p3;have s_p4:=Ext.keep sx p4;have s_p5:=Ext.keep sx p5;(try have s_s1:=Ext.keep sx s1);have s_hV:=hV.ext gU.keeps sx;have s_hB:=dw.keeps _ _ _ _ _ _ (cW.ext sx) hB;have s_hLV:=hLV.ext cH.keeps sx;go_at_call 170;(refine (bP lo hi lo' hi' _ sig _ b _ _ _ s_hV s_hB e2 HR.out (by omega) hC).mono ?_);rintro e y ⟨rfl,hb⟩;rw [Hu.out])
    show K _ _
    refine hK.out _ _ (by (have hh:=hHeld;(try dsimp only at hh);exact ⟨hh.1.ext hb,hh.2.trans hb⟩)) (fun hHeld=>?_)
    clear hK K
    try simp only [Act.put,aH]
    refine tkP 14 ?_ ?_ ?_;rotate_left;focus (intro w;go_simp;try with_reducible rfl)
    try simp only [Act.put,aH]
    refine tkP 15 ?_ ?_ ?_;rotate_left;focus (intro w;go_simp;try with_reducible rfl)
    try simp only [Act.put,aH]
    refine tkP 16 ?_ ?_ ?_;rotate_left;focus (intro w;go_simp;try with_reducible rfl)
    try simp only [Act.put,aH]
    refine tkN 17 ?_
    try simp only [Act.put,aH]
    refine tkN 18 ?_
    try simp only [Act.put,aH]
    refine tkN 19 ?_
    try simp only [Act.put,aH]
    refine tkN 20 ?_
    try simp only [Act.put,aH]
    refine tkN 21 ?_
    try simp only [Act.put,aH]
    refine tkN 22 ?_
    try simp only [Act.put,aH]
    refine tkN 23 ?_
    try simp only [Act.put,aH]
    refine tkN 24 ?_
    try simp only [Act.put,aH]
    refine tkN 25 ?_
    try simp only [Act.put,aH]
    refine tkN 26 ?_
    try simp only [Act.put,aH]
    refine tkP 27 ?_ ?_ ?_;rotate_left;focus (intro w;go_simp;try with_reducible rfl)
    try simp only [Act.put,aH]
    refine tkP 28 ?_ ?_ ?_;rotate_left;focus (intro w;go_simp;try with_reducible rfl)
    try simp only [Act.put,aH]
    refine tkN 29 ?_
    try simp only [Act.put,aH]
    refine tkN 30 ?_
    try simp only [Act.put,aH]
    refine tkN 31 ?_
    try simp only [Act.put,aH]
    refine tkN 32 ?_
    try simp only [Act.put,aH]
    refine tkP 33 ?_ ?_ ?_;rotate_left;focus (intro w;go_simp;try with_reducible rfl)
    try simp only [Act.put,aH]
    refine wpAnyH_done (by kernel_rfl) ?_ _
    all_goals go_wp2
    all_goals go_ret
    all_goals exact ⟨ap HB.out.symm,xw⟩
   have Hu:=Lib.hid hu
   clear hu
   by_cases hl:((nl.length:Int))=((sig[m]).ports)
   rotate_left
   ·have el:(((nl.length:Int)) != ((sig[m]).ports))=true:=bne_iff_ne.2 hl
    have Hl:=Lib.hid hl
    clear hl
    have HB:=Lib.hid (hbad (by rw [HA.out];first|(rw [HK.out];simp [Hc.out,Hu.out,Hl.out];done)|simp [Hc.out,Hu.out,Hl.out]))
    clear hbad
    go_wp2_with fail
    refine wp_region_held_drew (S:=(fun w'=>dA w' wr.heap.size [.int .i64 (m:Int),.int .i64 np,.slice la nl.length lk]∧Ext wr w')) (by kernel_rfl) ?_ (fun hHeld=>?_)
    ·(refine ⟨?_,xw⟩;all_goals (intro j u hj;rcases j with _|_|_|_|_|_|_|_|j <;> simp at hj <;> (subst hj;simp)))
    refine tkP 0 ?_ ?_ ?_;rotate_left;focus (intro w;go_simp;try with_reducible rfl)
    try simp only [Act.put,aH]
    refine tkY 1 ?_ ?_ ?_;rotate_left;focus (intro w hSw;(try dsimp only at hSw);obtain ⟨bx0,sx⟩:=hSw;have c0_0:=(bx0 0 _ rfl).1;have c0_1:=(bx0 1 _ rfl).1;have c0_2:=(bx0 2 _ rfl).1;have s_ps:=Ext.keep sx ps;have s_p0:=Ext.keep sx p0;have s_p1:=Ext.keep sx p1;have s_p2:=Ext.keep sx p2;have s_p3:=Ext.keep sx p3;have s_p4:=Ext.keep sx p4;have s_p5:=Ext.keep sx p5;(try have s_s1:=Ext.keep sx s1);go_simp;try with_reducible rfl)
    try simp only [Act.put,aH]
    refine tkY 2 ?_ ?_ ?_;rotate_left;focus (intro w hSw;(try dsimp only at hSw);obtain ⟨bx0,sx⟩:=hSw;have c0_0:=(bx0 0 _ rfl).1;have c0_1:=(bx0 1 _ rfl).1;have c0_2:=(bx0 2 _ rfl).1;have s_ps:=Ext.keep sx ps;have s_p0:=Ext.keep sx p0;have s_p1:=Ext.keep sx p1;have s_p2:=Ext.keep sx p2;have s_p3:=Ext.keep sx p3;have s_p4:=Ext.keep sx p4;have s_p5:=Ext.keep sx p5;(try have s_s1:=Ext.keep sx s1);go_simp;try with_reducible rfl)
    try simp only [Act.put,aH]
    refine tkP 3 ?_ ?_ ?_;rotate_left;focus (intro w;go_simp;try with_reducible rfl)
    try simp only [Act.put,aH]
    refine tkP 4 ?_ ?_ ?_;rotate_left;focus (intro w;go_simp;try with_reducible rfl)
    try simp only [Act.put,aH]
    refine wpAnyH_ready (rs:=[5]) (by kernel_rfl) (by simp) ?_
    refine AllReadyH.cons rfl (fun K hK=>?_) AllReadyH.nil
    (try simp only [aH])
    go_simp
    (go_at_call 100;(refine (aL _ _ _ _).mono ?_);rintro e y ⟨rfl,rfl⟩;rw [Hc.out])
    show K _ _
    refine hK.out _ _ (by exact hHeld) (fun hHeld=>?_)
    clear hK K
    try simp only [Act.put,aH]
    refine tkP 6 ?_ ?_ ?_;rotate_left;focus (intro w;go_simp;try with_reducible rfl)
    try simp only [Act.put,aH]
    refine tkP 7 ?_ ?_ ?_;rotate_left;focus (intro w;go_simp;try with_reducible rfl)
    try simp only [Act.put,aH]
    refine tkY 8 ?_ ?_ ?_;rotate_left;focus (intro w hSw;(try dsimp only at hSw);obtain ⟨bx0,sx⟩:=hSw;have c0_0:=(bx0 0 _ rfl).1;have c0_1:=(bx0 1 _ rfl).1;have c0_2:=(bx0 2 _ rfl).1;have s_ps:=Ext.keep sx ps;have s_p0:=Ext.keep sx p0;have s_p1:=Ext.keep sx p1;have s_p2:=Ext.keep sx p2;have s_p3:=Ext.keep sx p3;have s_p4:=Ext.keep sx p4;have s_p5:=Ext.keep sx p5;(try have s_s1:=Ext.keep sx s1);go_simp;try with_reducible rfl)
    try simp only [Act.put,aH]
    refine tkY 9 ?_ ?_ ?_;rotate_left;focus (intro w hSw;(try dsimp only at hSw);obtain ⟨bx0,sx⟩:=hSw;have c0_0:=(bx0 0 _ rfl).1;have c0_1:=(bx0 1 _ rfl).1;have c0_2:=(bx0 2 _ rfl).1;have s_ps:=Ext.keep sx ps;have s_p0:=Ext.keep sx p0;have s_p1:=Ext.keep sx p1;have s_p2:=Ext.keep sx p2;have s_p3:=Ext.keep sx p3;have s_p4:=Ext.keep sx p4;have s_p5:=Ext.keep sx p5;(try have s_s1:=Ext.keep sx s1);go_simp;try with_reducible rfl)
    try simp only [Act.put,aH]
    refine tkP 10 ?_ ?_ ?_;rotate_left;focus (intro w;go_simp;try with_reducible rfl)
    try simp only [Act.put,aH]
    refine tkY 11 ?_ ?_ ?_;rotate_left;focus (intro w hSw;(try dsimp only at hSw);obtain ⟨bx0,sx⟩:=hSw;have c0_0:=(bx0 0 _ rfl).1;have c0_1:=(bx0 1 _ rfl).1;have c0_2:=(bx0 2 _ rfl).1;have s_ps:=Ext.keep sx ps;have s_p0:=Ext.keep sx p0;have s_p1:=Ext.keep sx p1;have s_p2:=Ext.keep sx p2;have s_p3:=Ext.keep sx p3;have s_p4:=Ext.keep sx p4;have s_p5:=Ext.keep sx p5;(try have s_s1:=Ext.keep sx s1);go_simp;try with_reducible rfl)
    try simp only [Act.put,aH]
    refine tkP 12 ?_ ?_ ?_;rotate_left;focus (intro w;go_simp;try with_reducible rfl)
    try simp only [Act.put,aH]
    refine wpAnyH_ready (rs:=[13]) (by kernel_rfl) (by simp) ?_
    refine AllReadyH.cons rfl (fun K hK=>?_) AllReadyH.nil
    (try simp only [aH])
    go_simp
    (have hSw:=hHeld;(try dsimp only at hSw);obtain ⟨bx0,sx⟩:=hSw;have c0_0:=(bx0 0 _ rfl).1;have c0_1:=(bx0 1 _ rfl).1;have c0_2:=(bx0 2 _ rfl).1;have s_ps:=Ext.keep sx ps;have s_p0:=Ext.keep sx p0;have s_p1:=Ext.keep sx p1;have s_p2:=Ext.keep sx p2;have s_p3:=Ext.keep sx p3;have s_p4:=Ext.keep sx p4;have s_p5:=Ext.keep sx p5;(try have s_s1:=Ext.keep sx s1);have s_hV:=hV.ext gU.keeps sx;have s_hB:=dw.keeps _ _ _ _ _ _ (cW.ext sx) hB;have s_hLV:=hLV.ext cH.keeps sx;go_at_call 170;(refine (bP lo hi lo' hi' _ sig _ b _ _ _ s_hV s_hB e2 HR.out (by omega) hC).mono ?_);rintro e y ⟨rfl,hb⟩;rw [Hu.out])
    show K _ _
    refine hK.out _ _ (by (have hh:=hHeld;(try dsimp only at hh);exact ⟨hh.1.ext hb,hh.2.trans hb⟩)) (fun hHeld=>?_)
    clear hK K
    try simp only [Act.put,aH]
    refine tkP 14 ?_ ?_ ?_;rotate_left;focus (intro w;go_simp;try with_reducible rfl)
    try simp only [Act.put,aH]
    refine tkP 15 ?_ ?_ ?_;rotate_left;focus (intro w;go_simp;try with_reducible rfl)
    try simp only [Act.put,aH]
    refine tkP 16 ?_ ?_ ?_;rotate_left;focus (intro w;go_simp;try with_reducible rfl)
    try simp only [Act.put,aH]
    refine tkP 17 ?_ ?_ ?_;rotate_left;focus (intro w;go_simp;try with_reducible rfl)
    try simp only [Act.put,aH]
    refine tkY 18 ?_ ?_ ?_;rotate_left;focus (intro w hSw;(try dsimp only at hSw);obtain ⟨bx0,sx⟩:=hSw;have c0_0:=(bx0 0 _ rfl).1;have c0_1:=(bx0 1 _ rfl).1;have c0_2:=(bx0 2 _ rfl).1;have s_ps:=Ext.keep sx ps;have s_p0:=Ext.keep sx p0;have s_p1:=Ext.keep sx p1;have s_p2:=Ext.keep sx p2;have s_p3:=Ext.keep sx p3;have s_p4:=Ext.keep sx p4;have s_p5:=Ext.keep sx p5;(try have s_s1:=Ext.keep sx s1);go_simp;try with_reducible rfl)
    try simp only [Act.put,aH]
    refine tkP 19 ?_ ?_ ?_;rotate_left;focus (intro w;go_simp;try with_reducible rfl)
    try simp only [Act.put,aH]
    refine tkY 20 ?_ ?_ ?_;rotate_left;focus (intro w hSw;(try dsimp only at hSw);obtain ⟨bx0,sx⟩:=hSw;have c0_0:=(bx0 0 _ rfl).1;have c0_1:=(bx0 1 _ rfl).1;have c0_2:=(bx0 2 _ rfl).1;have s_ps:=Ext.keep sx ps;have s_p0:=Ext.keep sx p0;have s_p1:=Ext.keep sx p1;have s_p2:=Ext.keep sx p2;have s_p3:=Ext.keep sx p3;have s_p4:=Ext.keep sx p4;have s_p5:=Ext.keep sx p5;(try have s_s1:=Ext.keep sx s1);go_simp;try with_reducible rfl)
    try simp only [Act.put,aH]
    refine tkP 21 ?_ ?_ ?_;rotate_left;focus (intro w;go_simp;try with_reducible rfl)
    try simp only [Act.put,aH]
    refine tkY 22 ?_ ?_ ?_;rotate_left;focus (intro w hSw;(try dsimp only at hSw);obtain ⟨bx0,sx⟩:=hSw;have c0_0:=(bx0 0 _ rfl).1;have c0_1:=(bx0 1 _ rfl).1;have c0_2:=(bx0 2 _ rfl).1;have s_ps:=Ext.keep sx ps;have s_p0:=Ext.keep sx p0;have s_p1:=Ext.keep sx p1;have s_p2:=Ext.keep sx p2;have s_p3:=Ext.keep sx p3;have s_p4:=Ext.keep sx p4;have s_p5:=Ext.keep sx p5;(try have s_s1:=Ext.keep sx s1);go_simp;try with_reducible rfl)
    try simp only [Act.put,aH]
    refine tkP 23 ?_ ?_ ?_;rotate_left;focus (intro w;go_simp;try with_reducible rfl)
    try simp only [Act.put,aH]
    refine tkP 24 ?_ ?_ ?_;rotate_left;focus (intro w;go_simp;try with_reducible rfl)
    try simp only [Act.put,aH]
    refine tkY 25 ?_ ?_ ?_;rotate_left;focus (intro w hSw;(try dsimp only at hSw);obtain ⟨bx0,sx⟩:=hSw;have c0_0:=(bx0 0 _ rfl).1;have c0_1:=(bx0 1 _ rfl).1;have c0_2:=(bx0 2 _ rfl).1;have s_ps:=Ext.keep sx ps;have s_p0:=Ext.keep sx p0;have s_p1:=Ext.keep sx p1;have s_p2:=Ext.keep sx p2;have s_p3:=Ext.keep sx p3;have s_p4:=Ext.keep sx p4;have s_p5:=Ext.keep sx p5;(try have s_s1:=Ext.keep sx s1);go_simp;try with_reducible rfl)
    try simp only [Act.put,aH]
    refine tkP 26 ?_ ?_ ?_;rotate_left;focus (intro w;go_simp;try with_reducible rfl)
    try simp only [Act.put,aH]
    refine tkP 27 ?_ ?_ ?_;rotate_left;focus (intro w;go_simp;try with_reducible rfl)
    try simp only [Act.put,aH]
    refine tkP 28 ?_ ?_ ?_;rotate_left;focus (intro w;go_simp;try with_reducible rfl)
    try simp only [Act.put,aH]
    refine tkN 29 ?_
    try simp only [Act.put,aH]
    refine tkN 30 ?_
    try simp only [Act.put,aH]
    refine tkN 31 ?_
    try simp only [Act.put,aH]
    refine tkN 32 ?_
    try simp only [Act.put,aH]
    refine tkP 33 ?_ ?_ ?_;rotate_left;focus (intro w;go_simp;try with_reducible rfl)
    try simp only [Act.put,aH]
    refine wpAnyH_done (by kernel_rfl) ?_ _
    all_goals go_wp2
    all_goals go_ret
    all_goals exact ⟨ap HB.out.symm,xw⟩
   have el:(((nl.length:Int)) != ((sig[m]).ports))=false:=bne_eq_false_iff_eq.2 hl
   have Hl:=Lib.hid hl
   clear hl
   cases hk:nl.any (fun l=>!(dy b l))
   rotate_left
   ·have Hk:=Lib.hid hk
    clear hk
    have HB:=Lib.hid (hbad (by rw [HA.out];first|(rw [HK.out];simp [Hc.out,Hu.out,Hl.out,Hk.out];done)|simp [Hc.out,Hu.out,Hl.out,Hk.out]))
    clear hbad
    go_wp2_with fail
    refine wp_region_held_drew (S:=(fun w'=>dA w' wr.heap.size [.int .i64 (m:Int),.int .i64 np,.slice la nl.length lk]∧Ext wr w')) (by kernel_rfl) ?_ (fun hHeld=>?_)
    ·(refine ⟨?_,xw⟩;all_goals (intro j u hj;rcases j with _|_|_|_|_|_|_|_|j <;> simp at hj <;> (subst hj;simp)))
    refine tkP 0 ?_ ?_ ?_;rotate_left;focus (intro w;go_simp;try with_reducible rfl)
    try simp only [Act.put,aH]
    refine tkY 1 ?_ ?_ ?_;rotate_left;focus (intro w hSw;(try dsimp only at hSw);obtain ⟨bx0,sx⟩:=hSw;have c0_0:=(bx0 0 _ rfl).1;have c0_1:=(bx0 1 _ rfl).1;have c0_2:=(bx0 2 _ rfl).1;have s_ps:=Ext.keep sx ps;have s_p0:=Ext.keep sx p0;have s_p1:=Ext.keep sx p1;have s_p2:=Ext.keep sx p2;have s_p3:=Ext.keep sx p3;have s_p4:=Ext.keep sx p4;have s_p5:=Ext.keep sx p5;(try have s_s1:=Ext.keep sx s1);go_simp;try with_reducible rfl)
    try simp only [Act.put,aH]
    refine tkY 2 ?_ ?_ ?_;rotate_left;focus (intro w hSw;(try dsimp only at hSw);obtain ⟨bx0,sx⟩:=hSw;have c0_0:=(bx0 0 _ rfl).1;have c0_1:=(bx0 1 _ rfl).1;have c0_2:=(bx0 2 _ rfl).1;have s_ps:=Ext.keep sx ps;have s_p0:=Ext.keep sx p0;have s_p1:=Ext.keep sx p1;have s_p2:=Ext.keep sx p2;have s_p3:=Ext.keep sx p3;have s_p4:=Ext.keep sx p4;have s_p5:=Ext.keep sx p5;(try have s_s1:=Ext.keep sx s1);go_simp;try with_reducible rfl)
    try simp only [Act.put,aH]
    refine tkP 3 ?_ ?_ ?_;rotate_left;focus (intro w;go_simp;try with_reducible rfl)
    try simp only [Act.put,aH]
    refine tkP 4 ?_ ?_ ?_;rotate_left;focus (intro w;go_simp;try with_reducible rfl)
    try simp only [Act.put,aH]
    refine wpAnyH_ready (rs:=[5]) (by kernel_rfl) (by simp) ?_
    refine AllReadyH.cons rfl (fun K hK=>?_) AllReadyH.nil
    (try simp only [aH])
    go_simp
    (go_at_call 100;(refine (aL _ _ _ _).mono ?_);rintro e y ⟨rfl,rfl⟩;rw [Hc.out])
    show K _ _
    refine hK.out _ _ (by exact hHeld) (fun hHeld=>?_)
    clear hK K
    try simp only [Act.put,aH]
    refine tkP 6 ?_ ?_ ?_;rotate_left;focus (intro w;go_simp;try with_reducible rfl)
    try simp only [Act.put,aH]
    refine tkP 7 ?_ ?_ ?_;rotate_left;focus (intro w;go_simp;try with_reducible rfl)
    try simp only [Act.put,aH]
    refine tkY 8 ?_ ?_ ?_;rotate_left;focus (intro w hSw;(try dsimp only at hSw);obtain ⟨bx0,sx⟩:=hSw;have c0_0:=(bx0 0 _ rfl).1;have c0_1:=(bx0 1 _ rfl).1;have c0_2:=(bx0 2 _ rfl).1;have s_ps:=Ext.keep sx ps;have s_p0:=Ext.keep sx p0;have s_p1:=Ext.keep sx p1;have s_p2:=Ext.keep sx p2;have s_p3:=Ext.keep sx p3;have s_p4:=Ext.keep sx p4;have s_p5:=Ext.keep sx p5;(try have s_s1:=Ext.keep sx s1);go_simp;try with_reducible rfl)
    try simp only [Act.put,aH]
    refine tkY 9 ?_ ?_ ?_;rotate_left;focus (intro w hSw;(try dsimp only at hSw);obtain ⟨bx0,sx⟩:=hSw;have c0_0:=(bx0 0 _ rfl).1;have c0_1:=(bx0 1 _ rfl).1;have c0_2:=(bx0 2 _ rfl).1;have s_ps:=Ext.keep sx ps;have s_p0:=Ext.keep sx p0;have s_p1:=Ext.keep sx p1;have s_p2:=Ext.keep sx p2;have s_p3:=Ext.keep sx p3;have s_p4:=Ext.keep sx p4;have s_p5:=Ext.keep sx p5;(try have s_s1:=Ext.keep sx s1);go_simp;try with_reducible rfl)
    try simp only [Act.put,aH]
    refine tkP 10 ?_ ?_ ?_;rotate_left;focus (intro w;go_simp;try with_reducible rfl)
    try simp only [Act.put,aH]
    refine tkY 11 ?_ ?_ ?_;rotate_left;focus (intro w hSw;(try dsimp only at hSw);obtain ⟨bx0,sx⟩:=hSw;have c0_0:=(bx0 0 _ rfl).1;have c0_1:=(bx0 1 _ rfl).1;have c0_2:=(bx0 2 _ rfl).1;have s_ps:=Ext.keep sx ps;have s_p0:=Ext.keep sx p0;have s_p1:=Ext.keep sx p1;have s_p2:=Ext.keep sx p2;have s_p3:=Ext.keep sx p3;have s_p4:=Ext.keep sx p4;have s_p5:=Ext.keep sx p5;(try have s_s1:=Ext.keep sx s1);go_simp;try with_reducible rfl)
    try simp only [Act.put,aH]
    refine tkP 12 ?_ ?_ ?_;rotate_left;focus (intro w;go_simp;try with_reducible rfl)
    try simp only [Act.put,aH]
    refine wpAnyH_ready (rs:=[13]) (by kernel_rfl) (by simp) ?_
    refine AllReadyH.cons rfl (fun K hK=>?_) AllReadyH.nil
    (try simp only [aH])
    go_simp
    (have hSw:=hHeld;(try dsimp only at hSw);obtain ⟨bx0,sx⟩:=hSw;have c0_0:=(bx0 0 _ rfl).1;have c0_1:=(bx0 1 _ rfl).1;have c0_2:=(bx0 2 _ rfl).1;have s_ps:=Ext.keep sx ps;have s_p0:=Ext.keep sx p0;have s_p1:=Ext.keep sx p1;have s_p2:=Ext.keep sx p2;have s_p3:=Ext.keep sx p3;have s_p4:=Ext.keep sx p4;have s_p5:=Ext.keep sx p5;(try have s_s1:=Ext.keep sx s1);have s_hV:=hV.ext gU.keeps sx;have s_hB:=dw.keeps _ _ _ _ _ _ (cW.ext sx) hB;have s_hLV:=hLV.ext cH.keeps sx;go_at_call 170;(refine (bP lo hi lo' hi' _ sig _ b _ _ _ s_hV s_hB e2 HR.out (by omega) hC).mono ?_);rintro e y ⟨rfl,hb⟩;rw [Hu.out])
    show K _ _
    refine hK.out _ _ (by (have hh:=hHeld;(try dsimp only at hh);exact ⟨hh.1.ext hb,hh.2.trans hb⟩)) (fun hHeld=>?_)
    clear hK K
    try simp only [Act.put,aH]
    refine tkP 14 ?_ ?_ ?_;rotate_left;focus (intro w;go_simp;try with_reducible rfl)
    try simp only [Act.put,aH]
    refine tkP 15 ?_ ?_ ?_;rotate_left;focus (intro w;go_simp;try with_reducible rfl)
    try simp only [Act.put,aH]
    refine tkP 16 ?_ ?_ ?_;rotate_left;focus (intro w;go_simp;try with_reducible rfl)
    try simp only [Act.put,aH]
    refine tkP 17 ?_ ?_ ?_;rotate_left;focus (intro w;go_simp;try with_reducible rfl)
    try simp only [Act.put,aH]
    refine tkY 18 ?_ ?_ ?_;rotate_left;focus (intro w hSw;(try dsimp only at hSw);obtain ⟨bx0,sx⟩:=hSw;have c0_0:=(bx0 0 _ rfl).1;have c0_1:=(bx0 1 _ rfl).1;have c0_2:=(bx0 2 _ rfl).1;have s_ps:=Ext.keep sx ps;have s_p0:=Ext.keep sx p0;have s_p1:=Ext.keep sx p1;have s_p2:=Ext.keep sx p2;have s_p3:=Ext.keep sx p3;have s_p4:=Ext.keep sx p4;have s_p5:=Ext.keep sx p5;(try have s_s1:=Ext.keep sx s1);go_simp;try with_reducible rfl)
    try simp only [Act.put,aH]
    refine tkP 19 ?_ ?_ ?_;rotate_left;focus (intro w;go_simp;try with_reducible rfl)
    try simp only [Act.put,aH]
    refine tkY 20 ?_ ?_ ?_;rotate_left;focus (intro w hSw;(try dsimp only at hSw);obtain ⟨bx0,sx⟩:=hSw;have c0_0:=(bx0 0 _ rfl).1;have c0_1:=(bx0 1 _ rfl).1;have c0_2:=(bx0 2 _ rfl).1;have s_ps:=Ext.keep sx ps;have s_p0:=Ext.keep sx p0;have s_p1:=Ext.keep sx p1;have s_p2:=Ext.keep sx p2;have s_p3:=Ext.keep sx p3;have s_p4:=Ext.keep sx p4;have s_p5:=Ext.keep sx p5;(try have s_s1:=Ext.keep sx s1);go_simp;try with_reducible rfl)
    try simp only [Act.put,aH]
    refine tkP 21 ?_ ?_ ?_;rotate_left;focus (intro w;go_simp;try with_reducible rfl)
    try simp only [Act.put,aH]
    refine tkY 22 ?_ ?_ ?_;rotate_left;focus (intro w hSw;(try dsimp only at hSw);obtain ⟨bx0,sx⟩:=hSw;have c0_0:=(bx0 0 _ rfl).1;have c0_1:=(bx0 1 _ rfl).1;have c0_2:=(bx0 2 _ rfl).1;have s_ps:=Ext.keep sx ps;have s_p0:=Ext.keep sx p0;have s_p1:=Ext.keep sx p1;have s_p2:=Ext.keep sx p2;have s_p3:=Ext.keep sx p3;have s_p4:=Ext.keep sx p4;have s_p5:=Ext.keep sx p5;(try have s_s1:=Ext.keep sx s1);go_simp;try with_reducible rfl)
    try simp only [Act.put,aH]
    refine tkP 23 ?_ ?_ ?_;rotate_left;focus (intro w;go_simp;try with_reducible rfl)
    try simp only [Act.put,aH]
    refine tkP 24 ?_ ?_ ?_;rotate_left;focus (intro w;go_simp;try with_reducible rfl)
    try simp only [Act.put,aH]
    refine tkY 25 ?_ ?_ ?_;rotate_left;focus (intro w hSw;(try dsimp only at hSw);obtain ⟨bx0,sx⟩:=hSw;have c0_0:=(bx0 0 _ rfl).1;have c0_1:=(bx0 1 _ rfl).1;have c0_2:=(bx0 2 _ rfl).1;have s_ps:=Ext.keep sx ps;have s_p0:=Ext.keep sx p0;have s_p1:=Ext.keep sx p1;have s_p2:=Ext.keep sx p2;have s_p3:=Ext.keep sx p3;have s_p4:=Ext.keep sx p4;have s_p5:=Ext.keep sx p5;(try have s_s1:=Ext.keep sx s1);go_simp;try with_reducible rfl)
    try simp only [Act.put,aH]
    refine tkP 26 ?_ ?_ ?_;rotate_left;focus (intro w;go_simp;try with_reducible rfl)
    try simp only [Act.put,aH]
    refine tkP 27 ?_ ?_ ?_;rotate_left;focus (intro w;go_simp;try with_reducible rfl)
    try simp only [Act.put,aH]
    refine tkP 28 ?_ ?_ ?_;rotate_left;focus (intro w;go_simp;try with_reducible rfl)
    try simp only [Act.put,aH]
    refine tkP 29 ?_ ?_ ?_;rotate_left;focus (intro w;go_simp;try with_reducible rfl)
    try simp only [Act.put,aH]
    refine tkY 30 ?_ ?_ ?_;rotate_left;focus (intro w hSw;(try dsimp only at hSw);obtain ⟨bx0,sx⟩:=hSw;have c0_0:=(bx0 0 _ rfl).1;have c0_1:=(bx0 1 _ rfl).1;have c0_2:=(bx0 2 _ rfl).1;have s_ps:=Ext.keep sx ps;have s_p0:=Ext.keep sx p0;have s_p1:=Ext.keep sx p1;have s_p2:=Ext.keep sx p2;have s_p3:=Ext.keep sx p3;have s_p4:=Ext.keep sx p4;have s_p5:=Ext.keep sx p5;(try have s_s1:=Ext.keep sx s1);go_simp;try with_reducible rfl)
    try simp only [Act.put,aH]
    refine tkP 31 ?_ ?_ ?_;rotate_left;focus (intro w;go_simp;try with_reducible rfl)
    try simp only [Act.put,aH]
    refine wpAnyH_ready (rs:=[32]) (by kernel_rfl) (by simp) ?_
    refine AllReadyH.cons rfl (fun K hK=>?_) AllReadyH.nil
    (try simp only [aH])
    go_simp
    (have hSw:=hHeld;(try dsimp only at hSw);obtain ⟨bx0,sx⟩:=hSw;have c0_0:=(bx0 0 _ rfl).1;have c0_1:=(bx0 1 _ rfl).1;have c0_2:=(bx0 2 _ rfl).1;have s_ps:=Ext.keep sx ps;have s_p0:=Ext.keep sx p0;have s_p1:=Ext.keep sx p1;have s_p2:=Ext.keep sx p2;have s_p3:=Ext.keep sx p3;have s_p4:=Ext.keep sx p4;have s_p5:=Ext.keep sx p5;(try have s_s1:=Ext.keep sx s1);have s_hV:=hV.ext gU.keeps sx;have s_hB:=dw.keeps _ _ _ _ _ _ (cW.ext sx) hB;have s_hLV:=hLV.ext cH.keeps sx;go_at_call 156;(refine (bC lo' hi' (fun l=>!(dy b l)) 171 #[.pointer (some ⟨W0.heap.size,0,none⟩)] _ _ _ s_hLV eg1 (fun j hj cs W hW hP=>g9 lo' hi' W0.heap.size _ b _ W (dw.keeps _ _ _ _ _ _ (cW.ext hW) s_hB) HE.out hol (fun j u hj=>hW.keep (sx.keep (hX1.keep (HBB.out j u hj)))))).mono ?_);rintro e y ⟨rfl,hb⟩;rw [Hk.out])
    show K _ _
    refine hK.out _ _ (by (have hh:=hHeld;(try dsimp only at hh);exact ⟨hh.1.ext hb,hh.2.trans hb⟩)) (fun hHeld=>?_)
    clear hK K
    try simp only [Act.put,aH]
    refine tkP 33 ?_ ?_ ?_;rotate_left;focus (intro w;go_simp;try with_reducible rfl)
    try simp only [Act.put,aH]
    refine wpAnyH_done (by kernel_rfl) ?_ _
    all_goals go_wp2
    all_goals go_ret
    all_goals exact ⟨ap HB.out.symm,xw⟩
   have Hk:=Lib.hid hk
   clear hk
   have HG:=Lib.hid (show fF sig b i=true by rw [HA.out,HK.out];simp [Hc.out,Hu.out,Hl.out,Hk.out])
   clear hbad
   go_wp2_with fail
   refine wp_region_held_drew (S:=(fun w'=>dA w' wr.heap.size [.int .i64 (m:Int),.int .i64 np,.slice la nl.length lk]∧Ext wr w')) (by kernel_rfl) ?_ (fun hHeld=>?_)
   ·(refine ⟨?_,xw⟩;all_goals (intro j u hj;rcases j with _|_|_|_|_|_|_|_|j <;> simp at hj <;> (subst hj;simp)))
   refine tkP 0 ?_ ?_ ?_;rotate_left;focus (intro w;go_simp;try with_reducible rfl)
   try simp only [Act.put,aH]
   refine tkY 1 ?_ ?_ ?_;rotate_left;focus (intro w hSw;(try dsimp only at hSw);obtain ⟨bx0,sx⟩:=hSw;have c0_0:=(bx0 0 _ rfl).1;have c0_1:=(bx0 1 _ rfl).1;have c0_2:=(bx0 2 _ rfl).1;have s_ps:=Ext.keep sx ps;have s_p0:=Ext.keep sx p0;have s_p1:=Ext.keep sx p1;have s_p2:=Ext.keep sx p2;have s_p3:=Ext.keep sx p3;have s_p4:=Ext.keep sx p4;have s_p5:=Ext.keep sx p5;(try have s_s1:=Ext.keep sx s1);go_simp;try with_reducible rfl)
   try simp only [Act.put,aH]
   refine tkY 2 ?_ ?_ ?_;rotate_left;focus (intro w hSw;(try dsimp only at hSw);obtain ⟨bx0,sx⟩:=hSw;have c0_0:=(bx0 0 _ rfl).1;have c0_1:=(bx0 1 _ rfl).1;have c0_2:=(bx0 2 _ rfl).1;have s_ps:=Ext.keep sx ps;have s_p0:=Ext.keep sx p0;have s_p1:=Ext.keep sx p1;have s_p2:=Ext.keep sx p2;have s_p3:=Ext.keep sx p3;have s_p4:=Ext.keep sx p4;have s_p5:=Ext.keep sx p5;(try have s_s1:=Ext.keep sx s1);go_simp;try with_reducible rfl)
   try simp only [Act.put,aH]
   refine tkP 3 ?_ ?_ ?_;rotate_left;focus (intro w;go_simp;try with_reducible rfl)
   try simp only [Act.put,aH]
   refine tkP 4 ?_ ?_ ?_;rotate_left;focus (intro w;go_simp;try with_reducible rfl)
   try simp only [Act.put,aH]
   refine wpAnyH_ready (rs:=[5]) (by kernel_rfl) (by simp) ?_
   refine AllReadyH.cons rfl (fun K hK=>?_) AllReadyH.nil
   (try simp only [aH])
   go_simp
   (go_at_call 100;(refine (aL _ _ _ _).mono ?_);rintro e y ⟨rfl,rfl⟩;rw [Hc.out])
   show K _ _
   refine hK.out _ _ (by exact hHeld) (fun hHeld=>?_)
   clear hK K
   try simp only [Act.put,aH]
   refine tkP 6 ?_ ?_ ?_;rotate_left;focus (intro w;go_simp;try with_reducible rfl)
   try simp only [Act.put,aH]
   refine tkP 7 ?_ ?_ ?_;rotate_left;focus (intro w;go_simp;try with_reducible rfl)
   try simp only [Act.put,aH]
   refine tkY 8 ?_ ?_ ?_;rotate_left;focus (intro w hSw;(try dsimp only at hSw);obtain ⟨bx0,sx⟩:=hSw;have c0_0:=(bx0 0 _ rfl).1;have c0_1:=(bx0 1 _ rfl).1;have c0_2:=(bx0 2 _ rfl).1;have s_ps:=Ext.keep sx ps;have s_p0:=Ext.keep sx p0;have s_p1:=Ext.keep sx p1;have s_p2:=Ext.keep sx p2;have s_p3:=Ext.keep sx p3;have s_p4:=Ext.keep sx p4;have s_p5:=Ext.keep sx p5;(try have s_s1:=Ext.keep sx s1);go_simp;try with_reducible rfl)
   try simp only [Act.put,aH]
   refine tkY 9 ?_ ?_ ?_;rotate_left;focus (intro w hSw;(try dsimp only at hSw);obtain ⟨bx0,sx⟩:=hSw;have c0_0:=(bx0 0 _ rfl).1;have c0_1:=(bx0 1 _ rfl).1;have c0_2:=(bx0 2 _ rfl).1;have s_ps:=Ext.keep sx ps;have s_p0:=Ext.keep sx p0;have s_p1:=Ext.keep sx p1;have s_p2:=Ext.keep sx p2;have s_p3:=Ext.keep sx p3;have s_p4:=Ext.keep sx p4;have s_p5:=Ext.keep sx p5;(try have s_s1:=Ext.keep sx s1);go_simp;try with_reducible rfl)
   try simp only [Act.put,aH]
   refine tkP 10 ?_ ?_ ?_;rotate_left;focus (intro w;go_simp;try with_reducible rfl)
   try simp only [Act.put,aH]
   refine tkY 11 ?_ ?_ ?_;rotate_left;focus (intro w hSw;(try dsimp only at hSw);obtain ⟨bx0,sx⟩:=hSw;have c0_0:=(bx0 0 _ rfl).1;have c0_1:=(bx0 1 _ rfl).1;have c0_2:=(bx0 2 _ rfl).1;have s_ps:=Ext.keep sx ps;have s_p0:=Ext.keep sx p0;have s_p1:=Ext.keep sx p1;have s_p2:=Ext.keep sx p2;have s_p3:=Ext.keep sx p3;have s_p4:=Ext.keep sx p4;have s_p5:=Ext.keep sx p5;(try have s_s1:=Ext.keep sx s1);go_simp;try with_reducible rfl)
   try simp only [Act.put,aH]
   refine tkP 12 ?_ ?_ ?_;rotate_left;focus (intro w;go_simp;try with_reducible rfl)
   try simp only [Act.put,aH]
   refine wpAnyH_ready (rs:=[13]) (by kernel_rfl) (by simp) ?_
   refine AllReadyH.cons rfl (fun K hK=>?_) AllReadyH.nil
   (try simp only [aH])
   go_simp
   (have hSw:=hHeld;(try dsimp only at hSw);obtain ⟨bx0,sx⟩:=hSw;have c0_0:=(bx0 0 _ rfl).1;have c0_1:=(bx0 1 _ rfl).1;have c0_2:=(bx0 2 _ rfl).1;have s_ps:=Ext.keep sx ps;have s_p0:=Ext.keep sx p0;have s_p1:=Ext.keep sx p1;have s_p2:=Ext.keep sx p2;have s_p3:=Ext.keep sx p3;have s_p4:=Ext.keep sx p4;have s_p5:=Ext.keep sx p5;(try have s_s1:=Ext.keep sx s1);have s_hV:=hV.ext gU.keeps sx;have s_hB:=dw.keeps _ _ _ _ _ _ (cW.ext sx) hB;have s_hLV:=hLV.ext cH.keeps sx;go_at_call 170;(refine (bP lo hi lo' hi' _ sig _ b _ _ _ s_hV s_hB e2 HR.out (by omega) hC).mono ?_);rintro e y ⟨rfl,hb⟩;rw [Hu.out])
   show K _ _
   refine hK.out _ _ (by (have hh:=hHeld;(try dsimp only at hh);exact ⟨hh.1.ext hb,hh.2.trans hb⟩)) (fun hHeld=>?_)
   clear hK K
   try simp only [Act.put,aH]
   refine tkP 14 ?_ ?_ ?_;rotate_left;focus (intro w;go_simp;try with_reducible rfl)
   try simp only [Act.put,aH]
   refine tkP 15 ?_ ?_ ?_;rotate_left;focus (intro w;go_simp;try with_reducible rfl)
   try simp only [Act.put,aH]
   refine tkP 16 ?_ ?_ ?_;rotate_left;focus (intro w;go_simp;try with_reducible rfl)
   try simp only [Act.put,aH]
   refine tkP 17 ?_ ?_ ?_;rotate_left;focus (intro w;go_simp;try with_reducible rfl)
   try simp only [Act.put,aH]
   refine tkY 18 ?_ ?_ ?_;rotate_left;focus (intro w hSw;(try dsimp only at hSw);obtain ⟨bx0,sx⟩:=hSw;have c0_0:=(bx0 0 _ rfl).1;have c0_1:=(bx0 1 _ rfl).1;have c0_2:=(bx0 2 _ rfl).1;have s_ps:=Ext.keep sx ps;have s_p0:=Ext.keep sx p0;have s_p1:=Ext.keep sx p1;have s_p2:=Ext.keep sx p2;have s_p3:=Ext.keep sx p3;have s_p4:=Ext.keep sx p4;have s_p5:=Ext.keep sx p5;(try have s_s1:=Ext.keep sx s1);go_simp;try with_reducible rfl)
   try simp only [Act.put,aH]
   refine tkP 19 ?_ ?_ ?_;rotate_left;focus (intro w;go_simp;try with_reducible rfl)
   try simp only [Act.put,aH]
   refine tkY 20 ?_ ?_ ?_;rotate_left;focus (intro w hSw;(try dsimp only at hSw);obtain ⟨bx0,sx⟩:=hSw;have c0_0:=(bx0 0 _ rfl).1;have c0_1:=(bx0 1 _ rfl).1;have c0_2:=(bx0 2 _ rfl).1;have s_ps:=Ext.keep sx ps;have s_p0:=Ext.keep sx p0;have s_p1:=Ext.keep sx p1;have s_p2:=Ext.keep sx p2;have s_p3:=Ext.keep sx p3;have s_p4:=Ext.keep sx p4;have s_p5:=Ext.keep sx p5;(try have s_s1:=Ext.keep sx s1);go_simp;try with_reducible rfl)
   try simp only [Act.put,aH]
   refine tkP 21 ?_ ?_ ?_;rotate_left;focus (intro w;go_simp;try with_reducible rfl)
   try simp only [Act.put,aH]
   refine tkY 22 ?_ ?_ ?_;rotate_left;focus (intro w hSw;(try dsimp only at hSw);obtain ⟨bx0,sx⟩:=hSw;have c0_0:=(bx0 0 _ rfl).1;have c0_1:=(bx0 1 _ rfl).1;have c0_2:=(bx0 2 _ rfl).1;have s_ps:=Ext.keep sx ps;have s_p0:=Ext.keep sx p0;have s_p1:=Ext.keep sx p1;have s_p2:=Ext.keep sx p2;have s_p3:=Ext.keep sx p3;have s_p4:=Ext.keep sx p4;have s_p5:=Ext.keep sx p5;(try have s_s1:=Ext.keep sx s1);go_simp;try with_reducible rfl)
   try simp only [Act.put,aH]
   refine tkP 23 ?_ ?_ ?_;rotate_left;focus (intro w;go_simp;try with_reducible rfl)
   try simp only [Act.put,aH]
   refine tkP 24 ?_ ?_ ?_;rotate_left;focus (intro w;go_simp;try with_reducible rfl)
   try simp only [Act.put,aH]
   refine tkY 25 ?_ ?_ ?_;rotate_left;focus (intro w hSw;(try dsimp only at hSw);obtain ⟨bx0,sx⟩:=hSw;have c0_0:=(bx0 0 _ rfl).1;have c0_1:=(bx0 1 _ rfl).1;have c0_2:=(bx0 2 _ rfl).1;have s_ps:=Ext.keep sx ps;have s_p0:=Ext.keep sx p0;have s_p1:=Ext.keep sx p1;have s_p2:=Ext.keep sx p2;have s_p3:=Ext.keep sx p3;have s_p4:=Ext.keep sx p4;have s_p5:=Ext.keep sx p5;(try have s_s1:=Ext.keep sx s1);go_simp;try with_reducible rfl)
   try simp only [Act.put,aH]
   refine tkP 26 ?_ ?_ ?_;rotate_left;focus (intro w;go_simp;try with_reducible rfl)
   try simp only [Act.put,aH]
   refine tkP 27 ?_ ?_ ?_;rotate_left;focus (intro w;go_simp;try with_reducible rfl)
   try simp only [Act.put,aH]
   refine tkP 28 ?_ ?_ ?_;rotate_left;focus (intro w;go_simp;try with_reducible rfl)
   try simp only [Act.put,aH]
   refine tkP 29 ?_ ?_ ?_;rotate_left;focus (intro w;go_simp;try with_reducible rfl)
   try simp only [Act.put,aH]
   refine tkY 30 ?_ ?_ ?_;rotate_left;focus (intro w hSw;(try dsimp only at hSw);obtain ⟨bx0,sx⟩:=hSw;have c0_0:=(bx0 0 _ rfl).1;have c0_1:=(bx0 1 _ rfl).1;have c0_2:=(bx0 2 _ rfl).1;have s_ps:=Ext.keep sx ps;have s_p0:=Ext.keep sx p0;have s_p1:=Ext.keep sx p1;have s_p2:=Ext.keep sx p2;have s_p3:=Ext.keep sx p3;have s_p4:=Ext.keep sx p4;have s_p5:=Ext.keep sx p5;(try have s_s1:=Ext.keep sx s1);go_simp;try with_reducible rfl)
   try simp only [Act.put,aH]
   refine tkP 31 ?_ ?_ ?_;rotate_left;focus (intro w;go_simp;try with_reducible rfl)
   try simp only [Act.put,aH]
   refine wpAnyH_ready (rs:=[32]) (by kernel_rfl) (by simp) ?_
   refine AllReadyH.cons rfl (fun K hK=>?_) AllReadyH.nil
   (try simp only [aH])
   go_simp
   (have hSw:=hHeld;(try dsimp only at hSw);obtain ⟨bx0,sx⟩:=hSw;have c0_0:=(bx0 0 _ rfl).1;have c0_1:=(bx0 1 _ rfl).1;have c0_2:=(bx0 2 _ rfl).1;have s_ps:=Ext.keep sx ps;have s_p0:=Ext.keep sx p0;have s_p1:=Ext.keep sx p1;have s_p2:=Ext.keep sx p2;have s_p3:=Ext.keep sx p3;have s_p4:=Ext.keep sx p4;have s_p5:=Ext.keep sx p5;(try have s_s1:=Ext.keep sx s1);have s_hV:=hV.ext gU.keeps sx;have s_hB:=dw.keeps _ _ _ _ _ _ (cW.ext sx) hB;have s_hLV:=hLV.ext cH.keeps sx;go_at_call 156;(refine (bC lo' hi' (fun l=>!(dy b l)) 171 #[.pointer (some ⟨W0.heap.size,0,none⟩)] _ _ _ s_hLV eg1 (fun j hj cs W hW hP=>g9 lo' hi' W0.heap.size _ b _ W (dw.keeps _ _ _ _ _ _ (cW.ext hW) s_hB) HE.out hol (fun j u hj=>hW.keep (sx.keep (hX1.keep (HBB.out j u hj)))))).mono ?_);rintro e y ⟨rfl,hb⟩;rw [Hk.out])
   show K _ _
   refine hK.out _ _ (by (have hh:=hHeld;(try dsimp only at hh);exact ⟨hh.1.ext hb,hh.2.trans hb⟩)) (fun hHeld=>?_)
   clear hK K
   try simp only [Act.put,aH]
   refine tkP 33 ?_ ?_ ?_;rotate_left;focus (intro w;go_simp;try with_reducible rfl)
   try simp only [Act.put,aH]
   refine wpAnyH_done (by kernel_rfl) ?_ _
   all_goals go_wp2
   all_goals go_roundw
   case rel=>exact ⟨i+1,rfl,by omega,by rw [HS.out,HOK.out,HG.out];rfl,xw⟩
   all_goals (simp only [intOf];omega)
  ·have e:i=b.nodes.length:=by omega
   subst e
   have hC:=mR HOK.out
   replace hS:=hS.ext cH.keeps hx
   replace hI:=hI.ext WrP.keeps hx
   have HSA:=Lib.hid (Ck sig b)
   have HWA:=Lib.hid (Bq b)
   have hans:aw sig b=(b.sites.all (eT sig b) && b.inner.all (go b)):=by unfold aw;rw [HH.out,HOK.out];rfl
   have HN:=Lib.hid hans
   clear hans eg1
   have Hx:=Lib.hid trivial
   cases hz:b.sites.any (fun p=>!(cR sig b p b.nodes.length))
   have Hz:=Lib.hid hz;clear hz
   cases hx:b.inner.any (fun x=>!(dy b x.link))
   have Hx:=Lib.hid hx;clear hx
   have isF:=trivial
   rotate_left
   have Hx:=Lib.hid hx;clear hx
   have isP:=trivial
   rotate_left
   have Hz:=Lib.hid hz;clear hz
   have isP:=trivial
   all_goals go_wp2_with (first|(go_at_call 174;(refine (dD lo' hi' (fun x=>!(dy b x.link)) 175 #[.pointer (some ⟨W0.heap.size,0,none⟩)] _ _ _ hI eg3 (fun j hj cs W hW hP=>k7 lo' hi' W0.heap.size _ b cs _ W (dw.keeps _ _ _ _ _ _ (cW.ext hW) hB) HE.out hol (fun j u hj=>hW.keep (hb.keep (hX1.keep (HBB.out j u hj)))) hP)).mono ?_);rintro e y ⟨rfl,hb⟩;rw [Hx.out];replace ps:=Ext.keep hb ps;replace p0:=Ext.keep hb p0;replace p1:=Ext.keep hb p1;replace p2:=Ext.keep hb p2;replace p3:=Ext.keep hb p3;replace p4:=Ext.keep hb p4;replace p5:=Ext.keep hb p5;replace hV:=hV.ext gU.keeps hb;replace hB:=dw.keeps _ _ _ _ _ _ (cW.ext hb) hB;replace hS:=hS.ext cH.keeps hb;replace hI:=hI.ext WrP.keeps hb)|(go_at_call 156;(refine (bC lo' hi' (fun p=>!(cR sig b p b.nodes.length)) 173 #[.pointer (some ⟨W0.heap.size,0,none⟩),.pointer (some ⟨w.heap.size,0,none⟩)] _ _ _ hS eg2 (fun j hj cs W hW hP=>lD lo' hi' lo hi W0.heap.size w.heap.size _ sig _ b _ W (hV.ext gU.keeps hW) (dw.keeps _ _ _ _ _ _ (cW.ext hW) hB) hP.2 HR.out hC (fun j u hj=>hW.keep (hX1.keep (HBB.out j u hj))) (hW.keep ps))).mono ?_);rintro e y ⟨rfl,hb⟩;rw [Hz.out];replace ps:=Ext.keep hb ps;replace p0:=Ext.keep hb p0;replace p1:=Ext.keep hb p1;replace p2:=Ext.keep hb p2;replace p3:=Ext.keep hb p3;replace p4:=Ext.keep hb p4;replace p5:=Ext.keep hb p5;replace hV:=hV.ext gU.keeps hb;replace hB:=dw.keeps _ _ _ _ _ _ (cW.ext hb) hB;replace hS:=hS.ext cH.keeps hb;replace hI:=hI.ext WrP.keeps hb))
   all_goals first|(have:=isF;go_ret;exact ⟨ap (by rw [HN.out,iR HSA.out,iR HWA.out,Hz.out,Hx.out];rfl),xw⟩)|(have:=isP;go_ret;exact ⟨ap (by rw [HN.out];first|(rw [iR HSA.out,Hz.out];rfl)|(rw [iR HSA.out,iR HWA.out,Hz.out,Hx.out];rfl)),xw⟩)
end Go.Proofs.YtacafmejcdgboaaGreatDoor
namespace Go.Proofs.YtacafmejcdgboaaGreatDoor
open Go.RowKit
set_option linter.unusedVariables false
set_option linter.unusedSimpArgs false
attribute [local irreducible] inR di cT kl de cR dy eT go qD fF aw
def nw (b:Big):Bool:=decide (b.sites.length=0) && decide (b.inner.length=0)
theorem iW (lo' hi':Nat) (cs:List Value) (b:Big) (w:World) (hB:dw lo' hi' w cs b) :
 Calls Tryz.prog 105 #[.agg cs.toArray] w fun e w'=>e=.returned (.bool (nw b))∧Ext w w':=by
 obtain ⟨v1,v2,v4,v5,rfl,r1,r2,hN,hS,hO,hI⟩:=hB
 obtain ⟨a2,k2,rfl,n1,n2,n3,n4⟩:=hS
 obtain ⟨a5,k5,rfl,l1,l2,l3,l4⟩:=hI
 unfold maxLen at n2 l2
 obtain ⟨W0,hW0,hbx,hx0,hz⟩:=bH w [.int .i64 b.roots,v1,.slice a2 b.sites.length k2,.int .i64 b.edges,v4,.slice a5 b.inner.length k5] 46
 have p2:=(hbx 2 _ rfl).1
 have p5:=(hbx 5 _ rfl).1
 clear hz hbx n4 l4
 go_enter Tryz.func105,Tryz.ntmps105
 have Hi:=Lib.hid trivial
 by_cases hs:((b.sites.length:Int))=(0)
 have es:(((b.sites.length:Int)) == (0))=true:=beq_iff_eq.2 hs
 have Hs:=Lib.hid hs;clear hs
 by_cases hi:((b.inner.length:Int))=(0)
 have ei:(((b.inner.length:Int)) == (0))=true:=beq_iff_eq.2 hi
 have Hi:=Lib.hid hi;clear hi
 have isF:=trivial
 rotate_left
 have ei:(((b.inner.length:Int)) == (0))=false:=beq_eq_false_iff_ne.2 hi
 have Hi:=Lib.hid hi;clear hi
 have isP:=trivial
 rotate_left
 have es:(((b.sites.length:Int)) == (0))=false:=beq_eq_false_iff_ne.2 hs
 have Hs:=Lib.hid hs;clear hs
 have isP:=trivial
 all_goals go_wp2_with fail
 all_goals first|(have:=isF;go_ret;exact ⟨ap (by have h1:b.sites.length=0:=(by have:=Hs.out;omega);have h2:b.inner.length=0:=(by have:=Hi.out;omega);unfold nw;rw [decide_eq_true h1,decide_eq_true h2];rfl),xw⟩)|(have:=isP;go_ret;exact ⟨ap (by unfold nw;first|(have h1:¬b.sites.length=0:=(by have:=Hs.out;omega);rw [decide_eq_false h1];rfl)|(have h1:b.sites.length=0:=(by have:=Hs.out;omega);have h2:¬b.inner.length=0:=(by have:=Hi.out;omega);rw [decide_eq_true h1,decide_eq_false h2];rfl)),xw⟩)
set_option maxHeartbeats 1600000 in
theorem oD (lo hi lo' hi':Nat) (v:Value) (sig:List Ctl) (cs:List Value) (b:Big) (w:World) (hV:nM lo hi w v sig) (hB:dw lo' hi' w cs b) (hlen:b.inner.length≤1048576) :
 Calls Tryz.prog 49 #[v,.agg cs.toArray] w fun e w'=>e=.returned (.bool (dN sig b))∧Ext w w':=by
 obtain ⟨v1,v2,v4,v5,rfl,r1,r2,hN,hS,hO,hI⟩:=id hB
 obtain ⟨W0,hW0,hbx,hx0,hz⟩:=bH w [.int .i64 b.roots,v1,v2,.int .i64 b.edges,v4,v5] 46
 have p0:=(hbx 0 _ rfl).1
 have p1:=(hbx 1 _ rfl).1
 have p2:=(hbx 2 _ rfl).1
 have p3:=(hbx 3 _ rfl).1
 have p4:=(hbx 4 _ rfl).1
 have p5:=(hbx 5 _ rfl).1
 clear hz hbx
 replace hV:=hV.ext gU.keeps hx0
 replace hB:=dw.keeps _ _ _ _ _ _ (cW.ext hx0) hB
 have HAG:Hid (dN sig b=(aw sig b && nw b)):=Lib.hid rfl
 go_enter Tryz.func49,Tryz.ntmps49
 have Hc:=Lib.hid trivial
 cases ha:aw sig b
 have Ha:=Lib.hid ha;clear ha
 have isP:=trivial
 rotate_left
 have Ha:=Lib.hid ha;clear ha
 cases hc:nw b
 have Hc:=Lib.hid hc;clear hc
 have isP:=trivial
 rotate_left
 have Hc:=Lib.hid hc;clear hc
 have isF:=trivial
 all_goals go_wp2_with (first|(go_at_call 105;(refine (iW lo' hi' _ b _ hB).mono ?_);rintro e y ⟨rfl,hb⟩;rw [Hc.out];replace p0:=Ext.keep hb p0;replace p1:=Ext.keep hb p1;replace p2:=Ext.keep hb p2;replace p3:=Ext.keep hb p3;replace p4:=Ext.keep hb p4;replace p5:=Ext.keep hb p5;replace hB:=dw.keeps _ _ _ _ _ _ (cW.ext hb) hB)|(go_at_call 104;(refine (eB lo hi lo' hi' _ sig _ b _ hV hB hlen).mono ?_);rintro e y ⟨rfl,hb⟩;rw [Ha.out];replace p0:=Ext.keep hb p0;replace p1:=Ext.keep hb p1;replace p2:=Ext.keep hb p2;replace p3:=Ext.keep hb p3;replace p4:=Ext.keep hb p4;replace p5:=Ext.keep hb p5;replace hB:=dw.keeps _ _ _ _ _ _ (cW.ext hb) hB))
 all_goals first|(have:=isF;go_ret;exact ⟨ap (by rw [HAG.out,Ha.out,Hc.out];rfl),xw⟩)|(have:=isP;go_ret;exact ⟨ap (by rw [HAG.out];first|(rw [Ha.out];rfl)|(rw [Ha.out,Hc.out];rfl)),xw⟩)
set_option maxRecDepth 100000 in
set_option maxHeartbeats 1600000 in
theorem dZ (lo hi lo' hi':Nat) (v:Value) (sig:List Ctl) (cs cs':List Value) (b b':Big) (w:World) (hV:nM lo hi w v sig) (hB:dw lo' hi' w cs b) (hB':dw lo' hi' w cs' b') (hlen:b.inner.length≤1048576) (hlen':b'.inner.length≤1048576) :
 Calls Tryz.prog 185 #[v,.agg cs.toArray,.agg cs'.toArray] w fun e w'=>e=.returned (.bool (aw sig b && aw sig b'))∧Ext w w':=by
 obtain ⟨v1,v2,v4,v5,rfl,r1,r2,hN,hS,hO,hI⟩:=id hB
 obtain ⟨y1,y2,y4,y5,rfl,r1',r2',hN',hS',hO',hI'⟩:=id hB'
 obtain ⟨W0,hW0,hbx,hx0,hz⟩:=bH w [.int .i64 b.roots,v1,v2,.int .i64 b.edges,v4,v5] 46
 obtain ⟨W1,hW1,hbx1,hx1,hz1⟩:=bH W0 [.int .i64 b'.roots,y1,y2,.int .i64 b'.edges,y4,y5] 46
 have p0:=hx1.keep (hbx 0 _ rfl).1
 have p1:=hx1.keep (hbx 1 _ rfl).1
 have p2:=hx1.keep (hbx 2 _ rfl).1
 have p3:=hx1.keep (hbx 3 _ rfl).1
 have p4:=hx1.keep (hbx 4 _ rfl).1
 have p5:=hx1.keep (hbx 5 _ rfl).1
 have s0:=(hbx1 0 _ rfl).1
 have s1:=(hbx1 1 _ rfl).1
 have s2:=(hbx1 2 _ rfl).1
 have s3:=(hbx1 3 _ rfl).1
 have s4:=(hbx1 4 _ rfl).1
 have s5:=(hbx1 5 _ rfl).1
 have hzz:w.heap.size<W0.heap.size:=by omega
 clear hz hbx hz1 hbx1
 have hx:=hx0.trans hx1
 replace hV:=hV.ext gU.keeps hx
 replace hB:=dw.keeps _ _ _ _ _ _ (cW.ext hx) hB
 replace hB':=dw.keeps _ _ _ _ _ _ (cW.ext hx) hB'
 go_enter Tryz.func185,Tryz.ntmps185
 have Hc:=Lib.hid trivial
 cases ha:aw sig b
 have Ha:=Lib.hid ha;clear ha
 have isP:=trivial
 rotate_left
 have Ha:=Lib.hid ha;clear ha
 cases hc:aw sig b'
 have Hc:=Lib.hid hc;clear hc
 have isP:=trivial
 rotate_left
 have Hc:=Lib.hid hc;clear hc
 have isF:=trivial
 all_goals go_wp2_with (first|(go_at_call 104;(with_reducible refine (eB lo hi lo' hi' _ sig [.int .i64 b'.roots,y1,y2,.int .i64 b'.edges,y4,y5] b' _ hV hB' hlen').mono ?_);rintro e y ⟨rfl,hb⟩;rw [Hc.out];replace p0:=Ext.keep hb p0;replace p1:=Ext.keep hb p1;replace p2:=Ext.keep hb p2;replace p3:=Ext.keep hb p3;replace p4:=Ext.keep hb p4;replace p5:=Ext.keep hb p5;replace s0:=Ext.keep hb s0;replace s1:=Ext.keep hb s1;replace s2:=Ext.keep hb s2;replace s3:=Ext.keep hb s3;replace s4:=Ext.keep hb s4;replace s5:=Ext.keep hb s5;replace hV:=hV.ext gU.keeps hb;replace hB':=dw.keeps _ _ _ _ _ _ (cW.ext hb) hB')|(go_at_call 104;(with_reducible refine (eB lo hi lo' hi' _ sig [.int .i64 b.roots,v1,v2,.int .i64 b.edges,v4,v5] b _ hV hB hlen).mono ?_);rintro e y ⟨rfl,hb⟩;rw [Ha.out];replace p0:=Ext.keep hb p0;replace p1:=Ext.keep hb p1;replace p2:=Ext.keep hb p2;replace p3:=Ext.keep hb p3;replace p4:=Ext.keep hb p4;replace p5:=Ext.keep hb p5;replace s0:=Ext.keep hb s0;replace s1:=Ext.keep hb s1;replace s2:=Ext.keep hb s2;replace s3:=Ext.keep hb s3;replace s4:=Ext.keep hb s4;replace s5:=Ext.keep hb s5;replace hV:=hV.ext gU.keeps hb;replace hB':=dw.keeps _ _ _ _ _ _ (cW.ext hb) hB'))
 all_goals (go_ret;exact ⟨ap (by rfl),xw⟩)
end Go.Proofs.YtacafmejcdgboaaGreatDoor
namespace Go.Proofs.YtacafmejcdgboaaGreatDoor
open Go.RowKit
set_option linter.unusedVariables false
set_option linter.unusedSimpArgs false
def jH (a c:List ByteArray) (i:Nat):Bool:=li (a.getD i ⟨#[]⟩) (c.getD i ⟨#[]⟩)
def eqS (a c:List ByteArray):Bool:=decide (a.length=c.length) && (List.range a.length).all (jH a c)
theorem jr (a c:List ByteArray) (i:Nat) (h1:i<a.length) (h2:i<c.length):jH a c i=(a[i].toList == c[i].toList):=by
 unfold jH li
 rw [List.getD_eq_getElem?_getD,List.getD_eq_getElem?_getD,List.getElem?_eq_getElem h1,List.getElem?_eq_getElem h2];rfl
theorem qc {a c:List ByteArray} (i:Nat) (h1:i<a.length) (h:jH a c i=false):eqS a c=false:=by
 unfold eqS;rw [aK _ _ i h1 h];simp
theorem qd {a c:List ByteArray} (h:¬(a.length:Int)=(c.length:Int)):eqS a c=false:=by
 unfold eqS;rw [decide_eq_false (by omega)];rfl
theorem xY {a c:List ByteArray} (h:(a.length:Int)=(c.length:Int)) (hh:(List.range a.length).all (jH a c)=true):eqS a c=true:=by
 unfold eqS;rw [decide_eq_true (by omega),hh];rfl
attribute [local irreducible] inR di cT eI bq aE iP jf gj cS cY dS aw jH
set_option maxHeartbeats 1600000 in
theorem dI (lo hi lo' hi':Nat) (v v':Value) (a c:List ByteArray) (w:World) (h:yO lo hi w v a) (h':yO lo' hi' w v' c) :
 Calls Tryz.prog 187 #[v,v'] w fun e w'=>e=.returned (.bool (eqS a c))∧Ext w w':=by
 obtain ⟨ua,k,rfl,g1,g2,g3,g4⟩:=h
 obtain ⟨ua',k',rfl,m1,m2,m3,m4⟩:=h'
 unfold maxLen at g2 m2
 by_cases hl:(a.length:Int)=(c.length:Int)
 ·have el:((a.length:Int) != (c.length:Int))=false:=bne_eq_false_iff_eq.2 hl
  have HL:=Lib.hid hl
  clear hl
  go_enter Tryz.func187,Tryz.ntmps187
  go_wp2
  go_loopw [13] (fun c' wr=>∃i:Nat,c'=.int .i64 i∧i≤a.length∧(List.range i).all (jH a c)=true∧Ext w wr) (fun c' _=>a.length - (intOf c').toNat)
  case atStart=>exact ⟨0,rfl,Nat.zero_le _,rfl,xw⟩
  case round=>
   obtain ⟨i,rfl,hi0,hok,hx⟩:=hrel
   have HOK:=Lib.hid hok
   clear hok
   by_cases hlt:i<a.length
   ·have hlt2:i<c.length:=by have:=HL.out;omega
    have HS:=Lib.hid (bL (jH a c) i)
    have HBD:=Lib.hid (qc (c:=c) i hlt)
    have HA:=Lib.hid (jr a c i hlt hlt2)
    rcases g4 with g4|⟨b1,o1,rfl,gb1,gb2,g4⟩
    ·subst g4;simp at hlt
    rcases m4 with m4|⟨b2,o2,rfl,mb1,mb2,m4⟩
    ·subst m4;simp at hlt2
    obtain ⟨cs,hl,⟨rfl,e1⟩,hc⟩:=g4 i hlt
    have q0:=hx.keep (hc 0 _ rfl)
    rw [Nat.mul_one,Nat.add_zero] at q0
    obtain ⟨ds,hdl,⟨rfl,d1⟩,hd⟩:=m4 i hlt2
    have r0:=hx.keep (hd 0 _ rfl)
    rw [Nat.mul_one,Nat.add_zero] at r0
    clear hc hd g4 m4
    have j0:(0:Int)≤(i:Int):=by omega
    have j1:(i:Int)<(a.length:Int):=by omega
    have j2:(i:Int)<(c.length:Int):=by omega
    cases hb:(a[i].toList == c[i].toList)
    have Hb:=Lib.hid hb
    have HB:=Lib.hid (HBD.out (by rw [HA.out];exact Hb.out))
    have isF:=trivial
    rotate_left
    have Hb:=Lib.hid hb
    have isP:=trivial
    all_goals go_wp2_with fail
    all_goals
     refine wp_region_held_drew (S:=(fun w'=>Ext wr w')) (by kernel_rfl) ?_ (fun hHeld=>?_)
     ·refine xw
     refine tkP 0 ?_ ?_ ?_;rotate_left;focus (intro w;go_simp;try with_reducible rfl)
     try simp only [Act.put,aH]
     refine tkP 1 ?_ ?_ ?_;rotate_left;focus (intro w;go_simp;try with_reducible rfl)
     try simp only [Act.put,aH]
     refine tkP 2 ?_ ?_ ?_;rotate_left;focus (intro w;go_simp;try with_reducible rfl)
     try simp only [Act.put,aH]
     refine tkY 3 ?_ ?_ ?_;rotate_left;focus (intro w hSw;(try dsimp only at hSw);have sx:=hSw;have s_q0:=Ext.keep sx q0;have s_r0:=Ext.keep sx r0;go_simp;try with_reducible rfl)
     try simp only [Act.put,aH]
     refine tkP 4 ?_ ?_ ?_;rotate_left;focus (intro w;go_simp;try with_reducible rfl)
     try simp only [Act.put,aH]
     refine tkP 5 ?_ ?_ ?_;rotate_left;focus (intro w;go_simp;try with_reducible rfl)
     try simp only [Act.put,aH]
     refine tkP 6 ?_ ?_ ?_;rotate_left;focus (intro w;go_simp;try with_reducible rfl)
     try simp only [Act.put,aH]
     refine tkY 7 ?_ ?_ ?_;rotate_left;focus (intro w hSw;(try dsimp only at hSw);have sx:=hSw;have s_q0:=Ext.keep sx q0;have s_r0:=Ext.keep sx r0;go_simp;try with_reducible rfl)
     try simp only [Act.put,aH]
     refine tkP 8 ?_ ?_ ?_;rotate_left;focus (intro w;go_simp;try with_reducible rfl)
     try simp only [Act.put,aH]
     refine wpAnyH_done (by kernel_rfl) ?_ _
    all_goals go_wp2
    all_goals first|(have:=isF;all_goals go_ret;all_goals exact ⟨ap HB.out.symm,xw⟩)|(have:=isP;all_goals go_roundw;(case rel=>exact ⟨i+1,rfl,by omega,by rw [HS.out,HOK.out,HA.out,Hb.out];rfl,xw⟩);all_goals (simp only [intOf];omega))
   ·have e:i=a.length:=by omega
    subst e
    go_wp2
    go_ret
    exact ⟨ap (xY HL.out HOK.out).symm,xw⟩
 ·have el:((a.length:Int) != (c.length:Int))=true:=bne_iff_ne.2 hl
  have HB:=Lib.hid (qd hl)
  clear hl
  go_enter Tryz.func187,Tryz.ntmps187
  go_wp2
  go_ret
  exact ⟨ap HB.out.symm,xw⟩
end Go.Proofs.YtacafmejcdgboaaGreatDoor
namespace Go.Proofs.YtacafmejcdgboaaGreatDoor
open Go.RowKit
set_option linter.unusedVariables false
set_option linter.unusedSimpArgs false
def iG (r:Rul) (x:Int):Bool:=inR x 0 ((r.redex.sites.length:Int) - 1)
def gx (sig:List Ctl) (r:Rul):Bool:=(aw sig r.redex && aw sig r.reactum) && (cD r.redex && (decide (r.reactum.inner.length=0) && (decide (r.redex.roots=r.reactum.roots) && (eqS r.redex.outer r.reactum.outer && (decide (r.copies.length=r.reactum.sites.length) && r.copies.all (iG r))))))
def fU (sig:List Ctl) (l:List Rul):Bool:=inR (l.length:Int) 1 6 && l.all (gx sig)
theorem CE (r:Rul):r.copies.any (fun x=>!(inR x 0 ((r.redex.sites.length:Int) - 1))) = !(r.copies.all (iG r)):=iv (iG r) r.copies
theorem Cm (sig:List Ctl) (l:List Rul):l.any (fun r=>!(gx sig r)) = !(l.all (gx sig)):=iv (gx sig) l
theorem xz {sig:List Ctl} {l:List Rul} (h:fU sig l=true):kl sig=true:=by
 unfold fU at h
 rw [Bool.and_eq_true] at h
 have h1:=cA h.1
 cases l with
 | nil=>simp at h1
 | cons r l=>
  rw [List.all_cons,Bool.and_eq_true] at h
  have h2:=h.2.1
  unfold gx at h2
  simp only [Bool.and_eq_true] at h2
  exact (eM (cZ h2.1.1).1).1
theorem kb {sig:List Ctl} {r:Rul} (h:(aw sig r.redex && aw sig r.reactum)=false∨cD r.redex=false∨¬r.reactum.inner.length=0∨¬r.redex.roots=r.reactum.roots∨eqS r.redex.outer r.reactum.outer=false∨¬(r.copies.length:Int)=r.reactum.sites.length∨r.copies.all (iG r)=false):gx sig r=false:=by
 unfold gx
 rcases h with h|h|h|h|h|h|h
 ·rw [h];rfl
 ·rw [h];simp
 ·rw [decide_eq_false h];simp
 ·rw [decide_eq_false h];simp
 ·rw [h];simp
 ·rw [decide_eq_false (show ¬r.copies.length=r.reactum.sites.length by omega)];simp
 ·rw [h];simp
theorem zg {sig:List Ctl} {r:Rul} (a:(aw sig r.redex && aw sig r.reactum)=true) (b:cD r.redex=true) (c:r.reactum.inner.length=0) (d:r.redex.roots=r.reactum.roots) (e:eqS r.redex.outer r.reactum.outer=true) (f:(r.copies.length:Int)=r.reactum.sites.length) (g:r.copies.all (iG r)=true):gx sig r=true:=by
 unfold gx
 rw [a,b,decide_eq_true c,decide_eq_true d,e,decide_eq_true (show r.copies.length=r.reactum.sites.length by omega),g];rfl
attribute [local irreducible] inR di kl aw cD eqS iG gx
theorem nD (x:Int) (B:Nat) (a:Option Addr) (n k:Nat) (w:World) (hn:n≤1000000) (hc:w.cell? ⟨B,2,none⟩=some (.slice a n k)) :
 Calls Tryz.prog 188 #[.int .i64 x,.pointer (some ⟨B,0,none⟩)] w fun e w'=>e=.returned (.bool (!(inR x 0 ((n:Int) - 1))))∧Ext w w':=by
 have hw:=IntWalk.i64_in ((n:Int) - 1) (by omega)
 go_enter Tryz.func188,Tryz.ntmps188
 go_wp2_with (go_at_call 100;refine (aL _ _ _ _).mono ?_;rintro e w' ⟨rfl,rfl⟩)
 go_ret
 exact ⟨rfl,xw⟩
set_option maxRecDepth 100000 in
set_option maxHeartbeats 3200000 in
theorem pX (lo hi lo' hi':Nat) (v:Value) (sig:List Ctl) (cs:List Value) (r:Rul) (w:World) (hV:nM lo hi w v sig) (h:sM lo' hi' w cs r) (hl1:r.redex.inner.length≤1048576) (hl2:r.reactum.inner.length≤1048576) :
 Calls Tryz.prog 116 #[v,.agg cs.toArray] w fun e w'=>e=.returned (.bool (gx sig r))∧Ext w w':=by
 obtain ⟨c1,c2,vc,rfl,hB1,hB2,hC⟩:=h
 obtain ⟨v1,v2,v4,v5,rfl,r1,r2,hN1,hS1,hO1,hI1⟩:=id hB1
 obtain ⟨y1,y2,y4,y5,rfl,r3,r4,hN2,hS2,hO2,hI2⟩:=id hB2
 obtain ⟨a2,k2,rfl,n1,n2,n3,n4⟩:=id hS1
 obtain ⟨b2,l2,rfl,m1,m2,m3,m4⟩:=id hS2
 obtain ⟨b5,l5,rfl,o1,o2,o3,o4⟩:=id hI2
 obtain ⟨a6,k6,rfl,q1,q2,q3,q4⟩:=id hC
 unfold maxLen at n2 m2 o2 q2
 obtain ⟨W0,hW0,hbx,hx0,hz⟩:=bH w [.int .i64 r.redex.roots,v1,.slice a2 r.redex.sites.length k2,.int .i64 r.redex.edges,v4,v5,.int .i64 r.reactum.roots,y1,.slice b2 r.reactum.sites.length l2,.int .i64 r.reactum.edges,y4,.slice b5 r.reactum.inner.length l5,.slice a6 r.copies.length k6] 89
 have p0:=(hbx 0 _ rfl).1
 have p1:=(hbx 1 _ rfl).1
 have p2:=(hbx 2 _ rfl).1
 have p3:=(hbx 3 _ rfl).1
 have p4:=(hbx 4 _ rfl).1
 have p5:=(hbx 5 _ rfl).1
 have p6:=(hbx 6 _ rfl).1
 have p7:=(hbx 7 _ rfl).1
 have p8:=(hbx 8 _ rfl).1
 have p9:=(hbx 9 _ rfl).1
 have p10:=(hbx 10 _ rfl).1
 have p11:=(hbx 11 _ rfl).1
 have p12:=(hbx 12 _ rfl).1
 clear hz
 replace hB1:=dw.keeps _ _ _ _ _ _ (cW.ext hx0) hB1
 replace hB2:=dw.keeps _ _ _ _ _ _ (cW.ext hx0) hB2
 replace hO1:=hO1.ext dV.keeps hx0
 replace hO2:=hO2.ext dV.keeps hx0
 replace hC:=hC.ext cH.keeps hx0
 replace hV:=hV.ext gU.keeps hx0
 have eg1:∀args w,(callFunc 188 args).run Tryz.prog w=.ok (.enter 188 args) w:=enters_of Tryz.func188 (by kernel_rfl) rfl
 have HCA:=Lib.hid (CE r)
 clear hbx
 change Calls Tryz.prog 116 #[v,.agg #[.int .i64 r.redex.roots,v1,.slice a2 r.redex.sites.length k2,.int .i64 r.redex.edges,v4,v5,.int .i64 r.reactum.roots,y1,.slice b2 r.reactum.sites.length l2,.int .i64 r.reactum.edges,y4,.slice b5 r.reactum.inner.length l5,.slice a6 r.copies.length k6]] w _
 go_enter Tryz.func116,Tryz.ntmps116
 cases ha:(aw sig r.redex && aw sig r.reactum)
 ·have Ha:=Lib.hid ha
  clear ha
  go_wp2_with (first|(go_at_call 185;(refine (dZ lo hi lo' hi' _ sig [.int .i64 r.redex.roots,v1,.slice a2 r.redex.sites.length k2,.int .i64 r.redex.edges,v4,v5] [.int .i64 r.reactum.roots,y1,.slice b2 r.reactum.sites.length l2,.int .i64 r.reactum.edges,y4,.slice b5 r.reactum.inner.length l5] r.redex r.reactum _ hV hB1 hB2 hl1 hl2).mono ?_);rintro e y ⟨rfl,hb⟩;rw [Ha.out];replace p0:=Ext.keep hb p0;replace p1:=Ext.keep hb p1;replace p2:=Ext.keep hb p2;replace p3:=Ext.keep hb p3;replace p4:=Ext.keep hb p4;replace p5:=Ext.keep hb p5;replace p6:=Ext.keep hb p6;replace p7:=Ext.keep hb p7;replace p8:=Ext.keep hb p8;replace p9:=Ext.keep hb p9;replace p10:=Ext.keep hb p10;replace p11:=Ext.keep hb p11;replace p12:=Ext.keep hb p12;replace hB1:=dw.keeps _ _ _ _ _ _ (cW.ext hb) hB1;replace hO1:=hO1.ext dV.keeps hb;replace hO2:=hO2.ext dV.keeps hb;replace hC:=hC.ext cH.keeps hb))
  go_ret
  exact ⟨ap (kb (by first|(left;exact Ha.out)|(right;left;exact Hs.out)|(right;right;left;omega)|(right;right;right;left;exact Ho.out)|(right;right;right;right;left;exact He.out))).symm,xw⟩
 have Ha:=Lib.hid ha
 clear ha
 have hbb:=Bool.and_eq_true_iff.1 Ha.out;have D1:=Lib.hid (bw hbb.1);have hsl:r.redex.sites.length≤1000:=D1.out.sites;clear hbb
 cases hs:cD r.redex
 ·have Hs:=Lib.hid hs
  clear hs
  go_wp2_with (first|(go_at_call 186;(refine (ex lo' hi' [.int .i64 r.redex.roots,v1,.slice a2 r.redex.sites.length k2,.int .i64 r.redex.edges,v4,v5] r.redex _ hB1 D1.out).mono ?_);rintro e y ⟨rfl,hb⟩;rw [Hs.out];replace p0:=Ext.keep hb p0;replace p1:=Ext.keep hb p1;replace p2:=Ext.keep hb p2;replace p3:=Ext.keep hb p3;replace p4:=Ext.keep hb p4;replace p5:=Ext.keep hb p5;replace p6:=Ext.keep hb p6;replace p7:=Ext.keep hb p7;replace p8:=Ext.keep hb p8;replace p9:=Ext.keep hb p9;replace p10:=Ext.keep hb p10;replace p11:=Ext.keep hb p11;replace p12:=Ext.keep hb p12;replace hB1:=dw.keeps _ _ _ _ _ _ (cW.ext hb) hB1;replace hO1:=hO1.ext dV.keeps hb;replace hO2:=hO2.ext dV.keeps hb;replace hC:=hC.ext cH.keeps hb)|(go_at_call 185;(refine (dZ lo hi lo' hi' _ sig [.int .i64 r.redex.roots,v1,.slice a2 r.redex.sites.length k2,.int .i64 r.redex.edges,v4,v5] [.int .i64 r.reactum.roots,y1,.slice b2 r.reactum.sites.length l2,.int .i64 r.reactum.edges,y4,.slice b5 r.reactum.inner.length l5] r.redex r.reactum _ hV hB1 hB2 hl1 hl2).mono ?_);rintro e y ⟨rfl,hb⟩;rw [Ha.out];replace p0:=Ext.keep hb p0;replace p1:=Ext.keep hb p1;replace p2:=Ext.keep hb p2;replace p3:=Ext.keep hb p3;replace p4:=Ext.keep hb p4;replace p5:=Ext.keep hb p5;replace p6:=Ext.keep hb p6;replace p7:=Ext.keep hb p7;replace p8:=Ext.keep hb p8;replace p9:=Ext.keep hb p9;replace p10:=Ext.keep hb p10;replace p11:=Ext.keep hb p11;replace p12:=Ext.keep hb p12;replace hB1:=dw.keeps _ _ _ _ _ _ (cW.ext hb) hB1;replace hO1:=hO1.ext dV.keeps hb;replace hO2:=hO2.ext dV.keeps hb;replace hC:=hC.ext cH.keeps hb))
  go_ret
  exact ⟨ap (kb (by first|(left;exact Ha.out)|(right;left;exact Hs.out)|(right;right;left;omega)|(right;right;right;left;exact Ho.out)|(right;right;right;right;left;exact He.out))).symm,xw⟩
 have Hs:=Lib.hid hs
 clear hs
 by_cases hn:0<r.reactum.inner.length
 ·have en:decide (0<r.reactum.inner.length)=true:=decide_eq_true hn
  go_wp2_with (first|(go_at_call 186;(refine (ex lo' hi' [.int .i64 r.redex.roots,v1,.slice a2 r.redex.sites.length k2,.int .i64 r.redex.edges,v4,v5] r.redex _ hB1 D1.out).mono ?_);rintro e y ⟨rfl,hb⟩;rw [Hs.out];replace p0:=Ext.keep hb p0;replace p1:=Ext.keep hb p1;replace p2:=Ext.keep hb p2;replace p3:=Ext.keep hb p3;replace p4:=Ext.keep hb p4;replace p5:=Ext.keep hb p5;replace p6:=Ext.keep hb p6;replace p7:=Ext.keep hb p7;replace p8:=Ext.keep hb p8;replace p9:=Ext.keep hb p9;replace p10:=Ext.keep hb p10;replace p11:=Ext.keep hb p11;replace p12:=Ext.keep hb p12;replace hB1:=dw.keeps _ _ _ _ _ _ (cW.ext hb) hB1;replace hO1:=hO1.ext dV.keeps hb;replace hO2:=hO2.ext dV.keeps hb;replace hC:=hC.ext cH.keeps hb)|(go_at_call 185;(refine (dZ lo hi lo' hi' _ sig [.int .i64 r.redex.roots,v1,.slice a2 r.redex.sites.length k2,.int .i64 r.redex.edges,v4,v5] [.int .i64 r.reactum.roots,y1,.slice b2 r.reactum.sites.length l2,.int .i64 r.reactum.edges,y4,.slice b5 r.reactum.inner.length l5] r.redex r.reactum _ hV hB1 hB2 hl1 hl2).mono ?_);rintro e y ⟨rfl,hb⟩;rw [Ha.out];replace p0:=Ext.keep hb p0;replace p1:=Ext.keep hb p1;replace p2:=Ext.keep hb p2;replace p3:=Ext.keep hb p3;replace p4:=Ext.keep hb p4;replace p5:=Ext.keep hb p5;replace p6:=Ext.keep hb p6;replace p7:=Ext.keep hb p7;replace p8:=Ext.keep hb p8;replace p9:=Ext.keep hb p9;replace p10:=Ext.keep hb p10;replace p11:=Ext.keep hb p11;replace p12:=Ext.keep hb p12;replace hB1:=dw.keeps _ _ _ _ _ _ (cW.ext hb) hB1;replace hO1:=hO1.ext dV.keeps hb;replace hO2:=hO2.ext dV.keeps hb;replace hC:=hC.ext cH.keeps hb))
  go_ret
  exact ⟨ap (kb (by first|(left;exact Ha.out)|(right;left;exact Hs.out)|(right;right;left;omega)|(right;right;right;left;exact Ho.out)|(right;right;right;right;left;exact He.out))).symm,xw⟩
 have en:decide (0<r.reactum.inner.length)=false:=decide_eq_false hn
 by_cases ho:(r.redex.roots)=(r.reactum.roots)
 rotate_left
 ·have eo:((r.redex.roots) != (r.reactum.roots))=true:=bne_iff_ne.2 ho
  have Ho:=Lib.hid ho
  clear ho
  go_wp2_with (first|(go_at_call 186;(refine (ex lo' hi' [.int .i64 r.redex.roots,v1,.slice a2 r.redex.sites.length k2,.int .i64 r.redex.edges,v4,v5] r.redex _ hB1 D1.out).mono ?_);rintro e y ⟨rfl,hb⟩;rw [Hs.out];replace p0:=Ext.keep hb p0;replace p1:=Ext.keep hb p1;replace p2:=Ext.keep hb p2;replace p3:=Ext.keep hb p3;replace p4:=Ext.keep hb p4;replace p5:=Ext.keep hb p5;replace p6:=Ext.keep hb p6;replace p7:=Ext.keep hb p7;replace p8:=Ext.keep hb p8;replace p9:=Ext.keep hb p9;replace p10:=Ext.keep hb p10;replace p11:=Ext.keep hb p11;replace p12:=Ext.keep hb p12;replace hB1:=dw.keeps _ _ _ _ _ _ (cW.ext hb) hB1;replace hO1:=hO1.ext dV.keeps hb;replace hO2:=hO2.ext dV.keeps hb;replace hC:=hC.ext cH.keeps hb)|(go_at_call 185;(refine (dZ lo hi lo' hi' _ sig [.int .i64 r.redex.roots,v1,.slice a2 r.redex.sites.length k2,.int .i64 r.redex.edges,v4,v5] [.int .i64 r.reactum.roots,y1,.slice b2 r.reactum.sites.length l2,.int .i64 r.reactum.edges,y4,.slice b5 r.reactum.inner.length l5] r.redex r.reactum _ hV hB1 hB2 hl1 hl2).mono ?_);rintro e y ⟨rfl,hb⟩;rw [Ha.out];replace p0:=Ext.keep hb p0;replace p1:=Ext.keep hb p1;replace p2:=Ext.keep hb p2;replace p3:=Ext.keep hb p3;replace p4:=Ext.keep hb p4;replace p5:=Ext.keep hb p5;replace p6:=Ext.keep hb p6;replace p7:=Ext.keep hb p7;replace p8:=Ext.keep hb p8;replace p9:=Ext.keep hb p9;replace p10:=Ext.keep hb p10;replace p11:=Ext.keep hb p11;replace p12:=Ext.keep hb p12;replace hB1:=dw.keeps _ _ _ _ _ _ (cW.ext hb) hB1;replace hO1:=hO1.ext dV.keeps hb;replace hO2:=hO2.ext dV.keeps hb;replace hC:=hC.ext cH.keeps hb))
  go_ret
  exact ⟨ap (kb (by first|(left;exact Ha.out)|(right;left;exact Hs.out)|(right;right;left;omega)|(right;right;right;left;exact Ho.out)|(right;right;right;right;left;exact He.out))).symm,xw⟩
 have eo:((r.redex.roots) != (r.reactum.roots))=false:=bne_eq_false_iff_eq.2 ho
 have Ho:=Lib.hid ho
 clear ho
 cases he:eqS r.redex.outer r.reactum.outer
 ·have He:=Lib.hid he
  clear he
  go_wp2_with (first|(go_at_call 187;(refine (dI lo' hi' lo' hi' _ _ _ _ _ hO1 hO2).mono ?_);rintro e y ⟨rfl,hb⟩;rw [He.out];replace p0:=Ext.keep hb p0;replace p1:=Ext.keep hb p1;replace p2:=Ext.keep hb p2;replace p3:=Ext.keep hb p3;replace p4:=Ext.keep hb p4;replace p5:=Ext.keep hb p5;replace p6:=Ext.keep hb p6;replace p7:=Ext.keep hb p7;replace p8:=Ext.keep hb p8;replace p9:=Ext.keep hb p9;replace p10:=Ext.keep hb p10;replace p11:=Ext.keep hb p11;replace p12:=Ext.keep hb p12;replace hB1:=dw.keeps _ _ _ _ _ _ (cW.ext hb) hB1;replace hO1:=hO1.ext dV.keeps hb;replace hO2:=hO2.ext dV.keeps hb;replace hC:=hC.ext cH.keeps hb)|(go_at_call 186;(refine (ex lo' hi' [.int .i64 r.redex.roots,v1,.slice a2 r.redex.sites.length k2,.int .i64 r.redex.edges,v4,v5] r.redex _ hB1 D1.out).mono ?_);rintro e y ⟨rfl,hb⟩;rw [Hs.out];replace p0:=Ext.keep hb p0;replace p1:=Ext.keep hb p1;replace p2:=Ext.keep hb p2;replace p3:=Ext.keep hb p3;replace p4:=Ext.keep hb p4;replace p5:=Ext.keep hb p5;replace p6:=Ext.keep hb p6;replace p7:=Ext.keep hb p7;replace p8:=Ext.keep hb p8;replace p9:=Ext.keep hb p9;replace p10:=Ext.keep hb p10;replace p11:=Ext.keep hb p11;replace p12:=Ext.keep hb p12;replace hB1:=dw.keeps _ _ _ _ _ _ (cW.ext hb) hB1;replace hO1:=hO1.ext dV.keeps hb;replace hO2:=hO2.ext dV.keeps hb;replace hC:=hC.ext cH.keeps hb)|(go_at_call 185;(refine (dZ lo hi lo' hi' _ sig [.int .i64 r.redex.roots,v1,.slice a2 r.redex.sites.length k2,.int .i64 r.redex.edges,v4,v5] [.int .i64 r.reactum.roots,y1,.slice b2 r.reactum.sites.length l2,.int .i64 r.reactum.edges,y4,.slice b5 r.reactum.inner.length l5] r.redex r.reactum _ hV hB1 hB2 hl1 hl2).mono ?_);rintro e y ⟨rfl,hb⟩;rw [Ha.out];replace p0:=Ext.keep hb p0;replace p1:=Ext.keep hb p1;replace p2:=Ext.keep hb p2;replace p3:=Ext.keep hb p3;replace p4:=Ext.keep hb p4;replace p5:=Ext.keep hb p5;replace p6:=Ext.keep hb p6;replace p7:=Ext.keep hb p7;replace p8:=Ext.keep hb p8;replace p9:=Ext.keep hb p9;replace p10:=Ext.keep hb p10;replace p11:=Ext.keep hb p11;replace p12:=Ext.keep hb p12;replace hB1:=dw.keeps _ _ _ _ _ _ (cW.ext hb) hB1;replace hO1:=hO1.ext dV.keeps hb;replace hO2:=hO2.ext dV.keeps hb;replace hC:=hC.ext cH.keeps hb))
  go_ret
  exact ⟨ap (kb (by first|(left;exact Ha.out)|(right;left;exact Hs.out)|(right;right;left;omega)|(right;right;right;left;exact Ho.out)|(right;right;right;right;left;exact He.out))).symm,xw⟩
 have He:=Lib.hid he
 clear he
 go_upto_region 3 with (first|(go_at_call 187;(refine (dI lo' hi' lo' hi' _ _ _ _ _ hO1 hO2).mono ?_);rintro e y ⟨rfl,hb⟩;rw [He.out];replace p0:=Ext.keep hb p0;replace p1:=Ext.keep hb p1;replace p2:=Ext.keep hb p2;replace p3:=Ext.keep hb p3;replace p4:=Ext.keep hb p4;replace p5:=Ext.keep hb p5;replace p6:=Ext.keep hb p6;replace p7:=Ext.keep hb p7;replace p8:=Ext.keep hb p8;replace p9:=Ext.keep hb p9;replace p10:=Ext.keep hb p10;replace p11:=Ext.keep hb p11;replace p12:=Ext.keep hb p12;replace hB1:=dw.keeps _ _ _ _ _ _ (cW.ext hb) hB1;replace hO1:=hO1.ext dV.keeps hb;replace hO2:=hO2.ext dV.keeps hb;replace hC:=hC.ext cH.keeps hb)|(go_at_call 186;(refine (ex lo' hi' [.int .i64 r.redex.roots,v1,.slice a2 r.redex.sites.length k2,.int .i64 r.redex.edges,v4,v5] r.redex _ hB1 D1.out).mono ?_);rintro e y ⟨rfl,hb⟩;rw [Hs.out];replace p0:=Ext.keep hb p0;replace p1:=Ext.keep hb p1;replace p2:=Ext.keep hb p2;replace p3:=Ext.keep hb p3;replace p4:=Ext.keep hb p4;replace p5:=Ext.keep hb p5;replace p6:=Ext.keep hb p6;replace p7:=Ext.keep hb p7;replace p8:=Ext.keep hb p8;replace p9:=Ext.keep hb p9;replace p10:=Ext.keep hb p10;replace p11:=Ext.keep hb p11;replace p12:=Ext.keep hb p12;replace hB1:=dw.keeps _ _ _ _ _ _ (cW.ext hb) hB1;replace hO1:=hO1.ext dV.keeps hb;replace hO2:=hO2.ext dV.keeps hb;replace hC:=hC.ext cH.keeps hb)|(go_at_call 185;(refine (dZ lo hi lo' hi' _ sig [.int .i64 r.redex.roots,v1,.slice a2 r.redex.sites.length k2,.int .i64 r.redex.edges,v4,v5] [.int .i64 r.reactum.roots,y1,.slice b2 r.reactum.sites.length l2,.int .i64 r.reactum.edges,y4,.slice b5 r.reactum.inner.length l5] r.redex r.reactum _ hV hB1 hB2 hl1 hl2).mono ?_);rintro e y ⟨rfl,hb⟩;rw [Ha.out];replace p0:=Ext.keep hb p0;replace p1:=Ext.keep hb p1;replace p2:=Ext.keep hb p2;replace p3:=Ext.keep hb p3;replace p4:=Ext.keep hb p4;replace p5:=Ext.keep hb p5;replace p6:=Ext.keep hb p6;replace p7:=Ext.keep hb p7;replace p8:=Ext.keep hb p8;replace p9:=Ext.keep hb p9;replace p10:=Ext.keep hb p10;replace p11:=Ext.keep hb p11;replace p12:=Ext.keep hb p12;replace hB1:=dw.keeps _ _ _ _ _ _ (cW.ext hb) hB1;replace hO1:=hO1.ext dV.keeps hb;replace hO2:=hO2.ext dV.keeps hb;replace hC:=hC.ext cH.keeps hb))
 have Hk:=Lib.hid trivial
 by_cases hc:((r.copies.length:Int))=((r.reactum.sites.length:Int))
 have ec:(((r.copies.length:Int)) == ((r.reactum.sites.length:Int)))=true:=beq_iff_eq.2 hc
 have Hc:=Lib.hid hc;clear hc
 cases hk:r.copies.any (fun x=>!(inR x 0 ((r.redex.sites.length:Int) - 1)))
 have Hk:=Lib.hid hk;clear hk
 have isF:=trivial
 rotate_left
 have Hk:=Lib.hid hk;clear hk
 have isP:=trivial
 rotate_left
 have ec:(((r.copies.length:Int)) == ((r.reactum.sites.length:Int)))=false:=beq_eq_false_iff_ne.2 hc
 have Hc:=Lib.hid hc;clear hc
 have isP:=trivial
 all_goals go_wp2_with (first|(go_at_call 156;(refine (bC lo' hi' (fun x=>!(inR x 0 ((r.redex.sites.length:Int) - 1))) 188 #[.pointer (some ⟨w.heap.size,0,none⟩)] _ _ _ hC eg1 (fun i hi cs W hW hP=>nD _ _ _ _ _ W (by omega) (hW.keep p2))).mono ?_);rintro e y ⟨rfl,hb⟩;rw [Hk.out];replace p0:=Ext.keep hb p0;replace p1:=Ext.keep hb p1;replace p2:=Ext.keep hb p2;replace p3:=Ext.keep hb p3;replace p4:=Ext.keep hb p4;replace p5:=Ext.keep hb p5;replace p6:=Ext.keep hb p6;replace p7:=Ext.keep hb p7;replace p8:=Ext.keep hb p8;replace p9:=Ext.keep hb p9;replace p10:=Ext.keep hb p10;replace p11:=Ext.keep hb p11;replace p12:=Ext.keep hb p12;replace hC:=hC.ext cH.keeps hb))
 all_goals first|(have:=isF;go_ret;exact ⟨ap (zg Ha.out Hs.out (by omega) Ho.out He.out Hc.out (by rw [iR HCA.out,Hk.out];rfl)).symm,xw⟩)|(have:=isP;go_ret;exact ⟨ap (kb (by first|(right;right;right;right;right;left;exact Hc.out)|(right;right;right;right;right;right;rw [iR HCA.out,Hk.out];rfl))).symm,xw⟩)
end Go.Proofs.YtacafmejcdgboaaGreatDoor
namespace Go.Proofs.YtacafmejcdgboaaGreatDoor
open Go.RowKit
set_option linter.unusedVariables false
set_option linter.unusedSimpArgs false
attribute [local irreducible] inR di kl aw cD eqS iG gx
set_option maxRecDepth 100000 in
set_option maxHeartbeats 1600000 in
theorem lS (lo hi lo' hi' B:Nat) (v:Value) (sig:List Ctl) (cs:List Value) (r:Rul) (w:World) (hV:nM lo hi w v sig) (h:sM lo' hi' w cs r) (hl1:r.redex.inner.length≤1048576) (hl2:r.reactum.inner.length≤1048576) (hbs:w.cell? ⟨B,0,none⟩=some v) :
 Calls Tryz.prog 150 #[.agg cs.toArray,.pointer (some ⟨B,0,none⟩)] w fun e w'=>e=.returned (.bool (!(gx sig r)))∧Ext w w':=by
 have hR:=h
 obtain ⟨a,k,rfl,_,_,_,_⟩:=id hV
 obtain ⟨c1,c2,vc,rfl,⟨v1,v2,v4,v5,rfl,_⟩,⟨y1,y2,y4,y5,rfl,_⟩,hC⟩:=h
 obtain ⟨W0,hW0,hbx,hx0,hz⟩:=bH w [.int .i64 r.redex.roots,v1,v2,.int .i64 r.redex.edges,v4,v5,.int .i64 r.reactum.roots,y1,y2,.int .i64 r.reactum.edges,y4,y5,vc] 89
 have p0:=(hbx 0 _ rfl).1
 have p1:=(hbx 1 _ rfl).1
 have p2:=(hbx 2 _ rfl).1
 have p3:=(hbx 3 _ rfl).1
 have p4:=(hbx 4 _ rfl).1
 have p5:=(hbx 5 _ rfl).1
 have p6:=(hbx 6 _ rfl).1
 have p7:=(hbx 7 _ rfl).1
 have p8:=(hbx 8 _ rfl).1
 have p9:=(hbx 9 _ rfl).1
 have p10:=(hbx 10 _ rfl).1
 have p11:=(hbx 11 _ rfl).1
 have p12:=(hbx 12 _ rfl).1
 have ps:=hx0.keep hbs
 clear hz hbx hbs
 replace hV:=hV.ext gU.keeps hx0
 replace hR:=sM.keeps _ _ _ _ _ _ (cW.ext hx0) hR
 change Calls Tryz.prog 150 #[.agg #[.int .i64 r.redex.roots,v1,v2,.int .i64 r.redex.edges,v4,v5,.int .i64 r.reactum.roots,y1,y2,.int .i64 r.reactum.edges,y4,y5,vc],.pointer (some ⟨B,0,none⟩)] w _
 go_enter Tryz.func150,Tryz.ntmps150
 go_wp2_with (go_at_call 116;refine (pX lo hi lo' hi' _ sig [.int .i64 r.redex.roots,v1,v2,.int .i64 r.redex.edges,v4,v5,.int .i64 r.reactum.roots,y1,y2,.int .i64 r.reactum.edges,y4,y5,vc] r _ hV hR hl1 hl2).mono ?_;rintro e y ⟨rfl,hb⟩)
 go_ret
 exact ⟨rfl,xw⟩
set_option maxHeartbeats 1600000 in
theorem oc (lo hi lo' hi':Nat) (v v':Value) (sig:List Ctl) (l:List Rul) (w:World) (hV:nM lo hi w v sig) (h:FP lo' hi' w v' l) (hl:∀i (h:i<l.length),(l[i]).redex.inner.length≤1048576∧(l[i]).reactum.inner.length≤1048576) :
 Calls Tryz.prog 98 #[v,v'] w fun e w'=>e=.returned (.bool (fU sig l))∧Ext w w':=by
 obtain ⟨a,k,rfl,_,_,_,_⟩:=id hV
 obtain ⟨a',k',rfl,g1,g2,_,_⟩:=id h
 unfold maxLen at g2
 obtain ⟨W0,hW0,hbx,hx0,hz⟩:=bH w [.slice a sig.length k] 39
 have ps:=(hbx 0 _ rfl).1
 clear hz hbx
 replace hV:=hV.ext gU.keeps hx0
 replace h:=h.ext sM.keeps hx0
 have eg:∀args w,(callFunc 150 args).run Tryz.prog w=.ok (.enter 150 args) w:=enters_of Tryz.func150 (by kernel_rfl) rfl
 have HRA:=Lib.hid (Cm sig l)
 have HRB:Hid (fU sig l=(inR (l.length:Int) 1 6 && l.all (gx sig))):=Lib.hid rfl
 go_enter Tryz.func98,Tryz.ntmps98
 have Hk:=Lib.hid trivial
 cases ha:inR (l.length:Int) 1 6
 have Ha:=Lib.hid ha;clear ha
 have isP:=trivial
 rotate_left
 have Ha:=Lib.hid ha;clear ha
 cases hk:l.any (fun r=>!(gx sig r))
 have Hk:=Lib.hid hk;clear hk
 have isF:=trivial
 rotate_left
 have Hk:=Lib.hid hk;clear hk
 have isP:=trivial
 all_goals go_wp2_with (first|(go_at_call 149;(refine (dB lo' hi' (fun r=>!(gx sig r)) 150 #[.pointer (some ⟨w.heap.size,0,none⟩)] _ _ _ h eg (fun j hj cs W hW hP=>lS lo hi lo' hi' w.heap.size _ sig cs _ W (hV.ext gU.keeps hW) hP (hl j hj).1 (hl j hj).2 (hW.keep ps))).mono ?_);rintro e y ⟨rfl,hb⟩;rw [Hk.out];replace ps:=Ext.keep hb ps)|(go_at_call 100;(refine (aL _ _ _ _).mono ?_);rintro e y ⟨rfl,rfl⟩;rw [Ha.out]))
 all_goals first|(have:=isF;go_ret;exact ⟨ap (by rw [HRB.out,Ha.out,iR HRA.out,Hk.out];rfl),xw⟩)|(have:=isP;go_ret;exact ⟨ap (by rw [HRB.out];first|(rw [Ha.out];rfl)|(rw [Ha.out,iR HRA.out,Hk.out];rfl)),xw⟩)
end Go.Proofs.YtacafmejcdgboaaGreatDoor
namespace Go.Proofs.YtacafmejcdgboaaGreatDoor
open Go.RowKit
set_option linter.unusedVariables false
set_option linter.unusedSimpArgs false
attribute [local irreducible] inR di
end Go.Proofs.YtacafmejcdgboaaGreatDoor
