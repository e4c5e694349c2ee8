/-
  Proved facts that the law leans on.
-/
import Derived.Test.YtclpbhoekmecjaaGreatDoorZU5
import Derived.Test.YtclpbhoekmecjaaGreatDoorZU6
import Derived.Deep.Cut
namespace Go.Proofs.YtclpbhoekmecjaaGreatDoor
open Go.RowKit
set_option linter.unusedVariables false
set_option linter.unusedSimpArgs false
def dI (ps:List Int) (l:List Wr):List Wr:=l.map fun w=>⟨w.name,atI ps w.link⟩
theorem uA (ps:List Int) {l:List Wr} (i:Nat) (h:i<l.length):dI ps (l.take (i+1))=dI ps (l.take i)++[⟨(l[i]).name,atI ps (l[i]).link⟩]:=by
 unfold dI;rw [List.take_succ_eq_append_getElem h,List.map_append];rfl
attribute [local irreducible] dI
def eP (ks l:List Int):List Int:=l.map (atI ks)
theorem oD (ks:List Int) {l:List Int} (j:Nat) (h:j<l.length):eP ks (l.take (j+1))=eP ks (l.take j)++[atI ks l[j]]:=by
 unfold eP;rw [List.take_succ_eq_append_getElem h,List.map_append];rfl
def cY (by':Int) (ps ks:List Int) (l:List Nd):List Nd:=l.map fun n=>⟨n.control,upF by' ps n.parent,eP ks n.links⟩
theorem wg (by':Int) (ps ks:List Int) {l:List Nd} (i:Nat) (h:i<l.length):cY by' ps ks (l.take (i+1))=cY by' ps ks (l.take i)++[⟨(l[i]).control,upF by' ps (l[i]).parent,eP ks (l[i]).links⟩]:=by
 unfold cY;rw [List.take_succ_eq_append_getElem h,List.map_append];rfl
attribute [local irreducible] cY eP
end Go.Proofs.YtclpbhoekmecjaaGreatDoor
namespace Go.Proofs.YtclpbhoekmecjaaGreatDoor
open Go.RowKit
set_option linter.unusedVariables false
set_option linter.unusedSimpArgs false
def y6 (b:Big):Nat→Int→Int
 | 0,p=>p
 | f+1,p=>if p<0 then p else y6 b f (ew b p).parent
def A0 (b:Big) (p:Int):Int:=y6 b (p.toNat+1) p
theorem DP {sig:List Ctl} {b:Big} (h:aF sig b=true) (i:Nat) (hi:i<b.nodes.length) : -b.roots≤(b.nodes[i]).parent∧(b.nodes[i]).parent<i:=iG h i hi
theorem C4 {sig:List Ctl} {b:Big} (h:aF sig b=true):∀(f g:Nat) (p:Int),p<b.nodes.length→p.toNat<f→p.toNat<g→y6 b f p=y6 b g p:=by
 intro f
 induction f with
 | zero=>intro g p _ hf;omega
 | succ f ih=>
  intro g p hp hf hg
  cases g with
  | zero=>omega
  | succ g=>
   unfold y6
   by_cases hn:p<0
   ·rw [if_pos hn,if_pos hn]
   ·rw [if_neg hn,if_neg hn]
    obtain ⟨n,rfl⟩:=Int.eq_ofNat_of_zero_le (show 0≤p by omega)
    have hl:n<b.nodes.length:=by omega
    have:=DP h n hl
    rw [av b n hl]
    by_cases hq:(b.nodes[n]).parent<0
    ·cases f with
     | zero=>
      cases g with
      | zero=>rfl
      | succ g=>simp only [y6];rw [if_pos hq]
     | succ f=>
      cases g with
      | zero=>simp only [y6];rw [if_pos hq]
      | succ g=>simp only [y6];rw [if_pos hq,if_pos hq]
    ·exact ih g _ (by omega) (by omega) (by omega)
theorem nU (b:Big) {p:Int} (h:p<0):A0 b p=p:=by
 unfold A0 y6;rw [if_pos h]
theorem pr {sig:List Ctl} {b:Big} (h:aF sig b=true) (n:Nat) (hn:n<b.nodes.length):A0 b (n:Int)=A0 b (b.nodes[n]).parent:=by
 have hp:=DP h n hn
 have e:A0 b (n:Int)=y6 b n (b.nodes[n]).parent:=by
  unfold A0
  rw [show ((n:Int).toNat+1)=n+1 by omega,y6,if_neg (by omega),av b n hn]
 rw [e]
 by_cases hq:(b.nodes[n]).parent<0
 ·rw [nU b hq]
  cases n with
  | zero=>rfl
  | succ n=>rw [y6,if_pos hq]
 ·exact C4 h _ _ _ (by omega) (by omega) (by omega)
def i7 (b:Big) (r:Int) (i:Nat):Bool:=match b.nodes[i]? with|none=>false|some n=>decide (A0 b n.parent=r)
theorem pB (b:Big) (r:Int) (i:Nat) (h:i<b.nodes.length):i7 b r i=decide (A0 b (b.nodes[i]).parent=r):=by unfold i7;rw [List.getElem?_eq_getElem h]
def pJ (b:Big) (r:Int):List Int:=idxOf (i7 b r) b.nodes.length
end Go.Proofs.YtclpbhoekmecjaaGreatDoor
namespace Go.Proofs.YtclpbhoekmecjaaGreatDoor
open Go.RowKit
set_option linter.unusedVariables false
set_option linter.unusedSimpArgs false
theorem x7 (sig:List Ctl) (b:Big) (i:Nat) (h:i<b.nodes.length):fW sig b i=(inR (b.nodes[i]).control 0 ((sig.length:Int) - 1) && (du sig b (b.nodes[i]).parent i && (decide (((b.nodes[i]).links.length:Int)=(se sig (b.nodes[i]).control).ports) && (b.nodes[i]).links.all (dU b)))):=by
 unfold fW;rw [List.getElem?_eq_getElem h]
theorem kh {α:Type} (p:α→Bool) (xs:List α) (i:Nat) (h:xs.length≤i) (hp:(xs.take i).all p=true):xs.all p=true:=by rwa [List.take_of_length_le h] at hp
theorem vU {sig:List Ctl} {b:Big} (h:b.sites.all (fV sig b)=false):aF sig b=false:=by unfold aF;rw [h];simp
theorem wk {sig:List Ctl} {b:Big} (h:b.inner.all (gO b)=false):aF sig b=false:=by unfold aF;rw [h];simp
theorem Cg {sig:List Ctl} {b:Big} (a:jC sig b=true) (c:(List.range b.nodes.length).all (fW sig b)=true) (d:b.sites.all (fV sig b)=true) (e:b.inner.all (gO b)=true):aF sig b=true:=by unfold aF;rw [a,c,d,e];rfl
theorem As (sig:List Ctl) (b:Big) (p:Int):fV sig b p=du sig b p b.nodes.length:=rfl
theorem A1 (b:Big) (x:Wr):gO b x=dU b x.link:=rfl
attribute [local irreducible] inR dE cZ lr dw du dU fV gO se
end Go.Proofs.YtclpbhoekmecjaaGreatDoor
namespace Go.Proofs.YtclpbhoekmecjaaGreatDoor
open Go.RowKit
set_option linter.unusedVariables false
set_option linter.unusedSimpArgs false
def dp (sig:List Ctl) (b:Big):Bool:=aF sig b && (decide (b.sites.length=0) && decide (b.inner.length=0))
attribute [local irreducible] inR dE cZ lr dw du dU fV gO se fW
end Go.Proofs.YtclpbhoekmecjaaGreatDoor
namespace Go.Proofs.YtclpbhoekmecjaaGreatDoor
open Go.RowKit
set_option linter.unusedVariables false
set_option linter.unusedSimpArgs false
attribute [local irreducible] inR dE cZ lr dw du dU fV gO se
set_option maxRecDepth 100000 in
set_option maxHeartbeats 6400000 in
theorem eZ (lo hi lo' hi':Nat) (v:Value) (sig:List Ctl) (cs:List Value) (b:Big) (w:World) (h:og lo hi w v sig) (hb:dQ lo' hi' w cs b) (hlen:b.inner.length≤1048576) :
 Calls Tryz.prog 101 #[v,.agg cs.toArray] w fun e w'=>e=.returned (.bool (aF sig b))∧Ext w w':=by
 have hV:=h
 have hB:=hb
 obtain ⟨a,k,rfl,m1,m2,m3,m4⟩:=h
 obtain ⟨v1,v2,v4,v5,rfl,r1,r2,hN,hS,hO,hI⟩:=hb
 obtain ⟨a1,k1,rfl,g1,g2,g3,g4⟩:=hN
 obtain ⟨a2,k2,rfl,n1,n2,n3,_⟩:=id hS
 obtain ⟨a4,k4,rfl,o1,o2,o3,_⟩:=id hO
 obtain ⟨a5,k5,rfl,l1,l2,l3,_⟩:=id hI
 unfold maxLen at g2 m2 n2 o2 l2
 obtain ⟨W0,hW0,hbx0,hx0,hz0⟩:=bM w [.slice a sig.length k] 43
 obtain ⟨W1,hW1,hbx1,hx1,hz1⟩:=bM W0 [.int .i64 b.roots,.slice a1 b.nodes.length k1,.slice a2 b.sites.length k2,.int .i64 b.edges,.slice a4 b.outer.length k4,.slice a5 b.inner.length k5] 40
 have ps:=hx1.keep (hbx0 0 _ rfl).1
 have hbb:∀j u,([.int .i64 b.roots,.slice a1 b.nodes.length k1,.slice a2 b.sites.length k2,.int .i64 b.edges,.slice a4 b.outer.length k4,.slice a5 b.inner.length k5]:List Value)[j]? = some u→W1.cell? ⟨W0.heap.size,j,none⟩=some u:=fun j u hj=>(hbx1 j u hj).1
 have p0:=hbb 0 _ rfl
 have p1:=hbb 1 _ rfl
 have p2:=hbb 2 _ rfl
 have p3:=hbb 3 _ rfl
 have p4:=hbb 4 _ rfl
 have p5:=hbb 5 _ rfl
 have hzz:w.heap.size<W0.heap.size:=by omega
 clear hz0 hz1 hbx0 hbx1
 have hx01:=hx0.trans hx1
 replace hV:=hV.ext iD.keeps hx01
 replace hB:=dQ.keeps _ _ _ _ _ _ (dq.ext hx01) hB
 replace hS:=hS.ext cS.keeps hx01
 replace hO:=hO.ext eG.keeps hx01
 replace hI:=hI.ext WrP.keeps hx01
 have HBB:=Lib.hid hbb
 clear hbb
 go_enter Tryz.func101,Tryz.ntmps101
 have Hr:=Lib.hid trivial
 have hn:True:=trivial
 have hs:True:=trivial
 have He:=Lib.hid trivial
 have Ho:=Lib.hid trivial
 have Hi:=Lib.hid trivial
 cases ha:lr sig
 have Ha:=Lib.hid ha;clear ha
 have isF:=trivial
 rotate_left
 have Ha:=Lib.hid ha;clear ha
 have hsl:=Cw Ha.out
 cases hr:inR b.roots 0 4
 have Hr:=Lib.hid hr;clear hr
 have isF:=trivial
 rotate_left
 have Hr:=Lib.hid hr;clear hr
 by_cases hn:8<b.nodes.length
 have en:decide (8<b.nodes.length)=true:=decide_eq_true hn
 have isF:=trivial
 rotate_left
 have en:decide (8<b.nodes.length)=false:=decide_eq_false hn
 by_cases hs:4<b.sites.length
 have es:decide (4<b.sites.length)=true:=decide_eq_true hs
 have isF:=trivial
 rotate_left
 have es:decide (4<b.sites.length)=false:=decide_eq_false hs
 cases he:inR b.edges 0 8
 have He:=Lib.hid he;clear he
 have isF:=trivial
 rotate_left
 have He:=Lib.hid he;clear he
 cases ho:dw b.outer
 have Ho:=Lib.hid ho;clear ho
 have isF:=trivial
 rotate_left
 have Ho:=Lib.hid ho;clear ho
 cases hi:dw (b.inner.map Wr.name)
 have Hi:=Lib.hid hi;clear hi
 have isF:=trivial
 rotate_left
 have Hi:=Lib.hid hi;clear hi
 all_goals go_wp2_with (first|(go_at_call 145;(refine (kr _ _ _ _ _ hIN).mono ?_);rintro e y ⟨rfl,hb⟩;rw [Hi.out];replace ps:=Ext.keep hb ps;replace p0:=Ext.keep hb p0;replace p1:=Ext.keep hb p1;replace p2:=Ext.keep hb p2;replace p3:=Ext.keep hb p3;replace p4:=Ext.keep hb p4;replace p5:=Ext.keep hb p5;replace hV:=hV.ext iD.keeps hb;replace hB:=dQ.keeps _ _ _ _ _ _ (dq.ext hb) hB;replace hS:=hS.ext cS.keeps hb;replace hO:=hO.ext eG.keeps hb;replace hI:=hI.ext WrP.keeps hb)|(go_at_call 145;(refine (kr lo' hi' _ _ _ hO).mono ?_);rintro e y ⟨rfl,hb⟩;rw [Ho.out];replace ps:=Ext.keep hb ps;replace p0:=Ext.keep hb p0;replace p1:=Ext.keep hb p1;replace p2:=Ext.keep hb p2;replace p3:=Ext.keep hb p3;replace p4:=Ext.keep hb p4;replace p5:=Ext.keep hb p5;replace hV:=hV.ext iD.keeps hb;replace hB:=dQ.keeps _ _ _ _ _ _ (dq.ext hb) hB;replace hS:=hS.ext cS.keeps hb;replace hO:=hO.ext eG.keeps hb;replace hI:=hI.ext WrP.keeps hb)|(go_at_call 58;(refine (aP _ _ _ _).mono ?_);rintro e y ⟨rfl,rfl⟩;rw [He.out])|(go_at_call 58;(refine (aP _ _ _ _).mono ?_);rintro e y ⟨rfl,rfl⟩;rw [Hr.out])|(go_at_call 144;(refine (mb lo hi _ _ _ hV).mono ?_);rintro e y ⟨rfl,hb⟩;rw [Ha.out];replace ps:=Ext.keep hb ps;replace p0:=Ext.keep hb p0;replace p1:=Ext.keep hb p1;replace p2:=Ext.keep hb p2;replace p3:=Ext.keep hb p3;replace p4:=Ext.keep hb p4;replace p5:=Ext.keep hb p5;replace hV:=hV.ext iD.keeps hb;replace hB:=dQ.keeps _ _ _ _ _ _ (dq.ext hb) hB;replace hS:=hS.ext cS.keeps hb;replace hO:=hO.ext eG.keeps hb;replace hI:=hI.ext WrP.keeps hb)|(go_at_call 146;refine (iS lo' hi' [.int .i64 b.roots,.slice a1 b.nodes.length k1,.slice a2 b.sites.length k2,.int .i64 b.edges,.slice a4 b.outer.length k4,.slice a5 b.inner.length k5] b _ hB hlen).mono ?_;rintro e y ⟨v9,rfl,hIN,hb⟩;replace ps:=Ext.keep hb ps;replace p0:=Ext.keep hb p0;replace p1:=Ext.keep hb p1;replace p2:=Ext.keep hb p2;replace p3:=Ext.keep hb p3;replace p4:=Ext.keep hb p4;replace p5:=Ext.keep hb p5;replace hV:=hV.ext iD.keeps hb;replace hB:=dQ.keeps _ _ _ _ _ _ (dq.ext hb) hB;replace hS:=hS.ext cS.keeps hb;replace hO:=hO.ext eG.keeps hb;replace hI:=hI.ext WrP.keeps hb))
 all_goals first|(have:=isF;go_ret;exact ⟨ap (dN (by unfold jC;simp [Ha.out,Hr.out,hn,hs,He.out,Ho.out,Hi.out];try omega)).symm,xw⟩)|skip
 have HH:=Lib.hid (show jC sig b=true by unfold jC;rw [Ha.out,Hr.out,He.out,Ho.out,Hi.out];simp;omega)
 clear hIN
 obtain ⟨_,hr,_,_,he,hno,_⟩:=fd HH.out
 have HR:=Lib.hid hr
 have HE:=Lib.hid he
 have hol:b.outer.length≤1000:=by have:=gj hno;omega
 clear hr he hno
 have eg1:∀args w,(callFunc 148 args).run Tryz.prog w=.ok (.enter 148 args) w:=enters_of Tryz.func148 (by kernel_rfl) rfl
 have eg2:∀args w,(callFunc 150 args).run Tryz.prog w=.ok (.enter 150 args) w:=enters_of Tryz.func150 (by kernel_rfl) rfl
 have eg3:∀args w,(callFunc 152 args).run Tryz.prog w=.ok (.enter 152 args) w:=enters_of Tryz.func152 (by kernel_rfl) rfl
 have hY1:Ext W1 y:=xw
 go_loopw [49] (fun c wr=>∃i:Nat,c=.int .i64 i∧i≤b.nodes.length∧(List.range i).all (fW sig b)=true∧Ext y wr) (fun c _=>b.nodes.length - (intOf c).toNat)
 case atStart=>exact ⟨0,rfl,Nat.zero_le _,rfl,Ext.refl _⟩
 case round=>
  obtain ⟨i,rfl,hi0,hok,hx⟩:=hrel
  have HOK:=Lib.hid hok
  clear hok
  have hX1:Ext W1 wr:=hY1.trans hx
  have hX:Ext w wr:=hx01.trans hX1
  replace ps:=hx.keep ps
  replace p0:=hx.keep p0
  replace p1:=hx.keep p1
  replace p2:=hx.keep p2
  replace p3:=hx.keep p3
  replace p4:=hx.keep p4
  replace p5:=hx.keep p5
  replace hV:=hV.ext iD.keeps hx
  replace hB:=dQ.keeps _ _ _ _ _ _ (dq.ext hx) hB
  by_cases hlt:i<b.nodes.length
  ·have hbad:=oy (sig:=sig) i hlt
   have HA:=Lib.hid (mE sig b i hlt)
   have HS:=Lib.hid (bW (fW sig b) i)
   have hC:=nT HOK.out
   have HSG:=Lib.hid (jE sig)
   rcases g4 with g4|⟨b1,o1,rfl,gb1,gb2,g4⟩
   ·rw [g4] at hlt;simp at hlt
   obtain ⟨cs,hl,hnp,hc⟩:=g4 i hlt
   generalize hnd:b.nodes[i]=nd at hnp HA
   obtain ⟨nc,np,nl⟩:=nd
   obtain ⟨nv,rfl,e1,e2,e3⟩:=hnp
   have q0:=hX.keep (hc 0 _ rfl)
   have q1:=hX.keep (hc 1 _ rfl)
   have q2:=hX.keep (hc 2 _ rfl)
   rw [Nat.add_zero] at q0
   have hLV:=e3.ext cS.keeps hX
   obtain ⟨la,lk,rfl,y1,y2,y3,_⟩:=e3
   dsimp only at *
   unfold maxLen at y2
   clear hc g4 hnd
   unfold I64 at e1
   have hsw:=IntWalk.i64_in ((sig.length:Int) - 1) (by omega)
   cases hc:inR nc 0 ((sig.length:Int) - 1)
   ·have Hc:=Lib.hid hc
    clear hc
    have HB:=Lib.hid (hbad (by rw [HA.out];first|(rw [HK.out];simp [Hc.out];done)|simp [Hc.out]))
    clear hbad
    go_wp2_with fail
    refine wp_region_held_drew (S:=(fun w'=>dL w' wr.heap.size [.int .i64 nc,.int .i64 np,.slice la nl.length lk]∧Ext wr w')) (by kernel_rfl) ?_ (fun hHeld=>?_)
    ·(refine ⟨?_,xw⟩;all_goals (intro j u hj;rcases j with _|_|_|_|_|_|_|_|j <;> simp at hj <;> (subst hj;simp)))
    refine tkP 0 ?_ ?_ ?_;rotate_left;focus (intro w;go_simp;try with_reducible rfl)
    try simp only [Act.put,aJ]
    refine tkY 1 ?_ ?_ ?_;rotate_left;focus (intro w hSw;(try dsimp only at hSw);obtain ⟨bx0,sx⟩:=hSw;have c0_0:=(bx0 0 _ rfl).1;have c0_1:=(bx0 1 _ rfl).1;have c0_2:=(bx0 2 _ rfl).1;have s_ps:=Ext.keep sx ps;have s_p0:=Ext.keep sx p0;have s_p1:=Ext.keep sx p1;have s_p2:=Ext.keep sx p2;have s_p3:=Ext.keep sx p3;have s_p4:=Ext.keep sx p4;have s_p5:=Ext.keep sx p5;(try have s_s1:=Ext.keep sx s1);go_simp;try with_reducible rfl)
    try simp only [Act.put,aJ]
    refine tkY 2 ?_ ?_ ?_;rotate_left;focus (intro w hSw;(try dsimp only at hSw);obtain ⟨bx0,sx⟩:=hSw;have c0_0:=(bx0 0 _ rfl).1;have c0_1:=(bx0 1 _ rfl).1;have c0_2:=(bx0 2 _ rfl).1;have s_ps:=Ext.keep sx ps;have s_p0:=Ext.keep sx p0;have s_p1:=Ext.keep sx p1;have s_p2:=Ext.keep sx p2;have s_p3:=Ext.keep sx p3;have s_p4:=Ext.keep sx p4;have s_p5:=Ext.keep sx p5;(try have s_s1:=Ext.keep sx s1);go_simp;try with_reducible rfl)
    try simp only [Act.put,aJ]
    refine tkP 3 ?_ ?_ ?_;rotate_left;focus (intro w;go_simp;try with_reducible rfl)
    try simp only [Act.put,aJ]
    refine tkP 4 ?_ ?_ ?_;rotate_left;focus (intro w;go_simp;try with_reducible rfl)
    try simp only [Act.put,aJ]
    refine wpAnyH_ready (rs:=[5]) (by kernel_rfl) (by simp) ?_
    refine AllReadyH.cons rfl (fun K hK=>?_) AllReadyH.nil
    (try simp only [aJ])
    go_simp
    (go_at_call 58;(refine (aP _ _ _ _).mono ?_);rintro e y ⟨rfl,rfl⟩;rw [Hc.out])
    show K _ _
    refine hK.out _ _ (by exact hHeld) (fun hHeld=>?_)
    clear hK K
    try simp only [Act.put,aJ]
    refine tkP 6 ?_ ?_ ?_;rotate_left;focus (intro w;go_simp;try with_reducible rfl)
    try simp only [Act.put,aJ]
    refine tkP 7 ?_ ?_ ?_;rotate_left;focus (intro w;go_simp;try with_reducible rfl)
    try simp only [Act.put,aJ]
    refine tkN 8 ?_
    try simp only [Act.put,aJ]
    refine tkN 9 ?_
    try simp only [Act.put,aJ]
    refine tkN 10 ?_
    try simp only [Act.put,aJ]
    refine tkN 11 ?_
    try simp only [Act.put,aJ]
    refine tkN 12 ?_
    try simp only [Act.put,aJ]
    refine tkN 13 ?_
    try simp only [Act.put,aJ]
    refine tkN 14 ?_
    try simp only [Act.put,aJ]
    refine tkP 15 ?_ ?_ ?_;rotate_left;focus (intro w;go_simp;try with_reducible rfl)
    try simp only [Act.put,aJ]
    refine tkP 16 ?_ ?_ ?_;rotate_left;focus (intro w;go_simp;try with_reducible rfl)
    try simp only [Act.put,aJ]
    refine tkN 17 ?_
    try simp only [Act.put,aJ]
    refine tkN 18 ?_
    try simp only [Act.put,aJ]
    refine tkN 19 ?_
    try simp only [Act.put,aJ]
    refine tkN 20 ?_
    try simp only [Act.put,aJ]
    refine tkN 21 ?_
    try simp only [Act.put,aJ]
    refine tkN 22 ?_
    try simp only [Act.put,aJ]
    refine tkN 23 ?_
    try simp only [Act.put,aJ]
    refine tkN 24 ?_
    try simp only [Act.put,aJ]
    refine tkN 25 ?_
    try simp only [Act.put,aJ]
    refine tkN 26 ?_
    try simp only [Act.put,aJ]
    refine tkP 27 ?_ ?_ ?_;rotate_left;focus (intro w;go_simp;try with_reducible rfl)
    try simp only [Act.put,aJ]
    refine tkP 28 ?_ ?_ ?_;rotate_left;focus (intro w;go_simp;try with_reducible rfl)
    try simp only [Act.put,aJ]
    refine tkN 29 ?_
    try simp only [Act.put,aJ]
    refine tkN 30 ?_
    try simp only [Act.put,aJ]
    refine tkN 31 ?_
    try simp only [Act.put,aJ]
    refine tkN 32 ?_
    try simp only [Act.put,aJ]
    refine tkP 33 ?_ ?_ ?_;rotate_left;focus (intro w;go_simp;try with_reducible rfl)
    try simp only [Act.put,aJ]
    refine wpAnyH_done (by kernel_rfl) ?_ _
    all_goals go_wp2
    all_goals go_ret
    all_goals exact ⟨ap HB.out.symm,xw⟩
   have Hc:=Lib.hid hc
   clear hc
   obtain ⟨hc0,hc1⟩:=bO Hc.out;obtain ⟨m,rfl⟩:=Int.eq_ofNat_of_zero_le hc0;have hml:m<sig.length:=(by omega);rcases m4 with m4|⟨b2,o2,rfl,mb1,mb2,m4⟩;(exfalso;rw [m4] at hml;simp at hml);obtain ⟨ds,dl,⟨rfl,d1,d2,d3⟩,hds⟩:=m4 m hml;have s1:=hX.keep (hds 1 _ rfl);have HK:=Lib.hid (HSG.out m hml);clear hds m4;unfold I64 at d2;have jm0:(0:Int)≤(m:Int):=(by omega);have jm1:(m:Int)<(sig.length:Int):=(by omega)
   cases hu:du sig b np i
   ·have Hu:=Lib.hid hu
    clear hu
    have HB:=Lib.hid (hbad (by rw [HA.out];first|(rw [HK.out];simp [Hc.out,Hu.out];done)|simp [Hc.out,Hu.out]))
    clear hbad
    go_wp2_with fail
    refine wp_region_held_drew (S:=(fun w'=>dL w' wr.heap.size [.int .i64 (m:Int),.int .i64 np,.slice la nl.length lk]∧Ext wr w')) (by kernel_rfl) ?_ (fun hHeld=>?_)
    ·(refine ⟨?_,xw⟩;all_goals (intro j u hj;rcases j with _|_|_|_|_|_|_|_|j <;> simp at hj <;> (subst hj;simp)))
    refine tkP 0 ?_ ?_ ?_;rotate_left;focus (intro w;go_simp;try with_reducible rfl)
    try simp only [Act.put,aJ]
    refine tkY 1 ?_ ?_ ?_;rotate_left;focus (intro w hSw;(try dsimp only at hSw);obtain ⟨bx0,sx⟩:=hSw;have c0_0:=(bx0 0 _ rfl).1;have c0_1:=(bx0 1 _ rfl).1;have c0_2:=(bx0 2 _ rfl).1;have s_ps:=Ext.keep sx ps;have s_p0:=Ext.keep sx p0;have s_p1:=Ext.keep sx p1;have s_p2:=Ext.keep sx p2;have s_p3:=Ext.keep sx p3;have s_p4:=Ext.keep sx p4;have s_p5:=Ext.keep sx p5;(try have s_s1:=Ext.keep sx s1);go_simp;try with_reducible rfl)
    try simp only [Act.put,aJ]
    refine tkY 2 ?_ ?_ ?_;rotate_left;focus (intro w hSw;(try dsimp only at hSw);obtain ⟨bx0,sx⟩:=hSw;have c0_0:=(bx0 0 _ rfl).1;have c0_1:=(bx0 1 _ rfl).1;have c0_2:=(bx0 2 _ rfl).1;have s_ps:=Ext.keep sx ps;have s_p0:=Ext.keep sx p0;have s_p1:=Ext.keep sx p1;have s_p2:=Ext.keep sx p2;have s_p3:=Ext.keep sx p3;have s_p4:=Ext.keep sx p4;have s_p5:=Ext.keep sx p5;(try have s_s1:=Ext.keep sx s1);go_simp;try with_reducible rfl)
    try simp only [Act.put,aJ]
    refine tkP 3 ?_ ?_ ?_;rotate_left;focus (intro w;go_simp;try with_reducible rfl)
    try simp only [Act.put,aJ]
    refine tkP 4 ?_ ?_ ?_;rotate_left;focus (intro w;go_simp;try with_reducible rfl)
    try simp only [Act.put,aJ]
    refine wpAnyH_ready (rs:=[5]) (by kernel_rfl) (by simp) ?_
    refine AllReadyH.cons rfl (fun K hK=>?_) AllReadyH.nil
    (try simp only [aJ])
    go_simp
    (go_at_call 58;(refine (aP _ _ _ _).mono ?_);rintro e y ⟨rfl,rfl⟩;rw [Hc.out])
    show K _ _
    refine hK.out _ _ (by exact hHeld) (fun hHeld=>?_)
    clear hK K
    try simp only [Act.put,aJ]
    refine tkP 6 ?_ ?_ ?_;rotate_left;focus (intro w;go_simp;try with_reducible rfl)
    try simp only [Act.put,aJ]
    refine tkP 7 ?_ ?_ ?_;rotate_left;focus (intro w;go_simp;try with_reducible rfl)
    try simp only [Act.put,aJ]
    refine tkY 8 ?_ ?_ ?_;rotate_left;focus (intro w hSw;(try dsimp only at hSw);obtain ⟨bx0,sx⟩:=hSw;have c0_0:=(bx0 0 _ rfl).1;have c0_1:=(bx0 1 _ rfl).1;have c0_2:=(bx0 2 _ rfl).1;have s_ps:=Ext.keep sx ps;have s_p0:=Ext.keep sx p0;have s_p1:=Ext.keep sx p1;have s_p2:=Ext.keep sx p2;have s_p3:=Ext.keep sx p3;have s_p4:=Ext.keep sx p4;have s_p5:=Ext.keep sx p5;(try have s_s1:=Ext.keep sx s1);go_simp;try with_reducible rfl)
    try simp only [Act.put,aJ]
    refine tkY 9 ?_ ?_ ?_;rotate_left;focus (intro w hSw;(try dsimp only at hSw);obtain ⟨bx0,sx⟩:=hSw;have c0_0:=(bx0 0 _ rfl).1;have c0_1:=(bx0 1 _ rfl).1;have c0_2:=(bx0 2 _ rfl).1;have s_ps:=Ext.keep sx ps;have s_p0:=Ext.keep sx p0;have s_p1:=Ext.keep sx p1;have s_p2:=Ext.keep sx p2;have s_p3:=Ext.keep sx p3;have s_p4:=Ext.keep sx p4;have s_p5:=Ext.keep sx p5;(try have s_s1:=Ext.keep sx s1);go_simp;try with_reducible rfl)
    try simp only [Act.put,aJ]
    refine tkP 10 ?_ ?_ ?_;rotate_left;focus (intro w;go_simp;try with_reducible rfl)
    try simp only [Act.put,aJ]
    refine tkY 11 ?_ ?_ ?_;rotate_left;focus (intro w hSw;(try dsimp only at hSw);obtain ⟨bx0,sx⟩:=hSw;have c0_0:=(bx0 0 _ rfl).1;have c0_1:=(bx0 1 _ rfl).1;have c0_2:=(bx0 2 _ rfl).1;have s_ps:=Ext.keep sx ps;have s_p0:=Ext.keep sx p0;have s_p1:=Ext.keep sx p1;have s_p2:=Ext.keep sx p2;have s_p3:=Ext.keep sx p3;have s_p4:=Ext.keep sx p4;have s_p5:=Ext.keep sx p5;(try have s_s1:=Ext.keep sx s1);go_simp;try with_reducible rfl)
    try simp only [Act.put,aJ]
    refine tkP 12 ?_ ?_ ?_;rotate_left;focus (intro w;go_simp;try with_reducible rfl)
    try simp only [Act.put,aJ]
    refine wpAnyH_ready (rs:=[13]) (by kernel_rfl) (by simp) ?_
    refine AllReadyH.cons rfl (fun K hK=>?_) AllReadyH.nil
    (try simp only [aJ])
    go_simp
    (have hSw:=hHeld;(try dsimp only at hSw);obtain ⟨bx0,sx⟩:=hSw;have c0_0:=(bx0 0 _ rfl).1;have c0_1:=(bx0 1 _ rfl).1;have c0_2:=(bx0 2 _ rfl).1;have s_ps:=Ext.keep sx ps;have s_p0:=Ext.keep sx p0;have s_p1:=Ext.keep sx p1;have s_p2:=Ext.keep sx p2;have s_p3:=Ext.keep sx p3;have s_p4:=Ext.keep sx p4;have s_p5:=Ext.keep sx p5;(try have s_s1:=Ext.keep sx s1);have s_hV:=hV.ext iD.keeps sx;have s_hB:=dQ.keeps _ _ _ _ _ _ (dq.ext sx) hB;have s_hLV:=hLV.ext cS.keeps sx;go_at_call 147;(refine (bX lo hi lo' hi' _ sig _ b _ _ _ s_hV s_hB e2 HR.out (by omega) hC).mono ?_);rintro e y ⟨rfl,hb⟩;rw [Hu.out])
    show K _ _
    refine hK.out _ _ (by (have hh:=hHeld;(try dsimp only at hh);exact ⟨hh.1.ext hb,hh.2.trans hb⟩)) (fun hHeld=>?_)
    clear hK K
    try simp only [Act.put,aJ]
    refine tkP 14 ?_ ?_ ?_;rotate_left;focus (intro w;go_simp;try with_reducible rfl)
    try simp only [Act.put,aJ]
    refine tkP 15 ?_ ?_ ?_;rotate_left;focus (intro w;go_simp;try with_reducible rfl)
    try simp only [Act.put,aJ]
    refine tkP 16 ?_ ?_ ?_;rotate_left;focus (intro w;go_simp;try with_reducible rfl)
    try simp only [Act.put,aJ]
    refine tkN 17 ?_
    try simp only [Act.put,aJ]
    refine tkN 18 ?_
    try simp only [Act.put,aJ]
    refine tkN 19 ?_
    try simp only [Act.put,aJ]
    refine tkN 20 ?_
    try simp only [Act.put,aJ]
    refine tkN 21 ?_
    try simp only [Act.put,aJ]
    refine tkN 22 ?_
    try simp only [Act.put,aJ]
    refine tkN 23 ?_
    try simp only [Act.put,aJ]
    refine tkN 24 ?_
    try simp only [Act.put,aJ]
    refine tkN 25 ?_
    try simp only [Act.put,aJ]
    refine tkN 26 ?_
    try simp only [Act.put,aJ]
    refine tkP 27 ?_ ?_ ?_;rotate_left;focus (intro w;go_simp;try with_reducible rfl)
    try simp only [Act.put,aJ]
    refine tkP 28 ?_ ?_ ?_;rotate_left;focus (intro w;go_simp;try with_reducible rfl)
    try simp only [Act.put,aJ]
    refine tkN 29 ?_
    try simp only [Act.put,aJ]
    refine tkN 30 ?_
    try simp only [Act.put,aJ]
    refine tkN 31 ?_
    try simp only [Act.put,aJ]
    refine tkN 32 ?_
    try simp only [Act.put,aJ]
    refine tkP 33 ?_ ?_ ?_;rotate_left;focus (intro w;go_simp;try with_reducible rfl)
    try simp only [Act.put,aJ]
    refine wpAnyH_done (by kernel_rfl) ?_ _
    all_goals go_wp2
    all_goals go_ret
    all_goals exact ⟨ap HB.out.symm,xw⟩
   have Hu:=Lib.hid hu
   clear hu
   by_cases hl:((nl.length:Int))=((sig[m]).ports)
   rotate_left
   ·have el:(((nl.length:Int)) != ((sig[m]).ports))=true:=bne_iff_ne.2 hl
    have Hl:=Lib.hid hl
    clear hl
    have HB:=Lib.hid (hbad (by rw [HA.out];first|(rw [HK.out];simp [Hc.out,Hu.out,Hl.out];done)|simp [Hc.out,Hu.out,Hl.out]))
    clear hbad
    go_wp2_with fail
    refine wp_region_held_drew (S:=(fun w'=>dL w' wr.heap.size [.int .i64 (m:Int),.int .i64 np,.slice la nl.length lk]∧Ext wr w')) (by kernel_rfl) ?_ (fun hHeld=>?_)
    ·(refine ⟨?_,xw⟩;all_goals (intro j u hj;rcases j with _|_|_|_|_|_|_|_|j <;> simp at hj <;> (subst hj;simp)))
    refine tkP 0 ?_ ?_ ?_;rotate_left;focus (intro w;go_simp;try with_reducible rfl)
    try simp only [Act.put,aJ]
    refine tkY 1 ?_ ?_ ?_;rotate_left;focus (intro w hSw;(try dsimp only at hSw);obtain ⟨bx0,sx⟩:=hSw;have c0_0:=(bx0 0 _ rfl).1;have c0_1:=(bx0 1 _ rfl).1;have c0_2:=(bx0 2 _ rfl).1;have s_ps:=Ext.keep sx ps;have s_p0:=Ext.keep sx p0;have s_p1:=Ext.keep sx p1;have s_p2:=Ext.keep sx p2;have s_p3:=Ext.keep sx p3;have s_p4:=Ext.keep sx p4;have s_p5:=Ext.keep sx p5;(try have s_s1:=Ext.keep sx s1);go_simp;try with_reducible rfl)
    try simp only [Act.put,aJ]
    refine tkY 2 ?_ ?_ ?_;rotate_left;focus (intro w hSw;(try dsimp only at hSw);obtain ⟨bx0,sx⟩:=hSw;have c0_0:=(bx0 0 _ rfl).1;have c0_1:=(bx0 1 _ rfl).1;have c0_2:=(bx0 2 _ rfl).1;have s_ps:=Ext.keep sx ps;have s_p0:=Ext.keep sx p0;have s_p1:=Ext.keep sx p1;have s_p2:=Ext.keep sx p2;have s_p3:=Ext.keep sx p3;have s_p4:=Ext.keep sx p4;have s_p5:=Ext.keep sx p5;(try have s_s1:=Ext.keep sx s1);go_simp;try with_reducible rfl)
    try simp only [Act.put,aJ]
    refine tkP 3 ?_ ?_ ?_;rotate_left;focus (intro w;go_simp;try with_reducible rfl)
    try simp only [Act.put,aJ]
    refine tkP 4 ?_ ?_ ?_;rotate_left;focus (intro w;go_simp;try with_reducible rfl)
    try simp only [Act.put,aJ]
    refine wpAnyH_ready (rs:=[5]) (by kernel_rfl) (by simp) ?_
    refine AllReadyH.cons rfl (fun K hK=>?_) AllReadyH.nil
    (try simp only [aJ])
    go_simp
    (go_at_call 58;(refine (aP _ _ _ _).mono ?_);rintro e y ⟨rfl,rfl⟩;rw [Hc.out])
    show K _ _
    refine hK.out _ _ (by exact hHeld) (fun hHeld=>?_)
    clear hK K
    try simp only [Act.put,aJ]
    refine tkP 6 ?_ ?_ ?_;rotate_left;focus (intro w;go_simp;try with_reducible rfl)
    try simp only [Act.put,aJ]
    refine tkP 7 ?_ ?_ ?_;rotate_left;focus (intro w;go_simp;try with_reducible rfl)
    try simp only [Act.put,aJ]
    refine tkY 8 ?_ ?_ ?_;rotate_left;focus (intro w hSw;(try dsimp only at hSw);obtain ⟨bx0,sx⟩:=hSw;have c0_0:=(bx0 0 _ rfl).1;have c0_1:=(bx0 1 _ rfl).1;have c0_2:=(bx0 2 _ rfl).1;have s_ps:=Ext.keep sx ps;have s_p0:=Ext.keep sx p0;have s_p1:=Ext.keep sx p1;have s_p2:=Ext.keep sx p2;have s_p3:=Ext.keep sx p3;have s_p4:=Ext.keep sx p4;have s_p5:=Ext.keep sx p5;(try have s_s1:=Ext.keep sx s1);go_simp;try with_reducible rfl)
    try simp only [Act.put,aJ]
    refine tkY 9 ?_ ?_ ?_;rotate_left;focus (intro w hSw;(try dsimp only at hSw);obtain ⟨bx0,sx⟩:=hSw;have c0_0:=(bx0 0 _ rfl).1;have c0_1:=(bx0 1 _ rfl).1;have c0_2:=(bx0 2 _ rfl).1;have s_ps:=Ext.keep sx ps;have s_p0:=Ext.keep sx p0;have s_p1:=Ext.keep sx p1;have s_p2:=Ext.keep sx p2;have s_p3:=Ext.keep sx p3;have s_p4:=Ext.keep sx p4;have s_p5:=Ext.keep sx p5;(try have s_s1:=Ext.keep sx s1);go_simp;try with_reducible rfl)
    try simp only [Act.put,aJ]
    refine tkP 10 ?_ ?_ ?_;rotate_left;focus (intro w;go_simp;try with_reducible rfl)
    try simp only [Act.put,aJ]
    refine tkY 11 ?_ ?_ ?_;rotate_left;focus (intro w hSw;(try dsimp only at hSw);obtain ⟨bx0,sx⟩:=hSw;have c0_0:=(bx0 0 _ rfl).1;have c0_1:=(bx0 1 _ rfl).1;have c0_2:=(bx0 2 _ rfl).1;have s_ps:=Ext.keep sx ps;have s_p0:=Ext.keep sx p0;have s_p1:=Ext.keep sx p1;have s_p2:=Ext.keep sx p2;have s_p3:=Ext.keep sx p3;have s_p4:=Ext.keep sx p4;have s_p5:=Ext.keep sx p5;(try have s_s1:=Ext.keep sx s1);go_simp;try with_reducible rfl)
    try simp only [Act.put,aJ]
    refine tkP 12 ?_ ?_ ?_;rotate_left;focus (intro w;go_simp;try with_reducible rfl)
    try simp only [Act.put,aJ]
    refine wpAnyH_ready (rs:=[13]) (by kernel_rfl) (by simp) ?_
    refine AllReadyH.cons rfl (fun K hK=>?_) AllReadyH.nil
    (try simp only [aJ])
    go_simp
    (have hSw:=hHeld;(try dsimp only at hSw);obtain ⟨bx0,sx⟩:=hSw;have c0_0:=(bx0 0 _ rfl).1;have c0_1:=(bx0 1 _ rfl).1;have c0_2:=(bx0 2 _ rfl).1;have s_ps:=Ext.keep sx ps;have s_p0:=Ext.keep sx p0;have s_p1:=Ext.keep sx p1;have s_p2:=Ext.keep sx p2;have s_p3:=Ext.keep sx p3;have s_p4:=Ext.keep sx p4;have s_p5:=Ext.keep sx p5;(try have s_s1:=Ext.keep sx s1);have s_hV:=hV.ext iD.keeps sx;have s_hB:=dQ.keeps _ _ _ _ _ _ (dq.ext sx) hB;have s_hLV:=hLV.ext cS.keeps sx;go_at_call 147;(refine (bX lo hi lo' hi' _ sig _ b _ _ _ s_hV s_hB e2 HR.out (by omega) hC).mono ?_);rintro e y ⟨rfl,hb⟩;rw [Hu.out])
    show K _ _
    refine hK.out _ _ (by (have hh:=hHeld;(try dsimp only at hh);exact ⟨hh.1.ext hb,hh.2.trans hb⟩)) (fun hHeld=>?_)
    clear hK K
    try simp only [Act.put,aJ]
    refine tkP 14 ?_ ?_ ?_;rotate_left;focus (intro w;go_simp;try with_reducible rfl)
    try simp only [Act.put,aJ]
    refine tkP 15 ?_ ?_ ?_;rotate_left;focus (intro w;go_simp;try with_reducible rfl)
    try simp only [Act.put,aJ]
    refine tkP 16 ?_ ?_ ?_;rotate_left;focus (intro w;go_simp;try with_reducible rfl)
    try simp only [Act.put,aJ]
    refine tkP 17 ?_ ?_ ?_;rotate_left;focus (intro w;go_simp;try with_reducible rfl)
    try simp only [Act.put,aJ]
    refine tkY 18 ?_ ?_ ?_;rotate_left;focus (intro w hSw;(try dsimp only at hSw);obtain ⟨bx0,sx⟩:=hSw;have c0_0:=(bx0 0 _ rfl).1;have c0_1:=(bx0 1 _ rfl).1;have c0_2:=(bx0 2 _ rfl).1;have s_ps:=Ext.keep sx ps;have s_p0:=Ext.keep sx p0;have s_p1:=Ext.keep sx p1;have s_p2:=Ext.keep sx p2;have s_p3:=Ext.keep sx p3;have s_p4:=Ext.keep sx p4;have s_p5:=Ext.keep sx p5;(try have s_s1:=Ext.keep sx s1);go_simp;try with_reducible rfl)
    try simp only [Act.put,aJ]
    refine tkP 19 ?_ ?_ ?_;rotate_left;focus (intro w;go_simp;try with_reducible rfl)
    try simp only [Act.put,aJ]
    refine tkY 20 ?_ ?_ ?_;rotate_left;focus (intro w hSw;(try dsimp only at hSw);obtain ⟨bx0,sx⟩:=hSw;have c0_0:=(bx0 0 _ rfl).1;have c0_1:=(bx0 1 _ rfl).1;have c0_2:=(bx0 2 _ rfl).1;have s_ps:=Ext.keep sx ps;have s_p0:=Ext.keep sx p0;have s_p1:=Ext.keep sx p1;have s_p2:=Ext.keep sx p2;have s_p3:=Ext.keep sx p3;have s_p4:=Ext.keep sx p4;have s_p5:=Ext.keep sx p5;(try have s_s1:=Ext.keep sx s1);go_simp;try with_reducible rfl)
    try simp only [Act.put,aJ]
    refine tkP 21 ?_ ?_ ?_;rotate_left;focus (intro w;go_simp;try with_reducible rfl)
    try simp only [Act.put,aJ]
    refine tkY 22 ?_ ?_ ?_;rotate_left;focus (intro w hSw;(try dsimp only at hSw);obtain ⟨bx0,sx⟩:=hSw;have c0_0:=(bx0 0 _ rfl).1;have c0_1:=(bx0 1 _ rfl).1;have c0_2:=(bx0 2 _ rfl).1;have s_ps:=Ext.keep sx ps;have s_p0:=Ext.keep sx p0;have s_p1:=Ext.keep sx p1;have s_p2:=Ext.keep sx p2;have s_p3:=Ext.keep sx p3;have s_p4:=Ext.keep sx p4;have s_p5:=Ext.keep sx p5;(try have s_s1:=Ext.keep sx s1);go_simp;try with_reducible rfl)
    try simp only [Act.put,aJ]
    refine tkP 23 ?_ ?_ ?_;rotate_left;focus (intro w;go_simp;try with_reducible rfl)
    try simp only [Act.put,aJ]
    refine tkP 24 ?_ ?_ ?_;rotate_left;focus (intro w;go_simp;try with_reducible rfl)
    try simp only [Act.put,aJ]
    refine tkY 25 ?_ ?_ ?_;rotate_left;focus (intro w hSw;(try dsimp only at hSw);obtain ⟨bx0,sx⟩:=hSw;have c0_0:=(bx0 0 _ rfl).1;have c0_1:=(bx0 1 _ rfl).1;have c0_2:=(bx0 2 _ rfl).1;have s_ps:=Ext.keep sx ps;have s_p0:=Ext.keep sx p0;have s_p1:=Ext.keep sx p1;have s_p2:=Ext.keep sx p2;have s_p3:=Ext.keep sx p3;have s_p4:=Ext.keep sx p4;have s_p5:=Ext.keep sx p5;(try have s_s1:=Ext.keep sx s1);go_simp;try with_reducible rfl)
    try simp only [Act.put,aJ]
    refine tkP 26 ?_ ?_ ?_;rotate_left;focus (intro w;go_simp;try with_reducible rfl)
    try simp only [Act.put,aJ]
    refine tkP 27 ?_ ?_ ?_;rotate_left;focus (intro w;go_simp;try with_reducible rfl)
    try simp only [Act.put,aJ]
    refine tkP 28 ?_ ?_ ?_;rotate_left;focus (intro w;go_simp;try with_reducible rfl)
    try simp only [Act.put,aJ]
    refine tkN 29 ?_
    try simp only [Act.put,aJ]
    refine tkN 30 ?_
    try simp only [Act.put,aJ]
    refine tkN 31 ?_
    try simp only [Act.put,aJ]
    refine tkN 32 ?_
    try simp only [Act.put,aJ]
    refine tkP 33 ?_ ?_ ?_;rotate_left;focus (intro w;go_simp;try with_reducible rfl)
    try simp only [Act.put,aJ]
    refine wpAnyH_done (by kernel_rfl) ?_ _
    all_goals go_wp2
    all_goals go_ret
    all_goals exact ⟨ap HB.out.symm,xw⟩
   have el:(((nl.length:Int)) != ((sig[m]).ports))=false:=bne_eq_false_iff_eq.2 hl
   have Hl:=Lib.hid hl
   clear hl
   cases hk:nl.any (fun l=>!(dU b l))
   rotate_left
   ·have Hk:=Lib.hid hk
    clear hk
    have HB:=Lib.hid (hbad (by rw [HA.out];first|(rw [HK.out];simp [Hc.out,Hu.out,Hl.out,Hk.out];done)|simp [Hc.out,Hu.out,Hl.out,Hk.out]))
    clear hbad
    go_wp2_with fail
    refine wp_region_held_drew (S:=(fun w'=>dL w' wr.heap.size [.int .i64 (m:Int),.int .i64 np,.slice la nl.length lk]∧Ext wr w')) (by kernel_rfl) ?_ (fun hHeld=>?_)
    ·(refine ⟨?_,xw⟩;all_goals (intro j u hj;rcases j with _|_|_|_|_|_|_|_|j <;> simp at hj <;> (subst hj;simp)))
    refine tkP 0 ?_ ?_ ?_;rotate_left;focus (intro w;go_simp;try with_reducible rfl)
    try simp only [Act.put,aJ]
    refine tkY 1 ?_ ?_ ?_;rotate_left;focus (intro w hSw;(try dsimp only at hSw);obtain ⟨bx0,sx⟩:=hSw;have c0_0:=(bx0 0 _ rfl).1;have c0_1:=(bx0 1 _ rfl).1;have c0_2:=(bx0 2 _ rfl).1;have s_ps:=Ext.keep sx ps;have s_p0:=Ext.keep sx p0;have s_p1:=Ext.keep sx p1;have s_p2:=Ext.keep sx p2;have s_p3:=Ext.keep sx p3;have s_p4:=Ext.keep sx p4;have s_p5:=Ext.keep sx p5;(try have s_s1:=Ext.keep sx s1);go_simp;try with_reducible rfl)
    try simp only [Act.put,aJ]
    refine tkY 2 ?_ ?_ ?_;rotate_left;focus (intro w hSw;(try dsimp only at hSw);obtain ⟨bx0,sx⟩:=hSw;have c0_0:=(bx0 0 _ rfl).1;have c0_1:=(bx0 1 _ rfl).1;have c0_2:=(bx0 2 _ rfl).1;have s_ps:=Ext.keep sx ps;have s_p0:=Ext.keep sx p0;have s_p1:=Ext.keep sx p1;have s_p2:=Ext.keep sx p2;have s_p3:=Ext.keep sx p3;have s_p4:=Ext.keep sx p4;have s_p5:=Ext.keep sx p5;(try have s_s1:=Ext.keep sx s1);go_simp;try with_reducible rfl)
    try simp only [Act.put,aJ]
    refine tkP 3 ?_ ?_ ?_;rotate_left;focus (intro w;go_simp;try with_reducible rfl)
    try simp only [Act.put,aJ]
    refine tkP 4 ?_ ?_ ?_;rotate_left;focus (intro w;go_simp;try with_reducible rfl)
    try simp only [Act.put,aJ]
    refine wpAnyH_ready (rs:=[5]) (by kernel_rfl) (by simp) ?_
    refine AllReadyH.cons rfl (fun K hK=>?_) AllReadyH.nil
    (try simp only [aJ])
    go_simp
    (go_at_call 58;(refine (aP _ _ _ _).mono ?_);rintro e y ⟨rfl,rfl⟩;rw [Hc.out])
    show K _ _
    refine hK.out _ _ (by exact hHeld) (fun hHeld=>?_)
    clear hK K
    try simp only [Act.put,aJ]
    refine tkP 6 ?_ ?_ ?_;rotate_left;focus (intro w;go_simp;try with_reducible rfl)
    try simp only [Act.put,aJ]
    refine tkP 7 ?_ ?_ ?_;rotate_left;focus (intro w;go_simp;try with_reducible rfl)
    try simp only [Act.put,aJ]
    refine tkY 8 ?_ ?_ ?_;rotate_left;focus (intro w hSw;(try dsimp only at hSw);obtain ⟨bx0,sx⟩:=hSw;have c0_0:=(bx0 0 _ rfl).1;have c0_1:=(bx0 1 _ rfl).1;have c0_2:=(bx0 2 _ rfl).1;have s_ps:=Ext.keep sx ps;have s_p0:=Ext.keep sx p0;have s_p1:=Ext.keep sx p1;have s_p2:=Ext.keep sx p2;have s_p3:=Ext.keep sx p3;have s_p4:=Ext.keep sx p4;have s_p5:=Ext.keep sx p5;(try have s_s1:=Ext.keep sx s1);go_simp;try with_reducible rfl)
    try simp only [Act.put,aJ]
    refine tkY 9 ?_ ?_ ?_;rotate_left;focus (intro w hSw;(try dsimp only at hSw);obtain ⟨bx0,sx⟩:=hSw;have c0_0:=(bx0 0 _ rfl).1;have c0_1:=(bx0 1 _ rfl).1;have c0_2:=(bx0 2 _ rfl).1;have s_ps:=Ext.keep sx ps;have s_p0:=Ext.keep sx p0;have s_p1:=Ext.keep sx p1;have s_p2:=Ext.keep sx p2;have s_p3:=Ext.keep sx p3;have s_p4:=Ext.keep sx p4;have s_p5:=Ext.keep sx p5;(try have s_s1:=Ext.keep sx s1);go_simp;try with_reducible rfl)
    try simp only [Act.put,aJ]
    refine tkP 10 ?_ ?_ ?_;rotate_left;focus (intro w;go_simp;try with_reducible rfl)
    try simp only [Act.put,aJ]
    refine tkY 11 ?_ ?_ ?_;rotate_left;focus (intro w hSw;(try dsimp only at hSw);obtain ⟨bx0,sx⟩:=hSw;have c0_0:=(bx0 0 _ rfl).1;have c0_1:=(bx0 1 _ rfl).1;have c0_2:=(bx0 2 _ rfl).1;have s_ps:=Ext.keep sx ps;have s_p0:=Ext.keep sx p0;have s_p1:=Ext.keep sx p1;have s_p2:=Ext.keep sx p2;have s_p3:=Ext.keep sx p3;have s_p4:=Ext.keep sx p4;have s_p5:=Ext.keep sx p5;(try have s_s1:=Ext.keep sx s1);go_simp;try with_reducible rfl)
    try simp only [Act.put,aJ]
    refine tkP 12 ?_ ?_ ?_;rotate_left;focus (intro w;go_simp;try with_reducible rfl)
    try simp only [Act.put,aJ]
    refine wpAnyH_ready (rs:=[13]) (by kernel_rfl) (by simp) ?_
    refine AllReadyH.cons rfl (fun K hK=>?_) AllReadyH.nil
    (try simp only [aJ])
    go_simp
    (have hSw:=hHeld;(try dsimp only at hSw);obtain ⟨bx0,sx⟩:=hSw;have c0_0:=(bx0 0 _ rfl).1;have c0_1:=(bx0 1 _ rfl).1;have c0_2:=(bx0 2 _ rfl).1;have s_ps:=Ext.keep sx ps;have s_p0:=Ext.keep sx p0;have s_p1:=Ext.keep sx p1;have s_p2:=Ext.keep sx p2;have s_p3:=Ext.keep sx p3;have s_p4:=Ext.keep sx p4;have s_p5:=Ext.keep sx p5;(try have s_s1:=Ext.keep sx s1);have s_hV:=hV.ext iD.keeps sx;have s_hB:=dQ.keeps _ _ _ _ _ _ (dq.ext sx) hB;have s_hLV:=hLV.ext cS.keeps sx;go_at_call 147;(refine (bX lo hi lo' hi' _ sig _ b _ _ _ s_hV s_hB e2 HR.out (by omega) hC).mono ?_);rintro e y ⟨rfl,hb⟩;rw [Hu.out])
    show K _ _
    refine hK.out _ _ (by (have hh:=hHeld;(try dsimp only at hh);exact ⟨hh.1.ext hb,hh.2.trans hb⟩)) (fun hHeld=>?_)
    clear hK K
    try simp only [Act.put,aJ]
    refine tkP 14 ?_ ?_ ?_;rotate_left;focus (intro w;go_simp;try with_reducible rfl)
    try simp only [Act.put,aJ]
    refine tkP 15 ?_ ?_ ?_;rotate_left;focus (intro w;go_simp;try with_reducible rfl)
    try simp only [Act.put,aJ]
    refine tkP 16 ?_ ?_ ?_;rotate_left;focus (intro w;go_simp;try with_reducible rfl)
    try simp only [Act.put,aJ]
    refine tkP 17 ?_ ?_ ?_;rotate_left;focus (intro w;go_simp;try with_reducible rfl)
    try simp only [Act.put,aJ]
    refine tkY 18 ?_ ?_ ?_;rotate_left;focus (intro w hSw;(try dsimp only at hSw);obtain ⟨bx0,sx⟩:=hSw;have c0_0:=(bx0 0 _ rfl).1;have c0_1:=(bx0 1 _ rfl).1;have c0_2:=(bx0 2 _ rfl).1;have s_ps:=Ext.keep sx ps;have s_p0:=Ext.keep sx p0;have s_p1:=Ext.keep sx p1;have s_p2:=Ext.keep sx p2;have s_p3:=Ext.keep sx p3;have s_p4:=Ext.keep sx p4;have s_p5:=Ext.keep sx p5;(try have s_s1:=Ext.keep sx s1);go_simp;try with_reducible rfl)
    try simp only [Act.put,aJ]
    refine tkP 19 ?_ ?_ ?_;rotate_left;focus (intro w;go_simp;try with_reducible rfl)
    try simp only [Act.put,aJ]
    refine tkY 20 ?_ ?_ ?_;rotate_left;focus (intro w hSw;(try dsimp only at hSw);obtain ⟨bx0,sx⟩:=hSw;have c0_0:=(bx0 0 _ rfl).1;have c0_1:=(bx0 1 _ rfl).1;have c0_2:=(bx0 2 _ rfl).1;have s_ps:=Ext.keep sx ps;have s_p0:=Ext.keep sx p0;have s_p1:=Ext.keep sx p1;have s_p2:=Ext.keep sx p2;have s_p3:=Ext.keep sx p3;have s_p4:=Ext.keep sx p4;have s_p5:=Ext.keep sx p5;(try have s_s1:=Ext.keep sx s1);go_simp;try with_reducible rfl)
    try simp only [Act.put,aJ]
    refine tkP 21 ?_ ?_ ?_;rotate_left;focus (intro w;go_simp;try with_reducible rfl)
    try simp only [Act.put,aJ]
    refine tkY 22 ?_ ?_ ?_;rotate_left;focus (intro w hSw;(try dsimp only at hSw);obtain ⟨bx0,sx⟩:=hSw;have c0_0:=(bx0 0 _ rfl).1;have c0_1:=(bx0 1 _ rfl).1;have c0_2:=(bx0 2 _ rfl).1;have s_ps:=Ext.keep sx ps;have s_p0:=Ext.keep sx p0;have s_p1:=Ext.keep sx p1;have s_p2:=Ext.keep sx p2;have s_p3:=Ext.keep sx p3;have s_p4:=Ext.keep sx p4;have s_p5:=Ext.keep sx p5;(try have s_s1:=Ext.keep sx s1);go_simp;try with_reducible rfl)
    try simp only [Act.put,aJ]
    refine tkP 23 ?_ ?_ ?_;rotate_left;focus (intro w;go_simp;try with_reducible rfl)
    try simp only [Act.put,aJ]
    refine tkP 24 ?_ ?_ ?_;rotate_left;focus (intro w;go_simp;try with_reducible rfl)
    try simp only [Act.put,aJ]
    refine tkY 25 ?_ ?_ ?_;rotate_left;focus (intro w hSw;(try dsimp only at hSw);obtain ⟨bx0,sx⟩:=hSw;have c0_0:=(bx0 0 _ rfl).1;have c0_1:=(bx0 1 _ rfl).1;have c0_2:=(bx0 2 _ rfl).1;have s_ps:=Ext.keep sx ps;have s_p0:=Ext.keep sx p0;have s_p1:=Ext.keep sx p1;have s_p2:=Ext.keep sx p2;have s_p3:=Ext.keep sx p3;have s_p4:=Ext.keep sx p4;have s_p5:=Ext.keep sx p5;(try have s_s1:=Ext.keep sx s1);go_simp;try with_reducible rfl)
    try simp only [Act.put,aJ]
    refine tkP 26 ?_ ?_ ?_;rotate_left;focus (intro w;go_simp;try with_reducible rfl)
    try simp only [Act.put,aJ]
    refine tkP 27 ?_ ?_ ?_;rotate_left;focus (intro w;go_simp;try with_reducible rfl)
    try simp only [Act.put,aJ]
    refine tkP 28 ?_ ?_ ?_;rotate_left;focus (intro w;go_simp;try with_reducible rfl)
    try simp only [Act.put,aJ]
    refine tkP 29 ?_ ?_ ?_;rotate_left;focus (intro w;go_simp;try with_reducible rfl)
    try simp only [Act.put,aJ]
    refine tkY 30 ?_ ?_ ?_;rotate_left;focus (intro w hSw;(try dsimp only at hSw);obtain ⟨bx0,sx⟩:=hSw;have c0_0:=(bx0 0 _ rfl).1;have c0_1:=(bx0 1 _ rfl).1;have c0_2:=(bx0 2 _ rfl).1;have s_ps:=Ext.keep sx ps;have s_p0:=Ext.keep sx p0;have s_p1:=Ext.keep sx p1;have s_p2:=Ext.keep sx p2;have s_p3:=Ext.keep sx p3;have s_p4:=Ext.keep sx p4;have s_p5:=Ext.keep sx p5;(try have s_s1:=Ext.keep sx s1);go_simp;try with_reducible rfl)
    try simp only [Act.put,aJ]
    refine tkP 31 ?_ ?_ ?_;rotate_left;focus (intro w;go_simp;try with_reducible rfl)
    try simp only [Act.put,aJ]
    refine wpAnyH_ready (rs:=[32]) (by kernel_rfl) (by simp) ?_
    refine AllReadyH.cons rfl (fun K hK=>?_) AllReadyH.nil
    (try simp only [aJ])
    go_simp
    (have hSw:=hHeld;(try dsimp only at hSw);obtain ⟨bx0,sx⟩:=hSw;have c0_0:=(bx0 0 _ rfl).1;have c0_1:=(bx0 1 _ rfl).1;have c0_2:=(bx0 2 _ rfl).1;have s_ps:=Ext.keep sx ps;have s_p0:=Ext.keep sx p0;have s_p1:=Ext.keep sx p1;have s_p2:=Ext.keep sx p2;have s_p3:=Ext.keep sx p3;have s_p4:=Ext.keep sx p4;have s_p5:=Ext.keep sx p5;(try have s_s1:=Ext.keep sx s1);have s_hV:=hV.ext iD.keeps sx;have s_hB:=dQ.keeps _ _ _ _ _ _ (dq.ext sx) hB;have s_hLV:=hLV.ext cS.keeps sx;go_at_call 108;(refine (bI lo' hi' (fun l=>!(dU b l)) 148 #[.pointer (some ⟨W0.heap.size,0,none⟩)] _ _ _ s_hLV eg1 (fun j hj cs W hW hP=>iJ lo' hi' W0.heap.size _ b _ W (dQ.keeps _ _ _ _ _ _ (dq.ext hW) s_hB) HE.out hol (fun j u hj=>hW.keep (sx.keep (hX1.keep (HBB.out j u hj)))))).mono ?_);rintro e y ⟨rfl,hb⟩;rw [Hk.out])
    show K _ _
    refine hK.out _ _ (by (have hh:=hHeld;(try dsimp only at hh);exact ⟨hh.1.ext hb,hh.2.trans hb⟩)) (fun hHeld=>?_)
    clear hK K
    try simp only [Act.put,aJ]
    refine tkP 33 ?_ ?_ ?_;rotate_left;focus (intro w;go_simp;try with_reducible rfl)
    try simp only [Act.put,aJ]
    refine wpAnyH_done (by kernel_rfl) ?_ _
    all_goals go_wp2
    all_goals go_ret
    all_goals exact ⟨ap HB.out.symm,xw⟩
   have Hk:=Lib.hid hk
   clear hk
   have HG:=Lib.hid (show fW sig b i=true by rw [HA.out,HK.out];simp [Hc.out,Hu.out,Hl.out,Hk.out])
   clear hbad
   go_wp2_with fail
   refine wp_region_held_drew (S:=(fun w'=>dL w' wr.heap.size [.int .i64 (m:Int),.int .i64 np,.slice la nl.length lk]∧Ext wr w')) (by kernel_rfl) ?_ (fun hHeld=>?_)
   ·(refine ⟨?_,xw⟩;all_goals (intro j u hj;rcases j with _|_|_|_|_|_|_|_|j <;> simp at hj <;> (subst hj;simp)))
   refine tkP 0 ?_ ?_ ?_;rotate_left;focus (intro w;go_simp;try with_reducible rfl)
   try simp only [Act.put,aJ]
   refine tkY 1 ?_ ?_ ?_;rotate_left;focus (intro w hSw;(try dsimp only at hSw);obtain ⟨bx0,sx⟩:=hSw;have c0_0:=(bx0 0 _ rfl).1;have c0_1:=(bx0 1 _ rfl).1;have c0_2:=(bx0 2 _ rfl).1;have s_ps:=Ext.keep sx ps;have s_p0:=Ext.keep sx p0;have s_p1:=Ext.keep sx p1;have s_p2:=Ext.keep sx p2;have s_p3:=Ext.keep sx p3;have s_p4:=Ext.keep sx p4;have s_p5:=Ext.keep sx p5;(try have s_s1:=Ext.keep sx s1);go_simp;try with_reducible rfl)
   try simp only [Act.put,aJ]
   refine tkY 2 ?_ ?_ ?_;rotate_left;focus (intro w hSw;(try dsimp only at hSw);obtain ⟨bx0,sx⟩:=hSw;have c0_0:=(bx0 0 _ rfl).1;have c0_1:=(bx0 1 _ rfl).1;have c0_2:=(bx0 2 _ rfl).1;have s_ps:=Ext.keep sx ps;have s_p0:=Ext.keep sx p0;have s_p1:=Ext.keep sx p1;have s_p2:=Ext.keep sx p2;have s_p3:=Ext.keep sx p3;have s_p4:=Ext.keep sx p4;have s_p5:=Ext.keep sx p5;(try have s_s1:=Ext.keep sx s1);go_simp;try with_reducible rfl)
   try simp only [Act.put,aJ]
   refine tkP 3 ?_ ?_ ?_;rotate_left;focus (intro w;go_simp;try with_reducible rfl)
   try simp only [Act.put,aJ]
   refine tkP 4 ?_ ?_ ?_;rotate_left;focus (intro w;go_simp;try with_reducible rfl)
   try simp only [Act.put,aJ]
   refine wpAnyH_ready (rs:=[5]) (by kernel_rfl) (by simp) ?_
   refine AllReadyH.cons rfl (fun K hK=>?_) AllReadyH.nil
   (try simp only [aJ])
   go_simp
   (go_at_call 58;(refine (aP _ _ _ _).mono ?_);rintro e y ⟨rfl,rfl⟩;rw [Hc.out])
   show K _ _
   refine hK.out _ _ (by exact hHeld) (fun hHeld=>?_)
   clear hK K
   try simp only [Act.put,aJ]
   refine tkP 6 ?_ ?_ ?_;rotate_left;focus (intro w;go_simp;try with_reducible rfl)
   try simp only [Act.put,aJ]
   refine tkP 7 ?_ ?_ ?_;rotate_left;focus (intro w;go_simp;try with_reducible rfl)
   try simp only [Act.put,aJ]
   refine tkY 8 ?_ ?_ ?_;rotate_left;focus (intro w hSw;(try dsimp only at hSw);obtain ⟨bx0,sx⟩:=hSw;have c0_0:=(bx0 0 _ rfl).1;have c0_1:=(bx0 1 _ rfl).1;have c0_2:=(bx0 2 _ rfl).1;have s_ps:=Ext.keep sx ps;have s_p0:=Ext.keep sx p0;have s_p1:=Ext.keep sx p1;have s_p2:=Ext.keep sx p2;have s_p3:=Ext.keep sx p3;have s_p4:=Ext.keep sx p4;have s_p5:=Ext.keep sx p5;(try have s_s1:=Ext.keep sx s1);go_simp;try with_reducible rfl)
   try simp only [Act.put,aJ]
   refine tkY 9 ?_ ?_ ?_;rotate_left;focus (intro w hSw;(try dsimp only at hSw);obtain ⟨bx0,sx⟩:=hSw;have c0_0:=(bx0 0 _ rfl).1;have c0_1:=(bx0 1 _ rfl).1;have c0_2:=(bx0 2 _ rfl).1;have s_ps:=Ext.keep sx ps;have s_p0:=Ext.keep sx p0;have s_p1:=Ext.keep sx p1;have s_p2:=Ext.keep sx p2;have s_p3:=Ext.keep sx p3;have s_p4:=Ext.keep sx p4;have s_p5:=Ext.keep sx p5;(try have s_s1:=Ext.keep sx s1);go_simp;try with_reducible rfl)
   try simp only [Act.put,aJ]
   refine tkP 10 ?_ ?_ ?_;rotate_left;focus (intro w;go_simp;try with_reducible rfl)
   try simp only [Act.put,aJ]
   refine tkY 11 ?_ ?_ ?_;rotate_left;focus (intro w hSw;(try dsimp only at hSw);obtain ⟨bx0,sx⟩:=hSw;have c0_0:=(bx0 0 _ rfl).1;have c0_1:=(bx0 1 _ rfl).1;have c0_2:=(bx0 2 _ rfl).1;have s_ps:=Ext.keep sx ps;have s_p0:=Ext.keep sx p0;have s_p1:=Ext.keep sx p1;have s_p2:=Ext.keep sx p2;have s_p3:=Ext.keep sx p3;have s_p4:=Ext.keep sx p4;have s_p5:=Ext.keep sx p5;(try have s_s1:=Ext.keep sx s1);go_simp;try with_reducible rfl)
   try simp only [Act.put,aJ]
   refine tkP 12 ?_ ?_ ?_;rotate_left;focus (intro w;go_simp;try with_reducible rfl)
   try simp only [Act.put,aJ]
   refine wpAnyH_ready (rs:=[13]) (by kernel_rfl) (by simp) ?_
   refine AllReadyH.cons rfl (fun K hK=>?_) AllReadyH.nil
   (try simp only [aJ])
   go_simp
   (have hSw:=hHeld;(try dsimp only at hSw);obtain ⟨bx0,sx⟩:=hSw;have c0_0:=(bx0 0 _ rfl).1;have c0_1:=(bx0 1 _ rfl).1;have c0_2:=(bx0 2 _ rfl).1;have s_ps:=Ext.keep sx ps;have s_p0:=Ext.keep sx p0;have s_p1:=Ext.keep sx p1;have s_p2:=Ext.keep sx p2;have s_p3:=Ext.keep sx p3;have s_p4:=Ext.keep sx p4;have s_p5:=Ext.keep sx p5;(try have s_s1:=Ext.keep sx s1);have s_hV:=hV.ext iD.keeps sx;have s_hB:=dQ.keeps _ _ _ _ _ _ (dq.ext sx) hB;have s_hLV:=hLV.ext cS.keeps sx;go_at_call 147;(refine (bX lo hi lo' hi' _ sig _ b _ _ _ s_hV s_hB e2 HR.out (by omega) hC).mono ?_);rintro e y ⟨rfl,hb⟩;rw [Hu.out])
   show K _ _
   refine hK.out _ _ (by (have hh:=hHeld;(try dsimp only at hh);exact ⟨hh.1.ext hb,hh.2.trans hb⟩)) (fun hHeld=>?_)
   clear hK K
   try simp only [Act.put,aJ]
   refine tkP 14 ?_ ?_ ?_;rotate_left;focus (intro w;go_simp;try with_reducible rfl)
   try simp only [Act.put,aJ]
   refine tkP 15 ?_ ?_ ?_;rotate_left;focus (intro w;go_simp;try with_reducible rfl)
   try simp only [Act.put,aJ]
   refine tkP 16 ?_ ?_ ?_;rotate_left;focus (intro w;go_simp;try with_reducible rfl)
   try simp only [Act.put,aJ]
   refine tkP 17 ?_ ?_ ?_;rotate_left;focus (intro w;go_simp;try with_reducible rfl)
   try simp only [Act.put,aJ]
   refine tkY 18 ?_ ?_ ?_;rotate_left;focus (intro w hSw;(try dsimp only at hSw);obtain ⟨bx0,sx⟩:=hSw;have c0_0:=(bx0 0 _ rfl).1;have c0_1:=(bx0 1 _ rfl).1;have c0_2:=(bx0 2 _ rfl).1;have s_ps:=Ext.keep sx ps;have s_p0:=Ext.keep sx p0;have s_p1:=Ext.keep sx p1;have s_p2:=Ext.keep sx p2;have s_p3:=Ext.keep sx p3;have s_p4:=Ext.keep sx p4;have s_p5:=Ext.keep sx p5;(try have s_s1:=Ext.keep sx s1);go_simp;try with_reducible rfl)
   try simp only [Act.put,aJ]
   refine tkP 19 ?_ ?_ ?_;rotate_left;focus (intro w;go_simp;try with_reducible rfl)
   try simp only [Act.put,aJ]
   refine tkY 20 ?_ ?_ ?_;rotate_left;focus (intro w hSw;(try dsimp only at hSw);obtain ⟨bx0,sx⟩:=hSw;have c0_0:=(bx0 0 _ rfl).1;have c0_1:=(bx0 1 _ rfl).1;have c0_2:=(bx0 2 _ rfl).1;have s_ps:=Ext.keep sx ps;have s_p0:=Ext.keep sx p0;have s_p1:=Ext.keep sx p1;have s_p2:=Ext.keep sx p2;have s_p3:=Ext.keep sx p3;have s_p4:=Ext.keep sx p4;have s_p5:=Ext.keep sx p5;(try have s_s1:=Ext.keep sx s1);go_simp;try with_reducible rfl)
   try simp only [Act.put,aJ]
   refine tkP 21 ?_ ?_ ?_;rotate_left;focus (intro w;go_simp;try with_reducible rfl)
   try simp only [Act.put,aJ]
   refine tkY 22 ?_ ?_ ?_;rotate_left;focus (intro w hSw;(try dsimp only at hSw);obtain ⟨bx0,sx⟩:=hSw;have c0_0:=(bx0 0 _ rfl).1;have c0_1:=(bx0 1 _ rfl).1;have c0_2:=(bx0 2 _ rfl).1;have s_ps:=Ext.keep sx ps;have s_p0:=Ext.keep sx p0;have s_p1:=Ext.keep sx p1;have s_p2:=Ext.keep sx p2;have s_p3:=Ext.keep sx p3;have s_p4:=Ext.keep sx p4;have s_p5:=Ext.keep sx p5;(try have s_s1:=Ext.keep sx s1);go_simp;try with_reducible rfl)
   try simp only [Act.put,aJ]
   refine tkP 23 ?_ ?_ ?_;rotate_left;focus (intro w;go_simp;try with_reducible rfl)
   try simp only [Act.put,aJ]
   refine tkP 24 ?_ ?_ ?_;rotate_left;focus (intro w;go_simp;try with_reducible rfl)
   try simp only [Act.put,aJ]
   refine tkY 25 ?_ ?_ ?_;rotate_left;focus (intro w hSw;(try dsimp only at hSw);obtain ⟨bx0,sx⟩:=hSw;have c0_0:=(bx0 0 _ rfl).1;have c0_1:=(bx0 1 _ rfl).1;have c0_2:=(bx0 2 _ rfl).1;have s_ps:=Ext.keep sx ps;have s_p0:=Ext.keep sx p0;have s_p1:=Ext.keep sx p1;have s_p2:=Ext.keep sx p2;have s_p3:=Ext.keep sx p3;have s_p4:=Ext.keep sx p4;have s_p5:=Ext.keep sx p5;(try have s_s1:=Ext.keep sx s1);go_simp;try with_reducible rfl)
   try simp only [Act.put,aJ]
   refine tkP 26 ?_ ?_ ?_;rotate_left;focus (intro w;go_simp;try with_reducible rfl)
   try simp only [Act.put,aJ]
   refine tkP 27 ?_ ?_ ?_;rotate_left;focus (intro w;go_simp;try with_reducible rfl)
   try simp only [Act.put,aJ]
   refine tkP 28 ?_ ?_ ?_;rotate_left;focus (intro w;go_simp;try with_reducible rfl)
   try simp only [Act.put,aJ]
   refine tkP 29 ?_ ?_ ?_;rotate_left;focus (intro w;go_simp;try with_reducible rfl)
   try simp only [Act.put,aJ]
   refine tkY 30 ?_ ?_ ?_;rotate_left;focus (intro w hSw;(try dsimp only at hSw);obtain ⟨bx0,sx⟩:=hSw;have c0_0:=(bx0 0 _ rfl).1;have c0_1:=(bx0 1 _ rfl).1;have c0_2:=(bx0 2 _ rfl).1;have s_ps:=Ext.keep sx ps;have s_p0:=Ext.keep sx p0;have s_p1:=Ext.keep sx p1;have s_p2:=Ext.keep sx p2;have s_p3:=Ext.keep sx p3;have s_p4:=Ext.keep sx p4;have s_p5:=Ext.keep sx p5;(try have s_s1:=Ext.keep sx s1);go_simp;try with_reducible rfl)
   try simp only [Act.put,aJ]
   refine tkP 31 ?_ ?_ ?_;rotate_left;focus (intro w;go_simp;try with_reducible rfl)
   try simp only [Act.put,aJ]
   refine wpAnyH_ready (rs:=[32]) (by kernel_rfl) (by simp) ?_
   refine AllReadyH.cons rfl (fun K hK=>?_) AllReadyH.nil
   (try simp only [aJ])
   go_simp
   (have hSw:=hHeld;(try dsimp only at hSw);obtain ⟨bx0,sx⟩:=hSw;have c0_0:=(bx0 0 _ rfl).1;have c0_1:=(bx0 1 _ rfl).1;have c0_2:=(bx0 2 _ rfl).1;have s_ps:=Ext.keep sx ps;have s_p0:=Ext.keep sx p0;have s_p1:=Ext.keep sx p1;have s_p2:=Ext.keep sx p2;have s_p3:=Ext.keep sx p3;have s_p4:=Ext.keep sx p4;have s_p5:=Ext.keep sx p5;(try have s_s1:=Ext.keep sx s1);have s_hV:=hV.ext iD.keeps sx;have s_hB:=dQ.keeps _ _ _ _ _ _ (dq.ext sx) hB;have s_hLV:=hLV.ext cS.keeps sx;go_at_call 108;(refine (bI lo' hi' (fun l=>!(dU b l)) 148 #[.pointer (some ⟨W0.heap.size,0,none⟩)] _ _ _ s_hLV eg1 (fun j hj cs W hW hP=>iJ lo' hi' W0.heap.size _ b _ W (dQ.keeps _ _ _ _ _ _ (dq.ext hW) s_hB) HE.out hol (fun j u hj=>hW.keep (sx.keep (hX1.keep (HBB.out j u hj)))))).mono ?_);rintro e y ⟨rfl,hb⟩;rw [Hk.out])
   show K _ _
   refine hK.out _ _ (by (have hh:=hHeld;(try dsimp only at hh);exact ⟨hh.1.ext hb,hh.2.trans hb⟩)) (fun hHeld=>?_)
   clear hK K
   try simp only [Act.put,aJ]
   refine tkP 33 ?_ ?_ ?_;rotate_left;focus (intro w;go_simp;try with_reducible rfl)
   try simp only [Act.put,aJ]
   refine wpAnyH_done (by kernel_rfl) ?_ _
   all_goals go_wp2
   all_goals go_roundw
   case rel=>exact ⟨i+1,rfl,by omega,by rw [HS.out,HOK.out,HG.out];rfl,xw⟩
   all_goals (simp only [intOf];omega)
  ·have e:i=b.nodes.length:=by omega
   subst e
   have hC:=nT HOK.out
   replace hS:=hS.ext cS.keeps hx
   replace hI:=hI.ext WrP.keeps hx
   have HSA:=Lib.hid (De sig b)
   have HWA:=Lib.hid (B3 b)
   have hans:aF sig b=(b.sites.all (fV sig b) && b.inner.all (gO b)):=by unfold aF;rw [HH.out,HOK.out];rfl
   have HN:=Lib.hid hans
   clear hans eg1
   have Hx:=Lib.hid trivial
   cases hz:b.sites.any (fun p=>!(du sig b p b.nodes.length))
   have Hz:=Lib.hid hz;clear hz
   cases hx:b.inner.any (fun x=>!(dU b x.link))
   have Hx:=Lib.hid hx;clear hx
   have isF:=trivial
   rotate_left
   have Hx:=Lib.hid hx;clear hx
   have isP:=trivial
   rotate_left
   have Hz:=Lib.hid hz;clear hz
   have isP:=trivial
   all_goals go_wp2_with (first|(go_at_call 151;(refine (dW lo' hi' (fun x=>!(dU b x.link)) 152 #[.pointer (some ⟨W0.heap.size,0,none⟩)] _ _ _ hI eg3 (fun j hj cs W hW hP=>lY lo' hi' W0.heap.size _ b cs _ W (dQ.keeps _ _ _ _ _ _ (dq.ext hW) hB) HE.out hol (fun j u hj=>hW.keep (hb.keep (hX1.keep (HBB.out j u hj)))) hP)).mono ?_);rintro e y ⟨rfl,hb⟩;rw [Hx.out];replace ps:=Ext.keep hb ps;replace p0:=Ext.keep hb p0;replace p1:=Ext.keep hb p1;replace p2:=Ext.keep hb p2;replace p3:=Ext.keep hb p3;replace p4:=Ext.keep hb p4;replace p5:=Ext.keep hb p5;replace hV:=hV.ext iD.keeps hb;replace hB:=dQ.keeps _ _ _ _ _ _ (dq.ext hb) hB;replace hS:=hS.ext cS.keeps hb;replace hI:=hI.ext WrP.keeps hb)|(go_at_call 108;(refine (bI lo' hi' (fun p=>!(du sig b p b.nodes.length)) 150 #[.pointer (some ⟨W0.heap.size,0,none⟩),.pointer (some ⟨w.heap.size,0,none⟩)] _ _ _ hS eg2 (fun j hj cs W hW hP=>mh lo' hi' lo hi W0.heap.size w.heap.size _ sig _ b _ W (hV.ext iD.keeps hW) (dQ.keeps _ _ _ _ _ _ (dq.ext hW) hB) hP.2 HR.out hC (fun j u hj=>hW.keep (hX1.keep (HBB.out j u hj))) (hW.keep ps))).mono ?_);rintro e y ⟨rfl,hb⟩;rw [Hz.out];replace ps:=Ext.keep hb ps;replace p0:=Ext.keep hb p0;replace p1:=Ext.keep hb p1;replace p2:=Ext.keep hb p2;replace p3:=Ext.keep hb p3;replace p4:=Ext.keep hb p4;replace p5:=Ext.keep hb p5;replace hV:=hV.ext iD.keeps hb;replace hB:=dQ.keeps _ _ _ _ _ _ (dq.ext hb) hB;replace hS:=hS.ext cS.keeps hb;replace hI:=hI.ext WrP.keeps hb))
   all_goals first|(have:=isF;go_ret;exact ⟨ap (by rw [HN.out,jr HSA.out,jr HWA.out,Hz.out,Hx.out];rfl),xw⟩)|(have:=isP;go_ret;exact ⟨ap (by rw [HN.out];first|(rw [jr HSA.out,Hz.out];rfl)|(rw [jr HSA.out,jr HWA.out,Hz.out,Hx.out];rfl)),xw⟩)
end Go.Proofs.YtclpbhoekmecjaaGreatDoor
namespace Go.Proofs.YtclpbhoekmecjaaGreatDoor
open Go.RowKit
set_option linter.unusedVariables false
set_option linter.unusedSimpArgs false
attribute [local irreducible] inR dE cZ lr dw du dU fV gO se fW aF
def oN (b:Big):Bool:=decide (b.sites.length=0) && decide (b.inner.length=0)
theorem jv (lo' hi':Nat) (cs:List Value) (b:Big) (w:World) (hB:dQ lo' hi' w cs b) :
 Calls Tryz.prog 102 #[.agg cs.toArray] w fun e w'=>e=.returned (.bool (oN b))∧Ext w w':=by
 obtain ⟨v1,v2,v4,v5,rfl,r1,r2,hN,hS,hO,hI⟩:=hB
 obtain ⟨a2,k2,rfl,n1,n2,n3,n4⟩:=hS
 obtain ⟨a5,k5,rfl,l1,l2,l3,l4⟩:=hI
 unfold maxLen at n2 l2
 obtain ⟨W0,hW0,hbx,hx0,hz⟩:=bM w [.int .i64 b.roots,v1,.slice a2 b.sites.length k2,.int .i64 b.edges,v4,.slice a5 b.inner.length k5] 40
 have p2:=(hbx 2 _ rfl).1
 have p5:=(hbx 5 _ rfl).1
 clear hz hbx n4 l4
 go_enter Tryz.func102,Tryz.ntmps102
 have Hi:=Lib.hid trivial
 by_cases hs:((b.sites.length:Int))=(0)
 have es:(((b.sites.length:Int)) == (0))=true:=beq_iff_eq.2 hs
 have Hs:=Lib.hid hs;clear hs
 by_cases hi:((b.inner.length:Int))=(0)
 have ei:(((b.inner.length:Int)) == (0))=true:=beq_iff_eq.2 hi
 have Hi:=Lib.hid hi;clear hi
 have isF:=trivial
 rotate_left
 have ei:(((b.inner.length:Int)) == (0))=false:=beq_eq_false_iff_ne.2 hi
 have Hi:=Lib.hid hi;clear hi
 have isP:=trivial
 rotate_left
 have es:(((b.sites.length:Int)) == (0))=false:=beq_eq_false_iff_ne.2 hs
 have Hs:=Lib.hid hs;clear hs
 have isP:=trivial
 all_goals go_wp2_with fail
 all_goals first|(have:=isF;go_ret;exact ⟨ap (by have h1:b.sites.length=0:=(by have:=Hs.out;omega);have h2:b.inner.length=0:=(by have:=Hi.out;omega);unfold oN;rw [decide_eq_true h1,decide_eq_true h2];rfl),xw⟩)|(have:=isP;go_ret;exact ⟨ap (by unfold oN;first|(have h1:¬b.sites.length=0:=(by have:=Hs.out;omega);rw [decide_eq_false h1];rfl)|(have h1:b.sites.length=0:=(by have:=Hs.out;omega);have h2:¬b.inner.length=0:=(by have:=Hi.out;omega);rw [decide_eq_true h1,decide_eq_false h2];rfl)),xw⟩)
set_option maxHeartbeats 1600000 in
theorem pK (lo hi lo' hi':Nat) (v:Value) (sig:List Ctl) (cs:List Value) (b:Big) (w:World) (hV:og lo hi w v sig) (hB:dQ lo' hi' w cs b) (hlen:b.inner.length≤1048576) :
 Calls Tryz.prog 56 #[v,.agg cs.toArray] w fun e w'=>e=.returned (.bool (dp sig b))∧Ext w w':=by
 obtain ⟨v1,v2,v4,v5,rfl,r1,r2,hN,hS,hO,hI⟩:=id hB
 obtain ⟨W0,hW0,hbx,hx0,hz⟩:=bM w [.int .i64 b.roots,v1,v2,.int .i64 b.edges,v4,v5] 40
 have p0:=(hbx 0 _ rfl).1
 have p1:=(hbx 1 _ rfl).1
 have p2:=(hbx 2 _ rfl).1
 have p3:=(hbx 3 _ rfl).1
 have p4:=(hbx 4 _ rfl).1
 have p5:=(hbx 5 _ rfl).1
 clear hz hbx
 replace hV:=hV.ext iD.keeps hx0
 replace hB:=dQ.keeps _ _ _ _ _ _ (dq.ext hx0) hB
 have HAG:Hid (dp sig b=(aF sig b && oN b)):=Lib.hid rfl
 go_enter Tryz.func56,Tryz.ntmps56
 have Hc:=Lib.hid trivial
 cases ha:aF sig b
 have Ha:=Lib.hid ha;clear ha
 have isP:=trivial
 rotate_left
 have Ha:=Lib.hid ha;clear ha
 cases hc:oN b
 have Hc:=Lib.hid hc;clear hc
 have isP:=trivial
 rotate_left
 have Hc:=Lib.hid hc;clear hc
 have isF:=trivial
 all_goals go_wp2_with (first|(go_at_call 102;(refine (jv lo' hi' _ b _ hB).mono ?_);rintro e y ⟨rfl,hb⟩;rw [Hc.out];replace p0:=Ext.keep hb p0;replace p1:=Ext.keep hb p1;replace p2:=Ext.keep hb p2;replace p3:=Ext.keep hb p3;replace p4:=Ext.keep hb p4;replace p5:=Ext.keep hb p5;replace hB:=dQ.keeps _ _ _ _ _ _ (dq.ext hb) hB)|(go_at_call 101;(refine (eZ lo hi lo' hi' _ sig _ b _ hV hB hlen).mono ?_);rintro e y ⟨rfl,hb⟩;rw [Ha.out];replace p0:=Ext.keep hb p0;replace p1:=Ext.keep hb p1;replace p2:=Ext.keep hb p2;replace p3:=Ext.keep hb p3;replace p4:=Ext.keep hb p4;replace p5:=Ext.keep hb p5;replace hB:=dQ.keeps _ _ _ _ _ _ (dq.ext hb) hB))
 all_goals first|(have:=isF;go_ret;exact ⟨ap (by rw [HAG.out,Ha.out,Hc.out];rfl),xw⟩)|(have:=isP;go_ret;exact ⟨ap (by rw [HAG.out];first|(rw [Ha.out];rfl)|(rw [Ha.out,Hc.out];rfl)),xw⟩)
set_option maxRecDepth 100000 in
set_option maxHeartbeats 1600000 in
theorem eJ (lo hi lo' hi':Nat) (v:Value) (sig:List Ctl) (cs cs':List Value) (b b':Big) (w:World) (hV:og lo hi w v sig) (hB:dQ lo' hi' w cs b) (hB':dQ lo' hi' w cs' b') (hlen:b.inner.length≤1048576) (hlen':b'.inner.length≤1048576) :
 Calls Tryz.prog 140 #[v,.agg cs.toArray,.agg cs'.toArray] w fun e w'=>e=.returned (.bool (aF sig b && aF sig b'))∧Ext w w':=by
 obtain ⟨v1,v2,v4,v5,rfl,r1,r2,hN,hS,hO,hI⟩:=id hB
 obtain ⟨y1,y2,y4,y5,rfl,r1',r2',hN',hS',hO',hI'⟩:=id hB'
 obtain ⟨W0,hW0,hbx,hx0,hz⟩:=bM w [.int .i64 b.roots,v1,v2,.int .i64 b.edges,v4,v5] 40
 obtain ⟨W1,hW1,hbx1,hx1,hz1⟩:=bM W0 [.int .i64 b'.roots,y1,y2,.int .i64 b'.edges,y4,y5] 40
 have p0:=hx1.keep (hbx 0 _ rfl).1
 have p1:=hx1.keep (hbx 1 _ rfl).1
 have p2:=hx1.keep (hbx 2 _ rfl).1
 have p3:=hx1.keep (hbx 3 _ rfl).1
 have p4:=hx1.keep (hbx 4 _ rfl).1
 have p5:=hx1.keep (hbx 5 _ rfl).1
 have s0:=(hbx1 0 _ rfl).1
 have s1:=(hbx1 1 _ rfl).1
 have s2:=(hbx1 2 _ rfl).1
 have s3:=(hbx1 3 _ rfl).1
 have s4:=(hbx1 4 _ rfl).1
 have s5:=(hbx1 5 _ rfl).1
 have hzz:w.heap.size<W0.heap.size:=by omega
 clear hz hbx hz1 hbx1
 have hx:=hx0.trans hx1
 replace hV:=hV.ext iD.keeps hx
 replace hB:=dQ.keeps _ _ _ _ _ _ (dq.ext hx) hB
 replace hB':=dQ.keeps _ _ _ _ _ _ (dq.ext hx) hB'
 go_enter Tryz.func140,Tryz.ntmps140
 have Hc:=Lib.hid trivial
 cases ha:aF sig b
 have Ha:=Lib.hid ha;clear ha
 have isP:=trivial
 rotate_left
 have Ha:=Lib.hid ha;clear ha
 cases hc:aF sig b'
 have Hc:=Lib.hid hc;clear hc
 have isP:=trivial
 rotate_left
 have Hc:=Lib.hid hc;clear hc
 have isF:=trivial
 all_goals go_wp2_with (first|(go_at_call 101;(with_reducible refine (eZ lo hi lo' hi' _ sig [.int .i64 b'.roots,y1,y2,.int .i64 b'.edges,y4,y5] b' _ hV hB' hlen').mono ?_);rintro e y ⟨rfl,hb⟩;rw [Hc.out];replace p0:=Ext.keep hb p0;replace p1:=Ext.keep hb p1;replace p2:=Ext.keep hb p2;replace p3:=Ext.keep hb p3;replace p4:=Ext.keep hb p4;replace p5:=Ext.keep hb p5;replace s0:=Ext.keep hb s0;replace s1:=Ext.keep hb s1;replace s2:=Ext.keep hb s2;replace s3:=Ext.keep hb s3;replace s4:=Ext.keep hb s4;replace s5:=Ext.keep hb s5;replace hV:=hV.ext iD.keeps hb;replace hB':=dQ.keeps _ _ _ _ _ _ (dq.ext hb) hB')|(go_at_call 101;(with_reducible refine (eZ lo hi lo' hi' _ sig [.int .i64 b.roots,v1,v2,.int .i64 b.edges,v4,v5] b _ hV hB hlen).mono ?_);rintro e y ⟨rfl,hb⟩;rw [Ha.out];replace p0:=Ext.keep hb p0;replace p1:=Ext.keep hb p1;replace p2:=Ext.keep hb p2;replace p3:=Ext.keep hb p3;replace p4:=Ext.keep hb p4;replace p5:=Ext.keep hb p5;replace s0:=Ext.keep hb s0;replace s1:=Ext.keep hb s1;replace s2:=Ext.keep hb s2;replace s3:=Ext.keep hb s3;replace s4:=Ext.keep hb s4;replace s5:=Ext.keep hb s5;replace hV:=hV.ext iD.keeps hb;replace hB':=dQ.keeps _ _ _ _ _ _ (dq.ext hb) hB'))
 all_goals (go_ret;exact ⟨ap (by rfl),xw⟩)
end Go.Proofs.YtclpbhoekmecjaaGreatDoor
namespace Go.Proofs.YtclpbhoekmecjaaGreatDoor
open Go.RowKit
set_option linter.unusedVariables false
set_option linter.unusedSimpArgs false
def kv (a c:List ByteArray) (i:Nat):Bool:=ml (a.getD i ⟨#[]⟩) (c.getD i ⟨#[]⟩)
def eqS (a c:List ByteArray):Bool:=decide (a.length=c.length) && (List.range a.length).all (kv a c)
theorem kB (a c:List ByteArray) (i:Nat) (h1:i<a.length) (h2:i<c.length):kv a c i=(a[i].toList == c[i].toList):=by
 unfold kv ml
 rw [List.getD_eq_getElem?_getD,List.getD_eq_getElem?_getD,List.getElem?_eq_getElem h1,List.getElem?_eq_getElem h2];rfl
theorem qD {a c:List ByteArray} (i:Nat) (h1:i<a.length) (h:kv a c i=false):eqS a c=false:=by
 unfold eqS;rw [bw _ _ i h1 h];simp
theorem qZ {a c:List ByteArray} (h:¬(a.length:Int)=(c.length:Int)):eqS a c=false:=by
 unfold eqS;rw [decide_eq_false (by omega)];rfl
theorem BF {a c:List ByteArray} (h:(a.length:Int)=(c.length:Int)) (hh:(List.range a.length).all (kv a c)=true):eqS a c=true:=by
 unfold eqS;rw [decide_eq_true (by omega),hh];rfl
attribute [local irreducible] inR dE cZ dc bA aI na nP gE dg dB eF aF kv
set_option maxHeartbeats 1600000 in
theorem eu (lo hi lo' hi':Nat) (v v':Value) (a c:List ByteArray) (w:World) (h:zY lo hi w v a) (h':zY lo' hi' w v' c) :
 Calls Tryz.prog 142 #[v,v'] w fun e w'=>e=.returned (.bool (eqS a c))∧Ext w w':=by
 obtain ⟨ua,k,rfl,g1,g2,g3,g4⟩:=h
 obtain ⟨ua',k',rfl,m1,m2,m3,m4⟩:=h'
 unfold maxLen at g2 m2
 by_cases hl:(a.length:Int)=(c.length:Int)
 ·have el:((a.length:Int) != (c.length:Int))=false:=bne_eq_false_iff_eq.2 hl
  have HL:=Lib.hid hl
  clear hl
  go_enter Tryz.func142,Tryz.ntmps142
  go_wp2
  go_loopw [13] (fun c' wr=>∃i:Nat,c'=.int .i64 i∧i≤a.length∧(List.range i).all (kv a c)=true∧Ext w wr) (fun c' _=>a.length - (intOf c').toNat)
  case atStart=>exact ⟨0,rfl,Nat.zero_le _,rfl,xw⟩
  case round=>
   obtain ⟨i,rfl,hi0,hok,hx⟩:=hrel
   have HOK:=Lib.hid hok
   clear hok
   by_cases hlt:i<a.length
   ·have hlt2:i<c.length:=by have:=HL.out;omega
    have HS:=Lib.hid (bW (kv a c) i)
    have HBD:=Lib.hid (qD (c:=c) i hlt)
    have HA:=Lib.hid (kB a c i hlt hlt2)
    rcases g4 with g4|⟨b1,o1,rfl,gb1,gb2,g4⟩
    ·subst g4;simp at hlt
    rcases m4 with m4|⟨b2,o2,rfl,mb1,mb2,m4⟩
    ·subst m4;simp at hlt2
    obtain ⟨cs,hl,⟨rfl,e1⟩,hc⟩:=g4 i hlt
    have q0:=hx.keep (hc 0 _ rfl)
    rw [Nat.mul_one,Nat.add_zero] at q0
    obtain ⟨ds,hdl,⟨rfl,d1⟩,hd⟩:=m4 i hlt2
    have r0:=hx.keep (hd 0 _ rfl)
    rw [Nat.mul_one,Nat.add_zero] at r0
    clear hc hd g4 m4
    have j0:(0:Int)≤(i:Int):=by omega
    have j1:(i:Int)<(a.length:Int):=by omega
    have j2:(i:Int)<(c.length:Int):=by omega
    cases hb:(a[i].toList == c[i].toList)
    have Hb:=Lib.hid hb
    have HB:=Lib.hid (HBD.out (by rw [HA.out];exact Hb.out))
    have isF:=trivial
    rotate_left
    have Hb:=Lib.hid hb
    have isP:=trivial
    all_goals go_wp2_with fail
    all_goals
     refine wp_region_held_drew (S:=(fun w'=>Ext wr w')) (by kernel_rfl) ?_ (fun hHeld=>?_)
     ·refine xw
     refine tkP 0 ?_ ?_ ?_;rotate_left;focus (intro w;go_simp;try with_reducible rfl)
     try simp only [Act.put,aJ]
     refine tkP 1 ?_ ?_ ?_;rotate_left;focus (intro w;go_simp;try with_reducible rfl)
     try simp only [Act.put,aJ]
     refine tkP 2 ?_ ?_ ?_;rotate_left;focus (intro w;go_simp;try with_reducible rfl)
     try simp only [Act.put,aJ]
     refine tkY 3 ?_ ?_ ?_;rotate_left;focus (intro w hSw;(try dsimp only at hSw);have sx:=hSw;have s_q0:=Ext.keep sx q0;have s_r0:=Ext.keep sx r0;go_simp;try with_reducible rfl)
     try simp only [Act.put,aJ]
     refine tkP 4 ?_ ?_ ?_;rotate_left;focus (intro w;go_simp;try with_reducible rfl)
     try simp only [Act.put,aJ]
     refine tkP 5 ?_ ?_ ?_;rotate_left;focus (intro w;go_simp;try with_reducible rfl)
     try simp only [Act.put,aJ]
     refine tkP 6 ?_ ?_ ?_;rotate_left;focus (intro w;go_simp;try with_reducible rfl)
     try simp only [Act.put,aJ]
     refine tkY 7 ?_ ?_ ?_;rotate_left;focus (intro w hSw;(try dsimp only at hSw);have sx:=hSw;have s_q0:=Ext.keep sx q0;have s_r0:=Ext.keep sx r0;go_simp;try with_reducible rfl)
     try simp only [Act.put,aJ]
     refine tkP 8 ?_ ?_ ?_;rotate_left;focus (intro w;go_simp;try with_reducible rfl)
     try simp only [Act.put,aJ]
     refine wpAnyH_done (by kernel_rfl) ?_ _
    all_goals go_wp2
    all_goals first|(have:=isF;all_goals go_ret;all_goals exact ⟨ap HB.out.symm,xw⟩)|(have:=isP;all_goals go_roundw;(case rel=>exact ⟨i+1,rfl,by omega,by rw [HS.out,HOK.out,HA.out,Hb.out];rfl,xw⟩);all_goals (simp only [intOf];omega))
   ·have e:i=a.length:=by omega
    subst e
    go_wp2
    go_ret
    exact ⟨ap (BF HL.out HOK.out).symm,xw⟩
 ·have el:((a.length:Int) != (c.length:Int))=true:=bne_iff_ne.2 hl
  have HB:=Lib.hid (qZ hl)
  clear hl
  go_enter Tryz.func142,Tryz.ntmps142
  go_wp2
  go_ret
  exact ⟨ap HB.out.symm,xw⟩
end Go.Proofs.YtclpbhoekmecjaaGreatDoor
namespace Go.Proofs.YtclpbhoekmecjaaGreatDoor
open Go.RowKit
set_option linter.unusedVariables false
set_option linter.unusedSimpArgs false
def jk (r:Rul) (x:Int):Bool:=inR x 0 ((r.redex.sites.length:Int) - 1)
def gV (sig:List Ctl) (r:Rul):Bool:=(aF sig r.redex && aF sig r.reactum) && (bN r.redex && (decide (r.reactum.inner.length=0) && (decide (r.redex.roots=r.reactum.roots) && (eqS r.redex.outer r.reactum.outer && (decide (r.copies.length=r.reactum.sites.length) && r.copies.all (jk r))))))
def fo (sig:List Ctl) (l:List Rul):Bool:=inR (l.length:Int) 1 6 && l.all (gV sig)
theorem Cf (r:Rul):r.copies.any (fun x=>!(inR x 0 ((r.redex.sites.length:Int) - 1))) = !(r.copies.all (jk r)):=i5 (jk r) r.copies
theorem CC (sig:List Ctl) (l:List Rul):l.any (fun r=>!(gV sig r)) = !(l.all (gV sig)):=i5 (gV sig) l
theorem xP {sig:List Ctl} {l:List Rul} (h:fo sig l=true):lr sig=true:=by
 unfold fo at h
 rw [Bool.and_eq_true] at h
 have h1:=bO h.1
 cases l with
 | nil=>simp at h1
 | cons r l=>
  rw [List.all_cons,Bool.and_eq_true] at h
  have h2:=h.2.1
  unfold gV at h2
  simp only [Bool.and_eq_true] at h2
  exact (fd (dV h2.1.1).1).1
theorem kG {sig:List Ctl} {r:Rul} (h:(aF sig r.redex && aF sig r.reactum)=false∨bN r.redex=false∨¬r.reactum.inner.length=0∨¬r.redex.roots=r.reactum.roots∨eqS r.redex.outer r.reactum.outer=false∨¬(r.copies.length:Int)=r.reactum.sites.length∨r.copies.all (jk r)=false):gV sig r=false:=by
 unfold gV
 rcases h with h|h|h|h|h|h|h
 ·rw [h];rfl
 ·rw [h];simp
 ·rw [decide_eq_false h];simp
 ·rw [decide_eq_false h];simp
 ·rw [h];simp
 ·rw [decide_eq_false (show ¬r.copies.length=r.reactum.sites.length by omega)];simp
 ·rw [h];simp
theorem zT {sig:List Ctl} {r:Rul} (a:(aF sig r.redex && aF sig r.reactum)=true) (b:bN r.redex=true) (c:r.reactum.inner.length=0) (d:r.redex.roots=r.reactum.roots) (e:eqS r.redex.outer r.reactum.outer=true) (f:(r.copies.length:Int)=r.reactum.sites.length) (g:r.copies.all (jk r)=true):gV sig r=true:=by
 unfold gV
 rw [a,b,decide_eq_true c,decide_eq_true d,e,decide_eq_true (show r.copies.length=r.reactum.sites.length by omega),g];rfl
attribute [local irreducible] inR dE lr aF bN eqS jk gV
theorem oU (x:Int) (B:Nat) (a:Option Addr) (n k:Nat) (w:World) (hn:n≤1000000) (hc:w.cell? ⟨B,2,none⟩=some (.slice a n k)) :
 Calls Tryz.prog 143 #[.int .i64 x,.pointer (some ⟨B,0,none⟩)] w fun e w'=>e=.returned (.bool (!(inR x 0 ((n:Int) - 1))))∧Ext w w':=by
 have hw:=IntWalk.i64_in ((n:Int) - 1) (by omega)
 go_enter Tryz.func143,Tryz.ntmps143
 go_wp2_with (go_at_call 58;refine (aP _ _ _ _).mono ?_;rintro e w' ⟨rfl,rfl⟩)
 go_ret
 exact ⟨rfl,xw⟩
set_option maxRecDepth 100000 in
set_option maxHeartbeats 3200000 in
theorem qN (lo hi lo' hi':Nat) (v:Value) (sig:List Ctl) (cs:List Value) (r:Rul) (w:World) (hV:og lo hi w v sig) (h:uo lo' hi' w cs r) (hl1:r.redex.inner.length≤1048576) (hl2:r.reactum.inner.length≤1048576) :
 Calls Tryz.prog 100 #[v,.agg cs.toArray] w fun e w'=>e=.returned (.bool (gV sig r))∧Ext w w':=by
 obtain ⟨c1,c2,vc,rfl,hB1,hB2,hC⟩:=h
 obtain ⟨v1,v2,v4,v5,rfl,r1,r2,hN1,hS1,hO1,hI1⟩:=id hB1
 obtain ⟨y1,y2,y4,y5,rfl,r3,r4,hN2,hS2,hO2,hI2⟩:=id hB2
 obtain ⟨a2,k2,rfl,n1,n2,n3,n4⟩:=id hS1
 obtain ⟨b2,l2,rfl,m1,m2,m3,m4⟩:=id hS2
 obtain ⟨b5,l5,rfl,o1,o2,o3,o4⟩:=id hI2
 obtain ⟨a6,k6,rfl,q1,q2,q3,q4⟩:=id hC
 unfold maxLen at n2 m2 o2 q2
 obtain ⟨W0,hW0,hbx,hx0,hz⟩:=bM w [.int .i64 r.redex.roots,v1,.slice a2 r.redex.sites.length k2,.int .i64 r.redex.edges,v4,v5,.int .i64 r.reactum.roots,y1,.slice b2 r.reactum.sites.length l2,.int .i64 r.reactum.edges,y4,.slice b5 r.reactum.inner.length l5,.slice a6 r.copies.length k6] 95
 have p0:=(hbx 0 _ rfl).1
 have p1:=(hbx 1 _ rfl).1
 have p2:=(hbx 2 _ rfl).1
 have p3:=(hbx 3 _ rfl).1
 have p4:=(hbx 4 _ rfl).1
 have p5:=(hbx 5 _ rfl).1
 have p6:=(hbx 6 _ rfl).1
 have p7:=(hbx 7 _ rfl).1
 have p8:=(hbx 8 _ rfl).1
 have p9:=(hbx 9 _ rfl).1
 have p10:=(hbx 10 _ rfl).1
 have p11:=(hbx 11 _ rfl).1
 have p12:=(hbx 12 _ rfl).1
 clear hz
 replace hB1:=dQ.keeps _ _ _ _ _ _ (dq.ext hx0) hB1
 replace hB2:=dQ.keeps _ _ _ _ _ _ (dq.ext hx0) hB2
 replace hO1:=hO1.ext eG.keeps hx0
 replace hO2:=hO2.ext eG.keeps hx0
 replace hC:=hC.ext cS.keeps hx0
 replace hV:=hV.ext iD.keeps hx0
 have eg1:∀args w,(callFunc 143 args).run Tryz.prog w=.ok (.enter 143 args) w:=enters_of Tryz.func143 (by kernel_rfl) rfl
 have HCA:=Lib.hid (Cf r)
 clear hbx
 change Calls Tryz.prog 100 #[v,.agg #[.int .i64 r.redex.roots,v1,.slice a2 r.redex.sites.length k2,.int .i64 r.redex.edges,v4,v5,.int .i64 r.reactum.roots,y1,.slice b2 r.reactum.sites.length l2,.int .i64 r.reactum.edges,y4,.slice b5 r.reactum.inner.length l5,.slice a6 r.copies.length k6]] w _
 go_enter Tryz.func100,Tryz.ntmps100
 cases ha:(aF sig r.redex && aF sig r.reactum)
 ·have Ha:=Lib.hid ha
  clear ha
  go_wp2_with (first|(go_at_call 140;(refine (eJ lo hi lo' hi' _ sig [.int .i64 r.redex.roots,v1,.slice a2 r.redex.sites.length k2,.int .i64 r.redex.edges,v4,v5] [.int .i64 r.reactum.roots,y1,.slice b2 r.reactum.sites.length l2,.int .i64 r.reactum.edges,y4,.slice b5 r.reactum.inner.length l5] r.redex r.reactum _ hV hB1 hB2 hl1 hl2).mono ?_);rintro e y ⟨rfl,hb⟩;rw [Ha.out];replace p0:=Ext.keep hb p0;replace p1:=Ext.keep hb p1;replace p2:=Ext.keep hb p2;replace p3:=Ext.keep hb p3;replace p4:=Ext.keep hb p4;replace p5:=Ext.keep hb p5;replace p6:=Ext.keep hb p6;replace p7:=Ext.keep hb p7;replace p8:=Ext.keep hb p8;replace p9:=Ext.keep hb p9;replace p10:=Ext.keep hb p10;replace p11:=Ext.keep hb p11;replace p12:=Ext.keep hb p12;replace hB1:=dQ.keeps _ _ _ _ _ _ (dq.ext hb) hB1;replace hO1:=hO1.ext eG.keeps hb;replace hO2:=hO2.ext eG.keeps hb;replace hC:=hC.ext cS.keeps hb))
  go_ret
  exact ⟨ap (kG (by first|(left;exact Ha.out)|(right;left;exact Hs.out)|(right;right;left;omega)|(right;right;right;left;exact Ho.out)|(right;right;right;right;left;exact He.out))).symm,xw⟩
 have Ha:=Lib.hid ha
 clear ha
 have hbb:=Bool.and_eq_true_iff.1 Ha.out;have D1:=Lib.hid (bB hbb.1);have hsl:r.redex.sites.length≤1000:=D1.out.sites;clear hbb
 cases hs:bN r.redex
 ·have Hs:=Lib.hid hs
  clear hs
  go_wp2_with (first|(go_at_call 141;(refine (eT lo' hi' [.int .i64 r.redex.roots,v1,.slice a2 r.redex.sites.length k2,.int .i64 r.redex.edges,v4,v5] r.redex _ hB1 D1.out).mono ?_);rintro e y ⟨rfl,hb⟩;rw [Hs.out];replace p0:=Ext.keep hb p0;replace p1:=Ext.keep hb p1;replace p2:=Ext.keep hb p2;replace p3:=Ext.keep hb p3;replace p4:=Ext.keep hb p4;replace p5:=Ext.keep hb p5;replace p6:=Ext.keep hb p6;replace p7:=Ext.keep hb p7;replace p8:=Ext.keep hb p8;replace p9:=Ext.keep hb p9;replace p10:=Ext.keep hb p10;replace p11:=Ext.keep hb p11;replace p12:=Ext.keep hb p12;replace hB1:=dQ.keeps _ _ _ _ _ _ (dq.ext hb) hB1;replace hO1:=hO1.ext eG.keeps hb;replace hO2:=hO2.ext eG.keeps hb;replace hC:=hC.ext cS.keeps hb)|(go_at_call 140;(refine (eJ lo hi lo' hi' _ sig [.int .i64 r.redex.roots,v1,.slice a2 r.redex.sites.length k2,.int .i64 r.redex.edges,v4,v5] [.int .i64 r.reactum.roots,y1,.slice b2 r.reactum.sites.length l2,.int .i64 r.reactum.edges,y4,.slice b5 r.reactum.inner.length l5] r.redex r.reactum _ hV hB1 hB2 hl1 hl2).mono ?_);rintro e y ⟨rfl,hb⟩;rw [Ha.out];replace p0:=Ext.keep hb p0;replace p1:=Ext.keep hb p1;replace p2:=Ext.keep hb p2;replace p3:=Ext.keep hb p3;replace p4:=Ext.keep hb p4;replace p5:=Ext.keep hb p5;replace p6:=Ext.keep hb p6;replace p7:=Ext.keep hb p7;replace p8:=Ext.keep hb p8;replace p9:=Ext.keep hb p9;replace p10:=Ext.keep hb p10;replace p11:=Ext.keep hb p11;replace p12:=Ext.keep hb p12;replace hB1:=dQ.keeps _ _ _ _ _ _ (dq.ext hb) hB1;replace hO1:=hO1.ext eG.keeps hb;replace hO2:=hO2.ext eG.keeps hb;replace hC:=hC.ext cS.keeps hb))
  go_ret
  exact ⟨ap (kG (by first|(left;exact Ha.out)|(right;left;exact Hs.out)|(right;right;left;omega)|(right;right;right;left;exact Ho.out)|(right;right;right;right;left;exact He.out))).symm,xw⟩
 have Hs:=Lib.hid hs
 clear hs
 by_cases hn:0<r.reactum.inner.length
 ·have en:decide (0<r.reactum.inner.length)=true:=decide_eq_true hn
  go_wp2_with (first|(go_at_call 141;(refine (eT lo' hi' [.int .i64 r.redex.roots,v1,.slice a2 r.redex.sites.length k2,.int .i64 r.redex.edges,v4,v5] r.redex _ hB1 D1.out).mono ?_);rintro e y ⟨rfl,hb⟩;rw [Hs.out];replace p0:=Ext.keep hb p0;replace p1:=Ext.keep hb p1;replace p2:=Ext.keep hb p2;replace p3:=Ext.keep hb p3;replace p4:=Ext.keep hb p4;replace p5:=Ext.keep hb p5;replace p6:=Ext.keep hb p6;replace p7:=Ext.keep hb p7;replace p8:=Ext.keep hb p8;replace p9:=Ext.keep hb p9;replace p10:=Ext.keep hb p10;replace p11:=Ext.keep hb p11;replace p12:=Ext.keep hb p12;replace hB1:=dQ.keeps _ _ _ _ _ _ (dq.ext hb) hB1;replace hO1:=hO1.ext eG.keeps hb;replace hO2:=hO2.ext eG.keeps hb;replace hC:=hC.ext cS.keeps hb)|(go_at_call 140;(refine (eJ lo hi lo' hi' _ sig [.int .i64 r.redex.roots,v1,.slice a2 r.redex.sites.length k2,.int .i64 r.redex.edges,v4,v5] [.int .i64 r.reactum.roots,y1,.slice b2 r.reactum.sites.length l2,.int .i64 r.reactum.edges,y4,.slice b5 r.reactum.inner.length l5] r.redex r.reactum _ hV hB1 hB2 hl1 hl2).mono ?_);rintro e y ⟨rfl,hb⟩;rw [Ha.out];replace p0:=Ext.keep hb p0;replace p1:=Ext.keep hb p1;replace p2:=Ext.keep hb p2;replace p3:=Ext.keep hb p3;replace p4:=Ext.keep hb p4;replace p5:=Ext.keep hb p5;replace p6:=Ext.keep hb p6;replace p7:=Ext.keep hb p7;replace p8:=Ext.keep hb p8;replace p9:=Ext.keep hb p9;replace p10:=Ext.keep hb p10;replace p11:=Ext.keep hb p11;replace p12:=Ext.keep hb p12;replace hB1:=dQ.keeps _ _ _ _ _ _ (dq.ext hb) hB1;replace hO1:=hO1.ext eG.keeps hb;replace hO2:=hO2.ext eG.keeps hb;replace hC:=hC.ext cS.keeps hb))
  go_ret
  exact ⟨ap (kG (by first|(left;exact Ha.out)|(right;left;exact Hs.out)|(right;right;left;omega)|(right;right;right;left;exact Ho.out)|(right;right;right;right;left;exact He.out))).symm,xw⟩
 have en:decide (0<r.reactum.inner.length)=false:=decide_eq_false hn
 by_cases ho:(r.redex.roots)=(r.reactum.roots)
 rotate_left
 ·have eo:((r.redex.roots) != (r.reactum.roots))=true:=bne_iff_ne.2 ho
  have Ho:=Lib.hid ho
  clear ho
  go_wp2_with (first|(go_at_call 141;(refine (eT lo' hi' [.int .i64 r.redex.roots,v1,.slice a2 r.redex.sites.length k2,.int .i64 r.redex.edges,v4,v5] r.redex _ hB1 D1.out).mono ?_);rintro e y ⟨rfl,hb⟩;rw [Hs.out];replace p0:=Ext.keep hb p0;replace p1:=Ext.keep hb p1;replace p2:=Ext.keep hb p2;replace p3:=Ext.keep hb p3;replace p4:=Ext.keep hb p4;replace p5:=Ext.keep hb p5;replace p6:=Ext.keep hb p6;replace p7:=Ext.keep hb p7;replace p8:=Ext.keep hb p8;replace p9:=Ext.keep hb p9;replace p10:=Ext.keep hb p10;replace p11:=Ext.keep hb p11;replace p12:=Ext.keep hb p12;replace hB1:=dQ.keeps _ _ _ _ _ _ (dq.ext hb) hB1;replace hO1:=hO1.ext eG.keeps hb;replace hO2:=hO2.ext eG.keeps hb;replace hC:=hC.ext cS.keeps hb)|(go_at_call 140;(refine (eJ lo hi lo' hi' _ sig [.int .i64 r.redex.roots,v1,.slice a2 r.redex.sites.length k2,.int .i64 r.redex.edges,v4,v5] [.int .i64 r.reactum.roots,y1,.slice b2 r.reactum.sites.length l2,.int .i64 r.reactum.edges,y4,.slice b5 r.reactum.inner.length l5] r.redex r.reactum _ hV hB1 hB2 hl1 hl2).mono ?_);rintro e y ⟨rfl,hb⟩;rw [Ha.out];replace p0:=Ext.keep hb p0;replace p1:=Ext.keep hb p1;replace p2:=Ext.keep hb p2;replace p3:=Ext.keep hb p3;replace p4:=Ext.keep hb p4;replace p5:=Ext.keep hb p5;replace p6:=Ext.keep hb p6;replace p7:=Ext.keep hb p7;replace p8:=Ext.keep hb p8;replace p9:=Ext.keep hb p9;replace p10:=Ext.keep hb p10;replace p11:=Ext.keep hb p11;replace p12:=Ext.keep hb p12;replace hB1:=dQ.keeps _ _ _ _ _ _ (dq.ext hb) hB1;replace hO1:=hO1.ext eG.keeps hb;replace hO2:=hO2.ext eG.keeps hb;replace hC:=hC.ext cS.keeps hb))
  go_ret
  exact ⟨ap (kG (by first|(left;exact Ha.out)|(right;left;exact Hs.out)|(right;right;left;omega)|(right;right;right;left;exact Ho.out)|(right;right;right;right;left;exact He.out))).symm,xw⟩
 have eo:((r.redex.roots) != (r.reactum.roots))=false:=bne_eq_false_iff_eq.2 ho
 have Ho:=Lib.hid ho
 clear ho
 cases he:eqS r.redex.outer r.reactum.outer
 ·have He:=Lib.hid he
  clear he
  go_wp2_with (first|(go_at_call 142;(refine (eu lo' hi' lo' hi' _ _ _ _ _ hO1 hO2).mono ?_);rintro e y ⟨rfl,hb⟩;rw [He.out];replace p0:=Ext.keep hb p0;replace p1:=Ext.keep hb p1;replace p2:=Ext.keep hb p2;replace p3:=Ext.keep hb p3;replace p4:=Ext.keep hb p4;replace p5:=Ext.keep hb p5;replace p6:=Ext.keep hb p6;replace p7:=Ext.keep hb p7;replace p8:=Ext.keep hb p8;replace p9:=Ext.keep hb p9;replace p10:=Ext.keep hb p10;replace p11:=Ext.keep hb p11;replace p12:=Ext.keep hb p12;replace hB1:=dQ.keeps _ _ _ _ _ _ (dq.ext hb) hB1;replace hO1:=hO1.ext eG.keeps hb;replace hO2:=hO2.ext eG.keeps hb;replace hC:=hC.ext cS.keeps hb)|(go_at_call 141;(refine (eT lo' hi' [.int .i64 r.redex.roots,v1,.slice a2 r.redex.sites.length k2,.int .i64 r.redex.edges,v4,v5] r.redex _ hB1 D1.out).mono ?_);rintro e y ⟨rfl,hb⟩;rw [Hs.out];replace p0:=Ext.keep hb p0;replace p1:=Ext.keep hb p1;replace p2:=Ext.keep hb p2;replace p3:=Ext.keep hb p3;replace p4:=Ext.keep hb p4;replace p5:=Ext.keep hb p5;replace p6:=Ext.keep hb p6;replace p7:=Ext.keep hb p7;replace p8:=Ext.keep hb p8;replace p9:=Ext.keep hb p9;replace p10:=Ext.keep hb p10;replace p11:=Ext.keep hb p11;replace p12:=Ext.keep hb p12;replace hB1:=dQ.keeps _ _ _ _ _ _ (dq.ext hb) hB1;replace hO1:=hO1.ext eG.keeps hb;replace hO2:=hO2.ext eG.keeps hb;replace hC:=hC.ext cS.keeps hb)|(go_at_call 140;(refine (eJ lo hi lo' hi' _ sig [.int .i64 r.redex.roots,v1,.slice a2 r.redex.sites.length k2,.int .i64 r.redex.edges,v4,v5] [.int .i64 r.reactum.roots,y1,.slice b2 r.reactum.sites.length l2,.int .i64 r.reactum.edges,y4,.slice b5 r.reactum.inner.length l5] r.redex r.reactum _ hV hB1 hB2 hl1 hl2).mono ?_);rintro e y ⟨rfl,hb⟩;rw [Ha.out];replace p0:=Ext.keep hb p0;replace p1:=Ext.keep hb p1;replace p2:=Ext.keep hb p2;replace p3:=Ext.keep hb p3;replace p4:=Ext.keep hb p4;replace p5:=Ext.keep hb p5;replace p6:=Ext.keep hb p6;replace p7:=Ext.keep hb p7;replace p8:=Ext.keep hb p8;replace p9:=Ext.keep hb p9;replace p10:=Ext.keep hb p10;replace p11:=Ext.keep hb p11;replace p12:=Ext.keep hb p12;replace hB1:=dQ.keeps _ _ _ _ _ _ (dq.ext hb) hB1;replace hO1:=hO1.ext eG.keeps hb;replace hO2:=hO2.ext eG.keeps hb;replace hC:=hC.ext cS.keeps hb))
  go_ret
  exact ⟨ap (kG (by first|(left;exact Ha.out)|(right;left;exact Hs.out)|(right;right;left;omega)|(right;right;right;left;exact Ho.out)|(right;right;right;right;left;exact He.out))).symm,xw⟩
 have He:=Lib.hid he
 clear he
 go_upto_region 3 with (first|(go_at_call 142;(refine (eu lo' hi' lo' hi' _ _ _ _ _ hO1 hO2).mono ?_);rintro e y ⟨rfl,hb⟩;rw [He.out];replace p0:=Ext.keep hb p0;replace p1:=Ext.keep hb p1;replace p2:=Ext.keep hb p2;replace p3:=Ext.keep hb p3;replace p4:=Ext.keep hb p4;replace p5:=Ext.keep hb p5;replace p6:=Ext.keep hb p6;replace p7:=Ext.keep hb p7;replace p8:=Ext.keep hb p8;replace p9:=Ext.keep hb p9;replace p10:=Ext.keep hb p10;replace p11:=Ext.keep hb p11;replace p12:=Ext.keep hb p12;replace hB1:=dQ.keeps _ _ _ _ _ _ (dq.ext hb) hB1;replace hO1:=hO1.ext eG.keeps hb;replace hO2:=hO2.ext eG.keeps hb;replace hC:=hC.ext cS.keeps hb)|(go_at_call 141;(refine (eT lo' hi' [.int .i64 r.redex.roots,v1,.slice a2 r.redex.sites.length k2,.int .i64 r.redex.edges,v4,v5] r.redex _ hB1 D1.out).mono ?_);rintro e y ⟨rfl,hb⟩;rw [Hs.out];replace p0:=Ext.keep hb p0;replace p1:=Ext.keep hb p1;replace p2:=Ext.keep hb p2;replace p3:=Ext.keep hb p3;replace p4:=Ext.keep hb p4;replace p5:=Ext.keep hb p5;replace p6:=Ext.keep hb p6;replace p7:=Ext.keep hb p7;replace p8:=Ext.keep hb p8;replace p9:=Ext.keep hb p9;replace p10:=Ext.keep hb p10;replace p11:=Ext.keep hb p11;replace p12:=Ext.keep hb p12;replace hB1:=dQ.keeps _ _ _ _ _ _ (dq.ext hb) hB1;replace hO1:=hO1.ext eG.keeps hb;replace hO2:=hO2.ext eG.keeps hb;replace hC:=hC.ext cS.keeps hb)|(go_at_call 140;(refine (eJ lo hi lo' hi' _ sig [.int .i64 r.redex.roots,v1,.slice a2 r.redex.sites.length k2,.int .i64 r.redex.edges,v4,v5] [.int .i64 r.reactum.roots,y1,.slice b2 r.reactum.sites.length l2,.int .i64 r.reactum.edges,y4,.slice b5 r.reactum.inner.length l5] r.redex r.reactum _ hV hB1 hB2 hl1 hl2).mono ?_);rintro e y ⟨rfl,hb⟩;rw [Ha.out];replace p0:=Ext.keep hb p0;replace p1:=Ext.keep hb p1;replace p2:=Ext.keep hb p2;replace p3:=Ext.keep hb p3;replace p4:=Ext.keep hb p4;replace p5:=Ext.keep hb p5;replace p6:=Ext.keep hb p6;replace p7:=Ext.keep hb p7;replace p8:=Ext.keep hb p8;replace p9:=Ext.keep hb p9;replace p10:=Ext.keep hb p10;replace p11:=Ext.keep hb p11;replace p12:=Ext.keep hb p12;replace hB1:=dQ.keeps _ _ _ _ _ _ (dq.ext hb) hB1;replace hO1:=hO1.ext eG.keeps hb;replace hO2:=hO2.ext eG.keeps hb;replace hC:=hC.ext cS.keeps hb))
 have Hk:=Lib.hid trivial
 by_cases hc:((r.copies.length:Int))=((r.reactum.sites.length:Int))
 have ec:(((r.copies.length:Int)) == ((r.reactum.sites.length:Int)))=true:=beq_iff_eq.2 hc
 have Hc:=Lib.hid hc;clear hc
 cases hk:r.copies.any (fun x=>!(inR x 0 ((r.redex.sites.length:Int) - 1)))
 have Hk:=Lib.hid hk;clear hk
 have isF:=trivial
 rotate_left
 have Hk:=Lib.hid hk;clear hk
 have isP:=trivial
 rotate_left
 have ec:(((r.copies.length:Int)) == ((r.reactum.sites.length:Int)))=false:=beq_eq_false_iff_ne.2 hc
 have Hc:=Lib.hid hc;clear hc
 have isP:=trivial
 all_goals go_wp2_with (first|(go_at_call 108;(refine (bI lo' hi' (fun x=>!(inR x 0 ((r.redex.sites.length:Int) - 1))) 143 #[.pointer (some ⟨w.heap.size,0,none⟩)] _ _ _ hC eg1 (fun i hi cs W hW hP=>oU _ _ _ _ _ W (by omega) (hW.keep p2))).mono ?_);rintro e y ⟨rfl,hb⟩;rw [Hk.out];replace p0:=Ext.keep hb p0;replace p1:=Ext.keep hb p1;replace p2:=Ext.keep hb p2;replace p3:=Ext.keep hb p3;replace p4:=Ext.keep hb p4;replace p5:=Ext.keep hb p5;replace p6:=Ext.keep hb p6;replace p7:=Ext.keep hb p7;replace p8:=Ext.keep hb p8;replace p9:=Ext.keep hb p9;replace p10:=Ext.keep hb p10;replace p11:=Ext.keep hb p11;replace p12:=Ext.keep hb p12;replace hC:=hC.ext cS.keeps hb))
 all_goals first|(have:=isF;go_ret;exact ⟨ap (zT Ha.out Hs.out (by omega) Ho.out He.out Hc.out (by rw [jr HCA.out,Hk.out];rfl)).symm,xw⟩)|(have:=isP;go_ret;exact ⟨ap (kG (by first|(right;right;right;right;right;left;exact Hc.out)|(right;right;right;right;right;right;rw [jr HCA.out,Hk.out];rfl))).symm,xw⟩)
end Go.Proofs.YtclpbhoekmecjaaGreatDoor
namespace Go.Proofs.YtclpbhoekmecjaaGreatDoor
open Go.RowKit
set_option linter.unusedVariables false
set_option linter.unusedSimpArgs false
attribute [local irreducible] inR dE lr aF bN eqS jk gV
set_option maxRecDepth 100000 in
set_option maxHeartbeats 1600000 in
theorem nb (lo hi lo' hi' B:Nat) (v:Value) (sig:List Ctl) (cs:List Value) (r:Rul) (w:World) (hV:og lo hi w v sig) (h:uo lo' hi' w cs r) (hl1:r.redex.inner.length≤1048576) (hl2:r.reactum.inner.length≤1048576) (hbs:w.cell? ⟨B,0,none⟩=some v) :
 Calls Tryz.prog 99 #[.agg cs.toArray,.pointer (some ⟨B,0,none⟩)] w fun e w'=>e=.returned (.bool (!(gV sig r)))∧Ext w w':=by
 have hR:=h
 obtain ⟨a,k,rfl,_,_,_,_⟩:=id hV
 obtain ⟨c1,c2,vc,rfl,⟨v1,v2,v4,v5,rfl,_⟩,⟨y1,y2,y4,y5,rfl,_⟩,hC⟩:=h
 obtain ⟨W0,hW0,hbx,hx0,hz⟩:=bM w [.int .i64 r.redex.roots,v1,v2,.int .i64 r.redex.edges,v4,v5,.int .i64 r.reactum.roots,y1,y2,.int .i64 r.reactum.edges,y4,y5,vc] 95
 have p0:=(hbx 0 _ rfl).1
 have p1:=(hbx 1 _ rfl).1
 have p2:=(hbx 2 _ rfl).1
 have p3:=(hbx 3 _ rfl).1
 have p4:=(hbx 4 _ rfl).1
 have p5:=(hbx 5 _ rfl).1
 have p6:=(hbx 6 _ rfl).1
 have p7:=(hbx 7 _ rfl).1
 have p8:=(hbx 8 _ rfl).1
 have p9:=(hbx 9 _ rfl).1
 have p10:=(hbx 10 _ rfl).1
 have p11:=(hbx 11 _ rfl).1
 have p12:=(hbx 12 _ rfl).1
 have ps:=hx0.keep hbs
 clear hz hbx hbs
 replace hV:=hV.ext iD.keeps hx0
 replace hR:=uo.keeps _ _ _ _ _ _ (dq.ext hx0) hR
 change Calls Tryz.prog 99 #[.agg #[.int .i64 r.redex.roots,v1,v2,.int .i64 r.redex.edges,v4,v5,.int .i64 r.reactum.roots,y1,y2,.int .i64 r.reactum.edges,y4,y5,vc],.pointer (some ⟨B,0,none⟩)] w _
 go_enter Tryz.func99,Tryz.ntmps99
 go_wp2_with (go_at_call 100;refine (qN lo hi lo' hi' _ sig [.int .i64 r.redex.roots,v1,v2,.int .i64 r.redex.edges,v4,v5,.int .i64 r.reactum.roots,y1,y2,.int .i64 r.reactum.edges,y4,y5,vc] r _ hV hR hl1 hl2).mono ?_;rintro e y ⟨rfl,hb⟩)
 go_ret
 exact ⟨rfl,xw⟩
set_option maxHeartbeats 1600000 in
theorem oH (lo hi lo' hi':Nat) (v v':Value) (sig:List Ctl) (l:List Rul) (w:World) (hV:og lo hi w v sig) (h:F8 lo' hi' w v' l) (hl:∀i (h:i<l.length),(l[i]).redex.inner.length≤1048576∧(l[i]).reactum.inner.length≤1048576) :
 Calls Tryz.prog 55 #[v,v'] w fun e w'=>e=.returned (.bool (fo sig l))∧Ext w w':=by
 obtain ⟨a,k,rfl,_,_,_,_⟩:=id hV
 obtain ⟨a',k',rfl,g1,g2,_,_⟩:=id h
 unfold maxLen at g2
 obtain ⟨W0,hW0,hbx,hx0,hz⟩:=bM w [.slice a sig.length k] 43
 have ps:=(hbx 0 _ rfl).1
 clear hz hbx
 replace hV:=hV.ext iD.keeps hx0
 replace h:=h.ext uo.keeps hx0
 have eg:∀args w,(callFunc 99 args).run Tryz.prog w=.ok (.enter 99 args) w:=enters_of Tryz.func99 (by kernel_rfl) rfl
 have HRA:=Lib.hid (CC sig l)
 have HRB:Hid (fo sig l=(inR (l.length:Int) 1 6 && l.all (gV sig))):=Lib.hid rfl
 go_enter Tryz.func55,Tryz.ntmps55
 have Hk:=Lib.hid trivial
 cases ha:inR (l.length:Int) 1 6
 have Ha:=Lib.hid ha;clear ha
 have isP:=trivial
 rotate_left
 have Ha:=Lib.hid ha;clear ha
 cases hk:l.any (fun r=>!(gV sig r))
 have Hk:=Lib.hid hk;clear hk
 have isF:=trivial
 rotate_left
 have Hk:=Lib.hid hk;clear hk
 have isP:=trivial
 all_goals go_wp2_with (first|(go_at_call 98;(refine (dZ lo' hi' (fun r=>!(gV sig r)) 99 #[.pointer (some ⟨w.heap.size,0,none⟩)] _ _ _ h eg (fun j hj cs W hW hP=>nb lo hi lo' hi' w.heap.size _ sig cs _ W (hV.ext iD.keeps hW) hP (hl j hj).1 (hl j hj).2 (hW.keep ps))).mono ?_);rintro e y ⟨rfl,hb⟩;rw [Hk.out];replace ps:=Ext.keep hb ps)|(go_at_call 58;(refine (aP _ _ _ _).mono ?_);rintro e y ⟨rfl,rfl⟩;rw [Ha.out]))
 all_goals first|(have:=isF;go_ret;exact ⟨ap (by rw [HRB.out,Ha.out,jr HRA.out,Hk.out];rfl),xw⟩)|(have:=isP;go_ret;exact ⟨ap (by rw [HRB.out];first|(rw [Ha.out];rfl)|(rw [Ha.out,jr HRA.out,Hk.out];rfl)),xw⟩)
end Go.Proofs.YtclpbhoekmecjaaGreatDoor
namespace Go.Proofs.YtclpbhoekmecjaaGreatDoor
open Go.RowKit
set_option linter.unusedVariables false
set_option linter.unusedSimpArgs false
attribute [local irreducible] inR dE
end Go.Proofs.YtclpbhoekmecjaaGreatDoor
