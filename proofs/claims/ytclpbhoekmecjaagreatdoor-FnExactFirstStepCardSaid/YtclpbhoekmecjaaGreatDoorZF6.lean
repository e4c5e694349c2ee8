/-
  Proved facts that the law leans on.
-/
import Derived.Test.YtclpbhoekmecjaaGreatDoorZF4
import Derived.Test.YtclpbhoekmecjaaGreatDoorZF5
namespace Go.Proofs.YtclpbhoekmecjaaGreatDoor
open Go.RowKit
set_option linter.unusedVariables false
set_option linter.unusedSimpArgs false
def dx (ps:List Int) (l:List Wr):List Wr:=l.map fun w=>⟨w.name,atI ps w.link⟩
theorem ud (ps:List Int) {l:List Wr} (i:Nat) (h:i<l.length):dx ps (l.take (i+1))=dx ps (l.take i)++[⟨(l[i]).name,atI ps (l[i]).link⟩]:=by
 unfold dx;rw [List.take_succ_eq_append_getElem h,List.map_append];rfl
attribute [local irreducible] dx
def ey (ks l:List Int):List Int:=l.map (atI ks)
theorem nU (ks:List Int) {l:List Int} (j:Nat) (h:j<l.length):ey ks (l.take (j+1))=ey ks (l.take j)++[atI ks l[j]]:=by
 unfold ey;rw [List.take_succ_eq_append_getElem h,List.map_append];rfl
def cX (by':Int) (ps ks:List Int) (l:List Nd):List Nd:=l.map fun n=>⟨n.control,upF by' ps n.parent,ey ks n.links⟩
theorem tY (by':Int) (ps ks:List Int) {l:List Nd} (i:Nat) (h:i<l.length):cX by' ps ks (l.take (i+1))=cX by' ps ks (l.take i)++[⟨(l[i]).control,upF by' ps (l[i]).parent,ey ks (l[i]).links⟩]:=by
 unfold cX;rw [List.take_succ_eq_append_getElem h,List.map_append];rfl
attribute [local irreducible] cX ey
end Go.Proofs.YtclpbhoekmecjaaGreatDoor
namespace Go.Proofs.YtclpbhoekmecjaaGreatDoor
open Go.RowKit
set_option linter.unusedVariables false
set_option linter.unusedSimpArgs false
def yp (b:Big):Nat→Int→Int
 | 0,p=>p
 | f+1,p=>if p<0 then p else yp b f (dZ b p).parent
def Ae (b:Big) (p:Int):Int:=yp b (p.toNat+1) p
theorem Df {sig:List Ctl} {b:Big} (h:ay sig b=true) (i:Nat) (hi:i<b.nodes.length) : -b.roots≤(b.nodes[i]).parent∧(b.nodes[i]).parent<i:=iy h i hi
theorem Cb {sig:List Ctl} {b:Big} (h:ay sig b=true):∀(f g:Nat) (p:Int),p<b.nodes.length→p.toNat<f→p.toNat<g→yp b f p=yp b g p:=by
 intro f
 induction f with
 | zero=>intro g p _ hf;omega
 | succ f ih=>
  intro g p hp hf hg
  cases g with
  | zero=>omega
  | succ g=>
   unfold yp
   by_cases hn:p<0
   ·rw [if_pos hn,if_pos hn]
   ·rw [if_neg hn,if_neg hn]
    obtain ⟨n,rfl⟩:=Int.eq_ofNat_of_zero_le (show 0≤p by omega)
    have hl:n<b.nodes.length:=by omega
    have:=Df h n hl
    rw [aw b n hl]
    by_cases hq:(b.nodes[n]).parent<0
    ·cases f with
     | zero=>
      cases g with
      | zero=>rfl
      | succ g=>simp only [yp];rw [if_pos hq]
     | succ f=>
      cases g with
      | zero=>simp only [yp];rw [if_pos hq]
      | succ g=>simp only [yp];rw [if_pos hq,if_pos hq]
    ·exact ih g _ (by omega) (by omega) (by omega)
theorem nF (b:Big) {p:Int} (h:p<0):Ae b p=p:=by
 unfold Ae yp;rw [if_pos h]
theorem oP {sig:List Ctl} {b:Big} (h:ay sig b=true) (n:Nat) (hn:n<b.nodes.length):Ae b (n:Int)=Ae b (b.nodes[n]).parent:=by
 have hp:=Df h n hn
 have e:Ae b (n:Int)=yp b n (b.nodes[n]).parent:=by
  unfold Ae
  rw [show ((n:Int).toNat+1)=n+1 by omega,yp,if_neg (by omega),aw b n hn]
 rw [e]
 by_cases hq:(b.nodes[n]).parent<0
 ·rw [nF b hq]
  cases n with
  | zero=>rfl
  | succ n=>rw [yp,if_pos hq]
 ·exact Cb h _ _ _ (by omega) (by omega) (by omega)
def iF (b:Big) (r:Int) (i:Nat):Bool:=match b.nodes[i]? with|none=>false|some n=>decide (Ae b n.parent=r)
theorem oR (b:Big) (r:Int) (i:Nat) (h:i<b.nodes.length):iF b r i=decide (Ae b (b.nodes[i]).parent=r):=by unfold iF;rw [List.getElem?_eq_getElem h]
def o5 (b:Big) (r:Int):List Int:=idxOf (iF b r) b.nodes.length
end Go.Proofs.YtclpbhoekmecjaaGreatDoor
namespace Go.Proofs.YtclpbhoekmecjaaGreatDoor
open Go.RowKit
set_option linter.unusedVariables false
set_option linter.unusedSimpArgs false
theorem wS (sig:List Ctl) (b:Big) (i:Nat) (h:i<b.nodes.length):eA sig b i=(inR (b.nodes[i]).control 0 ((sig.length:Int) - 1) && (dF sig b (b.nodes[i]).parent i && (decide (((b.nodes[i]).links.length:Int)=(tj sig (b.nodes[i]).control).ports) && (b.nodes[i]).links.all (eE b)))):=by
 unfold eA;rw [List.getElem?_eq_getElem h]
theorem jE {α:Type} (p:α→Bool) (xs:List α) (i:Nat) (h:xs.length≤i) (hp:(xs.take i).all p=true):xs.all p=true:=by rwa [List.take_of_length_le h] at hp
theorem un {sig:List Ctl} {b:Big} (h:b.sites.all (fg sig b)=false):ay sig b=false:=by unfold ay;rw [h];simp
theorem tP {sig:List Ctl} {b:Big} (h:b.inner.all (gg b)=false):ay sig b=false:=by unfold ay;rw [h];simp
theorem BF {sig:List Ctl} {b:Big} (a:mD sig b=true) (c:(List.range b.nodes.length).all (eA sig b)=true) (d:b.sites.all (fg sig b)=true) (e:b.inner.all (gg b)=true):ay sig b=true:=by unfold ay;rw [a,c,d,e];rfl
theorem zg (sig:List Ctl) (b:Big) (p:Int):fg sig b p=dF sig b p b.nodes.length:=rfl
theorem yS (b:Big) (x:Wr):gg b x=eE b x.link:=rfl
attribute [local irreducible] inR dD dg k9 dj dF eE fg gg tj
set_option maxRecDepth 100000 in
set_option maxHeartbeats 3200000 in
theorem qD (lo hi lo' hi':Nat) (v:Value) (sig:List Ctl) (cs:List Value) (b:Big) (i:Nat) (w:World) (hV:lu lo hi w v sig) (hB:cQ lo' hi' w cs b) (hr:inR b.roots 0 4=true) (he:inR b.edges 0 8=true) (ho:b.outer.length≤1000) (hsl:sig.length≤6) (hlt:i<b.nodes.length) (hC:yT sig b i) :
 Calls Tryz.prog 182 #[v,.agg cs.toArray,.int .i64 i] w fun e w'=>e=.returned (.bool (eA sig b i))∧Ext w w':=by
 obtain ⟨a,k,rfl,m1,m2,m3,m4⟩:=id hV
 obtain ⟨v1,v2,v4,v5,rfl,r1,r2,hN,hS,hO,hI⟩:=id hB
 obtain ⟨a1,k1,rfl,g1,g2,g3,g4⟩:=hN
 unfold maxLen at g2 m2
 obtain ⟨W0,hW0,hbx,hx0,hz⟩:=bz w [.int .i64 b.roots,.slice a1 b.nodes.length k1,v2,.int .i64 b.edges,v4,v5] 40
 have p0:=(hbx 0 _ rfl).1
 have p1:=(hbx 1 _ rfl).1
 have p2:=(hbx 2 _ rfl).1
 have p3:=(hbx 3 _ rfl).1
 have p4:=(hbx 4 _ rfl).1
 have p5:=(hbx 5 _ rfl).1
 clear hz hbx
 replace hV:=hV.ext fd.keeps hx0
 replace hB:=cQ.keeps _ _ _ _ _ _ (cO.ext hx0) hB
 have HR:=Lib.hid hr
 have HE:=Lib.hid he
 clear hr he
 have HA:=Lib.hid (wS sig b i hlt)
 have HSG:=Lib.hid (jo sig)
 rcases g4 with g4|⟨b1,o1,rfl,gb1,gb2,g4⟩
 ·rw [g4] at hlt;simp at hlt
 obtain ⟨cs,hl,hnp,hc⟩:=g4 i hlt
 generalize hnd:b.nodes[i]=nd at hnp HA
 obtain ⟨nc,np,nl⟩:=nd
 obtain ⟨nv,rfl,e1,e2,e3⟩:=hnp
 have q0:=hx0.keep (hc 0 _ rfl)
 have q1:=hx0.keep (hc 1 _ rfl)
 have q2:=hx0.keep (hc 2 _ rfl)
 rw [Nat.add_zero] at q0
 obtain ⟨la,lk,rfl,y1,y2,y3,y4⟩:=e3
 dsimp only at *
 unfold maxLen at y2
 clear hc g4 hnd
 unfold I64 at e1
 have hsw:=IntWalk.i64_in ((sig.length:Int) - 1) (by omega)
 have ji0:(0:Int)≤(i:Int):=by omega
 have ji1:(i:Int)<(b.nodes.length:Int):=by omega
 go_enter Tryz.func182,Tryz.ntmps182
 cases hc:inR nc 0 ((sig.length:Int) - 1)
 ·have Hc:=Lib.hid hc
  clear hc
  have HB:=Lib.hid (show eA sig b i=false by rw [HA.out];first|(rw [HK.out];simp [Hc.out];done)|simp [Hc.out])
  go_wp2_with fail
  refine wp_region_held_drew (S:=(fun w'=>de w' W0.heap.size [.int .i64 nc,.int .i64 np,.slice la nl.length lk]∧Ext W0 w')) (by kernel_rfl) ?_ (fun hHeld=>?_)
  ·(refine ⟨?_,xw⟩;all_goals (intro j u hj;rcases j with _|_|_|_|_|_|_|_|j <;> simp at hj <;> (subst hj;simp)))
  refine tkP 0 ?_ ?_ ?_;rotate_left;focus (intro w;go_simp;try with_reducible rfl)
  try simp only [Act.put,aj]
  refine tkY 1 ?_ ?_ ?_;rotate_left;focus (intro w hSw;(try dsimp only at hSw);obtain ⟨bx0,sx⟩:=hSw;have c0_0:=(bx0 0 _ rfl).1;have c0_1:=(bx0 1 _ rfl).1;have c0_2:=(bx0 2 _ rfl).1;have s_p0:=Ext.keep sx p0;have s_p1:=Ext.keep sx p1;have s_p2:=Ext.keep sx p2;have s_p3:=Ext.keep sx p3;have s_p4:=Ext.keep sx p4;have s_p5:=Ext.keep sx p5;(try have s_s1:=Ext.keep sx s1);go_simp;try with_reducible rfl)
  try simp only [Act.put,aj]
  refine tkP 2 ?_ ?_ ?_;rotate_left;focus (intro w;go_simp;try with_reducible rfl)
  try simp only [Act.put,aj]
  refine tkP 3 ?_ ?_ ?_;rotate_left;focus (intro w;go_simp;try with_reducible rfl)
  try simp only [Act.put,aj]
  refine tkP 4 ?_ ?_ ?_;rotate_left;focus (intro w;go_simp;try with_reducible rfl)
  try simp only [Act.put,aj]
  refine wpAnyH_ready (rs:=[5]) (by kernel_rfl) (by simp) ?_
  refine AllReadyH.cons rfl (fun K hK=>?_) AllReadyH.nil
  (try simp only [aj])
  go_simp
  (go_at_call 86;(refine (ck _ _ _ _).mono ?_);rintro e y ⟨rfl,rfl⟩;rw [Hc.out])
  show K _ _
  refine hK.out _ _ (by exact hHeld) (fun hHeld=>?_)
  clear hK K
  try simp only [Act.put,aj]
  refine tkP 6 ?_ ?_ ?_;rotate_left;focus (intro w;go_simp;try with_reducible rfl)
  try simp only [Act.put,aj]
  refine tkP 7 ?_ ?_ ?_;rotate_left;focus (intro w;go_simp;try with_reducible rfl)
  try simp only [Act.put,aj]
  refine tkN 8 ?_
  try simp only [Act.put,aj]
  refine tkN 9 ?_
  try simp only [Act.put,aj]
  refine tkN 10 ?_
  try simp only [Act.put,aj]
  refine tkN 11 ?_
  try simp only [Act.put,aj]
  refine tkN 12 ?_
  try simp only [Act.put,aj]
  refine tkN 13 ?_
  try simp only [Act.put,aj]
  refine tkN 14 ?_
  try simp only [Act.put,aj]
  refine tkP 15 ?_ ?_ ?_;rotate_left;focus (intro w;go_simp;try with_reducible rfl)
  try simp only [Act.put,aj]
  refine tkP 16 ?_ ?_ ?_;rotate_left;focus (intro w;go_simp;try with_reducible rfl)
  try simp only [Act.put,aj]
  refine tkN 17 ?_
  try simp only [Act.put,aj]
  refine tkN 18 ?_
  try simp only [Act.put,aj]
  refine tkN 19 ?_
  try simp only [Act.put,aj]
  refine tkN 20 ?_
  try simp only [Act.put,aj]
  refine tkN 21 ?_
  try simp only [Act.put,aj]
  refine tkN 22 ?_
  try simp only [Act.put,aj]
  refine tkN 23 ?_
  try simp only [Act.put,aj]
  refine tkN 24 ?_
  try simp only [Act.put,aj]
  refine tkN 25 ?_
  try simp only [Act.put,aj]
  refine tkN 26 ?_
  try simp only [Act.put,aj]
  refine tkP 27 ?_ ?_ ?_;rotate_left;focus (intro w;go_simp;try with_reducible rfl)
  try simp only [Act.put,aj]
  refine wpAnyH_done (by kernel_rfl) ?_ _
  all_goals go_wp2
  all_goals go_ret
  all_goals exact ⟨al HB.out.symm,xw⟩
 have Hc:=Lib.hid hc
 clear hc
 obtain ⟨hc0,hc1⟩:=bT Hc.out;obtain ⟨m,rfl⟩:=Int.eq_ofNat_of_zero_le hc0;have hml:m<sig.length:=(by omega);rcases m4 with m4|⟨b2,o2,rfl,mb1,mb2,m4⟩;(exfalso;rw [m4] at hml;simp at hml);obtain ⟨ds,dl,⟨rfl,d1,d2,d3⟩,hds⟩:=m4 m hml;have s1:=hx0.keep (hds 1 _ rfl);have HK:=Lib.hid (HSG.out m hml);clear hds m4;unfold I64 at d2;have jm0:(0:Int)≤(m:Int):=(by omega);have jm1:(m:Int)<(sig.length:Int):=(by omega)
 cases hu:dF sig b np i
 ·have Hu:=Lib.hid hu
  clear hu
  have HB:=Lib.hid (show eA sig b i=false by rw [HA.out];first|(rw [HK.out];simp [Hc.out,Hu.out];done)|simp [Hc.out,Hu.out])
  go_wp2_with fail
  refine wp_region_held_drew (S:=(fun w'=>de w' W0.heap.size [.int .i64 (m:Int),.int .i64 np,.slice la nl.length lk]∧Ext W0 w')) (by kernel_rfl) ?_ (fun hHeld=>?_)
  ·(refine ⟨?_,xw⟩;all_goals (intro j u hj;rcases j with _|_|_|_|_|_|_|_|j <;> simp at hj <;> (subst hj;simp)))
  refine tkP 0 ?_ ?_ ?_;rotate_left;focus (intro w;go_simp;try with_reducible rfl)
  try simp only [Act.put,aj]
  refine tkY 1 ?_ ?_ ?_;rotate_left;focus (intro w hSw;(try dsimp only at hSw);obtain ⟨bx0,sx⟩:=hSw;have c0_0:=(bx0 0 _ rfl).1;have c0_1:=(bx0 1 _ rfl).1;have c0_2:=(bx0 2 _ rfl).1;have s_p0:=Ext.keep sx p0;have s_p1:=Ext.keep sx p1;have s_p2:=Ext.keep sx p2;have s_p3:=Ext.keep sx p3;have s_p4:=Ext.keep sx p4;have s_p5:=Ext.keep sx p5;(try have s_s1:=Ext.keep sx s1);go_simp;try with_reducible rfl)
  try simp only [Act.put,aj]
  refine tkP 2 ?_ ?_ ?_;rotate_left;focus (intro w;go_simp;try with_reducible rfl)
  try simp only [Act.put,aj]
  refine tkP 3 ?_ ?_ ?_;rotate_left;focus (intro w;go_simp;try with_reducible rfl)
  try simp only [Act.put,aj]
  refine tkP 4 ?_ ?_ ?_;rotate_left;focus (intro w;go_simp;try with_reducible rfl)
  try simp only [Act.put,aj]
  refine wpAnyH_ready (rs:=[5]) (by kernel_rfl) (by simp) ?_
  refine AllReadyH.cons rfl (fun K hK=>?_) AllReadyH.nil
  (try simp only [aj])
  go_simp
  (go_at_call 86;(refine (ck _ _ _ _).mono ?_);rintro e y ⟨rfl,rfl⟩;rw [Hc.out])
  show K _ _
  refine hK.out _ _ (by exact hHeld) (fun hHeld=>?_)
  clear hK K
  try simp only [Act.put,aj]
  refine tkP 6 ?_ ?_ ?_;rotate_left;focus (intro w;go_simp;try with_reducible rfl)
  try simp only [Act.put,aj]
  refine tkP 7 ?_ ?_ ?_;rotate_left;focus (intro w;go_simp;try with_reducible rfl)
  try simp only [Act.put,aj]
  refine tkP 8 ?_ ?_ ?_;rotate_left;focus (intro w;go_simp;try with_reducible rfl)
  try simp only [Act.put,aj]
  refine tkY 9 ?_ ?_ ?_;rotate_left;focus (intro w hSw;(try dsimp only at hSw);obtain ⟨bx0,sx⟩:=hSw;have c0_0:=(bx0 0 _ rfl).1;have c0_1:=(bx0 1 _ rfl).1;have c0_2:=(bx0 2 _ rfl).1;have s_p0:=Ext.keep sx p0;have s_p1:=Ext.keep sx p1;have s_p2:=Ext.keep sx p2;have s_p3:=Ext.keep sx p3;have s_p4:=Ext.keep sx p4;have s_p5:=Ext.keep sx p5;(try have s_s1:=Ext.keep sx s1);go_simp;try with_reducible rfl)
  try simp only [Act.put,aj]
  refine tkP 10 ?_ ?_ ?_;rotate_left;focus (intro w;go_simp;try with_reducible rfl)
  try simp only [Act.put,aj]
  refine tkY 11 ?_ ?_ ?_;rotate_left;focus (intro w hSw;(try dsimp only at hSw);obtain ⟨bx0,sx⟩:=hSw;have c0_0:=(bx0 0 _ rfl).1;have c0_1:=(bx0 1 _ rfl).1;have c0_2:=(bx0 2 _ rfl).1;have s_p0:=Ext.keep sx p0;have s_p1:=Ext.keep sx p1;have s_p2:=Ext.keep sx p2;have s_p3:=Ext.keep sx p3;have s_p4:=Ext.keep sx p4;have s_p5:=Ext.keep sx p5;(try have s_s1:=Ext.keep sx s1);go_simp;try with_reducible rfl)
  try simp only [Act.put,aj]
  refine tkP 12 ?_ ?_ ?_;rotate_left;focus (intro w;go_simp;try with_reducible rfl)
  try simp only [Act.put,aj]
  refine wpAnyH_ready (rs:=[13]) (by kernel_rfl) (by simp) ?_
  refine AllReadyH.cons rfl (fun K hK=>?_) AllReadyH.nil
  (try simp only [aj])
  go_simp
  (have hSw:=hHeld;(try dsimp only at hSw);obtain ⟨bx0,sx⟩:=hSw;have c0_0:=(bx0 0 _ rfl).1;have c0_1:=(bx0 1 _ rfl).1;have c0_2:=(bx0 2 _ rfl).1;have s_p0:=Ext.keep sx p0;have s_p1:=Ext.keep sx p1;have s_p2:=Ext.keep sx p2;have s_p3:=Ext.keep sx p3;have s_p4:=Ext.keep sx p4;have s_p5:=Ext.keep sx p5;(try have s_s1:=Ext.keep sx s1);have s_hV:=hV.ext fd.keeps sx;have s_hB:=cQ.keeps _ _ _ _ _ _ (cO.ext sx) hB;go_at_call 183;(refine (fT lo hi lo' hi' _ sig _ b _ _ _ s_hV s_hB e2 HR.out (by omega) hC).mono ?_);rintro e y ⟨rfl,hb⟩;rw [Hu.out])
  show K _ _
  refine hK.out _ _ (by (have hh:=hHeld;(try dsimp only at hh);exact ⟨hh.1.ext hb,hh.2.trans hb⟩)) (fun hHeld=>?_)
  clear hK K
  try simp only [Act.put,aj]
  refine tkP 14 ?_ ?_ ?_;rotate_left;focus (intro w;go_simp;try with_reducible rfl)
  try simp only [Act.put,aj]
  refine tkP 15 ?_ ?_ ?_;rotate_left;focus (intro w;go_simp;try with_reducible rfl)
  try simp only [Act.put,aj]
  refine tkP 16 ?_ ?_ ?_;rotate_left;focus (intro w;go_simp;try with_reducible rfl)
  try simp only [Act.put,aj]
  refine tkN 17 ?_
  try simp only [Act.put,aj]
  refine tkN 18 ?_
  try simp only [Act.put,aj]
  refine tkN 19 ?_
  try simp only [Act.put,aj]
  refine tkN 20 ?_
  try simp only [Act.put,aj]
  refine tkN 21 ?_
  try simp only [Act.put,aj]
  refine tkN 22 ?_
  try simp only [Act.put,aj]
  refine tkN 23 ?_
  try simp only [Act.put,aj]
  refine tkN 24 ?_
  try simp only [Act.put,aj]
  refine tkN 25 ?_
  try simp only [Act.put,aj]
  refine tkN 26 ?_
  try simp only [Act.put,aj]
  refine tkP 27 ?_ ?_ ?_;rotate_left;focus (intro w;go_simp;try with_reducible rfl)
  try simp only [Act.put,aj]
  refine wpAnyH_done (by kernel_rfl) ?_ _
  all_goals go_wp2
  all_goals go_ret
  all_goals exact ⟨al HB.out.symm,xw⟩
 have Hu:=Lib.hid hu
 clear hu
 by_cases hl:((nl.length:Int))=((sig[m]).ports)
 rotate_left
 ·have el:(((nl.length:Int)) != ((sig[m]).ports))=true:=bne_iff_ne.2 hl
  have Hl:=Lib.hid hl
  clear hl
  have HB:=Lib.hid (show eA sig b i=false by rw [HA.out];first|(rw [HK.out];simp [Hc.out,Hu.out,Hl.out];done)|simp [Hc.out,Hu.out,Hl.out])
  go_wp2_with fail
  refine wp_region_held_drew (S:=(fun w'=>de w' W0.heap.size [.int .i64 (m:Int),.int .i64 np,.slice la nl.length lk]∧Ext W0 w')) (by kernel_rfl) ?_ (fun hHeld=>?_)
  ·(refine ⟨?_,xw⟩;all_goals (intro j u hj;rcases j with _|_|_|_|_|_|_|_|j <;> simp at hj <;> (subst hj;simp)))
  refine tkP 0 ?_ ?_ ?_;rotate_left;focus (intro w;go_simp;try with_reducible rfl)
  try simp only [Act.put,aj]
  refine tkY 1 ?_ ?_ ?_;rotate_left;focus (intro w hSw;(try dsimp only at hSw);obtain ⟨bx0,sx⟩:=hSw;have c0_0:=(bx0 0 _ rfl).1;have c0_1:=(bx0 1 _ rfl).1;have c0_2:=(bx0 2 _ rfl).1;have s_p0:=Ext.keep sx p0;have s_p1:=Ext.keep sx p1;have s_p2:=Ext.keep sx p2;have s_p3:=Ext.keep sx p3;have s_p4:=Ext.keep sx p4;have s_p5:=Ext.keep sx p5;(try have s_s1:=Ext.keep sx s1);go_simp;try with_reducible rfl)
  try simp only [Act.put,aj]
  refine tkP 2 ?_ ?_ ?_;rotate_left;focus (intro w;go_simp;try with_reducible rfl)
  try simp only [Act.put,aj]
  refine tkP 3 ?_ ?_ ?_;rotate_left;focus (intro w;go_simp;try with_reducible rfl)
  try simp only [Act.put,aj]
  refine tkP 4 ?_ ?_ ?_;rotate_left;focus (intro w;go_simp;try with_reducible rfl)
  try simp only [Act.put,aj]
  refine wpAnyH_ready (rs:=[5]) (by kernel_rfl) (by simp) ?_
  refine AllReadyH.cons rfl (fun K hK=>?_) AllReadyH.nil
  (try simp only [aj])
  go_simp
  (go_at_call 86;(refine (ck _ _ _ _).mono ?_);rintro e y ⟨rfl,rfl⟩;rw [Hc.out])
  show K _ _
  refine hK.out _ _ (by exact hHeld) (fun hHeld=>?_)
  clear hK K
  try simp only [Act.put,aj]
  refine tkP 6 ?_ ?_ ?_;rotate_left;focus (intro w;go_simp;try with_reducible rfl)
  try simp only [Act.put,aj]
  refine tkP 7 ?_ ?_ ?_;rotate_left;focus (intro w;go_simp;try with_reducible rfl)
  try simp only [Act.put,aj]
  refine tkP 8 ?_ ?_ ?_;rotate_left;focus (intro w;go_simp;try with_reducible rfl)
  try simp only [Act.put,aj]
  refine tkY 9 ?_ ?_ ?_;rotate_left;focus (intro w hSw;(try dsimp only at hSw);obtain ⟨bx0,sx⟩:=hSw;have c0_0:=(bx0 0 _ rfl).1;have c0_1:=(bx0 1 _ rfl).1;have c0_2:=(bx0 2 _ rfl).1;have s_p0:=Ext.keep sx p0;have s_p1:=Ext.keep sx p1;have s_p2:=Ext.keep sx p2;have s_p3:=Ext.keep sx p3;have s_p4:=Ext.keep sx p4;have s_p5:=Ext.keep sx p5;(try have s_s1:=Ext.keep sx s1);go_simp;try with_reducible rfl)
  try simp only [Act.put,aj]
  refine tkP 10 ?_ ?_ ?_;rotate_left;focus (intro w;go_simp;try with_reducible rfl)
  try simp only [Act.put,aj]
  refine tkY 11 ?_ ?_ ?_;rotate_left;focus (intro w hSw;(try dsimp only at hSw);obtain ⟨bx0,sx⟩:=hSw;have c0_0:=(bx0 0 _ rfl).1;have c0_1:=(bx0 1 _ rfl).1;have c0_2:=(bx0 2 _ rfl).1;have s_p0:=Ext.keep sx p0;have s_p1:=Ext.keep sx p1;have s_p2:=Ext.keep sx p2;have s_p3:=Ext.keep sx p3;have s_p4:=Ext.keep sx p4;have s_p5:=Ext.keep sx p5;(try have s_s1:=Ext.keep sx s1);go_simp;try with_reducible rfl)
  try simp only [Act.put,aj]
  refine tkP 12 ?_ ?_ ?_;rotate_left;focus (intro w;go_simp;try with_reducible rfl)
  try simp only [Act.put,aj]
  refine wpAnyH_ready (rs:=[13]) (by kernel_rfl) (by simp) ?_
  refine AllReadyH.cons rfl (fun K hK=>?_) AllReadyH.nil
  (try simp only [aj])
  go_simp
  (have hSw:=hHeld;(try dsimp only at hSw);obtain ⟨bx0,sx⟩:=hSw;have c0_0:=(bx0 0 _ rfl).1;have c0_1:=(bx0 1 _ rfl).1;have c0_2:=(bx0 2 _ rfl).1;have s_p0:=Ext.keep sx p0;have s_p1:=Ext.keep sx p1;have s_p2:=Ext.keep sx p2;have s_p3:=Ext.keep sx p3;have s_p4:=Ext.keep sx p4;have s_p5:=Ext.keep sx p5;(try have s_s1:=Ext.keep sx s1);have s_hV:=hV.ext fd.keeps sx;have s_hB:=cQ.keeps _ _ _ _ _ _ (cO.ext sx) hB;go_at_call 183;(refine (fT lo hi lo' hi' _ sig _ b _ _ _ s_hV s_hB e2 HR.out (by omega) hC).mono ?_);rintro e y ⟨rfl,hb⟩;rw [Hu.out])
  show K _ _
  refine hK.out _ _ (by (have hh:=hHeld;(try dsimp only at hh);exact ⟨hh.1.ext hb,hh.2.trans hb⟩)) (fun hHeld=>?_)
  clear hK K
  try simp only [Act.put,aj]
  refine tkP 14 ?_ ?_ ?_;rotate_left;focus (intro w;go_simp;try with_reducible rfl)
  try simp only [Act.put,aj]
  refine tkP 15 ?_ ?_ ?_;rotate_left;focus (intro w;go_simp;try with_reducible rfl)
  try simp only [Act.put,aj]
  refine tkP 16 ?_ ?_ ?_;rotate_left;focus (intro w;go_simp;try with_reducible rfl)
  try simp only [Act.put,aj]
  refine tkP 17 ?_ ?_ ?_;rotate_left;focus (intro w;go_simp;try with_reducible rfl)
  try simp only [Act.put,aj]
  refine tkY 18 ?_ ?_ ?_;rotate_left;focus (intro w hSw;(try dsimp only at hSw);obtain ⟨bx0,sx⟩:=hSw;have c0_0:=(bx0 0 _ rfl).1;have c0_1:=(bx0 1 _ rfl).1;have c0_2:=(bx0 2 _ rfl).1;have s_p0:=Ext.keep sx p0;have s_p1:=Ext.keep sx p1;have s_p2:=Ext.keep sx p2;have s_p3:=Ext.keep sx p3;have s_p4:=Ext.keep sx p4;have s_p5:=Ext.keep sx p5;(try have s_s1:=Ext.keep sx s1);go_simp;try with_reducible rfl)
  try simp only [Act.put,aj]
  refine tkP 19 ?_ ?_ ?_;rotate_left;focus (intro w;go_simp;try with_reducible rfl)
  try simp only [Act.put,aj]
  refine tkP 20 ?_ ?_ ?_;rotate_left;focus (intro w;go_simp;try with_reducible rfl)
  try simp only [Act.put,aj]
  refine tkP 21 ?_ ?_ ?_;rotate_left;focus (intro w;go_simp;try with_reducible rfl)
  try simp only [Act.put,aj]
  refine tkY 22 ?_ ?_ ?_;rotate_left;focus (intro w hSw;(try dsimp only at hSw);obtain ⟨bx0,sx⟩:=hSw;have c0_0:=(bx0 0 _ rfl).1;have c0_1:=(bx0 1 _ rfl).1;have c0_2:=(bx0 2 _ rfl).1;have s_p0:=Ext.keep sx p0;have s_p1:=Ext.keep sx p1;have s_p2:=Ext.keep sx p2;have s_p3:=Ext.keep sx p3;have s_p4:=Ext.keep sx p4;have s_p5:=Ext.keep sx p5;(try have s_s1:=Ext.keep sx s1);go_simp;try with_reducible rfl)
  try simp only [Act.put,aj]
  refine tkP 23 ?_ ?_ ?_;rotate_left;focus (intro w;go_simp;try with_reducible rfl)
  try simp only [Act.put,aj]
  refine tkP 24 ?_ ?_ ?_;rotate_left;focus (intro w;go_simp;try with_reducible rfl)
  try simp only [Act.put,aj]
  refine tkY 25 ?_ ?_ ?_;rotate_left;focus (intro w hSw;(try dsimp only at hSw);obtain ⟨bx0,sx⟩:=hSw;have c0_0:=(bx0 0 _ rfl).1;have c0_1:=(bx0 1 _ rfl).1;have c0_2:=(bx0 2 _ rfl).1;have s_p0:=Ext.keep sx p0;have s_p1:=Ext.keep sx p1;have s_p2:=Ext.keep sx p2;have s_p3:=Ext.keep sx p3;have s_p4:=Ext.keep sx p4;have s_p5:=Ext.keep sx p5;(try have s_s1:=Ext.keep sx s1);go_simp;try with_reducible rfl)
  try simp only [Act.put,aj]
  refine tkP 26 ?_ ?_ ?_;rotate_left;focus (intro w;go_simp;try with_reducible rfl)
  try simp only [Act.put,aj]
  refine tkP 27 ?_ ?_ ?_;rotate_left;focus (intro w;go_simp;try with_reducible rfl)
  try simp only [Act.put,aj]
  refine wpAnyH_done (by kernel_rfl) ?_ _
  all_goals go_wp2
  all_goals go_ret
  all_goals exact ⟨al HB.out.symm,xw⟩
 have el:(((nl.length:Int)) != ((sig[m]).ports))=false:=bne_eq_false_iff_eq.2 hl
 have Hl:=Lib.hid hl
 clear hl
 go_wp2_with fail
 refine wp_region_held_drew (S:=(fun w'=>de w' W0.heap.size [.int .i64 (m:Int),.int .i64 np,.slice la nl.length lk]∧Ext W0 w')) (by kernel_rfl) ?_ (fun hHeld=>?_)
 ·(refine ⟨?_,xw⟩;all_goals (intro j u hj;rcases j with _|_|_|_|_|_|_|_|j <;> simp at hj <;> (subst hj;simp)))
 refine tkP 0 ?_ ?_ ?_;rotate_left;focus (intro w;go_simp;try with_reducible rfl)
 try simp only [Act.put,aj]
 refine tkY 1 ?_ ?_ ?_;rotate_left;focus (intro w hSw;(try dsimp only at hSw);obtain ⟨bx0,sx⟩:=hSw;have c0_0:=(bx0 0 _ rfl).1;have c0_1:=(bx0 1 _ rfl).1;have c0_2:=(bx0 2 _ rfl).1;have s_p0:=Ext.keep sx p0;have s_p1:=Ext.keep sx p1;have s_p2:=Ext.keep sx p2;have s_p3:=Ext.keep sx p3;have s_p4:=Ext.keep sx p4;have s_p5:=Ext.keep sx p5;(try have s_s1:=Ext.keep sx s1);go_simp;try with_reducible rfl)
 try simp only [Act.put,aj]
 refine tkP 2 ?_ ?_ ?_;rotate_left;focus (intro w;go_simp;try with_reducible rfl)
 try simp only [Act.put,aj]
 refine tkP 3 ?_ ?_ ?_;rotate_left;focus (intro w;go_simp;try with_reducible rfl)
 try simp only [Act.put,aj]
 refine tkP 4 ?_ ?_ ?_;rotate_left;focus (intro w;go_simp;try with_reducible rfl)
 try simp only [Act.put,aj]
 refine wpAnyH_ready (rs:=[5]) (by kernel_rfl) (by simp) ?_
 refine AllReadyH.cons rfl (fun K hK=>?_) AllReadyH.nil
 (try simp only [aj])
 go_simp
 (go_at_call 86;(refine (ck _ _ _ _).mono ?_);rintro e y ⟨rfl,rfl⟩;rw [Hc.out])
 show K _ _
 refine hK.out _ _ (by exact hHeld) (fun hHeld=>?_)
 clear hK K
 try simp only [Act.put,aj]
 refine tkP 6 ?_ ?_ ?_;rotate_left;focus (intro w;go_simp;try with_reducible rfl)
 try simp only [Act.put,aj]
 refine tkP 7 ?_ ?_ ?_;rotate_left;focus (intro w;go_simp;try with_reducible rfl)
 try simp only [Act.put,aj]
 refine tkP 8 ?_ ?_ ?_;rotate_left;focus (intro w;go_simp;try with_reducible rfl)
 try simp only [Act.put,aj]
 refine tkY 9 ?_ ?_ ?_;rotate_left;focus (intro w hSw;(try dsimp only at hSw);obtain ⟨bx0,sx⟩:=hSw;have c0_0:=(bx0 0 _ rfl).1;have c0_1:=(bx0 1 _ rfl).1;have c0_2:=(bx0 2 _ rfl).1;have s_p0:=Ext.keep sx p0;have s_p1:=Ext.keep sx p1;have s_p2:=Ext.keep sx p2;have s_p3:=Ext.keep sx p3;have s_p4:=Ext.keep sx p4;have s_p5:=Ext.keep sx p5;(try have s_s1:=Ext.keep sx s1);go_simp;try with_reducible rfl)
 try simp only [Act.put,aj]
 refine tkP 10 ?_ ?_ ?_;rotate_left;focus (intro w;go_simp;try with_reducible rfl)
 try simp only [Act.put,aj]
 refine tkY 11 ?_ ?_ ?_;rotate_left;focus (intro w hSw;(try dsimp only at hSw);obtain ⟨bx0,sx⟩:=hSw;have c0_0:=(bx0 0 _ rfl).1;have c0_1:=(bx0 1 _ rfl).1;have c0_2:=(bx0 2 _ rfl).1;have s_p0:=Ext.keep sx p0;have s_p1:=Ext.keep sx p1;have s_p2:=Ext.keep sx p2;have s_p3:=Ext.keep sx p3;have s_p4:=Ext.keep sx p4;have s_p5:=Ext.keep sx p5;(try have s_s1:=Ext.keep sx s1);go_simp;try with_reducible rfl)
 try simp only [Act.put,aj]
 refine tkP 12 ?_ ?_ ?_;rotate_left;focus (intro w;go_simp;try with_reducible rfl)
 try simp only [Act.put,aj]
 refine wpAnyH_ready (rs:=[13]) (by kernel_rfl) (by simp) ?_
 refine AllReadyH.cons rfl (fun K hK=>?_) AllReadyH.nil
 (try simp only [aj])
 go_simp
 (have hSw:=hHeld;(try dsimp only at hSw);obtain ⟨bx0,sx⟩:=hSw;have c0_0:=(bx0 0 _ rfl).1;have c0_1:=(bx0 1 _ rfl).1;have c0_2:=(bx0 2 _ rfl).1;have s_p0:=Ext.keep sx p0;have s_p1:=Ext.keep sx p1;have s_p2:=Ext.keep sx p2;have s_p3:=Ext.keep sx p3;have s_p4:=Ext.keep sx p4;have s_p5:=Ext.keep sx p5;(try have s_s1:=Ext.keep sx s1);have s_hV:=hV.ext fd.keeps sx;have s_hB:=cQ.keeps _ _ _ _ _ _ (cO.ext sx) hB;go_at_call 183;(refine (fT lo hi lo' hi' _ sig _ b _ _ _ s_hV s_hB e2 HR.out (by omega) hC).mono ?_);rintro e y ⟨rfl,hb⟩;rw [Hu.out])
 show K _ _
 refine hK.out _ _ (by (have hh:=hHeld;(try dsimp only at hh);exact ⟨hh.1.ext hb,hh.2.trans hb⟩)) (fun hHeld=>?_)
 clear hK K
 try simp only [Act.put,aj]
 refine tkP 14 ?_ ?_ ?_;rotate_left;focus (intro w;go_simp;try with_reducible rfl)
 try simp only [Act.put,aj]
 refine tkP 15 ?_ ?_ ?_;rotate_left;focus (intro w;go_simp;try with_reducible rfl)
 try simp only [Act.put,aj]
 refine tkP 16 ?_ ?_ ?_;rotate_left;focus (intro w;go_simp;try with_reducible rfl)
 try simp only [Act.put,aj]
 refine tkP 17 ?_ ?_ ?_;rotate_left;focus (intro w;go_simp;try with_reducible rfl)
 try simp only [Act.put,aj]
 refine tkY 18 ?_ ?_ ?_;rotate_left;focus (intro w hSw;(try dsimp only at hSw);obtain ⟨bx0,sx⟩:=hSw;have c0_0:=(bx0 0 _ rfl).1;have c0_1:=(bx0 1 _ rfl).1;have c0_2:=(bx0 2 _ rfl).1;have s_p0:=Ext.keep sx p0;have s_p1:=Ext.keep sx p1;have s_p2:=Ext.keep sx p2;have s_p3:=Ext.keep sx p3;have s_p4:=Ext.keep sx p4;have s_p5:=Ext.keep sx p5;(try have s_s1:=Ext.keep sx s1);go_simp;try with_reducible rfl)
 try simp only [Act.put,aj]
 refine tkP 19 ?_ ?_ ?_;rotate_left;focus (intro w;go_simp;try with_reducible rfl)
 try simp only [Act.put,aj]
 refine tkP 20 ?_ ?_ ?_;rotate_left;focus (intro w;go_simp;try with_reducible rfl)
 try simp only [Act.put,aj]
 refine tkP 21 ?_ ?_ ?_;rotate_left;focus (intro w;go_simp;try with_reducible rfl)
 try simp only [Act.put,aj]
 refine tkY 22 ?_ ?_ ?_;rotate_left;focus (intro w hSw;(try dsimp only at hSw);obtain ⟨bx0,sx⟩:=hSw;have c0_0:=(bx0 0 _ rfl).1;have c0_1:=(bx0 1 _ rfl).1;have c0_2:=(bx0 2 _ rfl).1;have s_p0:=Ext.keep sx p0;have s_p1:=Ext.keep sx p1;have s_p2:=Ext.keep sx p2;have s_p3:=Ext.keep sx p3;have s_p4:=Ext.keep sx p4;have s_p5:=Ext.keep sx p5;(try have s_s1:=Ext.keep sx s1);go_simp;try with_reducible rfl)
 try simp only [Act.put,aj]
 refine tkP 23 ?_ ?_ ?_;rotate_left;focus (intro w;go_simp;try with_reducible rfl)
 try simp only [Act.put,aj]
 refine tkP 24 ?_ ?_ ?_;rotate_left;focus (intro w;go_simp;try with_reducible rfl)
 try simp only [Act.put,aj]
 refine tkY 25 ?_ ?_ ?_;rotate_left;focus (intro w hSw;(try dsimp only at hSw);obtain ⟨bx0,sx⟩:=hSw;have c0_0:=(bx0 0 _ rfl).1;have c0_1:=(bx0 1 _ rfl).1;have c0_2:=(bx0 2 _ rfl).1;have s_p0:=Ext.keep sx p0;have s_p1:=Ext.keep sx p1;have s_p2:=Ext.keep sx p2;have s_p3:=Ext.keep sx p3;have s_p4:=Ext.keep sx p4;have s_p5:=Ext.keep sx p5;(try have s_s1:=Ext.keep sx s1);go_simp;try with_reducible rfl)
 try simp only [Act.put,aj]
 refine tkP 26 ?_ ?_ ?_;rotate_left;focus (intro w;go_simp;try with_reducible rfl)
 try simp only [Act.put,aj]
 refine tkP 27 ?_ ?_ ?_;rotate_left;focus (intro w;go_simp;try with_reducible rfl)
 try simp only [Act.put,aj]
 refine wpAnyH_done (by kernel_rfl) ?_ _
 all_goals go_wp2
 obtain ⟨bxn,hY⟩:=hHeld
 go_loopw [8] (fun c wr=>∃j:Nat,c=.int .i64 j∧j≤nl.length∧(nl.take j).all (eE b)=true∧de wr W0.heap.size [.int .i64 (m:Int),.int .i64 np,.slice la nl.length lk]∧Ext W0 wr) (fun c _=>nl.length - (intOf c).toNat)
 case atStart=>exact ⟨0,rfl,Nat.zero_le _,rfl,bxn,hY⟩
 case round=>
  obtain ⟨j,rfl,hj0,hok,bxn,hX0⟩:=hrel
  have HOK:=Lib.hid hok
  clear hok
  have hX:Ext w wr:=hx0.trans hX0
  have z2:=(bxn 2 _ rfl).1
  replace p0:=hX0.keep p0
  replace p1:=hX0.keep p1
  replace p2:=hX0.keep p2
  replace p3:=hX0.keep p3
  replace p4:=hX0.keep p4
  replace p5:=hX0.keep p5
  replace hB:=cQ.keeps _ _ _ _ _ _ (cO.ext hX0) hB
  by_cases hjl:j<nl.length
  ·rcases y4 with y4|⟨b3,o3,rfl,yb1,yb2,y4⟩
   ·rw [y4] at hjl;simp at hjl
   obtain ⟨es,el,⟨rfl,f1⟩,hes⟩:=y4 j hjl
   have t0:=hX.keep (hes 0 _ rfl)
   rw [Nat.mul_one,Nat.add_zero] at t0
   clear hes y4
   have HT:=Lib.hid (ja (eE b) nl j hjl)
   have HBD:=Lib.hid (vb (eE b) nl j hjl)
   have jj0:(0:Int)≤(j:Int):=by omega
   have jj1:(j:Int)<(nl.length:Int):=by omega
   cases hk:eE b nl[j]
   have Hk:=Lib.hid hk;clear hk
   have HB:=Lib.hid (show eA sig b i=false by rw [HA.out,HBD.out Hk.out];simp)
   have isF:=trivial
   rotate_left
   have Hk:=Lib.hid hk;clear hk
   have isP:=trivial
   all_goals go_wp2_with fail
   all_goals
    refine wp_region_held_drew (S:=(fun w'=>Ext wr w')) (by kernel_rfl) ?_ (fun hHeld=>?_)
    ·refine xw
    refine tkY 0 ?_ ?_ ?_;rotate_left;focus (intro w hSw;(try dsimp only at hSw);have sx:=hSw;have s_p0:=Ext.keep sx p0;have s_p1:=Ext.keep sx p1;have s_p2:=Ext.keep sx p2;have s_p3:=Ext.keep sx p3;have s_p4:=Ext.keep sx p4;have s_p5:=Ext.keep sx p5;have s_z2:=Ext.keep sx z2;have s_t0:=Ext.keep sx t0;go_simp;try with_reducible rfl)
    try simp only [Act.put,aj]
    refine tkP 1 ?_ ?_ ?_;rotate_left;focus (intro w;go_simp;try with_reducible rfl)
    try simp only [Act.put,aj]
    refine tkY 2 ?_ ?_ ?_;rotate_left;focus (intro w hSw;(try dsimp only at hSw);have sx:=hSw;have s_p0:=Ext.keep sx p0;have s_p1:=Ext.keep sx p1;have s_p2:=Ext.keep sx p2;have s_p3:=Ext.keep sx p3;have s_p4:=Ext.keep sx p4;have s_p5:=Ext.keep sx p5;have s_z2:=Ext.keep sx z2;have s_t0:=Ext.keep sx t0;go_simp;try with_reducible rfl)
    try simp only [Act.put,aj]
    refine tkP 3 ?_ ?_ ?_;rotate_left;focus (intro w;go_simp;try with_reducible rfl)
    try simp only [Act.put,aj]
    refine tkP 4 ?_ ?_ ?_;rotate_left;focus (intro w;go_simp;try with_reducible rfl)
    try simp only [Act.put,aj]
    refine tkY 5 ?_ ?_ ?_;rotate_left;focus (intro w hSw;(try dsimp only at hSw);have sx:=hSw;have s_p0:=Ext.keep sx p0;have s_p1:=Ext.keep sx p1;have s_p2:=Ext.keep sx p2;have s_p3:=Ext.keep sx p3;have s_p4:=Ext.keep sx p4;have s_p5:=Ext.keep sx p5;have s_z2:=Ext.keep sx z2;have s_t0:=Ext.keep sx t0;go_simp;try with_reducible rfl)
    try simp only [Act.put,aj]
    refine wpAnyH_ready (rs:=[6]) (by kernel_rfl) (by simp) ?_
    refine AllReadyH.cons rfl (fun K hK=>?_) AllReadyH.nil
    (try simp only [aj])
    go_simp
    (have hSw:=hHeld;(try dsimp only at hSw);have sx:=hSw;have s_p0:=Ext.keep sx p0;have s_p1:=Ext.keep sx p1;have s_p2:=Ext.keep sx p2;have s_p3:=Ext.keep sx p3;have s_p4:=Ext.keep sx p4;have s_p5:=Ext.keep sx p5;have s_z2:=Ext.keep sx z2;have s_t0:=Ext.keep sx t0;have s_hB:=cQ.keeps _ _ _ _ _ _ (cO.ext sx) hB;go_at_call 184;(refine (lN lo' hi' _ b _ _ s_hB HE.out ho).mono ?_);rintro e y ⟨rfl,hb⟩;rw [Hk.out])
    show K _ _
    refine hK.out _ _ (by (have hh:=hHeld;(try dsimp only at hh);exact hh.trans hb)) (fun hHeld=>?_)
    clear hK K
    try simp only [Act.put,aj]
    refine tkP 7 ?_ ?_ ?_;rotate_left;focus (intro w;go_simp;try with_reducible rfl)
    try simp only [Act.put,aj]
    refine wpAnyH_done (by kernel_rfl) ?_ _
   all_goals go_wp2
   all_goals first|(have:=isF;all_goals go_ret;all_goals exact ⟨al HB.out.symm,xw⟩)|(have:=isP;all_goals go_roundw;(case rel=>exact ⟨j+1,rfl,by omega,by rw [HT.out,HOK.out,Hk.out];rfl,bxn.ext (by assumption),xw⟩);all_goals (simp only [intOf];omega))
  ·have HAL:=Lib.hid (jE (eE b) nl j (by omega) HOK.out)
   go_wp2
   go_ret
   exact ⟨al (by rw [HA.out,HAL.out,HK.out];simp [Hc.out,Hu.out,Hl.out]),xw⟩
end Go.Proofs.YtclpbhoekmecjaaGreatDoor
namespace Go.Proofs.YtclpbhoekmecjaaGreatDoor
open Go.RowKit
set_option linter.unusedVariables false
set_option linter.unusedSimpArgs false
def gQ (sig:List Ctl) (b:Big):Bool:=ay sig b && (decide (b.sites.length=0) && decide (b.inner.length=0))
attribute [local irreducible] inR dD dg k9 dj dF eE fg gg tj eA
set_option maxRecDepth 100000 in
set_option maxHeartbeats 6400000 in
theorem rh (lo hi lo' hi':Nat) (v:Value) (sig:List Ctl) (cs:List Value) (b:Big) (w:World) (hV:lu lo hi w v sig) (hB:cQ lo' hi' w cs b) (hlen:b.inner.length≤1048576) :
 Calls Tryz.prog 123 #[v,.agg cs.toArray] w fun e w'=>e=.returned (.bool (ay sig b))∧Ext w w':=by
 obtain ⟨v1,v2,v4,v5,rfl,r1,r2,hN,hS,hO,hI⟩:=id hB
 obtain ⟨a1,k1,rfl,g1,g2,g3,_⟩:=hN
 obtain ⟨a2,k2,rfl,n1,n2,n3,n4⟩:=id hS
 obtain ⟨a4,k4,rfl,o1,o2,o3,_⟩:=id hO
 obtain ⟨a5,k5,rfl,l1,l2,l3,l4⟩:=id hI
 unfold maxLen at g2 n2 o2 l2
 obtain ⟨W0,hW0,hbx,hx0,hz⟩:=bz w [.int .i64 b.roots,.slice a1 b.nodes.length k1,.slice a2 b.sites.length k2,.int .i64 b.edges,.slice a4 b.outer.length k4,.slice a5 b.inner.length k5] 40
 have p0:=(hbx 0 _ rfl).1
 have p1:=(hbx 1 _ rfl).1
 have p2:=(hbx 2 _ rfl).1
 have p3:=(hbx 3 _ rfl).1
 have p4:=(hbx 4 _ rfl).1
 have p5:=(hbx 5 _ rfl).1
 have hzz:w.heap.size<W0.heap.size:=by omega
 clear hz hbx
 replace hV:=hV.ext fd.keeps hx0
 replace hB:=cQ.keeps _ _ _ _ _ _ (cO.ext hx0) hB
 replace hO:=hO.ext dw.keeps hx0
 go_enter Tryz.func123,Tryz.ntmps123
 have Hr:=Lib.hid trivial
 have hn:True:=trivial
 have hs:True:=trivial
 have He:=Lib.hid trivial
 cases ha:k9 sig
 have Ha:=Lib.hid ha;clear ha
 have isF:=trivial
 rotate_left
 have Ha:=Lib.hid ha;clear ha
 have hsl:=vM Ha.out
 cases hr:inR b.roots 0 4
 have Hr:=Lib.hid hr;clear hr
 have isF:=trivial
 rotate_left
 have Hr:=Lib.hid hr;clear hr
 by_cases hn:8<b.nodes.length
 have en:decide (8<b.nodes.length)=true:=decide_eq_true hn
 have isF:=trivial
 rotate_left
 have en:decide (8<b.nodes.length)=false:=decide_eq_false hn
 by_cases hs:4<b.sites.length
 have es:decide (4<b.sites.length)=true:=decide_eq_true hs
 have isF:=trivial
 rotate_left
 have es:decide (4<b.sites.length)=false:=decide_eq_false hs
 cases he:inR b.edges 0 8
 have He:=Lib.hid he;clear he
 have isF:=trivial
 rotate_left
 have He:=Lib.hid he;clear he
 all_goals go_wp2_with (first|(go_at_call 86;(refine (ck _ _ _ _).mono ?_);rintro e y ⟨rfl,rfl⟩;rw [He.out])|(go_at_call 86;(refine (ck _ _ _ _).mono ?_);rintro e y ⟨rfl,rfl⟩;rw [Hr.out])|(go_at_call 122;(refine (ng lo hi _ _ _ hV).mono ?_);rintro e y ⟨rfl,hb⟩;rw [Ha.out];replace p0:=Ext.keep hb p0;replace p1:=Ext.keep hb p1;replace p2:=Ext.keep hb p2;replace p3:=Ext.keep hb p3;replace p4:=Ext.keep hb p4;replace p5:=Ext.keep hb p5;replace hV:=hV.ext fd.keeps hb;replace hB:=cQ.keeps _ _ _ _ _ _ (cO.ext hb) hB;replace hO:=hO.ext dw.keeps hb))
 all_goals first|(have:=isF;go_ret;exact ⟨al (ld (by unfold mD;simp [Ha.out,Hr.out,hn,hs,He.out];try omega)).symm,xw⟩)|skip
 have hq:True:=trivial
 have Hi:=Lib.hid trivial
 cases ho:dj b.outer
 have Ho:=Lib.hid ho;clear ho
 have isF:=trivial
 rotate_left
 have Ho:=Lib.hid ho;clear ho
 by_cases hq:16<b.inner.length
 have eq:decide (16<b.inner.length)=true:=decide_eq_true hq
 have isF:=trivial
 rotate_left
 have eq:decide (16<b.inner.length)=false:=decide_eq_false hq
 cases hi:dj (b.inner.map Wr.name)
 have Hi:=Lib.hid hi;clear hi
 have isF:=trivial
 rotate_left
 have Hi:=Lib.hid hi;clear hi
 all_goals go_wp2_with (first|(go_at_call 180;(refine (kM _ _ _ _ _ hIN).mono ?_);rintro e y ⟨rfl,hb⟩;rw [Hi.out];replace p0:=Ext.keep hb p0;replace p1:=Ext.keep hb p1;replace p2:=Ext.keep hb p2;replace p3:=Ext.keep hb p3;replace p4:=Ext.keep hb p4;replace p5:=Ext.keep hb p5;replace hV:=hV.ext fd.keeps hb;replace hB:=cQ.keeps _ _ _ _ _ _ (cO.ext hb) hB;replace hO:=hO.ext dw.keeps hb)|(go_at_call 180;(refine (kM lo' hi' _ _ _ hO).mono ?_);rintro e y ⟨rfl,hb⟩;rw [Ho.out];replace p0:=Ext.keep hb p0;replace p1:=Ext.keep hb p1;replace p2:=Ext.keep hb p2;replace p3:=Ext.keep hb p3;replace p4:=Ext.keep hb p4;replace p5:=Ext.keep hb p5;replace hV:=hV.ext fd.keeps hb;replace hB:=cQ.keeps _ _ _ _ _ _ (cO.ext hb) hB;replace hO:=hO.ext dw.keeps hb)|(go_at_call 181;refine (pj lo' hi' [.int .i64 b.roots,.slice a1 b.nodes.length k1,.slice a2 b.sites.length k2,.int .i64 b.edges,.slice a4 b.outer.length k4,.slice a5 b.inner.length k5] b _ hB hlen).mono ?_;rintro e y ⟨v9,rfl,hIN,hb⟩;replace p0:=Ext.keep hb p0;replace p1:=Ext.keep hb p1;replace p2:=Ext.keep hb p2;replace p3:=Ext.keep hb p3;replace p4:=Ext.keep hb p4;replace p5:=Ext.keep hb p5;replace hV:=hV.ext fd.keeps hb;replace hB:=cQ.keeps _ _ _ _ _ _ (cO.ext hb) hB;replace hO:=hO.ext dw.keeps hb))
 all_goals first|(have:=isF;go_ret;exact ⟨al (ld (by unfold mD;first|(simp [Ho.out,hq,Hi.out];done)|(have hnl:dj (b.inner.map Wr.name)=false:=(by cases hh:dj (b.inner.map Wr.name);rfl;exfalso;have:=fH hh;simp at this;omega);simp [hnl]))).symm,xw⟩)|skip
 have HH:=Lib.hid (show mD sig b=true by unfold mD;rw [Ha.out,Hr.out,He.out,Ho.out,Hi.out];simp;omega)
 clear hIN
 have hol:b.outer.length≤1000:=by have:=fH Ho.out;omega
 have hX1:Ext w y:=xw
 go_loopw [5] (fun c wr=>∃i:Nat,c=.int .i64 i∧i≤b.nodes.length∧(List.range i).all (eA sig b)=true∧Ext y wr) (fun c _=>b.nodes.length - (intOf c).toNat)
 case atStart=>exact ⟨0,rfl,Nat.zero_le _,rfl,Ext.refl _⟩
 case round=>
  obtain ⟨i,rfl,hi0,hok,hx⟩:=hrel
  have HOK:=Lib.hid hok
  clear hok
  have hX:Ext w wr:=hX1.trans hx
  replace p0:=hx.keep p0
  replace p1:=hx.keep p1
  replace p2:=hx.keep p2
  replace p3:=hx.keep p3
  replace p4:=hx.keep p4
  replace p5:=hx.keep p5
  replace hV:=hV.ext fd.keeps hx
  replace hB:=cQ.keeps _ _ _ _ _ _ (cO.ext hx) hB
  by_cases hlt:i<b.nodes.length
  ·have HS:=Lib.hid (bN (eA sig b) i)
   have hC:=nA HOK.out
   cases hm:eA sig b i
   have Hm:=Lib.hid hm;clear hm
   have isF:=trivial
   rotate_left
   have Hm:=Lib.hid hm;clear hm
   have isP:=trivial
   all_goals go_wp2_with (first|(go_at_call 182;(refine (qD lo hi lo' hi' _ sig _ b i _ hV hB Hr.out He.out hol hsl.2 hlt hC).mono ?_);rintro e y ⟨rfl,hb⟩;rw [Hm.out];replace p0:=Ext.keep hb p0;replace p1:=Ext.keep hb p1;replace p2:=Ext.keep hb p2;replace p3:=Ext.keep hb p3;replace p4:=Ext.keep hb p4;replace p5:=Ext.keep hb p5))
   all_goals first|(have:=isF;go_ret;exact ⟨al (oV i hlt Hm.out).symm,xw⟩)|(have:=isP;go_roundw;(case rel=>exact ⟨i+1,rfl,by omega,by rw [HS.out,HOK.out,Hm.out];rfl,xw⟩);· simp only [intOf];omega)
  ·have e:i=b.nodes.length:=by omega
   subst e
   have hC:=nA HOK.out
   have HNA:=HOK
   clear HOK
   go_wp2
   go_loopw [6] (fun c wi=>∃i:Nat,c=.int .i64 i∧i≤b.sites.length∧(b.sites.take i).all (fg sig b)=true∧Ext wr wi) (fun c _=>b.sites.length - (intOf c).toNat)
   case atStart=>exact ⟨0,rfl,Nat.zero_le _,rfl,Ext.refl _⟩
   case round=>
    obtain ⟨i,rfl,hi0,hok,hxi⟩:=hrel
    have HOK:=Lib.hid hok
    clear hok
    have hXi:Ext w wr:=hX.trans hxi
    replace p0:=hxi.keep p0
    replace p1:=hxi.keep p1
    replace p2:=hxi.keep p2
    replace p3:=hxi.keep p3
    replace p4:=hxi.keep p4
    replace p5:=hxi.keep p5
    replace hV:=hV.ext fd.keeps hxi
    replace hB:=cQ.keeps _ _ _ _ _ _ (cO.ext hxi) hB
    by_cases hlt:i<b.sites.length
    ·rcases n4 with n4|⟨b2,o2',rfl,nb1,nb2,n4⟩
     ·rw [n4] at hlt;simp at hlt
     obtain ⟨es,el,⟨rfl,f1⟩,hes⟩:=n4 i hlt
     have t0:=hXi.keep (hes 0 _ rfl)
     rw [Nat.mul_one,Nat.add_zero] at t0
     clear hes n4
     have HT:=Lib.hid (ja (fg sig b) b.sites i hlt)
     have HBD:=Lib.hid (vb (fg sig b) b.sites i hlt)
     have HQ:=Lib.hid (zg sig b b.sites[i])
     have jj0:(0:Int)≤(i:Int):=by omega
     have jj1:(i:Int)<(b.sites.length:Int):=by omega
     cases hk:dF sig b b.sites[i] b.nodes.length
     have Hk:=Lib.hid hk;clear hk
     have isF:=trivial
     rotate_left
     have Hk:=Lib.hid hk;clear hk
     have isP:=trivial
     all_goals go_wp2_with fail
     all_goals
      refine wp_region_held_drew (S:=(fun w'=>Ext wr w')) (by kernel_rfl) ?_ (fun hHeld=>?_)
      ·refine xw
      refine tkP 0 ?_ ?_ ?_;rotate_left;focus (intro w;go_simp;try with_reducible rfl)
      try simp only [Act.put,aj]
      refine tkY 1 ?_ ?_ ?_;rotate_left;focus (intro w hSw;(try dsimp only at hSw);have sx:=hSw;have s_p0:=Ext.keep sx p0;have s_p1:=Ext.keep sx p1;have s_p2:=Ext.keep sx p2;have s_p3:=Ext.keep sx p3;have s_p4:=Ext.keep sx p4;have s_p5:=Ext.keep sx p5;have s_t0:=Ext.keep sx t0;go_simp;try with_reducible rfl)
      try simp only [Act.put,aj]
      refine tkP 2 ?_ ?_ ?_;rotate_left;focus (intro w;go_simp;try with_reducible rfl)
      try simp only [Act.put,aj]
      refine tkY 3 ?_ ?_ ?_;rotate_left;focus (intro w hSw;(try dsimp only at hSw);have sx:=hSw;have s_p0:=Ext.keep sx p0;have s_p1:=Ext.keep sx p1;have s_p2:=Ext.keep sx p2;have s_p3:=Ext.keep sx p3;have s_p4:=Ext.keep sx p4;have s_p5:=Ext.keep sx p5;have s_t0:=Ext.keep sx t0;go_simp;try with_reducible rfl)
      try simp only [Act.put,aj]
      refine tkP 4 ?_ ?_ ?_;rotate_left;focus (intro w;go_simp;try with_reducible rfl)
      try simp only [Act.put,aj]
      refine tkP 5 ?_ ?_ ?_;rotate_left;focus (intro w;go_simp;try with_reducible rfl)
      try simp only [Act.put,aj]
      refine tkY 6 ?_ ?_ ?_;rotate_left;focus (intro w hSw;(try dsimp only at hSw);have sx:=hSw;have s_p0:=Ext.keep sx p0;have s_p1:=Ext.keep sx p1;have s_p2:=Ext.keep sx p2;have s_p3:=Ext.keep sx p3;have s_p4:=Ext.keep sx p4;have s_p5:=Ext.keep sx p5;have s_t0:=Ext.keep sx t0;go_simp;try with_reducible rfl)
      try simp only [Act.put,aj]
      refine tkP 7 ?_ ?_ ?_;rotate_left;focus (intro w;go_simp;try with_reducible rfl)
      try simp only [Act.put,aj]
      refine tkY 8 ?_ ?_ ?_;rotate_left;focus (intro w hSw;(try dsimp only at hSw);have sx:=hSw;have s_p0:=Ext.keep sx p0;have s_p1:=Ext.keep sx p1;have s_p2:=Ext.keep sx p2;have s_p3:=Ext.keep sx p3;have s_p4:=Ext.keep sx p4;have s_p5:=Ext.keep sx p5;have s_t0:=Ext.keep sx t0;go_simp;try with_reducible rfl)
      try simp only [Act.put,aj]
      refine tkP 9 ?_ ?_ ?_;rotate_left;focus (intro w;go_simp;try with_reducible rfl)
      try simp only [Act.put,aj]
      refine wpAnyH_ready (rs:=[10]) (by kernel_rfl) (by simp) ?_
      refine AllReadyH.cons rfl (fun K hK=>?_) AllReadyH.nil
      (try simp only [aj])
      go_simp
      (have hSw:=hHeld;(try dsimp only at hSw);have sx:=hSw;have s_p0:=Ext.keep sx p0;have s_p1:=Ext.keep sx p1;have s_p2:=Ext.keep sx p2;have s_p3:=Ext.keep sx p3;have s_p4:=Ext.keep sx p4;have s_p5:=Ext.keep sx p5;have s_t0:=Ext.keep sx t0;have s_hV:=hV.ext fd.keeps sx;have s_hB:=cQ.keeps _ _ _ _ _ _ (cO.ext sx) hB;go_at_call 183;(refine (fT lo hi lo' hi' _ sig _ b _ _ _ s_hV s_hB f1 Hr.out (by omega) hC).mono ?_);rintro e y ⟨rfl,hb⟩;rw [Hk.out])
      show K _ _
      refine hK.out _ _ (by (have hh:=hHeld;(try dsimp only at hh);exact hh.trans hb)) (fun hHeld=>?_)
      clear hK K
      try simp only [Act.put,aj]
      refine tkP 11 ?_ ?_ ?_;rotate_left;focus (intro w;go_simp;try with_reducible rfl)
      try simp only [Act.put,aj]
      refine wpAnyH_done (by kernel_rfl) ?_ _
     all_goals go_wp2
     all_goals first|(have:=isF;all_goals go_ret;all_goals exact ⟨al (un (HBD.out (by rw [HQ.out];exact Hk.out))).symm,xw⟩)|(have:=isP;all_goals go_roundw;(case rel=>exact ⟨i+1,rfl,by omega,by rw [HT.out,HOK.out,HQ.out,Hk.out];rfl,xw⟩);all_goals (simp only [intOf];omega))
    ·have HSA:=Lib.hid (jE (fg sig b) b.sites i (by omega) HOK.out)
     go_wp2
     go_loopw [7] (fun c wi=>∃i:Nat,c=.int .i64 i∧i≤b.inner.length∧(b.inner.take i).all (gg b)=true∧Ext wr wi) (fun c _=>b.inner.length - (intOf c).toNat)
     case atStart=>exact ⟨0,rfl,Nat.zero_le _,rfl,Ext.refl _⟩
     case round=>
      obtain ⟨i,rfl,hi0,hok,hxj⟩:=hrel
      have HOK2:=Lib.hid hok
      clear hok
      have hXj:Ext w wr:=hXi.trans hxj
      replace p0:=hxj.keep p0
      replace p1:=hxj.keep p1
      replace p2:=hxj.keep p2
      replace p3:=hxj.keep p3
      replace p4:=hxj.keep p4
      replace p5:=hxj.keep p5
      replace hB:=cQ.keeps _ _ _ _ _ _ (cO.ext hxj) hB
      by_cases hlt:i<b.inner.length
      ·rcases l4 with l4|⟨b2,o2',rfl,nb1,nb2,l4⟩
       ·rw [l4] at hlt;simp at hlt
       obtain ⟨es,el,⟨rfl,f1,f2⟩,hes⟩:=l4 i hlt
       have t1:=hXj.keep (hes 1 _ rfl)
       clear hes l4
       have HT:=Lib.hid (ja (gg b) b.inner i hlt)
       have HBD:=Lib.hid (vb (gg b) b.inner i hlt)
       have HQ:=Lib.hid (yS b b.inner[i])
       have jj0:(0:Int)≤(i:Int):=by omega
       have jj1:(i:Int)<(b.inner.length:Int):=by omega
       cases hk:eE b b.inner[i].link
       have Hk:=Lib.hid hk;clear hk
       have isF:=trivial
       rotate_left
       have Hk:=Lib.hid hk;clear hk
       have isP:=trivial
       all_goals go_wp2_with fail
       all_goals
        refine wp_region_held_drew (S:=(fun w'=>Ext wr w')) (by kernel_rfl) ?_ (fun hHeld=>?_)
        ·refine xw
        refine tkY 0 ?_ ?_ ?_;rotate_left;focus (intro w hSw;(try dsimp only at hSw);have sx:=hSw;have s_p0:=Ext.keep sx p0;have s_p1:=Ext.keep sx p1;have s_p2:=Ext.keep sx p2;have s_p3:=Ext.keep sx p3;have s_p4:=Ext.keep sx p4;have s_p5:=Ext.keep sx p5;have s_t1:=Ext.keep sx t1;go_simp;try with_reducible rfl)
        try simp only [Act.put,aj]
        refine tkP 1 ?_ ?_ ?_;rotate_left;focus (intro w;go_simp;try with_reducible rfl)
        try simp only [Act.put,aj]
        refine tkY 2 ?_ ?_ ?_;rotate_left;focus (intro w hSw;(try dsimp only at hSw);have sx:=hSw;have s_p0:=Ext.keep sx p0;have s_p1:=Ext.keep sx p1;have s_p2:=Ext.keep sx p2;have s_p3:=Ext.keep sx p3;have s_p4:=Ext.keep sx p4;have s_p5:=Ext.keep sx p5;have s_t1:=Ext.keep sx t1;go_simp;try with_reducible rfl)
        try simp only [Act.put,aj]
        refine tkP 3 ?_ ?_ ?_;rotate_left;focus (intro w;go_simp;try with_reducible rfl)
        try simp only [Act.put,aj]
        refine tkP 4 ?_ ?_ ?_;rotate_left;focus (intro w;go_simp;try with_reducible rfl)
        try simp only [Act.put,aj]
        refine tkP 5 ?_ ?_ ?_;rotate_left;focus (intro w;go_simp;try with_reducible rfl)
        try simp only [Act.put,aj]
        refine tkY 6 ?_ ?_ ?_;rotate_left;focus (intro w hSw;(try dsimp only at hSw);have sx:=hSw;have s_p0:=Ext.keep sx p0;have s_p1:=Ext.keep sx p1;have s_p2:=Ext.keep sx p2;have s_p3:=Ext.keep sx p3;have s_p4:=Ext.keep sx p4;have s_p5:=Ext.keep sx p5;have s_t1:=Ext.keep sx t1;go_simp;try with_reducible rfl)
        try simp only [Act.put,aj]
        refine wpAnyH_ready (rs:=[7]) (by kernel_rfl) (by simp) ?_
        refine AllReadyH.cons rfl (fun K hK=>?_) AllReadyH.nil
        (try simp only [aj])
        go_simp
        (have hSw:=hHeld;(try dsimp only at hSw);have sx:=hSw;have s_p0:=Ext.keep sx p0;have s_p1:=Ext.keep sx p1;have s_p2:=Ext.keep sx p2;have s_p3:=Ext.keep sx p3;have s_p4:=Ext.keep sx p4;have s_p5:=Ext.keep sx p5;have s_t1:=Ext.keep sx t1;have s_hB:=cQ.keeps _ _ _ _ _ _ (cO.ext sx) hB;go_at_call 184;(refine (lN lo' hi' _ b _ _ s_hB He.out hol).mono ?_);rintro e y ⟨rfl,hb⟩;rw [Hk.out])
        show K _ _
        refine hK.out _ _ (by (have hh:=hHeld;(try dsimp only at hh);exact hh.trans hb)) (fun hHeld=>?_)
        clear hK K
        try simp only [Act.put,aj]
        refine tkP 8 ?_ ?_ ?_;rotate_left;focus (intro w;go_simp;try with_reducible rfl)
        try simp only [Act.put,aj]
        refine wpAnyH_done (by kernel_rfl) ?_ _
       all_goals go_wp2
       all_goals first|(have:=isF;all_goals go_ret;all_goals exact ⟨al (tP (HBD.out (by rw [HQ.out];exact Hk.out))).symm,xw⟩)|(have:=isP;all_goals go_roundw;(case rel=>exact ⟨i+1,rfl,by omega,by rw [HT.out,HOK2.out,HQ.out,Hk.out];rfl,xw⟩);all_goals (simp only [intOf];omega))
      ·have HWA:=Lib.hid (jE (gg b) b.inner i (by omega) HOK2.out)
       go_wp2
       go_ret
       exact ⟨al (BF HH.out HNA.out HSA.out HWA.out).symm,xw⟩
end Go.Proofs.YtclpbhoekmecjaaGreatDoor
