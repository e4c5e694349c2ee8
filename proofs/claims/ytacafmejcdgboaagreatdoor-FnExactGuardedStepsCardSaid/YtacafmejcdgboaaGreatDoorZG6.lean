/-
  Proved facts that the law leans on.
-/
import Derived.Test.YtacafmejcdgboaaGreatDoorZG2
import Derived.Test.YtacafmejcdgboaaGreatDoorZG4
import Derived.Test.YtacafmejcdgboaaGreatDoorZG5
import Derived.Deep.Cut
import Derived.Test.YtacafmejcdgboaaGreatDoorRows
import Derived.WalkSpells
import Derived.WalkLawsBesides
import Derived.BigQuiet
import Derived.Deep.DeepMust
namespace Go.Proofs.YtacafmejcdgboaaGreatDoor
open Go.RowKit
set_option linter.unusedVariables false
set_option linter.unusedSimpArgs false
attribute [local irreducible] inR dp cQ kV dj di eq gx gG rJ fR aF
def oy (b:Big):Bool:=decide (b.sites.length=0) && decide (b.inner.length=0)
theorem jk (lo' hi':Nat) (cs:List Value) (b:Big) (w:World) (hB:gT lo' hi' w cs b) :
 Calls Tryz.prog 105 #[.agg cs.toArray] w fun e w'=>e=.returned (.bool (oy b))∧Ext w w':=by
 obtain ⟨v1,v2,v4,v5,rfl,r1,r2,hN,hS,hO,hI⟩:=hB
 obtain ⟨a2,k2,rfl,n1,n2,n3,n4⟩:=hS
 obtain ⟨a5,k5,rfl,l1,l2,l3,l4⟩:=hI
 unfold maxLen at n2 l2
 obtain ⟨W0,hW0,hbx,hx0,hz⟩:=dX w [.int .i64 b.roots,v1,.slice a2 b.sites.length k2,.int .i64 b.edges,v4,.slice a5 b.inner.length k5] 46
 have p2:=(hbx 2 _ rfl).1
 have p5:=(hbx 5 _ rfl).1
 clear hz hbx n4 l4
 go_enter Tryz.func105,Tryz.ntmps105
 have Hi:=Lib.hid trivial
 by_cases hs:((b.sites.length:Int))=(0)
 have es:(((b.sites.length:Int)) == (0))=true:=beq_iff_eq.2 hs
 have Hs:=Lib.hid hs;clear hs
 by_cases hi:((b.inner.length:Int))=(0)
 have ei:(((b.inner.length:Int)) == (0))=true:=beq_iff_eq.2 hi
 have Hi:=Lib.hid hi;clear hi
 have isF:=trivial
 rotate_left
 have ei:(((b.inner.length:Int)) == (0))=false:=beq_eq_false_iff_ne.2 hi
 have Hi:=Lib.hid hi;clear hi
 have isP:=trivial
 rotate_left
 have es:(((b.sites.length:Int)) == (0))=false:=beq_eq_false_iff_ne.2 hs
 have Hs:=Lib.hid hs;clear hs
 have isP:=trivial
 all_goals go_wp2_with fail
 all_goals first|(have:=isF;go_ret;exact ⟨aP (by have h1:b.sites.length=0:=(by have:=Hs.out;omega);have h2:b.inner.length=0:=(by have:=Hi.out;omega);unfold oy;rw [decide_eq_true h1,decide_eq_true h2];rfl),xw⟩)|(have:=isP;go_ret;exact ⟨aP (by unfold oy;first|(have h1:¬b.sites.length=0:=(by have:=Hs.out;omega);rw [decide_eq_false h1];rfl)|(have h1:b.sites.length=0:=(by have:=Hs.out;omega);have h2:¬b.inner.length=0:=(by have:=Hi.out;omega);rw [decide_eq_true h1,decide_eq_false h2];rfl)),xw⟩)
set_option maxHeartbeats 1600000 in
theorem pB (lo hi lo' hi':Nat) (v:Value) (sig:List Ctl) (cs:List Value) (b:Big) (w:World) (hV:vN lo hi w v sig) (hB:gT lo' hi' w cs b) (hlen:b.inner.length≤1048576) :
 Calls Tryz.prog 49 #[v,.agg cs.toArray] w fun e w'=>e=.returned (.bool (fS sig b))∧Ext w w':=by
 obtain ⟨v1,v2,v4,v5,rfl,r1,r2,hN,hS,hO,hI⟩:=id hB
 obtain ⟨W0,hW0,hbx,hx0,hz⟩:=dX w [.int .i64 b.roots,v1,v2,.int .i64 b.edges,v4,v5] 46
 have p0:=(hbx 0 _ rfl).1
 have p1:=(hbx 1 _ rfl).1
 have p2:=(hbx 2 _ rfl).1
 have p3:=(hbx 3 _ rfl).1
 have p4:=(hbx 4 _ rfl).1
 have p5:=(hbx 5 _ rfl).1
 clear hz hbx
 replace hV:=hV.ext jF.keeps hx0
 replace hB:=gT.keeps _ _ _ _ _ _ (fb.ext hx0) hB
 have HAG:Hid (fS sig b=(aF sig b && oy b)):=Lib.hid rfl
 go_enter Tryz.func49,Tryz.ntmps49
 have Hc:=Lib.hid trivial
 cases ha:aF sig b
 have Ha:=Lib.hid ha;clear ha
 have isP:=trivial
 rotate_left
 have Ha:=Lib.hid ha;clear ha
 cases hc:oy b
 have Hc:=Lib.hid hc;clear hc
 have isP:=trivial
 rotate_left
 have Hc:=Lib.hid hc;clear hc
 have isF:=trivial
 all_goals go_wp2_with (first|(go_at_call 105;(refine (jk lo' hi' _ b _ hB).mono ?_);rintro e y ⟨rfl,hb⟩;rw [Hc.out];replace p0:=Ext.keep hb p0;replace p1:=Ext.keep hb p1;replace p2:=Ext.keep hb p2;replace p3:=Ext.keep hb p3;replace p4:=Ext.keep hb p4;replace p5:=Ext.keep hb p5;replace hB:=gT.keeps _ _ _ _ _ _ (fb.ext hb) hB)|(go_at_call 104;(refine (ju lo hi lo' hi' _ sig _ b _ hV hB hlen).mono ?_);rintro e y ⟨rfl,hb⟩;rw [Ha.out];replace p0:=Ext.keep hb p0;replace p1:=Ext.keep hb p1;replace p2:=Ext.keep hb p2;replace p3:=Ext.keep hb p3;replace p4:=Ext.keep hb p4;replace p5:=Ext.keep hb p5;replace hB:=gT.keeps _ _ _ _ _ _ (fb.ext hb) hB))
 all_goals first|(have:=isF;go_ret;exact ⟨aP (by rw [HAG.out,Ha.out,Hc.out];rfl),xw⟩)|(have:=isP;go_ret;exact ⟨aP (by rw [HAG.out];first|(rw [Ha.out];rfl)|(rw [Ha.out,Hc.out];rfl)),xw⟩)
end Go.Proofs.YtacafmejcdgboaaGreatDoor
namespace Go.Proofs.YtacafmejcdgboaaGreatDoor
open Go.RowKit
set_option linter.unusedVariables false
set_option linter.unusedSimpArgs false
def mb (a c:List ByteArray) (i:Nat):Bool:=lH (a.getD i ⟨#[]⟩) (c.getD i ⟨#[]⟩)
def eqS (a c:List ByteArray):Bool:=decide (a.length=c.length) && (List.range a.length).all (mb a c)
theorem mt (a c:List ByteArray) (i:Nat) (h1:i<a.length) (h2:i<c.length):mb a c i=(a[i].toList == c[i].toList):=by
 unfold mb lH
 rw [List.getD_eq_getElem?_getD,List.getD_eq_getElem?_getD,List.getElem?_eq_getElem h1,List.getElem?_eq_getElem h2];rfl
theorem uO {a c:List ByteArray} (i:Nat) (h1:i<a.length) (h:mb a c i=false):eqS a c=false:=by
 unfold eqS;rw [br _ _ i h1 h];simp
theorem vy {a c:List ByteArray} (h:¬(a.length:Int)=(c.length:Int)):eqS a c=false:=by
 unfold eqS;rw [decide_eq_false (by omega)];rfl
theorem FE {a c:List ByteArray} (h:(a.length:Int)=(c.length:Int)) (hh:(List.range a.length).all (mb a c)=true):eqS a c=true:=by
 unfold eqS;rw [decide_eq_true (by omega),hh];rfl
attribute [local irreducible] inR dp cQ dC cD aK nF pE i2 dS dG fX aF mb
end Go.Proofs.YtacafmejcdgboaaGreatDoor
namespace Go.Proofs.YtacafmejcdgboaaGreatDoor
open Go.RowKit
set_option linter.unusedVariables false
set_option linter.unusedSimpArgs false
def gI (r:Rul) (x:Int):Bool:=inR x 0 ((r.redex.sites.length:Int) - 1)
def fO (sig:List Ctl) (r:Rul):Bool:=(aF sig r.redex && aF sig r.reactum) && (bF r.redex && (decide (r.reactum.inner.length=0) && (decide (r.redex.roots=r.reactum.roots) && (eqS r.redex.outer r.reactum.outer && (decide (r.copies.length=r.reactum.sites.length) && r.copies.all (gI r))))))
def fQ (sig:List Ctl) (l:List Rul):Bool:=inR (l.length:Int) 1 6 && l.all (fO sig)
theorem Cj (r:Rul):r.copies.any (fun x=>!(inR x 0 ((r.redex.sites.length:Int) - 1))) = !(r.copies.all (gI r)):=iK (gI r) r.copies
theorem Cz (sig:List Ctl) (l:List Rul):l.any (fun r=>!(fO sig r)) = !(l.all (fO sig)):=iK (fO sig) l
theorem x6 {sig:List Ctl} {l:List Rul} (h:fQ sig l=true):kV sig=true:=by
 unfold fQ at h
 rw [Bool.and_eq_true] at h
 have h1:=bK h.1
 cases l with
 | nil=>simp at h1
 | cons r l=>
  rw [List.all_cons,Bool.and_eq_true] at h
  have h2:=h.2.1
  unfold fO at h2
  simp only [Bool.and_eq_true] at h2
  exact (eU (ee h2.1.1).1).1
attribute [local irreducible] inR dp kV aF bF eqS gI fO
end Go.Proofs.YtacafmejcdgboaaGreatDoor
namespace Go.Proofs.YtacafmejcdgboaaGreatDoor
open Go.RowKit
set_option linter.unusedVariables false
set_option linter.unusedSimpArgs false
attribute [local irreducible] inR dp kV aF bF eqS gI fO
end Go.Proofs.YtacafmejcdgboaaGreatDoor
namespace Go.Proofs.YtacafmejcdgboaaGreatDoor
open Go.RowKit
set_option linter.unusedVariables false
set_option linter.unusedSimpArgs false
attribute [local irreducible] inR dp
end Go.Proofs.YtacafmejcdgboaaGreatDoor
namespace Go.Proofs.YtacafmejcdgboaaGreatDoor
open Go.RowKit
set_option linter.unusedVariables false
set_option linter.unusedSimpArgs false
attribute [local irreducible] rP
def oq (r:Int):ByteArray:=if 0<r then rP r else ⟨#[]⟩
theorem yN (r:Int) (h:0<r):oq r=oq (r / 10)++rP (r % 10):=by
 unfold oq
 rw [if_pos h]
 by_cases h1:10≤r
 ·rw [if_pos (by omega),DQ r h1]
 ·rw [if_neg (by omega),show r % 10=r by omega]
  rfl
theorem Bb (k:Int) (h0:0≤k) (h:k<10):rP k=⟨#[UInt8.ofNat (48+k).toNat]⟩:=by
 rw [← yC k h0 h]
 have:k=0∨k=1∨k=2∨k=3∨k=4∨k=5∨k=6∨k=7∨k=8∨k=9:=by omega
 rcases this with rfl|rfl|rfl|rfl|rfl|rfl|rfl|rfl|rfl|rfl <;> rfl
theorem CP (w:World) (x:Int) (t:TypeId) (h0:0≤x) (h1:x≤255):IH (w.alloc (.cells #[.int .u8 x] t)) w.heap.size ⟨#[UInt8.ofNat x.toNat]⟩:=by
 intro j hj
 have hj0:j=0:=by simpa using hj
 subst hj0
 have e:((UInt8.ofNat x.toNat).toNat:Int)=x:=by
  have:(UInt8.ofNat x.toNat).toNat=x.toNat % 256:=rfl
  rw [this]
  omega
 rw [World.cell?_alloc_at #[.int .u8 x] t w.heap.size 0 rfl]
 simp [e]
 omega
attribute [local irreducible] oq jr
set_option maxRecDepth 100000 in
set_option maxHeartbeats 800000 in
theorem oh (n:Int) (w:World) (h0:0≤n) (h1:n≤1000000000) :
 Calls Tryz.prog 74 #[.int .i64 n] w fun e w'=>e=.returned (.string (jr n))∧Ext w w':=by
 by_cases hn:n≤0
 ·go_enter Tryz.func74,Tryz.ntmps74
  go_wp2
  go_ret
  exact ⟨BC (by unfold jr;rw [if_pos hn]),xw⟩
 ·go_enter Tryz.func74,Tryz.ntmps74
  go_wp2
  go_loopw [0,3] (fun a t wr=>∃(r:Int) (s:ByteArray),a=.int .i64 r∧t=.string s∧0≤r∧r≤n∧Ext w wr∧Hid (rP n=oq r++s)) (fun a _ _=>(intOf a).toNat)
  case atStart=>
   exact ⟨n,⟨#[]⟩,rfl,rfl,h0,Int.le_refl _,xw,Lib.hid (by unfold oq;rw [if_pos (by omega)];exact (ByteArray.ext (by simp)))⟩
  case round=>
   obtain ⟨r,s,rfl,rfl,hr,hrn,hx,HD⟩:=hrel
   have hsz:s.size≤21:=by
    have h2:=wg n (by omega) (by omega)
    rw [HD.out,ByteArray.size_append] at h2
    omega
   by_cases hp:0<r
   ·have hdg:=Bb (r % 10) (by omega) (by omega)
    have hl:=CP wr (48+r % 10) 5 (by omega) (by omega)
    rw [← hdg] at hl
    have hds:(rP (r % 10)).size=1:=by rw [hdg];rfl
    have hst:=Lib.hid (yN r hp)
    clear hdg
    go_wp2_with (refine vb rfl 173 9 5 (.tmp 12) rfl hl 1 1 hds rfl Tryz.underlying173 Tryz.underlying5 Tryz.underlying9 ?_)
    go_roundw
    case rel=>exact ⟨r / 10,rP (r % 10)++s,rfl,rfl,by omega,by omega,xw,Lib.hid (by rw [HD.out,hst.out,ByteArray.append_assoc])⟩
    ·simp only [intOf];omega
   ·have hr0:r=0:=by omega
    have hms:Hid (jr n=⟨#[109]⟩++s):=Lib.hid (by unfold jr;rw [if_neg (by omega),HD.out];unfold oq;rw [if_neg hp];exact congrArg _ (ByteArray.ext (by simp)))
    go_wp2
    go_ret
    exact ⟨BC hms.out.symm,xw⟩
end Go.Proofs.YtacafmejcdgboaaGreatDoor
