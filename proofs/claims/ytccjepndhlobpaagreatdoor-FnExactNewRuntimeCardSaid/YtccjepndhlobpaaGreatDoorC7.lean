/-
  Plain facts and facts on memory that the walks lean on.
-/
import Derived.Test.YtccjepndhlobpaaGreatDoorC6
import Derived.Deep.Cut
/-
  Walks: rules are valid.
-/
namespace Go.Proofs.YtccjepndhlobpaaGreatDoor
open Go.RowKit
set_option linter.unusedVariables false
set_option linter.unusedSimpArgs false
def copyOk (r:Rul) (x:Int):Bool:=inR x 0 ((r.redex.sites.length:Int) - 1)
/-- A rule is valid. -/
def ruleB (sig:List Ctl) (r:Rul):Bool:=(bigB sig r.redex && bigB sig r.reactum) && (solidB r.redex && (decide (r.reactum.inner.length=0) && (decide (r.redex.roots=r.reactum.roots) && (eqS r.redex.outer r.reactum.outer && (decide (r.copies.length=r.reactum.sites.length) && r.copies.all (copyOk r))))))
def rulesB (sig:List Ctl) (l:List Rul):Bool:=inR (l.length:Int) 1 6 && l.all (ruleB sig)
theorem copy_any (r:Rul):r.copies.any (fun x=>!(inR x 0 ((r.redex.sites.length:Int) - 1))) = !(r.copies.all (copyOk r)):=any_not (copyOk r) r.copies
theorem rule_any (sig:List Ctl) (l:List Rul):l.any (fun r=>!(ruleB sig r)) = !(l.all (ruleB sig)):=any_not (ruleB sig) l
theorem rulesB_sig {sig:List Ctl} {l:List Rul} (h:rulesB sig l=true):sigB sig=true:=by
 unfold rulesB at h
 rw [Bool.and_eq_true] at h
 have h1:=inR_le h.1
 cases l with
 | nil=>simp at h1
 | cons r l=>
  rw [List.all_cons,Bool.and_eq_true] at h
  have h2:=h.2.1
  unfold ruleB at h2
  simp only [Bool.and_eq_true] at h2
  exact (headB_parts (bigB_parts h2.1.1).1).1
theorem ruleB_no {sig:List Ctl} {r:Rul} (h:(bigB sig r.redex && bigB sig r.reactum)=false∨solidB r.redex=false∨¬r.reactum.inner.length=0∨¬r.redex.roots=r.reactum.roots∨eqS r.redex.outer r.reactum.outer=false∨¬(r.copies.length:Int)=r.reactum.sites.length∨r.copies.all (copyOk r)=false):ruleB sig r=false:=by
 unfold ruleB
 rcases h with h|h|h|h|h|h|h
 ·rw [h];rfl
 ·rw [h];simp
 ·rw [decide_eq_false h];simp
 ·rw [decide_eq_false h];simp
 ·rw [h];simp
 ·rw [decide_eq_false (show ¬r.copies.length=r.reactum.sites.length by omega)];simp
 ·rw [h];simp
theorem ruleB_yes {sig:List Ctl} {r:Rul} (a:(bigB sig r.redex && bigB sig r.reactum)=true) (b:solidB r.redex=true) (c:r.reactum.inner.length=0) (d:r.redex.roots=r.reactum.roots) (e:eqS r.redex.outer r.reactum.outer=true) (f:(r.copies.length:Int)=r.reactum.sites.length) (g:r.copies.all (copyOk r)=true):ruleB sig r=true:=by
 unfold ruleB
 rw [a,b,decide_eq_true c,decide_eq_true d,e,decide_eq_true (show r.copies.length=r.reactum.sites.length by omega),g];rfl
theorem copyOk_eq (r:Rul) (x:Int):copyOk r x=inR x 0 ((r.redex.sites.length:Int) - 1):=rfl
attribute [local irreducible] inR nameB sigB bigB solidB eqS copyOk ruleB
theorem c_impl_IsRule_1 (x:Int) (B:Nat) (a:Option Addr) (n k:Nat) (w:World) (hn:n≤1000000) (hc:w.cell? ⟨B,2,none⟩=some (.slice a n k)) :
 Calls Tryz.prog 170 #[.int .i64 x,.pointer (some ⟨B,0,none⟩)] w fun e w'=>e=.returned (.bool (!(inR x 0 ((n:Int) - 1))))∧Ext w w':=by
 have hw:=IntWalk.i64_in ((n:Int) - 1) (by omega)
 go_enter Tryz.func170,Tryz.ntmps170
 go_wp2_with (go_at_call 55;refine (c_impl_within _ _ _ _).mono ?_;rintro e w' ⟨rfl,rfl⟩)
 go_ret
 exact ⟨rfl,xw⟩
set_option maxRecDepth 100000 in
set_option maxHeartbeats 3200000 in
theorem c_impl_IsRule (lo hi lo' hi':Nat) (v:Value) (sig:List Ctl) (cs:List Value) (r:Rul) (w:World) (hV:CtlsV lo hi w v sig) (h:RulP lo' hi' w cs r) (hl1:r.redex.inner.length≤1048576) (hl2:r.reactum.inner.length≤1048576) :
 Calls Tryz.prog 117 #[v,.agg cs.toArray] w fun e w'=>e=.returned (.bool (ruleB sig r))∧Ext w w':=by
 obtain ⟨c1,c2,vc,rfl,hB1,hB2,hC⟩:=h
 obtain ⟨v1,v2,v4,v5,rfl,r1,r2,hN1,hS1,hO1,hI1⟩:=id hB1
 obtain ⟨y1,y2,y4,y5,rfl,r3,r4,hN2,hS2,hO2,hI2⟩:=id hB2
 obtain ⟨a2,k2,rfl,n1,n2,n3,n4⟩:=id hS1
 obtain ⟨b2,l2,rfl,m1,m2,m3,m4⟩:=id hS2
 obtain ⟨b5,l5,rfl,o1,o2,o3,o4⟩:=id hI2
 obtain ⟨a6,k6,rfl,q1,q2,q3,q4⟩:=id hC
 unfold maxLen at n2 m2 o2 q2
 obtain ⟨W0,hW0,hbx,hx0,hz⟩:=box_facts w [.int .i64 r.redex.roots,v1,.slice a2 r.redex.sites.length k2,.int .i64 r.redex.edges,v4,v5,.int .i64 r.reactum.roots,y1,.slice b2 r.reactum.sites.length l2,.int .i64 r.reactum.edges,y4,.slice b5 r.reactum.inner.length l5,.slice a6 r.copies.length k6] 122
 have p0:=(hbx 0 _ rfl).1
 have p1:=(hbx 1 _ rfl).1
 have p2:=(hbx 2 _ rfl).1
 have p3:=(hbx 3 _ rfl).1
 have p4:=(hbx 4 _ rfl).1
 have p5:=(hbx 5 _ rfl).1
 have p6:=(hbx 6 _ rfl).1
 have p7:=(hbx 7 _ rfl).1
 have p8:=(hbx 8 _ rfl).1
 have p9:=(hbx 9 _ rfl).1
 have p10:=(hbx 10 _ rfl).1
 have p11:=(hbx 11 _ rfl).1
 have p12:=(hbx 12 _ rfl).1
 clear hz
 replace hB1:=BigP.keeps _ _ _ _ _ _ (Same.ext hx0) hB1
 replace hB2:=BigP.keeps _ _ _ _ _ _ (Same.ext hx0) hB2
 replace hO1:=hO1.ext StrP.keeps hx0
 replace hO2:=hO2.ext StrP.keeps hx0
 replace hC:=hC.ext IntP.keeps hx0
 replace hV:=hV.ext CtlP.keeps hx0
 have eg1:∀args w,(callFunc 170 args).run Tryz.prog w=.ok (.enter 170 args) w:=enters_of Tryz.func170 (by kernel_rfl) rfl
 have HCA:=Lib.hid (copy_any r)
 clear hbx
 change Calls Tryz.prog 117 #[v,.agg #[.int .i64 r.redex.roots,v1,.slice a2 r.redex.sites.length k2,.int .i64 r.redex.edges,v4,v5,.int .i64 r.reactum.roots,y1,.slice b2 r.reactum.sites.length l2,.int .i64 r.reactum.edges,y4,.slice b5 r.reactum.inner.length l5,.slice a6 r.copies.length k6]] w _
 go_enter Tryz.func117,Tryz.ntmps117
 cases ha:(bigB sig r.redex && bigB sig r.reactum)
 ·have Ha:=Lib.hid ha
  clear ha
  go_wp2_with (first|(go_at_call 167;(refine (c_impl_areTwo lo hi lo' hi' _ sig [.int .i64 r.redex.roots,v1,.slice a2 r.redex.sites.length k2,.int .i64 r.redex.edges,v4,v5] [.int .i64 r.reactum.roots,y1,.slice b2 r.reactum.sites.length l2,.int .i64 r.reactum.edges,y4,.slice b5 r.reactum.inner.length l5] r.redex r.reactum _ hV hB1 hB2 hl1 hl2).mono ?_);rintro e y ⟨rfl,hb⟩;rw [Ha.out];replace p0:=Ext.keep hb p0;replace p1:=Ext.keep hb p1;replace p2:=Ext.keep hb p2;replace p3:=Ext.keep hb p3;replace p4:=Ext.keep hb p4;replace p5:=Ext.keep hb p5;replace p6:=Ext.keep hb p6;replace p7:=Ext.keep hb p7;replace p8:=Ext.keep hb p8;replace p9:=Ext.keep hb p9;replace p10:=Ext.keep hb p10;replace p11:=Ext.keep hb p11;replace p12:=Ext.keep hb p12;replace hB1:=BigP.keeps _ _ _ _ _ _ (Same.ext hb) hB1;replace hO1:=hO1.ext StrP.keeps hb;replace hO2:=hO2.ext StrP.keeps hb;replace hC:=hC.ext IntP.keeps hb))
  go_ret
  exact ⟨ret_bool (ruleB_no (by first|(left;exact Ha.out)|(right;left;exact Hs.out)|(right;right;left;omega)|(right;right;right;left;exact Ho.out)|(right;right;right;right;left;exact He.out))).symm,xw⟩
 have Ha:=Lib.hid ha
 clear ha
 have hbb:=Bool.and_eq_true_iff.1 Ha.out;have D1:=Lib.hid (dims_of hbb.1);have hsl:r.redex.sites.length≤1000:=D1.out.sites;clear hbb
 cases hs:solidB r.redex
 ·have Hs:=Lib.hid hs
  clear hs
  go_wp2_with (first|(go_at_call 168;(refine (c_impl_isRedex lo' hi' [.int .i64 r.redex.roots,v1,.slice a2 r.redex.sites.length k2,.int .i64 r.redex.edges,v4,v5] r.redex _ hB1 D1.out).mono ?_);rintro e y ⟨rfl,hb⟩;rw [Hs.out];replace p0:=Ext.keep hb p0;replace p1:=Ext.keep hb p1;replace p2:=Ext.keep hb p2;replace p3:=Ext.keep hb p3;replace p4:=Ext.keep hb p4;replace p5:=Ext.keep hb p5;replace p6:=Ext.keep hb p6;replace p7:=Ext.keep hb p7;replace p8:=Ext.keep hb p8;replace p9:=Ext.keep hb p9;replace p10:=Ext.keep hb p10;replace p11:=Ext.keep hb p11;replace p12:=Ext.keep hb p12;replace hB1:=BigP.keeps _ _ _ _ _ _ (Same.ext hb) hB1;replace hO1:=hO1.ext StrP.keeps hb;replace hO2:=hO2.ext StrP.keeps hb;replace hC:=hC.ext IntP.keeps hb)|(go_at_call 167;(refine (c_impl_areTwo lo hi lo' hi' _ sig [.int .i64 r.redex.roots,v1,.slice a2 r.redex.sites.length k2,.int .i64 r.redex.edges,v4,v5] [.int .i64 r.reactum.roots,y1,.slice b2 r.reactum.sites.length l2,.int .i64 r.reactum.edges,y4,.slice b5 r.reactum.inner.length l5] r.redex r.reactum _ hV hB1 hB2 hl1 hl2).mono ?_);rintro e y ⟨rfl,hb⟩;rw [Ha.out];replace p0:=Ext.keep hb p0;replace p1:=Ext.keep hb p1;replace p2:=Ext.keep hb p2;replace p3:=Ext.keep hb p3;replace p4:=Ext.keep hb p4;replace p5:=Ext.keep hb p5;replace p6:=Ext.keep hb p6;replace p7:=Ext.keep hb p7;replace p8:=Ext.keep hb p8;replace p9:=Ext.keep hb p9;replace p10:=Ext.keep hb p10;replace p11:=Ext.keep hb p11;replace p12:=Ext.keep hb p12;replace hB1:=BigP.keeps _ _ _ _ _ _ (Same.ext hb) hB1;replace hO1:=hO1.ext StrP.keeps hb;replace hO2:=hO2.ext StrP.keeps hb;replace hC:=hC.ext IntP.keeps hb))
  go_ret
  exact ⟨ret_bool (ruleB_no (by first|(left;exact Ha.out)|(right;left;exact Hs.out)|(right;right;left;omega)|(right;right;right;left;exact Ho.out)|(right;right;right;right;left;exact He.out))).symm,xw⟩
 have Hs:=Lib.hid hs
 clear hs
 by_cases hn:0<r.reactum.inner.length
 ·have en:decide (0<r.reactum.inner.length)=true:=decide_eq_true hn
  go_wp2_with (first|(go_at_call 168;(refine (c_impl_isRedex lo' hi' [.int .i64 r.redex.roots,v1,.slice a2 r.redex.sites.length k2,.int .i64 r.redex.edges,v4,v5] r.redex _ hB1 D1.out).mono ?_);rintro e y ⟨rfl,hb⟩;rw [Hs.out];replace p0:=Ext.keep hb p0;replace p1:=Ext.keep hb p1;replace p2:=Ext.keep hb p2;replace p3:=Ext.keep hb p3;replace p4:=Ext.keep hb p4;replace p5:=Ext.keep hb p5;replace p6:=Ext.keep hb p6;replace p7:=Ext.keep hb p7;replace p8:=Ext.keep hb p8;replace p9:=Ext.keep hb p9;replace p10:=Ext.keep hb p10;replace p11:=Ext.keep hb p11;replace p12:=Ext.keep hb p12;replace hB1:=BigP.keeps _ _ _ _ _ _ (Same.ext hb) hB1;replace hO1:=hO1.ext StrP.keeps hb;replace hO2:=hO2.ext StrP.keeps hb;replace hC:=hC.ext IntP.keeps hb)|(go_at_call 167;(refine (c_impl_areTwo lo hi lo' hi' _ sig [.int .i64 r.redex.roots,v1,.slice a2 r.redex.sites.length k2,.int .i64 r.redex.edges,v4,v5] [.int .i64 r.reactum.roots,y1,.slice b2 r.reactum.sites.length l2,.int .i64 r.reactum.edges,y4,.slice b5 r.reactum.inner.length l5] r.redex r.reactum _ hV hB1 hB2 hl1 hl2).mono ?_);rintro e y ⟨rfl,hb⟩;rw [Ha.out];replace p0:=Ext.keep hb p0;replace p1:=Ext.keep hb p1;replace p2:=Ext.keep hb p2;replace p3:=Ext.keep hb p3;replace p4:=Ext.keep hb p4;replace p5:=Ext.keep hb p5;replace p6:=Ext.keep hb p6;replace p7:=Ext.keep hb p7;replace p8:=Ext.keep hb p8;replace p9:=Ext.keep hb p9;replace p10:=Ext.keep hb p10;replace p11:=Ext.keep hb p11;replace p12:=Ext.keep hb p12;replace hB1:=BigP.keeps _ _ _ _ _ _ (Same.ext hb) hB1;replace hO1:=hO1.ext StrP.keeps hb;replace hO2:=hO2.ext StrP.keeps hb;replace hC:=hC.ext IntP.keeps hb))
  go_ret
  exact ⟨ret_bool (ruleB_no (by first|(left;exact Ha.out)|(right;left;exact Hs.out)|(right;right;left;omega)|(right;right;right;left;exact Ho.out)|(right;right;right;right;left;exact He.out))).symm,xw⟩
 have en:decide (0<r.reactum.inner.length)=false:=decide_eq_false hn
 by_cases ho:(r.redex.roots)=(r.reactum.roots)
 rotate_left
 ·have eo:((r.redex.roots) != (r.reactum.roots))=true:=bne_iff_ne.2 ho
  have Ho:=Lib.hid ho
  clear ho
  go_wp2_with (first|(go_at_call 168;(refine (c_impl_isRedex lo' hi' [.int .i64 r.redex.roots,v1,.slice a2 r.redex.sites.length k2,.int .i64 r.redex.edges,v4,v5] r.redex _ hB1 D1.out).mono ?_);rintro e y ⟨rfl,hb⟩;rw [Hs.out];replace p0:=Ext.keep hb p0;replace p1:=Ext.keep hb p1;replace p2:=Ext.keep hb p2;replace p3:=Ext.keep hb p3;replace p4:=Ext.keep hb p4;replace p5:=Ext.keep hb p5;replace p6:=Ext.keep hb p6;replace p7:=Ext.keep hb p7;replace p8:=Ext.keep hb p8;replace p9:=Ext.keep hb p9;replace p10:=Ext.keep hb p10;replace p11:=Ext.keep hb p11;replace p12:=Ext.keep hb p12;replace hB1:=BigP.keeps _ _ _ _ _ _ (Same.ext hb) hB1;replace hO1:=hO1.ext StrP.keeps hb;replace hO2:=hO2.ext StrP.keeps hb;replace hC:=hC.ext IntP.keeps hb)|(go_at_call 167;(refine (c_impl_areTwo lo hi lo' hi' _ sig [.int .i64 r.redex.roots,v1,.slice a2 r.redex.sites.length k2,.int .i64 r.redex.edges,v4,v5] [.int .i64 r.reactum.roots,y1,.slice b2 r.reactum.sites.length l2,.int .i64 r.reactum.edges,y4,.slice b5 r.reactum.inner.length l5] r.redex r.reactum _ hV hB1 hB2 hl1 hl2).mono ?_);rintro e y ⟨rfl,hb⟩;rw [Ha.out];replace p0:=Ext.keep hb p0;replace p1:=Ext.keep hb p1;replace p2:=Ext.keep hb p2;replace p3:=Ext.keep hb p3;replace p4:=Ext.keep hb p4;replace p5:=Ext.keep hb p5;replace p6:=Ext.keep hb p6;replace p7:=Ext.keep hb p7;replace p8:=Ext.keep hb p8;replace p9:=Ext.keep hb p9;replace p10:=Ext.keep hb p10;replace p11:=Ext.keep hb p11;replace p12:=Ext.keep hb p12;replace hB1:=BigP.keeps _ _ _ _ _ _ (Same.ext hb) hB1;replace hO1:=hO1.ext StrP.keeps hb;replace hO2:=hO2.ext StrP.keeps hb;replace hC:=hC.ext IntP.keeps hb))
  go_ret
  exact ⟨ret_bool (ruleB_no (by first|(left;exact Ha.out)|(right;left;exact Hs.out)|(right;right;left;omega)|(right;right;right;left;exact Ho.out)|(right;right;right;right;left;exact He.out))).symm,xw⟩
 have eo:((r.redex.roots) != (r.reactum.roots))=false:=bne_eq_false_iff_eq.2 ho
 have Ho:=Lib.hid ho
 clear ho
 cases he:eqS r.redex.outer r.reactum.outer
 ·have He:=Lib.hid he
  clear he
  go_wp2_with (first|(go_at_call 169;(refine (c_slices_Equal_string_string lo' hi' lo' hi' _ _ _ _ _ hO1 hO2).mono ?_);rintro e y ⟨rfl,hb⟩;rw [He.out];replace p0:=Ext.keep hb p0;replace p1:=Ext.keep hb p1;replace p2:=Ext.keep hb p2;replace p3:=Ext.keep hb p3;replace p4:=Ext.keep hb p4;replace p5:=Ext.keep hb p5;replace p6:=Ext.keep hb p6;replace p7:=Ext.keep hb p7;replace p8:=Ext.keep hb p8;replace p9:=Ext.keep hb p9;replace p10:=Ext.keep hb p10;replace p11:=Ext.keep hb p11;replace p12:=Ext.keep hb p12;replace hB1:=BigP.keeps _ _ _ _ _ _ (Same.ext hb) hB1;replace hO1:=hO1.ext StrP.keeps hb;replace hO2:=hO2.ext StrP.keeps hb;replace hC:=hC.ext IntP.keeps hb)|(go_at_call 168;(refine (c_impl_isRedex lo' hi' [.int .i64 r.redex.roots,v1,.slice a2 r.redex.sites.length k2,.int .i64 r.redex.edges,v4,v5] r.redex _ hB1 D1.out).mono ?_);rintro e y ⟨rfl,hb⟩;rw [Hs.out];replace p0:=Ext.keep hb p0;replace p1:=Ext.keep hb p1;replace p2:=Ext.keep hb p2;replace p3:=Ext.keep hb p3;replace p4:=Ext.keep hb p4;replace p5:=Ext.keep hb p5;replace p6:=Ext.keep hb p6;replace p7:=Ext.keep hb p7;replace p8:=Ext.keep hb p8;replace p9:=Ext.keep hb p9;replace p10:=Ext.keep hb p10;replace p11:=Ext.keep hb p11;replace p12:=Ext.keep hb p12;replace hB1:=BigP.keeps _ _ _ _ _ _ (Same.ext hb) hB1;replace hO1:=hO1.ext StrP.keeps hb;replace hO2:=hO2.ext StrP.keeps hb;replace hC:=hC.ext IntP.keeps hb)|(go_at_call 167;(refine (c_impl_areTwo lo hi lo' hi' _ sig [.int .i64 r.redex.roots,v1,.slice a2 r.redex.sites.length k2,.int .i64 r.redex.edges,v4,v5] [.int .i64 r.reactum.roots,y1,.slice b2 r.reactum.sites.length l2,.int .i64 r.reactum.edges,y4,.slice b5 r.reactum.inner.length l5] r.redex r.reactum _ hV hB1 hB2 hl1 hl2).mono ?_);rintro e y ⟨rfl,hb⟩;rw [Ha.out];replace p0:=Ext.keep hb p0;replace p1:=Ext.keep hb p1;replace p2:=Ext.keep hb p2;replace p3:=Ext.keep hb p3;replace p4:=Ext.keep hb p4;replace p5:=Ext.keep hb p5;replace p6:=Ext.keep hb p6;replace p7:=Ext.keep hb p7;replace p8:=Ext.keep hb p8;replace p9:=Ext.keep hb p9;replace p10:=Ext.keep hb p10;replace p11:=Ext.keep hb p11;replace p12:=Ext.keep hb p12;replace hB1:=BigP.keeps _ _ _ _ _ _ (Same.ext hb) hB1;replace hO1:=hO1.ext StrP.keeps hb;replace hO2:=hO2.ext StrP.keeps hb;replace hC:=hC.ext IntP.keeps hb))
  go_ret
  exact ⟨ret_bool (ruleB_no (by first|(left;exact Ha.out)|(right;left;exact Hs.out)|(right;right;left;omega)|(right;right;right;left;exact Ho.out)|(right;right;right;right;left;exact He.out))).symm,xw⟩
 have He:=Lib.hid he
 clear he
 go_upto_region 3 with (first|(go_at_call 169;(refine (c_slices_Equal_string_string lo' hi' lo' hi' _ _ _ _ _ hO1 hO2).mono ?_);rintro e y ⟨rfl,hb⟩;rw [He.out];replace p0:=Ext.keep hb p0;replace p1:=Ext.keep hb p1;replace p2:=Ext.keep hb p2;replace p3:=Ext.keep hb p3;replace p4:=Ext.keep hb p4;replace p5:=Ext.keep hb p5;replace p6:=Ext.keep hb p6;replace p7:=Ext.keep hb p7;replace p8:=Ext.keep hb p8;replace p9:=Ext.keep hb p9;replace p10:=Ext.keep hb p10;replace p11:=Ext.keep hb p11;replace p12:=Ext.keep hb p12;replace hB1:=BigP.keeps _ _ _ _ _ _ (Same.ext hb) hB1;replace hO1:=hO1.ext StrP.keeps hb;replace hO2:=hO2.ext StrP.keeps hb;replace hC:=hC.ext IntP.keeps hb)|(go_at_call 168;(refine (c_impl_isRedex lo' hi' [.int .i64 r.redex.roots,v1,.slice a2 r.redex.sites.length k2,.int .i64 r.redex.edges,v4,v5] r.redex _ hB1 D1.out).mono ?_);rintro e y ⟨rfl,hb⟩;rw [Hs.out];replace p0:=Ext.keep hb p0;replace p1:=Ext.keep hb p1;replace p2:=Ext.keep hb p2;replace p3:=Ext.keep hb p3;replace p4:=Ext.keep hb p4;replace p5:=Ext.keep hb p5;replace p6:=Ext.keep hb p6;replace p7:=Ext.keep hb p7;replace p8:=Ext.keep hb p8;replace p9:=Ext.keep hb p9;replace p10:=Ext.keep hb p10;replace p11:=Ext.keep hb p11;replace p12:=Ext.keep hb p12;replace hB1:=BigP.keeps _ _ _ _ _ _ (Same.ext hb) hB1;replace hO1:=hO1.ext StrP.keeps hb;replace hO2:=hO2.ext StrP.keeps hb;replace hC:=hC.ext IntP.keeps hb)|(go_at_call 167;(refine (c_impl_areTwo lo hi lo' hi' _ sig [.int .i64 r.redex.roots,v1,.slice a2 r.redex.sites.length k2,.int .i64 r.redex.edges,v4,v5] [.int .i64 r.reactum.roots,y1,.slice b2 r.reactum.sites.length l2,.int .i64 r.reactum.edges,y4,.slice b5 r.reactum.inner.length l5] r.redex r.reactum _ hV hB1 hB2 hl1 hl2).mono ?_);rintro e y ⟨rfl,hb⟩;rw [Ha.out];replace p0:=Ext.keep hb p0;replace p1:=Ext.keep hb p1;replace p2:=Ext.keep hb p2;replace p3:=Ext.keep hb p3;replace p4:=Ext.keep hb p4;replace p5:=Ext.keep hb p5;replace p6:=Ext.keep hb p6;replace p7:=Ext.keep hb p7;replace p8:=Ext.keep hb p8;replace p9:=Ext.keep hb p9;replace p10:=Ext.keep hb p10;replace p11:=Ext.keep hb p11;replace p12:=Ext.keep hb p12;replace hB1:=BigP.keeps _ _ _ _ _ _ (Same.ext hb) hB1;replace hO1:=hO1.ext StrP.keeps hb;replace hO2:=hO2.ext StrP.keeps hb;replace hC:=hC.ext IntP.keeps hb))
 have Hk:=Lib.hid trivial
 by_cases hc:((r.copies.length:Int))=((r.reactum.sites.length:Int))
 have ec:(((r.copies.length:Int)) == ((r.reactum.sites.length:Int)))=true:=beq_iff_eq.2 hc
 have Hc:=Lib.hid hc;clear hc
 cases hk:r.copies.any (fun x=>!(inR x 0 ((r.redex.sites.length:Int) - 1)))
 have Hk:=Lib.hid hk;clear hk
 have isF:=trivial
 rotate_left
 have Hk:=Lib.hid hk;clear hk
 have isP:=trivial
 rotate_left
 have ec:(((r.copies.length:Int)) == ((r.reactum.sites.length:Int)))=false:=beq_eq_false_iff_ne.2 hc
 have Hc:=Lib.hid hc;clear hc
 have isP:=trivial
 all_goals go_wp2_with (first|(go_at_call 111;(refine (c_slices_ContainsFunc_int_int lo' hi' (fun x=>!(inR x 0 ((r.redex.sites.length:Int) - 1))) 170 #[.pointer (some ⟨w.heap.size,0,none⟩)] _ _ _ hC eg1 (fun i hi cs W hW hP=>c_impl_IsRule_1 _ _ _ _ _ W (by omega) (hW.keep p2))).mono ?_);rintro e y ⟨rfl,hb⟩;rw [Hk.out];replace p0:=Ext.keep hb p0;replace p1:=Ext.keep hb p1;replace p2:=Ext.keep hb p2;replace p3:=Ext.keep hb p3;replace p4:=Ext.keep hb p4;replace p5:=Ext.keep hb p5;replace p6:=Ext.keep hb p6;replace p7:=Ext.keep hb p7;replace p8:=Ext.keep hb p8;replace p9:=Ext.keep hb p9;replace p10:=Ext.keep hb p10;replace p11:=Ext.keep hb p11;replace p12:=Ext.keep hb p12;replace hC:=hC.ext IntP.keeps hb))
 all_goals first|(have:=isF;go_ret;exact ⟨ret_bool (ruleB_yes Ha.out Hs.out (by omega) Ho.out He.out Hc.out (by rw [inv_not HCA.out,Hk.out];rfl)).symm,xw⟩)|(have:=isP;go_ret;exact ⟨ret_bool (ruleB_no (by first|(right;right;right;right;right;left;exact Hc.out)|(right;right;right;right;right;right;rw [inv_not HCA.out,Hk.out];rfl))).symm,xw⟩)
set_option maxRecDepth 100000 in
set_option maxHeartbeats 3200000 in
theorem c_spec_l9Copies (lo' hi':Nat) (cs:List Value) (r:Rul) (w:World) (h:RulP lo' hi' w cs r) (hsl:r.redex.sites.length≤1000) :
 Calls Tryz.prog 203 #[.agg cs.toArray] w fun e w'=>e=.returned (.bool (decide (r.copies.length=r.reactum.sites.length) && r.copies.all (copyOk r)))∧Ext w w':=by
 obtain ⟨c1,c2,vc,rfl,hB1,hB2,hC⟩:=h
 obtain ⟨v1,v2,v4,v5,rfl,r1,r2,hN1,hS1,hO1,hI1⟩:=id hB1
 obtain ⟨y1,y2,y4,y5,rfl,r3,r4,hN2,hS2,hO2,hI2⟩:=id hB2
 obtain ⟨a2,k2,rfl,n1,n2,n3,n4⟩:=id hS1
 obtain ⟨b2,l2,rfl,m1,m2,m3,m4⟩:=id hS2
 obtain ⟨b5,l5,rfl,o1,o2,o3,o4⟩:=id hI2
 obtain ⟨a6,k6,rfl,q1,q2,q3,q4⟩:=id hC
 unfold maxLen at n2 m2 o2 q2
 obtain ⟨W0,hW0,hbx,hx0,hz⟩:=box_facts w [.int .i64 r.redex.roots,v1,.slice a2 r.redex.sites.length k2,.int .i64 r.redex.edges,v4,v5,.int .i64 r.reactum.roots,y1,.slice b2 r.reactum.sites.length l2,.int .i64 r.reactum.edges,y4,.slice b5 r.reactum.inner.length l5,.slice a6 r.copies.length k6] 122
 have p0:=(hbx 0 _ rfl).1
 have p1:=(hbx 1 _ rfl).1
 have p2:=(hbx 2 _ rfl).1
 have p3:=(hbx 3 _ rfl).1
 have p4:=(hbx 4 _ rfl).1
 have p5:=(hbx 5 _ rfl).1
 have p6:=(hbx 6 _ rfl).1
 have p7:=(hbx 7 _ rfl).1
 have p8:=(hbx 8 _ rfl).1
 have p9:=(hbx 9 _ rfl).1
 have p10:=(hbx 10 _ rfl).1
 have p11:=(hbx 11 _ rfl).1
 have p12:=(hbx 12 _ rfl).1
 clear hz
 replace hB1:=BigP.keeps _ _ _ _ _ _ (Same.ext hx0) hB1
 replace hB2:=BigP.keeps _ _ _ _ _ _ (Same.ext hx0) hB2
 replace hO1:=hO1.ext StrP.keeps hx0
 replace hO2:=hO2.ext StrP.keeps hx0
 replace hC:=hC.ext IntP.keeps hx0
 clear hbx
 change Calls Tryz.prog 203 #[.agg #[.int .i64 r.redex.roots,v1,.slice a2 r.redex.sites.length k2,.int .i64 r.redex.edges,v4,v5,.int .i64 r.reactum.roots,y1,.slice b2 r.reactum.sites.length l2,.int .i64 r.reactum.edges,y4,.slice b5 r.reactum.inner.length l5,.slice a6 r.copies.length k6]] w _
 have hsw:=IntWalk.i64_in ((r.redex.sites.length:Int) - 1) (by omega)
 go_enter Tryz.func203,Tryz.ntmps203
 go_wp2
 go_loopw [3] (fun c wr=>∃i:Nat,c=.int .i64 i∧i≤r.copies.length∧(r.copies.take i).all (copyOk r)=true∧Ext W0 wr) (fun c _=>r.copies.length - (intOf c).toNat)
 case atStart=>exact ⟨0,rfl,Nat.zero_le _,rfl,xw⟩
 case round=>
  obtain ⟨i,rfl,hi0,hok,hx⟩:=hrel
  have HOK:=Lib.hid hok
  clear hok
  have hX:Ext w wr:=hx0.trans hx
  replace p2:=hx.keep p2
  replace p8:=hx.keep p8
  replace p12:=hx.keep p12
  by_cases hlt:i<r.copies.length
  ·rcases q4 with q4|⟨b1,o1',rfl,gb1,gb2,q4⟩
   ·rw [q4] at hlt;simp at hlt
   obtain ⟨es,el,⟨rfl,f1⟩,hes⟩:=q4 i hlt
   have t0:=hX.keep (hes 0 _ rfl)
   rw [Nat.mul_one,Nat.add_zero] at t0
   clear hes q4
   have HT:=Lib.hid (all_take_succ (copyOk r) r.copies i hlt)
   have HBD:=Lib.hid (all_bad (copyOk r) r.copies i hlt)
   have HQ:=Lib.hid (copyOk_eq r r.copies[i])
   have jj0:(0:Int)≤(i:Int):=by omega
   have jj1:(i:Int)<(r.copies.length:Int):=by omega
   cases hk:inR r.copies[i] 0 ((r.redex.sites.length:Int) - 1)
   have Hk:=Lib.hid hk;clear hk
   have isF:=trivial
   rotate_left
   have Hk:=Lib.hid hk;clear hk
   have isP:=trivial
   all_goals go_wp2_with fail
   all_goals
    refine wp_region_held_drew (S:=(fun w'=>Ext wr w')) (by kernel_rfl) ?_ (fun hHeld=>?_)
    ·refine xw
    refine tkP 0 ?_ ?_ ?_;rotate_left;focus (intro w;go_simp;try with_reducible rfl)
    try simp only [Act.put,aput]
    refine tkY 1 ?_ ?_ ?_;rotate_left;focus (intro w hSw;(try dsimp only at hSw);have sx:=hSw;have s_p2:=Ext.keep sx p2;have s_p12:=Ext.keep sx p12;have s_t0:=Ext.keep sx t0;go_simp;try with_reducible rfl)
    try simp only [Act.put,aput]
    refine tkP 2 ?_ ?_ ?_;rotate_left;focus (intro w;go_simp;try with_reducible rfl)
    try simp only [Act.put,aput]
    refine tkP 3 ?_ ?_ ?_;rotate_left;focus (intro w;go_simp;try with_reducible rfl)
    try simp only [Act.put,aput]
    refine tkY 4 ?_ ?_ ?_;rotate_left;focus (intro w hSw;(try dsimp only at hSw);have sx:=hSw;have s_p2:=Ext.keep sx p2;have s_p12:=Ext.keep sx p12;have s_t0:=Ext.keep sx t0;go_simp;try with_reducible rfl)
    try simp only [Act.put,aput]
    refine tkP 5 ?_ ?_ ?_;rotate_left;focus (intro w;go_simp;try with_reducible rfl)
    try simp only [Act.put,aput]
    refine tkP 6 ?_ ?_ ?_;rotate_left;focus (intro w;go_simp;try with_reducible rfl)
    try simp only [Act.put,aput]
    refine tkY 7 ?_ ?_ ?_;rotate_left;focus (intro w hSw;(try dsimp only at hSw);have sx:=hSw;have s_p2:=Ext.keep sx p2;have s_p12:=Ext.keep sx p12;have s_t0:=Ext.keep sx t0;go_simp;try with_reducible rfl)
    try simp only [Act.put,aput]
    refine tkP 8 ?_ ?_ ?_;rotate_left;focus (intro w;go_simp;try with_reducible rfl)
    try simp only [Act.put,aput]
    refine tkP 9 ?_ ?_ ?_;rotate_left;focus (intro w;go_simp;try with_reducible rfl)
    try simp only [Act.put,aput]
    refine wpAnyH_ready (rs:=[10]) (by kernel_rfl) (by simp) ?_
    refine AllReadyH.cons rfl (fun K hK=>?_) AllReadyH.nil
    (try simp only [aput])
    go_simp
    (go_at_call 106;(refine (c_spec_l1In _ _ _ _).mono ?_);rintro e y ⟨rfl,rfl⟩;rw [Hk.out])
    show K _ _
    refine hK.out _ _ (by exact hHeld) (fun hHeld=>?_)
    clear hK K
    try simp only [Act.put,aput]
    refine tkP 11 ?_ ?_ ?_;rotate_left;focus (intro w;go_simp;try with_reducible rfl)
    try simp only [Act.put,aput]
    refine wpAnyH_done (by kernel_rfl) ?_ _
   all_goals go_wp2
   all_goals first|(have:=isF;all_goals go_ret;all_goals exact ⟨ret_bool (by rw [HBD.out (by rw [HQ.out];exact Hk.out),Bool.and_false]),xw⟩)|(have:=isP;all_goals go_roundw;(case rel=>exact ⟨i+1,rfl,by omega,by rw [HT.out,HOK.out,HQ.out,Hk.out];rfl,xw⟩);all_goals (simp only [intOf];omega))
  ·have HA:=Lib.hid (all_take_end (copyOk r) r.copies i (by omega) HOK.out)
   by_cases hc:(r.copies.length:Int)=(r.reactum.sites.length:Int)
   ·have ec:((r.copies.length:Int) == (r.reactum.sites.length:Int))=true:=beq_iff_eq.2 hc
    have HB:=Lib.hid (show (decide (r.copies.length=r.reactum.sites.length) && r.copies.all (copyOk r))=true by rw [decide_eq_true (by omega),HA.out];rfl)
    clear hc
    go_wp2
    go_ret
    exact ⟨ret_bool HB.out.symm,xw⟩
   ·have ec:((r.copies.length:Int) == (r.reactum.sites.length:Int))=false:=beq_eq_false_iff_ne.2 hc
    have HB:=Lib.hid (show (decide (r.copies.length=r.reactum.sites.length) && r.copies.all (copyOk r))=false by rw [decide_eq_false (by omega)];rfl)
    clear hc
    go_wp2
    go_ret
    exact ⟨ret_bool HB.out.symm,xw⟩
set_option maxRecDepth 100000 in
set_option maxHeartbeats 3200000 in
theorem c_spec_l9Good (lo hi lo' hi':Nat) (v:Value) (sig:List Ctl) (cs:List Value) (r:Rul) (w:World) (hV:CtlsV lo hi w v sig) (h:RulP lo' hi' w cs r) (hl1:r.redex.inner.length≤1048576) (hl2:r.reactum.inner.length≤1048576) :
 Calls Tryz.prog 153 #[v,.agg cs.toArray] w fun e w'=>e=.returned (.bool (ruleB sig r))∧Ext w w':=by
 have hR:=h
 obtain ⟨c1,c2,vc,rfl,hB1,hB2,hC⟩:=h
 obtain ⟨v1,v2,v4,v5,rfl,r1,r2,hN1,hS1,hO1,hI1⟩:=id hB1
 obtain ⟨y1,y2,y4,y5,rfl,r3,r4,hN2,hS2,hO2,hI2⟩:=id hB2
 obtain ⟨a2,k2,rfl,n1,n2,n3,n4⟩:=id hS1
 obtain ⟨b2,l2,rfl,m1,m2,m3,m4⟩:=id hS2
 obtain ⟨b5,l5,rfl,o1,o2,o3,o4⟩:=id hI2
 obtain ⟨a6,k6,rfl,q1,q2,q3,q4⟩:=id hC
 unfold maxLen at n2 m2 o2 q2
 obtain ⟨W0,hW0,hbx,hx0,hz⟩:=box_facts w [.int .i64 r.redex.roots,v1,.slice a2 r.redex.sites.length k2,.int .i64 r.redex.edges,v4,v5,.int .i64 r.reactum.roots,y1,.slice b2 r.reactum.sites.length l2,.int .i64 r.reactum.edges,y4,.slice b5 r.reactum.inner.length l5,.slice a6 r.copies.length k6] 122
 have p0:=(hbx 0 _ rfl).1
 have p1:=(hbx 1 _ rfl).1
 have p2:=(hbx 2 _ rfl).1
 have p3:=(hbx 3 _ rfl).1
 have p4:=(hbx 4 _ rfl).1
 have p5:=(hbx 5 _ rfl).1
 have p6:=(hbx 6 _ rfl).1
 have p7:=(hbx 7 _ rfl).1
 have p8:=(hbx 8 _ rfl).1
 have p9:=(hbx 9 _ rfl).1
 have p10:=(hbx 10 _ rfl).1
 have p11:=(hbx 11 _ rfl).1
 have p12:=(hbx 12 _ rfl).1
 clear hz
 replace hB1:=BigP.keeps _ _ _ _ _ _ (Same.ext hx0) hB1
 replace hB2:=BigP.keeps _ _ _ _ _ _ (Same.ext hx0) hB2
 replace hO1:=hO1.ext StrP.keeps hx0
 replace hO2:=hO2.ext StrP.keeps hx0
 replace hC:=hC.ext IntP.keeps hx0
 replace hV:=hV.ext CtlP.keeps hx0
 replace hR:=RulP.keeps _ _ _ _ _ _ (Same.ext hx0) hR
 clear hbx
 change Calls Tryz.prog 153 #[v,.agg #[.int .i64 r.redex.roots,v1,.slice a2 r.redex.sites.length k2,.int .i64 r.redex.edges,v4,v5,.int .i64 r.reactum.roots,y1,.slice b2 r.reactum.sites.length l2,.int .i64 r.reactum.edges,y4,.slice b5 r.reactum.inner.length l5,.slice a6 r.copies.length k6]] w _
 go_enter Tryz.func153,Tryz.ntmps153
 have Hb:=Lib.hid trivial
 have Hn:=Lib.hid trivial
 have Ho:=Lib.hid trivial
 have He:=Lib.hid trivial
 have Hk:=Lib.hid trivial
 cases ha:(bigB sig r.redex && solidB r.redex)
 have Ha:=Lib.hid ha;clear ha
 have isP:=trivial
 rotate_left
 have Ha:=Lib.hid ha;clear ha
 have hbb:=Bool.and_eq_true_iff.1 Ha.out;have hsl:r.redex.sites.length≤1000:=(dims_of hbb.1).sites;clear hbb
 cases hb:bigB sig r.reactum
 have Hb:=Lib.hid hb;clear hb
 have isP:=trivial
 rotate_left
 have Hb:=Lib.hid hb;clear hb
 by_cases hn:((r.reactum.inner.length:Int))=(0)
 have en:(((r.reactum.inner.length:Int)) == (0))=true:=beq_iff_eq.2 hn
 have Hn:=Lib.hid hn;clear hn
 by_cases ho:(r.redex.roots)=(r.reactum.roots)
 have eo:((r.redex.roots) == (r.reactum.roots))=true:=beq_iff_eq.2 ho
 have Ho:=Lib.hid ho;clear ho
 cases he:eqS r.redex.outer r.reactum.outer
 have He:=Lib.hid he;clear he
 have isP:=trivial
 rotate_left
 have He:=Lib.hid he;clear he
 cases hk:(decide (r.copies.length=r.reactum.sites.length) && r.copies.all (copyOk r))
 have Hk:=Lib.hid hk;clear hk
 have isP:=trivial
 rotate_left
 have Hk:=Lib.hid hk;clear hk
 have isF:=trivial
 rotate_left
 have eo:((r.redex.roots) == (r.reactum.roots))=false:=beq_eq_false_iff_ne.2 ho
 have Ho:=Lib.hid ho;clear ho
 have isP:=trivial
 rotate_left
 have en:(((r.reactum.inner.length:Int)) == (0))=false:=beq_eq_false_iff_ne.2 hn
 have Hn:=Lib.hid hn;clear hn
 have isP:=trivial
 all_goals go_wp2_with (first|(go_at_call 203;(refine (c_spec_l9Copies lo' hi' [.int .i64 r.redex.roots,v1,.slice a2 r.redex.sites.length k2,.int .i64 r.redex.edges,v4,v5,.int .i64 r.reactum.roots,y1,.slice b2 r.reactum.sites.length l2,.int .i64 r.reactum.edges,y4,.slice b5 r.reactum.inner.length l5,.slice a6 r.copies.length k6] r _ hR hsl).mono ?_);rintro e y ⟨rfl,hb⟩;rw [Hk.out];replace p0:=Ext.keep hb p0;replace p1:=Ext.keep hb p1;replace p2:=Ext.keep hb p2;replace p3:=Ext.keep hb p3;replace p4:=Ext.keep hb p4;replace p5:=Ext.keep hb p5;replace p6:=Ext.keep hb p6;replace p7:=Ext.keep hb p7;replace p8:=Ext.keep hb p8;replace p9:=Ext.keep hb p9;replace p10:=Ext.keep hb p10;replace p11:=Ext.keep hb p11;replace p12:=Ext.keep hb p12;replace hV:=hV.ext CtlP.keeps hb;replace hB2:=BigP.keeps _ _ _ _ _ _ (Same.ext hb) hB2;replace hO1:=hO1.ext StrP.keeps hb;replace hO2:=hO2.ext StrP.keeps hb;replace hR:=RulP.keeps _ _ _ _ _ _ (Same.ext hb) hR)|(go_at_call 202;(refine (c_spec_l3SameNames lo' hi' lo' hi' _ _ _ _ _ hO1 hO2).mono ?_);rintro e y ⟨rfl,hb⟩;rw [He.out];replace p0:=Ext.keep hb p0;replace p1:=Ext.keep hb p1;replace p2:=Ext.keep hb p2;replace p3:=Ext.keep hb p3;replace p4:=Ext.keep hb p4;replace p5:=Ext.keep hb p5;replace p6:=Ext.keep hb p6;replace p7:=Ext.keep hb p7;replace p8:=Ext.keep hb p8;replace p9:=Ext.keep hb p9;replace p10:=Ext.keep hb p10;replace p11:=Ext.keep hb p11;replace p12:=Ext.keep hb p12;replace hV:=hV.ext CtlP.keeps hb;replace hB2:=BigP.keeps _ _ _ _ _ _ (Same.ext hb) hB2;replace hO1:=hO1.ext StrP.keeps hb;replace hO2:=hO2.ext StrP.keeps hb;replace hR:=RulP.keeps _ _ _ _ _ _ (Same.ext hb) hR)|(go_at_call 156;(refine (c_spec_l2Good lo hi lo' hi' _ sig [.int .i64 r.reactum.roots,y1,.slice b2 r.reactum.sites.length l2,.int .i64 r.reactum.edges,y4,.slice b5 r.reactum.inner.length l5] r.reactum _ hV hB2 hl2).mono ?_);rintro e y ⟨rfl,hb⟩;rw [Hb.out];replace p0:=Ext.keep hb p0;replace p1:=Ext.keep hb p1;replace p2:=Ext.keep hb p2;replace p3:=Ext.keep hb p3;replace p4:=Ext.keep hb p4;replace p5:=Ext.keep hb p5;replace p6:=Ext.keep hb p6;replace p7:=Ext.keep hb p7;replace p8:=Ext.keep hb p8;replace p9:=Ext.keep hb p9;replace p10:=Ext.keep hb p10;replace p11:=Ext.keep hb p11;replace p12:=Ext.keep hb p12;replace hV:=hV.ext CtlP.keeps hb;replace hB2:=BigP.keeps _ _ _ _ _ _ (Same.ext hb) hB2;replace hO1:=hO1.ext StrP.keeps hb;replace hO2:=hO2.ext StrP.keeps hb;replace hR:=RulP.keeps _ _ _ _ _ _ (Same.ext hb) hR)|(go_at_call 201;(refine (c_spec_l8Redex lo hi lo' hi' _ sig [.int .i64 r.redex.roots,v1,.slice a2 r.redex.sites.length k2,.int .i64 r.redex.edges,v4,v5] r.redex _ hV hB1 hl1).mono ?_);rintro e y ⟨rfl,hb⟩;rw [Ha.out];replace p0:=Ext.keep hb p0;replace p1:=Ext.keep hb p1;replace p2:=Ext.keep hb p2;replace p3:=Ext.keep hb p3;replace p4:=Ext.keep hb p4;replace p5:=Ext.keep hb p5;replace p6:=Ext.keep hb p6;replace p7:=Ext.keep hb p7;replace p8:=Ext.keep hb p8;replace p9:=Ext.keep hb p9;replace p10:=Ext.keep hb p10;replace p11:=Ext.keep hb p11;replace p12:=Ext.keep hb p12;replace hV:=hV.ext CtlP.keeps hb;replace hB2:=BigP.keeps _ _ _ _ _ _ (Same.ext hb) hB2;replace hO1:=hO1.ext StrP.keeps hb;replace hO2:=hO2.ext StrP.keeps hb;replace hR:=RulP.keeps _ _ _ _ _ _ (Same.ext hb) hR))
 all_goals first|(have:=isF;go_ret;exact ⟨ret_bool (by have h1:=Bool.and_eq_true_iff.1 Ha.out;have h2:=Bool.and_eq_true_iff.1 Hk.out;have h3:=of_decide_eq_true h2.1;have h4:=Hn.out;exact (ruleB_yes (by rw [h1.1,Hb.out];rfl) h1.2 (by omega) Ho.out He.out (by omega) h2.2).symm),xw⟩)|(have:=isP;go_ret;exact ⟨ret_bool (ruleB_no (by first|(rcases Bool.and_eq_false_iff.1 Ha.out with h1|h1;(left;rw [h1];rfl);(right;left;exact h1))|(left;rw [Hb.out];simp;done)|(right;right;left;have:=Hn.out;omega)|(right;right;right;left;exact Ho.out)|(right;right;right;right;left;exact He.out)|(right;right;right;right;right;rcases Bool.and_eq_false_iff.1 Hk.out with h1|h1;(left;have:=of_decide_eq_false h1;omega);(right;exact h1)))).symm,xw⟩)
end Go.Proofs.YtccjepndhlobpaaGreatDoor

/-
  Walks: lists of rules; hosts.
-/
namespace Go.Proofs.YtccjepndhlobpaaGreatDoor
open Go.RowKit
set_option linter.unusedVariables false
set_option linter.unusedSimpArgs false
attribute [local irreducible] inR nameB sigB bigB solidB eqS copyOk ruleB
set_option maxRecDepth 100000 in
set_option maxHeartbeats 1600000 in
theorem c_impl_areRules_1 (lo hi lo' hi' B:Nat) (v:Value) (sig:List Ctl) (cs:List Value) (r:Rul) (w:World) (hV:CtlsV lo hi w v sig) (h:RulP lo' hi' w cs r) (hl1:r.redex.inner.length≤1048576) (hl2:r.reactum.inner.length≤1048576) (hbs:w.cell? ⟨B,0,none⟩=some v) :
 Calls Tryz.prog 116 #[.agg cs.toArray,.pointer (some ⟨B,0,none⟩)] w fun e w'=>e=.returned (.bool (!(ruleB sig r)))∧Ext w w':=by
 have hR:=h
 obtain ⟨a,k,rfl,_,_,_,_⟩:=id hV
 obtain ⟨c1,c2,vc,rfl,⟨v1,v2,v4,v5,rfl,_⟩,⟨y1,y2,y4,y5,rfl,_⟩,hC⟩:=h
 obtain ⟨W0,hW0,hbx,hx0,hz⟩:=box_facts w [.int .i64 r.redex.roots,v1,v2,.int .i64 r.redex.edges,v4,v5,.int .i64 r.reactum.roots,y1,y2,.int .i64 r.reactum.edges,y4,y5,vc] 122
 have p0:=(hbx 0 _ rfl).1
 have p1:=(hbx 1 _ rfl).1
 have p2:=(hbx 2 _ rfl).1
 have p3:=(hbx 3 _ rfl).1
 have p4:=(hbx 4 _ rfl).1
 have p5:=(hbx 5 _ rfl).1
 have p6:=(hbx 6 _ rfl).1
 have p7:=(hbx 7 _ rfl).1
 have p8:=(hbx 8 _ rfl).1
 have p9:=(hbx 9 _ rfl).1
 have p10:=(hbx 10 _ rfl).1
 have p11:=(hbx 11 _ rfl).1
 have p12:=(hbx 12 _ rfl).1
 have ps:=hx0.keep hbs
 clear hz hbx hbs
 replace hV:=hV.ext CtlP.keeps hx0
 replace hR:=RulP.keeps _ _ _ _ _ _ (Same.ext hx0) hR
 change Calls Tryz.prog 116 #[.agg #[.int .i64 r.redex.roots,v1,v2,.int .i64 r.redex.edges,v4,v5,.int .i64 r.reactum.roots,y1,y2,.int .i64 r.reactum.edges,y4,y5,vc],.pointer (some ⟨B,0,none⟩)] w _
 go_enter Tryz.func116,Tryz.ntmps116
 go_wp2_with (go_at_call 117;refine (c_impl_IsRule lo hi lo' hi' _ sig [.int .i64 r.redex.roots,v1,v2,.int .i64 r.redex.edges,v4,v5,.int .i64 r.reactum.roots,y1,y2,.int .i64 r.reactum.edges,y4,y5,vc] r _ hV hR hl1 hl2).mono ?_;rintro e y ⟨rfl,hb⟩)
 go_ret
 exact ⟨rfl,xw⟩
set_option maxHeartbeats 1600000 in
theorem c_impl_areRules (lo hi lo' hi':Nat) (v v':Value) (sig:List Ctl) (l:List Rul) (w:World) (hV:CtlsV lo hi w v sig) (h:RulsV lo' hi' w v' l) (hl:∀i (h:i<l.length),(l[i]).redex.inner.length≤1048576∧(l[i]).reactum.inner.length≤1048576) :
 Calls Tryz.prog 54 #[v,v'] w fun e w'=>e=.returned (.bool (rulesB sig l))∧Ext w w':=by
 obtain ⟨a,k,rfl,_,_,_,_⟩:=id hV
 obtain ⟨a',k',rfl,g1,g2,_,_⟩:=id h
 unfold maxLen at g2
 obtain ⟨W0,hW0,hbx,hx0,hz⟩:=box_facts w [.slice a sig.length k] 38
 have ps:=(hbx 0 _ rfl).1
 clear hz hbx
 replace hV:=hV.ext CtlP.keeps hx0
 replace h:=h.ext RulP.keeps hx0
 have eg:∀args w,(callFunc 116 args).run Tryz.prog w=.ok (.enter 116 args) w:=enters_of Tryz.func116 (by kernel_rfl) rfl
 have HRA:=Lib.hid (rule_any sig l)
 have HRB:Hid (rulesB sig l=(inR (l.length:Int) 1 6 && l.all (ruleB sig))):=Lib.hid rfl
 go_enter Tryz.func54,Tryz.ntmps54
 have Hk:=Lib.hid trivial
 cases ha:inR (l.length:Int) 1 6
 have Ha:=Lib.hid ha;clear ha
 have isP:=trivial
 rotate_left
 have Ha:=Lib.hid ha;clear ha
 cases hk:l.any (fun r=>!(ruleB sig r))
 have Hk:=Lib.hid hk;clear hk
 have isF:=trivial
 rotate_left
 have Hk:=Lib.hid hk;clear hk
 have isP:=trivial
 all_goals go_wp2_with (first|(go_at_call 115;(refine (c_slices_ContainsFunc_impl_Rule_impl_Rule lo' hi' (fun r=>!(ruleB sig r)) 116 #[.pointer (some ⟨w.heap.size,0,none⟩)] _ _ _ h eg (fun j hj cs W hW hP=>c_impl_areRules_1 lo hi lo' hi' w.heap.size _ sig cs _ W (hV.ext CtlP.keeps hW) hP (hl j hj).1 (hl j hj).2 (hW.keep ps))).mono ?_);rintro e y ⟨rfl,hb⟩;rw [Hk.out];replace ps:=Ext.keep hb ps)|(go_at_call 55;(refine (c_impl_within _ _ _ _).mono ?_);rintro e y ⟨rfl,rfl⟩;rw [Ha.out]))
 all_goals first|(have:=isF;go_ret;exact ⟨ret_bool (by rw [HRB.out,Ha.out,inv_not HRA.out,Hk.out];rfl),xw⟩)|(have:=isP;go_ret;exact ⟨ret_bool (by rw [HRB.out];first|(rw [Ha.out];rfl)|(rw [Ha.out,inv_not HRA.out,Hk.out];rfl)),xw⟩)
set_option maxRecDepth 100000 in
set_option maxHeartbeats 3200000 in
theorem c_spec_l9Rules (lo hi lo' hi':Nat) (v v':Value) (sig:List Ctl) (l:List Rul) (w:World) (hV:CtlsV lo hi w v sig) (h:RulsV lo' hi' w v' l) (hl:∀i (h:i<l.length),(l[i]).redex.inner.length≤1048576∧(l[i]).reactum.inner.length≤1048576) :
 Calls Tryz.prog 102 #[v,v'] w fun e w'=>e=.returned (.bool (rulesB sig l))∧Ext w w':=by
 obtain ⟨a',k',rfl,g1,g2,g3,g4⟩:=id h
 unfold maxLen at g2
 have HRB:Hid (rulesB sig l=(inR (l.length:Int) 1 6 && l.all (ruleB sig))):=Lib.hid rfl
 have HSG:=Lib.hid (fun hh:rulesB sig l=true=>rulesB_sig hh)
 go_enter Tryz.func102,Tryz.ntmps102
 go_wp2
 go_loopw [5] (fun c wr=>∃i:Nat,c=.int .i64 i∧i≤l.length∧(l.take i).all (ruleB sig)=true∧Ext w wr) (fun c _=>l.length - (intOf c).toNat)
 case atStart=>exact ⟨0,rfl,Nat.zero_le _,rfl,xw⟩
 case round=>
  obtain ⟨i,rfl,hi0,hok,hX⟩:=hrel
  have HOK:=Lib.hid hok
  clear hok
  have hVX:=hV.ext CtlP.keeps hX
  by_cases hlt:i<l.length
  ·have HT:=Lib.hid (all_take_succ (ruleB sig) l i hlt)
   have HBD:=Lib.hid (all_bad (ruleB sig) l i hlt)
   have hli:=hl i hlt
   rcases g4 with g4|⟨b,o,rfl,gb1,gb2,g4⟩
   ·subst g4;simp at hlt
   obtain ⟨cs,hcl,hP,hc⟩:=g4 i hlt
   have hPX:=RulP.keeps _ _ _ _ _ _ (Same.ext hX) hP
   generalize l[i]=r at hP hPX HT HBD hli
   obtain ⟨c1,c2,vc,rfl,⟨v1,v2,v4,v5,rfl,_⟩,⟨y1,y2,y4,y5,rfl,_⟩,hC⟩:=hP
   have q0:=hX.keep (hc 0 _ rfl)
   have q1:=hX.keep (hc 1 _ rfl)
   have q2:=hX.keep (hc 2 _ rfl)
   have q3:=hX.keep (hc 3 _ rfl)
   have q4:=hX.keep (hc 4 _ rfl)
   have q5:=hX.keep (hc 5 _ rfl)
   have q6:=hX.keep (hc 6 _ rfl)
   have q7:=hX.keep (hc 7 _ rfl)
   have q8:=hX.keep (hc 8 _ rfl)
   have q9:=hX.keep (hc 9 _ rfl)
   have q10:=hX.keep (hc 10 _ rfl)
   have q11:=hX.keep (hc 11 _ rfl)
   have q12:=hX.keep (hc 12 _ rfl)
   rw [Nat.add_zero] at q0
   clear g4 hc
   cases hr:ruleB sig r
   ·have HR:=Lib.hid hr
    clear hr
    go_wp2_with (go_at_call 153;refine (c_spec_l9Good lo hi lo' hi' _ sig [.int .i64 r.redex.roots,v1,v2,.int .i64 r.redex.edges,v4,v5,.int .i64 r.reactum.roots,y1,y2,.int .i64 r.reactum.edges,y4,y5,vc] r _ hVX hPX hli.1 hli.2).mono ?_;rintro e y ⟨rfl,hb⟩;rw [HR.out])
    go_ret
    exact ⟨ret_bool (by rw [HRB.out,HBD.out HR.out,Bool.and_false]),xw⟩
   ·have HR:=Lib.hid hr
    clear hr
    go_wp2_with (go_at_call 153;refine (c_spec_l9Good lo hi lo' hi' _ sig [.int .i64 r.redex.roots,v1,v2,.int .i64 r.redex.edges,v4,v5,.int .i64 r.reactum.roots,y1,y2,.int .i64 r.reactum.edges,y4,y5,vc] r _ hVX hPX hli.1 hli.2).mono ?_;rintro e y ⟨rfl,hb⟩;rw [HR.out])
    go_roundw
    case rel=>exact ⟨i+1,rfl,by omega,by rw [HT.out,HOK.out,HR.out];rfl,xw⟩
    ·simp only [intOf];omega
  ·have HA:=Lib.hid (all_take_end (ruleB sig) l i (by omega) HOK.out)
   have Hc:=Lib.hid trivial
   cases ha:sigB sig
   have Ha:=Lib.hid ha;clear ha
   have isP:=trivial
   rotate_left
   have Ha:=Lib.hid ha;clear ha
   cases hc:inR (l.length:Int) 1 6
   have Hc:=Lib.hid hc;clear hc
   have isP:=trivial
   rotate_left
   have Hc:=Lib.hid hc;clear hc
   have isF:=trivial
   all_goals go_wp2_with (first|(go_at_call 106;(refine (c_spec_l1In _ _ _ _).mono ?_);rintro e y ⟨rfl,rfl⟩;rw [Hc.out])|(go_at_call 148;(refine (c_spec_l2Sig lo hi _ _ _ hVX).mono ?_);rintro e y ⟨rfl,hb⟩;rw [Ha.out]))
   all_goals first|(have:=isF;go_ret;exact ⟨ret_bool (by rw [HRB.out,Hc.out,HA.out];rfl),xw⟩)|(have:=isP;go_ret;exact ⟨ret_bool (by first|(rw [HRB.out,Hc.out];rfl)|(cases hh:rulesB sig l;rfl;exfalso;have:=HSG.out hh;rw [Ha.out] at this;cases this)),xw⟩)
set_option maxHeartbeats 1600000 in
theorem c_spec_l2At (lo hi:Nat) (v:Value) (l:List ByteArray) (s:ByteArray) (w:World) (h:StrsV lo hi w v l) :
 Calls Tryz.prog 155 #[v,.string s] w fun e w'=>∃r:Int,e=.returned (.int .i64 r)∧decide (0≤r)=l.any (fun x=>strEq x s)∧Ext w w':=by
 obtain ⟨a,k,rfl,g1,g2,g3,g4⟩:=h
 unfold maxLen at g2
 go_enter Tryz.func155,Tryz.ntmps155
 go_wp2
 go_loopw [5] (fun c wr=>∃i:Nat,c=.int .i64 i∧i≤l.length∧(l.take i).any (fun x=>strEq x s)=false∧Ext w wr) (fun c _=>l.length - (intOf c).toNat)
 case atStart=>exact ⟨0,rfl,Nat.zero_le _,rfl,xw⟩
 case round=>
  obtain ⟨i,rfl,hi0,hok,hX⟩:=hrel
  have HOK:=Lib.hid hok
  clear hok
  by_cases hlt:i<l.length
  ·rcases g4 with g4|⟨b,o,rfl,gb1,gb2,g4⟩
   ·subst g4;simp at hlt
   obtain ⟨cs,hcl,⟨rfl,e1⟩,hc⟩:=g4 i hlt
   have q0:=hX.keep (hc 0 _ rfl)
   rw [Nat.mul_one,Nat.add_zero] at q0
   clear g4 hc
   have HT:=Lib.hid (any_take_succ (fun x=>strEq x s) l i hlt)
   have HY:=Lib.hid (any_of (fun x=>strEq x s) l i hlt)
   have HSE:Hid (strEq l[i] s=(l[i].toList == s.toList)):=Lib.hid rfl
   cases hst:(l[i].toList == s.toList)
   ·have HST:=Lib.hid hst
    go_wp2
    go_roundw
    case rel=>exact ⟨i+1,rfl,by omega,by rw [HT.out,HOK.out];show (false || strEq l[i] s)=false;rw [HSE.out,HST.out];rfl,xw⟩
    ·simp only [intOf];omega
   ·have HA:=Lib.hid (HY.out (by show strEq l[i] s=true;rw [HSE.out];exact hst))
    go_wp2
    go_ret
    exact ⟨_,rfl,by rw [HA.out];simp,xw⟩
  ·have e:i=l.length:=by omega
   go_wp2
   go_ret
   exact ⟨_,rfl,by have:=HOK.out;rw [List.take_of_length_le (by omega)] at this;rw [this];rfl,xw⟩
set_option maxHeartbeats 1600000 in
theorem c_slices_Index_string_string (lo hi:Nat) (v:Value) (l:List ByteArray) (s:ByteArray) (w:World) (h:StrsV lo hi w v l) :
 Calls Tryz.prog 119 #[v,.string s] w fun e w'=>∃r:Int,e=.returned (.int .i64 r)∧decide (0≤r)=l.any (fun x=>strEq s x)∧Ext w w':=by
 obtain ⟨a,k,rfl,g1,g2,g3,g4⟩:=h
 unfold maxLen at g2
 go_enter Tryz.func119,Tryz.ntmps119
 go_wp2
 go_loopw [8] (fun c wr=>∃i:Nat,c=.int .i64 i∧i≤l.length∧(l.take i).any (fun x=>strEq s x)=false∧Ext w wr) (fun c _=>l.length - (intOf c).toNat)
 case atStart=>exact ⟨0,rfl,Nat.zero_le _,rfl,xw⟩
 case round=>
  obtain ⟨i,rfl,hi0,hok,hX⟩:=hrel
  have HOK:=Lib.hid hok
  clear hok
  by_cases hlt:i<l.length
  ·rcases g4 with g4|⟨b,o,rfl,gb1,gb2,g4⟩
   ·subst g4;simp at hlt
   obtain ⟨cs,hcl,⟨rfl,e1⟩,hc⟩:=g4 i hlt
   have q0:=hX.keep (hc 0 _ rfl)
   rw [Nat.mul_one,Nat.add_zero] at q0
   clear g4 hc
   have HT:=Lib.hid (any_take_succ (fun x=>strEq s x) l i hlt)
   have HY:=Lib.hid (any_of (fun x=>strEq s x) l i hlt)
   have HSE:Hid (strEq s l[i]=(s.toList == l[i].toList)):=Lib.hid rfl
   cases hst:(s.toList == l[i].toList)
   ·have HST:=Lib.hid hst
    go_wp2
    go_roundw
    case rel=>exact ⟨i+1,rfl,by omega,by rw [HT.out,HOK.out];show (false || strEq s l[i])=false;rw [HSE.out,HST.out];rfl,xw⟩
    ·simp only [intOf];omega
   ·have HA:=Lib.hid (HY.out (by show strEq s l[i]=true;rw [HSE.out];exact hst))
    go_wp2
    go_ret
    exact ⟨_,rfl,by rw [HA.out];simp,xw⟩
  ·have e:i=l.length:=by omega
   go_wp2
   go_ret
   exact ⟨_,rfl,by have:=HOK.out;rw [List.take_of_length_le (by omega)] at this;rw [this];rfl,xw⟩
theorem c_slices_Contains_string_string (lo hi:Nat) (v:Value) (l:List ByteArray) (s:ByteArray) (w:World) (h:StrsV lo hi w v l) :
 Calls Tryz.prog 57 #[v,.string s] w fun e w'=>e=.returned (.bool (l.any (fun x=>strEq s x)))∧Ext w w':=by
 have H:=c_slices_Index_string_string lo hi v l s w h
 generalize l.any (fun x=>strEq s x)=r0 at H ⊢
 go_enter Tryz.func57,Tryz.ntmps57
 go_wp2_with (go_at_call 119;refine H.mono ?_;rintro e y ⟨r,rfl,hr,hb⟩)
 all_goals go_ret
 all_goals exact ⟨ret_bool (by simp),xw⟩
end Go.Proofs.YtccjepndhlobpaaGreatDoor

/-
  Walks: hosts.
-/
namespace Go.Proofs.YtccjepndhlobpaaGreatDoor
open Go.RowKit
set_option linter.unusedVariables false
set_option linter.unusedSimpArgs false
theorem strEq_comm (a b:ByteArray):strEq a b=strEq b a:=by
 unfold strEq;rw [Bool.eq_iff_iff];simp only [beq_iff_eq];exact ⟨fun h=>h.symm,fun h=>h.symm⟩
def hostOk (l:List ByteArray) (i:Nat):Bool:=match l[i]? with|none=>true|some s=>nameB s && !((l.take i).any (fun x=>strEq x s))
/-- Names of hosts are valid. -/
def hostsB (l:List ByteArray):Bool:=(List.range l.length).all (hostOk l) && decide (l.length≤4)
theorem hostOk_at (l:List ByteArray) (i:Nat) (h:i<l.length):hostOk l i=(nameB l[i] && !((l.take i).any (fun x=>strEq x l[i]))):=by
 unfold hostOk;rw [List.getElem?_eq_getElem h]
theorem hostsB_bad (l:List ByteArray) (i:Nat) (h:i<l.length) (hb:hostOk l i=false):hostsB l=false:=by
 unfold hostsB;rw [range_all_bad _ _ i h hb];rfl
attribute [local irreducible] inR nameB hostOk
set_option maxRecDepth 100000 in
set_option maxHeartbeats 1600000 in
theorem c_spec_l13Hosts (lo hi:Nat) (v:Value) (l:List ByteArray) (w:World) (h:StrsV lo hi w v l) :
 Calls Tryz.prog 103 #[v] w fun e w'=>e=.returned (.bool (hostsB l))∧Ext w w':=by
 have hV:=h
 obtain ⟨a,k,rfl,g1,g2,g3,g4⟩:=h
 unfold maxLen at g2
 go_enter Tryz.func103,Tryz.ntmps103
 go_wp2
 go_loopw [3] (fun c wr=>∃i:Nat,c=.int .i64 i∧i≤l.length∧(List.range i).all (hostOk l)=true∧Ext w wr) (fun c _=>l.length - (intOf c).toNat)
 case atStart=>exact ⟨0,rfl,Nat.zero_le _,rfl,xw⟩
 case round=>
  obtain ⟨i,rfl,hi',hok,hx⟩:=hrel
  have HOK:=Lib.hid hok
  clear hok
  have hT:=(hV.ext StrP.keeps hx).take i hi'
  by_cases hlt:i<l.length
  ·rcases g4 with g4|⟨b,o,rfl,gb1,gb2,g4⟩
   ·subst g4;simp at hlt
   obtain ⟨cs,hl,⟨rfl,e1⟩,hc⟩:=g4 i hlt
   have q0:=hx.keep (hc 0 _ rfl)
   rw [Nat.mul_one,Nat.add_zero] at q0
   clear hc g4
   have hbad:=hostsB_bad l i hlt
   have HA:=Lib.hid (hostOk_at l i hlt)
   have HS:=Lib.hid (range_all_succ (hostOk l) i)
   have j0:(0:Int)≤(i:Int):=by omega
   have j1:(i:Int)<(l.length:Int):=by omega
   have j2:(i:Int)≤(k:Int):=by omega
   have Hc:=Lib.hid trivial
   cases ha:nameB l[i]
   have Ha:=Lib.hid ha;clear ha
   have HB:=Lib.hid (hbad (by rw [HA.out];simp only [Ha.out];rfl))
   clear hbad
   have isF:=trivial
   rotate_left
   have Ha:=Lib.hid ha;clear ha
   cases hc:(l.take i).any (fun x=>strEq x l[i])
   have Hc:=Lib.hid hc
   have HG:=Lib.hid (show hostOk l i=true by rw [HA.out];simp only [Ha.out,Hc.out];rfl)
   clear hbad
   have isP:=trivial
   rotate_left
   have Hc:=Lib.hid hc
   have HB:=Lib.hid (hbad (by rw [HA.out];simp only [Ha.out,Hc.out];rfl))
   clear hbad
   have isF:=trivial
   all_goals go_wp2_with fail
   all_goals
    refine wp_region_held_drew (S:=(fun w'=>Ext wr w')) (by kernel_rfl) ?_ (fun hHeld=>?_)
    ·refine xw
    refine tkP 0 ?_ ?_ ?_;rotate_left;focus (intro w;go_simp;try with_reducible rfl)
    try simp only [Act.put,aput]
    refine tkP 1 ?_ ?_ ?_;rotate_left;focus (intro w;go_simp;try with_reducible rfl)
    try simp only [Act.put,aput]
    refine tkP 2 ?_ ?_ ?_;rotate_left;focus (intro w;go_simp;try with_reducible rfl)
    try simp only [Act.put,aput]
    refine tkY 3 ?_ ?_ ?_;rotate_left;focus (intro w hSw;(try dsimp only at hSw);have sx:=hSw;have s_q0:=Ext.keep sx q0;go_simp;try with_reducible rfl)
    try simp only [Act.put,aput]
    refine wpAnyH_ready (rs:=[4]) (by kernel_rfl) (by simp) ?_
    refine AllReadyH.cons rfl (fun K hK=>?_) AllReadyH.nil
    (try simp only [aput])
    go_simp
    (go_at_call 154;(refine (c_spec_l2Name _ _ e1).mono ?_);rintro e y ⟨rfl,hb⟩;rw [Ha.out])
    show K _ _
    refine hK.out _ _ (by (have hh:=hHeld;(try dsimp only at hh);exact hh.trans hb)) (fun hHeld=>?_)
    clear hK K
    try simp only [Act.put,aput]
    refine tkP 5 ?_ ?_ ?_;rotate_left;focus (intro w;go_simp;try with_reducible rfl)
    try simp only [Act.put,aput]
    refine tkP 6 ?_ ?_ ?_;rotate_left;focus (intro w;go_simp;try with_reducible rfl)
    try simp only [Act.put,aput]
    first|refine tkN 7 ?_|(refine tkP 7 ?_ ?_ ?_;rotate_left;focus (intro w;go_simp;try with_reducible rfl))
    try simp only [Act.put,aput]
    first|refine tkN 8 ?_|(refine tkP 8 ?_ ?_ ?_;rotate_left;focus (intro w;go_simp;try with_reducible rfl))
    try simp only [Act.put,aput]
    first|refine tkN 9 ?_|(refine tkP 9 ?_ ?_ ?_;rotate_left;focus (intro w;go_simp;try with_reducible rfl))
    try simp only [Act.put,aput]
    first|refine tkN 10 ?_|(refine tkP 10 ?_ ?_ ?_;rotate_left;focus (intro w;go_simp;try with_reducible rfl))
    try simp only [Act.put,aput]
    first|refine tkN 11 ?_|(refine tkP 11 ?_ ?_ ?_;rotate_left;focus (intro w;go_simp;try with_reducible rfl))
    try simp only [Act.put,aput]
    first|refine tkN 12 ?_|(refine tkP 12 ?_ ?_ ?_;rotate_left;focus (intro w;go_simp;try with_reducible rfl))
    try simp only [Act.put,aput]
    first|refine tkN 13 ?_|(refine tkY 13 ?_ ?_ ?_;rotate_left;focus (intro w hSw;(try dsimp only at hSw);have sx:=hSw;have s_q0:=Ext.keep sx q0;go_simp;try with_reducible rfl))
    try simp only [Act.put,aput]
    first|refine tkN 14 ?_|(refine wpAnyH_ready (rs:=[14]) (by kernel_rfl) (by simp) ?_;refine AllReadyH.cons rfl (fun K hK=>?_) AllReadyH.nil;(try simp only [aput]);go_simp;(have hSw:=hHeld;(try dsimp only at hSw);have sx:=hSw;have s_q0:=Ext.keep sx q0;have s_hT:=hT.ext StrP.keeps sx;(go_at_call 155;refine (c_spec_l2At lo hi _ _ _ _ s_hT).mono ?_;rintro e y ⟨r,rfl,hr,hb⟩;rw [Hc.out] at hr));show K _ _;refine hK.out _ _ (by (have hh:=hHeld;(try dsimp only at hh);exact hh.trans hb)) (fun hHeld=>?_);clear hK K)
    try simp only [Act.put,aput]
    first|refine tkN 15 ?_|(refine tkP 15 ?_ ?_ ?_;rotate_left;focus (intro w;go_simp;try with_reducible rfl))
    try simp only [Act.put,aput]
    refine tkP 16 ?_ ?_ ?_;rotate_left;focus (intro w;go_simp;try with_reducible rfl)
    try simp only [Act.put,aput]
    refine wpAnyH_done (by kernel_rfl) ?_ _
   all_goals go_wp2
   all_goals first|(have:=isF;all_goals go_ret;all_goals exact ⟨ret_bool HB.out.symm,xw⟩)|(have:=isP;all_goals go_roundw;(case rel=>exact ⟨i+1,rfl,by omega,by rw [HS.out,HOK.out,HG.out];rfl,xw⟩);all_goals (simp only [intOf];omega))
  ·have e:i=l.length:=by omega
   subst e
   have HL:=Lib.hid (show hostsB l=decide (l.length≤4) by unfold hostsB;rw [HOK.out];rfl)
   go_wp2
   go_ret
   exact ⟨ret_bool (by rw [HL.out,Bool.eq_iff_iff];simp only [decide_eq_true_eq];omega),xw⟩
end Go.Proofs.YtccjepndhlobpaaGreatDoor
