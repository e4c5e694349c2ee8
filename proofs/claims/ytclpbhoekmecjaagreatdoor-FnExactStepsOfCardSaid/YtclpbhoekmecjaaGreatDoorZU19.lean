/-
  Proved facts that the law leans on.
-/
import Derived.Test.YtclpbhoekmecjaaGreatDoorZU2
import Derived.Test.YtclpbhoekmecjaaGreatDoorZU13
import Derived.Test.YtclpbhoekmecjaaGreatDoorZU15
import Derived.Test.YtclpbhoekmecjaaGreatDoorZU17
namespace Go.Proofs.YtclpbhoekmecjaaGreatDoor
open Go.RowKit
set_option linter.unusedVariables false
set_option maxRecDepth 100000
set_option maxHeartbeats 16000000
attribute [local irreducible] aq Der At jI mkL cnL lC szR wtL bH
theorem qK (sig:List Ctl) (rs:List Rul) (a:Big) (W0:ma) (hS:wtL eB sig+wtL cQ rs+bG a≤1048576):aq Tryz.prog W0.toB Tryz.f5.ntmps (vr 24 (Tryz.f5.body.getD .skip)) [(0,.sy (.d (.l 3 (sig.map Ctl.D)))),(1,.sy (.d (.l 13 (rs.map Rul.D)))),(5,.sy (.bx 10005 0)),(10005,.tk (.bx [.d (.i a.roots),.d (.l 3 (a.nodes.map Nd.D)),.d (.l 1 (a.sites.map D.i)),.d (.i a.edges),.d (.l 1 (a.outer.map D.s)),.d (.l 2 (a.inner.map Wr.D))])),(6,.sy (.d (.b false))),(8,.sy (.d (.l 9 ((bH sig rs a).1.map Stp.D)))),(9,.sy (.d (.b (bH sig rs a).2))),(13,.sy (.k 30055)),(30055,.tk (.own (.l 9 ((mkL lW eK (1) (bH sig rs a).1).map Stp.D)) none none)),(14,.sy (.d (.b (bH sig rs a).2))),(16,.sy (.d (.i (1+(cnL eK (bH sig rs a).1:Nat)))))] (bodyPost Tryz.prog Tryz.f5 (post W0 (.d (.b true)))):=by
 have hb:=fl sig rs a hS
 have o0:=dK sig (by omega)
 have o1:=gz rs (by omega)
 have o2:=dm a (by omega)
 have hin:∀b:Big,bG b≤1048576→b.inner.length≤1048576:=fun b h=>by
  have e:bG b=wtL i6 b.nodes+b.sites.length+wtL fS b.outer+wtL jm b.inner:=rfl
  have:=eR jm b.inner
  omega
 have hrs:∀r∈rs,r.redex.inner.length≤1048576∧r.reactum.inner.length≤1048576:=fun r hr=>by
  have h1:=iV cQ rs r hr
  have e:cQ r=bG r.redex+bG r.reactum+r.copies.length:=rfl
  exact ⟨hin _ (by omega),hin _ (by omega)⟩
 have fi:=mA sig rs a hrs (hin a (by omega))
 have hB:=Af sig rs a
 refine kS ?_
 have h10:=oM (bH sig rs a).1 (1) (by omega) (by omega)
 refine ee ?_
 refine kS ?_
 clear h10
 refine pj (rK _ _ _ _) ?_
 refine kS ?_
 clear o0 o1 o2
 have eB0:=oc (bH sig rs a).1
 refine ee ?_
 refine kS ?_
 have h10:=oM (bH sig rs a).1 (1) (by omega) (by omega)
 refine ee ?_
 refine kS ?_
 exact ar
theorem rC (sig:List Ctl) (rs:List Rul) (a:Big) (W0:ma) (hS:wtL eB sig+wtL cQ rs+bG a≤1048576):aq Tryz.prog W0.toB Tryz.f5.ntmps (vr 21 (Tryz.f5.body.getD .skip)) [(0,.sy (.d (.l 3 (sig.map Ctl.D)))),(1,.sy (.d (.l 13 (rs.map Rul.D)))),(5,.sy (.bx 10005 0)),(10005,.tk (.bx [.d (.i a.roots),.d (.l 3 (a.nodes.map Nd.D)),.d (.l 1 (a.sites.map D.i)),.d (.i a.edges),.d (.l 1 (a.outer.map D.s)),.d (.l 2 (a.inner.map Wr.D))])),(6,.sy (.d (.b false))),(8,.sy (.d (.l 9 ((bH sig rs a).1.map Stp.D)))),(9,.sy (.d (.b (bH sig rs a).2))),(13,.sy (.k 30055)),(30055,.tk (.own (.l 9 ((bH sig rs a).1.map Stp.D)) none none)),(14,.sy (.d (.b (bH sig rs a).2))),(15,.sy (.d (.i (1+(cnL c3 sig:Nat)+(cnL eQ rs:Nat)+(jo a:Nat)))))] (bodyPost Tryz.prog Tryz.f5 (post W0 (.d (.b true)))):=by
 have hb:=fl sig rs a hS
 have o0:=dK sig (by omega)
 have o1:=gz rs (by omega)
 have o2:=dm a (by omega)
 have hin:∀b:Big,bG b≤1048576→b.inner.length≤1048576:=fun b h=>by
  have e:bG b=wtL i6 b.nodes+b.sites.length+wtL fS b.outer+wtL jm b.inner:=rfl
  have:=eR jm b.inner
  omega
 have hrs:∀r∈rs,r.redex.inner.length≤1048576∧r.reactum.inner.length≤1048576:=fun r hr=>by
  have h1:=iV cQ rs r hr
  have e:cQ r=bG r.redex+bG r.reactum+r.copies.length:=rfl
  exact ⟨hin _ (by omega),hin _ (by omega)⟩
 have fi:=mA sig rs a hrs (hin a (by omega))
 have hB:=Af sig rs a
 refine kS ?_
 have eB0:=oc (bH sig rs a).1
 refine ee ?_
 refine kS ?_
 clear eB0
 have m10:=uT (bH sig rs a).1 (1) (by omega) (by omega)
 refine iu ?_
 refine wI ?_
 refine dP (aM ?_)
 refine EE [(0,.sy (.d (.l 3 (sig.map Ctl.D)))),(1,.sy (.d (.l 13 (rs.map Rul.D)))),(5,.sy (.bx 10005 0)),(10005,.tk (.bx [.d (.i a.roots),.d (.l 3 (a.nodes.map Nd.D)),.d (.l 1 (a.sites.map D.i)),.d (.i a.edges),.d (.l 1 (a.outer.map D.s)),.d (.l 2 (a.inner.map Wr.D))])),(6,.sy (.d (.b false))),(8,.sy (.d (.l 9 ((bH sig rs a).1.map Stp.D)))),(9,.sy (.d (.b (bH sig rs a).2))),(13,.sy (.k 30055)),(30055,.tk (.own (.l 9 ((mkL lW eK (1) (bH sig rs a).1).map Stp.D)) none none)),(14,.sy (.d (.b (bH sig rs a).2))),(16,.sy (.d (.i (1+(cnL eK (bH sig rs a).1:Nat)))))] ?_
 exact qK sig rs a W0 hS
theorem rJ (sig:List Ctl) (rs:List Rul) (a:Big) (W0:ma) (hS:wtL eB sig+wtL cQ rs+bG a≤1048576):aq Tryz.prog W0.toB Tryz.f5.ntmps (vr 14 (Tryz.f5.body.getD .skip)) [(0,.sy (.d (.l 3 (sig.map Ctl.D)))),(1,.sy (.d (.l 13 (rs.map Rul.D)))),(5,.sy (.bx 10005 0)),(10005,.tk (.bx [.d (.i a.roots),.d (.l 3 (a.nodes.map Nd.D)),.d (.l 1 (a.sites.map D.i)),.d (.i a.edges),.d (.l 1 (a.outer.map D.s)),.d (.l 2 (a.inner.map Wr.D))])),(6,.sy (.d (.b false))),(8,.sy (.d (.l 9 ((bH sig rs a).1.map Stp.D)))),(9,.sy (.d (.b (bH sig rs a).2))),(10,.sy (.k 30046)),(30046,.tk (.own (.l 3 (sig.map Ctl.D)) none none)),(11,.sy (.k 30048)),(30048,.tk (.own (.l 13 (rs.map Rul.D)) none none)),(12,.sy (.bx 10012 0)),(10012,.tk (.bx [.d (.i a.roots),.k 31050,.k 32050,.d (.i a.edges),.k 34050,.k 35050])),(31050,.tk (.own (.l 3 (a.nodes.map Nd.D)) none none)),(32050,.tk (.own (.l 1 (a.sites.map D.i)) none none)),(34050,.tk (.own (.l 1 (a.outer.map D.s)) none none)),(35050,.tk (.own (.l 2 (a.inner.map Wr.D)) none none)),(13,.sy (.k 30055)),(30055,.tk (.own (.l 9 ((bH sig rs a).1.map Stp.D)) none none)),(14,.sy (.d (.b (bH sig rs a).2))),(66,.sy (.d (.b false)))] (bodyPost Tryz.prog Tryz.f5 (post W0 (.d (.b true)))):=by
 have hb:=fl sig rs a hS
 have o0:=dK sig (by omega)
 have o1:=gz rs (by omega)
 have o2:=dm a (by omega)
 have hin:∀b:Big,bG b≤1048576→b.inner.length≤1048576:=fun b h=>by
  have e:bG b=wtL i6 b.nodes+b.sites.length+wtL fS b.outer+wtL jm b.inner:=rfl
  have:=eR jm b.inner
  omega
 have hrs:∀r∈rs,r.redex.inner.length≤1048576∧r.reactum.inner.length≤1048576:=fun r hr=>by
  have h1:=iV cQ rs r hr
  have e:cQ r=bG r.redex+bG r.reactum+r.copies.length:=rfl
  exact ⟨hin _ (by omega),hin _ (by omega)⟩
 have fi:=mA sig rs a hrs (hin a (by omega))
 have hB:=Af sig rs a
 refine kS ?_
 have e0:=nF sig
 refine ee ?_
 refine kS ?_
 have e1:=sF rs
 refine ee ?_
 refine kS ?_
 have e2:=eD a
 refine ee ?_
 refine kS ?_
 have m0:=lu sig (1) (by omega) (by omega)
 refine iu ?_
 refine kS ?_
 have m1:=pt rs (1+(cnL c3 sig:Nat)) (by omega) (by omega)
 refine iu ?_
 refine kS ?_
 have m2:=ju a (1+(cnL c3 sig:Nat)+(cnL eQ rs:Nat)) (by omega) (by omega)
 refine lB ?_
 refine wI ?_
 refine dP (aM ?_)
 refine EE [(0,.sy (.d (.l 3 (sig.map Ctl.D)))),(1,.sy (.d (.l 13 (rs.map Rul.D)))),(5,.sy (.bx 10005 0)),(10005,.tk (.bx [.d (.i a.roots),.d (.l 3 (a.nodes.map Nd.D)),.d (.l 1 (a.sites.map D.i)),.d (.i a.edges),.d (.l 1 (a.outer.map D.s)),.d (.l 2 (a.inner.map Wr.D))])),(6,.sy (.d (.b false))),(8,.sy (.d (.l 9 ((bH sig rs a).1.map Stp.D)))),(9,.sy (.d (.b (bH sig rs a).2))),(13,.sy (.k 30055)),(30055,.tk (.own (.l 9 ((bH sig rs a).1.map Stp.D)) none none)),(14,.sy (.d (.b (bH sig rs a).2))),(15,.sy (.d (.i (1+(cnL c3 sig:Nat)+(cnL eQ rs:Nat)+(jo a:Nat)))))] ?_
 exact rC sig rs a W0 hS
theorem sw (sig:List Ctl) (rs:List Rul) (a:Big):FnD Tryz.prog 5 [.l 3 (sig.map Ctl.D),.l 13 (rs.map Rul.D),a.D] (.d (.b true)):=by
 refine ah Tryz.func5 (fun hw W0=>?_)
 have f0:=nI sig 1048576 (by omega) (by omega)
 by_cases s0:((wtL eB sig:Nat):Int)≤1048576
 rotate_left
 ·rw [szN s0] at f0
  refine kgo ?_
  exact ar
 rw [szP s0] at f0
 have f1:=tC rs (1048576 - (wtL eB sig:Nat)) (by omega) (by omega)
 refine kgo ?_
 refine aO (fun h=>?_) (fun _=>?_)
 ·omega
 by_cases s1:((wtL cQ rs:Nat):Int)≤1048576 - (wtL eB sig:Nat)
 rotate_left
 ·rw [szN s1] at f1
  refine kgo ?_
  exact ar
 rw [szP s1] at f1
 have f2:=jp a (1048576 - (wtL eB sig:Nat) - (wtL cQ rs:Nat)) (by omega) (by omega)
 refine kgo ?_
 refine aO (fun h=>?_) (fun _=>?_)
 ·omega
 by_cases s2:((bG a:Nat):Int)≤1048576 - (wtL eB sig:Nat) - (wtL cQ rs:Nat)
 rotate_left
 ·rw [szN s2] at f2
  refine kgo ?_
  exact ar
 rw [szP s2] at f2
 have hb:=fl sig rs a (by omega)
 have o0:=dK sig (by omega)
 have o1:=gz rs (by omega)
 have o2:=dm a (by omega)
 have hin:∀b:Big,bG b≤1048576→b.inner.length≤1048576:=fun b h=>by
  have e:bG b=wtL i6 b.nodes+b.sites.length+wtL fS b.outer+wtL jm b.inner:=rfl
  have:=eR jm b.inner
  omega
 have hrs:∀r∈rs,r.redex.inner.length≤1048576∧r.reactum.inner.length≤1048576:=fun r hr=>by
  have h1:=iV cQ rs r hr
  have e:cQ r=bG r.redex+bG r.reactum+r.copies.length:=rfl
  exact ⟨hin _ (by omega),hin _ (by omega)⟩
 have fi:=mA sig rs a hrs (hin a (by omega))
 have g0:=o0.toR
 have g1:=o1.toR
 have g2:=FnO.toD (n:=5) o2
 clear f0 f1
 refine kgo ?_
 refine aO (fun h=>?_) (fun _=>?_)
 ·omega
 clear f2
 refine kgo ?_
 have fs:=rt sig rs a hrs (hin a (by omega))
 refine aR ?_
 clear g0 g1 g2 fs
 refine kgo ?_
 refine pj (rK _ _ _ _) ?_
 refine kS ?_
 have eB0:=oc (bH sig rs a).1
 refine ee ?_
 refine wI ?_
 refine dP (aM ?_)
 refine G5 30055 ?_
 refine EE [(0,.sy (.d (.l 3 (sig.map Ctl.D)))),(1,.sy (.d (.l 13 (rs.map Rul.D)))),(5,.sy (.bx 10005 0)),(10005,.tk (.bx [.d (.i a.roots),.d (.l 3 (a.nodes.map Nd.D)),.d (.l 1 (a.sites.map D.i)),.d (.i a.edges),.d (.l 1 (a.outer.map D.s)),.d (.l 2 (a.inner.map Wr.D))])),(6,.sy (.d (.b false))),(8,.sy (.d (.l 9 ((bH sig rs a).1.map Stp.D)))),(9,.sy (.d (.b (bH sig rs a).2))),(10,.sy (.k 30046)),(30046,.tk (.own (.l 3 (sig.map Ctl.D)) none none)),(11,.sy (.k 30048)),(30048,.tk (.own (.l 13 (rs.map Rul.D)) none none)),(12,.sy (.bx 10012 0)),(10012,.tk (.bx [.d (.i a.roots),.k 31050,.k 32050,.d (.i a.edges),.k 34050,.k 35050])),(31050,.tk (.own (.l 3 (a.nodes.map Nd.D)) none none)),(32050,.tk (.own (.l 1 (a.sites.map D.i)) none none)),(34050,.tk (.own (.l 1 (a.outer.map D.s)) none none)),(35050,.tk (.own (.l 2 (a.inner.map Wr.D)) none none)),(13,.sy (.k 30055)),(30055,.tk (.own (.l 9 ((bH sig rs a).1.map Stp.D)) none none)),(14,.sy (.d (.b (bH sig rs a).2))),(66,.sy (.d (.b false)))] ?_
 refine fp ?_
 refine bU ?_
 refine aM ?_
 exact rJ sig rs a W0 (by omega)
end Go.Proofs.YtclpbhoekmecjaaGreatDoor
namespace Go.Proofs.YtclpbhoekmecjaaGreatDoor
open Go.RowKit
theorem mv (v0:Value) (sig:List Ctl) (v1:Value) (rs:List Rul) (cs2:List Value) (a:Big) (W:World) (b0:Rp W (fun b=>b<W.heap.size) (.l 3 (sig.map Ctl.D)) [v0]) (b1:Rp W (fun b=>b<W.heap.size) (.l 13 (rs.map Rul.D)) [v1]) (b2:Rp W (fun b=>b<W.heap.size) a.D cs2):Calls Tryz.prog 5 #[v0,v1,.agg cs2.toArray] W fun e w'=>e=.returned (.bool true)∧Ext W w':=
 Ec (sw sig rs a) ⟨v0,_,rfl,b0,v1,_,rfl,b1,_,_,rfl,⟨cs2,rfl,b2⟩,rfl⟩
end Go.Proofs.YtclpbhoekmecjaaGreatDoor
namespace Go.Proofs.YtclpbhoekmecjaaGreatDoor.fnExactStepsOf
open Go.ChangeShapes Go.WideShapes Go.ChangeAt Go.RowKit Go.Joins
open Go.ChangeMaps (open_string shut_string)
set_option linter.unusedVariables false
set_option linter.unusedSimpArgs false
set_option maxRecDepth 100000 in
set_option maxHeartbeats 3200000 in
theorem contract (H:Type) (enc:TypeId × Value→H) (W:World) (base:Nat) (args:Array Value) (ds gs:List (DataW H)) (before:List MemPlace)
 (hval:∀(j:Nat) t v,Tryz.f5.params[j]? = some t→args[j]? = some v→Value.okWide Tryz.prog W .any base t v)
 (hW:DataW.Whole enc Tryz.prog Tryz.f5.params.toList Rows.fnExactStepsOfSpec.vars false W args.toList ds gs before)  :
 Calls Tryz.prog 5 args W fun e W'=>∃v,e=.returned v∧Rows.fnExactStepsOfSpec.post enc Tryz.prog Tryz.f5 false true false false W args v W':=by
 have hW':=hW
 obtain ⟨p,q,hA0,hV,rfl,hfz,hnd⟩:=hW
 have hA:DataW.TrodAll enc Tryz.prog W 0 (fun _=>true) true Tryz.f5.params.toList args.toList ds p:=hA0
 rw [Tryz.params5] at hA hval
 obtain ⟨v0,vs0,d0,ds0,p0,q0,hargs,rfl,rfl,h0,r0⟩:=trodAll_cons hA
 obtain ⟨v1,vs1,d1,ds1,p1,q1,rfl,rfl,rfl,h1,r1⟩:=trodAll_cons r0
 obtain ⟨v2,vs2,d2,ds2,p2,q2,rfl,rfl,rfl,h2,r2⟩:=trodAll_cons r1
 obtain ⟨rfl,rfl,rfl⟩:=trodAll_nil r2
 obtain rfl:args = #[v0,v1,v2]:=by cases args;simp_all
 obtain ⟨rfl,rfl⟩:=trodVars_none hV
 have k0:=h0
 have lt0:∀x∈p0,x.block<W.heap.size:=by obtain ⟨m,hm⟩:=k0;exact DataW.trod_lt m _ _ _ hm
 have k1:=h1
 have lt1:∀x∈p1,x.block<W.heap.size:=by obtain ⟨m,hm⟩:=k1;exact DataW.trod_lt m _ _ _ hm
 have k2:=h2
 have lt2:∀x∈p2,x.block<W.heap.size:=by obtain ⟨m,hm⟩:=k2;exact DataW.trod_lt m _ _ _ hm
 obtain ⟨_,xx0,rfl,bb0⟩:=rX Tryz.underlying22 k8 (hval 0 22 v0 rfl rfl) h0
 obtain ⟨_,xx1,rfl,bb1⟩:=rX Tryz.underlying23 oY (hval 1 23 v1 rfl rfl) h1
 obtain ⟨cs2,xx2,rfl,bb2⟩:=DN Tryz.underlying29 gT (hval 2 29 v2 rfl rfl) h2
 clear hA0
 refine (mv v0 xx0 v1 xx1 cs2 xx2 W bb0 bb1 bb2).mono fun e W' ⟨he,bel⟩=>?_
 subst he
 exact ⟨_,rfl,_,_,_,[],_,[],hW',trodAll_mk1 (shut_bool Tryz.underlying4 _),(trodAll_cons_mk (Below.trod lL (by kernel_rfl) (of_decide_eq_true (by kernel_rfl)) k0 bel lt0) (trodAll_cons_mk (Below.trod lL (by kernel_rfl) (of_decide_eq_true (by kernel_rfl)) k1 bel lt1) (trodAll_cons_mk (Below.trod lL (by kernel_rfl) (of_decide_eq_true (by kernel_rfl)) k2 bel lt2) trodAll_mk0))),rfl,Below.frame bel _,fun h=>by cases h⟩
set_option maxRecDepth 100000 in
theorem lifted (os:Os) (started:os.Started) (H:Type) (enc:TypeId × Value→H) (F:Stop.Interp) :
 ReturnsInHanded {} Tryz.checked os 5 .any ((OpenSpec.ofChange Rows.fnExactStepsOfSpec).preRow enc Tryz.prog Tryz.f5 Rows.fnExactStepsOfRow.domain false Rows.fnExactStepsOfRow.laid) (((OpenSpec.ofChange Rows.fnExactStepsOfSpec).at F).post enc Tryz.prog Tryz.f5 false true false false):=by
 have hx:DataW.whole enc Tryz.prog ((World.laidAll Tryz.prog os xx).forCall (fun _ _=>0) ⟨#[],#[.slice none 0 0,.slice none 0 0,.agg #[.int .i64 0,.slice none 0 0,.slice none 0 0,.int .i64 0,.slice none 0 0,.slice none 0 0]],[]⟩).memory Tryz.f5.params.toList Rows.fnExactStepsOfSpec.vars false #[.slice none 0 0,.slice none 0 0,.agg #[.int .i64 0,.slice none 0 0,.slice none 0 0,.int .i64 0,.slice none 0 0,.slice none 0 0]].toList 8=some ([.nil,.nil,.agg [.lit (.int .i64 0),.nil,.nil,.lit (.int .i64 0),.nil,.nil]],[],[]):=by kernel_rfl
 refine returnsInHanded_of_row (C:=Tryz.checked) (s:=OpenSpec.ofChange Rows.fnExactStepsOfSpec) own started (by kernel_rfl) Tryz.func5
  (witness_row_at (enc:=enc) (C:=Tryz.checked) false (World.laidAll Tryz.prog os xx) #[.slice none 0 0,.slice none 0 0,.agg #[.int .i64 0,.slice none 0 0,.slice none 0 0,.int .i64 0,.slice none 0 0,.slice none 0 0]] (World.laidAll_os _ _ _) (by kernel_rfl) (by kernel_rfl) (by kernel_rfl)
    (OpenSpec.preRow_of_cond 8 hx (by kernel_rfl) (fun k hk=>by cases hk) (by kernel_rfl) (wq os _))) ?_
 intro W base args ds gs before hval hW _ _ _ hL hsh _
 exact contract H enc W base args ds gs before hval hW
set_option maxRecDepth 100000
theorem said:Rows.FnExactStepsOfSaid:=
 OpenClaim.holds_of_cond 5 Tryz.f5 rfl rfl rfl rfl rfl rfl rfl ⟨rfl,rfl,rfl,rfl,rfl⟩ rfl rfl rfl rfl rfl (by kernel_rfl) Tryz.func5 (an (an (an (an (an (an (an (an (an (an (an (an (an (an (an (an (an (an (an (an (an (an (an (an (an (an (an (an (an (an (an j0 j1) j2) j3) j4) j5) j6) j7) j8) j9) j10) j11) j12) j13) j14) j15) j16) j17) j18) j19) j20) j21) j22) j23) j24) j25) j26) j27) j28) j29) j30) j31)
  (of_decide_eq_true (by kernel_rfl)) (by unfold Func.isWrapper;first|(rw [if_pos (by decide +kernel)];kernel_rfl)|(rw [if_neg (by decide +kernel)];exact ⟨rfl,rfl⟩))
  (fun os started H enc _ F=>by rw [OpenClaim.pre_eq_preRow];exact lifted os started H enc F)
theorem plain (f:FuncId) (fn:Func) (hf:Tryz.pinned.checked.prog.funcNamed Rows.fnExactStepsOfRow.func=some f) (hfn:Tryz.pinned.checked.prog.funcs[f]? = some fn) :
 false=Tryz.pinned.checked.prog.looks []∧∀(j:Nat) t,fn.params[j]? = some t→Tryz.pinned.checked.prog.wantsStandIn t=false:=by
 obtain rfl:f=5:=Option.some.inj ((show Tryz.prog.funcNamed Rows.fnExactStepsOfRow.func=some 5 by kernel_rfl).symm.trans hf) |>.symm
 obtain rfl:fn=Tryz.f5:=(Option.some.inj (Tryz.func5.symm.trans hfn)).symm
 refine ⟨by kernel_rfl,fun j t ht=>?_⟩
 rw [Tryz.params5] at ht
 have hm:=Array.mem_of_getElem? ht
 simp only [List.mem_toArray,List.mem_cons,List.not_mem_nil,or_false] at hm
 rcases hm with rfl|rfl|rfl
 ·exact (show Tryz.prog.wantsStandIn 22=false by kernel_rfl)
 ·exact (show Tryz.prog.wantsStandIn 23=false by kernel_rfl)
 ·exact (show Tryz.prog.wantsStandIn 29=false by kernel_rfl)
theorem card:Rows.FnExactStepsOfCardSaid:=
 Claim7.holds_tied_plain_at .later [] _ _ _ _ said (fun _ h=>by cases h) (by kernel_rfl) (fun _ h=>by cases h) fnExactStepsOf_row_tie rfl ⟨rfl,rfl⟩ (by kernel_rfl) rfl plain (by kernel_rfl)
#print axioms card
end Go.Proofs.YtclpbhoekmecjaaGreatDoor.fnExactStepsOf
