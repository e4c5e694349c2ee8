/-
  Proved facts that the law leans on.
-/
import Derived.Test.YtclpbhoekmecjaaGreatDoorZF7
import Derived.Test.YtclpbhoekmecjaaGreatDoorZF10
import Derived.Test.YtclpbhoekmecjaaGreatDoorZF11
import Derived.Test.YtclpbhoekmecjaaGreatDoorZF12
import Derived.Test.YtclpbhoekmecjaaGreatDoorZF13
import Derived.Test.YtclpbhoekmecjaaGreatDoorZF14
import Derived.Shelf.SlGeneric
import Derived.Shelf.SlSortCmp.NoneTotal
import Derived.Shelf.Spec.SlicesGrow
import Derived.Shelf.SlicesE.DeleteFunc
import Derived.Test.YtclpbhoekmecjaaGreatDoorProg
namespace Go.Proofs
open Go.Shelf
def Tryz.sortW_ren : Go.Shelf.Ren := ⟨fun | 6 => 165 | 15 => 220 | 14 => 219 | 28 => 252 | 29 => 253 | 20 => 244 | 21 => 245 | 22 => 246 | 23 => 247 | 24 => 248 | 25 => 249 | 26 => 250 | 27 => 251 | 46 => 284 | 47 => 285 | 48 => 286 | 49 => 287 | 50 => 288 | 57 => 321 | n => n, fun | 22 => 38 | 24 => 133 | 25 => 186 | 3 => 3 | 39 => 216 | 0 => 0 | 53 => 230 | 55 => 233 | 4 => 4 | 46 => 240 | 45 => 239 | 50 => 188 | 5 => 5 | 9 => 9 | 66 => 269 | 70 => 273 | 76 => 295 | 77 => 296 | n => n, fun | n => n⟩
theorem Tryz.sortW : Go.Proofs.SlLaysF0.n6 Tryz.prog Tryz.sortW_ren := {
  mixed := by kernel_rfl
  f6 := ⟨Tryz.f165.name, by decide, Tryz.func165.trans (congrArg some (by kernel_rfl))⟩
  f14 := ⟨Tryz.f219.name, by decide, Tryz.func219.trans (congrArg some (by kernel_rfl))⟩
  f15 := Tryz.func220.trans (congrArg some (by kernel_rfl))
  f20 := ⟨Tryz.f244.name, by decide, Tryz.func244.trans (congrArg some (by kernel_rfl))⟩
  f21 := ⟨Tryz.f245.name, by decide, Tryz.func245.trans (congrArg some (by kernel_rfl))⟩
  f22 := ⟨Tryz.f246.name, by decide, Tryz.func246.trans (congrArg some (by kernel_rfl))⟩
  f23 := ⟨Tryz.f247.name, by decide, Tryz.func247.trans (congrArg some (by kernel_rfl))⟩
  f24 := ⟨Tryz.f248.name, by decide, Tryz.func248.trans (congrArg some (by kernel_rfl))⟩
  f25 := ⟨Tryz.f249.name, by decide, Tryz.func249.trans (congrArg some (by kernel_rfl))⟩
  f26 := ⟨Tryz.f250.name, by decide, Tryz.func250.trans (congrArg some (by kernel_rfl))⟩
  f27 := ⟨Tryz.f251.name, by decide, Tryz.func251.trans (congrArg some (by kernel_rfl))⟩
  f28 := Tryz.func252.trans (congrArg some (by kernel_rfl))
  f29 := Tryz.func253.trans (congrArg some (by kernel_rfl))
  f46 := ⟨Tryz.f284.name, by decide, Tryz.func284.trans (congrArg some (by kernel_rfl))⟩
  f47 := Tryz.func285.trans (congrArg some (by kernel_rfl))
  f48 := Tryz.func286.trans (congrArg some (by kernel_rfl))
  f49 := ⟨Tryz.f287.name, by decide, Tryz.func287.trans (congrArg some (by kernel_rfl))⟩
  f50 := ⟨Tryz.f288.name, by decide, Tryz.func288.trans (congrArg some (by kernel_rfl))⟩
  f57 := ⟨Tryz.f321.name, by decide, Tryz.func321.trans (congrArg some (by kernel_rfl))⟩
  t0 := Tryz.underlying0
  a0 := Tryz.isAgg0
  z0 := Tryz.sizeOf0
  v0 := Tryz.zeroValue0
  t3 := Tryz.underlying3
  a3 := Tryz.isAgg3
  z3 := Tryz.sizeOf3
  v3 := Tryz.zeroValue3
  t4 := Tryz.underlying4
  a4 := Tryz.isAgg4
  z4 := Tryz.sizeOf4
  v4 := Tryz.zeroValue4
  t5 := Tryz.underlying5
  a5 := Tryz.isAgg5
  z5 := Tryz.sizeOf5
  v5 := Tryz.zeroValue5
  t9 := Tryz.underlying9
  a9 := Tryz.isAgg9
  z9 := Tryz.sizeOf9
  v9 := Tryz.zeroValue9
  t22 := Tryz.underlying38
  a22 := Tryz.isAgg38
  z22 := Tryz.sizeOf38
  v22 := Tryz.zeroValue38
  t25 := Tryz.underlying186
  a25 := Tryz.isAgg186
  z25 := Tryz.sizeOf186
  v25 := Tryz.zeroValue186
  t39 := Tryz.underlying216
  a39 := Tryz.isAgg216
  z39 := Tryz.sizeOf216
  v39 := Tryz.zeroValue216
  t45 := Tryz.underlying239
  a45 := Tryz.isAgg239
  z45 := Tryz.sizeOf239
  v45 := Tryz.zeroValue239
  t46 := Tryz.underlying240
  a46 := Tryz.isAgg240
  z46 := Tryz.sizeOf240
  v46 := Tryz.zeroValue240
  t50 := Tryz.underlying188
  a50 := Tryz.isAgg188
  z50 := Tryz.sizeOf188
  v50 := Tryz.zeroValue188
  t53 := Tryz.underlying230
  a53 := Tryz.isAgg230
  z53 := Tryz.sizeOf230
  v53 := Tryz.zeroValue230
  t55 := Tryz.underlying233
  a55 := Tryz.isAgg233
  z55 := Tryz.sizeOf233
  v55 := Tryz.zeroValue233
  t66 := Tryz.underlying269
  a66 := Tryz.isAgg269
  z66 := Tryz.sizeOf269
  v66 := Tryz.zeroValue269
  t70 := Tryz.underlying273
  a70 := Tryz.isAgg273
  z70 := Tryz.sizeOf273
  v70 := Tryz.zeroValue273
  t76 := Tryz.underlying295
  a76 := Tryz.isAgg295
  z76 := Tryz.sizeOf295
  v76 := Tryz.zeroValue295
  t77 := Tryz.underlying296
  a77 := Tryz.isAgg296
  z77 := Tryz.sizeOf296
  v77 := Tryz.zeroValue296 }
def Tryz.growS_ren : Go.Shelf.Ren := ⟨fun | 4 => 322 | n => n, fun | 22 => 26 | 25 => 9 | 3 => 3 | 4 => 4 | 9 => 9 | 20 => 20 | 0 => 0 | n => n, fun | n => n⟩
theorem Tryz.growS : Go.Proofs.Lays8.n4 Tryz.prog Tryz.growS_ren := {
  mixed := by kernel_rfl
  f4 := ⟨Tryz.f322.name, by decide, Tryz.func322.trans (congrArg some (by kernel_rfl))⟩
  t0 := Tryz.underlying0
  a0 := Tryz.isAgg0
  z0 := Tryz.sizeOf0
  v0 := Tryz.zeroValue0
  t3 := Tryz.underlying3
  a3 := Tryz.isAgg3
  z3 := Tryz.sizeOf3
  v3 := Tryz.zeroValue3
  t4 := Tryz.underlying4
  a4 := Tryz.isAgg4
  z4 := Tryz.sizeOf4
  v4 := Tryz.zeroValue4
  t9 := Tryz.underlying9
  a9 := Tryz.isAgg9
  z9 := Tryz.sizeOf9
  v9 := Tryz.zeroValue9
  t20 := Tryz.underlying20
  a20 := Tryz.isAgg20
  z20 := Tryz.sizeOf20
  v20 := Tryz.zeroValue20
  t22 := Tryz.underlying26
  a22 := Tryz.isAgg26
  z22 := Tryz.sizeOf26
  v22 := Tryz.zeroValue26 }
def Tryz.delS_ren : Go.Shelf.Ren := ⟨fun | 10 => 170 | 6 => 221 | n => n, fun | 22 => 26 | 23 => 9 | 25 => 191 | 3 => 3 | 4 => 4 | 0 => 0 | n => n, fun | n => n⟩
theorem Tryz.delS : Go.Proofs.SlLaysH.n10 Tryz.prog Tryz.delS_ren := {
  mixed := by kernel_rfl
  f6 := ⟨Tryz.f221.name, by decide, Tryz.func221.trans (congrArg some (by kernel_rfl))⟩
  f10 := ⟨Tryz.f170.name, by decide, Tryz.func170.trans (congrArg some (by kernel_rfl))⟩
  t0 := Tryz.underlying0
  a0 := Tryz.isAgg0
  z0 := Tryz.sizeOf0
  v0 := Tryz.zeroValue0
  t3 := Tryz.underlying3
  a3 := Tryz.isAgg3
  z3 := Tryz.sizeOf3
  v3 := Tryz.zeroValue3
  t4 := Tryz.underlying4
  a4 := Tryz.isAgg4
  z4 := Tryz.sizeOf4
  v4 := Tryz.zeroValue4
  t22 := Tryz.underlying26
  a22 := Tryz.isAgg26
  z22 := Tryz.sizeOf26
  v22 := Tryz.zeroValue26
  a23 := Tryz.isAgg9
  z23 := Tryz.sizeOf9
  t25 := Tryz.underlying191
  a25 := Tryz.isAgg191
  z25 := Tryz.sizeOf191
  v25 := Tryz.zeroValue191 }
end Go.Proofs
namespace Go.Proofs.YtclpbhoekmecjaaGreatDoor
open Go.RowKit Go.Sort
set_option linter.unusedVariables false
set_option linter.unusedSimpArgs false
set_option maxRecDepth 100000
set_option maxHeartbeats 4000000
attribute [local irreducible] au Der At
instance:Inhabited Wr:=⟨⟨⟨#[]⟩,0⟩⟩
abbrev Hq (x:Wr):List Value:=[.string x.name,.int .i64 x.link]
theorem G5:Cd 2 Hq Wr.D:=⟨fun _=>rfl,fun w S x cs h=>by
 obtain ⟨c,e,rfl,⟨rfl,_⟩,c',e',rfl,⟨rfl,_⟩,rfl⟩:=h
 rfl,fun w w' S S' x cs h=>by
 obtain ⟨c,e,rfl,⟨rfl,h1⟩,c',e',rfl,⟨rfl,h2⟩,rfl⟩:=h
 exact ⟨[_],[_],rfl,⟨rfl,h1⟩,[_],[],rfl,⟨rfl,h2⟩,rfl⟩⟩
def tH (x y:Wr):Int:=if dg x.name y.name=true then -1 else 1
theorem ltW (x y:Wr):ltOf tH x y=dg x.name y.name:=by
 unfold ltOf tH
 cases dg x.name y.name <;> rfl
theorem H9:SWO (ltOf tH) where
 irrefl x:=by
  rw [ltW]
  exact wq _
 trans x y z h1 h2:=by
  rw [ltW] at *
  exact mQ _ _ _ h1 h2
 ntrans x y z h1 h2:=by
  rw [ltW] at *
  cases h:dg x.name z.name with
  | false=>rfl
  | true=>
   have hzy:¬NLt y.name z.name:=fun e=>by rw [show dg y.name z.name=true from e] at h2;cases h2
   have hxy:¬NLt x.name y.name:=fun e=>by rw [show dg x.name y.name=true from e] at h1;cases h1
   by_cases e:x.name=y.name
   ·rw [e] at h;exact absurd h hzy
   ·exact absurd (NLt.trans _ _ _ ((NLt.total e).resolve_left hxy) h) hzy
theorem ow (l:List Wr) (g:Nat) (hl:l.length≤1000) (hn:(l.map Wr.name).Nodup) (eg:∀args w,(callFunc g args).run Tryz.prog w=.ok (.enter g args) w)
 (hg:∀(x y:Wr) (W:World),Calls Tryz.prog g #[.agg #[.string x.name,.int .i64 x.link],.agg #[.string y.name,.int .i64 y.link]] W fun e w'=>e=.returned (.int .i64 (tH x y))∧∃q os',w'=grow (W.drewN q) os'):FnS Tryz.prog 165 2 133 (l.map Wr.D) [.f g []] ((wE l).map Wr.D):=by
 refine DM (vs0:=[.func (.func g) #[] #[]]) (by decide) G5 (cH Tryz.func165) (fun y hy=>?_) (vu l) (fun w F vs h=>?_) (fun p cap w=>?_) (fun b cap w hH hb=>?_)
 ·have:=(A6 l [] List.Pairwise.nil (by simpa using hn)).2 y
  simpa using this.1 hy
 ·obtain ⟨v,t,rfl,⟨vs,h1,h2⟩,h3⟩:=h
  cases (show t = [] from h3)
  cases (show vs = [] from h2)
  cases h1;rfl
 ·exact AnyF.slices_SortFunc_none Tryz.sortW p cap _ w
 ·have h:=AnyQ.slices_SortFunc Tryz.sortW 2 Tryz.isAgg133 Tryz.sizeOf133 Hq (fun _=>rfl) (fun x v hv=>by simp at hv;rcases hv with rfl|rfl <;> rfl) tH H9 g #[] b 0 cap l.toArray w eg (fun m os dk _ x y=>hg x y _) hH hb (by simp;omega)
  refine Calls.mono h ?_
  rintro e w' ⟨rfl,d',n,os,⟨hs,_,hp⟩,hso,rfl⟩
  refine ⟨rfl,n,os,?_⟩
  have hd:d'.toList=wE l:=by
   refine A9 hn ?_ (List.pairwise_iff_getElem.2 fun i j hi hj hij=>?_)
   ·have hz:d'.size=l.length:=by simpa using hs
    have hq:List.take l.length d'.toList=d'.toList:=List.take_of_length_le (by simp;omega)
    simpa [hs,hq] using hp
   ·have hsz:d'.toList.length=l.length:=by simpa using hs
    have:=hso i j (Nat.zero_le _) hij (by simp;omega)
    rw [ltW] at this
    simp only [Array.getElem!_eq_getD,Array.getD] at this
    rw [dif_pos (by simp at hi;omega),dif_pos (by simp at hj;omega)] at this
    exact this
  rw [← hd];rfl
theorem uK (x y:Wr) (W:World):Calls Tryz.prog 294 #[.agg #[.string x.name,.int .i64 x.link],.agg #[.string y.name,.int .i64 y.link]] W fun e w'=>e=.returned (.int .i64 (tH x y))∧∃q os',w'=grow (W.drewN q) os':=by
 cases h:dg x.name y.name
 ·rw [show tH x y=1 from by unfold tH;rw [h];rfl]
  unfold dg at h
  go_enter Tryz.func294,Tryz.ntmps294
  go_wp2
  go_ret
  exact ⟨rfl,0,_,by rw [alloc_eq_grow,alloc_eq_grow,grow_grow];rfl⟩
 ·rw [show tH x y = -1 from by unfold tH;rw [h];rfl]
  unfold dg at h
  go_enter Tryz.func294,Tryz.ntmps294
  go_wp2
  go_ret
  exact ⟨rfl,0,_,by rw [alloc_eq_grow,alloc_eq_grow,grow_grow];rfl⟩
theorem rY (x y:Wr) (W:World):Calls Tryz.prog 166 #[.agg #[.string x.name,.int .i64 x.link],.agg #[.string y.name,.int .i64 y.link]] W fun e w'=>e=.returned (.int .i64 (tH x y))∧∃q os',w'=grow (W.drewN q) os':=by
 cases h:dg x.name y.name
 ·rw [show tH x y=1 from by unfold tH;rw [h];rfl]
  unfold dg at h
  go_enter Tryz.func166,Tryz.ntmps166
  go_wp2
  go_ret
  exact ⟨rfl,0,_,by rw [alloc_eq_grow,alloc_eq_grow,grow_grow];rfl⟩
 ·rw [show tH x y = -1 from by unfold tH;rw [h];rfl]
  unfold dg at h
  go_enter Tryz.func166,Tryz.ntmps166
  go_wp2
  go_ret
  exact ⟨rfl,0,_,by rw [alloc_eq_grow,alloc_eq_grow,grow_grow];rfl⟩
theorem Ec (n:Nat) (hn:n≤1000):FnD Tryz.prog 322 [.n 1,.i n] (.row 1 9 []):=⟨cH Tryz.func322,fun F w vs hv hF=>by
 obtain ⟨v1,t,rfl,⟨a,h1⟩,v2,t2,rfl,⟨h2,_⟩,h3⟩:=hv
 cases (show t2 = [] from h3)
 cases h1
 cases h2
 rcases Nat.eq_zero_or_pos n with rfl|hn0
 ·refine Calls.mono (Any8.slices_Grow_room Tryz.growS a 0 0 0 w (by omega) (by omega) (by omega) (by omega)) ?_
  rintro e w' ⟨rfl,rfl⟩
  exact ⟨_,rfl,Ext.refl w',.inl ⟨rfl,a,rfl⟩⟩
 ·obtain ⟨i0,hi0,hz0,hz1,hz2⟩:=info_parts qL
  have hcap:=grownCap_ge w (0+n) 0 9
  have hmx:=grownCap_le_maxLen w (0+n) 0 9 (by unfold maxLen;omega)
  refine Calls.mono (Any8.slices_Grow_grow Tryz.growS i0 _ hi0 hz0 (by omega) a 0 0 n [] w (Nat.le_refl _) (by omega) (by rw [hz2];omega) (by omega) (by simp) (fun _=>rfl) (fun _ _ j v h=>by simp at h)) ?_
  rintro e w' ⟨rfl,rfl⟩
  refine ⟨_,rfl,(Ext.refl w).drew.alloc _,.inr ⟨[],World.ownsRow_made w.drew _ _ (Nat.le_refl _) hmx ?_,fun j hj=>absurd hj (Nat.not_lt_zero _)⟩⟩
  have hc1:(Value.string ⟨#[]⟩).cells.size=1:=rfl
  simp [Builtin.zeroCells,hc1]
  exact Nat.add_sub_cancel' (show n≤grownCap w n 0 9 from by simpa using hcap)⟩
theorem Gf:tK Value.string D.s:=⟨fun _ _ _ _ h=>h.1,fun _ _ _ _ _ _ h=>h⟩
theorem qB (r:Big) (s:ByteArray) (F:BS) (c:List Value) (W:World) (h:Rp W F (.p r.D) c):Calls Tryz.prog 171 (#[.string s]++c.toArray) W fun e w'=>e=.returned (.bool (qx r.outer s))∧w'=W:=by
 obtain ⟨b,o,us,rfl,h2,h3,h4⟩:=h
 have hB:=pF.to W F r us h3
 obtain ⟨v1,v2,v4,v5,rfl,r1,r2,hN,hS,hO,hI⟩:=hB
 obtain ⟨a4,k4,rfl,g1,g2,g3,g4⟩:=hO
 have p4:W.cell? ⟨b,o+4,none⟩=some (.slice a4 r.outer.length k4):=h4 4 _ rfl
 have hc:Calls Tryz.prog 172 #[.slice a4 r.outer.length k4,.string s] W fun e w'=>e=.returned (.bool (qx r.outer s))∧w'=W:=by
  rcases g4 with g4|⟨bb,oo,rfl,_,_,g4⟩
  ·rw [g4]
   refine Calls.mono (Tryz.slices_Contains_string_empty a4 k4 s W) ?_
   rintro e w' ⟨rfl,rfl⟩
   exact ⟨rfl,rfl⟩
  ·unfold maxLen at g2
   refine Calls.mono (Tryz.slices_Contains_string bb oo r.outer.length k4 r.outer s W (Nat.le_refl _) (by omega) (fun j hj=>?_)) ?_
   ·obtain ⟨cs,q1,⟨rfl,q2⟩,q3⟩:=g4 j hj
    have:=q3 0 _ rfl
    rw [Nat.mul_one,Nat.add_zero] at this
    rw [this,List.getD_eq_getElem?_getD,List.getElem?_eq_getElem hj];rfl
   ·rintro e w' ⟨rfl,rfl⟩
    refine ⟨?_,rfl⟩
    congr 2
    rw [List.take_length,Bool.eq_iff_iff,Lib.containsS_iff,qh,List.any_eq_true]
    constructor
    ·exact fun h=>⟨s,h,by simp⟩
    ·rintro ⟨x,hx,e⟩
     rw [beq_iff_eq] at e
     rw [← fR e];exact hx
 show Calls Tryz.prog 171 #[.string s,.pointer (some ⟨b,o,none⟩)] W _
 generalize qx r.outer s=q at hc ⊢
 clear h4 h3 hN hS hI g4
 go_enter Tryz.func171,Tryz.ntmps171
 go_wp2_with (go_at_call 172;refine hc.mono ?_;rintro e w' ⟨rfl,rfl⟩)
 go_ret
 exact ⟨rfl,rfl⟩
theorem qj (l:List ByteArray) (r:Big) (hl:l.length≤1000):FnC Tryz.prog 170 1 9 (l.map .s) [.f 171 [.p r.D]] ((l.filter fun x=>!qx r.outer x).map .s):=by
 have eg:∀args w,(callFunc 171 args).run Tryz.prog w=.ok (.enter 171 args) w:=cH Tryz.func171
 refine Eh Gf (us:=List.replicate (l.length - (l.filter fun x=>!qx r.outer x).length) ⟨#[]⟩) (cH Tryz.func170) (fun y hy=>(List.mem_filter.1 hy).1) (by rw [List.length_append,List.length_replicate];have:=List.length_filter_le (fun x=>!qx r.outer x) l;omega) (fun w F vs v hvs hF hv he=>?_) (fun w F vs g cap hvs hF hFg hH hg h5 h6=>?_)
 ·obtain ⟨fv,t,rfl,hf,h3⟩:=hvs
  cases (show t = [] from h3)
  have hI:Calls Tryz.prog 221 #[v,fv] w fun e w'=>e=.returned (.int .i64 (-1))∧Ext w w':=by
   refine ((mW [] 171 [.p r.D] (qx r.outer) rfl (fun x hx=>by simp at hx)).calls F w [v,fv] ⟨v,_,rfl,hv,fv,_,rfl,hf,rfl⟩ hF).mono ?_
   rintro e w' ⟨u,rfl,hX,hu⟩
   refine ⟨?_,hX⟩
   have:=hu.1
   rw [qQ (l:=([]:List ByteArray)) (by simp)] at this
   cases this;rfl
  obtain ⟨vs',h1,c,e,rfl,hc,h2⟩:=hf
  cases (show e = [] from h2)
  cases h1
  obtain ⟨a,k,h4,_⟩:=hv
  cases h4
  rw [List.append_nil] at hI ⊢
  change Calls Tryz.prog 221 #[.slice a 0 k,.func (.func 171) #[] c.toArray] w _ at hI
  change Calls Tryz.prog 170 #[.slice a 0 k,.func (.func 171) #[] c.toArray] w _
  generalize c.toArray=lb at hI ⊢
  clear hc h3 h2 eg hF hl he
  go_enter Tryz.func170,Tryz.ntmps170
  go_wp2_with (go_at_call 221;refine hI.mono ?_;rintro e w' ⟨rfl,hX⟩)
  go_ret
  exact ⟨rfl,hX⟩
 ·obtain ⟨fv,t,rfl,hf,h3⟩:=hvs
  cases (show t = [] from h3)
  obtain ⟨vs',h1,c,e,rfl,hc,h2⟩:=hf
  cases (show e = [] from h2)
  cases h1
  rw [List.append_nil]
  have key:∀W:World,(∀b,F b→b<w.heap.size→W.heap[b]? = w.heap[b]?)→∀x:ByteArray,FnGives Tryz.prog 171 c.toArray #[.string x] (.bool (qx r.outer x)) W:=fun W hW x=>by
   refine (qB r x F c W (Rp.keep (fun _ h=>h) (fun b hb hl=>hW b hb hl) _ _ hc)).mono ?_
   rintro e w' ⟨rfl,rfl⟩
   exact ⟨rfl,0,rfl⟩
  refine Calls.mono (AnyE.slices_DeleteFunc Tryz.delS Value.string (fun _=>rfl) (qx r.outer) 171 c.toArray eg ⟨#[]⟩ Tryz.zeroValue9 g 0 cap l.toArray w (fun W x hb=>key W (fun b _ hl=>hb.block b hl) x) (fun n os dk x _=>key _ (fun b hb hl=>(kb Value.string dk).block b hl (fun e=>by cases e;exact hFg hb)) x) hH (by simp;omega) (by simpa using h5)) ?_
  rintro e w' ⟨rfl,q,rfl⟩
  exact ⟨rfl,q,rfl⟩
end Go.Proofs.YtclpbhoekmecjaaGreatDoor
namespace Go.Proofs.YtclpbhoekmecjaaGreatDoor
open Go.RowKit
set_option linter.unusedVariables false
set_option linter.unusedSimpArgs false
set_option maxRecDepth 100000
set_option maxHeartbeats 4000000
attribute [local irreducible] au Der At
section
variable {P:Program} {ops:Array Oper} {W0:bU} {N:Nat} {Fin:Us→Env→Prop} {os:List Oper} {us:Us} {pk fk:List Nat} {σ:Env} {g:Option (Nat × Bool)} {gk:List Nat} {d ty ty' f:Nat} {pos:String} {after:Array Edge} {at':Array TypeId} {xs:List Operand} {ds:List D}
theorem Ee {n e:Nat} {rs:List D} (h:Der P ops W0 N Fin os (us++[((d :: (gk++((10000+d) :: kxs xs)))++pk,([d,10000+d])++fk)]) [] [] ((d,.sy (.k (10000+d))) :: (10000+d,.tk (.row n e rs)) :: σ)) (hx:Fh σ xs=some ds:=by rfl) (hf:FnD P f ds (.row n e rs):=by assumption) (hi:ak σ (10000+d)=none:=by rfl) (hg:gst ops σ g=some (true,gk):=by rfl) (hN:Nat.blt d N=true:=by rfl) (hs:aH ((10000+d,.tk (.row n e rs)) :: σ) d=true:=by rfl) (hu:Nat.beq (10000+d) d=false:=by rfl):Der P ops W0 N Fin (⟨some d,.call { callee:=.value (.func f),args:=xs.toArray,argTypes:=at' },ty,pos,after,g⟩ :: os) us pk fk σ:=
 jv (.k (10000+d)) ((10000+d) :: kxs xs) [(10000+d,.tk (.row n e rs))] (fun σ' c a w hk hc=>by
  unfold Oper.wp
  rw [bK hf.enter rfl]
  refine (hf.calls c.F w _ (rk hc xs ds hx (fun κ hκ=>hk κ (by simp [hκ]))) hc.lt).mono ?_
  rintro e' w' ⟨v,rfl,hX,⟨hd,a0,hv0⟩|⟨cells,own,hel⟩⟩
  ·subst hd
   have hc0:=hc.fresh hX
   exact ⟨v,_,rfl,hc0.new (i:=10000+d) ((hk _ (by simp)).trans hi) (t:=.row n e []) (v:=v) (S:=fun _=>False) (.inl ⟨rfl,a0,hv0⟩) (fun b hb=>hb.elim) (fun j u _ b hb=>hb.elim),.inr rfl,(if_pos rfl).symm⟩
  have hc1:=hc.grow hX (fun b=>fresh w w' c.F b∧v.ownBlock≠some b) (fun b hb=>⟨.inl hb,fun e=>by have:=own.lt b e;have:=hc.lt b hb;omega⟩) (fun _ h=>h.1.imp id (fun h=>h.1)) (fun b hb=>hb.1.elim (fun h'=>Nat.lt_of_lt_of_le (hc.lt b h') (Below.size hX)) (fun h=>h.2))
  refine ⟨v,_,rfl,hc1.new (i:=10000+d) (t:=.row n e rs) (v:=v) (S:=fun b=>v.ownBlock=some b) ((hk _ (by simp)).trans hi) (.inr ⟨cells,⟨own.1,own.2.imp id (fun ⟨g,cap,cur,q1,_,q2⟩=>⟨g,cap,cur,q1,Nat.zero_le _,q2⟩)⟩,fun g hg=>hg,hel⟩) (fun b hb=>⟨fun hF=>hF.2 hb,(own.lt b hb).2,.inr (Nat.le_trans hc.ext.size (own.lt b hb).1)⟩) (fun j u hj b hb hT=>?_),.inr rfl,(if_pos rfl).symm⟩
  have:=((hc.tok j u hj).2.2 b hT).2.1
  have:=own.lt b hb
  omega) h hg hN hs (by simp [hu])
theorem C0 {ρ:Operand→Value} {w:World} {x y:Operand} {e:Nat} {v x0 y0:Value} (he:elem? P ty'=some e) (hz:sizeOf? P e=some 1) (hzv:qA P e=some v) (hzs:v.cells.size=1) (hx:(ρ x).cells = #[x0]) (hy:(ρ y).cells = #[y0]):(execOp ρ ⟨some d,.buildSlice ty' 2 #[(0,x),(1,y)],ty,pos,after,g⟩).run P w=.ok (.value (.slice (some ⟨w.heap.size,0,none⟩) 2 2)) (w.alloc (.cells #[x0,y0] e)):=by
 replace hz:=dp hz
 rw [Option.map_eq_some_iff] at hz
 obtain ⟨i,hi,hz⟩:=hz
 unfold qA at hzv
 rw [hi] at hzv
 simp only [Option.bind_some] at hzv
 have hf':Instr.fill (fun i=>some (i,1)) ((Array.range 2).map (v.cells[· % v.cells.size]!)) [(0,ρ x),(1,ρ y)]=some #[x0,y0]:=by
  rw [show (Array.range 2).map (v.cells[· % v.cells.size]!) = #[v.cells[0 % v.cells.size]!,v.cells[1 % v.cells.size]!] from by
   apply Array.ext (by simp)
   intro i h1 h2
   have:i=0∨i=1:=by simp at h2;omega
   rcases this with rfl|rfl <;> simp]
  simp [Instr.fill,hx,hy]
 have hs:(sizeOf e).run P w=.ok 1 w:=by simp [sizeOf,typeInfo,hi,hz,go_sem]
 have hzr:(zeroValue e).run P w=.ok v w:=by simp [zeroValue,typeInfo,hi,hzv,go_sem]
 unfold execOp
 simp only [List.map_toArray,List.map_cons,List.map_nil]
 refine dm (X:=Instr.buildSlice ty' 2 #[(0,ρ x),(1,ρ y)]) ?_
 unfold Instr.buildSlice
 rw [Sem.run_bind,run_underlying (dL he)]
 simp only [Result.andThen_ok,Sem.run_bind,hs,Nat.mul_one]
 rw [if_neg (by decide)]
 simp only [Result.andThen_ok,Sem.run_bind,Sem.run_pure,if_neg (show ¬(2=0) by decide),hzr,hf',newRow,run_newObj_alloc]
theorem H5 {x y:Operand} {e:Nat} {r q:D} {v:Value} (h:Der P ops W0 N Fin os (us++[((d :: (gk++(kx x++kx y)))++pk,([d])++fk)]) [] [] ((d,.sy (.d (.l 1 [r,q]))) :: σ)) (hx:(ev σ x).bind Sy.dat=some r:=by rfl) (hy:(ev σ y).bind Sy.dat=some q:=by rfl) (he:elem? P ty'=some e:=by rfl) (hz:sizeOf? P e=some 1:=by rfl) (hv:qA P e=some v:=by rfl) (hvs:v.cells.size=1:=by rfl) (hr1:r.sz=1:=by rfl) (hq1:q.sz=1:=by rfl) (hg:gst ops σ g=some (true,gk):=by rfl) (hN:Nat.blt d N=true:=by rfl) (hs:aH σ d=true:=by rfl):Der P ops W0 N Fin (⟨some d,.buildSlice ty' 2 #[(0,x),(1,y)],ty,pos,after,g⟩ :: os) us pk fk σ:=
 jv (.d (.l 1 [r,q])) (kx x++kx y) [] (fun σ' c a w hk hc=>by
  rw [Option.bind_eq_some_iff] at hx hy
  obtain ⟨s,hx1,hx2⟩:=hx
  obtain ⟨s',hy1,hy2⟩:=hy
  have hv':=jZ hx2 (ar hc (ab hx1 (fun κ hκ=>hk κ (by simp [hκ]))))
  have hv2:=jZ hy2 (ar hc (ab hy1 (fun κ hκ=>hk κ (by simp [hκ]))))
  obtain ⟨cs,h1,h2,_⟩:=hv'.cells
  obtain ⟨cs',h3,h4,_⟩:=hv2.cells
  obtain ⟨x0,rfl⟩:∃x0,cs = [x0]:=List.length_eq_one_iff.1 ((Rp.len _ _ h2).trans hr1)
  obtain ⟨y0,rfl⟩:∃y0,cs' = [y0]:=List.length_eq_one_iff.1 ((Rp.len _ _ h4).trans hq1)
  unfold Oper.wp
  rw [C0 he hz hv hvs h1 h3]
  have hX:Ext w (w.alloc (.cells #[x0,y0] e)):=(Ext.refl w).alloc _
  have hc1:=hc.grow hX (fun b=>c.F b∨b=w.heap.size) (fun _ h=>.inl h) (fun _ h=>h.imp id (fun h=>by omega)) (fun b hb=>by
   rcases hb with hb|hb
   ·exact Nat.lt_of_lt_of_le (hc.lt b hb) (Below.size hX)
   ·subst hb;simp)
  have hbx:=de.new w e [x0,y0] _ rfl
  refine ⟨_,_,rfl,hc1,some ⟨w.heap.size,0,none⟩,2,rfl,Nat.le_refl _,by decide,fun h=>(by cases h),.inr ⟨w.heap.size,0,rfl,.inr rfl,⟨[x0],rfl,Rp.keep (fun _ h=>.inl h) (fun b _ hl=>hX.block b hl) _ _ h2,fun j u hj=>?_⟩,⟨[y0],rfl,Rp.keep (fun _ h=>.inl h) (fun b _ hl=>hX.block b hl) _ _ h4,fun j u hj=>?_⟩,trivial⟩⟩
  ·rcases j with _|j
   ·exact (hbx 0 u (by simpa using hj)).1
   ·simp at hj
  ·rcases j with _|j
   ·exact (hbx 1 u (by simpa using hj)).1
   ·simp at hj) h hg hN hs rfl
end
theorem rN (l:List (List ByteArray)) (i:Nat) (h:i<l.length):(l.take (i+1)).flatten=(l.take i).flatten++l[i]:=by
 rw [List.take_succ_eq_append_getElem h,List.flatten_append];simp
theorem yr (l:List (List ByteArray)) (i:Nat):(l.take i).flatten.length≤l.flatten.length:=by
 have:l.flatten=(l.take i).flatten++(l.drop i).flatten:=by rw [← List.flatten_append,List.take_append_drop]
 rw [this,List.length_append];omega
theorem zA (l:List (List ByteArray)) (hl:l.flatten.length≤1000) (hk:l.length≤1000):FnD Tryz.prog 289 [.l 1 (l.map DS)] (.row 1 9 (l.flatten.map .s)):=by
 have f1:=Ec l.flatten.length hl
 refine ah Tryz.func289 (fun hw W0=>?_)
 refine kgo ?_
 refine aq [0,9,10] (fun i:Nat=>i≤l.length) (fun i=>l.length - i) (fun i=>[(11,.sy (.d (.i i))),(3,.sy (.d (.i (l.take i).flatten.length)))]) 0 (Nat.zero_le _) (fun i hi=>?_)
 refine kgo ?_
 refine bt (fun h=>?_) (fun h=>?_)
 ·have hlt:i<l.length:=by simpa using h
  have h1:=yr l (i+1)
  have h2:((l.take (i+1)).flatten.length:Int)=(l.take i).flatten.length+l[i].length:=by rw [rN l i hlt,List.length_append];omega
  refine kgo ?_
  rw [← h2]
  exact af (i+1) hlt (by omega)
 obtain rfl:i=l.length:=by have:=h;simp at this;omega
 rw [List.take_length]
 refine kgo ?_
 refine Ee (hf:=f1) ?_
 refine kgo ?_
 refine aq [25,26] (fun i:Nat=>i≤l.length) (fun i=>l.length - i) (fun i=>[(27,.sy (.d (.i i))),(6,.sy (.k 20001)),(20001,.tk (.row 1 9 (((l.take i).flatten).map .s)))]) 0 (Nat.zero_le _) (fun i hi=>?_)
 refine kgo ?_
 refine bt (fun h=>?_) (fun h=>?_)
 ·have hlt:i<l.length:=by simpa using h
  have h1:=yr l (i+1)
  have h2:=rN l i hlt
  have hs:((l.take (i+1)).flatten).map D.s=((l.take i).flatten++l[i]).map D.s:=by rw [h2]
  rw [h2,List.length_append] at h1
  refine kgo ?_
  exact af (i+1) hlt (by omega)
 obtain rfl:i=l.length:=by have:=h;simp at this;omega
 rw [List.take_length]
 refine kgo ?_
 exact oX
theorem BJ (s:ByteArray):FnD Tryz.prog 291 [.s s] (.d (sa (0,s))):=by
 refine ah Tryz.func291 (fun hw W0=>?_)
 refine kgo ?_
 exact aD
theorem od (a:Big) (p:Int) (hp : -1000≤p∧p≤1000) (ha:0≤a.roots∧a.roots≤1000):FnD Tryz.prog 290 [.i p,.p a.D] (.d (.i (p - a.roots))):=by
 refine ah Tryz.func290 (fun hw W0=>?_)
 refine kgo ?_
 exact aD
theorem vf (e:Int × ByteArray):FnD Tryz.prog 293 [sa e] (.d (sa e)):=by
 refine ah Tryz.func293 (fun hw W0=>?_)
 refine kgo ?_
 exact aD
theorem xN {a b:Big} (oa:rA a) (ob:rA b) (hap:io (a.inner.map Wr.name) (b.inner.map Wr.name)=true):FnD Tryz.prog 256 [a.D,b.D] (.d (g8 a b).D):=by
 have ea:=oa.edges
 have eb:=ob.edges
 have ra:=oa.roots
 have rb:=ob.roots
 have la:=oa.outer
 have lb:=ob.outer
 have ia:=oa.inner
 have ib:=ob.inner
 have f1:FnD Tryz.prog 289 [.l 1 [DS a.outer,DS b.outer]] (.row 1 9 ((a.outer++b.outer).map .s)):=by
  have:=zA [a.outer,b.outer] (by simp;omega) (by simp)
  simpa using this
 have f2:FnD Tryz.prog 257 [a.D,b.D,.i (a.roots+b.roots),DI a.sites,DS (a.outer++b.outer),.f 290 [.p a.D],.f 291 []] (.d (rC a b).D):=
  wo a b (a.roots+b.roots) a.sites (a.outer++b.outer) 290 291 [.p a.D] [] (fun s=>(0,s)) (fun p=>p - a.roots) rfl rfl oa.dims ob.dims (by omega) (by omega) ⟨ea.1,by omega⟩ ⟨eb.1,by omega⟩ (by rw [List.length_append];omega) (by have:=oa.sitesN;omega) oa.links oa.wires ob.links ob.wires
   (fun x hx=>⟨by have:=ob.pars x hx;omega,fun h=>od a _ (by have:=ob.pars x hx;omega) ⟨ra.1,by omega⟩⟩) (fun p hp=>⟨by have:=ob.sites p hp;omega,fun h=>od a _ (by have:=ob.sites p hp;omega) ⟨ra.1,by omega⟩⟩)
   (fun l hl=>se a 291 [] (ip b l) _ rfl (by have h1:=hl.1;have h2:=eb.2;unfold ip;split <;> (constructor <;> dsimp only <;> omega)) ⟨ea.1,by omega⟩ (fun _=>BJ _))
 have f3:=mS a (a.edges+b.edges) (a.outer++b.outer) 293 [] id rfl oa.dims (by omega) ⟨by omega,by omega⟩ ⟨by omega,by omega⟩ (by rw [List.length_append];omega) oa.links oa.wires (fun l _=>vf _)
 have hnd:((ym a b).map Wr.name).Nodup:=by rw [pr];exact uP hap oa.inames ob.inames
 have hwl:(ym a b).length≤1000:=by have h:=congrArg List.length (pr a b);simp at h;omega
 have f4:=ow (ym a b) 294 hwl hnd (cH Tryz.func294) uK
 rw [← DQ oa ob]
 have hJ:(rC a b).edges=a.edges+b.edges:=rfl
 have hW:ym a b=(xC a (a.edges+b.edges) (ju a b) fun l=>nC (a.edges+b.edges) (ju a b) (id (ip a l))).inner++(rC a b).inner:=rfl
 have hP:G7 a b=⟨(rC a b).roots,(rC a b).nodes,(rC a b).sites,(rC a b).edges,(rC a b).outer,wE (ym a b)⟩:=rfl
 rw [hP]
 revert f2 f3 hW f4 hJ hwl
 generalize rC a b=J
 generalize hR:(xC a (a.edges+b.edges) (ju a b) fun l=>nC (a.edges+b.edges) (ju a b) (id (ip a l)))=R
 unfold ju at hR
 rw [hR]
 generalize wE (ym a b)=S
 generalize ym a b=W
 intro f2 f3 hwl f4 hJ hW
 subst hW
 rw [List.length_append] at hwl
 rw [← hJ] at f3
 refine ah Tryz.func256 (fun hw W0=>?_)
 refine kgo ?_
 refine H5 ?_
 repeat (first|refine cFz 5 ?_|(refine b8 ?_;first|refine aP ?_|refine cF ?_|refine bh ?_|refine bo ?_|refine aU ?_|refine bl ?_|refine aY ?_|refine aF ?_|refine bk ?_)|(refine fo ?_;first|refine bX ?_|refine fQ ?_|refine cu ?_|refine cD ?_)|(refine fB ?_;first|refine eB (fun _=>?_)|refine cq ?_|refine cf ?_|refine bP ?_|refine cy ?_|refine cB ?_|refine ci ?_)|(refine fx ?_;first|refine b7 ?_|refine eV ?_|refine ca ?_|refine bS ?_|refine cj ?_|refine cm ?_|refine b9 ?_)|(refine fp ?_;first|refine fG ?_|refine fb ?_|refine ch ?_|refine bY ?_|refine fJ ?_|refine be ?_|refine bm ?_)|(refine cb ?_;first|refine bf ?_|refine cC ?_)|(refine ft ?_;first|refine co ?_|refine cr ?_|refine fq ?_)|(refine b6 ?_;first|refine cG ?_|refine bj ?_|refine aT ?_|refine aX ?_|refine aQ ?_|refine bp ?_)|(refine fS ?_;first|refine cd ?_|refine fj ?_|refine bg ?_|refine aR ?_|refine bc ?_)|(refine aO ?_;first|refine ax _ ?_|refine aW ?_|refine aG ?_|refine az ?_|refine aC ?_)|(refine fl ?_;first|refine cz ?_|refine bR ?_|refine cA ?_)|(refine gOp ?_;first|refine fw ?_|refine fy ?_|refine ba ?_|refine fu ?_|refine fE ?_|refine cg ?_|refine aS ?_|refine cE ?_|refine fF ?_|refine bV ?_|refine ct ?_|refine bd ?_|refine aE ?_|refine cw ?_|refine sNo ?_|refine fa ?_|refine aA ?_)|refine e9 ?_|refine ez ?_|refine gx ?_|refine bq ?_|refine cI ?_|refine bF ?_|refine fX ?_|refine gd ?_|refine fU ?_|refine eD ?_|refine cM ?_|refine bu ?_|refine aB ?_|refine br ?_|refine cL ?_|refine bG ?_|refine aBlkX ?_|refine cJ ?_)
 refine rx 2 a.D ?_
 refine kgo ?_
 refine Ic 10004 5 ?_
 exact aD
def yn (sig:List Ctl) (a b:Big):Big × Bool:=if ay sig a && (ay sig b && (io (a.inner.map Wr.name) (b.inner.map Wr.name) && ay sig (g8 a b))) then (g8 a b,true) else (eU,false)
theorem mU (sig:List Ctl) (a b:Big) (ia:a.inner.length≤1000) (ib:b.inner.length≤1000):FnO Tryz.prog 223 [.l 3 (sig.map Ctl.D),a.D,b.D] [6,0] (Bi (yn sig a b).1++[.d (.b (yn sig a b).2)]):=by
 have f1:=gN sig a (by omega)
 have f2:=gN sig b (by omega)
 have f3:=(gr a ia).toL
 have f4:=(gr b ib).toL
 have f5:=nb (a.inner.map Wr.name) (b.inner.map Wr.name)
 rw [rP] at f5
 refine dz Tryz.func223 (fun hw W0=>?_)
 refine kgo ?_
 cases ga:ay sig a
 ·rw [show yn sig a b=(eU,false) from by simp [yn,ga]]
  refine kgo ?_
  exact ic (hp:=.cons (.d rfl) (.cons .m (.cons .n (.cons (.d rfl) (.cons .n (.cons .n (.cons (.d rfl) .nil)))))))
 refine kgo ?_
 cases gb:ay sig b
 ·rw [show yn sig a b=(eU,false) from by simp [yn,gb]]
  refine kgo ?_
  exact ic (hp:=.cons (.d rfl) (.cons .m (.cons .n (.cons (.d rfl) (.cons .n (.cons .n (.cons (.d rfl) .nil)))))))
 refine kgo ?_
 cases gc:io (a.inner.map Wr.name) (b.inner.map Wr.name)
 ·rw [show yn sig a b=(eU,false) from by simp [yn,gc]]
  refine kgo ?_
  exact ic (hp:=.cons (.d rfl) (.cons .m (.cons .n (.cons (.d rfl) (.cons .n (.cons .n (.cons (.d rfl) .nil)))))))
 have f6:=xN (dC ga) (dC gb) gc
 have f7:=oq sig (g8 a b) (by rw [ol];have:=(dC ga).inner;have:=(dC gb).inner;omega)
 rw [show yn sig a b=(yk (ay sig (g8 a b)) (g8 a b),ay sig (g8 a b)) from by unfold yn yk;rw [ga,gb,gc];cases ay sig (g8 a b) <;> rfl]
 refine kgo ?_
 exact ic (hp:=.cons (.d rfl) (.cons (.k rfl rfl) (.cons (.k rfl rfl) (.cons (.d rfl) (.cons (.k rfl rfl) (.cons (.k rfl rfl) (.cons (.d rfl) .nil)))))))
theorem vd (sig:List Ctl) (a b:Big) (ia:a.inner.length≤1000) (ib:b.inner.length≤1000):FnO Tryz.prog 173 [.l 3 (sig.map Ctl.D),a.D,b.D] [6,0] (Bi (n7 sig a b).1++[.d (.b (n7 sig a b).2)]):=by
 have f1:=nb a.outer b.outer
 rw [rP] at f1
 refine dz Tryz.func173 (fun hw W0=>?_)
 refine kgo ?_
 cases gc:io a.outer b.outer
 ·rw [show n7 sig a b=(eU,false) from by simp [n7,gc]]
  refine kgo ?_
  exact ic (hp:=.cons (.d rfl) (.cons .m (.cons .n (.cons (.d rfl) (.cons .n (.cons .n (.cons (.d rfl) .nil)))))))
 have f2:=mU sig a b ia ib
 rw [show n7 sig a b=yn sig a b from by unfold n7 yn;rw [gc,Bool.true_and]]
 refine kgo ?_
 exact ic (hp:=.cons (.d rfl) (.cons (.k rfl rfl) (.cons (.k rfl rfl) (.cons (.d rfl) (.cons (.k rfl rfl) (.cons (.k rfl rfl) (.cons (.d rfl) .nil)))))))
theorem rT (sig:List Ctl) (a b:Big) (ia:a.inner.length≤1000) (ib:b.inner.length≤1000):FnO Tryz.prog 175 [.l 3 (sig.map Ctl.D),a.D,b.D] [6,0] (Bi (eO sig a b).1++[.d (.b (eO sig a b).2)]):=by
 have h:=mR sig a b ia ib (fun ga gb gf=>Fr (dC ga) (dC gb) gf)
 have e:(yk (mJ sig a b) (z8 a b),mJ sig a b)=eO sig a b:=by
  unfold eO mJ yk
  show _=if ay sig a && (ay sig b && (Bl a b && ay sig (ta a b))) then (ta a b,true) else (eU,false)
  cases ga:ay sig a
  ·rfl
  cases gb:ay sig b
  ·rfl
  cases gf:Bl a b
  ·rfl
  rw [Ah (dC ga) (dC gb) gf]
  cases ay sig (ta a b) <;> rfl
 rw [← e]
 exact h
theorem FL (l:List ByteArray):(⟨(0:Nat),[],((List.range 0).map fun i:Nat=>-1 - (i:Int)),0,l,(List.range l.length).map fun i:Nat=>⟨l.getD i ⟨#[]⟩,i⟩⟩:Big)=idB l:=by
 unfold idB
 congr 1
 apply List.ext_getElem (by simp)
 intro i h1 h2
 have:i<l.length:=by simpa using h1
 simp [this]
theorem sE (sig:List Ctl) (ctx red mid par:Big) (ho:red.outer=mid.outer) (hl:mid.inner.length+ctx.inner.length≤1000) (hp:par.inner.length≤1000):FnO Tryz.prog 118 [.l 3 (sig.map Ctl.D),ctx.D,red.D,mid.D,par.D] [6,0] (Bi (mT sig mid ctx par).1++[.d (.b (mT sig mid ctx par).2)]):=by
 have f1:=gr ctx (by omega)
 have f2:=qj (ctx.inner.map Wr.name) red (by simp;omega)
 have hN:((ctx.inner.map Wr.name).filter fun x=>!qx red.outer x)=eR mid.outer (ctx.inner.map Wr.name):=by
  unfold eR
  refine List.filter_congr fun x _=>?_
  unfold qx
  rw [ho,Bool.eq_iff_iff,Bool.not_eq_true',decide_eq_false_iff_not,decide_eq_true_eq];omega
 rw [hN] at f2
 have hNl:(eR mid.outer (ctx.inner.map Wr.name)).length≤ctx.inner.length:=by unfold eR;have:=List.length_filter_le (fun y=>decide (js mid.outer y<0)) (ctx.inner.map Wr.name);simpa using this
 have f3:FnD Tryz.prog 174 [.i 0,DS (eR mid.outer (ctx.inner.map Wr.name))] (.d (idB (eR mid.outer (ctx.inner.map Wr.name))).D):=by
  have:=yf 0 (eR mid.outer (ctx.inner.map Wr.name)) (by omega) (by omega)
  rw [FL] at this
  exact this
 have hA:mT sig mid ctx par=if (n7 sig mid (idB (eR mid.outer (ctx.inner.map Wr.name)))).2 then (if (eO sig ctx (n7 sig mid (idB (eR mid.outer (ctx.inner.map Wr.name)))).1).2 then eO sig (eO sig ctx (n7 sig mid (idB (eR mid.outer (ctx.inner.map Wr.name)))).1).1 par else (eU,false)) else (eU,false):=rfl
 rw [hA]
 clear hA hN
 revert f2 f3 hNl
 generalize eR mid.outer (ctx.inner.map Wr.name)=ns
 intro f2 f3 hNl
 have hI:(idB ns).inner.length=ns.length:=by unfold idB;simp
 have hw:=vC sig mid (idB ns)
 have f4:FnD Tryz.prog 173 [.l 3 (sig.map Ctl.D),mid.D,(idB ns).D] (.tp [(n7 sig mid (idB ns)).1.D,.b (n7 sig mid (idB ns)).2]):=(vd sig mid (idB ns) (by omega) (by omega)).toT
 generalize n7 sig mid (idB ns)=S at hw f4 ⊢
 have f5:FnD Tryz.prog 175 [.l 3 (sig.map Ctl.D),ctx.D,S.1.D] (.tp [(eO sig ctx S.1).1.D,.b (eO sig ctx S.1).2]):=(rT sig ctx S.1 (by omega) (by omega)).toT
 have hc:=sf sig ctx S.1
 generalize eO sig ctx S.1=T at hc f5 ⊢
 have f6:=rT sig T.1 par (by omega) hp
 refine dz Tryz.func118 (fun hw W0=>?_)
 refine kgo ?_
 refine rx 7 red.D ?_
 repeat (first|refine cFz 12 ?_|(refine b8 ?_;first|refine aP ?_|refine cF ?_|refine bh ?_|refine bo ?_|refine aU ?_|refine bl ?_|refine aY ?_|refine aF ?_|refine bk ?_)|(refine fo ?_;first|refine bX ?_|refine fQ ?_|refine cu ?_|refine cD ?_)|(refine fB ?_;first|refine eB (fun _=>?_)|refine cq ?_|refine cf ?_|refine bP ?_|refine cy ?_|refine cB ?_|refine ci ?_)|(refine fx ?_;first|refine b7 ?_|refine eV ?_|refine ca ?_|refine bS ?_|refine cj ?_|refine cm ?_|refine b9 ?_)|(refine fp ?_;first|refine fG ?_|refine fb ?_|refine ch ?_|refine bY ?_|refine fJ ?_|refine be ?_|refine bm ?_)|(refine cb ?_;first|refine bf ?_|refine cC ?_)|(refine ft ?_;first|refine co ?_|refine cr ?_|refine fq ?_)|(refine b6 ?_;first|refine cG ?_|refine bj ?_|refine aT ?_|refine aX ?_|refine aQ ?_|refine bp ?_)|(refine fS ?_;first|refine cd ?_|refine fj ?_|refine bg ?_|refine aR ?_|refine bc ?_)|(refine aO ?_;first|refine ax _ ?_|refine aW ?_|refine aG ?_|refine az ?_|refine aC ?_)|(refine fl ?_;first|refine cz ?_|refine bR ?_|refine cA ?_)|(refine gOp ?_;first|refine fw ?_|refine fy ?_|refine ba ?_|refine fu ?_|refine fE ?_|refine cg ?_|refine aS ?_|refine cE ?_|refine fF ?_|refine bV ?_|refine ct ?_|refine bd ?_|refine aE ?_|refine cw ?_|refine sNo ?_|refine fa ?_|refine aA ?_)|refine e9 ?_|refine ez ?_|refine gx ?_|refine bq ?_|refine cI ?_|refine bF ?_|refine fX ?_|refine gd ?_|refine fU ?_|refine eD ?_|refine cM ?_|refine bu ?_|refine aB ?_|refine br ?_|refine cL ?_|refine bG ?_|refine aBlkX ?_|refine cJ ?_)
 cases g1:S.2
 ·rw [if_neg Bool.false_ne_true]
  refine kgo ?_
  exact ic (hp:=.cons (.d rfl) (.cons .m (.cons .n (.cons (.d rfl) (.cons .n (.cons .n (.cons (.d rfl) .nil)))))))
 rw [if_pos rfl]
 refine kgo ?_
 cases g2:T.2
 ·rw [if_neg Bool.false_ne_true]
  refine kgo ?_
  exact ic (hp:=.cons (.d rfl) (.cons .m (.cons .n (.cons (.d rfl) (.cons .n (.cons .n (.cons (.d rfl) .nil)))))))
 rw [if_pos rfl]
 refine kgo ?_
 exact ic (hp:=.cons (.d rfl) (.cons (.k rfl rfl) (.cons (.k rfl rfl) (.cons (.d rfl) (.cons (.k rfl rfl) (.cons (.k rfl rfl) (.cons (.d rfl) .nil)))))))
end Go.Proofs.YtclpbhoekmecjaaGreatDoor
namespace Go.Proofs.YtclpbhoekmecjaaGreatDoor
open Go.RowKit
set_option linter.unusedVariables false
set_option linter.unusedSimpArgs false
theorem kp {f g:Nat→Bool} {n:Nat} (h:∀i,i<n→f i=g i):(List.range n).filter f=(List.range n).filter g:=List.filter_congr fun i hi=>h i (List.mem_range.1 hi)
theorem qI (f:Nat→Bool) (n i:Nat) (h:i<n):((List.range n).map f).getD i false=f i:=by
 rw [List.getD_eq_getElem?_getD,List.getElem?_eq_getElem (by simpa using h),List.getElem_map,List.getElem_range];rfl
theorem oC (f:Nat→Bool) (n i:Nat) (h:i<n):tkF ((List.range n).map f) true i=f i:=by
 unfold tkF;rw [qI f n i h];cases f i <;> rfl
theorem EI (f:Nat→Bool) (n k:Nat) (h:k≤n):atN ((List.range n).map f) true k=((idxOf f k).length:Int):=by
 unfold atN idxOf
 rw [List.length_map,kp (fun i hi=>oC f n i (by omega))]
theorem vY (f:Nat→Bool) (n:Nat) (p:Int) (h:p<n) (hf:0≤p→f p.toNat=true):tg ((List.range n).map f) true false p=if 0≤p then di (idxOf f n) p else p:=by
 unfold tg
 by_cases h0:0≤p
 ·obtain ⟨k,rfl⟩:=Int.eq_ofNat_of_zero_le h0
  have hk:f k=true:=hf h0
  rw [if_pos (by rw [decide_eq_true h0];simp only [Int.toNat_natCast,Bool.true_and];rw [oC f n k (by omega)];exact hk),if_pos h0,fK k (by omega),if_pos hk,Int.toNat_natCast,EI f n k (by omega)]
 ·rw [if_neg (by rw [decide_eq_false h0];simp),if_neg h0];rfl
theorem ox (f:Nat→Bool) (n:Nat):iA f n=((idxOf f n).length:Int):=by unfold iA idxOf;rw [List.length_map]
theorem qW {r a:Big} {ns:List Int} (he:0≤a.edges) (l:Int) (h:0≤l∧l<a.edges+a.outer.length):atI (lq r a ns) l=iC r a ns l:=by
 unfold lq iC iQ
 have hlen:(jd (eX (aK r a ns) r.edges.toNat) a.edges.toNat).length=a.edges.toNat:=by simp [jd]
 rw [uI _ _ _ h.1,hlen]
 by_cases hl:l<a.edges
 ·rw [if_pos (by omega),if_pos hl]
  obtain ⟨k,rfl⟩:=Int.eq_ofNat_of_zero_le h.1
  have hk:k<a.edges.toNat:=by omega
  rw [fK k hk]
  unfold jd
  rw [my _ _ k (by simpa using hk),List.getElem_range,ox];rfl
 ·rw [if_neg (by omega),if_neg hl,nN _ _ _ (by omega) (by omega),ox,Int.toNat_of_nonneg he];rfl
theorem De {sig:List Ctl} {a:Big} (h:ay sig a=true) {ns:List Int} {k:Nat} (hk:k<a.nodes.length) (hi:hZ a ns k=false):fh ns k=false∧hZ a ns (a.nodes[k]).parent=false:=by
 unfold hZ at hi ⊢
 rw [eP h _ k hk,Bool.or_eq_false_iff] at hi
 exact hi
theorem DZ {sig:List Ctl} {a:Big} (h:ay sig a=true) {ns:List Int} {k:Nat} (hk:k<a.nodes.length) (hi:hZ a ns k=true) (hn:fh ns k=false):hZ a ns (a.nodes[k]).parent=true∧0≤(a.nodes[k]).parent:=by
 unfold hZ at hi ⊢
 rw [eP h _ k hk,hn,Bool.false_or] at hi
 refine ⟨hi,?_⟩
 rcases Int.lt_or_le (a.nodes[k]).parent 0 with h0|h0
 ·rw [d8 _ _ h0] at hi;cases hi
 ·exact h0
theorem Aw {b:Big} {f:Nat→Bool} {ks:List Int} {n:Nat} (g:Int→Nd) (h:∀k,k<n→f k=true→Fl ((List.range n).map f) true false ks (dZ b k)=g k):gH b ((List.range n).map f) true false ks n=(idxOf f n).map g:=by
 unfold gH idxOf
 rw [kp (fun i hi=>oC f n i hi),List.map_map]
 refine List.map_congr_left fun k hk=>?_
 rw [List.mem_filter,List.mem_range] at hk
 exact h k hk.1 hk.2
theorem yz {sig:List Ctl} {r a:Big} {ns:List Int} (hr:ay sig r=true) (ha:ay sig a=true) (him:oS r a ns) (hL:gm r a ns=true) {k:Nat} (hk:k<a.nodes.length) (hi:fh ns k=false) {l:Nat} (hl:(l:Int)∈(a.nodes[k]).links):kC r a ns l=true:=by
 unfold kC
 cases hh:fh ((aK r a ns).take r.edges.toNat) (l:Int) with
 | false=>rfl
 | true=>
  obtain ⟨e,he,e1⟩:=List.mem_take_iff_getElem.1 (cS.1 hh)
  have he1:e<r.edges.toNat∧e<ap r:=by simp [aK] at he;omega
  unfold aK at e1
  rw [List.getElem_map,List.getElem_range] at e1
  obtain ⟨j,hj,e2⟩:=List.mem_iff_getElem.1 hl
  have h1:=AB him hr ha ((aI _ _).1 hL e he1.2) (by omega) (q:=((k:Int),(j:Int))) (ef.2 ⟨k,j,hk,hj,by rw [e1];exact e2,rfl⟩)
  rw [cS.2 h1] at hi;cases hi
theorem zR {b:Big} (o:rA b) {j:Nat} (hj:j<b.outer.length):js (cN b.outer) (b.outer.getD j ⟨#[]⟩)=j:=by
 rw [lT o.names,List.getD_eq_getElem?_getD,List.getElem?_eq_getElem hj]
 exact rq o.names j hj
theorem wh {l:List Int} {x:Int} (h:¬x∈l):di l x = -1:=by
 unfold di;rw [if_neg (fun e=>h (cS.1 e))]
def Ac (a:Big) (l:Int):ByteArray:=a.outer.getD (l - a.edges).toNat ⟨#[]⟩
def nx (r a:Big) (ns:List Int):List Wr:=r.outer.mapIdx fun i s=>⟨s,iC r a ns (atI (aK r a ns) (r.edges+i))⟩
def nu (r a:Big) (ns ps:List Int) (names:List ByteArray):List Wr:=names.mapIdx fun i s=>⟨s,iC r a ns (atI ps i)⟩
def Ew (r a:Big) (m:Mat) (ps:List Int) (names:List ByteArray):Big:=
 ⟨a.roots,(pe a (mx a m.nodes) (iQ r a m.nodes) a.outer (dP a m.nodes) (Ac a)).nodes,m.roots.map (dP a m.nodes),(iQ r a m.nodes).length,cN a.outer,wE (nx r a m.nodes++nu r a m.nodes ps names)⟩
theorem nh {α β:Type} {f g:Nat→α→β} {l:List α} (h:∀i (hi:i<l.length),f i l[i]=g i l[i]):l.mapIdx f=l.mapIdx g:=by
 apply List.ext_getElem (by simp)
 intro i h1 h2
 rw [List.getElem_mapIdx,List.getElem_mapIdx]
 exact h i (by simpa using h1)
theorem kX {l:List ByteArray} (f:Nat→ByteArray→Int):(l.mapIdx fun i s=>(⟨s,f i s⟩:Wr)).map Wr.name=l:=by
 apply List.ext_getElem (by simp)
 intro i h1 h2
 rw [List.getElem_map,List.getElem_mapIdx]
theorem E9 {sig:List Ctl} {r a:Big} {m:Mat} (hr:ay sig r=true) (hs:bL r=true) (ha:ay sig a=true) (hm:dO r a m=true) {ps:List Int} {names:List ByteArray} (hps:∀l∈ps,0≤l∧l<(ap a:Int)) (hnm:names.length=ps.length):Ew r a m ps names=Fg r a m ps names:=by
 obtain ⟨h1,h2,h3,h4⟩:=cK hm
 have him:=iB h1
 have oa:=dC ha
 have or':=dC hr
 have he:=oa.edges
 have hL:ap a=(a.edges+a.outer.length).toNat:=rfl
 have hrt:∀p∈m.roots,p<a.nodes.length∧hZ a m.nodes p=false:=fun p hp=>by
  unfold fe at h2
  rw [Bool.and_eq_true] at h2
  have:=List.all_eq_true.1 h2.1 p hp
  unfold jz at this
  rw [Bool.and_eq_true,Bool.not_eq_true'] at this
  have h5:=bT this.1
  exact ⟨by omega,this.2⟩
 have hpl:∀p:Int,p<a.nodes.length→hZ a m.nodes p=false→tg (du a m.nodes a.nodes.length) true false p=dP a m.nodes p:=fun p h5 h6=>vY _ _ _ h5 (fun h0=>by
  obtain ⟨k,rfl⟩:=Int.eq_ofNat_of_zero_le h0
  show Dy a m.nodes k=true
  unfold Dy
  rw [h6];rfl)
 unfold Ew Fg pe
 dsimp only
 congr 1
 ·symm
  refine Aw _ (fun k hk hf=>?_)
  have hf':hZ a m.nodes k=false:=by unfold Dy at hf;simpa using hf
  obtain ⟨h5,h6⟩:=De ha hk hf'
  have hup:=iy ha k hk
  unfold Fl lJ ey
  rw [aw a k hk]
  rw [show tg ((List.range a.nodes.length).map (Dy a m.nodes)) true false (a.nodes[k]).parent=dP a m.nodes (a.nodes[k]).parent from hpl _ (by omega) h6]
  congr 1
  refine List.map_congr_left fun l hl=>?_
  have hlk:=oa.links _ (List.getElem_mem hk) l hl
  obtain ⟨l,rfl⟩:=Int.eq_ofNat_of_zero_le hlk.1
  rw [qW he.1 _ hlk]
  unfold iC kK
  by_cases hlt:(l:Int)<a.edges
  ·have hkf:=yz hr ha him h4 hk h5 hl
   have e1:di (iQ r a m.nodes) l=_:=fK (f:=kC r a m.nodes) (n:=a.edges.toNat) l (by omega)
   rw [if_pos hkf] at e1
   rw [if_pos hlt,if_pos (by omega)]
  ·rw [if_neg hlt,wh (fun hin=>by
    obtain ⟨q,hq,_,e⟩:=bw.1 hin
    omega),if_neg (by omega)]
   unfold Ac
   rw [zR oa (by omega)];omega
 ·refine List.map_congr_left fun p hp=>?_
  obtain ⟨h5,h6⟩:=hrt p hp
  have:=hpl p h5 h6
  rw [← this]
  unfold tg yh
  by_cases h0:0≤p
  ·obtain ⟨k,rfl⟩:=Int.eq_ofNat_of_zero_le h0
   have hk:k<a.nodes.length:=by omega
   have ht:tkF (du a m.nodes a.nodes.length) true k=true:=by
    unfold du
    rw [oC _ _ k hk]
    unfold Dy
    rw [h6];rfl
   rw [if_pos (by rw [decide_eq_true h0];simpa using ht),if_neg (by omega)]
   unfold atL
   rw [my _ _ k (by simpa using hk),List.getElem_range,Int.toNat_natCast]
  ·rw [if_neg (by rw [decide_eq_false h0];simp),if_neg (show ¬(false=true) by simp),if_pos (by omega)]
 ·exact (ox _ _).symm
 ·exact lT oa.names
 ·have e1:nx r a m.nodes=oQ r (lq r a m.nodes) (aK r a m.nodes):=nh fun i hi=>by
   have hp0:=gR hs
   have:=zS him hr ha hp0 (r.edges+i) (by have:=or'.edges;omega) (by have:=or'.edges;unfold ap;omega)
   rw [qW he.1 _ ⟨this.1,by omega⟩]
  have e2:nu r a m.nodes ps names=zW (lq r a m.nodes) ps names:=nh fun i hi=>by
   have:=hps _ (og (l:=ps) (i:=i) (by omega) (by omega))
   rw [qW he.1 _ ⟨this.1,by omega⟩]
  rw [e1,e2]
  exact vT (by unfold oQ;rw [kX];exact or'.names)
theorem A7:∀i j:Fin 26,i<j→dg (mN i) (mN j)=true:=by decide +kernel
theorem pu (outer:List ByteArray) (n:Nat):(bH outer n).Pairwise NLt:=by
 unfold bH
 refine List.Pairwise.sublist (List.take_sublist _ _) (List.pairwise_map.2 ?_)
 refine List.Pairwise.imp_of_mem (fun {x y} hx hy h=>?_) (List.Pairwise.filter _ List.pairwise_lt_range)
 rw [List.mem_filter,List.mem_range] at hx hy
 exact A7 ⟨x,hx.1⟩ ⟨y,hy.1⟩ h
theorem vh (outer:List ByteArray) (n:Nat):∀s∈bH outer n,¬s∈outer:=fun s hs hm=>by
 unfold bH at hs
 obtain ⟨i,hi,rfl⟩:=List.mem_map.1 (List.mem_of_mem_take hs)
 rw [List.mem_filter] at hi
 have:=hi.2
 unfold k8 at this
 rw [Bool.not_eq_true',List.any_eq_false] at this
 exact this _ hm (by simp)
theorem xQ {sig:List Ctl} {r a:Big} (hr:ay sig r=true) (ns ps:List Int) (n:Nat):((nx r a ns++nu r a ns ps (bH r.outer n)).map Wr.name).Nodup:=by
 rw [List.map_append]
 unfold nx nu
 rw [kX,kX]
 exact List.nodup_append.2 ⟨iK NLt NLt.irr (dC hr).names,iK NLt NLt.irr (pu _ _),fun x hx y hy e=>vh _ _ _ hy (by rw [← e];exact hx)⟩
theorem Ay {sig:List Ctl} {a:Big} (ha:ay sig a=true) (ns:List Int):idxOf (psF a ns) (ap a)=am a ns:=by
 unfold am idxOf
 rw [kp (fun l hl=>?_)]
 unfold psF FA mo
 rw [Bool.eq_iff_iff,decide_eq_true_eq,List.length_pos_iff_exists_mem,List.any_eq_true]
 constructor
 ·rintro ⟨q,hq⟩
  rw [List.mem_filter] at hq
  obtain ⟨hq,hp⟩:=hq
  obtain ⟨i,j,hi,hj,e1,rfl⟩:=ef.1 hq
  simp only [Int.toNat_natCast] at hp
  unfold dY at hp
  rw [qI _ _ i hi] at hp
  exact ⟨i,bw.2 ⟨i,hi,by simpa using hp,rfl⟩,by rw [aw a i hi,cS,← e1];exact List.getElem_mem hj⟩
 ·rintro ⟨k,hk,hl2⟩
  obtain ⟨q,rfl,hq,hp⟩:=gV hk
  rw [aw a q hq,cS] at hl2
  obtain ⟨j,hj,e⟩:=List.mem_iff_getElem.1 hl2
  refine ⟨((q:Int),(j:Int)),List.mem_filter.2 ⟨ef.2 ⟨q,j,hq,hj,e,rfl⟩,?_⟩⟩
  simp only [Int.toNat_natCast]
  unfold dY
  rw [qI _ _ q hq,hp];rfl
def sL (r a:Big) (ns:List Int) (p:Int):Int:=if 0≤di (bB a ns) p then di (bB a ns) p else -1 - di r.sites (di ns p)
def uJ (ps:List Int) (names:List ByteArray) (l:Int):ByteArray:=names.getD (di ps l).toNat ⟨#[]⟩
def GC (r a:Big) (m:Mat) (ps:List Int) (names:List ByteArray):Big:=⟨r.sites.length,(pe a (bB a m.nodes) [] names (sL r a m.nodes) (uJ ps names)).nodes,[],0,cN names,[]⟩
theorem xc {r:Big} {x:Int} (h:0<(bA r x).length):atI (bA r x) 0=di r.sites x:=by
 have hm:(bA r x)[0]∈bA r x:=List.getElem_mem h
 unfold bA at hm
 obtain ⟨q,hq,hf,e⟩:=bw.1 hm
 unfold ii at hf
 rw [List.getElem?_eq_getElem hq] at hf
 have hx:r.sites[q]=x:=by simpa using hf
 have hin:x∈r.sites:=by rw [← hx];exact List.getElem_mem hq
 have e0:atI (bA r x) 0=(q:Int):=by rw [show (0:Int)=((0:Nat):Int) from rfl,bZ _ 0 h];exact e
 rw [e0]
 unfold di
 rw [if_pos (cS.2 hin)]
 have hi:r.sites.idxOf x<r.sites.length:=List.idxOf_lt_length_of_mem hin
 have h1:r.sites.idxOf x≤q:=by
  rcases Nat.lt_or_ge q (r.sites.idxOf x) with h2|h2
  ·have h3:=List.not_of_lt_findIdx (p:=(· == x)) (xs:=r.sites) (i:=q) h2
   rw [hx] at h3
   simp at h3
  ·exact h2
 have h2:((r.sites.idxOf x:Nat):Int)∈bA r x:=bw.2 ⟨_,hi,by unfold ii;rw [List.getElem?_eq_getElem hi];simp,rfl⟩
 obtain ⟨j,hj,e3⟩:=List.mem_iff_getElem.1 h2
 have hinc:(bA r x).Pairwise (· < ·):=gM _ _
 have h3:(q:Int)≤r.sites.idxOf x:=by
  rw [← e3]
  have e':(bA r x)[0]=(q:Int):=e
  rw [← e']
  rcases Nat.eq_zero_or_pos j with rfl|hj0
  ·exact Int.le_refl _
  ·exact Int.le_of_lt (td hinc h hj hj0)
 omega
theorem Bp (ps z:List Int) (k:Nat):lQ ps z k=lP ps z 0 k:=by
 unfold lQ lP
 congr 1
 funext l i
 simp
theorem ES {sig:List Ctl} {r a:Big} {m:Mat} (hr:ay sig r=true) (ha:ay sig a=true) (hm:dO r a m=true) (names:List ByteArray) (hn:names.Pairwise NLt) (hnl:names.length=(am a m.nodes).length):GC r a m (am a m.nodes) names=Fz r a m (am a m.nodes) names:=by
 have hinc:(am a m.nodes).Pairwise (· < ·):=gM _ _
 unfold GC Fz pe
 dsimp only
 rw [lT hn]
 congr 1
 unfold jL bB idxOf dY
 rw [kp (fun i hi=>oC (mn a m.nodes) a.nodes.length i hi),List.map_map]
 refine (List.map_congr_left fun k hk=>?_).symm
 rw [List.mem_filter,List.mem_range] at hk
 obtain ⟨hk,hf⟩:=hk
 have hf2:=hf
 unfold mn at hf2
 rw [Bool.and_eq_true,Bool.not_eq_true'] at hf2
 obtain ⟨h5,h6⟩:=DZ ha hk hf2.1 hf2.2
 have hup:=iy ha k hk
 obtain ⟨q,hq⟩:=Int.eq_ofNat_of_zero_le h6
 have hql:q<a.nodes.length:=by omega
 have hpm:di (bB a m.nodes) (q:Int)=_:=fK (f:=mn a m.nodes) (n:=a.nodes.length) q hql
 unfold jM
 show _=lJ a [] names (sL r a m.nodes) (uJ (am a m.nodes) names) k
 unfold lJ ey
 rw [aw a k hk,hq]
 congr 1
 ·unfold sL
  rw [hq] at h5
  by_cases hh:fh m.nodes (q:Int)=true
  ·have hpf:mn a m.nodes q=false:=by unfold mn;rw [hh];simp
   rw [hpf,if_neg (by simp)] at hpm
   rw [hpm,decide_eq_true hk,hh,if_pos (show (true && true)=true from rfl),if_neg (show ¬(0:Int)≤-1 by omega)]
   have hs:=oH hm k hk hf (by rw [aw a k hk,hq];exact hh)
   rw [aw a k hk,hq] at hs
   unfold kS
   rw [xc hs]
  ·rw [Bool.not_eq_true] at hh
   have hpf:mn a m.nodes q=true:=by unfold mn;rw [hh,h5];rfl
   rw [hpf,if_pos rfl] at hpm
   rw [hh,Bool.and_false,if_neg (by simp),hpm,if_pos (by omega)]
   rw [vY _ _ _ (by omega) (fun _=>hpf),if_pos (by omega)]
   exact hpm
 ·refine List.map_congr_left fun l hl=>?_
  obtain ⟨l,rfl,hll⟩:=iw ((eN ha k hk).2.2.2.2 _ hl)
  have hpl:(l:Int)∈am a m.nodes:=bw.2 ⟨l,hll,List.any_eq_true.2 ⟨k,bw.2 ⟨k,hk,hf,rfl⟩,by rw [aw a k hk];exact cS.2 hl⟩,rfl⟩
  obtain ⟨e,he,e1⟩:=List.mem_iff_getElem.1 hpl
  have hie:=vl hinc e he
  rw [Bp,← e1,wF 0 hinc (fun x hx=>by
   obtain ⟨i,hi,_,rfl⟩:=bw.1 hx
   rw [List.length_replicate];omega) _ (Nat.le_refl _) e he he]
  unfold kK uJ
  rw [wh (l:=[]) (by simp),if_neg (by omega),hie,lT hn,Int.toNat_natCast,List.getD_eq_getElem?_getD,List.getElem?_eq_getElem (by omega)]
  rw [Option.getD_some,rq hn e (by omega)]
  simp
end Go.Proofs.YtclpbhoekmecjaaGreatDoor
namespace Go.Proofs.YtclpbhoekmecjaaGreatDoor
open Go.RowKit
set_option linter.unusedVariables false
set_option linter.unusedSimpArgs false
set_option maxRecDepth 100000
set_option maxHeartbeats 4000000
attribute [local irreducible] au Der At
theorem DD (b:Big) (ns es:List Int) (outer:List ByteArray) (gp gn:Nat) (cp cn:List D) (place:Int→Int) (name:Int→ByteArray) (hcp:(cp.all fun r=>!isT r)=true) (hcn:(cn.all fun r=>!isT r)=true)
 (hn:ns.length≤1000) (he:es.length≤1000) (hol:outer.length≤1000) (hns:∀k∈ns,∃q:Nat,k=q∧q<b.nodes.length) (hll:∀n∈b.nodes,n.links.length≤1000)
 (hp:∀k∈ns,FnD Tryz.prog gp ([.i (dZ b k).parent]++cp) (.d (.i (place (dZ b k).parent)))) (hnm:∀k∈ns,∀l∈(dZ b k).links,di es l<0→FnD Tryz.prog gn ([.i l]++cn) (.d (.s (name l)))) :
 FnO Tryz.prog 162 [b.D,DI ns,DI es,DS outer,.f gp cp,.f gn cn] [6] [.d (.i b.roots),.tk (.row 3 131 ((pe b ns es outer place name).nodes.map Nd.D)),.d (.n 1),.d (.i es.length),.d (DS (cN outer)),.d (.n 2)]:=by
 have f0:=kL outer hol
 have ho:(cN outer).length≤1000:=by have h:=jx outer [];unfold cN;simp at h;omega
 refine dz Tryz.func162 (fun hw W0=>?_)
 refine kgo ?_
 refine oG 10013 1 20001 131 ?_
 refine aq [2,4,5,6,12,13,27,28] (fun i:Nat=>i≤ns.length) (fun i=>ns.length - i) (fun i=>[(10013,.tk (.bx [.d (.i b.roots),.k 20001,.d (.n 1),.d (.i es.length),.d (DS (cN outer)),.d (.n 2)])),(20001,.tk (.row 3 131 (((ns.take i).map (lJ b es outer place name)).map Nd.D))),(29,.sy (.d (.i i)))]) 0 (Nat.zero_le _) (fun i hi=>?_)
 refine kgo ?_
 refine bt (fun h=>?_) (fun h=>?_)
 ·have hlt:i<ns.length:=by omega
  have hmk:=List.getElem_mem hlt
  obtain ⟨q,hq,hqb⟩:=hns _ hmk
  have hnd:dZ b ns[i]=b.nodes[q]:=by rw [hq,aw b q hqb]
  have f1:=hp _ hmk
  have f2:=hnm _ hmk
  rw [hnd] at f1 f2
  have hL:=hll _ (List.getElem_mem hqb)
  refine kgo ?_
  rw [hq]
  refine kgo ?_
  refine oG 10016 2 20002 3 ?_
  refine aq [2,4,5,6,12,13,16,27,28,29,53,54] (fun j:Nat=>j≤(b.nodes[q]).links.length) (fun j=>(b.nodes[q]).links.length - j) (fun j=>[(10016,.tk (.bx [.d (.i (b.nodes[q]).control),.d (.i (place (b.nodes[q]).parent)),.k 20002])),(20002,.tk (.row 1 3 ((((b.nodes[q]).links.take j).map (kK es outer name)).map .i))),(55,.sy (.d (.i j)))]) 0 (Nat.zero_le _) (fun j hj=>?_)
  refine kgo ?_
  refine bt (fun h2=>?_) (fun h2=>?_)
  ·have hjl:j<(b.nodes[q]).links.length:=by omega
   have f3:=iq es (b.nodes[q]).links[j]
   have hr:=gI (fun x=>x == (b.nodes[q]).links[j]) es
   have hlk:kK es outer name (b.nodes[q]).links[j]=if 0≤o6 (fun x=>x == (b.nodes[q]).links[j]) es then o6 (fun x=>x == (b.nodes[q]).links[j]) es else es.length+js (cN outer) (name (b.nodes[q]).links[j]):=rfl
   have f4:=f2 _ (List.getElem_mem hjl)
   have hb:(((b.nodes[q]).links.take j).map (kK es outer name)).length≤1000:=by rw [List.length_map,List.length_take];omega
   have hs:∀V:Int,kK es outer name (b.nodes[q]).links[j]=V→(((b.nodes[q]).links.take (j+1)).map (kK es outer name)).map D.i=(((b.nodes[q]).links.take j).map (kK es outer name)).map D.i++[.i V]:=fun V hV=>by rw [List.take_succ_eq_append_getElem hjl,List.map_append,List.map_append,← hV];rfl
   refine kgo ?_
   refine bt (fun h3=>?_) (fun h3=>?_)
   ·rw [if_pos h3] at hlk
    have hs:=hs _ hlk
    refine kgo ?_
    exact af (j+1) hjl (by omega)
   ·rw [if_neg h3] at hlk
    have hs:=hs _ hlk
    have f4:=f4 (by show o6 _ _<0;omega)
    have f5:=ny (cN outer) (name (b.nodes[q]).links[j])
    have hr2:=mh (cN outer) (name (b.nodes[q]).links[j])
    refine kgo ?_
    exact af (j+1) hjl (by omega)
  rw [show (b.nodes[q]).links.take j=(b.nodes[q]).links from List.take_of_length_le (by omega)]
  have hb:((ns.take i).map (lJ b es outer place name)).length≤1000:=by rw [List.length_map,List.length_take];omega
  have hs:((ns.take (i+1)).map (lJ b es outer place name)).map Nd.D=((ns.take i).map (lJ b es outer place name)).map Nd.D++[Nd.D ⟨(b.nodes[q]).control,place (b.nodes[q]).parent,(b.nodes[q]).links.map (kK es outer name)⟩]:=by
   rw [List.take_succ_eq_append_getElem hlt,List.map_append,List.map_append,← hnd];rfl
  refine bF (aB (aB (bG (bu ?_))))
  refine o7 10016 2 ?_
  refine kgo ?_
  exact af (i+1) hlt (by omega)
 rw [show (pe b ns es outer place name).nodes=(ns.take i).map (lJ b es outer place name) from by rw [List.take_of_length_le (by omega)];rfl]
 refine kgo ?_
 exact ic (hp:=.cons (.d rfl) (.cons (.k rfl rfl) (.cons (.d rfl) (.cons (.d rfl) (.cons (.d rfl) (.cons (.d rfl) .nil))))))
def mA (sig:List Ctl) (r a:Big) (m:Mat):Bool:=(dJ r a m.nodes).2.2 && ay sig (gD r a m)
theorem wU {sig:List Ctl} {r a:Big} (m:Mat) (hbr:ay sig r=true) (hs:bL r=true) (hba:ay sig a=true) (hm:dO r a m=true):FnO Tryz.prog 114 [.l 3 (sig.map Ctl.D),r.D,a.D,m.D] [6,0] (Bi (yk (mA sig r a m) (gD r a m))++[.d (.b (mA sig r a m))]):=by
 obtain ⟨h1,h2,h3,h4⟩:=cK hm
 have him:=iB h1
 have oa:=dC hba
 have orr:=dC hbr
 have hrl:m.roots.length≤1000:=by have h:=iN (ns:=m.nodes) (rs:=m.roots) h2;have:=orr.roots;omega
 obtain ⟨ae,hae⟩:=Int.eq_ofNat_of_zero_le oa.edges.1
 obtain ⟨re,hre⟩:=Int.eq_ofNat_of_zero_le orr.edges.1
 have hrt:=lS h2
 have hpe:dJ r a m.nodes=if decide (16<((am a m.nodes).length:Int)+r.outer.length) then ([],[],false) else (am a m.nodes,bH r.outer (am a m.nodes).length,true):=by unfold dJ;rw [Ay hba]
 have f1:=lU m hbr hs hba him
 have f2:=m8 m.nodes hbr hba him
 rw [h4,ku h4] at f2
 have f3:=Bt m hba
 have hps:∀l∈am a m.nodes,0≤l∧l<(ap a:Int):=fun l hl=>by
  obtain ⟨i,hi,_,rfl⟩:=bw.1 hl
  omega
 by_cases hp:((am a m.nodes).length:Int)+r.outer.length≤16
 case neg=>
  rw [if_pos (by simp;omega)] at hpe
  rw [decide_eq_false hp] at f1
  rw [show mA sig r a m=false from by unfold mA;rw [hpe];rfl]
  refine dz Tryz.func114 (fun hw W0=>?_)
  refine kgo ?_
  exact ic (hp:=.cons (.d rfl) (.cons .m (.cons .n (.cons (.d rfl) (.cons .n (.cons .n (.cons (.d rfl) .nil)))))))
 rw [if_neg (by simp;omega)] at hpe
 rw [decide_eq_true hp] at f1
 have hnl:(bH r.outer (am a m.nodes).length).length=(am a m.nodes).length:=mt (by omega)
 have hX:gD r a m=Ew r a m (am a m.nodes) (bH r.outer (am a m.nodes).length):=by
  unfold gD
  rw [hpe]
  exact (E9 hbr hs hba hm hps hnl).symm
 rw [show mA sig r a m=ay sig (gD r a m) from by unfold mA;rw [hpe];rfl,hX]
 have hil:(aK r a m.nodes).length=ap r:=by unfold aK;simp
 have hix:=zS him hbr hba (gR hs)
 have hna:ap a=ae+a.outer.length:=by unfold ap;omega
 have hnr:ap r=re+r.outer.length:=by unfold ap;omega
 have hkeep:idxOf (kC r a m.nodes) ae=iQ r a m.nodes:=by unfold iQ;rw [hae];rfl
 have hkl:(iQ r a m.nodes).length≤ae:=by rw [← hkeep];exact dI _ _
 have hae8:=oa.edges
 have hre8:=orr.edges
 have hlk:∀l,(0≤l∧l<a.edges+a.outer.length)→FnD Tryz.prog 164 [.i l,.p a.D,.p (DI (iQ r a m.nodes))] (.d (.i (iC r a m.nodes l))):=fun l hl=>sd a (iQ r a m.nodes) l ⟨hl.1,by have:=oa.outer;omega⟩ ⟨hae8.1,by omega⟩ (by omega)
 have hpl:∀p,FnD Tryz.prog 161 [.i p,.p (DI (mx a m.nodes))] (.d (.i (dP a m.nodes p))):=fun p=>sP (mx a m.nodes) p
 have hrest:∀k∈mx a m.nodes,∃q:Nat,k=q∧q<a.nodes.length∧hZ a m.nodes q=false:=fun k hk=>by
  obtain ⟨q,hq,hf,e⟩:=bw.1 hk
  exact ⟨q,e,hq,by simpa using hf⟩
 have hrestl:(mx a m.nodes).length≤a.nodes.length:=dI _ _
 have f4:=DD a (mx a m.nodes) (iQ r a m.nodes) a.outer 161 163 [.p (DI (mx a m.nodes))] [.p a.D] (dP a m.nodes) (Ac a) rfl rfl (by have:=oa.nodes;omega) (by omega) (by have:=oa.outer;omega) (fun k hk=>by obtain ⟨q,e,hq,_⟩:=hrest k hk;exact ⟨q,e,hq⟩) (fun n hn=>by
  obtain ⟨i,hi,rfl⟩:=List.mem_iff_getElem.1 hn
  exact (bD hba).7 i hi) (fun k _=>hpl _) (fun k hk l hl hno=>by
  obtain ⟨q,rfl,hq,hf⟩:=hrest k hk
  rw [aw a q hq] at hl
  have hlr:=oa.links _ (List.getElem_mem hq) l hl
  refine sp a l ?_ (by omega) ⟨hae8.1,by omega⟩ (by have:=oa.outer;omega)
  obtain ⟨j,rfl⟩:=Int.eq_ofNat_of_zero_le hlr.1
  rcases Int.lt_or_le (j:Int) a.edges with hlt|hge
  ·have hkf:=yz hbr hba him h4 hq (De hba hq hf).1 hl
   have e1:di (iQ r a m.nodes) j=_:=fK (f:=kC r a m.nodes) (n:=a.edges.toNat) j (by omega)
   rw [if_pos hkf] at e1
   omega
  ·omega)
 have hw1:(nx r a m.nodes).length=r.outer.length:=by unfold nx;simp
 have hw2:(nu r a m.nodes (am a m.nodes) (bH r.outer (am a m.nodes).length)).length=(am a m.nodes).length:=by unfold nu;simpa using hnl
 have hnd:=xQ (a:=a) hbr m.nodes (am a m.nodes) (am a m.nodes).length
 have f5:=ow (nx r a m.nodes++nu r a m.nodes (am a m.nodes) (bH r.outer (am a m.nodes).length)) 166 (by rw [List.length_append];omega) hnd (cH Tryz.func166) rY
 have hinl:(Ew r a m (am a m.nodes) (bH r.outer (am a m.nodes).length)).inner.length≤1000:=by
  unfold Ew
  rw [vu,List.length_append];omega
 have f6:=oq sig (Ew r a m (am a m.nodes) (bH r.outer (am a m.nodes).length)) hinl
 have hs1:∀i (h:i<r.outer.length),(nx r a m.nodes).take (i+1)=(nx r a m.nodes).take i++[⟨r.outer[i],iC r a m.nodes (atI (aK r a m.nodes) (r.edges+i))⟩]:=fun i h=>by
  rw [List.take_succ_eq_append_getElem (by omega)];unfold nx;simp
 have hP:Ew r a m (am a m.nodes) (bH r.outer (am a m.nodes).length)=⟨a.roots,(pe a (mx a m.nodes) (iQ r a m.nodes) a.outer (dP a m.nodes) (Ac a)).nodes,m.roots.map (dP a m.nodes),(iQ r a m.nodes).length,cN a.outer,wE (nx r a m.nodes++nu r a m.nodes (am a m.nodes) (bH r.outer (am a m.nodes).length))⟩:=rfl
 rw [hP] at f6 ⊢
 clear hP hX hpe hnd
 have hs2:∀i (h:i<(bH r.outer (am a m.nodes).length).length) (h':i<(am a m.nodes).length),(nu r a m.nodes (am a m.nodes) (bH r.outer (am a m.nodes).length)).take (i+1)=(nu r a m.nodes (am a m.nodes) (bH r.outer (am a m.nodes).length)).take i++[⟨(bH r.outer (am a m.nodes).length)[i],iC r a m.nodes (am a m.nodes)[i]⟩]:=fun i h h'=>by
  rw [List.take_succ_eq_append_getElem (by omega)];unfold nu;simp [bZ _ i h']
 generalize nu r a m.nodes (am a m.nodes) (bH r.outer (am a m.nodes).length)=W2 at *
 generalize nx r a m.nodes=W1 at *
 generalize bH r.outer (am a m.nodes).length=nm at *
 generalize am a m.nodes=L at *
 generalize (pe a (mx a m.nodes) (iQ r a m.nodes) a.outer (dP a m.nodes) (Ac a)).nodes=pn at *
 generalize mx a m.nodes=rest at *
 refine dz Tryz.func114 (fun hw W0=>?_)
 refine kgo ?_
 refine aq [0,5,6,7,8,10,11,13,15,48] (fun i:Nat=>i≤ae) (fun i=>ae - i) (fun i=>[(49,.sy (.d (.i i))),(10015,.tk (.bx [.k 20001])),(20001,.tk (.row 1 3 ((idxOf (kC r a m.nodes) i).map .i)))]) 0 (Nat.zero_le _) (fun i hi=>?_)
 refine kgo ?_
 refine bt (fun h=>?_) (fun h=>?_)
 ·have hlt:i<ae:=by omega
  have f7:=fP ((aK r a m.nodes).take re) i
  have hli:=dI (kC r a m.nodes) i
  refine kgo ?_
  refine bR (n:=re) ?_ rfl rfl (congrArg some hre)
  cases hk:fh ((aK r a m.nodes).take re) i
  ·rw [hk] at f7
   have hf:kC r a m.nodes i=true:=by unfold kC;rw [hre];show (!fh ((aK r a m.nodes).take re) i)=true;rw [hk];rfl
   have hs:(idxOf (kC r a m.nodes) (i+1)).map D.i=(idxOf (kC r a m.nodes) i).map D.i++[.i i]:=by rw [cY hf,List.map_append];rfl
   refine kgo ?_
   exact af (i+1) hlt (by omega)
  ·rw [hk] at f7
   have hf:kC r a m.nodes i=false:=by unfold kC;rw [hre];show (!fh ((aK r a m.nodes).take re) i)=false;rw [hk];rfl
   have hs:(idxOf (kC r a m.nodes) (i+1)).map D.i=(idxOf (kC r a m.nodes) i).map D.i:=by rw [dQ hf]
   refine kgo ?_
   exact af (i+1) hlt (by omega)
 rw [show i=ae by omega,hkeep]
 refine bF (aB (aB (bG (bu ?_))))
 refine o7 10015 0 ?_
 refine kgo ?_
 refine rx 17 (DI rest) ?_
 refine kgo ?_
 refine rx 6 a.D ?_
 refine kgo ?_
 refine rx 15 (DI (iQ r a m.nodes)) ?_
 refine kgo ?_
 refine oG 10019 2 20002 3 ?_
 refine aq [0,5,8,10,11,13,18,19,20,78,79,31075] (fun i:Nat=>i≤m.roots.length) (fun i=>m.roots.length - i) (fun i=>[(80,.sy (.d (.i i))),(10019,.tk (.bx [.d (.i a.roots),.k 31075,.k 20002,.d (.i (iQ r a m.nodes).length),.d (DS (cN a.outer)),.d (.n 2)])),(20002,.tk (.row 1 3 (((m.roots.take i).map (dP a m.nodes)).map .i)))]) 0 (Nat.zero_le _) (fun i hi=>?_)
 refine kgo ?_
 refine bt (fun h=>?_) (fun h=>?_)
 ·have hlt:i<m.roots.length:=by omega
  have f7:=hpl m.roots[i]
  have hs:((m.roots.take (i+1)).map (dP a m.nodes)).map D.i=((m.roots.take i).map (dP a m.nodes)).map D.i++[.i (dP a m.nodes m.roots[i])]:=by rw [List.take_succ_eq_append_getElem hlt,List.map_append,List.map_append];rfl
  have hq:((m.roots.take i).map (dP a m.nodes)).length≤1000:=by rw [List.length_map,List.length_take];omega
  refine kgo ?_
  exact af (i+1) hlt (by omega)
 rw [show m.roots.take i=m.roots from List.take_of_length_le (by omega)]
 refine kgo ?_
 refine oG 10019 5 20003 133 ?_
 refine aq [0,5,8,10,11,13,19,20,94,95,31075,20002] (fun i:Nat=>i≤r.outer.length) (fun i=>r.outer.length - i) (fun i=>[(96,.sy (.d (.i i))),(10019,.tk (.bx [.d (.i a.roots),.k 31075,.k 20002,.d (.i (iQ r a m.nodes).length),.d (DS (cN a.outer)),.k 20003])),(20003,.tk (.row 2 133 ((W1.take i).map Wr.D)))]) 0 (Nat.zero_le _) (fun i hi=>?_)
 refine kgo ?_
 refine bt (fun h=>?_) (fun h=>?_)
 ·have hlt:i<r.outer.length:=by omega
  have hx:=hix (r.edges+i) (by omega) (by omega)
  have f7:=hlk (atI (aK r a m.nodes) (r.edges+i)) ⟨hx.1,by omega⟩
  have hs:(W1.take (i+1)).map Wr.D=(W1.take i).map Wr.D++[Wr.D ⟨r.outer[i],iC r a m.nodes (atI (aK r a m.nodes) (r.edges+i))⟩]:=by rw [hs1 i hlt,List.map_append];rfl
  have hq:(W1.take i).length≤1000:=by rw [List.length_take];omega
  refine kgo ?_
  exact af (i+1) hlt (by omega)
 rw [show W1.take i=W1 from List.take_of_length_le (by omega)]
 refine kgo ?_
 refine Fp 20003 (t':=.row 2 133 ((W1++W2.take 0).map Wr.D)) (by rw [List.take_zero,List.append_nil]) ?_
 refine aq [0,8,10,19,20,118,119,31075,20002] (fun i:Nat=>i≤nm.length) (fun i=>nm.length - i) (fun i=>[(120,.sy (.d (.i i))),(10019,.tk (.bx [.d (.i a.roots),.k 31075,.k 20002,.d (.i (iQ r a m.nodes).length),.d (DS (cN a.outer)),.k 20003])),(20003,.tk (.row 2 133 ((W1++W2.take i).map Wr.D)))]) 0 (Nat.zero_le _) (fun i hi=>?_)
 refine kgo ?_
 refine bt (fun h=>?_) (fun h=>?_)
 ·have hlt:i<nm.length:=by omega
  have hltL:i<L.length:=by omega
  have hx:=hps _ (List.getElem_mem hltL)
  have f7:=hlk L[i] ⟨hx.1,by omega⟩
  have hs:(W1++W2.take (i+1)).map Wr.D=(W1++W2.take i).map Wr.D++[Wr.D ⟨nm[i],iC r a m.nodes L[i]⟩]:=by rw [hs2 i hlt hltL,← List.append_assoc,List.map_append];rfl
  have hq:(W1++W2.take i).length≤1000:=by rw [List.length_append,List.length_take];omega
  refine kgo ?_
  exact af (i+1) hlt (by omega)
 rw [show W2.take i=W2 from List.take_of_length_le (by omega)]
 refine bF (aB (aB (bG (bu ?_))))
 refine o7 10019 1 ?_
 refine o7 10019 2 ?_
 refine e9 (ez ?_)
 refine bX ?_
 refine aP ?_
 refine aQ ?_
 refine eD (bu ?_)
 refine o7 10019 5 ?_
 refine kgo ?_
  --STOP
 exact ic (hp:=.cons (.d rfl) (.cons (.k rfl rfl) (.cons (.k rfl rfl) (.cons (.d rfl) (.cons (.k rfl rfl) (.cons (.k rfl rfl) (.cons (.d rfl) .nil)))))))
end Go.Proofs.YtclpbhoekmecjaaGreatDoor
namespace Go.Proofs.YtclpbhoekmecjaaGreatDoor
open Go.RowKit
set_option linter.unusedVariables false
set_option linter.unusedSimpArgs false
set_option maxRecDepth 100000
set_option maxHeartbeats 4000000
section
variable {P:Program} {ops:Array Oper} {W0:bU} {N:Nat} {Fin:Us→Env→Prop} {os:List Oper} {us:Us} {pk fk:List Nat} {σ:Env} {g:Option (Nat × Bool)} {gk:List Nat} {d ty ty' f:Nat} {pos:String} {after:Array Edge} {at':Array TypeId} {xs:List Operand} {ds:List D}
theorem DK {sh:List Nat} {ps:List Pt} (h:Der P ops W0 N Fin os (us++[((d :: (gk++(((List.range ps.length).map fun k=>30000+1000 * k+d)++kxs xs)))++pk,(d :: (nw d 0 ps).map Prod.fst)++fk)]) [] [] ((d,.sy (Ed (BR sh (BQ d 0 ps)))) :: (nw d 0 ps++σ))) (hx:Fh σ xs=some ds:=by rfl) (hf:FnO P f ds sh ps:=by assumption) (hi:((List.range ps.length).all fun k=>(ak σ (30000+1000 * k+d)).isNone)=true:=by rfl) (hg:gst ops σ g=some (true,gk):=by rfl) (hN:Nat.blt d N=true:=by rfl) (hs:aH (nw d 0 ps++σ) d=true:=by rfl) (hu:(nw d 0 ps).all (fun p=>!(Nat.beq p.1 d))=true:=by rfl):Der P ops W0 N Fin (⟨some d,.call { callee:=.value (.func f),args:=xs.toArray,argTypes:=at' },ty,pos,after,g⟩ :: os) us pk fk σ:=
 jv (Ed (BR sh (BQ d 0 ps))) (((List.range ps.length).map fun k=>30000+1000 * k+d)++kxs xs) (nw d 0 ps) (fun σ' c a w hk hc=>by
  unfold Oper.wp
  rw [bK hf.enter rfl]
  refine (hf.calls c.F w _ (rk hc xs ds hx (fun κ hκ=>hk κ (by simp [hκ]))) hc.lt).mono ?_
  rintro e' w' ⟨vs,T,rfl,hX,hl,hT,hdis,hel⟩
  have hc1:=hc.grow hX (fun b=>fresh w w' c.F b∧∀j,¬T j b) (fun b hb=>⟨.inl hb,fun j e=>by have:=hc.lt b hb;have e2:w.heap.size≤b:=(hT j b e).1;omega⟩) (fun _ h=>h.1.imp id (fun h=>h.1)) (fun b hb=>hb.1.elim (fun h'=>Nat.lt_of_lt_of_le (hc.lt b h') (Below.size hX)) (fun h=>h.2))
  obtain ⟨c',h1,h2,h3,h4,h5⟩:=nH hc1 d w.heap.size T hc.ext.size (fun j u hj b hb=>((hc.tok j u hj).2.2 b hb).2.1) (fun i b hb=>⟨fun hF=>hF.2 i hb,hT i b hb⟩) hdis ps 0 vs (fun k=>by
   rcases Nat.lt_or_ge k ps.length with hk'|hk'
   ·left
    rw [Nat.zero_add,hk _ (List.mem_append_left _ (List.mem_map.2 ⟨k,List.mem_range.2 hk',rfl⟩))]
    have:=List.all_eq_true.1 hi k (List.mem_range.2 hk')
    simpa using this
   ·exact .inr hk') hl (fun k p hp=>by rw [Nat.zero_add];exact hel k p hp)
  exact ⟨_,c',rfl,h1,uQ _ _ (zI sh _ _ h5)⟩) h hg hN hs hu
end
theorem FnO.arg {P:Program} {f:Nat} {ds ds':List D} {sh:List Nat} {ps:List Pt} (h:FnO P f ds sh ps) (hd:∀w F vs,DVs w F ds' vs→DVs w F ds vs):FnO P f ds' sh ps:=⟨h.enter,fun F w vs hv hF=>h.calls F w vs (hd _ _ _ hv) hF⟩
attribute [local irreducible] au Der At
theorem oh (r a:Big) (m:Mat) (p:Int):FnD Tryz.prog 168 [.i p,.p (DI (bB a m.nodes)),.p r.D,.p m.D] (.d (.i (sL r a m.nodes p))):=by
 have f1:=iq (bB a m.nodes) p
 have f2:=iq m.nodes p
 have f3:=iq r.sites (o6 (fun x=>x == p) m.nodes)
 have h1:=gI (fun x=>x == p) (bB a m.nodes)
 have h2:=gI (fun x=>x == o6 (fun x=>x == p) m.nodes) r.sites
 have hE:sL r a m.nodes p=if 0≤o6 (fun x=>x == p) (bB a m.nodes) then o6 (fun x=>x == p) (bB a m.nodes) else -1 - o6 (fun x=>x == o6 (fun x=>x == p) m.nodes) r.sites:=rfl
 refine ah Tryz.func168 (fun hw W0=>?_)
 have hsl:=(wfM hw.2.2.1.2.2.1).1
 unfold maxLen at hsl
 refine kgo ?_
 refine bt (fun h=>?_) (fun h=>?_)
 ·rw [if_pos h] at hE
  rw [hE]
  refine kgo ?_
  exact aD
 ·rw [if_neg h] at hE
  rw [hE]
  refine kgo ?_
  exact aD
theorem om (L:List Int) (nm:List ByteArray) (l:Int) (j:Nat) (hj:o6 (fun x=>x == l) L=j) (hl:j<nm.length):FnD Tryz.prog 169 [.i l,.p (DS nm),.p (DI L)] (.d (.s nm[j])):=by
 have f1:=iq L l
 rw [hj] at f1
 refine ah Tryz.func169 (fun hw W0=>?_)
 refine kgo ?_
 exact aD
def mu (sig:List Ctl) (r a:Big) (m:Mat):Bool:=(dJ r a m.nodes).2.2 && ay sig (fC r a m)
theorem rE {sig:List Ctl} {r a:Big} (m:Mat) (hbr:ay sig r=true) (hs:bL r=true) (hba:ay sig a=true) (hm:dO r a m=true):FnO Tryz.prog 115 [.l 3 (sig.map Ctl.D),r.D,a.D,m.D] [6,0] (Bi (yk (mu sig r a m) (fC r a m))++[.d (.b (mu sig r a m))]):=by
 have him:=iB (cK hm).1
 have oa:=dC hba
 have orr:=dC hbr
 have hpe:dJ r a m.nodes=if decide (16<((am a m.nodes).length:Int)+r.outer.length) then ([],[],false) else (am a m.nodes,bH r.outer (am a m.nodes).length,true):=by unfold dJ;rw [Ay hba]
 have f1:=lU m hbr hs hba him
 have f3:=lB m hba
 by_cases hp:((am a m.nodes).length:Int)+r.outer.length≤16
 case neg=>
  rw [if_pos (by simp;omega)] at hpe
  rw [decide_eq_false hp] at f1
  rw [show mu sig r a m=false from by unfold mu;rw [hpe];rfl]
  refine dz Tryz.func115 (fun hw W0=>?_)
  refine kgo ?_
  exact ic (hp:=.cons (.d rfl) (.cons .m (.cons .n (.cons (.d rfl) (.cons .n (.cons .n (.cons (.d rfl) .nil)))))))
 rw [if_neg (by simp;omega)] at hpe
 rw [decide_eq_true hp] at f1
 have hnl:(bH r.outer (am a m.nodes).length).length=(am a m.nodes).length:=mt (by omega)
 have hX:fC r a m=GC r a m (am a m.nodes) (bH r.outer (am a m.nodes).length):=by
  unfold fC
  rw [hpe]
  exact (ES hbr hba hm _ (pu _ _) hnl).symm
 rw [show mu sig r a m=ay sig (fC r a m) from by unfold mu;rw [hpe];rfl,hX]
 have hpar:∀k∈bB a m.nodes,∃q:Nat,k=q∧q<a.nodes.length∧mn a m.nodes q=true:=fun k hk=>gV hk
 have hparl:(bB a m.nodes).length≤a.nodes.length:=dI _ _
 have hinc:(am a m.nodes).Pairwise (· < ·):=gM _ _
 have f4:=(DD a (bB a m.nodes) [] (bH r.outer (am a m.nodes).length) 168 169 [.p (DI (bB a m.nodes)),.p r.D,.p m.D] [.p (DS (bH r.outer (am a m.nodes).length)),.p (DI (am a m.nodes))] (sL r a m.nodes) (uJ (am a m.nodes) (bH r.outer (am a m.nodes).length)) rfl rfl (by have:=oa.nodes;omega) (by simp) (by omega) (fun k hk=>by obtain ⟨q,e,hq,_⟩:=hpar k hk;exact ⟨q,e,hq⟩) (fun n hn=>by
  obtain ⟨i,hi,rfl⟩:=List.mem_iff_getElem.1 hn
  exact (bD hba).7 i hi) (fun k _=>oh r a m _) (fun k hk l hl _=>by
  obtain ⟨q,rfl,hq,hf⟩:=hpar k hk
  rw [aw a q hq] at hl
  obtain ⟨l,rfl,hll⟩:=iw ((eN hba q hq).2.2.2.2 _ hl)
  have hpl:(l:Int)∈am a m.nodes:=bw.2 ⟨l,hll,List.any_eq_true.2 ⟨q,bw.2 ⟨q,hq,hf,rfl⟩,by rw [aw a q hq];exact cS.2 hl⟩,rfl⟩
  obtain ⟨e,he,e1⟩:=List.mem_iff_getElem.1 hpl
  have hie:=vl hinc e he
  rw [e1] at hie
  have hf2:=om (am a m.nodes) (bH r.outer (am a m.nodes).length) l e hie (by omega)
  unfold uJ
  rw [hie,Int.toNat_natCast,List.getD_eq_getElem?_getD,List.getElem?_eq_getElem (by omega)]
  exact hf2)).arg (ds':=[a.D,DI (bB a m.nodes),.n 1,DS (bH r.outer (am a m.nodes).length),.f 168 [.p (DI (bB a m.nodes)),.p r.D,.p m.D],.f 169 [.p (DS (bH r.outer (am a m.nodes).length)),.p (DI (am a m.nodes))]]) (fun w F vs h=>by
  obtain ⟨v1,t1,rfl,h1,v2,t2,rfl,h2,v3,t3,rfl,h3,h4⟩:=h
  exact ⟨_,_,rfl,h1,_,_,rfl,h2,_,_,rfl,zq h3,h4⟩)
 have f6:=oq sig (GC r a m (am a m.nodes) (bH r.outer (am a m.nodes).length)) (Nat.zero_le _)
 have hP:GC r a m (am a m.nodes) (bH r.outer (am a m.nodes).length)=⟨r.sites.length,(pe a (bB a m.nodes) [] (bH r.outer (am a m.nodes).length) (sL r a m.nodes) (uJ (am a m.nodes) (bH r.outer (am a m.nodes).length))).nodes,[],0,cN (bH r.outer (am a m.nodes).length),[]⟩:=rfl
 rw [hP] at f6 ⊢
 clear hP hX hpe
 generalize hpn:(pe a (bB a m.nodes) [] (bH r.outer (am a m.nodes).length) (sL r a m.nodes) (uJ (am a m.nodes) (bH r.outer (am a m.nodes).length))).nodes=pn at *
 generalize bH r.outer (am a m.nodes).length=nm at *
 generalize am a m.nodes=L at *
 refine dz Tryz.func115 (fun hw W0=>?_)
 refine kgo ?_
 refine rx 13 (DI (bB a m.nodes)) ?_
 refine rx 5 r.D ?_
 refine rx 7 m.D ?_
 refine kgo ?_
 refine rx 11 (DS nm) ?_
 refine rx 10 (DI L) ?_
 refine kgo ?_
 refine DK (hf:=f4) ?_
 refine aS ?_
 refine az ?_
 refine eD (bu ?_)
 refine o7 10014 1 ?_
 refine kgo ?_
 exact ic (hp:=.cons (.d rfl) (.cons (.k rfl rfl) (.cons (.k rfl rfl) (.cons (.d rfl) (.cons (.k rfl rfl) (.cons (.k rfl rfl) (.cons (.d rfl) .nil)))))))
end Go.Proofs.YtclpbhoekmecjaaGreatDoor
namespace Go.Proofs.YtclpbhoekmecjaaGreatDoor
open Go.RowKit
set_option linter.unusedVariables false
set_option linter.unusedSimpArgs false
set_option maxRecDepth 100000
set_option maxHeartbeats 4000000
attribute [local irreducible] au Der At
def mpL (f:Nat→Bool) (root v0 base:Int):Nat→List (Int × Int)
 | 0=>[(root,v0)]
 | k+1=>if f k then mpL f root v0 base k++[((k:Int),base+(idxOf f k).length)] else mpL f root v0 base k
theorem A0 (f:Nat→Bool) (root v0 base:Int) (hr:root<0):∀(k:Nat) (x:Int),nE (mpL f root v0 base k) x=if x<0 then (if x=root then some v0 else none) else if x<k && f x.toNat then some (base+(idxOf f x.toNat).length) else none:=by
 intro k
 induction k with
 | zero=>
  intro x
  unfold mpL nE nE
  by_cases hx:x<0
  ·rw [if_pos hx]
  ·rw [if_neg hx,if_neg (by omega),if_neg (by simp;omega)]
 | succ k ih=>
  intro x
  unfold mpL
  by_cases hf:f k=true
  ·rw [if_pos hf,B7,ih]
   by_cases hx:x<0
   ·rw [if_pos hx,if_pos hx,if_neg (show ¬x=(k:Int) by omega)]
    by_cases h:x=root
    ·rw [if_pos h];rfl
    ·rw [if_neg h];rfl
   ·rw [if_neg hx,if_neg hx]
    by_cases hk:x=(k:Int)
    ·subst hk
     rw [if_pos rfl,if_neg (by simp),if_pos (by simp [hf];omega)];rfl
    ·rw [if_neg hk]
     by_cases hl:x<k
     ·rw [decide_eq_true hl,decide_eq_true (show x<((k+1:Nat):Int) by omega)]
      cases f x.toNat <;> rfl
     ·rw [decide_eq_false hl,decide_eq_false (show ¬x<((k+1:Nat):Int) by omega)];rfl
  ·rw [if_neg hf,ih]
   by_cases hx:x<0
   ·rw [if_pos hx,if_pos hx]
   ·rw [if_neg hx,if_neg hx]
    by_cases hk:x=(k:Int)
    ·subst hk
     rw [if_neg (by simp),if_neg (by simp [hf])]
    ·by_cases hl:x<k
     ·rw [decide_eq_true hl,decide_eq_true (show x<((k+1:Nat):Int) by omega)]
     ·rw [decide_eq_false hl,decide_eq_false (show ¬x<((k+1:Nat):Int) by omega)]
theorem sX {sig:List Ctl} (r:Rul) {p:Big} (hp:ay sig p=true) (hc:r.copies.length≤100) (hc0:∀c∈r.copies,0≤c∧c≤1000):FnD Tryz.prog 117 [r.D,p.D] (.d (lX r.copies p).D):=by
 have hd:=aN hp
 have hdm:=bD hp
 have f1:=nz p.outer (by omega)
 refine ah Tryz.func117 (fun hw W0=>?_)
 refine kgo ?_
 refine oG 10005 1 20001 131 ?_
 refine aq [3,4,5,21,22,10018] (fun i:Nat=>i≤r.copies.length) (fun i=>r.copies.length - i) (fun i=>[(23,.sy (.d (.i i))),(10005,.tk (.bx [.d (.i r.copies.length),.k 20001,.d (.n 1),.d (.i 0),.k 10018,.d (.n 2)])),(20001,.tk (.row 3 131 ((dB p r.copies i).map Nd.D)))]) 0 (Nat.zero_le _) (fun i hi=>?_)
 refine kgo ?_
 refine bt (fun h=>?_) (fun h=>?_)
 ·have hlt:i<r.copies.length:=by omega
  have hci:=hc0 _ (List.getElem_mem hlt)
  have hil:=tb p r.copies i
  have hb1:i * p.nodes.length≤100 * 8:=Nat.mul_le_mul (by omega) hd.2.1
  have hil2:(dB p r.copies i).length≤800:=by omega
  have hnext:dB p r.copies (i+1)=dB p r.copies i++(o5 p (-1 - r.copies[i])).map (dN p (o5 p (-1 - r.copies[i])) i (dB p r.copies i).length):=by rw [← bZ r.copies i hlt];rfl
  refine kgo ?_
  refine EU ?_
  refine kgo ?_
  refine DH ?_ rfl
  have hul:(o5 p (-1 - r.copies[i])).length≤p.nodes.length:=dS _ _
  have hix:∀q:Nat,q<p.nodes.length→iF p (-1 - r.copies[i]) q=true→di (o5 p (-1 - r.copies[i])) (q:Int)=((idxOf (iF p (-1 - r.copies[i])) q).length:Int):=fun q hq hf=>by
   have:=fK (f:=iF p (-1 - r.copies[i])) (n:=p.nodes.length) q hq
   rw [if_pos hf] at this
   exact this
  have hall:idxOf (iF p (-1 - r.copies[i])) p.nodes.length=o5 p (-1 - r.copies[i]):=rfl
  obtain ⟨root,hroot⟩:∃root,root = -1 - r.copies[i]:=⟨_,rfl⟩
  rw [← hroot] at hnext hul hix hall ⊢
  generalize hba:(dB p r.copies i).length=base at *
  generalize o5 p root=lst at *
  refine kgo ?_
  refine Fp 20001 (t':=.row 3 131 ((dB p r.copies i++(idxOf (iF p root) 0).map (dN p lst i base)).map Nd.D)) (by rw [show idxOf (iF p root) 0 = [] from rfl,List.map_nil,List.append_nil]) ?_
  refine aq [3,4,5,8,21,22,23,35,36,20001,10018] (fun k:Nat=>k≤p.nodes.length) (fun k=>p.nodes.length - k) (fun k=>[(37,.sy (.d (.i k))),(10005,.tk (.bx [.d (.i r.copies.length),.k 20001,.d (.n 1),.d (.i 0),.k 10018,.d (.n 2)])),(20001,.tk (.row 3 131 ((dB p r.copies i++(idxOf (iF p root) k).map (dN p lst i base)).map Nd.D))),(10028,.tk (.mp (mpL (iF p root) root (-1 - (i:Int)) base k)))]) 0 (Nat.zero_le _) (fun k hk=>?_)
  refine kgo ?_
  refine bt (fun h2=>?_) (fun h2=>?_)
  ·have hkl:k<p.nodes.length:=by omega
   have hup:=iy hp k hkl
   have hund:=oR p root k hkl
   have hnd:dZ p k=p.nodes[k]:=aw p k hkl
   have hg:=A0 (iF p root) root (-1 - (i:Int)) base (by omega) k (p.nodes[k]).parent
   have hgk:=A0 (iF p root) root (-1 - (i:Int)) base (by omega) k k
   rw [if_neg (by omega),if_neg (by simp)] at hgk
   have hlk:=dI (iF p root) k
   have hq:∀q:Nat,(p.nodes[k]).parent=(q:Int)→iF p root q=iF p root k:=fun q e=>by
    rw [hund,e,oP hp q (by omega),oR p root q (by omega)]
   cases hf:iF p root k
   ·have ho:nE (mpL (iF p root) root (-1 - (i:Int)) base k) (p.nodes[k]).parent=none:=by
     rw [hg]
     by_cases h0:(p.nodes[k]).parent<0
     ·rw [if_pos h0]
      rw [hf,nF p h0] at hund
      exact if_neg (of_decide_eq_false hund.symm)
     ·rw [if_neg h0]
      obtain ⟨q,e⟩:=Int.eq_ofNat_of_zero_le (show 0≤(p.nodes[k]).parent by omega)
      rw [e,Int.toNat_natCast,hq q e,hf,Bool.and_false];rfl
    have hm2:mpL (iF p root) root (-1 - (i:Int)) base (k+1)=mpL (iF p root) root (-1 - (i:Int)) base k:=if_neg (by rw [hf];exact Bool.false_ne_true)
    have hs:(dB p r.copies i++(idxOf (iF p root) (k+1)).map (dN p lst i base)).map Nd.D=(dB p r.copies i++(idxOf (iF p root) k).map (dN p lst i base)).map Nd.D:=by rw [dQ hf]
    refine kgo ?_
    refine Am none ho ?_ (fun v h=>by cases h)
    refine kgo ?_
    rw [← hm2]
    exact af (k+1) hkl (by omega)
   ·have ho:nE (mpL (iF p root) root (-1 - (i:Int)) base k) (p.nodes[k]).parent=some (dN p lst i base k).parent:=by
     rw [hg]
     show _=some (if (dZ p k).parent<0 then -1 - (i:Int) else (base:Int)+di lst (dZ p k).parent)
     rw [hnd]
     by_cases h0:(p.nodes[k]).parent<0
     ·rw [if_pos h0,if_pos h0]
      rw [hf,nF p h0] at hund
      exact if_pos (of_decide_eq_true hund.symm)
     ·rw [if_neg h0,if_neg h0]
      obtain ⟨q,e⟩:=Int.eq_ofNat_of_zero_le (show 0≤(p.nodes[k]).parent by omega)
      rw [e,Int.toNat_natCast,hq q e,hf,Bool.and_true,if_pos (by simp;omega),hix q (by omega) ((hq q e).trans hf)]
    have hvb:I64 (dN p lst i base k).parent:=by
     show I64 (if (dZ p k).parent<0 then -1 - (i:Int) else (base:Int)+di lst (dZ p k).parent)
     rw [hnd]
     by_cases h0:(p.nodes[k]).parent<0
     ·rw [if_pos h0];unfold I64;omega
     ·rw [if_neg h0]
      obtain ⟨q,e⟩:=Int.eq_ofNat_of_zero_le (show 0≤(p.nodes[k]).parent by omega)
      have:=dI (iF p root) q
      rw [e,hix q (by omega) ((hq q e).trans hf)];unfold I64;omega
    have hm2:mpL (iF p root) root (-1 - (i:Int)) base (k+1)=mpL (iF p root) root (-1 - (i:Int)) base k++[((k:Int),(base:Int)+(idxOf (iF p root) k).length)]:=if_pos hf
    have hlen:((((dB p r.copies i++(idxOf (iF p root) k).map (dN p lst i base)).map Nd.D).length:Nat):Int)=(base:Int)+(idxOf (iF p root) k).length:=by rw [List.length_map,List.length_append,List.length_map,hba];omega
    have hlen2:(dB p r.copies i++(idxOf (iF p root) k).map (dN p lst i base)).length≤1000:=by rw [List.length_append,List.length_map,hba];omega
    have hs:(dB p r.copies i++(idxOf (iF p root) (k+1)).map (dN p lst i base)).map Nd.D=(dB p r.copies i++(idxOf (iF p root) k).map (dN p lst i base)).map Nd.D++[Nd.D ⟨(p.nodes[k]).control,(dN p lst i base k).parent,(p.nodes[k]).links⟩]:=by
     rw [cY hf]
     simp only [List.map_append,List.append_assoc,List.map_cons,List.map_nil]
     rw [← hnd];rfl
    have f2:=kf (p.nodes[k]).links (hdm.7 k hkl)
    refine kgo ?_
    refine Am (some (dN p lst i base k).parent) ho ?_ (fun v h=>by cases h;exact hvb)
    refine kgo ?_
    refine E2 ?_ hgk
    rw [hlen,← hm2]
    repeat (first|(refine b8 ?_;first|refine aP ?_|refine cF ?_|refine bh ?_|refine bo ?_|refine aU ?_|refine bl ?_|refine aY ?_|refine aF ?_|refine bk ?_)|(refine fo ?_;first|refine bX ?_|refine fQ ?_|refine cu ?_|refine cD ?_)|(refine fB ?_;first|refine eB (fun _=>?_)|refine cq ?_|refine cf ?_|refine bP ?_|refine cy ?_|refine cB ?_|refine ci ?_)|(refine fx ?_;first|refine b7 ?_|refine eV ?_|refine ca ?_|refine bS ?_|refine cj ?_|refine cm ?_|refine b9 ?_)|(refine fp ?_;first|refine fG ?_|refine fb ?_|refine ch ?_|refine bY ?_|refine fJ ?_|refine be ?_|refine bm ?_)|(refine cb ?_;first|refine bf ?_|refine cC ?_)|(refine ft ?_;first|refine co ?_|refine cr ?_|refine fq ?_)|(refine b6 ?_;first|refine cG ?_|refine bj ?_|refine aT ?_|refine aX ?_|refine aQ ?_|refine bp ?_)|(refine fS ?_;first|refine cd ?_|refine fj ?_|refine bg ?_|refine aR ?_|refine bc ?_)|(refine aO ?_;first|refine ax _ ?_|refine aW ?_|refine aG ?_|refine az ?_|refine aC ?_)|(refine fl ?_;first|refine cz ?_|refine bR ?_|refine cA ?_)|(refine gOp ?_;first|refine fw ?_|refine fy ?_|refine ba ?_|refine fu ?_|refine fE ?_|refine cg ?_|refine aS ?_|refine cE ?_|refine fF ?_|refine bV ?_|refine ct ?_|refine bd ?_|refine sFz 63 ?_|refine aE ?_|refine cw ?_|refine sNo ?_|refine fa ?_|refine aA ?_)|refine e9 ?_|refine ez ?_|refine gx ?_|refine bq ?_|refine cI ?_|refine bF ?_|refine fX ?_|refine gd ?_|refine fU ?_|refine eD ?_|refine cM ?_|refine bu ?_|refine aB ?_|refine br ?_|refine cL ?_|refine bG ?_|refine aBlkX ?_|refine cJ ?_|refine sFz 63 ?_)
    exact af (k+1) hkl (by omega)
  have hs4:(dB p r.copies i++(idxOf (iF p root) k).map (dN p lst i base)).map Nd.D=(dB p r.copies (i+1)).map Nd.D:=by rw [hnext,show k=p.nodes.length by omega,hall]
  refine kgo ?_
  exact af (i+1) hlt (by omega)
 rw [show i=r.copies.length by omega]
 refine bF (aB (aB (bG (bu ?_))))
 refine o7 10005 1 ?_
 refine o7 10005 4 ?_
 refine kgo ?_
 exact aD
end Go.Proofs.YtclpbhoekmecjaaGreatDoor
namespace Go.Proofs.YtclpbhoekmecjaaGreatDoor
open Go.RowKit
set_option linter.unusedVariables false
set_option linter.unusedSimpArgs false
set_option maxRecDepth 100000
set_option maxHeartbeats 4000000
theorem F6:Lik tn Rul.D:=⟨fun w S x cs h=>by
 obtain ⟨c1,e1,rfl,h1,c2,e2,rfl,h2,c3,e3,rfl,h3,h4⟩:=h
 cases (show e3 = [] from h4)
 obtain ⟨v,rfl,h3⟩:=nJ h3
 exact ⟨c1,c2,v,by simp,pF.to w S _ _ h1,pF.to w S _ _ h2,Bq.toV (by decide) h3⟩,fun w lo hi x cs h=>by
 obtain ⟨c1,c2,v,rfl,h1,h2,h3⟩:=h
 exact ⟨c1,_,rfl,pF.of w lo hi _ _ h1,c2,_,rfl,pF.of w lo hi _ _ h2,[v],[],by simp,Bq.ofV h3,rfl⟩⟩
attribute [local irreducible] au Der At
theorem x8 (sig:List Ctl) (rs:List Rul) (hl:∀r∈rs,r.redex.inner.length≤1048576∧r.reactum.inner.length≤1048576):FnD Tryz.prog 55 [.l 3 (sig.map Ctl.D),.l 13 (rs.map Rul.D)] (.d (.b (fY sig rs))):=⟨cH Tryz.func55,fun F w vs hv hF=>by
 obtain ⟨v1,t,rfl,h1,v2,t2,rfl,h2,h3⟩:=hv
 cases (show t2 = [] from h3)
 refine (oM _ _ _ _ _ _ _ _ _ (rW.toV (by decide) h1) (F6.toV (by decide) h2) (fun i hi=>?_)).mono ?_
 ·have:=hl _ (List.getElem_mem hi)
  exact ⟨by omega,by omega⟩
 ·rintro e w' ⟨rfl,hX⟩
  exact ⟨_,rfl,hX,rfl⟩⟩
theorem CB {sig:List Ctl} {mid ctx par:Big} (h:ay sig par=false):mT sig mid ctx par=(eU,false):=by
 have hc:∀a,eO sig a par=(eU,false):=fun a=>by unfold eO;rw [h];cases ay sig a <;> rfl
 unfold mT
 rw [hc]
 split
 ·split <;> rfl
 ·rfl
theorem AM {sig:List Ctl} {r:Rul} {a:Big} (m:Mat) (hr:gC sig r=true) (ha:ay sig a=true) (hm:dO r.redex a m=true):FnO Tryz.prog 61 [.l 3 (sig.map Ctl.D),r.D,a.D,m.D] [6,0] (Bi (eY sig r a m).1++[.d (.b (eY sig r a m).2)]):=by
 obtain ⟨r1,r2,r3,r4,r5,r6,r7,r8⟩:=gO hr
 have orr:=dC r1
 have or2:=dC r2
 have hcl:r.copies.length≤100:=by have:=or2.sitesN;omega
 have hc0:∀c∈r.copies,0≤c∧c≤1000:=fun c hc=>by
  have:=bT (List.all_eq_true.1 r8 c hc)
  have:=orr.sitesN
  omega
 have f1:FnD Tryz.prog 114 [.l 3 (sig.map Ctl.D),r.redex.D,a.D,m.D] (.tp [(yk (mA sig r.redex a m) (gD r.redex a m)).D,.b (mA sig r.redex a m)]):=(wU m r1 r3 ha hm).toT
 have f2:FnD Tryz.prog 115 [.l 3 (sig.map Ctl.D),r.redex.D,a.D,m.D] (.tp [(yk (mu sig r.redex a m) (fC r.redex a m)).D,.b (mu sig r.redex a m)]):=(rE m r1 r3 ha hm).toT
 have hno1:mA sig r.redex a m=false→eY sig r a m=(eU,false):=fun h=>mc (by
  unfold mA at h
  cases h1:(dJ r.redex a m.nodes).2.2
  ·rfl
  ·rw [h1,Bool.true_and] at h;rw [h];rfl)
 have hno2:mu sig r.redex a m=false→eY sig r a m=(eU,false):=fun h=>mc (by
  unfold mu at h
  cases h1:(dJ r.redex a m.nodes).2.2
  ·rfl
  ·rw [h1,Bool.true_and] at h;rw [h];simp)
 have hyes:mA sig r.redex a m=true→mu sig r.redex a m=true→ay sig (fC r.redex a m)=true∧(gD r.redex a m).inner.length≤16∧eY sig r a m=mT sig r.reactum (gD r.redex a m) (lX r.copies (fC r.redex a m)):=fun h1 h2=>by
  unfold mA at h1
  unfold mu at h2
  rw [Bool.and_eq_true] at h1 h2
  exact ⟨h2.2,(dC h1.2).inner,n8 (by rw [h1.1,h1.2,h2.2];rfl)⟩
 have hor:∀b:Big,yk true b=b:=fun _=>rfl
 refine dz Tryz.func61 (fun hw W0=>?_)
 refine kgo ?_
 cases h1:mA sig r.redex a m
 ·rw [hno1 h1]
  refine kgo ?_
  exact ic (hp:=.cons (.d rfl) (.cons .m (.cons .n (.cons (.d rfl) (.cons .n (.cons .n (.cons (.d rfl) .nil)))))))
 refine kgo ?_
 cases h2:mu sig r.redex a m
 ·rw [hno2 h2]
  refine kgo ?_
  exact ic (hp:=.cons (.d rfl) (.cons .m (.cons .n (.cons (.d rfl) (.cons .n (.cons .n (.cons (.d rfl) .nil)))))))
 obtain ⟨h3,h4,h5⟩:=hyes h1 h2
 rw [h5]
 have f3:=sX r h3 hcl hc0
 have f4:FnD Tryz.prog 116 [.l 3 (sig.map Ctl.D),(lX r.copies (fC r.redex a m)).D] (.tp [(yk (ay sig (lX r.copies (fC r.redex a m))) (lX r.copies (fC r.redex a m))).D,.b (ay sig (lX r.copies (fC r.redex a m)))]):=(oq sig _ (Nat.zero_le _)).toT
 have f5:=sE sig (gD r.redex a m) r.redex r.reactum (lX r.copies (fC r.redex a m)) (Dd r6) (by have:=or2.inner;omega) (Nat.zero_le _)
 have hno:=CB (sig:=sig) (mid:=r.reactum) (ctx:=gD r.redex a m) (par:=lX r.copies (fC r.redex a m))
 clear f1 f2 hno1 hno2 hyes h1 h2 h5
 generalize gD r.redex a m=C at *
 generalize fC r.redex a m=Q at *
 generalize lX r.copies Q=Z at *
 refine kgo ?_
 cases h6:ay sig Z
 ·rw [hno h6]
  refine kgo ?_
  exact ic (hp:=.cons (.d rfl) (.cons .m (.cons .n (.cons (.d rfl) (.cons .n (.cons .n (.cons (.d rfl) .nil)))))))
 refine kgo ?_
 exact ic (hp:=.cons (.d rfl) (.cons (.k rfl rfl) (.cons (.k rfl rfl) (.cons (.d rfl) (.cons (.k rfl rfl) (.cons (.k rfl rfl) (.cons (.d rfl) .nil)))))))
end Go.Proofs.YtclpbhoekmecjaaGreatDoor
namespace Go.Proofs.YtclpbhoekmecjaaGreatDoor
open Go.RowKit
set_option linter.unusedVariables false
set_option linter.unusedSimpArgs false
set_option maxRecDepth 100000
set_option maxHeartbeats 4000000
attribute [local irreducible] au Der At
theorem F3:Hv Tryz.prog 229:=⟨cH Tryz.func229,fun a n k w hn hk=>by
 unfold maxLen at hk
 go_enter Tryz.func229,Tryz.ntmps229
 go_wp2
 go_ret
 exact ⟨rfl,rfl⟩⟩
theorem pJ (m:Mat) (h1:m.nodes.length≤1000) (h2:m.roots.length≤1000):FnO Tryz.prog 126 [m.D] [2] [.tk (.row 1 3 (m.nodes.map .i)),.tk (.row 1 3 (m.roots.map .i))]:=by
 have f1:=kf m.nodes h1
 have f2:=kf m.roots h2
 refine dz Tryz.func126 (fun hw W0=>?_)
 refine kgo ?_
 exact ic (hp:=.cons (.k rfl rfl) (.cons (.k rfl rfl) .nil))
def kP (G:List Mat→Bool):List Mat→List Mat→List Mat × Bool
 | xs,[]=>(xs,true)
 | xs,m :: ms=>if G (xs++[m]) then kP G (xs++[m]) ms else (xs++[m],false)
theorem wD {G:List Mat→Bool}:∀(l t xs:List Mat),kP G xs (l++t)=if (kP G xs l).2 then kP G (kP G xs l).1 t else kP G xs l:=by
 intro l
 induction l with
 | nil=>intro t xs;rfl
 | cons m l ih=>
  intro t xs
  rw [List.cons_append]
  show (if G (xs++[m]) then kP G (xs++[m]) (l++t) else (xs++[m],false))=_
  by_cases hg:G (xs++[m])=true
  ·have e:kP G xs (m :: l)=kP G (xs++[m]) l:=if_pos hg
   rw [e,if_pos hg];exact ih t _
  ·have e:kP G xs (m :: l)=(xs++[m],false):=if_neg hg
   rw [e,if_neg hg];rfl
theorem F7 {G:List Mat→Bool} {K:List Mat→Prop} (hK:∀xs m,G (xs++[m])=true→K (xs++[m])):∀(l xs:List Mat),K xs→(kP G xs l).2=true→K (kP G xs l).1:=by
 intro l
 induction l with
 | nil=>intro xs h _;exact h
 | cons m l ih=>
  intro xs h h2
  unfold kP at h2 ⊢
  split
  ·rename_i hg
   rw [if_pos hg] at h2
   exact ih _ (hK _ _ hg) h2
  ·rename_i hg
   rw [if_neg hg] at h2;cases h2
theorem Ai {sig:List Ctl} {r a:Big} (hR:ay sig r=true) (hA:ay sig a=true) (hS:bL r=true) {g0:Nat} {Q:List Mat→WP} {G:List Mat→Bool} {K:List Mat→Prop} (hY:∀xs m,K xs→FnY Tryz.prog g0 [m.D] (Q xs) (Q (xs++[m])) (G (xs++[m]))) (hK:∀xs m,G (xs++[m])=true→K (xs++[m])):∀(n:Nat) (ns:List Int) (xs:List Mat),ns.length+n=r.nodes.length→(∀x∈ns,0≤x∧x<(a.nodes.length:Int))→K xs →
 FnY Tryz.prog 186 [r.D,a.D,DI ns] (xV g0 (Q xs)) (xV g0 (Q (kP G xs (ln r a n ns)).1)) (kP G xs (ln r a n ns)).2:=by
 have hd:=bD hR
 have hda:=(bD hA).nodes
 have hrn:=hd.nodes
 have hrs:=hd.sites
 have hr0:=aN hR
 intro n
 induction n with
 | zero=>
  intro ns xs hl hx hK0
  have hnl:ns.length≤1000:=by omega
  have f1:=zn (iD r a ns) hR hA
  have f2:=FnO.toD (n:=1) (pJ (iD r a ns) hnl (by show (rtL r a ns r.roots.toNat).length≤1000;unfold rtL;rw [List.length_map,List.length_range];omega))
  have hdef:ln r a 0 ns=if dO r a (iD r a ns) then [iD r a ns] else []:=rfl
  refine AZ Tryz.func186 (fun hw W0 v=>?_)
  refine kgo ?_
  refine bt (fun h=>?_) (fun h=>?_)
  rotate_left
  ·omega
  refine kgo ?_
  refine oG 10010 1 20002 3 ?_
  refine aq [2,3,4,5,10,27,20000] (fun i:Nat=>i≤r.roots.toNat) (fun i=>r.roots.toNat - i) (fun i=>[(28,.sy (.d (.i i))),(10010,.tk (.bx [.d (DI ns),.k 20001])),(20001,.tk (.row 1 3 ((rtL r a ns i).map .i)))]) 0 (Nat.zero_le _) (fun i hi=>?_)
  refine kgo ?_
  refine bt (fun h=>?_) (fun h=>?_)
  ·have f3:=jO r (-1 - (i:Int)) hrn hrs
   have hk1:=pW hS (by omega) i h
   have hz:(0:Int)≤0∧(0:Int)<((dc r (-1 - (i:Int))).length:Int):=⟨Int.le_refl _,by omega⟩
   have hm1:=A5 r _ _ (List.getElem_mem hk1)
   have hx1:=hx _ (og (l:=ns) hm1.1 (by omega))
   have hql:(rtL r a ns i).length≤1000:=by unfold rtL;rw [List.length_map,List.length_range];omega
   obtain ⟨j,hj⟩:=Int.eq_ofNat_of_zero_le hx1.1
   have hjl:j<a.nodes.length:=by omega
   have hp:rtP r a ns i=(a.nodes[j]).parent:=by
    unfold rtP
    rw [show atI (dc r (-1 - (i:Int))) 0=(dc r (-1 - (i:Int)))[0] from by unfold atI;simp [List.getElem?_eq_getElem hk1],hj,aw a j hjl]
   have hs:(rtL r a ns (i+1)).map D.i=(rtL r a ns i).map D.i++[.i (a.nodes[j]).parent]:=by rw [vE,List.map_append,hp];rfl
   have hb1:0≤(dc r (-1 - (i:Int)))[0]∧(dc r (-1 - (i:Int)))[0]<(ns.length:Int):=⟨hm1.1,by omega⟩
   refine kgo ?_
   refine eB (n:=j) (fun _=>?_) rfl rfl (congrArg some hj)
   refine kgo ?_
   exact af (i+1) (by omega) (by omega)
  obtain rfl:i=r.roots.toNat:=by omega
  refine bF (aB (aB (bG (bu ?_))))
  refine o7 10010 1 ?_
  refine kgo ?_
  cases h3:dO r a (iD r a ns)
  ·rw [hdef,h3]
   refine kgo ?_
   exact Fc
  ·rw [hdef,h3,if_pos rfl]
   rw [show kP G xs [iD r a ns]=(xs++[iD r a ns],G (xs++[iD r a ns])) from by
    show (if G (xs++[iD r a ns]) then (xs++[iD r a ns],true) else (xs++[iD r a ns],false))=_
    cases G (xs++[iD r a ns]) <;> rfl]
   refine kgo ?_
   refine FB (ds:=[(iD r a ns).D]) ?_ rfl (hY xs (iD r a ns) hK0)
   refine kgo ?_
   exact Fc
 | succ n ih=>
  intro ns xs hl hx hK0
  have hnl:ns.length≤1000:=by omega
  have hall:ln r a (n+1) ns=gB r a n ns a.nodes.length:=rfl
  have f0:=F3
  have hup:=iy hR ns.length (by omega)
  refine AZ Tryz.func186 (fun hw W0 v=>?_)
  refine kgo ?_
  refine bt (fun h=>?_) (fun h=>?_)
  ·omega
  have hrl:ns.length<r.nodes.length:=by omega
  refine kgo ?_
  refine aq [2,3,4,5,14,69,70] (fun x:Nat × List Mat=>x.1≤a.nodes.length∧K x.2∧kP G xs (gB r a n ns x.1)=(x.2,true)) (fun x=>a.nodes.length - x.1) (fun x=>[(71,.sy (.d (.i x.1))),(20000,.tk (.abs (xV g0 (Q x.2)) (some v)))]) (0,xs) ⟨Nat.zero_le _,hK0,rfl⟩ (fun x hx'=>?_)
  obtain ⟨i,cur⟩:=x
  obtain ⟨hi,hKc,hrun⟩:=hx'
  dsimp only at hi hKc hrun ⊢
  refine kgo ?_
  refine bt (fun h=>?_) (fun h=>?_)
  rotate_left
  ·obtain rfl:i=a.nodes.length:=by omega
   rw [hall,hrun]
   refine kgo ?_
   exact Fc
  have hlt:i<a.nodes.length:=by omega
  have f1:=fP ns i
  have hcd:sD r a ns i=if (!decide ((a.nodes[i]).control=(r.nodes[ns.length]).control) || fh ns i) then false else decide ((r.nodes[ns.length]).parent<0) || decide ((a.nodes[i]).parent=atI ns (r.nodes[ns.length]).parent):=by unfold sD;rw [aw a i hlt,aw r ns.length hrl]
  have hsucc:=mB r a n ns i
  refine kgo ?_
  cases hc:decide ((a.nodes[i]).control=(r.nodes[ns.length]).control)
  ·have hcan:sD r a ns i=false:=by rw [hcd,hc];rfl
   rw [hcan] at hsucc
   refine kgo ?_
   (repeat refine fa ?_)
   refine kgo ?_
   exact af (i+1,cur) ⟨hlt,hKc,by show kP G xs (gB r a n ns (i+1))=_;rw [hsucc];simpa using hrun⟩ (by show _ - (i+1)<_ - i;omega)
  refine kgo ?_
  cases h2:fh ns i
  rotate_left
  ·have hcan:sD r a ns i=false:=by rw [hcd,hc,h2];rfl
   rw [hcan] at hsucc
   refine kgo ?_
   (repeat refine fa ?_)
   refine kgo ?_
   exact af (i+1,cur) ⟨hlt,hKc,by show kP G xs (gB r a n ns (i+1))=_;rw [hsucc];simpa using hrun⟩ (by show _ - (i+1)<_ - i;omega)
  have hdi:DI (ns++[(i:Int)])=D.l 1 (ns.map D.i++[D.i i]):=congrArg (D.l 1) List.map_append
  have f3:=ih (ns++[(i:Int)]) cur (by rw [List.length_append,List.length_singleton];omega) (fun x hx'=>by
   rcases List.mem_append.1 hx' with h|h
   ·exact hx x h
   ·rw [List.mem_singleton.1 h];omega) hKc
  rw [hdi] at f3
  have hyes:sD r a ns i=true→kP G xs (gB r a n ns (i+1))=kP G cur (ln r a n (ns++[(i:Int)])):=fun hc=>by
   rw [hsucc,hc,if_pos rfl,wD,hrun,if_pos rfl]
  have hend:sD r a ns i=true→(kP G cur (ln r a n (ns++[(i:Int)]))).2=false→kP G xs (ln r a (n+1) ns)=kP G cur (ln r a n (ns++[(i:Int)])):=fun hc h2=>by
   obtain ⟨t,ht⟩:=rV r a n ns (i+1) (a.nodes.length - (i+1))
   rw [show i+1+(a.nodes.length - (i+1))=a.nodes.length by omega] at ht
   rw [hall,ht,wD,hyes hc,h2,if_neg Bool.false_ne_true]
  have hkk:(kP G cur (ln r a n (ns++[(i:Int)]))).2=true→K (kP G cur (ln r a n (ns++[(i:Int)]))).1:=F7 hK _ _ hKc
  generalize kP G cur (ln r a n (ns++[(i:Int)]))=R at *
  obtain ⟨R1,R2⟩:=R
  refine kgo ?_
  cases h4:decide (0≤(r.nodes[ns.length]).parent)
  ·have hcan:sD r a ns i=true:=by
    rw [hcd,hc,h2,decide_eq_true (show (r.nodes[ns.length]).parent<0 by have:=of_decide_eq_false h4;omega)];rfl
   refine kgo ?_
   refine Gp f0 ?_
   refine kgo ?_
   refine sFz 107 ?_
   refine DA ?_
   refine kgo ?_
   cases R2
   ·rw [hend hcan rfl]
    refine kgo ?_
    exact Fc
   refine kgo ?_
   exact af (i+1,R1) ⟨hlt,hkk rfl,hyes hcan⟩ (by show _ - (i+1)<_ - i;omega)
  have hp0:0≤(r.nodes[ns.length]).parent∧(r.nodes[ns.length]).parent<(ns.length:Int):=⟨of_decide_eq_true h4,hup.2⟩
  refine kgo ?_
  cases h5:decide ((a.nodes[i]).parent=atI ns (r.nodes[ns.length]).parent)
  ·have hcan:sD r a ns i=false:=by
    rw [hcd,hc,h2,h5,decide_eq_false (show ¬(r.nodes[ns.length]).parent<0 by omega)];rfl
   rw [hcan] at hsucc
   refine kgo ?_
   exact af (i+1,cur) ⟨hlt,hKc,by show kP G xs (gB r a n ns (i+1))=_;rw [hsucc];simpa using hrun⟩ (by show _ - (i+1)<_ - i;omega)
  have hcan:sD r a ns i=true:=by
   rw [hcd,hc,h2,h5];simp
  refine kgo ?_
  refine Gp f0 ?_
  refine kgo ?_
  refine sFz 107 ?_
  refine DA ?_
  refine kgo ?_
  cases R2
  ·rw [hend hcan rfl]
   refine kgo ?_
   exact Fc
  refine kgo ?_
  exact af (i+1,R1) ⟨hlt,hkk rfl,hyes hcan⟩ (by show _ - (i+1)<_ - i;omega)
theorem qd (xs:List Mat) (m:Mat) (hx:xs.length≤1000):FnY Tryz.prog 187 [m.D] (yi 2 62 (xs.map Mat.D)) (yi 2 62 ((xs++[m]).map Mat.D)) (decide (((xs++[m]).length:Int)≤400)):=by
 rw [show (xs++[m]).map Mat.D=xs.map Mat.D++[m.D] from List.map_append,show ((xs++[m]).length:Int)=((xs.map Mat.D++[m.D]).length:Int) by simp]
 refine AZ Tryz.func187 (fun hw W0 v=>?_)
 refine Do 1 20000 20001 ?_
 refine kgo ?_
 refine qz ?_
 refine kgo ?_
 refine Cv ?_
 refine kgo ?_
 refine qz ?_
 refine kgo ?_
 refine H0 1 20000 10007 ?_
 exact Fc
theorem yO (M:Nat):∀(l xs:List Mat),xs.length≤M→(kP (fun ys=>decide ((ys.length:Int)≤M)) xs l).1=xs++l.take (M+1 - xs.length):=by
 intro l
 induction l with
 | nil=>intro xs _;show xs=_;simp
 | cons m l ih=>
  intro xs h
  show (if decide (((xs++[m]).length:Int)≤M) then kP _ (xs++[m]) l else (xs++[m],false)).1=_
  have hl:(xs++[m]).length=xs.length+1:=by simp
  by_cases hc:xs.length+1≤M
  ·rw [if_pos (decide_eq_true (by omega)),ih _ (by omega),hl,show M+1 - xs.length=(M+1 - (xs.length+1))+1 by omega,List.take_succ_cons,List.append_assoc];rfl
  ·rw [if_neg (by simp;omega),show M+1 - xs.length=1 by omega];simp
def Bn (r a:Big):List Mat × Bool:=if 400<(pl r a).length then ([],false) else (pl r a,true)
theorem rM {sig:List Ctl} {r a:Big} (hR:ay sig r=true) (hA:ay sig a=true) (hS:bL r=true):FnD Tryz.prog 125 [r.D,a.D] (.tp [.l 2 ((Bn r a).1.map Mat.D),.b (Bn r a).2]):=by
 have f0:=Ai hR hA hS (g0:=187) (Q:=fun xs=>yi 2 62 (xs.map Mat.D)) (G:=fun ys=>decide ((ys.length:Int)≤400)) (K:=fun xs=>xs.length≤400) (fun xs m h=>qd xs m (by omega)) (fun xs m h=>by have:=of_decide_eq_true h;omega) r.nodes.length [] [] (by simp) (fun x hx=>by cases hx) (Nat.zero_le _)
 rw [show (kP (fun ys=>decide ((ys.length:Int)≤400)) [] (ln r a r.nodes.length [])).1=pl r a from yO 400 _ _ (Nat.zero_le _)] at f0
 generalize (kP (fun ys=>decide ((ys.length:Int)≤400)) [] (ln r a r.nodes.length [])).2=B at f0
 have f1:FnY Tryz.prog 186 [r.D,a.D,.n 1] (xV 187 (yi 2 62 [])) (xV 187 (yi 2 62 ((pl r a).map Mat.D))) B:=f0.arg (fun w F vs hv=>by
  obtain ⟨v1,t1,rfl,h1,v2,t2,rfl,h2,v3,t3,rfl,h3,h4⟩:=hv
  exact ⟨v1,_,rfl,h1,v2,_,rfl,h2,v3,_,rfl,zq h3,h4⟩)
 clear f0
 refine ah Tryz.func125 (fun hw W0=>?_)
 unfold Bn
 refine e9 ?_
 refine ez ?_
 refine DW ?_
 refine eD (bu ?_)
 refine e9 ?_
 refine ez ?_
 refine DW ?_
 refine eD (bu ?_)
 refine Ir 10006 (fun u=>?_)
 refine H6 6 10006 10007 ?_
 refine kgo ?_
 refine Gs ?_
 refine D7 10006 (fun σ' a w c hc hk=>rk hc _ _ rfl hk) ?_
 refine eD (bu ?_)
 refine Do 6 10006 20001 ?_
 refine kgo ?_
 refine qz ?_
 refine kgo ?_
 refine bt (fun h=>?_) (fun h=>?_)
 ·rw [List.length_map] at h
  rw [if_pos (by omega)]
  refine kgo ?_
  exact ig
 rw [List.length_map] at h
 rw [if_neg (by omega)]
 refine kgo ?_
 refine qz ?_
 refine fM (d:=4) ?_
 refine kgo ?_
 exact ig
end Go.Proofs.YtclpbhoekmecjaaGreatDoor
namespace Go.Proofs.YtclpbhoekmecjaaGreatDoor
open Go.RowKit
set_option linter.unusedVariables false
set_option linter.unusedSimpArgs false
set_option maxRecDepth 100000
set_option maxHeartbeats 4000000
attribute [local irreducible] au Der At
theorem D0 {r a:Big} (h:(Bn r a).2=false):400<(pl r a).length:=by
 unfold Bn at h
 split at h
 ·assumption
 ·cases h
theorem Ct {r a:Big} (h:(Bn r a).2=true):¬400<(pl r a).length∧(Bn r a).1=pl r a:=by
 unfold Bn at h ⊢
 split at h
 ·cases h
 ·rename_i h2;rw [if_neg h2];exact ⟨h2,rfl⟩
theorem zQ {sig:List Ctl} {rs:List Rul} {a:Big} (hr:fY sig rs=true) (ha:gQ sig a=true):FnO Tryz.prog 85 [.l 3 (sig.map Ctl.D),.l 13 (rs.map Rul.D),a.D] [0,0] [.tk (.grw 9 64 ((i8 (eF sig a rs 0 [])).1.map Stp.D)),.d (.b (i8 (eF sig a rs 0 [])).2)]:=by
 have hrs:=List.all_eq_true.1 (Bool.and_eq_true_iff.1 hr).2
 have hrl:=bT (Bool.and_eq_true_iff.1 hr).1
 have hA:=ot ha
 refine dz Tryz.func85 (fun hw W0=>?_)
 refine e9 ?_
 refine ez ?_
 refine DW ?_
 refine eD (bu ?_)
 refine e9 ?_
 refine ez ?_
 refine DW ?_
 refine eD (bu ?_)
 refine GX 10017 ?_
 refine kgo ?_
 refine aq [0,5,18,19] (fun x:Nat × List Stp=>x.1≤rs.length∧x.2.length≤400 * x.1∧eF sig a rs 0 []=eF sig a (rs.drop x.1) x.1 x.2) (fun x=>rs.length - x.1) (fun x=>[(20,.sy (.d (.i x.1))),(8,.sy (.k 20001)),(20001,.tk (.grw 9 64 (x.2.map Stp.D)))]) (0,[]) ⟨Nat.zero_le _,Nat.zero_le _,rfl⟩ (fun x hx=>?_)
 obtain ⟨i,out⟩:=x
 obtain ⟨hi,hol,hst⟩:=hx
 dsimp only at hi hol hst ⊢
 rw [hst]
 refine kgo ?_
 refine bt (fun h=>?_) (fun h=>?_)
 rotate_left
 ·obtain rfl:i=rs.length:=by omega
  rw [List.drop_eq_nil_of_le (Nat.le_refl _),show i8 (eF sig a [] rs.length out)=(out,true) from rfl]
  refine kgo ?_
  exact ic (hp:=.cons (.k rfl rfl) (.cons (.d rfl) .nil))
 have hlt:i<rs.length:=by omega
 rw [sF i hlt]
 obtain ⟨r1,r2,r3,r4,r5,r6,r7,r8⟩:=gO (hrs _ (List.getElem_mem hlt))
 have f1:=rM r1 hA r3
 have hall:=mM (r:=(rs[i]).redex) (a:=a)
 have hno:=D0 (r:=(rs[i]).redex) (a:=a)
 have hyes:=Ct (r:=(rs[i]).redex) (a:=a)
 refine kgo ?_
 cases h2:(Bn (rs[i]).redex a).2
 ·rw [if_pos (hno h2)]
  refine kgo ?_
  refine tq 6 30006 64 ?_
  refine CL 30006 ?_
  exact ic (hp:=.cons (.k rfl rfl) (.cons (.d rfl) .nil))
 obtain ⟨hn,he⟩:=hyes h2
 have hml:=wg (rs[i]).redex a
 rw [if_neg hn,he]
 clear hno hyes he
 generalize pl (rs[i]).redex a=ms at *
 refine kgo ?_
 refine aq [0,5,9,10,18,19,20,34,35] (fun x:Nat × List Stp=>x.1≤ms.length∧x.2.length≤400 * i+x.1∧(iu sig rs[i] a i ms out).bind (eF sig a (rs.drop (i+1)) (i+1))=(iu sig rs[i] a i (ms.drop x.1) x.2).bind (eF sig a (rs.drop (i+1)) (i+1))) (fun x=>ms.length - x.1) (fun x=>[(36,.sy (.d (.i x.1))),(8,.sy (.k 20001)),(20001,.tk (.grw 9 64 (x.2.map Stp.D)))]) (0,out) ⟨Nat.zero_le _,hol,rfl⟩ (fun x hx=>?_)
 obtain ⟨j,o⟩:=x
 obtain ⟨hj,hoj,hsj⟩:=hx
 dsimp only at hj hoj hsj ⊢
 rw [hsj]
 refine kgo ?_
 refine bt (fun h3=>?_) (fun h3=>?_)
 rotate_left
 ·obtain rfl:j=ms.length:=by omega
  rw [List.drop_eq_nil_of_le (Nat.le_refl _)] at hsj ⊢
  refine kgo ?_
  exact af (i+1,o) ⟨hlt,by show o.length≤400 * (i+1);omega,rfl⟩ (by show _ - (i+1)<_ - i;omega)
 have hjl:j<ms.length:=by omega
 have hm:=hall _ (List.getElem_mem hjl)
 have f2:=xl hA ms[j] (fun p hp=>(lS (cK hm).2.1 p hp).2)
 have hat:=s7 (sig:=sig) (r:=rs[i]) (a:=a) (k:=i) j hjl o
 refine kgo ?_
 refine cIf (fun h4=>?_) (fun h4=>?_)
 ·rw [Bool.not_eq_true'] at h4
  rw [hat,h4]
  refine kgo ?_
  exact af (j+1,o) ⟨hjl,by show o.length≤400 * i+(j+1);omega,rfl⟩ (by show _ - (j+1)<_ - j;omega)
 rw [Bool.not_eq_false'] at h4
 rw [hat,h4,if_pos rfl]
 have f3:=AM (sig:=sig) ms[j] (hrs _ (List.getElem_mem hlt)) hA hm
 refine kgo ?_
 refine cIf (fun h5=>?_) (fun h5=>?_)
 ·rw [Bool.not_eq_true'] at h5
  rw [h5]
  refine kgo ?_
  refine tq 6 30006 64 ?_
  refine CL 30006 ?_
  exact ic (hp:=.cons (.k rfl rfl) (.cons (.d rfl) .nil))
 rw [Bool.not_eq_false'] at h5
 rw [h5,if_pos rfl]
 have hni:ms[j].nodes.length≤1000:=by
  have:=(iB (cK hm).1).len
  have:=(bD r1).nodes
  omega
 have hrl2:=iN (rs:=ms[j].roots) (ns:=ms[j].nodes) (cK hm).2.1
 have hr0:=aN r1
 have f4:=pJ ms[j] hni (by omega)
 refine Hn 31050 ?_
 refine qZ (ds:=(eY sig rs[i] a ms[j]).1.sites.map D.i) 32050 (fun d hd=>by obtain ⟨n,_,rfl⟩:=List.mem_map.1 hd;exact ⟨rfl,rfl⟩) ?_
 refine qZ (ds:=(eY sig rs[i] a ms[j]).1.outer.map D.s) 34050 (fun d hd=>by obtain ⟨n,_,rfl⟩:=List.mem_map.1 hd;exact ⟨rfl,rfl⟩) ?_
 refine qZ (ds:=(eY sig rs[i] a ms[j]).1.inner.map Wr.D) 35050 (fun d hd=>by obtain ⟨n,_,rfl⟩:=List.mem_map.1 hd;exact ⟨rfl,rfl⟩) ?_
 refine kgo ?_
 refine Gz (ds:=ms[j].nodes.map D.i) 30058 (fun d hd=>by obtain ⟨n,_,rfl⟩:=List.mem_map.1 hd;exact ⟨rfl,rfl⟩) ?_
 refine Gz (ds:=ms[j].roots.map D.i) 31058 (fun d hd=>by obtain ⟨n,_,rfl⟩:=List.mem_map.1 hd;exact ⟨rfl,rfl⟩) ?_
 (try refine aA ?_)
 refine Hf (Stp.D (Stp.mk (i:Int) ms[j] (eY sig rs[i] a ms[j]).1)) ?_
 (try refine aR ?_)
 have hs:(o++[Stp.mk (i:Int) ms[j] (eY sig rs[i] a ms[j]).1]).map Stp.D=o.map Stp.D++[Stp.D (Stp.mk (i:Int) ms[j] (eY sig rs[i] a ms[j]).1)]:=List.map_append
 refine kgo ?_
 exact af (j+1,o++[Stp.mk (i:Int) ms[j] (eY sig rs[i] a ms[j]).1]) ⟨hjl,by show (o++_).length≤400 * i+(j+1);rw [List.length_append,List.length_singleton];omega,rfl⟩ (by show _ - (j+1)<_ - j;omega) (hs:=⟨⟨rfl,rfl⟩,⟨rfl,rfl⟩,⟨FR rfl hs.symm,rfl⟩,by repeat (first|exact trivial|refine ⟨⟨rfl,rfl⟩,?_⟩)⟩)
theorem yu (sig:List Ctl) (rs:List Rul) (a:Big) (hr:∀r∈rs,r.redex.inner.length≤1048576∧r.reactum.inner.length≤1048576) (ha:a.inner.length≤1048576):FnO Tryz.prog 32 [.l 3 (sig.map Ctl.D),.l 13 (rs.map Rul.D),a.D] [0,0] [.tk (.grw 9 64 ((il sig rs a).1.map Stp.D)),.d (.b (il sig rs a).2)]:=by
 have f1:=x8 sig rs hr
 have f2:=zL sig a (by omega)
 refine dz Tryz.func32 (fun hw W0=>?_)
 unfold il
 refine kgo ?_
 cases h1:fY sig rs
 ·refine kgo ?_
  refine tq 6 30006 64 ?_
  refine CL 30006 ?_
  exact ic (hp:=.cons (.k rfl rfl) (.cons (.d rfl) .nil))
 refine kgo ?_
 cases h2:gQ sig a
 ·refine kgo ?_
  refine tq 6 30006 64 ?_
  refine CL 30006 ?_
  exact ic (hp:=.cons (.k rfl rfl) (.cons (.d rfl) .nil))
 have f3:=zQ h1 h2
 refine kgo ?_
 exact ic (hp:=.cons (.k rfl rfl) (.cons (.d rfl) .nil))
abbrev GV (s:Stp):List Pt:=[.d (.i s.rule),.tk (.own (DI s.mat.nodes) none none),.tk (.own (DI s.mat.roots) none none),.d (.i s.res.roots),.tk (.own (.l 3 (s.res.nodes.map Nd.D)) none none),.tk (.own (DI s.res.sites) none none),.d (.i s.res.edges),.tk (.own (DS s.res.outer) none none),.tk (.own (.l 2 (s.res.inner.map Wr.D)) none none)]
theorem jj (sig:List Ctl) (rs:List Rul) (a:Big) (hr:∀r∈rs,r.redex.inner.length≤1048576∧r.reactum.inner.length≤1048576) (ha:a.inner.length≤1048576):FnO Tryz.prog 27 [.l 3 (sig.map Ctl.D),.l 13 (rs.map Rul.D),a.D] [9,0] (GV (ai sig rs a).1++[.d (.b (ai sig rs a).2)]):=by
 have f1:=yu sig rs a hr ha
 refine dz Tryz.func27 (fun hw W0=>?_)
 unfold ai
 generalize il sig rs a=q at *
 obtain ⟨l,b⟩:=q
 cases b
 ·refine kgo ?_
  exact ic (hp:=.cons (.d rfl) (.cons .o (.cons .o (.cons (.d rfl) (.cons .o (.cons .o (.cons (.d rfl) (.cons .o (.cons .o (.cons (.d rfl) .nil))))))))))
 cases l with
 | nil=>
  refine kgo ?_
  exact ic (hp:=.cons (.d rfl) (.cons .o (.cons .o (.cons (.d rfl) (.cons .o (.cons .o (.cons (.d rfl) (.cons .o (.cons .o (.cons (.d rfl) .nil))))))))))
 | cons s l=>
  refine kgo ?_
  refine F1 30014 40000 ?_
  refine kgo ?_
  refine DG ?_
  refine kgo ?_
  exact ic (hp:=.cons (.d rfl) (.cons (.k rfl rfl) (.cons (.k rfl rfl) (.cons (.d rfl) (.cons (.k rfl rfl) (.cons (.k rfl rfl) (.cons (.d rfl) (.cons (.k rfl rfl) (.cons (.k rfl rfl) (.cons (.d rfl) .nil))))))))))
end Go.Proofs.YtclpbhoekmecjaaGreatDoor
namespace Go.Proofs.YtclpbhoekmecjaaGreatDoor
open Go.RowKit
set_option linter.unusedVariables false
set_option maxRecDepth 100000
set_option maxHeartbeats 1000000
attribute [local irreducible] au Der At jt mkL cnL mf
def na (m:Mat):Nat:=cnL c1 m.nodes+cnL c1 m.roots
def CH (k:Int) (m:Mat):Mat:=⟨mkL mkI c1 k m.nodes,mkL mkI c1 (k+cnL c1 m.nodes) m.roots⟩
theorem iM (n:Int) (h0:0≤n) (h1:n≤1000000000):FnD Tryz.prog 69 [.i n] (.d (.s (jt n))):=⟨cH Tryz.func69,fun F w vs hv hF=>by
 obtain ⟨v1,t,rfl,⟨h3,_⟩,h4⟩:=hv
 cases h3
 cases (show t = [] from h4)
 refine (ov n w h0 h1).mono ?_
 rintro e w' ⟨rfl,hX⟩
 exact ⟨_,rfl,hX,rfl,zv n h0 h1⟩⟩
theorem fI (xs:List Int) (k:Int) (h0:0≤k) (h1:k+cnL c1 xs≤1000000000):FnM Tryz.prog 71 (.l 1 (xs.map D.i)) (.l 1 ((mkL mkI c1 k xs).map D.i)) k (k+cnL c1 xs):=by
 refine px Tryz.func71 (Ck h0 (by omega)) (fun W0 v M hM hw=>?_)
 have hw':xs.length≤9223372036854775807:=by rw [← List.length_map];exact hw
 refine kgm ?_
 refine aq [0,20000] (fun x:Nat × Int × List D=>x.1≤xs.length∧x.2.1=k+cnL c1 (xs.take x.1)∧x.2.2=(mf mkI c1 x.1 k xs).map D.i) (fun x=>xs.length - x.1) (fun x=>[(1,.sy (.d (.i x.2.1))),(5,.sy (.d (.i x.1))),(20000,.tk (.own (.l 1 x.2.2) none (some (v,M))))]) (0,k,xs.map D.i) ⟨Nat.zero_le _,by simp [cnL],by rw [iS]⟩ (fun x hx=>?_)
 obtain ⟨i,K,ds⟩:=x
 obtain ⟨hi,hK,hd⟩:=hx
 dsimp only at hi hK hd ⊢
 have hl:=w5 hd
 have hc:=aZ c1 xs i
 refine kgm ?_
 refine bt (fun h=>?_) (fun h=>?_)
 ·have hlt:i<xs.length:=by omega
  have hlt':i<ds.length:=by omega
  have hct:=fW c1 xs i hlt
  have hc':=aZ c1 xs (i+1)
  have hcx:c1 xs[i]=1:=by first|rfl|(simp only [fc,lL,jJ];omega)|(simp only [na];omega)
  have hKb:K+c1 xs[i]≤1000000000:=by omega
  have hK0:0≤K:=by omega

  refine rB 20000 (congrArg (fun d=>Tk.own (.l 1 d) none (some (v,M))) (xG hlt hd)) ?_
  refine kgm ?_
  exact af (i+1,K+1,ds.set i (D.i (mkI K xs[i]))) ⟨hlt,by show K+1=k+(cnL c1 (xs.take (i+1)):Nat);omega,pX hlt hd hK⟩ (by show _ - (i+1)<_ - i;omega)
 have hie:i=xs.length:=by omega
 rw [w7 hie hd]
 rw [hie,iE] at hK
 rw [← hK]
 refine kgm ?_
 exact Fk hM
theorem iY (xs:List ByteArray) (k:Int) (h0:0≤k) (h1:k+cnL c1 xs≤1000000000):FnM Tryz.prog 72 (.l 1 (xs.map D.s)) (.l 1 ((mkL mkS c1 k xs).map D.s)) k (k+cnL c1 xs):=by
 refine px Tryz.func72 (Ck h0 (by omega)) (fun W0 v M hM hw=>?_)
 have hw':xs.length≤9223372036854775807:=by rw [← List.length_map];exact hw
 refine kgm ?_
 refine aq [0,20000] (fun x:Nat × Int × List D=>x.1≤xs.length∧x.2.1=k+cnL c1 (xs.take x.1)∧x.2.2=(mf mkS c1 x.1 k xs).map D.s) (fun x=>xs.length - x.1) (fun x=>[(1,.sy (.d (.i x.2.1))),(5,.sy (.d (.i x.1))),(20000,.tk (.own (.l 1 x.2.2) none (some (v,M))))]) (0,k,xs.map D.s) ⟨Nat.zero_le _,by simp [cnL],by rw [iS]⟩ (fun x hx=>?_)
 obtain ⟨i,K,ds⟩:=x
 obtain ⟨hi,hK,hd⟩:=hx
 dsimp only at hi hK hd ⊢
 have hl:=w5 hd
 have hc:=aZ c1 xs i
 refine kgm ?_
 refine bt (fun h=>?_) (fun h=>?_)
 ·have hlt:i<xs.length:=by omega
  have hlt':i<ds.length:=by omega
  have hct:=fW c1 xs i hlt
  have hc':=aZ c1 xs (i+1)
  have hcx:c1 xs[i]=1:=by first|rfl|(simp only [fc,lL,jJ];omega)|(simp only [na];omega)
  have hKb:K+c1 xs[i]≤1000000000:=by omega
  have hK0:0≤K:=by omega

  have f0:=iM (K) (by omega) (by omega)
  refine rB 20000 (congrArg (fun d=>Tk.own (.l 1 d) none (some (v,M))) (xG hlt hd)) ?_
  refine kgm ?_
  exact af (i+1,K+1,ds.set i (D.s (mkS K xs[i]))) ⟨hlt,by show K+1=k+(cnL c1 (xs.take (i+1)):Nat);omega,pX hlt hd hK⟩ (by show _ - (i+1)<_ - i;omega)
 have hie:i=xs.length:=by omega
 rw [w7 hie hd]
 rw [hie,iE] at hK
 rw [← hK]
 refine kgm ?_
 exact Fk hM
theorem pb (xs:List Ctl) (k:Int) (h0:0≤k) (h1:k+cnL c3 xs≤1000000000):FnM Tryz.prog 21 (.l 3 (xs.map Ctl.D)) (.l 3 ((mkL Et c3 k xs).map Ctl.D)) k (k+cnL c3 xs):=by
 refine px Tryz.func21 (Ck h0 (by omega)) (fun W0 v M hM hw=>?_)
 have hw':xs.length≤9223372036854775807:=by rw [← List.length_map];exact hw
 refine kgm ?_
 refine aq [0,20000] (fun x:Nat × Int × List D=>x.1≤xs.length∧x.2.1=k+cnL c3 (xs.take x.1)∧x.2.2=(mf Et c3 x.1 k xs).map Ctl.D) (fun x=>xs.length - x.1) (fun x=>[(1,.sy (.d (.i x.2.1))),(5,.sy (.d (.i x.1))),(20000,.tk (.own (.l 3 x.2.2) none (some (v,M))))]) (0,k,xs.map Ctl.D) ⟨Nat.zero_le _,by simp [cnL],by rw [iS]⟩ (fun x hx=>?_)
 obtain ⟨i,K,ds⟩:=x
 obtain ⟨hi,hK,hd⟩:=hx
 dsimp only at hi hK hd ⊢
 have hl:=w5 hd
 have hc:=aZ c3 xs i
 refine kgm ?_
 refine bt (fun h=>?_) (fun h=>?_)
 ·have hlt:i<xs.length:=by omega
  have hlt':i<ds.length:=by omega
  have hct:=fW c3 xs i hlt
  have hc':=aZ c3 xs (i+1)
  have hcx:c3 xs[i]=3:=by first|rfl|(simp only [fc,lL,jJ];omega)|(simp only [na];omega)
  have hKb:K+c3 xs[i]≤1000000000:=by omega
  have hK0:0≤K:=by omega

  have f0:=iM (K) (by omega) (by omega)
  refine rB 20000 (congrArg (fun d=>Tk.own (.l 3 d) none (some (v,M))) (xG hlt hd)) ?_
  refine kgm ?_
  exact af (i+1,K+1+1+1,ds.set i (Ctl.D (Et K xs[i]))) ⟨hlt,by show K+1+1+1=k+(cnL c3 (xs.take (i+1)):Nat);omega,pX hlt hd hK⟩ (by show _ - (i+1)<_ - i;omega)
 have hie:i=xs.length:=by omega
 rw [w7 hie hd]
 rw [hie,iE] at hK
 rw [← hK]
 refine kgm ?_
 exact Fk hM
theorem k7 (xs:List Wr) (k:Int) (h0:0≤k) (h1:k+cnL c2 xs≤1000000000):FnM Tryz.prog 73 (.l 2 (xs.map Wr.D)) (.l 2 ((mkL sG c2 k xs).map Wr.D)) k (k+cnL c2 xs):=by
 refine px Tryz.func73 (Ck h0 (by omega)) (fun W0 v M hM hw=>?_)
 have hw':xs.length≤9223372036854775807:=by rw [← List.length_map];exact hw
 refine kgm ?_
 refine aq [0,20000] (fun x:Nat × Int × List D=>x.1≤xs.length∧x.2.1=k+cnL c2 (xs.take x.1)∧x.2.2=(mf sG c2 x.1 k xs).map Wr.D) (fun x=>xs.length - x.1) (fun x=>[(1,.sy (.d (.i x.2.1))),(5,.sy (.d (.i x.1))),(20000,.tk (.own (.l 2 x.2.2) none (some (v,M))))]) (0,k,xs.map Wr.D) ⟨Nat.zero_le _,by simp [cnL],by rw [iS]⟩ (fun x hx=>?_)
 obtain ⟨i,K,ds⟩:=x
 obtain ⟨hi,hK,hd⟩:=hx
 dsimp only at hi hK hd ⊢
 have hl:=w5 hd
 have hc:=aZ c2 xs i
 refine kgm ?_
 refine bt (fun h=>?_) (fun h=>?_)
 ·have hlt:i<xs.length:=by omega
  have hlt':i<ds.length:=by omega
  have hct:=fW c2 xs i hlt
  have hc':=aZ c2 xs (i+1)
  have hcx:c2 xs[i]=2:=by first|rfl|(simp only [fc,lL,jJ];omega)|(simp only [na];omega)
  have hKb:K+c2 xs[i]≤1000000000:=by omega
  have hK0:0≤K:=by omega

  have f0:=iM (K) (by omega) (by omega)
  refine rB 20000 (congrArg (fun d=>Tk.own (.l 2 d) none (some (v,M))) (xG hlt hd)) ?_
  refine kgm ?_
  exact af (i+1,K+1+1,ds.set i (Wr.D (sG K xs[i]))) ⟨hlt,by show K+1+1=k+(cnL c2 (xs.take (i+1)):Nat);omega,pX hlt hd hK⟩ (by show _ - (i+1)<_ - i;omega)
 have hie:i=xs.length:=by omega
 rw [w7 hie hd]
 rw [hie,iE] at hK
 rw [← hK]
 refine kgm ?_
 exact Fk hM
theorem lm (xs:List Nd) (k:Int) (h0:0≤k) (h1:k+cnL cNd xs≤1000000000):FnM Tryz.prog 70 (.l 3 (xs.map Nd.D)) (.l 3 ((mkL nr cNd k xs).map Nd.D)) k (k+cnL cNd xs):=by
 refine px Tryz.func70 (Ck h0 (by omega)) (fun W0 v M hM hw=>?_)
 have hw':xs.length≤9223372036854775807:=by rw [← List.length_map];exact hw
 refine kgm ?_
 refine aq [0,20000] (fun x:Nat × Int × List D=>x.1≤xs.length∧x.2.1=k+cnL cNd (xs.take x.1)∧x.2.2=(mf nr cNd x.1 k xs).map Nd.D) (fun x=>xs.length - x.1) (fun x=>[(1,.sy (.d (.i x.2.1))),(5,.sy (.d (.i x.1))),(20000,.tk (.own (.l 3 x.2.2) none (some (v,M))))]) (0,k,xs.map Nd.D) ⟨Nat.zero_le _,by simp [cnL],by rw [iS]⟩ (fun x hx=>?_)
 obtain ⟨i,K,ds⟩:=x
 obtain ⟨hi,hK,hd⟩:=hx
 dsimp only at hi hK hd ⊢
 have hl:=w5 hd
 have hc:=aZ cNd xs i
 refine kgm ?_
 refine bt (fun h=>?_) (fun h=>?_)
 ·have hlt:i<xs.length:=by omega
  have hlt':i<ds.length:=by omega
  have hct:=fW cNd xs i hlt
  have hc':=aZ cNd xs (i+1)
  have hcx:cNd xs[i]=2+cnL c1 xs[i].links:=by first|rfl|(simp only [fc,lL,jJ];omega)|(simp only [na];omega)
  have hKb:K+cNd xs[i]≤1000000000:=by omega
  have hK0:0≤K:=by omega

  have f2:=fI xs[i].links (K+1+1) (by omega) (by omega)
  refine rB 20000 (congrArg (fun d=>Tk.own (.l 3 d) none (some (v,M))) (xG hlt hd)) ?_
  refine kgm ?_
  refine ph 20000 2 (fun u=>?_)
  refine ez ?_
  refine kgm ?_
  exact af (i+1,K+1+1+(cnL c1 xs[i].links:Nat),ds.set i (Nd.D (nr K xs[i]))) ⟨hlt,by show K+1+1+(cnL c1 xs[i].links:Nat)=k+(cnL cNd (xs.take (i+1)):Nat);omega,pX hlt hd hK⟩ (by show _ - (i+1)<_ - i;omega)
 have hie:i=xs.length:=by omega
 rw [w7 hie hd]
 rw [hie,iE] at hK
 rw [← hK]
 refine kgm ?_
 exact Fk hM
theorem tN (xs:List Rul) (k:Int) (h0:0≤k) (h1:k+cnL fc xs≤1000000000):FnM Tryz.prog 22 (.l 13 (xs.map Rul.D)) (.l 13 ((mkL yP fc k xs).map Rul.D)) k (k+cnL fc xs):=by
 refine px Tryz.func22 (Ck h0 (by omega)) (fun W0 v M hM hw=>?_)
 have hw':xs.length≤9223372036854775807:=by rw [← List.length_map];exact hw
 refine kgm ?_
 refine aq [0,20000] (fun x:Nat × Int × List D=>x.1≤xs.length∧x.2.1=k+cnL fc (xs.take x.1)∧x.2.2=(mf yP fc x.1 k xs).map Rul.D) (fun x=>xs.length - x.1) (fun x=>[(1,.sy (.d (.i x.2.1))),(5,.sy (.d (.i x.1))),(20000,.tk (.own (.l 13 x.2.2) none (some (v,M))))]) (0,k,xs.map Rul.D) ⟨Nat.zero_le _,by simp [cnL],by rw [iS]⟩ (fun x hx=>?_)
 obtain ⟨i,K,ds⟩:=x
 obtain ⟨hi,hK,hd⟩:=hx
 dsimp only at hi hK hd ⊢
 have hl:=w5 hd
 have hc:=aZ fc xs i
 refine kgm ?_
 refine bt (fun h=>?_) (fun h=>?_)
 ·have hlt:i<xs.length:=by omega
  have hlt':i<ds.length:=by omega
  have hct:=fW fc xs i hlt
  have hc':=aZ fc xs (i+1)
  have hcx:fc xs[i]=4+cnL cNd xs[i].redex.nodes+cnL c1 xs[i].redex.sites+cnL c1 xs[i].redex.outer+cnL c2 xs[i].redex.inner+cnL cNd xs[i].reactum.nodes+cnL c1 xs[i].reactum.sites+cnL c1 xs[i].reactum.outer+cnL c2 xs[i].reactum.inner+cnL c1 xs[i].copies:=by first|rfl|(simp only [fc,lL,jJ];omega)|(simp only [na];omega)
  have hKb:K+fc xs[i]≤1000000000:=by omega
  have hK0:0≤K:=by omega

  have f1:=lm xs[i].redex.nodes (K+1) (by omega) (by omega)
  have f2:=fI xs[i].redex.sites (K+1+(cnL cNd xs[i].redex.nodes:Nat)) (by omega) (by omega)
  have f4:=iY xs[i].redex.outer (K+1+(cnL cNd xs[i].redex.nodes:Nat)+(cnL c1 xs[i].redex.sites:Nat)+1) (by omega) (by omega)
  have f5:=k7 xs[i].redex.inner (K+1+(cnL cNd xs[i].redex.nodes:Nat)+(cnL c1 xs[i].redex.sites:Nat)+1+(cnL c1 xs[i].redex.outer:Nat)) (by omega) (by omega)
  have f7:=lm xs[i].reactum.nodes (K+1+(cnL cNd xs[i].redex.nodes:Nat)+(cnL c1 xs[i].redex.sites:Nat)+1+(cnL c1 xs[i].redex.outer:Nat)+(cnL c2 xs[i].redex.inner:Nat)+1) (by omega) (by omega)
  have f8:=fI xs[i].reactum.sites (K+1+(cnL cNd xs[i].redex.nodes:Nat)+(cnL c1 xs[i].redex.sites:Nat)+1+(cnL c1 xs[i].redex.outer:Nat)+(cnL c2 xs[i].redex.inner:Nat)+1+(cnL cNd xs[i].reactum.nodes:Nat)) (by omega) (by omega)
  have f10:=iY xs[i].reactum.outer (K+1+(cnL cNd xs[i].redex.nodes:Nat)+(cnL c1 xs[i].redex.sites:Nat)+1+(cnL c1 xs[i].redex.outer:Nat)+(cnL c2 xs[i].redex.inner:Nat)+1+(cnL cNd xs[i].reactum.nodes:Nat)+(cnL c1 xs[i].reactum.sites:Nat)+1) (by omega) (by omega)
  have f11:=k7 xs[i].reactum.inner (K+1+(cnL cNd xs[i].redex.nodes:Nat)+(cnL c1 xs[i].redex.sites:Nat)+1+(cnL c1 xs[i].redex.outer:Nat)+(cnL c2 xs[i].redex.inner:Nat)+1+(cnL cNd xs[i].reactum.nodes:Nat)+(cnL c1 xs[i].reactum.sites:Nat)+1+(cnL c1 xs[i].reactum.outer:Nat)) (by omega) (by omega)
  have f12:=fI xs[i].copies (K+1+(cnL cNd xs[i].redex.nodes:Nat)+(cnL c1 xs[i].redex.sites:Nat)+1+(cnL c1 xs[i].redex.outer:Nat)+(cnL c2 xs[i].redex.inner:Nat)+1+(cnL cNd xs[i].reactum.nodes:Nat)+(cnL c1 xs[i].reactum.sites:Nat)+1+(cnL c1 xs[i].reactum.outer:Nat)+(cnL c2 xs[i].reactum.inner:Nat)) (by omega) (by omega)
  refine rB 20000 (congrArg (fun d=>Tk.own (.l 13 d) none (some (v,M))) (xG hlt hd)) ?_
  refine kgm ?_
  refine rB 20000 (t':=.own (.l 13 (ds.set i (Rul.D (⟨⟨K,xs[i].redex.nodes,xs[i].redex.sites,xs[i].redex.edges,xs[i].redex.outer,xs[i].redex.inner⟩,⟨xs[i].reactum.roots,xs[i].reactum.nodes,xs[i].reactum.sites,xs[i].reactum.edges,xs[i].reactum.outer,xs[i].reactum.inner⟩,xs[i].copies⟩:Rul)))) none (some (v,M))) rfl ?_
  refine ph 20000 1 (fun u=>?_)
  refine ez ?_
  refine kgm ?_
  refine rB 20000 (t':=.own (.l 13 (ds.set i (Rul.D (⟨⟨K,mkL nr cNd (K+1) xs[i].redex.nodes,xs[i].redex.sites,xs[i].redex.edges,xs[i].redex.outer,xs[i].redex.inner⟩,⟨xs[i].reactum.roots,xs[i].reactum.nodes,xs[i].reactum.sites,xs[i].reactum.edges,xs[i].reactum.outer,xs[i].reactum.inner⟩,xs[i].copies⟩:Rul)))) none (some (v,M))) rfl ?_
  refine ph 20000 2 (fun u=>?_)
  refine ez ?_
  refine kgr ?_
  refine eD (bu ?_)
  refine rB 20000 (t':=.own (.l 13 (ds.set i (Rul.D (⟨⟨K,mkL nr cNd (K+1) xs[i].redex.nodes,mkL mkI c1 (K+1+(cnL cNd xs[i].redex.nodes:Nat)) xs[i].redex.sites,xs[i].redex.edges,xs[i].redex.outer,xs[i].redex.inner⟩,⟨xs[i].reactum.roots,xs[i].reactum.nodes,xs[i].reactum.sites,xs[i].reactum.edges,xs[i].reactum.outer,xs[i].reactum.inner⟩,xs[i].copies⟩:Rul)))) none (some (v,M))) rfl ?_
  refine kgm ?_
  try (refine aO ?_;refine ky (f:=3) ?_;refine kgm ?_)
  refine rB 20000 (t':=.own (.l 13 (ds.set i (Rul.D (⟨⟨K,mkL nr cNd (K+1) xs[i].redex.nodes,mkL mkI c1 (K+1+(cnL cNd xs[i].redex.nodes:Nat)) xs[i].redex.sites,K+1+(cnL cNd xs[i].redex.nodes:Nat)+(cnL c1 xs[i].redex.sites:Nat),xs[i].redex.outer,xs[i].redex.inner⟩,⟨xs[i].reactum.roots,xs[i].reactum.nodes,xs[i].reactum.sites,xs[i].reactum.edges,xs[i].reactum.outer,xs[i].reactum.inner⟩,xs[i].copies⟩:Rul)))) none (some (v,M))) rfl ?_
  refine ph 20000 4 (fun u=>?_)
  refine ez ?_
  refine kgm ?_
  refine rB 20000 (t':=.own (.l 13 (ds.set i (Rul.D (⟨⟨K,mkL nr cNd (K+1) xs[i].redex.nodes,mkL mkI c1 (K+1+(cnL cNd xs[i].redex.nodes:Nat)) xs[i].redex.sites,K+1+(cnL cNd xs[i].redex.nodes:Nat)+(cnL c1 xs[i].redex.sites:Nat),mkL mkS c1 (K+1+(cnL cNd xs[i].redex.nodes:Nat)+(cnL c1 xs[i].redex.sites:Nat)+1) xs[i].redex.outer,xs[i].redex.inner⟩,⟨xs[i].reactum.roots,xs[i].reactum.nodes,xs[i].reactum.sites,xs[i].reactum.edges,xs[i].reactum.outer,xs[i].reactum.inner⟩,xs[i].copies⟩:Rul)))) none (some (v,M))) rfl ?_
  refine ph 20000 5 (fun u=>?_)
  refine ez ?_
  refine kgr ?_
  refine eD (bu ?_)
  refine rB 20000 (t':=.own (.l 13 (ds.set i (Rul.D (⟨⟨K,mkL nr cNd (K+1) xs[i].redex.nodes,mkL mkI c1 (K+1+(cnL cNd xs[i].redex.nodes:Nat)) xs[i].redex.sites,K+1+(cnL cNd xs[i].redex.nodes:Nat)+(cnL c1 xs[i].redex.sites:Nat),mkL mkS c1 (K+1+(cnL cNd xs[i].redex.nodes:Nat)+(cnL c1 xs[i].redex.sites:Nat)+1) xs[i].redex.outer,mkL sG c2 (K+1+(cnL cNd xs[i].redex.nodes:Nat)+(cnL c1 xs[i].redex.sites:Nat)+1+(cnL c1 xs[i].redex.outer:Nat)) xs[i].redex.inner⟩,⟨xs[i].reactum.roots,xs[i].reactum.nodes,xs[i].reactum.sites,xs[i].reactum.edges,xs[i].reactum.outer,xs[i].reactum.inner⟩,xs[i].copies⟩:Rul)))) none (some (v,M))) rfl ?_
  refine kgm ?_
  try (refine aO ?_;refine ky (f:=6) ?_;refine kgm ?_)
  refine rB 20000 (t':=.own (.l 13 (ds.set i (Rul.D (⟨⟨K,mkL nr cNd (K+1) xs[i].redex.nodes,mkL mkI c1 (K+1+(cnL cNd xs[i].redex.nodes:Nat)) xs[i].redex.sites,K+1+(cnL cNd xs[i].redex.nodes:Nat)+(cnL c1 xs[i].redex.sites:Nat),mkL mkS c1 (K+1+(cnL cNd xs[i].redex.nodes:Nat)+(cnL c1 xs[i].redex.sites:Nat)+1) xs[i].redex.outer,mkL sG c2 (K+1+(cnL cNd xs[i].redex.nodes:Nat)+(cnL c1 xs[i].redex.sites:Nat)+1+(cnL c1 xs[i].redex.outer:Nat)) xs[i].redex.inner⟩,⟨K+1+(cnL cNd xs[i].redex.nodes:Nat)+(cnL c1 xs[i].redex.sites:Nat)+1+(cnL c1 xs[i].redex.outer:Nat)+(cnL c2 xs[i].redex.inner:Nat),xs[i].reactum.nodes,xs[i].reactum.sites,xs[i].reactum.edges,xs[i].reactum.outer,xs[i].reactum.inner⟩,xs[i].copies⟩:Rul)))) none (some (v,M))) rfl ?_
  refine ph 20000 7 (fun u=>?_)
  refine ez ?_
  refine kgm ?_
  refine rB 20000 (t':=.own (.l 13 (ds.set i (Rul.D (⟨⟨K,mkL nr cNd (K+1) xs[i].redex.nodes,mkL mkI c1 (K+1+(cnL cNd xs[i].redex.nodes:Nat)) xs[i].redex.sites,K+1+(cnL cNd xs[i].redex.nodes:Nat)+(cnL c1 xs[i].redex.sites:Nat),mkL mkS c1 (K+1+(cnL cNd xs[i].redex.nodes:Nat)+(cnL c1 xs[i].redex.sites:Nat)+1) xs[i].redex.outer,mkL sG c2 (K+1+(cnL cNd xs[i].redex.nodes:Nat)+(cnL c1 xs[i].redex.sites:Nat)+1+(cnL c1 xs[i].redex.outer:Nat)) xs[i].redex.inner⟩,⟨K+1+(cnL cNd xs[i].redex.nodes:Nat)+(cnL c1 xs[i].redex.sites:Nat)+1+(cnL c1 xs[i].redex.outer:Nat)+(cnL c2 xs[i].redex.inner:Nat),mkL nr cNd (K+1+(cnL cNd xs[i].redex.nodes:Nat)+(cnL c1 xs[i].redex.sites:Nat)+1+(cnL c1 xs[i].redex.outer:Nat)+(cnL c2 xs[i].redex.inner:Nat)+1) xs[i].reactum.nodes,xs[i].reactum.sites,xs[i].reactum.edges,xs[i].reactum.outer,xs[i].reactum.inner⟩,xs[i].copies⟩:Rul)))) none (some (v,M))) rfl ?_
  refine ph 20000 8 (fun u=>?_)
  refine ez ?_
  refine kgr ?_
  refine eD (bu ?_)
  refine rB 20000 (t':=.own (.l 13 (ds.set i (Rul.D (⟨⟨K,mkL nr cNd (K+1) xs[i].redex.nodes,mkL mkI c1 (K+1+(cnL cNd xs[i].redex.nodes:Nat)) xs[i].redex.sites,K+1+(cnL cNd xs[i].redex.nodes:Nat)+(cnL c1 xs[i].redex.sites:Nat),mkL mkS c1 (K+1+(cnL cNd xs[i].redex.nodes:Nat)+(cnL c1 xs[i].redex.sites:Nat)+1) xs[i].redex.outer,mkL sG c2 (K+1+(cnL cNd xs[i].redex.nodes:Nat)+(cnL c1 xs[i].redex.sites:Nat)+1+(cnL c1 xs[i].redex.outer:Nat)) xs[i].redex.inner⟩,⟨K+1+(cnL cNd xs[i].redex.nodes:Nat)+(cnL c1 xs[i].redex.sites:Nat)+1+(cnL c1 xs[i].redex.outer:Nat)+(cnL c2 xs[i].redex.inner:Nat),mkL nr cNd (K+1+(cnL cNd xs[i].redex.nodes:Nat)+(cnL c1 xs[i].redex.sites:Nat)+1+(cnL c1 xs[i].redex.outer:Nat)+(cnL c2 xs[i].redex.inner:Nat)+1) xs[i].reactum.nodes,mkL mkI c1 (K+1+(cnL cNd xs[i].redex.nodes:Nat)+(cnL c1 xs[i].redex.sites:Nat)+1+(cnL c1 xs[i].redex.outer:Nat)+(cnL c2 xs[i].redex.inner:Nat)+1+(cnL cNd xs[i].reactum.nodes:Nat)) xs[i].reactum.sites,xs[i].reactum.edges,xs[i].reactum.outer,xs[i].reactum.inner⟩,xs[i].copies⟩:Rul)))) none (some (v,M))) rfl ?_
  refine kgm ?_
  try (refine aO ?_;refine ky (f:=9) ?_;refine kgm ?_)
  refine rB 20000 (t':=.own (.l 13 (ds.set i (Rul.D (⟨⟨K,mkL nr cNd (K+1) xs[i].redex.nodes,mkL mkI c1 (K+1+(cnL cNd xs[i].redex.nodes:Nat)) xs[i].redex.sites,K+1+(cnL cNd xs[i].redex.nodes:Nat)+(cnL c1 xs[i].redex.sites:Nat),mkL mkS c1 (K+1+(cnL cNd xs[i].redex.nodes:Nat)+(cnL c1 xs[i].redex.sites:Nat)+1) xs[i].redex.outer,mkL sG c2 (K+1+(cnL cNd xs[i].redex.nodes:Nat)+(cnL c1 xs[i].redex.sites:Nat)+1+(cnL c1 xs[i].redex.outer:Nat)) xs[i].redex.inner⟩,⟨K+1+(cnL cNd xs[i].redex.nodes:Nat)+(cnL c1 xs[i].redex.sites:Nat)+1+(cnL c1 xs[i].redex.outer:Nat)+(cnL c2 xs[i].redex.inner:Nat),mkL nr cNd (K+1+(cnL cNd xs[i].redex.nodes:Nat)+(cnL c1 xs[i].redex.sites:Nat)+1+(cnL c1 xs[i].redex.outer:Nat)+(cnL c2 xs[i].redex.inner:Nat)+1) xs[i].reactum.nodes,mkL mkI c1 (K+1+(cnL cNd xs[i].redex.nodes:Nat)+(cnL c1 xs[i].redex.sites:Nat)+1+(cnL c1 xs[i].redex.outer:Nat)+(cnL c2 xs[i].redex.inner:Nat)+1+(cnL cNd xs[i].reactum.nodes:Nat)) xs[i].reactum.sites,K+1+(cnL cNd xs[i].redex.nodes:Nat)+(cnL c1 xs[i].redex.sites:Nat)+1+(cnL c1 xs[i].redex.outer:Nat)+(cnL c2 xs[i].redex.inner:Nat)+1+(cnL cNd xs[i].reactum.nodes:Nat)+(cnL c1 xs[i].reactum.sites:Nat),xs[i].reactum.outer,xs[i].reactum.inner⟩,xs[i].copies⟩:Rul)))) none (some (v,M))) rfl ?_
  refine ph 20000 10 (fun u=>?_)
  refine ez ?_
  refine kgm ?_
  refine rB 20000 (t':=.own (.l 13 (ds.set i (Rul.D (⟨⟨K,mkL nr cNd (K+1) xs[i].redex.nodes,mkL mkI c1 (K+1+(cnL cNd xs[i].redex.nodes:Nat)) xs[i].redex.sites,K+1+(cnL cNd xs[i].redex.nodes:Nat)+(cnL c1 xs[i].redex.sites:Nat),mkL mkS c1 (K+1+(cnL cNd xs[i].redex.nodes:Nat)+(cnL c1 xs[i].redex.sites:Nat)+1) xs[i].redex.outer,mkL sG c2 (K+1+(cnL cNd xs[i].redex.nodes:Nat)+(cnL c1 xs[i].redex.sites:Nat)+1+(cnL c1 xs[i].redex.outer:Nat)) xs[i].redex.inner⟩,⟨K+1+(cnL cNd xs[i].redex.nodes:Nat)+(cnL c1 xs[i].redex.sites:Nat)+1+(cnL c1 xs[i].redex.outer:Nat)+(cnL c2 xs[i].redex.inner:Nat),mkL nr cNd (K+1+(cnL cNd xs[i].redex.nodes:Nat)+(cnL c1 xs[i].redex.sites:Nat)+1+(cnL c1 xs[i].redex.outer:Nat)+(cnL c2 xs[i].redex.inner:Nat)+1) xs[i].reactum.nodes,mkL mkI c1 (K+1+(cnL cNd xs[i].redex.nodes:Nat)+(cnL c1 xs[i].redex.sites:Nat)+1+(cnL c1 xs[i].redex.outer:Nat)+(cnL c2 xs[i].redex.inner:Nat)+1+(cnL cNd xs[i].reactum.nodes:Nat)) xs[i].reactum.sites,K+1+(cnL cNd xs[i].redex.nodes:Nat)+(cnL c1 xs[i].redex.sites:Nat)+1+(cnL c1 xs[i].redex.outer:Nat)+(cnL c2 xs[i].redex.inner:Nat)+1+(cnL cNd xs[i].reactum.nodes:Nat)+(cnL c1 xs[i].reactum.sites:Nat),mkL mkS c1 (K+1+(cnL cNd xs[i].redex.nodes:Nat)+(cnL c1 xs[i].redex.sites:Nat)+1+(cnL c1 xs[i].redex.outer:Nat)+(cnL c2 xs[i].redex.inner:Nat)+1+(cnL cNd xs[i].reactum.nodes:Nat)+(cnL c1 xs[i].reactum.sites:Nat)+1) xs[i].reactum.outer,xs[i].reactum.inner⟩,xs[i].copies⟩:Rul)))) none (some (v,M))) rfl ?_
  refine ph 20000 11 (fun u=>?_)
  refine ez ?_
  refine kgm ?_
  refine rB 20000 (t':=.own (.l 13 (ds.set i (Rul.D (⟨⟨K,mkL nr cNd (K+1) xs[i].redex.nodes,mkL mkI c1 (K+1+(cnL cNd xs[i].redex.nodes:Nat)) xs[i].redex.sites,K+1+(cnL cNd xs[i].redex.nodes:Nat)+(cnL c1 xs[i].redex.sites:Nat),mkL mkS c1 (K+1+(cnL cNd xs[i].redex.nodes:Nat)+(cnL c1 xs[i].redex.sites:Nat)+1) xs[i].redex.outer,mkL sG c2 (K+1+(cnL cNd xs[i].redex.nodes:Nat)+(cnL c1 xs[i].redex.sites:Nat)+1+(cnL c1 xs[i].redex.outer:Nat)) xs[i].redex.inner⟩,⟨K+1+(cnL cNd xs[i].redex.nodes:Nat)+(cnL c1 xs[i].redex.sites:Nat)+1+(cnL c1 xs[i].redex.outer:Nat)+(cnL c2 xs[i].redex.inner:Nat),mkL nr cNd (K+1+(cnL cNd xs[i].redex.nodes:Nat)+(cnL c1 xs[i].redex.sites:Nat)+1+(cnL c1 xs[i].redex.outer:Nat)+(cnL c2 xs[i].redex.inner:Nat)+1) xs[i].reactum.nodes,mkL mkI c1 (K+1+(cnL cNd xs[i].redex.nodes:Nat)+(cnL c1 xs[i].redex.sites:Nat)+1+(cnL c1 xs[i].redex.outer:Nat)+(cnL c2 xs[i].redex.inner:Nat)+1+(cnL cNd xs[i].reactum.nodes:Nat)) xs[i].reactum.sites,K+1+(cnL cNd xs[i].redex.nodes:Nat)+(cnL c1 xs[i].redex.sites:Nat)+1+(cnL c1 xs[i].redex.outer:Nat)+(cnL c2 xs[i].redex.inner:Nat)+1+(cnL cNd xs[i].reactum.nodes:Nat)+(cnL c1 xs[i].reactum.sites:Nat),mkL mkS c1 (K+1+(cnL cNd xs[i].redex.nodes:Nat)+(cnL c1 xs[i].redex.sites:Nat)+1+(cnL c1 xs[i].redex.outer:Nat)+(cnL c2 xs[i].redex.inner:Nat)+1+(cnL cNd xs[i].reactum.nodes:Nat)+(cnL c1 xs[i].reactum.sites:Nat)+1) xs[i].reactum.outer,mkL sG c2 (K+1+(cnL cNd xs[i].redex.nodes:Nat)+(cnL c1 xs[i].redex.sites:Nat)+1+(cnL c1 xs[i].redex.outer:Nat)+(cnL c2 xs[i].redex.inner:Nat)+1+(cnL cNd xs[i].reactum.nodes:Nat)+(cnL c1 xs[i].reactum.sites:Nat)+1+(cnL c1 xs[i].reactum.outer:Nat)) xs[i].reactum.inner⟩,xs[i].copies⟩:Rul)))) none (some (v,M))) rfl ?_
  refine ph 20000 12 (fun u=>?_)
  refine ez ?_
  refine kgm ?_
  exact af (i+1,K+1+(cnL cNd xs[i].redex.nodes:Nat)+(cnL c1 xs[i].redex.sites:Nat)+1+(cnL c1 xs[i].redex.outer:Nat)+(cnL c2 xs[i].redex.inner:Nat)+1+(cnL cNd xs[i].reactum.nodes:Nat)+(cnL c1 xs[i].reactum.sites:Nat)+1+(cnL c1 xs[i].reactum.outer:Nat)+(cnL c2 xs[i].reactum.inner:Nat)+(cnL c1 xs[i].copies:Nat),ds.set i (Rul.D (yP K xs[i]))) ⟨hlt,by show K+1+(cnL cNd xs[i].redex.nodes:Nat)+(cnL c1 xs[i].redex.sites:Nat)+1+(cnL c1 xs[i].redex.outer:Nat)+(cnL c2 xs[i].redex.inner:Nat)+1+(cnL cNd xs[i].reactum.nodes:Nat)+(cnL c1 xs[i].reactum.sites:Nat)+1+(cnL c1 xs[i].reactum.outer:Nat)+(cnL c2 xs[i].reactum.inner:Nat)+(cnL c1 xs[i].copies:Nat)=k+(cnL fc (xs.take (i+1)):Nat);omega,pX hlt hd hK⟩ (by show _ - (i+1)<_ - i;omega)
 have hie:i=xs.length:=by omega
 rw [w7 hie hd]
 rw [hie,iE] at hK
 rw [← hK]
 refine kgm ?_
 exact Fk hM
end Go.Proofs.YtclpbhoekmecjaaGreatDoor
namespace Go.Proofs.YtclpbhoekmecjaaGreatDoor
open Go.RowKit
set_option linter.unusedVariables false
set_option maxRecDepth 100000
set_option maxHeartbeats 1000000
attribute [local irreducible] au Der At jt mkL cnL mf
theorem kr (xs:List Int) (k:Int) (h0:0≤k) (h1:k+cnL c1 xs≤1000000000):FnD Tryz.prog 76 [.l 1 ((mkL mkI c1 k xs).map D.i),.i k] (.d (.i (k+cnL c1 xs))):=by
 have hl:=jK mkI c1 xs k
 have ha:=fun i h=>wA mkI c1 i k xs h (by rw [hl];exact h)
 refine ah Tryz.func76 (fun hw W0=>?_)
 have hw':=(wfM hw.1).1
 obtain ⟨ys,hys⟩:∃ys,mkL mkI c1 k xs=ys:=⟨_,rfl⟩
 simp only [hys] at hl ha hw' ⊢
 refine kgo ?_
 refine aq [0] (fun x:Nat × Int=>x.1≤xs.length∧x.2=k+cnL c1 (xs.take x.1)) (fun x=>xs.length - x.1) (fun x=>[(1,.sy (.d (.i x.2))),(5,.sy (.d (.i x.1)))]) (0,k) ⟨Nat.zero_le _,by simp [cnL]⟩ (fun x hx=>?_)
 obtain ⟨i,K⟩:=x
 obtain ⟨hi,hK⟩:=hx
 dsimp only at hi hK ⊢
 have hc:=aZ c1 xs i
 refine kgo ?_
 refine bt (fun h=>?_) (fun h=>?_)
 ·have hlt:i<xs.length:=by omega
  have hlt':i<ys.length:=by omega
  have hct:=fW c1 xs i hlt
  have hc':=aZ c1 xs (i+1)
  have hcx:c1 xs[i]=1:=by first|rfl|(simp only [fc,lL,jJ];omega)|(simp only [na];omega)
  have hKb:K+c1 xs[i]≤1000000000:=by omega
  have hK0:0≤K:=by omega
  have hat:=ha i hlt
  rw [← hK] at hat
  have e0:ys[i]=K:=by rw [hat];rfl
  refine kgo ?_
  rw [e0]
  refine lV (fun h=>absurd rfl h) (fun _=>?_)
  refine kgo ?_
  exact af (i+1,K+1) ⟨hlt,by show K+1=k+(cnL c1 (xs.take (i+1)):Nat);omega⟩ (by show _ - (i+1)<_ - i;omega)
 have hie:i=xs.length:=by omega
 rw [hie,iE] at hK
 rw [← hK]
 refine kgo ?_
 exact aD
theorem qS (xs:List ByteArray) (k:Int) (h0:0≤k) (h1:k+cnL c1 xs≤1000000000):FnD Tryz.prog 77 [.l 1 ((mkL mkS c1 k xs).map D.s),.i k] (.d (.i (k+cnL c1 xs))):=by
 have hl:=jK mkS c1 xs k
 have ha:=fun i h=>wA mkS c1 i k xs h (by rw [hl];exact h)
 refine ah Tryz.func77 (fun hw W0=>?_)
 have hw':=(wfM hw.1).1
 obtain ⟨ys,hys⟩:∃ys,mkL mkS c1 k xs=ys:=⟨_,rfl⟩
 simp only [hys] at hl ha hw' ⊢
 refine kgo ?_
 refine aq [0] (fun x:Nat × Int=>x.1≤xs.length∧x.2=k+cnL c1 (xs.take x.1)) (fun x=>xs.length - x.1) (fun x=>[(1,.sy (.d (.i x.2))),(5,.sy (.d (.i x.1)))]) (0,k) ⟨Nat.zero_le _,by simp [cnL]⟩ (fun x hx=>?_)
 obtain ⟨i,K⟩:=x
 obtain ⟨hi,hK⟩:=hx
 dsimp only at hi hK ⊢
 have hc:=aZ c1 xs i
 refine kgo ?_
 refine bt (fun h=>?_) (fun h=>?_)
 ·have hlt:i<xs.length:=by omega
  have hlt':i<ys.length:=by omega
  have hct:=fW c1 xs i hlt
  have hc':=aZ c1 xs (i+1)
  have hcx:c1 xs[i]=1:=by first|rfl|(simp only [fc,lL,jJ];omega)|(simp only [na];omega)
  have hKb:K+c1 xs[i]≤1000000000:=by omega
  have hK0:0≤K:=by omega
  have hat:=ha i hlt
  rw [← hK] at hat
  have f0:=iM (K) (by omega) (by omega)
  have e0:ys[i]=jt (K):=by rw [hat];rfl
  refine kgo ?_
  rw [e0]
  refine cIf (fun h=>?_) (fun _=>?_)
  ·simp at h
  refine kgo ?_
  exact af (i+1,K+1) ⟨hlt,by show K+1=k+(cnL c1 (xs.take (i+1)):Nat);omega⟩ (by show _ - (i+1)<_ - i;omega)
 have hie:i=xs.length:=by omega
 rw [hie,iE] at hK
 rw [← hK]
 refine kgo ?_
 exact aD
theorem tV (xs:List Wr) (k:Int) (h0:0≤k) (h1:k+cnL c2 xs≤1000000000):FnD Tryz.prog 78 [.l 2 ((mkL sG c2 k xs).map Wr.D),.i k] (.d (.i (k+cnL c2 xs))):=by
 have hl:=jK sG c2 xs k
 have ha:=fun i h=>wA sG c2 i k xs h (by rw [hl];exact h)
 refine ah Tryz.func78 (fun hw W0=>?_)
 have hw':=(wfM hw.1).1
 obtain ⟨ys,hys⟩:∃ys,mkL sG c2 k xs=ys:=⟨_,rfl⟩
 simp only [hys] at hl ha hw' ⊢
 refine kgo ?_
 refine aq [0] (fun x:Nat × Int=>x.1≤xs.length∧x.2=k+cnL c2 (xs.take x.1)) (fun x=>xs.length - x.1) (fun x=>[(1,.sy (.d (.i x.2))),(5,.sy (.d (.i x.1)))]) (0,k) ⟨Nat.zero_le _,by simp [cnL]⟩ (fun x hx=>?_)
 obtain ⟨i,K⟩:=x
 obtain ⟨hi,hK⟩:=hx
 dsimp only at hi hK ⊢
 have hc:=aZ c2 xs i
 refine kgo ?_
 refine bt (fun h=>?_) (fun h=>?_)
 ·have hlt:i<xs.length:=by omega
  have hlt':i<ys.length:=by omega
  have hct:=fW c2 xs i hlt
  have hc':=aZ c2 xs (i+1)
  have hcx:c2 xs[i]=2:=by first|rfl|(simp only [fc,lL,jJ];omega)|(simp only [na];omega)
  have hKb:K+c2 xs[i]≤1000000000:=by omega
  have hK0:0≤K:=by omega
  have hat:=ha i hlt
  rw [← hK] at hat
  have f0:=iM (K) (by omega) (by omega)
  have e0:ys[i].name=jt (K):=by rw [hat];rfl
  have e1:ys[i].link=K+1:=by rw [hat];rfl
  refine kgo ?_
  rw [e0]
  refine cIf (fun h=>?_) (fun _=>?_)
  ·simp at h
  refine kgo ?_
  rw [e1]
  refine lV (fun h=>absurd rfl h) (fun _=>?_)
  refine kgo ?_
  exact af (i+1,K+1+1) ⟨hlt,by show K+1+1=k+(cnL c2 (xs.take (i+1)):Nat);omega⟩ (by show _ - (i+1)<_ - i;omega)
 have hie:i=xs.length:=by omega
 rw [hie,iE] at hK
 rw [← hK]
 refine kgo ?_
 exact aD
theorem uE (xs:List Nd) (k:Int) (h0:0≤k) (h1:k+cnL cNd xs≤1000000000):FnD Tryz.prog 75 [.l 3 ((mkL nr cNd k xs).map Nd.D),.i k] (.d (.i (k+cnL cNd xs))):=by
 have hl:=jK nr cNd xs k
 have ha:=fun i h=>wA nr cNd i k xs h (by rw [hl];exact h)
 refine ah Tryz.func75 (fun hw W0=>?_)
 have hw':=(wfM hw.1).1
 obtain ⟨ys,hys⟩:∃ys,mkL nr cNd k xs=ys:=⟨_,rfl⟩
 simp only [hys] at hl ha hw' ⊢
 refine kgo ?_
 refine aq [0] (fun x:Nat × Int=>x.1≤xs.length∧x.2=k+cnL cNd (xs.take x.1)) (fun x=>xs.length - x.1) (fun x=>[(1,.sy (.d (.i x.2))),(5,.sy (.d (.i x.1)))]) (0,k) ⟨Nat.zero_le _,by simp [cnL]⟩ (fun x hx=>?_)
 obtain ⟨i,K⟩:=x
 obtain ⟨hi,hK⟩:=hx
 dsimp only at hi hK ⊢
 have hc:=aZ cNd xs i
 refine kgo ?_
 refine bt (fun h=>?_) (fun h=>?_)
 ·have hlt:i<xs.length:=by omega
  have hlt':i<ys.length:=by omega
  have hct:=fW cNd xs i hlt
  have hc':=aZ cNd xs (i+1)
  have hcx:cNd xs[i]=2+cnL c1 xs[i].links:=by first|rfl|(simp only [fc,lL,jJ];omega)|(simp only [na];omega)
  have hKb:K+cNd xs[i]≤1000000000:=by omega
  have hK0:0≤K:=by omega
  have hat:=ha i hlt
  rw [← hK] at hat
  have e0:ys[i].control=K:=by rw [hat];rfl
  have e1:ys[i].parent=K+1:=by rw [hat];rfl
  have f2:=kr xs[i].links (K+1+1) (by omega) (by omega)
  rw [show mkL mkI c1 (K+1+1) xs[i].links=ys[i].links by rw [hat];rfl] at f2
  refine kgo ?_
  rw [e0]
  refine lV (fun h=>absurd rfl h) (fun _=>?_)
  refine kgo ?_
  rw [e1]
  refine lV (fun h=>absurd rfl h) (fun _=>?_)
  refine kgo ?_
  refine bt (fun h=>?_) (fun _=>?_)
  ·omega
  refine kgo ?_
  exact af (i+1,K+1+1+(cnL c1 xs[i].links:Nat)) ⟨hlt,by show K+1+1+(cnL c1 xs[i].links:Nat)=k+(cnL cNd (xs.take (i+1)):Nat);omega⟩ (by show _ - (i+1)<_ - i;omega)
 have hie:i=xs.length:=by omega
 rw [hie,iE] at hK
 rw [← hK]
 refine kgo ?_
 exact aD
end Go.Proofs.YtclpbhoekmecjaaGreatDoor
namespace Go.Proofs.YtclpbhoekmecjaaGreatDoor
open Go.RowKit
set_option linter.unusedVariables false
set_option maxRecDepth 100000
set_option maxHeartbeats 1000000
attribute [local irreducible] au Der At jt mkL cnL mf
theorem lE (b:Big) (k:Int) (h0:0≤k) (h1:k+jJ b≤1000000000):Gd Tryz.prog 23 [.i b.roots,.l 3 (b.nodes.map Nd.D),DI b.sites,.i b.edges,.l 1 (b.outer.map D.s),.l 2 (b.inner.map Wr.D)] [.i (sA k b).roots,.l 3 ((sA k b).nodes.map Nd.D),DI (sA k b).sites,.i (sA k b).edges,.l 1 ((sA k b).outer.map D.s),.l 2 ((sA k b).inner.map Wr.D)] k (k+jJ b):=by
 have e:jJ b=cnL cNd b.nodes+cnL c1 b.sites+cnL c1 b.outer+cnL c2 b.inner:=rfl
 have f1:=lm b.nodes k h0 (by omega)
 have f2:=fI b.sites (k+(cnL cNd b.nodes:Nat)) (by omega) (by omega)
 have f3:=iY b.outer (k+(cnL cNd b.nodes:Nat)+(cnL c1 b.sites:Nat)) (by omega) (by omega)
 have f4:=k7 b.inner (k+(cnL cNd b.nodes:Nat)+(cnL c1 b.sites:Nat)+(cnL c1 b.outer:Nat)) (by omega) (by omega)
 rw [show k+(jJ b:Int)=k+(cnL cNd b.nodes:Nat)+(cnL c1 b.sites:Nat)+(cnL c1 b.outer:Nat)+(cnL c2 b.inner:Nat) by omega]
 refine tJ Tryz.func23 (Ck h0 (by omega)) (fun W0 V T=>?_)
 refine kgl ?_
 exact EO
theorem qO (b:Big) (k:Int) (h0:0≤k) (h1:k+jJ b≤1000000000):FnD Tryz.prog 25 [(sA k b).D,.i k] (.d (.i (k+jJ b))):=by
 have e:jJ b=cnL cNd b.nodes+cnL c1 b.sites+cnL c1 b.outer+cnL c2 b.inner:=rfl
 have f1:=uE b.nodes k h0 (by omega)
 have f2:=kr b.sites (k+(cnL cNd b.nodes:Nat)) (by omega) (by omega)
 have f3:=qS b.outer (k+(cnL cNd b.nodes:Nat)+(cnL c1 b.sites:Nat)) (by omega) (by omega)
 have f4:=tV b.inner (k+(cnL cNd b.nodes:Nat)+(cnL c1 b.sites:Nat)+(cnL c1 b.outer:Nat)) (by omega) (by omega)
 rw [show k+(jJ b:Int)=k+(cnL cNd b.nodes:Nat)+(cnL c1 b.sites:Nat)+(cnL c1 b.outer:Nat)+(cnL c2 b.inner:Nat) by omega]
 refine ah Tryz.func25 (fun hw W0=>?_)
 refine kgo ?_
 refine bt (fun h=>?_) (fun _=>?_)
 ·omega
 refine kgo ?_
 refine bt (fun h=>?_) (fun _=>?_)
 ·omega
 refine kgo ?_
 refine bt (fun h=>?_) (fun _=>?_)
 ·omega
 refine kgo ?_
 refine bt (fun h=>?_) (fun _=>?_)
 ·omega
 refine kgo ?_
 exact aD
end Go.Proofs.YtclpbhoekmecjaaGreatDoor
namespace Go.Proofs.YtclpbhoekmecjaaGreatDoor
open Go.RowKit
set_option linter.unusedVariables false
set_option maxRecDepth 100000
set_option maxHeartbeats 1000000
attribute [local irreducible] au Der At
theorem ma (xs:List Int):FnD Tryz.prog 63 [.l 1 (xs.map D.i),.l 1 (xs.map D.i)] (.d (.b true)):=by
 refine ah Tryz.func63 (fun hw W0=>?_)
 have hl:=(wfM hw.1).1
 refine kgo ?_
 refine lV (fun h=>absurd rfl h) (fun _=>?_)
 refine kgo ?_
 refine aq [0,1] (fun i:Nat=>i≤xs.length) (fun i=>xs.length - i) (fun i=>[(5,.sy (.d (.i i)))]) 0 (Nat.zero_le _) (fun i hi=>?_)
 refine kgo ?_
 refine bt (fun h=>?_) (fun h=>?_)
 ·have hlt:i<xs.length:=by omega
  refine kgo ?_
  refine lV (fun h=>absurd rfl h) (fun _=>?_)
  refine kgo ?_
  exact af (i+1) hlt (by show _ - (i+1)<_ - i;omega)
 refine kgo ?_
 exact aD
theorem uL (xs:List ByteArray):FnD Tryz.prog 64 [.l 1 (xs.map D.s),.l 1 (xs.map D.s)] (.d (.b true)):=by
 refine ah Tryz.func64 (fun hw W0=>?_)
 have hl:=(wfM hw.1).1
 refine kgo ?_
 refine lV (fun h=>absurd rfl h) (fun _=>?_)
 refine kgo ?_
 refine aq [0,1] (fun i:Nat=>i≤xs.length) (fun i=>xs.length - i) (fun i=>[(5,.sy (.d (.i i)))]) 0 (Nat.zero_le _) (fun i hi=>?_)
 refine kgo ?_
 refine bt (fun h=>?_) (fun h=>?_)
 ·have hlt:i<xs.length:=by omega
  refine kgo ?_
  refine cIf (fun h=>?_) (fun _=>?_)
  ·simp at h
  refine kgo ?_
  exact af (i+1) hlt (by show _ - (i+1)<_ - i;omega)
 refine kgo ?_
 exact aD
theorem uv (x:Ctl):FnD Tryz.prog 66 [Ctl.D x,Ctl.D x] (.d (.b true)):=by
 refine ah Tryz.func66 (fun hw W0=>?_)
 refine kgo ?_
 refine cIf (fun h=>?_) (fun _=>?_)
 ·simp at h
 refine kgo ?_
 refine lV (fun h=>absurd rfl h) (fun _=>?_)
 refine kgo ?_
 refine lV (fun h=>absurd rfl h) (fun _=>?_)
 refine kgo ?_
 exact aD
theorem sC (xs:List Ctl):FnD Tryz.prog 18 [.l 3 (xs.map Ctl.D),.l 3 (xs.map Ctl.D)] (.d (.b true)):=by
 refine ah Tryz.func18 (fun hw W0=>?_)
 have hl:=(wfM hw.1).1
 refine kgo ?_
 refine lV (fun h=>absurd rfl h) (fun _=>?_)
 refine kgo ?_
 refine aq [0,1] (fun i:Nat=>i≤xs.length) (fun i=>xs.length - i) (fun i=>[(5,.sy (.d (.i i)))]) 0 (Nat.zero_le _) (fun i hi=>?_)
 refine kgo ?_
 refine bt (fun h=>?_) (fun h=>?_)
 ·have hlt:i<xs.length:=by omega
  have f:=uv xs[i]
  refine kgo ?_
  exact af (i+1) hlt (by show _ - (i+1)<_ - i;omega)
 refine kgo ?_
 exact aD
theorem BX (x:Wr):FnD Tryz.prog 120 [Wr.D x,Wr.D x] (.d (.b true)):=by
 refine ah Tryz.func120 (fun hw W0=>?_)
 refine kgo ?_
 refine cIf (fun h=>?_) (fun _=>?_)
 ·simp at h
 refine kgo ?_
 refine lV (fun h=>absurd rfl h) (fun _=>?_)
 refine kgo ?_
 exact aD
theorem AK (xs:List Wr):FnD Tryz.prog 65 [.l 2 (xs.map Wr.D),.l 2 (xs.map Wr.D)] (.d (.b true)):=by
 refine ah Tryz.func65 (fun hw W0=>?_)
 have hl:=(wfM hw.1).1
 refine kgo ?_
 refine lV (fun h=>absurd rfl h) (fun _=>?_)
 refine kgo ?_
 refine aq [0,1] (fun i:Nat=>i≤xs.length) (fun i=>xs.length - i) (fun i=>[(5,.sy (.d (.i i)))]) 0 (Nat.zero_le _) (fun i hi=>?_)
 refine kgo ?_
 refine bt (fun h=>?_) (fun h=>?_)
 ·have hlt:i<xs.length:=by omega
  have f:=BX xs[i]
  refine kgo ?_
  exact af (i+1) hlt (by show _ - (i+1)<_ - i;omega)
 refine kgo ?_
 exact aD
theorem CT (x:Nd):FnD Tryz.prog 119 [Nd.D x,Nd.D x] (.d (.b true)):=by
 have flinks:=ma x.links
 refine ah Tryz.func119 (fun hw W0=>?_)
 refine kgo ?_
 refine lV (fun h=>absurd rfl h) (fun _=>?_)
 refine kgo ?_
 refine lV (fun h=>absurd rfl h) (fun _=>?_)
 refine kgo ?_
 exact aD
theorem y8 (xs:List Nd):FnD Tryz.prog 62 [.l 3 (xs.map Nd.D),.l 3 (xs.map Nd.D)] (.d (.b true)):=by
 refine ah Tryz.func62 (fun hw W0=>?_)
 have hl:=(wfM hw.1).1
 refine kgo ?_
 refine lV (fun h=>absurd rfl h) (fun _=>?_)
 refine kgo ?_
 refine aq [0,1] (fun i:Nat=>i≤xs.length) (fun i=>xs.length - i) (fun i=>[(5,.sy (.d (.i i)))]) 0 (Nat.zero_le _) (fun i hi=>?_)
 refine kgo ?_
 refine bt (fun h=>?_) (fun h=>?_)
 ·have hlt:i<xs.length:=by omega
  have f:=CT xs[i]
  refine kgo ?_
  exact af (i+1) hlt (by show _ - (i+1)<_ - i;omega)
 refine kgo ?_
 exact aD
theorem iX (x:Big):FnD Tryz.prog 17 [Big.D x,Big.D x] (.d (.b true)):=by
 have fnodes:=y8 x.nodes
 have fsites:=ma x.sites
 have fouter:=uL x.outer
 have finner:=AK x.inner
 refine ah Tryz.func17 (fun hw W0=>?_)
 refine kgo ?_
 refine lV (fun h=>absurd rfl h) (fun _=>?_)
 refine kgo ?_
 refine lV (fun h=>absurd rfl h) (fun _=>?_)
 refine kgo ?_
 exact aD
theorem Ci (x:Rul):FnD Tryz.prog 67 [Rul.D x,Rul.D x] (.d (.b true)):=by
 have fredex:=iX x.redex
 have freactum:=iX x.reactum
 have fcopies:=ma x.copies
 refine ah Tryz.func67 (fun hw W0=>?_)
 refine kgo ?_
 exact aD
theorem AT (xs:List Rul):FnD Tryz.prog 19 [.l 13 (xs.map Rul.D),.l 13 (xs.map Rul.D)] (.d (.b true)):=by
 refine ah Tryz.func19 (fun hw W0=>?_)
 have hl:=(wfM hw.1).1
 refine kgo ?_
 refine lV (fun h=>absurd rfl h) (fun _=>?_)
 refine kgo ?_
 refine aq [0,1] (fun i:Nat=>i≤xs.length) (fun i=>xs.length - i) (fun i=>[(5,.sy (.d (.i i)))]) 0 (Nat.zero_le _) (fun i hi=>?_)
 refine kgo ?_
 refine bt (fun h=>?_) (fun h=>?_)
 ·have hlt:i<xs.length:=by omega
  have f:=Ci xs[i]
  refine kgo ?_
  exact af (i+1) hlt (by show _ - (i+1)<_ - i;omega)
 refine kgo ?_
 exact aD
theorem yV (x:Mat):FnD Tryz.prog 79 [Mat.D x,Mat.D x] (.d (.b true)):=by
 have fnodes:=ma x.nodes
 have froots:=ma x.roots
 refine ah Tryz.func79 (fun hw W0=>?_)
 refine kgo ?_
 exact aD
end Go.Proofs.YtclpbhoekmecjaaGreatDoor
