/-
  Proved facts that the law leans on.
-/
import Derived.Test.YtclpbhoekmecjaaGreatDoorZU7
import Derived.Test.YtclpbhoekmecjaaGreatDoorZU11
import Derived.Test.YtclpbhoekmecjaaGreatDoorZU12
import Derived.Test.YtclpbhoekmecjaaGreatDoorZU13
import Derived.Test.YtclpbhoekmecjaaGreatDoorZU14
import Derived.Test.YtclpbhoekmecjaaGreatDoorZU15
import Derived.Shelf.SlGeneric
import Derived.Shelf.SlSortCmp.NoneTotal
import Derived.Shelf.Spec.SlicesGrow
import Derived.Shelf.SlicesE.DeleteFunc
import Derived.Test.YtclpbhoekmecjaaGreatDoorProg
namespace Go.Proofs
open Go.Shelf
def Tryz.sortW_ren : Go.Shelf.Ren := ⟨fun | 6 => 165 | 15 => 220 | 14 => 219 | 28 => 252 | 29 => 253 | 20 => 244 | 21 => 245 | 22 => 246 | 23 => 247 | 24 => 248 | 25 => 249 | 26 => 250 | 27 => 251 | 46 => 284 | 47 => 285 | 48 => 286 | 49 => 287 | 50 => 288 | 57 => 321 | n => n, fun | 22 => 38 | 24 => 133 | 25 => 186 | 3 => 3 | 39 => 216 | 0 => 0 | 53 => 230 | 55 => 233 | 4 => 4 | 46 => 240 | 45 => 239 | 50 => 188 | 5 => 5 | 9 => 9 | 66 => 269 | 70 => 273 | 76 => 295 | 77 => 296 | n => n, fun | n => n⟩
theorem Tryz.sortW : Go.Proofs.SlLaysF0.n6 Tryz.prog Tryz.sortW_ren := {
  mixed := by kernel_rfl
  f6 := ⟨Tryz.f165.name, by decide, Tryz.func165.trans (congrArg some (by kernel_rfl))⟩
  f14 := ⟨Tryz.f219.name, by decide, Tryz.func219.trans (congrArg some (by kernel_rfl))⟩
  f15 := Tryz.func220.trans (congrArg some (by kernel_rfl))
  f20 := ⟨Tryz.f244.name, by decide, Tryz.func244.trans (congrArg some (by kernel_rfl))⟩
  f21 := ⟨Tryz.f245.name, by decide, Tryz.func245.trans (congrArg some (by kernel_rfl))⟩
  f22 := ⟨Tryz.f246.name, by decide, Tryz.func246.trans (congrArg some (by kernel_rfl))⟩
  f23 := ⟨Tryz.f247.name, by decide, Tryz.func247.trans (congrArg some (by kernel_rfl))⟩
  f24 := ⟨Tryz.f248.name, by decide, Tryz.func248.trans (congrArg some (by kernel_rfl))⟩
  f25 := ⟨Tryz.f249.name, by decide, Tryz.func249.trans (congrArg some (by kernel_rfl))⟩
  f26 := ⟨Tryz.f250.name, by decide, Tryz.func250.trans (congrArg some (by kernel_rfl))⟩
  f27 := ⟨Tryz.f251.name, by decide, Tryz.func251.trans (congrArg some (by kernel_rfl))⟩
  f28 := Tryz.func252.trans (congrArg some (by kernel_rfl))
  f29 := Tryz.func253.trans (congrArg some (by kernel_rfl))
  f46 := ⟨Tryz.f284.name, by decide, Tryz.func284.trans (congrArg some (by kernel_rfl))⟩
  f47 := Tryz.func285.trans (congrArg some (by kernel_rfl))
  f48 := Tryz.func286.trans (congrArg some (by kernel_rfl))
  f49 := ⟨Tryz.f287.name, by decide, Tryz.func287.trans (congrArg some (by kernel_rfl))⟩
  f50 := ⟨Tryz.f288.name, by decide, Tryz.func288.trans (congrArg some (by kernel_rfl))⟩
  f57 := ⟨Tryz.f321.name, by decide, Tryz.func321.trans (congrArg some (by kernel_rfl))⟩
  t0 := Tryz.underlying0
  a0 := Tryz.isAgg0
  z0 := Tryz.sizeOf0
  v0 := Tryz.zeroValue0
  t3 := Tryz.underlying3
  a3 := Tryz.isAgg3
  z3 := Tryz.sizeOf3
  v3 := Tryz.zeroValue3
  t4 := Tryz.underlying4
  a4 := Tryz.isAgg4
  z4 := Tryz.sizeOf4
  v4 := Tryz.zeroValue4
  t5 := Tryz.underlying5
  a5 := Tryz.isAgg5
  z5 := Tryz.sizeOf5
  v5 := Tryz.zeroValue5
  t9 := Tryz.underlying9
  a9 := Tryz.isAgg9
  z9 := Tryz.sizeOf9
  v9 := Tryz.zeroValue9
  t22 := Tryz.underlying38
  a22 := Tryz.isAgg38
  z22 := Tryz.sizeOf38
  v22 := Tryz.zeroValue38
  t25 := Tryz.underlying186
  a25 := Tryz.isAgg186
  z25 := Tryz.sizeOf186
  v25 := Tryz.zeroValue186
  t39 := Tryz.underlying216
  a39 := Tryz.isAgg216
  z39 := Tryz.sizeOf216
  v39 := Tryz.zeroValue216
  t45 := Tryz.underlying239
  a45 := Tryz.isAgg239
  z45 := Tryz.sizeOf239
  v45 := Tryz.zeroValue239
  t46 := Tryz.underlying240
  a46 := Tryz.isAgg240
  z46 := Tryz.sizeOf240
  v46 := Tryz.zeroValue240
  t50 := Tryz.underlying188
  a50 := Tryz.isAgg188
  z50 := Tryz.sizeOf188
  v50 := Tryz.zeroValue188
  t53 := Tryz.underlying230
  a53 := Tryz.isAgg230
  z53 := Tryz.sizeOf230
  v53 := Tryz.zeroValue230
  t55 := Tryz.underlying233
  a55 := Tryz.isAgg233
  z55 := Tryz.sizeOf233
  v55 := Tryz.zeroValue233
  t66 := Tryz.underlying269
  a66 := Tryz.isAgg269
  z66 := Tryz.sizeOf269
  v66 := Tryz.zeroValue269
  t70 := Tryz.underlying273
  a70 := Tryz.isAgg273
  z70 := Tryz.sizeOf273
  v70 := Tryz.zeroValue273
  t76 := Tryz.underlying295
  a76 := Tryz.isAgg295
  z76 := Tryz.sizeOf295
  v76 := Tryz.zeroValue295
  t77 := Tryz.underlying296
  a77 := Tryz.isAgg296
  z77 := Tryz.sizeOf296
  v77 := Tryz.zeroValue296 }
def Tryz.growS_ren : Go.Shelf.Ren := ⟨fun | 4 => 322 | n => n, fun | 22 => 26 | 25 => 9 | 3 => 3 | 4 => 4 | 9 => 9 | 20 => 20 | 0 => 0 | n => n, fun | n => n⟩
theorem Tryz.growS : Go.Proofs.Lays8.n4 Tryz.prog Tryz.growS_ren := {
  mixed := by kernel_rfl
  f4 := ⟨Tryz.f322.name, by decide, Tryz.func322.trans (congrArg some (by kernel_rfl))⟩
  t0 := Tryz.underlying0
  a0 := Tryz.isAgg0
  z0 := Tryz.sizeOf0
  v0 := Tryz.zeroValue0
  t3 := Tryz.underlying3
  a3 := Tryz.isAgg3
  z3 := Tryz.sizeOf3
  v3 := Tryz.zeroValue3
  t4 := Tryz.underlying4
  a4 := Tryz.isAgg4
  z4 := Tryz.sizeOf4
  v4 := Tryz.zeroValue4
  t9 := Tryz.underlying9
  a9 := Tryz.isAgg9
  z9 := Tryz.sizeOf9
  v9 := Tryz.zeroValue9
  t20 := Tryz.underlying20
  a20 := Tryz.isAgg20
  z20 := Tryz.sizeOf20
  v20 := Tryz.zeroValue20
  t22 := Tryz.underlying26
  a22 := Tryz.isAgg26
  z22 := Tryz.sizeOf26
  v22 := Tryz.zeroValue26 }
def Tryz.delS_ren : Go.Shelf.Ren := ⟨fun | 10 => 170 | 6 => 221 | n => n, fun | 22 => 26 | 23 => 9 | 25 => 191 | 3 => 3 | 4 => 4 | 0 => 0 | n => n, fun | n => n⟩
theorem Tryz.delS : Go.Proofs.SlLaysH.n10 Tryz.prog Tryz.delS_ren := {
  mixed := by kernel_rfl
  f6 := ⟨Tryz.f221.name, by decide, Tryz.func221.trans (congrArg some (by kernel_rfl))⟩
  f10 := ⟨Tryz.f170.name, by decide, Tryz.func170.trans (congrArg some (by kernel_rfl))⟩
  t0 := Tryz.underlying0
  a0 := Tryz.isAgg0
  z0 := Tryz.sizeOf0
  v0 := Tryz.zeroValue0
  t3 := Tryz.underlying3
  a3 := Tryz.isAgg3
  z3 := Tryz.sizeOf3
  v3 := Tryz.zeroValue3
  t4 := Tryz.underlying4
  a4 := Tryz.isAgg4
  z4 := Tryz.sizeOf4
  v4 := Tryz.zeroValue4
  t22 := Tryz.underlying26
  a22 := Tryz.isAgg26
  z22 := Tryz.sizeOf26
  v22 := Tryz.zeroValue26
  a23 := Tryz.isAgg9
  z23 := Tryz.sizeOf9
  t25 := Tryz.underlying191
  a25 := Tryz.isAgg191
  z25 := Tryz.sizeOf191
  v25 := Tryz.zeroValue191 }
end Go.Proofs
namespace Go.Proofs.YtclpbhoekmecjaaGreatDoor
open Go.RowKit Go.Sort
set_option linter.unusedVariables false
set_option linter.unusedSimpArgs false
set_option maxRecDepth 100000
set_option maxHeartbeats 4000000
attribute [local irreducible] aq Der At
instance:Inhabited Wr:=⟨⟨⟨#[]⟩,0⟩⟩
abbrev Iy (x:Wr):List Value:=[.string x.name,.int .i64 x.link]
theorem HW:Ch 2 Iy Wr.D:=⟨fun _=>rfl,fun w S x cs h=>by
 obtain ⟨c,e,rfl,⟨rfl,_⟩,c',e',rfl,⟨rfl,_⟩,rfl⟩:=h
 rfl,fun w w' S S' x cs h=>by
 obtain ⟨c,e,rfl,⟨rfl,h1⟩,c',e',rfl,⟨rfl,h2⟩,rfl⟩:=h
 exact ⟨[_],[_],rfl,⟨rfl,h1⟩,[_],[],rfl,⟨rfl,h2⟩,rfl⟩⟩
def uK (x y:Wr):Int:=if cZ x.name y.name=true then -1 else 1
theorem ltW (x y:Wr):ltOf uK x y=cZ x.name y.name:=by
 unfold ltOf uK
 cases cZ x.name y.name <;> rfl
theorem I5:SWO (ltOf uK) where
 irrefl x:=by
  rw [ltW]
  exact xl _
 trans x y z h1 h2:=by
  rw [ltW] at *
  exact nh _ _ _ h1 h2
 ntrans x y z h1 h2:=by
  rw [ltW] at *
  cases h:cZ x.name z.name with
  | false=>rfl
  | true=>
   have hzy:¬NLt y.name z.name:=fun e=>by rw [show cZ y.name z.name=true from e] at h2;cases h2
   have hxy:¬NLt x.name y.name:=fun e=>by rw [show cZ x.name y.name=true from e] at h1;cases h1
   by_cases e:x.name=y.name
   ·rw [e] at h;exact absurd h hzy
   ·exact absurd (NLt.trans _ _ _ ((NLt.total e).resolve_left hxy) h) hzy
theorem oE (l:List Wr) (g:Nat) (hl:l.length≤1000) (hn:(l.map Wr.name).Nodup) (eg:∀args w,(callFunc g args).run Tryz.prog w=.ok (.enter g args) w)
 (hg:∀(x y:Wr) (W:World),Calls Tryz.prog g #[.agg #[.string x.name,.int .i64 x.link],.agg #[.string y.name,.int .i64 y.link]] W fun e w'=>e=.returned (.int .i64 (uK x y))∧∃q os',w'=grow (W.drewN q) os'):FnS Tryz.prog 165 2 133 (l.map Wr.D) [.f g []] ((wY l).map Wr.D):=by
 refine Ep (vs0:=[.func (.func g) #[] #[]]) (by decide) HW (cO Tryz.func165) (fun y hy=>?_) (xn l) (fun w F vs h=>?_) (fun p cap w=>?_) (fun b cap w hH hb=>?_)
 ·have:=(zZ l [] List.Pairwise.nil (by simpa using hn)).2 y
  simpa using this.1 hy
 ·obtain ⟨v,t,rfl,⟨vs,h1,h2⟩,h3⟩:=h
  cases (show t = [] from h3)
  cases (show vs = [] from h2)
  cases h1;rfl
 ·exact AnyF.slices_SortFunc_none Tryz.sortW p cap _ w
 ·have h:=AnyQ.slices_SortFunc Tryz.sortW 2 Tryz.isAgg133 Tryz.sizeOf133 Iy (fun _=>rfl) (fun x v hv=>by simp at hv;rcases hv with rfl|rfl <;> rfl) uK I5 g #[] b 0 cap l.toArray w eg (fun m os dk _ x y=>hg x y _) hH hb (by simp;omega)
  refine Calls.mono h ?_
  rintro e w' ⟨rfl,d',n,os,⟨hs,_,hp⟩,hso,rfl⟩
  refine ⟨rfl,n,os,?_⟩
  have hd:d'.toList=wY l:=by
   refine z7 hn ?_ (List.pairwise_iff_getElem.2 fun i j hi hj hij=>?_)
   ·have hz:d'.size=l.length:=by simpa using hs
    have hq:List.take l.length d'.toList=d'.toList:=List.take_of_length_le (by simp;omega)
    simpa [hs,hq] using hp
   ·have hsz:d'.toList.length=l.length:=by simpa using hs
    have:=hso i j (Nat.zero_le _) hij (by simp;omega)
    rw [ltW] at this
    simp only [Array.getElem!_eq_getD,Array.getD] at this
    rw [dif_pos (by simp at hi;omega),dif_pos (by simp at hj;omega)] at this
    exact this
  rw [← hd];rfl
theorem uH (x y:Wr) (W:World):Calls Tryz.prog 294 #[.agg #[.string x.name,.int .i64 x.link],.agg #[.string y.name,.int .i64 y.link]] W fun e w'=>e=.returned (.int .i64 (uK x y))∧∃q os',w'=grow (W.drewN q) os':=by
 cases h:cZ x.name y.name
 ·rw [show uK x y=1 from by unfold uK;rw [h];rfl]
  unfold cZ at h
  go_enter Tryz.func294,Tryz.ntmps294
  go_wp2
  go_ret
  exact ⟨rfl,0,_,by rw [alloc_eq_grow,alloc_eq_grow,grow_grow];rfl⟩
 ·rw [show uK x y = -1 from by unfold uK;rw [h];rfl]
  unfold cZ at h
  go_enter Tryz.func294,Tryz.ntmps294
  go_wp2
  go_ret
  exact ⟨rfl,0,_,by rw [alloc_eq_grow,alloc_eq_grow,grow_grow];rfl⟩
theorem tM (x y:Wr) (W:World):Calls Tryz.prog 166 #[.agg #[.string x.name,.int .i64 x.link],.agg #[.string y.name,.int .i64 y.link]] W fun e w'=>e=.returned (.int .i64 (uK x y))∧∃q os',w'=grow (W.drewN q) os':=by
 cases h:cZ x.name y.name
 ·rw [show uK x y=1 from by unfold uK;rw [h];rfl]
  unfold cZ at h
  go_enter Tryz.func166,Tryz.ntmps166
  go_wp2
  go_ret
  exact ⟨rfl,0,_,by rw [alloc_eq_grow,alloc_eq_grow,grow_grow];rfl⟩
 ·rw [show uK x y = -1 from by unfold uK;rw [h];rfl]
  unfold cZ at h
  go_enter Tryz.func166,Tryz.ntmps166
  go_wp2
  go_ret
  exact ⟨rfl,0,_,by rw [alloc_eq_grow,alloc_eq_grow,grow_grow];rfl⟩
theorem Fy (n:Nat) (hn:n≤1000):FnD Tryz.prog 322 [.n 1,.i n] (.row 1 9 []):=⟨cO Tryz.func322,fun F w vs hv hF=>by
 obtain ⟨v1,t,rfl,⟨a,h1⟩,v2,t2,rfl,⟨h2,_⟩,h3⟩:=hv
 cases (show t2 = [] from h3)
 cases h1
 cases h2
 rcases Nat.eq_zero_or_pos n with rfl|hn0
 ·refine Calls.mono (Any8.slices_Grow_room Tryz.growS a 0 0 0 w (by omega) (by omega) (by omega) (by omega)) ?_
  rintro e w' ⟨rfl,rfl⟩
  exact ⟨_,rfl,Ext.refl w',.inl ⟨rfl,a,rfl⟩⟩
 ·obtain ⟨i0,hi0,hz0,hz1,hz2⟩:=info_parts uZ
  have hcap:=grownCap_ge w (0+n) 0 9
  have hmx:=grownCap_le_maxLen w (0+n) 0 9 (by unfold maxLen;omega)
  refine Calls.mono (Any8.slices_Grow_grow Tryz.growS i0 _ hi0 hz0 (by omega) a 0 0 n [] w (Nat.le_refl _) (by omega) (by rw [hz2];omega) (by omega) (by simp) (fun _=>rfl) (fun _ _ j v h=>by simp at h)) ?_
  rintro e w' ⟨rfl,rfl⟩
  refine ⟨_,rfl,(Ext.refl w).drew.alloc _,.inr ⟨[],World.ownsRow_made w.drew _ _ (Nat.le_refl _) hmx ?_,fun j hj=>absurd hj (Nat.not_lt_zero _)⟩⟩
  have hc1:(Value.string ⟨#[]⟩).cells.size=1:=rfl
  simp [Builtin.zeroCells,hc1]
  exact Nat.add_sub_cancel' (show n≤grownCap w n 0 9 from by simpa using hcap)⟩
theorem Hg:vd Value.string D.s:=⟨fun _ _ _ _ h=>h.1,fun _ _ _ _ _ _ h=>h⟩
theorem rm (r:Big) (s:ByteArray) (F:BS) (c:List Value) (W:World) (h:Rp W F (.p r.D) c):Calls Tryz.prog 171 (#[.string s]++c.toArray) W fun e w'=>e=.returned (.bool (rf r.outer s))∧w'=W:=by
 obtain ⟨b,o,us,rfl,h2,h3,h4⟩:=h
 have hB:=qo.to W F r us h3
 obtain ⟨v1,v2,v4,v5,rfl,r1,r2,hN,hS,hO,hI⟩:=hB
 obtain ⟨a4,k4,rfl,g1,g2,g3,g4⟩:=hO
 have p4:W.cell? ⟨b,o+4,none⟩=some (.slice a4 r.outer.length k4):=h4 4 _ rfl
 have hc:Calls Tryz.prog 172 #[.slice a4 r.outer.length k4,.string s] W fun e w'=>e=.returned (.bool (rf r.outer s))∧w'=W:=by
  rcases g4 with g4|⟨bb,oo,rfl,_,_,g4⟩
  ·rw [g4]
   refine Calls.mono (Tryz.slices_Contains_string_empty a4 k4 s W) ?_
   rintro e w' ⟨rfl,rfl⟩
   exact ⟨rfl,rfl⟩
  ·unfold maxLen at g2
   refine Calls.mono (Tryz.slices_Contains_string bb oo r.outer.length k4 r.outer s W (Nat.le_refl _) (by omega) (fun j hj=>?_)) ?_
   ·obtain ⟨cs,q1,⟨rfl,q2⟩,q3⟩:=g4 j hj
    have:=q3 0 _ rfl
    rw [Nat.mul_one,Nat.add_zero] at this
    rw [this,List.getD_eq_getElem?_getD,List.getElem?_eq_getElem hj];rfl
   ·rintro e w' ⟨rfl,rfl⟩
    refine ⟨?_,rfl⟩
    congr 2
    rw [List.take_length,Bool.eq_iff_iff,Lib.containsS_iff,qT,List.any_eq_true]
    constructor
    ·exact fun h=>⟨s,h,by simp⟩
    ·rintro ⟨x,hx,e⟩
     rw [beq_iff_eq] at e
     rw [← gh e];exact hx
 show Calls Tryz.prog 171 #[.string s,.pointer (some ⟨b,o,none⟩)] W _
 generalize rf r.outer s=q at hc ⊢
 clear h4 h3 hN hS hI g4
 go_enter Tryz.func171,Tryz.ntmps171
 go_wp2_with (go_at_call 172;refine hc.mono ?_;rintro e w' ⟨rfl,rfl⟩)
 go_ret
 exact ⟨rfl,rfl⟩
theorem rv (l:List ByteArray) (r:Big) (hl:l.length≤1000):FnC Tryz.prog 170 1 9 (l.map .s) [.f 171 [.p r.D]] ((l.filter fun x=>!rf r.outer x).map .s):=by
 have eg:∀args w,(callFunc 171 args).run Tryz.prog w=.ok (.enter 171 args) w:=cO Tryz.func171
 refine E8 Hg (us:=List.replicate (l.length - (l.filter fun x=>!rf r.outer x).length) ⟨#[]⟩) (cO Tryz.func170) (fun y hy=>(List.mem_filter.1 hy).1) (by rw [List.length_append,List.length_replicate];have:=List.length_filter_le (fun x=>!rf r.outer x) l;omega) (fun w F vs v hvs hF hv he=>?_) (fun w F vs g cap hvs hF hFg hH hg h5 h6=>?_)
 ·obtain ⟨fv,t,rfl,hf,h3⟩:=hvs
  cases (show t = [] from h3)
  have hI:Calls Tryz.prog 221 #[v,fv] w fun e w'=>e=.returned (.int .i64 (-1))∧Ext w w':=by
   refine ((nC [] 171 [.p r.D] (rf r.outer) rfl (fun x hx=>by simp at hx)).calls F w [v,fv] ⟨v,_,rfl,hv,fv,_,rfl,hf,rfl⟩ hF).mono ?_
   rintro e w' ⟨u,rfl,hX,hu⟩
   refine ⟨?_,hX⟩
   have:=hu.1
   rw [rN (l:=([]:List ByteArray)) (by simp)] at this
   cases this;rfl
  obtain ⟨vs',h1,c,e,rfl,hc,h2⟩:=hf
  cases (show e = [] from h2)
  cases h1
  obtain ⟨a,k,h4,_⟩:=hv
  cases h4
  rw [List.append_nil] at hI ⊢
  change Calls Tryz.prog 221 #[.slice a 0 k,.func (.func 171) #[] c.toArray] w _ at hI
  change Calls Tryz.prog 170 #[.slice a 0 k,.func (.func 171) #[] c.toArray] w _
  generalize c.toArray=lb at hI ⊢
  clear hc h3 h2 eg hF hl he
  go_enter Tryz.func170,Tryz.ntmps170
  go_wp2_with (go_at_call 221;refine hI.mono ?_;rintro e w' ⟨rfl,hX⟩)
  go_ret
  exact ⟨rfl,hX⟩
 ·obtain ⟨fv,t,rfl,hf,h3⟩:=hvs
  cases (show t = [] from h3)
  obtain ⟨vs',h1,c,e,rfl,hc,h2⟩:=hf
  cases (show e = [] from h2)
  cases h1
  rw [List.append_nil]
  have key:∀W:World,(∀b,F b→b<w.heap.size→W.heap[b]? = w.heap[b]?)→∀x:ByteArray,FnGives Tryz.prog 171 c.toArray #[.string x] (.bool (rf r.outer x)) W:=fun W hW x=>by
   refine (rm r x F c W (Rp.keep (fun _ h=>h) (fun b hb hl=>hW b hb hl) _ _ hc)).mono ?_
   rintro e w' ⟨rfl,rfl⟩
   exact ⟨rfl,0,rfl⟩
  refine Calls.mono (AnyE.slices_DeleteFunc Tryz.delS Value.string (fun _=>rfl) (rf r.outer) 171 c.toArray eg ⟨#[]⟩ Tryz.zeroValue9 g 0 cap l.toArray w (fun W x hb=>key W (fun b _ hl=>hb.block b hl) x) (fun n os dk x _=>key _ (fun b hb hl=>(jV Value.string dk).block b hl (fun e=>by cases e;exact hFg hb)) x) hH (by simp;omega) (by simpa using h5)) ?_
  rintro e w' ⟨rfl,q,rfl⟩
  exact ⟨rfl,q,rfl⟩
end Go.Proofs.YtclpbhoekmecjaaGreatDoor
namespace Go.Proofs.YtclpbhoekmecjaaGreatDoor
open Go.RowKit
set_option linter.unusedVariables false
set_option linter.unusedSimpArgs false
set_option maxRecDepth 100000
set_option maxHeartbeats 4000000
attribute [local irreducible] aq Der At
section
variable {P:Program} {ops:Array Oper} {W0:b7} {N:Nat} {Fin:Us→Env→Prop} {os:List Oper} {us:Us} {pk fk:List Nat} {σ:Env} {g:Option (Nat × Bool)} {gk:List Nat} {d ty ty' f:Nat} {pos:String} {after:Array Edge} {at':Array TypeId} {xs:List Operand} {ds:List D}
theorem Et {n e:Nat} {rs:List D} (h:Der P ops W0 N Fin os (us++[((d :: (gk++((10000+d) :: kxs xs)))++pk,([d,10000+d])++fk)]) [] [] ((d,.sy (.k (10000+d))) :: (10000+d,.tk (.row n e rs)) :: σ)) (hx:F1 σ xs=some ds:=by rfl) (hf:FnD P f ds (.row n e rs):=by assumption) (hi:ai σ (10000+d)=none:=by rfl) (hg:gst ops σ g=some (true,gk):=by rfl) (hN:Nat.blt d N=true:=by rfl) (hs:aG ((10000+d,.tk (.row n e rs)) :: σ) d=true:=by rfl) (hu:Nat.beq (10000+d) d=false:=by rfl):Der P ops W0 N Fin (⟨some d,.call { callee:=.value (.func f),args:=xs.toArray,argTypes:=at' },ty,pos,after,g⟩ :: os) us pk fk σ:=
 kc (.k (10000+d)) ((10000+d) :: kxs xs) [(10000+d,.tk (.row n e rs))] (fun σ' c a w hk hc=>by
  unfold Oper.wp
  rw [bP hf.enter rfl]
  refine (hf.calls c.F w _ (rj hc xs ds hx (fun κ hκ=>hk κ (by simp [hκ]))) hc.lt).mono ?_
  rintro e' w' ⟨v,rfl,hX,⟨hd,a0,hv0⟩|⟨cells,own,hel⟩⟩
  ·subst hd
   have hc0:=hc.fresh hX
   exact ⟨v,_,rfl,hc0.new (i:=10000+d) ((hk _ (by simp)).trans hi) (t:=.row n e []) (v:=v) (S:=fun _=>False) (.inl ⟨rfl,a0,hv0⟩) (fun b hb=>hb.elim) (fun j u _ b hb=>hb.elim),.inr rfl,(if_pos rfl).symm⟩
  have hc1:=hc.grow hX (fun b=>fresh w w' c.F b∧v.ownBlock≠some b) (fun b hb=>⟨.inl hb,fun e=>by have:=own.lt b e;have:=hc.lt b hb;omega⟩) (fun _ h=>h.1.imp id (fun h=>h.1)) (fun b hb=>hb.1.elim (fun h'=>Nat.lt_of_lt_of_le (hc.lt b h') (Below.size hX)) (fun h=>h.2))
  refine ⟨v,_,rfl,hc1.new (i:=10000+d) (t:=.row n e rs) (v:=v) (S:=fun b=>v.ownBlock=some b) ((hk _ (by simp)).trans hi) (.inr ⟨cells,⟨own.1,own.2.imp id (fun ⟨g,cap,cur,q1,_,q2⟩=>⟨g,cap,cur,q1,Nat.zero_le _,q2⟩)⟩,fun g hg=>hg,hel⟩) (fun b hb=>⟨fun hF=>hF.2 hb,(own.lt b hb).2,.inr (Nat.le_trans hc.ext.size (own.lt b hb).1)⟩) (fun j u hj b hb hT=>?_),.inr rfl,(if_pos rfl).symm⟩
  have:=((hc.tok j u hj).2.2 b hT).2.1
  have:=own.lt b hb
  omega) h hg hN hs (by simp [hu])
theorem CW {ρ:Operand→Value} {w:World} {x y:Operand} {e:Nat} {v x0 y0:Value} (he:elem? P ty'=some e) (hz:sizeOf? P e=some 1) (hzv:rB P e=some v) (hzs:v.cells.size=1) (hx:(ρ x).cells = #[x0]) (hy:(ρ y).cells = #[y0]):(execOp ρ ⟨some d,.buildSlice ty' 2 #[(0,x),(1,y)],ty,pos,after,g⟩).run P w=.ok (.value (.slice (some ⟨w.heap.size,0,none⟩) 2 2)) (w.alloc (.cells #[x0,y0] e)):=by
 replace hz:=de hz
 rw [Option.map_eq_some_iff] at hz
 obtain ⟨i,hi,hz⟩:=hz
 unfold rB at hzv
 rw [hi] at hzv
 simp only [Option.bind_some] at hzv
 have hf':Instr.fill (fun i=>some (i,1)) ((Array.range 2).map (v.cells[· % v.cells.size]!)) [(0,ρ x),(1,ρ y)]=some #[x0,y0]:=by
  rw [show (Array.range 2).map (v.cells[· % v.cells.size]!) = #[v.cells[0 % v.cells.size]!,v.cells[1 % v.cells.size]!] from by
   apply Array.ext (by simp)
   intro i h1 h2
   have:i=0∨i=1:=by simp at h2;omega
   rcases this with rfl|rfl <;> simp]
  simp [Instr.fill,hx,hy]
 have hs:(sizeOf e).run P w=.ok 1 w:=by simp [sizeOf,typeInfo,hi,hz,go_sem]
 have hzr:(zeroValue e).run P w=.ok v w:=by simp [zeroValue,typeInfo,hi,hzv,go_sem]
 unfold execOp
 simp only [List.map_toArray,List.map_cons,List.map_nil]
 refine dA (X:=Instr.buildSlice ty' 2 #[(0,ρ x),(1,ρ y)]) ?_
 unfold Instr.buildSlice
 rw [Sem.run_bind,run_underlying (dY he)]
 simp only [Result.andThen_ok,Sem.run_bind,hs,Nat.mul_one]
 rw [if_neg (by decide)]
 simp only [Result.andThen_ok,Sem.run_bind,Sem.run_pure,if_neg (show ¬(2=0) by decide),hzr,hf',newRow,run_newObj_alloc]
theorem IY {x y:Operand} {e:Nat} {r q:D} {v:Value} (h:Der P ops W0 N Fin os (us++[((d :: (gk++(kx x++kx y)))++pk,([d])++fk)]) [] [] ((d,.sy (.d (.l 1 [r,q]))) :: σ)) (hx:(ev σ x).bind Sy.dat=some r:=by rfl) (hy:(ev σ y).bind Sy.dat=some q:=by rfl) (he:elem? P ty'=some e:=by rfl) (hz:sizeOf? P e=some 1:=by rfl) (hv:rB P e=some v:=by rfl) (hvs:v.cells.size=1:=by rfl) (hr1:r.sz=1:=by rfl) (hq1:q.sz=1:=by rfl) (hg:gst ops σ g=some (true,gk):=by rfl) (hN:Nat.blt d N=true:=by rfl) (hs:aG σ d=true:=by rfl):Der P ops W0 N Fin (⟨some d,.buildSlice ty' 2 #[(0,x),(1,y)],ty,pos,after,g⟩ :: os) us pk fk σ:=
 kc (.d (.l 1 [r,q])) (kx x++kx y) [] (fun σ' c a w hk hc=>by
  rw [Option.bind_eq_some_iff] at hx hy
  obtain ⟨s,hx1,hx2⟩:=hx
  obtain ⟨s',hy1,hy2⟩:=hy
  have hv':=kw hx2 (am hc (ab hx1 (fun κ hκ=>hk κ (by simp [hκ]))))
  have hv2:=kw hy2 (am hc (ab hy1 (fun κ hκ=>hk κ (by simp [hκ]))))
  obtain ⟨cs,h1,h2,_⟩:=hv'.cells
  obtain ⟨cs',h3,h4,_⟩:=hv2.cells
  obtain ⟨x0,rfl⟩:∃x0,cs = [x0]:=List.length_eq_one_iff.1 ((Rp.len _ _ h2).trans hr1)
  obtain ⟨y0,rfl⟩:∃y0,cs' = [y0]:=List.length_eq_one_iff.1 ((Rp.len _ _ h4).trans hq1)
  unfold Oper.wp
  rw [CW he hz hv hvs h1 h3]
  have hX:Ext w (w.alloc (.cells #[x0,y0] e)):=(Ext.refl w).alloc _
  have hc1:=hc.grow hX (fun b=>c.F b∨b=w.heap.size) (fun _ h=>.inl h) (fun _ h=>h.imp id (fun h=>by omega)) (fun b hb=>by
   rcases hb with hb|hb
   ·exact Nat.lt_of_lt_of_le (hc.lt b hb) (Below.size hX)
   ·subst hb;simp)
  have hbx:=dL.new w e [x0,y0] _ rfl
  refine ⟨_,_,rfl,hc1,some ⟨w.heap.size,0,none⟩,2,rfl,Nat.le_refl _,by decide,fun h=>(by cases h),.inr ⟨w.heap.size,0,rfl,.inr rfl,⟨[x0],rfl,Rp.keep (fun _ h=>.inl h) (fun b _ hl=>hX.block b hl) _ _ h2,fun j u hj=>?_⟩,⟨[y0],rfl,Rp.keep (fun _ h=>.inl h) (fun b _ hl=>hX.block b hl) _ _ h4,fun j u hj=>?_⟩,trivial⟩⟩
  ·rcases j with _|j
   ·exact (hbx 0 u (by simpa using hj)).1
   ·simp at hj
  ·rcases j with _|j
   ·exact (hbx 1 u (by simpa using hj)).1
   ·simp at hj) h hg hN hs rfl
end
theorem tD (l:List (List ByteArray)) (i:Nat) (h:i<l.length):(l.take (i+1)).flatten=(l.take i).flatten++l[i]:=by
 rw [List.take_succ_eq_append_getElem h,List.flatten_append];simp
theorem Bb (l:List (List ByteArray)) (i:Nat):(l.take i).flatten.length≤l.flatten.length:=by
 have:l.flatten=(l.take i).flatten++(l.drop i).flatten:=by rw [← List.flatten_append,List.take_append_drop]
 rw [this,List.length_append];omega
theorem zJ (l:List (List ByteArray)) (hl:l.flatten.length≤1000) (hk:l.length≤1000):FnD Tryz.prog 289 [.l 1 (l.map DS)] (.row 1 9 (l.flatten.map .s)):=by
 have f1:=Fy l.flatten.length hl
 refine ah Tryz.func289 (fun hw W0=>?_)
 refine kgo ?_
 refine aj [0,9,10] (fun i:Nat=>i≤l.length) (fun i=>l.length - i) (fun i=>[(11,.sy (.d (.i i))),(3,.sy (.d (.i (l.take i).flatten.length)))]) 0 (Nat.zero_le _) (fun i hi=>?_)
 refine kgo ?_
 refine aO (fun h=>?_) (fun h=>?_)
 ·have hlt:i<l.length:=by simpa using h
  have h1:=Bb l (i+1)
  have h2:((l.take (i+1)).flatten.length:Int)=(l.take i).flatten.length+l[i].length:=by rw [tD l i hlt,List.length_append];omega
  refine kgo ?_
  rw [← h2]
  exact af (i+1) hlt (by omega)
 obtain rfl:i=l.length:=by have:=h;simp at this;omega
 rw [List.take_length]
 refine kgo ?_
 refine Et (hf:=f1) ?_
 refine kgo ?_
 refine aj [25,26] (fun i:Nat=>i≤l.length) (fun i=>l.length - i) (fun i=>[(27,.sy (.d (.i i))),(6,.sy (.k 20001)),(20001,.tk (.row 1 9 (((l.take i).flatten).map .s)))]) 0 (Nat.zero_le _) (fun i hi=>?_)
 refine kgo ?_
 refine aO (fun h=>?_) (fun h=>?_)
 ·have hlt:i<l.length:=by simpa using h
  have h1:=Bb l (i+1)
  have h2:=tD l i hlt
  have hs:((l.take (i+1)).flatten).map D.s=((l.take i).flatten++l[i]).map D.s:=by rw [h2]
  rw [h2,List.length_append] at h1
  refine kgo ?_
  exact af (i+1) hlt (by omega)
 obtain rfl:i=l.length:=by have:=h;simp at this;omega
 rw [List.take_length]
 refine kgo ?_
 exact pE
theorem C2 (s:ByteArray):FnD Tryz.prog 291 [.s s] (.d (sJ (0,s))):=by
 refine ah Tryz.func291 (fun hw W0=>?_)
 refine kgo ?_
 exact ar
theorem pA (a:Big) (p:Int) (hp : -1000≤p∧p≤1000) (ha:0≤a.roots∧a.roots≤1000):FnD Tryz.prog 290 [.i p,.p a.D] (.d (.i (p - a.roots))):=by
 refine ah Tryz.func290 (fun hw W0=>?_)
 refine kgo ?_
 exact ar
theorem vt (e:Int × ByteArray):FnD Tryz.prog 293 [sJ e] (.d (sJ e)):=by
 refine ah Tryz.func293 (fun hw W0=>?_)
 refine kgo ?_
 exact ar
theorem yV {a b:Big} (oa:sa a) (ob:sa b) (hap:iP (a.inner.map Wr.name) (b.inner.map Wr.name)=true):FnD Tryz.prog 256 [a.D,b.D] (.d (iE a b).D):=by
 have ea:=oa.edges
 have eb:=ob.edges
 have ra:=oa.roots
 have rb:=ob.roots
 have la:=oa.outer
 have lb:=ob.outer
 have ia:=oa.inner
 have ib:=ob.inner
 have f1:FnD Tryz.prog 289 [.l 1 [DS a.outer,DS b.outer]] (.row 1 9 ((a.outer++b.outer).map .s)):=by
  have:=zJ [a.outer,b.outer] (by simp;omega) (by simp)
  simpa using this
 have f2:FnD Tryz.prog 257 [a.D,b.D,.i (a.roots+b.roots),DI a.sites,DS (a.outer++b.outer),.f 290 [.p a.D],.f 291 []] (.d (sc a b).D):=
  xd a b (a.roots+b.roots) a.sites (a.outer++b.outer) 290 291 [.p a.D] [] (fun s=>(0,s)) (fun p=>p - a.roots) rfl rfl oa.dims ob.dims (by omega) (by omega) ⟨ea.1,by omega⟩ ⟨eb.1,by omega⟩ (by rw [List.length_append];omega) (by have:=oa.sitesN;omega) oa.links oa.wires ob.links ob.wires
   (fun x hx=>⟨by have:=ob.pars x hx;omega,fun h=>pA a _ (by have:=ob.pars x hx;omega) ⟨ra.1,by omega⟩⟩) (fun p hp=>⟨by have:=ob.sites p hp;omega,fun h=>pA a _ (by have:=ob.sites p hp;omega) ⟨ra.1,by omega⟩⟩)
   (fun l hl=>sW a 291 [] (iQ b l) _ rfl (by have h1:=hl.1;have h2:=eb.2;unfold iQ;split <;> (constructor <;> dsimp only <;> omega)) ⟨ea.1,by omega⟩ (fun _=>C2 _))
 have f3:=mW a (a.edges+b.edges) (a.outer++b.outer) 293 [] id rfl oa.dims (by omega) ⟨by omega,by omega⟩ ⟨by omega,by omega⟩ (by rw [List.length_append];omega) oa.links oa.wires (fun l _=>vt _)
 have hnd:((y9 a b).map Wr.name).Nodup:=by rw [qp];exact uF hap oa.inames ob.inames
 have hwl:(y9 a b).length≤1000:=by have h:=congrArg List.length (qp a b);simp at h;omega
 have f4:=oE (y9 a b) 294 hwl hnd (cO Tryz.func294) uH
 rw [← Ex oa ob]
 have hJ:(sc a b).edges=a.edges+b.edges:=rfl
 have hW:y9 a b=(yB a (a.edges+b.edges) (jQ a b) fun l=>n5 (a.edges+b.edges) (jQ a b) (id (iQ a l))).inner++(sc a b).inner:=rfl
 have hP:H6 a b=⟨(sc a b).roots,(sc a b).nodes,(sc a b).sites,(sc a b).edges,(sc a b).outer,wY (y9 a b)⟩:=rfl
 rw [hP]
 revert f2 f3 hW f4 hJ hwl
 generalize sc a b=J
 generalize hR:(yB a (a.edges+b.edges) (jQ a b) fun l=>n5 (a.edges+b.edges) (jQ a b) (id (iQ a l)))=R
 unfold jQ at hR
 rw [hR]
 generalize wY (y9 a b)=S
 generalize y9 a b=W
 intro f2 f3 hwl f4 hJ hW
 subst hW
 rw [List.length_append] at hwl
 rw [← hJ] at f3
 refine ah Tryz.func256 (fun hw W0=>?_)
 refine kgo ?_
 refine IY ?_
 repeat (first|refine cFz 5 ?_|(refine cI ?_;first|refine aU ?_|refine cb ?_|refine bp ?_|refine bk ?_|refine aS ?_|refine be ?_|refine bc ?_|refine aB ?_|refine bm ?_|refine bo ?_)|(refine fQ ?_;first|refine b6 ?_|refine fH ?_|refine cm ?_|refine cE ?_)|(refine fB ?_;first|refine ex (fun _=>?_)|refine cr ?_|refine ci ?_|refine bL ?_|refine ch ?_|refine cd ?_|refine ca ?_)|(refine fJ ?_;first|refine cF ?_|refine fb ?_|refine cu ?_|refine bS ?_|refine ck ?_|refine cz ?_|refine ct ?_)|(refine fE ?_;first|refine fM ?_|refine fq ?_|refine cj ?_|refine bY ?_|refine fF ?_|refine bg ?_|refine bf ?_)|(refine co ?_;first|refine br ?_|refine cH ?_)|(refine fK ?_;first|refine cB ?_|refine cy ?_|refine fL ?_)|(refine b9 ?_;first|refine cG ?_|refine aY ?_|refine aR ?_|refine aZ ?_|refine aW ?_|refine bj ?_)|(refine fC ?_;first|refine cf ?_|refine fA ?_|refine bh ?_|refine aT ?_|refine bq ?_)|(refine aN ?_;first|refine aw _ ?_|refine ba ?_|refine aC ?_|refine az ?_|refine aD ?_)|(refine fG ?_;first|refine cC ?_|refine bR ?_|refine cA ?_)|(refine gOp ?_;first|refine fI ?_|refine fP ?_|refine bl ?_|refine fO ?_|refine fN ?_|refine cD ?_|refine aV ?_|refine cw ?_|refine fR ?_|refine bV ?_|refine cq ?_|refine aX ?_|refine aA ?_|refine cg ?_|refine sNo ?_|refine fa ?_|refine ay ?_)|refine e9 ?_|refine dD ?_|refine fU ?_|refine bu ?_|refine bU ?_|refine bE ?_|refine fX ?_|refine fy ?_|refine fp ?_|refine dP ?_|refine cL ?_|refine aM ?_|refine ax ?_|refine bt ?_|refine cK ?_|refine bF ?_|refine cM ?_|refine cN ?_)
 refine sf 2 a.D ?_
 refine kgo ?_
 refine IR 10004 5 ?_
 exact ar
def y8 (sig:List Ctl) (a b:Big):Big × Bool:=if aF sig a && (aF sig b && (iP (a.inner.map Wr.name) (b.inner.map Wr.name) && aF sig (iE a b))) then (iE a b,true) else (dx,false)
theorem ne (sig:List Ctl) (a b:Big) (ia:a.inner.length≤1000) (ib:b.inner.length≤1000):FnO Tryz.prog 223 [.l 3 (sig.map Ctl.D),a.D,b.D] [6,0] (BP (y8 sig a b).1++[.d (.b (y8 sig a b).2)]):=by
 have f1:=hZ sig a (by omega)
 have f2:=hZ sig b (by omega)
 have f3:=(gJ a ia).toL
 have f4:=(gJ b ib).toL
 have f5:=nM (a.inner.map Wr.name) (b.inner.map Wr.name)
 rw [sG] at f5
 refine dH Tryz.func223 (fun hw W0=>?_)
 refine kgo ?_
 cases ga:aF sig a
 ·rw [show y8 sig a b=(dx,false) from by simp [y8,ga]]
  refine kgo ?_
  exact g6 (hp:=.cons (.d rfl) (.cons .m (.cons .n (.cons (.d rfl) (.cons .n (.cons .n (.cons (.d rfl) .nil)))))))
 refine kgo ?_
 cases gb:aF sig b
 ·rw [show y8 sig a b=(dx,false) from by simp [y8,gb]]
  refine kgo ?_
  exact g6 (hp:=.cons (.d rfl) (.cons .m (.cons .n (.cons (.d rfl) (.cons .n (.cons .n (.cons (.d rfl) .nil)))))))
 refine kgo ?_
 cases gc:iP (a.inner.map Wr.name) (b.inner.map Wr.name)
 ·rw [show y8 sig a b=(dx,false) from by simp [y8,gc]]
  refine kgo ?_
  exact g6 (hp:=.cons (.d rfl) (.cons .m (.cons .n (.cons (.d rfl) (.cons .n (.cons .n (.cons (.d rfl) .nil)))))))
 have f6:=yV (dh ga) (dh gb) gc
 have f7:=oW sig (iE a b) (by rw [pw];have:=(dh ga).inner;have:=(dh gb).inner;omega)
 rw [show y8 sig a b=(y7 (aF sig (iE a b)) (iE a b),aF sig (iE a b)) from by unfold y8 y7;rw [ga,gb,gc];cases aF sig (iE a b) <;> rfl]
 refine kgo ?_
 exact g6 (hp:=.cons (.d rfl) (.cons (.k rfl rfl) (.cons (.k rfl rfl) (.cons (.d rfl) (.cons (.k rfl rfl) (.cons (.k rfl rfl) (.cons (.d rfl) .nil)))))))
theorem vb (sig:List Ctl) (a b:Big) (ia:a.inner.length≤1000) (ib:b.inner.length≤1000):FnO Tryz.prog 173 [.l 3 (sig.map Ctl.D),a.D,b.D] [6,0] (BP (oX sig a b).1++[.d (.b (oX sig a b).2)]):=by
 have f1:=nM a.outer b.outer
 rw [sG] at f1
 refine dH Tryz.func173 (fun hw W0=>?_)
 refine kgo ?_
 cases gc:iP a.outer b.outer
 ·rw [show oX sig a b=(dx,false) from by simp [oX,gc]]
  refine kgo ?_
  exact g6 (hp:=.cons (.d rfl) (.cons .m (.cons .n (.cons (.d rfl) (.cons .n (.cons .n (.cons (.d rfl) .nil)))))))
 have f2:=ne sig a b ia ib
 rw [show oX sig a b=y8 sig a b from by unfold oX y8;rw [gc,Bool.true_and]]
 refine kgo ?_
 exact g6 (hp:=.cons (.d rfl) (.cons (.k rfl rfl) (.cons (.k rfl rfl) (.cons (.d rfl) (.cons (.k rfl rfl) (.cons (.k rfl rfl) (.cons (.d rfl) .nil)))))))
theorem tb (sig:List Ctl) (a b:Big) (ia:a.inner.length≤1000) (ib:b.inner.length≤1000):FnO Tryz.prog 175 [.l 3 (sig.map Ctl.D),a.D,b.D] [6,0] (BP (fc sig a b).1++[.d (.b (fc sig a b).2)]):=by
 have h:=nn sig a b ia ib (fun ga gb gf=>Gw (dh ga) (dh gb) gf)
 have e:(y7 (mI sig a b) (A6 a b),mI sig a b)=fc sig a b:=by
  unfold fc mI y7
  show _=if aF sig a && (aF sig b && (BV a b && aF sig (tU a b))) then (tU a b,true) else (dx,false)
  cases ga:aF sig a
  ·rfl
  cases gb:aF sig b
  ·rfl
  cases gf:BV a b
  ·rfl
  rw [AC (dh ga) (dh gb) gf]
  cases aF sig (tU a b) <;> rfl
 rw [← e]
 exact h
theorem GY (l:List ByteArray):(⟨(0:Nat),[],((List.range 0).map fun i:Nat=>-1 - (i:Int)),0,l,(List.range l.length).map fun i:Nat=>⟨l.getD i ⟨#[]⟩,i⟩⟩:Big)=idB l:=by
 unfold idB
 congr 1
 apply List.ext_getElem (by simp)
 intro i h1 h2
 have:i<l.length:=by simpa using h1
 simp [this]
theorem sQ (sig:List Ctl) (ctx red mid par:Big) (ho:red.outer=mid.outer) (hl:mid.inner.length+ctx.inner.length≤1000) (hp:par.inner.length≤1000):FnO Tryz.prog 118 [.l 3 (sig.map Ctl.D),ctx.D,red.D,mid.D,par.D] [6,0] (BP (nt sig mid ctx par).1++[.d (.b (nt sig mid ctx par).2)]):=by
 have f1:=gJ ctx (by omega)
 have f2:=rv (ctx.inner.map Wr.name) red (by simp;omega)
 have hN:((ctx.inner.map Wr.name).filter fun x=>!rf red.outer x)=ff mid.outer (ctx.inner.map Wr.name):=by
  unfold ff
  refine List.filter_congr fun x _=>?_
  unfold rf
  rw [ho,Bool.eq_iff_iff,Bool.not_eq_true',decide_eq_false_iff_not,decide_eq_true_eq];omega
 rw [hN] at f2
 have hNl:(ff mid.outer (ctx.inner.map Wr.name)).length≤ctx.inner.length:=by unfold ff;have:=List.length_filter_le (fun y=>decide (jU mid.outer y<0)) (ctx.inner.map Wr.name);simpa using this
 have f3:FnD Tryz.prog 174 [.i 0,DS (ff mid.outer (ctx.inner.map Wr.name))] (.d (idB (ff mid.outer (ctx.inner.map Wr.name))).D):=by
  have:=xA 0 (ff mid.outer (ctx.inner.map Wr.name)) (by omega) (by omega)
  rw [GY] at this
  exact this
 have hA:nt sig mid ctx par=if (oX sig mid (idB (ff mid.outer (ctx.inner.map Wr.name)))).2 then (if (fc sig ctx (oX sig mid (idB (ff mid.outer (ctx.inner.map Wr.name)))).1).2 then fc sig (fc sig ctx (oX sig mid (idB (ff mid.outer (ctx.inner.map Wr.name)))).1).1 par else (dx,false)) else (dx,false):=rfl
 rw [hA]
 clear hA hN
 revert f2 f3 hNl
 generalize ff mid.outer (ctx.inner.map Wr.name)=ns
 intro f2 f3 hNl
 have hI:(idB ns).inner.length=ns.length:=by unfold idB;simp
 have hw:=wB sig mid (idB ns)
 have f4:FnD Tryz.prog 173 [.l 3 (sig.map Ctl.D),mid.D,(idB ns).D] (.tp [(oX sig mid (idB ns)).1.D,.b (oX sig mid (idB ns)).2]):=(vb sig mid (idB ns) (by omega) (by omega)).toT
 generalize oX sig mid (idB ns)=S at hw f4 ⊢
 have f5:FnD Tryz.prog 175 [.l 3 (sig.map Ctl.D),ctx.D,S.1.D] (.tp [(fc sig ctx S.1).1.D,.b (fc sig ctx S.1).2]):=(tb sig ctx S.1 (by omega) (by omega)).toT
 have hc:=tn sig ctx S.1
 generalize fc sig ctx S.1=T at hc f5 ⊢
 have f6:=tb sig T.1 par (by omega) hp
 refine dH Tryz.func118 (fun hw W0=>?_)
 refine kgo ?_
 refine sf 7 red.D ?_
 repeat (first|refine cFz 12 ?_|(refine cI ?_;first|refine aU ?_|refine cb ?_|refine bp ?_|refine bk ?_|refine aS ?_|refine be ?_|refine bc ?_|refine aB ?_|refine bm ?_|refine bo ?_)|(refine fQ ?_;first|refine b6 ?_|refine fH ?_|refine cm ?_|refine cE ?_)|(refine fB ?_;first|refine ex (fun _=>?_)|refine cr ?_|refine ci ?_|refine bL ?_|refine ch ?_|refine cd ?_|refine ca ?_)|(refine fJ ?_;first|refine cF ?_|refine fb ?_|refine cu ?_|refine bS ?_|refine ck ?_|refine cz ?_|refine ct ?_)|(refine fE ?_;first|refine fM ?_|refine fq ?_|refine cj ?_|refine bY ?_|refine fF ?_|refine bg ?_|refine bf ?_)|(refine co ?_;first|refine br ?_|refine cH ?_)|(refine fK ?_;first|refine cB ?_|refine cy ?_|refine fL ?_)|(refine b9 ?_;first|refine cG ?_|refine aY ?_|refine aR ?_|refine aZ ?_|refine aW ?_|refine bj ?_)|(refine fC ?_;first|refine cf ?_|refine fA ?_|refine bh ?_|refine aT ?_|refine bq ?_)|(refine aN ?_;first|refine aw _ ?_|refine ba ?_|refine aC ?_|refine az ?_|refine aD ?_)|(refine fG ?_;first|refine cC ?_|refine bR ?_|refine cA ?_)|(refine gOp ?_;first|refine fI ?_|refine fP ?_|refine bl ?_|refine fO ?_|refine fN ?_|refine cD ?_|refine aV ?_|refine cw ?_|refine fR ?_|refine bV ?_|refine cq ?_|refine aX ?_|refine aA ?_|refine cg ?_|refine sNo ?_|refine fa ?_|refine ay ?_)|refine e9 ?_|refine dD ?_|refine fU ?_|refine bu ?_|refine bU ?_|refine bE ?_|refine fX ?_|refine fy ?_|refine fp ?_|refine dP ?_|refine cL ?_|refine aM ?_|refine ax ?_|refine bt ?_|refine cK ?_|refine bF ?_|refine cM ?_|refine cN ?_)
 cases g1:S.2
 ·rw [if_neg Bool.false_ne_true]
  refine kgo ?_
  exact g6 (hp:=.cons (.d rfl) (.cons .m (.cons .n (.cons (.d rfl) (.cons .n (.cons .n (.cons (.d rfl) .nil)))))))
 rw [if_pos rfl]
 refine kgo ?_
 cases g2:T.2
 ·rw [if_neg Bool.false_ne_true]
  refine kgo ?_
  exact g6 (hp:=.cons (.d rfl) (.cons .m (.cons .n (.cons (.d rfl) (.cons .n (.cons .n (.cons (.d rfl) .nil)))))))
 rw [if_pos rfl]
 refine kgo ?_
 exact g6 (hp:=.cons (.d rfl) (.cons (.k rfl rfl) (.cons (.k rfl rfl) (.cons (.d rfl) (.cons (.k rfl rfl) (.cons (.k rfl rfl) (.cons (.d rfl) .nil)))))))
end Go.Proofs.YtclpbhoekmecjaaGreatDoor
namespace Go.Proofs.YtclpbhoekmecjaaGreatDoor
open Go.RowKit
set_option linter.unusedVariables false
set_option linter.unusedSimpArgs false
theorem kR {f g:Nat→Bool} {n:Nat} (h:∀i,i<n→f i=g i):(List.range n).filter f=(List.range n).filter g:=List.filter_congr fun i hi=>h i (List.mem_range.1 hi)
theorem ro (f:Nat→Bool) (n i:Nat) (h:i<n):((List.range n).map f).getD i false=f i:=by
 rw [List.getD_eq_getElem?_getD,List.getElem?_eq_getElem (by simpa using h),List.getElem_map,List.getElem_range];rfl
theorem ou (f:Nat→Bool) (n i:Nat) (h:i<n):tkF ((List.range n).map f) true i=f i:=by
 unfold tkF;rw [ro f n i h];cases f i <;> rfl
theorem Fs (f:Nat→Bool) (n k:Nat) (h:k≤n):atN ((List.range n).map f) true k=((idxOf f k).length:Int):=by
 unfold atN idxOf
 rw [List.length_map,kR (fun i hi=>ou f n i (by omega))]
theorem xg (f:Nat→Bool) (n:Nat) (p:Int) (h:p<n) (hf:0≤p→f p.toNat=true):tB ((List.range n).map f) true false p=if 0≤p then dv (idxOf f n) p else p:=by
 unfold tB
 by_cases h0:0≤p
 ·obtain ⟨k,rfl⟩:=Int.eq_ofNat_of_zero_le h0
  have hk:f k=true:=hf h0
  rw [if_pos (by rw [decide_eq_true h0];simp only [Int.toNat_natCast,Bool.true_and];rw [ou f n k (by omega)];exact hk),if_pos h0,gu k (by omega),if_pos hk,Int.toNat_natCast,Fs f n k (by omega)]
 ·rw [if_neg (by rw [decide_eq_false h0];simp),if_neg h0];rfl
theorem oL (f:Nat→Bool) (n:Nat):iT f n=((idxOf f n).length:Int):=by unfold iT idxOf;rw [List.length_map]
theorem rM {r a:Big} {ns:List Int} (he:0≤a.edges) (l:Int) (h:0≤l∧l<a.edges+a.outer.length):atI (me r a ns) l=iW r a ns l:=by
 unfold me iW jj
 have hlen:(jF (ft (aK r a ns) r.edges.toNat) a.edges.toNat).length=a.edges.toNat:=by simp [jF]
 rw [uq _ _ _ h.1,hlen]
 by_cases hl:l<a.edges
 ·rw [if_pos (by omega),if_pos hl]
  obtain ⟨k,rfl⟩:=Int.eq_ofNat_of_zero_le h.1
  have hk:k<a.edges.toNat:=by omega
  rw [gu k hk]
  unfold jF
  rw [ni _ _ k (by simpa using hk),List.getElem_range,oL];rfl
 ·rw [if_neg (by omega),if_neg hl,pd _ _ _ (by omega) (by omega),oL,Int.toNat_of_nonneg he];rfl
theorem Ed {sig:List Ctl} {a:Big} (h:aF sig a=true) {ns:List Int} {k:Nat} (hk:k<a.nodes.length) (hi:iF a ns k=false):fT ns k=false∧iF a ns (a.nodes[k]).parent=false:=by
 unfold iF at hi ⊢
 rw [fe h _ k hk,Bool.or_eq_false_iff] at hi
 exact hi
theorem EA {sig:List Ctl} {a:Big} (h:aF sig a=true) {ns:List Int} {k:Nat} (hk:k<a.nodes.length) (hi:iF a ns k=true) (hn:fT ns k=false):iF a ns (a.nodes[k]).parent=true∧0≤(a.nodes[k]).parent:=by
 unfold iF at hi ⊢
 rw [fe h _ k hk,hn,Bool.false_or] at hi
 refine ⟨hi,?_⟩
 rcases Int.lt_or_le (a.nodes[k]).parent 0 with h0|h0
 ·rw [eO _ _ h0] at hi;cases hi
 ·exact h0
theorem zu {b:Big} {f:Nat→Bool} {ks:List Int} {n:Nat} (g:Int→Nd) (h:∀k,k<n→f k=true→FT ((List.range n).map f) true false ks (ew b k)=g k):gQ b ((List.range n).map f) true false ks n=(idxOf f n).map g:=by
 unfold gQ idxOf
 rw [kR (fun i hi=>ou f n i hi),List.map_map]
 refine List.map_congr_left fun k hk=>?_
 rw [List.mem_filter,List.mem_range] at hk
 exact h k hk.1 hk.2
theorem Ag {sig:List Ctl} {r a:Big} {ns:List Int} (hr:aF sig r=true) (ha:aF sig a=true) (him:oq r a ns) (hL:gB r a ns=true) {k:Nat} (hk:k<a.nodes.length) (hi:fT ns k=false) {l:Nat} (hl:(l:Int)∈(a.nodes[k]).links):k7 r a ns l=true:=by
 unfold k7
 cases hh:fT ((aK r a ns).take r.edges.toNat) (l:Int) with
 | false=>rfl
 | true=>
  obtain ⟨e,he,e1⟩:=List.mem_take_iff_getElem.1 (cT.1 hh)
  have he1:e<r.edges.toNat∧e<al r:=by simp [aK] at he;omega
  unfold aK at e1
  rw [List.getElem_map,List.getElem_range] at e1
  obtain ⟨j,hj,e2⟩:=List.mem_iff_getElem.1 hl
  have h1:=AM him hr ha ((aH _ _).1 hL e he1.2) (by omega) (q:=((k:Int),(j:Int))) (eN.2 ⟨k,j,hk,hj,by rw [e1];exact e2,rfl⟩)
  rw [cT.2 h1] at hi;cases hi
theorem By {b:Big} (o:sa b) {j:Nat} (hj:j<b.outer.length):jU (cR b.outer) (b.outer.getD j ⟨#[]⟩)=j:=by
 rw [lS o.names,List.getD_eq_getElem?_getD,List.getElem?_eq_getElem hj]
 exact rk o.names j hj
theorem xo {l:List Int} {x:Int} (h:¬x∈l):dv l x = -1:=by
 unfold dv;rw [if_neg (fun e=>h (cT.1 e))]
def zx (a:Big) (l:Int):ByteArray:=a.outer.getD (l - a.edges).toNat ⟨#[]⟩
def nQ (r a:Big) (ns:List Int):List Wr:=r.outer.mapIdx fun i s=>⟨s,iW r a ns (atI (aK r a ns) (r.edges+i))⟩
def nR (r a:Big) (ns ps:List Int) (names:List ByteArray):List Wr:=names.mapIdx fun i s=>⟨s,iW r a ns (atI ps i)⟩
def Fc (r a:Big) (m:Mat) (ps:List Int) (names:List ByteArray):Big:=
 ⟨a.roots,(pS a (m9 a m.nodes) (jj r a m.nodes) a.outer (eq a m.nodes) (zx a)).nodes,m.roots.map (eq a m.nodes),(jj r a m.nodes).length,cR a.outer,wY (nQ r a m.nodes++nR r a m.nodes ps names)⟩
theorem nD {α β:Type} {f g:Nat→α→β} {l:List α} (h:∀i (hi:i<l.length),f i l[i]=g i l[i]):l.mapIdx f=l.mapIdx g:=by
 apply List.ext_getElem (by simp)
 intro i h1 h2
 rw [List.getElem_mapIdx,List.getElem_mapIdx]
 exact h i (by simpa using h1)
theorem lH {l:List ByteArray} (f:Nat→ByteArray→Int):(l.mapIdx fun i s=>(⟨s,f i s⟩:Wr)).map Wr.name=l:=by
 apply List.ext_getElem (by simp)
 intro i h1 h2
 rw [List.getElem_map,List.getElem_mapIdx]
theorem FL {sig:List Ctl} {r a:Big} {m:Mat} (hr:aF sig r=true) (hs:bN r=true) (ha:aF sig a=true) (hm:eh r a m=true) {ps:List Int} {names:List ByteArray} (hps:∀l∈ps,0≤l∧l<(al a:Int)) (hnm:names.length=ps.length):Fc r a m ps names=FV r a m ps names:=by
 obtain ⟨h1,h2,h3,h4⟩:=cP hm
 have him:=iR h1
 have oa:=dh ha
 have or':=dh hr
 have he:=oa.edges
 have hL:al a=(a.edges+a.outer.length).toNat:=rfl
 have hrt:∀p∈m.roots,p<a.nodes.length∧iF a m.nodes p=false:=fun p hp=>by
  unfold fY at h2
  rw [Bool.and_eq_true] at h2
  have:=List.all_eq_true.1 h2.1 p hp
  unfold kg at this
  rw [Bool.and_eq_true,Bool.not_eq_true'] at this
  have h5:=bO this.1
  exact ⟨by omega,this.2⟩
 have hpl:∀p:Int,p<a.nodes.length→iF a m.nodes p=false→tB (dC a m.nodes a.nodes.length) true false p=eq a m.nodes p:=fun p h5 h6=>xg _ _ _ h5 (fun h0=>by
  obtain ⟨k,rfl⟩:=Int.eq_ofNat_of_zero_le h0
  show Eg a m.nodes k=true
  unfold Eg
  rw [h6];rfl)
 unfold Fc FV pS
 dsimp only
 congr 1
 ·symm
  refine zu _ (fun k hk hf=>?_)
  have hf':iF a m.nodes k=false:=by unfold Eg at hf;simpa using hf
  obtain ⟨h5,h6⟩:=Ed ha hk hf'
  have hup:=iG ha k hk
  unfold FT mF eP
  rw [av a k hk]
  rw [show tB ((List.range a.nodes.length).map (Eg a m.nodes)) true false (a.nodes[k]).parent=eq a m.nodes (a.nodes[k]).parent from hpl _ (by omega) h6]
  congr 1
  refine List.map_congr_left fun l hl=>?_
  have hlk:=oa.links _ (List.getElem_mem hk) l hl
  obtain ⟨l,rfl⟩:=Int.eq_ofNat_of_zero_le hlk.1
  rw [rM he.1 _ hlk]
  unfold iW ld
  by_cases hlt:(l:Int)<a.edges
  ·have hkf:=Ag hr ha him h4 hk h5 hl
   have e1:dv (jj r a m.nodes) l=_:=gu (f:=k7 r a m.nodes) (n:=a.edges.toNat) l (by omega)
   rw [if_pos hkf] at e1
   rw [if_pos hlt,if_pos (by omega)]
  ·rw [if_neg hlt,xo (fun hin=>by
    obtain ⟨q,hq,_,e⟩:=bz.1 hin
    omega),if_neg (by omega)]
   unfold zx
   rw [By oa (by omega)];omega
 ·refine List.map_congr_left fun p hp=>?_
  obtain ⟨h5,h6⟩:=hrt p hp
  have:=hpl p h5 h6
  rw [← this]
  unfold tB po
  by_cases h0:0≤p
  ·obtain ⟨k,rfl⟩:=Int.eq_ofNat_of_zero_le h0
   have hk:k<a.nodes.length:=by omega
   have ht:tkF (dC a m.nodes a.nodes.length) true k=true:=by
    unfold dC
    rw [ou _ _ k hk]
    unfold Eg
    rw [h6];rfl
   rw [if_pos (by rw [decide_eq_true h0];simpa using ht),if_neg (by omega)]
   unfold atL
   rw [ni _ _ k (by simpa using hk),List.getElem_range,Int.toNat_natCast]
  ·rw [if_neg (by rw [decide_eq_false h0];simp),if_neg (show ¬(false=true) by simp),if_pos (by omega)]
 ·exact (oL _ _).symm
 ·exact lS oa.names
 ·have e1:nQ r a m.nodes=o6 r (me r a m.nodes) (aK r a m.nodes):=nD fun i hi=>by
   have hp0:=iA hs
   have:=zG him hr ha hp0 (r.edges+i) (by have:=or'.edges;omega) (by have:=or'.edges;unfold al;omega)
   rw [rM he.1 _ ⟨this.1,by omega⟩]
  have e2:nR r a m.nodes ps names=zW (me r a m.nodes) ps names:=nD fun i hi=>by
   have:=hps _ (oT (l:=ps) (i:=i) (by omega) (by omega))
   rw [rM he.1 _ ⟨this.1,by omega⟩]
  rw [e1,e2]
  exact ws (by unfold o6;rw [lH];exact or'.names)
theorem A7:∀i j:Fin 26,i<j→cZ (nf i) (nf j)=true:=by decide +kernel
theorem qm (outer:List ByteArray) (n:Nat):(bJ outer n).Pairwise NLt:=by
 unfold bJ
 refine List.Pairwise.sublist (List.take_sublist _ _) (List.pairwise_map.2 ?_)
 refine List.Pairwise.imp_of_mem (fun {x y} hx hy h=>?_) (List.Pairwise.filter _ List.pairwise_lt_range)
 rw [List.mem_filter,List.mem_range] at hx hy
 exact A7 ⟨x,hx.1⟩ ⟨y,hy.1⟩ h
theorem vS (outer:List ByteArray) (n:Nat):∀s∈bJ outer n,¬s∈outer:=fun s hs hm=>by
 unfold bJ at hs
 obtain ⟨i,hi,rfl⟩:=List.mem_map.1 (List.mem_of_mem_take hs)
 rw [List.mem_filter] at hi
 have:=hi.2
 unfold lA at this
 rw [Bool.not_eq_true',List.any_eq_false] at this
 exact this _ hm (by simp)
theorem xC {sig:List Ctl} {r a:Big} (hr:aF sig r=true) (ns ps:List Int) (n:Nat):((nQ r a ns++nR r a ns ps (bJ r.outer n)).map Wr.name).Nodup:=by
 rw [List.map_append]
 unfold nQ nR
 rw [lH,lH]
 exact List.nodup_append.2 ⟨jg NLt NLt.irr (dh hr).names,jg NLt NLt.irr (qm _ _),fun x hx y hy e=>vS _ _ _ hy (by rw [← e];exact hx)⟩
theorem Az {sig:List Ctl} {a:Big} (ha:aF sig a=true) (ns:List Int):idxOf (psF a ns) (al a)=ak a ns:=by
 unfold ak idxOf
 rw [kR (fun l hl=>?_)]
 unfold psF Gy m7
 rw [Bool.eq_iff_iff,decide_eq_true_eq,List.length_pos_iff_exists_mem,List.any_eq_true]
 constructor
 ·rintro ⟨q,hq⟩
  rw [List.mem_filter] at hq
  obtain ⟨hq,hp⟩:=hq
  obtain ⟨i,j,hi,hj,e1,rfl⟩:=eN.1 hq
  simp only [Int.toNat_natCast] at hp
  unfold ez at hp
  rw [ro _ _ i hi] at hp
  exact ⟨i,bz.2 ⟨i,hi,by simpa using hp,rfl⟩,by rw [av a i hi,cT,← e1];exact List.getElem_mem hj⟩
 ·rintro ⟨k,hk,hl2⟩
  obtain ⟨q,rfl,hq,hp⟩:=iv hk
  rw [av a q hq,cT] at hl2
  obtain ⟨j,hj,e⟩:=List.mem_iff_getElem.1 hl2
  refine ⟨((q:Int),(j:Int)),List.mem_filter.2 ⟨eN.2 ⟨q,j,hq,hj,e,rfl⟩,?_⟩⟩
  simp only [Int.toNat_natCast]
  unfold ez
  rw [ro _ _ q hq,hp];rfl
def tt (r a:Big) (ns:List Int) (p:Int):Int:=if 0≤dv (bC a ns) p then dv (bC a ns) p else -1 - dv r.sites (dv ns p)
def vN (ps:List Int) (names:List ByteArray) (l:Int):ByteArray:=names.getD (dv ps l).toNat ⟨#[]⟩
def Gn (r a:Big) (m:Mat) (ps:List Int) (names:List ByteArray):Big:=⟨r.sites.length,(pS a (bC a m.nodes) [] names (tt r a m.nodes) (vN ps names)).nodes,[],0,cR names,[]⟩
theorem yD {r:Big} {x:Int} (h:0<(bA r x).length):atI (bA r x) 0=dv r.sites x:=by
 have hm:(bA r x)[0]∈bA r x:=List.getElem_mem h
 unfold bA at hm
 obtain ⟨q,hq,hf,e⟩:=bz.1 hm
 unfold iC at hf
 rw [List.getElem?_eq_getElem hq] at hf
 have hx:r.sites[q]=x:=by simpa using hf
 have hin:x∈r.sites:=by rw [← hx];exact List.getElem_mem hq
 have e0:atI (bA r x) 0=(q:Int):=by rw [show (0:Int)=((0:Nat):Int) from rfl,b8 _ 0 h];exact e
 rw [e0]
 unfold dv
 rw [if_pos (cT.2 hin)]
 have hi:r.sites.idxOf x<r.sites.length:=List.idxOf_lt_length_of_mem hin
 have h1:r.sites.idxOf x≤q:=by
  rcases Nat.lt_or_ge q (r.sites.idxOf x) with h2|h2
  ·have h3:=List.not_of_lt_findIdx (p:=(· == x)) (xs:=r.sites) (i:=q) h2
   rw [hx] at h3
   simp at h3
  ·exact h2
 have h2:((r.sites.idxOf x:Nat):Int)∈bA r x:=bz.2 ⟨_,hi,by unfold iC;rw [List.getElem?_eq_getElem hi];simp,rfl⟩
 obtain ⟨j,hj,e3⟩:=List.mem_iff_getElem.1 h2
 have hinc:(bA r x).Pairwise (· < ·):=ir _ _
 have h3:(q:Int)≤r.sites.idxOf x:=by
  rw [← e3]
  have e':(bA r x)[0]=(q:Int):=e
  rw [← e']
  rcases Nat.eq_zero_or_pos j with rfl|hj0
  ·exact Int.le_refl _
  ·exact Int.le_of_lt (sZ hinc h hj hj0)
 omega
theorem CL (ps z:List Int) (k:Nat):lP ps z k=mr ps z 0 k:=by
 unfold lP mr
 congr 1
 funext l i
 simp
theorem FE {sig:List Ctl} {r a:Big} {m:Mat} (hr:aF sig r=true) (ha:aF sig a=true) (hm:eh r a m=true) (names:List ByteArray) (hn:names.Pairwise NLt) (hnl:names.length=(ak a m.nodes).length):Gn r a m (ak a m.nodes) names=GC r a m (ak a m.nodes) names:=by
 have hinc:(ak a m.nodes).Pairwise (· < ·):=ir _ _
 unfold Gn GC pS
 dsimp only
 rw [lS hn]
 congr 1
 unfold jW bC idxOf ez
 rw [kR (fun i hi=>ou (nr a m.nodes) a.nodes.length i hi),List.map_map]
 refine (List.map_congr_left fun k hk=>?_).symm
 rw [List.mem_filter,List.mem_range] at hk
 obtain ⟨hk,hf⟩:=hk
 have hf2:=hf
 unfold nr at hf2
 rw [Bool.and_eq_true,Bool.not_eq_true'] at hf2
 obtain ⟨h5,h6⟩:=EA ha hk hf2.1 hf2.2
 have hup:=iG ha k hk
 obtain ⟨q,hq⟩:=Int.eq_ofNat_of_zero_le h6
 have hql:q<a.nodes.length:=by omega
 have hpm:dv (bC a m.nodes) (q:Int)=_:=gu (f:=nr a m.nodes) (n:=a.nodes.length) q hql
 unfold kz
 show _=mF a [] names (tt r a m.nodes) (vN (ak a m.nodes) names) k
 unfold mF eP
 rw [av a k hk,hq]
 congr 1
 ·unfold tt
  rw [hq] at h5
  by_cases hh:fT m.nodes (q:Int)=true
  ·have hpf:nr a m.nodes q=false:=by unfold nr;rw [hh];simp
   rw [hpf,if_neg (by simp)] at hpm
   rw [hpm,decide_eq_true hk,hh,if_pos (show (true && true)=true from rfl),if_neg (show ¬(0:Int)≤-1 by omega)]
   have hs:=o8 hm k hk hf (by rw [av a k hk,hq];exact hh)
   rw [av a k hk,hq] at hs
   unfold lv
   rw [yD hs]
  ·rw [Bool.not_eq_true] at hh
   have hpf:nr a m.nodes q=true:=by unfold nr;rw [hh,h5];rfl
   rw [hpf,if_pos rfl] at hpm
   rw [hh,Bool.and_false,if_neg (by simp),hpm,if_pos (by omega)]
   rw [xg _ _ _ (by omega) (fun _=>hpf),if_pos (by omega)]
   exact hpm
 ·refine List.map_congr_left fun l hl=>?_
  obtain ⟨l,rfl,hll⟩:=gR ((eS ha k hk).2.2.2.2 _ hl)
  have hpl:(l:Int)∈ak a m.nodes:=bz.2 ⟨l,hll,List.any_eq_true.2 ⟨k,bz.2 ⟨k,hk,hf,rfl⟩,by rw [av a k hk];exact cT.2 hl⟩,rfl⟩
  obtain ⟨e,he,e1⟩:=List.mem_iff_getElem.1 hpl
  have hie:=ux hinc e he
  rw [CL,← e1,w6 0 hinc (fun x hx=>by
   obtain ⟨i,hi,_,rfl⟩:=bz.1 hx
   rw [List.length_replicate];omega) _ (Nat.le_refl _) e he he]
  unfold ld vN
  rw [xo (l:=[]) (by simp),if_neg (by omega),hie,lS hn,Int.toNat_natCast,List.getD_eq_getElem?_getD,List.getElem?_eq_getElem (by omega)]
  rw [Option.getD_some,rk hn e (by omega)]
  simp
end Go.Proofs.YtclpbhoekmecjaaGreatDoor
namespace Go.Proofs.YtclpbhoekmecjaaGreatDoor
open Go.RowKit
set_option linter.unusedVariables false
set_option linter.unusedSimpArgs false
set_option maxRecDepth 100000
set_option maxHeartbeats 4000000
attribute [local irreducible] aq Der At
theorem DU (b:Big) (ns es:List Int) (outer:List ByteArray) (gp gn:Nat) (cp cn:List D) (place:Int→Int) (name:Int→ByteArray) (hcp:(cp.all fun r=>!isT r)=true) (hcn:(cn.all fun r=>!isT r)=true)
 (hn:ns.length≤1000) (he:es.length≤1000) (hol:outer.length≤1000) (hns:∀k∈ns,∃q:Nat,k=q∧q<b.nodes.length) (hll:∀n∈b.nodes,n.links.length≤1000)
 (hp:∀k∈ns,FnD Tryz.prog gp ([.i (ew b k).parent]++cp) (.d (.i (place (ew b k).parent)))) (hnm:∀k∈ns,∀l∈(ew b k).links,dv es l<0→FnD Tryz.prog gn ([.i l]++cn) (.d (.s (name l)))) :
 FnO Tryz.prog 162 [b.D,DI ns,DI es,DS outer,.f gp cp,.f gn cn] [6] [.d (.i b.roots),.tk (.row 3 131 ((pS b ns es outer place name).nodes.map Nd.D)),.d (.n 1),.d (.i es.length),.d (DS (cR outer)),.d (.n 2)]:=by
 have f0:=lg outer hol
 have ho:(cR outer).length≤1000:=by have h:=kl outer [];unfold cR;simp at h;omega
 refine dH Tryz.func162 (fun hw W0=>?_)
 refine kgo ?_
 refine lx 10013 1 20001 131 ?_
 refine aj [2,4,5,6,12,13,27,28] (fun i:Nat=>i≤ns.length) (fun i=>ns.length - i) (fun i=>[(10013,.tk (.bx [.d (.i b.roots),.k 20001,.d (.n 1),.d (.i es.length),.d (DS (cR outer)),.d (.n 2)])),(20001,.tk (.row 3 131 (((ns.take i).map (mF b es outer place name)).map Nd.D))),(29,.sy (.d (.i i)))]) 0 (Nat.zero_le _) (fun i hi=>?_)
 refine kgo ?_
 refine aO (fun h=>?_) (fun h=>?_)
 ·have hlt:i<ns.length:=by omega
  have hmk:=List.getElem_mem hlt
  obtain ⟨q,hq,hqb⟩:=hns _ hmk
  have hnd:ew b ns[i]=b.nodes[q]:=by rw [hq,av b q hqb]
  have f1:=hp _ hmk
  have f2:=hnm _ hmk
  rw [hnd] at f1 f2
  have hL:=hll _ (List.getElem_mem hqb)
  refine kgo ?_
  rw [hq]
  refine kgo ?_
  refine lx 10016 2 20002 3 ?_
  refine aj [2,4,5,6,12,13,16,27,28,29,53,54] (fun j:Nat=>j≤(b.nodes[q]).links.length) (fun j=>(b.nodes[q]).links.length - j) (fun j=>[(10016,.tk (.bx [.d (.i (b.nodes[q]).control),.d (.i (place (b.nodes[q]).parent)),.k 20002])),(20002,.tk (.row 1 3 ((((b.nodes[q]).links.take j).map (ld es outer name)).map .i))),(55,.sy (.d (.i j)))]) 0 (Nat.zero_le _) (fun j hj=>?_)
  refine kgo ?_
  refine aO (fun h2=>?_) (fun h2=>?_)
  ·have hjl:j<(b.nodes[q]).links.length:=by omega
   have f3:=iM es (b.nodes[q]).links[j]
   have hr:=gX (fun x=>x == (b.nodes[q]).links[j]) es
   have hlk:ld es outer name (b.nodes[q]).links[j]=if 0≤pH (fun x=>x == (b.nodes[q]).links[j]) es then pH (fun x=>x == (b.nodes[q]).links[j]) es else es.length+jU (cR outer) (name (b.nodes[q]).links[j]):=rfl
   have f4:=f2 _ (List.getElem_mem hjl)
   have hb:(((b.nodes[q]).links.take j).map (ld es outer name)).length≤1000:=by rw [List.length_map,List.length_take];omega
   have hs:∀V:Int,ld es outer name (b.nodes[q]).links[j]=V→(((b.nodes[q]).links.take (j+1)).map (ld es outer name)).map D.i=(((b.nodes[q]).links.take j).map (ld es outer name)).map D.i++[.i V]:=fun V hV=>by rw [List.take_succ_eq_append_getElem hjl,List.map_append,List.map_append,← hV];rfl
   refine kgo ?_
   refine aO (fun h3=>?_) (fun h3=>?_)
   ·rw [if_pos h3] at hlk
    have hs:=hs _ hlk
    refine kgo ?_
    exact af (j+1) hjl (by omega)
   ·rw [if_neg h3] at hlk
    have hs:=hs _ hlk
    have f4:=f4 (by show pH _ _<0;omega)
    have f5:=nZ (cR outer) (name (b.nodes[q]).links[j])
    have hr2:=mK (cR outer) (name (b.nodes[q]).links[j])
    refine kgo ?_
    exact af (j+1) hjl (by omega)
  rw [show (b.nodes[q]).links.take j=(b.nodes[q]).links from List.take_of_length_le (by omega)]
  have hb:((ns.take i).map (mF b es outer place name)).length≤1000:=by rw [List.length_map,List.length_take];omega
  have hs:((ns.take (i+1)).map (mF b es outer place name)).map Nd.D=((ns.take i).map (mF b es outer place name)).map Nd.D++[Nd.D ⟨(b.nodes[q]).control,place (b.nodes[q]).parent,(b.nodes[q]).links.map (ld es outer name)⟩]:=by
   rw [List.take_succ_eq_append_getElem hlt,List.map_append,List.map_append,← hnd];rfl
  refine bE (ax (ax (bF (aM ?_))))
  refine mi 10016 2 ?_
  refine kgo ?_
  exact af (i+1) hlt (by omega)
 rw [show (pS b ns es outer place name).nodes=(ns.take i).map (mF b es outer place name) from by rw [List.take_of_length_le (by omega)];rfl]
 refine kgo ?_
 exact g6 (hp:=.cons (.d rfl) (.cons (.k rfl rfl) (.cons (.d rfl) (.cons (.d rfl) (.cons (.d rfl) (.cons (.d rfl) .nil))))))
def mQ (sig:List Ctl) (r a:Big) (m:Mat):Bool:=(dX r a m.nodes).2.2 && aF sig (gU r a m)
theorem yc {sig:List Ctl} {r a:Big} (m:Mat) (hbr:aF sig r=true) (hs:bN r=true) (hba:aF sig a=true) (hm:eh r a m=true):FnO Tryz.prog 114 [.l 3 (sig.map Ctl.D),r.D,a.D,m.D] [6,0] (BP (y7 (mQ sig r a m) (gU r a m))++[.d (.b (mQ sig r a m))]):=by
 obtain ⟨h1,h2,h3,h4⟩:=cP hm
 have him:=iR h1
 have oa:=dh hba
 have orr:=dh hbr
 have hrl:m.roots.length≤1000:=by have h:=ji (ns:=m.nodes) (rs:=m.roots) h2;have:=orr.roots;omega
 obtain ⟨ae,hae⟩:=Int.eq_ofNat_of_zero_le oa.edges.1
 obtain ⟨re,hre⟩:=Int.eq_ofNat_of_zero_le orr.edges.1
 have hrt:=lX h2
 have hpe:dX r a m.nodes=if decide (16<((ak a m.nodes).length:Int)+r.outer.length) then ([],[],false) else (ak a m.nodes,bJ r.outer (ak a m.nodes).length,true):=by unfold dX;rw [Az hba]
 have f1:=mx m hbr hs hba him
 have f2:=nG m.nodes hbr hba him
 rw [h4,kM h4] at f2
 have f3:=Ce m hba
 have hps:∀l∈ak a m.nodes,0≤l∧l<(al a:Int):=fun l hl=>by
  obtain ⟨i,hi,_,rfl⟩:=bz.1 hl
  omega
 by_cases hp:((ak a m.nodes).length:Int)+r.outer.length≤16
 case neg=>
  rw [if_pos (by simp;omega)] at hpe
  rw [decide_eq_false hp] at f1
  rw [show mQ sig r a m=false from by unfold mQ;rw [hpe];rfl]
  refine dH Tryz.func114 (fun hw W0=>?_)
  refine kgo ?_
  exact g6 (hp:=.cons (.d rfl) (.cons .m (.cons .n (.cons (.d rfl) (.cons .n (.cons .n (.cons (.d rfl) .nil)))))))
 rw [if_neg (by simp;omega)] at hpe
 rw [decide_eq_true hp] at f1
 have hnl:(bJ r.outer (ak a m.nodes).length).length=(ak a m.nodes).length:=mR (by omega)
 have hX:gU r a m=Fc r a m (ak a m.nodes) (bJ r.outer (ak a m.nodes).length):=by
  unfold gU
  rw [hpe]
  exact (FL hbr hs hba hm hps hnl).symm
 rw [show mQ sig r a m=aF sig (gU r a m) from by unfold mQ;rw [hpe];rfl,hX]
 have hil:(aK r a m.nodes).length=al r:=by unfold aK;simp
 have hix:=zG him hbr hba (iA hs)
 have hna:al a=ae+a.outer.length:=by unfold al;omega
 have hnr:al r=re+r.outer.length:=by unfold al;omega
 have hkeep:idxOf (k7 r a m.nodes) ae=jj r a m.nodes:=by unfold jj;rw [hae];rfl
 have hkl:(jj r a m.nodes).length≤ae:=by rw [← hkeep];exact dS _ _
 have hae8:=oa.edges
 have hre8:=orr.edges
 have hlk:∀l,(0≤l∧l<a.edges+a.outer.length)→FnD Tryz.prog 164 [.i l,.p a.D,.p (DI (jj r a m.nodes))] (.d (.i (iW r a m.nodes l))):=fun l hl=>sM a (jj r a m.nodes) l ⟨hl.1,by have:=oa.outer;omega⟩ ⟨hae8.1,by omega⟩ (by omega)
 have hpl:∀p,FnD Tryz.prog 161 [.i p,.p (DI (m9 a m.nodes))] (.d (.i (eq a m.nodes p))):=fun p=>tO (m9 a m.nodes) p
 have hrest:∀k∈m9 a m.nodes,∃q:Nat,k=q∧q<a.nodes.length∧iF a m.nodes q=false:=fun k hk=>by
  obtain ⟨q,hq,hf,e⟩:=bz.1 hk
  exact ⟨q,e,hq,by simpa using hf⟩
 have hrestl:(m9 a m.nodes).length≤a.nodes.length:=dS _ _
 have f4:=DU a (m9 a m.nodes) (jj r a m.nodes) a.outer 161 163 [.p (DI (m9 a m.nodes))] [.p a.D] (eq a m.nodes) (zx a) rfl rfl (by have:=oa.nodes;omega) (by omega) (by have:=oa.outer;omega) (fun k hk=>by obtain ⟨q,e,hq,_⟩:=hrest k hk;exact ⟨q,e,hq⟩) (fun n hn=>by
  obtain ⟨i,hi,rfl⟩:=List.mem_iff_getElem.1 hn
  exact (bB hba).7 i hi) (fun k _=>hpl _) (fun k hk l hl hno=>by
  obtain ⟨q,rfl,hq,hf⟩:=hrest k hk
  rw [av a q hq] at hl
  have hlr:=oa.links _ (List.getElem_mem hq) l hl
  refine t7 a l ?_ (by omega) ⟨hae8.1,by omega⟩ (by have:=oa.outer;omega)
  obtain ⟨j,rfl⟩:=Int.eq_ofNat_of_zero_le hlr.1
  rcases Int.lt_or_le (j:Int) a.edges with hlt|hge
  ·have hkf:=Ag hbr hba him h4 hq (Ed hba hq hf).1 hl
   have e1:dv (jj r a m.nodes) j=_:=gu (f:=k7 r a m.nodes) (n:=a.edges.toNat) j (by omega)
   rw [if_pos hkf] at e1
   omega
  ·omega)
 have hw1:(nQ r a m.nodes).length=r.outer.length:=by unfold nQ;simp
 have hw2:(nR r a m.nodes (ak a m.nodes) (bJ r.outer (ak a m.nodes).length)).length=(ak a m.nodes).length:=by unfold nR;simpa using hnl
 have hnd:=xC (a:=a) hbr m.nodes (ak a m.nodes) (ak a m.nodes).length
 have f5:=oE (nQ r a m.nodes++nR r a m.nodes (ak a m.nodes) (bJ r.outer (ak a m.nodes).length)) 166 (by rw [List.length_append];omega) hnd (cO Tryz.func166) tM
 have hinl:(Fc r a m (ak a m.nodes) (bJ r.outer (ak a m.nodes).length)).inner.length≤1000:=by
  unfold Fc
  rw [xn,List.length_append];omega
 have f6:=oW sig (Fc r a m (ak a m.nodes) (bJ r.outer (ak a m.nodes).length)) hinl
 have hs1:∀i (h:i<r.outer.length),(nQ r a m.nodes).take (i+1)=(nQ r a m.nodes).take i++[⟨r.outer[i],iW r a m.nodes (atI (aK r a m.nodes) (r.edges+i))⟩]:=fun i h=>by
  rw [List.take_succ_eq_append_getElem (by omega)];unfold nQ;simp
 have hP:Fc r a m (ak a m.nodes) (bJ r.outer (ak a m.nodes).length)=⟨a.roots,(pS a (m9 a m.nodes) (jj r a m.nodes) a.outer (eq a m.nodes) (zx a)).nodes,m.roots.map (eq a m.nodes),(jj r a m.nodes).length,cR a.outer,wY (nQ r a m.nodes++nR r a m.nodes (ak a m.nodes) (bJ r.outer (ak a m.nodes).length))⟩:=rfl
 rw [hP] at f6 ⊢
 clear hP hX hpe hnd
 have hs2:∀i (h:i<(bJ r.outer (ak a m.nodes).length).length) (h':i<(ak a m.nodes).length),(nR r a m.nodes (ak a m.nodes) (bJ r.outer (ak a m.nodes).length)).take (i+1)=(nR r a m.nodes (ak a m.nodes) (bJ r.outer (ak a m.nodes).length)).take i++[⟨(bJ r.outer (ak a m.nodes).length)[i],iW r a m.nodes (ak a m.nodes)[i]⟩]:=fun i h h'=>by
  rw [List.take_succ_eq_append_getElem (by omega)];unfold nR;simp [b8 _ i h']
 generalize nR r a m.nodes (ak a m.nodes) (bJ r.outer (ak a m.nodes).length)=W2 at *
 generalize nQ r a m.nodes=W1 at *
 generalize bJ r.outer (ak a m.nodes).length=nm at *
 generalize ak a m.nodes=L at *
 generalize (pS a (m9 a m.nodes) (jj r a m.nodes) a.outer (eq a m.nodes) (zx a)).nodes=pn at *
 generalize m9 a m.nodes=rest at *
 refine dH Tryz.func114 (fun hw W0=>?_)
 refine kgo ?_
 refine aj [0,5,6,7,8,10,11,13,15,48] (fun i:Nat=>i≤ae) (fun i=>ae - i) (fun i=>[(49,.sy (.d (.i i))),(10015,.tk (.bx [.k 20001])),(20001,.tk (.row 1 3 ((idxOf (k7 r a m.nodes) i).map .i)))]) 0 (Nat.zero_le _) (fun i hi=>?_)
 refine kgo ?_
 refine aO (fun h=>?_) (fun h=>?_)
 ·have hlt:i<ae:=by omega
  have f7:=gg ((aK r a m.nodes).take re) i
  have hli:=dS (k7 r a m.nodes) i
  refine kgo ?_
  refine bR (n:=re) ?_ rfl rfl (congrArg some hre)
  cases hk:fT ((aK r a m.nodes).take re) i
  ·rw [hk] at f7
   have hf:k7 r a m.nodes i=true:=by unfold k7;rw [hre];show (!fT ((aK r a m.nodes).take re) i)=true;rw [hk];rfl
   have hs:(idxOf (k7 r a m.nodes) (i+1)).map D.i=(idxOf (k7 r a m.nodes) i).map D.i++[.i i]:=by rw [df hf,List.map_append];rfl
   refine kgo ?_
   exact af (i+1) hlt (by omega)
  ·rw [hk] at f7
   have hf:k7 r a m.nodes i=false:=by unfold k7;rw [hre];show (!fT ((aK r a m.nodes).take re) i)=false;rw [hk];rfl
   have hs:(idxOf (k7 r a m.nodes) (i+1)).map D.i=(idxOf (k7 r a m.nodes) i).map D.i:=by rw [d7 hf]
   refine kgo ?_
   exact af (i+1) hlt (by omega)
 rw [show i=ae by omega,hkeep]
 refine bE (ax (ax (bF (aM ?_))))
 refine mi 10015 0 ?_
 refine kgo ?_
 refine sf 17 (DI rest) ?_
 refine kgo ?_
 refine sf 6 a.D ?_
 refine kgo ?_
 refine sf 15 (DI (jj r a m.nodes)) ?_
 refine kgo ?_
 refine lx 10019 2 20002 3 ?_
 refine aj [0,5,8,10,11,13,18,19,20,78,79,31075] (fun i:Nat=>i≤m.roots.length) (fun i=>m.roots.length - i) (fun i=>[(80,.sy (.d (.i i))),(10019,.tk (.bx [.d (.i a.roots),.k 31075,.k 20002,.d (.i (jj r a m.nodes).length),.d (DS (cR a.outer)),.d (.n 2)])),(20002,.tk (.row 1 3 (((m.roots.take i).map (eq a m.nodes)).map .i)))]) 0 (Nat.zero_le _) (fun i hi=>?_)
 refine kgo ?_
 refine aO (fun h=>?_) (fun h=>?_)
 ·have hlt:i<m.roots.length:=by omega
  have f7:=hpl m.roots[i]
  have hs:((m.roots.take (i+1)).map (eq a m.nodes)).map D.i=((m.roots.take i).map (eq a m.nodes)).map D.i++[.i (eq a m.nodes m.roots[i])]:=by rw [List.take_succ_eq_append_getElem hlt,List.map_append,List.map_append];rfl
  have hq:((m.roots.take i).map (eq a m.nodes)).length≤1000:=by rw [List.length_map,List.length_take];omega
  refine kgo ?_
  exact af (i+1) hlt (by omega)
 rw [show m.roots.take i=m.roots from List.take_of_length_le (by omega)]
 refine kgo ?_
 refine lx 10019 5 20003 133 ?_
 refine aj [0,5,8,10,11,13,19,20,94,95,31075,20002] (fun i:Nat=>i≤r.outer.length) (fun i=>r.outer.length - i) (fun i=>[(96,.sy (.d (.i i))),(10019,.tk (.bx [.d (.i a.roots),.k 31075,.k 20002,.d (.i (jj r a m.nodes).length),.d (DS (cR a.outer)),.k 20003])),(20003,.tk (.row 2 133 ((W1.take i).map Wr.D)))]) 0 (Nat.zero_le _) (fun i hi=>?_)
 refine kgo ?_
 refine aO (fun h=>?_) (fun h=>?_)
 ·have hlt:i<r.outer.length:=by omega
  have hx:=hix (r.edges+i) (by omega) (by omega)
  have f7:=hlk (atI (aK r a m.nodes) (r.edges+i)) ⟨hx.1,by omega⟩
  have hs:(W1.take (i+1)).map Wr.D=(W1.take i).map Wr.D++[Wr.D ⟨r.outer[i],iW r a m.nodes (atI (aK r a m.nodes) (r.edges+i))⟩]:=by rw [hs1 i hlt,List.map_append];rfl
  have hq:(W1.take i).length≤1000:=by rw [List.length_take];omega
  refine kgo ?_
  exact af (i+1) hlt (by omega)
 rw [show W1.take i=W1 from List.take_of_length_le (by omega)]
 refine kgo ?_
 refine FU 20003 (t':=.row 2 133 ((W1++W2.take 0).map Wr.D)) (by rw [List.take_zero,List.append_nil]) ?_
 refine aj [0,8,10,19,20,118,119,31075,20002] (fun i:Nat=>i≤nm.length) (fun i=>nm.length - i) (fun i=>[(120,.sy (.d (.i i))),(10019,.tk (.bx [.d (.i a.roots),.k 31075,.k 20002,.d (.i (jj r a m.nodes).length),.d (DS (cR a.outer)),.k 20003])),(20003,.tk (.row 2 133 ((W1++W2.take i).map Wr.D)))]) 0 (Nat.zero_le _) (fun i hi=>?_)
 refine kgo ?_
 refine aO (fun h=>?_) (fun h=>?_)
 ·have hlt:i<nm.length:=by omega
  have hltL:i<L.length:=by omega
  have hx:=hps _ (List.getElem_mem hltL)
  have f7:=hlk L[i] ⟨hx.1,by omega⟩
  have hs:(W1++W2.take (i+1)).map Wr.D=(W1++W2.take i).map Wr.D++[Wr.D ⟨nm[i],iW r a m.nodes L[i]⟩]:=by rw [hs2 i hlt hltL,← List.append_assoc,List.map_append];rfl
  have hq:(W1++W2.take i).length≤1000:=by rw [List.length_append,List.length_take];omega
  refine kgo ?_
  exact af (i+1) hlt (by omega)
 rw [show W2.take i=W2 from List.take_of_length_le (by omega)]
 refine bE (ax (ax (bF (aM ?_))))
 refine mi 10019 1 ?_
 refine mi 10019 2 ?_
 refine e9 (dD ?_)
 refine b6 ?_
 refine aU ?_
 refine aW ?_
 refine dP (aM ?_)
 refine mi 10019 5 ?_
 refine kgo ?_
  --STOP
 exact g6 (hp:=.cons (.d rfl) (.cons (.k rfl rfl) (.cons (.k rfl rfl) (.cons (.d rfl) (.cons (.k rfl rfl) (.cons (.k rfl rfl) (.cons (.d rfl) .nil)))))))
end Go.Proofs.YtclpbhoekmecjaaGreatDoor
namespace Go.Proofs.YtclpbhoekmecjaaGreatDoor
open Go.RowKit
set_option linter.unusedVariables false
set_option linter.unusedSimpArgs false
set_option maxRecDepth 100000
set_option maxHeartbeats 4000000
section
variable {P:Program} {ops:Array Oper} {W0:b7} {N:Nat} {Fin:Us→Env→Prop} {os:List Oper} {us:Us} {pk fk:List Nat} {σ:Env} {g:Option (Nat × Bool)} {gk:List Nat} {d ty ty' f:Nat} {pos:String} {after:Array Edge} {at':Array TypeId} {xs:List Operand} {ds:List D}
theorem FA {sh:List Nat} {ps:List Pt} (h:Der P ops W0 N Fin os (us++[((d :: (gk++(((List.range ps.length).map fun k=>30000+1000 * k+d)++kxs xs)))++pk,(d :: (nS d 0 ps).map Prod.fst)++fk)]) [] [] ((d,.sy (FH (Di sh (Ct d 0 ps)))) :: (nS d 0 ps++σ))) (hx:F1 σ xs=some ds:=by rfl) (hf:FnO P f ds sh ps:=by assumption) (hi:((List.range ps.length).all fun k=>(ai σ (30000+1000 * k+d)).isNone)=true:=by rfl) (hg:gst ops σ g=some (true,gk):=by rfl) (hN:Nat.blt d N=true:=by rfl) (hs:aG (nS d 0 ps++σ) d=true:=by rfl) (hu:(nS d 0 ps).all (fun p=>!(Nat.beq p.1 d))=true:=by rfl):Der P ops W0 N Fin (⟨some d,.call { callee:=.value (.func f),args:=xs.toArray,argTypes:=at' },ty,pos,after,g⟩ :: os) us pk fk σ:=
 kc (FH (Di sh (Ct d 0 ps))) (((List.range ps.length).map fun k=>30000+1000 * k+d)++kxs xs) (nS d 0 ps) (fun σ' c a w hk hc=>by
  unfold Oper.wp
  rw [bP hf.enter rfl]
  refine (hf.calls c.F w _ (rj hc xs ds hx (fun κ hκ=>hk κ (by simp [hκ]))) hc.lt).mono ?_
  rintro e' w' ⟨vs,T,rfl,hX,hl,hT,hdis,hel⟩
  have hc1:=hc.grow hX (fun b=>fresh w w' c.F b∧∀j,¬T j b) (fun b hb=>⟨.inl hb,fun j e=>by have:=hc.lt b hb;have e2:w.heap.size≤b:=(hT j b e).1;omega⟩) (fun _ h=>h.1.imp id (fun h=>h.1)) (fun b hb=>hb.1.elim (fun h'=>Nat.lt_of_lt_of_le (hc.lt b h') (Below.size hX)) (fun h=>h.2))
  obtain ⟨c',h1,h2,h3,h4,h5⟩:=pc hc1 d w.heap.size T hc.ext.size (fun j u hj b hb=>((hc.tok j u hj).2.2 b hb).2.1) (fun i b hb=>⟨fun hF=>hF.2 i hb,hT i b hb⟩) hdis ps 0 vs (fun k=>by
   rcases Nat.lt_or_ge k ps.length with hk'|hk'
   ·left
    rw [Nat.zero_add,hk _ (List.mem_append_left _ (List.mem_map.2 ⟨k,List.mem_range.2 hk',rfl⟩))]
    have:=List.all_eq_true.1 hi k (List.mem_range.2 hk')
    simpa using this
   ·exact .inr hk') hl (fun k p hp=>by rw [Nat.zero_add];exact hel k p hp)
  exact ⟨_,c',rfl,h1,uU _ _ (Br sh _ _ h5)⟩) h hg hN hs hu
end
theorem FnO.arg {P:Program} {f:Nat} {ds ds':List D} {sh:List Nat} {ps:List Pt} (h:FnO P f ds sh ps) (hd:∀w F vs,DVs w F ds' vs→DVs w F ds vs):FnO P f ds' sh ps:=⟨h.enter,fun F w vs hv hF=>h.calls F w vs (hd _ _ _ hv) hF⟩
attribute [local irreducible] aq Der At
theorem oO (r a:Big) (m:Mat) (p:Int):FnD Tryz.prog 168 [.i p,.p (DI (bC a m.nodes)),.p r.D,.p m.D] (.d (.i (tt r a m.nodes p))):=by
 have f1:=iM (bC a m.nodes) p
 have f2:=iM m.nodes p
 have f3:=iM r.sites (pH (fun x=>x == p) m.nodes)
 have h1:=gX (fun x=>x == p) (bC a m.nodes)
 have h2:=gX (fun x=>x == pH (fun x=>x == p) m.nodes) r.sites
 have hE:tt r a m.nodes p=if 0≤pH (fun x=>x == p) (bC a m.nodes) then pH (fun x=>x == p) (bC a m.nodes) else -1 - pH (fun x=>x == pH (fun x=>x == p) m.nodes) r.sites:=rfl
 refine ah Tryz.func168 (fun hw W0=>?_)
 have hsl:=(wfM hw.2.2.1.2.2.1).1
 unfold maxLen at hsl
 refine kgo ?_
 refine aO (fun h=>?_) (fun h=>?_)
 ·rw [if_pos h] at hE
  rw [hE]
  refine kgo ?_
  exact ar
 ·rw [if_neg h] at hE
  rw [hE]
  refine kgo ?_
  exact ar
theorem oQ (L:List Int) (nm:List ByteArray) (l:Int) (j:Nat) (hj:pH (fun x=>x == l) L=j) (hl:j<nm.length):FnD Tryz.prog 169 [.i l,.p (DS nm),.p (DI L)] (.d (.s nm[j])):=by
 have f1:=iM L l
 rw [hj] at f1
 refine ah Tryz.func169 (fun hw W0=>?_)
 refine kgo ?_
 exact ar
def mT (sig:List Ctl) (r a:Big) (m:Mat):Bool:=(dX r a m.nodes).2.2 && aF sig (gm r a m)
theorem tX {sig:List Ctl} {r a:Big} (m:Mat) (hbr:aF sig r=true) (hs:bN r=true) (hba:aF sig a=true) (hm:eh r a m=true):FnO Tryz.prog 115 [.l 3 (sig.map Ctl.D),r.D,a.D,m.D] [6,0] (BP (y7 (mT sig r a m) (gm r a m))++[.d (.b (mT sig r a m))]):=by
 have him:=iR (cP hm).1
 have oa:=dh hba
 have orr:=dh hbr
 have hpe:dX r a m.nodes=if decide (16<((ak a m.nodes).length:Int)+r.outer.length) then ([],[],false) else (ak a m.nodes,bJ r.outer (ak a m.nodes).length,true):=by unfold dX;rw [Az hba]
 have f1:=mx m hbr hs hba him
 have f3:=my m hba
 by_cases hp:((ak a m.nodes).length:Int)+r.outer.length≤16
 case neg=>
  rw [if_pos (by simp;omega)] at hpe
  rw [decide_eq_false hp] at f1
  rw [show mT sig r a m=false from by unfold mT;rw [hpe];rfl]
  refine dH Tryz.func115 (fun hw W0=>?_)
  refine kgo ?_
  exact g6 (hp:=.cons (.d rfl) (.cons .m (.cons .n (.cons (.d rfl) (.cons .n (.cons .n (.cons (.d rfl) .nil)))))))
 rw [if_neg (by simp;omega)] at hpe
 rw [decide_eq_true hp] at f1
 have hnl:(bJ r.outer (ak a m.nodes).length).length=(ak a m.nodes).length:=mR (by omega)
 have hX:gm r a m=Gn r a m (ak a m.nodes) (bJ r.outer (ak a m.nodes).length):=by
  unfold gm
  rw [hpe]
  exact (FE hbr hba hm _ (qm _ _) hnl).symm
 rw [show mT sig r a m=aF sig (gm r a m) from by unfold mT;rw [hpe];rfl,hX]
 have hpar:∀k∈bC a m.nodes,∃q:Nat,k=q∧q<a.nodes.length∧nr a m.nodes q=true:=fun k hk=>iv hk
 have hparl:(bC a m.nodes).length≤a.nodes.length:=dS _ _
 have hinc:(ak a m.nodes).Pairwise (· < ·):=ir _ _
 have f4:=(DU a (bC a m.nodes) [] (bJ r.outer (ak a m.nodes).length) 168 169 [.p (DI (bC a m.nodes)),.p r.D,.p m.D] [.p (DS (bJ r.outer (ak a m.nodes).length)),.p (DI (ak a m.nodes))] (tt r a m.nodes) (vN (ak a m.nodes) (bJ r.outer (ak a m.nodes).length)) rfl rfl (by have:=oa.nodes;omega) (by simp) (by omega) (fun k hk=>by obtain ⟨q,e,hq,_⟩:=hpar k hk;exact ⟨q,e,hq⟩) (fun n hn=>by
  obtain ⟨i,hi,rfl⟩:=List.mem_iff_getElem.1 hn
  exact (bB hba).7 i hi) (fun k _=>oO r a m _) (fun k hk l hl _=>by
  obtain ⟨q,rfl,hq,hf⟩:=hpar k hk
  rw [av a q hq] at hl
  obtain ⟨l,rfl,hll⟩:=gR ((eS hba q hq).2.2.2.2 _ hl)
  have hpl:(l:Int)∈ak a m.nodes:=bz.2 ⟨l,hll,List.any_eq_true.2 ⟨q,bz.2 ⟨q,hq,hf,rfl⟩,by rw [av a q hq];exact cT.2 hl⟩,rfl⟩
  obtain ⟨e,he,e1⟩:=List.mem_iff_getElem.1 hpl
  have hie:=ux hinc e he
  rw [e1] at hie
  have hf2:=oQ (ak a m.nodes) (bJ r.outer (ak a m.nodes).length) l e hie (by omega)
  unfold vN
  rw [hie,Int.toNat_natCast,List.getD_eq_getElem?_getD,List.getElem?_eq_getElem (by omega)]
  exact hf2)).arg (ds':=[a.D,DI (bC a m.nodes),.n 1,DS (bJ r.outer (ak a m.nodes).length),.f 168 [.p (DI (bC a m.nodes)),.p r.D,.p m.D],.f 169 [.p (DS (bJ r.outer (ak a m.nodes).length)),.p (DI (ak a m.nodes))]]) (fun w F vs h=>by
  obtain ⟨v1,t1,rfl,h1,v2,t2,rfl,h2,v3,t3,rfl,h3,h4⟩:=h
  exact ⟨_,_,rfl,h1,_,_,rfl,h2,_,_,rfl,AL h3,h4⟩)
 have f6:=oW sig (Gn r a m (ak a m.nodes) (bJ r.outer (ak a m.nodes).length)) (Nat.zero_le _)
 have hP:Gn r a m (ak a m.nodes) (bJ r.outer (ak a m.nodes).length)=⟨r.sites.length,(pS a (bC a m.nodes) [] (bJ r.outer (ak a m.nodes).length) (tt r a m.nodes) (vN (ak a m.nodes) (bJ r.outer (ak a m.nodes).length))).nodes,[],0,cR (bJ r.outer (ak a m.nodes).length),[]⟩:=rfl
 rw [hP] at f6 ⊢
 clear hP hX hpe
 generalize hpn:(pS a (bC a m.nodes) [] (bJ r.outer (ak a m.nodes).length) (tt r a m.nodes) (vN (ak a m.nodes) (bJ r.outer (ak a m.nodes).length))).nodes=pn at *
 generalize bJ r.outer (ak a m.nodes).length=nm at *
 generalize ak a m.nodes=L at *
 refine dH Tryz.func115 (fun hw W0=>?_)
 refine kgo ?_
 refine sf 13 (DI (bC a m.nodes)) ?_
 refine sf 5 r.D ?_
 refine sf 7 m.D ?_
 refine kgo ?_
 refine sf 11 (DS nm) ?_
 refine sf 10 (DI L) ?_
 refine kgo ?_
 refine FA (hf:=f4) ?_
 refine aV ?_
 refine az ?_
 refine dP (aM ?_)
 refine mi 10014 1 ?_
 refine kgo ?_
 exact g6 (hp:=.cons (.d rfl) (.cons (.k rfl rfl) (.cons (.k rfl rfl) (.cons (.d rfl) (.cons (.k rfl rfl) (.cons (.k rfl rfl) (.cons (.d rfl) .nil)))))))
end Go.Proofs.YtclpbhoekmecjaaGreatDoor
namespace Go.Proofs.YtclpbhoekmecjaaGreatDoor
open Go.RowKit
set_option linter.unusedVariables false
set_option linter.unusedSimpArgs false
set_option maxRecDepth 100000
set_option maxHeartbeats 4000000
attribute [local irreducible] aq Der At
def mpL (f:Nat→Bool) (root v0 base:Int):Nat→List (Int × Int)
 | 0=>[(root,v0)]
 | k+1=>if f k then mpL f root v0 base k++[((k:Int),base+(idxOf f k).length)] else mpL f root v0 base k
theorem Al (f:Nat→Bool) (root v0 base:Int) (hr:root<0):∀(k:Nat) (x:Int),nV (mpL f root v0 base k) x=if x<0 then (if x=root then some v0 else none) else if x<k && f x.toNat then some (base+(idxOf f x.toNat).length) else none:=by
 intro k
 induction k with
 | zero=>
  intro x
  unfold mpL nV nV
  by_cases hx:x<0
  ·rw [if_pos hx]
  ·rw [if_neg hx,if_neg (by omega),if_neg (by simp;omega)]
 | succ k ih=>
  intro x
  unfold mpL
  by_cases hf:f k=true
  ·rw [if_pos hf,CE,ih]
   by_cases hx:x<0
   ·rw [if_pos hx,if_pos hx,if_neg (show ¬x=(k:Int) by omega)]
    by_cases h:x=root
    ·rw [if_pos h];rfl
    ·rw [if_neg h];rfl
   ·rw [if_neg hx,if_neg hx]
    by_cases hk:x=(k:Int)
    ·subst hk
     rw [if_pos rfl,if_neg (by simp),if_pos (by simp [hf];omega)];rfl
    ·rw [if_neg hk]
     by_cases hl:x<k
     ·rw [decide_eq_true hl,decide_eq_true (show x<((k+1:Nat):Int) by omega)]
      cases f x.toNat <;> rfl
     ·rw [decide_eq_false hl,decide_eq_false (show ¬x<((k+1:Nat):Int) by omega)];rfl
  ·rw [if_neg hf,ih]
   by_cases hx:x<0
   ·rw [if_pos hx,if_pos hx]
   ·rw [if_neg hx,if_neg hx]
    by_cases hk:x=(k:Int)
    ·subst hk
     rw [if_neg (by simp),if_neg (by simp [hf])]
    ·by_cases hl:x<k
     ·rw [decide_eq_true hl,decide_eq_true (show x<((k+1:Nat):Int) by omega)]
     ·rw [decide_eq_false hl,decide_eq_false (show ¬x<((k+1:Nat):Int) by omega)]
theorem tA {sig:List Ctl} (r:Rul) {p:Big} (hp:aF sig p=true) (hc:r.copies.length≤100) (hc0:∀c∈r.copies,0≤c∧c≤1000):FnD Tryz.prog 117 [r.D,p.D] (.d (mo r.copies p).D):=by
 have hd:=aL hp
 have hdm:=bB hp
 have f1:=nY p.outer (by omega)
 refine ah Tryz.func117 (fun hw W0=>?_)
 refine kgo ?_
 refine lx 10005 1 20001 131 ?_
 refine aj [3,4,5,21,22,10018] (fun i:Nat=>i≤r.copies.length) (fun i=>r.copies.length - i) (fun i=>[(23,.sy (.d (.i i))),(10005,.tk (.bx [.d (.i r.copies.length),.k 20001,.d (.n 1),.d (.i 0),.k 10018,.d (.n 2)])),(20001,.tk (.row 3 131 ((dM p r.copies i).map Nd.D)))]) 0 (Nat.zero_le _) (fun i hi=>?_)
 refine kgo ?_
 refine aO (fun h=>?_) (fun h=>?_)
 ·have hlt:i<r.copies.length:=by omega
  have hci:=hc0 _ (List.getElem_mem hlt)
  have hil:=sm p r.copies i
  have hb1:i * p.nodes.length≤100 * 8:=Nat.mul_le_mul (by omega) hd.2.1
  have hil2:(dM p r.copies i).length≤800:=by omega
  have hnext:dM p r.copies (i+1)=dM p r.copies i++(pJ p (-1 - r.copies[i])).map (ef p (pJ p (-1 - r.copies[i])) i (dM p r.copies i).length):=by rw [← b8 r.copies i hlt];rfl
  refine kgo ?_
  refine EN ?_
  refine kgo ?_
  refine E5 ?_ rfl
  have hul:(pJ p (-1 - r.copies[i])).length≤p.nodes.length:=d9 _ _
  have hix:∀q:Nat,q<p.nodes.length→i7 p (-1 - r.copies[i]) q=true→dv (pJ p (-1 - r.copies[i])) (q:Int)=((idxOf (i7 p (-1 - r.copies[i])) q).length:Int):=fun q hq hf=>by
   have:=gu (f:=i7 p (-1 - r.copies[i])) (n:=p.nodes.length) q hq
   rw [if_pos hf] at this
   exact this
  have hall:idxOf (i7 p (-1 - r.copies[i])) p.nodes.length=pJ p (-1 - r.copies[i]):=rfl
  obtain ⟨root,hroot⟩:∃root,root = -1 - r.copies[i]:=⟨_,rfl⟩
  rw [← hroot] at hnext hul hix hall ⊢
  generalize hba:(dM p r.copies i).length=base at *
  generalize pJ p root=lst at *
  refine kgo ?_
  refine FU 20001 (t':=.row 3 131 ((dM p r.copies i++(idxOf (i7 p root) 0).map (ef p lst i base)).map Nd.D)) (by rw [show idxOf (i7 p root) 0 = [] from rfl,List.map_nil,List.append_nil]) ?_
  refine aj [3,4,5,8,21,22,23,35,36,20001,10018] (fun k:Nat=>k≤p.nodes.length) (fun k=>p.nodes.length - k) (fun k=>[(37,.sy (.d (.i k))),(10005,.tk (.bx [.d (.i r.copies.length),.k 20001,.d (.n 1),.d (.i 0),.k 10018,.d (.n 2)])),(20001,.tk (.row 3 131 ((dM p r.copies i++(idxOf (i7 p root) k).map (ef p lst i base)).map Nd.D))),(10028,.tk (.mp (mpL (i7 p root) root (-1 - (i:Int)) base k)))]) 0 (Nat.zero_le _) (fun k hk=>?_)
  refine kgo ?_
  refine aO (fun h2=>?_) (fun h2=>?_)
  ·have hkl:k<p.nodes.length:=by omega
   have hup:=iG hp k hkl
   have hund:=pB p root k hkl
   have hnd:ew p k=p.nodes[k]:=av p k hkl
   have hg:=Al (i7 p root) root (-1 - (i:Int)) base (by omega) k (p.nodes[k]).parent
   have hgk:=Al (i7 p root) root (-1 - (i:Int)) base (by omega) k k
   rw [if_neg (by omega),if_neg (by simp)] at hgk
   have hlk:=dS (i7 p root) k
   have hq:∀q:Nat,(p.nodes[k]).parent=(q:Int)→i7 p root q=i7 p root k:=fun q e=>by
    rw [hund,e,pr hp q (by omega),pB p root q (by omega)]
   cases hf:i7 p root k
   ·have ho:nV (mpL (i7 p root) root (-1 - (i:Int)) base k) (p.nodes[k]).parent=none:=by
     rw [hg]
     by_cases h0:(p.nodes[k]).parent<0
     ·rw [if_pos h0]
      rw [hf,nU p h0] at hund
      exact if_neg (of_decide_eq_false hund.symm)
     ·rw [if_neg h0]
      obtain ⟨q,e⟩:=Int.eq_ofNat_of_zero_le (show 0≤(p.nodes[k]).parent by omega)
      rw [e,Int.toNat_natCast,hq q e,hf,Bool.and_false];rfl
    have hm2:mpL (i7 p root) root (-1 - (i:Int)) base (k+1)=mpL (i7 p root) root (-1 - (i:Int)) base k:=if_neg (by rw [hf];exact Bool.false_ne_true)
    have hs:(dM p r.copies i++(idxOf (i7 p root) (k+1)).map (ef p lst i base)).map Nd.D=(dM p r.copies i++(idxOf (i7 p root) k).map (ef p lst i base)).map Nd.D:=by rw [d7 hf]
    refine kgo ?_
    refine Bl none ho ?_ (fun v h=>by cases h)
    refine kgo ?_
    rw [← hm2]
    exact af (k+1) hkl (by omega)
   ·have ho:nV (mpL (i7 p root) root (-1 - (i:Int)) base k) (p.nodes[k]).parent=some (ef p lst i base k).parent:=by
     rw [hg]
     show _=some (if (ew p k).parent<0 then -1 - (i:Int) else (base:Int)+dv lst (ew p k).parent)
     rw [hnd]
     by_cases h0:(p.nodes[k]).parent<0
     ·rw [if_pos h0,if_pos h0]
      rw [hf,nU p h0] at hund
      exact if_pos (of_decide_eq_true hund.symm)
     ·rw [if_neg h0,if_neg h0]
      obtain ⟨q,e⟩:=Int.eq_ofNat_of_zero_le (show 0≤(p.nodes[k]).parent by omega)
      rw [e,Int.toNat_natCast,hq q e,hf,Bool.and_true,if_pos (by simp;omega),hix q (by omega) ((hq q e).trans hf)]
    have hvb:I64 (ef p lst i base k).parent:=by
     show I64 (if (ew p k).parent<0 then -1 - (i:Int) else (base:Int)+dv lst (ew p k).parent)
     rw [hnd]
     by_cases h0:(p.nodes[k]).parent<0
     ·rw [if_pos h0];unfold I64;omega
     ·rw [if_neg h0]
      obtain ⟨q,e⟩:=Int.eq_ofNat_of_zero_le (show 0≤(p.nodes[k]).parent by omega)
      have:=dS (i7 p root) q
      rw [e,hix q (by omega) ((hq q e).trans hf)];unfold I64;omega
    have hm2:mpL (i7 p root) root (-1 - (i:Int)) base (k+1)=mpL (i7 p root) root (-1 - (i:Int)) base k++[((k:Int),(base:Int)+(idxOf (i7 p root) k).length)]:=if_pos hf
    have hlen:((((dM p r.copies i++(idxOf (i7 p root) k).map (ef p lst i base)).map Nd.D).length:Nat):Int)=(base:Int)+(idxOf (i7 p root) k).length:=by rw [List.length_map,List.length_append,List.length_map,hba];omega
    have hlen2:(dM p r.copies i++(idxOf (i7 p root) k).map (ef p lst i base)).length≤1000:=by rw [List.length_append,List.length_map,hba];omega
    have hs:(dM p r.copies i++(idxOf (i7 p root) (k+1)).map (ef p lst i base)).map Nd.D=(dM p r.copies i++(idxOf (i7 p root) k).map (ef p lst i base)).map Nd.D++[Nd.D ⟨(p.nodes[k]).control,(ef p lst i base k).parent,(p.nodes[k]).links⟩]:=by
     rw [df hf]
     simp only [List.map_append,List.append_assoc,List.map_cons,List.map_nil]
     rw [← hnd];rfl
    have f2:=kU (p.nodes[k]).links (hdm.7 k hkl)
    refine kgo ?_
    refine Bl (some (ef p lst i base k).parent) ho ?_ (fun v h=>by cases h;exact hvb)
    refine kgo ?_
    refine Es ?_ hgk
    rw [hlen,← hm2]
    repeat (first|(refine cI ?_;first|refine aU ?_|refine cb ?_|refine bp ?_|refine bk ?_|refine aS ?_|refine be ?_|refine bc ?_|refine aB ?_|refine bm ?_|refine bo ?_)|(refine fQ ?_;first|refine b6 ?_|refine fH ?_|refine cm ?_|refine cE ?_)|(refine fB ?_;first|refine ex (fun _=>?_)|refine cr ?_|refine ci ?_|refine bL ?_|refine ch ?_|refine cd ?_|refine ca ?_)|(refine fJ ?_;first|refine cF ?_|refine fb ?_|refine cu ?_|refine bS ?_|refine ck ?_|refine cz ?_|refine ct ?_)|(refine fE ?_;first|refine fM ?_|refine fq ?_|refine cj ?_|refine bY ?_|refine fF ?_|refine bg ?_|refine bf ?_)|(refine co ?_;first|refine br ?_|refine cH ?_)|(refine fK ?_;first|refine cB ?_|refine cy ?_|refine fL ?_)|(refine b9 ?_;first|refine cG ?_|refine aY ?_|refine aR ?_|refine aZ ?_|refine aW ?_|refine bj ?_)|(refine fC ?_;first|refine cf ?_|refine fA ?_|refine bh ?_|refine aT ?_|refine bq ?_)|(refine aN ?_;first|refine aw _ ?_|refine ba ?_|refine aC ?_|refine az ?_|refine aD ?_)|(refine fG ?_;first|refine cC ?_|refine bR ?_|refine cA ?_)|(refine gOp ?_;first|refine fI ?_|refine fP ?_|refine bl ?_|refine fO ?_|refine fN ?_|refine cD ?_|refine aV ?_|refine cw ?_|refine fR ?_|refine bV ?_|refine cq ?_|refine aX ?_|refine sFz 63 ?_|refine aA ?_|refine cg ?_|refine sNo ?_|refine fa ?_|refine ay ?_)|refine e9 ?_|refine dD ?_|refine fU ?_|refine bu ?_|refine bU ?_|refine bE ?_|refine fX ?_|refine fy ?_|refine fp ?_|refine dP ?_|refine cL ?_|refine aM ?_|refine ax ?_|refine bt ?_|refine cK ?_|refine bF ?_|refine cM ?_|refine cN ?_|refine sFz 63 ?_)
    exact af (k+1) hkl (by omega)
  have hs4:(dM p r.copies i++(idxOf (i7 p root) k).map (ef p lst i base)).map Nd.D=(dM p r.copies (i+1)).map Nd.D:=by rw [hnext,show k=p.nodes.length by omega,hall]
  refine kgo ?_
  exact af (i+1) hlt (by omega)
 rw [show i=r.copies.length by omega]
 refine bE (ax (ax (bF (aM ?_))))
 refine mi 10005 1 ?_
 refine mi 10005 4 ?_
 refine kgo ?_
 exact ar
end Go.Proofs.YtclpbhoekmecjaaGreatDoor
namespace Go.Proofs.YtclpbhoekmecjaaGreatDoor
open Go.RowKit
set_option linter.unusedVariables false
set_option linter.unusedSimpArgs false
set_option maxRecDepth 100000
set_option maxHeartbeats 4000000
theorem Gz:Lik uo Rul.D:=⟨fun w S x cs h=>by
 obtain ⟨c1,e1,rfl,h1,c2,e2,rfl,h2,c3,e3,rfl,h3,h4⟩:=h
 cases (show e3 = [] from h4)
 obtain ⟨v,rfl,h3⟩:=oe h3
 exact ⟨c1,c2,v,by simp,qo.to w S _ _ h1,qo.to w S _ _ h2,Co.toV (by decide) h3⟩,fun w lo hi x cs h=>by
 obtain ⟨c1,c2,v,rfl,h1,h2,h3⟩:=h
 exact ⟨c1,_,rfl,qo.of w lo hi _ _ h1,c2,_,rfl,qo.of w lo hi _ _ h2,[v],[],by simp,Co.ofV h3,rfl⟩⟩
attribute [local irreducible] aq Der At
theorem pY (sig:List Ctl) (rs:List Rul) (hl:∀r∈rs,r.redex.inner.length≤1048576∧r.reactum.inner.length≤1048576):FnD Tryz.prog 55 [.l 3 (sig.map Ctl.D),.l 13 (rs.map Rul.D)] (.d (.b (fo sig rs))):=⟨cO Tryz.func55,fun F w vs hv hF=>by
 obtain ⟨v1,t,rfl,h1,v2,t2,rfl,h2,h3⟩:=hv
 cases (show t2 = [] from h3)
 refine (oH _ _ _ _ _ _ _ _ _ (wt.toV (by decide) h1) (Gz.toV (by decide) h2) (fun i hi=>?_)).mono ?_
 ·have:=hl _ (List.getElem_mem hi)
  exact ⟨by omega,by omega⟩
 ·rintro e w' ⟨rfl,hX⟩
  exact ⟨_,rfl,hX,rfl⟩⟩
theorem Db {sig:List Ctl} {mid ctx par:Big} (h:aF sig par=false):nt sig mid ctx par=(dx,false):=by
 have hc:∀a,fc sig a par=(dx,false):=fun a=>by unfold fc;rw [h];cases aF sig a <;> rfl
 unfold nt
 rw [hc]
 split
 ·split <;> rfl
 ·rfl
theorem zL {sig:List Ctl} {r:Rul} {a:Big} (m:Mat) (hr:gV sig r=true) (ha:aF sig a=true) (hm:eh r.redex a m=true):FnO Tryz.prog 61 [.l 3 (sig.map Ctl.D),r.D,a.D,m.D] [6,0] (BP (fw sig r a m).1++[.d (.b (fw sig r a m).2)]):=by
 obtain ⟨r1,r2,r3,r4,r5,r6,r7,r8⟩:=gd hr
 have orr:=dh r1
 have or2:=dh r2
 have hcl:r.copies.length≤100:=by have:=or2.sitesN;omega
 have hc0:∀c∈r.copies,0≤c∧c≤1000:=fun c hc=>by
  have:=bO (List.all_eq_true.1 r8 c hc)
  have:=orr.sitesN
  omega
 have f1:FnD Tryz.prog 114 [.l 3 (sig.map Ctl.D),r.redex.D,a.D,m.D] (.tp [(y7 (mQ sig r.redex a m) (gU r.redex a m)).D,.b (mQ sig r.redex a m)]):=(yc m r1 r3 ha hm).toT
 have f2:FnD Tryz.prog 115 [.l 3 (sig.map Ctl.D),r.redex.D,a.D,m.D] (.tp [(y7 (mT sig r.redex a m) (gm r.redex a m)).D,.b (mT sig r.redex a m)]):=(tX m r1 r3 ha hm).toT
 have hno1:mQ sig r.redex a m=false→fw sig r a m=(dx,false):=fun h=>lR (by
  unfold mQ at h
  cases h1:(dX r.redex a m.nodes).2.2
  ·rfl
  ·rw [h1,Bool.true_and] at h;rw [h];rfl)
 have hno2:mT sig r.redex a m=false→fw sig r a m=(dx,false):=fun h=>lR (by
  unfold mT at h
  cases h1:(dX r.redex a m.nodes).2.2
  ·rfl
  ·rw [h1,Bool.true_and] at h;rw [h];simp)
 have hyes:mQ sig r.redex a m=true→mT sig r.redex a m=true→aF sig (gm r.redex a m)=true∧(gU r.redex a m).inner.length≤16∧fw sig r a m=nt sig r.reactum (gU r.redex a m) (mo r.copies (gm r.redex a m)):=fun h1 h2=>by
  unfold mQ at h1
  unfold mT at h2
  rw [Bool.and_eq_true] at h1 h2
  exact ⟨h2.2,(dh h1.2).inner,ox (by rw [h1.1,h1.2,h2.2];rfl)⟩
 have hor:∀b:Big,y7 true b=b:=fun _=>rfl
 refine dH Tryz.func61 (fun hw W0=>?_)
 refine kgo ?_
 cases h1:mQ sig r.redex a m
 ·rw [hno1 h1]
  refine kgo ?_
  exact g6 (hp:=.cons (.d rfl) (.cons .m (.cons .n (.cons (.d rfl) (.cons .n (.cons .n (.cons (.d rfl) .nil)))))))
 refine kgo ?_
 cases h2:mT sig r.redex a m
 ·rw [hno2 h2]
  refine kgo ?_
  exact g6 (hp:=.cons (.d rfl) (.cons .m (.cons .n (.cons (.d rfl) (.cons .n (.cons .n (.cons (.d rfl) .nil)))))))
 obtain ⟨h3,h4,h5⟩:=hyes h1 h2
 rw [h5]
 have f3:=tA r h3 hcl hc0
 have f4:FnD Tryz.prog 116 [.l 3 (sig.map Ctl.D),(mo r.copies (gm r.redex a m)).D] (.tp [(y7 (aF sig (mo r.copies (gm r.redex a m))) (mo r.copies (gm r.redex a m))).D,.b (aF sig (mo r.copies (gm r.redex a m)))]):=(oW sig _ (Nat.zero_le _)).toT
 have f5:=sQ sig (gU r.redex a m) r.redex r.reactum (mo r.copies (gm r.redex a m)) (D4 r6) (by have:=or2.inner;omega) (Nat.zero_le _)
 have hno:=Db (sig:=sig) (mid:=r.reactum) (ctx:=gU r.redex a m) (par:=mo r.copies (gm r.redex a m))
 clear f1 f2 hno1 hno2 hyes h1 h2 h5
 generalize gU r.redex a m=C at *
 generalize gm r.redex a m=Q at *
 generalize mo r.copies Q=Z at *
 refine kgo ?_
 cases h6:aF sig Z
 ·rw [hno h6]
  refine kgo ?_
  exact g6 (hp:=.cons (.d rfl) (.cons .m (.cons .n (.cons (.d rfl) (.cons .n (.cons .n (.cons (.d rfl) .nil)))))))
 refine kgo ?_
 exact g6 (hp:=.cons (.d rfl) (.cons (.k rfl rfl) (.cons (.k rfl rfl) (.cons (.d rfl) (.cons (.k rfl rfl) (.cons (.k rfl rfl) (.cons (.d rfl) .nil)))))))
end Go.Proofs.YtclpbhoekmecjaaGreatDoor
namespace Go.Proofs.YtclpbhoekmecjaaGreatDoor
open Go.RowKit
set_option linter.unusedVariables false
set_option linter.unusedSimpArgs false
set_option maxRecDepth 100000
set_option maxHeartbeats 4000000
attribute [local irreducible] aq Der At
theorem Ga:ID Tryz.prog 229:=⟨cO Tryz.func229,fun a n k w hn hk=>by
 unfold maxLen at hk
 go_enter Tryz.func229,Tryz.ntmps229
 go_wp2
 go_ret
 exact ⟨rfl,rfl⟩⟩
theorem qe (m:Mat) (h1:m.nodes.length≤1000) (h2:m.roots.length≤1000):FnO Tryz.prog 126 [m.D] [2] [.tk (.row 1 3 (m.nodes.map .i)),.tk (.row 1 3 (m.roots.map .i))]:=by
 have f1:=kU m.nodes h1
 have f2:=kU m.roots h2
 refine dH Tryz.func126 (fun hw W0=>?_)
 refine kgo ?_
 exact g6 (hp:=.cons (.k rfl rfl) (.cons (.k rfl rfl) .nil))
def lc (G:List Mat→Bool):List Mat→List Mat→List Mat × Bool
 | xs,[]=>(xs,true)
 | xs,m :: ms=>if G (xs++[m]) then lc G (xs++[m]) ms else (xs++[m],false)
theorem xq {G:List Mat→Bool}:∀(l t xs:List Mat),lc G xs (l++t)=if (lc G xs l).2 then lc G (lc G xs l).1 t else lc G xs l:=by
 intro l
 induction l with
 | nil=>intro t xs;rfl
 | cons m l ih=>
  intro t xs
  rw [List.cons_append]
  show (if G (xs++[m]) then lc G (xs++[m]) (l++t) else (xs++[m],false))=_
  by_cases hg:G (xs++[m])=true
  ·have e:lc G xs (m :: l)=lc G (xs++[m]) l:=if_pos hg
   rw [e,if_pos hg];exact ih t _
  ·have e:lc G xs (m :: l)=(xs++[m],false):=if_neg hg
   rw [e,if_neg hg];rfl
theorem GM {G:List Mat→Bool} {K:List Mat→Prop} (hK:∀xs m,G (xs++[m])=true→K (xs++[m])):∀(l xs:List Mat),K xs→(lc G xs l).2=true→K (lc G xs l).1:=by
 intro l
 induction l with
 | nil=>intro xs h _;exact h
 | cons m l ih=>
  intro xs h h2
  unfold lc at h2 ⊢
  split
  ·rename_i hg
   rw [if_pos hg] at h2
   exact ih _ (hK _ _ hg) h2
  ·rename_i hg
   rw [if_neg hg] at h2;cases h2
theorem AP {sig:List Ctl} {r a:Big} (hR:aF sig r=true) (hA:aF sig a=true) (hS:bN r=true) {g0:Nat} {Q:List Mat→WP} {G:List Mat→Bool} {K:List Mat→Prop} (hY:∀xs m,K xs→FnY Tryz.prog g0 [m.D] (Q xs) (Q (xs++[m])) (G (xs++[m]))) (hK:∀xs m,G (xs++[m])=true→K (xs++[m])):∀(n:Nat) (ns:List Int) (xs:List Mat),ns.length+n=r.nodes.length→(∀x∈ns,0≤x∧x<(a.nodes.length:Int))→K xs →
 FnY Tryz.prog 186 [r.D,a.D,DI ns] (yP g0 (Q xs)) (yP g0 (Q (lc G xs (lM r a n ns)).1)) (lc G xs (lM r a n ns)).2:=by
 have hd:=bB hR
 have hda:=(bB hA).nodes
 have hrn:=hd.nodes
 have hrs:=hd.sites
 have hr0:=aL hR
 intro n
 induction n with
 | zero=>
  intro ns xs hl hx hK0
  have hnl:ns.length≤1000:=by omega
  have f1:=BE (iU r a ns) hR hA
  have f2:=FnO.toD (n:=1) (qe (iU r a ns) hnl (by show (rtL r a ns r.roots.toNat).length≤1000;unfold rtL;rw [List.length_map,List.length_range];omega))
  have hdef:lM r a 0 ns=if eh r a (iU r a ns) then [iU r a ns] else []:=rfl
  refine AV Tryz.func186 (fun hw W0 v=>?_)
  refine kgo ?_
  refine aO (fun h=>?_) (fun h=>?_)
  rotate_left
  ·omega
  refine kgo ?_
  refine lx 10010 1 20002 3 ?_
  refine aj [2,3,4,5,10,27,20000] (fun i:Nat=>i≤r.roots.toNat) (fun i=>r.roots.toNat - i) (fun i=>[(28,.sy (.d (.i i))),(10010,.tk (.bx [.d (DI ns),.k 20001])),(20001,.tk (.row 1 3 ((rtL r a ns i).map .i)))]) 0 (Nat.zero_le _) (fun i hi=>?_)
  refine kgo ?_
  refine aO (fun h=>?_) (fun h=>?_)
  ·have f3:=kp r (-1 - (i:Int)) hrn hrs
   have hk1:=qq hS (by omega) i h
   have hz:(0:Int)≤0∧(0:Int)<((dc r (-1 - (i:Int))).length:Int):=⟨Int.le_refl _,by omega⟩
   have hm1:=zy r _ _ (List.getElem_mem hk1)
   have hx1:=hx _ (oT (l:=ns) hm1.1 (by omega))
   have hql:(rtL r a ns i).length≤1000:=by unfold rtL;rw [List.length_map,List.length_range];omega
   obtain ⟨j,hj⟩:=Int.eq_ofNat_of_zero_le hx1.1
   have hjl:j<a.nodes.length:=by omega
   have hp:rtP r a ns i=(a.nodes[j]).parent:=by
    unfold rtP
    rw [show atI (dc r (-1 - (i:Int))) 0=(dc r (-1 - (i:Int)))[0] from by unfold atI;simp [List.getElem?_eq_getElem hk1],hj,av a j hjl]
   have hs:(rtL r a ns (i+1)).map D.i=(rtL r a ns i).map D.i++[.i (a.nodes[j]).parent]:=by rw [wJ,List.map_append,hp];rfl
   have hb1:0≤(dc r (-1 - (i:Int)))[0]∧(dc r (-1 - (i:Int)))[0]<(ns.length:Int):=⟨hm1.1,by omega⟩
   refine kgo ?_
   refine ex (n:=j) (fun _=>?_) rfl rfl (congrArg some hj)
   refine kgo ?_
   exact af (i+1) (by omega) (by omega)
  obtain rfl:i=r.roots.toNat:=by omega
  refine bE (ax (ax (bF (aM ?_))))
  refine mi 10010 1 ?_
  refine kgo ?_
  cases h3:eh r a (iU r a ns)
  ·rw [hdef,h3]
   refine kgo ?_
   exact FW
  ·rw [hdef,h3,if_pos rfl]
   rw [show lc G xs [iU r a ns]=(xs++[iU r a ns],G (xs++[iU r a ns])) from by
    show (if G (xs++[iU r a ns]) then (xs++[iU r a ns],true) else (xs++[iU r a ns],false))=_
    cases G (xs++[iU r a ns]) <;> rfl]
   refine kgo ?_
   refine Hf (ds:=[(iU r a ns).D]) ?_ rfl (hY xs (iU r a ns) hK0)
   refine kgo ?_
   exact FW
 | succ n ih=>
  intro ns xs hl hx hK0
  have hnl:ns.length≤1000:=by omega
  have hall:lM r a (n+1) ns=gN r a n ns a.nodes.length:=rfl
  have f0:=Ga
  have hup:=iG hR ns.length (by omega)
  refine AV Tryz.func186 (fun hw W0 v=>?_)
  refine kgo ?_
  refine aO (fun h=>?_) (fun h=>?_)
  ·omega
  have hrl:ns.length<r.nodes.length:=by omega
  refine kgo ?_
  refine aj [2,3,4,5,14,69,70] (fun x:Nat × List Mat=>x.1≤a.nodes.length∧K x.2∧lc G xs (gN r a n ns x.1)=(x.2,true)) (fun x=>a.nodes.length - x.1) (fun x=>[(71,.sy (.d (.i x.1))),(20000,.tk (.abs (yP g0 (Q x.2)) (some v)))]) (0,xs) ⟨Nat.zero_le _,hK0,rfl⟩ (fun x hx'=>?_)
  obtain ⟨i,cur⟩:=x
  obtain ⟨hi,hKc,hrun⟩:=hx'
  dsimp only at hi hKc hrun ⊢
  refine kgo ?_
  refine aO (fun h=>?_) (fun h=>?_)
  rotate_left
  ·obtain rfl:i=a.nodes.length:=by omega
   rw [hall,hrun]
   refine kgo ?_
   exact FW
  have hlt:i<a.nodes.length:=by omega
  have f1:=gg ns i
  have hcd:sV r a ns i=if (!decide ((a.nodes[i]).control=(r.nodes[ns.length]).control) || fT ns i) then false else decide ((r.nodes[ns.length]).parent<0) || decide ((a.nodes[i]).parent=atI ns (r.nodes[ns.length]).parent):=by unfold sV;rw [av a i hlt,av r ns.length hrl]
  have hsucc:=mJ r a n ns i
  refine kgo ?_
  cases hc:decide ((a.nodes[i]).control=(r.nodes[ns.length]).control)
  ·have hcan:sV r a ns i=false:=by rw [hcd,hc];rfl
   rw [hcan] at hsucc
   refine kgo ?_
   (repeat refine fa ?_)
   refine kgo ?_
   exact af (i+1,cur) ⟨hlt,hKc,by show lc G xs (gN r a n ns (i+1))=_;rw [hsucc];simpa using hrun⟩ (by show _ - (i+1)<_ - i;omega)
  refine kgo ?_
  cases h2:fT ns i
  rotate_left
  ·have hcan:sV r a ns i=false:=by rw [hcd,hc,h2];rfl
   rw [hcan] at hsucc
   refine kgo ?_
   (repeat refine fa ?_)
   refine kgo ?_
   exact af (i+1,cur) ⟨hlt,hKc,by show lc G xs (gN r a n ns (i+1))=_;rw [hsucc];simpa using hrun⟩ (by show _ - (i+1)<_ - i;omega)
  have hdi:DI (ns++[(i:Int)])=D.l 1 (ns.map D.i++[D.i i]):=congrArg (D.l 1) List.map_append
  have f3:=ih (ns++[(i:Int)]) cur (by rw [List.length_append,List.length_singleton];omega) (fun x hx'=>by
   rcases List.mem_append.1 hx' with h|h
   ·exact hx x h
   ·rw [List.mem_singleton.1 h];omega) hKc
  rw [hdi] at f3
  have hyes:sV r a ns i=true→lc G xs (gN r a n ns (i+1))=lc G cur (lM r a n (ns++[(i:Int)])):=fun hc=>by
   rw [hsucc,hc,if_pos rfl,xq,hrun,if_pos rfl]
  have hend:sV r a ns i=true→(lc G cur (lM r a n (ns++[(i:Int)]))).2=false→lc G xs (lM r a (n+1) ns)=lc G cur (lM r a n (ns++[(i:Int)])):=fun hc h2=>by
   obtain ⟨t,ht⟩:=s6 r a n ns (i+1) (a.nodes.length - (i+1))
   rw [show i+1+(a.nodes.length - (i+1))=a.nodes.length by omega] at ht
   rw [hall,ht,xq,hyes hc,h2,if_neg Bool.false_ne_true]
  have hkk:(lc G cur (lM r a n (ns++[(i:Int)]))).2=true→K (lc G cur (lM r a n (ns++[(i:Int)]))).1:=GM hK _ _ hKc
  generalize lc G cur (lM r a n (ns++[(i:Int)]))=R at *
  obtain ⟨R1,R2⟩:=R
  refine kgo ?_
  cases h4:decide (0≤(r.nodes[ns.length]).parent)
  ·have hcan:sV r a ns i=true:=by
    rw [hcd,hc,h2,decide_eq_true (show (r.nodes[ns.length]).parent<0 by have:=of_decide_eq_false h4;omega)];rfl
   refine kgo ?_
   refine Gm f0 ?_
   refine kgo ?_
   refine sFz 107 ?_
   refine DW ?_
   refine kgo ?_
   cases R2
   ·rw [hend hcan rfl]
    refine kgo ?_
    exact FW
   refine kgo ?_
   exact af (i+1,R1) ⟨hlt,hkk rfl,hyes hcan⟩ (by show _ - (i+1)<_ - i;omega)
  have hp0:0≤(r.nodes[ns.length]).parent∧(r.nodes[ns.length]).parent<(ns.length:Int):=⟨of_decide_eq_true h4,hup.2⟩
  refine kgo ?_
  cases h5:decide ((a.nodes[i]).parent=atI ns (r.nodes[ns.length]).parent)
  ·have hcan:sV r a ns i=false:=by
    rw [hcd,hc,h2,h5,decide_eq_false (show ¬(r.nodes[ns.length]).parent<0 by omega)];rfl
   rw [hcan] at hsucc
   refine kgo ?_
   exact af (i+1,cur) ⟨hlt,hKc,by show lc G xs (gN r a n ns (i+1))=_;rw [hsucc];simpa using hrun⟩ (by show _ - (i+1)<_ - i;omega)
  have hcan:sV r a ns i=true:=by
   rw [hcd,hc,h2,h5];simp
  refine kgo ?_
  refine Gm f0 ?_
  refine kgo ?_
  refine sFz 107 ?_
  refine DW ?_
  refine kgo ?_
  cases R2
  ·rw [hend hcan rfl]
   refine kgo ?_
   exact FW
  refine kgo ?_
  exact af (i+1,R1) ⟨hlt,hkk rfl,hyes hcan⟩ (by show _ - (i+1)<_ - i;omega)
theorem rc (xs:List Mat) (m:Mat) (hx:xs.length≤1000):FnY Tryz.prog 187 [m.D] (yX 2 62 (xs.map Mat.D)) (yX 2 62 ((xs++[m]).map Mat.D)) (decide (((xs++[m]).length:Int)≤400)):=by
 rw [show (xs++[m]).map Mat.D=xs.map Mat.D++[m.D] from List.map_append,show ((xs++[m]).length:Int)=((xs.map Mat.D++[m.D]).length:Int) by simp]
 refine AV Tryz.func187 (fun hw W0 v=>?_)
 refine D5 1 20000 20001 ?_
 refine kgo ?_
 refine qG ?_
 refine kgo ?_
 refine Du ?_
 refine kgo ?_
 refine qG ?_
 refine kgo ?_
 refine IZ 1 20000 10007 ?_
 exact FW
theorem Bh (M:Nat):∀(l xs:List Mat),xs.length≤M→(lc (fun ys=>decide ((ys.length:Int)≤M)) xs l).1=xs++l.take (M+1 - xs.length):=by
 intro l
 induction l with
 | nil=>intro xs _;show xs=_;simp
 | cons m l ih=>
  intro xs h
  show (if decide (((xs++[m]).length:Int)≤M) then lc _ (xs++[m]) l else (xs++[m],false)).1=_
  have hl:(xs++[m]).length=xs.length+1:=by simp
  by_cases hc:xs.length+1≤M
  ·rw [if_pos (decide_eq_true (by omega)),ih _ (by omega),hl,show M+1 - xs.length=(M+1 - (xs.length+1))+1 by omega,List.take_succ_cons,List.append_assoc];rfl
  ·rw [if_neg (by simp;omega),show M+1 - xs.length=1 by omega];simp
def B0 (r a:Big):List Mat × Bool:=if 400<(pF r a).length then ([],false) else (pF r a,true)
theorem tj {sig:List Ctl} {r a:Big} (hR:aF sig r=true) (hA:aF sig a=true) (hS:bN r=true):FnD Tryz.prog 125 [r.D,a.D] (.tp [.l 2 ((B0 r a).1.map Mat.D),.b (B0 r a).2]):=by
 have f0:=AP hR hA hS (g0:=187) (Q:=fun xs=>yX 2 62 (xs.map Mat.D)) (G:=fun ys=>decide ((ys.length:Int)≤400)) (K:=fun xs=>xs.length≤400) (fun xs m h=>rc xs m (by omega)) (fun xs m h=>by have:=of_decide_eq_true h;omega) r.nodes.length [] [] (by simp) (fun x hx=>by cases hx) (Nat.zero_le _)
 rw [show (lc (fun ys=>decide ((ys.length:Int)≤400)) [] (lM r a r.nodes.length [])).1=pF r a from Bh 400 _ _ (Nat.zero_le _)] at f0
 generalize (lc (fun ys=>decide ((ys.length:Int)≤400)) [] (lM r a r.nodes.length [])).2=B at f0
 have f1:FnY Tryz.prog 186 [r.D,a.D,.n 1] (yP 187 (yX 2 62 [])) (yP 187 (yX 2 62 ((pF r a).map Mat.D))) B:=f0.arg (fun w F vs hv=>by
  obtain ⟨v1,t1,rfl,h1,v2,t2,rfl,h2,v3,t3,rfl,h3,h4⟩:=hv
  exact ⟨v1,_,rfl,h1,v2,_,rfl,h2,v3,_,rfl,AL h3,h4⟩)
 clear f0
 refine ah Tryz.func125 (fun hw W0=>?_)
 unfold B0
 refine e9 ?_
 refine dD ?_
 refine wI ?_
 refine dP (aM ?_)
 refine e9 ?_
 refine dD ?_
 refine wI ?_
 refine dP (aM ?_)
 refine IX 10006 (fun u=>?_)
 refine I2 6 10006 10007 ?_
 refine kgo ?_
 refine GL ?_
 refine Fz 10006 (fun σ' a w c hc hk=>rj hc _ _ rfl hk) ?_
 refine dP (aM ?_)
 refine D5 6 10006 20001 ?_
 refine kgo ?_
 refine qG ?_
 refine kgo ?_
 refine aO (fun h=>?_) (fun h=>?_)
 ·rw [List.length_map] at h
  rw [if_pos (by omega)]
  refine kgo ?_
  exact g8
 rw [List.length_map] at h
 rw [if_neg (by omega)]
 refine kgo ?_
 refine qG ?_
 refine gq (d:=4) ?_
 refine kgo ?_
 exact g8
end Go.Proofs.YtclpbhoekmecjaaGreatDoor
namespace Go.Proofs.YtclpbhoekmecjaaGreatDoor
open Go.RowKit
set_option linter.unusedVariables false
set_option linter.unusedSimpArgs false
set_option maxRecDepth 100000
set_option maxHeartbeats 4000000
attribute [local irreducible] aq Der At
theorem Eu {r a:Big} (h:(B0 r a).2=false):400<(pF r a).length:=by
 unfold B0 at h
 split at h
 ·assumption
 ·cases h
theorem Dj {r a:Big} (h:(B0 r a).2=true):¬400<(pF r a).length∧(B0 r a).1=pF r a:=by
 unfold B0 at h ⊢
 split at h
 ·cases h
 ·rename_i h2;rw [if_neg h2];exact ⟨h2,rfl⟩
theorem tI {sig:List Ctl} {rs:List Rul} {a:Big} (hr:fo sig rs=true) (ha:dp sig a=true):FnO Tryz.prog 85 [.l 3 (sig.map Ctl.D),.l 13 (rs.map Rul.D),a.D] [0,0] [.tk (.grw 9 64 ((jA (dt sig a rs 0 [])).1.map Stp.D)),.d (.b (jA (dt sig a rs 0 [])).2)]:=by
 have hrs:=List.all_eq_true.1 (Bool.and_eq_true_iff.1 hr).2
 have hrl:=bO (Bool.and_eq_true_iff.1 hr).1
 have hA:=ij ha
 refine dH Tryz.func85 (fun hw W0=>?_)
 refine e9 ?_
 refine dD ?_
 refine wI ?_
 refine dP (aM ?_)
 refine e9 ?_
 refine dD ?_
 refine wI ?_
 refine dP (aM ?_)
 refine GX 10017 ?_
 refine kgo ?_
 refine aj [0,5,18,19] (fun x:Nat × List Stp=>x.1≤rs.length∧x.2.length≤400 * x.1∧dt sig a rs 0 []=dt sig a (rs.drop x.1) x.1 x.2) (fun x=>rs.length - x.1) (fun x=>[(20,.sy (.d (.i x.1))),(8,.sy (.k 20001)),(20001,.tk (.grw 9 64 (x.2.map Stp.D)))]) (0,[]) ⟨Nat.zero_le _,Nat.zero_le _,rfl⟩ (fun x hx=>?_)
 obtain ⟨i,out⟩:=x
 obtain ⟨hi,hol,hst⟩:=hx
 dsimp only at hi hol hst ⊢
 rw [hst]
 refine kgo ?_
 refine aO (fun h=>?_) (fun h=>?_)
 rotate_left
 ·obtain rfl:i=rs.length:=by omega
  rw [List.drop_eq_nil_of_le (Nat.le_refl _),show jA (dt sig a [] rs.length out)=(out,true) from rfl]
  refine kgo ?_
  exact g6 (hp:=.cons (.k rfl rfl) (.cons (.d rfl) .nil))
 have hlt:i<rs.length:=by omega
 rw [sr i hlt]
 obtain ⟨r1,r2,r3,r4,r5,r6,r7,r8⟩:=gd (hrs _ (List.getElem_mem hlt))
 have f1:=tj r1 hA r3
 have hall:=nk (r:=(rs[i]).redex) (a:=a)
 have hno:=Eu (r:=(rs[i]).redex) (a:=a)
 have hyes:=Dj (r:=(rs[i]).redex) (a:=a)
 refine kgo ?_
 cases h2:(B0 (rs[i]).redex a).2
 ·rw [if_pos (hno h2)]
  refine kgo ?_
  refine vn 6 30006 64 ?_
  refine Cr 30006 ?_
  exact g6 (hp:=.cons (.k rfl rfl) (.cons (.d rfl) .nil))
 obtain ⟨hn,he⟩:=hyes h2
 have hml:=wQ (rs[i]).redex a
 rw [if_neg hn,he]
 clear hno hyes he
 generalize pF (rs[i]).redex a=ms at *
 refine kgo ?_
 refine aj [0,5,9,10,18,19,20,34,35] (fun x:Nat × List Stp=>x.1≤ms.length∧x.2.length≤400 * i+x.1∧(gG sig rs[i] a i ms out).bind (dt sig a (rs.drop (i+1)) (i+1))=(gG sig rs[i] a i (ms.drop x.1) x.2).bind (dt sig a (rs.drop (i+1)) (i+1))) (fun x=>ms.length - x.1) (fun x=>[(36,.sy (.d (.i x.1))),(8,.sy (.k 20001)),(20001,.tk (.grw 9 64 (x.2.map Stp.D)))]) (0,out) ⟨Nat.zero_le _,hol,rfl⟩ (fun x hx=>?_)
 obtain ⟨j,o⟩:=x
 obtain ⟨hj,hoj,hsj⟩:=hx
 dsimp only at hj hoj hsj ⊢
 rw [hsj]
 refine kgo ?_
 refine aO (fun h3=>?_) (fun h3=>?_)
 rotate_left
 ·obtain rfl:j=ms.length:=by omega
  rw [List.drop_eq_nil_of_le (Nat.le_refl _)] at hsj ⊢
  refine kgo ?_
  exact af (i+1,o) ⟨hlt,by show o.length≤400 * (i+1);omega,rfl⟩ (by show _ - (i+1)<_ - i;omega)
 have hjl:j<ms.length:=by omega
 have hm:=hall _ (List.getElem_mem hjl)
 have f2:=xW hA ms[j] (fun p hp=>(lX (cP hm).2.1 p hp).2)
 have hat:=sI (sig:=sig) (r:=rs[i]) (a:=a) (k:=i) j hjl o
 refine kgo ?_
 refine cIf (fun h4=>?_) (fun h4=>?_)
 ·rw [Bool.not_eq_true'] at h4
  rw [hat,h4]
  refine kgo ?_
  exact af (j+1,o) ⟨hjl,by show o.length≤400 * i+(j+1);omega,rfl⟩ (by show _ - (j+1)<_ - j;omega)
 rw [Bool.not_eq_false'] at h4
 rw [hat,h4,if_pos rfl]
 have f3:=zL (sig:=sig) ms[j] (hrs _ (List.getElem_mem hlt)) hA hm
 refine kgo ?_
 refine cIf (fun h5=>?_) (fun h5=>?_)
 ·rw [Bool.not_eq_true'] at h5
  rw [h5]
  refine kgo ?_
  refine vn 6 30006 64 ?_
  refine Cr 30006 ?_
  exact g6 (hp:=.cons (.k rfl rfl) (.cons (.d rfl) .nil))
 rw [Bool.not_eq_false'] at h5
 rw [h5,if_pos rfl]
 have hni:ms[j].nodes.length≤1000:=by
  have:=(iR (cP hm).1).len
  have:=(bB r1).nodes
  omega
 have hrl2:=ji (rs:=ms[j].roots) (ns:=ms[j].nodes) (cP hm).2.1
 have hr0:=aL r1
 have f4:=qe ms[j] hni (by omega)
 refine Ge 31050 ?_
 refine mZ (ds:=(fw sig rs[i] a ms[j]).1.sites.map D.i) 32050 (fun d hd=>by obtain ⟨n,_,rfl⟩:=List.mem_map.1 hd;exact ⟨rfl,rfl⟩) ?_
 refine mZ (ds:=(fw sig rs[i] a ms[j]).1.outer.map D.s) 34050 (fun d hd=>by obtain ⟨n,_,rfl⟩:=List.mem_map.1 hd;exact ⟨rfl,rfl⟩) ?_
 refine mZ (ds:=(fw sig rs[i] a ms[j]).1.inner.map Wr.D) 35050 (fun d hd=>by obtain ⟨n,_,rfl⟩:=List.mem_map.1 hd;exact ⟨rfl,rfl⟩) ?_
 refine kgo ?_
 refine En (ds:=ms[j].nodes.map D.i) 30058 (fun d hd=>by obtain ⟨n,_,rfl⟩:=List.mem_map.1 hd;exact ⟨rfl,rfl⟩) ?_
 refine En (ds:=ms[j].roots.map D.i) 31058 (fun d hd=>by obtain ⟨n,_,rfl⟩:=List.mem_map.1 hd;exact ⟨rfl,rfl⟩) ?_
 (try refine ay ?_)
 refine Gt (Stp.D (Stp.mk (i:Int) ms[j] (fw sig rs[i] a ms[j]).1)) ?_
 (try refine aT ?_)
 have hs:(o++[Stp.mk (i:Int) ms[j] (fw sig rs[i] a ms[j]).1]).map Stp.D=o.map Stp.D++[Stp.D (Stp.mk (i:Int) ms[j] (fw sig rs[i] a ms[j]).1)]:=List.map_append
 refine kgo ?_
 exact af (j+1,o++[Stp.mk (i:Int) ms[j] (fw sig rs[i] a ms[j]).1]) ⟨hjl,by show (o++_).length≤400 * i+(j+1);rw [List.length_append,List.length_singleton];omega,rfl⟩ (by show _ - (j+1)<_ - j;omega) (hs:=⟨⟨rfl,rfl⟩,⟨rfl,rfl⟩,⟨Em rfl hs.symm,rfl⟩,by repeat (first|exact trivial|refine ⟨⟨rfl,rfl⟩,?_⟩)⟩)
theorem mA (sig:List Ctl) (rs:List Rul) (a:Big) (hr:∀r∈rs,r.redex.inner.length≤1048576∧r.reactum.inner.length≤1048576) (ha:a.inner.length≤1048576):FnO Tryz.prog 32 [.l 3 (sig.map Ctl.D),.l 13 (rs.map Rul.D),a.D] [0,0] [.tk (.grw 9 64 ((bH sig rs a).1.map Stp.D)),.d (.b (bH sig rs a).2)]:=by
 have f1:=pY sig rs hr
 have f2:=tg sig a (by omega)
 refine dH Tryz.func32 (fun hw W0=>?_)
 unfold bH
 refine kgo ?_
 cases h1:fo sig rs
 ·refine kgo ?_
  refine vn 6 30006 64 ?_
  refine Cr 30006 ?_
  exact g6 (hp:=.cons (.k rfl rfl) (.cons (.d rfl) .nil))
 refine kgo ?_
 cases h2:dp sig a
 ·refine kgo ?_
  refine vn 6 30006 64 ?_
  refine Cr 30006 ?_
  exact g6 (hp:=.cons (.k rfl rfl) (.cons (.d rfl) .nil))
 have f3:=tI h1 h2
 refine kgo ?_
 exact g6 (hp:=.cons (.k rfl rfl) (.cons (.d rfl) .nil))
abbrev Ix (s:Stp):List Pt:=[.d (.i s.rule),.tk (.own (DI s.mat.nodes) none none),.tk (.own (DI s.mat.roots) none none),.d (.i s.res.roots),.tk (.own (.l 3 (s.res.nodes.map Nd.D)) none none),.tk (.own (DI s.res.sites) none none),.d (.i s.res.edges),.tk (.own (DS s.res.outer) none none),.tk (.own (.l 2 (s.res.inner.map Wr.D)) none none)]
end Go.Proofs.YtclpbhoekmecjaaGreatDoor
namespace Go.Proofs.YtclpbhoekmecjaaGreatDoor
open Go.RowKit
set_option linter.unusedVariables false
set_option maxRecDepth 100000
set_option maxHeartbeats 1000000
attribute [local irreducible] aq Der At jI mkL cnL lC
def gP (m:Mat):Nat:=cnL c1 m.nodes+cnL c1 m.roots
def tu (k:Int) (m:Mat):Mat:=⟨mkL mkI c1 k m.nodes,mkL mkI c1 (k+cnL c1 m.nodes) m.roots⟩
theorem i9 (n:Int) (h0:0≤n) (h1:n≤1000000000):FnD Tryz.prog 69 [.i n] (.d (.s (jI n))):=⟨cO Tryz.func69,fun F w vs hv hF=>by
 obtain ⟨v1,t,rfl,⟨h3,_⟩,h4⟩:=hv
 cases h3
 cases (show t = [] from h4)
 refine (oR n w h0 h1).mono ?_
 rintro e w' ⟨rfl,hX⟩
 exact ⟨_,rfl,hX,rfl,An n h0 h1⟩⟩
theorem dy (xs:List Int) (k:Int) (h0:0≤k) (h1:k+cnL c1 xs≤1000000000):FnM Tryz.prog 71 (.l 1 (xs.map D.i)) (.l 1 ((mkL mkI c1 k xs).map D.i)) k (k+cnL c1 xs):=by
 refine nA Tryz.func71 (BO h0 (by omega)) (fun W0 v M hM hw=>?_)
 have hw':xs.length≤9223372036854775807:=by rw [← List.length_map];exact hw
 refine kgm ?_
 refine aj [0,20000] (fun x:Nat × Int × List D=>x.1≤xs.length∧x.2.1=k+cnL c1 (xs.take x.1)∧x.2.2=(lC mkI c1 x.1 k xs).map D.i) (fun x=>xs.length - x.1) (fun x=>[(1,.sy (.d (.i x.2.1))),(5,.sy (.d (.i x.1))),(20000,.tk (.own (.l 1 x.2.2) none (some (v,M))))]) (0,k,xs.map D.i) ⟨Nat.zero_le _,by simp [cnL],by rw [gD]⟩ (fun x hx=>?_)
 obtain ⟨i,K,ds⟩:=x
 obtain ⟨hi,hK,hd⟩:=hx
 dsimp only at hi hK hd ⊢
 have hl:=tW hd
 have hc:=aE c1 xs i
 refine kgm ?_
 refine aO (fun h=>?_) (fun h=>?_)
 ·have hlt:i<xs.length:=by omega
  have hlt':i<ds.length:=by omega
  have hct:=d8 c1 xs i hlt
  have hc':=aE c1 xs (i+1)
  have hcx:c1 xs[i]=1:=by first|rfl|(simp only [eQ,jO,jo];omega)|(simp only [gP];omega)
  have hKb:K+c1 xs[i]≤1000000000:=by omega
  have hK0:0≤K:=by omega

  refine mH 20000 (congrArg (fun d=>Tk.own (.l 1 d) none (some (v,M))) (ud hlt hd)) ?_
  refine kgm ?_
  exact af (i+1,K+1,ds.set i (D.i (mkI K xs[i]))) ⟨hlt,by show K+1=k+(cnL c1 (xs.take (i+1)):Nat);omega,nL hlt hd hK⟩ (by show _ - (i+1)<_ - i;omega)
 have hie:i=xs.length:=by omega
 rw [s8 hie hd]
 rw [hie,fx] at hK
 rw [← hK]
 refine kgm ?_
 exact Ea hM
theorem gW (xs:List ByteArray) (k:Int) (h0:0≤k) (h1:k+cnL c1 xs≤1000000000):FnM Tryz.prog 72 (.l 1 (xs.map D.s)) (.l 1 ((mkL mkS c1 k xs).map D.s)) k (k+cnL c1 xs):=by
 refine nA Tryz.func72 (BO h0 (by omega)) (fun W0 v M hM hw=>?_)
 have hw':xs.length≤9223372036854775807:=by rw [← List.length_map];exact hw
 refine kgm ?_
 refine aj [0,20000] (fun x:Nat × Int × List D=>x.1≤xs.length∧x.2.1=k+cnL c1 (xs.take x.1)∧x.2.2=(lC mkS c1 x.1 k xs).map D.s) (fun x=>xs.length - x.1) (fun x=>[(1,.sy (.d (.i x.2.1))),(5,.sy (.d (.i x.1))),(20000,.tk (.own (.l 1 x.2.2) none (some (v,M))))]) (0,k,xs.map D.s) ⟨Nat.zero_le _,by simp [cnL],by rw [gD]⟩ (fun x hx=>?_)
 obtain ⟨i,K,ds⟩:=x
 obtain ⟨hi,hK,hd⟩:=hx
 dsimp only at hi hK hd ⊢
 have hl:=tW hd
 have hc:=aE c1 xs i
 refine kgm ?_
 refine aO (fun h=>?_) (fun h=>?_)
 ·have hlt:i<xs.length:=by omega
  have hlt':i<ds.length:=by omega
  have hct:=d8 c1 xs i hlt
  have hc':=aE c1 xs (i+1)
  have hcx:c1 xs[i]=1:=by first|rfl|(simp only [eQ,jO,jo];omega)|(simp only [gP];omega)
  have hKb:K+c1 xs[i]≤1000000000:=by omega
  have hK0:0≤K:=by omega

  have f0:=i9 (K) (by omega) (by omega)
  refine mH 20000 (congrArg (fun d=>Tk.own (.l 1 d) none (some (v,M))) (ud hlt hd)) ?_
  refine kgm ?_
  exact af (i+1,K+1,ds.set i (D.s (mkS K xs[i]))) ⟨hlt,by show K+1=k+(cnL c1 (xs.take (i+1)):Nat);omega,nL hlt hd hK⟩ (by show _ - (i+1)<_ - i;omega)
 have hie:i=xs.length:=by omega
 rw [s8 hie hd]
 rw [hie,fx] at hK
 rw [← hK]
 refine kgm ?_
 exact Ea hM
theorem lu (xs:List Ctl) (k:Int) (h0:0≤k) (h1:k+cnL c3 xs≤1000000000):FnM Tryz.prog 21 (.l 3 (xs.map Ctl.D)) (.l 3 ((mkL EO c3 k xs).map Ctl.D)) k (k+cnL c3 xs):=by
 refine nA Tryz.func21 (BO h0 (by omega)) (fun W0 v M hM hw=>?_)
 have hw':xs.length≤9223372036854775807:=by rw [← List.length_map];exact hw
 refine kgm ?_
 refine aj [0,20000] (fun x:Nat × Int × List D=>x.1≤xs.length∧x.2.1=k+cnL c3 (xs.take x.1)∧x.2.2=(lC EO c3 x.1 k xs).map Ctl.D) (fun x=>xs.length - x.1) (fun x=>[(1,.sy (.d (.i x.2.1))),(5,.sy (.d (.i x.1))),(20000,.tk (.own (.l 3 x.2.2) none (some (v,M))))]) (0,k,xs.map Ctl.D) ⟨Nat.zero_le _,by simp [cnL],by rw [gD]⟩ (fun x hx=>?_)
 obtain ⟨i,K,ds⟩:=x
 obtain ⟨hi,hK,hd⟩:=hx
 dsimp only at hi hK hd ⊢
 have hl:=tW hd
 have hc:=aE c3 xs i
 refine kgm ?_
 refine aO (fun h=>?_) (fun h=>?_)
 ·have hlt:i<xs.length:=by omega
  have hlt':i<ds.length:=by omega
  have hct:=d8 c3 xs i hlt
  have hc':=aE c3 xs (i+1)
  have hcx:c3 xs[i]=3:=by first|rfl|(simp only [eQ,jO,jo];omega)|(simp only [gP];omega)
  have hKb:K+c3 xs[i]≤1000000000:=by omega
  have hK0:0≤K:=by omega

  have f0:=i9 (K) (by omega) (by omega)
  refine mH 20000 (congrArg (fun d=>Tk.own (.l 3 d) none (some (v,M))) (ud hlt hd)) ?_
  refine kgm ?_
  exact af (i+1,K+1+1+1,ds.set i (Ctl.D (EO K xs[i]))) ⟨hlt,by show K+1+1+1=k+(cnL c3 (xs.take (i+1)):Nat);omega,nL hlt hd hK⟩ (by show _ - (i+1)<_ - i;omega)
 have hie:i=xs.length:=by omega
 rw [s8 hie hd]
 rw [hie,fx] at hK
 rw [← hK]
 refine kgm ?_
 exact Ea hM
theorem jD (xs:List Wr) (k:Int) (h0:0≤k) (h1:k+cnL c2 xs≤1000000000):FnM Tryz.prog 73 (.l 2 (xs.map Wr.D)) (.l 2 ((mkL sb c2 k xs).map Wr.D)) k (k+cnL c2 xs):=by
 refine nA Tryz.func73 (BO h0 (by omega)) (fun W0 v M hM hw=>?_)
 have hw':xs.length≤9223372036854775807:=by rw [← List.length_map];exact hw
 refine kgm ?_
 refine aj [0,20000] (fun x:Nat × Int × List D=>x.1≤xs.length∧x.2.1=k+cnL c2 (xs.take x.1)∧x.2.2=(lC sb c2 x.1 k xs).map Wr.D) (fun x=>xs.length - x.1) (fun x=>[(1,.sy (.d (.i x.2.1))),(5,.sy (.d (.i x.1))),(20000,.tk (.own (.l 2 x.2.2) none (some (v,M))))]) (0,k,xs.map Wr.D) ⟨Nat.zero_le _,by simp [cnL],by rw [gD]⟩ (fun x hx=>?_)
 obtain ⟨i,K,ds⟩:=x
 obtain ⟨hi,hK,hd⟩:=hx
 dsimp only at hi hK hd ⊢
 have hl:=tW hd
 have hc:=aE c2 xs i
 refine kgm ?_
 refine aO (fun h=>?_) (fun h=>?_)
 ·have hlt:i<xs.length:=by omega
  have hlt':i<ds.length:=by omega
  have hct:=d8 c2 xs i hlt
  have hc':=aE c2 xs (i+1)
  have hcx:c2 xs[i]=2:=by first|rfl|(simp only [eQ,jO,jo];omega)|(simp only [gP];omega)
  have hKb:K+c2 xs[i]≤1000000000:=by omega
  have hK0:0≤K:=by omega

  have f0:=i9 (K) (by omega) (by omega)
  refine mH 20000 (congrArg (fun d=>Tk.own (.l 2 d) none (some (v,M))) (ud hlt hd)) ?_
  refine kgm ?_
  exact af (i+1,K+1+1,ds.set i (Wr.D (sb K xs[i]))) ⟨hlt,by show K+1+1=k+(cnL c2 (xs.take (i+1)):Nat);omega,nL hlt hd hK⟩ (by show _ - (i+1)<_ - i;omega)
 have hie:i=xs.length:=by omega
 rw [s8 hie hd]
 rw [hie,fx] at hK
 rw [← hK]
 refine kgm ?_
 exact Ea hM
theorem jM (xs:List Nd) (k:Int) (h0:0≤k) (h1:k+cnL cNd xs≤1000000000):FnM Tryz.prog 70 (.l 3 (xs.map Nd.D)) (.l 3 ((mkL lO cNd k xs).map Nd.D)) k (k+cnL cNd xs):=by
 refine nA Tryz.func70 (BO h0 (by omega)) (fun W0 v M hM hw=>?_)
 have hw':xs.length≤9223372036854775807:=by rw [← List.length_map];exact hw
 refine kgm ?_
 refine aj [0,20000] (fun x:Nat × Int × List D=>x.1≤xs.length∧x.2.1=k+cnL cNd (xs.take x.1)∧x.2.2=(lC lO cNd x.1 k xs).map Nd.D) (fun x=>xs.length - x.1) (fun x=>[(1,.sy (.d (.i x.2.1))),(5,.sy (.d (.i x.1))),(20000,.tk (.own (.l 3 x.2.2) none (some (v,M))))]) (0,k,xs.map Nd.D) ⟨Nat.zero_le _,by simp [cnL],by rw [gD]⟩ (fun x hx=>?_)
 obtain ⟨i,K,ds⟩:=x
 obtain ⟨hi,hK,hd⟩:=hx
 dsimp only at hi hK hd ⊢
 have hl:=tW hd
 have hc:=aE cNd xs i
 refine kgm ?_
 refine aO (fun h=>?_) (fun h=>?_)
 ·have hlt:i<xs.length:=by omega
  have hlt':i<ds.length:=by omega
  have hct:=d8 cNd xs i hlt
  have hc':=aE cNd xs (i+1)
  have hcx:cNd xs[i]=2+cnL c1 xs[i].links:=by first|rfl|(simp only [eQ,jO,jo];omega)|(simp only [gP];omega)
  have hKb:K+cNd xs[i]≤1000000000:=by omega
  have hK0:0≤K:=by omega

  have f2:=dy xs[i].links (K+1+1) (by omega) (by omega)
  refine mH 20000 (congrArg (fun d=>Tk.own (.l 3 d) none (some (v,M))) (ud hlt hd)) ?_
  refine kgm ?_
  refine jR 20000 2 (fun u=>?_)
  refine dD ?_
  refine kgm ?_
  exact af (i+1,K+1+1+(cnL c1 xs[i].links:Nat),ds.set i (Nd.D (lO K xs[i]))) ⟨hlt,by show K+1+1+(cnL c1 xs[i].links:Nat)=k+(cnL cNd (xs.take (i+1)):Nat);omega,nL hlt hd hK⟩ (by show _ - (i+1)<_ - i;omega)
 have hie:i=xs.length:=by omega
 rw [s8 hie hd]
 rw [hie,fx] at hK
 rw [← hK]
 refine kgm ?_
 exact Ea hM
theorem tz (xs:List Mat) (k:Int) (h0:0≤k) (h1:k+cnL gP xs≤1000000000):FnM Tryz.prog 74 (.l 2 (xs.map Mat.D)) (.l 2 ((mkL tu gP k xs).map Mat.D)) k (k+cnL gP xs):=by
 refine nA Tryz.func74 (BO h0 (by omega)) (fun W0 v M hM hw=>?_)
 have hw':xs.length≤9223372036854775807:=by rw [← List.length_map];exact hw
 refine kgm ?_
 refine aj [0,20000] (fun x:Nat × Int × List D=>x.1≤xs.length∧x.2.1=k+cnL gP (xs.take x.1)∧x.2.2=(lC tu gP x.1 k xs).map Mat.D) (fun x=>xs.length - x.1) (fun x=>[(1,.sy (.d (.i x.2.1))),(5,.sy (.d (.i x.1))),(20000,.tk (.own (.l 2 x.2.2) none (some (v,M))))]) (0,k,xs.map Mat.D) ⟨Nat.zero_le _,by simp [cnL],by rw [gD]⟩ (fun x hx=>?_)
 obtain ⟨i,K,ds⟩:=x
 obtain ⟨hi,hK,hd⟩:=hx
 dsimp only at hi hK hd ⊢
 have hl:=tW hd
 have hc:=aE gP xs i
 refine kgm ?_
 refine aO (fun h=>?_) (fun h=>?_)
 ·have hlt:i<xs.length:=by omega
  have hlt':i<ds.length:=by omega
  have hct:=d8 gP xs i hlt
  have hc':=aE gP xs (i+1)
  have hcx:gP xs[i]=0+cnL c1 xs[i].nodes+cnL c1 xs[i].roots:=by first|rfl|(simp only [eQ,jO,jo];omega)|(simp only [gP];omega)
  have hKb:K+gP xs[i]≤1000000000:=by omega
  have hK0:0≤K:=by omega

  have f0:=dy xs[i].nodes (K) (by omega) (by omega)
  have f1:=dy xs[i].roots (K+(cnL c1 xs[i].nodes:Nat)) (by omega) (by omega)
  refine mH 20000 (congrArg (fun d=>Tk.own (.l 2 d) none (some (v,M))) (ud hlt hd)) ?_
  refine kgm ?_
  refine jR 20000 0 (fun u=>?_)
  refine dD ?_
  refine kgm ?_
  refine jR 20000 1 (fun u=>?_)
  refine dD ?_
  refine kgm ?_
  exact af (i+1,K+(cnL c1 xs[i].nodes:Nat)+(cnL c1 xs[i].roots:Nat),ds.set i (Mat.D (tu K xs[i]))) ⟨hlt,by show K+(cnL c1 xs[i].nodes:Nat)+(cnL c1 xs[i].roots:Nat)=k+(cnL gP (xs.take (i+1)):Nat);omega,nL hlt hd hK⟩ (by show _ - (i+1)<_ - i;omega)
 have hie:i=xs.length:=by omega
 rw [s8 hie hd]
 rw [hie,fx] at hK
 rw [← hK]
 refine kgm ?_
 exact Ea hM
theorem pt (xs:List Rul) (k:Int) (h0:0≤k) (h1:k+cnL eQ xs≤1000000000):FnM Tryz.prog 22 (.l 13 (xs.map Rul.D)) (.l 13 ((mkL Ai eQ k xs).map Rul.D)) k (k+cnL eQ xs):=by
 refine nA Tryz.func22 (BO h0 (by omega)) (fun W0 v M hM hw=>?_)
 have hw':xs.length≤9223372036854775807:=by rw [← List.length_map];exact hw
 refine kgm ?_
 refine aj [0,20000] (fun x:Nat × Int × List D=>x.1≤xs.length∧x.2.1=k+cnL eQ (xs.take x.1)∧x.2.2=(lC Ai eQ x.1 k xs).map Rul.D) (fun x=>xs.length - x.1) (fun x=>[(1,.sy (.d (.i x.2.1))),(5,.sy (.d (.i x.1))),(20000,.tk (.own (.l 13 x.2.2) none (some (v,M))))]) (0,k,xs.map Rul.D) ⟨Nat.zero_le _,by simp [cnL],by rw [gD]⟩ (fun x hx=>?_)
 obtain ⟨i,K,ds⟩:=x
 obtain ⟨hi,hK,hd⟩:=hx
 dsimp only at hi hK hd ⊢
 have hl:=tW hd
 have hc:=aE eQ xs i
 refine kgm ?_
 refine aO (fun h=>?_) (fun h=>?_)
 ·have hlt:i<xs.length:=by omega
  have hlt':i<ds.length:=by omega
  have hct:=d8 eQ xs i hlt
  have hc':=aE eQ xs (i+1)
  have hcx:eQ xs[i]=4+cnL cNd xs[i].redex.nodes+cnL c1 xs[i].redex.sites+cnL c1 xs[i].redex.outer+cnL c2 xs[i].redex.inner+cnL cNd xs[i].reactum.nodes+cnL c1 xs[i].reactum.sites+cnL c1 xs[i].reactum.outer+cnL c2 xs[i].reactum.inner+cnL c1 xs[i].copies:=by first|rfl|(simp only [eQ,jO,jo];omega)|(simp only [gP];omega)
  have hKb:K+eQ xs[i]≤1000000000:=by omega
  have hK0:0≤K:=by omega

  have f1:=jM xs[i].redex.nodes (K+1) (by omega) (by omega)
  have f2:=dy xs[i].redex.sites (K+1+(cnL cNd xs[i].redex.nodes:Nat)) (by omega) (by omega)
  have f4:=gW xs[i].redex.outer (K+1+(cnL cNd xs[i].redex.nodes:Nat)+(cnL c1 xs[i].redex.sites:Nat)+1) (by omega) (by omega)
  have f5:=jD xs[i].redex.inner (K+1+(cnL cNd xs[i].redex.nodes:Nat)+(cnL c1 xs[i].redex.sites:Nat)+1+(cnL c1 xs[i].redex.outer:Nat)) (by omega) (by omega)
  have f7:=jM xs[i].reactum.nodes (K+1+(cnL cNd xs[i].redex.nodes:Nat)+(cnL c1 xs[i].redex.sites:Nat)+1+(cnL c1 xs[i].redex.outer:Nat)+(cnL c2 xs[i].redex.inner:Nat)+1) (by omega) (by omega)
  have f8:=dy xs[i].reactum.sites (K+1+(cnL cNd xs[i].redex.nodes:Nat)+(cnL c1 xs[i].redex.sites:Nat)+1+(cnL c1 xs[i].redex.outer:Nat)+(cnL c2 xs[i].redex.inner:Nat)+1+(cnL cNd xs[i].reactum.nodes:Nat)) (by omega) (by omega)
  have f10:=gW xs[i].reactum.outer (K+1+(cnL cNd xs[i].redex.nodes:Nat)+(cnL c1 xs[i].redex.sites:Nat)+1+(cnL c1 xs[i].redex.outer:Nat)+(cnL c2 xs[i].redex.inner:Nat)+1+(cnL cNd xs[i].reactum.nodes:Nat)+(cnL c1 xs[i].reactum.sites:Nat)+1) (by omega) (by omega)
  have f11:=jD xs[i].reactum.inner (K+1+(cnL cNd xs[i].redex.nodes:Nat)+(cnL c1 xs[i].redex.sites:Nat)+1+(cnL c1 xs[i].redex.outer:Nat)+(cnL c2 xs[i].redex.inner:Nat)+1+(cnL cNd xs[i].reactum.nodes:Nat)+(cnL c1 xs[i].reactum.sites:Nat)+1+(cnL c1 xs[i].reactum.outer:Nat)) (by omega) (by omega)
  have f12:=dy xs[i].copies (K+1+(cnL cNd xs[i].redex.nodes:Nat)+(cnL c1 xs[i].redex.sites:Nat)+1+(cnL c1 xs[i].redex.outer:Nat)+(cnL c2 xs[i].redex.inner:Nat)+1+(cnL cNd xs[i].reactum.nodes:Nat)+(cnL c1 xs[i].reactum.sites:Nat)+1+(cnL c1 xs[i].reactum.outer:Nat)+(cnL c2 xs[i].reactum.inner:Nat)) (by omega) (by omega)
  refine mH 20000 (congrArg (fun d=>Tk.own (.l 13 d) none (some (v,M))) (ud hlt hd)) ?_
  refine kgm ?_
  refine mH 20000 (t':=.own (.l 13 (ds.set i (Rul.D (⟨⟨K,xs[i].redex.nodes,xs[i].redex.sites,xs[i].redex.edges,xs[i].redex.outer,xs[i].redex.inner⟩,⟨xs[i].reactum.roots,xs[i].reactum.nodes,xs[i].reactum.sites,xs[i].reactum.edges,xs[i].reactum.outer,xs[i].reactum.inner⟩,xs[i].copies⟩:Rul)))) none (some (v,M))) rfl ?_
  refine jR 20000 1 (fun u=>?_)
  refine dD ?_
  refine kgm ?_
  refine mH 20000 (t':=.own (.l 13 (ds.set i (Rul.D (⟨⟨K,mkL lO cNd (K+1) xs[i].redex.nodes,xs[i].redex.sites,xs[i].redex.edges,xs[i].redex.outer,xs[i].redex.inner⟩,⟨xs[i].reactum.roots,xs[i].reactum.nodes,xs[i].reactum.sites,xs[i].reactum.edges,xs[i].reactum.outer,xs[i].reactum.inner⟩,xs[i].copies⟩:Rul)))) none (some (v,M))) rfl ?_
  refine jR 20000 2 (fun u=>?_)
  refine dD ?_
  refine kgr ?_
  refine dP (aM ?_)
  refine mH 20000 (t':=.own (.l 13 (ds.set i (Rul.D (⟨⟨K,mkL lO cNd (K+1) xs[i].redex.nodes,mkL mkI c1 (K+1+(cnL cNd xs[i].redex.nodes:Nat)) xs[i].redex.sites,xs[i].redex.edges,xs[i].redex.outer,xs[i].redex.inner⟩,⟨xs[i].reactum.roots,xs[i].reactum.nodes,xs[i].reactum.sites,xs[i].reactum.edges,xs[i].reactum.outer,xs[i].reactum.inner⟩,xs[i].copies⟩:Rul)))) none (some (v,M))) rfl ?_
  refine kgm ?_
  try (refine aN ?_;refine iN (f:=3) ?_;refine kgm ?_)
  refine mH 20000 (t':=.own (.l 13 (ds.set i (Rul.D (⟨⟨K,mkL lO cNd (K+1) xs[i].redex.nodes,mkL mkI c1 (K+1+(cnL cNd xs[i].redex.nodes:Nat)) xs[i].redex.sites,K+1+(cnL cNd xs[i].redex.nodes:Nat)+(cnL c1 xs[i].redex.sites:Nat),xs[i].redex.outer,xs[i].redex.inner⟩,⟨xs[i].reactum.roots,xs[i].reactum.nodes,xs[i].reactum.sites,xs[i].reactum.edges,xs[i].reactum.outer,xs[i].reactum.inner⟩,xs[i].copies⟩:Rul)))) none (some (v,M))) rfl ?_
  refine jR 20000 4 (fun u=>?_)
  refine dD ?_
  refine kgm ?_
  refine mH 20000 (t':=.own (.l 13 (ds.set i (Rul.D (⟨⟨K,mkL lO cNd (K+1) xs[i].redex.nodes,mkL mkI c1 (K+1+(cnL cNd xs[i].redex.nodes:Nat)) xs[i].redex.sites,K+1+(cnL cNd xs[i].redex.nodes:Nat)+(cnL c1 xs[i].redex.sites:Nat),mkL mkS c1 (K+1+(cnL cNd xs[i].redex.nodes:Nat)+(cnL c1 xs[i].redex.sites:Nat)+1) xs[i].redex.outer,xs[i].redex.inner⟩,⟨xs[i].reactum.roots,xs[i].reactum.nodes,xs[i].reactum.sites,xs[i].reactum.edges,xs[i].reactum.outer,xs[i].reactum.inner⟩,xs[i].copies⟩:Rul)))) none (some (v,M))) rfl ?_
  refine jR 20000 5 (fun u=>?_)
  refine dD ?_
  refine kgr ?_
  refine dP (aM ?_)
  refine mH 20000 (t':=.own (.l 13 (ds.set i (Rul.D (⟨⟨K,mkL lO cNd (K+1) xs[i].redex.nodes,mkL mkI c1 (K+1+(cnL cNd xs[i].redex.nodes:Nat)) xs[i].redex.sites,K+1+(cnL cNd xs[i].redex.nodes:Nat)+(cnL c1 xs[i].redex.sites:Nat),mkL mkS c1 (K+1+(cnL cNd xs[i].redex.nodes:Nat)+(cnL c1 xs[i].redex.sites:Nat)+1) xs[i].redex.outer,mkL sb c2 (K+1+(cnL cNd xs[i].redex.nodes:Nat)+(cnL c1 xs[i].redex.sites:Nat)+1+(cnL c1 xs[i].redex.outer:Nat)) xs[i].redex.inner⟩,⟨xs[i].reactum.roots,xs[i].reactum.nodes,xs[i].reactum.sites,xs[i].reactum.edges,xs[i].reactum.outer,xs[i].reactum.inner⟩,xs[i].copies⟩:Rul)))) none (some (v,M))) rfl ?_
  refine kgm ?_
  try (refine aN ?_;refine iN (f:=6) ?_;refine kgm ?_)
  refine mH 20000 (t':=.own (.l 13 (ds.set i (Rul.D (⟨⟨K,mkL lO cNd (K+1) xs[i].redex.nodes,mkL mkI c1 (K+1+(cnL cNd xs[i].redex.nodes:Nat)) xs[i].redex.sites,K+1+(cnL cNd xs[i].redex.nodes:Nat)+(cnL c1 xs[i].redex.sites:Nat),mkL mkS c1 (K+1+(cnL cNd xs[i].redex.nodes:Nat)+(cnL c1 xs[i].redex.sites:Nat)+1) xs[i].redex.outer,mkL sb c2 (K+1+(cnL cNd xs[i].redex.nodes:Nat)+(cnL c1 xs[i].redex.sites:Nat)+1+(cnL c1 xs[i].redex.outer:Nat)) xs[i].redex.inner⟩,⟨K+1+(cnL cNd xs[i].redex.nodes:Nat)+(cnL c1 xs[i].redex.sites:Nat)+1+(cnL c1 xs[i].redex.outer:Nat)+(cnL c2 xs[i].redex.inner:Nat),xs[i].reactum.nodes,xs[i].reactum.sites,xs[i].reactum.edges,xs[i].reactum.outer,xs[i].reactum.inner⟩,xs[i].copies⟩:Rul)))) none (some (v,M))) rfl ?_
  refine jR 20000 7 (fun u=>?_)
  refine dD ?_
  refine kgm ?_
  refine mH 20000 (t':=.own (.l 13 (ds.set i (Rul.D (⟨⟨K,mkL lO cNd (K+1) xs[i].redex.nodes,mkL mkI c1 (K+1+(cnL cNd xs[i].redex.nodes:Nat)) xs[i].redex.sites,K+1+(cnL cNd xs[i].redex.nodes:Nat)+(cnL c1 xs[i].redex.sites:Nat),mkL mkS c1 (K+1+(cnL cNd xs[i].redex.nodes:Nat)+(cnL c1 xs[i].redex.sites:Nat)+1) xs[i].redex.outer,mkL sb c2 (K+1+(cnL cNd xs[i].redex.nodes:Nat)+(cnL c1 xs[i].redex.sites:Nat)+1+(cnL c1 xs[i].redex.outer:Nat)) xs[i].redex.inner⟩,⟨K+1+(cnL cNd xs[i].redex.nodes:Nat)+(cnL c1 xs[i].redex.sites:Nat)+1+(cnL c1 xs[i].redex.outer:Nat)+(cnL c2 xs[i].redex.inner:Nat),mkL lO cNd (K+1+(cnL cNd xs[i].redex.nodes:Nat)+(cnL c1 xs[i].redex.sites:Nat)+1+(cnL c1 xs[i].redex.outer:Nat)+(cnL c2 xs[i].redex.inner:Nat)+1) xs[i].reactum.nodes,xs[i].reactum.sites,xs[i].reactum.edges,xs[i].reactum.outer,xs[i].reactum.inner⟩,xs[i].copies⟩:Rul)))) none (some (v,M))) rfl ?_
  refine jR 20000 8 (fun u=>?_)
  refine dD ?_
  refine kgr ?_
  refine dP (aM ?_)
  refine mH 20000 (t':=.own (.l 13 (ds.set i (Rul.D (⟨⟨K,mkL lO cNd (K+1) xs[i].redex.nodes,mkL mkI c1 (K+1+(cnL cNd xs[i].redex.nodes:Nat)) xs[i].redex.sites,K+1+(cnL cNd xs[i].redex.nodes:Nat)+(cnL c1 xs[i].redex.sites:Nat),mkL mkS c1 (K+1+(cnL cNd xs[i].redex.nodes:Nat)+(cnL c1 xs[i].redex.sites:Nat)+1) xs[i].redex.outer,mkL sb c2 (K+1+(cnL cNd xs[i].redex.nodes:Nat)+(cnL c1 xs[i].redex.sites:Nat)+1+(cnL c1 xs[i].redex.outer:Nat)) xs[i].redex.inner⟩,⟨K+1+(cnL cNd xs[i].redex.nodes:Nat)+(cnL c1 xs[i].redex.sites:Nat)+1+(cnL c1 xs[i].redex.outer:Nat)+(cnL c2 xs[i].redex.inner:Nat),mkL lO cNd (K+1+(cnL cNd xs[i].redex.nodes:Nat)+(cnL c1 xs[i].redex.sites:Nat)+1+(cnL c1 xs[i].redex.outer:Nat)+(cnL c2 xs[i].redex.inner:Nat)+1) xs[i].reactum.nodes,mkL mkI c1 (K+1+(cnL cNd xs[i].redex.nodes:Nat)+(cnL c1 xs[i].redex.sites:Nat)+1+(cnL c1 xs[i].redex.outer:Nat)+(cnL c2 xs[i].redex.inner:Nat)+1+(cnL cNd xs[i].reactum.nodes:Nat)) xs[i].reactum.sites,xs[i].reactum.edges,xs[i].reactum.outer,xs[i].reactum.inner⟩,xs[i].copies⟩:Rul)))) none (some (v,M))) rfl ?_
  refine kgm ?_
  try (refine aN ?_;refine iN (f:=9) ?_;refine kgm ?_)
  refine mH 20000 (t':=.own (.l 13 (ds.set i (Rul.D (⟨⟨K,mkL lO cNd (K+1) xs[i].redex.nodes,mkL mkI c1 (K+1+(cnL cNd xs[i].redex.nodes:Nat)) xs[i].redex.sites,K+1+(cnL cNd xs[i].redex.nodes:Nat)+(cnL c1 xs[i].redex.sites:Nat),mkL mkS c1 (K+1+(cnL cNd xs[i].redex.nodes:Nat)+(cnL c1 xs[i].redex.sites:Nat)+1) xs[i].redex.outer,mkL sb c2 (K+1+(cnL cNd xs[i].redex.nodes:Nat)+(cnL c1 xs[i].redex.sites:Nat)+1+(cnL c1 xs[i].redex.outer:Nat)) xs[i].redex.inner⟩,⟨K+1+(cnL cNd xs[i].redex.nodes:Nat)+(cnL c1 xs[i].redex.sites:Nat)+1+(cnL c1 xs[i].redex.outer:Nat)+(cnL c2 xs[i].redex.inner:Nat),mkL lO cNd (K+1+(cnL cNd xs[i].redex.nodes:Nat)+(cnL c1 xs[i].redex.sites:Nat)+1+(cnL c1 xs[i].redex.outer:Nat)+(cnL c2 xs[i].redex.inner:Nat)+1) xs[i].reactum.nodes,mkL mkI c1 (K+1+(cnL cNd xs[i].redex.nodes:Nat)+(cnL c1 xs[i].redex.sites:Nat)+1+(cnL c1 xs[i].redex.outer:Nat)+(cnL c2 xs[i].redex.inner:Nat)+1+(cnL cNd xs[i].reactum.nodes:Nat)) xs[i].reactum.sites,K+1+(cnL cNd xs[i].redex.nodes:Nat)+(cnL c1 xs[i].redex.sites:Nat)+1+(cnL c1 xs[i].redex.outer:Nat)+(cnL c2 xs[i].redex.inner:Nat)+1+(cnL cNd xs[i].reactum.nodes:Nat)+(cnL c1 xs[i].reactum.sites:Nat),xs[i].reactum.outer,xs[i].reactum.inner⟩,xs[i].copies⟩:Rul)))) none (some (v,M))) rfl ?_
  refine jR 20000 10 (fun u=>?_)
  refine dD ?_
  refine kgm ?_
  refine mH 20000 (t':=.own (.l 13 (ds.set i (Rul.D (⟨⟨K,mkL lO cNd (K+1) xs[i].redex.nodes,mkL mkI c1 (K+1+(cnL cNd xs[i].redex.nodes:Nat)) xs[i].redex.sites,K+1+(cnL cNd xs[i].redex.nodes:Nat)+(cnL c1 xs[i].redex.sites:Nat),mkL mkS c1 (K+1+(cnL cNd xs[i].redex.nodes:Nat)+(cnL c1 xs[i].redex.sites:Nat)+1) xs[i].redex.outer,mkL sb c2 (K+1+(cnL cNd xs[i].redex.nodes:Nat)+(cnL c1 xs[i].redex.sites:Nat)+1+(cnL c1 xs[i].redex.outer:Nat)) xs[i].redex.inner⟩,⟨K+1+(cnL cNd xs[i].redex.nodes:Nat)+(cnL c1 xs[i].redex.sites:Nat)+1+(cnL c1 xs[i].redex.outer:Nat)+(cnL c2 xs[i].redex.inner:Nat),mkL lO cNd (K+1+(cnL cNd xs[i].redex.nodes:Nat)+(cnL c1 xs[i].redex.sites:Nat)+1+(cnL c1 xs[i].redex.outer:Nat)+(cnL c2 xs[i].redex.inner:Nat)+1) xs[i].reactum.nodes,mkL mkI c1 (K+1+(cnL cNd xs[i].redex.nodes:Nat)+(cnL c1 xs[i].redex.sites:Nat)+1+(cnL c1 xs[i].redex.outer:Nat)+(cnL c2 xs[i].redex.inner:Nat)+1+(cnL cNd xs[i].reactum.nodes:Nat)) xs[i].reactum.sites,K+1+(cnL cNd xs[i].redex.nodes:Nat)+(cnL c1 xs[i].redex.sites:Nat)+1+(cnL c1 xs[i].redex.outer:Nat)+(cnL c2 xs[i].redex.inner:Nat)+1+(cnL cNd xs[i].reactum.nodes:Nat)+(cnL c1 xs[i].reactum.sites:Nat),mkL mkS c1 (K+1+(cnL cNd xs[i].redex.nodes:Nat)+(cnL c1 xs[i].redex.sites:Nat)+1+(cnL c1 xs[i].redex.outer:Nat)+(cnL c2 xs[i].redex.inner:Nat)+1+(cnL cNd xs[i].reactum.nodes:Nat)+(cnL c1 xs[i].reactum.sites:Nat)+1) xs[i].reactum.outer,xs[i].reactum.inner⟩,xs[i].copies⟩:Rul)))) none (some (v,M))) rfl ?_
  refine jR 20000 11 (fun u=>?_)
  refine dD ?_
  refine kgm ?_
  refine mH 20000 (t':=.own (.l 13 (ds.set i (Rul.D (⟨⟨K,mkL lO cNd (K+1) xs[i].redex.nodes,mkL mkI c1 (K+1+(cnL cNd xs[i].redex.nodes:Nat)) xs[i].redex.sites,K+1+(cnL cNd xs[i].redex.nodes:Nat)+(cnL c1 xs[i].redex.sites:Nat),mkL mkS c1 (K+1+(cnL cNd xs[i].redex.nodes:Nat)+(cnL c1 xs[i].redex.sites:Nat)+1) xs[i].redex.outer,mkL sb c2 (K+1+(cnL cNd xs[i].redex.nodes:Nat)+(cnL c1 xs[i].redex.sites:Nat)+1+(cnL c1 xs[i].redex.outer:Nat)) xs[i].redex.inner⟩,⟨K+1+(cnL cNd xs[i].redex.nodes:Nat)+(cnL c1 xs[i].redex.sites:Nat)+1+(cnL c1 xs[i].redex.outer:Nat)+(cnL c2 xs[i].redex.inner:Nat),mkL lO cNd (K+1+(cnL cNd xs[i].redex.nodes:Nat)+(cnL c1 xs[i].redex.sites:Nat)+1+(cnL c1 xs[i].redex.outer:Nat)+(cnL c2 xs[i].redex.inner:Nat)+1) xs[i].reactum.nodes,mkL mkI c1 (K+1+(cnL cNd xs[i].redex.nodes:Nat)+(cnL c1 xs[i].redex.sites:Nat)+1+(cnL c1 xs[i].redex.outer:Nat)+(cnL c2 xs[i].redex.inner:Nat)+1+(cnL cNd xs[i].reactum.nodes:Nat)) xs[i].reactum.sites,K+1+(cnL cNd xs[i].redex.nodes:Nat)+(cnL c1 xs[i].redex.sites:Nat)+1+(cnL c1 xs[i].redex.outer:Nat)+(cnL c2 xs[i].redex.inner:Nat)+1+(cnL cNd xs[i].reactum.nodes:Nat)+(cnL c1 xs[i].reactum.sites:Nat),mkL mkS c1 (K+1+(cnL cNd xs[i].redex.nodes:Nat)+(cnL c1 xs[i].redex.sites:Nat)+1+(cnL c1 xs[i].redex.outer:Nat)+(cnL c2 xs[i].redex.inner:Nat)+1+(cnL cNd xs[i].reactum.nodes:Nat)+(cnL c1 xs[i].reactum.sites:Nat)+1) xs[i].reactum.outer,mkL sb c2 (K+1+(cnL cNd xs[i].redex.nodes:Nat)+(cnL c1 xs[i].redex.sites:Nat)+1+(cnL c1 xs[i].redex.outer:Nat)+(cnL c2 xs[i].redex.inner:Nat)+1+(cnL cNd xs[i].reactum.nodes:Nat)+(cnL c1 xs[i].reactum.sites:Nat)+1+(cnL c1 xs[i].reactum.outer:Nat)) xs[i].reactum.inner⟩,xs[i].copies⟩:Rul)))) none (some (v,M))) rfl ?_
  refine jR 20000 12 (fun u=>?_)
  refine dD ?_
  refine kgm ?_
  exact af (i+1,K+1+(cnL cNd xs[i].redex.nodes:Nat)+(cnL c1 xs[i].redex.sites:Nat)+1+(cnL c1 xs[i].redex.outer:Nat)+(cnL c2 xs[i].redex.inner:Nat)+1+(cnL cNd xs[i].reactum.nodes:Nat)+(cnL c1 xs[i].reactum.sites:Nat)+1+(cnL c1 xs[i].reactum.outer:Nat)+(cnL c2 xs[i].reactum.inner:Nat)+(cnL c1 xs[i].copies:Nat),ds.set i (Rul.D (Ai K xs[i]))) ⟨hlt,by show K+1+(cnL cNd xs[i].redex.nodes:Nat)+(cnL c1 xs[i].redex.sites:Nat)+1+(cnL c1 xs[i].redex.outer:Nat)+(cnL c2 xs[i].redex.inner:Nat)+1+(cnL cNd xs[i].reactum.nodes:Nat)+(cnL c1 xs[i].reactum.sites:Nat)+1+(cnL c1 xs[i].reactum.outer:Nat)+(cnL c2 xs[i].reactum.inner:Nat)+(cnL c1 xs[i].copies:Nat)=k+(cnL eQ (xs.take (i+1)):Nat);omega,nL hlt hd hK⟩ (by show _ - (i+1)<_ - i;omega)
 have hie:i=xs.length:=by omega
 rw [s8 hie hd]
 rw [hie,fx] at hK
 rw [← hK]
 refine kgm ?_
 exact Ea hM
end Go.Proofs.YtclpbhoekmecjaaGreatDoor
namespace Go.Proofs.YtclpbhoekmecjaaGreatDoor
open Go.RowKit
set_option linter.unusedVariables false
set_option maxRecDepth 100000
set_option maxHeartbeats 1000000
attribute [local irreducible] aq Der At jI mkL cnL lC
theorem fm (xs:List Int) (k:Int) (h0:0≤k) (h1:k+cnL c1 xs≤1000000000):FnD Tryz.prog 76 [.l 1 ((mkL mkI c1 k xs).map D.i),.i k] (.d (.i (k+cnL c1 xs))):=by
 have hl:=iZ mkI c1 xs k
 have ha:=fun i h=>qg mkI c1 i k xs h (by rw [hl];exact h)
 refine ah Tryz.func76 (fun hw W0=>?_)
 have hw':=(wfM hw.1).1
 obtain ⟨ys,hys⟩:∃ys,mkL mkI c1 k xs=ys:=⟨_,rfl⟩
 simp only [hys] at hl ha hw' ⊢
 refine kgo ?_
 refine aj [0] (fun x:Nat × Int=>x.1≤xs.length∧x.2=k+cnL c1 (xs.take x.1)) (fun x=>xs.length - x.1) (fun x=>[(1,.sy (.d (.i x.2))),(5,.sy (.d (.i x.1)))]) (0,k) ⟨Nat.zero_le _,by simp [cnL]⟩ (fun x hx=>?_)
 obtain ⟨i,K⟩:=x
 obtain ⟨hi,hK⟩:=hx
 dsimp only at hi hK ⊢
 have hc:=aE c1 xs i
 refine kgo ?_
 refine aO (fun h=>?_) (fun h=>?_)
 ·have hlt:i<xs.length:=by omega
  have hlt':i<ys.length:=by omega
  have hct:=d8 c1 xs i hlt
  have hc':=aE c1 xs (i+1)
  have hcx:c1 xs[i]=1:=by first|rfl|(simp only [eQ,jO,jo];omega)|(simp only [gP];omega)
  have hKb:K+c1 xs[i]≤1000000000:=by omega
  have hK0:0≤K:=by omega
  have hat:=ha i hlt
  rw [← hK] at hat
  have e0:ys[i]=K:=by rw [hat];rfl
  refine kgo ?_
  rw [e0]
  refine kJ (fun h=>absurd rfl h) (fun _=>?_)
  refine kgo ?_
  exact af (i+1,K+1) ⟨hlt,by show K+1=k+(cnL c1 (xs.take (i+1)):Nat);omega⟩ (by show _ - (i+1)<_ - i;omega)
 have hie:i=xs.length:=by omega
 rw [hie,fx] at hK
 rw [← hK]
 refine kgo ?_
 exact ar
theorem mn (xs:List ByteArray) (k:Int) (h0:0≤k) (h1:k+cnL c1 xs≤1000000000):FnD Tryz.prog 77 [.l 1 ((mkL mkS c1 k xs).map D.s),.i k] (.d (.i (k+cnL c1 xs))):=by
 have hl:=iZ mkS c1 xs k
 have ha:=fun i h=>qg mkS c1 i k xs h (by rw [hl];exact h)
 refine ah Tryz.func77 (fun hw W0=>?_)
 have hw':=(wfM hw.1).1
 obtain ⟨ys,hys⟩:∃ys,mkL mkS c1 k xs=ys:=⟨_,rfl⟩
 simp only [hys] at hl ha hw' ⊢
 refine kgo ?_
 refine aj [0] (fun x:Nat × Int=>x.1≤xs.length∧x.2=k+cnL c1 (xs.take x.1)) (fun x=>xs.length - x.1) (fun x=>[(1,.sy (.d (.i x.2))),(5,.sy (.d (.i x.1)))]) (0,k) ⟨Nat.zero_le _,by simp [cnL]⟩ (fun x hx=>?_)
 obtain ⟨i,K⟩:=x
 obtain ⟨hi,hK⟩:=hx
 dsimp only at hi hK ⊢
 have hc:=aE c1 xs i
 refine kgo ?_
 refine aO (fun h=>?_) (fun h=>?_)
 ·have hlt:i<xs.length:=by omega
  have hlt':i<ys.length:=by omega
  have hct:=d8 c1 xs i hlt
  have hc':=aE c1 xs (i+1)
  have hcx:c1 xs[i]=1:=by first|rfl|(simp only [eQ,jO,jo];omega)|(simp only [gP];omega)
  have hKb:K+c1 xs[i]≤1000000000:=by omega
  have hK0:0≤K:=by omega
  have hat:=ha i hlt
  rw [← hK] at hat
  have f0:=i9 (K) (by omega) (by omega)
  have e0:ys[i]=jI (K):=by rw [hat];rfl
  refine kgo ?_
  rw [e0]
  refine cIf (fun h=>?_) (fun _=>?_)
  ·simp at h
  refine kgo ?_
  exact af (i+1,K+1) ⟨hlt,by show K+1=k+(cnL c1 (xs.take (i+1)):Nat);omega⟩ (by show _ - (i+1)<_ - i;omega)
 have hie:i=xs.length:=by omega
 rw [hie,fx] at hK
 rw [← hK]
 refine kgo ?_
 exact ar
theorem oI (xs:List Wr) (k:Int) (h0:0≤k) (h1:k+cnL c2 xs≤1000000000):FnD Tryz.prog 78 [.l 2 ((mkL sb c2 k xs).map Wr.D),.i k] (.d (.i (k+cnL c2 xs))):=by
 have hl:=iZ sb c2 xs k
 have ha:=fun i h=>qg sb c2 i k xs h (by rw [hl];exact h)
 refine ah Tryz.func78 (fun hw W0=>?_)
 have hw':=(wfM hw.1).1
 obtain ⟨ys,hys⟩:∃ys,mkL sb c2 k xs=ys:=⟨_,rfl⟩
 simp only [hys] at hl ha hw' ⊢
 refine kgo ?_
 refine aj [0] (fun x:Nat × Int=>x.1≤xs.length∧x.2=k+cnL c2 (xs.take x.1)) (fun x=>xs.length - x.1) (fun x=>[(1,.sy (.d (.i x.2))),(5,.sy (.d (.i x.1)))]) (0,k) ⟨Nat.zero_le _,by simp [cnL]⟩ (fun x hx=>?_)
 obtain ⟨i,K⟩:=x
 obtain ⟨hi,hK⟩:=hx
 dsimp only at hi hK ⊢
 have hc:=aE c2 xs i
 refine kgo ?_
 refine aO (fun h=>?_) (fun h=>?_)
 ·have hlt:i<xs.length:=by omega
  have hlt':i<ys.length:=by omega
  have hct:=d8 c2 xs i hlt
  have hc':=aE c2 xs (i+1)
  have hcx:c2 xs[i]=2:=by first|rfl|(simp only [eQ,jO,jo];omega)|(simp only [gP];omega)
  have hKb:K+c2 xs[i]≤1000000000:=by omega
  have hK0:0≤K:=by omega
  have hat:=ha i hlt
  rw [← hK] at hat
  have f0:=i9 (K) (by omega) (by omega)
  have e0:ys[i].name=jI (K):=by rw [hat];rfl
  have e1:ys[i].link=K+1:=by rw [hat];rfl
  refine kgo ?_
  rw [e0]
  refine cIf (fun h=>?_) (fun _=>?_)
  ·simp at h
  refine kgo ?_
  rw [e1]
  refine kJ (fun h=>absurd rfl h) (fun _=>?_)
  refine kgo ?_
  exact af (i+1,K+1+1) ⟨hlt,by show K+1+1=k+(cnL c2 (xs.take (i+1)):Nat);omega⟩ (by show _ - (i+1)<_ - i;omega)
 have hie:i=xs.length:=by omega
 rw [hie,fx] at hK
 rw [← hK]
 refine kgo ?_
 exact ar
theorem oJ (xs:List Nd) (k:Int) (h0:0≤k) (h1:k+cnL cNd xs≤1000000000):FnD Tryz.prog 75 [.l 3 ((mkL lO cNd k xs).map Nd.D),.i k] (.d (.i (k+cnL cNd xs))):=by
 have hl:=iZ lO cNd xs k
 have ha:=fun i h=>qg lO cNd i k xs h (by rw [hl];exact h)
 refine ah Tryz.func75 (fun hw W0=>?_)
 have hw':=(wfM hw.1).1
 obtain ⟨ys,hys⟩:∃ys,mkL lO cNd k xs=ys:=⟨_,rfl⟩
 simp only [hys] at hl ha hw' ⊢
 refine kgo ?_
 refine aj [0] (fun x:Nat × Int=>x.1≤xs.length∧x.2=k+cnL cNd (xs.take x.1)) (fun x=>xs.length - x.1) (fun x=>[(1,.sy (.d (.i x.2))),(5,.sy (.d (.i x.1)))]) (0,k) ⟨Nat.zero_le _,by simp [cnL]⟩ (fun x hx=>?_)
 obtain ⟨i,K⟩:=x
 obtain ⟨hi,hK⟩:=hx
 dsimp only at hi hK ⊢
 have hc:=aE cNd xs i
 refine kgo ?_
 refine aO (fun h=>?_) (fun h=>?_)
 ·have hlt:i<xs.length:=by omega
  have hlt':i<ys.length:=by omega
  have hct:=d8 cNd xs i hlt
  have hc':=aE cNd xs (i+1)
  have hcx:cNd xs[i]=2+cnL c1 xs[i].links:=by first|rfl|(simp only [eQ,jO,jo];omega)|(simp only [gP];omega)
  have hKb:K+cNd xs[i]≤1000000000:=by omega
  have hK0:0≤K:=by omega
  have hat:=ha i hlt
  rw [← hK] at hat
  have e0:ys[i].control=K:=by rw [hat];rfl
  have e1:ys[i].parent=K+1:=by rw [hat];rfl
  have f2:=fm xs[i].links (K+1+1) (by omega) (by omega)
  rw [show mkL mkI c1 (K+1+1) xs[i].links=ys[i].links by rw [hat];rfl] at f2
  refine kgo ?_
  rw [e0]
  refine kJ (fun h=>absurd rfl h) (fun _=>?_)
  refine kgo ?_
  rw [e1]
  refine kJ (fun h=>absurd rfl h) (fun _=>?_)
  refine kgo ?_
  refine aO (fun h=>?_) (fun _=>?_)
  ·omega
  refine kgo ?_
  exact af (i+1,K+1+1+(cnL c1 xs[i].links:Nat)) ⟨hlt,by show K+1+1+(cnL c1 xs[i].links:Nat)=k+(cnL cNd (xs.take (i+1)):Nat);omega⟩ (by show _ - (i+1)<_ - i;omega)
 have hie:i=xs.length:=by omega
 rw [hie,fx] at hK
 rw [← hK]
 refine kgo ?_
 exact ar
theorem sU (xs:List Mat) (k:Int) (h0:0≤k) (h1:k+cnL gP xs≤1000000000):FnD Tryz.prog 88 [.l 2 ((mkL tu gP k xs).map Mat.D),.i k] (.d (.i (k+cnL gP xs))):=by
 have hl:=iZ tu gP xs k
 have ha:=fun i h=>qg tu gP i k xs h (by rw [hl];exact h)
 refine ah Tryz.func88 (fun hw W0=>?_)
 have hw':=(wfM hw.1).1
 obtain ⟨ys,hys⟩:∃ys,mkL tu gP k xs=ys:=⟨_,rfl⟩
 simp only [hys] at hl ha hw' ⊢
 refine kgo ?_
 refine aj [0] (fun x:Nat × Int=>x.1≤xs.length∧x.2=k+cnL gP (xs.take x.1)) (fun x=>xs.length - x.1) (fun x=>[(1,.sy (.d (.i x.2))),(5,.sy (.d (.i x.1)))]) (0,k) ⟨Nat.zero_le _,by simp [cnL]⟩ (fun x hx=>?_)
 obtain ⟨i,K⟩:=x
 obtain ⟨hi,hK⟩:=hx
 dsimp only at hi hK ⊢
 have hc:=aE gP xs i
 refine kgo ?_
 refine aO (fun h=>?_) (fun h=>?_)
 ·have hlt:i<xs.length:=by omega
  have hlt':i<ys.length:=by omega
  have hct:=d8 gP xs i hlt
  have hc':=aE gP xs (i+1)
  have hcx:gP xs[i]=0+cnL c1 xs[i].nodes+cnL c1 xs[i].roots:=by first|rfl|(simp only [eQ,jO,jo];omega)|(simp only [gP];omega)
  have hKb:K+gP xs[i]≤1000000000:=by omega
  have hK0:0≤K:=by omega
  have hat:=ha i hlt
  rw [← hK] at hat
  have f0:=fm xs[i].nodes (K) (by omega) (by omega)
  rw [show mkL mkI c1 (K) xs[i].nodes=ys[i].nodes by rw [hat];rfl] at f0
  have f1:=fm xs[i].roots (K+(cnL c1 xs[i].nodes:Nat)) (by omega) (by omega)
  rw [show mkL mkI c1 (K+(cnL c1 xs[i].nodes:Nat)) xs[i].roots=ys[i].roots by rw [hat];rfl] at f1
  refine kgo ?_
  refine aO (fun h=>?_) (fun _=>?_)
  ·omega
  refine kgo ?_
  refine aO (fun h=>?_) (fun _=>?_)
  ·omega
  refine kgo ?_
  exact af (i+1,K+(cnL c1 xs[i].nodes:Nat)+(cnL c1 xs[i].roots:Nat)) ⟨hlt,by show K+(cnL c1 xs[i].nodes:Nat)+(cnL c1 xs[i].roots:Nat)=k+(cnL gP (xs.take (i+1)):Nat);omega⟩ (by show _ - (i+1)<_ - i;omega)
 have hie:i=xs.length:=by omega
 rw [hie,fx] at hK
 rw [← hK]
 refine kgo ?_
 exact ar
end Go.Proofs.YtclpbhoekmecjaaGreatDoor
namespace Go.Proofs.YtclpbhoekmecjaaGreatDoor
open Go.RowKit
set_option linter.unusedVariables false
set_option maxRecDepth 100000
set_option maxHeartbeats 1000000
attribute [local irreducible] aq Der At jI mkL cnL lC
theorem ju (b:Big) (k:Int) (h0:0≤k) (h1:k+jo b≤1000000000):HO Tryz.prog 23 [.i b.roots,.l 3 (b.nodes.map Nd.D),DI b.sites,.i b.edges,.l 1 (b.outer.map D.s),.l 2 (b.inner.map Wr.D)] [.i (jJ k b).roots,.l 3 ((jJ k b).nodes.map Nd.D),DI (jJ k b).sites,.i (jJ k b).edges,.l 1 ((jJ k b).outer.map D.s),.l 2 ((jJ k b).inner.map Wr.D)] k (k+jo b):=by
 have e:jo b=cnL cNd b.nodes+cnL c1 b.sites+cnL c1 b.outer+cnL c2 b.inner:=rfl
 have f1:=jM b.nodes k h0 (by omega)
 have f2:=dy b.sites (k+(cnL cNd b.nodes:Nat)) (by omega) (by omega)
 have f3:=gW b.outer (k+(cnL cNd b.nodes:Nat)+(cnL c1 b.sites:Nat)) (by omega) (by omega)
 have f4:=jD b.inner (k+(cnL cNd b.nodes:Nat)+(cnL c1 b.sites:Nat)+(cnL c1 b.outer:Nat)) (by omega) (by omega)
 rw [show k+(jo b:Int)=k+(cnL cNd b.nodes:Nat)+(cnL c1 b.sites:Nat)+(cnL c1 b.outer:Nat)+(cnL c2 b.inner:Nat) by omega]
 refine zj Tryz.func23 (BO h0 (by omega)) (fun W0 V T=>?_)
 refine kgl ?_
 exact Gu
def lN (t:Trc):Nat:=cnL c1 t.rules+cnL gP t.ms
def qY (k:Int) (t:Trc):Trc:=⟨mkL mkI c1 k t.rules,mkL tu gP (k+cnL c1 t.rules) t.ms⟩
theorem vu (t:Trc) (k:Int) (h0:0≤k) (h1:k+lN t≤1000000000):HO Tryz.prog 24 [DI t.rules,.l 2 (t.ms.map Mat.D)] [DI (qY k t).rules,.l 2 ((qY k t).ms.map Mat.D)] k (k+lN t):=by
 have e:lN t=cnL c1 t.rules+cnL gP t.ms:=rfl
 have f1:=dy t.rules k h0 (by omega)
 have f2:=tz t.ms (k+(cnL c1 t.rules:Nat)) (by omega) (by omega)
 rw [show k+(lN t:Int)=k+(cnL c1 t.rules:Nat)+(cnL gP t.ms:Nat) by omega]
 refine zj Tryz.func24 (BO h0 (by omega)) (fun W0 V T=>?_)
 refine kgl ?_
 exact Gu
theorem mD (b:Big) (k:Int) (h0:0≤k) (h1:k+jo b≤1000000000):FnD Tryz.prog 25 [(jJ k b).D,.i k] (.d (.i (k+jo b))):=by
 have e:jo b=cnL cNd b.nodes+cnL c1 b.sites+cnL c1 b.outer+cnL c2 b.inner:=rfl
 have f1:=oJ b.nodes k h0 (by omega)
 have f2:=fm b.sites (k+(cnL cNd b.nodes:Nat)) (by omega) (by omega)
 have f3:=mn b.outer (k+(cnL cNd b.nodes:Nat)+(cnL c1 b.sites:Nat)) (by omega) (by omega)
 have f4:=oI b.inner (k+(cnL cNd b.nodes:Nat)+(cnL c1 b.sites:Nat)+(cnL c1 b.outer:Nat)) (by omega) (by omega)
 rw [show k+(jo b:Int)=k+(cnL cNd b.nodes:Nat)+(cnL c1 b.sites:Nat)+(cnL c1 b.outer:Nat)+(cnL c2 b.inner:Nat) by omega]
 refine ah Tryz.func25 (fun hw W0=>?_)
 refine kgo ?_
 refine aO (fun h=>?_) (fun _=>?_)
 ·omega
 refine kgo ?_
 refine aO (fun h=>?_) (fun _=>?_)
 ·omega
 refine kgo ?_
 refine aO (fun h=>?_) (fun _=>?_)
 ·omega
 refine kgo ?_
 refine aO (fun h=>?_) (fun _=>?_)
 ·omega
 refine kgo ?_
 exact ar
end Go.Proofs.YtclpbhoekmecjaaGreatDoor
namespace Go.Proofs.YtclpbhoekmecjaaGreatDoor
open Go.RowKit
set_option linter.unusedVariables false
set_option maxRecDepth 100000
set_option maxHeartbeats 1000000
attribute [local irreducible] aq Der At
theorem kI (xs:List Int):FnD Tryz.prog 63 [.l 1 (xs.map D.i),.l 1 (xs.map D.i)] (.d (.b true)):=by
 refine ah Tryz.func63 (fun hw W0=>?_)
 have hl:=(wfM hw.1).1
 refine kgo ?_
 refine kJ (fun h=>absurd rfl h) (fun _=>?_)
 refine kgo ?_
 refine aj [0,1] (fun i:Nat=>i≤xs.length) (fun i=>xs.length - i) (fun i=>[(5,.sy (.d (.i i)))]) 0 (Nat.zero_le _) (fun i hi=>?_)
 refine kgo ?_
 refine aO (fun h=>?_) (fun h=>?_)
 ·have hlt:i<xs.length:=by omega
  refine kgo ?_
  refine kJ (fun h=>absurd rfl h) (fun _=>?_)
  refine kgo ?_
  exact af (i+1) hlt (by show _ - (i+1)<_ - i;omega)
 refine kgo ?_
 exact ar
theorem vQ (xs:List ByteArray):FnD Tryz.prog 64 [.l 1 (xs.map D.s),.l 1 (xs.map D.s)] (.d (.b true)):=by
 refine ah Tryz.func64 (fun hw W0=>?_)
 have hl:=(wfM hw.1).1
 refine kgo ?_
 refine kJ (fun h=>absurd rfl h) (fun _=>?_)
 refine kgo ?_
 refine aj [0,1] (fun i:Nat=>i≤xs.length) (fun i=>xs.length - i) (fun i=>[(5,.sy (.d (.i i)))]) 0 (Nat.zero_le _) (fun i hi=>?_)
 refine kgo ?_
 refine aO (fun h=>?_) (fun h=>?_)
 ·have hlt:i<xs.length:=by omega
  refine kgo ?_
  refine cIf (fun h=>?_) (fun _=>?_)
  ·simp at h
  refine kgo ?_
  exact af (i+1) hlt (by show _ - (i+1)<_ - i;omega)
 refine kgo ?_
 exact ar
theorem vx (x:Ctl):FnD Tryz.prog 66 [Ctl.D x,Ctl.D x] (.d (.b true)):=by
 refine ah Tryz.func66 (fun hw W0=>?_)
 refine kgo ?_
 refine cIf (fun h=>?_) (fun _=>?_)
 ·simp at h
 refine kgo ?_
 refine kJ (fun h=>absurd rfl h) (fun _=>?_)
 refine kgo ?_
 refine kJ (fun h=>absurd rfl h) (fun _=>?_)
 refine kgo ?_
 exact ar
theorem nF (xs:List Ctl):FnD Tryz.prog 18 [.l 3 (xs.map Ctl.D),.l 3 (xs.map Ctl.D)] (.d (.b true)):=by
 refine ah Tryz.func18 (fun hw W0=>?_)
 have hl:=(wfM hw.1).1
 refine kgo ?_
 refine kJ (fun h=>absurd rfl h) (fun _=>?_)
 refine kgo ?_
 refine aj [0,1] (fun i:Nat=>i≤xs.length) (fun i=>xs.length - i) (fun i=>[(5,.sy (.d (.i i)))]) 0 (Nat.zero_le _) (fun i hi=>?_)
 refine kgo ?_
 refine aO (fun h=>?_) (fun h=>?_)
 ·have hlt:i<xs.length:=by omega
  have f:=vx xs[i]
  refine kgo ?_
  exact af (i+1) hlt (by show _ - (i+1)<_ - i;omega)
 refine kgo ?_
 exact ar
theorem CP (x:Wr):FnD Tryz.prog 120 [Wr.D x,Wr.D x] (.d (.b true)):=by
 refine ah Tryz.func120 (fun hw W0=>?_)
 refine kgo ?_
 refine cIf (fun h=>?_) (fun _=>?_)
 ·simp at h
 refine kgo ?_
 refine kJ (fun h=>absurd rfl h) (fun _=>?_)
 refine kgo ?_
 exact ar
theorem Ab (xs:List Wr):FnD Tryz.prog 65 [.l 2 (xs.map Wr.D),.l 2 (xs.map Wr.D)] (.d (.b true)):=by
 refine ah Tryz.func65 (fun hw W0=>?_)
 have hl:=(wfM hw.1).1
 refine kgo ?_
 refine kJ (fun h=>absurd rfl h) (fun _=>?_)
 refine kgo ?_
 refine aj [0,1] (fun i:Nat=>i≤xs.length) (fun i=>xs.length - i) (fun i=>[(5,.sy (.d (.i i)))]) 0 (Nat.zero_le _) (fun i hi=>?_)
 refine kgo ?_
 refine aO (fun h=>?_) (fun h=>?_)
 ·have hlt:i<xs.length:=by omega
  have f:=CP xs[i]
  refine kgo ?_
  exact af (i+1) hlt (by show _ - (i+1)<_ - i;omega)
 refine kgo ?_
 exact ar
theorem CG (x:Nd):FnD Tryz.prog 119 [Nd.D x,Nd.D x] (.d (.b true)):=by
 have flinks:=kI x.links
 refine ah Tryz.func119 (fun hw W0=>?_)
 refine kgo ?_
 refine kJ (fun h=>absurd rfl h) (fun _=>?_)
 refine kgo ?_
 refine kJ (fun h=>absurd rfl h) (fun _=>?_)
 refine kgo ?_
 exact ar
theorem A8 (xs:List Nd):FnD Tryz.prog 62 [.l 3 (xs.map Nd.D),.l 3 (xs.map Nd.D)] (.d (.b true)):=by
 refine ah Tryz.func62 (fun hw W0=>?_)
 have hl:=(wfM hw.1).1
 refine kgo ?_
 refine kJ (fun h=>absurd rfl h) (fun _=>?_)
 refine kgo ?_
 refine aj [0,1] (fun i:Nat=>i≤xs.length) (fun i=>xs.length - i) (fun i=>[(5,.sy (.d (.i i)))]) 0 (Nat.zero_le _) (fun i hi=>?_)
 refine kgo ?_
 refine aO (fun h=>?_) (fun h=>?_)
 ·have hlt:i<xs.length:=by omega
  have f:=CG xs[i]
  refine kgo ?_
  exact af (i+1) hlt (by show _ - (i+1)<_ - i;omega)
 refine kgo ?_
 exact ar
theorem eD (x:Big):FnD Tryz.prog 17 [Big.D x,Big.D x] (.d (.b true)):=by
 have fnodes:=A8 x.nodes
 have fsites:=kI x.sites
 have fouter:=vQ x.outer
 have finner:=Ab x.inner
 refine ah Tryz.func17 (fun hw W0=>?_)
 refine kgo ?_
 refine kJ (fun h=>absurd rfl h) (fun _=>?_)
 refine kgo ?_
 refine kJ (fun h=>absurd rfl h) (fun _=>?_)
 refine kgo ?_
 exact ar
theorem CS (x:Rul):FnD Tryz.prog 67 [Rul.D x,Rul.D x] (.d (.b true)):=by
 have fredex:=eD x.redex
 have freactum:=eD x.reactum
 have fcopies:=kI x.copies
 refine ah Tryz.func67 (fun hw W0=>?_)
 refine kgo ?_
 exact ar
theorem sF (xs:List Rul):FnD Tryz.prog 19 [.l 13 (xs.map Rul.D),.l 13 (xs.map Rul.D)] (.d (.b true)):=by
 refine ah Tryz.func19 (fun hw W0=>?_)
 have hl:=(wfM hw.1).1
 refine kgo ?_
 refine kJ (fun h=>absurd rfl h) (fun _=>?_)
 refine kgo ?_
 refine aj [0,1] (fun i:Nat=>i≤xs.length) (fun i=>xs.length - i) (fun i=>[(5,.sy (.d (.i i)))]) 0 (Nat.zero_le _) (fun i hi=>?_)
 refine kgo ?_
 refine aO (fun h=>?_) (fun h=>?_)
 ·have hlt:i<xs.length:=by omega
  have f:=CS xs[i]
  refine kgo ?_
  exact af (i+1) hlt (by show _ - (i+1)<_ - i;omega)
 refine kgo ?_
 exact ar
theorem tH (x:Mat):FnD Tryz.prog 79 [Mat.D x,Mat.D x] (.d (.b true)):=by
 have fnodes:=kI x.nodes
 have froots:=kI x.roots
 refine ah Tryz.func79 (fun hw W0=>?_)
 refine kgo ?_
 exact ar
theorem xz (xs:List Mat):FnD Tryz.prog 68 [.l 2 (xs.map Mat.D),.l 2 (xs.map Mat.D)] (.d (.b true)):=by
 refine ah Tryz.func68 (fun hw W0=>?_)
 have hl:=(wfM hw.1).1
 refine kgo ?_
 refine kJ (fun h=>absurd rfl h) (fun _=>?_)
 refine kgo ?_
 refine aj [0,1] (fun i:Nat=>i≤xs.length) (fun i=>xs.length - i) (fun i=>[(5,.sy (.d (.i i)))]) 0 (Nat.zero_le _) (fun i hi=>?_)
 refine kgo ?_
 refine aO (fun h=>?_) (fun h=>?_)
 ·have hlt:i<xs.length:=by omega
  have f:=tH xs[i]
  refine kgo ?_
  exact af (i+1) hlt (by show _ - (i+1)<_ - i;omega)
 refine kgo ?_
 exact ar
theorem oA (x:Trc):FnD Tryz.prog 20 [Trc.D x,Trc.D x] (.d (.b true)):=by
 have frules:=kI x.rules
 have fms:=xz x.ms
 refine ah Tryz.func20 (fun hw W0=>?_)
 refine kgo ?_
 exact ar
end Go.Proofs.YtclpbhoekmecjaaGreatDoor
