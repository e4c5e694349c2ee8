/-
  Proved facts that the law leans on.
-/
import Derived.Test.YtacafmejcdgboaaGreatDoorZG6
import Derived.Test.YtacafmejcdgboaaGreatDoorZG9
import Derived.Test.YtacafmejcdgboaaGreatDoorZG10
import Derived.Test.YtacafmejcdgboaaGreatDoorZG11
import Derived.Test.YtacafmejcdgboaaGreatDoorZG12
import Derived.Test.YtacafmejcdgboaaGreatDoorZG13
import Derived.Shelf.SlGeneric
import Derived.Shelf.SlSortCmp.NoneTotal
import Derived.Shelf.Spec.SlicesGrow
import Derived.Shelf.SlicesE.DeleteFunc
import Derived.Test.YtacafmejcdgboaaGreatDoorProg
namespace Go.Proofs
open Go.Shelf
def Tryz.sortW_ren : Go.Shelf.Ren := ⟨fun | 6 => 231 | 15 => 267 | 14 => 266 | 28 => 298 | 29 => 299 | 20 => 290 | 21 => 291 | 22 => 292 | 23 => 293 | 24 => 294 | 25 => 295 | 26 => 296 | 27 => 297 | 46 => 330 | 47 => 331 | 48 => 332 | 49 => 333 | 50 => 334 | 57 => 362 | n => n, fun | 22 => 44 | 24 => 153 | 25 => 249 | 3 => 3 | 39 => 264 | 0 => 0 | 53 => 276 | 55 => 279 | 4 => 4 | 46 => 286 | 45 => 285 | 50 => 226 | 5 => 5 | 9 => 9 | 66 => 316 | 70 => 320 | 76 => 339 | 77 => 340 | n => n, fun | n => n⟩
theorem Tryz.sortW : Go.Proofs.SlLaysF0.n6 Tryz.prog Tryz.sortW_ren := {
  mixed := by kernel_rfl
  f6 := ⟨Tryz.f231.name, by decide, Tryz.func231.trans (congrArg some (by kernel_rfl))⟩
  f14 := ⟨Tryz.f266.name, by decide, Tryz.func266.trans (congrArg some (by kernel_rfl))⟩
  f15 := Tryz.func267.trans (congrArg some (by kernel_rfl))
  f20 := ⟨Tryz.f290.name, by decide, Tryz.func290.trans (congrArg some (by kernel_rfl))⟩
  f21 := ⟨Tryz.f291.name, by decide, Tryz.func291.trans (congrArg some (by kernel_rfl))⟩
  f22 := ⟨Tryz.f292.name, by decide, Tryz.func292.trans (congrArg some (by kernel_rfl))⟩
  f23 := ⟨Tryz.f293.name, by decide, Tryz.func293.trans (congrArg some (by kernel_rfl))⟩
  f24 := ⟨Tryz.f294.name, by decide, Tryz.func294.trans (congrArg some (by kernel_rfl))⟩
  f25 := ⟨Tryz.f295.name, by decide, Tryz.func295.trans (congrArg some (by kernel_rfl))⟩
  f26 := ⟨Tryz.f296.name, by decide, Tryz.func296.trans (congrArg some (by kernel_rfl))⟩
  f27 := ⟨Tryz.f297.name, by decide, Tryz.func297.trans (congrArg some (by kernel_rfl))⟩
  f28 := Tryz.func298.trans (congrArg some (by kernel_rfl))
  f29 := Tryz.func299.trans (congrArg some (by kernel_rfl))
  f46 := ⟨Tryz.f330.name, by decide, Tryz.func330.trans (congrArg some (by kernel_rfl))⟩
  f47 := Tryz.func331.trans (congrArg some (by kernel_rfl))
  f48 := Tryz.func332.trans (congrArg some (by kernel_rfl))
  f49 := ⟨Tryz.f333.name, by decide, Tryz.func333.trans (congrArg some (by kernel_rfl))⟩
  f50 := ⟨Tryz.f334.name, by decide, Tryz.func334.trans (congrArg some (by kernel_rfl))⟩
  f57 := ⟨Tryz.f362.name, by decide, Tryz.func362.trans (congrArg some (by kernel_rfl))⟩
  t0 := Tryz.underlying0
  a0 := Tryz.isAgg0
  z0 := Tryz.sizeOf0
  v0 := Tryz.zeroValue0
  t3 := Tryz.underlying3
  a3 := Tryz.isAgg3
  z3 := Tryz.sizeOf3
  v3 := Tryz.zeroValue3
  t4 := Tryz.underlying4
  a4 := Tryz.isAgg4
  z4 := Tryz.sizeOf4
  v4 := Tryz.zeroValue4
  t5 := Tryz.underlying5
  a5 := Tryz.isAgg5
  z5 := Tryz.sizeOf5
  v5 := Tryz.zeroValue5
  t9 := Tryz.underlying9
  a9 := Tryz.isAgg9
  z9 := Tryz.sizeOf9
  v9 := Tryz.zeroValue9
  t22 := Tryz.underlying44
  a22 := Tryz.isAgg44
  z22 := Tryz.sizeOf44
  v22 := Tryz.zeroValue44
  t25 := Tryz.underlying249
  a25 := Tryz.isAgg249
  z25 := Tryz.sizeOf249
  v25 := Tryz.zeroValue249
  t39 := Tryz.underlying264
  a39 := Tryz.isAgg264
  z39 := Tryz.sizeOf264
  v39 := Tryz.zeroValue264
  t45 := Tryz.underlying285
  a45 := Tryz.isAgg285
  z45 := Tryz.sizeOf285
  v45 := Tryz.zeroValue285
  t46 := Tryz.underlying286
  a46 := Tryz.isAgg286
  z46 := Tryz.sizeOf286
  v46 := Tryz.zeroValue286
  t50 := Tryz.underlying226
  a50 := Tryz.isAgg226
  z50 := Tryz.sizeOf226
  v50 := Tryz.zeroValue226
  t53 := Tryz.underlying276
  a53 := Tryz.isAgg276
  z53 := Tryz.sizeOf276
  v53 := Tryz.zeroValue276
  t55 := Tryz.underlying279
  a55 := Tryz.isAgg279
  z55 := Tryz.sizeOf279
  v55 := Tryz.zeroValue279
  t66 := Tryz.underlying316
  a66 := Tryz.isAgg316
  z66 := Tryz.sizeOf316
  v66 := Tryz.zeroValue316
  t70 := Tryz.underlying320
  a70 := Tryz.isAgg320
  z70 := Tryz.sizeOf320
  v70 := Tryz.zeroValue320
  t76 := Tryz.underlying339
  a76 := Tryz.isAgg339
  z76 := Tryz.sizeOf339
  v76 := Tryz.zeroValue339
  t77 := Tryz.underlying340
  a77 := Tryz.isAgg340
  z77 := Tryz.sizeOf340
  v77 := Tryz.zeroValue340 }
def Tryz.growS_ren : Go.Shelf.Ren := ⟨fun | 4 => 363 | n => n, fun | 22 => 26 | 25 => 9 | 3 => 3 | 4 => 4 | 9 => 9 | 20 => 20 | 0 => 0 | n => n, fun | n => n⟩
theorem Tryz.growS : Go.Proofs.Lays8.n4 Tryz.prog Tryz.growS_ren := {
  mixed := by kernel_rfl
  f4 := ⟨Tryz.f363.name, by decide, Tryz.func363.trans (congrArg some (by kernel_rfl))⟩
  t0 := Tryz.underlying0
  a0 := Tryz.isAgg0
  z0 := Tryz.sizeOf0
  v0 := Tryz.zeroValue0
  t3 := Tryz.underlying3
  a3 := Tryz.isAgg3
  z3 := Tryz.sizeOf3
  v3 := Tryz.zeroValue3
  t4 := Tryz.underlying4
  a4 := Tryz.isAgg4
  z4 := Tryz.sizeOf4
  v4 := Tryz.zeroValue4
  t9 := Tryz.underlying9
  a9 := Tryz.isAgg9
  z9 := Tryz.sizeOf9
  v9 := Tryz.zeroValue9
  t20 := Tryz.underlying20
  a20 := Tryz.isAgg20
  z20 := Tryz.sizeOf20
  v20 := Tryz.zeroValue20
  t22 := Tryz.underlying26
  a22 := Tryz.isAgg26
  z22 := Tryz.sizeOf26
  v22 := Tryz.zeroValue26 }
def Tryz.delS_ren : Go.Shelf.Ren := ⟨fun | 10 => 235 | 6 => 268 | n => n, fun | 22 => 26 | 23 => 9 | 25 => 221 | 3 => 3 | 4 => 4 | 0 => 0 | n => n, fun | n => n⟩
theorem Tryz.delS : Go.Proofs.SlLaysH.n10 Tryz.prog Tryz.delS_ren := {
  mixed := by kernel_rfl
  f6 := ⟨Tryz.f268.name, by decide, Tryz.func268.trans (congrArg some (by kernel_rfl))⟩
  f10 := ⟨Tryz.f235.name, by decide, Tryz.func235.trans (congrArg some (by kernel_rfl))⟩
  t0 := Tryz.underlying0
  a0 := Tryz.isAgg0
  z0 := Tryz.sizeOf0
  v0 := Tryz.zeroValue0
  t3 := Tryz.underlying3
  a3 := Tryz.isAgg3
  z3 := Tryz.sizeOf3
  v3 := Tryz.zeroValue3
  t4 := Tryz.underlying4
  a4 := Tryz.isAgg4
  z4 := Tryz.sizeOf4
  v4 := Tryz.zeroValue4
  t22 := Tryz.underlying26
  a22 := Tryz.isAgg26
  z22 := Tryz.sizeOf26
  v22 := Tryz.zeroValue26
  a23 := Tryz.isAgg9
  z23 := Tryz.sizeOf9
  t25 := Tryz.underlying221
  a25 := Tryz.isAgg221
  z25 := Tryz.sizeOf221
  v25 := Tryz.zeroValue221 }
end Go.Proofs
namespace Go.Proofs.YtacafmejcdgboaaGreatDoor
open Go.RowKit Go.Sort
set_option linter.unusedVariables false
set_option linter.unusedSimpArgs false
set_option maxRecDepth 100000
set_option maxHeartbeats 4000000
attribute [local irreducible] ar Der At
instance:Inhabited Wr:=⟨⟨⟨#[]⟩,0⟩⟩
abbrev Jk (x:Wr):List Value:=[.string x.name,.int .i64 x.link]
theorem I8:Da 2 Jk Wr.D:=⟨fun _=>rfl,fun w S x cs h=>by
 obtain ⟨c,e,rfl,⟨rfl,_⟩,c',e',rfl,⟨rfl,_⟩,rfl⟩:=h
 rfl,fun w w' S S' x cs h=>by
 obtain ⟨c,e,rfl,⟨rfl,h1⟩,c',e',rfl,⟨rfl,h2⟩,rfl⟩:=h
 exact ⟨[_],[_],rfl,⟨rfl,h1⟩,[_],[],rfl,⟨rfl,h2⟩,rfl⟩⟩
def tS (x y:Wr):Int:=if cQ x.name y.name=true then -1 else 1
theorem ltW (x y:Wr):ltOf tS x y=cQ x.name y.name:=by
 unfold ltOf tS
 cases cQ x.name y.name <;> rfl
theorem JR:SWO (ltOf tS) where
 irrefl x:=by
  rw [ltW]
  exact wY _
 trans x y z h1 h2:=by
  rw [ltW] at *
  exact mC _ _ _ h1 h2
 ntrans x y z h1 h2:=by
  rw [ltW] at *
  cases h:cQ x.name z.name with
  | false=>rfl
  | true=>
   have hzy:¬NLt y.name z.name:=fun e=>by rw [show cQ y.name z.name=true from e] at h2;cases h2
   have hxy:¬NLt x.name y.name:=fun e=>by rw [show cQ x.name y.name=true from e] at h1;cases h1
   by_cases e:x.name=y.name
   ·rw [e] at h;exact absurd h hzy
   ·exact absurd (NLt.trans _ _ _ ((NLt.total e).resolve_left hxy) h) hzy
theorem n8 (l:List Wr) (g:Nat) (hl:l.length≤1000) (hn:(l.map Wr.name).Nodup) (eg:∀args w,(callFunc g args).run Tryz.prog w=.ok (.enter g args) w)
 (hg:∀(x y:Wr) (W:World),Calls Tryz.prog g #[.agg #[.string x.name,.int .i64 x.link],.agg #[.string y.name,.int .i64 y.link]] W fun e w'=>e=.returned (.int .i64 (tS x y))∧∃q os',w'=grow (W.drewN q) os'):FnS Tryz.prog 231 2 153 (l.map Wr.D) [.f g []] ((wK l).map Wr.D):=by
 refine EN (vs0:=[.func (.func g) #[] #[]]) (by decide) I8 (bS Tryz.func231) (fun y hy=>?_) (wE l) (fun w F vs h=>?_) (fun p cap w=>?_) (fun b cap w hH hb=>?_)
 ·have:=(Bz l [] List.Pairwise.nil (by simpa using hn)).2 y
  simpa using this.1 hy
 ·obtain ⟨v,t,rfl,⟨vs,h1,h2⟩,h3⟩:=h
  cases (show t = [] from h3)
  cases (show vs = [] from h2)
  cases h1;rfl
 ·exact AnyF.slices_SortFunc_none Tryz.sortW p cap _ w
 ·have h:=AnyQ.slices_SortFunc Tryz.sortW 2 Tryz.isAgg153 Tryz.sizeOf153 Jk (fun _=>rfl) (fun x v hv=>by simp at hv;rcases hv with rfl|rfl <;> rfl) tS JR g #[] b 0 cap l.toArray w eg (fun m os dk _ x y=>hg x y _) hH hb (by simp;omega)
  refine Calls.mono h ?_
  rintro e w' ⟨rfl,d',n,os,⟨hs,_,hp⟩,hso,rfl⟩
  refine ⟨rfl,n,os,?_⟩
  have hd:d'.toList=wK l:=by
   refine AJ hn ?_ (List.pairwise_iff_getElem.2 fun i j hi hj hij=>?_)
   ·have hz:d'.size=l.length:=by simpa using hs
    have hq:List.take l.length d'.toList=d'.toList:=List.take_of_length_le (by simp;omega)
    simpa [hs,hq] using hp
   ·have hsz:d'.toList.length=l.length:=by simpa using hs
    have:=hso i j (Nat.zero_le _) hij (by simp;omega)
    rw [ltW] at this
    simp only [Array.getElem!_eq_getD,Array.getD] at this
    rw [dif_pos (by simp at hi;omega),dif_pos (by simp at hj;omega)] at this
    exact this
  rw [← hd];rfl
theorem uD (x y:Wr) (W:World):Calls Tryz.prog 340 #[.agg #[.string x.name,.int .i64 x.link],.agg #[.string y.name,.int .i64 y.link]] W fun e w'=>e=.returned (.int .i64 (tS x y))∧∃q os',w'=grow (W.drewN q) os':=by
 cases h:cQ x.name y.name
 ·rw [show tS x y=1 from by unfold tS;rw [h];rfl]
  unfold cQ at h
  go_enter Tryz.func340,Tryz.ntmps340
  go_wp2
  go_ret
  exact ⟨rfl,0,_,by rw [alloc_eq_grow,alloc_eq_grow,grow_grow];rfl⟩
 ·rw [show tS x y = -1 from by unfold tS;rw [h];rfl]
  unfold cQ at h
  go_enter Tryz.func340,Tryz.ntmps340
  go_wp2
  go_ret
  exact ⟨rfl,0,_,by rw [alloc_eq_grow,alloc_eq_grow,grow_grow];rfl⟩
theorem sP (x y:Wr) (W:World):Calls Tryz.prog 232 #[.agg #[.string x.name,.int .i64 x.link],.agg #[.string y.name,.int .i64 y.link]] W fun e w'=>e=.returned (.int .i64 (tS x y))∧∃q os',w'=grow (W.drewN q) os':=by
 cases h:cQ x.name y.name
 ·rw [show tS x y=1 from by unfold tS;rw [h];rfl]
  unfold cQ at h
  go_enter Tryz.func232,Tryz.ntmps232
  go_wp2
  go_ret
  exact ⟨rfl,0,_,by rw [alloc_eq_grow,alloc_eq_grow,grow_grow];rfl⟩
 ·rw [show tS x y = -1 from by unfold tS;rw [h];rfl]
  unfold cQ at h
  go_enter Tryz.func232,Tryz.ntmps232
  go_wp2
  go_ret
  exact ⟨rfl,0,_,by rw [alloc_eq_grow,alloc_eq_grow,grow_grow];rfl⟩
theorem Fu (n:Nat) (hn:n≤1000):FnD Tryz.prog 363 [.n 1,.i n] (.row 1 9 []):=⟨bS Tryz.func363,fun F w vs hv hF=>by
 obtain ⟨v1,t,rfl,⟨a,h1⟩,v2,t2,rfl,⟨h2,_⟩,h3⟩:=hv
 cases (show t2 = [] from h3)
 cases h1
 cases h2
 rcases Nat.eq_zero_or_pos n with rfl|hn0
 ·refine Calls.mono (Any8.slices_Grow_room Tryz.growS a 0 0 0 w (by omega) (by omega) (by omega) (by omega)) ?_
  rintro e w' ⟨rfl,rfl⟩
  exact ⟨_,rfl,Ext.refl w',.inl ⟨rfl,a,rfl⟩⟩
 ·obtain ⟨i0,hi0,hz0,hz1,hz2⟩:=info_parts Ap
  have hcap:=grownCap_ge w (0+n) 0 9
  have hmx:=grownCap_le_maxLen w (0+n) 0 9 (by unfold maxLen;omega)
  refine Calls.mono (Any8.slices_Grow_grow Tryz.growS i0 _ hi0 hz0 (by omega) a 0 0 n [] w (Nat.le_refl _) (by omega) (by rw [hz2];omega) (by omega) (by simp) (fun _=>rfl) (fun _ _ j v h=>by simp at h)) ?_
  rintro e w' ⟨rfl,rfl⟩
  refine ⟨_,rfl,(Ext.refl w).drew.alloc _,.inr ⟨[],World.ownsRow_made w.drew _ _ (Nat.le_refl _) hmx ?_,fun j hj=>absurd hj (Nat.not_lt_zero _)⟩⟩
  have hc1:(Value.string ⟨#[]⟩).cells.size=1:=rfl
  simp [Builtin.zeroCells,hc1]
  exact Nat.add_sub_cancel' (show n≤grownCap w n 0 9 from by simpa using hcap)⟩
theorem GT:vx Value.string D.s:=⟨fun _ _ _ _ h=>h.1,fun _ _ _ _ _ _ h=>h⟩
theorem rz (r:Big) (s:ByteArray) (F:BS) (c:List Value) (W:World) (h:Rp W F (.p r.D) c):Calls Tryz.prog 236 (#[.string s]++c.toArray) W fun e w'=>e=.returned (.bool (rv r.outer s))∧w'=W:=by
 obtain ⟨b,o,us,rfl,h2,h3,h4⟩:=h
 have hB:=EB.to W F r us h3
 obtain ⟨v1,v2,v4,v5,rfl,r1,r2,hN,hS,hO,hI⟩:=hB
 obtain ⟨a4,k4,rfl,g1,g2,g3,g4⟩:=hO
 have p4:W.cell? ⟨b,o+4,none⟩=some (.slice a4 r.outer.length k4):=h4 4 _ rfl
 have hc:Calls Tryz.prog 237 #[.slice a4 r.outer.length k4,.string s] W fun e w'=>e=.returned (.bool (rv r.outer s))∧w'=W:=by
  rcases g4 with g4|⟨bb,oo,rfl,_,_,g4⟩
  ·rw [g4]
   refine Calls.mono (Tryz.slices_Contains_string_empty a4 k4 s W) ?_
   rintro e w' ⟨rfl,rfl⟩
   exact ⟨rfl,rfl⟩
  ·unfold maxLen at g2
   refine Calls.mono (Tryz.slices_Contains_string bb oo r.outer.length k4 r.outer s W (Nat.le_refl _) (by omega) (fun j hj=>?_)) ?_
   ·obtain ⟨cs,q1,⟨rfl,q2⟩,q3⟩:=g4 j hj
    have:=q3 0 _ rfl
    rw [Nat.mul_one,Nat.add_zero] at this
    rw [this,List.getD_eq_getElem?_getD,List.getElem?_eq_getElem hj];rfl
   ·rintro e w' ⟨rfl,rfl⟩
    refine ⟨?_,rfl⟩
    congr 2
    rw [List.take_length,Bool.eq_iff_iff,Lib.containsS_iff,qS,List.any_eq_true]
    constructor
    ·exact fun h=>⟨s,h,by simp⟩
    ·rintro ⟨x,hx,e⟩
     rw [beq_iff_eq] at e
     rw [← fU e];exact hx
 show Calls Tryz.prog 236 #[.string s,.pointer (some ⟨b,o,none⟩)] W _
 generalize rv r.outer s=q at hc ⊢
 clear h4 h3 hN hS hI g4
 go_enter Tryz.func236,Tryz.ntmps236
 go_wp2_with (go_at_call 237;refine hc.mono ?_;rintro e w' ⟨rfl,rfl⟩)
 go_ret
 exact ⟨rfl,rfl⟩
theorem qv (l:List ByteArray) (r:Big) (hl:l.length≤1000):FnC Tryz.prog 235 1 9 (l.map .s) [.f 236 [.p r.D]] ((l.filter fun x=>!rv r.outer x).map .s):=by
 have eg:∀args w,(callFunc 236 args).run Tryz.prog w=.ok (.enter 236 args) w:=bS Tryz.func236
 refine Gq GT (us:=List.replicate (l.length - (l.filter fun x=>!rv r.outer x).length) ⟨#[]⟩) (bS Tryz.func235) (fun y hy=>(List.mem_filter.1 hy).1) (by rw [List.length_append,List.length_replicate];have:=List.length_filter_le (fun x=>!rv r.outer x) l;omega) (fun w F vs v hvs hF hv he=>?_) (fun w F vs g cap hvs hF hFg hH hg h5 h6=>?_)
 ·obtain ⟨fv,t,rfl,hf,h3⟩:=hvs
  cases (show t = [] from h3)
  have hI:Calls Tryz.prog 268 #[v,fv] w fun e w'=>e=.returned (.int .i64 (-1))∧Ext w w':=by
   refine ((nj [] 236 [.p r.D] (rv r.outer) rfl (fun x hx=>by simp at hx)).calls F w [v,fv] ⟨v,_,rfl,hv,fv,_,rfl,hf,rfl⟩ hF).mono ?_
   rintro e w' ⟨u,rfl,hX,hu⟩
   refine ⟨?_,hX⟩
   have:=hu.1
   rw [kh (l:=([]:List ByteArray)) (by simp)] at this
   cases this;rfl
  obtain ⟨vs',h1,c,e,rfl,hc,h2⟩:=hf
  cases (show e = [] from h2)
  cases h1
  obtain ⟨a,k,h4,_⟩:=hv
  cases h4
  rw [List.append_nil] at hI ⊢
  change Calls Tryz.prog 268 #[.slice a 0 k,.func (.func 236) #[] c.toArray] w _ at hI
  change Calls Tryz.prog 235 #[.slice a 0 k,.func (.func 236) #[] c.toArray] w _
  generalize c.toArray=lb at hI ⊢
  clear hc h3 h2 eg hF hl he
  go_enter Tryz.func235,Tryz.ntmps235
  go_wp2_with (go_at_call 268;refine hI.mono ?_;rintro e w' ⟨rfl,hX⟩)
  go_ret
  exact ⟨rfl,hX⟩
 ·obtain ⟨fv,t,rfl,hf,h3⟩:=hvs
  cases (show t = [] from h3)
  obtain ⟨vs',h1,c,e,rfl,hc,h2⟩:=hf
  cases (show e = [] from h2)
  cases h1
  rw [List.append_nil]
  have key:∀W:World,(∀b,F b→b<w.heap.size→W.heap[b]? = w.heap[b]?)→∀x:ByteArray,FnGives Tryz.prog 236 c.toArray #[.string x] (.bool (rv r.outer x)) W:=fun W hW x=>by
   refine (rz r x F c W (Rp.keep (fun _ h=>h) (fun b hb hl=>hW b hb hl) _ _ hc)).mono ?_
   rintro e w' ⟨rfl,rfl⟩
   exact ⟨rfl,0,rfl⟩
  refine Calls.mono (AnyE.slices_DeleteFunc Tryz.delS Value.string (fun _=>rfl) (rv r.outer) 236 c.toArray eg ⟨#[]⟩ Tryz.zeroValue9 g 0 cap l.toArray w (fun W x hb=>key W (fun b _ hl=>hb.block b hl) x) (fun n os dk x _=>key _ (fun b hb hl=>(jQ Value.string dk).block b hl (fun e=>by cases e;exact hFg hb)) x) hH (by simp;omega) (by simpa using h5)) ?_
  rintro e w' ⟨rfl,q,rfl⟩
  exact ⟨rfl,q,rfl⟩
end Go.Proofs.YtacafmejcdgboaaGreatDoor
namespace Go.Proofs.YtacafmejcdgboaaGreatDoor
open Go.RowKit
set_option linter.unusedVariables false
set_option linter.unusedSimpArgs false
set_option maxRecDepth 100000
set_option maxHeartbeats 4000000
attribute [local irreducible] ar Der At
section
variable {P:Program} {ops:Array Oper} {W0:bN} {N:Nat} {Fin:Us→Env→Prop} {os:List Oper} {us:Us} {pk fk:List Nat} {σ:Env} {g:Option (Nat × Bool)} {gk:List Nat} {d ty ty' f:Nat} {pos:String} {after:Array Edge} {at':Array TypeId} {xs:List Operand} {ds:List D}
theorem Fs {n e:Nat} {rs:List D} (h:Der P ops W0 N Fin os (us++[((d :: (gk++((10000+d) :: kxs xs)))++pk,([d,10000+d])++fk)]) [] [] ((d,.sy (.k (10000+d))) :: (10000+d,.tk (.row n e rs)) :: σ)) (hx:Gr σ xs=some ds:=by rfl) (hf:FnD P f ds (.row n e rs):=by assumption) (hi:aj σ (10000+d)=none:=by rfl) (hg:gst ops σ g=some (true,gk):=by rfl) (hN:Nat.blt d N=true:=by rfl) (hs:aE ((10000+d,.tk (.row n e rs)) :: σ) d=true:=by rfl) (hu:Nat.beq (10000+d) d=false:=by rfl):Der P ops W0 N Fin (⟨some d,.call { callee:=.value (.func f),args:=xs.toArray,argTypes:=at' },ty,pos,after,g⟩ :: os) us pk fk σ:=
 js (.k (10000+d)) ((10000+d) :: kxs xs) [(10000+d,.tk (.row n e rs))] (fun σ' c a w hk hc=>by
  unfold Oper.wp
  rw [bE hf.enter rfl]
  refine (hf.calls c.F w _ (qO hc xs ds hx (fun κ hκ=>hk κ (by simp [hκ]))) hc.lt).mono ?_
  rintro e' w' ⟨v,rfl,hX,⟨hd,a0,hv0⟩|⟨cells,own,hel⟩⟩
  ·subst hd
   have hc0:=hc.fresh hX
   exact ⟨v,_,rfl,hc0.new (i:=10000+d) ((hk _ (by simp)).trans hi) (t:=.row n e []) (v:=v) (S:=fun _=>False) (.inl ⟨rfl,a0,hv0⟩) (fun b hb=>hb.elim) (fun j u _ b hb=>hb.elim),.inr rfl,(if_pos rfl).symm⟩
  have hc1:=hc.grow hX (fun b=>fresh w w' c.F b∧v.ownBlock≠some b) (fun b hb=>⟨.inl hb,fun e=>by have:=own.lt b e;have:=hc.lt b hb;omega⟩) (fun _ h=>h.1.imp id (fun h=>h.1)) (fun b hb=>hb.1.elim (fun h'=>Nat.lt_of_lt_of_le (hc.lt b h') (Below.size hX)) (fun h=>h.2))
  refine ⟨v,_,rfl,hc1.new (i:=10000+d) (t:=.row n e rs) (v:=v) (S:=fun b=>v.ownBlock=some b) ((hk _ (by simp)).trans hi) (.inr ⟨cells,⟨own.1,own.2.imp id (fun ⟨g,cap,cur,q1,_,q2⟩=>⟨g,cap,cur,q1,Nat.zero_le _,q2⟩)⟩,fun g hg=>hg,hel⟩) (fun b hb=>⟨fun hF=>hF.2 hb,(own.lt b hb).2,.inr (Nat.le_trans hc.ext.size (own.lt b hb).1)⟩) (fun j u hj b hb hT=>?_),.inr rfl,(if_pos rfl).symm⟩
  have:=((hc.tok j u hj).2.2 b hT).2.1
  have:=own.lt b hb
  omega) h hg hN hs (by simp [hu])
theorem C0 {ρ:Operand→Value} {w:World} {x y:Operand} {e:Nat} {v x0 y0:Value} (he:elem? P ty'=some e) (hz:sizeOf? P e=some 1) (hzv:rt P e=some v) (hzs:v.cells.size=1) (hx:(ρ x).cells = #[x0]) (hy:(ρ y).cells = #[y0]):(execOp ρ ⟨some d,.buildSlice ty' 2 #[(0,x),(1,y)],ty,pos,after,g⟩).run P w=.ok (.value (.slice (some ⟨w.heap.size,0,none⟩) 2 2)) (w.alloc (.cells #[x0,y0] e)):=by
 replace hz:=cT hz
 rw [Option.map_eq_some_iff] at hz
 obtain ⟨i,hi,hz⟩:=hz
 unfold rt at hzv
 rw [hi] at hzv
 simp only [Option.bind_some] at hzv
 have hf':Instr.fill (fun i=>some (i,1)) ((Array.range 2).map (v.cells[· % v.cells.size]!)) [(0,ρ x),(1,ρ y)]=some #[x0,y0]:=by
  rw [show (Array.range 2).map (v.cells[· % v.cells.size]!) = #[v.cells[0 % v.cells.size]!,v.cells[1 % v.cells.size]!] from by
   apply Array.ext (by simp)
   intro i h1 h2
   have:i=0∨i=1:=by simp at h2;omega
   rcases this with rfl|rfl <;> simp]
  simp [Instr.fill,hx,hy]
 have hs:(sizeOf e).run P w=.ok 1 w:=by simp [sizeOf,typeInfo,hi,hz,go_sem]
 have hzr:(zeroValue e).run P w=.ok v w:=by simp [zeroValue,typeInfo,hi,hzv,go_sem]
 unfold execOp
 simp only [List.map_toArray,List.map_cons,List.map_nil]
 refine dt (X:=Instr.buildSlice ty' 2 #[(0,ρ x),(1,ρ y)]) ?_
 unfold Instr.buildSlice
 rw [Sem.run_bind,run_underlying (dz he)]
 simp only [Result.andThen_ok,Sem.run_bind,hs,Nat.mul_one]
 rw [if_neg (by decide)]
 simp only [Result.andThen_ok,Sem.run_bind,Sem.run_pure,if_neg (show ¬(2=0) by decide),hzr,hf',newRow,run_newObj_alloc]
theorem JP {x y:Operand} {e:Nat} {r q:D} {v:Value} (h:Der P ops W0 N Fin os (us++[((d :: (gk++(kx x++kx y)))++pk,([d])++fk)]) [] [] ((d,.sy (.d (.l 1 [r,q]))) :: σ)) (hx:(ev σ x).bind Sy.dat=some r:=by rfl) (hy:(ev σ y).bind Sy.dat=some q:=by rfl) (he:elem? P ty'=some e:=by rfl) (hz:sizeOf? P e=some 1:=by rfl) (hv:rt P e=some v:=by rfl) (hvs:v.cells.size=1:=by rfl) (hr1:r.sz=1:=by rfl) (hq1:q.sz=1:=by rfl) (hg:gst ops σ g=some (true,gk):=by rfl) (hN:Nat.blt d N=true:=by rfl) (hs:aE σ d=true:=by rfl):Der P ops W0 N Fin (⟨some d,.buildSlice ty' 2 #[(0,x),(1,y)],ty,pos,after,g⟩ :: os) us pk fk σ:=
 js (.d (.l 1 [r,q])) (kx x++kx y) [] (fun σ' c a w hk hc=>by
  rw [Option.bind_eq_some_iff] at hx hy
  obtain ⟨s,hx1,hx2⟩:=hx
  obtain ⟨s',hy1,hy2⟩:=hy
  have hv':=jW hx2 (am hc (ab hx1 (fun κ hκ=>hk κ (by simp [hκ]))))
  have hv2:=jW hy2 (am hc (ab hy1 (fun κ hκ=>hk κ (by simp [hκ]))))
  obtain ⟨cs,h1,h2,_⟩:=hv'.cells
  obtain ⟨cs',h3,h4,_⟩:=hv2.cells
  obtain ⟨x0,rfl⟩:∃x0,cs = [x0]:=List.length_eq_one_iff.1 ((Rp.len _ _ h2).trans hr1)
  obtain ⟨y0,rfl⟩:∃y0,cs' = [y0]:=List.length_eq_one_iff.1 ((Rp.len _ _ h4).trans hq1)
  unfold Oper.wp
  rw [C0 he hz hv hvs h1 h3]
  have hX:Ext w (w.alloc (.cells #[x0,y0] e)):=(Ext.refl w).alloc _
  have hc1:=hc.grow hX (fun b=>c.F b∨b=w.heap.size) (fun _ h=>.inl h) (fun _ h=>h.imp id (fun h=>by omega)) (fun b hb=>by
   rcases hb with hb|hb
   ·exact Nat.lt_of_lt_of_le (hc.lt b hb) (Below.size hX)
   ·subst hb;simp)
  have hbx:=dF.new w e [x0,y0] _ rfl
  refine ⟨_,_,rfl,hc1,some ⟨w.heap.size,0,none⟩,2,rfl,Nat.le_refl _,by decide,fun h=>(by cases h),.inr ⟨w.heap.size,0,rfl,.inr rfl,⟨[x0],rfl,Rp.keep (fun _ h=>.inl h) (fun b _ hl=>hX.block b hl) _ _ h2,fun j u hj=>?_⟩,⟨[y0],rfl,Rp.keep (fun _ h=>.inl h) (fun b _ hl=>hX.block b hl) _ _ h4,fun j u hj=>?_⟩,trivial⟩⟩
  ·rcases j with _|j
   ·exact (hbx 0 u (by simpa using hj)).1
   ·simp at hj
  ·rcases j with _|j
   ·exact (hbx 1 u (by simpa using hj)).1
   ·simp at hj) h hg hN hs rfl
end
theorem sb (l:List (List ByteArray)) (i:Nat) (h:i<l.length):(l.take (i+1)).flatten=(l.take i).flatten++l[i]:=by
 rw [List.take_succ_eq_append_getElem h,List.flatten_append];simp
theorem AM (l:List (List ByteArray)) (i:Nat):(l.take i).flatten.length≤l.flatten.length:=by
 have:l.flatten=(l.take i).flatten++(l.drop i).flatten:=by rw [← List.flatten_append,List.take_append_drop]
 rw [this,List.length_append];omega
theorem zV (l:List (List ByteArray)) (hl:l.flatten.length≤1000) (hk:l.length≤1000):FnD Tryz.prog 335 [.l 1 (l.map DS)] (.row 1 9 (l.flatten.map .s)):=by
 have f1:=Fu l.flatten.length hl
 refine ah Tryz.func335 (fun hw W0=>?_)
 refine kgo ?_
 refine ai [0,9,10] (fun i:Nat=>i≤l.length) (fun i=>l.length - i) (fun i=>[(11,.sy (.d (.i i))),(3,.sy (.d (.i (l.take i).flatten.length)))]) 0 (Nat.zero_le _) (fun i hi=>?_)
 refine kgo ?_
 refine aL (fun h=>?_) (fun h=>?_)
 ·have hlt:i<l.length:=by simpa using h
  have h1:=AM l (i+1)
  have h2:((l.take (i+1)).flatten.length:Int)=(l.take i).flatten.length+l[i].length:=by rw [sb l i hlt,List.length_append];omega
  refine kgo ?_
  rw [← h2]
  exact af (i+1) hlt (by omega)
 obtain rfl:i=l.length:=by have:=h;simp at this;omega
 rw [List.take_length]
 refine kgo ?_
 refine Fs (hf:=f1) ?_
 refine kgo ?_
 refine ai [25,26] (fun i:Nat=>i≤l.length) (fun i=>l.length - i) (fun i=>[(27,.sy (.d (.i i))),(6,.sy (.k 20001)),(20001,.tk (.row 1 9 (((l.take i).flatten).map .s)))]) 0 (Nat.zero_le _) (fun i hi=>?_)
 refine kgo ?_
 refine aL (fun h=>?_) (fun h=>?_)
 ·have hlt:i<l.length:=by simpa using h
  have h1:=AM l (i+1)
  have h2:=sb l i hlt
  have hs:((l.take (i+1)).flatten).map D.s=((l.take i).flatten++l[i]).map D.s:=by rw [h2]
  rw [h2,List.length_append] at h1
  refine kgo ?_
  exact af (i+1) hlt (by omega)
 obtain rfl:i=l.length:=by have:=h;simp at this;omega
 rw [List.take_length]
 refine kgo ?_
 exact pt
theorem Cg (s:ByteArray):FnD Tryz.prog 337 [.s s] (.d (sK (0,s))):=by
 refine ah Tryz.func337 (fun hw W0=>?_)
 refine kgo ?_
 exact aq
theorem oX (a:Big) (p:Int) (hp : -1000≤p∧p≤1000) (ha:0≤a.roots∧a.roots≤1000):FnD Tryz.prog 336 [.i p,.p a.D] (.d (.i (p - a.roots))):=by
 refine ah Tryz.func336 (fun hw W0=>?_)
 refine kgo ?_
 exact aq
theorem uP (e:Int × ByteArray):FnD Tryz.prog 339 [sK e] (.d (sK e)):=by
 refine ah Tryz.func339 (fun hw W0=>?_)
 refine kgo ?_
 exact aq
theorem yO {a b:Big} (oa:rE a) (ob:rE b) (hap:iy (a.inner.map Wr.name) (b.inner.map Wr.name)=true):FnD Tryz.prog 302 [a.D,b.D] (.d (iv a b).D):=by
 have ea:=oa.edges
 have eb:=ob.edges
 have ra:=oa.roots
 have rb:=ob.roots
 have la:=oa.outer
 have lb:=ob.outer
 have ia:=oa.inner
 have ib:=ob.inner
 have f1:FnD Tryz.prog 335 [.l 1 [DS a.outer,DS b.outer]] (.row 1 9 ((a.outer++b.outer).map .s)):=by
  have:=zV [a.outer,b.outer] (by simp;omega) (by simp)
  simpa using this
 have f2:FnD Tryz.prog 303 [a.D,b.D,.i (a.roots+b.roots),DI a.sites,DS (a.outer++b.outer),.f 336 [.p a.D],.f 337 []] (.d (rG a b).D):=
  wC a b (a.roots+b.roots) a.sites (a.outer++b.outer) 336 337 [.p a.D] [] (fun s=>(0,s)) (fun p=>p - a.roots) rfl rfl oa.dims ob.dims (by omega) (by omega) ⟨ea.1,by omega⟩ ⟨eb.1,by omega⟩ (by rw [List.length_append];omega) (by have:=oa.sitesN;omega) oa.links oa.wires ob.links ob.wires
   (fun x hx=>⟨by have:=ob.pars x hx;omega,fun h=>oX a _ (by have:=ob.pars x hx;omega) ⟨ra.1,by omega⟩⟩) (fun p hp=>⟨by have:=ob.sites p hp;omega,fun h=>oX a _ (by have:=ob.sites p hp;omega) ⟨ra.1,by omega⟩⟩)
   (fun l hl=>sd a 337 [] (iC b l) _ rfl (by have h1:=hl.1;have h2:=eb.2;unfold iC;split <;> (constructor <;> dsimp only <;> omega)) ⟨ea.1,by omega⟩ (fun _=>Cg _))
 have f3:=mM a (a.edges+b.edges) (a.outer++b.outer) 339 [] id rfl oa.dims (by omega) ⟨by omega,by omega⟩ ⟨by omega,by omega⟩ (by rw [List.length_append];omega) oa.links oa.wires (fun l _=>uP _)
 have hnd:((y8 a b).map Wr.name).Nodup:=by rw [pV];exact ua hap oa.inames ob.inames
 have hwl:(y8 a b).length≤1000:=by have h:=congrArg List.length (pV a b);simp at h;omega
 have f4:=n8 (y8 a b) 340 hwl hnd (bS Tryz.func340) uD
 rw [← Fa oa ob]
 have hJ:(rG a b).edges=a.edges+b.edges:=rfl
 have hW:y8 a b=(xC a (a.edges+b.edges) (jC a b) fun l=>nL (a.edges+b.edges) (jC a b) (id (iC a l))).inner++(rG a b).inner:=rfl
 have hP:II a b=⟨(rG a b).roots,(rG a b).nodes,(rG a b).sites,(rG a b).edges,(rG a b).outer,wK (y8 a b)⟩:=rfl
 rw [hP]
 revert f2 f3 hW f4 hJ hwl
 generalize rG a b=J
 generalize hR:(xC a (a.edges+b.edges) (jC a b) fun l=>nL (a.edges+b.edges) (jC a b) (id (iC a l)))=R
 unfold jC at hR
 rw [hR]
 generalize wK (y8 a b)=S
 generalize y8 a b=W
 intro f2 f3 hwl f4 hJ hW
 subst hW
 rw [List.length_append] at hwl
 rw [← hJ] at f3
 refine ah Tryz.func302 (fun hw W0=>?_)
 refine kgo ?_
 refine JP ?_
 repeat (first|refine cFz 5 ?_|(refine cy ?_;first|refine aV ?_|refine bY ?_|refine aY ?_|refine aZ ?_|refine aS ?_|refine bg ?_|refine bi ?_|refine ay ?_|refine be ?_)|(refine fo ?_;first|refine bQ ?_|refine eZ ?_|refine cr ?_|refine b8 ?_)|(refine fa ?_;first|refine dm (fun _=>?_)|refine b9 ?_|refine cm ?_|refine bG ?_|refine cw ?_|refine ck ?_)|(refine fh ?_;first|refine cg ?_|refine eB ?_|refine bT ?_|refine bI ?_|refine cq ?_|refine bV ?_|refine bZ ?_)|(refine fe ?_;first|refine fl ?_|refine eS ?_|refine cd ?_|refine bP ?_|refine fq ?_|refine bl ?_|refine bo ?_)|(refine cu ?_;first|refine aX ?_|refine ch ?_)|(refine ff ?_;first|refine cj ?_|refine ct ?_|refine ft ?_)|(refine cf ?_;first|refine ca ?_|refine bd ?_|refine aQ ?_|refine ba ?_|refine aU ?_|refine bh ?_)|(refine fc ?_;first|refine b7 ?_|refine eY ?_|refine bj ?_|refine aR ?_|refine bm ?_)|(refine aI ?_;first|refine au _ ?_|refine bf ?_|refine aA ?_|refine av ?_|refine ax ?_)|(refine fu ?_;first|refine cb ?_|refine bH ?_|refine bX ?_)|(refine gOp ?_;first|refine fd ?_|refine fm ?_|refine bc ?_|refine fp ?_|refine fj ?_|refine bU ?_|refine aT ?_|refine co ?_|refine fw ?_|refine bM ?_|refine b6 ?_|refine bk ?_|refine az ?_|refine bW ?_|refine sNo ?_|refine dO ?_|refine aw ?_)|refine dZ ?_|refine cN ?_|refine fB ?_|refine bp ?_|refine cz ?_|refine bB ?_|refine fC ?_|refine fI ?_|refine fx ?_|refine df ?_|refine cC ?_|refine aN ?_|refine aB ?_|refine bq ?_|refine ci ?_|refine bC ?_|refine aBlkX ?_|refine cA ?_)
 refine rL 2 a.D ?_
 refine kgo ?_
 refine JI 10004 5 ?_
 exact aq
def yX (sig:List Ctl) (a b:Big):Big × Bool:=if aF sig a && (aF sig b && (iy (a.inner.map Wr.name) (b.inner.map Wr.name) && aF sig (iv a b))) then (iv a b,true) else (fN,false)
theorem mN (sig:List Ctl) (a b:Big) (ia:a.inner.length≤1000) (ib:b.inner.length≤1000):FnO Tryz.prog 270 [.l 3 (sig.map Ctl.D),a.D,b.D] [6,0] (B8 (yX sig a b).1++[.d (.b (yX sig a b).2)]):=by
 have f1:=dU sig a (by omega)
 have f2:=dU sig b (by omega)
 have f3:=(gy a ia).toL
 have f4:=(gy b ib).toL
 have f5:=nt (a.inner.map Wr.name) (b.inner.map Wr.name)
 rw [sV] at f5
 refine cR Tryz.func270 (fun hw W0=>?_)
 refine kgo ?_
 cases ga:aF sig a
 ·rw [show yX sig a b=(fN,false) from by simp [yX,ga]]
  refine kgo ?_
  exact gK (hp:=.cons (.d rfl) (.cons .m (.cons .n (.cons (.d rfl) (.cons .n (.cons .n (.cons (.d rfl) .nil)))))))
 refine kgo ?_
 cases gb:aF sig b
 ·rw [show yX sig a b=(fN,false) from by simp [yX,gb]]
  refine kgo ?_
  exact gK (hp:=.cons (.d rfl) (.cons .m (.cons .n (.cons (.d rfl) (.cons .n (.cons .n (.cons (.d rfl) .nil)))))))
 refine kgo ?_
 cases gc:iy (a.inner.map Wr.name) (b.inner.map Wr.name)
 ·rw [show yX sig a b=(fN,false) from by simp [yX,gc]]
  refine kgo ?_
  exact gK (hp:=.cons (.d rfl) (.cons .m (.cons .n (.cons (.d rfl) (.cons .n (.cons .n (.cons (.d rfl) .nil)))))))
 have f6:=yO (dB ga) (dB gb) gc
 have f7:=oc sig (iv a b) (by rw [nS];have:=(dB ga).inner;have:=(dB gb).inner;omega)
 rw [show yX sig a b=(yZ (aF sig (iv a b)) (iv a b),aF sig (iv a b)) from by unfold yX yZ;rw [ga,gb,gc];cases aF sig (iv a b) <;> rfl]
 refine kgo ?_
 exact gK (hp:=.cons (.d rfl) (.cons (.k rfl rfl) (.cons (.k rfl rfl) (.cons (.d rfl) (.cons (.k rfl rfl) (.cons (.k rfl rfl) (.cons (.d rfl) .nil)))))))
theorem uR (sig:List Ctl) (a b:Big) (ia:a.inner.length≤1000) (ib:b.inner.length≤1000):FnO Tryz.prog 238 [.l 3 (sig.map Ctl.D),a.D,b.D] [6,0] (B8 (n5 sig a b).1++[.d (.b (n5 sig a b).2)]):=by
 have f1:=nt a.outer b.outer
 rw [sV] at f1
 refine cR Tryz.func238 (fun hw W0=>?_)
 refine kgo ?_
 cases gc:iy a.outer b.outer
 ·rw [show n5 sig a b=(fN,false) from by simp [n5,gc]]
  refine kgo ?_
  exact gK (hp:=.cons (.d rfl) (.cons .m (.cons .n (.cons (.d rfl) (.cons .n (.cons .n (.cons (.d rfl) .nil)))))))
 have f2:=mN sig a b ia ib
 rw [show n5 sig a b=yX sig a b from by unfold n5 yX;rw [gc,Bool.true_and]]
 refine kgo ?_
 exact gK (hp:=.cons (.d rfl) (.cons (.k rfl rfl) (.cons (.k rfl rfl) (.cons (.d rfl) (.cons (.k rfl rfl) (.cons (.k rfl rfl) (.cons (.d rfl) .nil)))))))
theorem rQ (sig:List Ctl) (a b:Big) (ia:a.inner.length≤1000) (ib:b.inner.length≤1000):FnO Tryz.prog 240 [.l 3 (sig.map Ctl.D),a.D,b.D] [6,0] (B8 (eP sig a b).1++[.d (.b (eP sig a b).2)]):=by
 have h:=mL sig a b ia ib (fun ga gb gf=>HM (dB ga) (dB gb) gf)
 have e:(yZ (mz sig a b) (zt a b),mz sig a b)=eP sig a b:=by
  unfold eP mz yZ
  show _=if aF sig a && (aF sig b && (B3 a b && aF sig (s6 a b))) then (s6 a b,true) else (fN,false)
  cases ga:aF sig a
  ·rfl
  cases gb:aF sig b
  ·rfl
  cases gf:B3 a b
  ·rfl
  rw [A0 (dB ga) (dB gb) gf]
  cases aF sig (s6 a b) <;> rfl
 rw [← e]
 exact h
theorem It (l:List ByteArray):(⟨(0:Nat),[],((List.range 0).map fun i:Nat=>-1 - (i:Int)),0,l,(List.range l.length).map fun i:Nat=>⟨l.getD i ⟨#[]⟩,i⟩⟩:Big)=idB l:=by
 unfold idB
 congr 1
 apply List.ext_getElem (by simp)
 intro i h1 h2
 have:i<l.length:=by simpa using h1
 simp [this]
theorem sm (sig:List Ctl) (ctx red mid par:Big) (ho:red.outer=mid.outer) (hl:mid.inner.length+ctx.inner.length≤1000) (hp:par.inner.length≤1000):FnO Tryz.prog 166 [.l 3 (sig.map Ctl.D),ctx.D,red.D,mid.D,par.D] [6,0] (B8 (mW sig mid ctx par).1++[.d (.b (mW sig mid ctx par).2)]):=by
 have f1:=gy ctx (by omega)
 have f2:=qv (ctx.inner.map Wr.name) red (by simp;omega)
 have hN:((ctx.inner.map Wr.name).filter fun x=>!rv red.outer x)=eT mid.outer (ctx.inner.map Wr.name):=by
  unfold eT
  refine List.filter_congr fun x _=>?_
  unfold rv
  rw [ho,Bool.eq_iff_iff,Bool.not_eq_true',decide_eq_false_iff_not,decide_eq_true_eq];omega
 rw [hN] at f2
 have hNl:(eT mid.outer (ctx.inner.map Wr.name)).length≤ctx.inner.length:=by unfold eT;have:=List.length_filter_le (fun y=>decide (jx mid.outer y<0)) (ctx.inner.map Wr.name);simpa using this
 have f3:FnD Tryz.prog 239 [.i 0,DS (eT mid.outer (ctx.inner.map Wr.name))] (.d (idB (eT mid.outer (ctx.inner.map Wr.name))).D):=by
  have:=yc 0 (eT mid.outer (ctx.inner.map Wr.name)) (by omega) (by omega)
  rw [It] at this
  exact this
 have hA:mW sig mid ctx par=if (n5 sig mid (idB (eT mid.outer (ctx.inner.map Wr.name)))).2 then (if (eP sig ctx (n5 sig mid (idB (eT mid.outer (ctx.inner.map Wr.name)))).1).2 then eP sig (eP sig ctx (n5 sig mid (idB (eT mid.outer (ctx.inner.map Wr.name)))).1).1 par else (fN,false)) else (fN,false):=rfl
 rw [hA]
 clear hA hN
 revert f2 f3 hNl
 generalize eT mid.outer (ctx.inner.map Wr.name)=ns
 intro f2 f3 hNl
 have hI:(idB ns).inner.length=ns.length:=by unfold idB;simp
 have hw:=v8 sig mid (idB ns)
 have f4:FnD Tryz.prog 238 [.l 3 (sig.map Ctl.D),mid.D,(idB ns).D] (.tp [(n5 sig mid (idB ns)).1.D,.b (n5 sig mid (idB ns)).2]):=(uR sig mid (idB ns) (by omega) (by omega)).toT
 generalize n5 sig mid (idB ns)=S at hw f4 ⊢
 have f5:FnD Tryz.prog 240 [.l 3 (sig.map Ctl.D),ctx.D,S.1.D] (.tp [(eP sig ctx S.1).1.D,.b (eP sig ctx S.1).2]):=(rQ sig ctx S.1 (by omega) (by omega)).toT
 have hc:=tI sig ctx S.1
 generalize eP sig ctx S.1=T at hc f5 ⊢
 have f6:=rQ sig T.1 par (by omega) hp
 refine cR Tryz.func166 (fun hw W0=>?_)
 refine kgo ?_
 refine rL 7 red.D ?_
 repeat (first|refine cFz 12 ?_|(refine cy ?_;first|refine aV ?_|refine bY ?_|refine aY ?_|refine aZ ?_|refine aS ?_|refine bg ?_|refine bi ?_|refine ay ?_|refine be ?_)|(refine fo ?_;first|refine bQ ?_|refine eZ ?_|refine cr ?_|refine b8 ?_)|(refine fa ?_;first|refine dm (fun _=>?_)|refine b9 ?_|refine cm ?_|refine bG ?_|refine cw ?_|refine ck ?_)|(refine fh ?_;first|refine cg ?_|refine eB ?_|refine bT ?_|refine bI ?_|refine cq ?_|refine bV ?_|refine bZ ?_)|(refine fe ?_;first|refine fl ?_|refine eS ?_|refine cd ?_|refine bP ?_|refine fq ?_|refine bl ?_|refine bo ?_)|(refine cu ?_;first|refine aX ?_|refine ch ?_)|(refine ff ?_;first|refine cj ?_|refine ct ?_|refine ft ?_)|(refine cf ?_;first|refine ca ?_|refine bd ?_|refine aQ ?_|refine ba ?_|refine aU ?_|refine bh ?_)|(refine fc ?_;first|refine b7 ?_|refine eY ?_|refine bj ?_|refine aR ?_|refine bm ?_)|(refine aI ?_;first|refine au _ ?_|refine bf ?_|refine aA ?_|refine av ?_|refine ax ?_)|(refine fu ?_;first|refine cb ?_|refine bH ?_|refine bX ?_)|(refine gOp ?_;first|refine fd ?_|refine fm ?_|refine bc ?_|refine fp ?_|refine fj ?_|refine bU ?_|refine aT ?_|refine co ?_|refine fw ?_|refine bM ?_|refine b6 ?_|refine bk ?_|refine az ?_|refine bW ?_|refine sNo ?_|refine dO ?_|refine aw ?_)|refine dZ ?_|refine cN ?_|refine fB ?_|refine bp ?_|refine cz ?_|refine bB ?_|refine fC ?_|refine fI ?_|refine fx ?_|refine df ?_|refine cC ?_|refine aN ?_|refine aB ?_|refine bq ?_|refine ci ?_|refine bC ?_|refine aBlkX ?_|refine cA ?_)
 cases g1:S.2
 ·rw [if_neg Bool.false_ne_true]
  refine kgo ?_
  exact gK (hp:=.cons (.d rfl) (.cons .m (.cons .n (.cons (.d rfl) (.cons .n (.cons .n (.cons (.d rfl) .nil)))))))
 rw [if_pos rfl]
 refine kgo ?_
 cases g2:T.2
 ·rw [if_neg Bool.false_ne_true]
  refine kgo ?_
  exact gK (hp:=.cons (.d rfl) (.cons .m (.cons .n (.cons (.d rfl) (.cons .n (.cons .n (.cons (.d rfl) .nil)))))))
 rw [if_pos rfl]
 refine kgo ?_
 exact gK (hp:=.cons (.d rfl) (.cons (.k rfl rfl) (.cons (.k rfl rfl) (.cons (.d rfl) (.cons (.k rfl rfl) (.cons (.k rfl rfl) (.cons (.d rfl) .nil)))))))
end Go.Proofs.YtacafmejcdgboaaGreatDoor
namespace Go.Proofs.YtacafmejcdgboaaGreatDoor
open Go.RowKit
set_option linter.unusedVariables false
set_option linter.unusedSimpArgs false
theorem kH {f g:Nat→Bool} {n:Nat} (h:∀i,i<n→f i=g i):(List.range n).filter f=(List.range n).filter g:=List.filter_congr fun i hi=>h i (List.mem_range.1 hi)
theorem ru (f:Nat→Bool) (n i:Nat) (h:i<n):((List.range n).map f).getD i false=f i:=by
 rw [List.getD_eq_getElem?_getD,List.getElem?_eq_getElem (by simpa using h),List.getElem_map,List.getElem_range];rfl
theorem o6 (f:Nat→Bool) (n i:Nat) (h:i<n):tkF ((List.range n).map f) true i=f i:=by
 unfold tkF;rw [ru f n i h];cases f i <;> rfl
theorem F3 (f:Nat→Bool) (n k:Nat) (h:k≤n):atN ((List.range n).map f) true k=((idxOf f k).length:Int):=by
 unfold atN idxOf
 rw [List.length_map,kH (fun i hi=>o6 f n i (by omega))]
theorem vX (f:Nat→Bool) (n:Nat) (p:Int) (h:p<n) (hf:0≤p→f p.toNat=true):sX ((List.range n).map f) true false p=if 0≤p then dc (idxOf f n) p else p:=by
 unfold sX
 by_cases h0:0≤p
 ·obtain ⟨k,rfl⟩:=Int.eq_ofNat_of_zero_le h0
  have hk:f k=true:=hf h0
  rw [if_pos (by rw [decide_eq_true h0];simp only [Int.toNat_natCast,Bool.true_and];rw [o6 f n k (by omega)];exact hk),if_pos h0,gg k (by omega),if_pos hk,Int.toNat_natCast,F3 f n k (by omega)]
 ·rw [if_neg (by rw [decide_eq_false h0];simp),if_neg h0];rfl
theorem nT (f:Nat→Bool) (n:Nat):iN f n=((idxOf f n).length:Int):=by unfold iN idxOf;rw [List.length_map]
theorem qo {r a:Big} {ns:List Int} (he:0≤a.edges) (l:Int) (h:0≤l∧l<a.edges+a.outer.length):atI (lx r a ns) l=iM r a ns l:=by
 unfold lx iM iX
 have hlen:(i5 (fH (aM r a ns) r.edges.toNat) a.edges.toNat).length=a.edges.toNat:=by simp [i5]
 rw [ve _ _ _ h.1,hlen]
 by_cases hl:l<a.edges
 ·rw [if_pos (by omega),if_pos hl]
  obtain ⟨k,rfl⟩:=Int.eq_ofNat_of_zero_le h.1
  have hk:k<a.edges.toNat:=by omega
  rw [gg k hk]
  unfold i5
  rw [mS _ _ k (by simpa using hk),List.getElem_range,nT];rfl
 ·rw [if_neg (by omega),if_neg hl,nY _ _ _ (by omega) (by omega),nT,Int.toNat_of_nonneg he];rfl
theorem EJ {sig:List Ctl} {a:Big} (h:aF sig a=true) {ns:List Int} {k:Nat} (hk:k<a.nodes.length) (hi:gV a ns k=false):dP ns k=false∧gV a ns (a.nodes[k]).parent=false:=by
 unfold gV at hi ⊢
 rw [eQ h _ k hk,Bool.or_eq_false_iff] at hi
 exact hi
theorem ES {sig:List Ctl} {a:Big} (h:aF sig a=true) {ns:List Int} {k:Nat} (hk:k<a.nodes.length) (hi:gV a ns k=true) (hn:dP ns k=false):gV a ns (a.nodes[k]).parent=true∧0≤(a.nodes[k]).parent:=by
 unfold gV at hi ⊢
 rw [eQ h _ k hk,hn,Bool.false_or] at hi
 refine ⟨hi,?_⟩
 rcases Int.lt_or_le (a.nodes[k]).parent 0 with h0|h0
 ·rw [eh _ _ h0] at hi;cases hi
 ·exact h0
theorem BQ {b:Big} {f:Nat→Bool} {ks:List Int} {n:Nat} (g:Int→Nd) (h:∀k,k<n→f k=true→Gx ((List.range n).map f) true false ks (dR b k)=g k):gO b ((List.range n).map f) true false ks n=(idxOf f n).map g:=by
 unfold gO idxOf
 rw [kH (fun i hi=>o6 f n i hi),List.map_map]
 refine List.map_congr_left fun k hk=>?_
 rw [List.mem_filter,List.mem_range] at hk
 exact h k hk.1 hk.2
theorem Ac {sig:List Ctl} {r a:Big} {ns:List Int} (hr:aF sig r=true) (ha:aF sig a=true) (him:ox r a ns) (hL:gw r a ns=true) {k:Nat} (hk:k<a.nodes.length) (hi:dP ns k=false) {l:Nat} (hl:(l:Int)∈(a.nodes[k]).links):kL r a ns l=true:=by
 unfold kL
 cases hh:dP ((aM r a ns).take r.edges.toNat) (l:Int) with
 | false=>rfl
 | true=>
  obtain ⟨e,he,e1⟩:=List.mem_take_iff_getElem.1 (cM.1 hh)
  have he1:e<r.edges.toNat∧e<ap r:=by simp [aM] at he;omega
  unfold aM at e1
  rw [List.getElem_map,List.getElem_range] at e1
  obtain ⟨j,hj,e2⟩:=List.mem_iff_getElem.1 hl
  have h1:=AH him hr ha ((aG _ _).1 hL e he1.2) (by omega) (q:=((k:Int),(j:Int))) (ew.2 ⟨k,j,hk,hj,by rw [e1];exact e2,rfl⟩)
  rw [cM.2 h1] at hi;cases hi
theorem Bk {b:Big} (o:rE b) {j:Nat} (hj:j<b.outer.length):jx (cH b.outer) (b.outer.getD j ⟨#[]⟩)=j:=by
 rw [lU o.names,List.getD_eq_getElem?_getD,List.getElem?_eq_getElem hj]
 exact qB o.names j hj
theorem wL {l:List Int} {x:Int} (h:¬x∈l):dc l x = -1:=by
 unfold dc;rw [if_neg (fun e=>h (cM.1 e))]
def AT (a:Big) (l:Int):ByteArray:=a.outer.getD (l - a.edges).toNat ⟨#[]⟩
def nB (r a:Big) (ns:List Int):List Wr:=r.outer.mapIdx fun i s=>⟨s,iM r a ns (atI (aM r a ns) (r.edges+i))⟩
def nH (r a:Big) (ns ps:List Int) (names:List ByteArray):List Wr:=names.mapIdx fun i s=>⟨s,iM r a ns (atI ps i)⟩
def FJ (r a:Big) (m:Mat) (ps:List Int) (names:List ByteArray):Big:=
 ⟨a.roots,(pA a (jV a m.nodes) (iX r a m.nodes) a.outer (dK a m.nodes) (AT a)).nodes,m.roots.map (dK a m.nodes),(iX r a m.nodes).length,cH a.outer,wK (nB r a m.nodes++nH r a m.nodes ps names)⟩
theorem nn {α β:Type} {f g:Nat→α→β} {l:List α} (h:∀i (hi:i<l.length),f i l[i]=g i l[i]):l.mapIdx f=l.mapIdx g:=by
 apply List.ext_getElem (by simp)
 intro i h1 h2
 rw [List.getElem_mapIdx,List.getElem_mapIdx]
 exact h i (by simpa using h1)
theorem lv {l:List ByteArray} (f:Nat→ByteArray→Int):(l.mapIdx fun i s=>(⟨s,f i s⟩:Wr)).map Wr.name=l:=by
 apply List.ext_getElem (by simp)
 intro i h1 h2
 rw [List.getElem_map,List.getElem_mapIdx]
theorem FH {sig:List Ctl} {r a:Big} {m:Mat} (hr:aF sig r=true) (hs:bF r=true) (ha:aF sig a=true) (hm:dD r a m=true) {ps:List Int} {names:List ByteArray} (hps:∀l∈ps,0≤l∧l<(ap a:Int)) (hnm:names.length=ps.length):FJ r a m ps names=GF r a m ps names:=by
 obtain ⟨h1,h2,h3,h4⟩:=cF hm
 have him:=iQ h1
 have oa:=dB ha
 have or':=dB hr
 have he:=oa.edges
 have hL:ap a=(a.edges+a.outer.length).toNat:=rfl
 have hrt:∀p∈m.roots,p<a.nodes.length∧gV a m.nodes p=false:=fun p hp=>by
  unfold fP at h2
  rw [Bool.and_eq_true] at h2
  have:=List.all_eq_true.1 h2.1 p hp
  unfold jP at this
  rw [Bool.and_eq_true,Bool.not_eq_true'] at this
  have h5:=bK this.1
  exact ⟨by omega,this.2⟩
 have hpl:∀p:Int,p<a.nodes.length→gV a m.nodes p=false→sX (dh a m.nodes a.nodes.length) true false p=dK a m.nodes p:=fun p h5 h6=>vX _ _ _ h5 (fun h0=>by
  obtain ⟨k,rfl⟩:=Int.eq_ofNat_of_zero_le h0
  show Ew a m.nodes k=true
  unfold Ew
  rw [h6];rfl)
 unfold FJ GF pA
 dsimp only
 congr 1
 ·symm
  refine BQ _ (fun k hk hf=>?_)
  have hf':gV a m.nodes k=false:=by unfold Ew at hf;simpa using hf
  obtain ⟨h5,h6⟩:=EJ ha hk hf'
  have hup:=iI ha k hk
  unfold Gx lP ez
  rw [aD a k hk]
  rw [show sX ((List.range a.nodes.length).map (Ew a m.nodes)) true false (a.nodes[k]).parent=dK a m.nodes (a.nodes[k]).parent from hpl _ (by omega) h6]
  congr 1
  refine List.map_congr_left fun l hl=>?_
  have hlk:=oa.links _ (List.getElem_mem hk) l hl
  obtain ⟨l,rfl⟩:=Int.eq_ofNat_of_zero_le hlk.1
  rw [qo he.1 _ hlk]
  unfold iM kW
  by_cases hlt:(l:Int)<a.edges
  ·have hkf:=Ac hr ha him h4 hk h5 hl
   have e1:dc (iX r a m.nodes) l=_:=gg (f:=kL r a m.nodes) (n:=a.edges.toNat) l (by omega)
   rw [if_pos hkf] at e1
   rw [if_pos hlt,if_pos (by omega)]
  ·rw [if_neg hlt,wL (fun hin=>by
    obtain ⟨q,hq,_,e⟩:=bw.1 hin
    omega),if_neg (by omega)]
   unfold AT
   rw [Bk oa (by omega)];omega
 ·refine List.map_congr_left fun p hp=>?_
  obtain ⟨h5,h6⟩:=hrt p hp
  have:=hpl p h5 h6
  rw [← this]
  unfold sX yY
  by_cases h0:0≤p
  ·obtain ⟨k,rfl⟩:=Int.eq_ofNat_of_zero_le h0
   have hk:k<a.nodes.length:=by omega
   have ht:tkF (dh a m.nodes a.nodes.length) true k=true:=by
    unfold dh
    rw [o6 _ _ k hk]
    unfold Ew
    rw [h6];rfl
   rw [if_pos (by rw [decide_eq_true h0];simpa using ht),if_neg (by omega)]
   unfold atL
   rw [mS _ _ k (by simpa using hk),List.getElem_range,Int.toNat_natCast]
  ·rw [if_neg (by rw [decide_eq_false h0];simp),if_neg (show ¬(false=true) by simp),if_pos (by omega)]
 ·exact (nT _ _).symm
 ·exact lU oa.names
 ·have e1:nB r a m.nodes=og r (lx r a m.nodes) (aM r a m.nodes):=nn fun i hi=>by
   have hp0:=fW hs
   have:=zS him hr ha hp0 (r.edges+i) (by have:=or'.edges;omega) (by have:=or'.edges;unfold ap;omega)
   rw [qo he.1 _ ⟨this.1,by omega⟩]
  have e2:nH r a m.nodes ps names=zW (lx r a m.nodes) ps names:=nn fun i hi=>by
   have:=hps _ (ow (l:=ps) (i:=i) (by omega) (by omega))
   rw [qo he.1 _ ⟨this.1,by omega⟩]
  rw [e1,e2]
  exact wV (by unfold og;rw [lv];exact or'.names)
theorem Ax:∀i j:Fin 26,i<j→cQ (mU i) (mU j)=true:=by decide +kernel
theorem pZ (outer:List ByteArray) (n:Nat):(bJ outer n).Pairwise NLt:=by
 unfold bJ
 refine List.Pairwise.sublist (List.take_sublist _ _) (List.pairwise_map.2 ?_)
 refine List.Pairwise.imp_of_mem (fun {x y} hx hy h=>?_) (List.Pairwise.filter _ List.pairwise_lt_range)
 rw [List.mem_filter,List.mem_range] at hx hy
 exact Ax ⟨x,hx.1⟩ ⟨y,hy.1⟩ h
theorem vK (outer:List ByteArray) (n:Nat):∀s∈bJ outer n,¬s∈outer:=fun s hs hm=>by
 unfold bJ at hs
 obtain ⟨i,hi,rfl⟩:=List.mem_map.1 (List.mem_of_mem_take hs)
 rw [List.mem_filter] at hi
 have:=hi.2
 unfold lm at this
 rw [Bool.not_eq_true',List.any_eq_false] at this
 exact this _ hm (by simp)
theorem yR {sig:List Ctl} {r a:Big} (hr:aF sig r=true) (ns ps:List Int) (n:Nat):((nB r a ns++nH r a ns ps (bJ r.outer n)).map Wr.name).Nodup:=by
 rw [List.map_append]
 unfold nB nH
 rw [lv,lv]
 exact List.nodup_append.2 ⟨iU NLt NLt.irr (dB hr).names,iU NLt NLt.irr (pZ _ _),fun x hx y hy e=>vK _ _ _ hy (by rw [← e];exact hx)⟩
theorem As {sig:List Ctl} {a:Big} (ha:aF sig a=true) (ns:List Int):idxOf (psF a ns) (ap a)=ak a ns:=by
 unfold ak idxOf
 rw [kH (fun l hl=>?_)]
 unfold psF Ib mP
 rw [Bool.eq_iff_iff,decide_eq_true_eq,List.length_pos_iff_exists_mem,List.any_eq_true]
 constructor
 ·rintro ⟨q,hq⟩
  rw [List.mem_filter] at hq
  obtain ⟨hq,hp⟩:=hq
  obtain ⟨i,j,hi,hj,e1,rfl⟩:=ew.1 hq
  simp only [Int.toNat_natCast] at hp
  unfold dW at hp
  rw [ru _ _ i hi] at hp
  exact ⟨i,bw.2 ⟨i,hi,by simpa using hp,rfl⟩,by rw [aD a i hi,cM,← e1];exact List.getElem_mem hj⟩
 ·rintro ⟨k,hk,hl2⟩
  obtain ⟨q,rfl,hq,hp⟩:=gZ hk
  rw [aD a q hq,cM] at hl2
  obtain ⟨j,hj,e⟩:=List.mem_iff_getElem.1 hl2
  refine ⟨((q:Int),(j:Int)),List.mem_filter.2 ⟨ew.2 ⟨q,j,hq,hj,e,rfl⟩,?_⟩⟩
  simp only [Int.toNat_natCast]
  unfold dW
  rw [ru _ _ q hq,hp];rfl
def sq (r a:Big) (ns:List Int) (p:Int):Int:=if 0≤dc (bz a ns) p then dc (bz a ns) p else -1 - dc r.sites (dc ns p)
def vo (ps:List Int) (names:List ByteArray) (l:Int):ByteArray:=names.getD (dc ps l).toNat ⟨#[]⟩
def Io (r a:Big) (m:Mat) (ps:List Int) (names:List ByteArray):Big:=⟨r.sites.length,(pA a (bz a m.nodes) [] names (sq r a m.nodes) (vo ps names)).nodes,[],0,cH names,[]⟩
theorem xA {r:Big} {x:Int} (h:0<(cD r x).length):atI (cD r x) 0=dc r.sites x:=by
 have hm:(cD r x)[0]∈cD r x:=List.getElem_mem h
 unfold cD at hm
 obtain ⟨q,hq,hf,e⟩:=bw.1 hm
 unfold jA at hf
 rw [List.getElem?_eq_getElem hq] at hf
 have hx:r.sites[q]=x:=by simpa using hf
 have hin:x∈r.sites:=by rw [← hx];exact List.getElem_mem hq
 have e0:atI (cD r x) 0=(q:Int):=by rw [show (0:Int)=((0:Nat):Int) from rfl,cE _ 0 h];exact e
 rw [e0]
 unfold dc
 rw [if_pos (cM.2 hin)]
 have hi:r.sites.idxOf x<r.sites.length:=List.idxOf_lt_length_of_mem hin
 have h1:r.sites.idxOf x≤q:=by
  rcases Nat.lt_or_ge q (r.sites.idxOf x) with h2|h2
  ·have h3:=List.not_of_lt_findIdx (p:=(· == x)) (xs:=r.sites) (i:=q) h2
   rw [hx] at h3
   simp at h3
  ·exact h2
 have h2:((r.sites.idxOf x:Nat):Int)∈cD r x:=bw.2 ⟨_,hi,by unfold jA;rw [List.getElem?_eq_getElem hi];simp,rfl⟩
 obtain ⟨j,hj,e3⟩:=List.mem_iff_getElem.1 h2
 have hinc:(cD r x).Pairwise (· < ·):=hZ _ _
 have h3:(q:Int)≤r.sites.idxOf x:=by
  rw [← e3]
  have e':(cD r x)[0]=(q:Int):=e
  rw [← e']
  rcases Nat.eq_zero_or_pos j with rfl|hj0
  ·exact Int.le_refl _
  ·exact Int.le_of_lt (sH hinc h hj hj0)
 omega
theorem DW (ps z:List Int) (k:Nat):lY ps z k=mg ps z 0 k:=by
 unfold lY mg
 congr 1
 funext l i
 simp
theorem FG {sig:List Ctl} {r a:Big} {m:Mat} (hr:aF sig r=true) (ha:aF sig a=true) (hm:dD r a m=true) (names:List ByteArray) (hn:names.Pairwise NLt) (hnl:names.length=(ak a m.nodes).length):Io r a m (ak a m.nodes) names=GY r a m (ak a m.nodes) names:=by
 have hinc:(ak a m.nodes).Pairwise (· < ·):=hZ _ _
 unfold Io GY pA
 dsimp only
 rw [lU hn]
 congr 1
 unfold ke bz idxOf dW
 rw [kH (fun i hi=>o6 (mw a m.nodes) a.nodes.length i hi),List.map_map]
 refine (List.map_congr_left fun k hk=>?_).symm
 rw [List.mem_filter,List.mem_range] at hk
 obtain ⟨hk,hf⟩:=hk
 have hf2:=hf
 unfold mw at hf2
 rw [Bool.and_eq_true,Bool.not_eq_true'] at hf2
 obtain ⟨h5,h6⟩:=ES ha hk hf2.1 hf2.2
 have hup:=iI ha k hk
 obtain ⟨q,hq⟩:=Int.eq_ofNat_of_zero_le h6
 have hql:q<a.nodes.length:=by omega
 have hpm:dc (bz a m.nodes) (q:Int)=_:=gg (f:=mw a m.nodes) (n:=a.nodes.length) q hql
 unfold jZ
 show _=lP a [] names (sq r a m.nodes) (vo (ak a m.nodes) names) k
 unfold lP ez
 rw [aD a k hk,hq]
 congr 1
 ·unfold sq
  rw [hq] at h5
  by_cases hh:dP m.nodes (q:Int)=true
  ·have hpf:mw a m.nodes q=false:=by unfold mw;rw [hh];simp
   rw [hpf,if_neg (by simp)] at hpm
   rw [hpm,decide_eq_true hk,hh,if_pos (show (true && true)=true from rfl),if_neg (show ¬(0:Int)≤-1 by omega)]
   have hs:=oV hm k hk hf (by rw [aD a k hk,hq];exact hh)
   rw [aD a k hk,hq] at hs
   unfold kS
   rw [xA hs]
  ·rw [Bool.not_eq_true] at hh
   have hpf:mw a m.nodes q=true:=by unfold mw;rw [hh,h5];rfl
   rw [hpf,if_pos rfl] at hpm
   rw [hh,Bool.and_false,if_neg (by simp),hpm,if_pos (by omega)]
   rw [vX _ _ _ (by omega) (fun _=>hpf),if_pos (by omega)]
   exact hpm
 ·refine List.map_congr_left fun l hl=>?_
  obtain ⟨l,rfl,hll⟩:=iE ((eW ha k hk).2.2.2.2 _ hl)
  have hpl:(l:Int)∈ak a m.nodes:=bw.2 ⟨l,hll,List.any_eq_true.2 ⟨k,bw.2 ⟨k,hk,hf,rfl⟩,by rw [aD a k hk];exact cM.2 hl⟩,rfl⟩
  obtain ⟨e,he,e1⟩:=List.mem_iff_getElem.1 hpl
  have hie:=vl hinc e he
  rw [DW,← e1,wX 0 hinc (fun x hx=>by
   obtain ⟨i,hi,_,rfl⟩:=bw.1 hx
   rw [List.length_replicate];omega) _ (Nat.le_refl _) e he he]
  unfold kW vo
  rw [wL (l:=[]) (by simp),if_neg (by omega),hie,lU hn,Int.toNat_natCast,List.getD_eq_getElem?_getD,List.getElem?_eq_getElem (by omega)]
  rw [Option.getD_some,qB hn e (by omega)]
  simp
end Go.Proofs.YtacafmejcdgboaaGreatDoor
namespace Go.Proofs.YtacafmejcdgboaaGreatDoor
open Go.RowKit
set_option linter.unusedVariables false
set_option linter.unusedSimpArgs false
set_option maxRecDepth 100000
set_option maxHeartbeats 4000000
attribute [local irreducible] ar Der At
theorem Ei (b:Big) (ns es:List Int) (outer:List ByteArray) (gp gn:Nat) (cp cn:List D) (place:Int→Int) (name:Int→ByteArray) (hcp:(cp.all fun r=>!isT r)=true) (hcn:(cn.all fun r=>!isT r)=true)
 (hn:ns.length≤1000) (he:es.length≤1000) (hol:outer.length≤1000) (hns:∀k∈ns,∃q:Nat,k=q∧q<b.nodes.length) (hll:∀n∈b.nodes,n.links.length≤1000)
 (hp:∀k∈ns,FnD Tryz.prog gp ([.i (dR b k).parent]++cp) (.d (.i (place (dR b k).parent)))) (hnm:∀k∈ns,∀l∈(dR b k).links,dc es l<0→FnD Tryz.prog gn ([.i l]++cn) (.d (.s (name l)))) :
 FnO Tryz.prog 228 [b.D,DI ns,DI es,DS outer,.f gp cp,.f gn cn] [6] [.d (.i b.roots),.tk (.row 3 151 ((pA b ns es outer place name).nodes.map Nd.D)),.d (.n 1),.d (.i es.length),.d (DS (cH outer)),.d (.n 2)]:=by
 have f0:=ld outer hol
 have ho:(cH outer).length≤1000:=by have h:=kk outer [];unfold cH;simp at h;omega
 refine cR Tryz.func228 (fun hw W0=>?_)
 refine kgo ?_
 refine nW 10013 1 20001 151 ?_
 refine ai [2,4,5,6,12,13,27,28] (fun i:Nat=>i≤ns.length) (fun i=>ns.length - i) (fun i=>[(10013,.tk (.bx [.d (.i b.roots),.k 20001,.d (.n 1),.d (.i es.length),.d (DS (cH outer)),.d (.n 2)])),(20001,.tk (.row 3 151 (((ns.take i).map (lP b es outer place name)).map Nd.D))),(29,.sy (.d (.i i)))]) 0 (Nat.zero_le _) (fun i hi=>?_)
 refine kgo ?_
 refine aL (fun h=>?_) (fun h=>?_)
 ·have hlt:i<ns.length:=by omega
  have hmk:=List.getElem_mem hlt
  obtain ⟨q,hq,hqb⟩:=hns _ hmk
  have hnd:dR b ns[i]=b.nodes[q]:=by rw [hq,aD b q hqb]
  have f1:=hp _ hmk
  have f2:=hnm _ hmk
  rw [hnd] at f1 f2
  have hL:=hll _ (List.getElem_mem hqb)
  refine kgo ?_
  rw [hq]
  refine kgo ?_
  refine nW 10016 2 20002 3 ?_
  refine ai [2,4,5,6,12,13,16,27,28,29,53,54] (fun j:Nat=>j≤(b.nodes[q]).links.length) (fun j=>(b.nodes[q]).links.length - j) (fun j=>[(10016,.tk (.bx [.d (.i (b.nodes[q]).control),.d (.i (place (b.nodes[q]).parent)),.k 20002])),(20002,.tk (.row 1 3 ((((b.nodes[q]).links.take j).map (kW es outer name)).map .i))),(55,.sy (.d (.i j)))]) 0 (Nat.zero_le _) (fun j hj=>?_)
  refine kgo ?_
  refine aL (fun h2=>?_) (fun h2=>?_)
  ·have hjl:j<(b.nodes[q]).links.length:=by omega
   have f3:=iD es (b.nodes[q]).links[j]
   have hr:=ex (fun x=>x == (b.nodes[q]).links[j]) es
   have hlk:kW es outer name (b.nodes[q]).links[j]=if 0≤lc (fun x=>x == (b.nodes[q]).links[j]) es then lc (fun x=>x == (b.nodes[q]).links[j]) es else es.length+jx (cH outer) (name (b.nodes[q]).links[j]):=rfl
   have f4:=f2 _ (List.getElem_mem hjl)
   have hb:(((b.nodes[q]).links.take j).map (kW es outer name)).length≤1000:=by rw [List.length_map,List.length_take];omega
   have hs:∀V:Int,kW es outer name (b.nodes[q]).links[j]=V→(((b.nodes[q]).links.take (j+1)).map (kW es outer name)).map D.i=(((b.nodes[q]).links.take j).map (kW es outer name)).map D.i++[.i V]:=fun V hV=>by rw [List.take_succ_eq_append_getElem hjl,List.map_append,List.map_append,← hV];rfl
   refine kgo ?_
   refine aL (fun h3=>?_) (fun h3=>?_)
   ·rw [if_pos h3] at hlk
    have hs:=hs _ hlk
    refine kgo ?_
    exact af (j+1) hjl (by omega)
   ·rw [if_neg h3] at hlk
    have hs:=hs _ hlk
    have f4:=f4 (by show lc _ _<0;omega)
    have f5:=nI (cH outer) (name (b.nodes[q]).links[j])
    have hr2:=na (cH outer) (name (b.nodes[q]).links[j])
    refine kgo ?_
    exact af (j+1) hjl (by omega)
  rw [show (b.nodes[q]).links.take j=(b.nodes[q]).links from List.take_of_length_le (by omega)]
  have hb:((ns.take i).map (lP b es outer place name)).length≤1000:=by rw [List.length_map,List.length_take];omega
  have hs:((ns.take (i+1)).map (lP b es outer place name)).map Nd.D=((ns.take i).map (lP b es outer place name)).map Nd.D++[Nd.D ⟨(b.nodes[q]).control,place (b.nodes[q]).parent,(b.nodes[q]).links.map (kW es outer name)⟩]:=by
   rw [List.take_succ_eq_append_getElem hlt,List.map_append,List.map_append,← hnd];rfl
  refine bB (aB (aB (bC (aN ?_))))
  refine ou 10016 2 ?_
  refine kgo ?_
  exact af (i+1) hlt (by omega)
 rw [show (pA b ns es outer place name).nodes=(ns.take i).map (lP b es outer place name) from by rw [List.take_of_length_le (by omega)];rfl]
 refine kgo ?_
 exact gK (hp:=.cons (.d rfl) (.cons (.k rfl rfl) (.cons (.d rfl) (.cons (.d rfl) (.cons (.d rfl) (.cons (.d rfl) .nil))))))
def mV (sig:List Ctl) (r a:Big) (m:Mat):Bool:=(dJ r a m.nodes).2.2 && aF sig (gN r a m)
theorem xD {sig:List Ctl} {r a:Big} (m:Mat) (hbr:aF sig r=true) (hs:bF r=true) (hba:aF sig a=true) (hm:dD r a m=true):FnO Tryz.prog 162 [.l 3 (sig.map Ctl.D),r.D,a.D,m.D] [6,0] (B8 (yZ (mV sig r a m) (gN r a m))++[.d (.b (mV sig r a m))]):=by
 obtain ⟨h1,h2,h3,h4⟩:=cF hm
 have him:=iQ h1
 have oa:=dB hba
 have orr:=dB hbr
 have hrl:m.roots.length≤1000:=by have h:=i1 (ns:=m.nodes) (rs:=m.roots) h2;have:=orr.roots;omega
 obtain ⟨ae,hae⟩:=Int.eq_ofNat_of_zero_le oa.edges.1
 obtain ⟨re,hre⟩:=Int.eq_ofNat_of_zero_le orr.edges.1
 have hrt:=lD h2
 have hpe:dJ r a m.nodes=if decide (16<((ak a m.nodes).length:Int)+r.outer.length) then ([],[],false) else (ak a m.nodes,bJ r.outer (ak a m.nodes).length,true):=by unfold dJ;rw [As hba]
 have f1:=mu m hbr hs hba him
 have f2:=nh m.nodes hbr hba him
 rw [h4,kG h4] at f2
 have f3:=vS m hba
 have hps:∀l∈ak a m.nodes,0≤l∧l<(ap a:Int):=fun l hl=>by
  obtain ⟨i,hi,_,rfl⟩:=bw.1 hl
  omega
 by_cases hp:((ak a m.nodes).length:Int)+r.outer.length≤16
 case neg=>
  rw [if_pos (by simp;omega)] at hpe
  rw [decide_eq_false hp] at f1
  rw [show mV sig r a m=false from by unfold mV;rw [hpe];rfl]
  refine cR Tryz.func162 (fun hw W0=>?_)
  refine kgo ?_
  exact gK (hp:=.cons (.d rfl) (.cons .m (.cons .n (.cons (.d rfl) (.cons .n (.cons .n (.cons (.d rfl) .nil)))))))
 rw [if_neg (by simp;omega)] at hpe
 rw [decide_eq_true hp] at f1
 have hnl:(bJ r.outer (ak a m.nodes).length).length=(ak a m.nodes).length:=mX (by omega)
 have hX:gN r a m=FJ r a m (ak a m.nodes) (bJ r.outer (ak a m.nodes).length):=by
  unfold gN
  rw [hpe]
  exact (FH hbr hs hba hm hps hnl).symm
 rw [show mV sig r a m=aF sig (gN r a m) from by unfold mV;rw [hpe];rfl,hX]
 have hil:(aM r a m.nodes).length=ap r:=by unfold aM;simp
 have hix:=zS him hbr hba (fW hs)
 have hna:ap a=ae+a.outer.length:=by unfold ap;omega
 have hnr:ap r=re+r.outer.length:=by unfold ap;omega
 have hkeep:idxOf (kL r a m.nodes) ae=iX r a m.nodes:=by unfold iX;rw [hae];rfl
 have hkl:(iX r a m.nodes).length≤ae:=by rw [← hkeep];exact fG _ _
 have hae8:=oa.edges
 have hre8:=orr.edges
 have hlk:∀l,(0≤l∧l<a.edges+a.outer.length)→FnD Tryz.prog 230 [.i l,.p a.D,.p (DI (iX r a m.nodes))] (.d (.i (iM r a m.nodes l))):=fun l hl=>sn a (iX r a m.nodes) l ⟨hl.1,by have:=oa.outer;omega⟩ ⟨hae8.1,by omega⟩ (by omega)
 have hpl:∀p,FnD Tryz.prog 227 [.i p,.p (DI (jV a m.nodes))] (.d (.i (dK a m.nodes p))):=fun p=>tC (jV a m.nodes) p
 have hrest:∀k∈jV a m.nodes,∃q:Nat,k=q∧q<a.nodes.length∧gV a m.nodes q=false:=fun k hk=>by
  obtain ⟨q,hq,hf,e⟩:=bw.1 hk
  exact ⟨q,e,hq,by simpa using hf⟩
 have hrestl:(jV a m.nodes).length≤a.nodes.length:=fG _ _
 have f4:=Ei a (jV a m.nodes) (iX r a m.nodes) a.outer 227 229 [.p (DI (jV a m.nodes))] [.p a.D] (dK a m.nodes) (AT a) rfl rfl (by have:=oa.nodes;omega) (by omega) (by have:=oa.outer;omega) (fun k hk=>by obtain ⟨q,e,hq,_⟩:=hrest k hk;exact ⟨q,e,hq⟩) (fun n hn=>by
  obtain ⟨i,hi,rfl⟩:=List.mem_iff_getElem.1 hn
  exact (bu hba).7 i hi) (fun k _=>hpl _) (fun k hk l hl hno=>by
  obtain ⟨q,rfl,hq,hf⟩:=hrest k hk
  rw [aD a q hq] at hl
  have hlr:=oa.links _ (List.getElem_mem hq) l hl
  refine sG a l ?_ (by omega) ⟨hae8.1,by omega⟩ (by have:=oa.outer;omega)
  obtain ⟨j,rfl⟩:=Int.eq_ofNat_of_zero_le hlr.1
  rcases Int.lt_or_le (j:Int) a.edges with hlt|hge
  ·have hkf:=Ac hbr hba him h4 hq (EJ hba hq hf).1 hl
   have e1:dc (iX r a m.nodes) j=_:=gg (f:=kL r a m.nodes) (n:=a.edges.toNat) j (by omega)
   rw [if_pos hkf] at e1
   omega
  ·omega)
 have hw1:(nB r a m.nodes).length=r.outer.length:=by unfold nB;simp
 have hw2:(nH r a m.nodes (ak a m.nodes) (bJ r.outer (ak a m.nodes).length)).length=(ak a m.nodes).length:=by unfold nH;simpa using hnl
 have hnd:=yR (a:=a) hbr m.nodes (ak a m.nodes) (ak a m.nodes).length
 have f5:=n8 (nB r a m.nodes++nH r a m.nodes (ak a m.nodes) (bJ r.outer (ak a m.nodes).length)) 232 (by rw [List.length_append];omega) hnd (bS Tryz.func232) sP
 have hinl:(FJ r a m (ak a m.nodes) (bJ r.outer (ak a m.nodes).length)).inner.length≤1000:=by
  unfold FJ
  rw [wE,List.length_append];omega
 have f6:=oc sig (FJ r a m (ak a m.nodes) (bJ r.outer (ak a m.nodes).length)) hinl
 have hs1:∀i (h:i<r.outer.length),(nB r a m.nodes).take (i+1)=(nB r a m.nodes).take i++[⟨r.outer[i],iM r a m.nodes (atI (aM r a m.nodes) (r.edges+i))⟩]:=fun i h=>by
  rw [List.take_succ_eq_append_getElem (by omega)];unfold nB;simp
 have hP:FJ r a m (ak a m.nodes) (bJ r.outer (ak a m.nodes).length)=⟨a.roots,(pA a (jV a m.nodes) (iX r a m.nodes) a.outer (dK a m.nodes) (AT a)).nodes,m.roots.map (dK a m.nodes),(iX r a m.nodes).length,cH a.outer,wK (nB r a m.nodes++nH r a m.nodes (ak a m.nodes) (bJ r.outer (ak a m.nodes).length))⟩:=rfl
 rw [hP] at f6 ⊢
 clear hP hX hpe hnd
 have hs2:∀i (h:i<(bJ r.outer (ak a m.nodes).length).length) (h':i<(ak a m.nodes).length),(nH r a m.nodes (ak a m.nodes) (bJ r.outer (ak a m.nodes).length)).take (i+1)=(nH r a m.nodes (ak a m.nodes) (bJ r.outer (ak a m.nodes).length)).take i++[⟨(bJ r.outer (ak a m.nodes).length)[i],iM r a m.nodes (ak a m.nodes)[i]⟩]:=fun i h h'=>by
  rw [List.take_succ_eq_append_getElem (by omega)];unfold nH;simp [cE _ i h']
 generalize nH r a m.nodes (ak a m.nodes) (bJ r.outer (ak a m.nodes).length)=W2 at *
 generalize nB r a m.nodes=W1 at *
 generalize bJ r.outer (ak a m.nodes).length=nm at *
 generalize ak a m.nodes=L at *
 generalize (pA a (jV a m.nodes) (iX r a m.nodes) a.outer (dK a m.nodes) (AT a)).nodes=pn at *
 generalize jV a m.nodes=rest at *
 refine cR Tryz.func162 (fun hw W0=>?_)
 refine kgo ?_
 refine ai [0,5,6,7,8,10,11,13,15,48] (fun i:Nat=>i≤ae) (fun i=>ae - i) (fun i=>[(49,.sy (.d (.i i))),(10015,.tk (.bx [.k 20001])),(20001,.tk (.row 1 3 ((idxOf (kL r a m.nodes) i).map .i)))]) 0 (Nat.zero_le _) (fun i hi=>?_)
 refine kgo ?_
 refine aL (fun h=>?_) (fun h=>?_)
 ·have hlt:i<ae:=by omega
  have f7:=eR ((aM r a m.nodes).take re) i
  have hli:=fG (kL r a m.nodes) i
  refine kgo ?_
  refine bH (n:=re) ?_ rfl rfl (congrArg some hre)
  cases hk:dP ((aM r a m.nodes).take re) i
  ·rw [hk] at f7
   have hf:kL r a m.nodes i=true:=by unfold kL;rw [hre];show (!dP ((aM r a m.nodes).take re) i)=true;rw [hk];rfl
   have hs:(idxOf (kL r a m.nodes) (i+1)).map D.i=(idxOf (kL r a m.nodes) i).map D.i++[.i i]:=by rw [dg hf,List.map_append];rfl
   refine kgo ?_
   exact af (i+1) hlt (by omega)
  ·rw [hk] at f7
   have hf:kL r a m.nodes i=false:=by unfold kL;rw [hre];show (!dP ((aM r a m.nodes).take re) i)=false;rw [hk];rfl
   have hs:(idxOf (kL r a m.nodes) (i+1)).map D.i=(idxOf (kL r a m.nodes) i).map D.i:=by rw [eJ hf]
   refine kgo ?_
   exact af (i+1) hlt (by omega)
 rw [show i=ae by omega,hkeep]
 refine bB (aB (aB (bC (aN ?_))))
 refine ou 10015 0 ?_
 refine kgo ?_
 refine rL 17 (DI rest) ?_
 refine kgo ?_
 refine rL 6 a.D ?_
 refine kgo ?_
 refine rL 15 (DI (iX r a m.nodes)) ?_
 refine kgo ?_
 refine nW 10019 2 20002 3 ?_
 refine ai [0,5,8,10,11,13,18,19,20,78,79,31075] (fun i:Nat=>i≤m.roots.length) (fun i=>m.roots.length - i) (fun i=>[(80,.sy (.d (.i i))),(10019,.tk (.bx [.d (.i a.roots),.k 31075,.k 20002,.d (.i (iX r a m.nodes).length),.d (DS (cH a.outer)),.d (.n 2)])),(20002,.tk (.row 1 3 (((m.roots.take i).map (dK a m.nodes)).map .i)))]) 0 (Nat.zero_le _) (fun i hi=>?_)
 refine kgo ?_
 refine aL (fun h=>?_) (fun h=>?_)
 ·have hlt:i<m.roots.length:=by omega
  have f7:=hpl m.roots[i]
  have hs:((m.roots.take (i+1)).map (dK a m.nodes)).map D.i=((m.roots.take i).map (dK a m.nodes)).map D.i++[.i (dK a m.nodes m.roots[i])]:=by rw [List.take_succ_eq_append_getElem hlt,List.map_append,List.map_append];rfl
  have hq:((m.roots.take i).map (dK a m.nodes)).length≤1000:=by rw [List.length_map,List.length_take];omega
  refine kgo ?_
  exact af (i+1) hlt (by omega)
 rw [show m.roots.take i=m.roots from List.take_of_length_le (by omega)]
 refine kgo ?_
 refine nW 10019 5 20003 153 ?_
 refine ai [0,5,8,10,11,13,19,20,94,95,31075,20002] (fun i:Nat=>i≤r.outer.length) (fun i=>r.outer.length - i) (fun i=>[(96,.sy (.d (.i i))),(10019,.tk (.bx [.d (.i a.roots),.k 31075,.k 20002,.d (.i (iX r a m.nodes).length),.d (DS (cH a.outer)),.k 20003])),(20003,.tk (.row 2 153 ((W1.take i).map Wr.D)))]) 0 (Nat.zero_le _) (fun i hi=>?_)
 refine kgo ?_
 refine aL (fun h=>?_) (fun h=>?_)
 ·have hlt:i<r.outer.length:=by omega
  have hx:=hix (r.edges+i) (by omega) (by omega)
  have f7:=hlk (atI (aM r a m.nodes) (r.edges+i)) ⟨hx.1,by omega⟩
  have hs:(W1.take (i+1)).map Wr.D=(W1.take i).map Wr.D++[Wr.D ⟨r.outer[i],iM r a m.nodes (atI (aM r a m.nodes) (r.edges+i))⟩]:=by rw [hs1 i hlt,List.map_append];rfl
  have hq:(W1.take i).length≤1000:=by rw [List.length_take];omega
  refine kgo ?_
  exact af (i+1) hlt (by omega)
 rw [show W1.take i=W1 from List.take_of_length_le (by omega)]
 refine kgo ?_
 refine GA 20003 (t':=.row 2 153 ((W1++W2.take 0).map Wr.D)) (by rw [List.take_zero,List.append_nil]) ?_
 refine ai [0,8,10,19,20,118,119,31075,20002] (fun i:Nat=>i≤nm.length) (fun i=>nm.length - i) (fun i=>[(120,.sy (.d (.i i))),(10019,.tk (.bx [.d (.i a.roots),.k 31075,.k 20002,.d (.i (iX r a m.nodes).length),.d (DS (cH a.outer)),.k 20003])),(20003,.tk (.row 2 153 ((W1++W2.take i).map Wr.D)))]) 0 (Nat.zero_le _) (fun i hi=>?_)
 refine kgo ?_
 refine aL (fun h=>?_) (fun h=>?_)
 ·have hlt:i<nm.length:=by omega
  have hltL:i<L.length:=by omega
  have hx:=hps _ (List.getElem_mem hltL)
  have f7:=hlk L[i] ⟨hx.1,by omega⟩
  have hs:(W1++W2.take (i+1)).map Wr.D=(W1++W2.take i).map Wr.D++[Wr.D ⟨nm[i],iM r a m.nodes L[i]⟩]:=by rw [hs2 i hlt hltL,← List.append_assoc,List.map_append];rfl
  have hq:(W1++W2.take i).length≤1000:=by rw [List.length_append,List.length_take];omega
  refine kgo ?_
  exact af (i+1) hlt (by omega)
 rw [show W2.take i=W2 from List.take_of_length_le (by omega)]
 refine bB (aB (aB (bC (aN ?_))))
 refine ou 10019 1 ?_
 refine ou 10019 2 ?_
 refine dZ (cN ?_)
 refine bQ ?_
 refine aV ?_
 refine aU ?_
 refine df (aN ?_)
 refine ou 10019 5 ?_
 refine kgo ?_
  --STOP
 exact gK (hp:=.cons (.d rfl) (.cons (.k rfl rfl) (.cons (.k rfl rfl) (.cons (.d rfl) (.cons (.k rfl rfl) (.cons (.k rfl rfl) (.cons (.d rfl) .nil)))))))
end Go.Proofs.YtacafmejcdgboaaGreatDoor
namespace Go.Proofs.YtacafmejcdgboaaGreatDoor
open Go.RowKit
set_option linter.unusedVariables false
set_option linter.unusedSimpArgs false
set_option maxRecDepth 100000
set_option maxHeartbeats 4000000
section
variable {P:Program} {ops:Array Oper} {W0:bN} {N:Nat} {Fin:Us→Env→Prop} {os:List Oper} {us:Us} {pk fk:List Nat} {σ:Env} {g:Option (Nat × Bool)} {gk:List Nat} {d ty ty' f:Nat} {pos:String} {after:Array Edge} {at':Array TypeId} {xs:List Operand} {ds:List D}
theorem Gp {sh:List Nat} {ps:List Pt} (h:Der P ops W0 N Fin os (us++[((d :: (gk++(((List.range ps.length).map fun k=>30000+1000 * k+d)++kxs xs)))++pk,(d :: (nD d 0 ps).map Prod.fst)++fk)]) [] [] ((d,.sy (Fq (DX sh (Dj d 0 ps)))) :: (nD d 0 ps++σ))) (hx:Gr σ xs=some ds:=by rfl) (hf:FnO P f ds sh ps:=by assumption) (hi:((List.range ps.length).all fun k=>(aj σ (30000+1000 * k+d)).isNone)=true:=by rfl) (hg:gst ops σ g=some (true,gk):=by rfl) (hN:Nat.blt d N=true:=by rfl) (hs:aE (nD d 0 ps++σ) d=true:=by rfl) (hu:(nD d 0 ps).all (fun p=>!(Nat.beq p.1 d))=true:=by rfl):Der P ops W0 N Fin (⟨some d,.call { callee:=.value (.func f),args:=xs.toArray,argTypes:=at' },ty,pos,after,g⟩ :: os) us pk fk σ:=
 js (Fq (DX sh (Dj d 0 ps))) (((List.range ps.length).map fun k=>30000+1000 * k+d)++kxs xs) (nD d 0 ps) (fun σ' c a w hk hc=>by
  unfold Oper.wp
  rw [bE hf.enter rfl]
  refine (hf.calls c.F w _ (qO hc xs ds hx (fun κ hκ=>hk κ (by simp [hκ]))) hc.lt).mono ?_
  rintro e' w' ⟨vs,T,rfl,hX,hl,hT,hdis,hel⟩
  have hc1:=hc.grow hX (fun b=>fresh w w' c.F b∧∀j,¬T j b) (fun b hb=>⟨.inl hb,fun j e=>by have:=hc.lt b hb;have e2:w.heap.size≤b:=(hT j b e).1;omega⟩) (fun _ h=>h.1.imp id (fun h=>h.1)) (fun b hb=>hb.1.elim (fun h'=>Nat.lt_of_lt_of_le (hc.lt b h') (Below.size hX)) (fun h=>h.2))
  obtain ⟨c',h1,h2,h3,h4,h5⟩:=pc hc1 d w.heap.size T hc.ext.size (fun j u hj b hb=>((hc.tok j u hj).2.2 b hb).2.1) (fun i b hb=>⟨fun hF=>hF.2 i hb,hT i b hb⟩) hdis ps 0 vs (fun k=>by
   rcases Nat.lt_or_ge k ps.length with hk'|hk'
   ·left
    rw [Nat.zero_add,hk _ (List.mem_append_left _ (List.mem_map.2 ⟨k,List.mem_range.2 hk',rfl⟩))]
    have:=List.all_eq_true.1 hi k (List.mem_range.2 hk')
    simpa using this
   ·exact .inr hk') hl (fun k p hp=>by rw [Nat.zero_add];exact hel k p hp)
  exact ⟨_,c',rfl,h1,vf _ _ (BY sh _ _ h5)⟩) h hg hN hs hu
end
theorem FnO.arg {P:Program} {f:Nat} {ds ds':List D} {sh:List Nat} {ps:List Pt} (h:FnO P f ds sh ps) (hd:∀w F vs,DVs w F ds' vs→DVs w F ds vs):FnO P f ds' sh ps:=⟨h.enter,fun F w vs hv hF=>h.calls F w vs (hd _ _ _ hv) hF⟩
attribute [local irreducible] ar Der At
theorem oK (r a:Big) (m:Mat) (p:Int):FnD Tryz.prog 233 [.i p,.p (DI (bz a m.nodes)),.p r.D,.p m.D] (.d (.i (sq r a m.nodes p))):=by
 have f1:=iD (bz a m.nodes) p
 have f2:=iD m.nodes p
 have f3:=iD r.sites (lc (fun x=>x == p) m.nodes)
 have h1:=ex (fun x=>x == p) (bz a m.nodes)
 have h2:=ex (fun x=>x == lc (fun x=>x == p) m.nodes) r.sites
 have hE:sq r a m.nodes p=if 0≤lc (fun x=>x == p) (bz a m.nodes) then lc (fun x=>x == p) (bz a m.nodes) else -1 - lc (fun x=>x == lc (fun x=>x == p) m.nodes) r.sites:=rfl
 refine ah Tryz.func233 (fun hw W0=>?_)
 have hsl:=(wfM hw.2.2.1.2.2.1).1
 unfold maxLen at hsl
 refine kgo ?_
 refine aL (fun h=>?_) (fun h=>?_)
 ·rw [if_pos h] at hE
  rw [hE]
  refine kgo ?_
  exact aq
 ·rw [if_neg h] at hE
  rw [hE]
  refine kgo ?_
  exact aq
theorem n7 (L:List Int) (nm:List ByteArray) (l:Int) (j:Nat) (hj:lc (fun x=>x == l) L=j) (hl:j<nm.length):FnD Tryz.prog 234 [.i l,.p (DS nm),.p (DI L)] (.d (.s nm[j])):=by
 have f1:=iD L l
 rw [hj] at f1
 refine ah Tryz.func234 (fun hw W0=>?_)
 refine kgo ?_
 exact aq
def mx (sig:List Ctl) (r a:Big) (m:Mat):Bool:=(dJ r a m.nodes).2.2 && aF sig (fY r a m)
theorem sf {sig:List Ctl} {r a:Big} (m:Mat) (hbr:aF sig r=true) (hs:bF r=true) (hba:aF sig a=true) (hm:dD r a m=true):FnO Tryz.prog 163 [.l 3 (sig.map Ctl.D),r.D,a.D,m.D] [6,0] (B8 (yZ (mx sig r a m) (fY r a m))++[.d (.b (mx sig r a m))]):=by
 have him:=iQ (cF hm).1
 have oa:=dB hba
 have orr:=dB hbr
 have hpe:dJ r a m.nodes=if decide (16<((ak a m.nodes).length:Int)+r.outer.length) then ([],[],false) else (ak a m.nodes,bJ r.outer (ak a m.nodes).length,true):=by unfold dJ;rw [As hba]
 have f1:=mu m hbr hs hba him
 have f3:=jo m hba
 by_cases hp:((ak a m.nodes).length:Int)+r.outer.length≤16
 case neg=>
  rw [if_pos (by simp;omega)] at hpe
  rw [decide_eq_false hp] at f1
  rw [show mx sig r a m=false from by unfold mx;rw [hpe];rfl]
  refine cR Tryz.func163 (fun hw W0=>?_)
  refine kgo ?_
  exact gK (hp:=.cons (.d rfl) (.cons .m (.cons .n (.cons (.d rfl) (.cons .n (.cons .n (.cons (.d rfl) .nil)))))))
 rw [if_neg (by simp;omega)] at hpe
 rw [decide_eq_true hp] at f1
 have hnl:(bJ r.outer (ak a m.nodes).length).length=(ak a m.nodes).length:=mX (by omega)
 have hX:fY r a m=Io r a m (ak a m.nodes) (bJ r.outer (ak a m.nodes).length):=by
  unfold fY
  rw [hpe]
  exact (FG hbr hba hm _ (pZ _ _) hnl).symm
 rw [show mx sig r a m=aF sig (fY r a m) from by unfold mx;rw [hpe];rfl,hX]
 have hpar:∀k∈bz a m.nodes,∃q:Nat,k=q∧q<a.nodes.length∧mw a m.nodes q=true:=fun k hk=>gZ hk
 have hparl:(bz a m.nodes).length≤a.nodes.length:=fG _ _
 have hinc:(ak a m.nodes).Pairwise (· < ·):=hZ _ _
 have f4:=(Ei a (bz a m.nodes) [] (bJ r.outer (ak a m.nodes).length) 233 234 [.p (DI (bz a m.nodes)),.p r.D,.p m.D] [.p (DS (bJ r.outer (ak a m.nodes).length)),.p (DI (ak a m.nodes))] (sq r a m.nodes) (vo (ak a m.nodes) (bJ r.outer (ak a m.nodes).length)) rfl rfl (by have:=oa.nodes;omega) (by simp) (by omega) (fun k hk=>by obtain ⟨q,e,hq,_⟩:=hpar k hk;exact ⟨q,e,hq⟩) (fun n hn=>by
  obtain ⟨i,hi,rfl⟩:=List.mem_iff_getElem.1 hn
  exact (bu hba).7 i hi) (fun k _=>oK r a m _) (fun k hk l hl _=>by
  obtain ⟨q,rfl,hq,hf⟩:=hpar k hk
  rw [aD a q hq] at hl
  obtain ⟨l,rfl,hll⟩:=iE ((eW hba q hq).2.2.2.2 _ hl)
  have hpl:(l:Int)∈ak a m.nodes:=bw.2 ⟨l,hll,List.any_eq_true.2 ⟨q,bw.2 ⟨q,hq,hf,rfl⟩,by rw [aD a q hq];exact cM.2 hl⟩,rfl⟩
  obtain ⟨e,he,e1⟩:=List.mem_iff_getElem.1 hpl
  have hie:=vl hinc e he
  rw [e1] at hie
  have hf2:=n7 (ak a m.nodes) (bJ r.outer (ak a m.nodes).length) l e hie (by omega)
  unfold vo
  rw [hie,Int.toNat_natCast,List.getD_eq_getElem?_getD,List.getElem?_eq_getElem (by omega)]
  exact hf2)).arg (ds':=[a.D,DI (bz a m.nodes),.n 1,DS (bJ r.outer (ak a m.nodes).length),.f 233 [.p (DI (bz a m.nodes)),.p r.D,.p m.D],.f 234 [.p (DS (bJ r.outer (ak a m.nodes).length)),.p (DI (ak a m.nodes))]]) (fun w F vs h=>by
  obtain ⟨v1,t1,rfl,h1,v2,t2,rfl,h2,v3,t3,rfl,h3,h4⟩:=h
  exact ⟨_,_,rfl,h1,_,_,rfl,h2,_,_,rfl,wS h3,h4⟩)
 have f6:=oc sig (Io r a m (ak a m.nodes) (bJ r.outer (ak a m.nodes).length)) (Nat.zero_le _)
 have hP:Io r a m (ak a m.nodes) (bJ r.outer (ak a m.nodes).length)=⟨r.sites.length,(pA a (bz a m.nodes) [] (bJ r.outer (ak a m.nodes).length) (sq r a m.nodes) (vo (ak a m.nodes) (bJ r.outer (ak a m.nodes).length))).nodes,[],0,cH (bJ r.outer (ak a m.nodes).length),[]⟩:=rfl
 rw [hP] at f6 ⊢
 clear hP hX hpe
 generalize hpn:(pA a (bz a m.nodes) [] (bJ r.outer (ak a m.nodes).length) (sq r a m.nodes) (vo (ak a m.nodes) (bJ r.outer (ak a m.nodes).length))).nodes=pn at *
 generalize bJ r.outer (ak a m.nodes).length=nm at *
 generalize ak a m.nodes=L at *
 refine cR Tryz.func163 (fun hw W0=>?_)
 refine kgo ?_
 refine rL 13 (DI (bz a m.nodes)) ?_
 refine rL 5 r.D ?_
 refine rL 7 m.D ?_
 refine kgo ?_
 refine rL 11 (DS nm) ?_
 refine rL 10 (DI L) ?_
 refine kgo ?_
 refine Gp (hf:=f4) ?_
 refine aT ?_
 refine av ?_
 refine df (aN ?_)
 refine ou 10014 1 ?_
 refine kgo ?_
 exact gK (hp:=.cons (.d rfl) (.cons (.k rfl rfl) (.cons (.k rfl rfl) (.cons (.d rfl) (.cons (.k rfl rfl) (.cons (.k rfl rfl) (.cons (.d rfl) .nil)))))))
end Go.Proofs.YtacafmejcdgboaaGreatDoor
namespace Go.Proofs.YtacafmejcdgboaaGreatDoor
open Go.RowKit
set_option linter.unusedVariables false
set_option linter.unusedSimpArgs false
set_option maxRecDepth 100000
set_option maxHeartbeats 4000000
attribute [local irreducible] ar Der At
def mpL (f:Nat→Bool) (root v0 base:Int):Nat→List (Int × Int)
 | 0=>[(root,v0)]
 | k+1=>if f k then mpL f root v0 base k++[((k:Int),base+(idxOf f k).length)] else mpL f root v0 base k
theorem Bf (f:Nat→Bool) (root v0 base:Int) (hr:root<0):∀(k:Nat) (x:Int),nO (mpL f root v0 base k) x=if x<0 then (if x=root then some v0 else none) else if x<k && f x.toNat then some (base+(idxOf f x.toNat).length) else none:=by
 intro k
 induction k with
 | zero=>
  intro x
  unfold mpL nO nO
  by_cases hx:x<0
  ·rw [if_pos hx]
  ·rw [if_neg hx,if_neg (by omega),if_neg (by simp;omega)]
 | succ k ih=>
  intro x
  unfold mpL
  by_cases hf:f k=true
  ·rw [if_pos hf,Cc,ih]
   by_cases hx:x<0
   ·rw [if_pos hx,if_pos hx,if_neg (show ¬x=(k:Int) by omega)]
    by_cases h:x=root
    ·rw [if_pos h];rfl
    ·rw [if_neg h];rfl
   ·rw [if_neg hx,if_neg hx]
    by_cases hk:x=(k:Int)
    ·subst hk
     rw [if_pos rfl,if_neg (by simp),if_pos (by simp [hf];omega)];rfl
    ·rw [if_neg hk]
     by_cases hl:x<k
     ·rw [decide_eq_true hl,decide_eq_true (show x<((k+1:Nat):Int) by omega)]
      cases f x.toNat <;> rfl
     ·rw [decide_eq_false hl,decide_eq_false (show ¬x<((k+1:Nat):Int) by omega)];rfl
  ·rw [if_neg hf,ih]
   by_cases hx:x<0
   ·rw [if_pos hx,if_pos hx]
   ·rw [if_neg hx,if_neg hx]
    by_cases hk:x=(k:Int)
    ·subst hk
     rw [if_neg (by simp),if_neg (by simp [hf])]
    ·by_cases hl:x<k
     ·rw [decide_eq_true hl,decide_eq_true (show x<((k+1:Nat):Int) by omega)]
     ·rw [decide_eq_false hl,decide_eq_false (show ¬x<((k+1:Nat):Int) by omega)]
theorem rN {sig:List Ctl} (r:Rul) {p:Big} (hp:aF sig p=true) (hc:r.copies.length≤100) (hc0:∀c∈r.copies,0≤c∧c≤1000):FnD Tryz.prog 165 [r.D,p.D] (.d (mn r.copies p).D):=by
 have hd:=aJ hp
 have hdm:=bu hp
 have f1:=nP p.outer (by omega)
 refine ah Tryz.func165 (fun hw W0=>?_)
 refine kgo ?_
 refine nW 10005 1 20001 151 ?_
 refine ai [3,4,5,21,22,10018] (fun i:Nat=>i≤r.copies.length) (fun i=>r.copies.length - i) (fun i=>[(23,.sy (.d (.i i))),(10005,.tk (.bx [.d (.i r.copies.length),.k 20001,.d (.n 1),.d (.i 0),.k 10018,.d (.n 2)])),(20001,.tk (.row 3 151 ((dA p r.copies i).map Nd.D)))]) 0 (Nat.zero_le _) (fun i hi=>?_)
 refine kgo ?_
 refine aL (fun h=>?_) (fun h=>?_)
 ·have hlt:i<r.copies.length:=by omega
  have hci:=hc0 _ (List.getElem_mem hlt)
  have hil:=td p r.copies i
  have hb1:i * p.nodes.length≤100 * 8:=Nat.mul_le_mul (by omega) hd.2.1
  have hil2:(dA p r.copies i).length≤800:=by omega
  have hnext:dA p r.copies (i+1)=dA p r.copies i++(pr p (-1 - r.copies[i])).map (dL p (pr p (-1 - r.copies[i])) i (dA p r.copies i).length):=by rw [← cE r.copies i hlt];rfl
  refine kgo ?_
  refine E0 ?_
  refine kgo ?_
  refine EU ?_ rfl
  have hul:(pr p (-1 - r.copies[i])).length≤p.nodes.length:=de _ _
  have hix:∀q:Nat,q<p.nodes.length→iJ p (-1 - r.copies[i]) q=true→dc (pr p (-1 - r.copies[i])) (q:Int)=((idxOf (iJ p (-1 - r.copies[i])) q).length:Int):=fun q hq hf=>by
   have:=gg (f:=iJ p (-1 - r.copies[i])) (n:=p.nodes.length) q hq
   rw [if_pos hf] at this
   exact this
  have hall:idxOf (iJ p (-1 - r.copies[i])) p.nodes.length=pr p (-1 - r.copies[i]):=rfl
  obtain ⟨root,hroot⟩:∃root,root = -1 - r.copies[i]:=⟨_,rfl⟩
  rw [← hroot] at hnext hul hix hall ⊢
  generalize hba:(dA p r.copies i).length=base at *
  generalize pr p root=lst at *
  refine kgo ?_
  refine GA 20001 (t':=.row 3 151 ((dA p r.copies i++(idxOf (iJ p root) 0).map (dL p lst i base)).map Nd.D)) (by rw [show idxOf (iJ p root) 0 = [] from rfl,List.map_nil,List.append_nil]) ?_
  refine ai [3,4,5,8,21,22,23,35,36,20001,10018] (fun k:Nat=>k≤p.nodes.length) (fun k=>p.nodes.length - k) (fun k=>[(37,.sy (.d (.i k))),(10005,.tk (.bx [.d (.i r.copies.length),.k 20001,.d (.n 1),.d (.i 0),.k 10018,.d (.n 2)])),(20001,.tk (.row 3 151 ((dA p r.copies i++(idxOf (iJ p root) k).map (dL p lst i base)).map Nd.D))),(10028,.tk (.mp (mpL (iJ p root) root (-1 - (i:Int)) base k)))]) 0 (Nat.zero_le _) (fun k hk=>?_)
  refine kgo ?_
  refine aL (fun h2=>?_) (fun h2=>?_)
  ·have hkl:k<p.nodes.length:=by omega
   have hup:=iI hp k hkl
   have hund:=oB p root k hkl
   have hnd:dR p k=p.nodes[k]:=aD p k hkl
   have hg:=Bf (iJ p root) root (-1 - (i:Int)) base (by omega) k (p.nodes[k]).parent
   have hgk:=Bf (iJ p root) root (-1 - (i:Int)) base (by omega) k k
   rw [if_neg (by omega),if_neg (by simp)] at hgk
   have hlk:=fG (iJ p root) k
   have hq:∀q:Nat,(p.nodes[k]).parent=(q:Int)→iJ p root q=iJ p root k:=fun q e=>by
    rw [hund,e,pi hp q (by omega),oB p root q (by omega)]
   cases hf:iJ p root k
   ·have ho:nO (mpL (iJ p root) root (-1 - (i:Int)) base k) (p.nodes[k]).parent=none:=by
     rw [hg]
     by_cases h0:(p.nodes[k]).parent<0
     ·rw [if_pos h0]
      rw [hf,nJ p h0] at hund
      exact if_neg (of_decide_eq_false hund.symm)
     ·rw [if_neg h0]
      obtain ⟨q,e⟩:=Int.eq_ofNat_of_zero_le (show 0≤(p.nodes[k]).parent by omega)
      rw [e,Int.toNat_natCast,hq q e,hf,Bool.and_false];rfl
    have hm2:mpL (iJ p root) root (-1 - (i:Int)) base (k+1)=mpL (iJ p root) root (-1 - (i:Int)) base k:=if_neg (by rw [hf];exact Bool.false_ne_true)
    have hs:(dA p r.copies i++(idxOf (iJ p root) (k+1)).map (dL p lst i base)).map Nd.D=(dA p r.copies i++(idxOf (iJ p root) k).map (dL p lst i base)).map Nd.D:=by rw [eJ hf]
    refine kgo ?_
    refine zD none ho ?_ (fun v h=>by cases h)
    refine kgo ?_
    rw [← hm2]
    exact af (k+1) hkl (by omega)
   ·have ho:nO (mpL (iJ p root) root (-1 - (i:Int)) base k) (p.nodes[k]).parent=some (dL p lst i base k).parent:=by
     rw [hg]
     show _=some (if (dR p k).parent<0 then -1 - (i:Int) else (base:Int)+dc lst (dR p k).parent)
     rw [hnd]
     by_cases h0:(p.nodes[k]).parent<0
     ·rw [if_pos h0,if_pos h0]
      rw [hf,nJ p h0] at hund
      exact if_pos (of_decide_eq_true hund.symm)
     ·rw [if_neg h0,if_neg h0]
      obtain ⟨q,e⟩:=Int.eq_ofNat_of_zero_le (show 0≤(p.nodes[k]).parent by omega)
      rw [e,Int.toNat_natCast,hq q e,hf,Bool.and_true,if_pos (by simp;omega),hix q (by omega) ((hq q e).trans hf)]
    have hvb:I64 (dL p lst i base k).parent:=by
     show I64 (if (dR p k).parent<0 then -1 - (i:Int) else (base:Int)+dc lst (dR p k).parent)
     rw [hnd]
     by_cases h0:(p.nodes[k]).parent<0
     ·rw [if_pos h0];unfold I64;omega
     ·rw [if_neg h0]
      obtain ⟨q,e⟩:=Int.eq_ofNat_of_zero_le (show 0≤(p.nodes[k]).parent by omega)
      have:=fG (iJ p root) q
      rw [e,hix q (by omega) ((hq q e).trans hf)];unfold I64;omega
    have hm2:mpL (iJ p root) root (-1 - (i:Int)) base (k+1)=mpL (iJ p root) root (-1 - (i:Int)) base k++[((k:Int),(base:Int)+(idxOf (iJ p root) k).length)]:=if_pos hf
    have hlen:((((dA p r.copies i++(idxOf (iJ p root) k).map (dL p lst i base)).map Nd.D).length:Nat):Int)=(base:Int)+(idxOf (iJ p root) k).length:=by rw [List.length_map,List.length_append,List.length_map,hba];omega
    have hlen2:(dA p r.copies i++(idxOf (iJ p root) k).map (dL p lst i base)).length≤1000:=by rw [List.length_append,List.length_map,hba];omega
    have hs:(dA p r.copies i++(idxOf (iJ p root) (k+1)).map (dL p lst i base)).map Nd.D=(dA p r.copies i++(idxOf (iJ p root) k).map (dL p lst i base)).map Nd.D++[Nd.D ⟨(p.nodes[k]).control,(dL p lst i base k).parent,(p.nodes[k]).links⟩]:=by
     rw [dg hf]
     simp only [List.map_append,List.append_assoc,List.map_cons,List.map_nil]
     rw [← hnd];rfl
    have f2:=kl (p.nodes[k]).links (hdm.7 k hkl)
    refine kgo ?_
    refine zD (some (dL p lst i base k).parent) ho ?_ (fun v h=>by cases h;exact hvb)
    refine kgo ?_
    refine FO ?_ hgk
    rw [hlen,← hm2]
    repeat (first|(refine cy ?_;first|refine aV ?_|refine bY ?_|refine aY ?_|refine aZ ?_|refine aS ?_|refine bg ?_|refine bi ?_|refine ay ?_|refine be ?_)|(refine fo ?_;first|refine bQ ?_|refine eZ ?_|refine cr ?_|refine b8 ?_)|(refine fa ?_;first|refine dm (fun _=>?_)|refine b9 ?_|refine cm ?_|refine bG ?_|refine cw ?_|refine ck ?_)|(refine fh ?_;first|refine cg ?_|refine eB ?_|refine bT ?_|refine bI ?_|refine cq ?_|refine bV ?_|refine bZ ?_)|(refine fe ?_;first|refine fl ?_|refine eS ?_|refine cd ?_|refine bP ?_|refine fq ?_|refine bl ?_|refine bo ?_)|(refine cu ?_;first|refine aX ?_|refine ch ?_)|(refine ff ?_;first|refine cj ?_|refine ct ?_|refine ft ?_)|(refine cf ?_;first|refine ca ?_|refine bd ?_|refine aQ ?_|refine ba ?_|refine aU ?_|refine bh ?_)|(refine fc ?_;first|refine b7 ?_|refine eY ?_|refine bj ?_|refine aR ?_|refine bm ?_)|(refine aI ?_;first|refine au _ ?_|refine bf ?_|refine aA ?_|refine av ?_|refine ax ?_)|(refine fu ?_;first|refine cb ?_|refine bH ?_|refine bX ?_)|(refine gOp ?_;first|refine fd ?_|refine fm ?_|refine bc ?_|refine fp ?_|refine fj ?_|refine bU ?_|refine aT ?_|refine co ?_|refine fw ?_|refine bM ?_|refine b6 ?_|refine bk ?_|refine sFz 63 ?_|refine az ?_|refine bW ?_|refine sNo ?_|refine dO ?_|refine aw ?_)|refine dZ ?_|refine cN ?_|refine fB ?_|refine bp ?_|refine cz ?_|refine bB ?_|refine fC ?_|refine fI ?_|refine fx ?_|refine df ?_|refine cC ?_|refine aN ?_|refine aB ?_|refine bq ?_|refine ci ?_|refine bC ?_|refine aBlkX ?_|refine cA ?_|refine sFz 63 ?_)
    exact af (k+1) hkl (by omega)
  have hs4:(dA p r.copies i++(idxOf (iJ p root) k).map (dL p lst i base)).map Nd.D=(dA p r.copies (i+1)).map Nd.D:=by rw [hnext,show k=p.nodes.length by omega,hall]
  refine kgo ?_
  exact af (i+1) hlt (by omega)
 rw [show i=r.copies.length by omega]
 refine bB (aB (aB (bC (aN ?_))))
 refine ou 10005 1 ?_
 refine ou 10005 4 ?_
 refine kgo ?_
 exact aq
end Go.Proofs.YtacafmejcdgboaaGreatDoor
namespace Go.Proofs.YtacafmejcdgboaaGreatDoor
open Go.RowKit
set_option linter.unusedVariables false
set_option linter.unusedSimpArgs false
set_option maxRecDepth 100000
set_option maxHeartbeats 4000000
attribute [local irreducible] ar Der At
theorem Cs (b:Big) (l:Int) (hn:b.nodes.length≤1000) (hl:∀i (h:i<b.nodes.length),(b.nodes[i]).links.length≤1000) (hin:b.inner.length≤1000):FnD Tryz.prog 251 [b.D,.i l] (.d (.b (pE b l))):=by
 have f1:=mT b l hn hl hin
 have hp:=eu b l hn hl
 have he:(nF b l).length≤1000:=Nat.le_trans (kC b l _) hin
 refine ah Tryz.func251 (fun hw W0=>?_)
 have hi:pE b l=decide (((aK b l).length:Int)+(nF b l).length=0):=by
  unfold pE
  cases aK b l <;> cases nF b l <;> simp <;> omega
 rw [hi]
 refine kgo ?_
 exact aq
theorem rY (b:Big) (d:vz b) (hin:b.inner.length≤1000):FnD Tryz.prog 186 [b.D] (.d (.b (bF b))):=by
 have hr:=bK d.roots
 have he:=bK d.edges
 have hnn:=d.nodes
 have hoo:=d.outer
 refine ah Tryz.func186 (fun hw W0=>?_)
 have hsb:bF b=((decide (b.inner.length=0) && !(decide (b.roots=0))) && ((List.range (b.roots.toNat+b.nodes.length)).all (fX b) && (List.range (ap b)).all (dG b))):=by unfold bF;rw [uo b hr.1];simp only [Bool.and_assoc]
 refine kgo ?_
 cases h1:decide ((b.inner.length:Int) > 0)
 rotate_left
 ·rw [show bF b=false by rw [hsb,show decide (b.inner.length=0)=false from decide_eq_false (by have:=of_decide_eq_true h1;omega)];rfl]
  refine kgo ?_
  exact aq
 have h1:=of_decide_eq_false h1
 rw [show decide (b.inner.length=0)=true from decide_eq_true (by omega),Bool.true_and] at hsb
 refine kgo ?_
 cases h2:decide (b.roots=0)
 rotate_left
 ·rw [show bF b=false by rw [hsb,h2];rfl]
  refine kgo ?_
  exact aq
 rw [h2,Bool.not_false,Bool.true_and] at hsb
 have h2:=of_decide_eq_false h2
 refine kgo ?_
 refine ai [1] (fun x:Int=>-b.roots≤x∧x≤b.nodes.length∧(List.range (x+b.roots).toNat).all (fX b)=true) (fun x=>(b.nodes.length - x).toNat) (fun x=>[(3,.sy (.d (.i x)))]) (-b.roots) ⟨Int.le_refl _,by omega,by rw [show (-b.roots+b.roots).toNat=0 by omega];rfl⟩ (fun x hx=>?_)
 obtain ⟨x1,x2,x3⟩:=hx
 refine kgo ?_
 refine aL (fun h=>?_) (fun h=>?_)
 ·have f1:=iz b x d.nodes d.sites
  have hkl:(dC b x).length≤1000:=Nat.le_trans (de _ _) hnn
  have hpl:fX b (x+b.roots).toNat=if x<0 then (!(decide ((dC b x).length=0)) && decide ((cD b x).length=0)) else decide ((cD b x).length≤1):=by
   unfold fX
   rw [show -b.roots+((x+b.roots).toNat:Int)=x by omega]
   split
   ·unfold i2
    rw [show -1 - (((-1 - x).toNat:Nat):Int)=x by omega]
   ·unfold dS
    rw [show ((x.toNat:Nat):Int)=x by omega]
  have hbad:fX b (x+b.roots).toNat=false→bF b=false:=fun e=>by rw [hsb,br _ _ (x+b.roots).toNat (by omega) e];rfl
  have hgood:fX b (x+b.roots).toNat=true→(List.range (x+1+b.roots).toNat).all (fX b)=true:=fun e=>by rw [show (x+1+b.roots).toNat=(x+b.roots).toNat+1 by omega,cL,x3,e];rfl
  generalize dC b x=ks at *
  generalize cD b x=hs at *
  refine kgo ?_
  cases h3:decide (x<0)
  ·have h3:=of_decide_eq_false h3
   rw [if_neg h3] at hpl
   refine kgo ?_
   (repeat refine dO ?_)
   refine kgo ?_
   refine aL (fun h4=>?_) (fun h4=>?_)
   ·rw [hbad (by rw [hpl];exact decide_eq_false (by omega))]
    refine kgo ?_
    exact aq
   refine kgo ?_
   exact af (x+1) ⟨by omega,by omega,hgood (by rw [hpl];exact decide_eq_true (by omega))⟩ (by omega)
  have h3:=of_decide_eq_true h3
  rw [if_pos h3] at hpl
  refine kgo ?_
  cases h4:decide ((ks.length:Int)=0)
  rotate_left
  ·rw [show decide (ks.length=0)=true from decide_eq_true (by have:=of_decide_eq_true h4;omega)] at hpl
   rw [hbad (by rw [hpl];rfl)]
   refine kgo ?_
   exact aq
  rw [show decide (ks.length=0)=false from decide_eq_false (by have:=of_decide_eq_false h4;omega)] at hpl
  refine kgo ?_
  cases h5:decide ((hs.length:Int) > 0)
  rotate_left
  ·rw [hbad (by rw [hpl,show decide (hs.length=0)=false from decide_eq_false (by have:=of_decide_eq_true h5;omega)];rfl)]
   refine kgo ?_
   exact aq
  have h5:=of_decide_eq_false h5
  refine kgo ?_
  refine aL (fun h6=>?_) (fun h6=>?_)
  ·omega
  refine kgo ?_
  exact af (x+1) ⟨by omega,by omega,hgood (by rw [hpl,show decide (hs.length=0)=true from decide_eq_true (by omega)];rfl)⟩ (by omega)
 rw [show (x+b.roots).toNat=b.roots.toNat+b.nodes.length by omega] at x3
 rw [x3,Bool.true_and] at hsb
 rw [hsb]
 have hln:((ap b:Nat):Int)=b.edges+b.outer.length:=by unfold ap;omega
 refine kgo ?_
 refine ai [1,54] (fun i:Nat=>i≤ap b∧(List.range i).all (dG b)=true) (fun i=>ap b - i) (fun i=>[(55,.sy (.d (.i i)))]) 0 ⟨Nat.zero_le _,rfl⟩ (fun i hx=>?_)
 obtain ⟨hi,hal⟩:=hx
 refine kgo ?_
 refine aL (fun h=>?_) (fun h=>?_)
 ·have f2:=Cs b i d.nodes d.links hin
  refine kgo ?_
  refine cIf (fun h2=>?_) (fun h2=>?_)
  ·rw [br _ _ i (by omega) (by unfold dG;rw [h2];rfl)]
   refine kgo ?_
   exact aq
  refine kgo ?_
  exact af (i+1) ⟨by omega,by rw [cL,hal];unfold dG;rw [h2];rfl⟩ (by omega)
 rw [show ap b=i by omega,hal]
 refine kgo ?_
 exact aq
theorem Dx (sig:List Ctl) (a b:Big) (ha:a.inner.length≤1048576) (hb:b.inner.length≤1048576):FnD Tryz.prog 185 [.l 3 (sig.map Ctl.D),a.D,b.D] (.d (.b (aF sig a && aF sig b))):=by
 have f1:=dU sig a ha
 have f2:=dU sig b hb
 refine ah Tryz.func185 (fun hw W0=>?_)
 refine kgo ?_
 cases h1:aF sig a
 ·refine kgo ?_
  exact aq
 refine kgo ?_
 exact aq
theorem Bu (r:Rul) (x:Int) (h:r.redex.sites.length≤1000):FnD Tryz.prog 188 [.i x,.p r.D] (.d (.b (!gI r x))):=by
 have f1:=kp x 0 ((r.redex.sites.length:Int) - 1)
 refine ah Tryz.func188 (fun hw W0=>?_)
 refine kgo ?_
 exact aq
theorem wB (sig:List Ctl) (r:Rul) (h1:r.redex.inner.length≤1048576) (h2:r.reactum.inner.length≤1048576):FnD Tryz.prog 116 [.l 3 (sig.map Ctl.D),r.D] (.d (.b (fO sig r))):=by
 have f1:=Dx sig r.redex r.reactum h1 h2
 have f3:=wJ r.redex.outer r.reactum.outer
 refine ah Tryz.func116 (fun hw W0=>?_)
 unfold fO
 refine dZ ?_
 refine cN ?_
 refine vn ?_
 refine df (aN ?_)
 refine tL 3 r.D ?_
 refine kgo ?_
 cases e1:aF sig r.redex
 ·rw [e1] at f1
  refine kgo ?_
  exact aq
 cases e2:aF sig r.reactum
 ·rw [e1,e2] at f1
  refine kgo ?_
  exact aq
 rw [e1,e2] at f1
 have g1:=aJ e1
 have g2:=aJ e2
 have f2:=rY r.redex (bu e1) (by omega)
 refine kgo ?_
 cases e3:bF r.redex
 ·refine kgo ?_
  (repeat refine dO ?_)
  refine kgo ?_
  exact aq
 refine kgo ?_
 cases e4:decide ((r.reactum.inner.length:Int) > 0)
 rotate_left
 ·rw [show decide (r.reactum.inner.length=0)=false from decide_eq_false (by have:=of_decide_eq_true e4;omega)]
  refine kgo ?_
  (repeat refine dO ?_)
  refine kgo ?_
  exact aq
 rw [show decide (r.reactum.inner.length=0)=true from decide_eq_true (by have:=of_decide_eq_false e4;omega)]
 refine kgo ?_
 cases e5:decide (r.redex.roots=r.reactum.roots)
 ·refine kgo ?_
  (repeat refine dO ?_)
  refine kgo ?_
  exact aq
 refine kgo ?_
 cases e6:eqS r.redex.outer r.reactum.outer
 ·refine kgo ?_
  exact aq
 refine kgo ?_
 cases e7:decide ((r.copies.length:Int)=r.reactum.sites.length)
 ·rw [show decide (r.copies.length=r.reactum.sites.length)=false from decide_eq_false (by have:=of_decide_eq_false e7;omega)]
  refine kgo ?_
  exact aq
 rw [show decide (r.copies.length=r.reactum.sites.length)=true from decide_eq_true (by have:=of_decide_eq_true e7;omega)]
 have f4:=dY r.copies 188 [.p r.D] (fun x=>!gI r x) rfl (fun x _=>Bu r x (by omega))
 have hc:r.copies.any (fun x=>!gI r x) = !r.copies.all (gI r):=Cj r
 rw [hc] at f4
 refine kgo ?_
 rw [Bool.not_not (b:=r.copies.all (gI r))]
 exact aq
theorem si (l:List Rul) (g:Nat) (cs:List D) (p:Rul→Bool) (hct:(cs.all fun r=>!isT r)=true) (hp:∀x∈l,FnD Tryz.prog g ([x.D]++cs) (.d (.b (p x)))):FnD Tryz.prog 220 [.l 13 (l.map Rul.D),.f g cs] (.d (.i (lc p l))):=by
 refine ah Tryz.func220 (fun hw W0=>?_)
 have hl:=(wfM hw.1).1
 refine kgo ?_
 refine ai [0,1,7] (fun i:Nat=>i≤l.length∧(l.take i).any p=false) (fun i=>l.length - i) (fun i=>[(8,.sy (.d (.i i)))]) 0 ⟨Nat.zero_le _,rfl⟩ (fun i hi=>?_)
 refine kgo ?_
 refine aL (fun h=>?_) (fun h=>?_)
 ·have hlt:i<l.length:=by omega
  have f1:=hp _ (List.getElem_mem hlt)
  refine kgo ?_
  refine cIf (fun h2=>?_) (fun h2=>?_)
  ·refine kgo ?_
   rw [mG hlt h2 hi.2]
   exact aq
  ·refine kgo ?_
   exact af (i+1) ⟨hlt,kI hlt hi.2 h2⟩ (by omega)
 refine kgo ?_
 rw [kh (mY (by omega) hi.2)]
 exact aq
theorem nV (l:List Rul) (g:Nat) (cs:List D) (p:Rul→Bool) (hct:(cs.all fun r=>!isT r)=true) (hp:∀x∈l,FnD Tryz.prog g ([x.D]++cs) (.d (.b (p x)))):FnD Tryz.prog 149 [.l 13 (l.map Rul.D),.f g cs] (.d (.b (l.any p))):=by
 refine ah Tryz.func149 (fun hw W0=>?_)
 have f1:=si l g cs p hct hp
 have hr:=ex p l
 have hq:=lG p l
 refine kgo ?_
 rw [← hq]
 exact aq
theorem uc (sig:List Ctl) (r:Rul) (h1:r.redex.inner.length≤1048576) (h2:r.reactum.inner.length≤1048576):FnD Tryz.prog 150 [r.D,.p (.l 3 (sig.map Ctl.D))] (.d (.b (!fO sig r))):=by
 have f1:=wB sig r h1 h2
 refine ah Tryz.func150 (fun hw W0=>?_)
 refine kgo ?_
 exact aq
theorem xW (sig:List Ctl) (rs:List Rul) (hl:∀r∈rs,r.redex.inner.length≤1048576∧r.reactum.inner.length≤1048576):FnD Tryz.prog 98 [.l 3 (sig.map Ctl.D),.l 13 (rs.map Rul.D)] (.d (.b (fQ sig rs))):=by
 have f1:=kp rs.length 1 6
 have f2:=nV rs 150 [.p (.l 3 (sig.map Ctl.D))] (fun r=>!fO sig r) rfl (fun r hr=>uc sig r (hl r hr).1 (hl r hr).2)
 have hc:rs.any (fun r=>!fO sig r) = !rs.all (fO sig):=Cz sig rs
 rw [hc] at f2
 refine ah Tryz.func98 (fun hw W0=>?_)
 unfold fQ
 refine dZ ?_
 refine cN ?_
 refine vn ?_
 refine df (aN ?_)
 refine tL 2 (.l 3 (sig.map Ctl.D)) ?_
 refine kgo ?_
 cases h1:inR (rs.length:Int) 1 6
 ·refine kgo ?_
  exact aq
 refine kgo ?_
 rw [show D.b (true && rs.all (fO sig))=D.b (!!rs.all (fO sig)) by rw [Bool.not_not];rfl]
 exact aq
end Go.Proofs.YtacafmejcdgboaaGreatDoor
namespace Go.Proofs.YtacafmejcdgboaaGreatDoor
open Go.RowKit
set_option linter.unusedVariables false
set_option linter.unusedSimpArgs false
set_option maxRecDepth 100000
set_option maxHeartbeats 4000000
attribute [local irreducible] ar Der At
theorem DE {sig:List Ctl} {mid ctx par:Big} (h:aF sig par=false):mW sig mid ctx par=(fN,false):=by
 have hc:∀a,eP sig a par=(fN,false):=fun a=>by unfold eP;rw [h];cases aF sig a <;> rfl
 unfold mW
 rw [hc]
 split
 ·split <;> rfl
 ·rfl
theorem zX {sig:List Ctl} {r:Rul} {a:Big} (m:Mat) (hr:fO sig r=true) (ha:aF sig a=true) (hm:dD r.redex a m=true):FnO Tryz.prog 103 [.l 3 (sig.map Ctl.D),r.D,a.D,m.D] [6,0] (B8 (fM sig r a m).1++[.d (.b (fM sig r a m).2)]):=by
 obtain ⟨r1,r2,r3,r4,r5,r6,r7,r8⟩:=ii hr
 have orr:=dB r1
 have or2:=dB r2
 have hcl:r.copies.length≤100:=by have:=or2.sitesN;omega
 have hc0:∀c∈r.copies,0≤c∧c≤1000:=fun c hc=>by
  have:=bK (List.all_eq_true.1 r8 c hc)
  have:=orr.sitesN
  omega
 have f1:FnD Tryz.prog 162 [.l 3 (sig.map Ctl.D),r.redex.D,a.D,m.D] (.tp [(yZ (mV sig r.redex a m) (gN r.redex a m)).D,.b (mV sig r.redex a m)]):=(xD m r1 r3 ha hm).toT
 have f2:FnD Tryz.prog 163 [.l 3 (sig.map Ctl.D),r.redex.D,a.D,m.D] (.tp [(yZ (mx sig r.redex a m) (fY r.redex a m)).D,.b (mx sig r.redex a m)]):=(sf m r1 r3 ha hm).toT
 have hno1:mV sig r.redex a m=false→fM sig r a m=(fN,false):=fun h=>lN (by
  unfold mV at h
  cases h1:(dJ r.redex a m.nodes).2.2
  ·rfl
  ·rw [h1,Bool.true_and] at h;rw [h];rfl)
 have hno2:mx sig r.redex a m=false→fM sig r a m=(fN,false):=fun h=>lN (by
  unfold mx at h
  cases h1:(dJ r.redex a m.nodes).2.2
  ·rfl
  ·rw [h1,Bool.true_and] at h;rw [h];simp)
 have hyes:mV sig r.redex a m=true→mx sig r.redex a m=true→aF sig (fY r.redex a m)=true∧(gN r.redex a m).inner.length≤16∧fM sig r a m=mW sig r.reactum (gN r.redex a m) (mn r.copies (fY r.redex a m)):=fun h1 h2=>by
  unfold mV at h1
  unfold mx at h2
  rw [Bool.and_eq_true] at h1 h2
  exact ⟨h2.2,(dB h1.2).inner,ov (by rw [h1.1,h1.2,h2.2];rfl)⟩
 have hor:∀b:Big,yZ true b=b:=fun _=>rfl
 refine cR Tryz.func103 (fun hw W0=>?_)
 refine kgo ?_
 cases h1:mV sig r.redex a m
 ·rw [hno1 h1]
  refine kgo ?_
  exact gK (hp:=.cons (.d rfl) (.cons .m (.cons .n (.cons (.d rfl) (.cons .n (.cons .n (.cons (.d rfl) .nil)))))))
 refine kgo ?_
 cases h2:mx sig r.redex a m
 ·rw [hno2 h2]
  refine kgo ?_
  exact gK (hp:=.cons (.d rfl) (.cons .m (.cons .n (.cons (.d rfl) (.cons .n (.cons .n (.cons (.d rfl) .nil)))))))
 obtain ⟨h3,h4,h5⟩:=hyes h1 h2
 rw [h5]
 have f3:=rN r h3 hcl hc0
 have f4:FnD Tryz.prog 164 [.l 3 (sig.map Ctl.D),(mn r.copies (fY r.redex a m)).D] (.tp [(yZ (aF sig (mn r.copies (fY r.redex a m))) (mn r.copies (fY r.redex a m))).D,.b (aF sig (mn r.copies (fY r.redex a m)))]):=(oc sig _ (Nat.zero_le _)).toT
 have f5:=sm sig (gN r.redex a m) r.redex r.reactum (mn r.copies (fY r.redex a m)) (Et r6) (by have:=or2.inner;omega) (Nat.zero_le _)
 have hno:=DE (sig:=sig) (mid:=r.reactum) (ctx:=gN r.redex a m) (par:=mn r.copies (fY r.redex a m))
 clear f1 f2 hno1 hno2 hyes h1 h2 h5
 generalize gN r.redex a m=C at *
 generalize fY r.redex a m=Q at *
 generalize mn r.copies Q=Z at *
 refine kgo ?_
 cases h6:aF sig Z
 ·rw [hno h6]
  refine kgo ?_
  exact gK (hp:=.cons (.d rfl) (.cons .m (.cons .n (.cons (.d rfl) (.cons .n (.cons .n (.cons (.d rfl) .nil)))))))
 refine kgo ?_
 exact gK (hp:=.cons (.d rfl) (.cons (.k rfl rfl) (.cons (.k rfl rfl) (.cons (.d rfl) (.cons (.k rfl rfl) (.cons (.k rfl rfl) (.cons (.d rfl) .nil)))))))
end Go.Proofs.YtacafmejcdgboaaGreatDoor
namespace Go.Proofs.YtacafmejcdgboaaGreatDoor
open Go.RowKit
set_option linter.unusedVariables false
set_option linter.unusedSimpArgs false
set_option maxRecDepth 100000
set_option maxHeartbeats 4000000
attribute [local irreducible] ar Der At
theorem Ih:Jh Tryz.prog 192:=⟨bS Tryz.func192,fun a n k w hn hk=>by
 unfold maxLen at hk
 go_enter Tryz.func192,Tryz.ntmps192
 go_wp2
 go_ret
 exact ⟨rfl,rfl⟩⟩
theorem pW (m:Mat) (h1:m.nodes.length≤1000) (h2:m.roots.length≤1000):FnO Tryz.prog 190 [m.D] [2] [.tk (.row 1 3 (m.nodes.map .i)),.tk (.row 1 3 (m.roots.map .i))]:=by
 have f1:=kl m.nodes h1
 have f2:=kl m.roots h2
 refine cR Tryz.func190 (fun hw W0=>?_)
 refine kgo ?_
 exact gK (hp:=.cons (.k rfl rfl) (.cons (.k rfl rfl) .nil))
def kE {α:Type} (G:List α→Bool):List α→List α→List α × Bool
 | xs,[]=>(xs,true)
 | xs,m :: ms=>if G (xs++[m]) then kE G (xs++[m]) ms else (xs++[m],false)
theorem vW {α:Type} {G:List α→Bool}:∀(l t xs:List α),kE G xs (l++t)=if (kE G xs l).2 then kE G (kE G xs l).1 t else kE G xs l:=by
 intro l
 induction l with
 | nil=>intro t xs;rfl
 | cons m l ih=>
  intro t xs
  rw [List.cons_append]
  show (if G (xs++[m]) then kE G (xs++[m]) (l++t) else (xs++[m],false))=_
  by_cases hg:G (xs++[m])=true
  ·have e:kE G xs (m :: l)=kE G (xs++[m]) l:=if_pos hg
   rw [e,if_pos hg];exact ih t _
  ·have e:kE G xs (m :: l)=(xs++[m],false):=if_neg hg
   rw [e,if_neg hg];rfl
theorem Ij {α:Type} {G:List α→Bool} {K:List α→Prop} (hK:∀xs m,G (xs++[m])=true→K (xs++[m])):∀(l xs:List α),K xs→(kE G xs l).2=true→K (kE G xs l).1:=by
 intro l
 induction l with
 | nil=>intro xs h _;exact h
 | cons m l ih=>
  intro xs h h2
  unfold kE at h2 ⊢
  split
  ·rename_i hg
   rw [if_pos hg] at h2
   exact ih _ (hK _ _ hg) h2
  ·rename_i hg
   rw [if_neg hg] at h2;cases h2
theorem tu {sig:List Ctl} {r a:Big} (hR:aF sig r=true) (hA:aF sig a=true) (hS:bF r=true) {g0:Nat} {Q:List Mat→WP} {G:List Mat→Bool} {K:List Mat→Prop} (hY:∀xs m,K xs→FnY Tryz.prog g0 [m.D] (Q xs) (Q (xs++[m])) (G (xs++[m]))) (hK:∀xs m,G (xs++[m])=true→K (xs++[m])):∀(n:Nat) (ns:List Int) (xs:List Mat),ns.length+n=r.nodes.length→(∀x∈ns,0≤x∧x<(a.nodes.length:Int))→K xs →
 FnY Tryz.prog 124 [r.D,a.D,DI ns] (t8 g0 (Q xs)) (t8 g0 (Q (kE G xs (jt r a n ns)).1)) (kE G xs (jt r a n ns)).2:=by
 have hd:=bu hR
 have hda:=(bu hA).nodes
 have hrn:=hd.nodes
 have hrs:=hd.sites
 have hr0:=aJ hR
 intro n
 induction n with
 | zero=>
  intro ns xs hl hx hK0
  have hnl:ns.length≤1000:=by omega
  have f1:=ze (gJ r a ns) hR hA
  have f2:=FnO.toD (n:=1) (pW (gJ r a ns) hnl (by show (rtL r a ns r.roots.toNat).length≤1000;unfold rtL;rw [List.length_map,List.length_range];omega))
  have hdef:jt r a 0 ns=if dD r a (gJ r a ns) then [gJ r a ns] else []:=rfl
  refine BH Tryz.func124 (fun hw W0 v=>?_)
  refine kgo ?_
  refine aL (fun h=>?_) (fun h=>?_)
  rotate_left
  ·omega
  refine kgo ?_
  refine nW 10010 1 20002 3 ?_
  refine ai [2,3,4,5,10,27,20000] (fun i:Nat=>i≤r.roots.toNat) (fun i=>r.roots.toNat - i) (fun i=>[(28,.sy (.d (.i i))),(10010,.tk (.bx [.d (DI ns),.k 20001])),(20001,.tk (.row 1 3 ((rtL r a ns i).map .i)))]) 0 (Nat.zero_le _) (fun i hi=>?_)
  refine kgo ?_
  refine aL (fun h=>?_) (fun h=>?_)
  ·have f3:=iz r (-1 - (i:Int)) hrn hrs
   have hk1:=ku hS (by omega) i h
   have hz:(0:Int)≤0∧(0:Int)<((dC r (-1 - (i:Int))).length:Int):=⟨Int.le_refl _,by omega⟩
   have hm1:=tO r _ _ (List.getElem_mem hk1)
   have hx1:=hx _ (ow (l:=ns) hm1.1 (by omega))
   have hql:(rtL r a ns i).length≤1000:=by unfold rtL;rw [List.length_map,List.length_range];omega
   obtain ⟨j,hj⟩:=Int.eq_ofNat_of_zero_le hx1.1
   have hjl:j<a.nodes.length:=by omega
   have hp:rtP r a ns i=(a.nodes[j]).parent:=by
    unfold rtP
    rw [show atI (dC r (-1 - (i:Int))) 0=(dC r (-1 - (i:Int)))[0] from by unfold atI;simp [List.getElem?_eq_getElem hk1],hj,aD a j hjl]
   have hs:(rtL r a ns (i+1)).map D.i=(rtL r a ns i).map D.i++[.i (a.nodes[j]).parent]:=by rw [xf,List.map_append,hp];rfl
   have hb1:0≤(dC r (-1 - (i:Int)))[0]∧(dC r (-1 - (i:Int)))[0]<(ns.length:Int):=⟨hm1.1,by omega⟩
   refine kgo ?_
   refine dm (n:=j) (fun _=>?_) rfl rfl (congrArg some hj)
   refine kgo ?_
   exact af (i+1) (by omega) (by omega)
  obtain rfl:i=r.roots.toNat:=by omega
  refine bB (aB (aB (bC (aN ?_))))
  refine ou 10010 1 ?_
  refine kgo ?_
  cases h3:dD r a (gJ r a ns)
  ·rw [hdef,h3]
   refine kgo ?_
   exact Gs
  ·rw [hdef,h3,if_pos rfl]
   rw [show kE G xs [gJ r a ns]=(xs++[gJ r a ns],G (xs++[gJ r a ns])) from by
    show (if G (xs++[gJ r a ns]) then (xs++[gJ r a ns],true) else (xs++[gJ r a ns],false))=_
    cases G (xs++[gJ r a ns]) <;> rfl]
   refine kgo ?_
   refine Ht (ds:=[(gJ r a ns).D]) ?_ rfl (hY xs (gJ r a ns) hK0)
   refine kgo ?_
   exact Gs
 | succ n ih=>
  intro ns xs hl hx hK0
  have hnl:ns.length≤1000:=by omega
  have hall:jt r a (n+1) ns=gE r a n ns a.nodes.length:=rfl
  have f0:=Ih
  have hup:=iI hR ns.length (by omega)
  refine BH Tryz.func124 (fun hw W0 v=>?_)
  refine kgo ?_
  refine aL (fun h=>?_) (fun h=>?_)
  ·omega
  have hrl:ns.length<r.nodes.length:=by omega
  refine kgo ?_
  refine ai [2,3,4,5,14,69,70] (fun x:Nat × List Mat=>x.1≤a.nodes.length∧K x.2∧kE G xs (gE r a n ns x.1)=(x.2,true)) (fun x=>a.nodes.length - x.1) (fun x=>[(71,.sy (.d (.i x.1))),(20000,.tk (.abs (t8 g0 (Q x.2)) (some v)))]) (0,xs) ⟨Nat.zero_le _,hK0,rfl⟩ (fun x hx'=>?_)
  obtain ⟨i,cur⟩:=x
  obtain ⟨hi,hKc,hrun⟩:=hx'
  dsimp only at hi hKc hrun ⊢
  refine kgo ?_
  refine aL (fun h=>?_) (fun h=>?_)
  rotate_left
  ·obtain rfl:i=a.nodes.length:=by omega
   rw [hall,hrun]
   refine kgo ?_
   exact Gs
  have hlt:i<a.nodes.length:=by omega
  have f1:=eR ns i
  have hcd:nR r a ns i=if (!decide ((a.nodes[i]).control=(r.nodes[ns.length]).control) || dP ns i) then false else decide ((r.nodes[ns.length]).parent<0) || decide ((a.nodes[i]).parent=atI ns (r.nodes[ns.length]).parent):=by unfold nR;rw [aD a i hlt,aD r ns.length hrl]
  have hsucc:=mI r a n ns i
  refine kgo ?_
  cases hc:decide ((a.nodes[i]).control=(r.nodes[ns.length]).control)
  ·have hcan:nR r a ns i=false:=by rw [hcd,hc];rfl
   rw [hcan] at hsucc
   refine kgo ?_
   (repeat refine dO ?_)
   refine kgo ?_
   exact af (i+1,cur) ⟨hlt,hKc,by show kE G xs (gE r a n ns (i+1))=_;rw [hsucc];simpa using hrun⟩ (by show _ - (i+1)<_ - i;omega)
  refine kgo ?_
  cases h2:dP ns i
  rotate_left
  ·have hcan:nR r a ns i=false:=by rw [hcd,hc,h2];rfl
   rw [hcan] at hsucc
   refine kgo ?_
   (repeat refine dO ?_)
   refine kgo ?_
   exact af (i+1,cur) ⟨hlt,hKc,by show kE G xs (gE r a n ns (i+1))=_;rw [hsucc];simpa using hrun⟩ (by show _ - (i+1)<_ - i;omega)
  have hdi:DI (ns++[(i:Int)])=D.l 1 (ns.map D.i++[D.i i]):=congrArg (D.l 1) List.map_append
  have f3:=ih (ns++[(i:Int)]) cur (by rw [List.length_append,List.length_singleton];omega) (fun x hx'=>by
   rcases List.mem_append.1 hx' with h|h
   ·exact hx x h
   ·rw [List.mem_singleton.1 h];omega) hKc
  rw [hdi] at f3
  have hyes:nR r a ns i=true→kE G xs (gE r a n ns (i+1))=kE G cur (jt r a n (ns++[(i:Int)])):=fun hc=>by
   rw [hsucc,hc,if_pos rfl,vW,hrun,if_pos rfl]
  have hend:nR r a ns i=true→(kE G cur (jt r a n (ns++[(i:Int)]))).2=false→kE G xs (jt r a (n+1) ns)=kE G cur (jt r a n (ns++[(i:Int)])):=fun hc h2=>by
   obtain ⟨t,ht⟩:=th r a n ns (i+1) (a.nodes.length - (i+1))
   rw [show i+1+(a.nodes.length - (i+1))=a.nodes.length by omega] at ht
   rw [hall,ht,vW,hyes hc,h2,if_neg Bool.false_ne_true]
  have hkk:(kE G cur (jt r a n (ns++[(i:Int)]))).2=true→K (kE G cur (jt r a n (ns++[(i:Int)]))).1:=Ij hK _ _ hKc
  generalize kE G cur (jt r a n (ns++[(i:Int)]))=R at *
  obtain ⟨R1,R2⟩:=R
  refine kgo ?_
  cases h4:decide (0≤(r.nodes[ns.length]).parent)
  ·have hcan:nR r a ns i=true:=by
    rw [hcd,hc,h2,decide_eq_true (show (r.nodes[ns.length]).parent<0 by have:=of_decide_eq_false h4;omega)];rfl
   refine kgo ?_
   refine Hw f0 ?_
   refine kgo ?_
   refine sFz 107 ?_
   refine EG ?_
   refine kgo ?_
   cases R2
   ·rw [hend hcan rfl]
    refine kgo ?_
    exact Gs
   refine kgo ?_
   exact af (i+1,R1) ⟨hlt,hkk rfl,hyes hcan⟩ (by show _ - (i+1)<_ - i;omega)
  have hp0:0≤(r.nodes[ns.length]).parent∧(r.nodes[ns.length]).parent<(ns.length:Int):=⟨of_decide_eq_true h4,hup.2⟩
  refine kgo ?_
  cases h5:decide ((a.nodes[i]).parent=atI ns (r.nodes[ns.length]).parent)
  ·have hcan:nR r a ns i=false:=by
    rw [hcd,hc,h2,h5,decide_eq_false (show ¬(r.nodes[ns.length]).parent<0 by omega)];rfl
   rw [hcan] at hsucc
   refine kgo ?_
   exact af (i+1,cur) ⟨hlt,hKc,by show kE G xs (gE r a n ns (i+1))=_;rw [hsucc];simpa using hrun⟩ (by show _ - (i+1)<_ - i;omega)
  have hcan:nR r a ns i=true:=by
   rw [hcd,hc,h2,h5];simp
  refine kgo ?_
  refine Hw f0 ?_
  refine kgo ?_
  refine sFz 107 ?_
  refine EG ?_
  refine kgo ?_
  cases R2
  ·rw [hend hcan rfl]
   refine kgo ?_
   exact Gs
  refine kgo ?_
  exact af (i+1,R1) ⟨hlt,hkk rfl,hyes hcan⟩ (by show _ - (i+1)<_ - i;omega)
theorem qE (xs:List Mat) (m:Mat) (hx:xs.length≤1000):FnY Tryz.prog 252 [m.D] (yV 2 116 (xs.map Mat.D)) (yV 2 116 ((xs++[m]).map Mat.D)) (decide (((xs++[m]).length:Int)≤400)):=by
 rw [show (xs++[m]).map Mat.D=xs.map Mat.D++[m.D] from List.map_append,show ((xs++[m]).length:Int)=((xs.map Mat.D++[m.D]).length:Int) by simp]
 refine BH Tryz.func252 (fun hw W0 v=>?_)
 refine Ev 1 20000 20001 ?_
 refine kgo ?_
 refine qq ?_
 refine kgo ?_
 refine C2 ?_
 refine kgo ?_
 refine qq ?_
 refine kgo ?_
 refine JK 1 20000 10007 ?_
 exact Gs
theorem zl (M:Nat):∀(l xs:List Mat),xs.length≤M→(kE (fun ys=>decide ((ys.length:Int)≤M)) xs l).1=xs++l.take (M+1 - xs.length):=by
 intro l
 induction l with
 | nil=>intro xs _;show xs=_;simp
 | cons m l ih=>
  intro xs h
  show (if decide (((xs++[m]).length:Int)≤M) then kE _ (xs++[m]) l else (xs++[m],false)).1=_
  have hl:(xs++[m]).length=xs.length+1:=by simp
  by_cases hc:xs.length+1≤M
  ·rw [if_pos (decide_eq_true (by omega)),ih _ (by omega),hl,show M+1 - xs.length=(M+1 - (xs.length+1))+1 by omega,List.take_succ_cons,List.append_assoc];rfl
  ·rw [if_neg (by simp;omega),show M+1 - xs.length=1 by omega];simp
def D2 (r a:Big):List Mat × Bool:=if 400<(pC r a).length then ([],false) else (pC r a,true)
theorem sA {sig:List Ctl} {r a:Big} (hR:aF sig r=true) (hA:aF sig a=true) (hS:bF r=true):FnD Tryz.prog 189 [r.D,a.D] (.tp [.l 2 ((D2 r a).1.map Mat.D),.b (D2 r a).2]):=by
 have f0:=tu hR hA hS (g0:=252) (Q:=fun xs=>yV 2 116 (xs.map Mat.D)) (G:=fun ys=>decide ((ys.length:Int)≤400)) (K:=fun xs=>xs.length≤400) (fun xs m h=>qE xs m (by omega)) (fun xs m h=>by have:=of_decide_eq_true h;omega) r.nodes.length [] [] (by simp) (fun x hx=>by cases hx) (Nat.zero_le _)
 rw [show (kE (fun ys=>decide ((ys.length:Int)≤400)) [] (jt r a r.nodes.length [])).1=pC r a from zl 400 _ _ (Nat.zero_le _)] at f0
 generalize (kE (fun ys=>decide ((ys.length:Int)≤400)) [] (jt r a r.nodes.length [])).2=B at f0
 have f1:FnY Tryz.prog 124 [r.D,a.D,.n 1] (t8 252 (yV 2 116 [])) (t8 252 (yV 2 116 ((pC r a).map Mat.D))) B:=f0.arg (fun w F vs hv=>by
  obtain ⟨v1,t1,rfl,h1,v2,t2,rfl,h2,v3,t3,rfl,h3,h4⟩:=hv
  exact ⟨v1,_,rfl,h1,v2,_,rfl,h2,v3,_,rfl,wS h3,h4⟩)
 clear f0
 refine ah Tryz.func189 (fun hw W0=>?_)
 unfold D2
 refine dZ ?_
 refine cN ?_
 refine vn ?_
 refine df (aN ?_)
 refine dZ ?_
 refine cN ?_
 refine vn ?_
 refine df (aN ?_)
 refine Jx 10006 (fun u=>?_)
 refine Jw 6 10006 10007 ?_
 refine kgo ?_
 refine Hv ?_
 refine Fj 10006 (fun σ' a w c hc hk=>qO hc _ _ rfl hk) ?_
 refine df (aN ?_)
 refine Ev 6 10006 20001 ?_
 refine kgo ?_
 refine qq ?_
 refine kgo ?_
 refine aL (fun h=>?_) (fun h=>?_)
 ·rw [List.length_map] at h
  rw [if_pos (by omega)]
  refine kgo ?_
  exact iA
 rw [List.length_map] at h
 rw [if_neg (by omega)]
 refine kgo ?_
 refine qq ?_
 refine fF (d:=4) ?_
 refine kgo ?_
 exact iA
end Go.Proofs.YtacafmejcdgboaaGreatDoor
namespace Go.Proofs.YtacafmejcdgboaaGreatDoor
open Go.RowKit
set_option linter.unusedVariables false
set_option linter.unusedSimpArgs false
set_option maxRecDepth 100000
set_option maxHeartbeats 4000000
attribute [local irreducible] ar Der At
theorem F6 {r a:Big} (h:(D2 r a).2=false):400<(pC r a).length:=by
 unfold D2 at h
 split at h
 ·assumption
 ·cases h
theorem D3 {r a:Big} (h:(D2 r a).2=true):¬400<(pC r a).length∧(D2 r a).1=pC r a:=by
 unfold D2 at h ⊢
 split at h
 ·cases h
 ·rename_i h2;rw [if_neg h2];exact ⟨h2,rfl⟩
theorem Aw {sig:List Ctl} {rs:List Rul} {a:Big} (hr:fQ sig rs=true) (ha:fS sig a=true):FnO Tryz.prog 119 [.l 3 (sig.map Ctl.D),.l 13 (rs.map Rul.D),a.D] [0,0] [.tk (.grw 9 118 ((jh (du sig a rs 0 [])).1.map Stp.D)),.d (.b (jh (du sig a rs 0 [])).2)]:=by
 have hrs:=List.all_eq_true.1 (Bool.and_eq_true_iff.1 hr).2
 have hrl:=bK (Bool.and_eq_true_iff.1 hr).1
 have hA:=kg ha
 refine cR Tryz.func119 (fun hw W0=>?_)
 refine dZ ?_
 refine cN ?_
 refine vn ?_
 refine df (aN ?_)
 refine dZ ?_
 refine cN ?_
 refine vn ?_
 refine df (aN ?_)
 refine IT 10017 ?_
 refine kgo ?_
 refine ai [0,5,18,19] (fun x:Nat × List Stp=>x.1≤rs.length∧x.2.length≤400 * x.1∧du sig a rs 0 []=du sig a (rs.drop x.1) x.1 x.2) (fun x=>rs.length - x.1) (fun x=>[(20,.sy (.d (.i x.1))),(8,.sy (.k 20001)),(20001,.tk (.grw 9 118 (x.2.map Stp.D)))]) (0,[]) ⟨Nat.zero_le _,Nat.zero_le _,rfl⟩ (fun x hx=>?_)
 obtain ⟨i,out⟩:=x
 obtain ⟨hi,hol,hst⟩:=hx
 dsimp only at hi hol hst ⊢
 rw [hst]
 refine kgo ?_
 refine aL (fun h=>?_) (fun h=>?_)
 rotate_left
 ·obtain rfl:i=rs.length:=by omega
  rw [List.drop_eq_nil_of_le (Nat.le_refl _),show jh (du sig a [] rs.length out)=(out,true) from rfl]
  refine kgo ?_
  exact gK (hp:=.cons (.k rfl rfl) (.cons (.d rfl) .nil))
 have hlt:i<rs.length:=by omega
 rw [sD i hlt]
 obtain ⟨r1,r2,r3,r4,r5,r6,r7,r8⟩:=ii (hrs _ (List.getElem_mem hlt))
 have f1:=sA r1 hA r3
 have hall:=mR (r:=(rs[i]).redex) (a:=a)
 have hno:=F6 (r:=(rs[i]).redex) (a:=a)
 have hyes:=D3 (r:=(rs[i]).redex) (a:=a)
 refine kgo ?_
 cases h2:(D2 (rs[i]).redex a).2
 ·rw [if_pos (hno h2)]
  refine kgo ?_
  refine pz 6 30006 118 ?_
  refine uE 30006 ?_
  exact gK (hp:=.cons (.k rfl rfl) (.cons (.d rfl) .nil))
 obtain ⟨hn,he⟩:=hyes h2
 have hml:=vP (rs[i]).redex a
 rw [if_neg hn,he]
 clear hno hyes he
 generalize pC (rs[i]).redex a=ms at *
 refine kgo ?_
 refine ai [0,5,9,10,18,19,20,34,35] (fun x:Nat × List Stp=>x.1≤ms.length∧x.2.length≤400 * i+x.1∧(gA sig rs[i] a i ms out).bind (du sig a (rs.drop (i+1)) (i+1))=(gA sig rs[i] a i (ms.drop x.1) x.2).bind (du sig a (rs.drop (i+1)) (i+1))) (fun x=>ms.length - x.1) (fun x=>[(36,.sy (.d (.i x.1))),(8,.sy (.k 20001)),(20001,.tk (.grw 9 118 (x.2.map Stp.D)))]) (0,out) ⟨Nat.zero_le _,hol,rfl⟩ (fun x hx=>?_)
 obtain ⟨j,o⟩:=x
 obtain ⟨hj,hoj,hsj⟩:=hx
 dsimp only at hj hoj hsj ⊢
 rw [hsj]
 refine kgo ?_
 refine aL (fun h3=>?_) (fun h3=>?_)
 rotate_left
 ·obtain rfl:j=ms.length:=by omega
  rw [List.drop_eq_nil_of_le (Nat.le_refl _)] at hsj ⊢
  refine kgo ?_
  exact af (i+1,o) ⟨hlt,by show o.length≤400 * (i+1);omega,rfl⟩ (by show _ - (i+1)<_ - i;omega)
 have hjl:j<ms.length:=by omega
 have hm:=hall _ (List.getElem_mem hjl)
 have f2:=yM hA ms[j] (fun p hp=>(lD (cF hm).2.1 p hp).2)
 have hat:=sc (sig:=sig) (r:=rs[i]) (a:=a) (k:=i) j hjl o
 refine kgo ?_
 refine cIf (fun h4=>?_) (fun h4=>?_)
 ·rw [Bool.not_eq_true'] at h4
  rw [hat,h4]
  refine kgo ?_
  exact af (j+1,o) ⟨hjl,by show o.length≤400 * i+(j+1);omega,rfl⟩ (by show _ - (j+1)<_ - j;omega)
 rw [Bool.not_eq_false'] at h4
 rw [hat,h4,if_pos rfl]
 have f3:=zX (sig:=sig) ms[j] (hrs _ (List.getElem_mem hlt)) hA hm
 refine kgo ?_
 refine cIf (fun h5=>?_) (fun h5=>?_)
 ·rw [Bool.not_eq_true'] at h5
  rw [h5]
  refine kgo ?_
  refine pz 6 30006 118 ?_
  refine uE 30006 ?_
  exact gK (hp:=.cons (.k rfl rfl) (.cons (.d rfl) .nil))
 rw [Bool.not_eq_false'] at h5
 rw [h5,if_pos rfl]
 have hni:ms[j].nodes.length≤1000:=by
  have:=(iQ (cF hm).1).len
  have:=(bu r1).nodes
  omega
 have hrl2:=i1 (rs:=ms[j].roots) (ns:=ms[j].nodes) (cF hm).2.1
 have hr0:=aJ r1
 have f4:=pW ms[j] hni (by omega)
 refine Jc 31050 ?_
 refine pI (ds:=(fM sig rs[i] a ms[j]).1.sites.map D.i) 32050 (fun d hd=>by obtain ⟨n,_,rfl⟩:=List.mem_map.1 hd;exact ⟨rfl,rfl⟩) ?_
 refine pI (ds:=(fM sig rs[i] a ms[j]).1.outer.map D.s) 34050 (fun d hd=>by obtain ⟨n,_,rfl⟩:=List.mem_map.1 hd;exact ⟨rfl,rfl⟩) ?_
 refine pI (ds:=(fM sig rs[i] a ms[j]).1.inner.map Wr.D) 35050 (fun d hd=>by obtain ⟨n,_,rfl⟩:=List.mem_map.1 hd;exact ⟨rfl,rfl⟩) ?_
 refine kgo ?_
 refine H9 (ds:=ms[j].nodes.map D.i) 30058 (fun d hd=>by obtain ⟨n,_,rfl⟩:=List.mem_map.1 hd;exact ⟨rfl,rfl⟩) ?_
 refine H9 (ds:=ms[j].roots.map D.i) 31058 (fun d hd=>by obtain ⟨n,_,rfl⟩:=List.mem_map.1 hd;exact ⟨rfl,rfl⟩) ?_
 (try refine aw ?_)
 refine IR (Stp.D (Stp.mk (i:Int) ms[j] (fM sig rs[i] a ms[j]).1)) ?_
 (try refine aR ?_)
 have hs:(o++[Stp.mk (i:Int) ms[j] (fM sig rs[i] a ms[j]).1]).map Stp.D=o.map Stp.D++[Stp.D (Stp.mk (i:Int) ms[j] (fM sig rs[i] a ms[j]).1)]:=List.map_append
 refine kgo ?_
 exact af (j+1,o++[Stp.mk (i:Int) ms[j] (fM sig rs[i] a ms[j]).1]) ⟨hjl,by show (o++_).length≤400 * i+(j+1);rw [List.length_append,List.length_singleton];omega,rfl⟩ (by show _ - (j+1)<_ - j;omega) (hs:=⟨⟨rfl,rfl⟩,⟨rfl,rfl⟩,⟨HO rfl hs.symm,rfl⟩,by repeat (first|exact trivial|refine ⟨⟨rfl,rfl⟩,?_⟩)⟩)
theorem zr (sig:List Ctl) (rs:List Rul) (a:Big) (hr:∀r∈rs,r.redex.inner.length≤1048576∧r.reactum.inner.length≤1048576) (ha:a.inner.length≤1048576):FnO Tryz.prog 65 [.l 3 (sig.map Ctl.D),.l 13 (rs.map Rul.D),a.D] [0,0] [.tk (.grw 9 118 ((cJ sig rs a).1.map Stp.D)),.d (.b (cJ sig rs a).2)]:=by
 have f1:=xW sig rs hr
 have f2:=zT sig a (by omega)
 refine cR Tryz.func65 (fun hw W0=>?_)
 unfold cJ
 refine kgo ?_
 cases h1:fQ sig rs
 ·refine kgo ?_
  refine pz 6 30006 118 ?_
  refine uE 30006 ?_
  exact gK (hp:=.cons (.k rfl rfl) (.cons (.d rfl) .nil))
 refine kgo ?_
 cases h2:fS sig a
 ·refine kgo ?_
  refine pz 6 30006 118 ?_
  refine uE 30006 ?_
  exact gK (hp:=.cons (.k rfl rfl) (.cons (.d rfl) .nil))
 have f3:=Aw h1 h2
 refine kgo ?_
 exact gK (hp:=.cons (.k rfl rfl) (.cons (.d rfl) .nil))
end Go.Proofs.YtacafmejcdgboaaGreatDoor
namespace Go.Proofs.YtacafmejcdgboaaGreatDoor
open Go.RowKit
set_option linter.unusedVariables false
set_option maxRecDepth 100000
set_option maxHeartbeats 1000000
attribute [local irreducible] ar Der At jr mkL cnL lj
theorem kD (xs:List Int) (k:Int) (h0:0≤k) (h1:k+cnL c1 xs≤1000000000):FnD Tryz.prog 80 [.l 1 ((mkL mkI c1 k xs).map D.i),.i k] (.d (.i (k+cnL c1 xs))):=by
 have hl:=jl mkI c1 xs k
 have ha:=fun i h=>tg mkI c1 i k xs h (by rw [hl];exact h)
 refine ah Tryz.func80 (fun hw W0=>?_)
 have hw':=(wfM hw.1).1
 obtain ⟨ys,hys⟩:∃ys,mkL mkI c1 k xs=ys:=⟨_,rfl⟩
 simp only [hys] at hl ha hw' ⊢
 refine kgo ?_
 refine ai [0] (fun x:Nat × Int=>x.1≤xs.length∧x.2=k+cnL c1 (xs.take x.1)) (fun x=>xs.length - x.1) (fun x=>[(1,.sy (.d (.i x.2))),(5,.sy (.d (.i x.1)))]) (0,k) ⟨Nat.zero_le _,by simp [cnL]⟩ (fun x hx=>?_)
 obtain ⟨i,K⟩:=x
 obtain ⟨hi,hK⟩:=hx
 dsimp only at hi hK ⊢
 have hc:=aH c1 xs i
 refine kgo ?_
 refine aL (fun h=>?_) (fun h=>?_)
 ·have hlt:i<xs.length:=by omega
  have hlt':i<ys.length:=by omega
  have hct:=ef c1 xs i hlt
  have hc':=aH c1 xs (i+1)
  have hcx:c1 xs[i]=1:=by first|rfl|(simp only [kO,ig,kU];omega)|(simp only [xg];omega)
  have hKb:K+c1 xs[i]≤1000000000:=by omega
  have hK0:0≤K:=by omega
  have hat:=ha i hlt
  rw [← hK] at hat
  have e0:ys[i]=K:=by rw [hat];rfl
  refine kgo ?_
  rw [e0]
  refine jE (fun h=>absurd rfl h) (fun _=>?_)
  refine kgo ?_
  exact af (i+1,K+1) ⟨hlt,by show K+1=k+(cnL c1 (xs.take (i+1)):Nat);omega⟩ (by show _ - (i+1)<_ - i;omega)
 have hie:i=xs.length:=by omega
 rw [hie,fZ] at hK
 rw [← hK]
 refine kgo ?_
 exact aq
theorem qi (xs:List ByteArray) (k:Int) (h0:0≤k) (h1:k+cnL c1 xs≤1000000000):FnD Tryz.prog 82 [.l 1 ((mkL mkS c1 k xs).map D.s),.i k] (.d (.i (k+cnL c1 xs))):=by
 have hl:=jl mkS c1 xs k
 have ha:=fun i h=>tg mkS c1 i k xs h (by rw [hl];exact h)
 refine ah Tryz.func82 (fun hw W0=>?_)
 have hw':=(wfM hw.1).1
 obtain ⟨ys,hys⟩:∃ys,mkL mkS c1 k xs=ys:=⟨_,rfl⟩
 simp only [hys] at hl ha hw' ⊢
 refine kgo ?_
 refine ai [0] (fun x:Nat × Int=>x.1≤xs.length∧x.2=k+cnL c1 (xs.take x.1)) (fun x=>xs.length - x.1) (fun x=>[(1,.sy (.d (.i x.2))),(5,.sy (.d (.i x.1)))]) (0,k) ⟨Nat.zero_le _,by simp [cnL]⟩ (fun x hx=>?_)
 obtain ⟨i,K⟩:=x
 obtain ⟨hi,hK⟩:=hx
 dsimp only at hi hK ⊢
 have hc:=aH c1 xs i
 refine kgo ?_
 refine aL (fun h=>?_) (fun h=>?_)
 ·have hlt:i<xs.length:=by omega
  have hlt':i<ys.length:=by omega
  have hct:=ef c1 xs i hlt
  have hc':=aH c1 xs (i+1)
  have hcx:c1 xs[i]=1:=by first|rfl|(simp only [kO,ig,kU];omega)|(simp only [xg];omega)
  have hKb:K+c1 xs[i]≤1000000000:=by omega
  have hK0:0≤K:=by omega
  have hat:=ha i hlt
  rw [← hK] at hat
  have f0:=iT (K) (by omega) (by omega)
  have e0:ys[i]=jr (K):=by rw [hat];rfl
  refine kgo ?_
  rw [e0]
  refine cIf (fun h=>?_) (fun _=>?_)
  ·simp at h
  refine kgo ?_
  exact af (i+1,K+1) ⟨hlt,by show K+1=k+(cnL c1 (xs.take (i+1)):Nat);omega⟩ (by show _ - (i+1)<_ - i;omega)
 have hie:i=xs.length:=by omega
 rw [hie,fZ] at hK
 rw [← hK]
 refine kgo ?_
 exact aq
theorem uh (xs:List Wr) (k:Int) (h0:0≤k) (h1:k+cnL c2 xs≤1000000000):FnD Tryz.prog 83 [.l 2 ((mkL yT c2 k xs).map Wr.D),.i k] (.d (.i (k+cnL c2 xs))):=by
 have hl:=jl yT c2 xs k
 have ha:=fun i h=>tg yT c2 i k xs h (by rw [hl];exact h)
 refine ah Tryz.func83 (fun hw W0=>?_)
 have hw':=(wfM hw.1).1
 obtain ⟨ys,hys⟩:∃ys,mkL yT c2 k xs=ys:=⟨_,rfl⟩
 simp only [hys] at hl ha hw' ⊢
 refine kgo ?_
 refine ai [0] (fun x:Nat × Int=>x.1≤xs.length∧x.2=k+cnL c2 (xs.take x.1)) (fun x=>xs.length - x.1) (fun x=>[(1,.sy (.d (.i x.2))),(5,.sy (.d (.i x.1)))]) (0,k) ⟨Nat.zero_le _,by simp [cnL]⟩ (fun x hx=>?_)
 obtain ⟨i,K⟩:=x
 obtain ⟨hi,hK⟩:=hx
 dsimp only at hi hK ⊢
 have hc:=aH c2 xs i
 refine kgo ?_
 refine aL (fun h=>?_) (fun h=>?_)
 ·have hlt:i<xs.length:=by omega
  have hlt':i<ys.length:=by omega
  have hct:=ef c2 xs i hlt
  have hc':=aH c2 xs (i+1)
  have hcx:c2 xs[i]=2:=by first|rfl|(simp only [kO,ig,kU];omega)|(simp only [xg];omega)
  have hKb:K+c2 xs[i]≤1000000000:=by omega
  have hK0:0≤K:=by omega
  have hat:=ha i hlt
  rw [← hK] at hat
  have f0:=iT (K) (by omega) (by omega)
  have e0:ys[i].name=jr (K):=by rw [hat];rfl
  have e1:ys[i].link=K+1:=by rw [hat];rfl
  refine kgo ?_
  rw [e0]
  refine cIf (fun h=>?_) (fun _=>?_)
  ·simp at h
  refine kgo ?_
  rw [e1]
  refine jE (fun h=>absurd rfl h) (fun _=>?_)
  refine kgo ?_
  exact af (i+1,K+1+1) ⟨hlt,by show K+1+1=k+(cnL c2 (xs.take (i+1)):Nat);omega⟩ (by show _ - (i+1)<_ - i;omega)
 have hie:i=xs.length:=by omega
 rw [hie,fZ] at hK
 rw [← hK]
 refine kgo ?_
 exact aq
theorem uA (xs:List Nd) (k:Int) (h0:0≤k) (h1:k+cnL cNd xs≤1000000000):FnD Tryz.prog 81 [.l 3 ((mkL rM cNd k xs).map Nd.D),.i k] (.d (.i (k+cnL cNd xs))):=by
 have hl:=jl rM cNd xs k
 have ha:=fun i h=>tg rM cNd i k xs h (by rw [hl];exact h)
 refine ah Tryz.func81 (fun hw W0=>?_)
 have hw':=(wfM hw.1).1
 obtain ⟨ys,hys⟩:∃ys,mkL rM cNd k xs=ys:=⟨_,rfl⟩
 simp only [hys] at hl ha hw' ⊢
 refine kgo ?_
 refine ai [0] (fun x:Nat × Int=>x.1≤xs.length∧x.2=k+cnL cNd (xs.take x.1)) (fun x=>xs.length - x.1) (fun x=>[(1,.sy (.d (.i x.2))),(5,.sy (.d (.i x.1)))]) (0,k) ⟨Nat.zero_le _,by simp [cnL]⟩ (fun x hx=>?_)
 obtain ⟨i,K⟩:=x
 obtain ⟨hi,hK⟩:=hx
 dsimp only at hi hK ⊢
 have hc:=aH cNd xs i
 refine kgo ?_
 refine aL (fun h=>?_) (fun h=>?_)
 ·have hlt:i<xs.length:=by omega
  have hlt':i<ys.length:=by omega
  have hct:=ef cNd xs i hlt
  have hc':=aH cNd xs (i+1)
  have hcx:cNd xs[i]=2+cnL c1 xs[i].links:=by first|rfl|(simp only [kO,ig,kU];omega)|(simp only [xg];omega)
  have hKb:K+cNd xs[i]≤1000000000:=by omega
  have hK0:0≤K:=by omega
  have hat:=ha i hlt
  rw [← hK] at hat
  have e0:ys[i].control=K:=by rw [hat];rfl
  have e1:ys[i].parent=K+1:=by rw [hat];rfl
  have f2:=kD xs[i].links (K+1+1) (by omega) (by omega)
  rw [show mkL mkI c1 (K+1+1) xs[i].links=ys[i].links by rw [hat];rfl] at f2
  refine kgo ?_
  rw [e0]
  refine jE (fun h=>absurd rfl h) (fun _=>?_)
  refine kgo ?_
  rw [e1]
  refine jE (fun h=>absurd rfl h) (fun _=>?_)
  refine kgo ?_
  refine aL (fun h=>?_) (fun _=>?_)
  ·omega
  refine kgo ?_
  exact af (i+1,K+1+1+(cnL c1 xs[i].links:Nat)) ⟨hlt,by show K+1+1+(cnL c1 xs[i].links:Nat)=k+(cnL cNd (xs.take (i+1)):Nat);omega⟩ (by show _ - (i+1)<_ - i;omega)
 have hie:i=xs.length:=by omega
 rw [hie,fZ] at hK
 rw [← hK]
 refine kgo ?_
 exact aq
end Go.Proofs.YtacafmejcdgboaaGreatDoor
namespace Go.Proofs.YtacafmejcdgboaaGreatDoor
open Go.RowKit
set_option linter.unusedVariables false
set_option maxRecDepth 100000
set_option maxHeartbeats 1000000
attribute [local irreducible] ar Der At jr mkL cnL lj
theorem qJ (b:Big) (k:Int) (h0:0≤k) (h1:k+kU b≤1000000000):IX Tryz.prog 27 [.i b.roots,.l 3 (b.nodes.map Nd.D),DI b.sites,.i b.edges,.l 1 (b.outer.map D.s),.l 2 (b.inner.map Wr.D)] [.i (xH k b).roots,.l 3 ((xH k b).nodes.map Nd.D),DI (xH k b).sites,.i (xH k b).edges,.l 1 ((xH k b).outer.map D.s),.l 2 ((xH k b).inner.map Wr.D)] k (k+kU b):=by
 have e:kU b=cnL cNd b.nodes+cnL c1 b.sites+cnL c1 b.outer+cnL c2 b.inner:=rfl
 have f1:=gY b.nodes k h0 (by omega)
 have f2:=er b.sites (k+(cnL cNd b.nodes:Nat)) (by omega) (by omega)
 have f3:=fA b.outer (k+(cnL cNd b.nodes:Nat)+(cnL c1 b.sites:Nat)) (by omega) (by omega)
 have f4:=ij b.inner (k+(cnL cNd b.nodes:Nat)+(cnL c1 b.sites:Nat)+(cnL c1 b.outer:Nat)) (by omega) (by omega)
 rw [show k+(kU b:Int)=k+(cnL cNd b.nodes:Nat)+(cnL c1 b.sites:Nat)+(cnL c1 b.outer:Nat)+(cnL c2 b.inner:Nat) by omega]
 refine Fi Tryz.func27 (DH h0 (by omega)) (fun W0 V T=>?_)
 refine kgl ?_
 exact IJ
end Go.Proofs.YtacafmejcdgboaaGreatDoor
namespace Go.Proofs.YtacafmejcdgboaaGreatDoor
open Go.RowKit
set_option linter.unusedVariables false
set_option maxRecDepth 100000
set_option maxHeartbeats 1000000
attribute [local irreducible] ar Der At
theorem lz (xs:List Int):FnD Tryz.prog 54 [.l 1 (xs.map D.i),.l 1 (xs.map D.i)] (.d (.b true)):=by
 refine ah Tryz.func54 (fun hw W0=>?_)
 have hl:=(wfM hw.1).1
 refine kgo ?_
 refine jE (fun h=>absurd rfl h) (fun _=>?_)
 refine kgo ?_
 refine ai [0,1] (fun i:Nat=>i≤xs.length) (fun i=>xs.length - i) (fun i=>[(5,.sy (.d (.i i)))]) 0 (Nat.zero_le _) (fun i hi=>?_)
 refine kgo ?_
 refine aL (fun h=>?_) (fun h=>?_)
 ·have hlt:i<xs.length:=by omega
  refine kgo ?_
  refine jE (fun h=>absurd rfl h) (fun _=>?_)
  refine kgo ?_
  exact af (i+1) hlt (by show _ - (i+1)<_ - i;omega)
 refine kgo ?_
 exact aq
theorem tW (xs:List ByteArray):FnD Tryz.prog 55 [.l 1 (xs.map D.s),.l 1 (xs.map D.s)] (.d (.b true)):=by
 refine ah Tryz.func55 (fun hw W0=>?_)
 have hl:=(wfM hw.1).1
 refine kgo ?_
 refine jE (fun h=>absurd rfl h) (fun _=>?_)
 refine kgo ?_
 refine ai [0,1] (fun i:Nat=>i≤xs.length) (fun i=>xs.length - i) (fun i=>[(5,.sy (.d (.i i)))]) 0 (Nat.zero_le _) (fun i hi=>?_)
 refine kgo ?_
 refine aL (fun h=>?_) (fun h=>?_)
 ·have hlt:i<xs.length:=by omega
  refine kgo ?_
  refine cIf (fun h=>?_) (fun _=>?_)
  ·simp at h
  refine kgo ?_
  exact af (i+1) hlt (by show _ - (i+1)<_ - i;omega)
 refine kgo ?_
 exact aq
theorem vO (x:Ctl):FnD Tryz.prog 51 [Ctl.D x,Ctl.D x] (.d (.b true)):=by
 refine ah Tryz.func51 (fun hw W0=>?_)
 refine kgo ?_
 refine cIf (fun h=>?_) (fun _=>?_)
 ·simp at h
 refine kgo ?_
 refine jE (fun h=>absurd rfl h) (fun _=>?_)
 refine kgo ?_
 refine jE (fun h=>absurd rfl h) (fun _=>?_)
 refine kgo ?_
 exact aq
theorem rV (xs:List Ctl):FnD Tryz.prog 15 [.l 3 (xs.map Ctl.D),.l 3 (xs.map Ctl.D)] (.d (.b true)):=by
 refine ah Tryz.func15 (fun hw W0=>?_)
 have hl:=(wfM hw.1).1
 refine kgo ?_
 refine jE (fun h=>absurd rfl h) (fun _=>?_)
 refine kgo ?_
 refine ai [0,1] (fun i:Nat=>i≤xs.length) (fun i=>xs.length - i) (fun i=>[(5,.sy (.d (.i i)))]) 0 (Nat.zero_le _) (fun i hi=>?_)
 refine kgo ?_
 refine aL (fun h=>?_) (fun h=>?_)
 ·have hlt:i<xs.length:=by omega
  have f:=vO xs[i]
  refine kgo ?_
  exact af (i+1) hlt (by show _ - (i+1)<_ - i;omega)
 refine kgo ?_
 exact aq
theorem Ch (x:Wr):FnD Tryz.prog 108 [Wr.D x,Wr.D x] (.d (.b true)):=by
 refine ah Tryz.func108 (fun hw W0=>?_)
 refine kgo ?_
 refine cIf (fun h=>?_) (fun _=>?_)
 ·simp at h
 refine kgo ?_
 refine jE (fun h=>absurd rfl h) (fun _=>?_)
 refine kgo ?_
 exact aq
theorem AR (xs:List Wr):FnD Tryz.prog 56 [.l 2 (xs.map Wr.D),.l 2 (xs.map Wr.D)] (.d (.b true)):=by
 refine ah Tryz.func56 (fun hw W0=>?_)
 have hl:=(wfM hw.1).1
 refine kgo ?_
 refine jE (fun h=>absurd rfl h) (fun _=>?_)
 refine kgo ?_
 refine ai [0,1] (fun i:Nat=>i≤xs.length) (fun i=>xs.length - i) (fun i=>[(5,.sy (.d (.i i)))]) 0 (Nat.zero_le _) (fun i hi=>?_)
 refine kgo ?_
 refine aL (fun h=>?_) (fun h=>?_)
 ·have hlt:i<xs.length:=by omega
  have f:=Ch xs[i]
  refine kgo ?_
  exact af (i+1) hlt (by show _ - (i+1)<_ - i;omega)
 refine kgo ?_
 exact aq
theorem Dq (x:Nd):FnD Tryz.prog 107 [Nd.D x,Nd.D x] (.d (.b true)):=by
 have flinks:=lz x.links
 refine ah Tryz.func107 (fun hw W0=>?_)
 refine kgo ?_
 refine jE (fun h=>absurd rfl h) (fun _=>?_)
 refine kgo ?_
 refine jE (fun h=>absurd rfl h) (fun _=>?_)
 refine kgo ?_
 exact aq
theorem Ae (xs:List Nd):FnD Tryz.prog 53 [.l 3 (xs.map Nd.D),.l 3 (xs.map Nd.D)] (.d (.b true)):=by
 refine ah Tryz.func53 (fun hw W0=>?_)
 have hl:=(wfM hw.1).1
 refine kgo ?_
 refine jE (fun h=>absurd rfl h) (fun _=>?_)
 refine kgo ?_
 refine ai [0,1] (fun i:Nat=>i≤xs.length) (fun i=>xs.length - i) (fun i=>[(5,.sy (.d (.i i)))]) 0 (Nat.zero_le _) (fun i hi=>?_)
 refine kgo ?_
 refine aL (fun h=>?_) (fun h=>?_)
 ·have hlt:i<xs.length:=by omega
  have f:=Dq xs[i]
  refine kgo ?_
  exact af (i+1) hlt (by show _ - (i+1)<_ - i;omega)
 refine kgo ?_
 exact aq
theorem gX (x:Big):FnD Tryz.prog 17 [Big.D x,Big.D x] (.d (.b true)):=by
 have fnodes:=Ae x.nodes
 have fsites:=lz x.sites
 have fouter:=tW x.outer
 have finner:=AR x.inner
 refine ah Tryz.func17 (fun hw W0=>?_)
 refine kgo ?_
 refine jE (fun h=>absurd rfl h) (fun _=>?_)
 refine kgo ?_
 refine jE (fun h=>absurd rfl h) (fun _=>?_)
 refine kgo ?_
 exact aq
theorem CQ (x:Rul):FnD Tryz.prog 52 [Rul.D x,Rul.D x] (.d (.b true)):=by
 have fredex:=gX x.redex
 have freactum:=gX x.reactum
 have fcopies:=lz x.copies
 refine ah Tryz.func52 (fun hw W0=>?_)
 refine kgo ?_
 exact aq
theorem AO (x:Mat):FnD Tryz.prog 109 [Mat.D x,Mat.D x] (.d (.b true)):=by
 have fnodes:=lz x.nodes
 have froots:=lz x.roots
 refine ah Tryz.func109 (fun hw W0=>?_)
 refine kgo ?_
 exact aq
end Go.Proofs.YtacafmejcdgboaaGreatDoor
namespace Go.Proofs.YtacafmejcdgboaaGreatDoor
open Go.RowKit
set_option linter.unusedVariables false
set_option maxRecDepth 100000
set_option maxHeartbeats 1000000
attribute [local irreducible] ar Der At
theorem szP {n:Nat} {l:Int} (h:(n:Int)≤l):szR n l=l - n:=if_pos h
theorem szN {n:Nat} {l:Int} (h:¬(n:Int)≤l):szR n l = -1:=if_neg h
attribute [local irreducible] szR
theorem qF (xs:List Int) (left:Int) (h0:0≤left) (h1:left≤1048576):FnD Tryz.prog 33 [.l 1 (xs.map D.i),.i left] (.d (.i (szR xs.length left))):=by
 refine ah Tryz.func33 (fun hw W0=>?_)
 have hl:=(wfM hw.1).1
 refine kgo ?_
 refine aL (fun h=>?_) (fun h=>?_)
 ·rw [szN (by omega)]
  refine kgo ?_
  exact aq
 rw [szP (by omega)]
 refine kgo ?_
 exact aq
theorem uW (xs:List ByteArray) (left:Int) (h0:0≤left) (h1:left≤1048576):FnD Tryz.prog 34 [.l 1 (xs.map D.s),.i left] (.d (.i (szR (wtL gD xs) left))):=by
 have hww:wtL gD xs=xs.length+(xs.map gD).sum:=rfl
 refine ah Tryz.func34 (fun hw W0=>?_)
 have hl:=(wfM hw.1).1
 refine kgo ?_
 refine aL (fun h=>?_) (fun h=>?_)
 ·rw [szN (by omega)]
  refine kgo ?_
  exact aq
 refine kgo ?_
 refine ai [0] (fun x:Nat × Int=>x.1≤xs.length∧0≤x.2∧x.2=left - xs.length - (((xs.take x.1).map gD).sum:Nat)) (fun x=>xs.length - x.1) (fun x=>[(1,.sy (.d (.i x.2))),(5,.sy (.d (.i x.1)))]) (0,left - xs.length) ⟨Nat.zero_le _,by show 0≤left - (xs.length:Int);omega,by simp⟩ (fun x hx=>?_)
 obtain ⟨i,K⟩:=x
 obtain ⟨hi,hK0,hK⟩:=hx
 dsimp only at hi hK hK0 ⊢
 refine kgo ?_
 refine aL (fun h=>?_) (fun h=>?_)
 ·have hlt:i<xs.length:=by omega
  have hs:=ko gD xs i hlt
  have hle:=dV gD xs (i+1)
  have hx:gD xs[i]=(xs[i]).size:=rfl
  have hz:=hw.1.2.at _ (List.mem_map.2 ⟨xs[i],List.getElem_mem hlt,rfl⟩)
  have hz':(xs[i]).size≤9223372036854775807:=hz
  refine kgo ?_
  refine bI (e:=0) ?_
  refine kgo ?_
  refine aL (fun h=>?_) (fun h=>?_)
  ·rw [szN (by omega)]
   refine kgo ?_
   exact aq
  refine kgo ?_
  exact af (i+1,K - ((xs[i]).size:Nat)) ⟨hlt,by show 0≤K - ((xs[i]).size:Int);omega,by show K - ((xs[i]).size:Int)=left - xs.length - (((xs.take (i+1)).map gD).sum:Nat);omega⟩ (by show _ - (i+1)<_ - i;omega)
 obtain rfl:i=xs.length:=by omega
 rw [List.take_length] at hK
 rw [szP (by omega),show left - ((wtL gD xs:Nat):Int)=K by omega]
 refine kgo ?_
 exact aq
theorem ur (x:Ctl) (left:Int) (h0:0≤left) (h1:left≤1048576):FnD Tryz.prog 30 [Ctl.D x,.i left] (.d (.i (szR (gd x) left))):=by
 have hww:gd x=(x.name).size:=rfl
 refine ah Tryz.func30 (fun hw W0=>?_)
 have hz:(x.name).size≤9223372036854775807:=hw.1.1
 refine kgo ?_
 refine bI (e:=0) ?_
 refine kgo ?_
 refine aL (fun h=>?_) (fun h=>?_)
 ·rw [szN (by omega)]
  refine kgo ?_
  exact aq
 rw [szP (by omega),show left - ((gd x:Nat):Int)=left - ((x.name).size:Nat) by omega]
 refine kgo ?_
 exact aq
theorem sa (xs:List Ctl) (left:Int) (h0:0≤left) (h1:left≤1048576):FnD Tryz.prog 5 [.l 3 (xs.map Ctl.D),.i left] (.d (.i (szR (wtL gd xs) left))):=by
 have hww:wtL gd xs=xs.length+(xs.map gd).sum:=rfl
 refine ah Tryz.func5 (fun hw W0=>?_)
 have hl:=(wfM hw.1).1
 refine kgo ?_
 refine aL (fun h=>?_) (fun h=>?_)
 ·rw [szN (by omega)]
  refine kgo ?_
  exact aq
 refine kgo ?_
 refine ai [0] (fun x:Nat × Int=>x.1≤xs.length∧0≤x.2∧x.2=left - xs.length - (((xs.take x.1).map gd).sum:Nat)) (fun x=>xs.length - x.1) (fun x=>[(1,.sy (.d (.i x.2))),(5,.sy (.d (.i x.1)))]) (0,left - xs.length) ⟨Nat.zero_le _,by show 0≤left - (xs.length:Int);omega,by simp⟩ (fun x hx=>?_)
 obtain ⟨i,K⟩:=x
 obtain ⟨hi,hK0,hK⟩:=hx
 dsimp only at hi hK hK0 ⊢
 refine kgo ?_
 refine aL (fun h=>?_) (fun h=>?_)
 ·have hlt:i<xs.length:=by omega
  have hs:=ko gd xs i hlt
  have hle:=dV gd xs (i+1)
  have f:=ur xs[i] K hK0 (by omega)
  by_cases hz:((gd xs[i]:Nat):Int)≤K
  ·rw [szP hz] at f
   refine kgo ?_
   refine aL (fun h=>?_) (fun h=>?_)
   ·omega
   refine kgo ?_
   exact af (i+1,K - (gd xs[i]:Nat)) ⟨hlt,by show 0≤K - ((gd xs[i]:Nat):Int);omega,by show K - ((gd xs[i]:Nat):Int)=left - xs.length - (((xs.take (i+1)).map gd).sum:Nat);omega⟩ (by show _ - (i+1)<_ - i;omega)
  rw [szN hz] at f
  rw [szN (by omega)]
  refine kgo ?_
  exact aq
 obtain rfl:i=xs.length:=by omega
 rw [List.take_length] at hK
 rw [szP (by omega),show left - ((wtL gd xs:Nat):Int)=K by omega]
 refine kgo ?_
 exact aq
theorem C4 (x:Wr) (left:Int) (h0:0≤left) (h1:left≤1048576):FnD Tryz.prog 85 [Wr.D x,.i left] (.d (.i (szR (kK x) left))):=by
 have hww:kK x=(x.name).size:=rfl
 refine ah Tryz.func85 (fun hw W0=>?_)
 have hz:(x.name).size≤9223372036854775807:=hw.1.1
 refine kgo ?_
 refine bI (e:=0) ?_
 refine kgo ?_
 refine aL (fun h=>?_) (fun h=>?_)
 ·rw [szN (by omega)]
  refine kgo ?_
  exact aq
 rw [szP (by omega),show left - ((kK x:Nat):Int)=left - ((x.name).size:Nat) by omega]
 refine kgo ?_
 exact aq
theorem AS (xs:List Wr) (left:Int) (h0:0≤left) (h1:left≤1048576):FnD Tryz.prog 35 [.l 2 (xs.map Wr.D),.i left] (.d (.i (szR (wtL kK xs) left))):=by
 have hww:wtL kK xs=xs.length+(xs.map kK).sum:=rfl
 refine ah Tryz.func35 (fun hw W0=>?_)
 have hl:=(wfM hw.1).1
 refine kgo ?_
 refine aL (fun h=>?_) (fun h=>?_)
 ·rw [szN (by omega)]
  refine kgo ?_
  exact aq
 refine kgo ?_
 refine ai [0] (fun x:Nat × Int=>x.1≤xs.length∧0≤x.2∧x.2=left - xs.length - (((xs.take x.1).map kK).sum:Nat)) (fun x=>xs.length - x.1) (fun x=>[(1,.sy (.d (.i x.2))),(5,.sy (.d (.i x.1)))]) (0,left - xs.length) ⟨Nat.zero_le _,by show 0≤left - (xs.length:Int);omega,by simp⟩ (fun x hx=>?_)
 obtain ⟨i,K⟩:=x
 obtain ⟨hi,hK0,hK⟩:=hx
 dsimp only at hi hK hK0 ⊢
 refine kgo ?_
 refine aL (fun h=>?_) (fun h=>?_)
 ·have hlt:i<xs.length:=by omega
  have hs:=ko kK xs i hlt
  have hle:=dV kK xs (i+1)
  have f:=C4 xs[i] K hK0 (by omega)
  by_cases hz:((kK xs[i]:Nat):Int)≤K
  ·rw [szP hz] at f
   refine kgo ?_
   refine aL (fun h=>?_) (fun h=>?_)
   ·omega
   refine kgo ?_
   exact af (i+1,K - (kK xs[i]:Nat)) ⟨hlt,by show 0≤K - ((kK xs[i]:Nat):Int);omega,by show K - ((kK xs[i]:Nat):Int)=left - xs.length - (((xs.take (i+1)).map kK).sum:Nat);omega⟩ (by show _ - (i+1)<_ - i;omega)
  rw [szN hz] at f
  rw [szN (by omega)]
  refine kgo ?_
  exact aq
 obtain rfl:i=xs.length:=by omega
 rw [List.take_length] at hK
 rw [szP (by omega),show left - ((wtL kK xs:Nat):Int)=K by omega]
 refine kgo ?_
 exact aq
theorem Dh (x:Nd) (left:Int) (h0:0≤left) (h1:left≤1048576):FnD Tryz.prog 84 [Nd.D x,.i left] (.d (.i (szR (iW x) left))):=by
 have hww:iW x=(x.links).length:=rfl
 refine ah Tryz.func84 (fun hw W0=>?_)
 have flinks:=qF x.links (left) (by omega) (by omega)
 by_cases hlinks:(((x.links).length:Nat):Int)≤left
 rotate_left
 ·rw [szN hlinks] at flinks
  rw [szN (by omega)]
  refine kgo ?_
  exact aq
 rw [szP hlinks] at flinks
 refine kgo ?_
 refine aL (fun h=>?_) (fun h=>?_)
 ·omega
 rw [szP (by omega),show left - ((iW x:Nat):Int)=left - ((x.links).length:Nat) by omega]
 refine kgo ?_
 exact aq
theorem zg (xs:List Nd) (left:Int) (h0:0≤left) (h1:left≤1048576):FnD Tryz.prog 32 [.l 3 (xs.map Nd.D),.i left] (.d (.i (szR (wtL iW xs) left))):=by
 have hww:wtL iW xs=xs.length+(xs.map iW).sum:=rfl
 refine ah Tryz.func32 (fun hw W0=>?_)
 have hl:=(wfM hw.1).1
 refine kgo ?_
 refine aL (fun h=>?_) (fun h=>?_)
 ·rw [szN (by omega)]
  refine kgo ?_
  exact aq
 refine kgo ?_
 refine ai [0] (fun x:Nat × Int=>x.1≤xs.length∧0≤x.2∧x.2=left - xs.length - (((xs.take x.1).map iW).sum:Nat)) (fun x=>xs.length - x.1) (fun x=>[(1,.sy (.d (.i x.2))),(5,.sy (.d (.i x.1)))]) (0,left - xs.length) ⟨Nat.zero_le _,by show 0≤left - (xs.length:Int);omega,by simp⟩ (fun x hx=>?_)
 obtain ⟨i,K⟩:=x
 obtain ⟨hi,hK0,hK⟩:=hx
 dsimp only at hi hK hK0 ⊢
 refine kgo ?_
 refine aL (fun h=>?_) (fun h=>?_)
 ·have hlt:i<xs.length:=by omega
  have hs:=ko iW xs i hlt
  have hle:=dV iW xs (i+1)
  have f:=Dh xs[i] K hK0 (by omega)
  by_cases hz:((iW xs[i]:Nat):Int)≤K
  ·rw [szP hz] at f
   refine kgo ?_
   refine aL (fun h=>?_) (fun h=>?_)
   ·omega
   refine kgo ?_
   exact af (i+1,K - (iW xs[i]:Nat)) ⟨hlt,by show 0≤K - ((iW xs[i]:Nat):Int);omega,by show K - ((iW xs[i]:Nat):Int)=left - xs.length - (((xs.take (i+1)).map iW).sum:Nat);omega⟩ (by show _ - (i+1)<_ - i;omega)
  rw [szN hz] at f
  rw [szN (by omega)]
  refine kgo ?_
  exact aq
 obtain rfl:i=xs.length:=by omega
 rw [List.take_length] at hK
 rw [szP (by omega),show left - ((wtL iW xs:Nat):Int)=K by omega]
 refine kgo ?_
 exact aq
theorem ja (x:Big) (left:Int) (h0:0≤left) (h1:left≤1048576):FnD Tryz.prog 7 [Big.D x,.i left] (.d (.i (szR (cI x) left))):=by
 have hww:cI x=wtL iW x.nodes+(x.sites).length+wtL gD x.outer+wtL kK x.inner:=rfl
 refine ah Tryz.func7 (fun hw W0=>?_)
 have fnodes:=zg x.nodes (left) (by omega) (by omega)
 by_cases hnodes:((wtL iW x.nodes:Nat):Int)≤left
 rotate_left
 ·rw [szN hnodes] at fnodes
  rw [szN (by omega)]
  refine kgo ?_
  exact aq
 rw [szP hnodes] at fnodes
 refine kgo ?_
 refine aL (fun h=>?_) (fun h=>?_)
 ·omega
 have fsites:=qF x.sites (left - (wtL iW x.nodes:Nat)) (by omega) (by omega)
 by_cases hsites:(((x.sites).length:Nat):Int)≤left - (wtL iW x.nodes:Nat)
 rotate_left
 ·rw [szN hsites] at fsites
  rw [szN (by omega)]
  refine kgo ?_
  exact aq
 rw [szP hsites] at fsites
 refine kgo ?_
 refine aL (fun h=>?_) (fun h=>?_)
 ·omega
 have fouter:=uW x.outer (left - (wtL iW x.nodes:Nat) - ((x.sites).length:Nat)) (by omega) (by omega)
 by_cases houter:((wtL gD x.outer:Nat):Int)≤left - (wtL iW x.nodes:Nat) - ((x.sites).length:Nat)
 rotate_left
 ·rw [szN houter] at fouter
  rw [szN (by omega)]
  refine kgo ?_
  exact aq
 rw [szP houter] at fouter
 refine kgo ?_
 refine aL (fun h=>?_) (fun h=>?_)
 ·omega
 have finner:=AS x.inner (left - (wtL iW x.nodes:Nat) - ((x.sites).length:Nat) - (wtL gD x.outer:Nat)) (by omega) (by omega)
 by_cases hinner:((wtL kK x.inner:Nat):Int)≤left - (wtL iW x.nodes:Nat) - ((x.sites).length:Nat) - (wtL gD x.outer:Nat)
 rotate_left
 ·rw [szN hinner] at finner
  rw [szN (by omega)]
  refine kgo ?_
  exact aq
 rw [szP hinner] at finner
 refine kgo ?_
 refine aL (fun h=>?_) (fun h=>?_)
 ·omega
 rw [szP (by omega),show left - ((cI x:Nat):Int)=left - (wtL iW x.nodes:Nat) - ((x.sites).length:Nat) - (wtL gD x.outer:Nat) - (wtL kK x.inner:Nat) by omega]
 refine kgo ?_
 exact aq
theorem DK (x:Rul) (left:Int) (h0:0≤left) (h1:left≤1048576):FnD Tryz.prog 31 [Rul.D x,.i left] (.d (.i (szR (jB x) left))):=by
 have hww:jB x=cI x.redex+cI x.reactum+(x.copies).length:=rfl
 refine ah Tryz.func31 (fun hw W0=>?_)
 have fredex:=ja x.redex (left) (by omega) (by omega)
 by_cases hredex:((cI x.redex:Nat):Int)≤left
 rotate_left
 ·rw [szN hredex] at fredex
  rw [szN (by omega)]
  refine kgo ?_
  exact aq
 rw [szP hredex] at fredex
 refine kgo ?_
 refine aL (fun h=>?_) (fun h=>?_)
 ·omega
 have freactum:=ja x.reactum (left - (cI x.redex:Nat)) (by omega) (by omega)
 by_cases hreactum:((cI x.reactum:Nat):Int)≤left - (cI x.redex:Nat)
 rotate_left
 ·rw [szN hreactum] at freactum
  rw [szN (by omega)]
  refine kgo ?_
  exact aq
 rw [szP hreactum] at freactum
 refine kgo ?_
 refine aL (fun h=>?_) (fun h=>?_)
 ·omega
 have fcopies:=qF x.copies (left - (cI x.redex:Nat) - (cI x.reactum:Nat)) (by omega) (by omega)
 by_cases hcopies:(((x.copies).length:Nat):Int)≤left - (cI x.redex:Nat) - (cI x.reactum:Nat)
 rotate_left
 ·rw [szN hcopies] at fcopies
  rw [szN (by omega)]
  refine kgo ?_
  exact aq
 rw [szP hcopies] at fcopies
 refine kgo ?_
 refine aL (fun h=>?_) (fun h=>?_)
 ·omega
 rw [szP (by omega),show left - ((jB x:Nat):Int)=left - (cI x.redex:Nat) - (cI x.reactum:Nat) - ((x.copies).length:Nat) by omega]
 refine kgo ?_
 exact aq
end Go.Proofs.YtacafmejcdgboaaGreatDoor
namespace Go.Proofs.YtacafmejcdgboaaGreatDoor
open Go.RowKit
set_option linter.unusedVariables false
set_option maxRecDepth 100000
set_option maxHeartbeats 1000000
attribute [local irreducible] ar Der At
theorem ri (xs:List Int) (hx:xs.length≤1048576):FnO Tryz.prog 44 [.l 1 (xs.map D.i)] [0] [.tk (.own (.l 1 (xs.map D.i)) none none)]:=by
 refine cR Tryz.func44 (fun hw W0=>?_)
 refine kgo ?_
 refine po (n:=xs.length) (.i 0) ?_ rfl rfl (hb:=by show 8 * xs.length≤1000000000;omega)
 refine kgo ?_
 refine pI (ds:=List.replicate xs.length (.i 0)) 10007 (fun d hd=>by rw [(List.mem_replicate.1 hd).2];exact ⟨rfl,rfl⟩) ?_
 refine ai [0,3,10007] (fun x:Nat × List D=>x.1≤xs.length∧x.2=rD D.i (.i 0) x.1 xs) (fun x=>xs.length - x.1) (fun x=>[(4,.sy (.d (.i x.1))),(10007,.tk (.own (.l 1 x.2) none none))]) (0,List.replicate xs.length (.i 0)) ⟨Nat.zero_le _,il _ _ _⟩ (fun x hx=>?_)
 obtain ⟨i,ds⟩:=x
 obtain ⟨hi,hd⟩:=hx
 dsimp only at hi hd ⊢
 have hdl:=jp hi hd
 refine kgt ?_
 refine aL (fun h=>?_) (fun h=>?_)
 ·have hlt:i<xs.length:=by omega
  have hlt':i<ds.length:=by omega
  have he:=ln hlt hd
  refine kgt ?_
  refine t7 i 0 (ds.set i (D.i xs[i])) he rfl ?_
  refine kgt ?_
  exact af (i+1,ds.set i (D.i xs[i])) ⟨hlt,g9 hlt hd⟩ (by show _ - (i+1)<_ - i;omega)
 rw [jj (by omega) hd]
 refine kgt ?_
 exact gK (hp:=.cons (.k rfl rfl) .nil)
theorem uZ (xs:List ByteArray) (hx:wtL gD xs≤1048576):FnO Tryz.prog 45 [.l 1 (xs.map D.s)] [0] [.tk (.own (.l 1 (xs.map D.s)) none none)]:=by
 refine cR Tryz.func45 (fun hw W0=>?_)
 have hxl:=dI gD xs
 refine kgo ?_
 refine po (n:=xs.length) (.s ⟨#[]⟩) ?_ rfl rfl (hb:=by show 16 * xs.length≤1000000000;omega)
 refine kgo ?_
 refine pI (ds:=List.replicate xs.length (.s ⟨#[]⟩)) 10007 (fun d hd=>by rw [(List.mem_replicate.1 hd).2];exact ⟨rfl,rfl⟩) ?_
 refine ai [0,3,10007] (fun x:Nat × List D=>x.1≤xs.length∧x.2=rD D.s (.s ⟨#[]⟩) x.1 xs) (fun x=>xs.length - x.1) (fun x=>[(4,.sy (.d (.i x.1))),(10007,.tk (.own (.l 1 x.2) none none))]) (0,List.replicate xs.length (.s ⟨#[]⟩)) ⟨Nat.zero_le _,il _ _ _⟩ (fun x hx=>?_)
 obtain ⟨i,ds⟩:=x
 obtain ⟨hi,hd⟩:=hx
 dsimp only at hi hd ⊢
 have hdl:=jp hi hd
 refine kgt ?_
 refine aL (fun h=>?_) (fun h=>?_)
 ·have hlt:i<xs.length:=by omega
  have hlt':i<ds.length:=by omega
  have he:=ln hlt hd
  refine kgt ?_
  refine t7 i 0 (ds.set i (D.s xs[i])) he rfl ?_
  refine kgt ?_
  exact af (i+1,ds.set i (D.s xs[i])) ⟨hlt,g9 hlt hd⟩ (by show _ - (i+1)<_ - i;omega)
 rw [jj (by omega) hd]
 refine kgt ?_
 exact gK (hp:=.cons (.k rfl rfl) .nil)
theorem uL (x:Ctl):FnD Tryz.prog 41 [Ctl.D x] (.d (Ctl.D x)):=by
 refine ah Tryz.func41 (fun hw W0=>?_)
 refine kgo ?_
 exact aq
theorem iF (xs:List Ctl) (hx:wtL gd xs≤1048576):FnO Tryz.prog 10 [.l 3 (xs.map Ctl.D)] [0] [.tk (.own (.l 3 (xs.map Ctl.D)) none none)]:=by
 refine cR Tryz.func10 (fun hw W0=>?_)
 have hxl:=dI gd xs
 refine kgo ?_
 refine po (n:=xs.length) (.t [.s ⟨#[]⟩,.i 0,.i 0]) ?_ rfl rfl (hb:=by show 32 * xs.length≤1000000000;omega)
 refine kgo ?_
 refine pI (ds:=List.replicate xs.length (.t [.s ⟨#[]⟩,.i 0,.i 0])) 10007 (fun d hd=>by rw [(List.mem_replicate.1 hd).2];exact ⟨rfl,rfl⟩) ?_
 refine ai [0,3,10007] (fun x:Nat × List D=>x.1≤xs.length∧x.2=rD Ctl.D (.t [.s ⟨#[]⟩,.i 0,.i 0]) x.1 xs) (fun x=>xs.length - x.1) (fun x=>[(4,.sy (.d (.i x.1))),(10007,.tk (.own (.l 3 x.2) none none))]) (0,List.replicate xs.length (.t [.s ⟨#[]⟩,.i 0,.i 0])) ⟨Nat.zero_le _,il _ _ _⟩ (fun x hx=>?_)
 obtain ⟨i,ds⟩:=x
 obtain ⟨hi,hd⟩:=hx
 dsimp only at hi hd ⊢
 have hdl:=jp hi hd
 refine kgt ?_
 refine aL (fun h=>?_) (fun h=>?_)
 ·have hlt:i<xs.length:=by omega
  have hlt':i<ds.length:=by omega
  have he:=ln hlt hd
  have f:=uL xs[i]
  refine kgt ?_
  exact af (i+1,ds.set i (Ctl.D xs[i])) ⟨hlt,g9 hlt hd⟩ (by show _ - (i+1)<_ - i;omega)
 rw [jj (by omega) hd]
 refine kgt ?_
 exact gK (hp:=.cons (.k rfl rfl) .nil)
theorem Du (x:Wr):FnD Tryz.prog 96 [Wr.D x] (.d (Wr.D x)):=by
 refine ah Tryz.func96 (fun hw W0=>?_)
 refine kgo ?_
 exact aq
theorem zC (xs:List Wr) (hx:wtL kK xs≤1048576):FnO Tryz.prog 46 [.l 2 (xs.map Wr.D)] [0] [.tk (.own (.l 2 (xs.map Wr.D)) none none)]:=by
 refine cR Tryz.func46 (fun hw W0=>?_)
 have hxl:=dI kK xs
 refine kgo ?_
 refine po (n:=xs.length) (.t [.s ⟨#[]⟩,.i 0]) ?_ rfl rfl (hb:=by show 24 * xs.length≤1000000000;omega)
 refine kgo ?_
 refine pI (ds:=List.replicate xs.length (.t [.s ⟨#[]⟩,.i 0])) 10007 (fun d hd=>by rw [(List.mem_replicate.1 hd).2];exact ⟨rfl,rfl⟩) ?_
 refine ai [0,3,10007] (fun x:Nat × List D=>x.1≤xs.length∧x.2=rD Wr.D (.t [.s ⟨#[]⟩,.i 0]) x.1 xs) (fun x=>xs.length - x.1) (fun x=>[(4,.sy (.d (.i x.1))),(10007,.tk (.own (.l 2 x.2) none none))]) (0,List.replicate xs.length (.t [.s ⟨#[]⟩,.i 0])) ⟨Nat.zero_le _,il _ _ _⟩ (fun x hx=>?_)
 obtain ⟨i,ds⟩:=x
 obtain ⟨hi,hd⟩:=hx
 dsimp only at hi hd ⊢
 have hdl:=jp hi hd
 refine kgt ?_
 refine aL (fun h=>?_) (fun h=>?_)
 ·have hlt:i<xs.length:=by omega
  have hlt':i<ds.length:=by omega
  have he:=ln hlt hd
  have f:=Du xs[i]
  refine kgt ?_
  exact af (i+1,ds.set i (Wr.D xs[i])) ⟨hlt,g9 hlt hd⟩ (by show _ - (i+1)<_ - i;omega)
 rw [jj (by omega) hd]
 refine kgt ?_
 exact gK (hp:=.cons (.k rfl rfl) .nil)
theorem DF (x:Nd) (hx:iW x≤1048576):FnO Tryz.prog 95 [Nd.D x] [3] [.d (.i x.control),.d (.i x.parent),.tk (.own (.l 1 (x.links.map D.i)) none none)]:=by
 have hww:iW x=(x.links).length:=rfl
 have flinks:=ri x.links (by omega)
 refine cR Tryz.func95 (fun hw W0=>?_)
 refine kgt ?_
 exact gK (hp:=.cons (.d rfl) (.cons (.d rfl) (.cons (.k rfl rfl) (.nil))))
theorem Bq (xs:List Nd) (hx:wtL iW xs≤1048576):FnO Tryz.prog 43 [.l 3 (xs.map Nd.D)] [0] [.tk (.own (.l 3 (xs.map Nd.D)) none none)]:=by
 refine cR Tryz.func43 (fun hw W0=>?_)
 have hxl:=dI iW xs
 refine kgo ?_
 refine po (n:=xs.length) (.t [.i 0,.i 0,.n 1]) ?_ rfl rfl (hb:=by show 40 * xs.length≤1000000000;omega)
 refine kgo ?_
 refine pI (ds:=List.replicate xs.length (.t [.i 0,.i 0,.n 1])) 10007 (fun d hd=>by rw [(List.mem_replicate.1 hd).2];exact ⟨rfl,rfl⟩) ?_
 refine ai [0,3,10007] (fun x:Nat × List D=>x.1≤xs.length∧x.2=rD Nd.D (.t [.i 0,.i 0,.n 1]) x.1 xs) (fun x=>xs.length - x.1) (fun x=>[(4,.sy (.d (.i x.1))),(10007,.tk (.own (.l 3 x.2) none none))]) (0,List.replicate xs.length (.t [.i 0,.i 0,.n 1])) ⟨Nat.zero_le _,il _ _ _⟩ (fun x hx=>?_)
 obtain ⟨i,ds⟩:=x
 obtain ⟨hi,hd⟩:=hx
 dsimp only at hi hd ⊢
 have hdl:=jp hi hd
 refine kgt ?_
 refine aL (fun h=>?_) (fun h=>?_)
 ·have hlt:i<xs.length:=by omega
  have hlt':i<ds.length:=by omega
  have he:=ln hlt hd
  have f:=DF xs[i] (by have:=oC iW xs _ (List.getElem_mem hlt);omega)
  refine kgt ?_
  refine rl (Nd.D xs[i]) ?_
  refine kgt ?_
  exact af (i+1,ds.set i (Nd.D xs[i])) ⟨hlt,g9 hlt hd⟩ (by show _ - (i+1)<_ - i;omega)
 rw [jj (by omega) hd]
 refine kgt ?_
 exact gK (hp:=.cons (.k rfl rfl) .nil)
theorem eO (x:Big) (hx:cI x≤1048576):FnO Tryz.prog 12 [Big.D x] [6] [.d (.i x.roots),.tk (.own (.l 3 (x.nodes.map Nd.D)) none none),.tk (.own (.l 1 (x.sites.map D.i)) none none),.d (.i x.edges),.tk (.own (.l 1 (x.outer.map D.s)) none none),.tk (.own (.l 2 (x.inner.map Wr.D)) none none)]:=by
 have hww:cI x=wtL iW x.nodes+(x.sites).length+wtL gD x.outer+wtL kK x.inner:=rfl
 have fnodes:=Bq x.nodes (by omega)
 have fsites:=ri x.sites (by omega)
 have fouter:=uZ x.outer (by omega)
 have finner:=zC x.inner (by omega)
 refine cR Tryz.func12 (fun hw W0=>?_)
 refine kgt ?_
 exact gK (hp:=.cons (.d rfl) (.cons (.k rfl rfl) (.cons (.k rfl rfl) (.cons (.d rfl) (.cons (.k rfl rfl) (.cons (.k rfl rfl) (.nil)))))))
theorem Db (x:Rul) (hx:jB x≤1048576):FnO Tryz.prog 42 [Rul.D x] [13] [.d (.i x.redex.roots),.tk (.own (.l 3 (x.redex.nodes.map Nd.D)) none none),.tk (.own (.l 1 (x.redex.sites.map D.i)) none none),.d (.i x.redex.edges),.tk (.own (.l 1 (x.redex.outer.map D.s)) none none),.tk (.own (.l 2 (x.redex.inner.map Wr.D)) none none),.d (.i x.reactum.roots),.tk (.own (.l 3 (x.reactum.nodes.map Nd.D)) none none),.tk (.own (.l 1 (x.reactum.sites.map D.i)) none none),.d (.i x.reactum.edges),.tk (.own (.l 1 (x.reactum.outer.map D.s)) none none),.tk (.own (.l 2 (x.reactum.inner.map Wr.D)) none none),.tk (.own (.l 1 (x.copies.map D.i)) none none)]:=by
 have hww:jB x=cI x.redex+cI x.reactum+(x.copies).length:=rfl
 have fredex:=eO x.redex (by omega)
 have freactum:=eO x.reactum (by omega)
 have fcopies:=ri x.copies (by omega)
 refine cR Tryz.func42 (fun hw W0=>?_)
 refine kgt ?_
 exact gK (hp:=.cons (.d rfl) (.cons (.k rfl rfl) (.cons (.k rfl rfl) (.cons (.d rfl) (.cons (.k rfl rfl) (.cons (.k rfl rfl) (.cons (.d rfl) (.cons (.k rfl rfl) (.cons (.k rfl rfl) (.cons (.d rfl) (.cons (.k rfl rfl) (.cons (.k rfl rfl) (.cons (.k rfl rfl) (.nil))))))))))))))
end Go.Proofs.YtacafmejcdgboaaGreatDoor
namespace Go.Proofs.YtacafmejcdgboaaGreatDoor
open Go.RowKit
set_option linter.unusedVariables false
set_option maxRecDepth 100000
attribute [local irreducible] cnL wtL
theorem EW:∀xs:List Nd,(∀x∈xs,x.links.length≤1000)→cnL cNd xs≤1002 * xs.length:=by
 intro xs
 induction xs with
 | nil=>intro _;simp [cnL]
 | cons x xs ih=>
  intro h
  have h1:=ih (fun y hy=>h y (by simp [hy]))
  have h2:=h x (by simp)
  have h3:cNd x=2+cnL c1 x.links:=rfl
  rw [lL] at h3
  rw [gm,List.length_cons]
  omega
theorem BX {b:Big} (h:rE b):kU b≤10000:=by
 have e:kU b=cnL cNd b.nodes+cnL c1 b.sites+cnL c1 b.outer+cnL c2 b.inner:=rfl
 have h1:=EW b.nodes (fun x hx=>by
  obtain ⟨i,hi,rfl⟩:=List.mem_iff_getElem.1 hx
  exact h.dims.links i hi)
 rw [lL,lL,EH] at e
 have:=h.nodes;have:=h.sitesN;have:=h.outer;have:=h.inner
 omega
end Go.Proofs.YtacafmejcdgboaaGreatDoor
