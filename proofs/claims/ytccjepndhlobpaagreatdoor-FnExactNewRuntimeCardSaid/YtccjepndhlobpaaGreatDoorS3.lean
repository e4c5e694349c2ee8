/-
  Walks: fresh copies of data.
-/
import Derived.Test.YtccjepndhlobpaaGreatDoorRows
import Derived.Test.YtccjepndhlobpaaGreatDoorShelf
import Derived.WalkSpells
import Derived.WalkLawsBesides
import Derived.Test.YtccjepndhlobpaaGreatDoorB0
import Derived.BigQuiet
import Derived.Deep.DeepMust
namespace Go.Proofs.YtccjepndhlobpaaGreatDoor
open Go.RowKit
set_option linter.unusedVariables false
set_option linter.unusedSimpArgs false

theorem putW_only (ds:List Value):∀(w:World) (b k:Nat),w.grownBy (putW w b k ds) (some b):=by
 induction ds with
 | nil=>intro w b k;exact grownBy_refl _ _
 | cons d ds ih=>intro w b k;exact grownBy_trans (grownBy_set b k d) (ih _ b (k+1))
theorem SlO.putW {α:Type} {P:Lie α} (hP:KeepsO P) {size lo hi b k:Nat} {ds:List Value} {w:World} {v:Value} {xs:List α} (h:SlO size P lo hi w v xs) (hb:b<lo∨hi≤b):SlO size P lo hi (putW w b k ds) v xs:=
 h.keepsO hP (putW_only ds w b k).size (Same.grown (putW_only ds w b k) hb)
theorem KeepsO.putW {α:Type} {P:Lie α} (hP:KeepsO P) {lo hi b k:Nat} {ds:List Value} {w:World} {cs:List Value} {x:α} (h:P lo hi w cs x) (hb:b<lo∨hi≤b):P lo hi (putW w b k ds) cs x:=
 hP _ _ _ _ _ _ (putW_only ds w b k).size (Same.grown (putW_only ds w b k) hb) h
theorem BoxAt.otherW {b k B:Nat} {ds:List Value} {w:World} {cs:List Value} (h:BoxAt w B cs) (hne:b≠B):BoxAt (putW w b k ds) B cs:=by
 induction ds generalizing w k with
 | nil=>exact h
 | cons d ds ih=>exact ih (h.other hne)
theorem BoxAt.setW {k B:Nat} {ds:List Value} {w:World} {cs:List Value} (h:BoxAt w B cs):BoxAt (putW w B k ds) B (putAt cs k ds):=by
 induction ds generalizing w k cs with
 | nil=>exact h
 | cons d ds ih=>exact ih (h.set k d)
theorem ext_none {w w':World} (h:w.grownBy w' none):Ext w w':=⟨h.os,h.tape,h.output,h.size,fun k hk=>h.block k hk (by simp)⟩

theorem own_any {w:World} {base g cap:Nat} {e:TypeId} {size n:Nat} {xs:List Value} (h:w.ownsRow base e size (.slice (some ⟨g,0,none⟩) n cap) n xs) (j:Nat) (hj:j<n * size):∃u,w.cell? ⟨g,j,none⟩=some u:=
 ⟨xs[j]'(by rw [h.1];exact hj),own_cell h j _ (List.getElem?_eq_getElem _)⟩
theorem infoInt:(Tryz.prog.info? 3).map (fun i=>(i.zero,i.size,i.bytes))=some (some (.int .i64 0),1,8):=by kernel_rfl
theorem infoStr:(Tryz.prog.info? 9).map (fun i=>(i.zero,i.size,i.bytes))=some (some (.string ⟨#[]⟩),1,16):=by kernel_rfl
theorem infoCtl:(Tryz.prog.info? 116).map (fun i=>(i.zero,i.size,i.bytes))=some (some (.agg #[.string ⟨#[]⟩,.int .i64 0,.int .i64 0]),3,32):=by kernel_rfl
theorem infoWr:(Tryz.prog.info? 172).map (fun i=>(i.zero,i.size,i.bytes))=some (some (.agg #[.string ⟨#[]⟩,.int .i64 0]),2,24):=by kernel_rfl
theorem infoNd:(Tryz.prog.info? 160).map (fun i=>(i.zero,i.size,i.bytes))=some (some (.agg #[.int .i64 0,.int .i64 0,.slice none 0 0]),3,40):=by kernel_rfl
theorem infoRow:(Tryz.prog.info? 23).map (fun i=>(i.zero,i.size,i.bytes))=some (some (.slice none 0 0),1,24):=by kernel_rfl
theorem infoPair:(Tryz.prog.info? 166).map (fun i=>(i.zero,i.size,i.bytes))=some (some (.agg #[.int .i64 0,.int .i64 0]),2,16):=by kernel_rfl
theorem infoRul:(Tryz.prog.info? 122).map (fun i=>(i.zero,i.size,i.bytes))=some (some (.agg #[.int .i64 0,.slice none 0 0,.slice none 0 0,.int .i64 0,.slice none 0 0,.slice none 0 0,.int .i64 0,.slice none 0 0,.slice none 0 0,.int .i64 0,.slice none 0 0,.slice none 0 0,.slice none 0 0]),13,248):=by kernel_rfl
set_option maxRecDepth 100000 in
set_option maxHeartbeats 1600000 in
theorem c_laws_toIntS (lo hi:Nat) (v:Value) (xs:List Int) (w:World) (h:SlV 1 IntP lo hi w v xs) (hs:xs.length≤1048576) :
 Calls Tryz.prog 75 #[v] w fun e w'=>∃v',e=.returned v'∧SlO 1 IntP w.heap.size w'.heap.size w' v' xs∧Ext w w':=by
 obtain ⟨a,k,rfl,g1,g2,g3,g4⟩:=h
 unfold maxLen at g2
 have hn:xs.length≤1048576:=by exact hs
 obtain ⟨i0,hi0,h1⟩:=Option.map_eq_some_iff.1 infoInt
 simp only [Prod.mk.injEq] at h1
 obtain ⟨hz0,hz1,hz2⟩:=h1
 obtain ⟨W0,hmk,own0,gro0⟩:=run_make_full w w.heap.size 23 3 i0 _ 1 Tryz.underlying23 hi0 hz0 hz1 .i64 .i64 xs.length (by rw [hz2];omega) (by unfold maxLen;omega) (Nat.le_refl _)
 have x0:=ext_none gro0
 generalize (madeCells _ (xs.length * 1)).toList=cells0 at own0
 clear hi0 hz0 hz1 hz2 gro0
 go_enter Tryz.func75,Tryz.ntmps75
 go_wp2
 go_loopw [4] (fun c wr=>∃(i:Nat) (cells:List Value),c=.int .i64 i∧i≤xs.length∧wr.ownsRow w.heap.size 3 1 (.slice (some ⟨w.heap.size,0,none⟩) xs.length xs.length) xs.length cells∧Filled 1 IntP w.heap.size wr xs cells i∧Ext w wr) (fun c _=>xs.length - (intOf c).toNat)
 case atStart=>exact ⟨0,cells0,rfl,Nat.zero_le _,own0,Filled.zero,x0⟩
 case round=>
  obtain ⟨i,cells,rfl,hi',own,hF,hx⟩:=hrel
  have hcl:cells.length=xs.length * 1:=own.1
  by_cases hlt:i<xs.length
  ·rcases g4 with g4|⟨b,o,rfl,gb1,gb2,g4⟩
   ·subst g4;simp at hlt
   ·obtain ⟨cs,hl,hP,hc⟩:=g4 i hlt
    have HP:=IntP.keeps _ _ _ _ _ _ (Same.ext hx) hP
    obtain ⟨rfl,e1⟩:=hP
    have q0:=hx.keep (hc 0 _ rfl)
    rw [Nat.mul_one,Nat.add_zero] at q0
    clear g4 hc
    have own1:=own
    have hF1:=hF
    have hxt:=hx
    have HD:=IntP.widens _ _ (w.heap.size+1) wr.heap.size _ _ _ (by have:=own_lt own;omega) (by omega) (show IntP (w.heap.size+1) wr.heap.size wr [.int .i64 xs[i]] xs[i] from HP)
    have hib:i * 1+1≤xs.length * 1:=by
     have:=Nat.mul_le_mul_right 1 hlt
     rw [Nat.succ_mul] at this
     exact this
    obtain ⟨z0,o0⟩:=own_any own1 (i * 1+0) (by omega)
    have f0:=own1.frozenAt (i * 1+0)
    rw [Nat.mul_one,Nat.add_zero] at o0 f0
    obtain ⟨own2,gr2⟩:=own_put [.int .i64 xs[i]] wr (i * 1) cells own1
    have hF2:=hF1.put IntP.keeps hlt [.int .i64 xs[i]] rfl hcl HD gr2
    clear hF hF1 own gr2
    simp only [putW,putAt,Nat.add_assoc,Nat.reduceAdd,Nat.mul_one] at own2 hF2
    go_wp2_with fail
    go_roundw
    case rel=>exact ⟨i+1,_,rfl,by omega,own2,hF2,xw⟩
    ·simp only [intOf];omega
  ·have e:i=xs.length:=by omega
   subst e
   go_wp2
   go_ret
   exact ⟨_,rfl,hF.allO IntP.flat own (Nat.le_refl _) (Nat.le_refl _) (by unfold maxLen;omega),hx⟩
set_option maxRecDepth 100000 in
set_option maxHeartbeats 1600000 in
theorem c_laws_toStringS (lo hi:Nat) (v:Value) (xs:List ByteArray) (w:World) (h:SlV 1 StrP lo hi w v xs) (hs:wtL wtStr xs≤1048576) :
 Calls Tryz.prog 30 #[v] w fun e w'=>∃v',e=.returned v'∧SlO 1 StrP w.heap.size w'.heap.size w' v' xs∧Ext w w':=by
 obtain ⟨a,k,rfl,g1,g2,g3,g4⟩:=h
 unfold maxLen at g2
 have hn:xs.length≤1048576:=by have:wtL wtStr xs=xs.length+(xs.map wtStr).sum:=rfl;omega
 obtain ⟨i0,hi0,h1⟩:=Option.map_eq_some_iff.1 infoStr
 simp only [Prod.mk.injEq] at h1
 obtain ⟨hz0,hz1,hz2⟩:=h1
 obtain ⟨W0,hmk,own0,gro0⟩:=run_make_full w w.heap.size 29 9 i0 _ 1 Tryz.underlying29 hi0 hz0 hz1 .i64 .i64 xs.length (by rw [hz2];omega) (by unfold maxLen;omega) (Nat.le_refl _)
 have x0:=ext_none gro0
 generalize (madeCells _ (xs.length * 1)).toList=cells0 at own0
 clear hi0 hz0 hz1 hz2 gro0
 go_enter Tryz.func30,Tryz.ntmps30
 go_wp2
 go_loopw [4] (fun c wr=>∃(i:Nat) (cells:List Value),c=.int .i64 i∧i≤xs.length∧wr.ownsRow w.heap.size 9 1 (.slice (some ⟨w.heap.size,0,none⟩) xs.length xs.length) xs.length cells∧Filled 1 StrP w.heap.size wr xs cells i∧Ext w wr) (fun c _=>xs.length - (intOf c).toNat)
 case atStart=>exact ⟨0,cells0,rfl,Nat.zero_le _,own0,Filled.zero,x0⟩
 case round=>
  obtain ⟨i,cells,rfl,hi',own,hF,hx⟩:=hrel
  have hcl:cells.length=xs.length * 1:=own.1
  by_cases hlt:i<xs.length
  ·rcases g4 with g4|⟨b,o,rfl,gb1,gb2,g4⟩
   ·subst g4;simp at hlt
   ·obtain ⟨cs,hl,hP,hc⟩:=g4 i hlt
    have HP:=StrP.keeps _ _ _ _ _ _ (Same.ext hx) hP
    obtain ⟨rfl,e1⟩:=hP
    have q0:=hx.keep (hc 0 _ rfl)
    rw [Nat.mul_one,Nat.add_zero] at q0
    clear g4 hc
    have own1:=own
    have hF1:=hF
    have hxt:=hx
    have HD:=StrP.widens _ _ (w.heap.size+1) wr.heap.size _ _ _ (by have:=own_lt own;omega) (by omega) (show StrP (w.heap.size+1) wr.heap.size wr [.string xs[i]] xs[i] from HP)
    have hib:i * 1+1≤xs.length * 1:=by
     have:=Nat.mul_le_mul_right 1 hlt
     rw [Nat.succ_mul] at this
     exact this
    obtain ⟨z0,o0⟩:=own_any own1 (i * 1+0) (by omega)
    have f0:=own1.frozenAt (i * 1+0)
    rw [Nat.mul_one,Nat.add_zero] at o0 f0
    obtain ⟨own2,gr2⟩:=own_put [.string xs[i]] wr (i * 1) cells own1
    have hF2:=hF1.put StrP.keeps hlt [.string xs[i]] rfl hcl HD gr2
    clear hF hF1 own gr2
    simp only [putW,putAt,Nat.add_assoc,Nat.reduceAdd,Nat.mul_one] at own2 hF2
    go_wp2_with fail
    go_roundw
    case rel=>exact ⟨i+1,_,rfl,by omega,own2,hF2,xw⟩
    ·simp only [intOf];omega
  ·have e:i=xs.length:=by omega
   subst e
   go_wp2
   go_ret
   exact ⟨_,rfl,hF.allO StrP.flat own (Nat.le_refl _) (Nat.le_refl _) (by unfold maxLen;omega),hx⟩
set_option maxRecDepth 100000 in
set_option maxHeartbeats 1600000 in
theorem c_laws_toControl (lo hi:Nat) (cs:List Value) (x:Ctl) (w:World) (h:CtlP lo hi w cs x) :
 Calls Tryz.prog 74 #[.agg cs.toArray] w fun e w'=>∃ds,e=.returned (.agg ds.toArray)∧CtlP w.heap.size w'.heap.size w' ds x∧Ext w w':=by
 obtain ⟨rfl,e1,e2,e3⟩:=h
 have A0:BoxAt (((w.alloc (.cells #[.string x.name,.int .i64 x.ports,.int .i64 x.kind] 109)).alloc (.cells #[.string ⟨#[]⟩,.int .i64 0,.int .i64 0] 116)).alloc (.cells #[.string x.name,.int .i64 x.ports,.int .i64 x.kind] 116)) w.heap.size [.string x.name,.int .i64 x.ports,.int .i64 x.kind]:=((BoxAt.new w 109 [.string x.name,.int .i64 x.ports,.int .i64 x.kind] w.heap.size rfl).ext ((Ext.refl _).alloc _)).ext ((Ext.refl _).alloc _)
 have R0:BoxAt (((w.alloc (.cells #[.string x.name,.int .i64 x.ports,.int .i64 x.kind] 109)).alloc (.cells #[.string ⟨#[]⟩,.int .i64 0,.int .i64 0] 116)).alloc (.cells #[.string x.name,.int .i64 x.ports,.int .i64 x.kind] 116)) (w.heap.size+1) [.string ⟨#[]⟩,.int .i64 0,.int .i64 0]:=(BoxAt.new (w.alloc (.cells #[.string x.name,.int .i64 x.ports,.int .i64 x.kind] 109)) 116 [.string ⟨#[]⟩,.int .i64 0,.int .i64 0] (w.heap.size+1) (by simp)).ext ((Ext.refl _).alloc _)
 have O0:BoxAt (((w.alloc (.cells #[.string x.name,.int .i64 x.ports,.int .i64 x.kind] 109)).alloc (.cells #[.string ⟨#[]⟩,.int .i64 0,.int .i64 0] 116)).alloc (.cells #[.string x.name,.int .i64 x.ports,.int .i64 x.kind] 116)) (w.heap.size+1+1) [.string x.name,.int .i64 x.ports,.int .i64 x.kind]:=BoxAt.new _ 116 [.string x.name,.int .i64 x.ports,.int .i64 x.kind] (w.heap.size+1+1) (by simp)
 go_enter Tryz.func74,Tryz.ntmps74
 go_wp2_with fail
 refine bodyPost_ret (v:=.agg #[.string x.name,.int .i64 x.ports,.int .i64 x.kind]) ?_ rfl ⟨[.string x.name,.int .i64 x.ports,.int .i64 x.kind],rfl,?_,xw⟩
 ·simp [results,Tryz.results74,go_sem]
 ·exact ⟨rfl,e1,e2,e3⟩
set_option maxRecDepth 100000 in
set_option maxHeartbeats 1600000 in
theorem c_laws_toWire (lo hi:Nat) (cs:List Value) (x:Wr) (w:World) (h:WrP lo hi w cs x) :
 Calls Tryz.prog 161 #[.agg cs.toArray] w fun e w'=>∃ds,e=.returned (.agg ds.toArray)∧WrP w.heap.size w'.heap.size w' ds x∧Ext w w':=by
 obtain ⟨rfl,e1,e2⟩:=h
 have A0:BoxAt (((w.alloc (.cells #[.string x.name,.int .i64 x.link] 181)).alloc (.cells #[.string ⟨#[]⟩,.int .i64 0] 172)).alloc (.cells #[.string x.name,.int .i64 x.link] 172)) w.heap.size [.string x.name,.int .i64 x.link]:=((BoxAt.new w 181 [.string x.name,.int .i64 x.link] w.heap.size rfl).ext ((Ext.refl _).alloc _)).ext ((Ext.refl _).alloc _)
 have R0:BoxAt (((w.alloc (.cells #[.string x.name,.int .i64 x.link] 181)).alloc (.cells #[.string ⟨#[]⟩,.int .i64 0] 172)).alloc (.cells #[.string x.name,.int .i64 x.link] 172)) (w.heap.size+1) [.string ⟨#[]⟩,.int .i64 0]:=(BoxAt.new (w.alloc (.cells #[.string x.name,.int .i64 x.link] 181)) 172 [.string ⟨#[]⟩,.int .i64 0] (w.heap.size+1) (by simp)).ext ((Ext.refl _).alloc _)
 have O0:BoxAt (((w.alloc (.cells #[.string x.name,.int .i64 x.link] 181)).alloc (.cells #[.string ⟨#[]⟩,.int .i64 0] 172)).alloc (.cells #[.string x.name,.int .i64 x.link] 172)) (w.heap.size+1+1) [.string x.name,.int .i64 x.link]:=BoxAt.new _ 172 [.string x.name,.int .i64 x.link] (w.heap.size+1+1) (by simp)
 go_enter Tryz.func161,Tryz.ntmps161
 go_wp2_with fail
 refine bodyPost_ret (v:=.agg #[.string x.name,.int .i64 x.link]) ?_ rfl ⟨[.string x.name,.int .i64 x.link],rfl,?_,xw⟩
 ·simp [results,Tryz.results161,go_sem]
 ·exact ⟨rfl,e1,e2⟩
set_option maxRecDepth 100000 in
set_option maxHeartbeats 1600000 in
theorem c_laws_toNode (lo hi:Nat) (cs:List Value) (x:Nd) (w:World) (h:NdP lo hi w cs x) (hs:wtNd x≤1048576) :
 Calls Tryz.prog 160 #[.agg cs.toArray] w fun e w'=>∃ds,e=.returned (.agg ds.toArray)∧NdO w.heap.size w'.heap.size w' ds x∧Ext w w':=by
 obtain ⟨nv,rfl,e1,e2,e3⟩:=h
 have A0:BoxAt (((w.alloc (.cells #[.int .i64 x.control,.int .i64 x.parent,nv] 179)).alloc (.cells #[.int .i64 0,.int .i64 0,.slice none 0 0] 160)).alloc (.cells #[.int .i64 x.control,.int .i64 x.parent,.slice none 0 0] 160)) w.heap.size [.int .i64 x.control,.int .i64 x.parent,nv]:=((BoxAt.new w 179 [.int .i64 x.control,.int .i64 x.parent,nv] w.heap.size rfl).ext ((Ext.refl _).alloc _)).ext ((Ext.refl _).alloc _)
 have R0:BoxAt (((w.alloc (.cells #[.int .i64 x.control,.int .i64 x.parent,nv] 179)).alloc (.cells #[.int .i64 0,.int .i64 0,.slice none 0 0] 160)).alloc (.cells #[.int .i64 x.control,.int .i64 x.parent,.slice none 0 0] 160)) (w.heap.size+1) [.int .i64 0,.int .i64 0,.slice none 0 0]:=(BoxAt.new (w.alloc (.cells #[.int .i64 x.control,.int .i64 x.parent,nv] 179)) 160 [.int .i64 0,.int .i64 0,.slice none 0 0] (w.heap.size+1) (by simp)).ext ((Ext.refl _).alloc _)
 have O0:BoxAt (((w.alloc (.cells #[.int .i64 x.control,.int .i64 x.parent,nv] 179)).alloc (.cells #[.int .i64 0,.int .i64 0,.slice none 0 0] 160)).alloc (.cells #[.int .i64 x.control,.int .i64 x.parent,.slice none 0 0] 160)) (w.heap.size+1+1) [.int .i64 x.control,.int .i64 x.parent,.slice none 0 0]:=BoxAt.new _ 160 [.int .i64 x.control,.int .i64 x.parent,.slice none 0 0] (w.heap.size+1+1) (by simp)
 go_enter Tryz.func160,Tryz.ntmps160
 go_wp2_with fail
 refine (c_laws_toIntS lo hi _ _ _ (e3.keeps IntP.keeps (Same.ext xw)) hs).mono ?_
 rintro e y0 ⟨t0,rfl,hD0,hb0⟩
 have z0:=Below.size hb0
 (try simp only [World.size_alloc,World.size_setCell] at z0 hD0)
 have HD0:=hD0
 obtain ⟨ta0,tk0,rfl,_⟩:=HD0
 have A1:=A0.ext hb0
 have R1:=R0.ext hb0
 have O1:=O0.ext hb0
 (try simp only [putAt,List.set_cons_zero,List.set_cons_succ] at O1)
 clear A0 R0 O0
 obtain ⟨r0,rf0⟩:=R1 0 _ rfl
 obtain ⟨o0,of0⟩:=O1 0 _ rfl
 obtain ⟨r1,rf1⟩:=R1 1 _ rfl
 obtain ⟨o1,of1⟩:=O1 1 _ rfl
 obtain ⟨r2,rf2⟩:=R1 2 _ rfl
 obtain ⟨o2,of2⟩:=O1 2 _ rfl
 go_wp2_with fail
 refine bodyPost_ret (v:=.agg #[.int .i64 x.control,.int .i64 x.parent,.slice ta0 x.links.length tk0]) ?_ rfl ⟨[.int .i64 x.control,.int .i64 x.parent,.slice ta0 x.links.length tk0],rfl,?_,xw⟩
 ·simp [results,Tryz.results160,go_sem,r0,r1,r2]
 ·exact ⟨_,rfl,e1,e2,SlO.widens (by omega) (by simp only [World.size_setCell];omega) (SlO.putW IntP.keepsO (b:=w.heap.size+1) (k:=0) (ds:=[.int .i64 x.control,.int .i64 x.parent,.slice ta0 x.links.length tk0]) (SlO.putW IntP.keepsO (b:=w.heap.size+1+1) (k:=2) (ds:=[.slice ta0 x.links.length tk0]) hD0 (.inl (by omega))) (.inl (by omega)))⟩
set_option maxRecDepth 100000 in
set_option maxHeartbeats 1600000 in
theorem c_laws_toControlS (lo hi:Nat) (v:Value) (xs:List Ctl) (w:World) (h:SlV 3 CtlP lo hi w v xs) (hs:wtL wtCtl xs≤1048576) :
 Calls Tryz.prog 27 #[v] w fun e w'=>∃v',e=.returned v'∧SlO 3 CtlP w.heap.size w'.heap.size w' v' xs∧Ext w w':=by
 obtain ⟨a,k,rfl,g1,g2,g3,g4⟩:=h
 unfold maxLen at g2
 have hn:xs.length≤1048576:=by have:wtL wtCtl xs=xs.length+(xs.map wtCtl).sum:=rfl;omega
 obtain ⟨i0,hi0,h1⟩:=Option.map_eq_some_iff.1 infoCtl
 simp only [Prod.mk.injEq] at h1
 obtain ⟨hz0,hz1,hz2⟩:=h1
 obtain ⟨W0,hmk,own0,gro0⟩:=run_make_full w w.heap.size 38 116 i0 _ 3 Tryz.underlying38 hi0 hz0 hz1 .i64 .i64 xs.length (by rw [hz2];omega) (by unfold maxLen;omega) (Nat.le_refl _)
 have x0:=ext_none gro0
 generalize (madeCells _ (xs.length * 3)).toList=cells0 at own0
 clear hi0 hz0 hz1 hz2 gro0
 go_enter Tryz.func27,Tryz.ntmps27
 go_wp2
 go_loopw [4] (fun c wr=>∃(i:Nat) (cells:List Value),c=.int .i64 i∧i≤xs.length∧wr.ownsRow w.heap.size 116 3 (.slice (some ⟨w.heap.size,0,none⟩) xs.length xs.length) xs.length cells∧Filled 3 CtlP w.heap.size wr xs cells i∧Ext w wr) (fun c _=>xs.length - (intOf c).toNat)
 case atStart=>exact ⟨0,cells0,rfl,Nat.zero_le _,own0,Filled.zero,x0⟩
 case round=>
  obtain ⟨i,cells,rfl,hi',own,hF,hx⟩:=hrel
  have hcl:cells.length=xs.length * 3:=own.1
  by_cases hlt:i<xs.length
  ·rcases g4 with g4|⟨b,o,rfl,gb1,gb2,g4⟩
   ·subst g4;simp at hlt
   ·obtain ⟨cs,hl,hP,hc⟩:=g4 i hlt
    have HP:=CtlP.keeps _ _ _ _ _ _ (Same.ext hx) hP
    have HP0:=HP
    obtain ⟨rfl,e1,e2,e3⟩:=hP
    have q0:=hx.keep (hc 0 _ rfl)
    have q1:=hx.keep (hc 1 _ rfl)
    have q2:=hx.keep (hc 2 _ rfl)
    rw [Nat.add_zero] at q0
    clear g4 hc
    go_wp2_with fail
    refine (c_laws_toControl lo hi _ _ _ HP0 ).mono ?_
    rintro e wt ⟨dd,rfl,hD,hbt⟩
    have own1:=ownsRow_ext own hbt
    have hF1:=hF.ext CtlP.keeps CtlP.widens hbt
    have hzt:=own_lt own
    have hxt:=hx.trans hbt
    obtain ⟨rfl,_⟩:=hD
    have HD:CtlP (w.heap.size+1) wt.heap.size wt [.string xs[i].name,.int .i64 xs[i].ports,.int .i64 xs[i].kind] xs[i]:=⟨rfl,e1,e2,e3⟩
    have hib:i * 3+3≤xs.length * 3:=by
     have:=Nat.mul_le_mul_right 3 hlt
     rw [Nat.succ_mul] at this
     exact this
    obtain ⟨z0,o0⟩:=own_any own1 (i * 3+0) (by omega)
    have f0:=own1.frozenAt (i * 3+0)
    obtain ⟨z1,o1⟩:=own_any own1 (i * 3+1) (by omega)
    have f1:=own1.frozenAt (i * 3+1)
    obtain ⟨z2,o2⟩:=own_any own1 (i * 3+2) (by omega)
    have f2:=own1.frozenAt (i * 3+2)
    rw [Nat.add_zero] at o0 f0
    obtain ⟨own2,gr2⟩:=own_put [.string xs[i].name,.int .i64 xs[i].ports,.int .i64 xs[i].kind] wt (i * 3) cells own1
    have hF2:=hF1.put CtlP.keeps hlt [.string xs[i].name,.int .i64 xs[i].ports,.int .i64 xs[i].kind] rfl hcl HD gr2
    clear hF hF1 own gr2
    simp only [putW,putAt,Nat.add_assoc,Nat.reduceAdd] at own2 hF2
    go_wp2_with fail
    go_roundw
    case rel=>exact ⟨i+1,_,rfl,by omega,own2,hF2,xw⟩
    ·simp only [intOf];omega
  ·have e:i=xs.length:=by omega
   subst e
   go_wp2
   go_ret
   exact ⟨_,rfl,hF.allO CtlP.flat own (Nat.le_refl _) (Nat.le_refl _) (by unfold maxLen;omega),hx⟩
set_option maxRecDepth 100000 in
set_option maxHeartbeats 1600000 in
theorem c_laws_toWireS (lo hi:Nat) (v:Value) (xs:List Wr) (w:World) (h:SlV 2 WrP lo hi w v xs) (hs:wtL wtWr xs≤1048576) :
 Calls Tryz.prog 108 #[v] w fun e w'=>∃v',e=.returned v'∧SlO 2 WrP w.heap.size w'.heap.size w' v' xs∧Ext w w':=by
 obtain ⟨a,k,rfl,g1,g2,g3,g4⟩:=h
 unfold maxLen at g2
 have hn:xs.length≤1048576:=by have:wtL wtWr xs=xs.length+(xs.map wtWr).sum:=rfl;omega
 obtain ⟨i0,hi0,h1⟩:=Option.map_eq_some_iff.1 infoWr
 simp only [Prod.mk.injEq] at h1
 obtain ⟨hz0,hz1,hz2⟩:=h1
 obtain ⟨W0,hmk,own0,gro0⟩:=run_make_full w w.heap.size 42 172 i0 _ 2 Tryz.underlying42 hi0 hz0 hz1 .i64 .i64 xs.length (by rw [hz2];omega) (by unfold maxLen;omega) (Nat.le_refl _)
 have x0:=ext_none gro0
 generalize (madeCells _ (xs.length * 2)).toList=cells0 at own0
 clear hi0 hz0 hz1 hz2 gro0
 go_enter Tryz.func108,Tryz.ntmps108
 go_wp2
 go_loopw [4] (fun c wr=>∃(i:Nat) (cells:List Value),c=.int .i64 i∧i≤xs.length∧wr.ownsRow w.heap.size 172 2 (.slice (some ⟨w.heap.size,0,none⟩) xs.length xs.length) xs.length cells∧Filled 2 WrP w.heap.size wr xs cells i∧Ext w wr) (fun c _=>xs.length - (intOf c).toNat)
 case atStart=>exact ⟨0,cells0,rfl,Nat.zero_le _,own0,Filled.zero,x0⟩
 case round=>
  obtain ⟨i,cells,rfl,hi',own,hF,hx⟩:=hrel
  have hcl:cells.length=xs.length * 2:=own.1
  by_cases hlt:i<xs.length
  ·rcases g4 with g4|⟨b,o,rfl,gb1,gb2,g4⟩
   ·subst g4;simp at hlt
   ·obtain ⟨cs,hl,hP,hc⟩:=g4 i hlt
    have HP:=WrP.keeps _ _ _ _ _ _ (Same.ext hx) hP
    have HP0:=HP
    obtain ⟨rfl,e1,e2⟩:=hP
    have q0:=hx.keep (hc 0 _ rfl)
    have q1:=hx.keep (hc 1 _ rfl)
    rw [Nat.add_zero] at q0
    clear g4 hc
    go_wp2_with fail
    refine (c_laws_toWire lo hi _ _ _ HP0 ).mono ?_
    rintro e wt ⟨dd,rfl,hD,hbt⟩
    have own1:=ownsRow_ext own hbt
    have hF1:=hF.ext WrP.keeps WrP.widens hbt
    have hzt:=own_lt own
    have hxt:=hx.trans hbt
    obtain ⟨rfl,_⟩:=hD
    have HD:WrP (w.heap.size+1) wt.heap.size wt [.string xs[i].name,.int .i64 xs[i].link] xs[i]:=⟨rfl,e1,e2⟩
    have hib:i * 2+2≤xs.length * 2:=by
     have:=Nat.mul_le_mul_right 2 hlt
     rw [Nat.succ_mul] at this
     exact this
    obtain ⟨z0,o0⟩:=own_any own1 (i * 2+0) (by omega)
    have f0:=own1.frozenAt (i * 2+0)
    obtain ⟨z1,o1⟩:=own_any own1 (i * 2+1) (by omega)
    have f1:=own1.frozenAt (i * 2+1)
    rw [Nat.add_zero] at o0 f0
    obtain ⟨own2,gr2⟩:=own_put [.string xs[i].name,.int .i64 xs[i].link] wt (i * 2) cells own1
    have hF2:=hF1.put WrP.keeps hlt [.string xs[i].name,.int .i64 xs[i].link] rfl hcl HD gr2
    clear hF hF1 own gr2
    simp only [putW,putAt,Nat.add_assoc,Nat.reduceAdd] at own2 hF2
    go_wp2_with fail
    go_roundw
    case rel=>exact ⟨i+1,_,rfl,by omega,own2,hF2,xw⟩
    ·simp only [intOf];omega
  ·have e:i=xs.length:=by omega
   subst e
   go_wp2
   go_ret
   exact ⟨_,rfl,hF.allO WrP.flat own (Nat.le_refl _) (Nat.le_refl _) (by unfold maxLen;omega),hx⟩
set_option maxRecDepth 100000 in
set_option maxHeartbeats 1600000 in
theorem c_laws_toNodeS (lo hi:Nat) (v:Value) (xs:List Nd) (w:World) (h:SlV 3 NdP lo hi w v xs) (hs:wtL wtNd xs≤1048576) :
 Calls Tryz.prog 107 #[v] w fun e w'=>∃v',e=.returned v'∧SlO 3 NdO w.heap.size w'.heap.size w' v' xs∧Ext w w':=by
 obtain ⟨a,k,rfl,g1,g2,g3,g4⟩:=h
 unfold maxLen at g2
 have hn:xs.length≤1048576:=by have:wtL wtNd xs=xs.length+(xs.map wtNd).sum:=rfl;omega
 obtain ⟨i0,hi0,h1⟩:=Option.map_eq_some_iff.1 infoNd
 simp only [Prod.mk.injEq] at h1
 obtain ⟨hz0,hz1,hz2⟩:=h1
 obtain ⟨W0,hmk,own0,gro0⟩:=run_make_full w w.heap.size 41 160 i0 _ 3 Tryz.underlying41 hi0 hz0 hz1 .i64 .i64 xs.length (by rw [hz2];omega) (by unfold maxLen;omega) (Nat.le_refl _)
 have x0:=ext_none gro0
 generalize (madeCells _ (xs.length * 3)).toList=cells0 at own0
 clear hi0 hz0 hz1 hz2 gro0
 go_enter Tryz.func107,Tryz.ntmps107
 go_wp2
 go_loopw [4] (fun c wr=>∃(i:Nat) (cells:List Value),c=.int .i64 i∧i≤xs.length∧wr.ownsRow w.heap.size 160 3 (.slice (some ⟨w.heap.size,0,none⟩) xs.length xs.length) xs.length cells∧FilledO 3 NdO w.heap.size wr xs cells i∧Ext w wr) (fun c _=>xs.length - (intOf c).toNat)
 case atStart=>exact ⟨0,cells0,rfl,Nat.zero_le _,own0,FilledO.zero,x0⟩
 case round=>
  obtain ⟨i,cells,rfl,hi',own,hF,hx⟩:=hrel
  have hcl:cells.length=xs.length * 3:=own.1
  by_cases hlt:i<xs.length
  ·rcases g4 with g4|⟨b,o,rfl,gb1,gb2,g4⟩
   ·subst g4;simp at hlt
   ·obtain ⟨cs,hl,hP,hc⟩:=g4 i hlt
    have HP:=NdP.keeps _ _ _ _ _ _ (Same.ext hx) hP
    have HP0:=HP
    obtain ⟨nv,rfl,e1,e2,e3⟩:=hP
    have q0:=hx.keep (hc 0 _ rfl)
    have q1:=hx.keep (hc 1 _ rfl)
    have q2:=hx.keep (hc 2 _ rfl)
    rw [Nat.add_zero] at q0
    clear g4 hc
    go_wp2_with fail
    refine (c_laws_toNode lo hi _ _ _ HP0 (by have:=wtL_mem wtNd xs xs[i] (List.getElem_mem hlt);omega)).mono ?_
    rintro e wt ⟨dd,rfl,hD,hbt⟩
    have own1:=ownsRow_ext own hbt
    have hzt:=own_lt own
    have hxt:=hx.trans hbt
    obtain ⟨tv,rfl,_,_,hDl⟩:=hD;have hDl':=hDl;obtain ⟨ta,tk,rfl,_⟩:=hDl'
    have HD:NdO wr.heap.size wt.heap.size wt [.int .i64 xs[i].control,.int .i64 xs[i].parent,.slice ta xs[i].links.length tk] xs[i]:=⟨_,rfl,e1,e2,hDl⟩
    have hib:i * 3+3≤xs.length * 3:=by
     have:=Nat.mul_le_mul_right 3 hlt
     rw [Nat.succ_mul] at this
     exact this
    obtain ⟨z0,o0⟩:=own_any own1 (i * 3+0) (by omega)
    have f0:=own1.frozenAt (i * 3+0)
    obtain ⟨z1,o1⟩:=own_any own1 (i * 3+1) (by omega)
    have f1:=own1.frozenAt (i * 3+1)
    obtain ⟨z2,o2⟩:=own_any own1 (i * 3+2) (by omega)
    have f2:=own1.frozenAt (i * 3+2)
    rw [Nat.add_zero] at o0 f0
    obtain ⟨own2,gr2⟩:=own_put [.int .i64 xs[i].control,.int .i64 xs[i].parent,.slice ta xs[i].links.length tk] wt (i * 3) cells own1
    have hF2:=hF.put NdO.keepsO hbt (own_lt own).2 hlt [.int .i64 xs[i].control,.int .i64 xs[i].parent,.slice ta xs[i].links.length tk] rfl hcl HD gr2
    clear hF own gr2
    simp only [putW,putAt,Nat.add_assoc,Nat.reduceAdd] at own2 hF2
    go_wp2_with fail
    go_roundw
    case rel=>exact ⟨i+1,_,rfl,by omega,own2,hF2,xw⟩
    ·simp only [intOf];omega
  ·have e:i=xs.length:=by omega
   subst e
   go_wp2
   go_ret
   exact ⟨_,rfl,hF.all own (Nat.le_refl _) (Nat.le_refl _) (by unfold maxLen;omega),hx⟩
set_option maxRecDepth 100000 in
set_option maxHeartbeats 1600000 in
theorem c_laws_toBigraph (lo hi:Nat) (cs:List Value) (x:Big) (w:World) (h:BigP lo hi w cs x) (hs:wtBig x≤1048576) :
 Calls Tryz.prog 52 #[.agg cs.toArray] w fun e w'=>∃ds,e=.returned (.agg ds.toArray)∧BigO w.heap.size w'.heap.size w' ds x∧Ext w w':=by
 obtain ⟨v1,v2,v4,v5,rfl,e1,e2,eN,eS,eO,eI⟩:=h
 have hw:wtBig x=wtL wtNd x.nodes+x.sites.length+wtL wtStr x.outer+wtL wtWr x.inner:=rfl
 have A0:BoxAt (((w.alloc (.cells #[.int .i64 x.roots,v1,v2,.int .i64 x.edges,v4,v5] 33)).alloc (.cells #[.int .i64 0,.slice none 0 0,.slice none 0 0,.int .i64 0,.slice none 0 0,.slice none 0 0] 44)).alloc (.cells #[.int .i64 x.roots,.slice none 0 0,.slice none 0 0,.int .i64 0,.slice none 0 0,.slice none 0 0] 44)) w.heap.size [.int .i64 x.roots,v1,v2,.int .i64 x.edges,v4,v5]:=((BoxAt.new w 33 [.int .i64 x.roots,v1,v2,.int .i64 x.edges,v4,v5] w.heap.size rfl).ext ((Ext.refl _).alloc _)).ext ((Ext.refl _).alloc _)
 have R0:BoxAt (((w.alloc (.cells #[.int .i64 x.roots,v1,v2,.int .i64 x.edges,v4,v5] 33)).alloc (.cells #[.int .i64 0,.slice none 0 0,.slice none 0 0,.int .i64 0,.slice none 0 0,.slice none 0 0] 44)).alloc (.cells #[.int .i64 x.roots,.slice none 0 0,.slice none 0 0,.int .i64 0,.slice none 0 0,.slice none 0 0] 44)) (w.heap.size+1) [.int .i64 0,.slice none 0 0,.slice none 0 0,.int .i64 0,.slice none 0 0,.slice none 0 0]:=(BoxAt.new (w.alloc (.cells #[.int .i64 x.roots,v1,v2,.int .i64 x.edges,v4,v5] 33)) 44 [.int .i64 0,.slice none 0 0,.slice none 0 0,.int .i64 0,.slice none 0 0,.slice none 0 0] (w.heap.size+1) (by simp)).ext ((Ext.refl _).alloc _)
 have O0:BoxAt (((w.alloc (.cells #[.int .i64 x.roots,v1,v2,.int .i64 x.edges,v4,v5] 33)).alloc (.cells #[.int .i64 0,.slice none 0 0,.slice none 0 0,.int .i64 0,.slice none 0 0,.slice none 0 0] 44)).alloc (.cells #[.int .i64 x.roots,.slice none 0 0,.slice none 0 0,.int .i64 0,.slice none 0 0,.slice none 0 0] 44)) (w.heap.size+1+1) [.int .i64 x.roots,.slice none 0 0,.slice none 0 0,.int .i64 0,.slice none 0 0,.slice none 0 0]:=BoxAt.new _ 44 [.int .i64 x.roots,.slice none 0 0,.slice none 0 0,.int .i64 0,.slice none 0 0,.slice none 0 0] (w.heap.size+1+1) (by simp)
 go_enter Tryz.func52,Tryz.ntmps52
 go_wp2_with fail
 refine (c_laws_toNodeS lo hi _ _ _ (eN.keeps NdP.keeps (Same.ext xw)) (by omega)).mono ?_
 rintro e y0 ⟨t0,rfl,hD0,hb0⟩
 have z0:=Below.size hb0
 (try simp only [World.size_alloc,World.size_setCell] at z0 hD0)
 have HD0:=hD0
 obtain ⟨ta0,tk0,rfl,_⟩:=HD0
 have A1:=A0.ext hb0
 have R1:=R0.ext hb0
 have O1:=O0.ext hb0
 (try simp only [putAt,List.set_cons_zero,List.set_cons_succ] at O1)
 clear A0 R0 O0
 obtain ⟨o1,of1⟩:=O1 1 _ rfl
 have a2:=(A1 2 _ rfl).1
 go_wp2_with fail
 refine (c_laws_toIntS lo hi _ _ _ (eS.keeps IntP.keeps (Same.ext xw)) (by omega)).mono ?_
 rintro e y1 ⟨t1,rfl,hD1,hb1⟩
 have z1:=Below.size hb1
 (try simp only [World.size_alloc,World.size_setCell] at z1 hD1)
 have HD1:=hD1
 obtain ⟨ta1,tk1,rfl,_⟩:=HD1
 replace hD0:=hD0.putW NdO.keepsO (b:=w.heap.size+1+1) (k:=1) (ds:=[.slice ta0 x.nodes.length tk0]) (.inl (by omega))
 replace hD0:=hD0.ext NdO.keepsO hb1
 have A2:=(A1.otherW (b:=w.heap.size+1+1) (k:=1) (ds:=[.slice ta0 x.nodes.length tk0]) (by omega)).ext hb1
 have R2:=(R1.otherW (b:=w.heap.size+1+1) (k:=1) (ds:=[.slice ta0 x.nodes.length tk0]) (by omega)).ext hb1
 have O2:=(O1.setW (k:=1) (ds:=[.slice ta0 x.nodes.length tk0])).ext hb1
 (try simp only [putAt,List.set_cons_zero,List.set_cons_succ] at O2)
 clear A1 R1 O1
 obtain ⟨o2,of2⟩:=O2 2 _ rfl
 have a3:=(A2 3 _ rfl).1
 obtain ⟨o3,of3⟩:=O2 3 _ rfl
 have a4:=(A2 4 _ rfl).1
 go_wp2_with fail
 refine (c_laws_toStringS lo hi _ _ _ (eO.keeps StrP.keeps (Same.ext xw)) (by omega)).mono ?_
 rintro e y2 ⟨t2,rfl,hD2,hb2⟩
 have z2:=Below.size hb2
 (try simp only [World.size_alloc,World.size_setCell] at z2 hD2)
 have HD2:=hD2
 obtain ⟨ta2,tk2,rfl,_⟩:=HD2
 replace hD0:=hD0.putW NdO.keepsO (b:=w.heap.size+1+1) (k:=2) (ds:=[.slice ta1 x.sites.length tk1]) (.inl (by omega))
 replace hD1:=hD1.putW IntP.keepsO (b:=w.heap.size+1+1) (k:=2) (ds:=[.slice ta1 x.sites.length tk1]) (.inl (by omega))
 replace hD0:=hD0.putW NdO.keepsO (b:=w.heap.size+1+1) (k:=3) (ds:=[.int .i64 x.edges]) (.inl (by omega))
 replace hD1:=hD1.putW IntP.keepsO (b:=w.heap.size+1+1) (k:=3) (ds:=[.int .i64 x.edges]) (.inl (by omega))
 replace hD0:=hD0.ext NdO.keepsO hb2
 replace hD1:=hD1.ext IntP.keepsO hb2
 have A3:=((A2.otherW (b:=w.heap.size+1+1) (k:=2) (ds:=[.slice ta1 x.sites.length tk1]) (by omega)).otherW (b:=w.heap.size+1+1) (k:=3) (ds:=[.int .i64 x.edges]) (by omega)).ext hb2
 have R3:=((R2.otherW (b:=w.heap.size+1+1) (k:=2) (ds:=[.slice ta1 x.sites.length tk1]) (by omega)).otherW (b:=w.heap.size+1+1) (k:=3) (ds:=[.int .i64 x.edges]) (by omega)).ext hb2
 have O3:=((O2.setW (k:=2) (ds:=[.slice ta1 x.sites.length tk1])).setW (k:=3) (ds:=[.int .i64 x.edges])).ext hb2
 (try simp only [putAt,List.set_cons_zero,List.set_cons_succ] at O3)
 clear A2 R2 O2
 obtain ⟨o4,of4⟩:=O3 4 _ rfl
 have a5:=(A3 5 _ rfl).1
 go_wp2_with fail
 refine (c_laws_toWireS lo hi _ _ _ (eI.keeps WrP.keeps (Same.ext xw)) (by omega)).mono ?_
 rintro e y3 ⟨t3,rfl,hD3,hb3⟩
 have z3:=Below.size hb3
 (try simp only [World.size_alloc,World.size_setCell] at z3 hD3)
 have HD3:=hD3
 obtain ⟨ta3,tk3,rfl,_⟩:=HD3
 replace hD0:=hD0.putW NdO.keepsO (b:=w.heap.size+1+1) (k:=4) (ds:=[.slice ta2 x.outer.length tk2]) (.inl (by omega))
 replace hD1:=hD1.putW IntP.keepsO (b:=w.heap.size+1+1) (k:=4) (ds:=[.slice ta2 x.outer.length tk2]) (.inl (by omega))
 replace hD2:=hD2.putW StrP.keepsO (b:=w.heap.size+1+1) (k:=4) (ds:=[.slice ta2 x.outer.length tk2]) (.inl (by omega))
 replace hD0:=hD0.ext NdO.keepsO hb3
 replace hD1:=hD1.ext IntP.keepsO hb3
 replace hD2:=hD2.ext StrP.keepsO hb3
 have A4:=(A3.otherW (b:=w.heap.size+1+1) (k:=4) (ds:=[.slice ta2 x.outer.length tk2]) (by omega)).ext hb3
 have R4:=(R3.otherW (b:=w.heap.size+1+1) (k:=4) (ds:=[.slice ta2 x.outer.length tk2]) (by omega)).ext hb3
 have O4:=(O3.setW (k:=4) (ds:=[.slice ta2 x.outer.length tk2])).ext hb3
 (try simp only [putAt,List.set_cons_zero,List.set_cons_succ] at O4)
 clear A3 R3 O3
 obtain ⟨r0,rf0⟩:=R4 0 _ rfl
 obtain ⟨o0,of0⟩:=O4 0 _ rfl
 obtain ⟨r1,rf1⟩:=R4 1 _ rfl
 obtain ⟨o1,of1⟩:=O4 1 _ rfl
 obtain ⟨r2,rf2⟩:=R4 2 _ rfl
 obtain ⟨o2,of2⟩:=O4 2 _ rfl
 obtain ⟨r3,rf3⟩:=R4 3 _ rfl
 obtain ⟨o3,of3⟩:=O4 3 _ rfl
 obtain ⟨r4,rf4⟩:=R4 4 _ rfl
 obtain ⟨o4,of4⟩:=O4 4 _ rfl
 obtain ⟨r5,rf5⟩:=R4 5 _ rfl
 obtain ⟨o5,of5⟩:=O4 5 _ rfl
 go_wp2_with fail
 refine bodyPost_ret (v:=.agg #[.int .i64 x.roots,.slice ta0 x.nodes.length tk0,.slice ta1 x.sites.length tk1,.int .i64 x.edges,.slice ta2 x.outer.length tk2,.slice ta3 x.inner.length tk3]) ?_ rfl ⟨[.int .i64 x.roots,.slice ta0 x.nodes.length tk0,.slice ta1 x.sites.length tk1,.int .i64 x.edges,.slice ta2 x.outer.length tk2,.slice ta3 x.inner.length tk3],rfl,?_,xw⟩
 ·simp [results,Tryz.results52,go_sem,r0,r1,r2,r3,r4,r5]
 ·exact ⟨_,_,_,_,_,_,_,_,_,_,_,_,rfl,e1,e2,(SlO.putW NdO.keepsO (b:=w.heap.size+1) (k:=0) (ds:=[.int .i64 x.roots,.slice ta0 x.nodes.length tk0,.slice ta1 x.sites.length tk1,.int .i64 x.edges,.slice ta2 x.outer.length tk2,.slice ta3 x.inner.length tk3]) (SlO.putW NdO.keepsO (b:=w.heap.size+1+1) (k:=5) (ds:=[.slice ta3 x.inner.length tk3]) hD0 (.inl (by omega))) (.inl (by omega))),(SlO.putW IntP.keepsO (b:=w.heap.size+1) (k:=0) (ds:=[.int .i64 x.roots,.slice ta0 x.nodes.length tk0,.slice ta1 x.sites.length tk1,.int .i64 x.edges,.slice ta2 x.outer.length tk2,.slice ta3 x.inner.length tk3]) (SlO.putW IntP.keepsO (b:=w.heap.size+1+1) (k:=5) (ds:=[.slice ta3 x.inner.length tk3]) hD1 (.inl (by omega))) (.inl (by omega))),(SlO.putW StrP.keepsO (b:=w.heap.size+1) (k:=0) (ds:=[.int .i64 x.roots,.slice ta0 x.nodes.length tk0,.slice ta1 x.sites.length tk1,.int .i64 x.edges,.slice ta2 x.outer.length tk2,.slice ta3 x.inner.length tk3]) (SlO.putW StrP.keepsO (b:=w.heap.size+1+1) (k:=5) (ds:=[.slice ta3 x.inner.length tk3]) hD2 (.inl (by omega))) (.inl (by omega))),(SlO.putW WrP.keepsO (b:=w.heap.size+1) (k:=0) (ds:=[.int .i64 x.roots,.slice ta0 x.nodes.length tk0,.slice ta1 x.sites.length tk1,.int .i64 x.edges,.slice ta2 x.outer.length tk2,.slice ta3 x.inner.length tk3]) (SlO.putW WrP.keepsO (b:=w.heap.size+1+1) (k:=5) (ds:=[.slice ta3 x.inner.length tk3]) hD3 (.inl (by omega))) (.inl (by omega))),(by refine ⟨?_,?_⟩ <;> simp [Off] <;> omega)⟩
set_option maxRecDepth 100000 in
set_option maxHeartbeats 1600000 in
theorem c_laws_toIntSS (lo hi:Nat) (v:Value) (xs:List (List Int)) (w:World) (h:SlV 1 RowP lo hi w v xs) (hs:wtL wtRow xs≤1048576) :
 Calls Tryz.prog 76 #[v] w fun e w'=>∃v',e=.returned v'∧SlO 1 RowO w.heap.size w'.heap.size w' v' xs∧Ext w w':=by
 obtain ⟨a,k,rfl,g1,g2,g3,g4⟩:=h
 unfold maxLen at g2
 have hn:xs.length≤1048576:=by have:wtL wtRow xs=xs.length+(xs.map wtRow).sum:=rfl;omega
 obtain ⟨i0,hi0,h1⟩:=Option.map_eq_some_iff.1 infoRow
 simp only [Prod.mk.injEq] at h1
 obtain ⟨hz0,hz1,hz2⟩:=h1
 obtain ⟨W0,hmk,own0,gro0⟩:=run_make_full w w.heap.size 24 23 i0 _ 1 Tryz.underlying24 hi0 hz0 hz1 .i64 .i64 xs.length (by rw [hz2];omega) (by unfold maxLen;omega) (Nat.le_refl _)
 have x0:=ext_none gro0
 generalize (madeCells _ (xs.length * 1)).toList=cells0 at own0
 clear hi0 hz0 hz1 hz2 gro0
 go_enter Tryz.func76,Tryz.ntmps76
 go_wp2
 go_loopw [4] (fun c wr=>∃(i:Nat) (cells:List Value),c=.int .i64 i∧i≤xs.length∧wr.ownsRow w.heap.size 23 1 (.slice (some ⟨w.heap.size,0,none⟩) xs.length xs.length) xs.length cells∧FilledO 1 RowO w.heap.size wr xs cells i∧Ext w wr) (fun c _=>xs.length - (intOf c).toNat)
 case atStart=>exact ⟨0,cells0,rfl,Nat.zero_le _,own0,FilledO.zero,x0⟩
 case round=>
  obtain ⟨i,cells,rfl,hi',own,hF,hx⟩:=hrel
  have hcl:cells.length=xs.length * 1:=own.1
  by_cases hlt:i<xs.length
  ·rcases g4 with g4|⟨b,o,rfl,gb1,gb2,g4⟩
   ·subst g4;simp at hlt
   ·obtain ⟨cs,hl,hP,hc⟩:=g4 i hlt
    have HP:=RowP.keeps _ _ _ _ _ _ (Same.ext hx) hP
    have HP0:=HP
    obtain ⟨rv,rfl,e1⟩:=hP
    have q0:=hx.keep (hc 0 _ rfl)
    rw [Nat.mul_one,Nat.add_zero] at q0
    clear g4 hc
    go_wp2_with fail
    refine (c_laws_toIntS lo hi _ _ _ (e1.keeps IntP.keeps (Same.ext hx)) (by have:wtRow xs[i]=xs[i].length:=rfl;have:=wtL_mem wtRow xs xs[i] (List.getElem_mem hlt);omega)).mono ?_
    rintro e wt ⟨dd,rfl,hD,hbt⟩
    have own1:=ownsRow_ext own hbt
    have hzt:=own_lt own
    have hxt:=hx.trans hbt
    have hDl:=hD;obtain ⟨ta,tk,rfl,_⟩:=hD
    have HD:RowO wr.heap.size wt.heap.size wt [.slice ta xs[i].length tk] xs[i]:=⟨_,rfl,hDl⟩
    have hib:i * 1+1≤xs.length * 1:=by
     have:=Nat.mul_le_mul_right 1 hlt
     rw [Nat.succ_mul] at this
     exact this
    obtain ⟨z0,o0⟩:=own_any own1 (i * 1+0) (by omega)
    have f0:=own1.frozenAt (i * 1+0)
    rw [Nat.mul_one,Nat.add_zero] at o0 f0
    obtain ⟨own2,gr2⟩:=own_put [.slice ta xs[i].length tk] wt (i * 1) cells own1
    have hF2:=hF.put RowO.keepsO hbt (own_lt own).2 hlt [.slice ta xs[i].length tk] rfl hcl HD gr2
    clear hF own gr2
    simp only [putW,putAt,Nat.add_assoc,Nat.reduceAdd,Nat.mul_one] at own2 hF2
    go_wp2_with fail
    go_roundw
    case rel=>exact ⟨i+1,_,rfl,by omega,own2,hF2,xw⟩
    ·simp only [intOf];omega
  ·have e:i=xs.length:=by omega
   subst e
   go_wp2
   go_ret
   exact ⟨_,rfl,hF.all own (Nat.le_refl _) (Nat.le_refl _) (by unfold maxLen;omega),hx⟩
set_option maxHeartbeats 800000 in
theorem c_laws_toIntA2 (lo hi:Nat) (cs:List Value) (x:Int × Int) (w:World) (h:PairP lo hi w cs x) :
 Calls Tryz.prog 132 #[.agg cs.toArray] w fun e w'=>∃ds,e=.returned (.agg ds.toArray)∧PairP w.heap.size w'.heap.size w' ds x∧Ext w w':=by
 obtain ⟨rfl,e1,e2⟩:=h
 go_enter Tryz.func132,Tryz.ntmps132
 go_wp2
 go_loopw [4] (fun c wr=>∃(i:Nat) (os:List Value),c=.int .i64 i∧i≤2∧Ext w wr∧os.length=2∧BoxAt wr w.heap.size [.int .i64 x.1,.int .i64 x.2]∧BoxAt wr (w.heap.size+1) [.int .i64 0,.int .i64 0]∧BoxAt wr (w.heap.size+1+1) os∧∀j u,j<i→[Value.int .i64 x.1,.int .i64 x.2][j]? = some u→os[j]? = some u) (fun c _=>2 - (intOf c).toNat)
 case atStart=>
  exact ⟨0,[.int .i64 0,.int .i64 0],rfl,by omega,xw,rfl,((BoxAt.new w 166 [.int .i64 x.1,.int .i64 x.2] w.heap.size rfl).ext ((Ext.refl _).alloc _)).ext ((Ext.refl _).alloc _),(BoxAt.new _ 166 [.int .i64 0,.int .i64 0] (w.heap.size+1) (by simp)).ext ((Ext.refl _).alloc _),BoxAt.new _ 166 [.int .i64 0,.int .i64 0] (w.heap.size+1+1) (by simp),fun j u hj _=>by omega⟩
 case round=>
  obtain ⟨i,os,rfl,hi,hx,hol,hA,hR,hO,hF⟩:=hrel
  have:i=0∨i=1∨i=2:=by omega
  rcases this with rfl|rfl|rfl
  ·have a0:=(hA 0 _ rfl).1
   obtain ⟨o0,of0⟩:=hO 0 _ (List.getElem?_eq_getElem (by omega))
   go_wp2_with fail
   go_roundw
   case rel=>exact ⟨1,_,rfl,by omega,xw,by simp [hol],hA.other (by omega),hR.other (by omega),hO.set 0 (.int .i64 x.1),fun j u hj hu=>by
    have:j=0:=by omega
    subst this
    cases hu
    rw [List.getElem?_set,if_pos rfl,if_pos (by omega)]⟩
   ·simp only [intOf];omega
  ·have a1:=(hA 1 _ rfl).1
   obtain ⟨o1,of1⟩:=hO 1 _ (List.getElem?_eq_getElem (by omega))
   go_wp2_with fail
   go_roundw
   case rel=>exact ⟨2,_,rfl,by omega,xw,by simp [hol],hA.other (by omega),hR.other (by omega),hO.set 1 (.int .i64 x.2),fun j u hj hu=>by
    have:j=0∨j=1:=by omega
    rcases this with rfl|rfl
    ·rw [List.getElem?_set_ne (by omega)];exact hF 0 u (by omega) hu
    ·cases hu
     rw [List.getElem?_set,if_pos rfl,if_pos (by omega)]⟩
   ·simp only [intOf];omega
  ·have o0:=(hO 0 _ (hF 0 _ (by omega) rfl)).1
   have o1:=(hO 1 _ (hF 1 _ (by omega) rfl)).1
   obtain ⟨r0,rf0⟩:=hR 0 _ rfl
   obtain ⟨r1,rf1⟩:=hR 1 _ rfl
   go_wp2_with fail
   refine bodyPost_ret (v:=.agg #[.int .i64 x.1,.int .i64 x.2]) ?_ rfl ⟨[.int .i64 x.1,.int .i64 x.2],rfl,⟨rfl,e1,e2⟩,xw⟩
   simp [results,Tryz.results132,go_sem,r0,r1]
set_option maxRecDepth 100000 in
set_option maxHeartbeats 1600000 in
theorem c_laws_toIntA2S (lo hi:Nat) (v:Value) (xs:List (Int × Int)) (w:World) (h:SlV 2 PairP lo hi w v xs) (hs:xs.length≤1048576) :
 Calls Tryz.prog 77 #[v] w fun e w'=>∃v',e=.returned v'∧SlO 2 PairP w.heap.size w'.heap.size w' v' xs∧Ext w w':=by
 obtain ⟨a,k,rfl,g1,g2,g3,g4⟩:=h
 unfold maxLen at g2
 have hn:xs.length≤1048576:=by exact hs
 obtain ⟨i0,hi0,h1⟩:=Option.map_eq_some_iff.1 infoPair
 simp only [Prod.mk.injEq] at h1
 obtain ⟨hz0,hz1,hz2⟩:=h1
 obtain ⟨W0,hmk,own0,gro0⟩:=run_make_full w w.heap.size 25 166 i0 _ 2 Tryz.underlying25 hi0 hz0 hz1 .i64 .i64 xs.length (by rw [hz2];omega) (by unfold maxLen;omega) (Nat.le_refl _)
 have x0:=ext_none gro0
 generalize (madeCells _ (xs.length * 2)).toList=cells0 at own0
 clear hi0 hz0 hz1 hz2 gro0
 go_enter Tryz.func77,Tryz.ntmps77
 go_wp2
 go_loopw [4] (fun c wr=>∃(i:Nat) (cells:List Value),c=.int .i64 i∧i≤xs.length∧wr.ownsRow w.heap.size 166 2 (.slice (some ⟨w.heap.size,0,none⟩) xs.length xs.length) xs.length cells∧Filled 2 PairP w.heap.size wr xs cells i∧Ext w wr) (fun c _=>xs.length - (intOf c).toNat)
 case atStart=>exact ⟨0,cells0,rfl,Nat.zero_le _,own0,Filled.zero,x0⟩
 case round=>
  obtain ⟨i,cells,rfl,hi',own,hF,hx⟩:=hrel
  have hcl:cells.length=xs.length * 2:=own.1
  by_cases hlt:i<xs.length
  ·rcases g4 with g4|⟨b,o,rfl,gb1,gb2,g4⟩
   ·subst g4;simp at hlt
   ·obtain ⟨cs,hl,hP,hc⟩:=g4 i hlt
    have HP:=PairP.keeps _ _ _ _ _ _ (Same.ext hx) hP
    have HP0:=HP
    obtain ⟨rfl,e1,e2⟩:=hP
    have q0:=hx.keep (hc 0 _ rfl)
    have q1:=hx.keep (hc 1 _ rfl)
    rw [Nat.add_zero] at q0
    clear g4 hc
    go_wp2_with fail
    refine (c_laws_toIntA2 lo hi _ _ _ HP0 ).mono ?_
    rintro e wt ⟨dd,rfl,hD,hbt⟩
    have own1:=ownsRow_ext own hbt
    have hF1:=hF.ext PairP.keeps PairP.widens hbt
    have hzt:=own_lt own
    have hxt:=hx.trans hbt
    obtain ⟨rfl,_⟩:=hD
    have HD:PairP (w.heap.size+1) wt.heap.size wt [.int .i64 xs[i].1,.int .i64 xs[i].2] xs[i]:=⟨rfl,e1,e2⟩
    have hib:i * 2+2≤xs.length * 2:=by
     have:=Nat.mul_le_mul_right 2 hlt
     rw [Nat.succ_mul] at this
     exact this
    obtain ⟨z0,o0⟩:=own_any own1 (i * 2+0) (by omega)
    have f0:=own1.frozenAt (i * 2+0)
    obtain ⟨z1,o1⟩:=own_any own1 (i * 2+1) (by omega)
    have f1:=own1.frozenAt (i * 2+1)
    rw [Nat.add_zero] at o0 f0
    obtain ⟨own2,gr2⟩:=own_put [.int .i64 xs[i].1,.int .i64 xs[i].2] wt (i * 2) cells own1
    have hF2:=hF1.put PairP.keeps hlt [.int .i64 xs[i].1,.int .i64 xs[i].2] rfl hcl HD gr2
    clear hF hF1 own gr2
    simp only [putW,putAt,Nat.add_assoc,Nat.reduceAdd] at own2 hF2
    go_wp2_with fail
    go_roundw
    case rel=>exact ⟨i+1,_,rfl,by omega,own2,hF2,xw⟩
    ·simp only [intOf];omega
  ·have e:i=xs.length:=by omega
   subst e
   go_wp2
   go_ret
   exact ⟨_,rfl,hF.allO PairP.flat own (Nat.le_refl _) (Nat.le_refl _) (by unfold maxLen;omega),hx⟩
set_option maxRecDepth 100000 in
set_option maxHeartbeats 1600000 in
theorem c_laws_toRule (lo hi:Nat) (cs:List Value) (x:Rul) (w:World) (h:RulP lo hi w cs x) (hs:wtRul x≤1048576) :
 Calls Tryz.prog 78 #[.agg cs.toArray] w fun e w'=>∃ds,e=.returned (.agg ds.toArray)∧RulO w.heap.size w'.heap.size w' ds x∧Ext w w':=by
 obtain ⟨c1,c2,v,rfl,B1,B2,eC⟩:=h
 have B1':=B1
 have B2':=B2
 obtain ⟨v1,v2,v4,v5,rfl,_⟩:=B1'
 obtain ⟨yy1,yy2,yy4,yy5,rfl,_⟩:=B2'
 have hw:wtRul x=wtBig x.redex+wtBig x.reactum+x.copies.length:=rfl
 have A0:BoxAt (((w.alloc (.cells #[.int .i64 x.redex.roots,v1,v2,.int .i64 x.redex.edges,v4,v5,.int .i64 x.reactum.roots,yy1,yy2,.int .i64 x.reactum.edges,yy4,yy5,v] 114)).alloc (.cells #[.int .i64 0,.slice none 0 0,.slice none 0 0,.int .i64 0,.slice none 0 0,.slice none 0 0,.int .i64 0,.slice none 0 0,.slice none 0 0,.int .i64 0,.slice none 0 0,.slice none 0 0,.slice none 0 0] 122)).alloc (.cells #[.int .i64 0,.slice none 0 0,.slice none 0 0,.int .i64 0,.slice none 0 0,.slice none 0 0,.int .i64 0,.slice none 0 0,.slice none 0 0,.int .i64 0,.slice none 0 0,.slice none 0 0,.slice none 0 0] 122)) w.heap.size [.int .i64 x.redex.roots,v1,v2,.int .i64 x.redex.edges,v4,v5,.int .i64 x.reactum.roots,yy1,yy2,.int .i64 x.reactum.edges,yy4,yy5,v]:=((BoxAt.new w 114 [.int .i64 x.redex.roots,v1,v2,.int .i64 x.redex.edges,v4,v5,.int .i64 x.reactum.roots,yy1,yy2,.int .i64 x.reactum.edges,yy4,yy5,v] w.heap.size rfl).ext ((Ext.refl _).alloc _)).ext ((Ext.refl _).alloc _)
 have R0:BoxAt (((w.alloc (.cells #[.int .i64 x.redex.roots,v1,v2,.int .i64 x.redex.edges,v4,v5,.int .i64 x.reactum.roots,yy1,yy2,.int .i64 x.reactum.edges,yy4,yy5,v] 114)).alloc (.cells #[.int .i64 0,.slice none 0 0,.slice none 0 0,.int .i64 0,.slice none 0 0,.slice none 0 0,.int .i64 0,.slice none 0 0,.slice none 0 0,.int .i64 0,.slice none 0 0,.slice none 0 0,.slice none 0 0] 122)).alloc (.cells #[.int .i64 0,.slice none 0 0,.slice none 0 0,.int .i64 0,.slice none 0 0,.slice none 0 0,.int .i64 0,.slice none 0 0,.slice none 0 0,.int .i64 0,.slice none 0 0,.slice none 0 0,.slice none 0 0] 122)) (w.heap.size+1) [.int .i64 0,.slice none 0 0,.slice none 0 0,.int .i64 0,.slice none 0 0,.slice none 0 0,.int .i64 0,.slice none 0 0,.slice none 0 0,.int .i64 0,.slice none 0 0,.slice none 0 0,.slice none 0 0]:=(BoxAt.new (w.alloc (.cells #[.int .i64 x.redex.roots,v1,v2,.int .i64 x.redex.edges,v4,v5,.int .i64 x.reactum.roots,yy1,yy2,.int .i64 x.reactum.edges,yy4,yy5,v] 114)) 122 [.int .i64 0,.slice none 0 0,.slice none 0 0,.int .i64 0,.slice none 0 0,.slice none 0 0,.int .i64 0,.slice none 0 0,.slice none 0 0,.int .i64 0,.slice none 0 0,.slice none 0 0,.slice none 0 0] (w.heap.size+1) (by simp)).ext ((Ext.refl _).alloc _)
 have O0:BoxAt (((w.alloc (.cells #[.int .i64 x.redex.roots,v1,v2,.int .i64 x.redex.edges,v4,v5,.int .i64 x.reactum.roots,yy1,yy2,.int .i64 x.reactum.edges,yy4,yy5,v] 114)).alloc (.cells #[.int .i64 0,.slice none 0 0,.slice none 0 0,.int .i64 0,.slice none 0 0,.slice none 0 0,.int .i64 0,.slice none 0 0,.slice none 0 0,.int .i64 0,.slice none 0 0,.slice none 0 0,.slice none 0 0] 122)).alloc (.cells #[.int .i64 0,.slice none 0 0,.slice none 0 0,.int .i64 0,.slice none 0 0,.slice none 0 0,.int .i64 0,.slice none 0 0,.slice none 0 0,.int .i64 0,.slice none 0 0,.slice none 0 0,.slice none 0 0] 122)) (w.heap.size+1+1) [.int .i64 0,.slice none 0 0,.slice none 0 0,.int .i64 0,.slice none 0 0,.slice none 0 0,.int .i64 0,.slice none 0 0,.slice none 0 0,.int .i64 0,.slice none 0 0,.slice none 0 0,.slice none 0 0]:=BoxAt.new _ 122 [.int .i64 0,.slice none 0 0,.slice none 0 0,.int .i64 0,.slice none 0 0,.slice none 0 0,.int .i64 0,.slice none 0 0,.slice none 0 0,.int .i64 0,.slice none 0 0,.slice none 0 0,.slice none 0 0] (w.heap.size+1+1) (by simp)
 go_enter Tryz.func78,Tryz.ntmps78
 go_wp2_with fail
 refine (c_laws_toBigraph lo hi _ _ _ (BigP.keeps _ _ _ _ _ _ (Same.ext xw) B1) (by omega)).mono ?_
 rintro e y0 ⟨dd0,rfl,hD0,hb0⟩
 have z0:=Below.size hb0
 (try simp only [World.size_alloc,World.size_setCell] at z0 hD0)
 have HD0:=hD0
 obtain ⟨_,_,_,_,_,_,_,_,_,_,_,_,rfl,_,_,⟨pa1,pk1,rfl,_⟩,⟨pa2,pk2,rfl,_⟩,⟨pa4,pk4,rfl,_⟩,⟨pa5,pk5,rfl,_⟩,_⟩:=HD0
 have A1:=A0.ext hb0
 have R1:=R0.ext hb0
 have O1:=O0.ext hb0
 (try simp only [putAt,List.set_cons_zero,List.set_cons_succ] at O1)
 clear A0 R0 O0
 obtain ⟨o0,of0⟩:=O1 0 _ rfl
 obtain ⟨o1,of1⟩:=O1 1 _ rfl
 obtain ⟨o2,of2⟩:=O1 2 _ rfl
 obtain ⟨o3,of3⟩:=O1 3 _ rfl
 obtain ⟨o4,of4⟩:=O1 4 _ rfl
 obtain ⟨o5,of5⟩:=O1 5 _ rfl
 have a6:=(A1 6 _ rfl).1
 have a7:=(A1 7 _ rfl).1
 have a8:=(A1 8 _ rfl).1
 have a9:=(A1 9 _ rfl).1
 have a10:=(A1 10 _ rfl).1
 have a11:=(A1 11 _ rfl).1
 go_wp2_with fail
 refine (c_laws_toBigraph lo hi _ _ _ (BigP.keeps _ _ _ _ _ _ (Same.ext xw) B2) (by omega)).mono ?_
 rintro e y1 ⟨dd1,rfl,hD1,hb1⟩
 have z1:=Below.size hb1
 (try simp only [World.size_alloc,World.size_setCell] at z1 hD1)
 have HD1:=hD1
 obtain ⟨_,_,_,_,_,_,_,_,_,_,_,_,rfl,_,_,⟨qa1,qk1,rfl,_⟩,⟨qa2,qk2,rfl,_⟩,⟨qa4,qk4,rfl,_⟩,⟨qa5,qk5,rfl,_⟩,_⟩:=HD1
 replace hD0:=BigO.keepsO.putW (b:=w.heap.size+1+1) (k:=0) (ds:=[.int .i64 x.redex.roots,.slice pa1 x.redex.nodes.length pk1,.slice pa2 x.redex.sites.length pk2,.int .i64 x.redex.edges,.slice pa4 x.redex.outer.length pk4,.slice pa5 x.redex.inner.length pk5]) hD0 (.inl (by omega))
 replace hD0:=BigO.keepsO.ext hD0 hb1
 have A2:=(A1.otherW (b:=w.heap.size+1+1) (k:=0) (ds:=[.int .i64 x.redex.roots,.slice pa1 x.redex.nodes.length pk1,.slice pa2 x.redex.sites.length pk2,.int .i64 x.redex.edges,.slice pa4 x.redex.outer.length pk4,.slice pa5 x.redex.inner.length pk5]) (by omega)).ext hb1
 have R2:=(R1.otherW (b:=w.heap.size+1+1) (k:=0) (ds:=[.int .i64 x.redex.roots,.slice pa1 x.redex.nodes.length pk1,.slice pa2 x.redex.sites.length pk2,.int .i64 x.redex.edges,.slice pa4 x.redex.outer.length pk4,.slice pa5 x.redex.inner.length pk5]) (by omega)).ext hb1
 have O2:=(O1.setW (k:=0) (ds:=[.int .i64 x.redex.roots,.slice pa1 x.redex.nodes.length pk1,.slice pa2 x.redex.sites.length pk2,.int .i64 x.redex.edges,.slice pa4 x.redex.outer.length pk4,.slice pa5 x.redex.inner.length pk5])).ext hb1
 (try simp only [putAt,List.set_cons_zero,List.set_cons_succ] at O2)
 clear A1 R1 O1
 obtain ⟨o6,of6⟩:=O2 6 _ rfl
 obtain ⟨o7,of7⟩:=O2 7 _ rfl
 obtain ⟨o8,of8⟩:=O2 8 _ rfl
 obtain ⟨o9,of9⟩:=O2 9 _ rfl
 obtain ⟨o10,of10⟩:=O2 10 _ rfl
 obtain ⟨o11,of11⟩:=O2 11 _ rfl
 have a12:=(A2 12 _ rfl).1
 go_wp2_with fail
 refine (c_laws_toIntS lo hi _ _ _ (eC.keeps IntP.keeps (Same.ext xw)) (by omega)).mono ?_
 rintro e y2 ⟨t2,rfl,hD2,hb2⟩
 have z2:=Below.size hb2
 (try simp only [World.size_alloc,World.size_setCell] at z2 hD2)
 have HD2:=hD2
 obtain ⟨ta2,tk2,rfl,_⟩:=HD2
 replace hD0:=BigO.keepsO.putW (b:=w.heap.size+1+1) (k:=6) (ds:=[.int .i64 x.reactum.roots,.slice qa1 x.reactum.nodes.length qk1,.slice qa2 x.reactum.sites.length qk2,.int .i64 x.reactum.edges,.slice qa4 x.reactum.outer.length qk4,.slice qa5 x.reactum.inner.length qk5]) hD0 (.inl (by omega))
 replace hD1:=BigO.keepsO.putW (b:=w.heap.size+1+1) (k:=6) (ds:=[.int .i64 x.reactum.roots,.slice qa1 x.reactum.nodes.length qk1,.slice qa2 x.reactum.sites.length qk2,.int .i64 x.reactum.edges,.slice qa4 x.reactum.outer.length qk4,.slice qa5 x.reactum.inner.length qk5]) hD1 (.inl (by omega))
 replace hD0:=BigO.keepsO.ext hD0 hb2
 replace hD1:=BigO.keepsO.ext hD1 hb2
 have A3:=(A2.otherW (b:=w.heap.size+1+1) (k:=6) (ds:=[.int .i64 x.reactum.roots,.slice qa1 x.reactum.nodes.length qk1,.slice qa2 x.reactum.sites.length qk2,.int .i64 x.reactum.edges,.slice qa4 x.reactum.outer.length qk4,.slice qa5 x.reactum.inner.length qk5]) (by omega)).ext hb2
 have R3:=(R2.otherW (b:=w.heap.size+1+1) (k:=6) (ds:=[.int .i64 x.reactum.roots,.slice qa1 x.reactum.nodes.length qk1,.slice qa2 x.reactum.sites.length qk2,.int .i64 x.reactum.edges,.slice qa4 x.reactum.outer.length qk4,.slice qa5 x.reactum.inner.length qk5]) (by omega)).ext hb2
 have O3:=(O2.setW (k:=6) (ds:=[.int .i64 x.reactum.roots,.slice qa1 x.reactum.nodes.length qk1,.slice qa2 x.reactum.sites.length qk2,.int .i64 x.reactum.edges,.slice qa4 x.reactum.outer.length qk4,.slice qa5 x.reactum.inner.length qk5])).ext hb2
 (try simp only [putAt,List.set_cons_zero,List.set_cons_succ] at O3)
 clear A2 R2 O2
 obtain ⟨r0,rf0⟩:=R3 0 _ rfl
 obtain ⟨o0,of0⟩:=O3 0 _ rfl
 obtain ⟨r1,rf1⟩:=R3 1 _ rfl
 obtain ⟨o1,of1⟩:=O3 1 _ rfl
 obtain ⟨r2,rf2⟩:=R3 2 _ rfl
 obtain ⟨o2,of2⟩:=O3 2 _ rfl
 obtain ⟨r3,rf3⟩:=R3 3 _ rfl
 obtain ⟨o3,of3⟩:=O3 3 _ rfl
 obtain ⟨r4,rf4⟩:=R3 4 _ rfl
 obtain ⟨o4,of4⟩:=O3 4 _ rfl
 obtain ⟨r5,rf5⟩:=R3 5 _ rfl
 obtain ⟨o5,of5⟩:=O3 5 _ rfl
 obtain ⟨r6,rf6⟩:=R3 6 _ rfl
 obtain ⟨o6,of6⟩:=O3 6 _ rfl
 obtain ⟨r7,rf7⟩:=R3 7 _ rfl
 obtain ⟨o7,of7⟩:=O3 7 _ rfl
 obtain ⟨r8,rf8⟩:=R3 8 _ rfl
 obtain ⟨o8,of8⟩:=O3 8 _ rfl
 obtain ⟨r9,rf9⟩:=R3 9 _ rfl
 obtain ⟨o9,of9⟩:=O3 9 _ rfl
 obtain ⟨r10,rf10⟩:=R3 10 _ rfl
 obtain ⟨o10,of10⟩:=O3 10 _ rfl
 obtain ⟨r11,rf11⟩:=R3 11 _ rfl
 obtain ⟨o11,of11⟩:=O3 11 _ rfl
 obtain ⟨r12,rf12⟩:=R3 12 _ rfl
 obtain ⟨o12,of12⟩:=O3 12 _ rfl
 go_wp2_with fail
 refine bodyPost_ret (v:=.agg #[.int .i64 x.redex.roots,.slice pa1 x.redex.nodes.length pk1,.slice pa2 x.redex.sites.length pk2,.int .i64 x.redex.edges,.slice pa4 x.redex.outer.length pk4,.slice pa5 x.redex.inner.length pk5,.int .i64 x.reactum.roots,.slice qa1 x.reactum.nodes.length qk1,.slice qa2 x.reactum.sites.length qk2,.int .i64 x.reactum.edges,.slice qa4 x.reactum.outer.length qk4,.slice qa5 x.reactum.inner.length qk5,.slice ta2 x.copies.length tk2]) ?_ rfl ⟨[.int .i64 x.redex.roots,.slice pa1 x.redex.nodes.length pk1,.slice pa2 x.redex.sites.length pk2,.int .i64 x.redex.edges,.slice pa4 x.redex.outer.length pk4,.slice pa5 x.redex.inner.length pk5,.int .i64 x.reactum.roots,.slice qa1 x.reactum.nodes.length qk1,.slice qa2 x.reactum.sites.length qk2,.int .i64 x.reactum.edges,.slice qa4 x.reactum.outer.length qk4,.slice qa5 x.reactum.inner.length qk5,.slice ta2 x.copies.length tk2],rfl,?_,xw⟩
 ·simp [results,Tryz.results78,go_sem,r0,r1,r2,r3,r4,r5,r6,r7,r8,r9,r10,r11,r12]
 ·exact ⟨[.int .i64 x.redex.roots,.slice pa1 x.redex.nodes.length pk1,.slice pa2 x.redex.sites.length pk2,.int .i64 x.redex.edges,.slice pa4 x.redex.outer.length pk4,.slice pa5 x.redex.inner.length pk5],[.int .i64 x.reactum.roots,.slice qa1 x.reactum.nodes.length qk1,.slice qa2 x.reactum.sites.length qk2,.int .i64 x.reactum.edges,.slice qa4 x.reactum.outer.length qk4,.slice qa5 x.reactum.inner.length qk5],_,_,_,_,_,_,_,rfl,(BigO.keepsO.putW (b:=w.heap.size+1) (k:=0) (ds:=[.int .i64 x.redex.roots,.slice pa1 x.redex.nodes.length pk1,.slice pa2 x.redex.sites.length pk2,.int .i64 x.redex.edges,.slice pa4 x.redex.outer.length pk4,.slice pa5 x.redex.inner.length pk5,.int .i64 x.reactum.roots,.slice qa1 x.reactum.nodes.length qk1,.slice qa2 x.reactum.sites.length qk2,.int .i64 x.reactum.edges,.slice qa4 x.reactum.outer.length qk4,.slice qa5 x.reactum.inner.length qk5,.slice ta2 x.copies.length tk2]) (BigO.keepsO.putW (b:=w.heap.size+1+1) (k:=12) (ds:=[.slice ta2 x.copies.length tk2]) hD0 (.inl (by omega))) (.inl (by omega))),(BigO.keepsO.putW (b:=w.heap.size+1) (k:=0) (ds:=[.int .i64 x.redex.roots,.slice pa1 x.redex.nodes.length pk1,.slice pa2 x.redex.sites.length pk2,.int .i64 x.redex.edges,.slice pa4 x.redex.outer.length pk4,.slice pa5 x.redex.inner.length pk5,.int .i64 x.reactum.roots,.slice qa1 x.reactum.nodes.length qk1,.slice qa2 x.reactum.sites.length qk2,.int .i64 x.reactum.edges,.slice qa4 x.reactum.outer.length qk4,.slice qa5 x.reactum.inner.length qk5,.slice ta2 x.copies.length tk2]) (BigO.keepsO.putW (b:=w.heap.size+1+1) (k:=12) (ds:=[.slice ta2 x.copies.length tk2]) hD1 (.inl (by omega))) (.inl (by omega))),(SlO.putW IntP.keepsO (b:=w.heap.size+1) (k:=0) (ds:=[.int .i64 x.redex.roots,.slice pa1 x.redex.nodes.length pk1,.slice pa2 x.redex.sites.length pk2,.int .i64 x.redex.edges,.slice pa4 x.redex.outer.length pk4,.slice pa5 x.redex.inner.length pk5,.int .i64 x.reactum.roots,.slice qa1 x.reactum.nodes.length qk1,.slice qa2 x.reactum.sites.length qk2,.int .i64 x.reactum.edges,.slice qa4 x.reactum.outer.length qk4,.slice qa5 x.reactum.inner.length qk5,.slice ta2 x.copies.length tk2]) (SlO.putW IntP.keepsO (b:=w.heap.size+1+1) (k:=12) (ds:=[.slice ta2 x.copies.length tk2]) hD2 (.inl (by omega))) (.inl (by omega))),(by refine ⟨?_,?_⟩ <;> simp [Off] <;> omega)⟩
set_option maxRecDepth 100000 in
set_option maxHeartbeats 1600000 in
theorem c_laws_toRuleS (lo hi:Nat) (v:Value) (xs:List Rul) (w:World) (h:SlV 13 RulP lo hi w v xs) (hs:wtL wtRul xs≤1048576) :
 Calls Tryz.prog 29 #[v] w fun e w'=>∃v',e=.returned v'∧SlO 13 RulO w.heap.size w'.heap.size w' v' xs∧Ext w w':=by
 obtain ⟨a,k,rfl,g1,g2,g3,g4⟩:=h
 unfold maxLen at g2
 have hn:xs.length≤1048576:=by have:wtL wtRul xs=xs.length+(xs.map wtRul).sum:=rfl;omega
 obtain ⟨i0,hi0,h1⟩:=Option.map_eq_some_iff.1 infoRul
 simp only [Prod.mk.injEq] at h1
 obtain ⟨hz0,hz1,hz2⟩:=h1
 obtain ⟨W0,hmk,own0,gro0⟩:=run_make_full w w.heap.size 40 122 i0 _ 13 Tryz.underlying40 hi0 hz0 hz1 .i64 .i64 xs.length (by rw [hz2];omega) (by unfold maxLen;omega) (Nat.le_refl _)
 have x0:=ext_none gro0
 generalize (madeCells _ (xs.length * 13)).toList=cells0 at own0
 clear hi0 hz0 hz1 hz2 gro0
 go_enter Tryz.func29,Tryz.ntmps29
 go_wp2
 go_loopw [4] (fun c wr=>∃(i:Nat) (cells:List Value),c=.int .i64 i∧i≤xs.length∧wr.ownsRow w.heap.size 122 13 (.slice (some ⟨w.heap.size,0,none⟩) xs.length xs.length) xs.length cells∧FilledO 13 RulO w.heap.size wr xs cells i∧Ext w wr) (fun c _=>xs.length - (intOf c).toNat)
 case atStart=>exact ⟨0,cells0,rfl,Nat.zero_le _,own0,FilledO.zero,x0⟩
 case round=>
  obtain ⟨i,cells,rfl,hi',own,hF,hx⟩:=hrel
  have hcl:cells.length=xs.length * 13:=own.1
  by_cases hlt:i<xs.length
  ·rcases g4 with g4|⟨b,o,rfl,gb1,gb2,g4⟩
   ·subst g4;simp at hlt
   ·obtain ⟨cs,hl,hP,hc⟩:=g4 i hlt
    have HP:=RulP.keeps _ _ _ _ _ _ (Same.ext hx) hP
    have HP0:=HP
    obtain ⟨c1,c2,v,rfl,⟨v1,v2,v4,v5,rfl,_⟩,⟨yy1,yy2,yy4,yy5,rfl,_⟩,eC⟩:=hP
    have q0:=hx.keep (hc 0 _ rfl)
    have q1:=hx.keep (hc 1 _ rfl)
    have q2:=hx.keep (hc 2 _ rfl)
    have q3:=hx.keep (hc 3 _ rfl)
    have q4:=hx.keep (hc 4 _ rfl)
    have q5:=hx.keep (hc 5 _ rfl)
    have q6:=hx.keep (hc 6 _ rfl)
    have q7:=hx.keep (hc 7 _ rfl)
    have q8:=hx.keep (hc 8 _ rfl)
    have q9:=hx.keep (hc 9 _ rfl)
    have q10:=hx.keep (hc 10 _ rfl)
    have q11:=hx.keep (hc 11 _ rfl)
    have q12:=hx.keep (hc 12 _ rfl)
    rw [Nat.add_zero] at q0
    clear g4 hc
    go_wp2_with fail
    refine (c_laws_toRule lo hi _ _ _ HP0 (by have:=wtL_mem wtRul xs xs[i] (List.getElem_mem hlt);omega)).mono ?_
    rintro e wt ⟨dd,rfl,hD,hbt⟩
    have own1:=ownsRow_ext own hbt
    have hzt:=own_lt own
    have hxt:=hx.trans hbt
    have hDw:=hD;obtain ⟨c1',c2',v',_,_,_,_,_,_,rfl,⟨_,_,_,_,_,_,_,_,_,_,_,_,rfl,_,_,⟨pa1,pk1,rfl,_⟩,⟨pa2,pk2,rfl,_⟩,⟨pa4,pk4,rfl,_⟩,⟨pa5,pk5,rfl,_⟩,_⟩,⟨_,_,_,_,_,_,_,_,_,_,_,_,rfl,_,_,⟨qa1,qk1,rfl,_⟩,⟨qa2,qk2,rfl,_⟩,⟨qa4,qk4,rfl,_⟩,⟨qa5,qk5,rfl,_⟩,_⟩,⟨ta,tk,rfl,_⟩,_⟩:=hD
    have HD:RulO wr.heap.size wt.heap.size wt [.int .i64 xs[i].redex.roots,.slice pa1 xs[i].redex.nodes.length pk1,.slice pa2 xs[i].redex.sites.length pk2,.int .i64 xs[i].redex.edges,.slice pa4 xs[i].redex.outer.length pk4,.slice pa5 xs[i].redex.inner.length pk5,.int .i64 xs[i].reactum.roots,.slice qa1 xs[i].reactum.nodes.length qk1,.slice qa2 xs[i].reactum.sites.length qk2,.int .i64 xs[i].reactum.edges,.slice qa4 xs[i].reactum.outer.length qk4,.slice qa5 xs[i].reactum.inner.length qk5,.slice ta xs[i].copies.length tk] xs[i]:=hDw
    have hib:i * 13+13≤xs.length * 13:=by
     have:=Nat.mul_le_mul_right 13 hlt
     rw [Nat.succ_mul] at this
     exact this
    obtain ⟨z0,o0⟩:=own_any own1 (i * 13+0) (by omega)
    have f0:=own1.frozenAt (i * 13+0)
    obtain ⟨z1,o1⟩:=own_any own1 (i * 13+1) (by omega)
    have f1:=own1.frozenAt (i * 13+1)
    obtain ⟨z2,o2⟩:=own_any own1 (i * 13+2) (by omega)
    have f2:=own1.frozenAt (i * 13+2)
    obtain ⟨z3,o3⟩:=own_any own1 (i * 13+3) (by omega)
    have f3:=own1.frozenAt (i * 13+3)
    obtain ⟨z4,o4⟩:=own_any own1 (i * 13+4) (by omega)
    have f4:=own1.frozenAt (i * 13+4)
    obtain ⟨z5,o5⟩:=own_any own1 (i * 13+5) (by omega)
    have f5:=own1.frozenAt (i * 13+5)
    obtain ⟨z6,o6⟩:=own_any own1 (i * 13+6) (by omega)
    have f6:=own1.frozenAt (i * 13+6)
    obtain ⟨z7,o7⟩:=own_any own1 (i * 13+7) (by omega)
    have f7:=own1.frozenAt (i * 13+7)
    obtain ⟨z8,o8⟩:=own_any own1 (i * 13+8) (by omega)
    have f8:=own1.frozenAt (i * 13+8)
    obtain ⟨z9,o9⟩:=own_any own1 (i * 13+9) (by omega)
    have f9:=own1.frozenAt (i * 13+9)
    obtain ⟨z10,o10⟩:=own_any own1 (i * 13+10) (by omega)
    have f10:=own1.frozenAt (i * 13+10)
    obtain ⟨z11,o11⟩:=own_any own1 (i * 13+11) (by omega)
    have f11:=own1.frozenAt (i * 13+11)
    obtain ⟨z12,o12⟩:=own_any own1 (i * 13+12) (by omega)
    have f12:=own1.frozenAt (i * 13+12)
    rw [Nat.add_zero] at o0 f0
    obtain ⟨own2,gr2⟩:=own_put [.int .i64 xs[i].redex.roots,.slice pa1 xs[i].redex.nodes.length pk1,.slice pa2 xs[i].redex.sites.length pk2,.int .i64 xs[i].redex.edges,.slice pa4 xs[i].redex.outer.length pk4,.slice pa5 xs[i].redex.inner.length pk5,.int .i64 xs[i].reactum.roots,.slice qa1 xs[i].reactum.nodes.length qk1,.slice qa2 xs[i].reactum.sites.length qk2,.int .i64 xs[i].reactum.edges,.slice qa4 xs[i].reactum.outer.length qk4,.slice qa5 xs[i].reactum.inner.length qk5,.slice ta xs[i].copies.length tk] wt (i * 13) cells own1
    have hF2:=hF.put RulO.keepsO hbt (own_lt own).2 hlt [.int .i64 xs[i].redex.roots,.slice pa1 xs[i].redex.nodes.length pk1,.slice pa2 xs[i].redex.sites.length pk2,.int .i64 xs[i].redex.edges,.slice pa4 xs[i].redex.outer.length pk4,.slice pa5 xs[i].redex.inner.length pk5,.int .i64 xs[i].reactum.roots,.slice qa1 xs[i].reactum.nodes.length qk1,.slice qa2 xs[i].reactum.sites.length qk2,.int .i64 xs[i].reactum.edges,.slice qa4 xs[i].reactum.outer.length qk4,.slice qa5 xs[i].reactum.inner.length qk5,.slice ta xs[i].copies.length tk] rfl hcl HD gr2
    clear hF own gr2
    simp only [putW,putAt,Nat.add_assoc,Nat.reduceAdd] at own2 hF2
    go_wp2_with fail
    go_roundw
    case rel=>exact ⟨i+1,_,rfl,by omega,own2,hF2,xw⟩
    ·simp only [intOf];omega
  ·have e:i=xs.length:=by omega
   subst e
   go_wp2
   go_ret
   exact ⟨_,rfl,hF.all own (Nat.le_refl _) (Nat.le_refl _) (by unfold maxLen;omega),hx⟩
set_option maxRecDepth 100000 in
set_option maxHeartbeats 1600000 in
theorem c_laws_toSorting (lo hi:Nat) (cs:List Value) (x:Srt) (w:World) (h:SrtP lo hi w cs x) (hs:wtSrt x≤1048576) :
 Calls Tryz.prog 28 #[.agg cs.toArray] w fun e w'=>∃ds,e=.returned (.agg ds.toArray)∧SrtO w.heap.size w'.heap.size w' ds x∧Ext w w':=by
 obtain ⟨v0,v1,v2,v3,v4,rfl,e0,e1,e2,e3,e4⟩:=h
 have hw:wtSrt x=x.tops.length+wtL wtRow x.nest+wtL wtRow x.sorts+x.most.length+x.apart.length:=rfl
 have A0:BoxAt (((w.alloc (.cells #[v0,v1,v2,v3,v4] 27)).alloc (.cells #[.slice none 0 0,.slice none 0 0,.slice none 0 0,.slice none 0 0,.slice none 0 0] 39)).alloc (.cells #[.slice none 0 0,.slice none 0 0,.slice none 0 0,.slice none 0 0,.slice none 0 0] 39)) w.heap.size [v0,v1,v2,v3,v4]:=((BoxAt.new w 27 [v0,v1,v2,v3,v4] w.heap.size rfl).ext ((Ext.refl _).alloc _)).ext ((Ext.refl _).alloc _)
 have R0:BoxAt (((w.alloc (.cells #[v0,v1,v2,v3,v4] 27)).alloc (.cells #[.slice none 0 0,.slice none 0 0,.slice none 0 0,.slice none 0 0,.slice none 0 0] 39)).alloc (.cells #[.slice none 0 0,.slice none 0 0,.slice none 0 0,.slice none 0 0,.slice none 0 0] 39)) (w.heap.size+1) [.slice none 0 0,.slice none 0 0,.slice none 0 0,.slice none 0 0,.slice none 0 0]:=(BoxAt.new (w.alloc (.cells #[v0,v1,v2,v3,v4] 27)) 39 [.slice none 0 0,.slice none 0 0,.slice none 0 0,.slice none 0 0,.slice none 0 0] (w.heap.size+1) (by simp)).ext ((Ext.refl _).alloc _)
 have O0:BoxAt (((w.alloc (.cells #[v0,v1,v2,v3,v4] 27)).alloc (.cells #[.slice none 0 0,.slice none 0 0,.slice none 0 0,.slice none 0 0,.slice none 0 0] 39)).alloc (.cells #[.slice none 0 0,.slice none 0 0,.slice none 0 0,.slice none 0 0,.slice none 0 0] 39)) (w.heap.size+1+1) [.slice none 0 0,.slice none 0 0,.slice none 0 0,.slice none 0 0,.slice none 0 0]:=BoxAt.new _ 39 [.slice none 0 0,.slice none 0 0,.slice none 0 0,.slice none 0 0,.slice none 0 0] (w.heap.size+1+1) (by simp)
 go_enter Tryz.func28,Tryz.ntmps28
 go_wp2_with fail
 refine (c_laws_toIntS lo hi _ _ _ (e0.keeps IntP.keeps (Same.ext xw)) (by omega)).mono ?_
 rintro e y0 ⟨t0,rfl,hD0,hb0⟩
 have z0:=Below.size hb0
 (try simp only [World.size_alloc,World.size_setCell] at z0 hD0)
 have HD0:=hD0
 obtain ⟨ta0,tk0,rfl,_⟩:=HD0
 have A1:=A0.ext hb0
 have R1:=R0.ext hb0
 have O1:=O0.ext hb0
 (try simp only [putAt,List.set_cons_zero,List.set_cons_succ] at O1)
 clear A0 R0 O0
 obtain ⟨o0,of0⟩:=O1 0 _ rfl
 have a1:=(A1 1 _ rfl).1
 go_wp2_with fail
 refine (c_laws_toIntSS lo hi _ _ _ (e1.keeps RowP.keeps (Same.ext xw)) (by omega)).mono ?_
 rintro e y1 ⟨t1,rfl,hD1,hb1⟩
 have z1:=Below.size hb1
 (try simp only [World.size_alloc,World.size_setCell] at z1 hD1)
 have HD1:=hD1
 obtain ⟨ta1,tk1,rfl,_⟩:=HD1
 replace hD0:=hD0.putW IntP.keepsO (b:=w.heap.size+1+1) (k:=0) (ds:=[.slice ta0 x.tops.length tk0]) (.inl (by omega))
 replace hD0:=hD0.ext IntP.keepsO hb1
 have A2:=(A1.otherW (b:=w.heap.size+1+1) (k:=0) (ds:=[.slice ta0 x.tops.length tk0]) (by omega)).ext hb1
 have R2:=(R1.otherW (b:=w.heap.size+1+1) (k:=0) (ds:=[.slice ta0 x.tops.length tk0]) (by omega)).ext hb1
 have O2:=(O1.setW (k:=0) (ds:=[.slice ta0 x.tops.length tk0])).ext hb1
 (try simp only [putAt,List.set_cons_zero,List.set_cons_succ] at O2)
 clear A1 R1 O1
 obtain ⟨o1,of1⟩:=O2 1 _ rfl
 have a2:=(A2 2 _ rfl).1
 go_wp2_with fail
 refine (c_laws_toIntSS lo hi _ _ _ (e2.keeps RowP.keeps (Same.ext xw)) (by omega)).mono ?_
 rintro e y2 ⟨t2,rfl,hD2,hb2⟩
 have z2:=Below.size hb2
 (try simp only [World.size_alloc,World.size_setCell] at z2 hD2)
 have HD2:=hD2
 obtain ⟨ta2,tk2,rfl,_⟩:=HD2
 replace hD0:=hD0.putW IntP.keepsO (b:=w.heap.size+1+1) (k:=1) (ds:=[.slice ta1 x.nest.length tk1]) (.inl (by omega))
 replace hD1:=hD1.putW RowO.keepsO (b:=w.heap.size+1+1) (k:=1) (ds:=[.slice ta1 x.nest.length tk1]) (.inl (by omega))
 replace hD0:=hD0.ext IntP.keepsO hb2
 replace hD1:=hD1.ext RowO.keepsO hb2
 have A3:=(A2.otherW (b:=w.heap.size+1+1) (k:=1) (ds:=[.slice ta1 x.nest.length tk1]) (by omega)).ext hb2
 have R3:=(R2.otherW (b:=w.heap.size+1+1) (k:=1) (ds:=[.slice ta1 x.nest.length tk1]) (by omega)).ext hb2
 have O3:=(O2.setW (k:=1) (ds:=[.slice ta1 x.nest.length tk1])).ext hb2
 (try simp only [putAt,List.set_cons_zero,List.set_cons_succ] at O3)
 clear A2 R2 O2
 obtain ⟨o2,of2⟩:=O3 2 _ rfl
 have a3:=(A3 3 _ rfl).1
 go_wp2_with fail
 refine (c_laws_toIntS lo hi _ _ _ (e3.keeps IntP.keeps (Same.ext xw)) (by omega)).mono ?_
 rintro e y3 ⟨t3,rfl,hD3,hb3⟩
 have z3:=Below.size hb3
 (try simp only [World.size_alloc,World.size_setCell] at z3 hD3)
 have HD3:=hD3
 obtain ⟨ta3,tk3,rfl,_⟩:=HD3
 replace hD0:=hD0.putW IntP.keepsO (b:=w.heap.size+1+1) (k:=2) (ds:=[.slice ta2 x.sorts.length tk2]) (.inl (by omega))
 replace hD1:=hD1.putW RowO.keepsO (b:=w.heap.size+1+1) (k:=2) (ds:=[.slice ta2 x.sorts.length tk2]) (.inl (by omega))
 replace hD2:=hD2.putW RowO.keepsO (b:=w.heap.size+1+1) (k:=2) (ds:=[.slice ta2 x.sorts.length tk2]) (.inl (by omega))
 replace hD0:=hD0.ext IntP.keepsO hb3
 replace hD1:=hD1.ext RowO.keepsO hb3
 replace hD2:=hD2.ext RowO.keepsO hb3
 have A4:=(A3.otherW (b:=w.heap.size+1+1) (k:=2) (ds:=[.slice ta2 x.sorts.length tk2]) (by omega)).ext hb3
 have R4:=(R3.otherW (b:=w.heap.size+1+1) (k:=2) (ds:=[.slice ta2 x.sorts.length tk2]) (by omega)).ext hb3
 have O4:=(O3.setW (k:=2) (ds:=[.slice ta2 x.sorts.length tk2])).ext hb3
 (try simp only [putAt,List.set_cons_zero,List.set_cons_succ] at O4)
 clear A3 R3 O3
 obtain ⟨o3,of3⟩:=O4 3 _ rfl
 have a4:=(A4 4 _ rfl).1
 go_wp2_with fail
 refine (c_laws_toIntA2S lo hi _ _ _ (e4.keeps PairP.keeps (Same.ext xw)) (by omega)).mono ?_
 rintro e y4 ⟨t4,rfl,hD4,hb4⟩
 have z4:=Below.size hb4
 (try simp only [World.size_alloc,World.size_setCell] at z4 hD4)
 have HD4:=hD4
 obtain ⟨ta4,tk4,rfl,_⟩:=HD4
 replace hD0:=hD0.putW IntP.keepsO (b:=w.heap.size+1+1) (k:=3) (ds:=[.slice ta3 x.most.length tk3]) (.inl (by omega))
 replace hD1:=hD1.putW RowO.keepsO (b:=w.heap.size+1+1) (k:=3) (ds:=[.slice ta3 x.most.length tk3]) (.inl (by omega))
 replace hD2:=hD2.putW RowO.keepsO (b:=w.heap.size+1+1) (k:=3) (ds:=[.slice ta3 x.most.length tk3]) (.inl (by omega))
 replace hD3:=hD3.putW IntP.keepsO (b:=w.heap.size+1+1) (k:=3) (ds:=[.slice ta3 x.most.length tk3]) (.inl (by omega))
 replace hD0:=hD0.ext IntP.keepsO hb4
 replace hD1:=hD1.ext RowO.keepsO hb4
 replace hD2:=hD2.ext RowO.keepsO hb4
 replace hD3:=hD3.ext IntP.keepsO hb4
 have A5:=(A4.otherW (b:=w.heap.size+1+1) (k:=3) (ds:=[.slice ta3 x.most.length tk3]) (by omega)).ext hb4
 have R5:=(R4.otherW (b:=w.heap.size+1+1) (k:=3) (ds:=[.slice ta3 x.most.length tk3]) (by omega)).ext hb4
 have O5:=(O4.setW (k:=3) (ds:=[.slice ta3 x.most.length tk3])).ext hb4
 (try simp only [putAt,List.set_cons_zero,List.set_cons_succ] at O5)
 clear A4 R4 O4
 obtain ⟨r0,rf0⟩:=R5 0 _ rfl
 obtain ⟨o0,of0⟩:=O5 0 _ rfl
 obtain ⟨r1,rf1⟩:=R5 1 _ rfl
 obtain ⟨o1,of1⟩:=O5 1 _ rfl
 obtain ⟨r2,rf2⟩:=R5 2 _ rfl
 obtain ⟨o2,of2⟩:=O5 2 _ rfl
 obtain ⟨r3,rf3⟩:=R5 3 _ rfl
 obtain ⟨o3,of3⟩:=O5 3 _ rfl
 obtain ⟨r4,rf4⟩:=R5 4 _ rfl
 obtain ⟨o4,of4⟩:=O5 4 _ rfl
 go_wp2_with fail
 refine bodyPost_ret (v:=.agg #[.slice ta0 x.tops.length tk0,.slice ta1 x.nest.length tk1,.slice ta2 x.sorts.length tk2,.slice ta3 x.most.length tk3,.slice ta4 x.apart.length tk4]) ?_ rfl ⟨[.slice ta0 x.tops.length tk0,.slice ta1 x.nest.length tk1,.slice ta2 x.sorts.length tk2,.slice ta3 x.most.length tk3,.slice ta4 x.apart.length tk4],rfl,?_,xw⟩
 ·simp [results,Tryz.results28,go_sem,r0,r1,r2,r3,r4]
 ·exact ⟨_,_,_,_,_,_,_,_,_,_,_,_,_,_,_,rfl,(SlO.putW IntP.keepsO (b:=w.heap.size+1) (k:=0) (ds:=[.slice ta0 x.tops.length tk0,.slice ta1 x.nest.length tk1,.slice ta2 x.sorts.length tk2,.slice ta3 x.most.length tk3,.slice ta4 x.apart.length tk4]) (SlO.putW IntP.keepsO (b:=w.heap.size+1+1) (k:=4) (ds:=[.slice ta4 x.apart.length tk4]) hD0 (.inl (by omega))) (.inl (by omega))),(SlO.putW RowO.keepsO (b:=w.heap.size+1) (k:=0) (ds:=[.slice ta0 x.tops.length tk0,.slice ta1 x.nest.length tk1,.slice ta2 x.sorts.length tk2,.slice ta3 x.most.length tk3,.slice ta4 x.apart.length tk4]) (SlO.putW RowO.keepsO (b:=w.heap.size+1+1) (k:=4) (ds:=[.slice ta4 x.apart.length tk4]) hD1 (.inl (by omega))) (.inl (by omega))),(SlO.putW RowO.keepsO (b:=w.heap.size+1) (k:=0) (ds:=[.slice ta0 x.tops.length tk0,.slice ta1 x.nest.length tk1,.slice ta2 x.sorts.length tk2,.slice ta3 x.most.length tk3,.slice ta4 x.apart.length tk4]) (SlO.putW RowO.keepsO (b:=w.heap.size+1+1) (k:=4) (ds:=[.slice ta4 x.apart.length tk4]) hD2 (.inl (by omega))) (.inl (by omega))),(SlO.putW IntP.keepsO (b:=w.heap.size+1) (k:=0) (ds:=[.slice ta0 x.tops.length tk0,.slice ta1 x.nest.length tk1,.slice ta2 x.sorts.length tk2,.slice ta3 x.most.length tk3,.slice ta4 x.apart.length tk4]) (SlO.putW IntP.keepsO (b:=w.heap.size+1+1) (k:=4) (ds:=[.slice ta4 x.apart.length tk4]) hD3 (.inl (by omega))) (.inl (by omega))),(SlO.putW PairP.keepsO (b:=w.heap.size+1) (k:=0) (ds:=[.slice ta0 x.tops.length tk0,.slice ta1 x.nest.length tk1,.slice ta2 x.sorts.length tk2,.slice ta3 x.most.length tk3,.slice ta4 x.apart.length tk4]) (SlO.putW PairP.keepsO (b:=w.heap.size+1+1) (k:=4) (ds:=[.slice ta4 x.apart.length tk4]) hD4 (.inl (by omega))) (.inl (by omega))),(by refine ⟨?_,?_⟩ <;> simp [Off] <;> omega)⟩
set_option maxRecDepth 100000 in
set_option maxHeartbeats 1600000 in
theorem c_laws_toRuntime (lo hi:Nat) (cs:List Value) (x:Rnt) (w:World) (h:RntP lo hi w cs x) (hs:wtRnt x≤1048576) :
 Calls Tryz.prog 11 #[.agg cs.toArray] w fun e w'=>∃ds,e=.returned (.agg ds.toArray)∧RntO w.heap.size w'.heap.size w' ds x∧Ext w w':=by
 obtain ⟨v0,c1,v6,v7,c8,rfl,e0,E1,e6,e7,E8,ec⟩:=h
 have E1':=E1
 have E8':=E8
 obtain ⟨s0,s1,s2,s3,s4,rfl,_⟩:=E1'
 obtain ⟨v81,v82,v84,v85,rfl,_⟩:=E8'
 have hw:wtRnt x=wtL wtCtl x.sig+wtSrt x.sort+wtL wtRul x.rules+wtL wtStr x.hosts+wtBig x.agent:=rfl
 have A0:BoxAt (((w.alloc (.cells #[v0,s0,s1,s2,s3,s4,v6,v7,.int .i64 x.agent.roots,v81,v82,.int .i64 x.agent.edges,v84,v85,.int .i64 x.count] 35)).alloc (.cells #[.slice none 0 0,.slice none 0 0,.slice none 0 0,.slice none 0 0,.slice none 0 0,.slice none 0 0,.slice none 0 0,.slice none 0 0,.int .i64 0,.slice none 0 0,.slice none 0 0,.int .i64 0,.slice none 0 0,.slice none 0 0,.int .i64 0] 46)).alloc (.cells #[.slice none 0 0,.slice none 0 0,.slice none 0 0,.slice none 0 0,.slice none 0 0,.slice none 0 0,.slice none 0 0,.slice none 0 0,.int .i64 0,.slice none 0 0,.slice none 0 0,.int .i64 0,.slice none 0 0,.slice none 0 0,.int .i64 0] 46)) w.heap.size [v0,s0,s1,s2,s3,s4,v6,v7,.int .i64 x.agent.roots,v81,v82,.int .i64 x.agent.edges,v84,v85,.int .i64 x.count]:=((BoxAt.new w 35 [v0,s0,s1,s2,s3,s4,v6,v7,.int .i64 x.agent.roots,v81,v82,.int .i64 x.agent.edges,v84,v85,.int .i64 x.count] w.heap.size rfl).ext ((Ext.refl _).alloc _)).ext ((Ext.refl _).alloc _)
 have R0:BoxAt (((w.alloc (.cells #[v0,s0,s1,s2,s3,s4,v6,v7,.int .i64 x.agent.roots,v81,v82,.int .i64 x.agent.edges,v84,v85,.int .i64 x.count] 35)).alloc (.cells #[.slice none 0 0,.slice none 0 0,.slice none 0 0,.slice none 0 0,.slice none 0 0,.slice none 0 0,.slice none 0 0,.slice none 0 0,.int .i64 0,.slice none 0 0,.slice none 0 0,.int .i64 0,.slice none 0 0,.slice none 0 0,.int .i64 0] 46)).alloc (.cells #[.slice none 0 0,.slice none 0 0,.slice none 0 0,.slice none 0 0,.slice none 0 0,.slice none 0 0,.slice none 0 0,.slice none 0 0,.int .i64 0,.slice none 0 0,.slice none 0 0,.int .i64 0,.slice none 0 0,.slice none 0 0,.int .i64 0] 46)) (w.heap.size+1) [.slice none 0 0,.slice none 0 0,.slice none 0 0,.slice none 0 0,.slice none 0 0,.slice none 0 0,.slice none 0 0,.slice none 0 0,.int .i64 0,.slice none 0 0,.slice none 0 0,.int .i64 0,.slice none 0 0,.slice none 0 0,.int .i64 0]:=(BoxAt.new (w.alloc (.cells #[v0,s0,s1,s2,s3,s4,v6,v7,.int .i64 x.agent.roots,v81,v82,.int .i64 x.agent.edges,v84,v85,.int .i64 x.count] 35)) 46 [.slice none 0 0,.slice none 0 0,.slice none 0 0,.slice none 0 0,.slice none 0 0,.slice none 0 0,.slice none 0 0,.slice none 0 0,.int .i64 0,.slice none 0 0,.slice none 0 0,.int .i64 0,.slice none 0 0,.slice none 0 0,.int .i64 0] (w.heap.size+1) (by simp)).ext ((Ext.refl _).alloc _)
 have O0:BoxAt (((w.alloc (.cells #[v0,s0,s1,s2,s3,s4,v6,v7,.int .i64 x.agent.roots,v81,v82,.int .i64 x.agent.edges,v84,v85,.int .i64 x.count] 35)).alloc (.cells #[.slice none 0 0,.slice none 0 0,.slice none 0 0,.slice none 0 0,.slice none 0 0,.slice none 0 0,.slice none 0 0,.slice none 0 0,.int .i64 0,.slice none 0 0,.slice none 0 0,.int .i64 0,.slice none 0 0,.slice none 0 0,.int .i64 0] 46)).alloc (.cells #[.slice none 0 0,.slice none 0 0,.slice none 0 0,.slice none 0 0,.slice none 0 0,.slice none 0 0,.slice none 0 0,.slice none 0 0,.int .i64 0,.slice none 0 0,.slice none 0 0,.int .i64 0,.slice none 0 0,.slice none 0 0,.int .i64 0] 46)) (w.heap.size+1+1) [.slice none 0 0,.slice none 0 0,.slice none 0 0,.slice none 0 0,.slice none 0 0,.slice none 0 0,.slice none 0 0,.slice none 0 0,.int .i64 0,.slice none 0 0,.slice none 0 0,.int .i64 0,.slice none 0 0,.slice none 0 0,.int .i64 0]:=BoxAt.new _ 46 [.slice none 0 0,.slice none 0 0,.slice none 0 0,.slice none 0 0,.slice none 0 0,.slice none 0 0,.slice none 0 0,.slice none 0 0,.int .i64 0,.slice none 0 0,.slice none 0 0,.int .i64 0,.slice none 0 0,.slice none 0 0,.int .i64 0] (w.heap.size+1+1) (by simp)
 go_enter Tryz.func11,Tryz.ntmps11
 go_wp2_with fail
 refine (c_laws_toControlS lo hi _ _ _ (e0.keeps CtlP.keeps (Same.ext xw)) (by omega)).mono ?_
 rintro e y0 ⟨t0,rfl,hD0,hb0⟩
 have z0:=Below.size hb0
 (try simp only [World.size_alloc,World.size_setCell] at z0 hD0)
 have HD0:=hD0
 obtain ⟨ta0,tk0,rfl,_⟩:=HD0
 have A1:=A0.ext hb0
 have R1:=R0.ext hb0
 have O1:=O0.ext hb0
 (try simp only [putAt,List.set_cons_zero,List.set_cons_succ] at O1)
 clear A0 R0 O0
 obtain ⟨o0,of0⟩:=O1 0 _ rfl
 have a1:=(A1 1 _ rfl).1
 have a2:=(A1 2 _ rfl).1
 have a3:=(A1 3 _ rfl).1
 have a4:=(A1 4 _ rfl).1
 have a5:=(A1 5 _ rfl).1
 go_wp2_with fail
 refine (c_laws_toSorting lo hi _ _ _ (SrtP.keeps _ _ _ _ _ _ (Same.ext xw) E1) (by omega)).mono ?_
 rintro e y1 ⟨dd1,rfl,hD1,hb1⟩
 have z1:=Below.size hb1
 (try simp only [World.size_alloc,World.size_setCell] at z1 hD1)
 have HD1:=hD1
 obtain ⟨_,_,_,_,_,_,_,_,_,_,_,_,_,_,_,rfl,⟨sa0,sk0,rfl,_⟩,⟨sa1,sk1,rfl,_⟩,⟨sa2,sk2,rfl,_⟩,⟨sa3,sk3,rfl,_⟩,⟨sa4,sk4,rfl,_⟩,_⟩:=HD1
 replace hD0:=hD0.putW CtlP.keepsO (b:=w.heap.size+1+1) (k:=0) (ds:=[.slice ta0 x.sig.length tk0]) (.inl (by omega))
 replace hD0:=hD0.ext CtlP.keepsO hb1
 have A2:=(A1.otherW (b:=w.heap.size+1+1) (k:=0) (ds:=[.slice ta0 x.sig.length tk0]) (by omega)).ext hb1
 have R2:=(R1.otherW (b:=w.heap.size+1+1) (k:=0) (ds:=[.slice ta0 x.sig.length tk0]) (by omega)).ext hb1
 have O2:=(O1.setW (k:=0) (ds:=[.slice ta0 x.sig.length tk0])).ext hb1
 (try simp only [putAt,List.set_cons_zero,List.set_cons_succ] at O2)
 clear A1 R1 O1
 obtain ⟨o1,of1⟩:=O2 1 _ rfl
 obtain ⟨o2,of2⟩:=O2 2 _ rfl
 obtain ⟨o3,of3⟩:=O2 3 _ rfl
 obtain ⟨o4,of4⟩:=O2 4 _ rfl
 obtain ⟨o5,of5⟩:=O2 5 _ rfl
 have a6:=(A2 6 _ rfl).1
 go_wp2_with fail
 refine (c_laws_toRuleS lo hi _ _ _ (e6.keeps RulP.keeps (Same.ext xw)) (by omega)).mono ?_
 rintro e y2 ⟨t2,rfl,hD2,hb2⟩
 have z2:=Below.size hb2
 (try simp only [World.size_alloc,World.size_setCell] at z2 hD2)
 have HD2:=hD2
 obtain ⟨ta2,tk2,rfl,_⟩:=HD2
 replace hD0:=hD0.putW CtlP.keepsO (b:=w.heap.size+1+1) (k:=1) (ds:=[.slice sa0 x.sort.tops.length sk0,.slice sa1 x.sort.nest.length sk1,.slice sa2 x.sort.sorts.length sk2,.slice sa3 x.sort.most.length sk3,.slice sa4 x.sort.apart.length sk4]) (.inl (by omega))
 replace hD1:=SrtO.keepsO.putW (b:=w.heap.size+1+1) (k:=1) (ds:=[.slice sa0 x.sort.tops.length sk0,.slice sa1 x.sort.nest.length sk1,.slice sa2 x.sort.sorts.length sk2,.slice sa3 x.sort.most.length sk3,.slice sa4 x.sort.apart.length sk4]) hD1 (.inl (by omega))
 replace hD0:=hD0.ext CtlP.keepsO hb2
 replace hD1:=SrtO.keepsO.ext hD1 hb2
 have A3:=(A2.otherW (b:=w.heap.size+1+1) (k:=1) (ds:=[.slice sa0 x.sort.tops.length sk0,.slice sa1 x.sort.nest.length sk1,.slice sa2 x.sort.sorts.length sk2,.slice sa3 x.sort.most.length sk3,.slice sa4 x.sort.apart.length sk4]) (by omega)).ext hb2
 have R3:=(R2.otherW (b:=w.heap.size+1+1) (k:=1) (ds:=[.slice sa0 x.sort.tops.length sk0,.slice sa1 x.sort.nest.length sk1,.slice sa2 x.sort.sorts.length sk2,.slice sa3 x.sort.most.length sk3,.slice sa4 x.sort.apart.length sk4]) (by omega)).ext hb2
 have O3:=(O2.setW (k:=1) (ds:=[.slice sa0 x.sort.tops.length sk0,.slice sa1 x.sort.nest.length sk1,.slice sa2 x.sort.sorts.length sk2,.slice sa3 x.sort.most.length sk3,.slice sa4 x.sort.apart.length sk4])).ext hb2
 (try simp only [putAt,List.set_cons_zero,List.set_cons_succ] at O3)
 clear A2 R2 O2
 obtain ⟨o6,of6⟩:=O3 6 _ rfl
 have a7:=(A3 7 _ rfl).1
 go_wp2_with fail
 refine (c_laws_toStringS lo hi _ _ _ (e7.keeps StrP.keeps (Same.ext xw)) (by omega)).mono ?_
 rintro e y3 ⟨t3,rfl,hD3,hb3⟩
 have z3:=Below.size hb3
 (try simp only [World.size_alloc,World.size_setCell] at z3 hD3)
 have HD3:=hD3
 obtain ⟨ta3,tk3,rfl,_⟩:=HD3
 replace hD0:=hD0.putW CtlP.keepsO (b:=w.heap.size+1+1) (k:=6) (ds:=[.slice ta2 x.rules.length tk2]) (.inl (by omega))
 replace hD1:=SrtO.keepsO.putW (b:=w.heap.size+1+1) (k:=6) (ds:=[.slice ta2 x.rules.length tk2]) hD1 (.inl (by omega))
 replace hD2:=hD2.putW RulO.keepsO (b:=w.heap.size+1+1) (k:=6) (ds:=[.slice ta2 x.rules.length tk2]) (.inl (by omega))
 replace hD0:=hD0.ext CtlP.keepsO hb3
 replace hD1:=SrtO.keepsO.ext hD1 hb3
 replace hD2:=hD2.ext RulO.keepsO hb3
 have A4:=(A3.otherW (b:=w.heap.size+1+1) (k:=6) (ds:=[.slice ta2 x.rules.length tk2]) (by omega)).ext hb3
 have R4:=(R3.otherW (b:=w.heap.size+1+1) (k:=6) (ds:=[.slice ta2 x.rules.length tk2]) (by omega)).ext hb3
 have O4:=(O3.setW (k:=6) (ds:=[.slice ta2 x.rules.length tk2])).ext hb3
 (try simp only [putAt,List.set_cons_zero,List.set_cons_succ] at O4)
 clear A3 R3 O3
 obtain ⟨o7,of7⟩:=O4 7 _ rfl
 have a8:=(A4 8 _ rfl).1
 have a9:=(A4 9 _ rfl).1
 have a10:=(A4 10 _ rfl).1
 have a11:=(A4 11 _ rfl).1
 have a12:=(A4 12 _ rfl).1
 have a13:=(A4 13 _ rfl).1
 go_wp2_with fail
 refine (c_laws_toBigraph lo hi _ _ _ (BigP.keeps _ _ _ _ _ _ (Same.ext xw) E8) (by omega)).mono ?_
 rintro e y4 ⟨dd4,rfl,hD4,hb4⟩
 have z4:=Below.size hb4
 (try simp only [World.size_alloc,World.size_setCell] at z4 hD4)
 have HD4:=hD4
 obtain ⟨_,_,_,_,_,_,_,_,_,_,_,_,rfl,_,_,⟨pa1,pk1,rfl,_⟩,⟨pa2,pk2,rfl,_⟩,⟨pa4,pk4,rfl,_⟩,⟨pa5,pk5,rfl,_⟩,_⟩:=HD4
 replace hD0:=hD0.putW CtlP.keepsO (b:=w.heap.size+1+1) (k:=7) (ds:=[.slice ta3 x.hosts.length tk3]) (.inl (by omega))
 replace hD1:=SrtO.keepsO.putW (b:=w.heap.size+1+1) (k:=7) (ds:=[.slice ta3 x.hosts.length tk3]) hD1 (.inl (by omega))
 replace hD2:=hD2.putW RulO.keepsO (b:=w.heap.size+1+1) (k:=7) (ds:=[.slice ta3 x.hosts.length tk3]) (.inl (by omega))
 replace hD3:=hD3.putW StrP.keepsO (b:=w.heap.size+1+1) (k:=7) (ds:=[.slice ta3 x.hosts.length tk3]) (.inl (by omega))
 replace hD0:=hD0.ext CtlP.keepsO hb4
 replace hD1:=SrtO.keepsO.ext hD1 hb4
 replace hD2:=hD2.ext RulO.keepsO hb4
 replace hD3:=hD3.ext StrP.keepsO hb4
 have A5:=(A4.otherW (b:=w.heap.size+1+1) (k:=7) (ds:=[.slice ta3 x.hosts.length tk3]) (by omega)).ext hb4
 have R5:=(R4.otherW (b:=w.heap.size+1+1) (k:=7) (ds:=[.slice ta3 x.hosts.length tk3]) (by omega)).ext hb4
 have O5:=(O4.setW (k:=7) (ds:=[.slice ta3 x.hosts.length tk3])).ext hb4
 (try simp only [putAt,List.set_cons_zero,List.set_cons_succ] at O5)
 clear A4 R4 O4
 obtain ⟨r0,rf0⟩:=R5 0 _ rfl
 obtain ⟨o0,of0⟩:=O5 0 _ rfl
 obtain ⟨r1,rf1⟩:=R5 1 _ rfl
 obtain ⟨o1,of1⟩:=O5 1 _ rfl
 obtain ⟨r2,rf2⟩:=R5 2 _ rfl
 obtain ⟨o2,of2⟩:=O5 2 _ rfl
 obtain ⟨r3,rf3⟩:=R5 3 _ rfl
 obtain ⟨o3,of3⟩:=O5 3 _ rfl
 obtain ⟨r4,rf4⟩:=R5 4 _ rfl
 obtain ⟨o4,of4⟩:=O5 4 _ rfl
 obtain ⟨r5,rf5⟩:=R5 5 _ rfl
 obtain ⟨o5,of5⟩:=O5 5 _ rfl
 obtain ⟨r6,rf6⟩:=R5 6 _ rfl
 obtain ⟨o6,of6⟩:=O5 6 _ rfl
 obtain ⟨r7,rf7⟩:=R5 7 _ rfl
 obtain ⟨o7,of7⟩:=O5 7 _ rfl
 obtain ⟨r8,rf8⟩:=R5 8 _ rfl
 obtain ⟨o8,of8⟩:=O5 8 _ rfl
 obtain ⟨r9,rf9⟩:=R5 9 _ rfl
 obtain ⟨o9,of9⟩:=O5 9 _ rfl
 obtain ⟨r10,rf10⟩:=R5 10 _ rfl
 obtain ⟨o10,of10⟩:=O5 10 _ rfl
 obtain ⟨r11,rf11⟩:=R5 11 _ rfl
 obtain ⟨o11,of11⟩:=O5 11 _ rfl
 obtain ⟨r12,rf12⟩:=R5 12 _ rfl
 obtain ⟨o12,of12⟩:=O5 12 _ rfl
 obtain ⟨r13,rf13⟩:=R5 13 _ rfl
 obtain ⟨o13,of13⟩:=O5 13 _ rfl
 have a14:=(A5 14 _ rfl).1
 obtain ⟨r14,rf14⟩:=R5 14 _ rfl
 obtain ⟨o14,of14⟩:=O5 14 _ rfl
 go_wp2_with fail
 refine bodyPost_ret (v:=.agg #[.slice ta0 x.sig.length tk0,.slice sa0 x.sort.tops.length sk0,.slice sa1 x.sort.nest.length sk1,.slice sa2 x.sort.sorts.length sk2,.slice sa3 x.sort.most.length sk3,.slice sa4 x.sort.apart.length sk4,.slice ta2 x.rules.length tk2,.slice ta3 x.hosts.length tk3,.int .i64 x.agent.roots,.slice pa1 x.agent.nodes.length pk1,.slice pa2 x.agent.sites.length pk2,.int .i64 x.agent.edges,.slice pa4 x.agent.outer.length pk4,.slice pa5 x.agent.inner.length pk5,.int .i64 x.count]) ?_ rfl ⟨[.slice ta0 x.sig.length tk0,.slice sa0 x.sort.tops.length sk0,.slice sa1 x.sort.nest.length sk1,.slice sa2 x.sort.sorts.length sk2,.slice sa3 x.sort.most.length sk3,.slice sa4 x.sort.apart.length sk4,.slice ta2 x.rules.length tk2,.slice ta3 x.hosts.length tk3,.int .i64 x.agent.roots,.slice pa1 x.agent.nodes.length pk1,.slice pa2 x.agent.sites.length pk2,.int .i64 x.agent.edges,.slice pa4 x.agent.outer.length pk4,.slice pa5 x.agent.inner.length pk5,.int .i64 x.count],rfl,?_,xw⟩
 ·simp [results,Tryz.results11,go_sem,r0,r1,r2,r3,r4,r5,r6,r7,r8,r9,r10,r11,r12,r13,r14]
 ·exact ⟨_,[.slice sa0 x.sort.tops.length sk0,.slice sa1 x.sort.nest.length sk1,.slice sa2 x.sort.sorts.length sk2,.slice sa3 x.sort.most.length sk3,.slice sa4 x.sort.apart.length sk4],_,_,[.int .i64 x.agent.roots,.slice pa1 x.agent.nodes.length pk1,.slice pa2 x.agent.sites.length pk2,.int .i64 x.agent.edges,.slice pa4 x.agent.outer.length pk4,.slice pa5 x.agent.inner.length pk5],_,_,_,_,_,_,_,_,_,_,rfl,(SlO.putW CtlP.keepsO (b:=w.heap.size+1) (k:=0) (ds:=[.slice ta0 x.sig.length tk0,.slice sa0 x.sort.tops.length sk0,.slice sa1 x.sort.nest.length sk1,.slice sa2 x.sort.sorts.length sk2,.slice sa3 x.sort.most.length sk3,.slice sa4 x.sort.apart.length sk4,.slice ta2 x.rules.length tk2,.slice ta3 x.hosts.length tk3,.int .i64 x.agent.roots,.slice pa1 x.agent.nodes.length pk1,.slice pa2 x.agent.sites.length pk2,.int .i64 x.agent.edges,.slice pa4 x.agent.outer.length pk4,.slice pa5 x.agent.inner.length pk5,.int .i64 x.count]) (SlO.putW CtlP.keepsO (b:=w.heap.size+1+1) (k:=14) (ds:=[.int .i64 x.count]) (SlO.putW CtlP.keepsO (b:=w.heap.size+1+1) (k:=8) (ds:=[.int .i64 x.agent.roots,.slice pa1 x.agent.nodes.length pk1,.slice pa2 x.agent.sites.length pk2,.int .i64 x.agent.edges,.slice pa4 x.agent.outer.length pk4,.slice pa5 x.agent.inner.length pk5]) hD0 (.inl (by omega))) (.inl (by omega))) (.inl (by omega))),(SrtO.keepsO.putW (b:=w.heap.size+1) (k:=0) (ds:=[.slice ta0 x.sig.length tk0,.slice sa0 x.sort.tops.length sk0,.slice sa1 x.sort.nest.length sk1,.slice sa2 x.sort.sorts.length sk2,.slice sa3 x.sort.most.length sk3,.slice sa4 x.sort.apart.length sk4,.slice ta2 x.rules.length tk2,.slice ta3 x.hosts.length tk3,.int .i64 x.agent.roots,.slice pa1 x.agent.nodes.length pk1,.slice pa2 x.agent.sites.length pk2,.int .i64 x.agent.edges,.slice pa4 x.agent.outer.length pk4,.slice pa5 x.agent.inner.length pk5,.int .i64 x.count]) (SrtO.keepsO.putW (b:=w.heap.size+1+1) (k:=14) (ds:=[.int .i64 x.count]) (SrtO.keepsO.putW (b:=w.heap.size+1+1) (k:=8) (ds:=[.int .i64 x.agent.roots,.slice pa1 x.agent.nodes.length pk1,.slice pa2 x.agent.sites.length pk2,.int .i64 x.agent.edges,.slice pa4 x.agent.outer.length pk4,.slice pa5 x.agent.inner.length pk5]) hD1 (.inl (by omega))) (.inl (by omega))) (.inl (by omega))),(SlO.putW RulO.keepsO (b:=w.heap.size+1) (k:=0) (ds:=[.slice ta0 x.sig.length tk0,.slice sa0 x.sort.tops.length sk0,.slice sa1 x.sort.nest.length sk1,.slice sa2 x.sort.sorts.length sk2,.slice sa3 x.sort.most.length sk3,.slice sa4 x.sort.apart.length sk4,.slice ta2 x.rules.length tk2,.slice ta3 x.hosts.length tk3,.int .i64 x.agent.roots,.slice pa1 x.agent.nodes.length pk1,.slice pa2 x.agent.sites.length pk2,.int .i64 x.agent.edges,.slice pa4 x.agent.outer.length pk4,.slice pa5 x.agent.inner.length pk5,.int .i64 x.count]) (SlO.putW RulO.keepsO (b:=w.heap.size+1+1) (k:=14) (ds:=[.int .i64 x.count]) (SlO.putW RulO.keepsO (b:=w.heap.size+1+1) (k:=8) (ds:=[.int .i64 x.agent.roots,.slice pa1 x.agent.nodes.length pk1,.slice pa2 x.agent.sites.length pk2,.int .i64 x.agent.edges,.slice pa4 x.agent.outer.length pk4,.slice pa5 x.agent.inner.length pk5]) hD2 (.inl (by omega))) (.inl (by omega))) (.inl (by omega))),(SlO.putW StrP.keepsO (b:=w.heap.size+1) (k:=0) (ds:=[.slice ta0 x.sig.length tk0,.slice sa0 x.sort.tops.length sk0,.slice sa1 x.sort.nest.length sk1,.slice sa2 x.sort.sorts.length sk2,.slice sa3 x.sort.most.length sk3,.slice sa4 x.sort.apart.length sk4,.slice ta2 x.rules.length tk2,.slice ta3 x.hosts.length tk3,.int .i64 x.agent.roots,.slice pa1 x.agent.nodes.length pk1,.slice pa2 x.agent.sites.length pk2,.int .i64 x.agent.edges,.slice pa4 x.agent.outer.length pk4,.slice pa5 x.agent.inner.length pk5,.int .i64 x.count]) (SlO.putW StrP.keepsO (b:=w.heap.size+1+1) (k:=14) (ds:=[.int .i64 x.count]) (SlO.putW StrP.keepsO (b:=w.heap.size+1+1) (k:=8) (ds:=[.int .i64 x.agent.roots,.slice pa1 x.agent.nodes.length pk1,.slice pa2 x.agent.sites.length pk2,.int .i64 x.agent.edges,.slice pa4 x.agent.outer.length pk4,.slice pa5 x.agent.inner.length pk5]) hD3 (.inl (by omega))) (.inl (by omega))) (.inl (by omega))),(BigO.keepsO.putW (b:=w.heap.size+1) (k:=0) (ds:=[.slice ta0 x.sig.length tk0,.slice sa0 x.sort.tops.length sk0,.slice sa1 x.sort.nest.length sk1,.slice sa2 x.sort.sorts.length sk2,.slice sa3 x.sort.most.length sk3,.slice sa4 x.sort.apart.length sk4,.slice ta2 x.rules.length tk2,.slice ta3 x.hosts.length tk3,.int .i64 x.agent.roots,.slice pa1 x.agent.nodes.length pk1,.slice pa2 x.agent.sites.length pk2,.int .i64 x.agent.edges,.slice pa4 x.agent.outer.length pk4,.slice pa5 x.agent.inner.length pk5,.int .i64 x.count]) (BigO.keepsO.putW (b:=w.heap.size+1+1) (k:=14) (ds:=[.int .i64 x.count]) (BigO.keepsO.putW (b:=w.heap.size+1+1) (k:=8) (ds:=[.int .i64 x.agent.roots,.slice pa1 x.agent.nodes.length pk1,.slice pa2 x.agent.sites.length pk2,.int .i64 x.agent.edges,.slice pa4 x.agent.outer.length pk4,.slice pa5 x.agent.inner.length pk5]) hD4 (.inl (by omega))) (.inl (by omega))) (.inl (by omega))),ec,(by refine ⟨?_,?_⟩ <;> simp [Off] <;> omega)⟩
end Go.Proofs.YtccjepndhlobpaaGreatDoor
