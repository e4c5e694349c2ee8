/-
  Proved facts that the law leans on.
-/
import Derived.Test.YtclpbhoekmecjaaGreatDoorZU3
import Derived.Test.YtclpbhoekmecjaaGreatDoorZU5
import Derived.Test.YtclpbhoekmecjaaGreatDoorRows
import Derived.WalkSpells
import Derived.WalkLawsBesides
import Derived.BigQuiet
import Derived.Deep.DeepMust
namespace Go.Proofs.YtclpbhoekmecjaaGreatDoor
open Go.RowKit
set_option linter.unusedVariables false
set_option linter.unusedSimpArgs false
attribute [local irreducible] sC
def pq (r:Int):ByteArray:=if 0<r then sC r else ⟨#[]⟩
theorem xM (r:Int) (h:0<r):pq r=pq (r / 10)++sC (r % 10):=by
 unfold pq
 rw [if_pos h]
 by_cases h1:10≤r
 ·rw [if_pos (by omega),Dd r h1]
 ·rw [if_neg (by omega),show r % 10=r by omega]
  rfl
theorem BH (k:Int) (h0:0≤k) (h:k<10):sC k=⟨#[UInt8.ofNat (48+k).toNat]⟩:=by
 rw [← yR k h0 h]
 have:k=0∨k=1∨k=2∨k=3∨k=4∨k=5∨k=6∨k=7∨k=8∨k=9:=by omega
 rcases this with rfl|rfl|rfl|rfl|rfl|rfl|rfl|rfl|rfl|rfl <;> rfl
theorem Dk (w:World) (x:Int) (t:TypeId) (h0:0≤x) (h1:x≤255):Ih (w.alloc (.cells #[.int .u8 x] t)) w.heap.size ⟨#[UInt8.ofNat x.toNat]⟩:=by
 intro j hj
 have hj0:j=0:=by simpa using hj
 subst hj0
 have e:((UInt8.ofNat x.toNat).toNat:Int)=x:=by
  have:(UInt8.ofNat x.toNat).toNat=x.toNat % 256:=rfl
  rw [this]
  omega
 rw [World.cell?_alloc_at #[.int .u8 x] t w.heap.size 0 rfl]
 simp [e]
 omega
attribute [local irreducible] pq jI
set_option maxRecDepth 100000 in
set_option maxHeartbeats 800000 in
theorem oR (n:Int) (w:World) (h0:0≤n) (h1:n≤1000000000) :
 Calls Tryz.prog 69 #[.int .i64 n] w fun e w'=>e=.returned (.string (jI n))∧Ext w w':=by
 by_cases hn:n≤0
 ·go_enter Tryz.func69,Tryz.ntmps69
  go_wp2
  go_ret
  exact ⟨zF (by unfold jI;rw [if_pos hn]),xw⟩
 ·go_enter Tryz.func69,Tryz.ntmps69
  go_wp2
  go_loopw [0,3] (fun a t wr=>∃(r:Int) (s:ByteArray),a=.int .i64 r∧t=.string s∧0≤r∧r≤n∧Ext w wr∧Hid (sC n=pq r++s)) (fun a _ _=>(intOf a).toNat)
  case atStart=>
   exact ⟨n,⟨#[]⟩,rfl,rfl,h0,Int.le_refl _,xw,Lib.hid (by unfold pq;rw [if_pos (by omega)];exact (ByteArray.ext (by simp)))⟩
  case round=>
   obtain ⟨r,s,rfl,rfl,hr,hrn,hx,HD⟩:=hrel
   have hsz:s.size≤21:=by
    have h2:=ww n (by omega) (by omega)
    rw [HD.out,ByteArray.size_append] at h2
    omega
   by_cases hp:0<r
   ·have hdg:=BH (r % 10) (by omega) (by omega)
    have hl:=Dk wr (48+r % 10) 5 (by omega) (by omega)
    rw [← hdg] at hl
    have hds:(sC (r % 10)).size=1:=by rw [hdg];rfl
    have hst:=Lib.hid (xM r hp)
    clear hdg
    go_wp2_with (refine vv rfl 153 9 5 (.tmp 12) rfl hl 1 1 hds rfl Tryz.underlying153 Tryz.underlying5 Tryz.underlying9 ?_)
    go_roundw
    case rel=>exact ⟨r / 10,sC (r % 10)++s,rfl,rfl,by omega,by omega,xw,Lib.hid (by rw [HD.out,hst.out,ByteArray.append_assoc])⟩
    ·simp only [intOf];omega
   ·have hr0:r=0:=by omega
    have hms:Hid (jI n=⟨#[109]⟩++s):=Lib.hid (by unfold jI;rw [if_neg (by omega),HD.out];unfold pq;rw [if_neg hp];exact congrArg _ (ByteArray.ext (by simp)))
    go_wp2
    go_ret
    exact ⟨zF hms.out.symm,xw⟩
end Go.Proofs.YtclpbhoekmecjaaGreatDoor
