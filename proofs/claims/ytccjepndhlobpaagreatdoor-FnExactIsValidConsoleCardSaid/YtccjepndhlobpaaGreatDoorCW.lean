/-
  Plain facts and facts on memory that the walks lean on.
-/
import Derived.Test.YtccjepndhlobpaaGreatDoorC0
import Derived.Test.YtccjepndhlobpaaGreatDoorShelfB
import Derived.Test.YtccjepndhlobpaaGreatDoorB0
import Derived.Deep.RegionHeld3
import Derived.Deep.DrawnRows
import Derived.Deep.DeepMust
import Derived.Deep.DeepFit
import Derived.Test.YtccjepndhlobpaaGreatDoorB1
import Derived.Deep.RegionWith
/-
  Walks: decimals and checksums.
-/
namespace Go.Proofs.YtccjepndhlobpaaGreatDoor
open Go.RowKit
set_option linter.unusedVariables false
set_option linter.unusedSimpArgs false

/-- What the library reads of its own variables. -/
def Env (w : World) : Prop := Lib.TabIs Tryz.prog w "internal/strconv.uint64pow10" .u64 Lib.pow10Tab ∧ ∃ m, w.cell? ⟨2, 0, none⟩ = some (.int .i64 m)
theorem pow10At : Tryz.prog.globalNamed "internal/strconv.uint64pow10" = some 3 := by kernel_rfl
theorem Env.ext {a w:World} (h:Env a) (hb:Ext a w):Env w:=⟨hb.var pow10At h.1,by obtain ⟨m,hm⟩:=h.2;exact ⟨m,hb.keep hm⟩⟩
theorem Env.alloc {w:World} (h:Env w) (o:Obj):Env (w.alloc o):=h.ext ((Ext.refl _).alloc o)
theorem Env.drew {w:World} (h:Env w):Env w.drew:=h.ext ((Ext.refl _).drew)
set_option maxHeartbeats 400000 in
theorem c_impl_dec (n:Int) (w:World) (he:Env w) (h0 : -9223372036854775808≤n) (h1:n≤9223372036854775807) :
 Calls Tryz.prog 253 #[.int .i64 n] w fun e w'=>e=.returned (.string (decS n))∧Ext w w':=by
 have hE:=Lib.hid he
 have H0:=Lib.hid h0
 have H1:=Lib.hid h1
 clear he h0 h1
 go_enter Tryz.func253,Tryz.ntmps253
 go_wp2_with fail
 refine (Tryz.strconv_Itoa n H0.out H1.out _ hE.out.1).mono ?_
 rintro e w' ⟨rfl,k,os,rfl⟩
 go_wp2
 go_ret
 exact ⟨rfl,((Ext.refl _).drewN k).grow os⟩
set_option maxHeartbeats 400000 in
theorem l1Num_pos (fuel:Nat):∀(u:Int) (w:World),u<fuel→0≤u→u≤9223372036854775807 →
 Calls Tryz.prog 225 #[.int .i64 u] w fun e w'=>e=.returned (.string (decS u))∧∃n,w'=w.drewN n:=by
 induction fuel with
 | zero=>intro u w h;omega
 | succ fuel ih=>
  intro u w hu h0 hm
  have IH:=Lib.hid ih
  clear ih
  obtain ⟨k,rfl⟩:=Int.eq_ofNat_of_zero_le h0
  by_cases h10:k<10
  ·have hp:=Lib.hid (decS_small k h0 (by omega))
   go_enter Tryz.func225,Tryz.ntmps225
   go_wp2_with fail
   go_ret
   exact ⟨ret_str (by have h:=hp.out;rw [Int.toNat_natCast] at h;exact h),0,rfl⟩
  ·have hp:=Lib.hid (decS_big k (by omega))
   have e1:=IntWalk.i64_in ((k:Int) / 10) (by omega)
   have e2:(k:Int).tmod 10=(k:Int) % 10:=Int.tmod_eq_emod_of_nonneg (by omega)
   have e3:=IntWalk.i64_in ((k:Int) % 10+1) (by omega)
   have z1:=decS_len ((k:Int) / 10) (by omega) (by omega)
   have z2:=decS_len ((k:Int) % 10) (by omega) (by omega)
   have hsl:∀wx,(Instr.slice 9 (.string ⟨#[48,49,50,51,52,53,54,55,56,57]⟩) (some (.int .i64 ((k:Int) % 10))) (some (.int .i64 ((k:Int) % 10+1))) none).run Tryz.prog wx=.ok (.string (decS ((k:Int) % 10))) wx:=by
    intro wx
    rw [run_slice_string wx 9 _ .i64 .i64 ((k:Int) % 10) ((k:Int) % 10+1) Tryz.underlying9 (by omega) (by omega) (by show (_:Int)≤((10:Nat):Int);omega),← decS_small ((k:Int) % 10) (by omega) (by omega),show ((k:Int) % 10+1).toNat=((k:Int) % 10).toNat+1 by omega]
   go_enter Tryz.func225,Tryz.ntmps225
   go_wp2_with fail
   go_quiet ((go_at_call 225;refine Calls.quiet_of (IH.out _ _ (by omega) (by omega) (by omega))))
   go_wp2
   go_ret
   exact ⟨ret_str hp.out,_,rfl⟩
theorem c_spec_l1Num (u:Int) (w:World) (h0 : -9223372036854775807≤u) (h1:u≤9223372036854775807) :
 Calls Tryz.prog 225 #[.int .i64 u] w fun e w'=>e=.returned (.string (decS u))∧∃n,w'=w.drewN n:=by
 by_cases h:0≤u
 ·exact l1Num_pos (u.toNat+1) u w (by omega) h h1
 ·have hp:=Lib.hid (decS_neg u (by omega))
  have z1:=decS_len (-u) (by omega) (by omega)
  have hneg:u<0:=by omega
  go_enter Tryz.func225,Tryz.ntmps225
  go_wp2_with fail
  refine (l1Num_pos ((-u).toNat+1) (-u) _ (by omega) (by omega) (by omega)).mono ?_
  rintro e w' ⟨rfl,n,rfl⟩
  go_wp2
  go_ret
  exact ⟨ret_str hp.out,n,rfl⟩
theorem l1NumX (u:Int) (w:World) (h0 : -9223372036854775807≤u) (h1:u≤9223372036854775807) :
 Calls Tryz.prog 225 #[.int .i64 u] w fun e w'=>e=.returned (.string (decS u))∧Ext w w':=
 (c_spec_l1Num u w h0 h1).mono fun _ _ ⟨h,n,k⟩=>⟨h,by rw [k];exact (Ext.refl w).drewN n⟩
set_option maxHeartbeats 400000 in
theorem c_spec_l1Sum (s:ByteArray) (w:World) (hs:s.size≤maxLen) :
 Calls Tryz.prog 249 #[.string s] w fun e w'=>e=.returned (.int .i64 (sumB s))∧w=w':=by
 unfold maxLen at hs
 go_enter Tryz.func249,Tryz.ntmps249
 go_wp2
 go_loop [3,4] (fun h i=>∃k:Nat,k≤s.size∧i=.int .i64 k∧h=.int .i64 (sumL 7 (s.data.toList.take k))) (fun _ i=>s.size - (intOf i).toNat)
 case atStart=>exact ⟨0,Nat.zero_le _,rfl,rfl⟩
 case round=>
  obtain ⟨k,hk,rfl,rfl⟩:=hrel
  have hd:=sumL_bd 7 (s.data.toList.take k) (by decide) (by decide)
  obtain ⟨hd0,hd1⟩:=hd
  by_cases hlt:k<s.size
  ·have hb:=byte_lt s k hlt
   have HS:Hid (sumL 7 (s.data.toList.take (k+1))=(41 * sumL 7 (s.data.toList.take k)+(s[k].toNat:Int)+1) % 999979):=by rw [take_snoc s k hlt];exact sumL_snoc _ _ _
   go_wp2
   go_round
   case rel=>exact ⟨k+1,by omega,by go_num,by rw [HS.out]⟩
   case measure=>simp [intOf];omega
  ·go_wp2
   go_ret
   exact ⟨ret_int (by rw [take_all s k hlt];rfl),rfl⟩
set_option maxHeartbeats 400000 in
theorem c_impl_checksum (s:ByteArray) (w:World) (hs:s.size≤maxLen) :
 Calls Tryz.prog 258 #[.string s] w fun e w'=>e=.returned (.int .i64 (sumB s))∧w=w':=by
 unfold maxLen at hs
 go_enter Tryz.func258,Tryz.ntmps258
 go_wp2
 go_loop [3,4,7] (fun h _ i=>∃k:Nat,k≤s.size∧i=.int .i64 k∧h=.int .i64 (sumL 7 (s.data.toList.take k))) (fun _ _ i=>s.size - (intOf i).toNat)
 case atStart=>exact ⟨0,Nat.zero_le _,rfl,rfl⟩
 case round=>
  obtain ⟨k,hk,rfl,rfl⟩:=hrel
  have hd:=sumL_bd 7 (s.data.toList.take k) (by decide) (by decide)
  obtain ⟨hd0,hd1⟩:=hd
  by_cases hlt:k<s.size
  ·have hb:=byte_lt s k hlt
   have HS:Hid (sumL 7 (s.data.toList.take (k+1))=(41 * sumL 7 (s.data.toList.take k)+(s[k].toNat:Int)+1) % 999979):=by rw [take_snoc s k hlt];exact sumL_snoc _ _ _
   go_wp2
   go_round
   case rel=>exact ⟨k+1,by omega,by go_num,by rw [HS.out]⟩
   case measure=>simp [intOf];omega
  ·go_wp2
   go_ret
   exact ⟨ret_int (by rw [take_all s k hlt];rfl),rfl⟩
set_option maxHeartbeats 400000 in
theorem c_spec_l1Seal (s:ByteArray) (w:World) (hs:s.size≤1000000000) :
 Calls Tryz.prog 237 #[.string s] w fun e w'=>e=.returned (.string (sealB s))∧∃n,w'=w.drewN n:=by
 have hb:=sumB_bd s
 obtain ⟨hb0,hb1⟩:=hb
 have z1:=decS_len (sumB s) (by omega) (by omega)
 have hs':s.size≤maxLen:=by unfold maxLen;omega
 go_enter Tryz.func237,Tryz.ntmps237
 go_wp2_with (first|(go_at_call 249;refine (c_spec_l1Sum _ _ hs').mono ?_;rintro e w' ⟨rfl,rfl⟩)|(go_at_call 225;refine (c_spec_l1Num _ _ (by omega) (by omega)).mono ?_;rintro e w' ⟨rfl,n,rfl⟩))
 go_ret
 exact ⟨rfl,_,rfl⟩
set_option maxHeartbeats 400000 in
theorem c_impl_AppendChecksum (s:ByteArray) (w:World) (he:Env w) (hs:s.size≤maxLen) :
 Calls Tryz.prog 251 #[.string s] w fun e w'=>e=.returned (.tuple #[.string (acStr s),.bool (acOk s)])∧Ext w w':=by
 have hb:=sumB_bd s
 obtain ⟨hb0,hb1⟩:=hb
 have z1:=decS_len (sumB s) (by omega) (by omega)
 have hE:=Lib.hid he
 clear he
 have hs':s.size≤9223372036854775807:=by unfold maxLen at hs;omega
 go_enter Tryz.func251,Tryz.ntmps251
 go_wp2_with (first|(go_at_call 258;refine (c_impl_checksum _ _ hs).mono ?_;rintro e w' ⟨rfl,rfl⟩)|(go_at_call 257;refine (contains1 _ 35 _).mono ?_;rintro e w' ⟨rfl,rfl⟩)|(go_at_call 253;refine (c_impl_dec _ _ hE.out (by omega) (by omega)).mono ?_;rintro e w1 ⟨rfl,hb1⟩;obtain ⟨hc1,hf1,hz1⟩:=hb1.cells;(try simp only [World.size_alloc] at hc1 hf1 hz1)))
 all_goals (go_ret2;refine ⟨ret_sb ?_ ?_,xw⟩)
 all_goals simp only [acStr,acOk,fits,sealB_size,Array.getD]
 all_goals simp_all
 all_goals grind [sealB]
end Go.Proofs.YtccjepndhlobpaaGreatDoor

/-
  Walks: the encodings of records.
-/
namespace Go.Proofs.YtccjepndhlobpaaGreatDoor
open Go.RowKit
set_option linter.unusedVariables false
set_option linter.unusedSimpArgs false

set_option maxHeartbeats 400000 in
theorem c_spec_l13Line (k:Int) (c r:ByteArray) (w:World) (hk:0≤k) (hk1:k≤1000000) (hc:c.size≤160) (hr:r.size≤200) :
 Calls Tryz.prog 227 #[.int .i64 k,.agg #[.string c,.string r]] w fun e w'=>e=.returned (.string (lineB k c r))∧Ext w w':=by
 have z1:=decS_len k (by omega) (by omega)
 have z2:=textB_le (k:=k) (by omega) (by omega) hc hr
 have b:=sumB_bd (textB k c r)
 have z3:=decS_len (sumB (textB k c r)) (by omega) (by omega)
 have e2:=sealB_size (textB k c r)
 have z4:(sealB (textB k c r)).size≤500:=by omega
 have HT:=Lib.hid (show textB k c r=decS k ++ ⟨#[32]⟩++c ++ ⟨#[64]⟩++r from rfl)
 have Z2:=Lib.hid z2
 clear e2 b z3
 go_enter Tryz.func227,Tryz.ntmps227
 go_wp2_with fail
 go_quiet (first|((go_at_call 225;refine Calls.quiet_of (c_spec_l1Num _ _ (by omega) (by omega))))|((go_at_call 237;rw [← HT.out];refine Calls.quiet_of (c_spec_l1Seal _ _ (by omega)))))
 go_wp2
 go_ret
 exact ⟨rfl,xw⟩
set_option maxHeartbeats 400000 in
theorem c_impl_EncodeRecord (k:Int) (c r:ByteArray) (w:World) (he:Env w) (hc:c.size≤maxLen) (hr:r.size≤maxLen) :
 Calls Tryz.prog 240 #[.int .i64 k,.agg #[.string c,.string r]] w fun e w'=>e=.returned (.tuple #[.string (encStr k c r),.bool (encOk k c r)])∧Ext w w':=by
 have hE:=Lib.hid he
 clear he
 cases h1:inR k 0 59
 ·have H1:=Lib.hid h1
  clear h1
  go_enter Tryz.func240,Tryz.ntmps240
  go_wp2_with (first|(go_at_call 55;refine (c_impl_within _ _ _ _).mono ?_;rintro e w' ⟨rfl,rfl⟩;rw [H1.out]))
  all_goals (go_ret2;refine ⟨ret_sb ?_ ?_,xw⟩)
  all_goals simp [encStr,encOk,H1.out]
 ·have H1:=Lib.hid h1
  have hk:0≤k∧k≤59:=by simpa [inR] using h1
  obtain ⟨hk0,hk1⟩:=hk
  cases h2:recB c r
  ·have H2:=Lib.hid h2
   clear h1 h2
   go_enter Tryz.func240,Tryz.ntmps240
   go_wp2_with (first|(go_at_call 55;refine (c_impl_within _ _ _ _).mono ?_;rintro e w' ⟨rfl,rfl⟩;rw [H1.out])|(go_at_call 252;refine (c_impl_IsValidRecord _ _ _ hc hr).mono ?_;rintro e w1 ⟨rfl,hb1⟩;rw [H2.out]))
   all_goals (go_ret2;refine ⟨ret_sb ?_ ?_,xw⟩)
   all_goals simp [encStr,encOk,H2.out]
  ·have H2:=Lib.hid h2
   obtain ⟨q1,q2,_,_,_,_⟩:=recB_parts h2
   have HO:=Lib.hid (textB_ok (k:=k) (c:=c) (r:=r) (by unfold encOk;rw [h1,h2];rfl))
   clear h1 h2
   have z1:=decS_len k (by omega) (by omega)
   have HT:=Lib.hid (show textB k c r=decS k ++ ⟨#[32]⟩++c ++ ⟨#[64]⟩++r from rfl)
   have Z2:=Lib.hid (textB_le (k:=k) (by omega) (by omega) q1 q2)
   go_enter Tryz.func240,Tryz.ntmps240
   go_wp2_with (first|(go_at_call 55;refine (c_impl_within _ _ _ _).mono ?_;rintro e w' ⟨rfl,rfl⟩;rw [H1.out])|(go_at_call 252;refine (c_impl_IsValidRecord _ _ _ hc hr).mono ?_;rintro e w1 ⟨rfl,hb1⟩;rw [H2.out]))
   have hE1:=Lib.hid ((hE.out.alloc (.cells #[.string c,.string r] 216)).ext hb1)
   have g0:=hb1.keep (show (w.alloc (.cells #[.string c,.string r] 216)).cell? ⟨w.heap.size,0,none⟩=some (.string c) by simp)
   have g1:=hb1.keep (show (w.alloc (.cells #[.string c,.string r] 216)).cell? ⟨w.heap.size,1,none⟩=some (.string r) by simp)
   have n1:¬9223372036854775807<(decS k).size+1:=by omega
   have n2:¬9223372036854775807<(decS k).size+1+c.size:=by omega
   have n3:¬9223372036854775807<(decS k).size+1+c.size+1:=by omega
   have n4:¬9223372036854775807<(decS k).size+1+c.size+1+r.size:=by omega
   have z5:=acStr_size (textB k c r)
   go_region_held3 (fun w'=>w'.cell? ⟨w.heap.size,0,none⟩=some (.string c)∧w'.cell? ⟨w.heap.size,1,none⟩=some (.string r)∧Env w'∧Ext w w')
    (first|exact ⟨g0,g1,hE1.out.drew,(((Ext.refl _).alloc _).trans hb1).drew⟩|exact ⟨(hb2.keep g0),(hb2.keep g1),hE1.out.drew.ext hb2,(((Ext.refl _).alloc _).trans hb1).drew.trans hb2⟩|exact ⟨hb3.keep g2,hb3.keep g3,hE2.ext hb3,hx2.trans hb3⟩|fail)
    (first|(go_at_call 253;refine (c_impl_dec _ _ (hE1.out.drew) (by omega) (by omega)).mono ?_;rintro e w2 ⟨rfl,hb2⟩)|(go_at_call 251;rw [← HT.out];refine (c_impl_AppendChecksum _ _ (hE1.out.drew.ext hb2) (by have:=Z2.out;unfold maxLen;omega)).mono ?_;rintro e w3 ⟨rfl,hb3⟩;have g2:=hb2.keep g0;have g3:=hb2.keep g1;have hE2:=hE1.out.drew.ext hb2;have hx2:=(((Ext.refl w).alloc (.cells #[.string c,.string r] 216)).trans hb1).drew.trans hb2))
   go_wp2
   go_ret2
   refine ⟨ret_sb ?_ ?_,hx2.trans hb3⟩
   ·rw [encStr,encOk,H1.out,H2.out]
    show acStr (textB k c r)++_=lineB k c r
    rw [acStr,HO.out]
    rfl
   ·rw [encOk,H1.out,H2.out]
    exact HO.out
end Go.Proofs.YtccjepndhlobpaaGreatDoor

/-
  Walks: splitting.
-/
namespace Go.Proofs.YtccjepndhlobpaaGreatDoor
open Go.RowKit
set_option linter.unusedVariables false
set_option linter.unusedSimpArgs false

theorem infoStr:(Tryz.prog.info? 9).map (fun i=>(i.zero,i.size,i.bytes))=some (some (.string ⟨#[]⟩),1,16):=by kernel_rfl
set_option maxHeartbeats 1000000 in
theorem c_spec_l1Split (s:ByteArray) (b:Int) (w:World) (hs:s.size≤1000000000) :
 Calls Tryz.prog 197 #[.string s,.int .u8 b] w fun e w'=>∃g cap,e=.returned (.slice (some ⟨g,0,none⟩) (splitB s b).length cap) ∧
  w'.ownsRow w.heap.size 9 1 (.slice (some ⟨g,0,none⟩) (splitB s b).length cap) (splitB s b).length ((splitB s b).map .string)∧Ext w w':=by
 obtain ⟨i0,hi,hz0,hz1,hz2⟩:=info_parts infoStr
 go_enter Tryz.func197,Tryz.ntmps197
 go_wp2
 go_loopw [5,6,7] (fun v fr i wr=>∃(k f:Nat) (L:List ByteArray),k≤s.size∧f≤k∧fr=.int .i64 f∧i=.int .i64 k∧wr.ownsRow w.heap.size 9 1 v L.length (L.map .string)∧L.length≤k∧Ext w wr∧Hid (splitB s b=L++piecesB s b f k)) (fun _ _ i _=>s.size - (intOf i).toNat)
 case atStart=>exact ⟨0,0,[],Nat.zero_le _,Nat.le_refl _,rfl,rfl,World.ownsRow_made _ #[] 0 (Nat.le_refl _) (by decide) rfl,Nat.le_refl _,(Ext.refl _).alloc _,Lib.hid rfl⟩
 case round=>
  obtain ⟨k,f,L,hk,hf,rfl,rfl,hown,hL,hx,HP⟩:=hrel
  by_cases hlt:k<s.size
  ·have hb0:=byte_lt s k hlt
   cases h2:(s[k].toNat:Int) == b
   ·have HM:=Lib.hid (piecesB_miss s b f k hlt hf h2)
    go_wp2
    go_roundw
    case rel=>exact ⟨k+1,f,L,by omega,by omega,rfl,by go_num,hown,by omega,hx,Lib.hid (by rw [HP.out,HM.out])⟩
    case measure=>simp [intOf];omega
   ·have HM:=Lib.hid (piecesB_hit s b f k hlt h2)
    go_wp2_with (at_builtin;refine wpList_append_lies _ rfl _ _ 29 rfl w.heap.size 9 i0 _ 1 16 Tryz.underlying29 hi hz0 hz1 hz2 rfl (by decide) _ L.length _ rfl (hown.alloc _) ⟨wr.heap.size,0,none⟩ 1 1 [.string (s.extract f k)] rfl rfl (one_cell rfl) (by simp [Value.oneCell']) (by decide) (by unfold maxLen;omega) (by omega) (by have:=Below.size hx;simp;omega) (wr.heap.size+1) (by simp) ?_;intro g cap w1 hown1 hgrow hat hlt1)
    go_roundw
    case rel=>
     refine ⟨k+1,k+1,L++[s.extract f k],by omega,by omega,by go_num,by go_num,?_,by simp;omega,(hx.alloc _).grown hgrow (hown.alloc _) (Nat.le_refl _),Lib.hid (by rw [HP.out,HM.out];simp)⟩
     rw [List.length_append,List.map_append];exact hown1
    case measure=>simp [intOf];omega
  ·have HM:=Lib.hid (piecesB_end s b f k hlt hk)
   have hfs:f≤s.size:=by omega
   go_wp2_with (at_builtin;refine wpList_append_lies _ rfl _ _ 29 rfl w.heap.size 9 i0 _ 1 16 Tryz.underlying29 hi hz0 hz1 hz2 rfl (by decide) _ L.length _ rfl (hown.alloc _) ⟨wr.heap.size,0,none⟩ 1 1 [.string (s.extract f s.size)] rfl rfl (one_cell rfl) (by simp [Value.oneCell']) (by decide) (by unfold maxLen;omega) (by omega) (by have:=Below.size hx;simp;omega) (wr.heap.size+1) (by simp) ?_;intro g cap w1 hown1 hgrow hat hlt1)
   go_ret
   have e:splitB s b=L++[s.extract f s.size]:=by rw [HP.out,HM.out]
   rw [e]
   refine ⟨g,cap,by simp,?_,(hx.alloc _).grown hgrow (hown.alloc _) (Nat.le_refl _)⟩
   rw [List.length_append,List.map_append];exact hown1
end Go.Proofs.YtccjepndhlobpaaGreatDoor

/-
  Walks: reading a record back.
-/
namespace Go.Proofs.YtccjepndhlobpaaGreatDoor
open Go.RowKit
set_option linter.unusedVariables false
set_option linter.unusedSimpArgs false

theorem cut1 (s:ByteArray) (c:UInt8) (w:World) (he:Env w) (hs:s.size≤1000000000) :
 Calls Tryz.prog 228 #[.string s,.string ⟨#[c]⟩] w fun e w'=>e=.returned (.tuple #[.string (cutA s (c.toNat:Int)),.string (cutZ s (c.toNat:Int)),.bool (hasByte s (c.toNat:Int))])∧Ext w w':=by
 obtain ⟨m,hm⟩:=he.2
 refine (Tryz.strings_Cut s ⟨#[c]⟩ m w (by omega) hm).mono fun e w' ⟨h,n,k⟩=>?_
 rw [k]
 refine ⟨?_,(Ext.refl w).drewN n⟩
 rw [h,show (⟨#[c]⟩:ByteArray).data.toList = [c] from rfl,cut_up]
 rfl
set_option maxHeartbeats 400000 in
theorem c_impl_VerifyChecksum (s:ByteArray) (w:World) (he:Env w) (hs:s.size≤1000000000) :
 Calls Tryz.prog 239 #[.string s] w fun e w'=>e=.returned (.tuple #[.string (verStr s),.bool (verOk s)])∧Ext w w':=by
 have hE:=Lib.hid he
 clear he
 have hz:=cutA_size s 35
 have hm:(cutA s 35).size≤maxLen:=by unfold maxLen;omega
 go_enter Tryz.func239,Tryz.ntmps239
 go_wp2_with (first|(go_at_call 228;refine (cut1 _ 35 _ hE.out (by omega)).mono ?_;rintro e w1 ⟨rfl,hb1⟩;have hE1:=Lib.hid (hE.out.ext hb1))|(go_at_call 251;refine (c_impl_AppendChecksum _ _ hE1.out hm).mono ?_;rintro e w2 ⟨rfl,hb2⟩))
 all_goals (go_ret2;refine ⟨ret_sb ?_ ?_,xw⟩)
 all_goals simp only [verStr,verOk,fits,Array.getD]
 all_goals simp_all
 all_goals (first|done|grind)
set_option maxHeartbeats 800000 in
theorem c_impl_readRecord (k:Int) (s:ByteArray) (w:World) (he:Env w) (hs:s.size≤1000000000) :
 Calls Tryz.prog 229 #[.int .i64 k,.string s] w fun e w'=>e=.returned (.tuple #[.agg #[.string (rcI s),.string (rrI s)],.bool (okI k s)])∧Ext w w':=by
 have hE:=Lib.hid he
 clear he
 cases hv:verOk s
 ·have HV:=Lib.hid hv
  have e1:=Lib.hid (show rcI s=⟨#[]⟩ by simp [rcI,hv])
  have e2:=Lib.hid (show rrI s=⟨#[]⟩ by simp [rrI,hv])
  have e3:=Lib.hid (show okI k s=false by simp [okI,hv])
  clear hv
  go_enter Tryz.func229,Tryz.ntmps229
  go_wp2_with (go_at_call 239;refine (c_impl_VerifyChecksum _ _ (hE.out.alloc _) hs).mono ?_;rintro e w1 ⟨rfl,hb1⟩;rw [HV.out];obtain ⟨hc1,hf1,hz1⟩:=hb1.cells;simp only [World.size_alloc] at hc1 hf1 hz1)
  refine bodyPost_ret (v:=.tuple #[.agg #[.string (rcI s),.string (rrI s)],.bool (okI k s)]) ?_ rfl ⟨rfl,xw⟩
  rw [e1.out,e2.out,e3.out]
  simp [results,Tryz.results229,go_sem,hc1]
 ·have HV:=Lib.hid hv
  have e1:=Lib.hid (show rcI s=cutA (cutZ (cutA s 35) 32) 64 by simp [rcI,hv])
  have e2:=Lib.hid (show rrI s=cutZ (cutZ (cutA s 35) 32) 64 by simp [rrI,hv])
  have e4:=Lib.hid (show verStr s=cutA s 35 by simp [verStr,hv])
  have e3:=Lib.hid (show okI k s=(encOk k (cutA (cutZ (cutA s 35) 32) 64) (cutZ (cutZ (cutA s 35) 32) 64) && ((encStr k (cutA (cutZ (cutA s 35) 32) 64) (cutZ (cutZ (cutA s 35) 32) 64)).toList == (s ++ ⟨#[10]⟩:ByteArray).toList)) by unfold okI;rw [e1.out,e2.out,hv,Bool.true_and])
  clear hv
  have z1:=cutA_size s 35
  have z2:=cutZ_size (cutA s 35) 32
  have z3:=cutA_size (cutZ (cutA s 35) 32) 64
  have z4:=cutZ_size (cutZ (cutA s 35) 32) 64
  go_enter Tryz.func229,Tryz.ntmps229
  go_wp2_with fail
  refine (c_impl_VerifyChecksum _ _ (hE.out.alloc _) hs).mono ?_
  rintro e w1 ⟨rfl,hb1⟩
  rw [HV.out,e4.out]
  obtain ⟨hc1,hf1,hz1⟩:=hb1.cells
  simp only [World.size_alloc] at hc1 hf1 hz1
  have hE1:=Lib.hid ((hE.out.alloc (.cells #[.string ⟨#[]⟩,.string ⟨#[]⟩] 216)).ext hb1)
  go_wp2_with fail
  refine (cut1 _ 32 _ hE1.out (by omega)).mono ?_
  rintro e w2 ⟨rfl,hb2⟩
  obtain ⟨hc2,hf2,hz2⟩:=hb2.cells
  have hE2:=Lib.hid (hE1.out.ext hb2)
  go_wp2_with fail
  refine (cut1 _ 64 _ hE2.out (by show (cutZ (cutA s 35) 32).size≤_;omega)).mono ?_
  rintro e w3 ⟨rfl,hb3⟩
  obtain ⟨hc3,hf3,hz3⟩:=hb3.cells
  have hE3:=Lib.hid ((hE2.out.ext hb3).alloc (.cells #[.string (cutA (cutZ (cutA s 35) 32) 64),.string (cutZ (cutZ (cutA s 35) 32) 64)] 216))
  go_wp2_with fail
  refine (c_impl_EncodeRecord _ _ _ _ hE3.out (by unfold maxLen;show (cutA (cutZ (cutA s 35) 32) 64).size≤_;omega) (by unfold maxLen;show (cutZ (cutZ (cutA s 35) 32) 64).size≤_;omega)).mono ?_
  rintro e w4 ⟨rfl,hb4⟩
  obtain ⟨hc4,hf4,hz4⟩:=hb4.cells
  simp only [World.size_alloc] at hc4 hf4 hz4
  have hx:Ext (w.alloc (.cells #[.string ⟨#[]⟩,.string ⟨#[]⟩] 216)) w4:=xw
  have g0:=hx.keep (p:=⟨w.heap.size,0,none⟩) (v:=.string ⟨#[]⟩) (by simp)
  have g1:=hx.keep (p:=⟨w.heap.size,1,none⟩) (v:=.string ⟨#[]⟩) (by simp)
  go_wp2
  all_goals refine bodyPost_ret (v:=.tuple #[.agg #[.string (rcI s),.string (rrI s)],.bool (okI k s)]) ?_ rfl ⟨rfl,xw⟩
  all_goals rw [e1.out,e2.out,e3.out]
  all_goals simp_all [results,Tryz.results229,go_sem]
end Go.Proofs.YtccjepndhlobpaaGreatDoor

/-
  Walks: the reference reads a record back.
-/
namespace Go.Proofs.YtccjepndhlobpaaGreatDoor
open Go.RowKit
set_option linter.unusedVariables false
set_option linter.unusedSimpArgs false
attribute [local irreducible] decS sumL sumB sealB textB lineB encOk encStr acOk acStr pieces mkB piecesB splitB upL behL cutA cutZ verOk verStr rcI rrI okI aheadS preS restS atS rcS rrS okS inR okByte printed hasByte fits someB cmdB recB

set_option maxHeartbeats 800000 in
theorem dec_a (k:Int) (s:ByteArray) (w:World)
 (h0:0≤k) (h1:k≤59) (hs:s.size≤1000000000) (hp:preS k s=false) :
 Calls Tryz.prog 198 #[.string s,.int .i64 k] w fun e w'=>e=.returned (.tuple #[.agg #[.string (rcS k s),.string (rrS k s)],.bool (okS k s)])∧Ext w w':=by
 have z0:=decS_len k (by omega) (by omega)
 have z1:=cutA_size s 35
 obtain ⟨r1,hr1,_⟩:=splitB_head s 35
 have HR1:=Lib.hid hr1
 have H1:=Lib.hid (show rcS k s=⟨#[]⟩ by simp [rcS,atS,hp])
 have H2:=Lib.hid (show rrS k s=⟨#[]⟩ by simp [rrS,atS,hp])
 have H3:=Lib.hid (show okS k s=false by simp [okS,atS,hp])
 have hq:¬(cutA s 35).size<(decS k).size+1→(((cutA s 35).extract 0 ((decS k).size+1)).toList == (decS k ++ ⟨#[32]⟩:ByteArray).toList)=false:=by
  intro hn
  have:=hp
  unfold preS at this
  rw [ahead_size] at this
  simpa [show (decS k).size+1≤(cutA s 35).size by omega,aheadS] using this
 have HQ:=Lib.hid hq
 clear hp hq hr1
 by_cases hn:(cutA s 35).size<(decS k).size+1
 all_goals
  (try have hq1:=HQ.out hn)
  go_enter Tryz.func198,Tryz.ntmps198
  go_wp2_with (first|(go_at_call 225;refine (l1NumX _ _ (by omega) (by omega)).mono ?_;rintro e w1 ⟨rfl,hb1⟩;obtain ⟨hc1,hf1,hz1⟩:=hb1.cells;(try simp only [World.size_alloc] at hc1 hf1 hz1))|(go_at_call 197;refine (c_spec_l1Split _ _ _ hs).mono ?_;rintro e w2 ⟨g,cap,rfl,hown,hb2⟩;rw [HR1.out] at hown ⊢;have hcell:=own_cell hown 0 (.string (cutA s 35)) rfl;obtain ⟨hc2,hf2,hz2⟩:=hb2.cells))
 all_goals refine bodyPost_ret (v:=.tuple #[.agg #[.string (rcS k s),.string (rrS k s)],.bool (okS k s)]) ?_ rfl ⟨rfl,xw⟩
 all_goals rw [H1.out,H2.out,H3.out]
 all_goals simp [results,Tryz.results198,go_sem,hc2,hc1,↓IntWalk.iteOmega]
set_option maxHeartbeats 800000 in
theorem dec_b (k:Int) (s:ByteArray) (w:World)
 (h0:0≤k) (h1:k≤59) (hs:s.size≤1000000000) (hp:preS k s=true) (ha:atS k s=false) :
 Calls Tryz.prog 198 #[.string s,.int .i64 k] w fun e w'=>e=.returned (.tuple #[.agg #[.string (rcS k s),.string (rrS k s)],.bool (okS k s)])∧Ext w w':=by
 have z0:=decS_len k (by omega) (by omega)
 have z1:=cutA_size s 35
 obtain ⟨hn,hq1,hre⟩:=pre_parts hp
 have HRE:=Lib.hid hre
 obtain ⟨r1,hr1,_⟩:=splitB_head s 35
 have HR1:=Lib.hid hr1
 obtain ⟨r2,hr2,_⟩:=splitB_head (restS k s) 64
 have HR2:=Lib.hid hr2
 have z2:=rest_size k s
 have z3:=cutA_size (restS k s) 64
 have H1:=Lib.hid (show rcS k s=⟨#[]⟩ by simp [rcS,ha])
 have H2:=Lib.hid (show rrS k s=⟨#[]⟩ by simp [rrS,ha])
 have H3:=Lib.hid (show okS k s=false by simp [okS,ha])
 have ht:((((cutA (restS k s) 64).size:Nat):Int) == (((restS k s).size:Nat):Int))=true:=by
  unfold atS at ha
  rw [hp] at ha
  simp at ha
  simp [ha]
 clear hp ha hr1 hr2 hre
 go_enter Tryz.func198,Tryz.ntmps198
 go_wp2_with fail
 refine (l1NumX _ _ (by omega) (by omega)).mono ?_
 rintro e w1 ⟨rfl,hb1⟩
 obtain ⟨hc1,hf1,hz1⟩:=hb1.cells
 simp only [World.size_alloc] at hc1 hf1 hz1
 go_wp2_with fail
 refine (c_spec_l1Split _ _ _ hs).mono ?_
 rintro e w2 ⟨g,cap,rfl,hown,hb2⟩
 rw [HR1.out] at hown ⊢
 have hcell:=own_cell hown 0 (.string (cutA s 35)) rfl
 obtain ⟨hc2,hf2,hz2⟩:=hb2.cells
 go_wp2_with fail
 rw [← HRE.out]
 refine (c_spec_l1Split _ _ _ (by omega)).mono ?_
 rintro e w3 ⟨g2,cap2,rfl,hown2,hb3⟩
 rw [HR2.out] at hown2 ⊢
 have hcell2:=own_cell hown2 0 (.string (cutA (restS k s) 64)) rfl
 obtain ⟨hc3,hf3,hz3⟩:=hb3.cells
 go_wp2
 refine bodyPost_ret (v:=.tuple #[.agg #[.string (rcS k s),.string (rrS k s)],.bool (okS k s)]) ?_ rfl ⟨rfl,xw⟩
 rw [H1.out,H2.out,H3.out]
 simp [results,Tryz.results198,go_sem,hc3,hc2,hc1,↓IntWalk.iteOmega]
set_option maxHeartbeats 1600000 in
theorem dec_c (k:Int) (s:ByteArray) (w:World)
 (h0:0≤k) (h1:k≤59) (hs:s.size≤1000000000) (ha:atS k s=true) (hr:recB (rcS k s) (rrS k s)=false) :
 Calls Tryz.prog 198 #[.string s,.int .i64 k] w fun e w'=>e=.returned (.tuple #[.agg #[.string (rcS k s),.string (rrS k s)],.bool (okS k s)])∧Ext w w':=by
 have z0:=decS_len k (by omega) (by omega)
 have z1:=cutA_size s 35
 obtain ⟨hp,ht,hlt,hC,hR⟩:=at_parts ha
 obtain ⟨hn,hq1,hre⟩:=pre_parts hp
 have HRE:=Lib.hid hre
 have HC:=Lib.hid hC
 have HR:=Lib.hid hR
 obtain ⟨r1,hr1,_⟩:=splitB_head s 35
 have HR1:=Lib.hid hr1
 obtain ⟨r2,hr2,_⟩:=splitB_head (restS k s) 64
 have HR2:=Lib.hid hr2
 have z2:=rest_size k s
 have z3:=cutA_size (restS k s) 64
 have H3:=Lib.hid (show okS k s=false by simp [okS,hr])
 have HRB:=Lib.hid hr
 have zc:(rcS k s).size≤maxLen:=by rw [hC];unfold maxLen;omega
 have zr:(rrS k s).size≤maxLen:=by rw [hR,ByteArray.size_extract];unfold maxLen;omega
 clear hp ha hr hr1 hr2 hre hC hR
 go_enter Tryz.func198,Tryz.ntmps198
 go_wp2_with fail
 refine (l1NumX _ _ (by omega) (by omega)).mono ?_
 rintro e w1 ⟨rfl,hb1⟩
 obtain ⟨hc1,hf1,hz1⟩:=hb1.cells
 simp only [World.size_alloc] at hc1 hf1 hz1
 go_wp2_with fail
 refine (c_spec_l1Split _ _ _ hs).mono ?_
 rintro e w2 ⟨g,cap,rfl,hown,hb2⟩
 rw [HR1.out] at hown ⊢
 have hcell:=own_cell hown 0 (.string (cutA s 35)) rfl
 obtain ⟨hc2,hf2,hz2⟩:=hb2.cells
 go_wp2_with fail
 rw [← HRE.out]
 refine (c_spec_l1Split _ _ _ (by omega)).mono ?_
 rintro e w3 ⟨g2,cap2,rfl,hown2,hb3⟩
 rw [HR2.out] at hown2 ⊢
 have hcell2:=own_cell hown2 0 (.string (cutA (restS k s) 64)) rfl
 obtain ⟨hc3,hf3,hz3⟩:=hb3.cells
 go_wp2_with fail
 rw [← HR.out,← HC.out]
 have hx0:Ext (w.alloc (.cells #[.string ⟨#[]⟩,.string ⟨#[]⟩] 216)) (w3.alloc (.cells #[.string (rcS k s),.string (rrS k s)] 216)):=xw
 have e0:(w3.alloc (.cells #[.string (rcS k s),.string (rrS k s)] 216)).cell? ⟨w3.heap.size,0,none⟩=some (.string (rcS k s)):=by simp
 have e1:(w3.alloc (.cells #[.string (rcS k s),.string (rrS k s)] 216)).cell? ⟨w3.heap.size,1,none⟩=some (.string (rrS k s)):=by simp
 have hW:w3.heap.size<(w3.alloc (.cells #[.string (rcS k s),.string (rrS k s)] 216)).heap.size:=by simp
 generalize w3.alloc (.cells #[.string (rcS k s),.string (rrS k s)] 216)=W at *
 have q0:=hx0.keep (p:=⟨w.heap.size,0,none⟩) (v:=.string ⟨#[]⟩) (by simp)
 have q1:=hx0.keep (p:=⟨w.heap.size,1,none⟩) (v:=.string ⟨#[]⟩) (by simp)
 have q2:=hx0.cells.2.1 w.heap.size 0
 have q3:=hx0.cells.2.1 w.heap.size 1
 simp at q2 q3
 clear hown hown2 hcell hcell2 hc1 hc2 hc3 hf1 hf2 hf3 HR1 HR2
 refine wp_region_held_drew (S:=(fun w'=>w'.cell? ⟨w3.heap.size,0,none⟩=some (.string (rcS k s))∧w'.cell? ⟨w3.heap.size,1,none⟩=some (.string (rrS k s)))) (by kernel_rfl) ?_ (fun hHeld=>?_)
 ·exact ⟨e0,e1⟩
 refine tkY 0 ?_ ?_ ?_;rotate_left;focus (intro w hSw;(try dsimp only at hSw);go_simp;try with_reducible rfl)
 try simp only [Act.put,aput]
 refine tkY 1 ?_ ?_ ?_;rotate_left;focus (intro w hSw;(try dsimp only at hSw);go_simp;try with_reducible rfl)
 try simp only [Act.put,aput]
 refine wpAnyH_ready (rs:=[2]) (by kernel_rfl) (by simp) ?_
 refine AllReadyH.cons rfl (fun K hK=>?_) AllReadyH.nil
 (try simp only [aput])
 go_simp
 (go_at_call 226;refine (c_spec_l13Record _ _ _ zc zr).mono ?_;rintro e w4 ⟨rfl,hb4⟩;rw [HRB.out];have q4:=hb4.keep (p:=⟨w.heap.size,0,none⟩) q0;have q5:=hb4.keep (p:=⟨w.heap.size,1,none⟩) q1;have q6:=hb4.mark (b:=w.heap.size) (o:=0) q0 q2;have q7:=hb4.mark (b:=w.heap.size) (o:=1) q1 q3)
 show K _ _
 refine hK.out _ _ (by exact ⟨hb4.keep e0,hb4.keep e1⟩) (fun hHeld=>?_)
 clear hK K
 try simp only [Act.put,aput]
 refine tkP 3 ?_ ?_ ?_;rotate_left;focus (intro w;go_simp;try with_reducible rfl)
 try simp only [Act.put,aput]
 refine tkN 4 ?_
 try simp only [Act.put,aput]
 refine tkN 5 ?_
 try simp only [Act.put,aput]
 refine tkN 6 ?_
 try simp only [Act.put,aput]
 refine tkN 7 ?_
 try simp only [Act.put,aput]
 refine tkN 8 ?_
 try simp only [Act.put,aput]
 refine tkN 9 ?_
 try simp only [Act.put,aput]
 refine tkP 10 ?_ ?_ ?_;rotate_left;focus (intro w;go_simp;try with_reducible rfl)
 try simp only [Act.put,aput]
 refine wpAnyH_ready (rs:=[11]) (by kernel_rfl) (by simp) ?_
 refine AllReadyH.cons rfl (fun K hK=>?_) AllReadyH.nil
 (try simp only [aput])
 go_simp
 refine hK.out _ _ (by exact ⟨store_keep (store_keep (hb4.keep e0) (by omega)) (by omega),store_keep (store_keep (hb4.keep e1) (by omega)) (by omega)⟩) (fun hHeld=>?_)
 clear hK K
 try simp only [Act.put,aput]
 refine tkP 12 ?_ ?_ ?_;rotate_left;focus (intro w;go_simp;try with_reducible rfl)
 try simp only [Act.put,aput]
 refine wpAnyH_done (by kernel_rfl) ?_ _
 go_wp2
 refine bodyPost_ret (v:=.tuple #[.agg #[.string (rcS k s),.string (rrS k s)],.bool (okS k s)]) ?_ rfl ⟨rfl,xw⟩
 rw [H3.out]
 simp [results,Tryz.results198,go_sem,q4,q5]
set_option maxHeartbeats 1600000 in
theorem dec_d (k:Int) (s:ByteArray) (w:World)
 (h0:0≤k) (h1:k≤59) (hs:s.size≤1000000000) (ha:atS k s=true) (hr:recB (rcS k s) (rrS k s)=true) :
 Calls Tryz.prog 198 #[.string s,.int .i64 k] w fun e w'=>e=.returned (.tuple #[.agg #[.string (rcS k s),.string (rrS k s)],.bool (okS k s)])∧Ext w w':=by
 have z0:=decS_len k (by omega) (by omega)
 have z1:=cutA_size s 35
 obtain ⟨hp,ht,hlt,hC,hR⟩:=at_parts ha
 obtain ⟨hn,hq1,hre⟩:=pre_parts hp
 have HRE:=Lib.hid hre
 have HC:=Lib.hid hC
 have HR:=Lib.hid hR
 obtain ⟨r1,hr1,_⟩:=splitB_head s 35
 have HR1:=Lib.hid hr1
 obtain ⟨r2,hr2,_⟩:=splitB_head (restS k s) 64
 have HR2:=Lib.hid hr2
 have z2:=rest_size k s
 have z3:=cutA_size (restS k s) 64
 have H3:=Lib.hid (show okS k s=((lineB k (rcS k s) (rrS k s)).toList == (s ++ ⟨#[10]⟩:ByteArray).toList) by unfold okS;rw [ha,hr];rfl)
 obtain ⟨y1,y2,_,_,_,_⟩:=recB_parts hr
 have n1:¬9223372036854775807<s.size+1:=by omega
 have HRB:=Lib.hid hr
 have zc:(rcS k s).size≤maxLen:=by rw [hC];unfold maxLen;omega
 have zr:(rrS k s).size≤maxLen:=by rw [hR,ByteArray.size_extract];unfold maxLen;omega
 clear hp ha hr hr1 hr2 hre hC hR
 go_enter Tryz.func198,Tryz.ntmps198
 go_wp2_with fail
 refine (l1NumX _ _ (by omega) (by omega)).mono ?_
 rintro e w1 ⟨rfl,hb1⟩
 obtain ⟨hc1,hf1,hz1⟩:=hb1.cells
 simp only [World.size_alloc] at hc1 hf1 hz1
 go_wp2_with fail
 refine (c_spec_l1Split _ _ _ hs).mono ?_
 rintro e w2 ⟨g,cap,rfl,hown,hb2⟩
 rw [HR1.out] at hown ⊢
 have hcell:=own_cell hown 0 (.string (cutA s 35)) rfl
 obtain ⟨hc2,hf2,hz2⟩:=hb2.cells
 go_wp2_with fail
 rw [← HRE.out]
 refine (c_spec_l1Split _ _ _ (by omega)).mono ?_
 rintro e w3 ⟨g2,cap2,rfl,hown2,hb3⟩
 rw [HR2.out] at hown2 ⊢
 have hcell2:=own_cell hown2 0 (.string (cutA (restS k s) 64)) rfl
 obtain ⟨hc3,hf3,hz3⟩:=hb3.cells
 go_wp2_with fail
 rw [← HR.out,← HC.out]
 have hx0:Ext (w.alloc (.cells #[.string ⟨#[]⟩,.string ⟨#[]⟩] 216)) (w3.alloc (.cells #[.string (rcS k s),.string (rrS k s)] 216)):=xw
 have e0:(w3.alloc (.cells #[.string (rcS k s),.string (rrS k s)] 216)).cell? ⟨w3.heap.size,0,none⟩=some (.string (rcS k s)):=by simp
 have e1:(w3.alloc (.cells #[.string (rcS k s),.string (rrS k s)] 216)).cell? ⟨w3.heap.size,1,none⟩=some (.string (rrS k s)):=by simp
 have hW:w3.heap.size<(w3.alloc (.cells #[.string (rcS k s),.string (rrS k s)] 216)).heap.size:=by simp
 generalize w3.alloc (.cells #[.string (rcS k s),.string (rrS k s)] 216)=W at *
 have q0:=hx0.keep (p:=⟨w.heap.size,0,none⟩) (v:=.string ⟨#[]⟩) (by simp)
 have q1:=hx0.keep (p:=⟨w.heap.size,1,none⟩) (v:=.string ⟨#[]⟩) (by simp)
 have q2:=hx0.cells.2.1 w.heap.size 0
 have q3:=hx0.cells.2.1 w.heap.size 1
 simp at q2 q3
 clear hown hown2 hcell hcell2 hc1 hc2 hc3 hf1 hf2 hf3 HR1 HR2
 refine wp_region_held_drew (S:=(fun w'=>w'.cell? ⟨w3.heap.size,0,none⟩=some (.string (rcS k s))∧w'.cell? ⟨w3.heap.size,1,none⟩=some (.string (rrS k s)))) (by kernel_rfl) ?_ (fun hHeld=>?_)
 ·exact ⟨e0,e1⟩
 refine tkY 0 ?_ ?_ ?_;rotate_left;focus (intro w hSw;(try dsimp only at hSw);go_simp;try with_reducible rfl)
 try simp only [Act.put,aput]
 refine tkY 1 ?_ ?_ ?_;rotate_left;focus (intro w hSw;(try dsimp only at hSw);go_simp;try with_reducible rfl)
 try simp only [Act.put,aput]
 refine wpAnyH_ready (rs:=[2]) (by kernel_rfl) (by simp) ?_
 refine AllReadyH.cons rfl (fun K hK=>?_) AllReadyH.nil
 (try simp only [aput])
 go_simp
 (go_at_call 226;refine (c_spec_l13Record _ _ _ zc zr).mono ?_;rintro e w4 ⟨rfl,hb4⟩;rw [HRB.out])
 show K _ _
 refine hK.out _ _ (by exact ⟨hb4.keep e0,hb4.keep e1⟩) (fun hHeld=>?_)
 clear hK K
 try simp only [Act.put,aput]
 refine tkP 3 ?_ ?_ ?_;rotate_left;focus (intro w;go_simp;try with_reducible rfl)
 try simp only [Act.put,aput]
 refine tkP 4 ?_ ?_ ?_;rotate_left;focus (intro w;go_simp;try with_reducible rfl)
 try simp only [Act.put,aput]
 refine tkY 5 ?_ ?_ ?_;rotate_left;focus (intro w hSw;(try dsimp only at hSw);go_simp;try with_reducible rfl)
 try simp only [Act.put,aput]
 refine tkP 7 ?_ ?_ ?_;rotate_left;focus (intro w;go_simp;try with_reducible rfl)
 try simp only [Act.put,aput]
 refine tkP 8 ?_ ?_ ?_;rotate_left;focus (intro w;go_simp;try with_reducible rfl)
 try simp only [Act.put,aput]
 refine wpAnyH_ready (rs:=[6]) (by kernel_rfl) (by simp) ?_
 refine AllReadyH.cons rfl (fun K hK=>?_) AllReadyH.nil
 (try simp only [aput])
 go_simp
 (go_at_call 227;refine (c_spec_l13Line _ _ _ _ h0 (by omega) y1 y2).mono ?_;rintro e w5 ⟨rfl,hb5⟩;have hx5:=(Ext.trans (Ext.drew (Ext.refl W)) hb4).trans hb5;have q4:=hx5.keep (p:=⟨w.heap.size,0,none⟩) q0;have q5:=hx5.keep (p:=⟨w.heap.size,1,none⟩) q1;have q6:=hx5.mark (b:=w.heap.size) (o:=0) q0 q2;have q7:=hx5.mark (b:=w.heap.size) (o:=1) q1 q3)
 show K _ _
 refine hK.out _ _ (by exact ⟨hx5.keep e0,hx5.keep e1⟩) (fun hHeld=>?_)
 clear hK K
 try simp only [Act.put,aput]
 refine tkP 9 ?_ ?_ ?_;rotate_left;focus (intro w;go_simp;try with_reducible rfl)
 try simp only [Act.put,aput]
 refine tkP 10 ?_ ?_ ?_;rotate_left;focus (intro w;go_simp;try with_reducible rfl)
 try simp only [Act.put,aput]
 refine wpAnyH_ready (rs:=[11]) (by kernel_rfl) (by simp) ?_
 refine AllReadyH.cons rfl (fun K hK=>?_) AllReadyH.nil
 (try simp only [aput])
 go_simp
 refine hK.out _ _ (by exact ⟨store_keep (store_keep (hx5.keep e0) (by omega)) (by omega),store_keep (store_keep (hx5.keep e1) (by omega)) (by omega)⟩) (fun hHeld=>?_)
 clear hK K
 try simp only [Act.put,aput]
 refine tkP 12 ?_ ?_ ?_;rotate_left;focus (intro w;go_simp;try with_reducible rfl)
 try simp only [Act.put,aput]
 refine wpAnyH_done (by kernel_rfl) ?_ _
 go_wp2
 refine bodyPost_ret (v:=.tuple #[.agg #[.string (rcS k s),.string (rrS k s)],.bool (okS k s)]) ?_ rfl ⟨rfl,xw⟩
 rw [H3.out]
 simp [results,Tryz.results198,go_sem,q4,q5]
theorem c_spec_l13Decode (k:Int) (s:ByteArray) (w:World) (h0:0≤k) (h1:k≤59) (hs:s.size≤1000000000) :
 Calls Tryz.prog 198 #[.string s,.int .i64 k] w fun e w'=>e=.returned (.tuple #[.agg #[.string (rcS k s),.string (rrS k s)],.bool (okS k s)])∧Ext w w':=by
 cases hp:preS k s
 ·exact dec_a k s w h0 h1 hs hp
 ·cases ha:atS k s
  ·exact dec_b k s w h0 h1 hs hp ha
  ·cases hr:recB (rcS k s) (rrS k s)
   ·exact dec_c k s w h0 h1 hs ha hr
   ·exact dec_d k s w h0 h1 hs ha hr
end Go.Proofs.YtccjepndhlobpaaGreatDoor

/-
  Walks: the program reads the records at the beginning of bytes.
-/
namespace Go.Proofs.YtccjepndhlobpaaGreatDoor
open Go.RowKit
set_option linter.unusedVariables false
set_option linter.unusedSimpArgs false
attribute [local irreducible] decS sumL sumB sealB textB lineB encOk encStr acOk acStr pieces mkB piecesB splitB upL behL cutA cutZ verOk verStr rcI rrI okI aheadS preS restS atS rcS rrS okS inR okByte printed hasByte fits someB cmdB recB
attribute [local irreducible] fromB logFrom logAt stepB nextP endOf recCells endCells

theorem infoRec:(Tryz.prog.info? 216).map (fun i=>(i.zero,i.size,i.bytes))=some (some (.agg #[.string ⟨#[]⟩,.string ⟨#[]⟩]),2,32):=by kernel_rfl
theorem infoInt:(Tryz.prog.info? 3).map (fun i=>(i.zero,i.size,i.bytes))=some (some (.int .i64 0),1,8):=by kernel_rfl
set_option maxHeartbeats 1600000 in
theorem c_impl_readRecords (s:ByteArray) (w:World) (he:Env w) (hs:s.size≤1000000000) :
 Calls Tryz.prog 199 #[.string s] w fun e w'=>∃g1 c1 g2 c2,e=.returned (.tuple #[.slice (some ⟨g1,0,none⟩) (logAt s 0 0).length c1,.slice (some ⟨g2,0,none⟩) (logAt s 0 0).length c2]) ∧
  w'.ownsRow w.heap.size 216 2 (.slice (some ⟨g1,0,none⟩) (logAt s 0 0).length c1) (logAt s 0 0).length (recCells (logAt s 0 0)) ∧
  w'.ownsRow w.heap.size 3 1 (.slice (some ⟨g2,0,none⟩) (logAt s 0 0).length c2) (logAt s 0 0).length (endCells (logAt s 0 0))∧Ext w w':=by
 obtain ⟨i0,hi,hz0,hz1,hz2⟩:=info_parts infoRec
 obtain ⟨j0,hj,hy0,hy1,hy2⟩:=info_parts infoInt
 go_enter Tryz.func199,Tryz.ntmps199
 go_wp2
 go_loopw [4,5,6] (fun v1 v2 a wr=>∃(p:Nat) (L:List (ByteArray × ByteArray × Nat)) (g1 c1 g2 c2:Nat),v1=.slice (some ⟨g1,0,none⟩) L.length c1∧v2=.slice (some ⟨g2,0,none⟩) L.length c2∧a=.int .i64 p∧p≤s.size∧L.length≤60 ∧
  wr.ownsRow w.heap.size 216 2 (.slice (some ⟨g1,0,none⟩) L.length c1) L.length (recCells L)∧wr.ownsRow w.heap.size 3 1 (.slice (some ⟨g2,0,none⟩) L.length c2) L.length (endCells L)∧g1≠g2∧Ext w wr∧Hid (logAt s 0 0=L++logAt s p L.length))
  (fun _ _ a _=>s.size - (intOf a).toNat)
 case atStart=>
  exact ⟨0,[],w.heap.size,0,w.heap.size+1,0,rfl,rfl,rfl,Nat.zero_le _,by decide,by rw [recCells_nil];exact (World.ownsRow_made _ #[] 0 (Nat.le_refl _) (by decide) rfl).alloc _,by have h:=World.ownsRow_made (e:=3) (size:=1) (base:=w.heap.size) (w.alloc (.cells #[] 216)) #[] 0 (by simp) (by decide) rfl;rw [endCells_nil];simpa using h,by omega,xw,Lib.hid rfl⟩
 case round=>
  obtain ⟨p,L,g1,c1,g2,c2,rfl,rfl,rfl,hp,hL,own1,own2,hg,hx,HL⟩:=hrel
  have hew:Env wr:=he.ext hx
  have hz:=fromB_size s p
  have ha:=cutA_size (fromB s p) 10
  cases h1:hasByte (fromB s p) 10
  ·have H1:=Lib.hid h1
   have HS:=Lib.hid (logAt_stop s p L.length hp (by unfold stepB;rw [h1];rfl))
   clear h1
   go_wp2_with (go_at_call 228;rw [fromB_eq];refine (cut1 _ 10 _ hew (by omega)).mono ?_;rintro e w1 ⟨rfl,hb1⟩;(try rw [show ((10:UInt8).toNat:Int)=10 from rfl]);rw [H1.out])
   go_ret2
   rw [show logAt s 0 0=L by rw [HL.out,HS.out,List.append_nil]]
   exact ⟨g1,c1,g2,c2,rfl,ownsRow_ext own1 hb1,ownsRow_ext own2 hb1,hx.trans hb1⟩
  ·have H1:=Lib.hid h1
   cases h2:okI L.length (cutA (fromB s p) 10)
   ·have H2:=Lib.hid h2
    have HS:=Lib.hid (logAt_stop s p L.length hp (by unfold stepB;rw [h2,Bool.and_false]))
    clear h1 h2
    go_wp2_with (first|(go_at_call 228;rw [fromB_eq];refine (cut1 _ 10 _ hew (by omega)).mono ?_;rintro e w1 ⟨rfl,hb1⟩;(try rw [show ((10:UInt8).toNat:Int)=10 from rfl]);rw [H1.out];have hew1:=hew.ext hb1)|(go_at_call 229;refine (c_impl_readRecord _ _ _ hew1 (by omega)).mono ?_;rintro e w2 ⟨rfl,hb2⟩;rw [H2.out]))
    go_ret2
    rw [show logAt s 0 0=L by rw [HL.out,HS.out,List.append_nil]]
    have hbb:=(hb1.trans hb2).alloc (.cells #[.string (rcI (cutA (fromB s p) 10)),.string (rrI (cutA (fromB s p) 10))] 216)
    exact ⟨g1,c1,g2,c2,rfl,ownsRow_ext own1 hbb,ownsRow_ext own2 hbb,hx.trans hbb⟩
   ·have H2:=Lib.hid h2
    have hk:=okI_range h2
    have HS:=Lib.hid (logAt_step s p L.length hp (by unfold stepB;rw [h1,h2];rfl))
    have HN:=Lib.hid (nextP_eq s p)
    have hn:=nextP_le s p hp h1
    have hL59:L.length≤59:=by omega
    clear h1 h2 hk
    have l1:=own_lt own1
    have l2:=own_lt own2
    have hsz:=Below.size hx
    have hb12:∀{a b:World},Ext wr a→Ext a b→Ext wr b:=fun x y=>x.trans y
    go_wp2_with (first|(go_at_call 228;rw [fromB_eq];refine (cut1 _ 10 _ hew (by omega)).mono ?_;rintro e w1 ⟨rfl,hb1⟩;(try rw [show ((10:UInt8).toNat:Int)=10 from rfl]);rw [H1.out];have hew1:=hew.ext hb1)|(go_at_call 229;refine (c_impl_readRecord _ _ _ hew1 (by omega)).mono ?_;rintro e w2 ⟨rfl,hb2⟩;rw [H2.out];have hsz2:=Below.size (hb1.trans hb2))|(at_builtin;refine wpList_append_lies _ rfl (.tmp 41) (.tmp 43) 173 rfl w.heap.size 216 i0 _ 2 32 Tryz.underlying173 hi hz0 hz1 hz2 rfl (by decide) (.slice (some ⟨g1,0,none⟩) L.length c1) L.length _ rfl (((ownsRow_ext own1 (hb1.trans hb2)).alloc _).alloc _) ⟨w2.heap.size+1,0,none⟩ 1 1 [.string (rcI (cutA (fromB s p) 10)),.string (rrI (cutA (fromB s p) 10))] rfl rfl (one_cell (by simp)) (by simp [Value.oneCell']) (by decide) (by unfold maxLen;omega) (by omega) (by simp;omega) (w2.heap.size+2) (by simp) ?_;intro g3 c3 w3 own3 grow3 hat3 hlt3;have hsz3:=grow3.size;simp only [World.size_alloc] at hsz3)|(at_builtin;refine wpList_append_lies _ rfl (.tmp 45) (.tmp 47) 23 rfl w.heap.size 3 j0 _ 1 8 Tryz.underlying23 hj hy0 hy1 hy2 rfl (by decide) (.slice (some ⟨g2,0,none⟩) L.length c2) L.length _ rfl ((own_kept (((ownsRow_ext own2 (hb1.trans hb2)).alloc _).alloc _) grow3 (Ne.symm hg)).alloc _) ⟨w3.heap.size,0,none⟩ 1 1 [.int .i64 (↑p+(↑(cutA (fromB s p) 10).size+1))] rfl rfl (one_cell rfl) (by simp [Value.oneCell']) (by decide) (by unfold maxLen;omega) (by omega) (by simp;omega) (w3.heap.size+1) (by simp) ?_;intro g4 c4 w4 own4 grow4 hat4 hlt4;have hsz4:=grow4.size;simp only [World.size_alloc] at hsz4))
    have k3:=own_lt own3
    have k4:=own_lt own4
    simp only [Value.ownBlock,Option.some.injEq] at hat3 hat4
    have ne34:g3≠g4:=by omega
    have e1:(L++[(rcI (cutA (fromB s p) 10),rrI (cutA (fromB s p) 10),nextP s p)]).length=L.length+1:=by simp
    go_roundw
    case rel=>
     refine ⟨nextP s p,L++[(rcI (cutA (fromB s p) 10),rrI (cutA (fromB s p) 10),nextP s p)],g3,c3,g4,c4,?_,?_,?_,hn,by rw [e1];omega,?_,?_,ne34,?_,?_⟩
     ·rw [e1]
     ·rw [e1]
     ·rw [HN.out];go_num
     ·rw [e1,recCells_snoc];exact own_kept (own3.alloc _) grow4 (by omega)
     ·rw [e1,endCells_snoc,HN.out]
      have e2:((p:Int)+(((cutA (fromB s p) 10).size:Int)+1))=((p+(cutA (fromB s p) 10).size+1:Nat):Int):=by omega
      rw [← e2]
      exact own4
     ·have hx2:Ext w w2:=(hx.trans hb1).trans hb2
      have hx3:Ext w w3:=(((hx2.alloc _).alloc _).grown grow3 (((ownsRow_ext own1 (hb1.trans hb2)).alloc _).alloc _) (Nat.le_refl _))
      exact (hx3.alloc _).grown grow4 ((own_kept (((ownsRow_ext own2 (hb1.trans hb2)).alloc _).alloc _) grow3 (Ne.symm hg)).alloc _) (Nat.le_refl _)
     ·refine Lib.hid ?_
      rw [HL.out,HS.out,e1]
      simp
    case measure=>
     have:=HN.out
     simp [intOf]
     omega
end Go.Proofs.YtccjepndhlobpaaGreatDoor

/-
  Walks: the reference reads the records at the beginning of bytes.
-/
namespace Go.Proofs.YtccjepndhlobpaaGreatDoor
open Go.RowKit
set_option linter.unusedVariables false
set_option linter.unusedSimpArgs false
attribute [local irreducible] decS sumL sumB sealB textB lineB encOk encStr acOk acStr pieces mkB piecesB splitB upL behL cutA cutZ verOk verStr rcI rrI okI aheadS preS restS atS rcS rrS okS inR okByte printed hasByte fits someB cmdB recB
attribute [local irreducible] fromB logFrom logAt stepB nextP endOf recCells endCells

theorem infoRecS:(Tryz.prog.info? 216).map (fun i=>(i.zero,i.size,i.bytes))=some (some (.agg #[.string ⟨#[]⟩,.string ⟨#[]⟩]),2,32):=by kernel_rfl
/-- What the loop holds at its head. -/
def OpenRel (s:ByteArray) (w:World) (v a:Value) (wr:World):Prop:=
 ∃(p:Nat) (L:List (ByteArray × ByteArray × Nat)) (g1 c1:Nat),v=.slice (some ⟨g1,0,none⟩) L.length c1∧a=.int .i64 p∧p≤s.size∧L.length≤60 ∧
  wr.ownsRow w.heap.size 216 2 (.slice (some ⟨g1,0,none⟩) L.length c1) L.length (recCells L)∧Ext w wr∧Hid (logAt s 0 0=L++logAt s p L.length)∧Hid (p=endOf L)
/-- What the call hands back. -/
def OpenPost (s:ByteArray) (w:World) (e:Ending) (w':World):Prop:=
 ∃g c,e=.returned (.tuple #[.slice (some ⟨g,0,none⟩) (logAt s 0 0).length c,.int .i64 (endOf (logAt s 0 0))]) ∧
  w'.ownsRow w.heap.size 216 2 (.slice (some ⟨g,0,none⟩) (logAt s 0 0).length c) (logAt s 0 0).length (recCells (logAt s 0 0))∧Ext w w'
theorem open_stop {s:ByteArray} {w wr w':World} {L:List (ByteArray × ByteArray × Nat)} {p g1 c1:Nat} (hL:logAt s p L.length = []) (own:wr.ownsRow w.heap.size 216 2 (.slice (some ⟨g1,0,none⟩) L.length c1) L.length (recCells L))
 (HL:Hid (logAt s 0 0=L++logAt s p L.length)) (HE:Hid (p=endOf L)) (hx:Ext w wr) (hb:Ext wr w'):OpenPost s w (.returned (.tuple #[.slice (some ⟨g1,0,none⟩) L.length c1,.int .i64 p])) w':=by
 have e:logAt s 0 0=L:=by rw [HL.out,hL,List.append_nil]
 unfold OpenPost
 rw [e,← HE.out]
 exact ⟨g1,c1,rfl,ownsRow_ext own hb,hx.trans hb⟩
set_option maxRecDepth 100000 in
set_option maxHeartbeats 1600000 in
theorem c_spec_l13Open (s:ByteArray) (w:World) (hs:s.size≤1000000000) :
 Calls Tryz.prog 144 #[.string s] w (OpenPost s w):=by
 obtain ⟨i0,hi,hz0,hz1,hz2⟩:=info_parts infoRecS
 go_enter Tryz.func144,Tryz.ntmps144
 go_wp2
 go_loopw [4,5] (fun v a wr=>OpenRel s w v a wr) (fun _ a _=>s.size - (intOf a).toNat)
 case atStart=>
  exact ⟨0,[],w.heap.size,0,rfl,rfl,Nat.zero_le _,by decide,by rw [recCells_nil];exact World.ownsRow_made _ #[] 0 (Nat.le_refl _) (by decide) rfl,(Ext.refl _).alloc _,Lib.hid rfl,Lib.hid (by rw [endOf_nil])⟩
 case round=>
  obtain ⟨p,L,g1,c1,rfl,rfl,hp,hL,own1,hx,HL,HE⟩:=hrel
  have hz:=fromB_size s p
  have ha:=cutA_size (fromB s p) 10
  by_cases hlt:p<s.size
  ·by_cases h60:L.length<60
   ·obtain ⟨r1,hr1,hr2⟩:=splitB_head (fromB s p) 10
    have HR1:=Lib.hid hr1
    obtain ⟨hok,hrr⟩:=okS_okI (k:=L.length) (cutA (fromB s p) 10) (by omega) (by omega)
    clear hr1
    cases h1:hasByte (fromB s p) 10
    ·have hr0:r1 = []:=hr2.2 h1
     subst hr0
     have HS:=Lib.hid (logAt_stop s p L.length hp (by unfold stepB;rw [h1];rfl))
     clear h1 hr2 hok hrr
     go_wp2_with (first|(go_at_call 197;go_must (rw [fromB_eq];refine (c_spec_l1Split _ _ _ (by omega)).mono ?_;rintro e w2 ⟨g,cap,rfl,hown,hb2⟩;rw [HR1.out] at hown ⊢;have hcell:=own_cell hown 0 (.string (cutA (fromB s p) 10)) rfl))|(go_at_call 198;go_must (refine (c_spec_l13Decode _ _ _ (by omega) (by omega) (by omega)).mono ?_;rintro e w3 ⟨rfl,hb3⟩)))
     all_goals go_ret2
     all_goals exact open_stop HS.out own1 HL HE hx ((hb2.trans hb3).alloc _)
    ·have hne:r1≠[]:=fun h=>by rw [hr2.1 h] at h1;cases h1
     have hlen:¬((r1.length:Int)+1<2):=by
      have:r1.length≠0:=fun h=>hne (List.eq_nil_of_length_eq_zero h)
      omega
     cases h2:okI L.length (cutA (fromB s p) 10)
     ·have H2:=Lib.hid (hok.trans h2)
      have HS:=Lib.hid (logAt_stop s p L.length hp (by unfold stepB;rw [h1,h2];rfl))
      clear h1 h2 hr2 hok hrr hne
      go_wp2_with (first|(go_at_call 197;go_must (rw [fromB_eq];refine (c_spec_l1Split _ _ _ (by omega)).mono ?_;rintro e w2 ⟨g,cap,rfl,hown,hb2⟩;rw [HR1.out] at hown ⊢;have hcell:=own_cell hown 0 (.string (cutA (fromB s p) 10)) rfl))|(go_at_call 198;go_must (refine (c_spec_l13Decode _ _ _ (by omega) (by omega) (by omega)).mono ?_;rintro e w3 ⟨rfl,hb3⟩;rw [H2.out])))
      all_goals go_ret2
      all_goals exact open_stop HS.out own1 HL HE hx ((hb2.trans hb3).alloc _)
     ·have H2:=Lib.hid (hok.trans h2)
      have HC:=Lib.hid (hrr h2).1
      have HR:=Lib.hid (hrr h2).2
      have HS:=Lib.hid (logAt_step s p L.length hp (by unfold stepB;rw [h1,h2];rfl))
      have HN:=Lib.hid (nextP_eq s p)
      have hn:=nextP_le s p hp h1
      have l1:=own_lt own1
      have hsz:=Below.size hx
      clear h1 h2 hr2 hok hrr hne
      go_wp2_with (first|(go_at_call 197;go_must (rw [fromB_eq];refine (c_spec_l1Split _ _ _ (by omega)).mono ?_;rintro e w2 ⟨g,cap,rfl,hown,hb2⟩;rw [HR1.out] at hown ⊢;have hcell:=own_cell hown 0 (.string (cutA (fromB s p) 10)) rfl;have lg:=own_lt hown))|(go_at_call 198;go_must (refine (c_spec_l13Decode _ _ _ (by omega) (by omega) (by omega)).mono ?_;rintro e w3 ⟨rfl,hb3⟩;rw [H2.out,HC.out,HR.out];have hcell3:=hb3.keep hcell;have hsz3:=Below.size (hb2.trans hb3);have lg3:=own_lt (ownsRow_ext hown hb3)))|(at_builtin;go_must (refine wpList_append_lies _ rfl (.tmp 39) (.tmp 41) 173 rfl w.heap.size 216 i0 _ 2 32 Tryz.underlying173 hi hz0 hz1 hz2 rfl (by decide) (.slice (some ⟨g1,0,none⟩) L.length c1) L.length _ rfl (((ownsRow_ext own1 (hb2.trans hb3)).alloc _).alloc _) ⟨w3.heap.size+1,0,none⟩ 1 1 [.string (rcI (cutA (fromB s p) 10)),.string (rrI (cutA (fromB s p) 10))] rfl rfl (one_cell (by simp)) (by simp [Value.oneCell']) (by decide) (by unfold maxLen;omega) (by omega) (by simp;omega) (w3.heap.size+2) (by simp) ?_;intro g4 c4 w4 own4 grow4 hat4 hlt4;have hsz4:=grow4.size;simp only [World.size_alloc] at hsz4;have hcell4:=grow4.cell (a:=⟨g,0,none⟩) (v:=.string (cutA (fromB s p) 10)) ((((Ext.refl _).alloc _).alloc _).keep hcell3) (by simp only [Value.ownBlock,ne_eq,Option.some.injEq];omega))))
      have k4:=own_lt own4
      have e1:(L++[(rcI (cutA (fromB s p) 10),rrI (cutA (fromB s p) 10),nextP s p)]).length=L.length+1:=by simp
      go_roundw
      case rel=>
       refine ⟨nextP s p,L++[(rcI (cutA (fromB s p) 10),rrI (cutA (fromB s p) 10),nextP s p)],g4,c4,?_,?_,hn,by rw [e1];omega,?_,?_,Lib.hid ?_,Lib.hid ?_⟩
       ·rw [e1]
       ·rw [HN.out];go_num
       ·rw [e1,recCells_snoc];exact own4
       ·exact ((((hx.trans hb2).trans hb3).alloc _).alloc _).grown grow4 (((ownsRow_ext own1 (hb2.trans hb3)).alloc _).alloc _) (Nat.le_refl _)
       ·rw [HL.out,HS.out,e1];simp
       ·rw [endOf_snoc]
      case measure=>
       have:=HN.out
       simp [intOf]
       omega
   ·have HS:=Lib.hid (logAt_stop s p L.length hp (stepB_big s p L.length (by omega)))
    go_wp2
    go_ret2
    exact open_stop HS.out own1 HL HE hx (Ext.refl _)
  ·have HS:=Lib.hid (logAt_stop s p L.length hp (stepB_end s p L.length (by omega)))
   go_wp2
   go_ret2
   exact open_stop HS.out own1 HL HE hx (Ext.refl _)
end Go.Proofs.YtccjepndhlobpaaGreatDoor

/-
  Walks: recovering a log; equal logs.
-/
namespace Go.Proofs.YtccjepndhlobpaaGreatDoor
open Go.RowKit
set_option linter.unusedVariables false
set_option linter.unusedSimpArgs false
attribute [local irreducible] decS sumL sumB sealB textB lineB encOk encStr acOk acStr pieces mkB piecesB splitB upL behL cutA cutZ verOk verStr rcI rrI okI aheadS preS restS atS rcS rrS okS inR okByte printed hasByte fits someB cmdB recB
attribute [local irreducible] fromB logFrom logAt stepB nextP endOf recCells endCells recOk recDur recNum recEnd

set_option maxRecDepth 100000 in
set_option maxHeartbeats 400000 in
theorem c_laws_eqLog (a b:ByteArray) (n:Int) (w:World) :
 Calls Tryz.prog 94 #[.agg #[.string a,.string b,.int .i64 n],.agg #[.string a,.string b,.int .i64 n]] w fun e w'=>e=.returned (.bool true)∧Ext w w':=by
 go_enter Tryz.func94,Tryz.ntmps94
 go_wp2
 go_ret
 exact ⟨rfl,xw⟩
end Go.Proofs.YtccjepndhlobpaaGreatDoor

/-
  Walks: valid logs.
-/
namespace Go.Proofs.YtccjepndhlobpaaGreatDoor
open Go.RowKit
set_option linter.unusedVariables false
set_option linter.unusedSimpArgs false
attribute [local irreducible] decS sumL sumB sealB textB lineB encOk encStr acOk acStr pieces mkB piecesB splitB upL behL cutA cutZ verOk verStr rcI rrI okI aheadS preS restS atS rcS rrS okS inR okByte printed hasByte fits someB cmdB recB
attribute [local irreducible] fromB logFrom logAt stepB nextP endOf recCells endCells recOk recDur recNum recEnd

set_option maxRecDepth 100000 in
set_option maxHeartbeats 1600000 in
theorem c_spec_l13Valid (d p:ByteArray) (n:Int) (w:World) (hd:d.size≤1048576) (hp:p.size≤1048576) :
 Calls Tryz.prog 96 #[.agg #[.string d,.string p,.int .i64 n]] w fun e w'=>e=.returned (.bool (validB d p n))∧Ext w w':=by
 rw [← validS_eq]
 have hs:(d++p).size=d.size+p.size:=ByteArray.size_append
 have HS:=Lib.hid hs
 clear hs
 by_cases h30:d.size+p.size≤30000
 ·go_enter Tryz.func96,Tryz.ntmps96
  go_wp2_with fail
  refine (c_spec_l13Open (d++p) _ (by rw [HS.out];omega)).mono ?_
  rintro e w1 ⟨g,c,rfl,own1,hb1⟩
  obtain ⟨hc1,hf1,hz1⟩:=hb1.cells
  simp only [World.size_alloc] at hc1 hf1 hz1
  go_wp2_with fail
  refine (c_spec_l13Open d _ (by omega)).mono ?_
  rintro e w2 ⟨g2,c2,rfl,own2,hb2⟩
  obtain ⟨hc2,hf2,hz2⟩:=hb2.cells
  go_wp2
  all_goals (go_ret;refine ⟨ret_bool ?_,xw⟩)
  all_goals simp_all [validS]
 ·go_enter Tryz.func96,Tryz.ntmps96
  go_wp2
  go_ret
  exact ⟨ret_bool (by simp [validS,h30]),xw⟩
theorem own_le {w:World} {base base':Nat} {e:TypeId} {size:Nat} {v:Value} {n:Nat} {xs:List Value} (h:w.ownsRow base e size v n xs) (hb:base'≤base):w.ownsRow base' e size v n xs:=
 ⟨h.1,h.2.imp id fun ⟨g,cap,cur,a,b,r⟩=>⟨g,cap,cur,a,Nat.le_trans hb b,r⟩⟩
theorem infoInt':(Tryz.prog.info? 3).map (fun i=>(i.zero,i.size,i.bytes))=some (some (.int .i64 0),1,8):=by kernel_rfl
theorem endsB_len (s:ByteArray):(endsB s).length=1+(logAt s 0 0).length:=by simp [endsB];omega
theorem endsB_cells (s:ByteArray) : [Value.int .i64 0]++endCells (logAt s 0 0)=(endsB s).map (Value.int .i64):=by
 unfold endsB endCells
 simp
theorem endsB_last (s:ByteArray):(endsB s)[(logAt s 0 0).length]? = some (endOf (logAt s 0 0):Int):=by
 unfold endsB endOf
 cases h:logAt s 0 0 with
 | nil=>rfl
 | cons y l=>
  rw [List.length_cons,List.getElem?_cons_succ,List.getElem?_map,List.getLast?_eq_getElem?]
  simp
theorem cells_endsB {w:World} {base g n cap:Nat} {s:ByteArray} (h:w.ownsRow base 3 1 (.slice (some ⟨g,0,none⟩) n cap) n ((endsB s).map (Value.int .i64))):∀j,j<(endsB s).length→w.cell? ⟨g,0+j,none⟩=some (.int .i64 ((endsB s).getD j 0)):=by
 intro j hj
 rw [Nat.zero_add]
 refine own_cell h j _ ?_
 rw [List.getElem?_map,List.getElem?_eq_getElem hj,List.getD_eq_getElem?_getD,List.getElem?_eq_getElem hj]
 rfl
attribute [local irreducible] endsB
set_option maxRecDepth 100000 in
set_option maxHeartbeats 1600000 in
theorem c_impl_recordsOf (d p:ByteArray) (n:Int) (w:World) (hE:Env w) (hd:d.size≤1048576) (hp:p.size≤1048576) :
 Calls Tryz.prog 145 #[.agg #[.string d,.string p,.int .i64 n]] w fun e w'=>∃v,e=.returned (.tuple #[v,.bool (validB d p n)])∧(validB d p n=false→v=.slice none 0 0) ∧
  (validB d p n=true→∃g c,v=.slice (some ⟨g,0,none⟩) (logAt (d++p) 0 0).length c∧w'.ownsRow w.heap.size 216 2 v (logAt (d++p) 0 0).length (recCells (logAt (d++p) 0 0)))∧Ext w w':=by
 have hs:(d++p).size=d.size+p.size:=ByteArray.size_append
 by_cases h30:d.size+p.size≤30000
 ·obtain ⟨j0,hj,hy0,hy1,hy2⟩:=info_parts infoInt'
  have hle:=logAt_len (d++p)
  have heo:=endOf_le (d++p)
  have hel:=endsB_len (d++p)
  have hlast:=Lib.hid (endsB_last (d++p))
  have hcl:=Lib.hid (endsB_cells (d++p))
  have hV:Hid (validB d p n=(decide (endOf (logAt (d++p) 0 0)=(d++p).size) && ((endsB (d++p)).contains (d.size:Int) && (n == ((logAt (d++p) 0 0).length:Int))))):=Lib.hid (by unfold validB;simp [h30])
  have hVt:Hid (validB d p n=true↔((endOf (logAt (d++p) 0 0):Int)=(d.size:Int)+(p.size:Int)∧(d.size:Int)∈endsB (d++p)∧(n != ((logAt (d++p) 0 0).length:Int))=false)):=Lib.hid (by
   rw [hV.out,Bool.and_eq_true,Bool.and_eq_true,decide_eq_true_eq,List.contains_iff_mem,bne_eq_false_iff_eq,beq_iff_eq,hs]
   constructor
   ·rintro ⟨a,b,c⟩;exact ⟨by omega,b,c⟩
   ·rintro ⟨a,b,c⟩;exact ⟨by omega,b,c⟩)
  go_enter Tryz.func145,Tryz.ntmps145
  go_wp2_with fail
  refine (c_impl_readRecords (d++p) _ (by (repeat (first|with_reducible assumption|with_reducible refine Env.alloc ?_ _|with_reducible refine Env.drew ?_|with_reducible refine Env.ext ?_ (by with_reducible assumption)))) (by omega)).mono ?_
  rintro e w2 ⟨g1,c1,g2,c2,rfl,own1,own2,hb2⟩
  have l1:=own_lt own1
  have l2:=own_lt own2
  go_wp2_with (first|(at_builtin;refine wpList_append_own_at _ rfl (.tmp 25) (.tmp 26) 23 rfl w.heap.size 3 j0 _ 1 8 Tryz.underlying23 hj hy0 hy1 hy2 rfl (by decide) (.slice (some ⟨w2.heap.size,0,none⟩) 1 1) 1 [.int .i64 0] rfl (World.ownsRow_lit w2 #[.int .i64 0] 1 (by have:=Below.size hb2;simp at this;omega) (by decide) rfl) ⟨g2,0,none⟩ _ c2 (endCells (logAt (d++p) 0 0)) rfl (by simp [endCells]) (by have:=(own2.alloc (.cells #[.int .i64 0] 3)).cells rfl;exact this) (by unfold endCells;intro u hu;obtain ⟨x,_,rfl⟩:=List.mem_map.1 hu;rfl) (by unfold maxLen;omega) (by omega) (by have:=Below.size hb2;simp at this;simp;omega) ?_;intro v3 w3 own3 grow3 hnil3 hat3;(obtain ⟨g3,c3,rfl,_,_⟩:=own3.form (by omega);rw [Nat.add_comm] at own3;rw [hcl.out] at own3;have k3:=own_lt own3;have hlc:=own_cell own3 (logAt (d++p) 0 0).length _ (by rw [List.getElem?_map,hlast.out];rfl);have hb3:=Ext.grown (hb2.alloc (.cells #[.int .i64 0] 3)) grow3 (World.ownsRow_lit (base:=w.heap.size+1) (e:=3) (size:=1) w2 #[.int .i64 0] 1 (by have:=Below.size hb2;simp at this;omega) (by decide) rfl) (by simp);have q0:=hb3.keep (p:=⟨w.heap.size,0,none⟩) (v:=.string d) (by simp);have q2:=hb3.keep (p:=⟨w.heap.size,2,none⟩) (v:=.int .i64 n) (by simp);have own1':=(ownsRow_ext own1 (Ext.grown ((Ext.refl w2).alloc (.cells #[.int .i64 0] 3)) grow3 (World.ownsRow_lit (base:=w2.heap.size) (e:=3) (size:=1) w2 #[.int .i64 0] 1 (Nat.le_refl _) (by decide) rfl) (Nat.le_refl _)));have hcc:=Lib.hid (cells_endsB own3)))|(refine (Tryz.slices_Contains_int g3 0 _ c3 (endsB (d++p)) _ _ (by omega) (by omega) hcc.out).mono ?_;rintro e w4 ⟨rfl,rfl⟩;rw [List.take_of_length_le (by omega)]))
  all_goals first|(have hv:validB d p n=false:=(Bool.eq_false_iff.2 fun h=>by obtain ⟨q1,q2,q3⟩:=hVt.out.1 h;first|contradiction|(exact absurd ‹(n != _)=true› (by rw [q3];decide)));refine bodyPost_ret (v:=.tuple #[.slice none 0 0,.bool (validB d p n)]) (by rw [hv];simp [results,Tryz.results145,go_sem]) rfl ⟨_,rfl,fun _=>rfl,fun h=>absurd h (by rw [hv];decide),xw⟩)|(have hv:validB d p n=true:=hVt.out.2 ⟨by assumption,by assumption,by assumption⟩;refine bodyPost_ret (v:=.tuple #[.slice (some ⟨g1,0,none⟩) (logAt (d++p) 0 0).length c1,.bool (validB d p n)]) (by rw [hv];simp [results,Tryz.results145,go_sem]) rfl ⟨_,rfl,fun h=>absurd h (by rw [hv];decide),fun _=>⟨_,_,rfl,own_le own1' (by simp)⟩,xw⟩)
 ·go_enter Tryz.func145,Tryz.ntmps145
  go_wp2
  have hV:validB d p n=false:=by unfold validB;simp [h30]
  refine bodyPost_ret (v:=.tuple #[.slice none 0 0,.bool (validB d p n)]) ?_ rfl ⟨_,rfl,fun _=>rfl,fun h=>absurd h (by rw [hV];decide),xw⟩
  rw [hV]
  simp [results,Tryz.results145,go_sem]
set_option maxHeartbeats 400000 in
theorem c_impl_IsValidLog (d p:ByteArray) (n:Int) (w:World) (hE:Env w) (hd:d.size≤1048576) (hp:p.size≤1048576) :
 Calls Tryz.prog 98 #[.agg #[.string d,.string p,.int .i64 n]] w fun e w'=>e=.returned (.bool (validB d p n))∧Ext w w':=by
 go_enter Tryz.func98,Tryz.ntmps98
 go_wp2_with (go_at_call 145;refine (c_impl_recordsOf d p n _ (by (repeat (first|with_reducible assumption|with_reducible refine Env.alloc ?_ _|with_reducible refine Env.drew ?_|with_reducible refine Env.ext ?_ (by with_reducible assumption)))) hd hp).mono ?_;rintro e w1 ⟨v,rfl,_,_,hb1⟩)
 go_ret
 exact ⟨rfl,xw⟩
end Go.Proofs.YtccjepndhlobpaaGreatDoor
