/-
  Plain facts and facts on memory that the walks lean on.
-/
import Derived.Test.YtccjepndhlobpaaGreatDoorB0
import Derived.Lib.IndexBytes
import Derived.Lib.IndexMore
import Derived.Laws.IdiomStrings
/-
  Plain laws on cutting, on reading a record back and on logs, with no program in sight.
-/
namespace Go.Proofs.YtccjepndhlobpaaGreatDoor
open Go.RowKit
set_option linter.unusedVariables false
set_option linter.unusedSimpArgs false

/-- What stands before the first byte c, and behind it. -/
def upL (c:Int) (l:List UInt8):List UInt8:=l.takeWhile fun x=>!((x.toNat:Int) == c)
def behL (c:Int) (l:List UInt8):List UInt8:=(l.dropWhile fun x=>!((x.toNat:Int) == c)).tail
def cutA (s:ByteArray) (c:Int):ByteArray:=mkB (upL c s.data.toList)
def cutZ (s:ByteArray) (c:Int):ByteArray:=mkB (behL c s.data.toList)

theorem byteEq (x c:UInt8):((x.toNat:Int) == (c.toNat:Int))=(x == c):=by
 rw [Bool.eq_iff_iff]
 rw [beq_iff_eq,beq_iff_eq,Int.natCast_inj,UInt8.toNat_inj]
theorem cut_up (l:List UInt8) (c:UInt8):(Lib.cut l [c])=(upL c.toNat l,behL c.toNat l,l.any (fun x=>(x.toNat:Int) == c.toNat)):=by
 unfold Lib.cut
 rw [Lib.index_one]
 have key:∀l:List UInt8,(0≤Lib.indexByte l c∧l.take (Lib.indexByte l c).toNat=upL c.toNat l∧l.drop ((Lib.indexByte l c).toNat+1)=behL c.toNat l∧l.any (fun x=>(x.toNat:Int) == c.toNat)=true)∨(Lib.indexByte l c = -1∧upL c.toNat l=l∧behL c.toNat l = []∧l.any (fun x=>(x.toNat:Int) == c.toNat)=false):=by
  intro l
  induction l with
  | nil=>exact .inr ⟨rfl,rfl,rfl,rfl⟩
  | cons b l ih=>
   unfold Lib.indexByte upL behL
   simp only [byteEq] at ih ⊢
   by_cases h:b=c
   ·subst h
    left
    simp
   ·have hb:(b == c)=false:=by simpa using h
    unfold upL behL at ih
    simp only [byteEq] at ih
    rcases ih with ⟨h1,h2,h3,h4⟩|⟨h1,h2,h3,h4⟩
    ·left
     have n1:(Lib.indexByte l c == -1)=false:=by simp;omega
     rw [hb,n1]
     simp only [Bool.false_eq_true,if_false,List.takeWhile_cons,List.dropWhile_cons,hb,Bool.not_false,if_true,List.any_cons,h4,Bool.or_true,and_true]
     have e:(Lib.indexByte l c+1).toNat=(Lib.indexByte l c).toNat+1:=by omega
     rw [e,List.take_succ_cons,List.drop_succ_cons,h2,h3]
     exact ⟨by omega,rfl,rfl⟩
    ·right
     rw [hb,h1]
     simp only [Bool.false_eq_true,if_false,List.takeWhile_cons,List.dropWhile_cons,hb,Bool.not_false,if_true,List.any_cons,h4,Bool.or_false,and_true]
     exact ⟨rfl,by rw [h2],h3⟩
 rcases key l with ⟨h1,h2,h3,h4⟩|⟨h1,h2,h3,h4⟩
 ·rw [if_pos h1,h2,h4]
  simp only [List.length_singleton]
  rw [h3]
 ·rw [if_neg (by omega),h2,h3,h4]

theorem pieces_head (b:Int):∀(l acc:List UInt8),∃r,pieces b l acc=(acc++upL b l) :: r∧(r = []↔l.any (fun x=>(x.toNat:Int) == b)=false):=by
 intro l
 induction l with
 | nil=>intro acc;exact ⟨[],by simp [pieces,upL],by simp⟩
 | cons c l ih=>
  intro acc
  unfold pieces upL
  by_cases h:((c.toNat:Int) == b)=true
  ·obtain ⟨r,hr,_⟩:=ih []
   refine ⟨pieces b l [],by simp [h],?_⟩
   rw [hr];simp [h]
  ·have h':((c.toNat:Int) == b)=false:=by simpa using h
   obtain ⟨r,hr,hi⟩:=ih (acc++[c])
   refine ⟨r,?_,by rw [hi];simp [h']⟩
   rw [if_neg h,hr,List.takeWhile_cons,h']
   simp [upL]
theorem splitB_head (s:ByteArray) (b:Int):∃r,splitB s b=cutA s b :: r∧(r = []↔hasByte s b=false):=by
 obtain ⟨r,hr,hi⟩:=pieces_head b s.data.toList []
 refine ⟨r.map mkB,?_,?_⟩
 ·unfold splitB piecesB
  simp only [List.drop_zero,Nat.sub_self,List.take_zero]
  rw [hr];rfl
 ·rw [List.map_eq_nil_iff,hi];rfl
theorem upL_eq (c:Int) (l:List UInt8) (h:l.any (fun x=>(x.toNat:Int) == c)=true) (x:UInt8) (hx:(x.toNat:Int)=c):l=upL c l++x :: behL c l:=by
 induction l with
 | nil=>simp at h
 | cons a l ih=>
  unfold upL behL
  by_cases ha:((a.toNat:Int) == c)=true
  ·have:a=x:=by
    rw [← UInt8.toNat_inj]
    have:=beq_iff_eq.1 ha
    omega
   subst this
   simp [ha]
  ·have ha':((a.toNat:Int) == c)=false:=by simpa using ha
   rw [List.any_cons,ha',Bool.false_or] at h
   simp only [List.takeWhile_cons,List.dropWhile_cons,ha',Bool.not_false,if_true,List.cons_append]
   congr 1
   exact ih h
theorem upL_no (c:Int) (l:List UInt8):(upL c l).any (fun x=>(x.toNat:Int) == c)=false:=by
 have h:=List.all_takeWhile (p:=fun x:UInt8=>!((x.toNat:Int) == c)) (l:=l)
 unfold upL
 rw [List.any_eq_false]
 intro x hx
 have:=List.all_eq_true.1 h x hx
 simpa using this
theorem upL_app (c:Int) (a z:List UInt8) (x:UInt8) (hx:(x.toNat:Int)=c) (ha:a.any (fun x=>(x.toNat:Int) == c)=false):upL c (a++x :: z)=a∧behL c (a++x :: z)=z:=by
 unfold upL behL
 induction a with
 | nil=>simp [hx]
 | cons b a ih=>
  rw [List.any_cons,Bool.or_eq_false_iff] at ha
  obtain ⟨i1,i2⟩:=ih ha.2
  simp only [List.cons_append,List.takeWhile_cons,List.dropWhile_cons,ha.1,Bool.not_false,if_true]
  exact ⟨by rw [i1],i2⟩
theorem cutA_no (s:ByteArray) (c:Int):hasByte (cutA s c) c=false:=upL_no c _
theorem cut_back (s:ByteArray) (x:UInt8) (h:hasByte s (x.toNat:Int)=true):s=cutA s x.toNat ++ ⟨#[x]⟩++cutZ s x.toNat:=by
 refine bytes_ext ?_
 rw [app_toList,app_toList]
 have:=upL_eq (x.toNat:Int) s.data.toList h x rfl
 simpa [cutA,cutZ,mkB] using this
theorem cut_app (a z:ByteArray) (x:UInt8) (h:hasByte a (x.toNat:Int)=false):cutA (a ++ ⟨#[x]⟩++z) x.toNat=a∧cutZ (a ++ ⟨#[x]⟩++z) x.toNat=z:=by
 have e:(a ++ ⟨#[x]⟩++z:ByteArray).data.toList=a.data.toList++x :: z.data.toList:=by
  rw [app_toList,app_toList];simp
 obtain ⟨h1,h2⟩:=upL_app (x.toNat:Int) a.data.toList z.data.toList x rfl h
 unfold cutA cutZ
 rw [e,h1,h2]
 exact ⟨bytes_mk a,bytes_mk z⟩
theorem cutA_size (s:ByteArray) (c:Int):(cutA s c).size≤s.size:=by
 have:(upL c s.data.toList).length≤s.data.toList.length:=by unfold upL;exact (List.takeWhile_sublist _).length_le
 simpa [cutA,mkB,ByteArray.size_mk'] using this
theorem cutZ_size (s:ByteArray) (c:Int):(cutZ s c).size≤s.size:=by
 have:(behL c s.data.toList).length≤s.data.toList.length:=by
  unfold behL
  rw [List.length_tail]
  have:=(List.dropWhile_sublist (l:=s.data.toList) (fun x=>!((x.toNat:Int) == c))).length_le
  omega
 simpa [cutZ,mkB,ByteArray.size_mk'] using this
end Go.Proofs.YtccjepndhlobpaaGreatDoor

/-
  Plain laws on reading a record back and on logs, with no program in sight.
-/
namespace Go.Proofs.YtccjepndhlobpaaGreatDoor
open Go.RowKit
set_option linter.unusedVariables false
set_option linter.unusedSimpArgs false

theorem eq_of_toList {a b:ByteArray} (h:(a.toList == b.toList)=true):a=b:=by
 refine bytes_ext ?_
 rw [← Lib.toList_data,← Lib.toList_data]
 exact beq_iff_eq.1 h
theorem toList_eq {a b:ByteArray} (h:a=b):(a.toList == b.toList)=true:=by rw [h];exact beq_self_eq_true _

/-- A line is the seal of what stands before its first number sign. -/
def verOk (s:ByteArray):Bool:=fits s 4000 && (acOk (cutA s 35) && ((acStr (cutA s 35)).toList == s.toList))
def verStr (s:ByteArray):ByteArray:=if verOk s then cutA s 35 else ⟨#[]⟩
/-- What the program reads of a line. -/
def rcI (s:ByteArray):ByteArray:=if verOk s then cutA (cutZ (cutA s 35) 32) 64 else ⟨#[]⟩
def rrI (s:ByteArray):ByteArray:=if verOk s then cutZ (cutZ (cutA s 35) 32) 64 else ⟨#[]⟩
def okI (k:Int) (s:ByteArray):Bool:=verOk s && (encOk k (rcI s) (rrI s) && ((encStr k (rcI s) (rrI s)).toList == (s ++ ⟨#[10]⟩:ByteArray).toList))
/-- What the reference reads of a line. -/
def aheadS (k:Int):ByteArray:=decS k ++ ⟨#[32]⟩
def preS (k:Int) (s:ByteArray):Bool:=decide ((aheadS k).size≤(cutA s 35).size) && (((cutA s 35).extract 0 (aheadS k).size).toList == (aheadS k).toList)
def restS (k:Int) (s:ByteArray):ByteArray:=(cutA s 35).extract (aheadS k).size (cutA s 35).size
def atS (k:Int) (s:ByteArray):Bool:=preS k s && !decide ((cutA (restS k s) 64).size=(restS k s).size)
def rcS (k:Int) (s:ByteArray):ByteArray:=if atS k s then cutA (restS k s) 64 else ⟨#[]⟩
def rrS (k:Int) (s:ByteArray):ByteArray:=if atS k s then (restS k s).extract ((cutA (restS k s) 64).size+1) (restS k s).size else ⟨#[]⟩
def okS (k:Int) (s:ByteArray):Bool:=atS k s && (recB (rcS k s) (rrS k s) && ((lineB k (rcS k s) (rrS k s)).toList == (s ++ ⟨#[10]⟩:ByteArray).toList))

/-- A line, without its newline, is the encoding of a valid record with a number. -/
def Dec (k:Int) (s c r:ByteArray):Prop:=encOk k c r=true∧sealB (textB k c r)=s

theorem app_inj {a b x:ByteArray} (h:a++x=b++x):a=b:=by
 refine bytes_ext ?_
 have:=congrArg (fun z:ByteArray=>z.data.toList) h
 simp only [app_toList] at this
 exact List.append_cancel_right this
theorem Dec.cut {k:Int} {s c r:ByteArray} (h:Dec k s c r):cutA s 35=textB k c r:=by
 obtain ⟨h1,h2⟩:=h
 have:=textB_ok h1
 unfold acOk at this
 simp only [Bool.and_eq_true,Bool.not_eq_true'] at this
 subst h2
 exact (cut_app (textB k c r) (decS (sumB (textB k c r))) 35 this.1.2).1
theorem encOk_parts {k:Int} {c r:ByteArray} (h:encOk k c r=true):0≤k∧k≤59∧recB c r=true:=by
 unfold encOk inR at h
 simp at h
 exact ⟨h.1.1,h.1.2,h.2⟩
theorem rest_text {k:Int} {c r:ByteArray} (h:encOk k c r=true):cutA (textB k c r) 32=decS k∧cutZ (textB k c r) 32=c ++ ⟨#[64]⟩++r:=by
 obtain ⟨h0,h1,hr⟩:=encOk_parts h
 have e:textB k c r=decS k ++ ⟨#[32]⟩++(c ++ ⟨#[64]⟩++r):=by
  unfold textB
  refine bytes_ext ?_
  simp only [app_toList,List.append_assoc]
 rw [e]
 exact cut_app (decS k) _ 32 (decS_no k h0 _ (by decide))
theorem rest_rec {k:Int} {c r:ByteArray} (h:encOk k c r=true):cutA (c ++ ⟨#[64]⟩++r) 64=c∧cutZ (c ++ ⟨#[64]⟩++r) 64=r:=by
 obtain ⟨h0,h1,hr⟩:=encOk_parts h
 exact cut_app c r 64 (recB_parts hr).2.2.2.2.1
theorem Dec.okI {k:Int} {s c r:ByteArray} (h:Dec k s c r):okI k s=true∧rcI s=c∧rrI s=r:=by
 have hc:=h.cut
 obtain ⟨h1,h2⟩:=h
 have ha:=textB_ok h1
 have hs:acStr (textB k c r)=s:=by unfold acStr;rw [ha];exact h2
 have hv:verOk s=true:=by
  unfold verOk
  rw [hc,ha,hs]
  simp only [beq_self_eq_true,Bool.and_true,Bool.true_and]
  unfold fits
  have:=acStr_size (textB k c r)
  rw [hs] at this
  simp
  omega
 have e1:rcI s=c:=by unfold rcI;rw [hv,hc];simp only [if_true];rw [(rest_text h1).2,(rest_rec h1).1]
 have e2:rrI s=r:=by unfold rrI;rw [hv,hc];simp only [if_true];rw [(rest_text h1).2,(rest_rec h1).2]
 refine ⟨?_,e1,e2⟩
 unfold Proofs.YtccjepndhlobpaaGreatDoor.okI
 rw [hv,e1,e2,h1]
 simp only [Bool.true_and]
 refine toList_eq ?_
 unfold encStr lineB
 rw [h1,if_pos rfl,h2]
theorem okI_dec {k:Int} {s:ByteArray} (h:okI k s=true):Dec k s (rcI s) (rrI s):=by
 unfold okI at h
 simp only [Bool.and_eq_true] at h
 obtain ⟨_,h1,h2⟩:=h
 have h2:=eq_of_toList h2
 unfold encStr lineB at h2
 rw [h1,if_pos rfl] at h2
 exact ⟨h1,app_inj h2⟩
theorem Dec.uniq {k:Int} {s c r c' r':ByteArray} (h:Dec k s c r) (h':Dec k s c' r'):c=c'∧r=r':=
 ⟨h.okI.2.1.symm.trans h'.okI.2.1,h.okI.2.2.symm.trans h'.okI.2.2⟩
theorem extract_pre (a b:ByteArray):(a++b).extract 0 a.size=a∧(a++b).extract a.size (a++b).size=b:=by
 constructor
 ·refine bytes_ext ?_
  rw [Lib.extract_data,app_toList]
  simp
 ·refine bytes_ext ?_
  rw [Lib.extract_data,app_toList]
  simp
  exact List.take_of_length_le (by simp)
theorem Dec.okS {k:Int} {s c r:ByteArray} (h:Dec k s c r):okS k s=true∧rcS k s=c∧rrS k s=r:=by
 have hc:=h.cut
 obtain ⟨h1,h2⟩:=h
 have e:textB k c r=aheadS k++(c ++ ⟨#[64]⟩++r):=by
  unfold textB aheadS
  refine bytes_ext ?_
  simp only [app_toList,List.append_assoc]
 have hr:restS k s=c ++ ⟨#[64]⟩++r:=by unfold restS;rw [hc,e];exact (extract_pre _ _).2
 have hcu:=rest_rec h1
 have ha:atS k s=true:=by
  unfold atS preS
  rw [hr,hcu.1,hc,e,(extract_pre _ _).1]
  simp [ByteArray.size_append,ByteArray.size_mk']
  omega
 have e1:rcS k s=c:=by unfold rcS;rw [ha,if_pos rfl,hr,hcu.1]
 have e2:rrS k s=r:=by
  unfold rrS
  rw [ha,if_pos rfl,hr,hcu.1]
  have e3:(c ++ ⟨#[64]⟩:ByteArray).size=c.size+1:=by simp [ByteArray.size_append,ByteArray.size_mk']
  have:=(extract_pre (c ++ ⟨#[64]⟩) r).2
  rw [e3] at this
  exact this
 refine ⟨?_,e1,e2⟩
 unfold Proofs.YtccjepndhlobpaaGreatDoor.okS
 rw [ha,e1,e2,(encOk_parts h1).2.2]
 simp only [Bool.true_and]
 refine toList_eq ?_
 unfold lineB
 rw [h2]
theorem okS_dec {k:Int} {s:ByteArray} (h0:0≤k) (h1:k≤59) (h:okS k s=true):Dec k s (rcS k s) (rrS k s):=by
 unfold okS at h
 simp only [Bool.and_eq_true] at h
 obtain ⟨_,h2,h3⟩:=h
 have h3:=eq_of_toList h3
 unfold lineB at h3
 refine ⟨?_,app_inj h3⟩
 unfold encOk inR
 rw [h2]
 simp [h0,h1]
/-- Program and reference read the same. -/
theorem okS_okI {k:Int} (s:ByteArray) (h0:0≤k) (h1:k≤59):okS k s=okI k s∧(okI k s=true→rcS k s=rcI s∧rrS k s=rrI s):=by
 have hi:okI k s=true→okS k s=true∧rcS k s=rcI s∧rrS k s=rrI s:=fun h=>(okI_dec h).okS
 refine ⟨?_,fun h=>(hi h).2⟩
 rw [Bool.eq_iff_iff]
 exact ⟨fun h=>(okS_dec h0 h1 h).okI.1,fun h=>(hi h).1⟩
theorem ahead_size (k:Int):(aheadS k).size=(decS k).size+1:=by simp [aheadS,ByteArray.size_append,ByteArray.size_mk']
theorem pre_parts {k:Int} {s:ByteArray} (hp:preS k s=true):¬(cutA s 35).size<(decS k).size+1∧(((cutA s 35).extract 0 ((decS k).size+1)).toList == (decS k ++ ⟨#[32]⟩:ByteArray).toList)=true∧restS k s=(cutA s 35).extract ((decS k).size+1) (cutA s 35).size:=by
 refine ⟨?_,?_,by unfold restS;rw [ahead_size]⟩
 ·unfold preS at hp
  rw [ahead_size] at hp
  simp at hp
  omega
 ·unfold preS at hp
  rw [ahead_size,Bool.and_eq_true] at hp
  exact hp.2
theorem rest_size (k:Int) (s:ByteArray):(restS k s).size≤s.size:=by
 have:=cutA_size s 35
 unfold restS
 rw [ByteArray.size_extract]
 omega
theorem at_parts {k:Int} {s:ByteArray} (ha:atS k s=true):preS k s=true∧((((cutA (restS k s) 64).size:Nat):Int) == (((restS k s).size:Nat):Int))=false∧(cutA (restS k s) 64).size<(restS k s).size∧rcS k s=cutA (restS k s) 64∧rrS k s=(restS k s).extract ((cutA (restS k s) 64).size+1) (restS k s).size:=by
 have h:=ha
 unfold atS at h
 rw [Bool.and_eq_true] at h
 have h2:(cutA (restS k s) 64).size≠(restS k s).size:=by simpa using h.2
 have h3:=cutA_size (restS k s) 64
 refine ⟨h.1,?_,by omega,by unfold rcS;rw [ha,if_pos rfl],by unfold rrS;rw [ha,if_pos rfl]⟩
 rw [beq_eq_false_iff_ne]
 omega
end Go.Proofs.YtccjepndhlobpaaGreatDoor

/-
  Plain laws on logs: the records at the beginning of bytes, with no program in sight.
-/
namespace Go.Proofs.YtccjepndhlobpaaGreatDoor
open Go.RowKit
set_option linter.unusedVariables false
set_option linter.unusedSimpArgs false

/-- What stands from a place on. -/
def fromB (s:ByteArray) (at_:Nat):ByteArray:=s.extract at_ s.size
/-- The records from a place on, the first one with the number k: each as Command, Reply and the place behind it. -/
def logFrom:Nat→ByteArray→Nat→Nat→List (ByteArray × ByteArray × Nat)
 | 0,_,_,_=>[]
 | fuel+1,s,p,k=>
  if hasByte (fromB s p) 10 && okI k (cutA (fromB s p) 10) then
   (rcI (cutA (fromB s p) 10),rrI (cutA (fromB s p) 10),p+(cutA (fromB s p) 10).size+1) :: logFrom fuel s (p+(cutA (fromB s p) 10).size+1) (k+1)
  else []
def logAt (s:ByteArray) (p k:Nat):List (ByteArray × ByteArray × Nat):=logFrom (s.size+1 - p) s p k
def stepB (s:ByteArray) (p k:Nat):Bool:=hasByte (fromB s p) 10 && okI k (cutA (fromB s p) 10)
def nextP (s:ByteArray) (p:Nat):Nat:=p+(cutA (fromB s p) 10).size+1

theorem fromB_size (s:ByteArray) (p:Nat):(fromB s p).size=s.size - p:=by
 unfold fromB;rw [ByteArray.size_extract];omega
theorem nextP_le (s:ByteArray) (p:Nat) (hp:p≤s.size) (h:hasByte (fromB s p) 10=true):nextP s p≤s.size:=by
 have e:=cut_back (fromB s p) 10 h
 have:=congrArg ByteArray.size e
 rw [fromB_size] at this
 simp only [ByteArray.size_append,ByteArray.size_mk'] at this
 unfold nextP
 have h10:((10:UInt8).toNat:Int)=10:=rfl
 rw [h10] at this
 simp at this
 omega
theorem logFrom_succ (n:Nat) (s:ByteArray) (p k:Nat):logFrom (n+1) s p k=if stepB s p k then (rcI (cutA (fromB s p) 10),rrI (cutA (fromB s p) 10),nextP s p) :: logFrom n s (nextP s p) (k+1) else []:=rfl
theorem logFrom_fuel:∀(n m:Nat) (s:ByteArray) (p k:Nat),p≤s.size→s.size+1 - p≤n→s.size+1 - p≤m→logFrom n s p k=logFrom m s p k:=by
 intro n
 induction n with
 | zero=>intro m s p k hp hn;omega
 | succ n ih=>
  intro m s p k hp hn hm
  match m with
  | 0=>omega
  | m+1=>
   rw [logFrom_succ,logFrom_succ]
   split
   ·rename_i h
    unfold stepB at h
    rw [Bool.and_eq_true] at h
    have hl:=nextP_le s p hp h.1
    have hg:p<nextP s p:=by unfold nextP;omega
    rw [ih m s (nextP s p) (k+1) hl (by omega) (by omega)]
   ·rfl
theorem logAt_step (s:ByteArray) (p k:Nat) (hp:p≤s.size) (h:stepB s p k=true):logAt s p k=(rcI (cutA (fromB s p) 10),rrI (cutA (fromB s p) 10),nextP s p) :: logAt s (nextP s p) (k+1):=by
 have hh:=h
 unfold stepB at hh
 rw [Bool.and_eq_true] at hh
 have hl:=nextP_le s p hp hh.1
 have hg:p<nextP s p:=by unfold nextP;omega
 unfold logAt
 rw [show s.size+1 - p=(s.size - p)+1 by omega,logFrom_succ,if_pos h,logFrom_fuel (s.size - p) (s.size+1 - nextP s p) s (nextP s p) (k+1) hl (by omega) (by omega)]
theorem logAt_stop (s:ByteArray) (p k:Nat) (hp:p≤s.size) (h:stepB s p k=false):logAt s p k = []:=by
 unfold logAt
 rw [show s.size+1 - p=(s.size - p)+1 by omega,logFrom_succ,if_neg (by simp [h])]
theorem stepB_end (s:ByteArray) (p k:Nat) (hp:s.size≤p):stepB s p k=false:=by
 have h0:(fromB s p).size=0:=by rw [fromB_size];omega
 have:hasByte (fromB s p) 10=false:=by
  unfold hasByte
  have:(fromB s p).data.toList = []:=by
   apply List.eq_nil_of_length_eq_zero
   simpa using h0
  rw [this];rfl
 unfold stepB
 rw [this];rfl
theorem okI_range {k:Int} {s:ByteArray} (h:okI k s=true):0≤k∧k≤59:=by
 have:=okI_dec h
 exact ⟨(encOk_parts this.1).1,(encOk_parts this.1).2.1⟩
theorem stepB_big (s:ByteArray) (p k:Nat) (hk:60≤k):stepB s p k=false:=by
 cases h:stepB s p k
 ·rfl
 ·unfold stepB at h
  rw [Bool.and_eq_true] at h
  have:=okI_range h.2
  omega
/-- The place behind all records. -/
def endOf (l:List (ByteArray × ByteArray × Nat)):Nat:=(l.getLast?.map (·.2.2)).getD 0
theorem endOf_nil:endOf []=0:=rfl
theorem endOf_snoc (l:List (ByteArray × ByteArray × Nat)) (c r:ByteArray) (p:Nat):endOf (l++[(c,r,p)])=p:=by simp [endOf]
/-- The cells of records, as Go lays them. -/
def recCells (l:List (ByteArray × ByteArray × Nat)):List Value:=l.flatMap fun x=>[.string x.1,.string x.2.1]
theorem recCells_snoc (l:List (ByteArray × ByteArray × Nat)) (c r:ByteArray) (p:Nat):recCells (l++[(c,r,p)])=recCells l++[.string c,.string r]:=by simp [recCells]
theorem recCells_length (l:List (ByteArray × ByteArray × Nat)):(recCells l).length=l.length * 2:=by
 induction l with
 | nil=>rfl
 | cons x l ih=>unfold recCells at *;rw [List.flatMap_cons,List.length_append,ih];simp;omega
def endCells (l:List (ByteArray × ByteArray × Nat)):List Value:=l.map fun x=>.int .i64 x.2.2
theorem endCells_snoc (l:List (ByteArray × ByteArray × Nat)) (c r:ByteArray) (p:Nat):endCells (l++[(c,r,p)])=endCells l++[.int .i64 p]:=by simp [endCells]
theorem recCells_nil:recCells [] = []:=rfl
theorem endCells_nil:endCells [] = []:=rfl
theorem nextP_eq (s:ByteArray) (p:Nat):nextP s p=p+(cutA (fromB s p) 10).size+1:=rfl
theorem fromB_eq (s:ByteArray) (p:Nat):s.extract p s.size=fromB s p:=rfl
end Go.Proofs.YtccjepndhlobpaaGreatDoor

/-
  Plain laws on recovering logs, with no program in sight.
-/
namespace Go.Proofs.YtccjepndhlobpaaGreatDoor
open Go.RowKit
set_option linter.unusedVariables false
set_option linter.unusedSimpArgs false

theorem logFrom_ends:∀(n:Nat) (s:ByteArray) (p k:Nat),p≤s.size→∀x∈logFrom n s p k,p<x.2.2∧x.2.2≤s.size:=by
 intro n
 induction n with
 | zero=>intro s p k hp x hx;cases hx
 | succ n ih=>
  intro s p k hp x hx
  rw [logFrom_succ] at hx
  split at hx
  ·rename_i h
   unfold stepB at h
   rw [Bool.and_eq_true] at h
   have hl:=nextP_le s p hp h.1
   have hg:p<nextP s p:=by unfold nextP;omega
   rcases List.mem_cons.1 hx with rfl|hx
   ·exact ⟨hg,hl⟩
   ·have:=ih s (nextP s p) (k+1) hl x hx
    omega
  ·cases hx
theorem logFrom_len:∀(n:Nat) (s:ByteArray) (p k:Nat),k≤60→(logFrom n s p k).length+k≤60:=by
 intro n
 induction n with
 | zero=>intro s p k hk;simpa [logFrom] using hk
 | succ n ih=>
  intro s p k hk
  rw [logFrom_succ]
  split
  ·rename_i h
   have hk2:¬60≤k:=fun h60=>by rw [stepB_big s p k h60] at h;cases h
   have:=ih s (nextP s p) (k+1) (by omega)
   simp only [List.length_cons]
   omega
  ·simpa using hk
theorem logAt_len (s:ByteArray):(logAt s 0 0).length≤60:=by
 have:=logFrom_len (s.size+1 - 0) s 0 0 (by decide)
 unfold logAt
 omega
theorem endOf_mem (l:List (ByteArray × ByteArray × Nat)) (h:l≠[]):∃x∈l,endOf l=x.2.2:=by
 refine ⟨l.getLast h,List.getLast_mem h,?_⟩
 unfold endOf
 rw [List.getLast?_eq_some_getLast h]
 rfl
theorem endOf_le (s:ByteArray):endOf (logAt s 0 0)≤s.size:=by
 by_cases h:logAt s 0 0 = []
 ·rw [h];exact Nat.zero_le _
 ·obtain ⟨x,hx,e⟩:=endOf_mem _ h
  rw [e]
  exact (logFrom_ends _ s 0 0 (Nat.zero_le _) x hx).2
theorem endCells_last (l:List (ByteArray × ByteArray × Nat)) (h:0<l.length):(endCells l)[l.length - 1]? = some (.int .i64 (endOf l)):=by
 have hne:l≠[]:=fun e=>by rw [e] at h;cases h
 unfold endCells endOf
 rw [List.getElem?_map,← List.getLast?_eq_getElem?,List.getLast?_eq_some_getLast hne]
 rfl
theorem endOf_empty {l:List (ByteArray × ByteArray × Nat)} (h:¬0<l.length):endOf l=0:=by
 have:l = []:=List.eq_nil_of_length_eq_zero (by omega)
 rw [this];rfl
/-- What is recovered. -/
def recOk (s:ByteArray):Bool:=fits s 30000
def recDur (s:ByteArray):ByteArray:=if recOk s then s.extract 0 (endOf (logAt s 0 0)) else ⟨#[]⟩
def recNum (s:ByteArray):Int:=if recOk s then ((logAt s 0 0).length:Int) else 0
def recEnd (s:ByteArray):Int:=if recOk s then (endOf (logAt s 0 0):Int) else 0
end Go.Proofs.YtccjepndhlobpaaGreatDoor

/-
  Plain laws on valid logs, with no program in sight.
-/
namespace Go.Proofs.YtccjepndhlobpaaGreatDoor
open Go.RowKit
set_option linter.unusedVariables false
set_option linter.unusedSimpArgs false

/-- s without its end is d. -/
def Pre (d s:ByteArray):Prop:=∃t:ByteArray,s=d++t
theorem Pre.size {d s:ByteArray} (h:Pre d s):d.size≤s.size:=by
 obtain ⟨t,rfl⟩:=h
 rw [ByteArray.size_append];omega
theorem fromB_list (s:ByteArray) (p:Nat):(fromB s p).data.toList=s.data.toList.drop p:=by
 unfold fromB
 rw [Lib.extract_data]
 exact List.take_of_length_le (by simp)
theorem Pre.from_ {d s:ByteArray} (h:Pre d s) (p:Nat) (hp:p≤d.size):∃t:List UInt8,(fromB s p).data.toList=(fromB d p).data.toList++t:=by
 obtain ⟨t,rfl⟩:=h
 refine ⟨t.data.toList,?_⟩
 rw [fromB_list,fromB_list,app_toList,List.drop_append_of_le_length (by simpa using hp)]
theorem upL_pre (c:Int):∀(a t:List UInt8),a.any (fun x=>(x.toNat:Int) == c)=true→upL c (a++t)=upL c a∧(a++t).any (fun x=>(x.toNat:Int) == c)=true:=by
 intro a
 induction a with
 | nil=>intro t h;simp at h
 | cons x a ih=>
  intro t h
  unfold upL at *
  by_cases hx:((x.toNat:Int) == c)=true
  ·simp [hx]
  ·have hx':((x.toNat:Int) == c)=false:=by simpa using hx
   rw [List.any_cons,hx',Bool.false_or] at h
   obtain ⟨h1,h2⟩:=ih t h
   simp only [List.cons_append,List.takeWhile_cons,hx',Bool.not_false,if_true,List.any_cons,Bool.false_or]
   exact ⟨by rw [h1],h2⟩
theorem upL_long (c:Int):∀(a t:List UInt8),a.any (fun x=>(x.toNat:Int) == c)=false→a.length≤(upL c (a++t)).length:=by
 intro a
 induction a with
 | nil=>intro t h;simp
 | cons x a ih=>
  intro t h
  rw [List.any_cons,Bool.or_eq_false_iff] at h
  have:=ih t h.2
  unfold upL at *
  simp only [List.cons_append,List.takeWhile_cons,h.1,Bool.not_false,if_true,List.length_cons]
  omega
theorem cutA_len (s:ByteArray) (c:Int):(cutA s c).size=(upL c s.data.toList).length:=by
 unfold cutA mkB
 simp [ByteArray.size_mk']
/-- A step within the beginning is a step of the whole. -/
theorem Pre.step {d s:ByteArray} (h:Pre d s) (p k:Nat) (hp:p≤d.size) (hs:stepB d p k=true):stepB s p k=true∧cutA (fromB s p) 10=cutA (fromB d p) 10:=by
 obtain ⟨t,ht⟩:=h.from_ p hp
 unfold stepB at hs ⊢
 rw [Bool.and_eq_true] at hs
 have h1:=hs.1
 unfold hasByte at h1
 obtain ⟨u1,u2⟩:=upL_pre 10 _ t h1
 have e:cutA (fromB s p) 10=cutA (fromB d p) 10:=by unfold cutA;rw [ht,u1]
 refine ⟨?_,e⟩
 rw [e,hs.2,Bool.and_true]
 unfold hasByte
 rw [ht];exact u2
/-- A step of the whole that ends within the beginning is a step of it. -/
theorem Pre.back {d s:ByteArray} (h:Pre d s) (p k:Nat) (hp:p≤d.size) (hs:stepB s p k=true) (hn:nextP s p≤d.size):stepB d p k=true:=by
 obtain ⟨t,ht⟩:=h.from_ p hp
 cases hb:(fromB d p).data.toList.any (fun x=>(x.toNat:Int) == 10)
 ·have hl:=upL_long 10 _ t hb
  rw [← ht,← cutA_len] at hl
  have hz:=fromB_size d p
  have:(fromB d p).data.toList.length=(fromB d p).size:=by simp
  unfold nextP at hn
  omega
 ·obtain ⟨u1,u2⟩:=upL_pre 10 _ t hb
  have e:cutA (fromB s p) 10=cutA (fromB d p) 10:=by unfold cutA;rw [ht,u1]
  unfold stepB at hs ⊢
  rw [Bool.and_eq_true] at hs
  rw [← e,hs.2,Bool.and_true]
  exact hb
theorem logFrom_after (n:Nat) (s:ByteArray) (p k:Nat) (hp:p≤s.size):∀x∈logFrom n s p k,p<x.2.2:=fun x hx=>(logFrom_ends n s p k hp x hx).1
/-- The records of a beginning are those records of the whole that end within it. -/
theorem log_pre {d s:ByteArray} (h:Pre d s):∀(n p k:Nat),p≤d.size→logFrom n d p k=(logFrom n s p k).takeWhile (fun x=>decide (x.2.2≤d.size)):=by
 intro n
 induction n with
 | zero=>intro p k hp;rfl
 | succ n ih=>
  intro p k hp
  have hps:p≤s.size:=Nat.le_trans hp h.size
  rw [logFrom_succ,logFrom_succ]
  cases hd:stepB d p k
  ·rw [if_neg (by simp)]
   cases hs:stepB s p k
   ·rw [if_neg (by simp)];rfl
   ·rw [if_pos rfl,List.takeWhile_cons,if_neg]
    intro hc
    have:=h.back p k hp hs (by simpa using hc)
    rw [hd] at this;cases this
  ·obtain ⟨hs,e⟩:=h.step p k hp hd
   have hd':=hd
   unfold stepB at hd'
   rw [Bool.and_eq_true] at hd'
   have hl:=nextP_le d p hp hd'.1
   have en:nextP s p=nextP d p:=by unfold nextP;rw [e]
   rw [if_pos rfl,hs,if_pos rfl,List.takeWhile_cons,en,if_pos (by simpa using hl),ih _ _ hl,e]
theorem logAt_pre {d s:ByteArray} (h:Pre d s):logAt d 0 0=(logAt s 0 0).takeWhile (fun x=>decide (x.2.2≤d.size)):=by
 unfold logAt
 rw [logFrom_fuel (d.size+1 - 0) (s.size+1 - 0) d 0 0 (Nat.zero_le _) (Nat.le_refl _) (by have:=h.size;omega),log_pre h _ _ _ (Nat.zero_le _)]
/-- The places rise. -/
theorem logFrom_rising:∀(n:Nat) (s:ByteArray) (p k:Nat),p≤s.size→(logFrom n s p k).Pairwise (fun x y=>x.2.2<y.2.2):=by
 intro n
 induction n with
 | zero=>intro s p k hp;exact List.Pairwise.nil
 | succ n ih=>
  intro s p k hp
  rw [logFrom_succ]
  split
  ·rename_i h
   unfold stepB at h
   rw [Bool.and_eq_true] at h
   have hl:=nextP_le s p hp h.1
   exact List.Pairwise.cons (fun y hy=>logFrom_after n s _ _ hl y hy) (ih s _ _ hl)
  ·exact List.Pairwise.nil
theorem endOf_cons (y:ByteArray × ByteArray × Nat) (q:List (ByteArray × ByteArray × Nat)) (h:q≠[]):endOf (y :: q)=endOf q:=by
 unfold endOf
 rw [List.getLast?_cons,List.getLast?_eq_some_getLast h]
 rfl
theorem takeWhile_upto:∀(l:List (ByteArray × ByteArray × Nat)) (m:Nat),l.Pairwise (fun x y=>x.2.2<y.2.2)→(∃x∈l,x.2.2=m)→endOf (l.takeWhile (fun x=>decide (x.2.2≤m)))=m:=by
 intro l
 induction l with
 | nil=>intro m _ h;obtain ⟨x,hx,_⟩:=h;cases hx
 | cons y l ih=>
  intro m hp h
  obtain ⟨x,hx,e⟩:=h
  have hy:=(List.pairwise_cons.1 hp).1
  rcases List.mem_cons.1 hx with rfl|hx
  ·have hn:l.takeWhile (fun z=>decide (z.2.2≤m)) = []:=by
    cases l with
    | nil=>rfl
    | cons z l=>
     rw [List.takeWhile_cons,if_neg]
     have:=hy z List.mem_cons_self
     simp
     omega
   rw [List.takeWhile_cons,if_pos (by simp [e]),hn]
   simp [endOf,e]
  ·have hlt:=hy x hx
   have:=ih m (List.Pairwise.of_cons hp) ⟨x,hx,e⟩
   rw [List.takeWhile_cons,if_pos (by simp;omega)]
   have hne:l.takeWhile (fun z=>decide (z.2.2≤m))≠[]:=by
    intro h0
    rw [h0] at this
    simp [endOf] at this
    omega
   rw [endOf_cons _ _ hne];exact this
/-- A log is valid. -/
def endsB (s:ByteArray):List Int:=0 :: (logAt s 0 0).map (fun x=>(x.2.2:Int))
def validB (d p:ByteArray) (n:Int):Bool:=
 decide (d.size+p.size≤30000) && (decide (endOf (logAt (d++p) 0 0)=(d++p).size) && ((endsB (d++p)).contains (d.size:Int) && (n == ((logAt (d++p) 0 0).length:Int))))
theorem endOf_logAt (d p:ByteArray):(endsB (d++p)).contains (d.size:Int)=decide (endOf (logAt d 0 0)=d.size):=by
 have hpre:Pre d (d++p):=⟨p,rfl⟩
 rw [Bool.eq_iff_iff,List.contains_iff_mem,decide_eq_true_eq]
 unfold endsB
 rw [List.mem_cons,List.mem_map]
 constructor
 ·rintro (h|⟨x,hx,e⟩)
  ·have h0:d.size=0:=by omega
   rw [logAt_stop d 0 0 (Nat.zero_le _) (stepB_end d 0 0 (by omega)),h0];rfl
  ·rw [logAt_pre hpre]
   refine takeWhile_upto _ _ ?_ ⟨x,hx,by omega⟩
   unfold logAt
   exact logFrom_rising _ _ _ _ (Nat.zero_le _)
 ·intro h
  by_cases h0:logAt d 0 0 = []
  ·left
   rw [h0] at h
   have:endOf []=0:=rfl
   omega
  ·right
   obtain ⟨x,hx,e⟩:=endOf_mem _ h0
   rw [logAt_pre hpre] at hx
   exact ⟨x,(List.takeWhile_sublist _).mem hx,by omega⟩
def validS (d p:ByteArray) (n:Int):Bool:=
 decide (d.size+p.size≤30000) && (((endOf (logAt (d++p) 0 0):Int) == ((d.size:Int)+(p.size:Int))) && (((endOf (logAt d 0 0):Int) == (d.size:Int)) && (((logAt (d++p) 0 0).length:Int) == n)))
theorem validS_eq (d p:ByteArray) (n:Int):validS d p n=validB d p n:=by
 unfold validS validB
 rw [endOf_logAt,ByteArray.size_append,Bool.eq_iff_iff]
 simp only [Bool.and_eq_true,decide_eq_true_eq,beq_iff_eq]
 constructor
 ·rintro ⟨h1,h2,h3,h4⟩;exact ⟨h1,by omega,by omega,by omega⟩
 ·rintro ⟨h1,h2,h3,h4⟩;exact ⟨h1,by omega,by omega,by omega⟩
end Go.Proofs.YtccjepndhlobpaaGreatDoor

/-
  Plain laws: what the log's functions answer, with no program in sight.
-/
namespace Go.Proofs.YtccjepndhlobpaaGreatDoor
open Go.RowKit
set_option linter.unusedVariables false
set_option linter.unusedSimpArgs false

/-- A log that is synced. -/
def syncD (d p:ByteArray) (n:Int):ByteArray:=if validB d p n then d++p else ⟨#[]⟩
def syncN (d p:ByteArray) (n:Int):Int:=if validB d p n then n else 0
theorem validB_le {d p:ByteArray} {n:Int} (h:validB d p n=true):d.size+p.size≤30000∧(n=((logAt (d++p) 0 0).length:Int)):=by
 unfold validB at h
 simp only [Bool.and_eq_true,decide_eq_true_eq,beq_iff_eq] at h
 exact ⟨h.1,h.2.2.2⟩
/-- A log that has crashed: the first k bytes of what was pending stay, the last of them spoilt. -/
def crashOk (d p:ByteArray) (n k:Int):Bool:=validB d p n && (decide (0≤k) && decide (k≤p.size))
def byteAt (s:ByteArray) (j:Nat):UInt8:=s.data.toList.getD j 0
def setB (s:ByteArray) (j:Nat) (x:UInt8):ByteArray:=⟨s.data.setIfInBounds j x⟩
def spoil (s:ByteArray):ByteArray:=setB s (s.size - 1) (255 - byteAt s (s.size - 1))
def crashS (d p:ByteArray) (n k:Int) (b:Bool):ByteArray:=if crashOk d p n k then d++(if b && decide (0<k) then spoil (p.extract 0 k.toNat) else p.extract 0 k.toNat) else ⟨#[]⟩
end Go.Proofs.YtccjepndhlobpaaGreatDoor

/-
  Bytes that lie in a row: made from a string, changed at one place, made a string again.
-/
namespace Go.Proofs.YtccjepndhlobpaaGreatDoor
open Go.RowKit
set_option linter.unusedVariables false
set_option linter.unusedSimpArgs false

/-- From block g on lie the bytes of s. -/
def Lies (w:World) (g:Nat) (s:ByteArray):Prop:=∀j (h:j<s.data.size),w.cell? ⟨g,j,none⟩=some (.int .u8 (s.data[j].toNat:Int))
theorem lies_new (w:World) (s:ByteArray) (cap:Nat) (e:TypeId) (fz:Nat × Nat):Lies (w.alloc (.cells (bytesRow s cap) e fz)) w.heap.size s:=by
 intro j h
 rw [World.cell?_alloc_mark,bytesRow_at s cap j h]
theorem lies_set {w:World} {g:Nat} {s:ByteArray} (h:Lies w g s) (j:Nat) (hj:j<s.data.size) (x:UInt8):Lies (w.setCell ⟨g,j,none⟩ (.int .u8 (x.toNat:Int))) g (setB s j x):=by
 intro i hi
 have hi':i<s.data.size:=by simpa [setB] using hi
 have e:(setB s j x).data[i]=if i=j then x else s.data[i]:=by
  simp only [setB,Array.getElem_setIfInBounds hi',eq_comm]
 rw [e]
 by_cases hij:i=j
 ·subst hij
  rw [if_pos rfl]
  exact World.cell?_setCell_same _ _ _ (h i hj)
 ·rw [if_neg hij,World.cell?_setCell_other _ _ _ _ (by simp only [ne_eq,Addr.mk.injEq,true_and,and_true];omega)]
  exact h i hi'
theorem lies_back {P:Program} {w:World} {g:Nat} {s:ByteArray} (h:Lies w g s) (src dst e:TypeId) (cap:Nat) (hs:P.underlying src=some (.slice e)) (he:P.underlying e=some (.int .u8)) (hd:P.underlying dst=some .string) :
 (convert src dst (.slice (some ⟨g,0,none⟩) s.size cap)).run P w=.ok (.string s) w:=by
 have hl:s.size=s.data.toList.length:=by simp
 rw [hl,run_convert_bytes_back w src dst e ⟨g,0,none⟩ cap s.data.toList hs he hd]
 intro j hj
 have e1:((⟨g,0,none⟩:Addr).add j)=⟨g,j,none⟩:=by cases j <;> simp [Addr.add]
 rw [e1,h j (by simpa using hj)]
 simp
/-- A string's bytes in a new block. -/
theorem wpList_bytes {P:Program} {w:World} {ops:Array Oper} {rest:List Oper} {o:Oper} {a:Act} {Q:Exit→Act→World→Prop} (hgd:o.guard=none) (src dst e:TypeId) (x:Operand)
 (ho:o.op=.convert src dst x) (s:ByteArray) (hx:a.eval x=.string s) (hs:P.underlying src=some .string) (hd:P.underlying dst=some (.slice e)) (he:P.underlying e=some (.int .u8)) (G:Nat) (hG:w.heap.size=G)
 (h:∀cap w',Ext w w'→w'.heap.size=G+1→Lies w' G s→(∀j,j<s.data.size→w'.frozen? ⟨G,j,none⟩=false)→wpList P ops Q rest (a.put o.dst (.slice (some ⟨G,0,none⟩) s.size cap)) w'):wpList P ops Q (o :: rest) a w:=by
 subst hG
 refine wpList_plain hgd fun K hK=>?_
 unfold Oper.wp execOp
 simp only [ho,hx,Sem.run_bind,run_bytes_of_string w src dst e s hs hd he,Result.andThen_ok,Sem.run_pure]
 refine hK _ _ (h _ _ ((Ext.refl w).drew.alloc _) (by simp) (lies_new w.drew s _ e _) fun j hj=>?_)
 have hf:=World.frozen?_alloc_mark w.drew (bytesRow s (grownCap w s.size 0 e)) e ((bytesRow s (grownCap w s.size 0 e)).size) ((bytesRow s (grownCap w s.size 0 e)).size+1) j
 have hb:(bytesRow s (grownCap w s.size 0 e)).size≥s.data.size:=by simp [bytesRow]
 refine hf.trans ?_
 simp
 omega
theorem setB_size (s:ByteArray) (j:Nat) (x:UInt8):(setB s j x).size=s.size:=by
 show (s.data.setIfInBounds j x).size=s.data.size
 simp
theorem bytes_run {P:Program} (w:World) (src dst e:TypeId) (s:ByteArray) (hs:P.underlying src=some .string) (hd:P.underlying dst=some (.slice e)) (he:P.underlying e=some (.int .u8)) :
 ∃cap w',(convert src dst (.string s)).run P w=.ok (.slice (some ⟨w.heap.size,0,none⟩) s.size cap) w'∧Ext w w'∧w'.heap.size=w.heap.size+1∧Lies w' w.heap.size s∧∀j,j<s.data.size→w'.frozen? ⟨w.heap.size,j,none⟩=false:=by
 refine ⟨_,_,run_bytes_of_string w src dst e s hs hd he,(Ext.refl w).drew.alloc _,by simp,lies_new w.drew s _ e _,fun j hj=>?_⟩
 have hf:=World.frozen?_alloc_mark w.drew (bytesRow s (grownCap w s.size 0 e)) e ((bytesRow s (grownCap w s.size 0 e)).size) ((bytesRow s (grownCap w s.size 0 e)).size+1) j
 have hb:(bytesRow s (grownCap w s.size 0 e)).size≥s.data.size:=by simp [bytesRow]
 refine hf.trans ?_
 simp
 omega
theorem spoil_size (s:ByteArray):(spoil s).size=s.size:=setB_size _ _ _
theorem spoil_app (d s:ByteArray) (h:0<s.size):spoil (d++s)=d++spoil s:=by
 unfold spoil
 have e1:(d++s).size - 1=d.size+(s.size - 1):=by rw [ByteArray.size_append];omega
 have hd:d.data.toList.length=d.size:=by simp
 have e2:byteAt (d++s) (d.size+(s.size - 1))=byteAt s (s.size - 1):=by
  unfold byteAt
  rw [app_toList,List.getD_eq_getElem?_getD,List.getElem?_append_right (by omega),hd,Nat.add_sub_cancel_left,List.getD_eq_getElem?_getD]
 rw [e1,e2]
 apply ByteArray.ext
 apply Array.toList_inj.1
 rw [app_toList]
 simp only [setB,Array.toList_setIfInBounds]
 rw [app_toList,List.set_append_right _ _ (by omega),hd,Nat.add_sub_cancel_left]
/-- Bytes are made a string again. -/
theorem wpList_back {P:Program} {w:World} {ops:Array Oper} {rest:List Oper} {o:Oper} {a:Act} {Q:Exit→Act→World→Prop} (hgd:o.guard=none) (src dst e:TypeId) (x:Operand)
 (ho:o.op=.convert src dst x) {g:Nat} {s:ByteArray} (hl:Lies w g s) (n cap:Nat) (hn:s.size=n) (hx:a.eval x=.slice (some ⟨g,0,none⟩) n cap) (hs:P.underlying src=some (.slice e)) (he:P.underlying e=some (.int .u8)) (hd:P.underlying dst=some .string)
 (h:wpList P ops Q rest (a.put o.dst (.string s)) w):wpList P ops Q (o :: rest) a w:=by
 subst hn
 refine wpList_plain hgd fun K hK=>?_
 unfold Oper.wp execOp
 simp only [ho,hx,Sem.run_bind,lies_back hl src dst e cap hs he hd,Result.andThen_ok,Sem.run_pure]
 exact hK _ _ h
theorem lies_at {w:World} {g:Nat} {s:ByteArray} (h:Lies w g s) (j:Nat) (hj:j<s.size):w.cell? ⟨g,j,none⟩=some (.int .u8 ((byteAt s j).toNat:Int)):=by
 have hj':j<s.data.size:=hj
 rw [h j hj']
 unfold byteAt
 rw [List.getD_eq_getElem?_getD,List.getElem?_eq_getElem (by simpa using hj')]
 simp
theorem flip_byte (x:UInt8):(255:Int) - (x.toNat:Int)=((255 - x:UInt8).toNat:Int)∧0≤(255:Int) - (x.toNat:Int)∧(255:Int) - (x.toNat:Int)≤255:=by
 have h:=x.toNat_lt
 have:(255 - x:UInt8).toNat=255 - x.toNat:=by
  rw [UInt8.toNat_sub]
  have:(255:UInt8).toNat=255:=rfl
  rw [this]
  omega
 omega
end Go.Proofs.YtccjepndhlobpaaGreatDoor
