/-
  Proved facts that the law leans on.
-/
import Derived.Test.YtclpbhoekmecjaaGreatDoorZP2
import Derived.Deep.LoopGhost
import Derived.Laws.Concat
import Derived.Laws.Strings2
namespace Go.Proofs.YtclpbhoekmecjaaGreatDoor
open Go.RowKit
set_option linter.unusedVariables false
set_option linter.unusedSimpArgs false
def Sy.int?:Sy→Option Int
 | .d (.i n)=>some n
 | .v (.int .i64 n)=>some n
 | _=>none
def Sy.bool?:Sy→Option Bool
 | .d (.b x)=>some x
 | .v (.bool x)=>some x
 | _=>none
def Sy.str?:Sy→Option ByteArray
 | .d (.s x)=>some x
 | .v (.string x)=>some x
 | _=>none
theorem ex {s:Sy} {n:Int} (h:s.int? = some n) {c:Cx} {w:World} {y:Value} (ho:s.ok c w y):y=.int .i64 n:=by
 unfold Sy.int? at h
 split at h
 ·cases h;simpa [Sy.ok,DV,Rp] using (show _∧_ from ho).1
 ·cases h;exact ho
 ·cases h
theorem oM {s:Sy} {n:Bool} (h:s.bool? = some n) {c:Cx} {w:World} {y:Value} (ho:s.ok c w y):y=.bool n:=by
 unfold Sy.bool? at h
 split at h
 ·cases h;simpa [Sy.ok,DV,Rp] using ho
 ·cases h;exact ho
 ·cases h
theorem sP {s:Sy} {n:ByteArray} (h:s.str? = some n) {c:Cx} {w:World} {y:Value} (ho:s.ok c w y):y=.string n:=by
 unfold Sy.str? at h
 split at h
 ·cases h;simpa [Sy.ok,DV,Rp] using (show _∧_ from ho).1
 ·cases h;exact ho
 ·cases h
mutual
def D.sz:D→Nat
 | .t xs=>szs xs
 | _=>1
def szs:List D→Nat
 | []=>0
 | d :: ds=>d.sz+szs ds
end
mutual
theorem Rp.len {w:World} {S:BS}:∀(d:D) (cs:List Value),Rp w S d cs→cs.length=d.sz
 | .i n,cs,r=>by rw [r.1];rfl
 | .s b,cs,r=>by rw [r.1];rfl
 | .b x,cs,r=>by rw [show cs = [.bool x] from r];rfl
 | .l z xs,cs,r=>by obtain ⟨a,k,h,_⟩:=r;rw [h];rfl
 | .t ds,cs,r=>RpL.len ds cs r
 | .n _,cs,r=>by obtain ⟨a,h⟩:=r;rw [h];rfl
 | .p d,cs,r=>by obtain ⟨b,o,us,h,_⟩:=r;rw [h];rfl
 | .f g ds,cs,r=>by obtain ⟨vs,h,_⟩:=r;rw [h];rfl
 | .any,cs,r=>by obtain ⟨v,h,_⟩:=r;rw [h];rfl
theorem RpL.len {w:World} {S:BS}:∀(ds:List D) (cs:List Value),RpL w S ds cs→cs.length=szs ds
 | [],cs,r=>by rw [show cs = [] from r];rfl
 | d :: ds,cs,⟨c,e,h1,h2,h3⟩=>by rw [h1,List.length_append,Rp.len d c h2,RpL.len ds e h3];rfl
end
def part?:List D→Nat→Option D
 | [],_=>none
 | d :: ds,o=>match Nat.beq o 0 with|true=>some d|false=>match Nat.ble d.sz o with|true=>part? ds (o - d.sz)|false=>none
theorem vA {w:World} {S:BS}:∀(ds:List D) (o:Nat) (cs:List Value) (d:D),RpL w S ds cs→part? ds o=some d→∃c,Rp w S d c∧∀j u,c[j]? = some u→cs[o+j]? = some u:=by
 intro ds
 induction ds with
 | nil=>intro o cs d _ h;cases h
 | cons x ds ih=>
  intro o cs d ⟨c,e,h1,h2,h3⟩ h
  unfold part? at h
  split at h
  ·rename_i h0
   cases h
   refine ⟨c,h2,fun j u hj=>?_⟩
   have:=Nat.eq_of_beq_eq_true h0
   subst this
   rw [h1,Nat.zero_add,List.getElem?_append_left]
   ·exact hj
   ·rcases Nat.lt_or_ge j c.length with h|h
    ·exact h
    ·rw [List.getElem?_eq_none h] at hj;cases hj
  ·split at h
   ·rename_i hle
    have hle':=Nat.le_of_ble_eq_true hle
    obtain ⟨c',h4,h5⟩:=ih _ e d h3 h
    refine ⟨c',h4,fun j u hj=>?_⟩
    have:=h5 j u hj
    rw [h1,List.getElem?_append_right (by rw [Rp.len _ _ h2];omega),Rp.len _ _ h2,show o+j - x.sz=o - x.sz+j by omega]
    exact this
   ·cases h
def nat?:Nat→Option Nat
 | 0=>some 0
 | n+1=>some (n+1)
theorem wt (n:Nat):nat? n=some n:=by cases n <;> rfl
def fld (P:Program) (ty k:Nat):Option Nat:=match P.underlying ty with
 | some (.struct fs)=>match fs[k]? with
  | some f=>match P.info? f.type with
   | some i=>match Nat.beq i.size 0 with|true=>none|false=>nat? f.offset
   | none=>none
  | none=>none
 | _=>none
def isAgg? (P:Program) (ty:Nat):Option Bool:=(P.underlying ty).map fun d=>match d with | .struct _ | .array _ _=>true|_=>false
def sizeOf? (P:Program) (ty:Nat):Option Nat:=match P.info? ty with|some i=>nat? i.size|none=>none
theorem cZ {P:Program} {ty n:Nat} (h:sizeOf? P ty=some n):(P.info? ty).map (·.size)=some n:=by
 unfold sizeOf? at h
 split at h
 ·rename_i i hi;rw [hi,Option.map_some];rw [wt] at h;exact h
 ·cases h
def elem? (P:Program) (ty:Nat):Option Nat:=match P.underlying ty with|some (.slice e)=>some e|_=>none
theorem eD {P:Program} {ty e:Nat} (h:elem? P ty=some e):P.underlying ty=some (.slice e):=by
 unfold elem? at h;split at h
 ·cases h;assumption
 ·cases h
theorem oD {P:Program} {ty k o b off:Nat} {w:World} (h:fld P ty k=some o):(Instr.fieldAt ty (.pointer (some ⟨b,off,none⟩)) k).run P w=.ok (.pointer (some ⟨b,off+o,none⟩)) w:=by
 unfold fld at h
 split at h
 ·rename_i fs hu
  split at h
  ·rename_i f hf
   split at h
   ·rename_i i hi
    split at h
    ·cases h
    ·rename_i hz
     rw [wt] at h
     cases h
     have hne:¬i.size=0:=fun e=>by rw [e] at hz;simp at hz
     unfold Instr.fieldAt
     simp [run_underlying hu,hf,Instr.sureAddr,fieldPlace,sizeOf,typeInfo,hi,hne,Addr.add,go_sem]
   ·cases h
  ·cases h
 ·cases h
theorem iU {P:Program} {ty:Nat} {b off:Nat} {w:World} {v:Value} (h:isAgg? P ty=some false) (hc:w.cell? ⟨b,off,none⟩=some v):(Instr.loadAt ty (.pointer (some ⟨b,off,none⟩))).run P w=.ok v w:=by
 unfold isAgg? at h
 rw [Option.map_eq_some_iff] at h
 obtain ⟨d,hu,hd⟩:=h
 unfold Instr.loadAt
 cases d <;> simp [run_underlying hu,Instr.sureAddr,loadVar,isAgg,hc,go_sem] at hd ⊢
theorem fc {P:Program} {ty:Nat} {b off:Nat} {w:World} {cs:List Value} (h:isAgg? P ty=some true) (hs:sizeOf? P ty=some cs.length) (hc:bE w b off cs):(Instr.loadAt ty (.pointer (some ⟨b,off,none⟩))).run P w=.ok (.agg cs.toArray) w:=by
 unfold isAgg? at h
 rw [Option.map_eq_some_iff] at h
 obtain ⟨d,hu,hd⟩:=h
 exact run_loadAt_mid w b off ty cs d (fun j v hv=>hc j v hv) hu (by cases d <;> simp_all [TypeDesc.isRow]) (cZ hs)
theorem oC {P:Program} {ty e b o n k m z:Nat} {w:World} (he:elem? P ty=some e) (hz:sizeOf? P e=some z) (hm:m<n):(Instr.indexAt ty (.slice (some ⟨b,o,none⟩) n k) (.int .i64 m)).run P w=.ok (.pointer (some ⟨b,o+m * z,none⟩)) w:=by
 replace hz:=cZ hz
 rw [Option.map_eq_some_iff] at hz
 obtain ⟨i,hi,hz⟩:=hz
 unfold Instr.indexAt
 have h0:(0:Int)≤(m:Int):=by omega
 have h1:(m:Int)<(n:Int):=by omega
 simp [run_underlying (eD he),asIntOf,sizeOf,typeInfo,hi,hz,Addr.add,hm,go_sem]
theorem d7 {P:Program} {w w':World} {X:Sem Value} {v:Value} (h:X.run P w=.ok v w'):(do pure (Next.value (← X)):Sem Next).run P w=.ok (.value v) w':=by
 rw [Sem.run_bind,h];rfl
theorem I64.nat {n:Nat} (h:n≤maxLen):I64 (n:Int):=by unfold I64;unfold maxLen at h;omega
section
variable {P:Program} {ρ:Operand→Value} {w:World} {d g:_} {ty ty' ty2:Nat} {pos:String} {after:Array Edge} {at':Array TypeId} {x y z:Operand}
theorem jr {ad:Option Addr} {n k t e:Nat} (ht:elem? P t=some e) (h:ρ x=.slice ad n k):(execOp ρ ⟨d,.call { callee:=.builtin .len,args:=#[x],argTypes:=#[t] },ty,pos,after,g⟩).run P w=.ok (.value (.int .i64 n)) w:=by
 simp [execOp,resolve,invoke,builtin,Builtin.len_,run_underlying (eD ht),h,goInt,go_sem]
theorem BG {b:ByteArray} {t:Nat} (ht:P.underlying t=some .string) (h:ρ x=.string b):(execOp ρ ⟨d,.call { callee:=.builtin .len,args:=#[x],argTypes:=#[t] },ty,pos,after,g⟩).run P w=.ok (.value (.int .i64 b.size)) w:=by
 simp [execOp,resolve,invoke,builtin,Builtin.len_,run_underlying ht,h,goInt,go_sem]
def iop:BinOp→Int→Int→Option Int
 | .add,x,y=>some (x+y)
 | .sub,x,y=>some (x - y)
 | .mul,x,y=>some (x * y)
 | _,_,_=>none
def GJ:BinOp→Int→Int→Option Bool
 | .lss,x,y=>some (decide (x<y))
 | .leq,x,y=>some (decide (x≤y))
 | .gtr,x,y=>some (decide (y<x))
 | .geq,x,y=>some (decide (y≤x))
 | .eql,x,y=>some (decide (x=y))
 | .neq,x,y=>some (!decide (x=y))
 | _,_,_=>none
theorem D2 {op:BinOp} {m n r:Int} (hr:iop op m n=some r) (hb:I64 r) (h1:ρ x=.int .i64 m) (h2:ρ y=.int .i64 n):(execOp ρ ⟨d,.binOp op ty' x y ty2,ty,pos,after,g⟩).run P w=.ok (.value (.int .i64 r)) w:=by
 have hw:=IntWalk.i64_in r hb
 unfold iop at hr
 split at hr
 case h_4=>cases hr
 all_goals
  cases hr
  simp only [execOp,h1,h2]
  first
   | exact congrArg (fun q=>Result.ok (Next.value (.int .i64 q)) w) hw
theorem C5 {op:BinOp} {m n:Int} {r:Bool} (hr:GJ op m n=some r) (h1:ρ x=.int .i64 m) (h2:ρ y=.int .i64 n):(execOp ρ ⟨d,.binOp op ty' x y ty2,ty,pos,after,g⟩).run P w=.ok (.value (.bool r)) w:=by
 unfold GJ at hr
 split at hr
 case h_7=>cases hr
 all_goals
  cases hr
  simp only [execOp,h1,h2]
  rfl
def GT:BinOp→ByteArray→ByteArray→Option Bool
 | .lss,x,y=>some (Op.bytesLess x.toList y.toList)
 | .eql,x,y=>some (x.toList == y.toList)
 | .neq,x,y=>some (!(x.toList == y.toList))
 | _,_,_=>none
theorem Dg {op:BinOp} {m n:ByteArray} {r:Bool} (hr:GT op m n=some r) (h1:ρ x=.string m) (h2:ρ y=.string n):(execOp ρ ⟨d,.binOp op ty' x y ty2,ty,pos,after,g⟩).run P w=.ok (.value (.bool r)) w:=by
 unfold GT at hr
 split at hr
 case h_4=>cases hr
 all_goals
  cases hr
  simp only [execOp,h1,h2]
  rfl
theorem EG {b:Bool} (h:ρ x=.bool b):(execOp ρ ⟨d,.unOp .not ty' x,ty,pos,after,g⟩).run P w=.ok (.value (.bool (!b))) w:=by
 simp only [execOp,h];rfl
theorem CR {b:Bool} (h:ρ x=.bool b):(execOp ρ ⟨d,.pick x y z,ty,pos,after,g⟩).run P w=.ok (.value (bif b then ρ y else ρ z)) w:=by
 simp only [execOp,h];cases b <;> rfl
theorem Fb {k:Nat} {vs:List Value} {v:Value} (h:ρ x=.tuple vs.toArray) (hv:vs[k]? = some v):(execOp ρ ⟨d,.extract x k,ty,pos,after,g⟩).run P w=.ok (.value v) w:=by
 simp [execOp,h,Instr.extract,hv,go_sem]
end
section
variable {P:Program} {ops:Array Oper} {W0:cf} {N:Nat} {Fin:Us→Env→Prop} {os:List Oper} {us:Us} {pk fk:List Nat} {σ:Env} {g:Option (Nat × Bool)} {gk:List Nat} {d ty ty':Nat} {pos:String} {after:Array Edge}
theorem cI {x:Operand} {s:Sy} (h:Der P ops W0 N Fin os (us++[((d :: (gk++kx x))++pk,([d])++fk)]) [] [] ((d,.sy s) :: σ)) (hx:ev σ x=some s:=by rfl) (hg:gst ops σ g=some (true,gk):=by rfl) (hN:Nat.blt d N=true:=by rfl) (hs:aM σ d=true:=by rfl):Der P ops W0 N Fin (⟨some d,.move x,ty,pos,after,g⟩ :: os) us pk fk σ:=
 b6 s (kx x) (fun σ' c a w hk hc=>⟨a.eval x,rfl,av hc (af hx hk)⟩) h hg hN hs
theorem gm {x:Operand} {s:Sy} (h:Der P ops W0 N Fin os (us++[((d :: (gk++kx x))++pk,([d])++fk)]) [] [] ((d,.sy s) :: σ)) (hx:ev σ x=some s:=by rfl) (hg:gst ops σ g=some (true,gk):=by rfl) (hN:Nat.blt d N=true:=by rfl) (hs:aM σ d=true:=by rfl):Der P ops W0 N Fin (⟨some d,.assign x,ty,pos,after,g⟩ :: os) us pk fk σ:=
 b6 s (kx x) (fun σ' c a w hk hc=>⟨a.eval x,rfl,av hc (af hx hk)⟩) h hg hN hs
mutual
def Bv:D→D
 | .n z=>.l z []
 | .t ds=>.t (Fe ds)
 | d=>d
def Fe:List D→List D
 | []=>[]
 | d :: ds=>Bv d :: Fe ds
end
mutual
theorem Ax {w:World} {S:BS}:∀(d:D) (cs:List Value),Rp w S d cs→Rp w S (Bv d) cs
 | .i n,cs,r=>r
 | .s b,cs,r=>r
 | .b x,cs,r=>r
 | .l z xs,cs,r=>r
 | .t ds,cs,r=>rx ds cs r
 | .n z,cs,⟨a,r⟩=>⟨a,0,r,Nat.le_refl _,by decide,fun _=>rfl,.inl rfl⟩
 | .p d,cs,r=>r
 | .f g ds,cs,r=>r
 | .any,cs,r=>r
theorem rx {w:World} {S:BS}:∀(ds:List D) (cs:List Value),RpL w S ds cs→RpL w S (Fe ds) cs
 | [],cs,r=>r
 | d :: ds,cs,⟨c,e,h1,h2,h3⟩=>⟨c,e,h1,Ax d c h2,rx ds e h3⟩
end
theorem E6 {w:World} {S:BS} {d:D} {v:Value} (h:DV w S d v):DV w S (Bv d) v:=by
 cases d with
 | t ds=>obtain ⟨cs,h1,h2⟩:=h;exact ⟨cs,h1,rx ds cs h2⟩
 | n z=>exact Ax (.n z) _ h
 | _=>exact h
def Sy.dat:Sy→Option D
 | .d r=>some (Bv r)
 | .v (.int .i64 n)=>match decide (-9223372036854775808≤n) && decide (n≤9223372036854775807) with|true=>some (.i n)|false=>none
 | .v (.string b)=>match Nat.ble b.size maxLen with|true=>some (.s b)|false=>none
 | .v (.bool x)=>some (.b x)
 | _=>none
theorem jW {s:Sy} {r:D} (h:s.dat=some r) {c:Cx} {w:World} {v:Value} (hv:s.ok c w v):DV w c.F r v:=by
 unfold Sy.dat at h
 split at h
 ·cases h;exact E6 hv
 ·split at h
  ·rename_i hb
   cases h
   rw [show v=_ from hv]
   rw [Bool.and_eq_true,decide_eq_true_eq,decide_eq_true_eq] at hb
   exact ⟨rfl,hb⟩
  ·cases h
 ·split at h
  ·rename_i hb
   cases h
   rw [show v=_ from hv]
   exact ⟨rfl,Nat.le_of_ble_eq_true hb⟩
  ·cases h
 ·cases h
  rw [show v=_ from hv];exact rfl
 ·cases h
def isT:D→Bool
 | .t _=>true
 | _=>false
def uU:Sy→D
 | .d r=>match isT r with|true=>.any|false=>r
 | _=>.any
theorem xU {s:Sy} {c:Cx} {w:World} {v:Value} (h:s.ok c w v) (h1:v.oneCell'=true):Rp w c.F (uU s) [v]:=by
 cases s with
 | d r=>cases r <;> first|exact ⟨v,rfl,h1⟩|exact h
 | _=>exact ⟨v,rfl,h1⟩
theorem uE {c:Cx} {w:World}:∀(ss:List Sy) (vs:List Value),Sy.oks c w ss vs→(∀u∈vs,u.oneCell'=true)→RpL w c.F (ss.map uU) vs:=by
 intro ss
 induction ss with
 | nil=>intro vs h _;exact h
 | cons s ss ih=>
  intro vs ⟨v,t,e1,e2,e3⟩ h
  subst e1
  exact ⟨[v],t,rfl,xU e2 (h v (by simp)),ih t e3 (fun u hu=>h u (by simp [hu]))⟩
def Sy.arg:Sy→Option D
 | .at r=>some (.p r)
 | .atS o cs=>match o with|0=>some (.p (.t (cs.map uU)))|_=>none
 | s=>s.dat
theorem Bg {s:Sy} {r:D} (h:s.arg=some r) {c:Cx} {w:World} {v:Value} (hv:s.ok c w v):DV w c.F r v:=by
 cases s with
 | «at» u=>
  cases h
  obtain ⟨b,o,cs,h1,h2,h3,h4⟩:=hv
  exact ⟨b,o,cs,by rw [h1],h2,h3,h4⟩
 | atS o cs=>
  cases o with
  | zero=>
   cases h
   obtain ⟨b,vs,h1,h2,h3,h4,h5⟩:=hv
   exact ⟨b,0,vs,by rw [h1],h2,uE _ _ h3 h5,h4⟩
  | succ o=>cases h
 | _=>exact jW (by unfold Sy.arg at h;exact h) hv
def dsy:D→Sy
 | .p d=>.at d
 | r=>.d r
theorem Dt {r:D} {c:Cx} {w:World} {v:Value} (h:DV w c.F r v):(dsy r).ok c w v:=by
 cases r with
 | p d=>
  obtain ⟨b,o,us,h1,h2,h3,h4⟩:=h
  cases h1
  exact ⟨b,o,us,rfl,h2,h3,h4⟩
 | _=>exact h
theorem be {x:Operand} {r:D} (h:Der P ops W0 N Fin os (us++[((d :: (gk++kx x))++pk,([d])++fk)]) [] [] ((d,.sy (.d r)) :: σ)) (hx:(ev σ x).bind Sy.dat=some r:=by rfl) (hg:gst ops σ g=some (true,gk):=by rfl) (hN:Nat.blt d N=true:=by rfl) (hs:aM σ d=true:=by rfl):Der P ops W0 N Fin (⟨some d,.move x,ty,pos,after,g⟩ :: os) us pk fk σ:=by
 rw [Option.bind_eq_some_iff] at hx
 obtain ⟨s,h1,h2⟩:=hx
 exact b6 (.d r) (kx x) (fun σ' c a w hk hc=>⟨a.eval x,rfl,jW h2 (av hc (af h1 hk))⟩) h hg hN hs
theorem cG {x:Operand} {r:D} (h:Der P ops W0 N Fin os (us++[((d :: (gk++kx x))++pk,([d])++fk)]) [] [] ((d,.sy (.d r)) :: σ)) (hx:(ev σ x).bind Sy.dat=some r:=by rfl) (hg:gst ops σ g=some (true,gk):=by rfl) (hN:Nat.blt d N=true:=by rfl) (hs:aM σ d=true:=by rfl):Der P ops W0 N Fin (⟨some d,.assign x,ty,pos,after,g⟩ :: os) us pk fk σ:=by
 rw [Option.bind_eq_some_iff] at hx
 obtain ⟨s,h1,h2⟩:=hx
 exact b6 (.d r) (kx x) (fun σ' c a w hk hc=>⟨a.eval x,rfl,jW h2 (av hc (af h1 hk))⟩) h hg hN hs
theorem gg {x:Operand} {k o:Nat} {ds:List D} {r:D} (h:Der P ops W0 N Fin os (us++[((d :: (gk++kx x))++pk,([d])++fk)]) [] [] ((d,.sy (.at r)) :: σ)) (hx:ev σ x=some (.at (.t ds)):=by rfl) (ho:fld P ty' k=some o:=by rfl) (hr:part? ds o=some r:=by rfl) (hg:gst ops σ g=some (true,gk):=by rfl) (hN:Nat.blt d N=true:=by rfl) (hs:aM σ d=true:=by rfl):Der P ops W0 N Fin (⟨some d,.fieldAddr ty' x k,ty,pos,after,g⟩ :: os) us pk fk σ:=
 b6 (.at r) (kx x) (fun σ' c a w hk hc=>by
  obtain ⟨b,off,cs,h1,h2,h3,h4⟩:=av hc (af hx hk)
  obtain ⟨c',h5,h6⟩:=vA ds o cs r h3 hr
  refine ⟨_,d7 (X:=Instr.fieldAt ty' (a.eval x) k) (by rw [h1];exact oD ho),b,off+o,c',rfl,h2,h5,fun j u hj=>?_⟩
  rw [Nat.add_assoc];exact h4 _ u (h6 j u hj)) h hg hN hs
theorem cd {x:Operand} {k o i off:Nat} (h:Der P ops W0 N Fin os (us++[((d :: (gk++kx x))++pk,([d])++fk)]) [] [] ((d,.sy (.bx i (off+o))) :: σ)) (hx:ev σ x=some (.bx i off):=by rfl) (ho:fld P ty' k=some o:=by rfl) (hg:gst ops σ g=some (true,gk):=by rfl) (hN:Nat.blt d N=true:=by rfl) (hs:aM σ d=true:=by rfl):Der P ops W0 N Fin (⟨some d,.fieldAddr ty' x k,ty,pos,after,g⟩ :: os) us pk fk σ:=
 b6 (.bx i (off+o)) (kx x) (fun σ' c a w hk hc=>by
  obtain ⟨hA,b,h1,h2⟩:=av hc (af hx hk)
  exact ⟨_,d7 (X:=Instr.fieldAt ty' (a.eval x) k) (by rw [h2];exact oD ho),hA,b,h1,rfl⟩) h hg hN hs
theorem cC {x:Operand} {r:D} (h:Der P ops W0 N Fin os (us++[((d :: (gk++kx x))++pk,([d])++fk)]) [] [] ((d,.sy (.d r)) :: σ)) (hx:ev σ x=some (.at r):=by rfl) (hA:isAgg? P ty'=some (isT r):=by rfl) (hz:sizeOf? P ty'=some r.sz:=by rfl) (hg:gst ops σ g=some (true,gk):=by rfl) (hN:Nat.blt d N=true:=by rfl) (hs:aM σ d=true:=by rfl):Der P ops W0 N Fin (⟨some d,.load ty' x,ty,pos,after,g⟩ :: os) us pk fk σ:=
 b6 (.d r) (kx x) (fun σ' c a w hk hc=>by
  obtain ⟨b,off,cs,h1,h2,h3,h4⟩:=av hc (af hx hk)
  have hl:=Rp.len r cs h3
  cases r with
  | t ds=>exact ⟨.agg cs.toArray,d7 (X:=Instr.loadAt ty' (a.eval x)) (by rw [h1];exact fc hA (by rw [hz,hl]) h4),cs,rfl,h3⟩
  | _=>
   obtain ⟨v,rfl⟩:=List.length_eq_one_iff.1 hl
   have hc:=h4 0 v rfl
   rw [Nat.add_zero] at hc
   exact ⟨v,d7 (X:=Instr.loadAt ty' (a.eval x)) (by rw [h1];exact iU hA hc),h3⟩) h hg hN hs
theorem bd {x:Operand} {i o:Nat} {cs:List Sy} {s:Sy} (h:Der P ops W0 N Fin os (us++[((d :: (gk++(i :: kx x)))++pk,([d])++fk)]) [] [] ((d,.sy s) :: σ)) (hx:ev σ x=some (.bx i o):=by rfl) (hi:au σ i=some (.tk (.bx cs)):=by rfl) (hc:cs[o]? = some s:=by rfl) (hA:isAgg? P ty'=some false:=by rfl) (hg:gst ops σ g=some (true,gk):=by rfl) (hN:Nat.blt d N=true:=by rfl) (hs:aM σ d=true:=by rfl):Der P ops W0 N Fin (⟨some d,.load ty' x,ty,pos,after,g⟩ :: os) us pk fk σ:=
 b6 s (i :: kx x) (fun σ' c a w hk hh=>by
  obtain ⟨hAi,b,h1,h2⟩:=av hh (af hx (fun κ hκ=>hk κ (by simp [hκ])))
  obtain ⟨_,⟨b',vs,h3,h4,h5,h6⟩,_⟩:=hh.tok i _ ((hk i (by simp)).trans hi)
  rw [h1] at h3;cases h3
  have key:∀(ss:List Sy) (vs:List Value) (o:Nat) (s:Sy),Sy.oks c w ss vs→ss[o]? = some s→∃v,vs[o]? = some v∧s.ok c w v:=by
   intro ss
   induction ss with
   | nil=>intro vs o s _ h;simp at h
   | cons y ss ih=>
    intro vs o s ⟨v,t,e1,e2,e3⟩ h
    subst e1
    cases o with
    | zero=>simp at h;subst h;exact ⟨v,rfl,e2⟩
    | succ o=>simp at h ⊢;exact ih t o s e3 h
  obtain ⟨v,h7,h8⟩:=key cs vs o s h5 hc
  exact ⟨v,d7 (X:=Instr.loadAt ty' (a.eval x)) (by rw [h2];exact iU hA (h6 o v h7).1),h8⟩) h hg hN hs
theorem eV {α:Type} {f:α→D} {l:List α} {x y:Operand} {z e n:Nat} {s:Sy} (h:∀hn:n<l.length,Der P ops W0 N Fin os (us++[((d :: (gk++(kx x++kx y)))++pk,([d])++fk)]) [] [] ((d,.sy (.at (f l[n]))) :: σ)) (hx:ev σ x=some (.d (.l z (l.map f))):=by rfl) (hy:ev σ y=some s:=by rfl) (hi:s.int? = some (n:Int):=by rfl) (he:elem? P ty'=some e:=by rfl) (hz:sizeOf? P e=some z:=by rfl) (hn:n<l.length:=by first|assumption|omega) (hg:gst ops σ g=some (true,gk):=by rfl) (hN:Nat.blt d N=true:=by rfl) (hs:aM σ d=true:=by rfl):Der P ops W0 N Fin (⟨some d,.indexAddr ty' x y,ty,pos,after,g⟩ :: os) us pk fk σ:=
 b6 (.at (f l[n])) (kx x++kx y) (fun σ' c a w hk hc=>by
  obtain ⟨ad,k,h1,h2,h3,h4,h5⟩:=av hc (af hx (fun κ hκ=>hk κ (by simp [hκ])))
  have h6:=ex hi (av hc (af hy (fun κ hκ=>hk κ (by simp [hκ]))))
  rcases h5 with h5|⟨b,o,rfl,h7,h8⟩
  ·rw [List.map_eq_nil_iff] at h5;rw [h5] at hn;exact absurd hn (Nat.not_lt_zero _)
  ·obtain ⟨cs,h9,h10,h11⟩:=(ij _ _).1 h8 n (by rw [List.length_map];exact hn)
   rw [List.getElem_map] at h10
   have h1':a.eval x=.slice (some ⟨b,o,none⟩) (l.map f).length k:=by simpa using h1
   exact ⟨_,d7 (X:=Instr.indexAt ty' (a.eval x) (a.eval y)) (by rw [h1',h6];exact oC he hz (by rw [List.length_map];exact hn)),b,o+n * z,cs,rfl,h7,h10,h11⟩) (h hn) hg hN hs
theorem cu {l:List Int} {x y:Operand} {e:Nat} {m:Int} {s:Sy} (h:Der P ops W0 N Fin os (us++[((d :: (gk++(kx x++kx y)))++pk,([d])++fk)]) [] [] ((d,.sy (.at (.i (atI l m)))) :: σ)) (hx:ev σ x=some (.d (.l 1 (l.map .i))):=by rfl) (hy:ev σ y=some s:=by rfl) (hi:s.int? = some m:=by rfl) (he:elem? P ty'=some e:=by rfl) (hz:sizeOf? P e=some 1:=by rfl) (hm:0≤m∧m<(l.length:Int):=by first|assumption|(constructor <;> omega)) (hg:gst ops σ g=some (true,gk):=by rfl) (hN:Nat.blt d N=true:=by rfl) (hs:aM σ d=true:=by rfl):Der P ops W0 N Fin (⟨some d,.indexAddr ty' x y,ty,pos,after,g⟩ :: os) us pk fk σ:=by
 obtain ⟨n,rfl⟩:=Int.eq_ofNat_of_zero_le hm.1
 have hn:n<l.length:=by omega
 refine eV (f:=D.i) (l:=l) (n:=n) (z:=1) (fun hn=>?_) hx hy hi he hz hn hg hN hs
 rw [bJ l n hn] at h
 exact h
theorem fy {x:Operand} {z:Nat} {xs:List D} {t e:Nat} (h:Der P ops W0 N Fin os (us++[((d :: (gk++kx x))++pk,([d])++fk)]) [] [] ((d,.sy (.d (.i xs.length))) :: σ)) (hx:ev σ x=some (.d (.l z xs)):=by rfl) (ht:elem? P t=some e:=by rfl) (hg:gst ops σ g=some (true,gk):=by rfl) (hN:Nat.blt d N=true:=by rfl) (hs:aM σ d=true:=by rfl):Der P ops W0 N Fin (⟨some d,.call { callee:=.builtin .len,args:=#[x],argTypes:=#[t] },ty,pos,after,g⟩ :: os) us pk fk σ:=
 b6 (.d (.i xs.length)) (kx x) (fun σ' c a w hk hc=>by
  obtain ⟨ad,k,h1,h2,h3,h4,h5⟩:=av hc (af hx hk)
  have h1':a.eval x=.slice ad xs.length k:=by simpa using h1
  exact ⟨.int .i64 xs.length,jr ht h1',by simp [Sy.ok,DV,Rp];exact I64.nat (by omega)⟩) h hg hN hs
theorem cK {α:Type} {f:α→D} {l:List α} {x:Operand} {z:Nat} {t e:Nat} (h:Der P ops W0 N Fin os (us++[((d :: (gk++kx x))++pk,([d])++fk)]) [] [] ((d,.sy (.d (.i l.length))) :: σ)) (hx:ev σ x=some (.d (.l z (l.map f))):=by rfl) (ht:elem? P t=some e:=by rfl) (hg:gst ops σ g=some (true,gk):=by rfl) (hN:Nat.blt d N=true:=by rfl) (hs:aM σ d=true:=by rfl):Der P ops W0 N Fin (⟨some d,.call { callee:=.builtin .len,args:=#[x],argTypes:=#[t] },ty,pos,after,g⟩ :: os) us pk fk σ:=
 fy (by rw [List.length_map];exact h) hx ht hg hN hs
theorem cH {x:Operand} {z i e':Nat} {xs:List D} {t e:Nat} (h:Der P ops W0 N Fin os (us++[((d :: (gk++(i :: kx x)))++pk,([d])++fk)]) [] [] ((d,.sy (.d (.i xs.length))) :: σ)) (hx:ev σ x=some (.k i):=by rfl) (hi:au σ i=some (.tk (.row z e' xs)):=by rfl) (ht:elem? P t=some e:=by rfl) (hg:gst ops σ g=some (true,gk):=by rfl) (hN:Nat.blt d N=true:=by rfl) (hs:aM σ d=true:=by rfl):Der P ops W0 N Fin (⟨some d,.call { callee:=.builtin .len,args:=#[x],argTypes:=#[t] },ty,pos,after,g⟩ :: os) us pk fk σ:=
 b6 (.d (.i xs.length)) (i :: kx x) (fun σ' c a w hk hc=>by
  obtain ⟨_,h1⟩:=av hc (af hx (fun κ hκ=>hk κ (by simp [hκ])))
  obtain ⟨_,hT,_⟩:=hc.tok i _ ((hk i (by simp)).trans hi)
  rcases hT with ⟨hd,a',hv⟩|⟨cells,h2,_,_⟩
  ·exact ⟨.int .i64 xs.length,by rw [hd];exact jr ht (h1.trans hv),by rw [hd];exact ⟨rfl,by unfold I64;decide⟩⟩
  rw [← h1] at h2
  rcases h2.2 with ⟨hv,hn⟩|⟨g',cap,cur,hv,_,_,h5,h6,_⟩
  ·exact ⟨.int .i64 xs.length,by rw [hn];exact jr ht hv,by simp [Sy.ok,DV,Rp,hn];unfold I64;decide⟩
  ·exact ⟨.int .i64 xs.length,jr ht hv,by simp [Sy.ok,DV,Rp];exact I64.nat (by omega)⟩) h hg hN hs
theorem bY {x:Operand} {b:ByteArray} {t e:Nat} (h:Der P ops W0 N Fin os (us++[((d :: (gk++kx x))++pk,([d])++fk)]) [] [] ((d,.sy (.d (.i b.size))) :: σ)) (hx:ev σ x=some (.d (.s b)):=by rfl) (ht:P.underlying t=some .string:=by rfl) (hg:gst ops σ g=some (true,gk):=by rfl) (hN:Nat.blt d N=true:=by rfl) (hs:aM σ d=true:=by rfl):Der P ops W0 N Fin (⟨some d,.call { callee:=.builtin .len,args:=#[x],argTypes:=#[t] },ty,pos,after,g⟩ :: os) us pk fk σ:=
 b6 (.d (.i b.size)) (kx x) (fun σ' c a w hk hc=>by
  obtain ⟨h1,h2⟩:=av hc (af hx hk)
  have h1':a.eval x=.string b:=by simpa using h1
  exact ⟨.int .i64 b.size,BG ht h1',by simp [Sy.ok,DV,Rp];exact I64.nat (by omega)⟩) h hg hN hs
theorem gq {op:BinOp} {x y:Operand} {ty2:Nat} {s t:Sy} {m n r:Int} (h:Der P ops W0 N Fin os (us++[((d :: (gk++(kx x++kx y)))++pk,([d])++fk)]) [] [] ((d,.sy (.d (.i r))) :: σ)) (hx:ev σ x=some s:=by rfl) (hy:ev σ y=some t:=by rfl) (hm:s.int? = some m:=by rfl) (hn:t.int? = some n:=by rfl) (hr:iop op m n=some r:=by rfl) (hb:I64 r:=by first|assumption|(unfold I64;omega)) (hg:gst ops σ g=some (true,gk):=by rfl) (hN:Nat.blt d N=true:=by rfl) (hs:aM σ d=true:=by rfl):Der P ops W0 N Fin (⟨some d,.binOp op ty' x y ty2,ty,pos,after,g⟩ :: os) us pk fk σ:=
 b6 (.d (.i r)) (kx x++kx y) (fun σ' c a w hk hc=>by
  have h1:=ex hm (av hc (af hx (fun κ hκ=>hk κ (by simp [hκ]))))
  have h2:=ex hn (av hc (af hy (fun κ hκ=>hk κ (by simp [hκ]))))
  exact ⟨_,D2 hr hb h1 h2,by simp [Sy.ok,DV,Rp];exact hb⟩) h hg hN hs
theorem fQ {op:BinOp} {x y:Operand} {ty2:Nat} {s t:Sy} {m n:Int} {r:Bool} (h:Der P ops W0 N Fin os (us++[((d :: (gk++(kx x++kx y)))++pk,([d])++fk)]) [] [] ((d,.sy (.d (.b r))) :: σ)) (hx:ev σ x=some s:=by rfl) (hy:ev σ y=some t:=by rfl) (hm:s.int? = some m:=by rfl) (hn:t.int? = some n:=by rfl) (hr:GJ op m n=some r:=by rfl) (hg:gst ops σ g=some (true,gk):=by rfl) (hN:Nat.blt d N=true:=by rfl) (hs:aM σ d=true:=by rfl):Der P ops W0 N Fin (⟨some d,.binOp op ty' x y ty2,ty,pos,after,g⟩ :: os) us pk fk σ:=
 b6 (.d (.b r)) (kx x++kx y) (fun σ' c a w hk hc=>by
  have h1:=ex hm (av hc (af hx (fun κ hκ=>hk κ (by simp [hκ]))))
  have h2:=ex hn (av hc (af hy (fun κ hκ=>hk κ (by simp [hκ]))))
  exact ⟨_,C5 hr h1 h2,by simp [Sy.ok,DV,Rp]⟩) h hg hN hs
theorem ch {op:BinOp} {x y:Operand} {ty2:Nat} {s t:Sy} {m n:ByteArray} {r:Bool} (h:Der P ops W0 N Fin os (us++[((d :: (gk++(kx x++kx y)))++pk,([d])++fk)]) [] [] ((d,.sy (.d (.b r))) :: σ)) (hx:ev σ x=some s:=by rfl) (hy:ev σ y=some t:=by rfl) (hm:s.str? = some m:=by rfl) (hn:t.str? = some n:=by rfl) (hr:GT op m n=some r:=by rfl) (hg:gst ops σ g=some (true,gk):=by rfl) (hN:Nat.blt d N=true:=by rfl) (hs:aM σ d=true:=by rfl):Der P ops W0 N Fin (⟨some d,.binOp op ty' x y ty2,ty,pos,after,g⟩ :: os) us pk fk σ:=
 b6 (.d (.b r)) (kx x++kx y) (fun σ' c a w hk hc=>by
  have h1:=sP hm (av hc (af hx (fun κ hκ=>hk κ (by simp [hκ]))))
  have h2:=sP hn (av hc (af hy (fun κ hκ=>hk κ (by simp [hκ]))))
  exact ⟨_,Dg hr h1 h2,by simp [Sy.ok,DV,Rp]⟩) h hg hN hs
theorem fX {x:Operand} {s:Sy} {b:Bool} (h:Der P ops W0 N Fin os (us++[((d :: (gk++kx x))++pk,([d])++fk)]) [] [] ((d,.sy (.d (.b (!b)))) :: σ)) (hx:ev σ x=some s:=by rfl) (hb:s.bool? = some b:=by rfl) (hg:gst ops σ g=some (true,gk):=by rfl) (hN:Nat.blt d N=true:=by rfl) (hs:aM σ d=true:=by rfl):Der P ops W0 N Fin (⟨some d,.unOp .not ty' x,ty,pos,after,g⟩ :: os) us pk fk σ:=
 b6 (.d (.b (!b))) (kx x) (fun σ' c a w hk hc=>by
  have h1:=oM hb (av hc (af hx hk))
  exact ⟨.bool (!b),EG h1,by simp [Sy.ok,DV,Rp]⟩) h hg hN hs
theorem cJ {x y z:Operand} {s t u:Sy} {b:Bool} (h:Der P ops W0 N Fin os (us++[((d :: (gk++(kx x++(kx y++kx z))))++pk,([d])++fk)]) [] [] ((d,.sy (bif b then t else u)) :: σ)) (hx:ev σ x=some s:=by rfl) (hb:s.bool? = some b:=by rfl) (hy:ev σ y=some t:=by rfl) (hz:ev σ z=some u:=by rfl) (hg:gst ops σ g=some (true,gk):=by rfl) (hN:Nat.blt d N=true:=by rfl) (hs:aM σ d=true:=by rfl):Der P ops W0 N Fin (⟨some d,.pick x y z,ty,pos,after,g⟩ :: os) us pk fk σ:=
 b6 (bif b then t else u) (kx x++(kx y++kx z)) (fun σ' c a w hk hc=>by
  have h1:=oM hb (av hc (af hx (fun κ hκ=>hk κ (by simp [hκ]))))
  have h2:=av hc (af hy (fun κ hκ=>hk κ (by simp [hκ])))
  have h3:=av hc (af hz (fun κ hκ=>hk κ (by simp [hκ])))
  exact ⟨_,CR h1,by cases b <;> assumption⟩) h hg hN hs
theorem gd {x:Operand} {k:Nat} {ss:List Sy} {s:Sy} (h:Der P ops W0 N Fin os (us++[((d :: (gk++kx x))++pk,([d])++fk)]) [] [] ((d,.sy s) :: σ)) (hx:ev σ x=some (.tp ss):=by rfl) (hk':ss[k]? = some s:=by rfl) (hg:gst ops σ g=some (true,gk):=by rfl) (hN:Nat.blt d N=true:=by rfl) (hs:aM σ d=true:=by rfl):Der P ops W0 N Fin (⟨some d,.extract x k,ty,pos,after,g⟩ :: os) us pk fk σ:=
 b6 s (kx x) (fun σ' c a w hk hh=>by
  obtain ⟨vs,h1,h2⟩:=av hh (af hx hk)
  have key:∀(ss:List Sy) (vs:List Value) (o:Nat) (s:Sy),Sy.oks c w ss vs→ss[o]? = some s→∃v,vs[o]? = some v∧s.ok c w v:=by
   intro ss
   induction ss with
   | nil=>intro vs o s _ h;simp at h
   | cons y ss ih=>
    intro vs o s ⟨v,t,e1,e2,e3⟩ h
    subst e1
    cases o with
    | zero=>simp at h;subst h;exact ⟨v,rfl,e2⟩
    | succ o=>simp at h ⊢;exact ih t o s e3 h
  obtain ⟨v,h3,h4⟩:=key ss vs k s h2 hk'
  exact ⟨v,Fb h1 h3,h4⟩) h hg hN hs
end
end Go.Proofs.YtclpbhoekmecjaaGreatDoor
namespace Go.Proofs.YtclpbhoekmecjaaGreatDoor
open Go.RowKit
set_option linter.unusedVariables false
set_option linter.unusedSimpArgs false
mutual
theorem Rp.one {w:World} {S:BS}:∀(d:D) (cs:List Value),Rp w S d cs→∀u∈cs,u.oneCell'=true
 | .i n,cs,r=>by rw [r.1];simp [Value.oneCell']
 | .s b,cs,r=>by rw [r.1];simp [Value.oneCell']
 | .b x,cs,r=>by rw [show cs = [.bool x] from r];simp [Value.oneCell']
 | .l z xs,cs,r=>by obtain ⟨a,k,h,_⟩:=r;rw [h];simp [Value.oneCell']
 | .t ds,cs,r=>RpL.one ds cs r
 | .n _,cs,r=>by obtain ⟨a,h⟩:=r;rw [h];simp [Value.oneCell']
 | .p d,cs,r=>by obtain ⟨b,o,us,h,_⟩:=r;rw [h];simp [Value.oneCell']
 | .f g ds,cs,r=>by obtain ⟨vs,h,_⟩:=r;rw [h];simp [Value.oneCell']
 | .any,cs,r=>by obtain ⟨v,h,h'⟩:=r;rw [h];simp [h']
theorem RpL.one {w:World} {S:BS}:∀(ds:List D) (cs:List Value),RpL w S ds cs→∀u∈cs,u.oneCell'=true
 | [],cs,r=>by rw [show cs = [] from r];simp
 | d :: ds,cs,⟨c,e,h1,h2,h3⟩=>by
  intro u hu
  rw [h1] at hu
  rcases List.mem_append.1 hu with hu|hu
  ·exact Rp.one d c h2 u hu
  ·exact RpL.one ds e h3 u hu
end
theorem tt {v:Value} (h:v.oneCell'=true):v.cells = [v].toArray:=by cases v <;> first|rfl|simp [Value.oneCell'] at h
theorem DV.cells {w:World} {S:BS} {r:D} {v:Value} (h:DV w S r v):∃cs:List Value,v.cells=cs.toArray∧Rp w S r cs∧(isT r=true→v=.agg cs.toArray)∧(isT r=false→cs = [v]):=by
 cases r with
 | t ds=>obtain ⟨cs,rfl,h⟩:=h;exact ⟨cs,rfl,h,fun _=>rfl,fun h=>(by cases h)⟩
 | i n=>exact ⟨[v],by obtain ⟨h,_⟩:=h;cases h;rfl,h,fun h=>(by cases h),fun _=>rfl⟩
 | s n=>exact ⟨[v],by obtain ⟨h,_⟩:=h;cases h;rfl,h,fun h=>(by cases h),fun _=>rfl⟩
 | b n=>exact ⟨[v],by have h' : [v] = [Value.bool n]:=h;cases h';rfl,h,fun h=>(by cases h),fun _=>rfl⟩
 | l z xs=>exact ⟨[v],by obtain ⟨a,k,h,_⟩:=h;cases h;rfl,h,fun h=>(by cases h),fun _=>rfl⟩
 | n z=>exact ⟨[v],by obtain ⟨a,h⟩:=h;cases h;rfl,h,fun h=>(by cases h),fun _=>rfl⟩
 | any=>exact ⟨[v],by obtain ⟨u,h,h'⟩:=h;cases h;exact tt h',h,fun h=>(by cases h),fun _=>rfl⟩
 | p d=>exact ⟨[v],by obtain ⟨b,o,us,h,_⟩:=h;cases h;rfl,h,fun h=>(by cases h),fun _=>rfl⟩
 | f g ds=>exact ⟨[v],by obtain ⟨vs,h,_⟩:=h;cases h;rfl,h,fun h=>(by cases h),fun _=>rfl⟩
mutual
def flat:D→List Sy
 | .t ds=>px ds
 | d=>[.d d]
def px:List D→List Sy
 | []=>[]
 | d :: ds=>flat d++px ds
end
theorem nQ {c:Cx} {w:World}:∀(ss ts:List Sy) (us vs:List Value),Sy.oks c w ss us→Sy.oks c w ts vs→Sy.oks c w (ss++ts) (us++vs):=by
 intro ss
 induction ss with
 | nil=>intro ts us vs h1 h2;rw [show us = [] from h1];exact h2
 | cons s ss ih=>
  intro ts us vs ⟨y,t,e1,e2,e3⟩ h2
  subst e1
  exact ⟨y,t++vs,rfl,e2,ih ts t vs e3 h2⟩
mutual
theorem uh {c:Cx} {w:World}:∀(d:D) (cs:List Value),Rp w c.F d cs→Sy.oks c w (flat d) cs
 | .i n,cs,r=>⟨_,[],r.1,⟨rfl,r.2⟩,rfl⟩
 | .s b,cs,r=>⟨_,[],r.1,⟨rfl,r.2⟩,rfl⟩
 | .b x,cs,r=>⟨.bool x,[],r,rfl,rfl⟩
 | .l z xs,cs,r=>by
  obtain ⟨a,k,h,h'⟩:=id r
  subst h
  exact ⟨_,[],rfl,r,rfl⟩
 | .t ds,cs,r=>nF ds cs r
 | .n z,cs,⟨a,r⟩=>⟨.slice a 0 0,[],r,⟨a,rfl⟩,rfl⟩
 | .p d,cs,r=>by
  obtain ⟨b,o,us,h,h'⟩:=id r
  subst h
  exact ⟨_,[],rfl,r,rfl⟩
 | .f g ds,cs,r=>by
  obtain ⟨vs,h,h'⟩:=id r
  subst h
  exact ⟨_,[],rfl,r,rfl⟩
 | .any,cs,r=>by
  obtain ⟨v,h,h'⟩:=id r
  subst h
  exact ⟨_,[],rfl,r,rfl⟩
theorem nF {c:Cx} {w:World}:∀(ds:List D) (cs:List Value),RpL w c.F ds cs→Sy.oks c w (px ds) cs
 | [],cs,r=>r
 | d :: ds,cs,⟨u,e,h1,h2,h3⟩=>by subst h1;exact nQ _ _ _ _ (uh d u h2) (nF ds e h3)
end
theorem dU {c:Cx} {w:World}:∀(ss:List Sy) (us:List Value),Sy.oks c w ss us→us.length=ss.length:=by
 intro ss
 induction ss with
 | nil=>intro us h;rw [show us = [] from h];rfl
 | cons s ss ih=>intro us ⟨y,t,e1,e2,e3⟩;rw [e1,List.length_cons,List.length_cons,ih t e3]
theorem kS {c:Cx} {w:World}:∀(ss:List Sy) (us:List Value) (o:Nat) (s:Sy) (v:Value),Sy.oks c w ss us→s.ok c w v→Sy.oks c w (ss.set o s) (us.set o v):=by
 intro ss
 induction ss with
 | nil=>intro us o s v h _;rw [show us = [] from h];exact rfl
 | cons x ss ih=>
  intro us o s v ⟨y,t,e1,e2,e3⟩ hv
  subst e1
  cases o with
  | zero=>exact ⟨v,t,rfl,hv,e3⟩
  | succ o=>exact ⟨y,t.set o v,rfl,e2,ih t o s v e3 hv⟩
def zd (P:Program):Nat→Nat→Option D
 | 0,_=>none
 | n+1,ty=>match P.underlying ty with
  | some (.int .i64)=>some (.i 0)
  | some .string=>some (.s ⟨#[]⟩)
  | some .bool=>some (.b false)
  | some (.slice e)=>(sizeOf? P e).map fun z=>.n z
  | some (.struct fs)=>(fs.toList.mapM fun f=>zd P n f.type).map .t
  | some (.array m e)=>(zd P n e).map fun z=>.t (List.replicate m z)
  | _=>none
mutual
def zok:D→List Value→Bool
 | .i n,cs=>match cs with | [.int .i64 m]=>decide (n=m) && (decide (-9223372036854775808≤n) && decide (n≤9223372036854775807))|_=>false
 | .s b,cs=>match cs with | [.string c]=>decide (b=c) && Nat.ble b.size maxLen|_=>false
 | .b x,cs=>match cs with | [.bool y]=>x == y|_=>false
 | .l z xs,cs=>match xs,cs with | [],[.slice none 0 0]=>true|_,_=>false
 | .t ds,cs=>Gq ds cs
 | .n _,cs=>match cs with | [.slice none 0 0]=>true|_=>false
 | .p _,_=>false
 | .f _ _,_=>false
 | .any,_=>false
def Gq:List D→List Value→Bool
 | [],cs=>cs.isEmpty
 | d :: ds,cs=>zok d (cs.take d.sz) && Gq ds (cs.drop d.sz)
end
mutual
theorem pJ {w:World} {S:BS}:∀(d:D) (cs:List Value),zok d cs=true→Rp w S d cs
 | .i n,cs,h=>by
  unfold zok at h
  split at h
  ·simp only [Bool.and_eq_true,decide_eq_true_eq] at h
   exact ⟨by rw [h.1],h.2⟩
  ·cases h
 | .s b,cs,h=>by
  unfold zok at h
  split at h
  ·simp only [Bool.and_eq_true,decide_eq_true_eq] at h
   exact ⟨by rw [h.1],Nat.le_of_ble_eq_true h.2⟩
  ·cases h
 | .b x,cs,h=>by
  unfold zok at h
  split at h
  ·rw [beq_iff_eq] at h;rw [h];exact rfl
  ·cases h
 | .l z xs,cs,h=>by
  unfold zok at h
  split at h
  ·exact ⟨none,0,rfl,Nat.le_refl _,by decide,fun _=>rfl,.inl rfl⟩
  ·cases h
 | .t ds,cs,h=>Bl ds cs (by unfold zok at h;exact h)
 | .n z,cs,h=>by
  unfold zok at h
  split at h
  ·exact ⟨none,rfl⟩
  ·cases h
 | .p d,cs,h=>by cases h
 | .f g ds,cs,h=>by cases h
 | .any,cs,h=>by cases h
theorem Bl {w:World} {S:BS}:∀(ds:List D) (cs:List Value),Gq ds cs=true→RpL w S ds cs
 | [],cs,h=>by unfold Gq at h;exact List.isEmpty_iff.1 h
 | d :: ds,cs,h=>by
  unfold Gq at h
  rw [Bool.and_eq_true] at h
  exact ⟨_,_,(List.take_append_drop d.sz cs).symm,pJ d _ h.1,Bl ds _ h.2⟩
end
def su (P:Program) (ty:Nat):Option Value:=(P.info? ty).bind (·.zero)
theorem RpR.news {w:World} {S:BS} {z b:Nat}:∀(ds:List D) (o:Nat),RpR w S z b o ds→∃news:List Value,news.length=ds.length * z∧bE w b o news∧(∀u∈news,u.oneCell'=true) ∧
 ∀i (h:i<ds.length),∃cs,cs.length=z∧Rp w S ds[i] cs∧∀t u,cs[t]? = some u→news[i * z+t]? = some u:=by
 intro ds
 induction ds with
 | nil=>intro o _;exact ⟨[],by simp,fun j u h=>by simp at h,by simp,fun i h=>absurd h (Nat.not_lt_zero _)⟩
 | cons d ds ih=>
  intro o ⟨⟨cs,h1,h2,h3⟩,h4⟩
  obtain ⟨news,n1,n2,n3,n4⟩:=ih _ h4
  refine ⟨cs++news,by rw [List.length_append,h1,n1,List.length_cons,Nat.add_mul];omega,fun j u hj=>?_,fun u hu=>?_,fun i hi=>?_⟩
  ·rcases Nat.lt_or_ge j cs.length with h|h
   ·rw [List.getElem?_append_left h] at hj;exact h3 j u hj
   ·rw [List.getElem?_append_right h] at hj
    have:=n2 _ u hj
    rw [show o+z+(j - cs.length)=o+j by omega] at this;exact this
  ·rcases List.mem_append.1 hu with hu|hu
   ·exact Rp.one _ _ h2 u hu
   ·exact n3 u hu
  ·cases i with
   | zero=>
    refine ⟨cs,h1,h2,fun t u ht=>?_⟩
    rw [Nat.zero_mul,Nat.zero_add,List.getElem?_append_left]
    ·exact ht
    ·rcases Nat.lt_or_ge t cs.length with h|h
     ·exact h
     ·rw [List.getElem?_eq_none h] at ht;cases ht
   | succ i=>
    obtain ⟨cs',m1,m2,m3⟩:=n4 i (by simpa using hi)
    refine ⟨cs',m1,m2,fun t u ht=>?_⟩
    rw [List.getElem?_append_right (by rw [h1,Nat.add_mul];omega)]
    have:=m3 t u ht
    rw [show (i+1) * z+t - cs.length=i * z+t by rw [h1,Nat.add_mul];omega];exact this
section
variable {P:Program} {ρ:Operand→Value} {w:World} {d g:_} {ty ty':Nat} {pos:String} {after:Array Edge} {x y z:Operand}
theorem zw {cs:List Value} (h:(ρ x).cells=cs.toArray):(execOp ρ ⟨d,.box ty' x,ty,pos,after,g⟩).run P w=.ok (.value (.pointer (some ⟨w.heap.size,0,none⟩))) (w.alloc (.cells cs.toArray ty')):=by
 refine d7 (X:=Instr.box ty' (ρ x)) ?_
 unfold Instr.box newVar newRow
 rw [h];rfl
theorem xq {v:Value} {cs:List Value} (hz:su P ty'=some v) (h:v.cells=cs.toArray):(execOp ρ ⟨d,.alloc ty',ty,pos,after,g⟩).run P w=.ok (.value (.pointer (some ⟨w.heap.size,0,none⟩))) (w.alloc (.cells cs.toArray ty')):=by
 unfold su at hz
 rw [Option.bind_eq_some_iff] at hz
 obtain ⟨i,hi,hz⟩:=hz
 have hzv:(zeroValue ty').run P w=.ok v w:=by simp [zeroValue,typeInfo,hi,hz,go_sem]
 refine d7 (X:=Instr.alloc ty' true (.tuple #[])) ?_
 unfold Instr.alloc
 rw [Sem.run_bind,hzv]
 unfold newVar newRow
 simp only [Result.andThen_ok]
 rw [h];rfl
theorem Ch {e n:Nat} (he:elem? P ty'=some e) (hz:sizeOf? P e=some n):(execOp ρ ⟨d,.buildSlice ty' 0 #[],ty,pos,after,g⟩).run P w=.ok (.value (.slice (some ⟨w.heap.size,0,none⟩) 0 0)) (w.alloc (.cells #[] e)):=by
 replace hz:=cZ hz
 rw [Option.map_eq_some_iff] at hz
 obtain ⟨i,hi,hz⟩:=hz
 simp [execOp,Instr.buildSlice,run_underlying (eD he),sizeOf,typeInfo,hi,Instr.fill,newRow,go_sem]
theorem AS {cs:List Value}:∀(n o:Nat) (pre:List Value) (old:List Value),pre.length=n→old.length=cs.length→o=n→((cs.zipIdx 0).foldl (fun (c:Array Value) (p:Value × Nat)=>c.setIfInBounds (o+p.2) p.1) (pre++old).toArray)=(pre++cs).toArray:=by
 have key:∀(cs:List Value) (k n:Nat) (pre old:List Value),pre.length=n+k→old.length=cs.length→((cs.zipIdx k).foldl (fun (c:Array Value) (p:Value × Nat)=>c.setIfInBounds (n+p.2) p.1) (pre++old).toArray)=(pre++cs).toArray:=by
  intro cs
  induction cs with
  | nil=>intro k n pre old h1 h2;rw [List.eq_nil_of_length_eq_zero h2];rfl
  | cons c cs ih=>
   intro k n pre old h1 h2
   cases old with
   | nil=>simp at h2
   | cons x old=>
    rw [List.zipIdx_cons,List.foldl_cons]
    have e:(pre++x :: old).toArray.setIfInBounds (n+k) c=((pre++[c])++old).toArray:=by
     simp only [List.setIfInBounds_toArray]
     rw [List.set_append_right _ _ (by omega),show n+k - pre.length=0 by omega,List.set_cons_zero]
     simp
    dsimp only
    rw [e,ih (k+1) n (pre++[c]) old (by simp;omega) (by simpa using h2)]
    simp
 intro n o pre old h1 h2 h3
 exact key cs 0 o pre old (by omega) h2
theorem wU {e n:Nat} {v:Value} {cs zs:List Value} (he:elem? P ty'=some e) (hz:sizeOf? P e=some n) (hzv:su P e=some v) (hzs:v.cells.size=n) (hn:0<n∧n≤1000) (hx:(ρ x).cells=cs.toArray) (hl:cs.length=n):(execOp ρ ⟨d,.buildSlice ty' 1 #[(0,x)],ty,pos,after,g⟩).run P w=.ok (.value (.slice (some ⟨w.heap.size,0,none⟩) 1 1)) (w.alloc (.cells cs.toArray e)):=by
 replace hz:=cZ hz
 rw [Option.map_eq_some_iff] at hz
 obtain ⟨i,hi,hz⟩:=hz
 unfold su at hzv
 rw [hi] at hzv
 simp only [Option.bind_some] at hzv
 have h1:¬(n > 2 ^ 24):=Nat.not_lt.2 (Nat.le_trans hn.2 (Nat.le_of_ble_eq_true rfl))
 have h2:¬n=0:=by omega
 have hf:(cs.zipIdx.foldl (fun (c:Array Value) (p:Value × Nat)=>c.setIfInBounds (0+p.2) p.1) ((Array.range n).map (v.cells[· % v.cells.size]!)))=cs.toArray:=by
  rw [show ((Array.range n).map (v.cells[· % v.cells.size]!))=(([]:List Value)++((Array.range n).map (v.cells[· % v.cells.size]!)).toList).toArray by rw [List.nil_append,Array.toArray_toList]]
  exact AS 0 0 [] _ rfl (by simp [hl]) rfl
 have hf':Instr.fill (fun i=>some (i * n,n)) ((Array.range n).map (v.cells[· % v.cells.size]!)) [(0,ρ x)]=some cs.toArray:=by
  unfold Instr.fill
  simp only [Nat.zero_mul,hx]
  rw [if_neg (by simp [hl])]
  unfold Instr.fill
  have hz2:cs.toArray.zipIdx=(cs.zipIdx).toArray:=by simp
  rw [hz2,List.foldl_toArray]
  exact congrArg some hf
 have hs:(sizeOf e).run P w=.ok n w:=by simp [sizeOf,typeInfo,hi,hz,go_sem]
 have hzr:(zeroValue e).run P w=.ok v w:=by simp [zeroValue,typeInfo,hi,hzv,go_sem]
 unfold execOp
 simp only [List.map_toArray,List.map_cons,List.map_nil]
 refine d7 (X:=Instr.buildSlice ty' 1 #[(0,ρ x)]) ?_
 unfold Instr.buildSlice
 rw [Sem.run_bind,run_underlying (eD he)]
 simp only [Result.andThen_ok,Sem.run_bind,hs,Nat.one_mul]
 rw [if_neg h1]
 simp only [Result.andThen_ok,Sem.run_bind,Sem.run_pure,if_neg h2,hzr,hf',newRow,run_newObj_alloc]
theorem qT {X:Sem Unit} {w':World} (h:X.run P w=.ok () w'):(do X;pure Next.skip:Sem Next).run P w=.ok .skip w':=by
 rw [Sem.run_bind,h];rfl
theorem gH {b o:Nat} {v u:Value} (hA:sizeOf? P ty'=some 1) (h1:v.oneCell'=true) (hc:w.cell? ⟨b,o,none⟩=some u) (hf:w.frozen? ⟨b,o,none⟩=false) (hx:ρ x=.pointer (some ⟨b,o,none⟩)) (hy:ρ y=v):(execOp ρ ⟨d,.store ty' x y,ty,pos,after,g⟩).run P w=.ok .skip (w.setCell ⟨b,o,none⟩ v):=by
 replace hA:=cZ hA
 rw [Option.map_eq_some_iff] at hA
 obtain ⟨i,hi,hz⟩:=hA
 have hcs:v.cells = #[v]:=by cases v <;> first|rfl|simp [Value.oneCell'] at h1
 have hs:(sizeOf ty').run P w=.ok 1 w:=by simp [sizeOf,typeInfo,hi,hz,go_sem]
 have hst:(store ⟨b,o,none⟩ v).run P w=.ok () (w.setCell ⟨b,o,none⟩ v):=by
  rw [run_store P w _ v _ h1,hc]
  dsimp only
  rw [hf];rfl
 refine qT (X:=Instr.storeAt ty' (ρ x) (ρ y)) ?_
 rw [hx,hy]
 simp only [Instr.storeAt,Instr.sureAddr,storeVar,Sem.run_bind,Sem.run_pure,Result.andThen_ok,hcs,hs]
 rw [if_neg (by simp)]
 simp only [storeCells,Addr.add,Sem.run_bind,Sem.run_pure,Result.andThen_ok,if_true,hst]
end
end Go.Proofs.YtclpbhoekmecjaaGreatDoor
namespace Go.Proofs.YtclpbhoekmecjaaGreatDoor
open Go.RowKit
set_option linter.unusedVariables false
set_option linter.unusedSimpArgs false
inductive Pt where
 | d (r:D)
 | tk (t:Tk)
def Tk.rowB:Tk→Bool
 | .row _ _ _=>true
 | .deep _ _ _ ps=>ps.isEmpty
 | .own (.l _ _) none none=>true
 | .grw _ _ _=>true
 | _=>false
def Cx.of (G:BS):Cx:=⟨G,fun _=>undef,fun _ _=>False,fun _=>False⟩
def Pt.ok (w:World) (G S:BS):Pt→Value→Prop
 | .d r,v=>isT r=false∧DV w G r v
 | .tk t,v=>t.rowB=true∧t.ok (Cx.of G) w v S
inductive Ro where
 | d (r:D)
 | row (z e:Nat) (ds:List D)
 | tp (rs:List D)
 | st (ps:List Pt)
def fresh (w w':World) (F:BS):BS:=fun b=>F b∨(w.heap.size≤b∧b<w'.heap.size)
def DVs (w:World) (S:BS):List D→List Value→Prop
 | [],vs=>vs = []
 | r :: rs,vs=>∃v t,vs=v :: t∧DV w S r v∧DVs w S rs t
def Ro.ok (w w':World) (F:BS):Ro→Value→Prop
 | .d r,v=>DV w' (fresh w w' F) r v
 | .row z e ds,v=>(ds = []∧∃a,v=.slice a 0 0)∨∃cells,w'.ownsRow w.heap.size e z v ds.length cells∧∀j (h:j<ds.length),∃cs,cs.length=z∧Rp w' (fun b=>fresh w w' F b∧v.ownBlock≠some b) ds[j] cs∧∀t u,cs[t]? = some u→cells[j * z+t]? = some u
 | .tp rs,v=>∃vs:List Value,v=.tuple vs.toArray∧DVs w' (fresh w w' F) rs vs
 | .st ps,v=>∃(vs:List Value) (T:Nat→BS),v=.agg vs.toArray∧vs.length=ps.length∧(∀i b,T i b→w.heap.size≤b∧b<w'.heap.size)∧(∀i j,i≠j→∀b,T i b→¬T j b)∧∀(i:Nat) (p:Pt),ps[i]? = some p→∃u,vs[i]? = some u∧p.ok w' (fun b=>fresh w w' F b∧∀j,¬T j b) (T i) u
structure FnD (P:Program) (f:FuncId) (ds:List D) (r:Ro):Prop where
 enter:∀args w,(callFunc f args).run P w=.ok (.enter f args) w
 calls:∀(F:BS) (w:World) (vs:List Value),DVs w F ds vs→(∀b,F b→b<w.heap.size)→Calls P f vs.toArray w fun e w'=>∃v,e=.returned v∧Ext w w'∧r.ok w w' F v
def evs (σ:Env):List Operand→Option (List D)
 | []=>some []
 | x :: xs=>match (ev σ x).bind Sy.arg,evs σ xs with
  | some r,some rs=>some (r :: rs)
  | _,_=>none
def kxs:List Operand→List Nat
 | []=>[]
 | x :: xs=>kx x++kxs xs
theorem nj {W0:cf} {N:Nat} {a:Act} {w:World} {c:Cx} {σ σ':Env} (h:aL W0 N σ' a w c):∀(xs:List Operand) (ds:List D),evs σ xs=some ds→(∀κ∈kxs xs,au σ' κ=au σ κ)→DVs w c.F ds (xs.map a.eval):=by
 intro xs
 induction xs with
 | nil=>intro ds he _;cases he;exact rfl
 | cons x xs ih=>
  intro ds he hk
  unfold evs at he
  split at he
  ·rename_i r rs h1 h2
   cases he
   rw [Option.bind_eq_some_iff] at h1
   obtain ⟨s,h3,h4⟩:=h1
   exact ⟨_,_,rfl,Bg h4 (av h (af h3 (fun κ hκ=>hk κ (by simp [kxs,hκ])))),ih rs h2 (fun κ hκ=>hk κ (by simp [kxs,hκ]))⟩
  ·cases he
section
variable {P:Program} {ρ:Operand→Value} {w:World} {d g:_} {ty ty' f:Nat} {pos:String} {after:Array Edge} {xs:List Operand} {at':Array TypeId}
end
section
variable {P:Program} {ops:Array Oper} {W0:cf} {N:Nat} {Fin:Us→Env→Prop} {os:List Oper} {us:Us} {pk fk:List Nat} {σ:Env} {g:Option (Nat × Bool)} {gk:List Nat} {d ty ty':Nat} {pos:String} {after:Array Edge}
theorem gx {x:Operand} {r:D} (h:Der P ops W0 N Fin os (us++[((d :: (gk++((10000+d) :: kx x)))++pk,([d,10000+d])++fk)]) [] [] ((d,.sy (.bx (10000+d) 0)) :: (10000+d,.tk (.bx (flat r))) :: σ)) (hx:(ev σ x).bind Sy.dat=some r:=by rfl) (hi:au σ (10000+d)=none:=by rfl) (hg:gst ops σ g=some (true,gk):=by rfl) (hN:Nat.blt d N=true:=by rfl) (hs:aM ((10000+d,.tk (.bx (flat r))) :: σ) d=true:=by rfl) (hu:Nat.beq (10000+d) d=false:=by rfl):Der P ops W0 N Fin (⟨some d,.box ty' x,ty,pos,after,g⟩ :: os) us pk fk σ:=
 me (.bx (10000+d) 0) ((10000+d) :: kx x) [(10000+d,.tk (.bx (flat r)))] (fun σ' c a w hk hc=>by
  rw [Option.bind_eq_some_iff] at hx
  obtain ⟨s,hx1,hx2⟩:=hx
  have hv:=jW hx2 (av hc (af hx1 (fun κ hκ=>hk κ (by simp [hκ]))))
  obtain ⟨cs,h1,h2,_⟩:=hv.cells
  unfold Oper.wp
  rw [zw h1]
  have hX:Ext w (w.alloc (.cells cs.toArray ty')):=(Ext.refl w).alloc _
  have hc1:=hc.grow hX c.F (fun _ h=>h) (fun _ h=>.inl h) (fun b hb=>Nat.lt_of_lt_of_le (hc.lt b hb) (Below.size hX))
  have hr2:Rp (w.alloc (.cells cs.toArray ty')) c.F r cs:=Rp.keep (fun _ h=>h) (fun b _ hl=>hX.block b hl) _ _ h2
  refine ⟨_,_,rfl,hc1.new (i:=10000+d) (t:=.bx (flat r)) (v:=.pointer (some ⟨w.heap.size,0,none⟩)) (S:=fun b=>b=w.heap.size) ((hk _ (by simp)).trans hi) ⟨w.heap.size,cs,rfl,rfl,uh r cs hr2,dj.new w ty' cs _ rfl⟩ (fun b hb=>⟨fun hF=>?_,?_⟩) (fun j u hj b hb hT=>?_),?_⟩
  ·subst hb;exact absurd (hc.lt _ hF) (Nat.lt_irrefl _)
  ·subst hb;exact ⟨by simp,.inr hc.ext.size⟩
  ·subst hb;exact absurd ((hc.tok j u hj).2.2 _ hT).2.1 (Nat.lt_irrefl _)
  ·exact ⟨.inr rfl,w.heap.size,if_pos rfl,rfl⟩) h hg hN hs (by simp [hu])
theorem aZ {r:D} {v:Value} (h:Der P ops W0 N Fin os (us++[((d :: (gk++[10000+d]))++pk,([d,10000+d])++fk)]) [] [] ((d,.sy (.bx (10000+d) 0)) :: (10000+d,.tk (.bx (flat r))) :: σ)) (hr:zd P 4 ty'=some r:=by rfl) (hv:su P ty'=some v:=by rfl) (hz:zok r v.cells.toList=true:=by rfl) (hi:au σ (10000+d)=none:=by rfl) (hg:gst ops σ g=some (true,gk):=by rfl) (hN:Nat.blt d N=true:=by rfl) (hs:aM ((10000+d,.tk (.bx (flat r))) :: σ) d=true:=by rfl) (hu:Nat.beq (10000+d) d=false:=by rfl):Der P ops W0 N Fin (⟨some d,.alloc ty',ty,pos,after,g⟩ :: os) us pk fk σ:=
 me (.bx (10000+d) 0) [10000+d] [(10000+d,.tk (.bx (flat r)))] (fun σ' c a w hk hc=>by
  obtain ⟨cs,hcs⟩:∃cs:List Value,v.cells.toList=cs:=⟨_,rfl⟩
  rw [hcs] at hz
  have h1:v.cells=cs.toArray:=by rw [← hcs]
  unfold Oper.wp
  rw [xq hv h1]
  have hX:Ext w (w.alloc (.cells cs.toArray ty')):=(Ext.refl w).alloc _
  have hc1:=hc.grow hX c.F (fun _ h=>h) (fun _ h=>.inl h) (fun b hb=>Nat.lt_of_lt_of_le (hc.lt b hb) (Below.size hX))
  refine ⟨_,_,rfl,hc1.new (i:=10000+d) (t:=.bx (flat r)) (v:=.pointer (some ⟨w.heap.size,0,none⟩)) (S:=fun b=>b=w.heap.size) ((hk _ (by simp)).trans hi) ⟨w.heap.size,cs,rfl,rfl,uh r cs (pJ r cs hz),dj.new w ty' cs _ rfl⟩ (fun b hb=>⟨fun hF=>?_,?_⟩) (fun j u hj b hb hT=>?_),?_⟩
  ·subst hb;exact absurd (hc.lt _ hF) (Nat.lt_irrefl _)
  ·subst hb;exact ⟨by simp,.inr hc.ext.size⟩
  ·subst hb;exact absurd ((hc.tok j u hj).2.2 _ hT).2.1 (Nat.lt_irrefl _)
  ·exact ⟨.inr rfl,w.heap.size,if_pos rfl,rfl⟩) h hg hN hs (by simp [hu])
theorem cg {e n:Nat} (h:Der P ops W0 N Fin os (us++[((d :: (gk++[10000+d]))++pk,([d,10000+d])++fk)]) [] [] ((d,.sy (.k (10000+d))) :: (10000+d,.tk (.row n e [])) :: σ)) (he:elem? P ty'=some e:=by rfl) (hz:sizeOf? P e=some n:=by rfl) (hi:au σ (10000+d)=none:=by rfl) (hg:gst ops σ g=some (true,gk):=by rfl) (hN:Nat.blt d N=true:=by rfl) (hs:aM ((10000+d,.tk (.row n e [])) :: σ) d=true:=by rfl) (hu:Nat.beq (10000+d) d=false:=by rfl):Der P ops W0 N Fin (⟨some d,.buildSlice ty' 0 #[],ty,pos,after,g⟩ :: os) us pk fk σ:=
 me (.k (10000+d)) [10000+d] [(10000+d,.tk (.row n e []))] (fun σ' c a w hk hc=>by
  unfold Oper.wp
  rw [Ch he hz]
  have hX:Ext w (w.alloc (.cells #[] e)):=(Ext.refl w).alloc _
  have hc1:=hc.grow hX c.F (fun _ h=>h) (fun _ h=>.inl h) (fun b hb=>Nat.lt_of_lt_of_le (hc.lt b hb) (Below.size hX))
  refine ⟨_,_,rfl,hc1.new (i:=10000+d) (t:=.row n e []) (v:=.slice (some ⟨w.heap.size,0,none⟩) 0 0) (S:=fun b=>b=w.heap.size) ((hk _ (by simp)).trans hi) (.inr ⟨[],World.ownsRow_made w #[] 0 (Nat.zero_le _) (by decide) (by simp),fun g hg=>by simpa [Value.ownBlock] using hg.symm,fun j hj=>absurd hj (Nat.not_lt_zero _)⟩) (fun b hb=>⟨fun hF=>?_,?_⟩) (fun j u hj b hb hT=>?_),?_⟩
  ·subst hb;exact absurd (hc.lt _ hF) (Nat.lt_irrefl _)
  ·subst hb;exact ⟨by simp,.inr hc.ext.size⟩
  ·subst hb;exact absurd ((hc.tok j u hj).2.2 _ hT).2.1 (Nat.lt_irrefl _)
  ·exact ⟨.inr rfl,(if_pos rfl).symm⟩) h hg hN hs (by simp [hu])
theorem gw {x:Operand} {e:Nat} {r:D} {v:Value} (h:Der P ops W0 N Fin os (us++[((d :: (gk++kx x))++pk,([d])++fk)]) [] [] ((d,.sy (.d (.l r.sz [r]))) :: σ)) (hx:(ev σ x).bind Sy.dat=some r:=by rfl) (he:elem? P ty'=some e:=by rfl) (hz:sizeOf? P e=some r.sz:=by rfl) (hv:su P e=some v:=by rfl) (hvs:v.cells.size=r.sz:=by rfl) (hn:(Nat.blt 0 r.sz && Nat.ble r.sz 1000)=true:=by rfl) (hg:gst ops σ g=some (true,gk):=by rfl) (hN:Nat.blt d N=true:=by rfl) (hs:aM σ d=true:=by rfl):Der P ops W0 N Fin (⟨some d,.buildSlice ty' 1 #[(0,x)],ty,pos,after,g⟩ :: os) us pk fk σ:=
 me (.d (.l r.sz [r])) (kx x) [] (fun σ' c a w hk hc=>by
  rw [Option.bind_eq_some_iff] at hx
  obtain ⟨s,hx1,hx2⟩:=hx
  have hv':=jW hx2 (av hc (af hx1 (fun κ hκ=>hk κ (by simp [hκ]))))
  obtain ⟨cs,h1,h2,_⟩:=hv'.cells
  rw [Bool.and_eq_true] at hn
  unfold Oper.wp
  rw [wU (zs:=[]) he hz hv hvs ⟨Nat.blt_eq.mp hn.1,Nat.le_of_ble_eq_true hn.2⟩ h1 (Rp.len _ _ h2)]
  have hX:Ext w (w.alloc (.cells cs.toArray e)):=(Ext.refl w).alloc _
  have hc1:=hc.grow hX (fun b=>c.F b∨b=w.heap.size) (fun _ h=>.inl h) (fun _ h=>h.imp id (fun h=>by omega)) (fun b hb=>by
   rcases hb with hb|hb
   ·exact Nat.lt_of_lt_of_le (hc.lt b hb) (Below.size hX)
   ·subst hb;simp)
  refine ⟨_,_,rfl,hc1,some ⟨w.heap.size,0,none⟩,1,rfl,Nat.le_refl _,by decide,fun h=>(by cases h),.inr ⟨w.heap.size,0,rfl,.inr rfl,⟨cs,Rp.len _ _ h2,Rp.keep (fun _ h=>.inl h) (fun b _ hl=>hX.block b hl) _ _ h2,fun j u hj=>?_⟩,trivial⟩⟩
  rw [Nat.zero_add]
  exact (dj.new w e cs _ rfl j u hj).1) h hg hN hs rfl
theorem nh {P:Program} {w:World} {ty' ty e n:Nat} {ti:TypeInfo} {z:Value} (he:elem? P ty'=some e) (hti:P.info? e=some ti) (htz:ti.zero=some z) (hsz:ti.size=n) (hzs:z.cells.size=n) (hn0:0<n) (ao:Option Addr) (adr:Addr) (m k:Nat) (news:List Value) (hl:news.length=m * n) (hnews:∀j u,news[j]? = some u→w.cell? (adr.add j)=some u) (h1:∀u∈news,u.oneCell'=true) (h63:m≤maxLen) (hb:m * ti.bytes≤140737488355328) (hm:0<m) :
 ∃v' w',(Builtin.append_ #[ty',ty'] ty #[.slice ao 0 0,.slice (some adr) m k]).run P w=.ok v' w'∧w'.ownsRow 0 e n v' m news∧w.grownBy w' none∧∀b,v'.ownBlock=some b→b=w.heap.size:=by
 have key:(Builtin.append_ #[ty',ty'] ty #[.slice ao 0 0,.slice (some adr) m k]).run P w=(Builtin.append_ #[ty',ty'] ty #[.slice none 0 0,.slice (some adr) m k]).run P w:=by
  cases ao with
  | none=>rfl
  | some a=>
   have h2:¬(Builtin.nextslicecap m 0 * ti.bytes > 2 ^ 48):=by
    have:Builtin.nextslicecap m 0=m:=by unfold Builtin.nextslicecap;rw [if_pos (by omega)]
    rw [this]
    have:(140737488355328:Nat)≤2 ^ 48:=Nat.le_of_ble_eq_true rfl
    omega
   have hm':¬m=0:=by omega
   simp [Builtin.append_,run_underlying (eD he),sizeOf,typeInfo,hti,Builtin.lenOf,Builtin.firstCells,hm',h2,loadCells,loadCellsFrom]
 rw [key]
 obtain ⟨v',w',r1,r2,r3,_,r5⟩:=run_append_own_at (P:=P) w 0 ty' ty e ti z n ti.bytes (eD he) hti htz hsz rfl hzs hn0 (.slice none 0 0) 0 [] (World.ownsRow_nil w 0 e n) adr m k news hl hnews h1 (by omega) (by rw [Nat.zero_add];exact hb) (Nat.zero_le _)
 refine ⟨v',w',r1,by rw [Nat.zero_add,List.nil_append] at r2;exact r2,r3,fun b hb=>?_⟩
 rcases r5 with r5|r5
 ·rw [r5] at hb;cases hb
 ·rw [r5] at hb;cases hb;rfl
theorem aL.app0 {P:Program} {W0:cf} {N:Nat} {σ:Env} {a:Act} {w:World} {c:Cx} (hc:aL W0 N σ a w c) {ty' ty e n id:Nat} {ti:TypeInfo} {z:Value} (he:elem? P ty'=some e) (hti:P.info? e=some ti) (htz:ti.zero=some z) (hsz:ti.size=n) (hzs:z.cells.size=n) (hn:(Nat.blt 0 n && Nat.ble ti.bytes 1000)=true) (ao:Option Addr) {v:Value} {ys:List D} (hy:DV w c.F (.l n ys) v) (hb:ys.length≤1000000) (hf:au σ id=none) :
 ∃v' w' c',(Builtin.append_ #[ty',ty'] ty #[.slice ao 0 0,v]).run P w=.ok v' w'∧aL W0 N ((id,.tk (.row n e ys)) :: σ) a w' c'∧(Sy.k id).ok c' w' v':=by
 rw [Bool.and_eq_true] at hn
 have hn0:0<n:=Nat.blt_eq.mp hn.1
 obtain ⟨ad,k,hyv,hk1,hk2,hk3,hk4⟩:=hy
 have hyv':v=.slice ad ys.length k:=by simpa using hyv
 subst hyv'
 by_cases hy0:ys = []
 ·subst hy0
  have h1:=hc.new (i:=id) hf (t:=.row n e []) (v:=.slice ao 0 0) (S:=fun _=>False) (.inl ⟨rfl,ao,rfl⟩) (fun b hb=>hb.elim) (fun j u _ b hb=>hb.elim)
  refine ⟨.slice ao 0 0,w,_,?_,h1,.inr rfl,(if_pos rfl).symm⟩
  have hz:ti.size=n:=hsz
  cases ao <;> cases ad <;> simp [Builtin.append_,run_underlying (eD he),sizeOf,typeInfo,hti,Builtin.lenOf,Builtin.firstCells,loadCells,loadCellsFrom,storeCells]
 ·have hm:0<ys.length:=List.length_pos_iff.2 hy0
  rcases hk4 with hk4|⟨b0,o,rfl,_,hk4⟩
  ·exact absurd hk4 hy0
  obtain ⟨news,n1,n2,n3,n4⟩:=RpR.news ys o hk4
  have hmb:ys.length * ti.bytes≤140737488355328:=by
   have:ys.length * ti.bytes≤1000000 * 1000:=Nat.mul_le_mul hb (Nat.le_of_ble_eq_true hn.2)
   omega
  obtain ⟨v',w',hrun,own',hgr,hblk⟩:=nh (P:=P) (ty:=ty) he hti htz hsz hzs hn0 ao ⟨b0,o,none⟩ ys.length k news n1 (fun j u hj=>by
   have:=n2 j u hj
   have e2:((⟨b0,o,none⟩:Addr).add j)=⟨b0,o+j,none⟩:=by cases j <;> simp [Addr.add]
   rw [e2];exact this) n3 (by unfold maxLen;omega) hmb hm
  have hX:Ext w w':=⟨hgr.os,hgr.tape,hgr.output,hgr.size,fun j hj=>hgr.block j hj (by simp)⟩
  have hc1:=hc.grow hX c.F (fun _ h=>h) (fun _ h=>.inl h) (fun b hb=>Nat.lt_of_lt_of_le (hc.lt b hb) (Below.size hX))
  refine ⟨v',w',_,hrun,hc1.new (i:=id) (t:=.row n e ys) (v:=v') (S:=fun b=>v'.ownBlock=some b) hf (.inr ⟨news,own',fun g hg=>hg,fun j hj=>?_⟩) (fun b hb=>⟨fun hF=>?_,(own'.lt b hb).2,?_⟩) (fun j u hj b hb hT=>?_),.inr rfl,(if_pos rfl).symm⟩
  ·obtain ⟨cs,q1,q2,q3⟩:=n4 j hj
   exact ⟨cs,q1,Rp.keep (fun _ h=>h) (fun b _ hl=>hX.block b hl) _ _ q2,q3⟩
  ·rw [hblk b hb] at hF;exact absurd (hc.lt _ hF) (Nat.lt_irrefl _)
  ·rw [hblk b hb];exact .inr hc.ext.size
  ·rw [hblk b hb] at hT;exact absurd ((hc.tok j u hj).2.2 _ hT).2.1 (Nat.lt_irrefl _)
theorem fS {x y:Operand} {i e n:Nat} {ds ys:List D} {ti:TypeInfo} {z:Value} (h:Der P ops W0 N Fin os (us++[((d :: (gk++(i :: (10000+d) :: (kx x++kx y))))++pk,([d,10000+d,i])++fk)]) [] [] ((d,.sy (.k (10000+d))) :: (10000+d,.tk (.row n e (ds++ys))) :: (i,.no) :: σ)) (hx:ev σ x=some (.k i):=by rfl) (hi:au σ i=some (.tk (.row n e ds)):=by rfl) (hy:ev σ y=some (.d (.l n ys)):=by rfl) (hf:au σ (10000+d)=none:=by rfl) (he:elem? P ty'=some e:=by rfl) (hti:P.info? e=some ti:=by rfl) (htz:ti.zero=some z:=by rfl) (hsz:ti.size=n:=by rfl) (hzs:z.cells.size=n:=by rfl) (hn:(Nat.blt 0 n && Nat.ble ti.bytes 1000)=true:=by rfl) (hb:ds.length+ys.length≤1000000:=by first|omega|(simp only [List.length_map,List.length_cons,List.length_nil,List.length_append,List.length_take,List.length_drop];omega)) (hg:gst ops σ g=some (true,gk):=by rfl) (hN:Nat.blt d N=true:=by rfl) (hs:aM ((10000+d,.tk (.row n e (ds++ys))) :: (i,.no) :: σ) d=true:=by rfl) (hu:(Nat.beq (10000+d) d || Nat.beq i d || Nat.beq i (10000+d))=false:=by rfl):Der P ops W0 N Fin (⟨some d,.call { callee:=.builtin .append,args:=#[x,y],argTypes:=#[ty',ty'] },ty,pos,after,g⟩ :: os) us pk fk σ:=by
 simp only [Bool.or_eq_false_iff] at hu
 refine me (.k (10000+d)) (i :: (10000+d) :: (kx x++kx y)) [(10000+d,.tk (.row n e (ds++ys))),(i,.no)] (fun σ' c a w hk hc=>?_) h hg hN hs (by simp [hu.1.1,hu.1.2])
 rw [Bool.and_eq_true] at hn
 have hn0:0<n:=Nat.blt_eq.mp hn.1
 have hi':=(hk i (by simp)).trans hi
 obtain ⟨hAi,hxv⟩:=av hc (af hx (fun κ hκ=>hk κ (by simp [hκ])))
 obtain ⟨ad,k,hyv,hk1,hk2,hk3,hk4⟩:=av hc (af hy (fun κ hκ=>hk κ (by simp [hκ])))
 have hyv':a.eval y=.slice ad ys.length k:=by simpa using hyv
 obtain ⟨_,hT,hlt⟩:=hc.tok i _ hi'
 rcases hT with ⟨hd,a0,hv0⟩|⟨cells,own,hS,hel⟩
 ·subst hd
  have hc0:=hc.eff (τ:=[]) hi' ⟨rfl,rfl,rfl,Nat.le_refl _,fun _ _ _=>rfl⟩ c.F (fun _ h=>h) (fun _ h=>.inl h) hc.lt
  have hne:¬i=10000+d:=fun e=>by rw [e] at hu;simp at hu
  obtain ⟨v',w',c',r1,r2,r3⟩:=hc0.app0 (P:=P) (ty:=ty) he hti htz hsz hzs (by rw [Bool.and_eq_true];exact hn) a0 (av hc (af hy (fun κ hκ=>hk κ (by simp [hκ])))) (by simp at hb;exact hb) (id:=10000+d) (by rw [ah,if_neg hne,hk _ (by simp),hf])
  have hxz:a.eval x=.slice a0 0 0:=hxv.trans hv0
  have hex:(execOp a.eval ⟨some d,.call { callee:=.builtin .append,args:=#[x,y],argTypes:=#[ty',ty'] },ty,pos,after,g⟩).run P w=.ok (.value v') w':=by
   generalize a.eval=ρ at *
   simp [execOp,resolve,invoke,builtin,hxz,r1,Result.andThen]
  unfold Oper.wp
  rw [hex]
  exact ⟨v',c',rfl,r2,r3⟩
 rw [← hxv] at own hS
 obtain ⟨v',w',news,hrun,own',hgr,hblk,hnews⟩:∃v' w' news,(Builtin.append_ #[ty',ty'] ty #[a.eval x,.slice ad ys.length k]).run P w=.ok v' w'∧w'.ownsRow 0 e n v' (ds.length+ys.length) (cells++news)∧w.grownBy w' (a.eval x).ownBlock∧(v'.ownBlock=(a.eval x).ownBlock∨v'.ownBlock=some w.heap.size) ∧
  ∀j (h:j<ys.length),∃cs,cs.length=n∧Rp w c.F ys[j] cs∧∀t u,cs[t]? = some u→news[j * n+t]? = some u:=by
  have hmb:(ds.length+ys.length) * ti.bytes≤140737488355328:=by
   have:(ds.length+ys.length) * ti.bytes≤1000000 * 1000:=Nat.mul_le_mul hb (Nat.le_of_ble_eq_true hn.2)
   omega
  cases ad with
  | none=>
   have hk0:=hk3 rfl
   have hy0:ys = []:=List.eq_nil_of_length_eq_zero (by omega)
   subst hy0;subst hk0
   exact ⟨a.eval x,w,[],run_append_owned_none (P:=P) w 0 ty' ty e ti n (eD he) hti _ _ cells own,by simpa using own,ke _ _,.inl rfl,fun j h=>absurd h (Nat.not_lt_zero _)⟩
  | some adr=>
   obtain ⟨news,n1,n2,n3,n4⟩:∃news:List Value,news.length=ys.length * n∧(∀j u,news[j]? = some u→w.cell? (adr.add j)=some u)∧(∀u∈news,u.oneCell'=true)∧∀j (h:j<ys.length),∃cs,cs.length=n∧Rp w c.F ys[j] cs∧∀t u,cs[t]? = some u→news[j * n+t]? = some u:=by
    rcases hk4 with hk4|⟨b,o,e1,_,hk4⟩
    ·subst hk4;exact ⟨[],by simp,by simp,by simp,fun j h=>absurd h (Nat.not_lt_zero _)⟩
    ·cases e1
     obtain ⟨news,m1,m2,m3,m4⟩:=RpR.news ys o hk4
     refine ⟨news,m1,fun j u hj=>?_,m3,m4⟩
     have:=m2 j u hj
     have e2:((⟨b,o,none⟩:Addr).add j)=⟨b,o+j,none⟩:=by cases j <;> simp [Addr.add]
     rw [e2];exact this
   obtain ⟨v',w',r1,r2,r3,_,r5⟩:=run_append_own_at (P:=P) w 0 ty' ty e ti z n ti.bytes (eD he) hti htz hsz rfl hzs hn0 (a.eval x) ds.length cells own adr ys.length k news n1 n2 n3 (by unfold maxLen;omega) hmb (Nat.zero_le _)
   exact ⟨v',w',news,r1,r2,r3,r5,n4⟩
 have hchg:Chg (c.T i) w w':=Chg.grown hgr hS
 have hag:=hc.agF hchg (fun b hb=>(hlt b hb).1)
 have hc1:=hc.eff (τ:=[]) hi' hchg c.F (fun _ h=>h) (fun _ h=>.inl h) (fun b hb=>Nat.lt_of_lt_of_le (hc.lt b hb) hchg.size)
 have hne:¬i=10000+d:=fun e=>by rw [e] at hu;simp at hu
 have hf':au ((i,.no) :: σ') (10000+d)=none:=by rw [ah,if_neg hne,hk _ (by simp),hf]
 have hex:(execOp a.eval ⟨some d,.call { callee:=.builtin .append,args:=#[x,y],argTypes:=#[ty',ty'] },ty,pos,after,g⟩).run P w=.ok (.value v') w':=by
  generalize a.eval=ρ at *
  simp [execOp,resolve,invoke,builtin,hyv',hrun,Result.andThen]
 unfold Oper.wp
 rw [hex]
 refine ⟨v',_,rfl,hc1.new (i:=10000+d) (t:=.row n e (ds++ys)) (v:=v') (S:=fun b=>v'.ownBlock=some b) hf' (.inr ⟨cells++news,by rw [List.length_append];exact own',fun g hg=>hg,fun j hj=>?_⟩) (fun b hbk=>?_) (fun j u hj b hbk hT=>?_),?_⟩
 ·by_cases hlt':j<ds.length
  ·obtain ⟨cs,q1,q2,q3⟩:=hel j hlt'
   refine ⟨cs,q1,by rw [List.getElem_append_left hlt'];exact Rp.keep (fun _ h=>h) hag _ _ q2,fun t u ht=>?_⟩
   have:=q3 t u ht
   rw [List.getElem?_append_left]
   ·exact this
   ·rcases Nat.lt_or_ge (j * n+t) cells.length with h|h
    ·exact h
    ·rw [List.getElem?_eq_none h] at this;cases this
  ·rw [List.length_append] at hj
   obtain ⟨cs,q1,q2,q3⟩:=hnews (j - ds.length) (by omega)
   refine ⟨cs,q1,by rw [List.getElem_append_right (by omega)];exact Rp.keep (fun _ h=>h) hag _ _ q2,fun t u ht=>?_⟩
   have:=q3 t u ht
   have hm:ds.length * n≤j * n:=Nat.mul_le_mul_right _ (by omega)
   rw [List.getElem?_append_right (by rw [own.1];omega),own.1]
   rw [Nat.sub_mul] at this
   rw [show j * n+t - ds.length * n=j * n - ds.length * n+t by omega]
   exact this
 ·rcases hblk with e1|e1
  ·have:=hlt b (hS b (by rw [← e1];exact hbk))
   exact ⟨this.1,Nat.lt_of_lt_of_le this.2.1 hchg.size,this.2.2⟩
  ·rw [e1] at hbk;cases hbk
   exact ⟨fun hF=>absurd (hc.lt _ hF) (Nat.lt_irrefl _),(own'.lt _ e1).2,.inr hc.ext.size⟩
 ·rw [ah] at hj
  split at hj
  ·cases hj
  ·rename_i hij
   rcases hblk with e1|e1
   ·exact hc.off i j _ u hi' hj hij b (hS b (by rw [← e1];exact hbk)) hT
   ·rw [e1] at hbk;cases hbk
    exact absurd ((hc.tok j u hj).2.2 _ hT).2.1 (Nat.lt_irrefl _)
 ·exact ⟨.inr rfl,(if_pos rfl).symm⟩
end
end Go.Proofs.YtclpbhoekmecjaaGreatDoor
namespace Go.Proofs.YtclpbhoekmecjaaGreatDoor
open Go.RowKit
set_option linter.unusedVariables false
set_option linter.unusedSimpArgs false
theorem DE {s:Sy} {c:Cx} {w:World} {v:Value} (h:s.ok c w v) (hs:(match s with | .d r=>!isT r | .k _=>true | .v x=>x.oneCell'|_=>false)=true) (hk:∀i,s=.k i→v.oneCell'=true):v.oneCell'=true:=by
 cases s with
 | d r=>
  cases r with
  | t ds=>cases hs
  | i n=>exact Rp.one _ _ h _ (by simp)
  | s n=>exact Rp.one _ _ h _ (by simp)
  | b n=>exact Rp.one (w:=w) (S:=c.F) (.b n) _ h _ (by simp)
  | l z xs=>exact Rp.one _ _ h _ (by simp)
  | n z=>exact Rp.one (w:=w) (S:=c.F) (.n z) _ h _ (by simp)
  | p d=>exact Rp.one (w:=w) (S:=c.F) (.p d) _ h _ (by simp)
  | f g ds=>exact Rp.one (w:=w) (S:=c.F) (.f g ds) _ h _ (by simp)
  | any=>exact Rp.one (w:=w) (S:=c.F) .any _ h _ (by simp)
 | v x=>rw [show v=x from h];exact hs
 | k i=>exact hk i rfl
 | _=>cases hs
def one?:Sy→Bool
 | .d r=>!isT r
 | .v x=>x.oneCell'
 | _=>false
def FO (σ:Env):Sy→Bool
 | .k i=>match au σ i with|some (.tk (.row _ _ _))=>true|_=>false
 | s=>one? s
def kSy:Sy→List Nat
 | .k i=>[i]
 | _=>[]
section
variable {P:Program} {ops:Array Oper} {W0:cf} {N:Nat} {Fin:Us→Env→Prop} {os:List Oper} {us:Us} {pk fk:List Nat} {σ:Env} {g:Option (Nat × Bool)} {gk:List Nat} {d ty ty':Nat} {pos:String} {after:Array Edge}
theorem bt {x y:Operand} {i o:Nat} {cs:List Sy} {s:Sy} (h:Der P ops W0 N Fin os (us++[((gk++(i :: (kSy s++(kx x++kx y))))++pk,([i])++fk)]) [] [] ((i,.tk (.bx (cs.set o s))) :: σ)) (hx:ev σ x=some (.bx i o):=by rfl) (hi:au σ i=some (.tk (.bx cs)):=by rfl) (hy:ev σ y=some s:=by rfl) (ho:Nat.blt o cs.length=true:=by rfl) (hz:sizeOf? P ty'=some 1:=by rfl) (h1:FO σ s=true:=by rfl) (hg:gst ops σ g=some (true,gk):=by rfl):Der P ops W0 N Fin (⟨none,.store ty' x y,ty,pos,after,g⟩ :: os) us pk fk σ:=
 lI (i :: (kSy s++(kx x++kx y))) [(i,.tk (.bx (cs.set o s)))] (fun σ' c a w hk hc=>by
  obtain ⟨hAi,b,e1,e2⟩:=av hc (af hx (fun κ hκ=>hk κ (by simp [hκ])))
  have hi':=(hk i (by simp)).trans hi
  obtain ⟨_,⟨b',vs,e3,e4,e5,e6⟩,hlt⟩:=hc.tok i _ hi'
  rw [e1] at e3;cases e3
  have hv:=av hc (af hy (fun κ hκ=>hk κ (by simp [hκ])))
  have hone:(a.eval y).oneCell'=true:=by
   cases s with
   | k j=>
    unfold FO at h1
    dsimp only at h1
    split at h1
    ·rename_i n e ds hj
     obtain ⟨_,hT,_⟩:=hc.tok j _ ((hk j (by simp [kSy])).trans hj)
     obtain ⟨_,q2⟩:=hv
     rw [q2]
     rcases hT with ⟨_,_,q3⟩|⟨cells,q1,_⟩
     ·rw [q3];rfl
     ·rcases q1.2 with ⟨q3,_⟩|⟨_,_,_,q3,_⟩ <;> rw [q3] <;> rfl
    ·cases h1
   | _=>exact DE hv h1 (fun i h=>by cases h)
  have hol:o<vs.length:=by rw [dU _ _ e5];exact Nat.blt_eq.mp ho
  obtain ⟨q4,q5⟩:=e6 o _ (List.getElem?_eq_getElem hol)
  unfold Oper.wp
  rw [gH hz hone q4 q5 e2 rfl]
  have hch:Chg (c.T i) w (w.setCell ⟨b,o,none⟩ (a.eval y)):=Chg.grown (bO b o _) (fun g hg=>by cases hg;exact e4)
  refine ⟨rfl,c,hc.upd hi' hch (by simp) (fun hag=>⟨b,vs.set o (a.eval y),e1,e4,?_,e6.set o _⟩)⟩
  exact Sy.keeps (Cx.Le.refl c) hag _ _ (kS _ _ _ _ _ e5 hv)) h hg
theorem aG {x y:Operand} {i:Nat} {cs:List Sy} {ds:List D} (h:Der P ops W0 N Fin os (us++[((gk++(i :: (kx x++kx y)))++pk,([i])++fk)]) [] [] ((i,.tk (.bx (px ds))) :: σ)) (hx:ev σ x=some (.bx i 0):=by rfl) (hi:au σ i=some (.tk (.bx cs)):=by rfl) (hy:ev σ y=some (.d (.t ds)):=by rfl) (hz:sizeOf? P ty'=some (szs ds):=by rfl) (hl:Nat.beq cs.length (szs ds)=true:=by rfl) (hg:gst ops σ g=some (true,gk):=by rfl):Der P ops W0 N Fin (⟨none,.store ty' x y,ty,pos,after,g⟩ :: os) us pk fk σ:=
 lI (i :: (kx x++kx y)) [(i,.tk (.bx (px ds)))] (fun σ' c a w hk hc=>by
  obtain ⟨hAi,b,e1,e2⟩:=av hc (af hx (fun κ hκ=>hk κ (by simp [hκ])))
  have hi':=(hk i (by simp)).trans hi
  obtain ⟨_,⟨b',vs,e3,e4,e5,e6⟩,hlt⟩:=hc.tok i _ hi'
  rw [e1] at e3;cases e3
  obtain ⟨us',e7,e8⟩:=av hc (af hy (fun κ hκ=>hk κ (by simp [hκ])))
  have hlen:us'.length=vs.length:=by rw [RpL.len _ _ e8,dU _ _ e5,Nat.eq_of_beq_eq_true hl]
  obtain ⟨w',r1,r2,r3,r4⟩:=mr (P:=P) e6 0 us' (by omega) ty' (by rw [RpL.len _ _ e8];exact cZ hz) (List.all_eq_true.2 (fun u hu=>RpL.one _ _ e8 u hu))
  have hrun:(execOp a.eval ⟨none,.store ty' x y,ty,pos,after,g⟩).run P w=.ok .skip w':=qT (X:=Instr.storeAt ty' (a.eval x) (a.eval y)) (by rw [e2,e7];exact r1)
  unfold Oper.wp
  rw [hrun]
  have hpa:ka vs 0 us'=us':=by
   apply List.ext_getElem?
   intro j
   by_cases hj:j<us'.length
   ·have:=kk us' vs 0 j _ (by omega) (List.getElem?_eq_getElem hj)
    rw [Nat.zero_add] at this
    rw [this,List.getElem?_eq_getElem hj]
   ·rw [List.getElem?_eq_none (by rw [mW];omega),List.getElem?_eq_none (by omega)]
  rw [hpa] at r2
  refine ⟨rfl,c,hc.upd hi' (Chg.grown r3 (fun g hg=>by cases hg;exact e4)) r4 (fun hag=>⟨b,us',e1,e4,?_,r2⟩)⟩
  exact nF (w:=w') ds us' (RpL.keep (fun _ h=>h) hag _ _ e8)) h hg
def Ea:List Sy→Option (List D)
 | []=>some []
 | s :: ss=>match s.dat,Ea ss with
  | some r,some rs=>some (r :: rs)
  | _,_=>none
theorem ux {c:Cx} {w:World}:∀(ss:List Sy) (rs:List D) (vs:List Value),Ea ss=some rs→(rs.all fun r=>!isT r)=true→Sy.oks c w ss vs→RpL w c.F rs vs:=by
 intro ss
 induction ss with
 | nil=>intro rs vs h _ ho;cases h;exact ho
 | cons s ss ih=>
  intro rs vs h ht ⟨y,t,e1,e2,e3⟩
  unfold Ea at h
  split at h
  ·rename_i r rs' h1 h2
   cases h
   rw [List.all_cons,Bool.and_eq_true] at ht
   have hv:=jW h1 e2
   refine ⟨[y],t,e1,?_,ih rs' t h2 ht.2 e3⟩
   cases r with
   | t ds=>simp [isT] at ht
   | _=>exact hv
  ·cases h
theorem FG {x:Operand} {i:Nat} {cs:List Sy} {ds:List D} (h:Der P ops W0 N Fin os (us++[((d :: (gk++(i :: kx x)))++pk,([d])++fk)]) [] [] ((d,.sy (.d (.t ds))) :: σ)) (hx:ev σ x=some (.bx i 0):=by rfl) (hi:au σ i=some (.tk (.bx cs)):=by rfl) (hc:Ea cs=some ds:=by rfl) (ht:(ds.all fun r=>!isT r)=true:=by rfl) (hA:isAgg? P ty'=some true:=by rfl) (hz:sizeOf? P ty'=some cs.length:=by rfl) (hg:gst ops σ g=some (true,gk):=by rfl) (hN:Nat.blt d N=true:=by rfl) (hs:aM σ d=true:=by rfl):Der P ops W0 N Fin (⟨some d,.load ty' x,ty,pos,after,g⟩ :: os) us pk fk σ:=
 b6 (.d (.t ds)) (i :: kx x) (fun σ' c a w hk hh=>by
  obtain ⟨hAi,b,h1,h2⟩:=av hh (af hx (fun κ hκ=>hk κ (by simp [hκ])))
  obtain ⟨_,⟨b',vs,h3,h4,h5,h6⟩,_⟩:=hh.tok i _ ((hk i (by simp)).trans hi)
  rw [h1] at h3;cases h3
  refine ⟨.agg vs.toArray,d7 (X:=Instr.loadAt ty' (a.eval x)) (by rw [h2];exact fc hA (by rw [hz,dU _ _ h5]) (fun j u hj=>by rw [Nat.zero_add];exact (h6 j u hj).1)),vs,rfl,ux _ _ _ hc ht h5⟩) h hg hN hs
theorem cV {c:Cx} {w:World} {n e:Nat} {ds:List D} {v:Value} {S:BS} (h:(Tk.row n e ds).ok c w v S):DV w (fun b=>c.F b∨S b) (.l n ds) v:=by
 rcases h with ⟨hd,a0,hv⟩|⟨cells,own,hS,hel⟩
 ·subst hd
  exact ⟨a0,0,by rw [hv];rfl,Nat.le_refl _,by decide,fun _=>rfl,.inl rfl⟩
 rcases own.2 with ⟨hv,hn⟩|⟨g,cap,cur,hv,_,hg,h5,h6,h7,h8⟩
 ·have:ds = []:=List.eq_nil_of_length_eq_zero hn
  subst this
  exact ⟨none,0,by rw [hv];rfl,Nat.le_refl _,by decide,fun _=>rfl,.inl rfl⟩
 ·refine ⟨_,cap,by rw [hv],h5,h6,fun h=>(by cases h),.inr ⟨g,0,rfl,.inr (hS g (by rw [hv];rfl)),(ij _ _).2 fun j hj=>?_⟩⟩
  obtain ⟨cs,q1,q2,q3⟩:=hel j hj
  refine ⟨cs,q1,Rp.keep (fun _ h=>.inl h) (fun _ _ _=>rfl) _ _ q2,fun t u ht=>?_⟩
  have:=q3 t u ht
  rw [hv] at own
  rw [Nat.zero_add,World.ownsRow.cellAt own (j * n+t)]
  ·exact this
  ·rcases Nat.lt_or_ge (j * n+t) cells.length with h|h
   ·rw [← own.1];exact h
   ·rw [List.getElem?_eq_none h] at this;cases this
theorem Holds.fz {W0:cf} {N t i n e:Nat} {σ:Env} {ds:List D} {a:Act} {w:World} (ht:au σ t=some (.sy (.k i))) (hi:au σ i=some (.tk (.row n e ds))) (hu:Nat.beq i t=false) (hh:Holds W0 N σ a w):Holds W0 N ((t,.sy (.d (.l n ds))) :: (i,.no) :: σ) a w:=by
 obtain ⟨c,hc⟩:=hh
 have hf:=hc.freeze hi
 obtain ⟨v,h3,_,h4⟩:=hc.tmp t _ ht
 have hr:=cV (hc.tok i _ hi).2.1
 have hput:=hf.put (d:=t) (s:=.d (.l n ds)) (v:=v) (by rw [← hc.size];exact (Array.getElem?_eq_some_iff.1 h3).1) (by rw [h4];exact hr) (.inr ⟨.k i,by rw [ah,if_neg (fun e=>by rw [e] at hu;simp at hu)];exact ht⟩)
 have e:a.put (some t) v=a:=qz (iH _ _ _) (fun j=>by
  simp only [Act.put]
  by_cases hj:t=j
  ·subst hj
   rw [Array.getElem?_setIfInBounds_self_of_lt (Array.getElem?_eq_some_iff.1 h3).1,h3]
  ·rw [Array.getElem?_setIfInBounds_ne hj])
 rw [e] at hput
 exact ⟨_,hput⟩
theorem sFz (t:Nat) {o:Oper} {i n e:Nat} {ds:List D} (h:Der P ops W0 N Fin (o :: os) us ([t,i]++pk) ([t,i]++fk) ((t,.sy (.d (.l n ds))) :: (i,.no) :: σ)) (hx:au σ t=some (.sy (.k i)):=by rfl) (hi:au σ i=some (.tk (.row n e ds)):=by rfl) (hu:Nat.beq i t=false:=by rfl):Der P ops W0 N Fin (o :: os) us pk fk σ:=by
 obtain ⟨keys,upd,h1,h2⟩:=h
 refine ⟨keys++[t,i],upd++[(t,.sy (.d (.l n ds))),(i,.no)],CA.fz hx hi hu (fun σ' a w ht hi hh=>hh.fz ht hi hu) h1,?_⟩
 simp only [List.append_assoc,List.map_append] at h2 ⊢
 exact h2
theorem iY {x:Operand} {i n e:Nat} {ds:List D} (h:Der P ops W0 N Fin os (us++[((d :: (gk++(i :: kx x)))++pk,([d,i])++fk)]) [] [] ((d,.sy (.d (.l n ds))) :: (i,.no) :: σ)) (hx:ev σ x=some (.k i):=by rfl) (hi:au σ i=some (.tk (.row n e ds)):=by rfl) (hg:gst ops σ g=some (true,gk):=by rfl) (hN:Nat.blt d N=true:=by rfl) (hs:aM ((i,.no) :: σ) d=true:=by rfl) (hu:Nat.beq i d=false:=by rfl):Der P ops W0 N Fin (⟨some d,.assign x,ty,pos,after,g⟩ :: os) us pk fk σ:=
 me (.d (.l n ds)) (i :: kx x) [(i,.no)] (fun σ' c a w hk hc=>by
  obtain ⟨_,hv⟩:=av hc (af hx (fun κ hκ=>hk κ (by simp [hκ])))
  have hi':=(hk i (by simp)).trans hi
  have hr:(execOp a.eval ⟨some d,.assign x,ty,pos,after,g⟩).run P w=.ok (.value (a.eval x)) w:=rfl
  unfold Oper.wp
  rw [hr]
  exact ⟨_,_,rfl,hc.freeze hi',by rw [hv];exact cV (hc.tok i _ hi').2.1⟩) h hg hN hs (by simp [hu])
theorem cA {e n:Nat} (h:Der P ops W0 N Fin os (us++[((d :: (gk++[]))++pk,([d])++fk)]) [] [] ((d,.sy (.d (.n n))) :: σ)) (he:elem? P ty=some e:=by rfl) (hz:sizeOf? P e=some n:=by rfl) (hg:gst ops σ g=some (true,gk):=by rfl) (hN:Nat.blt d N=true:=by rfl) (hs:aM σ d=true:=by rfl):Der P ops W0 N Fin (⟨some d,.assign (.const (.slice none 0 0)),ty,pos,after,g⟩ :: os) us pk fk σ:=
 b6 (.d (.n n)) [] (fun σ' c a w hk hc=>⟨.slice none 0 0,rfl,none,rfl⟩) h hg hN hs
theorem EI {n e b o m z:Nat} {w:World} (hu:P.underlying ty'=some (.array n e)) (hz:sizeOf? P e=some z) (hm:m<n):(Instr.indexAt ty' (.pointer (some ⟨b,o,none⟩)) (.int .i64 m)).run P w=.ok (.pointer (some ⟨b,o+m * z,none⟩)) w:=by
 replace hz:=cZ hz
 rw [Option.map_eq_some_iff] at hz
 obtain ⟨i,hi,hz⟩:=hz
 have h0:(0:Int)≤(m:Int):=by omega
 have h1:(m:Int)<(n:Int):=by omega
 unfold Instr.indexAt
 simp [run_underlying hu,asIntOf,Instr.sureAddr,sizeOf,typeInfo,hi,hz,Addr.add,hm,go_sem]
def arr? (P:Program) (ty:Nat):Option (Nat × Nat):=match P.underlying ty with|some (.array n e)=>some (n,e)|_=>none
theorem cq {x y:Operand} {s:Sy} {n e z m:Nat} {ds:List D} {r:D} (h:Der P ops W0 N Fin os (us++[((d :: (gk++(kx x++kx y)))++pk,([d])++fk)]) [] [] ((d,.sy (.at r)) :: σ)) (hx:ev σ x=some (.at (.t ds)):=by rfl) (hy:ev σ y=some s:=by rfl) (hi:s.int? = some (Int.ofNat m):=by rfl) (ha:arr? P ty'=some (n,e):=by rfl) (hz:sizeOf? P e=some z:=by rfl) (hm:Nat.blt m n=true:=by rfl) (hr:part? ds (m * z)=some r:=by rfl) (hg:gst ops σ g=some (true,gk):=by rfl) (hN:Nat.blt d N=true:=by rfl) (hs:aM σ d=true:=by rfl):Der P ops W0 N Fin (⟨some d,.indexAddr ty' x y,ty,pos,after,g⟩ :: os) us pk fk σ:=
 b6 (.at r) (kx x++kx y) (fun σ' c a w hk hc=>by
  obtain ⟨b,off,cs,h1,h2,h3,h4⟩:=av hc (af hx (fun κ hκ=>hk κ (by simp [hκ])))
  have h5:=ex hi (av hc (af hy (fun κ hκ=>hk κ (by simp [hκ]))))
  obtain ⟨c',h6,h7⟩:=vA ds _ cs r h3 hr
  have hu:P.underlying ty'=some (.array n e):=by
   unfold arr? at ha
   split at ha
   ·cases ha;assumption
   ·cases ha
  refine ⟨_,d7 (X:=Instr.indexAt ty' (a.eval x) (a.eval y)) (by rw [h1,h5];exact EI hu hz (Nat.blt_eq.mp hm)),b,off+m * z,c',rfl,h2,h6,fun j u hj=>?_⟩
  rw [Nat.add_assoc];exact h4 _ u (h7 j u hj)) h hg hN hs
theorem bT {x y:Operand} {i z e e':Nat} {ds:List D} {s:Sy} {n:Nat} (h:Der P ops W0 N Fin os (us++[((d :: (gk++(i :: (kx x++kx y))))++pk,([d])++fk)]) [] [] ((d,.sy (.el i z n 0)) :: σ)) (hx:ev σ x=some (.k i):=by rfl) (hi:au σ i=some (.tk (.row z e ds)):=by rfl) (hy:ev σ y=some s:=by rfl) (hn:s.int? = some (n:Int):=by rfl) (he:elem? P ty'=some e':=by rfl) (hz:sizeOf? P e'=some z:=by rfl) (hlt:n<ds.length:=by first|assumption|omega|(simp only [List.length_map,List.length_append,List.length_cons,List.length_nil,List.length_replicate,List.length_take];omega)) (hg:gst ops σ g=some (true,gk):=by rfl) (hN:Nat.blt d N=true:=by rfl) (hs:aM σ d=true:=by rfl):Der P ops W0 N Fin (⟨some d,.indexAddr ty' x y,ty,pos,after,g⟩ :: os) us pk fk σ:=
 b6 (.el i z n 0) (i :: (kx x++kx y)) (fun σ' c a w hk hc=>by
  obtain ⟨hA,h1⟩:=av hc (af hx (fun κ hκ=>hk κ (by simp [hκ])))
  have h2:=ex hn (av hc (af hy (fun κ hκ=>hk κ (by simp [hκ]))))
  obtain ⟨_,hT,_⟩:=hc.tok i _ ((hk i (by simp)).trans hi)
  rcases hT with ⟨hd,_⟩|⟨cells,h3,_⟩
  ·subst hd;exact absurd hlt (Nat.not_lt_zero _)
  rcases h3.2 with ⟨_,hn0⟩|⟨gb,cap,cur,hv,_,_,h5,h6,_⟩
  ·rw [hn0] at hlt;exact absurd hlt (Nat.not_lt_zero _)
  ·exact ⟨_,d7 (X:=Instr.indexAt ty' (a.eval x) (a.eval y)) (by rw [h1,hv,h2];exact oC he hz hlt),hA,gb,_,_,hv,by rw [Nat.zero_add];rfl⟩) h hg hN hs
theorem ct {x:Operand} {k o i z n off:Nat} (h:Der P ops W0 N Fin os (us++[((d :: (gk++kx x))++pk,([d])++fk)]) [] [] ((d,.sy (.el i z n (off+o))) :: σ)) (hx:ev σ x=some (.el i z n off):=by rfl) (ho:fld P ty' k=some o:=by rfl) (hg:gst ops σ g=some (true,gk):=by rfl) (hN:Nat.blt d N=true:=by rfl) (hs:aM σ d=true:=by rfl):Der P ops W0 N Fin (⟨some d,.fieldAddr ty' x k,ty,pos,after,g⟩ :: os) us pk fk σ:=
 b6 (.el i z n (off+o)) (kx x) (fun σ' c a w hk hc=>by
  obtain ⟨hA,b,m,cp,h1,h2⟩:=av hc (af hx hk)
  exact ⟨_,d7 (X:=Instr.fieldAt ty' (a.eval x) k) (by rw [h2];exact oD ho),hA,b,m,cp,h1,by rw [Nat.add_assoc]⟩) h hg hN hs
def DP:D→Nat→Option D
 | .t ds,o=>part? ds o
 | .i n,0=>some (.i n)
 | .s n,0=>some (.s n)
 | .b n,0=>some (.b n)
 | .l z n,0=>some (.l z n)
 | .n z,0=>some (.n z)
 | .p d,0=>some (.p d)
 | .f g ds,0=>some (.f g ds)
 | .any,0=>some .any
 | _,_=>none
theorem CN {w:World} {S:BS} {r q:D} {o:Nat} {cs:List Value} (h:Rp w S r cs) (hq:DP r o=some q):∃c,Rp w S q c∧∀j u,c[j]? = some u→cs[o+j]? = some u:=by
 have key:DP r o=some r→o=0→∃c,Rp w S r c∧∀(j:Nat) (u:Value),c[j]? = some u→cs[o+j]? = some u:=fun _ e=>⟨cs,h,fun j u hj=>by rw [e,Nat.zero_add];exact hj⟩
 cases r with
 | t ds=>exact vA ds o cs q h hq
 | _=>
  cases o with
  | zero=>cases hq;exact key rfl rfl
  | succ o=>cases hq
theorem aY {α:Type} {f:α→D} {l:List α} {x:Operand} {i z n o e:Nat} {q:D} (h:Der P ops W0 N Fin os (us++[((d :: (gk++(i :: kx x)))++pk,([d])++fk)]) [] [] ((d,.sy (.d q)) :: σ)) (hx:ev σ x=some (.el i z n o):=by rfl) (hi:au σ i=some (.tk (.row z e (l.map f))):=by rfl) (hlt:n<l.length:=by first|assumption|omega) (hq:DP (f l[n]) o=some q:=by rfl) (hA:isAgg? P ty'=some false:=by rfl) (ht:isT q=false:=by rfl) (hg:gst ops σ g=some (true,gk):=by rfl) (hN:Nat.blt d N=true:=by rfl) (hs:aM σ d=true:=by rfl):Der P ops W0 N Fin (⟨some d,.load ty' x,ty,pos,after,g⟩ :: os) us pk fk σ:=
 b6 (.d q) (i :: kx x) (fun σ' c a w hk hc=>by
  obtain ⟨hA',b,m,cp,h1,h2⟩:=av hc (af hx (fun κ hκ=>hk κ (by simp [hκ])))
  obtain ⟨_,hT,_⟩:=hc.tok i _ ((hk i (by simp)).trans hi)
  rcases hT with ⟨hd,_⟩|⟨cells,own,hS,hel⟩
  ·rw [List.map_eq_nil_iff] at hd;subst hd;exact absurd hlt (Nat.not_lt_zero _)
  obtain ⟨cs,q1,q2,q3⟩:=hel n (by rw [List.length_map];exact hlt)
  rw [List.getElem_map] at q2
  obtain ⟨c',q4,q5⟩:=CN q2 hq
  have hl:=Rp.len _ _ q4
  have hz1:q.sz=1:=by cases q <;> first|rfl|(simp [isT] at ht)
  obtain ⟨v,rfl⟩:=List.length_eq_one_iff.1 (hl.trans hz1)
  have hv:DV w c.F q v:=by cases q <;> first|exact q4|(simp [isT] at ht)
  have h6:=q3 _ _ (q5 0 v rfl)
  rw [h1] at own
  have hin:n * z+o<cells.length:=by
   rcases Nat.lt_or_ge (n * z+o) cells.length with h|h
   ·exact h
   ·rw [Nat.add_zero,List.getElem?_eq_none h] at h6;cases h6
  have hcell:w.cell? ⟨b,n * z+o,none⟩=some v:=by
   rcases own.2 with ⟨hv0,_⟩|⟨gb,cap,cur,hv0,rest⟩
   ·cases hv0
   ·cases hv0
    rw [World.ownsRow.cellAt (h:=own) (n * z+o) (by rw [← own.1];exact hin)]
    rw [Nat.add_zero] at h6;exact h6
  exact ⟨v,d7 (X:=Instr.loadAt ty' (a.eval x)) (by rw [h2];exact iU hA hcell),hv⟩) h hg hN hs
theorem cB {α:Type} {f:α→D} {xs ys:List α} {x y:Operand} {i e n:Nat} {ti:TypeInfo} {z:Value} (h:Der P ops W0 N Fin os (us++[((d :: (gk++(i :: (10000+d) :: (kx x++kx y))))++pk,([d,10000+d,i])++fk)]) [] [] ((d,.sy (.k (10000+d))) :: (10000+d,.tk (.row n e ((xs++ys).map f))) :: (i,.no) :: σ)) (hx:ev σ x=some (.k i):=by rfl) (hi:au σ i=some (.tk (.row n e (xs.map f))):=by rfl) (hy:ev σ y=some (.d (.l n (ys.map f))):=by rfl) (hf:au σ (10000+d)=none:=by rfl) (he:elem? P ty'=some e:=by rfl) (hti:P.info? e=some ti:=by rfl) (htz:ti.zero=some z:=by rfl) (hsz:ti.size=n:=by rfl) (hzs:z.cells.size=n:=by rfl) (hn:(Nat.blt 0 n && Nat.ble ti.bytes 1000)=true:=by rfl) (hb:xs.length+ys.length≤1000000:=by first|omega|(simp only [List.length_map,List.length_append,List.length_take,List.length_drop];omega)) (hg:gst ops σ g=some (true,gk):=by rfl) (hN:Nat.blt d N=true:=by rfl) (hs:aM ((10000+d,.tk (.row n e ((xs++ys).map f))) :: (i,.no) :: σ) d=true:=by rfl) (hu:(Nat.beq (10000+d) d || Nat.beq i d || Nat.beq i (10000+d))=false:=by rfl):Der P ops W0 N Fin (⟨some d,.call { callee:=.builtin .append,args:=#[x,y],argTypes:=#[ty',ty'] },ty,pos,after,g⟩ :: os) us pk fk σ:=by
 rw [List.map_append] at h hs
 exact fS h hx hi hy hf he hti htz hsz hzs hn (by rw [List.length_map,List.length_map];exact hb) hg hN hs hu
theorem sj {c:Cx} {w:World}:∀(ss:List Sy) (vs:List Value) (o:Nat) (s:Sy),Sy.oks c w ss vs→ss[o]? = some s→∃v,vs[o]? = some v∧s.ok c w v:=by
 intro ss
 induction ss with
 | nil=>intro vs o s _ h;simp at h
 | cons y ss ih=>
  intro vs o s ⟨v,t,e1,e2,e3⟩ h
  subst e1
  cases o with
  | zero=>simp at h;subst h;exact ⟨v,rfl,e2⟩
  | succ o=>simp at h ⊢;exact ih t o s e3 h
theorem qI {us:List Value} {o:Nat} {v:Value} (hv:us[o]? = some v):us.set o v=us:=by
 apply List.ext_getElem?
 intro j
 rw [List.getElem?_set]
 by_cases hj:o=j
 ·subst hj
  rw [if_pos rfl,hv]
  split
  ·rfl
  ·rename_i hh;rw [List.getElem?_eq_none (by omega)] at hv;cases hv
 ·rw [if_neg hj]
theorem Holds.nilB {W0:cf} {N i o z e id:Nat} {σ:Env} {cs:List Sy} {a:Act} {w:World} (hi:au σ i=some (.tk (.bx cs))) (hc:cs[o]? = some (.d (.n z))) (hf:au σ id=none) (hne:Nat.beq id i=false) (hh:Holds W0 N σ a w):Holds W0 N ((i,.tk (.bx (cs.set o (.k id)))) :: (id,.tk (.row z e [])) :: σ) a w:=by
 obtain ⟨c,h⟩:=hh
 obtain ⟨_,⟨b,us,p1,p2,p3,p4⟩,_⟩:=h.tok i _ hi
 obtain ⟨v0,p5,a0,p6⟩:=sj cs us o _ p3 hc
 have hne':¬id=i:=fun e=>by rw [e] at hne;simp at hne
 have hle:c.Le (c.add id v0 (fun _=>False)):=Cx.add_le (fun hA=>h.all id hA hf)
 have h1:=h.new (i:=id) hf (t:=.row z e []) (v:=v0) (S:=fun _=>False) (.inl ⟨rfl,a0,by simpa using p6⟩) (fun b hb=>hb.elim) (fun j u _ b hb=>hb.elim)
 have hi':au ((id,.tk (.row z e [])) :: σ) i=some (.tk (.bx cs)):=by rw [ah,if_neg hne'];exact hi
 refine ⟨_,h1.upd hi' ⟨rfl,rfl,rfl,Nat.le_refl _,fun _ _ _=>rfl⟩ rfl (fun _=>⟨b,us,(if_neg (Ne.symm hne')).trans p1,?_,?_,p4⟩)⟩
 ·show (if i=id then _ else c.T i) b
  rw [if_neg (Ne.symm hne')];exact p2
 ·have:=kS cs us o (.k id) v0 (Sy.keeps hle (fun _ _ _=>rfl) _ _ p3) ⟨.inr rfl,(if_pos rfl).symm⟩
  rw [qI p5] at this
  exact this
theorem Holds.nilS {W0:cf} {N t z e id:Nat} {σ:Env} {a:Act} {w:World} (ht:au σ t=some (.sy (.d (.n z)))) (hf:au σ id=none) (hne:Nat.beq id t=false) (hh:Holds W0 N σ a w):Holds W0 N ((t,.sy (.k id)) :: (id,.tk (.row z e [])) :: σ) a w:=by
 obtain ⟨c,h⟩:=hh
 have hne':¬id=t:=fun e=>by rw [e] at hne;simp at hne
 obtain ⟨v,h3,a0,h4⟩:=h.tmp t _ ht
 have h1:=h.new (i:=id) hf (t:=.row z e []) (v:=v) (S:=fun _=>False) (.inl ⟨rfl,a0,by simpa using h4⟩) (fun b hb=>hb.elim) (fun j u _ b hb=>hb.elim)
 have hput:=h1.put (d:=t) (s:=.k id) (v:=v) (by rw [← h.size];exact (Array.getElem?_eq_some_iff.1 h3).1) ⟨.inr rfl,(if_pos rfl).symm⟩ (.inr ⟨.d (.n z),by rw [ah,if_neg hne'];exact ht⟩)
 have e:a.put (some t) v=a:=qz (iH _ _ _) (fun j=>by
  simp only [Act.put]
  by_cases hj:t=j
  ·subst hj
   rw [Array.getElem?_setIfInBounds_self_of_lt (Array.getElem?_eq_some_iff.1 h3).1,h3]
  ·rw [Array.getElem?_setIfInBounds_ne hj])
 rw [e] at hput
 exact ⟨_,hput⟩
theorem Holds.fzB {W0:cf} {N i o n e j:Nat} {σ:Env} {cs:List Sy} {ds:List D} {a:Act} {w:World} (hi:au σ i=some (.tk (.bx cs))) (hc:cs[o]? = some (.k j)) (hj:au σ j=some (.tk (.row n e ds))) (hne:Nat.beq j i=false) (hh:Holds W0 N σ a w):Holds W0 N ((i,.tk (.bx (cs.set o (.d (.l n ds))))) :: (j,.no) :: σ) a w:=by
 obtain ⟨c,h⟩:=hh
 have hr:=cV (h.tok j _ hj).2.1
 have h1:=h.freeze hj
 have hne':¬j=i:=fun e=>by rw [e] at hne;simp at hne
 have hi':au ((j,.no) :: σ) i=some (.tk (.bx cs)):=by rw [ah,if_neg hne'];exact hi
 refine ⟨_,h1.upd hi' ⟨rfl,rfl,rfl,Nat.le_refl _,fun _ _ _=>rfl⟩ rfl (fun _=>?_)⟩
 obtain ⟨_,⟨b,us,q1,q2,q3,q4⟩,_⟩:=h1.tok i _ hi'
 obtain ⟨v,g1,_,g2⟩:=sj cs us o _ q3 hc
 refine ⟨b,us,q1,q2,?_,q4⟩
 have:=kS cs us o (.d (.l n ds)) v q3 (by rw [g2];exact hr)
 rw [qI g1] at this
 exact this
theorem xA {ρ:Operand→Value} {w:World} {dd:Option Tmp} {x y:Operand} {e z len cap n:Nat} {ad:Option Addr} (he:elem? P ty'=some e) (hz:sizeOf? P e=some z) (h1:ρ x=.slice ad len cap) (h2:ρ y=.int .i64 n) (hn:n≤cap):(execOp ρ ⟨dd,.slice ty' x none (some y) none,ty,pos,after,g⟩).run P w=.ok (.value (.slice (if cap=0 then ad else ad.map (·.add 0)) n cap)) w:=by
 replace hz:=cZ hz
 rw [Option.map_eq_some_iff] at hz
 obtain ⟨i,hi,hz⟩:=hz
 have hn':(n:Int)≤(cap:Int):=by omega
 simp [execOp,Instr.sliceAt,Instr.slice,run_underlying (eD he),Instr.sliceBounds,Instr.sliceBound,asIntOf,hn,h1,h2,sizeOf,typeInfo,hi,hz,go_sem]
theorem xQ {ρ:Operand→Value} {w:World} {dd:Option Tmp} {x y:Operand} {e z len cap n:Nat} {ad:Option Addr} (he:elem? P ty'=some e) (hz:sizeOf? P e=some z) (h1:ρ x=.slice ad len cap) (h2:ρ y=.int .i64 n) (hn:n≤len):(execOp ρ ⟨dd,.slice ty' x (some y) none none,ty,pos,after,g⟩).run P w=.ok (.value (.slice (if cap=n then ad else ad.map (·.add (n * z))) (len - n) (cap - n))) w:=by
 replace hz:=cZ hz
 rw [Option.map_eq_some_iff] at hz
 obtain ⟨i,hi,hz⟩:=hz
 have hn':(n:Int)≤(len:Int):=by omega
 simp [execOp,Instr.sliceAt,Instr.slice,run_underlying (eD he),Instr.sliceBounds,Instr.sliceBound,asIntOf,hn,h1,h2,sizeOf,typeInfo,hi,hz,go_sem]
theorem b7 {α:Type} {f:α→D} {l:List α} {x y:Operand} {z e n:Nat} {s:Sy} (h:Der P ops W0 N Fin os (us++[((d :: (gk++(kx x++kx y)))++pk,([d])++fk)]) [] [] ((d,.sy (.d (.l z ((l.take n).map f)))) :: σ)) (hx:ev σ x=some (.d (.l z (l.map f))):=by rfl) (hy:ev σ y=some s:=by rfl) (hi:s.int? = some (n:Int):=by rfl) (he:elem? P ty'=some e:=by rfl) (hz:sizeOf? P e=some z:=by rfl) (hn:n≤l.length:=by first|assumption|omega) (hg:gst ops σ g=some (true,gk):=by rfl) (hN:Nat.blt d N=true:=by rfl) (hs:aM σ d=true:=by rfl):Der P ops W0 N Fin (⟨some d,.slice ty' x none (some y) none,ty,pos,after,g⟩ :: os) us pk fk σ:=
 b6 (.d (.l z ((l.take n).map f))) (kx x++kx y) (fun σ' c a w hk hc=>by
  obtain ⟨ad,k,h1,h2,h3,h4,h5⟩:=av hc (af hx (fun κ hκ=>hk κ (by simp [hκ])))
  have h6:=ex hi (av hc (af hy (fun κ hκ=>hk κ (by simp [hκ]))))
  rw [List.length_map] at h1 h2
  have h1':a.eval x=.slice ad l.length k:=by simpa using h1
  have hl:((l.take n).map f).length=n:=by rw [List.length_map,List.length_take];omega
  refine ⟨_,xA he hz h1' h6 (by omega),(if k=0 then ad else ad.map (·.add 0)),k,by rw [hl],by rw [hl];omega,h3,fun h=>?_,?_⟩
  ·split at h
   ·exact h4 h
   ·cases ad with
    | none=>exact h4 rfl
    | some b=>cases h
  ·by_cases hn0:n=0
   ·left;subst hn0;rfl
   ·rcases h5 with h5|⟨b,o,rfl,g1,g2⟩
    ·rw [List.map_eq_nil_iff] at h5;rw [h5] at hn;simp at hn;omega
    ·right
     refine ⟨b,o,?_,g1,(ij _ _).2 fun j hj=>?_⟩
     ·split
      ·rfl
      ·simp [Addr.add]
     ·rw [hl] at hj
      obtain ⟨cs,q1,q2,q3⟩:=(ij _ _).1 g2 j (by rw [List.length_map];omega)
      rw [List.getElem_map] at q2
      refine ⟨cs,q1,?_,q3⟩
      rw [List.getElem_map,List.getElem_take];exact q2) h hg hN hs
theorem cy {α:Type} {f:α→D} {l:List α} {x y:Operand} {z e n:Nat} {s:Sy} (h:Der P ops W0 N Fin os (us++[((d :: (gk++(kx x++kx y)))++pk,([d])++fk)]) [] [] ((d,.sy (.d (.l z ((l.drop n).map f)))) :: σ)) (hx:ev σ x=some (.d (.l z (l.map f))):=by rfl) (hy:ev σ y=some s:=by rfl) (hi:s.int? = some (n:Int):=by rfl) (he:elem? P ty'=some e:=by rfl) (hz:sizeOf? P e=some z:=by rfl) (hn:n≤l.length:=by first|assumption|omega) (hg:gst ops σ g=some (true,gk):=by rfl) (hN:Nat.blt d N=true:=by rfl) (hs:aM σ d=true:=by rfl):Der P ops W0 N Fin (⟨some d,.slice ty' x (some y) none none,ty,pos,after,g⟩ :: os) us pk fk σ:=
 b6 (.d (.l z ((l.drop n).map f))) (kx x++kx y) (fun σ' c a w hk hc=>by
  obtain ⟨ad,k,h1,h2,h3,h4,h5⟩:=av hc (af hx (fun κ hκ=>hk κ (by simp [hκ])))
  have h6:=ex hi (av hc (af hy (fun κ hκ=>hk κ (by simp [hκ]))))
  rw [List.length_map] at h1 h2
  have h1':a.eval x=.slice ad l.length k:=by simpa using h1
  have hl:((l.drop n).map f).length=l.length - n:=by rw [List.length_map,List.length_drop]
  refine ⟨_,xQ he hz h1' h6 hn,(if k=n then ad else ad.map (·.add (n * z))),k - n,by rw [hl],by rw [hl];omega,by omega,fun h=>?_,?_⟩
  ·split at h
   ·omega
   ·cases ad with
    | none=>have:=h4 rfl;omega
    | some b=>cases h
  ·by_cases hn0:n=l.length
   ·left;subst hn0;simp
   ·rcases h5 with h5|⟨b,o,rfl,g1,g2⟩
    ·rw [List.map_eq_nil_iff] at h5;rw [h5] at hn hn0;simp at hn hn0;omega
    ·right
     refine ⟨b,o+n * z,?_,g1,(ij _ _).2 fun j hj=>?_⟩
     ·rw [if_neg (by omega)]
      simp only [Option.map_some,Addr.add]
      split
      ·rename_i h0;rw [h0];rfl
      ·rfl
     ·rw [hl] at hj
      obtain ⟨cs,q1,q2,q3⟩:=(ij _ _).1 g2 (n+j) (by rw [List.length_map];omega)
      rw [List.getElem_map] at q2
      refine ⟨cs,q1,?_,?_⟩
      ·rw [List.getElem_map,List.getElem_drop];exact q2
      ·rw [show o+n * z+j * z=o+(n+j) * z by rw [Nat.add_mul];omega];exact q3) h hg hN hs
end
end Go.Proofs.YtclpbhoekmecjaaGreatDoor
namespace Go.Proofs.YtclpbhoekmecjaaGreatDoor
open Go.RowKit
set_option linter.unusedVariables false
set_option linter.unusedSimpArgs false
theorem b9 {P:Program} {ρ:Operand→Value} {w:World} {dd:Option Tmp} {f ty:Nat} {xs:List Operand} {at':Array TypeId} {pos:String} {after:Array Edge} {g:Option (Nat × Bool)} (he:∀args w,(callFunc f args).run P w=.ok (.enter f args) w) (hf:ρ (.func f)=.func (.func f) #[] #[]):(execOp ρ ⟨dd,.call { callee:=.value (.func f),args:=xs.toArray,argTypes:=at' },ty,pos,after,g⟩).run P w=.ok (.enter f (xs.map ρ).toArray) w:=by
 simp [execOp,resolve,invoke,hf,he,go_sem]
section
variable {P:Program} {ops:Array Oper} {W0:cf} {N:Nat} {Fin:Us→Env→Prop} {os:List Oper} {us:Us} {pk fk:List Nat} {σ:Env} {g:Option (Nat × Bool)} {gk:List Nat} {d ty ty' f:Nat} {pos:String} {after:Array Edge} {at':Array TypeId} {xs:List Operand} {ds:List D}
theorem aL.fresh {W0:cf} {N:Nat} {σ:Env} {a:Act} {w w':World} {c:Cx} (h:aL W0 N σ a w c) (hg:Ext w w'):aL W0 N σ a w' { c with F:=fresh w w' c.F }:=
 h.grow hg _ (fun _ h=>.inl h) (fun _ h=>h.imp id (fun h=>h.1)) (fun b hb=>hb.elim (fun h'=>Nat.lt_of_lt_of_le (h.lt b h') (Below.size hg)) (fun h=>h.2))
theorem Fi {w:World} {c:Cx}:∀(rs:List D) (vs:List Value),DVs w c.F rs vs→Sy.oks c w (rs.map .d) vs:=by
 intro rs
 induction rs with
 | nil=>intro vs h;exact h
 | cons r rs ih=>intro vs ⟨v,t,h1,h2,h3⟩;exact ⟨v,t,h1,h2,ih t h3⟩
theorem cr {r:D} (h:Der P ops W0 N Fin os (us++[((d :: (gk++kxs xs))++pk,([d])++fk)]) [] [] ((d,.sy (.d r)) :: σ)) (hx:evs σ xs=some ds:=by rfl) (hf:FnD P f ds (.d r):=by assumption) (hg:gst ops σ g=some (true,gk):=by rfl) (hN:Nat.blt d N=true:=by rfl) (hs:aM σ d=true:=by rfl):Der P ops W0 N Fin (⟨some d,.call { callee:=.value (.func f),args:=xs.toArray,argTypes:=at' },ty,pos,after,g⟩ :: os) us pk fk σ:=
 me (.d r) (kxs xs) [] (fun σ' c a w hk hc=>by
  unfold Oper.wp
  rw [b9 hf.enter rfl]
  refine (hf.calls c.F w _ (nj hc xs ds hx hk) hc.lt).mono ?_
  rintro e w' ⟨v,rfl,hX,hv⟩
  exact ⟨v,_,rfl,hc.fresh hX,hv⟩) h hg hN hs rfl
theorem bc {rs:List D} (h:Der P ops W0 N Fin os (us++[((d :: (gk++kxs xs))++pk,([d])++fk)]) [] [] ((d,.sy (.tp (rs.map .d))) :: σ)) (hx:evs σ xs=some ds:=by rfl) (hf:FnD P f ds (.tp rs):=by assumption) (hg:gst ops σ g=some (true,gk):=by rfl) (hN:Nat.blt d N=true:=by rfl) (hs:aM σ d=true:=by rfl):Der P ops W0 N Fin (⟨some d,.call { callee:=.value (.func f),args:=xs.toArray,argTypes:=at' },ty,pos,after,g⟩ :: os) us pk fk σ:=
 me (.tp (rs.map .d)) (kxs xs) [] (fun σ' c a w hk hc=>by
  unfold Oper.wp
  rw [b9 hf.enter rfl]
  refine (hf.calls c.F w _ (nj hc xs ds hx hk) hc.lt).mono ?_
  rintro e w' ⟨v,rfl,hX,vs,rfl,hv⟩
  exact ⟨_,_,rfl,hc.fresh hX,vs,rfl,Fi (c:={ c with F:=fresh w w' c.F }) rs vs hv⟩) h hg hN hs rfl
theorem bj {n e:Nat} {rs:List D} (h:Der P ops W0 N Fin os (us++[((d :: (gk++((10000+d) :: kxs xs)))++pk,([d,10000+d])++fk)]) [] [] ((d,.sy (.k (10000+d))) :: (10000+d,.tk (.row n e rs)) :: σ)) (hx:evs σ xs=some ds:=by rfl) (hf:FnD P f ds (.row n e rs):=by assumption) (hi:au σ (10000+d)=none:=by rfl) (hg:gst ops σ g=some (true,gk):=by rfl) (hN:Nat.blt d N=true:=by rfl) (hs:aM ((10000+d,.tk (.row n e rs)) :: σ) d=true:=by rfl) (hu:Nat.beq (10000+d) d=false:=by rfl):Der P ops W0 N Fin (⟨some d,.call { callee:=.value (.func f),args:=xs.toArray,argTypes:=at' },ty,pos,after,g⟩ :: os) us pk fk σ:=
 me (.k (10000+d)) ((10000+d) :: kxs xs) [(10000+d,.tk (.row n e rs))] (fun σ' c a w hk hc=>by
  unfold Oper.wp
  rw [b9 hf.enter rfl]
  refine (hf.calls c.F w _ (nj hc xs ds hx (fun κ hκ=>hk κ (by simp [hκ]))) hc.lt).mono ?_
  rintro e' w' ⟨v,rfl,hX,⟨hd,a0,hv0⟩|⟨cells,own,hel⟩⟩
  ·subst hd
   have hc0:=hc.fresh hX
   exact ⟨v,_,rfl,hc0.new (i:=10000+d) ((hk _ (by simp)).trans hi) (t:=.row n e []) (v:=v) (S:=fun _=>False) (.inl ⟨rfl,a0,hv0⟩) (fun b hb=>hb.elim) (fun j u _ b hb=>hb.elim),.inr rfl,(if_pos rfl).symm⟩
  have hc1:=hc.grow hX (fun b=>fresh w w' c.F b∧v.ownBlock≠some b) (fun b hb=>⟨.inl hb,fun e=>by have:=own.lt b e;have:=hc.lt b hb;omega⟩) (fun _ h=>h.1.imp id (fun h=>h.1)) (fun b hb=>hb.1.elim (fun h'=>Nat.lt_of_lt_of_le (hc.lt b h') (Below.size hX)) (fun h=>h.2))
  refine ⟨v,_,rfl,hc1.new (i:=10000+d) (t:=.row n e rs) (v:=v) (S:=fun b=>v.ownBlock=some b) ((hk _ (by simp)).trans hi) (.inr ⟨cells,⟨own.1,own.2.imp id (fun ⟨g,cap,cur,q1,_,q2⟩=>⟨g,cap,cur,q1,Nat.zero_le _,q2⟩)⟩,fun g hg=>hg,hel⟩) (fun b hb=>⟨fun hF=>hF.2 hb,(own.lt b hb).2,.inr (Nat.le_trans hc.ext.size (own.lt b hb).1)⟩) (fun j u hj b hb hT=>?_),.inr rfl,(if_pos rfl).symm⟩
  have:=((hc.tok j u hj).2.2 b hT).2.1
  have:=own.lt b hb
  omega) h hg hN hs (by simp [hu])
end
def GK (ds:List D):List (Nat × D)→List D
 | []=>ds
 | (i,r) :: ps=>GK (ds.set i r) ps
def evp (σ:Env):List (Nat × Operand)→Option (List (Nat × D))
 | []=>some []
 | (i,x) :: ps=>match (ev σ x).bind Sy.dat,evp σ ps with
  | some r,some rs=>some ((i,r) :: rs)
  | _,_=>none
def kxp:List (Nat × Operand)→List Nat
 | []=>[]
 | (_,x) :: ps=>kx x++kxp ps
def plc (P:Program) (ty:Nat):Option (List (Nat × Nat)):=match P.underlying ty with
 | some (.struct fs)=>fs.toList.mapM fun f=>(P.info? f.type).map fun i=>(f.offset,i.size)
 | some (.array m e)=>(P.info? e).map fun i=>(List.range m).map fun k=>(k * i.size,i.size)
 | _=>none
theorem zQ {f f':Nat→Option (Nat × Nat)} (hf:∀i p,f i=some p→f' i=some p):∀(ps:List (Nat × Value)) (cs ds:Array Value),Instr.fill f cs ps=some ds→Instr.fill f' cs ps=some ds:=by
 intro ps
 induction ps with
 | nil=>exact fun cs ds h=>h
 | cons p ps ih=>
  obtain ⟨i,v⟩:=p
  intro cs ds h
  unfold Instr.fill at h ⊢
  cases hp:f i with
  | none=>rw [hp] at h;cases h
  | some q=>
   rw [hp] at h
   rw [hf i q hp]
   dsimp only at h ⊢
   split at h
   ·cases h
   ·rename_i hc
    rw [if_neg hc]
    exact ih _ _ h
def plB:List D→Nat→List (Nat × Nat)→Bool
 | [],_,ps=>ps.isEmpty
 | d :: ds,o,ps=>match ps with|(a,b) :: ps=>Nat.beq a o && Nat.beq b d.sz && plB ds (o+d.sz) ps | []=>false
theorem GA:∀(ds:List D) (o:Nat) (ps:List (Nat × Nat)),plB ds o ps=true→∀i,i<ds.length→∃off,ps[i]? = some (off,(ds.getD i (.i 0)).sz)∧off=o+szs (ds.take i):=by
 intro ds
 induction ds with
 | nil=>intro o ps _ i hi;exact absurd hi (Nat.not_lt_zero _)
 | cons d ds ih=>
  intro o ps h i hi
  cases ps with
  | nil=>cases h
  | cons p ps=>
   obtain ⟨a,b⟩:=p
   unfold plB at h
   simp only [Bool.and_eq_true] at h
   cases i with
   | zero=>exact ⟨a,by rw [show ((d :: ds).getD 0 (.i 0))=d from rfl,← Nat.eq_of_beq_eq_true h.1.2];rfl,by rw [Nat.eq_of_beq_eq_true h.1.1];rfl⟩
   | succ i=>
    obtain ⟨off,h1,h2⟩:=ih (o+d.sz) ps h.2 i (by simpa using hi)
    exact ⟨off,by simpa using h1,by rw [h2];simp [szs];omega⟩
theorem Eu {w:World} {S:BS}:∀(ds:List D) (cs:List Value) (i:Nat) (r:D) (us:List Value),RpL w S ds cs→i<ds.length→Rp w S r us→r.sz=(ds.getD i (.i 0)).sz→RpL w S (ds.set i r) (cs.take (szs (ds.take i))++us++cs.drop (szs (ds.take i)+r.sz)):=by
 intro ds
 induction ds with
 | nil=>intro cs i r us _ hi;exact absurd hi (Nat.not_lt_zero _)
 | cons d ds ih=>
  intro cs i r us ⟨c,e,h1,h2,h3⟩ hi hr hz
  have hc:=Rp.len _ _ h2
  cases i with
  | zero=>
   refine ⟨us,e,?_,hr,h3⟩
   have hz':r.sz=d.sz:=hz
   rw [h1]
   simp [szs,hz',← hc]
  | succ i=>
   refine ⟨c,_,?_,h2,ih e i r us h3 (by simpa using hi) hr (by simpa using hz)⟩
   rw [h1]
   have e1:szs ((d :: ds).take (i+1))=c.length+szs (ds.take i):=by simp [szs,hc]
   rw [e1,List.take_append,List.drop_append]
   simp
   rw [show c.length+szs (ds.take i)+r.sz - c.length=szs (ds.take i)+r.sz by omega,List.drop_of_length_le (by omega),List.take_of_length_le (by omega)]
   rfl
theorem Eg:∀(ds:List D) (i:Nat) (r:D),r.sz=(ds.getD i (.i 0)).sz→szs (ds.set i r)=szs ds∧∀(j o:Nat) (ps:List (Nat × Nat)),plB ds o ps=true→plB (ds.set i r) o ps=true:=by
 intro ds
 induction ds with
 | nil=>intro i r _;exact ⟨rfl,fun _ _ _ h=>h⟩
 | cons d ds ih=>
  intro i r hz
  cases i with
  | zero=>
   have hz':r.sz=d.sz:=hz
   refine ⟨by simp [szs,hz'],fun j o ps h=>?_⟩
   unfold plB at h ⊢
   simp only [List.set_cons_zero]
   cases ps with
   | nil=>cases h
   | cons p ps=>dsimp only at h ⊢;rw [hz'];exact h
  | succ i=>
   obtain ⟨h1,h2⟩:=ih i r (by simpa using hz)
   refine ⟨by simp [szs,h1],fun j o ps h=>?_⟩
   unfold plB at h ⊢
   simp only [List.set_cons_succ]
   cases ps with
   | nil=>cases h
   | cons p ps=>
    dsimp only at h ⊢
    rw [Bool.and_eq_true] at h ⊢
    exact ⟨h.1,h2 0 _ _ h.2⟩
def szB (ds:List D):List (Nat × D)→Bool
 | []=>true
 | (i,r) :: ps=>Nat.blt i ds.length && Nat.beq r.sz (ds.getD i (.i 0)).sz && szB (ds.set i r) ps
theorem ES {w:World} {S:BS} {pls:List (Nat × Nat)}:∀(ps:List (Nat × D)) (vs:List (Nat × Value)) (ds:List D) (cs:List Value),plB ds 0 pls=true→szB ds ps=true→RpL w S ds cs→ps.length=vs.length→(∀(j:Nat) (i:Nat) (r:D),ps[j]? = some (i,r)→∃v,vs[j]? = some (i,v)∧DV w S r v) →
 ∃cs':List Value,Instr.fill (fun i=>pls[i]?) cs.toArray vs=some cs'.toArray∧RpL w S (GK ds ps) cs':=by
 intro ps
 induction ps with
 | nil=>intro vs ds cs _ _ hr hl _;rw [List.eq_nil_of_length_eq_zero (by simpa using hl.symm:vs.length=0)];exact ⟨cs,rfl,hr⟩
 | cons p ps ih=>
  obtain ⟨i,r⟩:=p
  intro vs ds cs hp hz hr hl hv
  unfold szB at hz
  simp only [Bool.and_eq_true] at hz
  obtain ⟨⟨h1,h2⟩,h3⟩:=hz
  have hi:i<ds.length:=Nat.blt_eq.mp h1
  have hsz:=Nat.eq_of_beq_eq_true h2
  cases vs with
  | nil=>simp at hl
  | cons y vs=>
   obtain ⟨v,hv1,hv2⟩:=hv 0 i r rfl
   simp at hv1
   subst hv1
   obtain ⟨us,q1,q2,_⟩:=hv2.cells
   obtain ⟨off,q3,q4⟩:=GA ds 0 pls hp i hi
   rw [Nat.zero_add] at q4
   have q5:=Eu ds cs i r us hr hi q2 hsz
   have hul:=Rp.len _ _ q2
   have hcl:=RpL.len _ _ hr
   have hbnd:szs (ds.take i)+r.sz≤szs ds:=by
    have key:∀(ds:List D) (i:Nat),i<ds.length→szs (ds.take i)+(ds.getD i (.i 0)).sz≤szs ds:=by
     intro ds
     induction ds with
     | nil=>intro i hi;exact absurd hi (Nat.not_lt_zero _)
     | cons d ds ih=>
      intro i hi
      cases i with
      | zero=>simp [szs]
      | succ i=>have:=ih i (by simpa using hi);simp [szs] at this ⊢;omega
    rw [hsz];exact key ds i hi
   obtain ⟨cs',r1,r2⟩:=ih vs (ds.set i r) _ ((Eg ds i r hsz).2 0 0 pls hp) h3 q5 (by simpa using hl) (fun j i' r' hj=>hv (j+1) i' r' (by simpa using hj))
   refine ⟨cs',?_,r2⟩
   unfold Instr.fill
   rw [q3]
   dsimp only
   have a1:us.toArray.size=(ds.getD i (.i 0)).sz:=by simp only [List.size_toArray];omega
   have a2:¬(off+us.toArray.size > cs.toArray.size):=by simp only [List.size_toArray];omega
   rw [q1,if_neg (by rw [a1] at a2 ⊢;simp only [ne_eq,not_true_eq_false,decide_false,Bool.false_or,decide_eq_true_eq];exact a2)]
   rw [show us.toArray.zipIdx=(us.zipIdx).toArray by simp,List.foldl_toArray]
   have e1:(us.zipIdx.foldl (fun (c:Array Value) (p:Value × Nat)=>c.setIfInBounds (off+p.2) p.1) cs.toArray)=(cs.take off++us++cs.drop (off+us.length)).toArray:=by
    have hk:∀(us:List Value) (k:Nat) (cs:List Value),off+k+us.length≤cs.length→(us.zipIdx k).foldl (fun (c:Array Value) (p:Value × Nat)=>c.setIfInBounds (off+p.2) p.1) cs.toArray=(cs.take (off+k)++us++cs.drop (off+k+us.length)).toArray:=by
     intro us
     induction us with
     | nil=>intro k cs _;simp
     | cons u us ih=>
      intro k cs hb
      rw [List.zipIdx_cons,List.foldl_cons]
      dsimp only
      rw [List.setIfInBounds_toArray,ih (k+1) _ (by simp at hb ⊢;omega)]
      congr 1
      simp at hb
      rw [List.drop_set_of_lt (by omega),show off+(k+1)=off+k+1 by omega,List.take_set,List.take_succ_eq_append_getElem (by omega),List.set_append_right _ _ (by rw [List.length_take];omega),List.length_take,show off+k - min (off+k) cs.length=0 by omega]
      simp
      rw [show off+k+1+us.length=off+k+(us.length+1) by omega]
    have:=hk us 0 cs (by rw [hul,hcl,q4];omega)
    simpa using this
   rw [← r1,q4]
   rw [q4] at e1
   rw [e1,hul]
theorem qK {P:Program} {ty:Nat} {v0:Value} {pls:List (Nat × Nat)} {parts:List (Nat × Value)} {cs:Array Value} (hv:su P ty=some v0) (hp:plc P ty=some pls) (hf:Instr.fill (fun i=>pls[i]?) v0.cells parts=some cs):P.built ty parts=some cs:=by
 unfold su at hv
 rw [Option.bind_eq_some_iff] at hv
 obtain ⟨it,h1,h2⟩:=hv
 unfold plc at hp
 split at hp
 ·rename_i fs hu
  unfold Program.built
  simp only [h1,hu,h2,hp]
  simpa using hf
 ·rename_i m e hu
  rw [Option.map_eq_some_iff] at hp
  obtain ⟨ie,h3,h4⟩:=hp
  unfold Program.built
  simp only [h1,hu,h2,h3]
  refine zQ (fun i p hi=>?_) _ _ _ hf
  rw [← h4,List.getElem?_map] at hi
  by_cases hlt:i<m
  ·rw [List.getElem?_range hlt] at hi;exact hi
  ·rw [List.getElem?_eq_none (by simp;omega)] at hi;cases hi
 ·cases hp
theorem Gk {W0:cf} {N:Nat} {a:Act} {w:World} {c:Cx} {σ σ':Env} (h:aL W0 N σ' a w c):∀(xs:List (Nat × Operand)) (ps:List (Nat × D)),evp σ xs=some ps→(∀κ∈kxp xs,au σ' κ=au σ κ)→ps.length=(xs.map fun p=>(p.1,a.eval p.2)).length∧∀(j i:Nat) (r:D),ps[j]? = some (i,r)→∃v,(xs.map fun p=>(p.1,a.eval p.2))[j]? = some (i,v)∧DV w c.F r v:=by
 intro xs
 induction xs with
 | nil=>intro ps he _;cases he;exact ⟨rfl,fun j i r h=>by simp at h⟩
 | cons p xs ih=>
  obtain ⟨i0,x⟩:=p
  intro ps he hk
  unfold evp at he
  split at he
  ·rename_i r rs h1 h2
   cases he
   rw [Option.bind_eq_some_iff] at h1
   obtain ⟨s,h3,h4⟩:=h1
   obtain ⟨h5,h6⟩:=ih rs h2 (fun κ hκ=>hk κ (by simp [kxp,hκ]))
   refine ⟨by simpa using h5,fun j i r' hj=>?_⟩
   cases j with
   | zero=>
    simp at hj
    obtain ⟨rfl,rfl⟩:=hj
    exact ⟨_,rfl,jW h4 (av h (af h3 (fun κ hκ=>hk κ (by simp [kxp,hκ]))))⟩
   | succ j=>simp at hj ⊢;simpa using h6 j i r' hj
  ·cases he
section
variable {P:Program} {ops:Array Oper} {W0:cf} {N:Nat} {Fin:Us→Env→Prop} {os:List Oper} {us:Us} {pk fk:List Nat} {σ:Env} {g:Option (Nat × Bool)} {gk:List Nat} {d ty ty' f:Nat} {pos:String} {after:Array Edge}
theorem bh {xs:List (Nat × Operand)} {ps:List (Nat × D)} {ds0 ds:List D} {v0:Value} {pls:List (Nat × Nat)} (h:Der P ops W0 N Fin os (us++[((d :: (gk++kxp xs))++pk,([d])++fk)]) [] [] ((d,.sy (.d (.t ds))) :: σ)) (hx:evp σ xs=some ps:=by rfl) (hr:zd P 4 ty'=some (.t ds0):=by rfl) (hv:su P ty'=some v0:=by rfl) (hz:zok (.t ds0) v0.cells.toList=true:=by rfl) (hp:plc P ty'=some pls:=by rfl) (hpl:plB ds0 0 pls=true:=by rfl) (hsz:szB ds0 ps=true:=by rfl) (hd:GK ds0 ps=ds:=by rfl) (hg:gst ops σ g=some (true,gk):=by rfl) (hN:Nat.blt d N=true:=by rfl) (hs:aM σ d=true:=by rfl):Der P ops W0 N Fin (⟨some d,.build ty' xs.toArray,ty,pos,after,g⟩ :: os) us pk fk σ:=by
 subst hd
 refine b6 (.d (.t (GK ds0 ps))) (kxp xs) (fun σ' c a w hk hc=>?_) h hg hN hs
 obtain ⟨h1,h2⟩:=Gk hc xs ps hx hk
 obtain ⟨cs,h3,h4⟩:=ES (w:=w) (S:=c.F) ps _ ds0 v0.cells.toList hpl hsz (pJ (.t ds0) _ hz) h1 h2
 rw [Array.toArray_toList] at h3
 refine ⟨.agg cs.toArray,?_,cs,rfl,h4⟩
 refine d7 (X:=Instr.build ty' (xs.toArray.map fun (i,x)=>(i,a.eval x))) (run_build w ty' _ _ (qK hv hp ?_))
 simpa using h3
end
end Go.Proofs.YtclpbhoekmecjaaGreatDoor
namespace Go.Proofs.YtclpbhoekmecjaaGreatDoor
open Go.RowKit
set_option linter.unusedVariables false
set_option linter.unusedSimpArgs false
def At (W0:cf) (N:Nat) (σ:Env) (e:Exit) (Q:Exit→Act→World→Prop):Prop:=∀a w,Holds W0 N σ a w→Q e a w
def az (P:Program) (W0:cf) (N:Nat) (c:Code) (σ:Env) (Q:Exit→Act→World→Prop):Prop:=∀a w,Holds W0 N σ a w→c.wp P Q a w
def rn:List (Nat × Nat)→Nat→Nat
 | [],i=>i
 | (a,b) :: r,i=>match Nat.beq a i with|true=>b|false=>rn r i
def Sy.ren0 (r:List (Nat × Nat)):Sy→Sy
 | .k i=>.k (rn r i)
 | .bx i o=>.bx (rn r i) o
 | .el i z n o=>.el (rn r i) z n o
 | s=>s
def Sy.ren (r:List (Nat × Nat)):Sy→Sy
 | .k i=>.k (rn r i)
 | .bx i o=>.bx (rn r i) o
 | .el i z n o=>.el (rn r i) z n o
 | .atS o cs=>.atS o (cs.map (Sy.ren0 r))
 | s=>s
def tkB (σ:Env) (i:Nat):Bool:=match au σ i with|some (.tk _)=>true|_=>false
def Sy.inB0 (σ:Env):Sy→Bool
 | .k i=>tkB σ i
 | .bx i _=>tkB σ i
 | .el i _ _ _=>tkB σ i
 | .tp _=>false
 | .ag _=>false
 | .atS _ _=>false
 | .eo _ _=>false
 | _=>true
def Sy.inB (σ:Env):Sy→Bool
 | .k i=>tkB σ i
 | .bx i _=>tkB σ i
 | .el i _ _ _=>tkB σ i
 | .tp _=>false
 | .ag _=>false
 | .atS _ cs=>cs.all (Sy.inB0 σ)
 | .eo _ _=>false
 | _=>true
def Tk.ren (r:List (Nat × Nat)):Tk→Tk
 | .bx cs=>.bx (cs.map (Sy.ren0 r))
 | t=>t
def Tk.inB (σ:Env):Tk→Bool
 | .bx cs=>cs.all (Sy.inB0 σ)
 | .bxs _=>false
 | .bxt _ _=>false
 | _=>true
theorem jV {σ:Env} {κ n e:Nat} {ds ds':List D} (h:au σ κ=some (.tk (.row n e ds))) (he:ds=ds'):au σ κ=some (.tk (.row n e ds')):=he ▸ h
theorem qe {σ:Env} {κ:Nat} {d d':D} (h:au σ κ=some (.sy (.d d))) (he:d=d'):au σ κ=some (.sy (.d d')):=he ▸ h
inductive kB:List Sy→List Sy→List (Nat × Nat)→Prop
 | nil {cs ds}:kB cs ds []
 | k {i j cs ds r}:kB cs ds r→kB (.k i :: cs) (.k j :: ds) ((i,j) :: r)
 | bx {i o j o' cs ds r}:kB cs ds r→kB (.bx i o :: cs) (.bx j o' :: ds) ((i,j) :: r)
 | skip {c d cs ds r}:kB cs ds r→kB (c :: cs) (d :: ds) r
inductive kH (σ:Env):Env→List (Nat × Nat)→Prop
 | nil:kH σ [] []
 | k {t i j υ r}:au σ t=some (.sy (.k j))→kH σ υ r→kH σ ((t,.sy (.k i)) :: υ) ((i,j) :: r)
 | bx {t i o j o' υ r}:au σ t=some (.sy (.bx j o'))→kH σ υ r→kH σ ((t,.sy (.bx i o)) :: υ) ((i,j) :: r)
 | ats {t o o' cs ds υ q r}:au σ t=some (.sy (.atS o' ds))→kB cs ds q→kH σ υ r→kH σ ((t,.sy (.atS o cs)) :: υ) (q++r)
 | box {t cs ds υ q r}:au σ t=some (.tk (.bx ds))→kB cs ds q→kH σ υ r→kH σ ((t,.tk (.bx cs)) :: υ) (q++r)
 | skip {p υ r}:kH σ υ r→kH σ (p :: υ) r
def DC (r:List (Nat × Nat)) (σ τ:Env):Env→Prop
 | []=>True
 | (κ,.sy s) :: υ=>(au σ κ=some (.sy (s.ren r))∧s.inB τ=true)∧DC r σ τ υ
 | (κ,.tk t) :: υ=>(au σ (rn r κ)=some (.tk (t.ren r))∧t.inB τ=true)∧DC r σ τ υ
 | (_,.no) :: _=>False
def tks:Env→List Nat
 | []=>[]
 | (κ,.tk _) :: υ=>κ :: tks υ
 | _ :: υ=>tks υ
def nf:List Nat→Bool
 | []=>true
 | x :: xs=>!(xs.any fun y=>Nat.beq x y) && nf xs
theorem DK {σ:Env} {i:Nat} (h:tkB σ i=true):∃t,au σ i=some (.tk t):=by
 unfold tkB at h
 split at h
 ·exact ⟨_,by assumption⟩
 ·cases h
theorem D3 {r:List (Nat × Nat)} {σ τ:Env}:∀(υ:Env),DC r σ τ υ→(∀t s,au υ t=some (.sy s)→au σ t=some (.sy (s.ren r))∧s.inB τ=true)∧(∀i t,au υ i=some (.tk t)→au σ (rn r i)=some (.tk (t.ren r))∧t.inB τ=true):=by
 intro υ
 induction υ with
 | nil=>intro _;exact ⟨fun t s h=>(by cases h),fun i t h=>(by cases h)⟩
 | cons p υ ih=>
  obtain ⟨κ,i⟩:=p
  intro h
  cases i with
  | sy s0=>
   obtain ⟨h1,h2⟩:=h
   obtain ⟨h3,h4⟩:=ih h2
   refine ⟨fun t s ht=>?_,fun i t ht=>?_⟩
   ·rw [ah] at ht
    by_cases e:κ=t
    ·rw [if_pos e] at ht;cases ht;subst e;exact h1
    ·rw [if_neg e] at ht;exact h3 t s ht
   ·rw [ah] at ht
    split at ht
    ·cases ht
    ·exact h4 i t ht
  | tk t0=>
   obtain ⟨h1,h2⟩:=h
   obtain ⟨h3,h4⟩:=ih h2
   refine ⟨fun t s ht=>?_,fun i t ht=>?_⟩
   ·rw [ah] at ht
    split at ht
    ·cases ht
    ·exact h3 t s ht
   ·rw [ah] at ht
    by_cases e:κ=i
    ·rw [if_pos e] at ht;cases ht;subst e;exact h1
    ·rw [if_neg e] at ht;exact h4 i t ht
  | no=>exact h.elim
theorem AA:∀(υ:Env) (i:Nat) (t:Tk),au υ i=some (.tk t)→i∈tks υ:=by
 intro υ
 induction υ with
 | nil=>intro i t h;cases h
 | cons p υ ih=>
  obtain ⟨κ,x⟩:=p
  intro i t h
  rw [ah] at h
  by_cases e:κ=i
  ·rw [if_pos e] at h;cases h;subst e;simp [tks]
  ·rw [if_neg e] at h
   have:=ih i t h
   cases x <;> simp [tks,this]
theorem Bj (f:Nat→Nat):∀(l:List Nat),nf (l.map f)=true→∀i j,i∈l→j∈l→i≠j→f i≠f j:=by
 intro l
 induction l with
 | nil=>intro _ i j h;cases h
 | cons x l ih=>
  intro h i j hi hj hne
  unfold nf at h
  simp only [List.map_cons,Bool.and_eq_true,Bool.not_eq_true',List.any_eq_false] at h
  obtain ⟨h1,h2⟩:=h
  have key:∀y,y∈l→f x≠f y:=fun y hy e=>by
   have:=h1 (f y) (List.mem_map.2 ⟨y,hy,rfl⟩)
   rw [e] at this;simp at this
  rcases List.mem_cons.1 hi with e1|hi'
  ·rcases List.mem_cons.1 hj with e2|hj'
   ·exact absurd (e1.trans e2.symm) hne
   ·rw [e1];exact key j hj'
  ·rcases List.mem_cons.1 hj with e2|hj'
   ·rw [e2];exact (key i hi').symm
   ·exact ih h2 i j hi' hj' hne
theorem Holds.sub {W0:cf} {N:Nat} {σ:Env} {a:Act} {w:World} (h:Holds W0 N σ a w) (r:List (Nat × Nat)) (τ:Env) (hs:DC r σ τ τ) (hn:nf ((tks τ).map (rn r))=true:=by rfl):Holds W0 N τ a w:=by
 obtain ⟨c,h⟩:=h
 obtain ⟨h1,h2⟩:=D3 τ hs
 let c':Cx:=⟨c.F,fun i=>c.ρ (rn r i),fun i=>c.T (rn r i),fun i=>tkB τ i=true⟩
 have hA:∀i,tkB τ i=true→c.A (rn r i):=fun i hi=>by
  obtain ⟨t,ht⟩:=DK hi
  exact (h.tok _ _ (h2 i t ht).1).1
 have hsy0:∀(s:Sy) (v:Value),s.inB0 τ=true→(s.ren0 r).ok c w v→s.ok c' w v:=fun s v hi hv=>by
  cases s with
  | k i=>exact ⟨hi,hv.2⟩
  | bx i o=>exact ⟨hi,hv.2⟩
  | el i z n o=>exact ⟨hi,hv.2⟩
  | tp xs=>cases hi
  | ag xs=>cases hi
  | atS o xs=>cases hi
  | eo i n0=>cases hi
  | cl z xs=>exact hv
  | q p=>exact hv
  | v x=>exact hv
  | d x=>exact hv
  | «at» x=>exact hv
 have hsys:∀(ss:List Sy) (vs:List Value),ss.all (Sy.inB0 τ)=true→Sy.oks c w (ss.map (Sy.ren0 r)) vs→Sy.oks c' w ss vs:=by
  intro ss
  induction ss with
  | nil=>intro vs _ hv;exact hv
  | cons s ss ih=>
   intro vs hi ⟨v,t,e1,e2,e3⟩
   rw [List.all_cons,Bool.and_eq_true] at hi
   exact ⟨v,t,e1,hsy0 s v hi.1 e2,ih t hi.2 e3⟩
 have hsy:∀(s:Sy) (v:Value),s.inB τ=true→(s.ren r).ok c w v→s.ok c' w v:=fun s v hi hv=>by
  cases s with
  | k i=>exact ⟨hi,hv.2⟩
  | bx i o=>exact ⟨hi,hv.2⟩
  | el i z n o=>exact ⟨hi,hv.2⟩
  | tp xs=>cases hi
  | ag xs=>cases hi
  | atS o xs=>
   obtain ⟨b,vs,h1,h2,h3,h4⟩:=hv
   exact ⟨b,vs,h1,h2,hsys xs vs hi h3,h4⟩
  | eo i n0=>cases hi
  | cl z xs=>exact hv
  | q p=>exact hv
  | v x=>exact hv
  | d x=>exact hv
  | «at» x=>exact hv
 refine ⟨c',h.ext,h.old,h.lt,h.size,h.defers,fun i hi=>?_,fun i t ht=>?_,fun i j t u hi hj hne=>?_,fun t s ht=>?_⟩
 ·obtain ⟨t,ht⟩:=DK hi
  rw [ht];simp
 ·obtain ⟨g1,g2⟩:=h2 i t ht
  obtain ⟨_,g3,g4⟩:=h.tok _ _ g1
  refine ⟨by show tkB τ i=true;unfold tkB;rw [ht],?_,g4⟩
  cases t with
  | bx cs=>
   obtain ⟨b,us,q1,q2,q3,q4⟩:=g3
   exact ⟨b,us,q1,q2,hsys cs us g2 q3,q4⟩
  | row z e ds=>exact g3
  | deep z e ds ps=>exact g3
  | mp m=>exact g3
  | own d pin tag=>exact g3
  | abs p tag=>exact g3
  | grw z e ds=>exact g3
  | bxs cs=>cases g2
  | bxt cs u=>cases g2
 ·exact h.off _ _ _ _ (h2 i t hi).1 (h2 j u hj).1 (Bj (rn r) _ hn i j (AA τ i t hi) (AA τ j u hj) hne)
 ·obtain ⟨g1,g2⟩:=h1 t s ht
  obtain ⟨v,q1,q2⟩:=h.tmp t _ g1
  exact ⟨v,q1,hsy s v g2 q2⟩
section
variable {P:Program} {W0:cf} {N:Nat} {σ:Env} {Q:Exit→Act→World→Prop} {x y:Code} {id:Nat} {ops:Array Oper}
theorem cFz (t:Nat) {i n e:Nat} {ds:List D} (h:az P W0 N x ((t,.sy (.d (.l n ds))) :: (i,.no) :: σ) Q) (hx:au σ t=some (.sy (.k i)):=by rfl) (hi:au σ i=some (.tk (.row n e ds)):=by rfl) (hu:Nat.beq i t=false:=by rfl):az P W0 N x σ Q:=fun a w hh=>h a w (hh.fz hx hi hu)
theorem nx (i o id e:Nat) {z:Nat} {cs:List Sy} (h:az P W0 N x ((i,.tk (.bx (cs.set o (.k id)))) :: (id,.tk (.row z e [])) :: σ) Q) (hi:au σ i=some (.tk (.bx cs)):=by rfl) (hc:cs[o]? = some (.d (.n z)):=by rfl) (hf:au σ id=none:=by rfl) (hne:Nat.beq id i=false:=by rfl):az P W0 N x σ Q:=fun a w hh=>h a w (hh.nilB hi hc hf hne)
theorem nK (i o:Nat) {n e j:Nat} {cs:List Sy} {ds:List D} (h:az P W0 N x ((i,.tk (.bx (cs.set o (.d (.l n ds))))) :: (j,.no) :: σ) Q) (hi:au σ i=some (.tk (.bx cs)):=by rfl) (hc:cs[o]? = some (.k j):=by rfl) (hj:au σ j=some (.tk (.row n e ds)):=by rfl) (hne:Nat.beq j i=false:=by rfl):az P W0 N x σ Q:=fun a w hh=>h a w (hh.fzB hi hc hj hne)
theorem gC (h:az P W0 N x σ (Exit.then (y.wp P Q) Q)):az P W0 N (.seq x y) σ Q:=fun a w hh=>wp_seq (h a w hh)
theorem fa {os:List Oper} (h:Der P os.toArray W0 N (fun _ σ=>At W0 N σ .normal Q) os [] [] [] σ):az P W0 N (.region id os.toArray false) σ Q:=fun a w hh=>xG hh h
theorem gG {os:List Oper} (h:Der P os.toArray W0 N (fun us σ=>AE .any os.toArray us=true∧At W0 N σ .normal Q) os [] [] [] σ) (hm:P.follows .mixedOrders=true:=by rfl):az P W0 N (.region id os.toArray true) σ Q:=fun a w hh=>yx hh hm h
theorem fm {us:Us} (h:At W0 N σ .normal Q):Der P ops W0 N (fun _ σ=>At W0 N σ .normal Q) [] us [] [] σ:=h
theorem cQ {us:Us} (h:At W0 N σ .normal Q) (hr:AE .any ops us=true:=by kernel_rfl):Der P ops W0 N (fun us σ=>AE .any ops us=true∧At W0 N σ .normal Q) [] us [] [] σ:=⟨hr,h⟩
theorem cM (h:At W0 N σ .normal Q):az P W0 N .skip σ Q:=fun a w hh=>wp_skip (h a w hh)
theorem bP (h:At W0 N σ (.exit id) Q):az P W0 N (.exit id) σ Q:=fun a w hh=>wp_exit (h a w hh)
theorem gL (h:At W0 N σ .ret Q):az P W0 N .ret σ Q:=fun a w hh=>wp_ret (h a w hh)
theorem bA (h:az P W0 N x σ (Exit.inBlock id Q)):az P W0 N (.block id x) σ Q:=fun a w hh=>wp_block (h a w hh)
theorem cIf {c:Operand} {s:Sy} {b:Bool} (ht:b=true→az P W0 N x σ Q) (hf:b=false→az P W0 N y σ Q) (hs:ev σ c=some s:=by rfl) (hb:s.bool? = some b:=by rfl):az P W0 N (.cond c x y) σ Q:=fun a w hh=>by
 obtain ⟨cx,hc⟩:=id hh
 have hv:=oM hb (av hc hs)
 cases b
 ·exact wp_cond_false hv (hf rfl a w hh)
 ·exact wp_cond_true hv (ht rfl a w hh)
theorem gF {c:Operand} {s:Sy} (ht:az P W0 N x σ Q) (hs:ev σ c=some s:=by rfl) (hb:s.bool? = some true:=by rfl):az P W0 N (.cond c x y) σ Q:=cIf (fun _=>ht) (fun h=>by cases h) hs hb
theorem gA {c:Operand} {s:Sy} (hf:az P W0 N y σ Q) (hs:ev σ c=some s:=by rfl) (hb:s.bool? = some false:=by rfl):az P W0 N (.cond c x y) σ Q:=cIf (fun h=>by cases h) (fun _=>hf) hs hb
def EO (W0:cf) (N:Nat) {X:Type} (p:X→Prop) (m:X→Nat) (I:X→Env) (x:X):Act→World→Prop:=fun a w=>∃x',p x'∧m x'<m x∧Holds W0 N (I x') a w
theorem eQ {X:Type} {r:List (Nat × Nat)} (p:X→Prop) (m:X→Nat) (I:X→Env) (x0:X) (h0:p x0) (hr:∀z,p z→az P W0 N x (I z) (Exit.then (EO W0 N p m I z) Q)) (hR:kH σ (I x0) r:=by (repeat (first|exact kH.nil|(apply kH.k;focus rfl)|(apply kH.bx;focus rfl)|(apply kH.box;(focus rfl);focus ((repeat (first|apply kB.k|apply kB.bx|apply kB.skip));exact kB.nil))|(apply kH.ats;(focus rfl);focus ((repeat (first|apply kB.k|apply kB.bx|apply kB.skip));exact kB.nil))|apply kH.skip))) (hs:DC r σ (I x0) (I x0):=by (repeat' (first|exact trivial|refine ⟨⟨?_,rfl⟩,?_⟩)) <;> first|rfl|exact jV rfl (by assumption)|exact jV rfl (Eq.symm (by assumption))|exact qe rfl (by assumption)|exact qe rfl (Eq.symm (by assumption))) (hn:nf ((tks (I x0)).map (rn r))=true:=by rfl):az P W0 N (.loop x) σ Q:=fun a w hh=>by
 refine wp_loop_ghost (fun n a w=>∃z,p z∧m z=n∧Holds W0 N (I z) a w) (m x0) ⟨x0,h0,rfl,hh.sub _ _ hs hn⟩ ?_
 rintro n a w ⟨z,hz,rfl,hI⟩
 refine wp_mono (hr z hz a w hI) ?_
 intro e a' w' hq
 cases e with
 | normal=>
  obtain ⟨z',h1,h2,h3⟩:=hq
  exact ⟨m z',h2,z',h1,rfl,h3⟩
 | _=>exact hq
theorem bD (h:az P W0 N y σ Q):At W0 N σ .normal (Exit.then (y.wp P Q) Q):=h
theorem aB {K:Act→World→Prop} (h:At W0 N σ (.exit id) Q):At W0 N σ (.exit id) (Exit.then K Q):=h
theorem bB {K:Act→World→Prop} (h:At W0 N σ .ret Q):At W0 N σ .ret (Exit.then K Q):=h
theorem cO (h:At W0 N σ .normal Q):At W0 N σ .normal (Exit.inBlock id Q):=h
theorem cP (h:At W0 N σ .ret Q):At W0 N σ .ret (Exit.inBlock id Q):=h
theorem bN (h:At W0 N σ .normal Q):At W0 N σ (.exit id) (Exit.inBlock id Q):=fun a w hh=>by
 show (if id=id then Q .normal a w else Q (.exit id) a w)
 rw [if_pos rfl];exact h a w hh
theorem ab {X:Type} {r:List (Nat × Nat)} {p:X→Prop} {m:X→Nat} {I:X→Env} {z:X} (z':X) (hp:p z') (hm:m z'<m z) (hR:kH σ (I z') r:=by (repeat (first|exact kH.nil|(apply kH.k;focus rfl)|(apply kH.bx;focus rfl)|(apply kH.box;(focus rfl);focus ((repeat (first|apply kB.k|apply kB.bx|apply kB.skip));exact kB.nil))|(apply kH.ats;(focus rfl);focus ((repeat (first|apply kB.k|apply kB.bx|apply kB.skip));exact kB.nil))|apply kH.skip))) (hs:DC r σ (I z') (I z'):=by (repeat' (first|exact trivial|refine ⟨⟨?_,rfl⟩,?_⟩)) <;> first|rfl|exact jV rfl (by assumption)|exact jV rfl (Eq.symm (by assumption))|exact qe rfl (by assumption)|exact qe rfl (Eq.symm (by assumption))) (hn:nf ((tks (I z')).map (rn r))=true:=by rfl):At W0 N σ .normal (Exit.then (EO W0 N p m I z) Q):=fun a w hh=>⟨z',hp,hm,hh.sub _ _ hs hn⟩
end
def post (W0:oK) (r:Ro):Ending→World→Prop:=fun e w'=>∃v,e=.returned v∧Ext W0.w w'∧r.ok W0.w w' W0.F v
def Gm:Nat→List D→Env
 | _,[]=>[]
 | k,r :: rs=>(k,.sy (dsy r)) :: Gm (k+1) rs
theorem iI:∀(rs:List D) (k t:Nat) (i:In),au (Gm k rs) t=some i→∃r,i=.sy (dsy r)∧k≤t∧rs[t - k]? = some r:=by
 intro rs
 induction rs with
 | nil=>intro k t i h;cases h
 | cons r rs ih=>
  intro k t i h
  unfold Gm at h
  rw [ah] at h
  by_cases e:k=t
  ·rw [if_pos e] at h;cases h;subst e;exact ⟨r,rfl,Nat.le_refl _,by simp⟩
  ·rw [if_neg e] at h
   obtain ⟨r',h1,h2,h3⟩:=ih (k+1) t i h
   refine ⟨r',h1,by omega,?_⟩
   rw [show t - k=(t - (k+1))+1 by omega];simpa using h3
theorem zB {w:World} {S:BS}:∀(rs:List D) (vs:List Value),DVs w S rs vs→vs.length=rs.length∧∀(j:Nat) (r:D),rs[j]? = some r→∃v,vs[j]? = some v∧DV w S r v:=by
 intro rs
 induction rs with
 | nil=>intro vs h;rw [show vs = [] from h];exact ⟨rfl,fun j r h=>by simp at h⟩
 | cons r rs ih=>
  intro vs ⟨v,t,h1,h2,h3⟩
  subst h1
  obtain ⟨h4,h5⟩:=ih t h3
  refine ⟨by simp [h4],fun j r' hj=>?_⟩
  cases j with
  | zero=>simp at hj;subst hj;exact ⟨v,rfl,h2⟩
  | succ j=>simp at hj ⊢;exact h5 j r' hj
mutual
def Wf:D→Prop
 | .i n=>I64 n
 | .s b=>b.size≤maxLen
 | .b _=>True
 | .l _ xs=>xs.length≤maxLen∧WfL xs
 | .t ds=>WfL ds
 | .n _=>True
 | .p d=>Wf d
 | .f _ ds=>WfL ds
 | .any=>True
def WfL:List D→Prop
 | []=>True
 | d :: ds=>Wf d∧WfL ds
end
mutual
theorem Rp.wf {w:World} {S:BS}:∀(d:D) (cs:List Value),Rp w S d cs→Wf d
 | .i n,cs,r=>r.2
 | .s b,cs,r=>r.2
 | .b x,cs,r=>trivial
 | .l z xs,cs,r=>by
  obtain ⟨a,k,h1,h2,h3,h4,h5⟩:=r
  refine ⟨Nat.le_trans h2 h3,?_⟩
  rcases h5 with h5|⟨b,o,_,_,h6⟩
  ·rw [h5];exact trivial
  ·exact RpR.wf z b xs o h6
 | .t ds,cs,r=>RpL.wf ds cs r
 | .n _,cs,r=>trivial
 | .p d,cs,⟨b,o,us,_,_,h,_⟩=>Rp.wf d us h
 | .f g ds,cs,⟨vs,_,h⟩=>RpL.wf ds vs h
 | .any,cs,r=>trivial
theorem RpR.wf {w:World} {S:BS} (z b:Nat):∀(ds:List D) (o:Nat),RpR w S z b o ds→WfL ds
 | [],o,_=>trivial
 | d :: ds,o,⟨⟨cs,_,h,_⟩,h'⟩=>⟨Rp.wf d cs h,RpR.wf z b ds _ h'⟩
theorem RpL.wf {w:World} {S:BS}:∀(ds:List D) (cs:List Value),RpL w S ds cs→WfL ds
 | [],cs,_=>trivial
 | d :: ds,cs,⟨c,e,_,h2,h3⟩=>⟨Rp.wf d c h2,RpL.wf ds e h3⟩
end
theorem DV.wf {w:World} {S:BS} {d:D} {v:Value} (h:DV w S d v):Wf d:=by
 obtain ⟨cs,_,h,_⟩:=h.cells
 exact Rp.wf d cs h
theorem DVs.wf {w:World} {S:BS}:∀(ds:List D) (vs:List Value),DVs w S ds vs→WfL ds
 | [],_,_=>trivial
 | d :: ds,vs,⟨v,t,_,h1,h2⟩=>⟨h1.wf,DVs.wf ds t h2⟩
theorem WfL.at {ds:List D} (h:WfL ds):∀d∈ds,Wf d:=by
 induction ds with
 | nil=>intro d h;cases h
 | cons x ds ih=>
  intro d hd
  rcases List.mem_cons.1 hd with rfl|hd
  ·exact h.1
  ·exact ih h.2 d hd
theorem wfM {α:Type} {f:α→D} {z:Nat} {l:List α} (h:Wf (.l z (l.map f))):l.length≤9223372036854775807∧∀x∈l,Wf (f x):=by
 obtain ⟨h1,h2⟩:=h
 rw [List.length_map] at h1
 exact ⟨by unfold maxLen at h1;omega,fun x hx=>h2.at _ (List.mem_map.2 ⟨x,hx,rfl⟩)⟩
theorem ai {P : Program} {f : FuncId} {ds : List D} {r : Ro} {fn : Func} {c : Code} {N : Nat} (hf : P.funcs[f]? = some fn) (h : WfL ds → ∀ W0 : oK, az P W0.toB N c (Gm 0 ds) (bodyPost P fn (post W0 r))) (hb : fn.body = some c := by rfl) (hN : fn.ntmps = N := by rfl) (hl : Nat.ble ds.length N = true := by rfl) (hnm : (fn.name == "runtime.NumGoroutine") = false := by kernel_rfl) : FnD P f ds r := by
 refine ⟨fun args w=>?_,fun F w vs hv hF=>?_⟩
 ·unfold callFunc
  simp only [Sem.run_bind,show (program).run P w=.ok P w from rfl,Result.andThen_ok,hf,hnm,hb]
  rfl
 ·obtain ⟨h1,h2⟩:=zB ds vs hv
  refine calls_of_wp hf hb (h (DVs.wf ds vs hv) ⟨w,F⟩ _ w ⟨⟨F,fun _=>undef,fun _ _=>False,fun _=>False⟩,⟨rfl,rfl,rfl,Nat.le_refl _,fun _ _ _=>rfl⟩,fun b hb=>.inl hb,hF,?_,rfl,fun i hi=>hi.elim,fun i t ht=>?_,fun i j t u hi=>?_,fun t s ht=>?_⟩)
  ·have:=Nat.le_of_ble_eq_true hl
   simp [h1,hN];omega
  ·obtain ⟨r',e,_⟩:=iI _ _ _ _ ht;cases e
  ·obtain ⟨r',e,_⟩:=iI _ _ _ _ hi;cases e
  ·obtain ⟨r',e,h3,h4⟩:=iI _ _ _ _ ht
   cases e
   obtain ⟨v,h5,h6⟩:=h2 _ _ h4
   rw [Nat.sub_zero] at h5
   refine ⟨v,?_,Dt (by exact h6)⟩
   have hlt:t<vs.length:=by
    rcases Nat.lt_or_ge t vs.length with h|h
    ·exact h
    ·rw [List.getElem?_eq_none h] at h5;cases h5
   show (vs.toArray++Array.replicate (fn.ntmps - vs.toArray.size) undef)[t]? = some v
   rw [Array.getElem?_append_left (by simpa using hlt)]
   simpa using h5
def Cc (P:Program) (σ:Env):List ResultVar→Option (List D)
 | []=>some []
 | .tmp t :: rs=>match (ev σ (.tmp t)).bind Sy.dat,Cc P σ rs with
  | some r,some ds=>some (r :: ds)
  | _,_=>none
 | .cell t ty :: rs=>match ev σ (.tmp t),isAgg? P ty,Cc P σ rs with
  | some (.bx i 0),some true,some ds=>match au σ i with
   | some (.tk (.bx cs))=>match Ea cs,sizeOf? P ty with
    | some es,some z=>match Nat.beq z cs.length && es.all (fun r=>!isT r) with|true=>some (.t es :: ds)|false=>none
    | _,_=>none
   | _=>none
  | _,_,_=>none
def rvF (tmps:Array Value):ResultVar→Sem Value
 | .tmp t=>pure (tmps.getD t undef)
 | .cell x t=>do loadVar t (← asAddr (tmps.getD x undef))
theorem iM (fn:Func) (tmps:Array Value):results fn tmps=(do
 let vs ← fn.results.mapM (rvF tmps)
 pure (if h:vs.size=1 then vs[0] else .tuple vs)):=rfl
theorem rB {P:Program} {W0:cf} {N:Nat} {a:Act} {w:World} {c:Cx} {σ:Env} (h:aL W0 N σ a w c):∀(rs:List ResultVar) (ds:List D),Cc P σ rs=some ds→∃vs:List Value,(rs.mapM (m:=Sem) (rvF a.tmps)).run P w=.ok vs w∧DVs w c.F ds vs:=by
 intro rs
 induction rs with
 | nil=>intro ds he;cases he;exact ⟨[],by simp [go_sem],rfl⟩
 | cons r rs ih=>
  intro ds he
  cases r with
  | tmp t=>
   unfold Cc at he
   split at he
   ·rename_i r ds' h1 h2
    cases he
    obtain ⟨vs,h3,h4⟩:=ih ds' h2
    rw [Option.bind_eq_some_iff] at h1
    obtain ⟨s,h5,h6⟩:=h1
    refine ⟨_ :: vs,?_,_,vs,rfl,jW h6 (av h h5),h4⟩
    rw [List.mapM_cons]
    simp only [Sem.run_bind,Sem.run_pure,Result.andThen_ok,h3,rvF]
    rfl
   ·cases he
  | cell t ty=>
   unfold Cc at he
   split at he
   ·rename_i i ds' h1 hA h2
    split at he
    ·rename_i cs hcs
     split at he
     ·rename_i es z hes hz
      split at he
      ·rename_i hb
       cases he
       rw [Bool.and_eq_true] at hb
       obtain ⟨vs,h3,h4⟩:=ih ds' h2
       obtain ⟨_,b,e1,e2⟩:=av h h1
       obtain ⟨_,⟨b',us,e3,e4,e5,e6⟩,_⟩:=h.tok i _ hcs
       rw [e1] at e3;cases e3
       refine ⟨.agg us.toArray :: vs,?_,_,vs,rfl,⟨us,rfl,ux _ _ _ hes hb.2 e5⟩,h4⟩
       have hld:=fc (P:=P) (ty:=ty) (b:=b) (off:=0) (w:=w) hA (by rw [hz,dU _ _ e5,Nat.eq_of_beq_eq_true hb.1]) (fun j u hj=>by rw [Nat.zero_add];exact (e6 j u hj).1)
       have hld':(loadVar ty ⟨b,0,none⟩).run P w=.ok (.agg us.toArray) w:=by
        unfold Instr.loadAt at hld
        simpa [Instr.sureAddr] using hld
       have ht:a.tmps.getD t undef=.pointer (some ⟨b,0,none⟩):=e2
       rw [List.mapM_cons]
       have hadr:(asAddr (.pointer (some ⟨b,0,none⟩))).run P w=.ok ⟨b,0,none⟩ w:=rfl
       simp only [Sem.run_bind,Sem.run_pure,Result.andThen_ok,ht,hadr,hld',h3,rvF]
      ·cases he
     ·cases he
    ·cases he
   ·cases he
section
variable {P:Program} {W0:oK} {N:Nat} {σ:Env} {fn:Func} {rs:List ResultVar}
theorem DV.post {a:Act} {w:World} {c:Cx} (h:aL W0.toB N σ a w c) {r:D} {v:Value} (hv:DV w c.F r v):DV w (fresh W0.w w W0.F) r v:=
 DV.keep (fun b hb=>(h.old b hb).imp _root_.id (fun h'=>⟨h'.elim False.elim _root_.id,h.lt b hb⟩)) (fun _ _ _=>rfl) hv
theorem ax {r:D} (hr:fn.results=rs.toArray:=by rfl) (hd:Cc P σ rs=some [r]:=by rfl):At W0.toB N σ .ret (bodyPost P fn (post W0 (.d r))):=fun a w hh=>by
 obtain ⟨c,h⟩:=hh
 obtain ⟨vs,h1,v,t,rfl,h2,h3⟩:=rB h rs _ hd
 have:t = []:=h3
 subst this
 refine bodyPost_ret (v:=v) ?_ h.defers ⟨v,rfl,h.ext.toExt,DV.post h h2⟩
 rw [iM,hr,Array.mapM_eq_mapM_toList,show rs.toArray.toList=rs from rfl]
 simp only [Sem.run_bind,Sem.run_map,h1]
 simp [Result.andThen]
theorem iN {ds:List D} (hr:fn.results=rs.toArray:=by rfl) (hd:Cc P σ rs=some ds:=by rfl) (hl:Nat.beq ds.length 1=false:=by rfl):At W0.toB N σ .ret (bodyPost P fn (post W0 (.tp ds))):=fun a w hh=>by
 obtain ⟨c,h⟩:=hh
 obtain ⟨vs,h1,h2⟩:=rB h rs _ hd
 have hlen:=(zB _ _ h2).1
 have h3:DVs w (fresh W0.w w W0.F) ds vs:=by
  clear hlen h1 hd hl
  induction ds generalizing vs with
  | nil=>exact h2
  | cons r ds ih=>obtain ⟨v,t,e1,e2,e3⟩:=h2;exact ⟨v,t,e1,DV.post h e2,ih t e3⟩
 refine bodyPost_ret (v:=.tuple vs.toArray) ?_ h.defers ⟨_,rfl,h.ext.toExt,vs,rfl,h3⟩
 rw [iM,hr,Array.mapM_eq_mapM_toList,show rs.toArray.toList=rs from rfl]
 simp only [Sem.run_bind,Sem.run_map,h1]
 have:¬ds.length=1:=fun e=>by rw [e] at hl;cases hl
 simp [Result.andThen,hlen,this]
theorem td {t i z e:Nat} {ds:List D} (hr:fn.results = #[.tmp t]:=by rfl) (hi:ev σ (.tmp t)=some (.k i):=by rfl) (hl:au σ i=some (.tk (.row z e ds)):=by rfl):At W0.toB N σ .ret (bodyPost P fn (post W0 (.row z e ds))):=fun a w hh=>by
 obtain ⟨c,h⟩:=hh
 obtain ⟨_,hv⟩:=av h hi
 obtain ⟨_,hT,h4⟩:=h.tok i _ hl
 rcases hT with ⟨hd,a0,hv0⟩|⟨cells,h1,h2,h3⟩
 ·exact bodyPost_ret (results_tmp hr _ _ _) h.defers ⟨_,rfl,h.ext.toExt,.inl ⟨hd,a0,(show a.tmps.getD t undef=c.ρ i from hv).trans hv0⟩⟩
 refine bodyPost_ret (results_tmp hr _ _ _) h.defers ⟨_,rfl,h.ext.toExt,.inr ⟨cells,?_,fun j hj=>?_⟩⟩
 ·have hv':a.tmps.getD t undef=c.ρ i:=hv
  rw [hv']
  exact ⟨h1.1,h1.2.imp _root_.id (fun ⟨g,cap,cur,q1,_,q2⟩=>⟨g,cap,cur,q1,(h4 g (h2 g (by rw [q1];rfl))).2.2.elim False.elim _root_.id,q2⟩)⟩
 ·obtain ⟨cs,q1,q2,q3⟩:=h3 j hj
  have hv':a.tmps.getD t undef=c.ρ i:=hv
  refine ⟨cs,q1,Rp.keep (fun b hb=>⟨(h.old b hb).imp _root_.id (fun h'=>⟨h'.elim False.elim _root_.id,h.lt b hb⟩),fun e=>?_⟩) (fun _ _ _=>rfl) _ _ q2,q3⟩
  rw [hv'] at e
  exact (h4 b (h2 b e)).1 hb
theorem Hf {t i z e:Nat} {ds:List D} (hr:fn.results = #[.tmp t]:=by rfl) (hi:ev σ (.tmp t)=some (.k i):=by rfl) (hl:au σ i=some (.tk (.row z e ds)):=by rfl):At W0.toB N σ .ret (bodyPost P fn (post W0 (.d (.l z ds)))):=fun a w hh=>by
 obtain ⟨c,h⟩:=hh
 obtain ⟨_,hv⟩:=av h hi
 have hf:=h.freeze hl
 refine bodyPost_ret (results_tmp hr _ _ _) h.defers ⟨_,rfl,h.ext.toExt,?_⟩
 have hv':a.tmps.getD t undef=c.ρ i:=hv
 rw [hv']
 exact DV.post hf (cV (h.tok i _ hl).2.1)
end
end Go.Proofs.YtclpbhoekmecjaaGreatDoor
namespace Go.Proofs.YtclpbhoekmecjaaGreatDoor
open Go.RowKit
set_option linter.unusedVariables false
set_option linter.unusedSimpArgs false
abbrev DI (l:List Int):D:=.l 1 (l.map .i)
abbrev DS (l:List ByteArray):D:=.l 1 (l.map .s)
abbrev Wr.D (x:Wr):D:=.t [.s x.name,.i x.link]
abbrev Nd.D (n:Nd):D:=.t [.i n.control,.i n.parent,DI n.links]
abbrev Ctl.D (c:Ctl):D:=.t [.s c.name,.i c.ports,.i c.kind]
abbrev Big.D (b:Big):D:=.t [.i b.roots,.l 3 (b.nodes.map Nd.D),DI b.sites,.i b.edges,DS b.outer,.l 2 (b.inner.map Wr.D)]
abbrev Mat.D (m:Mat):D:=.t [DI m.nodes,DI m.roots]
abbrev Rul.D (r:Rul):D:=.t [r.redex.D,r.reactum.D,DI r.copies]
end Go.Proofs.YtclpbhoekmecjaaGreatDoor
namespace Go.Proofs.YtclpbhoekmecjaaGreatDoor
open Go.RowKit
set_option linter.unusedVariables false
set_option linter.unusedSimpArgs false
def rng (lo hi:Nat):BS:=fun b=>lo≤b∧b<hi
structure Lik {α:Type} (P:Lie α) (f:α→D):Prop where
 to:∀(w:World) (S:BS) (x:α) (cs:List Value),Rp w S (f x) cs→P 0 w.heap.size w cs x
 of:∀(w:World) (lo hi:Nat) (x:α) (cs:List Value),P lo hi w cs x→Rp w (rng lo hi) (f x) cs
theorem yG:Lik bS D.i:=⟨fun _ _ _ _ h=>h,fun _ _ _ _ _ h=>h⟩
theorem Hd:Lik dv D.s:=⟨fun _ _ _ _ h=>h,fun _ _ _ _ _ h=>h⟩
theorem Lik.toV {α:Type} {P:Lie α} {f:α→D} (h:Lik P f) {w:World} {S:BS} {z:Nat} {l:List α} {v:Value} (hz:0<z) (hv:DV w S (.l z (l.map f)) v):SlV z P 0 w.heap.size w v l:=by
 obtain ⟨a,k,h1,h2,h3,h4,h5⟩:=hv
 rw [List.length_map] at h1 h2
 refine ⟨a,k,by simpa using h1,h2,h3,h4,?_⟩
 rcases h5 with h5|⟨b,o,rfl,_,h6⟩
 ·exact .inl (List.map_eq_nil_iff.1 h5)
 ·by_cases hl:l = []
  ·exact .inl hl
  ·have key:=(ij _ _).1 h6
   refine .inr ⟨b,o,rfl,Nat.zero_le _,?_,fun i hi=>?_⟩
   ·obtain ⟨cs,q1,q2,q3⟩:=key 0 (by rw [List.length_map];exact List.length_pos_iff.2 hl)
    rw [List.getElem_map] at q2
    obtain ⟨u,hu⟩:∃u,cs[0]? = some u:=⟨_,List.getElem?_eq_getElem (by omega)⟩
    exact World.block_lt_of_cell? w ⟨b,o+0 * z+0,none⟩ (q3 0 u hu)
   ·obtain ⟨cs,q1,q2,q3⟩:=key i (by rw [List.length_map];exact hi)
    rw [List.getElem_map] at q2
    exact ⟨cs,q1,h.to w S _ _ q2,q3⟩
theorem Lik.ofV {α:Type} {P:Lie α} {f:α→D} (h:Lik P f) {w:World} {lo hi:Nat} {z:Nat} {l:List α} {v:Value} (hv:SlV z P lo hi w v l):DV w (rng lo hi) (.l z (l.map f)) v:=by
 obtain ⟨a,k,rfl,h2,h3,h4,h5⟩:=hv
 refine ⟨a,k,by rw [List.length_map],by rw [List.length_map];exact h2,h3,h4,?_⟩
 rcases h5 with h5|⟨b,o,rfl,g1,g2,h6⟩
 ·exact .inl (by rw [h5];rfl)
 ·refine .inr ⟨b,o,rfl,⟨g1,g2⟩,(ij _ _).2 fun i hi=>?_⟩
  obtain ⟨cs,q1,q2,q3⟩:=h6 i (by rw [List.length_map] at hi;exact hi)
  exact ⟨cs,q1,by rw [List.getElem_map];exact h.of w _ _ _ _ q2,q3⟩
theorem Gb:Lik WrP Wr.D:=⟨fun w S x cs h=>by
 obtain ⟨c,e,rfl,⟨rfl,h1⟩,c',e',rfl,⟨rfl,h2⟩,rfl⟩:=h
 exact ⟨rfl,h1,h2⟩,fun w lo hi x cs h=>by
 obtain ⟨rfl,h1,h2⟩:=h
 exact ⟨[_],[_],rfl,⟨rfl,h1⟩,[_],[],rfl,⟨rfl,h2⟩,rfl⟩⟩
theorem sp:Lik fo Ctl.D:=⟨fun w S x cs h=>by
 obtain ⟨c,e,rfl,⟨rfl,h1⟩,c',e',rfl,⟨rfl,h2⟩,c2,e2,rfl,⟨rfl,h3⟩,rfl⟩:=h
 exact ⟨rfl,h1,h2,h3⟩,fun w lo hi x cs h=>by
 obtain ⟨rfl,h1,h2,h3⟩:=h
 exact ⟨[_],[_,_],rfl,⟨rfl,h1⟩,[_],[_],rfl,⟨rfl,h2⟩,[_],[],rfl,⟨rfl,h3⟩,rfl⟩⟩
theorem FI:Lik NdP Nd.D:=⟨fun w S x cs h=>by
 obtain ⟨c,e,rfl,⟨rfl,h1⟩,c',e',rfl,⟨rfl,h2⟩,c2,e2,rfl,h3,rfl⟩:=h
 obtain ⟨a,k,e,h4⟩:=id h3
 subst e
 exact ⟨_,rfl,h1,h2,yG.toV (by decide) (show DV w S (DI x.links) _ from h3)⟩,fun w lo hi x cs h=>by
 obtain ⟨v,rfl,h1,h2,h3⟩:=h
 exact ⟨[_],[_,_],rfl,⟨rfl,h1⟩,[_],[_],rfl,⟨rfl,h2⟩,[_],[],rfl,yG.ofV h3,rfl⟩⟩
theorem k8 {w:World} {S:BS} {z:Nat} {xs:List D} {cs:List Value} (h:Rp w S (.l z xs) cs):∃v,cs = [v]∧DV w S (.l z xs) v:=by
 obtain ⟨a,k,e,h4⟩:=id h
 subst e
 exact ⟨_,rfl,h⟩
theorem pP:Lik bW Big.D:=⟨fun w S x cs h=>by
 obtain ⟨c,e,rfl,⟨rfl,h1⟩,c1,e1,rfl,h2,c2,e2,rfl,h3,c3,e3,rfl,⟨rfl,h4⟩,c4,e4,rfl,h5,c5,e5,rfl,h6,rfl⟩:=h
 obtain ⟨v1,rfl,h2⟩:=k8 h2
 obtain ⟨v2,rfl,h3⟩:=k8 h3
 obtain ⟨v4,rfl,h5⟩:=k8 h5
 obtain ⟨v5,rfl,h6⟩:=k8 h6
 exact ⟨_,_,_,_,rfl,h1,h4,FI.toV (by decide) h2,yG.toV (by decide) h3,Hd.toV (by decide) h5,Gb.toV (by decide) h6⟩,fun w lo hi x cs h=>by
 obtain ⟨v1,v2,v4,v5,rfl,h1,h4,h2,h3,h5,h6⟩:=h
 exact ⟨[_],_,rfl,⟨rfl,h1⟩,[_],_,rfl,FI.ofV h2,[_],_,rfl,yG.ofV h3,[_],_,rfl,⟨rfl,h4⟩,[_],_,rfl,Hd.ofV h5,[_],_,rfl,Gb.ofV h6,rfl⟩⟩
theorem ne {w:World} {S:BS} {b:Big} {v:Value} (h:DV w S b.D v):∃cs:List Value,v=.agg cs.toArray∧bW 0 w.heap.size w cs b:=by
 obtain ⟨cs,h1,h2⟩:=h
 exact ⟨cs,h1,pP.to w S b cs h2⟩
theorem nJ {w w':World} {F:BS} {d:D} {v:Value} (h:DV w' (rng w.heap.size w'.heap.size) d v):DV w' (fresh w w' F) d v:=DV.keep (fun b hb=>.inr hb) (fun _ _ _=>rfl) h
theorem bX {P : Program} {f : FuncId} {fn : Func} {c : Code} (hf : P.funcs[f]? = some fn) (hb : fn.body = some c := by rfl) (hnm : (fn.name == "runtime.NumGoroutine") = false := by kernel_rfl) (args : Array Value) (w : World) : (callFunc f args).run P w = .ok (.enter f args) w := by
 unfold callFunc
 simp only [Sem.run_bind,show (program).run P w=.ok P w from rfl,Result.andThen_ok,hf,hnm,hb]
 rfl
end Go.Proofs.YtclpbhoekmecjaaGreatDoor
namespace Go.Proofs.YtclpbhoekmecjaaGreatDoor
open Go.RowKit
set_option linter.unusedVariables false
set_option linter.unusedSimpArgs false
section
variable {P:Program} {ρ:Operand→Value} {w:World} {d g:_} {ty ty' ty2:Nat} {pos:String} {after:Array Edge} {at':Array TypeId} {x y z:Operand}
def GF:BinOp→Bool→Bool→Option Bool
 | .eql,x,y=>some (x == y)
 | .neq,x,y=>some (!(x == y))
 | _,_,_=>none
theorem CY {op:BinOp} {m n r:Bool} (ht:P.underlying ty'=some .bool) (hr:GF op m n=some r) (h1:ρ x=.bool m) (h2:ρ y=.bool n):(execOp ρ ⟨d,.binOp op ty' x y ty2,ty,pos,after,g⟩).run P w=.ok (.value (.bool r)) w:=by
 unfold GF at hr
 split at hr
 case h_3=>cases hr
 all_goals
  cases hr
  simp [execOp,h1,h2,eqGuard,binOp,run_equal_bool,ht,go_sem]
theorem Er {m n:ByteArray} (hb:m.size+n.size≤1000000) (h1:ρ x=.string m) (h2:ρ y=.string n):(execOp ρ ⟨d,.binOp .add ty' x y ty2,ty,pos,after,g⟩).run P w=.ok (.value (.string (m++n))) w:=by
 have hm:m.size+n.size≤maxLen:=Nat.le_trans hb (by decide)
 simp [execOp,h1,h2,eqGuard,binOp,run_string_add,hm,go_sem]
 omega
end
section
variable {P:Program} {ops:Array Oper} {W0:cf} {N:Nat} {Fin:Us→Env→Prop} {os:List Oper} {us:Us} {pk fk:List Nat} {σ:Env} {g:Option (Nat × Bool)} {gk:List Nat} {d ty ty':Nat} {pos:String} {after:Array Edge}
theorem cb {op:BinOp} {x y:Operand} {ty2:Nat} {s t:Sy} {m n:Bool} {r:Bool} (h:Der P ops W0 N Fin os (us++[((d :: (gk++(kx x++kx y)))++pk,([d])++fk)]) [] [] ((d,.sy (.d (.b r))) :: σ)) (hx:ev σ x=some s:=by rfl) (hy:ev σ y=some t:=by rfl) (hm:s.bool? = some m:=by rfl) (hn:t.bool? = some n:=by rfl) (hr:GF op m n=some r:=by rfl) (ht:P.underlying ty'=some .bool:=by rfl) (hg:gst ops σ g=some (true,gk):=by rfl) (hN:Nat.blt d N=true:=by rfl) (hs:aM σ d=true:=by rfl):Der P ops W0 N Fin (⟨some d,.binOp op ty' x y ty2,ty,pos,after,g⟩ :: os) us pk fk σ:=
 b6 (.d (.b r)) (kx x++kx y) (fun σ' c a w hk hc=>by
  have h1:=oM hm (av hc (af hx (fun κ hκ=>hk κ (by simp [hκ]))))
  have h2:=oM hn (av hc (af hy (fun κ hκ=>hk κ (by simp [hκ]))))
  exact ⟨_,CY ht hr h1 h2,by simp [Sy.ok,DV,Rp]⟩) h hg hN hs
theorem fZ {x y:Operand} {ty2:Nat} {s t:Sy} {m n:ByteArray} (h:Der P ops W0 N Fin os (us++[((d :: (gk++(kx x++kx y)))++pk,([d])++fk)]) [] [] ((d,.sy (.d (.s (m++n)))) :: σ)) (hx:ev σ x=some s:=by rfl) (hy:ev σ y=some t:=by rfl) (hm:s.str? = some m:=by rfl) (hn:t.str? = some n:=by rfl) (hb:m.size+n.size≤1000000:=by first|assumption|omega) (hg:gst ops σ g=some (true,gk):=by rfl) (hN:Nat.blt d N=true:=by rfl) (hs:aM σ d=true:=by rfl):Der P ops W0 N Fin (⟨some d,.binOp .add ty' x y ty2,ty,pos,after,g⟩ :: os) us pk fk σ:=
 b6 (.d (.s (m++n))) (kx x++kx y) (fun σ' c a w hk hc=>by
  have h1:=sP hm (av hc (af hx (fun κ hκ=>hk κ (by simp [hκ]))))
  have h2:=sP hn (av hc (af hy (fun κ hκ=>hk κ (by simp [hκ]))))
  exact ⟨_,Er hb h1 h2,by simp [Sy.ok,DV,Rp];exact Nat.le_trans hb (by decide)⟩) h hg hN hs
theorem co {x y z:Operand} {s t:Sy} {u:Sy} {b:ByteArray} {i j:Nat} (h:Der P ops W0 N Fin os (us++[((d :: (gk++(kx x++(kx y++kx z))))++pk,([d])++fk)]) [] [] ((d,.sy (.d (.s (b.extract i j)))) :: σ)) (hx:ev σ x=some u:=by rfl) (hu:u.str? = some b:=by rfl) (hy:ev σ y=some s:=by rfl) (hi:s.int? = some (i:Int):=by rfl) (hz:ev σ z=some t:=by rfl) (hj:t.int? = some (j:Int):=by rfl) (ht:P.underlying ty'=some .string:=by rfl) (hij:i≤j∧j≤b.size:=by first|assumption|(constructor <;> omega)) (hbs:b.size≤1000000:=by first|assumption|decide|omega) (hg:gst ops σ g=some (true,gk):=by rfl) (hN:Nat.blt d N=true:=by rfl) (hs:aM σ d=true:=by rfl):Der P ops W0 N Fin (⟨some d,.slice ty' x (some y) (some z) none,ty,pos,after,g⟩ :: os) us pk fk σ:=
 b6 (.d (.s (b.extract i j))) (kx x++(kx y++kx z)) (fun σ' c a w hk hc=>by
  have h1:=sP hu (av hc (af hx (fun κ hκ=>hk κ (by simp [hκ]))))
  have h2:=ex hi (av hc (af hy (fun κ hκ=>hk κ (by simp [hκ]))))
  have h3:=ex hj (av hc (af hz (fun κ hκ=>hk κ (by simp [hκ]))))
  refine ⟨.string (b.extract i j),?_,?_⟩
  ·simp only [execOp,h1,h2,h3,Option.map_some,Option.map_none]
   refine d7 ?_
   rw [run_sliceAt_string w _ _ _ _ _ ht]
   simp [run_slice_string,ht,hij.1,hij.2]
  ·simp [Sy.ok,DV,Rp]
   have:(1000000:Nat)≤maxLen:=by decide
   omega) h hg hN hs
end
end Go.Proofs.YtclpbhoekmecjaaGreatDoor
