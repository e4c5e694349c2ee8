/-
  Proved facts that the law leans on.
-/
import Derived.Test.YtnobdioccfeokaaGreatDoorZE6
import Derived.Deep.LoopGhost
import Derived.Laws.Concat
import Derived.Laws.Strings2
import Derived.Laws.OwnMore
namespace Go.Proofs.YtnobdioccfeokaaGreatDoor
open Go.RowKit
set_option linter.unusedVariables false
set_option linter.unusedSimpArgs false
theorem cw {P:Program} {ρ:Operand→Value} {w:World} {dd:Option Tmp} {f ty:Nat} {xs:List Operand} {at':Array TypeId} {pos:String} {after:Array Edge} {g:Option (Nat × Bool)} (he:∀args w,(callFunc f args).run P w=.ok (.enter f args) w) (hf:ρ (.func f)=.func (.func f) #[] #[]):(execOp ρ ⟨dd,.call { callee:=.value (.func f),args:=xs.toArray,argTypes:=at' },ty,pos,after,g⟩).run P w=.ok (.enter f (xs.map ρ).toArray) w:=by
 simp [execOp,resolve,invoke,hf,he,go_sem]
section
variable {P:Program} {ops:Array Oper} {W0:cz} {N:Nat} {Fin:Us→Env→Prop} {os:List Oper} {us:Us} {pk fk:List Nat} {σ:Env} {g:Option (Nat × Bool)} {gk:List Nat} {d ty ty' f:Nat} {pos:String} {after:Array Edge} {at':Array TypeId} {xs:List Operand} {ds:List D}
theorem aE.fresh {W0:cz} {N:Nat} {σ:Env} {a:Act} {w w':World} {c:Cx} (h:aE W0 N σ a w c) (hg:Ext w w'):aE W0 N σ a w' { c with F:=fresh w w' c.F }:=
 h.grow hg _ (fun _ h=>.inl h) (fun _ h=>h.imp id (fun h=>h.1)) (fun b hb=>hb.elim (fun h'=>Nat.lt_of_lt_of_le (h.lt b h') (Below.size hg)) (fun h=>h.2))
theorem GJ {w:World} {c:Cx}:∀(rs:List D) (vs:List Value),DVs w c.F rs vs→Sy.oks c w (rs.map .d) vs:=by
 intro rs
 induction rs with
 | nil=>intro vs h;exact h
 | cons r rs ih=>intro vs ⟨v,t,h1,h2,h3⟩;exact ⟨v,t,h1,h2,ih t h3⟩
theorem bO {r:D} (h:Der P ops W0 N Fin os (us++[((d :: (gk++kxs xs))++pk,([d])++fk)]) [] [] ((d,.sy (.d r)) :: σ)) (hx:evs σ xs=some ds:=by rfl) (hf:FnD P f ds (.d r):=by assumption) (hg:gst ops σ g=some (true,gk):=by rfl) (hN:Nat.blt d N=true:=by rfl) (hs:aF σ d=true:=by rfl):Der P ops W0 N Fin (⟨some d,.call { callee:=.value (.func f),args:=xs.toArray,argTypes:=at' },ty,pos,after,g⟩ :: os) us pk fk σ:=
 jy (.d r) (kxs xs) [] (fun σ' c a w hk hc=>by
  unfold Oper.wp
  rw [cw hf.enter rfl]
  refine (hf.calls c.F w _ (kR hc xs ds hx hk) hc.lt).mono ?_
  rintro e w' ⟨v,rfl,hX,hv⟩
  exact ⟨v,_,rfl,hc.fresh hX,hv⟩) h hg hN hs rfl
theorem aN {rs:List D} (h:Der P ops W0 N Fin os (us++[((d :: (gk++kxs xs))++pk,([d])++fk)]) [] [] ((d,.sy (.tp (rs.map .d))) :: σ)) (hx:evs σ xs=some ds:=by rfl) (hf:FnD P f ds (.tp rs):=by assumption) (hg:gst ops σ g=some (true,gk):=by rfl) (hN:Nat.blt d N=true:=by rfl) (hs:aF σ d=true:=by rfl):Der P ops W0 N Fin (⟨some d,.call { callee:=.value (.func f),args:=xs.toArray,argTypes:=at' },ty,pos,after,g⟩ :: os) us pk fk σ:=
 jy (.tp (rs.map .d)) (kxs xs) [] (fun σ' c a w hk hc=>by
  unfold Oper.wp
  rw [cw hf.enter rfl]
  refine (hf.calls c.F w _ (kR hc xs ds hx hk) hc.lt).mono ?_
  rintro e w' ⟨v,rfl,hX,vs,rfl,hv⟩
  exact ⟨_,_,rfl,hc.fresh hX,vs,rfl,GJ (c:={ c with F:=fresh w w' c.F }) rs vs hv⟩) h hg hN hs rfl
theorem aS {n e:Nat} {rs:List D} (h:Der P ops W0 N Fin os (us++[((d :: (gk++((10000+d) :: kxs xs)))++pk,([d,10000+d])++fk)]) [] [] ((d,.sy (.k (10000+d))) :: (10000+d,.tk (.row n e rs)) :: σ)) (hx:evs σ xs=some ds:=by rfl) (hf:FnD P f ds (.row n e rs):=by assumption) (hi:al σ (10000+d)=none:=by rfl) (hg:gst ops σ g=some (true,gk):=by rfl) (hN:Nat.blt d N=true:=by rfl) (hs:aF ((10000+d,.tk (.row n e rs)) :: σ) d=true:=by rfl) (hu:Nat.beq (10000+d) d=false:=by rfl):Der P ops W0 N Fin (⟨some d,.call { callee:=.value (.func f),args:=xs.toArray,argTypes:=at' },ty,pos,after,g⟩ :: os) us pk fk σ:=
 jy (.k (10000+d)) ((10000+d) :: kxs xs) [(10000+d,.tk (.row n e rs))] (fun σ' c a w hk hc=>by
  unfold Oper.wp
  rw [cw hf.enter rfl]
  refine (hf.calls c.F w _ (kR hc xs ds hx (fun κ hκ=>hk κ (by simp [hκ]))) hc.lt).mono ?_
  rintro e' w' ⟨v,rfl,hX,⟨hd,a0,hv0⟩|⟨cells,own,hel⟩⟩
  ·subst hd
   have hc0:=hc.fresh hX
   exact ⟨v,_,rfl,hc0.new (i:=10000+d) ((hk _ (by simp)).trans hi) (t:=.row n e []) (v:=v) (S:=fun _=>False) (.inl ⟨rfl,a0,hv0⟩) (fun b hb=>hb.elim) (fun j u _ b hb=>hb.elim),.inr rfl,(if_pos rfl).symm⟩
  have hc1:=hc.grow hX (fun b=>fresh w w' c.F b∧v.ownBlock≠some b) (fun b hb=>⟨.inl hb,fun e=>by have:=own.lt b e;have:=hc.lt b hb;omega⟩) (fun _ h=>h.1.imp id (fun h=>h.1)) (fun b hb=>hb.1.elim (fun h'=>Nat.lt_of_lt_of_le (hc.lt b h') (Below.size hX)) (fun h=>h.2))
  refine ⟨v,_,rfl,hc1.new (i:=10000+d) (t:=.row n e rs) (v:=v) (S:=fun b=>v.ownBlock=some b) ((hk _ (by simp)).trans hi) (.inr ⟨cells,⟨own.1,own.2.imp id (fun ⟨g,cap,cur,q1,_,q2⟩=>⟨g,cap,cur,q1,Nat.zero_le _,q2⟩)⟩,fun g hg=>hg,hel⟩) (fun b hb=>⟨fun hF=>hF.2 hb,(own.lt b hb).2,.inr (Nat.le_trans hc.ext.size (own.lt b hb).1)⟩) (fun j u hj b hb hT=>?_),.inr rfl,(if_pos rfl).symm⟩
  have:=((hc.tok j u hj).2.2 b hT).2.1
  have:=own.lt b hb
  omega) h hg hN hs (by simp [hu])
end
def IV (ds:List D):List (Nat × D)→List D
 | []=>ds
 | (i,r) :: ps=>IV (ds.set i r) ps
def evp (σ:Env):List (Nat × Operand)→Option (List (Nat × D))
 | []=>some []
 | (i,x) :: ps=>match (ev σ x).bind Sy.dat,evp σ ps with
  | some r,some rs=>some ((i,r) :: rs)
  | _,_=>none
def kxp:List (Nat × Operand)→List Nat
 | []=>[]
 | (_,x) :: ps=>kx x++kxp ps
def plc (P:Program) (ty:Nat):Option (List (Nat × Nat)):=match P.underlying ty with
 | some (.struct fs)=>fs.toList.mapM fun f=>(P.info? f.type).map fun i=>(f.offset,i.size)
 | some (.array m e)=>(P.info? e).map fun i=>(List.range m).map fun k=>(k * i.size,i.size)
 | _=>none
theorem Bh {f f':Nat→Option (Nat × Nat)} (hf:∀i p,f i=some p→f' i=some p):∀(ps:List (Nat × Value)) (cs ds:Array Value),Instr.fill f cs ps=some ds→Instr.fill f' cs ps=some ds:=by
 intro ps
 induction ps with
 | nil=>exact fun cs ds h=>h
 | cons p ps ih=>
  obtain ⟨i,v⟩:=p
  intro cs ds h
  unfold Instr.fill at h ⊢
  cases hp:f i with
  | none=>rw [hp] at h;cases h
  | some q=>
   rw [hp] at h
   rw [hf i q hp]
   dsimp only at h ⊢
   split at h
   ·cases h
   ·rename_i hc
    rw [if_neg hc]
    exact ih _ _ h
def plB:List D→Nat→List (Nat × Nat)→Bool
 | [],_,ps=>ps.isEmpty
 | d :: ds,o,ps=>match ps with|(a,b) :: ps=>Nat.beq a o && Nat.beq b d.sz && plB ds (o+d.sz) ps | []=>false
theorem IH:∀(ds:List D) (o:Nat) (ps:List (Nat × Nat)),plB ds o ps=true→∀i,i<ds.length→∃off,ps[i]? = some (off,(ds.getD i (.i 0)).sz)∧off=o+szs (ds.take i):=by
 intro ds
 induction ds with
 | nil=>intro o ps _ i hi;exact absurd hi (Nat.not_lt_zero _)
 | cons d ds ih=>
  intro o ps h i hi
  cases ps with
  | nil=>cases h
  | cons p ps=>
   obtain ⟨a,b⟩:=p
   unfold plB at h
   simp only [Bool.and_eq_true] at h
   cases i with
   | zero=>exact ⟨a,by rw [show ((d :: ds).getD 0 (.i 0))=d from rfl,← Nat.eq_of_beq_eq_true h.1.2];rfl,by rw [Nat.eq_of_beq_eq_true h.1.1];rfl⟩
   | succ i=>
    obtain ⟨off,h1,h2⟩:=ih (o+d.sz) ps h.2 i (by simpa using hi)
    exact ⟨off,by simpa using h1,by rw [h2];simp [szs];omega⟩
theorem FK {w:World} {S:BS}:∀(ds:List D) (cs:List Value) (i:Nat) (r:D) (us:List Value),RpL w S ds cs→i<ds.length→Rp w S r us→r.sz=(ds.getD i (.i 0)).sz→RpL w S (ds.set i r) (cs.take (szs (ds.take i))++us++cs.drop (szs (ds.take i)+r.sz)):=by
 intro ds
 induction ds with
 | nil=>intro cs i r us _ hi;exact absurd hi (Nat.not_lt_zero _)
 | cons d ds ih=>
  intro cs i r us ⟨c,e,h1,h2,h3⟩ hi hr hz
  have hc:=Rp.len _ _ h2
  cases i with
  | zero=>
   refine ⟨us,e,?_,hr,h3⟩
   have hz':r.sz=d.sz:=hz
   rw [h1]
   simp [szs,hz',← hc]
  | succ i=>
   refine ⟨c,_,?_,h2,ih e i r us h3 (by simpa using hi) hr (by simpa using hz)⟩
   rw [h1]
   have e1:szs ((d :: ds).take (i+1))=c.length+szs (ds.take i):=by simp [szs,hc]
   rw [e1,List.take_append,List.drop_append]
   simp
   rw [show c.length+szs (ds.take i)+r.sz - c.length=szs (ds.take i)+r.sz by omega,List.drop_of_length_le (by omega),List.take_of_length_le (by omega)]
   rfl
theorem G3:∀(ds:List D) (i:Nat) (r:D),r.sz=(ds.getD i (.i 0)).sz→szs (ds.set i r)=szs ds∧∀(j o:Nat) (ps:List (Nat × Nat)),plB ds o ps=true→plB (ds.set i r) o ps=true:=by
 intro ds
 induction ds with
 | nil=>intro i r _;exact ⟨rfl,fun _ _ _ h=>h⟩
 | cons d ds ih=>
  intro i r hz
  cases i with
  | zero=>
   have hz':r.sz=d.sz:=hz
   refine ⟨by simp [szs,hz'],fun j o ps h=>?_⟩
   unfold plB at h ⊢
   simp only [List.set_cons_zero]
   cases ps with
   | nil=>cases h
   | cons p ps=>dsimp only at h ⊢;rw [hz'];exact h
  | succ i=>
   obtain ⟨h1,h2⟩:=ih i r (by simpa using hz)
   refine ⟨by simp [szs,h1],fun j o ps h=>?_⟩
   unfold plB at h ⊢
   simp only [List.set_cons_succ]
   cases ps with
   | nil=>cases h
   | cons p ps=>
    dsimp only at h ⊢
    rw [Bool.and_eq_true] at h ⊢
    exact ⟨h.1,h2 0 _ _ h.2⟩
def szB (ds:List D):List (Nat × D)→Bool
 | []=>true
 | (i,r) :: ps=>Nat.blt i ds.length && Nat.beq r.sz (ds.getD i (.i 0)).sz && szB (ds.set i r) ps
theorem Gb {w:World} {S:BS} {pls:List (Nat × Nat)}:∀(ps:List (Nat × D)) (vs:List (Nat × Value)) (ds:List D) (cs:List Value),plB ds 0 pls=true→szB ds ps=true→RpL w S ds cs→ps.length=vs.length→(∀(j:Nat) (i:Nat) (r:D),ps[j]? = some (i,r)→∃v,vs[j]? = some (i,v)∧DV w S r v) →
 ∃cs':List Value,Instr.fill (fun i=>pls[i]?) cs.toArray vs=some cs'.toArray∧RpL w S (IV ds ps) cs':=by
 intro ps
 induction ps with
 | nil=>intro vs ds cs _ _ hr hl _;rw [List.eq_nil_of_length_eq_zero (by simpa using hl.symm:vs.length=0)];exact ⟨cs,rfl,hr⟩
 | cons p ps ih=>
  obtain ⟨i,r⟩:=p
  intro vs ds cs hp hz hr hl hv
  unfold szB at hz
  simp only [Bool.and_eq_true] at hz
  obtain ⟨⟨h1,h2⟩,h3⟩:=hz
  have hi:i<ds.length:=Nat.blt_eq.mp h1
  have hsz:=Nat.eq_of_beq_eq_true h2
  cases vs with
  | nil=>simp at hl
  | cons y vs=>
   obtain ⟨v,hv1,hv2⟩:=hv 0 i r rfl
   simp at hv1
   subst hv1
   obtain ⟨us,q1,q2,_⟩:=hv2.cells
   obtain ⟨off,q3,q4⟩:=IH ds 0 pls hp i hi
   rw [Nat.zero_add] at q4
   have q5:=FK ds cs i r us hr hi q2 hsz
   have hul:=Rp.len _ _ q2
   have hcl:=RpL.len _ _ hr
   have hbnd:szs (ds.take i)+r.sz≤szs ds:=by
    have key:∀(ds:List D) (i:Nat),i<ds.length→szs (ds.take i)+(ds.getD i (.i 0)).sz≤szs ds:=by
     intro ds
     induction ds with
     | nil=>intro i hi;exact absurd hi (Nat.not_lt_zero _)
     | cons d ds ih=>
      intro i hi
      cases i with
      | zero=>simp [szs]
      | succ i=>have:=ih i (by simpa using hi);simp [szs] at this ⊢;omega
    rw [hsz];exact key ds i hi
   obtain ⟨cs',r1,r2⟩:=ih vs (ds.set i r) _ ((G3 ds i r hsz).2 0 0 pls hp) h3 q5 (by simpa using hl) (fun j i' r' hj=>hv (j+1) i' r' (by simpa using hj))
   refine ⟨cs',?_,r2⟩
   unfold Instr.fill
   rw [q3]
   dsimp only
   have a1:us.toArray.size=(ds.getD i (.i 0)).sz:=by simp only [List.size_toArray];omega
   have a2:¬(off+us.toArray.size > cs.toArray.size):=by simp only [List.size_toArray];omega
   rw [q1,if_neg (by rw [a1] at a2 ⊢;simp only [ne_eq,not_true_eq_false,decide_false,Bool.false_or,decide_eq_true_eq];exact a2)]
   rw [show us.toArray.zipIdx=(us.zipIdx).toArray by simp,List.foldl_toArray]
   have e1:(us.zipIdx.foldl (fun (c:Array Value) (p:Value × Nat)=>c.setIfInBounds (off+p.2) p.1) cs.toArray)=(cs.take off++us++cs.drop (off+us.length)).toArray:=by
    have hk:∀(us:List Value) (k:Nat) (cs:List Value),off+k+us.length≤cs.length→(us.zipIdx k).foldl (fun (c:Array Value) (p:Value × Nat)=>c.setIfInBounds (off+p.2) p.1) cs.toArray=(cs.take (off+k)++us++cs.drop (off+k+us.length)).toArray:=by
     intro us
     induction us with
     | nil=>intro k cs _;simp
     | cons u us ih=>
      intro k cs hb
      rw [List.zipIdx_cons,List.foldl_cons]
      dsimp only
      rw [List.setIfInBounds_toArray,ih (k+1) _ (by simp at hb ⊢;omega)]
      congr 1
      simp at hb
      rw [List.drop_set_of_lt (by omega),show off+(k+1)=off+k+1 by omega,List.take_set,List.take_succ_eq_append_getElem (by omega),List.set_append_right _ _ (by rw [List.length_take];omega),List.length_take,show off+k - min (off+k) cs.length=0 by omega]
      simp
      rw [show off+k+1+us.length=off+k+(us.length+1) by omega]
    have:=hk us 0 cs (by rw [hul,hcl,q4];omega)
    simpa using this
   rw [← r1,q4]
   rw [q4] at e1
   rw [e1,hul]
theorem nO {P:Program} {ty:Nat} {v0:Value} {pls:List (Nat × Nat)} {parts:List (Nat × Value)} {cs:Array Value} (hv:rh P ty=some v0) (hp:plc P ty=some pls) (hf:Instr.fill (fun i=>pls[i]?) v0.cells parts=some cs):P.built ty parts=some cs:=by
 unfold rh at hv
 rw [Option.bind_eq_some_iff] at hv
 obtain ⟨it,h1,h2⟩:=hv
 unfold plc at hp
 split at hp
 ·rename_i fs hu
  unfold Program.built
  simp only [h1,hu,h2,hp]
  simpa using hf
 ·rename_i m e hu
  rw [Option.map_eq_some_iff] at hp
  obtain ⟨ie,h3,h4⟩:=hp
  unfold Program.built
  simp only [h1,hu,h2,h3]
  refine Bh (fun i p hi=>?_) _ _ _ hf
  rw [← h4,List.getElem?_map] at hi
  by_cases hlt:i<m
  ·rw [List.getElem?_range hlt] at hi;exact hi
  ·rw [List.getElem?_eq_none (by simp;omega)] at hi;cases hi
 ·cases hp
theorem It {W0:cz} {N:Nat} {a:Act} {w:World} {c:Cx} {σ σ':Env} (h:aE W0 N σ' a w c):∀(xs:List (Nat × Operand)) (ps:List (Nat × D)),evp σ xs=some ps→(∀κ∈kxp xs,al σ' κ=al σ κ)→ps.length=(xs.map fun p=>(p.1,a.eval p.2)).length∧∀(j i:Nat) (r:D),ps[j]? = some (i,r)→∃v,(xs.map fun p=>(p.1,a.eval p.2))[j]? = some (i,v)∧DV w c.F r v:=by
 intro xs
 induction xs with
 | nil=>intro ps he _;cases he;exact ⟨rfl,fun j i r h=>by simp at h⟩
 | cons p xs ih=>
  obtain ⟨i0,x⟩:=p
  intro ps he hk
  unfold evp at he
  split at he
  ·rename_i r rs h1 h2
   cases he
   rw [Option.bind_eq_some_iff] at h1
   obtain ⟨s,h3,h4⟩:=h1
   obtain ⟨h5,h6⟩:=ih rs h2 (fun κ hκ=>hk κ (by simp [kxp,hκ]))
   refine ⟨by simpa using h5,fun j i r' hj=>?_⟩
   cases j with
   | zero=>
    simp at hj
    obtain ⟨rfl,rfl⟩:=hj
    exact ⟨_,rfl,jA h4 (ap h (ah h3 (fun κ hκ=>hk κ (by simp [kxp,hκ]))))⟩
   | succ j=>simp at hj ⊢;simpa using h6 j i r' hj
  ·cases he
section
variable {P:Program} {ops:Array Oper} {W0:cz} {N:Nat} {Fin:Us→Env→Prop} {os:List Oper} {us:Us} {pk fk:List Nat} {σ:Env} {g:Option (Nat × Bool)} {gk:List Nat} {d ty ty' f:Nat} {pos:String} {after:Array Edge}
theorem aZ {xs:List (Nat × Operand)} {ps:List (Nat × D)} {ds0 ds:List D} {v0:Value} {pls:List (Nat × Nat)} (h:Der P ops W0 N Fin os (us++[((d :: (gk++kxp xs))++pk,([d])++fk)]) [] [] ((d,.sy (.d (.t ds))) :: σ)) (hx:evp σ xs=some ps:=by rfl) (hr:zd P 4 ty'=some (.t ds0):=by rfl) (hv:rh P ty'=some v0:=by rfl) (hz:zok (.t ds0) v0.cells.toList=true:=by rfl) (hp:plc P ty'=some pls:=by rfl) (hpl:plB ds0 0 pls=true:=by rfl) (hsz:szB ds0 ps=true:=by rfl) (hd:IV ds0 ps=ds:=by rfl) (hg:gst ops σ g=some (true,gk):=by rfl) (hN:Nat.blt d N=true:=by rfl) (hs:aF σ d=true:=by rfl):Der P ops W0 N Fin (⟨some d,.build ty' xs.toArray,ty,pos,after,g⟩ :: os) us pk fk σ:=by
 subst hd
 refine cr (.d (.t (IV ds0 ps))) (kxp xs) (fun σ' c a w hk hc=>?_) h hg hN hs
 obtain ⟨h1,h2⟩:=It hc xs ps hx hk
 obtain ⟨cs,h3,h4⟩:=Gb (w:=w) (S:=c.F) ps _ ds0 v0.cells.toList hpl hsz (n7 (.t ds0) _ hz) h1 h2
 rw [Array.toArray_toList] at h3
 refine ⟨.agg cs.toArray,?_,cs,rfl,h4⟩
 refine dl (X:=Instr.build ty' (xs.toArray.map fun (i,x)=>(i,a.eval x))) (run_build w ty' _ _ (nO hv hp ?_))
 simpa using h3
end
end Go.Proofs.YtnobdioccfeokaaGreatDoor
namespace Go.Proofs.YtnobdioccfeokaaGreatDoor
open Go.RowKit
set_option linter.unusedVariables false
set_option linter.unusedSimpArgs false
def At (W0:cz) (N:Nat) (σ:Env) (e:Exit) (Q:Exit→Act→World→Prop):Prop:=∀a w,Holds W0 N σ a w→Q e a w
def ar (P:Program) (W0:cz) (N:Nat) (c:Code) (σ:Env) (Q:Exit→Act→World→Prop):Prop:=∀a w,Holds W0 N σ a w→c.wp P Q a w
def rn:List (Nat × Nat)→Nat→Nat
 | [],i=>i
 | (a,b) :: r,i=>match Nat.beq a i with|true=>b|false=>rn r i
def Sy.ren0 (r:List (Nat × Nat)):Sy→Sy
 | .k i=>.k (rn r i)
 | .bx i o=>.bx (rn r i) o
 | .el i z n o=>.el (rn r i) z n o
 | s=>s
def Sy.ren (r:List (Nat × Nat)):Sy→Sy
 | .k i=>.k (rn r i)
 | .bx i o=>.bx (rn r i) o
 | .el i z n o=>.el (rn r i) z n o
 | .atS o cs=>.atS o (cs.map (Sy.ren0 r))
 | s=>s
def tkB (σ:Env) (i:Nat):Bool:=match al σ i with|some (.tk _)=>true|_=>false
def Sy.inB0 (σ:Env):Sy→Bool
 | .k i=>tkB σ i
 | .bx i _=>tkB σ i
 | .el i _ _ _=>tkB σ i
 | .tp _=>false
 | .ag _=>false
 | .atS _ _=>false
 | .eo _ _=>false
 | .sl _ _ _=>false
 | _=>true
def Sy.inB (σ:Env):Sy→Bool
 | .k i=>tkB σ i
 | .bx i _=>tkB σ i
 | .el i _ _ _=>tkB σ i
 | .tp _=>false
 | .ag _=>false
 | .atS _ cs=>cs.all (Sy.inB0 σ)
 | .eo _ _=>false
 | .sl _ _ _=>false
 | _=>true
def Tk.ren (r:List (Nat × Nat)):Tk→Tk
 | .bx cs=>.bx (cs.map (Sy.ren0 r))
 | t=>t
def Tk.inB (σ:Env):Tk→Bool
 | .bx cs=>cs.all (Sy.inB0 σ)
 | .bxs _=>false
 | .bxt _ _=>false
 | _=>true
theorem jz {σ:Env} {κ n e:Nat} {ds ds':List D} (h:al σ κ=some (.tk (.row n e ds))) (he:ds=ds'):al σ κ=some (.tk (.row n e ds')):=he ▸ h
theorem qF {σ:Env} {κ:Nat} {d d':D} (h:al σ κ=some (.sy (.d d))) (he:d=d'):al σ κ=some (.sy (.d d')):=he ▸ h
inductive kL:List Sy→List Sy→List (Nat × Nat)→Prop
 | nil {cs ds}:kL cs ds []
 | k {i j cs ds r}:kL cs ds r→kL (.k i :: cs) (.k j :: ds) ((i,j) :: r)
 | bx {i o j o' cs ds r}:kL cs ds r→kL (.bx i o :: cs) (.bx j o' :: ds) ((i,j) :: r)
 | skip {c d cs ds r}:kL cs ds r→kL (c :: cs) (d :: ds) r
inductive kX (σ:Env):Env→List (Nat × Nat)→Prop
 | nil:kX σ [] []
 | k {t i j υ r}:al σ t=some (.sy (.k j))→kX σ υ r→kX σ ((t,.sy (.k i)) :: υ) ((i,j) :: r)
 | bx {t i o j o' υ r}:al σ t=some (.sy (.bx j o'))→kX σ υ r→kX σ ((t,.sy (.bx i o)) :: υ) ((i,j) :: r)
 | ats {t o o' cs ds υ q r}:al σ t=some (.sy (.atS o' ds))→kL cs ds q→kX σ υ r→kX σ ((t,.sy (.atS o cs)) :: υ) (q++r)
 | box {t cs ds υ q r}:al σ t=some (.tk (.bx ds))→kL cs ds q→kX σ υ r→kX σ ((t,.tk (.bx cs)) :: υ) (q++r)
 | skip {p υ r}:kX σ υ r→kX σ (p :: υ) r
def E2 (r:List (Nat × Nat)) (σ τ:Env):Env→Prop
 | []=>True
 | (κ,.sy s) :: υ=>(al σ κ=some (.sy (s.ren r))∧s.inB τ=true)∧E2 r σ τ υ
 | (κ,.tk t) :: υ=>(al σ (rn r κ)=some (.tk (t.ren r))∧t.inB τ=true)∧E2 r σ τ υ
 | (_,.no) :: _=>False
def tks:Env→List Nat
 | []=>[]
 | (κ,.tk _) :: υ=>κ :: tks υ
 | _ :: υ=>tks υ
def ny:List Nat→Bool
 | []=>true
 | x :: xs=>!(xs.any fun y=>Nat.beq x y) && ny xs
theorem Fr {σ:Env} {i:Nat} (h:tkB σ i=true):∃t,al σ i=some (.tk t):=by
 unfold tkB at h
 split at h
 ·exact ⟨_,by assumption⟩
 ·cases h
theorem F6 {r:List (Nat × Nat)} {σ τ:Env}:∀(υ:Env),E2 r σ τ υ→(∀t s,al υ t=some (.sy s)→al σ t=some (.sy (s.ren r))∧s.inB τ=true)∧(∀i t,al υ i=some (.tk t)→al σ (rn r i)=some (.tk (t.ren r))∧t.inB τ=true):=by
 intro υ
 induction υ with
 | nil=>intro _;exact ⟨fun t s h=>(by cases h),fun i t h=>(by cases h)⟩
 | cons p υ ih=>
  obtain ⟨κ,i⟩:=p
  intro h
  cases i with
  | sy s0=>
   obtain ⟨h1,h2⟩:=h
   obtain ⟨h3,h4⟩:=ih h2
   refine ⟨fun t s ht=>?_,fun i t ht=>?_⟩
   ·rw [ab] at ht
    by_cases e:κ=t
    ·rw [if_pos e] at ht;cases ht;subst e;exact h1
    ·rw [if_neg e] at ht;exact h3 t s ht
   ·rw [ab] at ht
    split at ht
    ·cases ht
    ·exact h4 i t ht
  | tk t0=>
   obtain ⟨h1,h2⟩:=h
   obtain ⟨h3,h4⟩:=ih h2
   refine ⟨fun t s ht=>?_,fun i t ht=>?_⟩
   ·rw [ab] at ht
    split at ht
    ·cases ht
    ·exact h3 t s ht
   ·rw [ab] at ht
    by_cases e:κ=i
    ·rw [if_pos e] at ht;cases ht;subst e;exact h1
    ·rw [if_neg e] at ht;exact h4 i t ht
  | no=>exact h.elim
theorem AY:∀(υ:Env) (i:Nat) (t:Tk),al υ i=some (.tk t)→i∈tks υ:=by
 intro υ
 induction υ with
 | nil=>intro i t h;cases h
 | cons p υ ih=>
  obtain ⟨κ,x⟩:=p
  intro i t h
  rw [ab] at h
  by_cases e:κ=i
  ·rw [if_pos e] at h;cases h;subst e;simp [tks]
  ·rw [if_neg e] at h
   have:=ih i t h
   cases x <;> simp [tks,this]
theorem Cy (f:Nat→Nat):∀(l:List Nat),ny (l.map f)=true→∀i j,i∈l→j∈l→i≠j→f i≠f j:=by
 intro l
 induction l with
 | nil=>intro _ i j h;cases h
 | cons x l ih=>
  intro h i j hi hj hne
  unfold ny at h
  simp only [List.map_cons,Bool.and_eq_true,Bool.not_eq_true',List.any_eq_false] at h
  obtain ⟨h1,h2⟩:=h
  have key:∀y,y∈l→f x≠f y:=fun y hy e=>by
   have:=h1 (f y) (List.mem_map.2 ⟨y,hy,rfl⟩)
   rw [e] at this;simp at this
  rcases List.mem_cons.1 hi with e1|hi'
  ·rcases List.mem_cons.1 hj with e2|hj'
   ·exact absurd (e1.trans e2.symm) hne
   ·rw [e1];exact key j hj'
  ·rcases List.mem_cons.1 hj with e2|hj'
   ·rw [e2];exact (key i hi').symm
   ·exact ih h2 i j hi' hj' hne
theorem Holds.sub {W0:cz} {N:Nat} {σ:Env} {a:Act} {w:World} (h:Holds W0 N σ a w) (r:List (Nat × Nat)) (τ:Env) (hs:E2 r σ τ τ) (hn:ny ((tks τ).map (rn r))=true:=by rfl):Holds W0 N τ a w:=by
 obtain ⟨c,h⟩:=h
 obtain ⟨h1,h2⟩:=F6 τ hs
 let c':Cx:=⟨c.F,fun i=>c.ρ (rn r i),fun i=>c.T (rn r i),fun i=>tkB τ i=true⟩
 have hA:∀i,tkB τ i=true→c.A (rn r i):=fun i hi=>by
  obtain ⟨t,ht⟩:=Fr hi
  exact (h.tok _ _ (h2 i t ht).1).1
 have hsy0:∀(s:Sy) (v:Value),s.inB0 τ=true→(s.ren0 r).ok c w v→s.ok c' w v:=fun s v hi hv=>by
  cases s with
  | k i=>exact ⟨hi,hv.2⟩
  | bx i o=>exact ⟨hi,hv.2⟩
  | el i z n o=>exact ⟨hi,hv.2⟩
  | tp xs=>cases hi
  | ag xs=>cases hi
  | atS o xs=>cases hi
  | eo i n0=>cases hi
  | sl i n z=>cases hi
  | cl z xs=>exact hv
  | q p=>exact hv
  | v x=>exact hv
  | d x=>exact hv
  | «at» x=>exact hv
 have hsys:∀(ss:List Sy) (vs:List Value),ss.all (Sy.inB0 τ)=true→Sy.oks c w (ss.map (Sy.ren0 r)) vs→Sy.oks c' w ss vs:=by
  intro ss
  induction ss with
  | nil=>intro vs _ hv;exact hv
  | cons s ss ih=>
   intro vs hi ⟨v,t,e1,e2,e3⟩
   rw [List.all_cons,Bool.and_eq_true] at hi
   exact ⟨v,t,e1,hsy0 s v hi.1 e2,ih t hi.2 e3⟩
 have hsy:∀(s:Sy) (v:Value),s.inB τ=true→(s.ren r).ok c w v→s.ok c' w v:=fun s v hi hv=>by
  cases s with
  | k i=>exact ⟨hi,hv.2⟩
  | bx i o=>exact ⟨hi,hv.2⟩
  | el i z n o=>exact ⟨hi,hv.2⟩
  | tp xs=>cases hi
  | ag xs=>cases hi
  | atS o xs=>
   obtain ⟨b,vs,h1,h2,h3,h4⟩:=hv
   exact ⟨b,vs,h1,h2,hsys xs vs hi h3,h4⟩
  | eo i n0=>cases hi
  | sl i n z=>cases hi
  | cl z xs=>exact hv
  | q p=>exact hv
  | v x=>exact hv
  | d x=>exact hv
  | «at» x=>exact hv
 refine ⟨c',h.ext,h.old,h.lt,h.size,h.defers,fun i hi=>?_,fun i t ht=>?_,fun i j t u hi hj hne=>?_,fun t s ht=>?_⟩
 ·obtain ⟨t,ht⟩:=Fr hi
  rw [ht];simp
 ·obtain ⟨g1,g2⟩:=h2 i t ht
  obtain ⟨_,g3,g4⟩:=h.tok _ _ g1
  refine ⟨by show tkB τ i=true;unfold tkB;rw [ht],?_,g4⟩
  cases t with
  | bx cs=>
   obtain ⟨b,us,q1,q2,q3,q4⟩:=g3
   exact ⟨b,us,q1,q2,hsys cs us g2 q3,q4⟩
  | row z e ds=>exact g3
  | deep z e ds ps=>exact g3
  | mp m=>exact g3
  | own d pin tag=>exact g3
  | abs p tag=>exact g3
  | grw z e ds=>exact g3
  | bxs cs=>cases g2
  | bxt cs u=>cases g2
 ·exact h.off _ _ _ _ (h2 i t hi).1 (h2 j u hj).1 (Cy (rn r) _ hn i j (AY τ i t hi) (AY τ j u hj) hne)
 ·obtain ⟨g1,g2⟩:=h1 t s ht
  obtain ⟨v,q1,q2⟩:=h.tmp t _ g1
  exact ⟨v,q1,hsy s v g2 q2⟩
def lm:List Nat→Nat
 | []=>0
 | κ :: r=>2 ^ κ ||| lm r
theorem sQ {x:Nat}:∀{l:List Nat},x∈l→(lm l).testBit x=true:=by
 intro l
 induction l with
 | nil=>intro h;cases h
 | cons y l ih=>
  intro h
  unfold lm
  rw [Nat.testBit_or,Bool.or_eq_true]
  rcases List.mem_cons.1 h with rfl|h
  ·exact .inl (by rw [Nat.testBit_two_pow];simp)
  ·exact .inr (ih h)
theorem yu {a b:List Nat} (h:CX a b=true):Nat.beq (lm a &&& lm b) 0=false:=by
 unfold CX at h
 simp only [List.any_eq_true] at h
 obtain ⟨x,hx,y,hy,he⟩:=h
 rw [← Nat.eq_of_beq_eq_true he] at hy
 cases hb:Nat.beq (lm a &&& lm b) 0 with
 | false=>rfl
 | true=>
  have e:=Nat.eq_of_beq_eq_true hb
  have h1:(lm a &&& lm b).testBit x=true:=by rw [Nat.testBit_and,sQ hx,sQ hy];rfl
  rw [e,Nat.zero_testBit] at h1;cases h1
def xm {β:Type} (m:Nat) (f:Nat→β):β:=match m with
 | 0=>f 0
 | n+1=>f (n+1)
theorem pB {β:Type} (m:Nat) (f:Nat→β):xm m f=f m:=by cases m <;> rfl
abbrev Acc:=List (Nat × Nat × Nat × Nat)
def yL:Acc→Nat→Nat
 | [],_=>0
 | (j,_,_,m) :: t,i=>match Nat.beq j i with|true=>m|false=>yL t i
def uR (md:Region.Mode) (acc:Acc):List Edge→Nat
 | []=>0
 | e :: es=>match Region.binds md e with|true=>(2 ^ e.on ||| yL acc e.on) ||| uR md acc es|false=>uR md acc es
def xg (r w m:Nat):Acc→Bool
 | []=>true
 | (j,rj,wj,_) :: t=>(m.testBit j || (Nat.beq (wj &&& r) 0 && (Nat.beq (wj &&& w) 0 && Nat.beq (rj &&& w) 0))) && xg r w m t
def tX (md:Region.Mode):List Oper→Us→Nat→Acc→Bool
 | [],_,_,_=>true
 | _ :: _,[],_,_=>false
 | o :: os,u :: us,k,acc=>(o.after.all fun e=>!Region.binds md e || decide (e.on<k)) && xm (lm u.1) fun r=>xm (lm u.2) fun w=>xm (uR md acc o.after.toList) fun m=>xg r w m acc && tX md os us (k+1) ((k,r,w,m) :: acc)
theorem pZ {md:Region.Mode} {ops:Array Oper}:∀(f g j i:Nat),f≤g→gy md ops f j i=true→gy md ops g j i=true:=by
 intro f
 induction f with
 | zero=>intro g j i _ h;cases h
 | succ f ih=>
  intro g j i hg h
  obtain ⟨g,rfl⟩:∃g',g=g'+1:=⟨g - 1,by omega⟩
  unfold gy at h ⊢
  split at h
  ·cases h
  ·rename_i o ho
   rw [Array.any_eq_true'] at h ⊢
   obtain ⟨e,he,h⟩:=h
   refine ⟨e,he,?_⟩
   rw [Bool.and_eq_true,Bool.or_eq_true] at h ⊢
   exact ⟨h.1,h.2.imp id (ih g e.on i (by omega))⟩
theorem Cs {acc:Acc} {i x:Nat} (h:(yL acc i).testBit x=true):∃r w m,(i,r,w,m)∈acc∧m.testBit x=true:=by
 induction acc with
 | nil=>unfold yL at h;rw [Nat.zero_testBit] at h;cases h
 | cons p t ih=>
  obtain ⟨j,r,w,m⟩:=p
  unfold yL at h
  split at h
  ·rename_i e
   rw [← Nat.eq_of_beq_eq_true e]
   exact ⟨r,w,m,List.mem_cons_self ..,h⟩
  ·obtain ⟨r',w',m',h1,h2⟩:=ih h
   exact ⟨r',w',m',List.mem_cons_of_mem _ h1,h2⟩
theorem B9 {md:Region.Mode} {acc:Acc} {x:Nat}:∀{es:List Edge},(uR md acc es).testBit x=true→∃e∈es,Region.binds md e=true∧(e.on=x∨(yL acc e.on).testBit x=true):=by
 intro es
 induction es with
 | nil=>intro h;unfold uR at h;rw [Nat.zero_testBit] at h;cases h
 | cons e es ih=>
  intro h
  unfold uR at h
  split at h
  ·rename_i hb
   rw [Nat.testBit_or,Nat.testBit_or,Bool.or_eq_true,Bool.or_eq_true,Nat.testBit_two_pow] at h
   rcases h with (h|h)|h
   ·exact ⟨e,List.mem_cons_self ..,hb,.inl (of_decide_eq_true h)⟩
   ·exact ⟨e,List.mem_cons_self ..,hb,.inr h⟩
   ·obtain ⟨e',h1,h2⟩:=ih h
    exact ⟨e',List.mem_cons_of_mem _ h1,h2⟩
  ·obtain ⟨e',h1,h2⟩:=ih h
   exact ⟨e',List.mem_cons_of_mem _ h1,h2⟩
theorem y8 {r w m:Nat}:∀{acc:Acc},xg r w m acc=true→∀j rj wj mj,(j,rj,wj,mj)∈acc→(m.testBit j || (Nat.beq (wj &&& r) 0 && (Nat.beq (wj &&& w) 0 && Nat.beq (rj &&& w) 0)))=true:=by
 intro acc
 induction acc with
 | nil=>intro _ j rj wj mj h;cases h
 | cons p t ih=>
  obtain ⟨j',r',w',m'⟩:=p
  intro h j rj wj mj hm
  unfold xg at h
  rw [Bool.and_eq_true] at h
  rcases List.mem_cons.1 hm with e|hm
  ·cases e;exact h.1
  ·exact ih h.2 j rj wj mj hm
theorem CB {md:Region.Mode} {ops:Array Oper} {U:Us}:∀(os:List Oper) (us:Us) (k:Nat) (acc:Acc),(∀j o,os[j]? = some o→ops[k+j]? = some o)→(∀j u,us[j]? = some u→U[k+j]? = some u)→os.length+k=ops.size →
 (∀j r w m,(j,r,w,m)∈acc→j<k∧∀i,m.testBit i=true→gy md ops (j+1) j i=true)→(∀j,j<k→∃m,(j,lm (U.getD j ([],[])).1,lm (U.getD j ([],[])).2,m)∈acc) →
 tX md os us k acc=true→∀i,k≤i→i<ops.size→(((ops[i]?).map fun o=>o.after.all fun e=>!Region.binds md e || decide (e.on<i)).getD true && (List.range i).all fun j=>!(nI (U.getD j ([],[])) (U.getD i ([],[]))) || gy md ops ops.size i j)=true:=by
 intro os
 induction os with
 | nil=>intro us k acc _ _ h3 _ _ _ i h6 h7;simp at h3;omega
 | cons o os ih=>
  intro us k acc h1 h2 h3 h4 h5 h i hi hi2
  cases us with
  | nil=>cases h
  | cons u us=>
   unfold tX at h
   rw [pB,pB,pB,Bool.and_eq_true,Bool.and_eq_true] at h
   obtain ⟨h6,h7,h8⟩:=h
   have ho:ops[k]? = some o:=h1 0 o rfl
   have hu:U.getD k ([],[])=u:=by rw [List.getD_eq_getElem?_getD,show U[k]? = some u from h2 0 u rfl];rfl
   have hbit:∀x,(uR md acc o.after.toList).testBit x=true→gy md ops (k+1) k x=true:=fun x hx=>by
    obtain ⟨e,he,hb,hx⟩:=B9 hx
    unfold gy
    rw [ho]
    dsimp only
    rw [Array.any_eq_true']
    refine ⟨e,by simpa using he,?_⟩
    rw [Bool.and_eq_true,Bool.or_eq_true]
    refine ⟨hb,?_⟩
    rcases hx with hx|hx
    ·exact .inl (by simpa using hx)
    ·obtain ⟨r,w,m,q1,q2⟩:=Cs hx
     obtain ⟨q3,q4⟩:=h4 _ r w m q1
     exact .inr (pZ (e.on+1) k e.on x (by omega) (q4 x q2))
   by_cases e:i=k
   ·subst e
    rw [ho,Bool.and_eq_true]
    refine ⟨h6,List.all_eq_true.2 (fun j hj=>?_)⟩
    obtain ⟨m,hm⟩:=h5 j (List.mem_range.1 hj)
    have h9:=y8 h7 _ _ _ _ hm
    rw [Bool.or_eq_true] at h9 ⊢
    rcases h9 with h9|h9
    ·exact .inr (pZ (i+1) ops.size i j (by omega) (hbit j h9))
    ·left
     rw [Bool.and_eq_true,Bool.and_eq_true] at h9
     obtain ⟨a1,a2,a3⟩:=h9
     rw [Bool.not_eq_true',hu]
     unfold nI
     have key:∀a b:List Nat,Nat.beq (lm a &&& lm b) 0=true→CX a b=false:=fun a b hab=>by
      cases hc:CX a b with
      | false=>rfl
      | true=>rw [yu hc] at hab;cases hab
     rw [key _ _ a1,key _ _ a2,key _ _ a3];rfl
   ·refine ih us (k+1) _ (fun j o' hj=>?_) (fun j u' hj=>?_) (by simp at h3;omega) (fun j r w m hj=>?_) (fun j hj=>?_) h8 i (by omega) hi2
    ·rw [show k+1+j=k+(j+1) by omega];exact h1 (j+1) o' (by simpa using hj)
    ·rw [show k+1+j=k+(j+1) by omega];exact h2 (j+1) u' (by simpa using hj)
    ·rcases List.mem_cons.1 hj with e2|hj
     ·cases e2;exact ⟨by omega,hbit⟩
     ·obtain ⟨q1,q2⟩:=h4 j r w m hj
      exact ⟨by omega,q2⟩
    ·by_cases e2:j=k
     ·subst e2
      exact ⟨_,by rw [hu];exact List.mem_cons_self ..⟩
     ·obtain ⟨m,hm⟩:=h5 j (by omega)
      exact ⟨m,List.mem_cons_of_mem _ hm⟩
theorem GB {md:Region.Mode} {ops:Array Oper} {us:Us} (h:tX md ops.toList us 0 []=true):zA md ops us=true:=by
 unfold zA
 rw [List.all_eq_true]
 intro i hi
 exact CB ops.toList us 0 [] (fun j o hj=>by simpa using hj) (fun j u hj=>by simpa using hj) (by simp) (fun j r w m hj=>by cases hj) (fun j hj=>absurd hj (Nat.not_lt_zero _)) h i (Nat.zero_le _) (List.mem_range.1 hi)
section
variable {P:Program} {W0:cz} {N:Nat} {σ:Env} {Q:Exit→Act→World→Prop} {x y:Code} {id:Nat} {ops:Array Oper}
theorem cFz (t:Nat) {i n e:Nat} {ds:List D} (h:ar P W0 N x ((t,.sy (.d (.l n ds))) :: (i,.no) :: σ) Q) (hx:al σ t=some (.sy (.k i)):=by rfl) (hi:al σ i=some (.tk (.row n e ds)):=by rfl) (hu:Nat.beq i t=false:=by rfl):ar P W0 N x σ Q:=fun a w hh=>h a w (hh.fz hx hi hu)
theorem oH (i o id e:Nat) {z:Nat} {cs:List Sy} (h:ar P W0 N x ((i,.tk (.bx (cs.set o (.k id)))) :: (id,.tk (.row z e [])) :: σ) Q) (hi:al σ i=some (.tk (.bx cs)):=by rfl) (hc:cs[o]? = some (.d (.n z)):=by rfl) (hf:al σ id=none:=by rfl) (hne:Nat.beq id i=false:=by rfl):ar P W0 N x σ Q:=fun a w hh=>h a w (hh.nilB hi hc hf hne)
theorem pI (i o:Nat) {n e j:Nat} {cs:List Sy} {ds:List D} (h:ar P W0 N x ((i,.tk (.bx (cs.set o (.d (.l n ds))))) :: (j,.no) :: σ) Q) (hi:al σ i=some (.tk (.bx cs)):=by rfl) (hc:cs[o]? = some (.k j):=by rfl) (hj:al σ j=some (.tk (.row n e ds)):=by rfl) (hne:Nat.beq j i=false:=by rfl):ar P W0 N x σ Q:=fun a w hh=>h a w (hh.fzB hi hc hj hne)
theorem dY (h:ar P W0 N x σ (Exit.then (y.wp P Q) Q)):ar P W0 N (.seq x y) σ Q:=fun a w hh=>wp_seq (h a w hh)
theorem dq {os:List Oper} (h:Der P os.toArray W0 N (fun _ σ=>At W0 N σ .normal Q) os [] [] [] σ):ar P W0 N (.region id os.toArray false) σ Q:=fun a w hh=>yf hh h
theorem fj {os:List Oper} (h:Der P os.toArray W0 N (fun us σ=>zA .any os.toArray us=true∧At W0 N σ .normal Q) os [] [] [] σ) (hm:P.follows .mixedOrders=true:=by rfl):ar P W0 N (.region id os.toArray true) σ Q:=fun a w hh=>yY hh hm h
theorem dB {us:Us} (h:At W0 N σ .normal Q):Der P ops W0 N (fun _ σ=>At W0 N σ .normal Q) [] us [] [] σ:=h
theorem ck {us:Us} (h:At W0 N σ .normal Q) (hr:tX .any ops.toList us 0 []=true:=by kernel_rfl):Der P ops W0 N (fun us σ=>zA .any ops us=true∧At W0 N σ .normal Q) [] us [] [] σ:=⟨GB hr,h⟩
theorem ci (h:At W0 N σ .normal Q):ar P W0 N .skip σ Q:=fun a w hh=>wp_skip (h a w hh)
theorem br (h:At W0 N σ (.exit id) Q):ar P W0 N (.exit id) σ Q:=fun a w hh=>wp_exit (h a w hh)
theorem fm (h:At W0 N σ .ret Q):ar P W0 N .ret σ Q:=fun a w hh=>wp_ret (h a w hh)
theorem bj (h:ar P W0 N x σ (Exit.inBlock id Q)):ar P W0 N (.block id x) σ Q:=fun a w hh=>wp_block (h a w hh)
theorem cIf {c:Operand} {s:Sy} {b:Bool} (ht:b=true→ar P W0 N x σ Q) (hf:b=false→ar P W0 N y σ Q) (hs:ev σ c=some s:=by rfl) (hb:s.bool? = some b:=by rfl):ar P W0 N (.cond c x y) σ Q:=fun a w hh=>by
 obtain ⟨cx,hc⟩:=id hh
 have hv:=oE hb (ap hc hs)
 cases b
 ·exact wp_cond_false hv (hf rfl a w hh)
 ·exact wp_cond_true hv (ht rfl a w hh)
theorem fl {c:Operand} {s:Sy} (ht:ar P W0 N x σ Q) (hs:ev σ c=some s:=by rfl) (hb:s.bool? = some true:=by rfl):ar P W0 N (.cond c x y) σ Q:=cIf (fun _=>ht) (fun h=>by cases h) hs hb
theorem eX {c:Operand} {s:Sy} (hf:ar P W0 N y σ Q) (hs:ev σ c=some s:=by rfl) (hb:s.bool? = some false:=by rfl):ar P W0 N (.cond c x y) σ Q:=cIf (fun h=>by cases h) (fun _=>hf) hs hb
def Ga (W0:cz) (N:Nat) {X:Type} (p:X→Prop) (m:X→Nat) (I:X→Env) (x:X):Act→World→Prop:=fun a w=>∃x',p x'∧m x'<m x∧Holds W0 N (I x') a w
theorem eS {X:Type} {r:List (Nat × Nat)} (p:X→Prop) (m:X→Nat) (I:X→Env) (x0:X) (h0:p x0) (hr:∀z,p z→ar P W0 N x (I z) (Exit.then (Ga W0 N p m I z) Q)) (hR:kX σ (I x0) r:=by (repeat (first|exact kX.nil|(apply kX.k;focus rfl)|(apply kX.bx;focus rfl)|(apply kX.box;(focus rfl);focus ((repeat (first|apply kL.k|apply kL.bx|apply kL.skip));exact kL.nil))|(apply kX.ats;(focus rfl);focus ((repeat (first|apply kL.k|apply kL.bx|apply kL.skip));exact kL.nil))|apply kX.skip))) (hs:E2 r σ (I x0) (I x0):=by (repeat' (first|exact trivial|refine ⟨⟨?_,rfl⟩,?_⟩)) <;> first|rfl|exact jz rfl (by assumption)|exact jz rfl (Eq.symm (by assumption))|exact qF rfl (by assumption)|exact qF rfl (Eq.symm (by assumption))) (hn:ny ((tks (I x0)).map (rn r))=true:=by rfl):ar P W0 N (.loop x) σ Q:=fun a w hh=>by
 refine wp_loop_ghost (fun n a w=>∃z,p z∧m z=n∧Holds W0 N (I z) a w) (m x0) ⟨x0,h0,rfl,hh.sub _ _ hs hn⟩ ?_
 rintro n a w ⟨z,hz,rfl,hI⟩
 refine wp_mono (hr z hz a w hI) ?_
 intro e a' w' hq
 cases e with
 | normal=>
  obtain ⟨z',h1,h2,h3⟩:=hq
  exact ⟨m z',h2,z',h1,rfl,h3⟩
 | _=>exact hq
theorem bo (h:ar P W0 N y σ Q):At W0 N σ .normal (Exit.then (y.wp P Q) Q):=h
theorem aA {K:Act→World→Prop} (h:At W0 N σ (.exit id) Q):At W0 N σ (.exit id) (Exit.then K Q):=h
theorem bk {K:Act→World→Prop} (h:At W0 N σ .ret Q):At W0 N σ .ret (Exit.then K Q):=h
theorem ct (h:At W0 N σ .normal Q):At W0 N σ .normal (Exit.inBlock id Q):=h
theorem cm (h:At W0 N σ .ret Q):At W0 N σ .ret (Exit.inBlock id Q):=h
theorem bt (h:At W0 N σ .normal Q):At W0 N σ (.exit id) (Exit.inBlock id Q):=fun a w hh=>by
 show (if id=id then Q .normal a w else Q (.exit id) a w)
 rw [if_pos rfl];exact h a w hh
theorem aa {X:Type} {r:List (Nat × Nat)} {p:X→Prop} {m:X→Nat} {I:X→Env} {z:X} (z':X) (hp:p z') (hm:m z'<m z) (hR:kX σ (I z') r:=by (repeat (first|exact kX.nil|(apply kX.k;focus rfl)|(apply kX.bx;focus rfl)|(apply kX.box;(focus rfl);focus ((repeat (first|apply kL.k|apply kL.bx|apply kL.skip));exact kL.nil))|(apply kX.ats;(focus rfl);focus ((repeat (first|apply kL.k|apply kL.bx|apply kL.skip));exact kL.nil))|apply kX.skip))) (hs:E2 r σ (I z') (I z'):=by (repeat' (first|exact trivial|refine ⟨⟨?_,rfl⟩,?_⟩)) <;> first|rfl|exact jz rfl (by assumption)|exact jz rfl (Eq.symm (by assumption))|exact qF rfl (by assumption)|exact qF rfl (Eq.symm (by assumption))) (hn:ny ((tks (I z')).map (rn r))=true:=by rfl):At W0 N σ .normal (Exit.then (Ga W0 N p m I z) Q):=fun a w hh=>⟨z',hp,hm,hh.sub _ _ hs hn⟩
end
def post (W0:pd) (r:Ro):Ending→World→Prop:=fun e w'=>∃v,e=.returned v∧Ext W0.w w'∧r.ok W0.w w' W0.F v
def Fc:Nat→List D→Env
 | _,[]=>[]
 | k,r :: rs=>(k,.sy (dsy r)) :: Fc (k+1) rs
theorem gU:∀(rs:List D) (k t:Nat) (i:In),al (Fc k rs) t=some i→∃r,i=.sy (dsy r)∧k≤t∧rs[t - k]? = some r:=by
 intro rs
 induction rs with
 | nil=>intro k t i h;cases h
 | cons r rs ih=>
  intro k t i h
  unfold Fc at h
  rw [ab] at h
  by_cases e:k=t
  ·rw [if_pos e] at h;cases h;subst e;exact ⟨r,rfl,Nat.le_refl _,by simp⟩
  ·rw [if_neg e] at h
   obtain ⟨r',h1,h2,h3⟩:=ih (k+1) t i h
   refine ⟨r',h1,by omega,?_⟩
   rw [show t - k=(t - (k+1))+1 by omega];simpa using h3
theorem xV {w:World} {S:BS}:∀(rs:List D) (vs:List Value),DVs w S rs vs→vs.length=rs.length∧∀(j:Nat) (r:D),rs[j]? = some r→∃v,vs[j]? = some v∧DV w S r v:=by
 intro rs
 induction rs with
 | nil=>intro vs h;rw [show vs = [] from h];exact ⟨rfl,fun j r h=>by simp at h⟩
 | cons r rs ih=>
  intro vs ⟨v,t,h1,h2,h3⟩
  subst h1
  obtain ⟨h4,h5⟩:=ih t h3
  refine ⟨by simp [h4],fun j r' hj=>?_⟩
  cases j with
  | zero=>simp at hj;subst hj;exact ⟨v,rfl,h2⟩
  | succ j=>simp at hj ⊢;exact h5 j r' hj
mutual
def Wf:D→Prop
 | .i n=>I64 n
 | .s b=>b.size≤maxLen
 | .b _=>True
 | .l _ xs=>xs.length≤maxLen∧WfL xs
 | .t ds=>WfL ds
 | .n _=>True
 | .p d=>Wf d
 | .f _ ds=>WfL ds
 | .any=>True
 | .c _=>True
def WfL:List D→Prop
 | []=>True
 | d :: ds=>Wf d∧WfL ds
end
mutual
theorem Rp.wf {w:World} {S:BS}:∀(d:D) (cs:List Value),Rp w S d cs→Wf d
 | .i n,cs,r=>r.2
 | .s b,cs,r=>r.2
 | .b x,cs,r=>trivial
 | .l z xs,cs,r=>by
  obtain ⟨a,k,h1,h2,h3,h4,h5⟩:=r
  refine ⟨Nat.le_trans h2 h3,?_⟩
  rcases h5 with h5|⟨b,o,_,_,h6⟩
  ·rw [h5];exact trivial
  ·exact RpR.wf z b xs o h6
 | .t ds,cs,r=>RpL.wf ds cs r
 | .n _,cs,r=>trivial
 | .p d,cs,⟨b,o,us,_,_,h,_⟩=>Rp.wf d us h
 | .f g ds,cs,⟨vs,_,h⟩=>RpL.wf ds vs h
 | .any,cs,r=>trivial
 | .c _,cs,r=>trivial
theorem RpR.wf {w:World} {S:BS} (z b:Nat):∀(ds:List D) (o:Nat),RpR w S z b o ds→WfL ds
 | [],o,_=>trivial
 | d :: ds,o,⟨⟨cs,_,h,_⟩,h'⟩=>⟨Rp.wf d cs h,RpR.wf z b ds _ h'⟩
theorem RpL.wf {w:World} {S:BS}:∀(ds:List D) (cs:List Value),RpL w S ds cs→WfL ds
 | [],cs,_=>trivial
 | d :: ds,cs,⟨c,e,_,h2,h3⟩=>⟨Rp.wf d c h2,RpL.wf ds e h3⟩
end
theorem DV.wf {w:World} {S:BS} {d:D} {v:Value} (h:DV w S d v):Wf d:=by
 obtain ⟨cs,_,h,_⟩:=h.cells
 exact Rp.wf d cs h
theorem DVs.wf {w:World} {S:BS}:∀(ds:List D) (vs:List Value),DVs w S ds vs→WfL ds
 | [],_,_=>trivial
 | d :: ds,vs,⟨v,t,_,h1,h2⟩=>⟨h1.wf,DVs.wf ds t h2⟩
theorem WfL.at {ds:List D} (h:WfL ds):∀d∈ds,Wf d:=by
 induction ds with
 | nil=>intro d h;cases h
 | cons x ds ih=>
  intro d hd
  rcases List.mem_cons.1 hd with rfl|hd
  ·exact h.1
  ·exact ih h.2 d hd
theorem wfM {α:Type} {f:α→D} {z:Nat} {l:List α} (h:Wf (.l z (l.map f))):l.length≤9223372036854775807∧∀x∈l,Wf (f x):=by
 obtain ⟨h1,h2⟩:=h
 rw [List.length_map] at h1
 exact ⟨by unfold maxLen at h1;omega,fun x hx=>h2.at _ (List.mem_map.2 ⟨x,hx,rfl⟩)⟩
theorem af {P : Program} {f : FuncId} {ds : List D} {r : Ro} {fn : Func} {c : Code} {N : Nat} (hf : P.funcs[f]? = some fn) (h : WfL ds → ∀ W0 : pd, ar P W0.toB N c (Fc 0 ds) (bodyPost P fn (post W0 r))) (hb : fn.body = some c := by rfl) (hN : fn.ntmps = N := by rfl) (hl : Nat.ble ds.length N = true := by rfl) (hnm : (fn.name == "runtime.NumGoroutine") = false := by kernel_rfl) : FnD P f ds r := by
 refine ⟨fun args w=>?_,fun F w vs hv hF=>?_⟩
 ·unfold callFunc
  simp only [Sem.run_bind,show (program).run P w=.ok P w from rfl,Result.andThen_ok,hf,hnm,hb]
  rfl
 ·obtain ⟨h1,h2⟩:=xV ds vs hv
  refine calls_of_wp hf hb (h (DVs.wf ds vs hv) ⟨w,F⟩ _ w ⟨⟨F,fun _=>undef,fun _ _=>False,fun _=>False⟩,⟨rfl,rfl,rfl,Nat.le_refl _,fun _ _ _=>rfl⟩,fun b hb=>.inl hb,hF,?_,rfl,fun i hi=>hi.elim,fun i t ht=>?_,fun i j t u hi=>?_,fun t s ht=>?_⟩)
  ·have:=Nat.le_of_ble_eq_true hl
   simp [h1,hN];omega
  ·obtain ⟨r',e,_⟩:=gU _ _ _ _ ht;cases e
  ·obtain ⟨r',e,_⟩:=gU _ _ _ _ hi;cases e
  ·obtain ⟨r',e,h3,h4⟩:=gU _ _ _ _ ht
   cases e
   obtain ⟨v,h5,h6⟩:=h2 _ _ h4
   rw [Nat.sub_zero] at h5
   refine ⟨v,?_,Cu (by exact h6)⟩
   have hlt:t<vs.length:=by
    rcases Nat.lt_or_ge t vs.length with h|h
    ·exact h
    ·rw [List.getElem?_eq_none h] at h5;cases h5
   show (vs.toArray++Array.replicate (fn.ntmps - vs.toArray.size) undef)[t]? = some v
   rw [Array.getElem?_append_left (by simpa using hlt)]
   simpa using h5
def CT (P:Program) (σ:Env):List ResultVar→Option (List D)
 | []=>some []
 | .tmp t :: rs=>match (ev σ (.tmp t)).bind Sy.dat,CT P σ rs with
  | some r,some ds=>some (r :: ds)
  | _,_=>none
 | .cell t ty :: rs=>match ev σ (.tmp t),isAgg? P ty,CT P σ rs with
  | some (.bx i 0),some true,some ds=>match al σ i with
   | some (.tk (.bx cs))=>match Gj cs,sizeOf? P ty with
    | some es,some z=>match Nat.beq z cs.length && es.all (fun r=>!isT r) with|true=>some (.t es :: ds)|false=>none
    | _,_=>none
   | _=>none
  | _,_,_=>none
def rvF (tmps:Array Value):ResultVar→Sem Value
 | .tmp t=>pure (tmps.getD t undef)
 | .cell x t=>do loadVar t (← asAddr (tmps.getD x undef))
theorem gM (fn:Func) (tmps:Array Value):results fn tmps=(do
 let vs ← fn.results.mapM (rvF tmps)
 pure (if h:vs.size=1 then vs[0] else .tuple vs)):=rfl
theorem pp {P:Program} {W0:cz} {N:Nat} {a:Act} {w:World} {c:Cx} {σ:Env} (h:aE W0 N σ a w c):∀(rs:List ResultVar) (ds:List D),CT P σ rs=some ds→∃vs:List Value,(rs.mapM (m:=Sem) (rvF a.tmps)).run P w=.ok vs w∧DVs w c.F ds vs:=by
 intro rs
 induction rs with
 | nil=>intro ds he;cases he;exact ⟨[],by simp [go_sem],rfl⟩
 | cons r rs ih=>
  intro ds he
  cases r with
  | tmp t=>
   unfold CT at he
   split at he
   ·rename_i r ds' h1 h2
    cases he
    obtain ⟨vs,h3,h4⟩:=ih ds' h2
    rw [Option.bind_eq_some_iff] at h1
    obtain ⟨s,h5,h6⟩:=h1
    refine ⟨_ :: vs,?_,_,vs,rfl,jA h6 (ap h h5),h4⟩
    rw [List.mapM_cons]
    simp only [Sem.run_bind,Sem.run_pure,Result.andThen_ok,h3,rvF]
    rfl
   ·cases he
  | cell t ty=>
   unfold CT at he
   split at he
   ·rename_i i ds' h1 hA h2
    split at he
    ·rename_i cs hcs
     split at he
     ·rename_i es z hes hz
      split at he
      ·rename_i hb
       cases he
       rw [Bool.and_eq_true] at hb
       obtain ⟨vs,h3,h4⟩:=ih ds' h2
       obtain ⟨_,b,e1,e2⟩:=ap h h1
       obtain ⟨_,⟨b',us,e3,e4,e5,e6⟩,_⟩:=h.tok i _ hcs
       rw [e1] at e3;cases e3
       refine ⟨.agg us.toArray :: vs,?_,_,vs,rfl,⟨us,rfl,vo _ _ _ hes hb.2 e5⟩,h4⟩
       have hld:=eL (P:=P) (ty:=ty) (b:=b) (off:=0) (w:=w) hA (by rw [hz,cM _ _ e5,Nat.eq_of_beq_eq_true hb.1]) (fun j u hj=>by rw [Nat.zero_add];exact (e6 j u hj).1)
       have hld':(loadVar ty ⟨b,0,none⟩).run P w=.ok (.agg us.toArray) w:=by
        unfold Instr.loadAt at hld
        simpa [Instr.sureAddr] using hld
       have ht:a.tmps.getD t undef=.pointer (some ⟨b,0,none⟩):=e2
       rw [List.mapM_cons]
       have hadr:(asAddr (.pointer (some ⟨b,0,none⟩))).run P w=.ok ⟨b,0,none⟩ w:=rfl
       simp only [Sem.run_bind,Sem.run_pure,Result.andThen_ok,ht,hadr,hld',h3,rvF]
      ·cases he
     ·cases he
    ·cases he
   ·cases he
section
variable {P:Program} {W0:pd} {N:Nat} {σ:Env} {fn:Func} {rs:List ResultVar}
theorem DV.post {a:Act} {w:World} {c:Cx} (h:aE W0.toB N σ a w c) {r:D} {v:Value} (hv:DV w c.F r v):DV w (fresh W0.w w W0.F) r v:=
 DV.keep (fun b hb=>(h.old b hb).imp _root_.id (fun h'=>⟨h'.elim False.elim _root_.id,h.lt b hb⟩)) (fun _ _ _=>rfl) hv
theorem aj {r:D} (hr:fn.results=rs.toArray:=by rfl) (hd:CT P σ rs=some [r]:=by rfl):At W0.toB N σ .ret (bodyPost P fn (post W0 (.d r))):=fun a w hh=>by
 obtain ⟨c,h⟩:=hh
 obtain ⟨vs,h1,v,t,rfl,h2,h3⟩:=pp h rs _ hd
 have:t = []:=h3
 subst this
 refine bodyPost_ret (v:=v) ?_ h.defers ⟨v,rfl,h.ext.toExt,DV.post h h2⟩
 rw [gM,hr,Array.mapM_eq_mapM_toList,show rs.toArray.toList=rs from rfl]
 simp only [Sem.run_bind,Sem.run_map,h1]
 simp [Result.andThen]
theorem iS {ds:List D} (hr:fn.results=rs.toArray:=by rfl) (hd:CT P σ rs=some ds:=by rfl) (hl:Nat.beq ds.length 1=false:=by rfl):At W0.toB N σ .ret (bodyPost P fn (post W0 (.tp ds))):=fun a w hh=>by
 obtain ⟨c,h⟩:=hh
 obtain ⟨vs,h1,h2⟩:=pp h rs _ hd
 have hlen:=(xV _ _ h2).1
 have h3:DVs w (fresh W0.w w W0.F) ds vs:=by
  clear hlen h1 hd hl
  induction ds generalizing vs with
  | nil=>exact h2
  | cons r ds ih=>obtain ⟨v,t,e1,e2,e3⟩:=h2;exact ⟨v,t,e1,DV.post h e2,ih t e3⟩
 refine bodyPost_ret (v:=.tuple vs.toArray) ?_ h.defers ⟨_,rfl,h.ext.toExt,vs,rfl,h3⟩
 rw [gM,hr,Array.mapM_eq_mapM_toList,show rs.toArray.toList=rs from rfl]
 simp only [Sem.run_bind,Sem.run_map,h1]
 have:¬ds.length=1:=fun e=>by rw [e] at hl;cases hl
 simp [Result.andThen,hlen,this]
theorem pJ {t i z e:Nat} {ds:List D} (hr:fn.results = #[.tmp t]:=by rfl) (hi:ev σ (.tmp t)=some (.k i):=by rfl) (hl:al σ i=some (.tk (.row z e ds)):=by rfl):At W0.toB N σ .ret (bodyPost P fn (post W0 (.row z e ds))):=fun a w hh=>by
 obtain ⟨c,h⟩:=hh
 obtain ⟨_,hv⟩:=ap h hi
 obtain ⟨_,hT,h4⟩:=h.tok i _ hl
 rcases hT with ⟨hd,a0,hv0⟩|⟨cells,h1,h2,h3⟩
 ·exact bodyPost_ret (results_tmp hr _ _ _) h.defers ⟨_,rfl,h.ext.toExt,.inl ⟨hd,a0,(show a.tmps.getD t undef=c.ρ i from hv).trans hv0⟩⟩
 refine bodyPost_ret (results_tmp hr _ _ _) h.defers ⟨_,rfl,h.ext.toExt,.inr ⟨cells,?_,fun j hj=>?_⟩⟩
 ·have hv':a.tmps.getD t undef=c.ρ i:=hv
  rw [hv']
  exact ⟨h1.1,h1.2.imp _root_.id (fun ⟨g,cap,cur,q1,_,q2⟩=>⟨g,cap,cur,q1,(h4 g (h2 g (by rw [q1];rfl))).2.2.elim False.elim _root_.id,q2⟩)⟩
 ·obtain ⟨cs,q1,q2,q3⟩:=h3 j hj
  have hv':a.tmps.getD t undef=c.ρ i:=hv
  refine ⟨cs,q1,Rp.keep (fun b hb=>⟨(h.old b hb).imp _root_.id (fun h'=>⟨h'.elim False.elim _root_.id,h.lt b hb⟩),fun e=>?_⟩) (fun _ _ _=>rfl) _ _ q2,q3⟩
  rw [hv'] at e
  exact (h4 b (h2 b e)).1 hb
theorem JC {t i z e:Nat} {ds:List D} (hr:fn.results = #[.tmp t]:=by rfl) (hi:ev σ (.tmp t)=some (.k i):=by rfl) (hl:al σ i=some (.tk (.row z e ds)):=by rfl):At W0.toB N σ .ret (bodyPost P fn (post W0 (.d (.l z ds)))):=fun a w hh=>by
 obtain ⟨c,h⟩:=hh
 obtain ⟨_,hv⟩:=ap h hi
 have hf:=h.freeze hl
 refine bodyPost_ret (results_tmp hr _ _ _) h.defers ⟨_,rfl,h.ext.toExt,?_⟩
 have hv':a.tmps.getD t undef=c.ρ i:=hv
 rw [hv']
 exact DV.post hf (cK (h.tok i _ hl).2.1)
end
end Go.Proofs.YtnobdioccfeokaaGreatDoor
namespace Go.Proofs.YtnobdioccfeokaaGreatDoor
open Go.RowKit
set_option linter.unusedVariables false
set_option linter.unusedSimpArgs false
abbrev DI (l:List Int):D:=.l 1 (l.map .i)
abbrev DS (l:List ByteArray):D:=.l 1 (l.map .s)
abbrev Wr.D (x:Wr):D:=.t [.s x.name,.i x.link]
abbrev Nd.D (n:Nd):D:=.t [.i n.control,.i n.parent,DI n.links]
abbrev Ctl.D (c:Ctl):D:=.t [.s c.name,.i c.ports,.i c.kind]
abbrev Big.D (b:Big):D:=.t [.i b.roots,.l 3 (b.nodes.map Nd.D),DI b.sites,.i b.edges,DS b.outer,.l 2 (b.inner.map Wr.D)]
abbrev Mat.D (m:Mat):D:=.t [DI m.nodes,DI m.roots]
abbrev Rul.D (r:Rul):D:=.t [r.redex.D,r.reactum.D,DI r.copies]
end Go.Proofs.YtnobdioccfeokaaGreatDoor
namespace Go.Proofs.YtnobdioccfeokaaGreatDoor
open Go.RowKit
set_option linter.unusedVariables false
set_option linter.unusedSimpArgs false
def rng (lo hi:Nat):BS:=fun b=>lo≤b∧b<hi
structure Lik {α:Type} (P:Lie α) (f:α→D):Prop where
 to:∀(w:World) (S:BS) (x:α) (cs:List Value),Rp w S (f x) cs→P 0 w.heap.size w cs x
 of:∀(w:World) (lo hi:Nat) (x:α) (cs:List Value),P lo hi w cs x→Rp w (rng lo hi) (f x) cs
theorem Gh:Lik iY D.i:=⟨fun _ _ _ _ h=>h,fun _ _ _ _ _ h=>h⟩
theorem I0:Lik pH D.s:=⟨fun _ _ _ _ h=>h,fun _ _ _ _ _ h=>h⟩
theorem Lik.toV {α:Type} {P:Lie α} {f:α→D} (h:Lik P f) {w:World} {S:BS} {z:Nat} {l:List α} {v:Value} (hz:0<z) (hv:DV w S (.l z (l.map f)) v):SlV z P 0 w.heap.size w v l:=by
 obtain ⟨a,k,h1,h2,h3,h4,h5⟩:=hv
 rw [List.length_map] at h1 h2
 refine ⟨a,k,by simpa using h1,h2,h3,h4,?_⟩
 rcases h5 with h5|⟨b,o,rfl,_,h6⟩
 ·exact .inl (List.map_eq_nil_iff.1 h5)
 ·by_cases hl:l = []
  ·exact .inl hl
  ·have key:=(gB _ _).1 h6
   refine .inr ⟨b,o,rfl,Nat.zero_le _,?_,fun i hi=>?_⟩
   ·obtain ⟨cs,q1,q2,q3⟩:=key 0 (by rw [List.length_map];exact List.length_pos_iff.2 hl)
    rw [List.getElem_map] at q2
    obtain ⟨u,hu⟩:∃u,cs[0]? = some u:=⟨_,List.getElem?_eq_getElem (by omega)⟩
    exact World.block_lt_of_cell? w ⟨b,o+0 * z+0,none⟩ (q3 0 u hu)
   ·obtain ⟨cs,q1,q2,q3⟩:=key i (by rw [List.length_map];exact hi)
    rw [List.getElem_map] at q2
    exact ⟨cs,q1,h.to w S _ _ q2,q3⟩
theorem Lik.ofV {α:Type} {P:Lie α} {f:α→D} (h:Lik P f) {w:World} {lo hi:Nat} {z:Nat} {l:List α} {v:Value} (hv:SlV z P lo hi w v l):DV w (rng lo hi) (.l z (l.map f)) v:=by
 obtain ⟨a,k,rfl,h2,h3,h4,h5⟩:=hv
 refine ⟨a,k,by rw [List.length_map],by rw [List.length_map];exact h2,h3,h4,?_⟩
 rcases h5 with h5|⟨b,o,rfl,g1,g2,h6⟩
 ·exact .inl (by rw [h5];rfl)
 ·refine .inr ⟨b,o,rfl,⟨g1,g2⟩,(gB _ _).2 fun i hi=>?_⟩
  obtain ⟨cs,q1,q2,q3⟩:=h6 i (by rw [List.length_map] at hi;exact hi)
  exact ⟨cs,q1,by rw [List.getElem_map];exact h.of w _ _ _ _ q2,q3⟩
theorem HW:Lik WrP Wr.D:=⟨fun w S x cs h=>by
 obtain ⟨c,e,rfl,⟨rfl,h1⟩,c',e',rfl,⟨rfl,h2⟩,rfl⟩:=h
 exact ⟨rfl,h1,h2⟩,fun w lo hi x cs h=>by
 obtain ⟨rfl,h1,h2⟩:=h
 exact ⟨[_],[_],rfl,⟨rfl,h1⟩,[_],[],rfl,⟨rfl,h2⟩,rfl⟩⟩
theorem E5:Lik p8 Ctl.D:=⟨fun w S x cs h=>by
 obtain ⟨c,e,rfl,⟨rfl,h1⟩,c',e',rfl,⟨rfl,h2⟩,c2,e2,rfl,⟨rfl,h3⟩,rfl⟩:=h
 exact ⟨rfl,h1,h2,h3⟩,fun w lo hi x cs h=>by
 obtain ⟨rfl,h1,h2,h3⟩:=h
 exact ⟨[_],[_,_],rfl,⟨rfl,h1⟩,[_],[_],rfl,⟨rfl,h2⟩,[_],[],rfl,⟨rfl,h3⟩,rfl⟩⟩
theorem Ip:Lik NdP Nd.D:=⟨fun w S x cs h=>by
 obtain ⟨c,e,rfl,⟨rfl,h1⟩,c',e',rfl,⟨rfl,h2⟩,c2,e2,rfl,h3,rfl⟩:=h
 obtain ⟨a,k,e,h4⟩:=id h3
 subst e
 exact ⟨_,rfl,h1,h2,Gh.toV (by decide) (show DV w S (DI x.links) _ from h3)⟩,fun w lo hi x cs h=>by
 obtain ⟨v,rfl,h1,h2,h3⟩:=h
 exact ⟨[_],[_,_],rfl,⟨rfl,h1⟩,[_],[_],rfl,⟨rfl,h2⟩,[_],[],rfl,Gh.ofV h3,rfl⟩⟩
theorem rf {w:World} {S:BS} {z:Nat} {xs:List D} {cs:List Value} (h:Rp w S (.l z xs) cs):∃v,cs = [v]∧DV w S (.l z xs) v:=by
 obtain ⟨a,k,e,h4⟩:=id h
 subst e
 exact ⟨_,rfl,h⟩
theorem EY:Lik r9 Big.D:=⟨fun w S x cs h=>by
 obtain ⟨c,e,rfl,⟨rfl,h1⟩,c1,e1,rfl,h2,c2,e2,rfl,h3,c3,e3,rfl,⟨rfl,h4⟩,c4,e4,rfl,h5,c5,e5,rfl,h6,rfl⟩:=h
 obtain ⟨v1,rfl,h2⟩:=rf h2
 obtain ⟨v2,rfl,h3⟩:=rf h3
 obtain ⟨v4,rfl,h5⟩:=rf h5
 obtain ⟨v5,rfl,h6⟩:=rf h6
 exact ⟨_,_,_,_,rfl,h1,h4,Ip.toV (by decide) h2,Gh.toV (by decide) h3,I0.toV (by decide) h5,HW.toV (by decide) h6⟩,fun w lo hi x cs h=>by
 obtain ⟨v1,v2,v4,v5,rfl,h1,h4,h2,h3,h5,h6⟩:=h
 exact ⟨[_],_,rfl,⟨rfl,h1⟩,[_],_,rfl,Ip.ofV h2,[_],_,rfl,Gh.ofV h3,[_],_,rfl,⟨rfl,h4⟩,[_],_,rfl,I0.ofV h5,[_],_,rfl,HW.ofV h6,rfl⟩⟩
theorem xf {w:World} {S:BS} {b:Big} {v:Value} (h:DV w S b.D v):∃cs:List Value,v=.agg cs.toArray∧r9 0 w.heap.size w cs b:=by
 obtain ⟨cs,h1,h2⟩:=h
 exact ⟨cs,h1,EY.to w S b cs h2⟩
theorem nY {w w':World} {F:BS} {d:D} {v:Value} (h:DV w' (rng w.heap.size w'.heap.size) d v):DV w' (fresh w w' F) d v:=DV.keep (fun b hb=>.inr hb) (fun _ _ _=>rfl) h
theorem cB {P : Program} {f : FuncId} {fn : Func} {c : Code} (hf : P.funcs[f]? = some fn) (hb : fn.body = some c := by rfl) (hnm : (fn.name == "runtime.NumGoroutine") = false := by kernel_rfl) (args : Array Value) (w : World) : (callFunc f args).run P w = .ok (.enter f args) w := by
 unfold callFunc
 simp only [Sem.run_bind,show (program).run P w=.ok P w from rfl,Result.andThen_ok,hf,hnm,hb]
 rfl
end Go.Proofs.YtnobdioccfeokaaGreatDoor
namespace Go.Proofs.YtnobdioccfeokaaGreatDoor
open Go.RowKit
set_option linter.unusedVariables false
set_option linter.unusedSimpArgs false
section
variable {P:Program} {ρ:Operand→Value} {w:World} {d g:_} {ty ty' ty2:Nat} {pos:String} {after:Array Edge} {at':Array TypeId} {x y z:Operand}
def IX:BinOp→Bool→Bool→Option Bool
 | .eql,x,y=>some (x == y)
 | .neq,x,y=>some (!(x == y))
 | _,_,_=>none
theorem DD {op:BinOp} {m n r:Bool} (ht:P.underlying ty'=some .bool) (hr:IX op m n=some r) (h1:ρ x=.bool m) (h2:ρ y=.bool n):(execOp ρ ⟨d,.binOp op ty' x y ty2,ty,pos,after,g⟩).run P w=.ok (.value (.bool r)) w:=by
 unfold IX at hr
 split at hr
 case h_3=>cases hr
 all_goals
  cases hr
  simp [execOp,h1,h2,eqGuard,binOp,run_equal_bool,ht,go_sem]
theorem Gd {m n:ByteArray} (hb:m.size+n.size≤1000000) (h1:ρ x=.string m) (h2:ρ y=.string n):(execOp ρ ⟨d,.binOp .add ty' x y ty2,ty,pos,after,g⟩).run P w=.ok (.value (.string (m++n))) w:=by
 have hm:m.size+n.size≤maxLen:=Nat.le_trans hb (by decide)
 simp [execOp,h1,h2,eqGuard,binOp,run_string_add,hm,go_sem]
 omega
end
section
variable {P:Program} {ops:Array Oper} {W0:cz} {N:Nat} {Fin:Us→Env→Prop} {os:List Oper} {us:Us} {pk fk:List Nat} {σ:Env} {g:Option (Nat × Bool)} {gk:List Nat} {d ty ty':Nat} {pos:String} {after:Array Edge}
theorem bG {op:BinOp} {x y:Operand} {ty2:Nat} {s t:Sy} {m n:Bool} {r:Bool} (h:Der P ops W0 N Fin os (us++[((d :: (gk++(kx x++kx y)))++pk,([d])++fk)]) [] [] ((d,.sy (.d (.b r))) :: σ)) (hx:ev σ x=some s:=by rfl) (hy:ev σ y=some t:=by rfl) (hm:s.bool? = some m:=by rfl) (hn:t.bool? = some n:=by rfl) (hr:IX op m n=some r:=by rfl) (ht:P.underlying ty'=some .bool:=by rfl) (hg:gst ops σ g=some (true,gk):=by rfl) (hN:Nat.blt d N=true:=by rfl) (hs:aF σ d=true:=by rfl):Der P ops W0 N Fin (⟨some d,.binOp op ty' x y ty2,ty,pos,after,g⟩ :: os) us pk fk σ:=
 cr (.d (.b r)) (kx x++kx y) (fun σ' c a w hk hc=>by
  have h1:=oE hm (ap hc (ah hx (fun κ hκ=>hk κ (by simp [hκ]))))
  have h2:=oE hn (ap hc (ah hy (fun κ hκ=>hk κ (by simp [hκ]))))
  exact ⟨_,DD ht hr h1 h2,by simp [Sy.ok,DV,Rp]⟩) h hg hN hs
theorem eH {x y:Operand} {ty2:Nat} {s t:Sy} {m n:ByteArray} (h:Der P ops W0 N Fin os (us++[((d :: (gk++(kx x++kx y)))++pk,([d])++fk)]) [] [] ((d,.sy (.d (.s (m++n)))) :: σ)) (hx:ev σ x=some s:=by rfl) (hy:ev σ y=some t:=by rfl) (hm:s.str? = some m:=by rfl) (hn:t.str? = some n:=by rfl) (hb:m.size+n.size≤1000000:=by first|assumption|omega) (hg:gst ops σ g=some (true,gk):=by rfl) (hN:Nat.blt d N=true:=by rfl) (hs:aF σ d=true:=by rfl):Der P ops W0 N Fin (⟨some d,.binOp .add ty' x y ty2,ty,pos,after,g⟩ :: os) us pk fk σ:=
 cr (.d (.s (m++n))) (kx x++kx y) (fun σ' c a w hk hc=>by
  have h1:=oC hm (ap hc (ah hx (fun κ hκ=>hk κ (by simp [hκ]))))
  have h2:=oC hn (ap hc (ah hy (fun κ hκ=>hk κ (by simp [hκ]))))
  exact ⟨_,Gd hb h1 h2,by simp [Sy.ok,DV,Rp];exact Nat.le_trans hb (by decide)⟩) h hg hN hs
theorem bW {x y z:Operand} {s t:Sy} {u:Sy} {b:ByteArray} {i j:Nat} (h:Der P ops W0 N Fin os (us++[((d :: (gk++(kx x++(kx y++kx z))))++pk,([d])++fk)]) [] [] ((d,.sy (.d (.s (b.extract i j)))) :: σ)) (hx:ev σ x=some u:=by rfl) (hu:u.str? = some b:=by rfl) (hy:ev σ y=some s:=by rfl) (hi:s.int? = some (i:Int):=by rfl) (hz:ev σ z=some t:=by rfl) (hj:t.int? = some (j:Int):=by rfl) (ht:P.underlying ty'=some .string:=by rfl) (hij:i≤j∧j≤b.size:=by first|assumption|(constructor <;> omega)) (hbs:b.size≤1000000:=by first|assumption|decide|omega) (hg:gst ops σ g=some (true,gk):=by rfl) (hN:Nat.blt d N=true:=by rfl) (hs:aF σ d=true:=by rfl):Der P ops W0 N Fin (⟨some d,.slice ty' x (some y) (some z) none,ty,pos,after,g⟩ :: os) us pk fk σ:=
 cr (.d (.s (b.extract i j))) (kx x++(kx y++kx z)) (fun σ' c a w hk hc=>by
  have h1:=oC hu (ap hc (ah hx (fun κ hκ=>hk κ (by simp [hκ]))))
  have h2:=df hi (ap hc (ah hy (fun κ hκ=>hk κ (by simp [hκ]))))
  have h3:=df hj (ap hc (ah hz (fun κ hκ=>hk κ (by simp [hκ]))))
  refine ⟨.string (b.extract i j),?_,?_⟩
  ·simp only [execOp,h1,h2,h3,Option.map_some,Option.map_none]
   refine dl ?_
   rw [run_sliceAt_string w _ _ _ _ _ ht]
   simp [run_slice_string,ht,hij.1,hij.2]
  ·simp [Sy.ok,DV,Rp]
   have:(1000000:Nat)≤maxLen:=by decide
   omega) h hg hN hs
end
end Go.Proofs.YtnobdioccfeokaaGreatDoor
namespace Go.Proofs.YtnobdioccfeokaaGreatDoor
open Go.RowKit
set_option linter.unusedVariables false
set_option linter.unusedSimpArgs false
theorem uF {w:World} {S:BS}:∀(ds:List D) (vs:List Value),(ds.all fun r=>!isT r)=true→DVs w S ds vs→RpL w S ds vs:=by
 intro ds
 induction ds with
 | nil=>intro vs _ h;exact h
 | cons d ds ih=>
  intro vs ht ⟨v,t,h1,h2,h3⟩
  rw [List.all_cons,Bool.and_eq_true] at ht
  refine ⟨[v],t,h1,?_,ih t ht.2 h3⟩
  cases d with
  | t ds=>cases ht.1
  | _=>exact h2
theorem GV {w:World} {S:BS}:∀(ds:List D) (vs:List Value),(ds.all fun r=>!isT r)=true→RpL w S ds vs→DVs w S ds vs:=by
 intro ds
 induction ds with
 | nil=>intro vs _ h;exact h
 | cons d ds ih=>
  intro vs ht ⟨c,e,h1,h2,h3⟩
  rw [List.all_cons,Bool.and_eq_true] at ht
  have hl:=Rp.len d c h2
  have hz:d.sz=1:=by cases d <;> first|rfl|cases ht.1
  obtain ⟨v,rfl⟩:=List.length_eq_one_iff.1 (hl.trans hz)
  refine ⟨v,e,h1,?_,ih e ht.2 h3⟩
  cases d with
  | t ds=>cases ht.1
  | _=>exact h2
theorem FC {w:World} {S:BS}:∀(ds es:List D) (vs us:List Value),DVs w S ds vs→DVs w S es us→DVs w S (ds++es) (vs++us):=by
 intro ds
 induction ds with
 | nil=>intro es vs us h1 h2;rw [show vs = [] from h1];exact h2
 | cons d ds ih=>
  intro es vs us ⟨v,t,h1,h2,h3⟩ h4
  exact ⟨v,t++us,by rw [h1];rfl,h2,ih es t us h3 h4⟩
theorem oP {P:Program} {ρ:Operand→Value} {w:World} {dd:Option Tmp} {f ty:Nat} {t:Operand} {xs:List Operand} {cv:List Value} {at':Array TypeId} {pos:String} {after:Array Edge} {g:Option (Nat × Bool)} (he:∀args w,(callFunc f args).run P w=.ok (.enter f args) w) (hf:ρ t=.func (.func f) #[] cv.toArray):(execOp ρ ⟨dd,.call { callee:=.value t,args:=xs.toArray,argTypes:=at' },ty,pos,after,g⟩).run P w=.ok (.enter f (xs.map ρ++cv).toArray) w:=by
 simp [execOp,resolve,invoke,hf,he,Deferred.ofValue,go_sem]
section
variable {P:Program} {ops:Array Oper} {W0:cz} {N:Nat} {Fin:Us→Env→Prop} {os:List Oper} {us:Us} {pk fk:List Nat} {σ:Env} {g:Option (Nat × Bool)} {gk:List Nat} {d ty ty' f:Nat} {pos:String} {after:Array Edge} {at':Array TypeId} {xs:List Operand} {ds cs:List D} {t:Operand}
theorem bY (h:Der P ops W0 N Fin os (us++[((d :: (gk++kxs xs))++pk,([d])++fk)]) [] [] ((d,.sy (.d (.f f ds))) :: σ)) (hx:evs σ xs=some ds:=by rfl) (ht:(ds.all fun r=>!isT r)=true:=by rfl) (hg:gst ops σ g=some (true,gk):=by rfl) (hN:Nat.blt d N=true:=by rfl) (hs:aF σ d=true:=by rfl):Der P ops W0 N Fin (⟨some d,.makeFunc (.func f) #[] xs.toArray,ty,pos,after,g⟩ :: os) us pk fk σ:=
 cr (.d (.f f ds)) (kxs xs) (fun σ' c a w hk hc=>⟨.func (.func f) #[] (xs.map a.eval).toArray,dl (X:=Instr.makeFunc (.func f) (#[].map a.eval) (xs.toArray.map a.eval)) (by simp [Instr.makeFunc,go_sem]),xs.map a.eval,rfl,uF _ _ ht (kR hc xs ds hx hk)⟩) h hg hN hs
theorem aT {r:D} (h:Der P ops W0 N Fin os (us++[((d :: (gk++(kx t++kxs xs)))++pk,([d])++fk)]) [] [] ((d,.sy (.d r)) :: σ)) (hx:evs σ xs=some ds:=by rfl) (hv:ev σ t=some (.d (.f f cs)):=by rfl) (ht:(cs.all fun r=>!isT r)=true:=by first|rfl|assumption) (hf:FnD P f (ds++cs) (.d r):=by assumption) (hg:gst ops σ g=some (true,gk):=by rfl) (hN:Nat.blt d N=true:=by rfl) (hs:aF σ d=true:=by rfl):Der P ops W0 N Fin (⟨some d,.call { callee:=.value t,args:=xs.toArray,argTypes:=at' },ty,pos,after,g⟩ :: os) us pk fk σ:=
 jy (.d r) (kx t++kxs xs) [] (fun σ' c a w hk hc=>by
  obtain ⟨cv,h1,h2⟩:=ap hc (ah hv (fun κ hκ=>hk κ (by simp [hκ])))
  cases h1':a.eval t <;> rw [h1'] at h1 <;> cases h1
  unfold Oper.wp
  rw [oP hf.enter h1']
  refine (hf.calls c.F w _ (FC _ _ _ _ (kR hc xs ds hx (fun κ hκ=>hk κ (by simp [hκ]))) (GV _ _ ht h2)) hc.lt).mono ?_
  rintro e w' ⟨v,rfl,hX,hv⟩
  exact ⟨v,_,rfl,hc.fresh hX,hv⟩) h hg hN hs rfl
end
theorem gI {c:Cx} {w:World}:∀(d:D) (vs:List Value),isT d=false→Sy.oks c w (ij d) vs→Rp w c.F d vs:=by
 intro d vs ht ho
 cases d with
 | t ds=>cases ht
 | _=>
  obtain ⟨y,t,rfl,h1,h2⟩:=ho
  cases (show t = [] from h2)
  exact h1
theorem Ci {c:Cx} {w:World}:∀(ss ts:List Sy) (vs:List Value),Sy.oks c w (ss++ts) vs→∃us xs,vs=us++xs∧Sy.oks c w ss us∧Sy.oks c w ts xs:=by
 intro ss
 induction ss with
 | nil=>intro ts vs h;exact ⟨[],vs,rfl,rfl,h⟩
 | cons s ss ih=>
  intro ts vs ⟨y,t,h1,h2,h3⟩
  obtain ⟨us,xs,e,h4,h5⟩:=ih ts t h3
  exact ⟨y :: us,xs,by rw [h1,e];rfl,⟨y,us,rfl,h2,h4⟩,h5⟩
mutual
theorem ug {c:Cx} {w:World}:∀(d:D) (vs:List Value),Sy.oks c w (ij d) vs→Rp w c.F d vs
 | .t ds,vs,h=>qI ds vs h
 | .i n,vs,h=>gI (.i n) vs rfl h
 | .s n,vs,h=>gI (.s n) vs rfl h
 | .b n,vs,h=>gI (.b n) vs rfl h
 | .l z xs,vs,h=>gI (.l z xs) vs rfl h
 | .n z,vs,h=>gI (.n z) vs rfl h
 | .p d,vs,h=>gI (.p d) vs rfl h
 | .f g ds,vs,h=>gI (.f g ds) vs rfl h
 | .any,vs,h=>gI .any vs rfl h
 | .c x,vs,h=>gI (.c x) vs rfl h
theorem qI {c:Cx} {w:World}:∀(ds:List D) (vs:List Value),Sy.oks c w (kI ds) vs→RpL w c.F ds vs
 | [],vs,h=>h
 | d :: ds,vs,h=>by
  obtain ⟨us,xs,e,h1,h2⟩:=Ci (ij d) (kI ds) vs h
  exact ⟨us,xs,e,ug d us h1,qI ds xs h2⟩
end
theorem Holds.fzX {W0:cz} {N t i:Nat} {σ:Env} {cs:List Sy} (D:D) {a:Act} {w:World} (ht:al σ t=some (.sy (.bx i 0))) (hi:al σ i=some (.tk (.bx cs))) (hD:cs=ij D) (hu:Nat.beq i t=false) (hh:Holds W0 N σ a w):Holds W0 N ((t,.sy (.at D)) :: (i,.no) :: σ) a w:=by
 subst hD
 obtain ⟨c,hc⟩:=hh
 have hf:=hc.freeze hi
 obtain ⟨v,h3,_,b,h4,h5⟩:=hc.tmp t _ ht
 obtain ⟨_,⟨b',us,e3,e4,e5,e6⟩,_⟩:=hc.tok i _ hi
 rw [h4] at e3;cases e3
 have hput:=hf.put (d:=t) (s:=.at D) (v:=v) (by rw [← hc.size];exact (Array.getElem?_eq_some_iff.1 h3).1) ⟨b,0,us,h5,.inr e4,Rp.keep (fun _ h=>.inl h) (fun _ _ _=>rfl) _ _ (ug D us e5),fun j u hj=>by rw [Nat.zero_add];exact (e6 j u hj).1⟩ (.inr ⟨.bx i 0,by rw [ab,if_neg (fun e=>by rw [e] at hu;simp at hu)];exact ht⟩)
 have e:a.put (some t) v=a:=qX (iZ _ _ _) (fun j=>by
  simp only [Act.put]
  by_cases hj:t=j
  ·subst hj
   rw [Array.getElem?_setIfInBounds_self_of_lt (Array.getElem?_eq_some_iff.1 h3).1,h3]
  ·rw [Array.getElem?_setIfInBounds_ne hj])
 rw [e] at hput
 exact ⟨_,hput⟩
theorem BW (t:Nat) (D:D) {P:Program} {W0:cz} {N:Nat} {σ:Env} {Q:Exit→Act→World→Prop} {x:Code} {i:Nat} {cs:List Sy} (h:ar P W0 N x ((t,.sy (.at D)) :: (i,.no) :: σ) Q) (hx:al σ t=some (.sy (.bx i 0)):=by rfl) (hi:al σ i=some (.tk (.bx cs)):=by rfl) (hD:cs=ij D:=by rfl) (hu:Nat.beq i t=false:=by rfl):ar P W0 N x σ Q:=fun a w hh=>h a w (hh.fzX D hx hi hD hu)
theorem rY {P:Program} {ops:Array Oper} {W0:cz} {N:Nat} {Fin:Us→Env→Prop} {os:List Oper} {us:Us} {pk fk:List Nat} {σ:Env} (t:Nat) (D:D) {o:Oper} {i:Nat} {cs:List Sy} (h:Der P ops W0 N Fin (o :: os) us ([t,i]++pk) ([t,i]++fk) ((t,.sy (.at D)) :: (i,.no) :: σ)) (hx:al σ t=some (.sy (.bx i 0)):=by rfl) (hi:al σ i=some (.tk (.bx cs)):=by rfl) (hD:cs=ij D:=by rfl) (hu:Nat.beq i t=false:=by rfl):Der P ops W0 N Fin (o :: os) us pk fk σ:=by
 obtain ⟨keys,upd,h1,h2⟩:=h
 refine ⟨keys++[t,i],upd++[(t,.sy (.at D)),(i,.no)],fun σ' a w hk hh=>?_,?_⟩
 ·have h3:=Holds.fzX D ((hk t (by simp)).trans hx) ((hk i (by simp)).trans hi) hD hu hh
  have h4:=h1 _ a w (fun κ hκ=>?_) h3
  ·rw [List.append_assoc];exact h4
  ·rw [ab,ab,ab,ab,hk κ (by simp [hκ])]
 ·simp only [List.append_assoc,List.map_append] at h2 ⊢
  exact h2
def qR:List D→Nat→D→Option (List D)
 | [],_,_=>none
 | d :: ds,o,r=>match Nat.beq o 0 with
  | true=>match isT d with|true=>none|false=>some (r :: ds)
  | false=>match Nat.ble d.sz o with|true=>(qR ds (o - d.sz) r).map (d :: ·)|false=>none
def Jv:D→Nat→D→Option D
 | .t ds,o,r=>(qR ds o r).map .t
 | _,0,r=>some r
 | _,_,_=>none
theorem zh {w:World} {S:BS} {r:D} {v:Value} (hr:Rp w S r [v]):∀(ds:List D) (o:Nat) (cs:List Value) (es:List D),RpL w S ds cs→qR ds o r=some es→o<cs.length∧RpL w S es (cs.set o v):=by
 intro ds
 induction ds with
 | nil=>intro o cs es _ h;cases h
 | cons d ds ih=>
  intro o cs es ⟨c,e,h1,h2,h3⟩ h
  unfold qR at h
  have hl:=Rp.len d c h2
  split at h
  ·rename_i h0
   have:=Nat.eq_of_beq_eq_true h0
   subst this
   split at h
   ·cases h
   ·rename_i hT
    cases h
    have hz:d.sz=1:=by cases d <;> first|rfl|cases hT
    obtain ⟨u,rfl⟩:=List.length_eq_one_iff.1 (hl.trans hz)
    subst h1
    exact ⟨by simp,[v],e,rfl,hr,h3⟩
  ·split at h
   ·rename_i hle
    have hle':=Nat.le_of_ble_eq_true hle
    rw [Option.map_eq_some_iff] at h
    obtain ⟨es',h4,rfl⟩:=h
    obtain ⟨h5,h6⟩:=ih _ e es' h3 h4
    refine ⟨by rw [h1,List.length_append];omega,c,e.set (o - d.sz) v,?_,h2,h6⟩
    rw [h1,List.set_append_right _ _ (by omega),hl]
   ·cases h
theorem FX {w:World} {S:BS} {d q r:D} {o:Nat} {cs:List Value} {v:Value} (hr:Rp w S r [v]) (h:Rp w S d cs) (hq:Jv d o r=some q):o<cs.length∧Rp w S q (cs.set o v):=by
 cases d with
 | t ds=>
  unfold Jv at hq
  rw [Option.map_eq_some_iff] at hq
  obtain ⟨es,h1,rfl⟩:=hq
  exact zh hr ds o cs es h h1
 | _=>
  have hl:=Rp.len _ _ h
  obtain ⟨u,rfl⟩:=List.length_eq_one_iff.1 hl
  cases o with
  | zero=>cases hq;exact ⟨by simp,hr⟩
  | succ o=>cases hq
section
variable {P:Program} {ops:Array Oper} {W0:cz} {N:Nat} {Fin:Us→Env→Prop} {os:List Oper} {us:Us} {pk fk:List Nat} {σ:Env} {g:Option (Nat × Bool)} {gk:List Nat} {d ty ty':Nat} {pos:String} {after:Array Edge}
theorem bC {x y:Operand} {s t:Sy} {e n:Nat} {ti:TypeInfo} {z:Value} {r:D} (h:Der P ops W0 N Fin os (us++[((d :: (gk++((10000+d) :: (kx x++kx y))))++pk,([d,10000+d])++fk)]) [] [] ((d,.sy (.k (10000+d))) :: (10000+d,.tk (.row 1 e (List.replicate n r))) :: σ)) (hx:ev σ x=some s:=by rfl) (hy:ev σ y=some t:=by rfl) (hm:s.int? = some (n:Int):=by rfl) (hm':t.int? = some (n:Int):=by rfl) (hf:al σ (10000+d)=none:=by rfl) (he:elem? P ty'=some e:=by rfl) (hti:P.info? e=some ti:=by rfl) (htz:ti.zero=some z:=by rfl) (hsz:ti.size=1:=by rfl) (hzr:zok r [z]=true:=by rfl) (hT:isT r=false:=by rfl) (hb:ti.bytes * n≤1000000000:=by first|omega|(simp;omega)) (hn:n≤1000000000:=by omega) (hg:gst ops σ g=some (true,gk):=by rfl) (hN:Nat.blt d N=true:=by rfl) (hs:aF ((10000+d,.tk (.row 1 e (List.replicate n r))) :: σ) d=true:=by rfl) (hu:Nat.beq (10000+d) d=false:=by rfl):Der P ops W0 N Fin (⟨some d,.makeSlice ty' x y,ty,pos,after,g⟩ :: os) us pk fk σ:=by
 refine jy (.k (10000+d)) ((10000+d) :: (kx x++kx y)) [(10000+d,.tk (.row 1 e (List.replicate n r)))] (fun σ' c a w hk hc=>?_) h hg hN hs (by simp [hu])
 have h1:=df hm (ap hc (ah hx (fun κ hκ=>hk κ (by simp [hκ]))))
 have h2:=df hm' (ap hc (ah hy (fun κ hκ=>hk κ (by simp [hκ]))))
 have hml:n≤maxLen:=Nat.le_trans hn (Nat.le_of_ble_eq_true rfl)
 obtain ⟨w',h3,h4,h5⟩:=run_make_full (P:=P) w w.heap.size ty' e ti z 1 (dE he) hti htz hsz .i64 .i64 n (by omega) hml (Nat.le_refl _)
 have hrz:∀S,Rp w' S r [z]:=fun S=>n7 r [z] hzr
 have hz1:z.cells = #[z]:=by
  have:=Rp.one r [z] (hrz (fun _=>True)) z (by simp)
  cases z <;> first|rfl|simp [Value.oneCell'] at this
 rw [hz1,Nat.mul_one,toList_madeCells_one] at h4
 have hX:Ext w w':=⟨h5.os,h5.tape,h5.output,h5.size,fun b hb=>h5.block b hb (by simp)⟩
 have hc1:=hc.grow hX c.F (fun _ h=>h) (fun _ h=>.inl h) (fun b hb=>Nat.lt_of_lt_of_le (hc.lt b hb) (Below.size hX))
 have hrun:(execOp a.eval ⟨some d,.makeSlice ty' x y,ty,pos,after,g⟩).run P w=.ok (.value (.slice (some ⟨w.heap.size,0,none⟩) n n)) w':=dl (X:=Instr.makeSlice ty' (a.eval x) (a.eval y)) (by rw [h1,h2];exact h3)
 unfold Oper.wp
 rw [hrun]
 have hlt:=h4.lt w.heap.size rfl
 refine ⟨_,_,rfl,hc1.new (i:=10000+d) (t:=.row 1 e (List.replicate n r)) (v:=.slice (some ⟨w.heap.size,0,none⟩) n n) (S:=fun b=>b=w.heap.size) ((hk _ (by simp)).trans hf) (.inr ⟨List.replicate n z,?_,fun g hg=>by cases hg;rfl,fun j hj=>?_⟩) (fun b hb=>⟨fun hF=>?_,?_⟩) (fun j u hj b hb hT=>?_),.inr rfl,(if_pos rfl).symm⟩
 ·rw [List.length_replicate]
  exact ⟨h4.1,h4.2.imp id (fun ⟨g,cap,cur,q1,_,q2⟩=>⟨g,cap,cur,q1,Nat.zero_le _,q2⟩)⟩
 ·rw [List.length_replicate] at hj
  refine ⟨[z],rfl,by rw [List.getElem_replicate];exact hrz _,fun t u ht=>?_⟩
  rw [List.getElem?_replicate,if_pos (by
   have:t<1:=by
    rcases Nat.lt_or_ge t 1 with h|h
    ·exact h
    ·rw [List.getElem?_eq_none (by simpa using h)] at ht;cases ht
   omega)]
  rcases t with _|t
  ·simpa using ht
  ·simp at ht
 ·subst hb;exact absurd (hc.lt _ hF) (Nat.lt_irrefl _)
 ·subst hb;exact ⟨hlt.2,.inr hc.ext.size⟩
 ·subst hb;exact absurd ((hc.tok j u hj).2.2 _ hT).2.1 (Nat.lt_irrefl _)
theorem aq {α:Type} {f:α→D} {l:List α} (x':α) {x y:Operand} {i z n o e:Nat} {r:D} (h:Der P ops W0 N Fin os (us++[((gk++(i :: (kx x++kx y)))++pk,([i])++fk)]) [] [] ((i,.tk (.row z e ((l.set n x').map f))) :: σ)) (hx:ev σ x=some (.el i z n o):=by rfl) (hi:al σ i=some (.tk (.row z e (l.map f))):=by rfl) (hy:(ev σ y).bind Sy.dat=some r:=by rfl) (hr:isT r=false:=by rfl) (hlt:n<l.length:=by first|assumption|omega) (hq:Jv (f l[n]) o r=some (f x'):=by rfl) (hz:sizeOf? P ty'=some 1:=by rfl) (hg:gst ops σ g=some (true,gk):=by rfl):Der P ops W0 N Fin (⟨none,.store ty' x y,ty,pos,after,g⟩ :: os) us pk fk σ:=
 lq (i :: (kx x++kx y)) [(i,.tk (.row z e ((l.set n x').map f)))] (fun σ' c a w hk hc=>by
  obtain ⟨hAi,b,m,cp,e1,e2⟩:=ap hc (ah hx (fun κ hκ=>hk κ (by simp [hκ])))
  have hi':=(hk i (by simp)).trans hi
  obtain ⟨_,hT,hlt'⟩:=hc.tok i _ hi'
  rcases hT with ⟨hd,_⟩|⟨cells,own,hS,hel⟩
  ·rw [List.map_eq_nil_iff] at hd;subst hd;exact absurd hlt (Nat.not_lt_zero _)
  rw [Option.bind_eq_some_iff] at hy
  obtain ⟨sy,hy1,hy2⟩:=hy
  have hv:=jA hy2 (ap hc (ah hy1 (fun κ hκ=>hk κ (by simp [hκ]))))
  have hvr:Rp w c.F r [a.eval y]:=by
   cases r with
   | t ds=>cases hr
   | _=>exact hv
  have hone:(a.eval y).oneCell'=true:=Rp.one _ _ hvr (a.eval y) (List.mem_singleton.2 rfl)
  obtain ⟨cs,q1,q2,q3⟩:=hel n (by rw [List.length_map];exact hlt)
  rw [List.getElem_map] at q2
  obtain ⟨ho,q4⟩:=FX hvr q2 hq
  rw [e1] at own
  have hcs:cells.length=(l.map f).length * z:=own.1
  have hin:n * z+o<(l.map f).length * z:=by
   rw [List.length_map]
   have:n * z+z≤l.length * z:=by rw [← Nat.succ_mul];exact Nat.mul_le_mul_right z hlt
   omega
  have own':w.ownsRow 0 e z (.slice (some ⟨b,0,none⟩) (l.map f).length cp) (l.map f).length cells:=by
   rcases own.2 with ⟨hv0,_⟩|⟨gb,cap,cur,hv0,rest⟩
   ·cases hv0
   ·cases hv0;exact own
  have hb:c.T i b:=hS b (by rw [e1];rfl)
  have q5:=World.ownsRow.cellAt (h:=own') (n * z+o) hin
  rw [List.getElem?_eq_getElem (by omega)] at q5
  have q6:=World.ownsRow.frozenAt (h:=own') (n * z+o)
  obtain ⟨q7,q8⟩:=World.ownsRow.stored (h:=own') (n * z+o) (a.eval y)
  unfold Oper.wp
  rw [fu hz hone q5 q6 e2 rfl]
  have hch:Chg (c.T i) w (w.setCell ⟨b,n * z+o,none⟩ (a.eval y)):=Chg.grown (co b (n * z+o) _) (fun g hg=>by cases hg;exact hb)
  have hm : .slice (some ⟨b,0,none⟩) m cp=Value.slice (some ⟨b,0,none⟩) (l.map f).length cp:=by
   rcases own.2 with ⟨hv0,_⟩|⟨gb,cap,cur,hv0,rest⟩
   ·cases hv0
   ·cases hv0;rfl
  refine ⟨rfl,c,hc.upd hi' hch (by simp) (fun hag=>.inr ⟨cells.set (n * z+o) (a.eval y),?_,hS,fun j hj=>?_⟩)⟩
  ·rw [e1,hm]
   simp only [List.length_map,List.length_set] at q7 ⊢
   exact q7
  ·simp only [List.length_map,List.length_set] at hj
   have hkeep:fR c.F w (w.setCell ⟨b,n * z+o,none⟩ (a.eval y)):=hag
   by_cases hjn:j=n
   ·subst hjn
    refine ⟨cs.set o (a.eval y),by rw [List.length_set,q1],?_,fun t u ht=>?_⟩
    ·rw [List.getElem_map,List.getElem_set_self]
     exact Rp.keep (fun _ h=>h) hkeep _ _ q4
    ·by_cases hto:o=t
     ·subst hto
      rw [List.getElem?_set_self ho] at ht
      rw [List.getElem?_set_self (by omega)]
      exact ht
     ·rw [List.getElem?_set_ne hto] at ht
      rw [List.getElem?_set_ne (by omega)]
      exact q3 t u ht
   ·obtain ⟨cs',p1,p2,p3⟩:=hel j (by rw [List.length_map];exact hj)
    refine ⟨cs',p1,?_,fun t u ht=>?_⟩
    ·rw [List.getElem_map] at p2 ⊢
     rw [List.getElem_set_ne (Ne.symm hjn)]
     exact Rp.keep (fun _ h=>h) hkeep _ _ p2
    ·have htz:t<z:=by
      rcases Nat.lt_or_ge t z with h|h
      ·exact h
      ·rw [List.getElem?_eq_none (by omega)] at ht;cases ht
     have hne:n * z+o≠j * z+t:=by
      rcases Nat.lt_or_ge j n with h|h
      ·have:j * z+z≤n * z:=by rw [← Nat.succ_mul];exact Nat.mul_le_mul_right z h
       omega
      ·have:n * z+z≤j * z:=by rw [← Nat.succ_mul];exact Nat.mul_le_mul_right z (by omega)
       omega
     rw [List.getElem?_set_ne hne]
     exact p3 t u ht) h hg
end
end Go.Proofs.YtnobdioccfeokaaGreatDoor
namespace Go.Proofs.YtnobdioccfeokaaGreatDoor
open Go.RowKit
set_option linter.unusedVariables false
set_option linter.unusedSimpArgs false
def pu (σ:Env):Sy→Bool
 | .k i=>match al σ i with|some (.tk (.row _ _ _))=>true|some (.tk (.deep _ _ _ _))=>true|some (.tk (.own (.l _ _) _ _))=>true|some (.tk (.grw _ _ _))=>true|_=>false
 | s=>one? s
theorem my {W0:cz} {N:Nat} {σ:Env} {a:Act} {w:World} {c:Cx} (h:aE W0 N σ a w c) {s:Sy} {v:Value} (hv:s.ok c w v) (hs:pu σ s=true):v.oneCell'=true:=by
 cases s with
 | k j=>
  unfold pu at hs
  dsimp only at hs
  obtain ⟨_,q2⟩:=hv
  rw [q2]
  split at hs
  ·rename_i hj
   obtain ⟨_,hT,_⟩:=h.tok j _ hj
   rcases hT with ⟨_,_,q3⟩|⟨cells,q1,_⟩
   ·rw [q3];rfl
   ·rcases q1.2 with ⟨q3,_⟩|⟨_,_,_,q3,_⟩ <;> rw [q3] <;> rfl
  ·rename_i hj
   obtain ⟨_,hT,_⟩:=h.tok j _ hj
   rcases hT with ⟨_,_,_,q3⟩|⟨cells,T,q1,_⟩
   ·rw [q3];rfl
   ·rcases q1.2 with ⟨q3,_⟩|⟨_,_,_,q3,_⟩ <;> rw [q3] <;> rfl
  ·rename_i hj
   obtain ⟨_,hT,_⟩:=h.tok j _ hj
   obtain ⟨a,k,q3,_⟩:=hT.1
   rw [(List.cons.inj q3).1];rfl
  ·rename_i hj
   obtain ⟨_,hT,_⟩:=h.tok j _ hj
   rcases hT with ⟨_,_,q3⟩|⟨cells,T,q1,_⟩
   ·rw [q3];rfl
   ·rcases q1.2 with ⟨q3,_⟩|⟨_,_,_,q3,_⟩ <;> rw [q3] <;> rfl
  ·cases hs
 | _=>exact E4 hv hs (fun i h=>by cases h)
def cP:List Sy→List Nat
 | []=>[]
 | s :: ss=>kSy s++cP ss
theorem kG {σ σ':Env} {s:Sy} (h:∀κ∈kSy s,al σ' κ=al σ κ):pu σ' s=pu σ s:=by
 cases s with
 | k j=>unfold pu;dsimp only;rw [h j (by simp [kSy])]
 | _=>rfl
theorem mD {W0:cz} {N:Nat} {σ:Env} {a:Act} {w:World} {c:Cx} (h:aE W0 N σ a w c):∀(ss:List Sy) (vs:List Value),Sy.oks c w ss vs→ss.all (pu σ)=true→∀u∈vs,u.oneCell'=true:=by
 intro ss
 induction ss with
 | nil=>intro vs ho _ u hu;rw [show vs = [] from ho] at hu;cases hu
 | cons s ss ih=>
  intro vs ⟨v,t,e1,e2,e3⟩ hs u hu
  rw [List.all_cons,Bool.and_eq_true] at hs
  subst e1
  rcases List.mem_cons.1 hu with rfl|hu
  ·exact my h e2 hs.1
  ·exact ih t e3 hs.2 u hu
theorem fo {σ σ':Env}:∀{ss:List Sy},(∀κ∈cP ss,al σ' κ=al σ κ)→ss.all (pu σ')=ss.all (pu σ):=by
 intro ss
 induction ss with
 | nil=>intro _;rfl
 | cons s ss ih=>
  intro h
  rw [List.all_cons,List.all_cons,kG (fun κ hκ=>h κ (by simp [cP,hκ])),ih (fun κ hκ=>h κ (by simp [cP,hκ]))]
def I2 (ss:List Sy):List (Nat × Sy)→List Sy
 | []=>ss
 | (i,s) :: ps=>I2 (ss.set i s) ps
def evq (σ:Env):List (Nat × Operand)→Option (List (Nat × Sy))
 | []=>some []
 | (i,x) :: ps=>match ev σ x,evq σ ps with
  | some s,some rs=>some ((i,s) :: rs)
  | _,_=>none
def Hg (vs:List Value):List (Nat × Value)→List Value
 | []=>vs
 | (i,v) :: ps=>Hg (vs.set i v) ps
def IT (n:Nat):List (Nat × Nat):=(List.range n).map fun i=>(i,1)
theorem AM {n:Nat} {place:Nat→Option (Nat × Nat)} (hp:∀i,i<n→place i=some (i,1)):∀(ps:List (Nat × Value)) (cs:List Value),n≤cs.length→(∀p∈ps,p.1<n∧p.2.oneCell'=true)→Instr.fill place cs.toArray ps=some (Hg cs ps).toArray:=by
 intro ps
 induction ps with
 | nil=>intro cs _ _;rfl
 | cons p ps ih=>
  intro cs hl h
  obtain ⟨i,v⟩:=p
  obtain ⟨h1,h2⟩:=h (i,v) (by simp)
  unfold Instr.fill
  rw [hp i h1]
  have hc:=lL h2
  dsimp only
  rw [hc]
  have:=ih (cs.set i v) (by simpa using hl) (fun p hp=>h p (by simp [hp]))
  have h3:i+1≤cs.length:=by omega
  simpa [Hg,h3] using this
theorem Dh {c:Cx} {w:World}:∀(ps:List (Nat × Sy)) (qs:List (Nat × Value)) (ss:List Sy) (vs:List Value),Sy.oks c w ss vs→ps.length=qs.length→(∀(j i:Nat) (s:Sy),ps[j]? = some (i,s)→∃v,qs[j]? = some (i,v)∧s.ok c w v)→Sy.oks c w (I2 ss ps) (Hg vs qs):=by
 intro ps
 induction ps with
 | nil=>intro qs ss vs h hl _;cases qs with|nil=>exact h|cons q qs=>simp at hl
 | cons p ps ih=>
  intro qs ss vs h hl hq
  obtain ⟨i,s⟩:=p
  cases qs with
  | nil=>simp at hl
  | cons q qs=>
   obtain ⟨v,e,hv⟩:=hq 0 i s rfl
   simp at e
   subst e
   exact ih qs _ _ (jY _ _ _ _ _ h hv) (by simpa using hl) (fun j i' s' hj=>by have:=hq (j+1) i' s' (by simpa using hj);simpa using this)
theorem Fq {W0:cz} {N:Nat} {a:Act} {w:World} {c:Cx} {σ σ':Env} (h:aE W0 N σ' a w c):∀(xs:List (Nat × Operand)) (ps:List (Nat × Sy)),evq σ xs=some ps→(∀κ∈kxp xs,al σ' κ=al σ κ)→ps.length=(xs.map fun p=>(p.1,a.eval p.2)).length∧∀(j i:Nat) (s:Sy),ps[j]? = some (i,s)→∃v,(xs.map fun p=>(p.1,a.eval p.2))[j]? = some (i,v)∧s.ok c w v:=by
 intro xs
 induction xs with
 | nil=>intro ps he _;cases he;exact ⟨rfl,fun j i s hj=>by simp at hj⟩
 | cons x xs ih=>
  intro ps he hk
  obtain ⟨i0,x⟩:=x
  unfold evq at he
  split at he
  ·rename_i s rs h1 h2
   cases he
   obtain ⟨h3,h4⟩:=ih rs h2 (fun κ hκ=>hk κ (by simp [kxp,hκ]))
   refine ⟨by simpa using h3,fun j i s' hj=>?_⟩
   cases j with
   | zero=>simp at hj;obtain ⟨rfl,rfl⟩:=hj;exact ⟨_,rfl,ap h (ah h1 (fun κ hκ=>hk κ (by simp [kxp,hκ])))⟩
   | succ j=>simp at hj;obtain ⟨v,e,hv⟩:=h4 j i s' hj;exact ⟨v,by simpa using e,hv⟩
  ·cases he
section
variable {P:Program} {ops:Array Oper} {W0:cz} {N:Nat} {Fin:Us→Env→Prop} {os:List Oper} {us:Us} {pk fk:List Nat} {σ:Env} {g:Option (Nat × Bool)} {gk:List Nat} {d ty ty' f:Nat} {pos:String} {after:Array Edge} {at':Array TypeId}
theorem ay {xs:List (Nat × Operand)} {ps:List (Nat × Sy)} {ds0:List D} {v0:Value} (h:Der P ops W0 N Fin os (us++[((d :: (gk++(cP (ps.map Prod.snd)++kxp xs)))++pk,([d])++fk)]) [] [] ((d,.sy (.ag (I2 (kI ds0) ps))) :: σ)) (hx:evq σ xs=some ps:=by rfl) (hr:zd P 4 ty'=some (.t ds0):=by rfl) (hv:rh P ty'=some v0:=by rfl) (hz:zok (.t ds0) v0.cells.toList=true:=by rfl) (hp:plc P ty'=some (IT v0.cells.size):=by rfl) (hi:(ps.all fun p=>Nat.blt p.1 v0.cells.size)=true:=by rfl) (h1:(ps.map Prod.snd).all (pu σ)=true:=by rfl) (hg:gst ops σ g=some (true,gk):=by rfl) (hN:Nat.blt d N=true:=by rfl) (hs:aF σ d=true:=by rfl):Der P ops W0 N Fin (⟨some d,.build ty' xs.toArray,ty,pos,after,g⟩ :: os) us pk fk σ:=
 cr (.ag (I2 (kI ds0) ps)) (cP (ps.map Prod.snd)++kxp xs) (fun σ' c a w hk hc=>by
  obtain ⟨h3,h4⟩:=Fq hc xs ps hx (fun κ hκ=>hk κ (by simp [hκ]))
  have hz0:Sy.oks c w (kI ds0) v0.cells.toList:=kA ds0 _ (n7 (.t ds0) _ hz)
  have hone:=fo (σ:=σ) (σ':=σ') (ss:=ps.map Prod.snd) (fun κ hκ=>hk κ (by simp [hκ]))
  rw [h1] at hone
  have hall:∀p∈(xs.map fun p=>(p.1,a.eval p.2)),p.1<v0.cells.size∧p.2.oneCell'=true:=fun p hm=>by
   obtain ⟨j,hj,e⟩:=List.getElem_of_mem hm
   have hj':j<ps.length:=by omega
   obtain ⟨v,e2,hv2⟩:=h4 j (ps[j]).1 (ps[j]).2 (List.getElem?_eq_getElem hj')
   rw [List.getElem?_eq_getElem hj,e] at e2
   cases e2
   exact ⟨Nat.blt_eq.mp (List.all_eq_true.1 hi _ (List.getElem_mem hj')),my hc hv2 (List.all_eq_true.1 hone _ (List.mem_map.2 ⟨_,List.getElem_mem hj',rfl⟩))⟩
  have hfill:Instr.fill (fun i=>(IT v0.cells.size)[i]?) v0.cells (xs.map fun p=>(p.1,a.eval p.2))=some (Hg v0.cells.toList (xs.map fun p=>(p.1,a.eval p.2))).toArray:=by
   have:=AM (n:=v0.cells.size) (place:=fun i=>(IT v0.cells.size)[i]?) (fun i hi=>by unfold IT;simp [hi]) _ v0.cells.toList (by simp) hall
   rw [Array.toArray_toList] at this;exact this
  have hb:=nO hv hp hfill
  refine ⟨.agg (Hg v0.cells.toList (xs.map fun p=>(p.1,a.eval p.2))).toArray,?_,_,rfl,Dh ps _ _ _ hz0 h3 h4⟩
  refine dl (X:=Instr.build ty' (xs.toArray.map fun (i,x)=>(i,a.eval x))) (run_build w ty' _ _ (nO hv hp ?_))
  simpa using hfill) h hg hN hs
theorem au {x y:Operand} {i:Nat} {cs ss:List Sy} (h:Der P ops W0 N Fin os (us++[((gk++(i :: (cP ss++(kx x++kx y))))++pk,([i])++fk)]) [] [] ((i,.tk (.bx ss)) :: σ)) (hx:ev σ x=some (.bx i 0):=by rfl) (hi:al σ i=some (.tk (.bx cs)):=by rfl) (hy:ev σ y=some (.ag ss):=by rfl) (hz:sizeOf? P ty'=some ss.length:=by rfl) (hl:Nat.beq cs.length ss.length=true:=by rfl) (h1:ss.all (pu σ)=true:=by rfl) (hg:gst ops σ g=some (true,gk):=by rfl):Der P ops W0 N Fin (⟨none,.store ty' x y,ty,pos,after,g⟩ :: os) us pk fk σ:=
 lq (i :: (cP ss++(kx x++kx y))) [(i,.tk (.bx ss))] (fun σ' c a w hk hc=>by
  obtain ⟨hAi,b,e1,e2⟩:=ap hc (ah hx (fun κ hκ=>hk κ (by simp [hκ])))
  have hi':=(hk i (by simp)).trans hi
  obtain ⟨_,⟨b',vs,e3,e4,e5,e6⟩,hlt⟩:=hc.tok i _ hi'
  rw [e1] at e3;cases e3
  obtain ⟨us',e7,e8⟩:=ap hc (ah hy (fun κ hκ=>hk κ (by simp [hκ])))
  have hone:=fo (σ:=σ) (σ':=σ') (ss:=ss) (fun κ hκ=>hk κ (by simp [hκ]))
  rw [h1] at hone
  have hlen:us'.length=vs.length:=by rw [cM _ _ e8,cM _ _ e5,Nat.eq_of_beq_eq_true hl]
  obtain ⟨w',r1,r2,r3,r4⟩:=mV (P:=P) e6 0 us' (by omega) ty' (by rw [cM _ _ e8];exact cY hz) (List.all_eq_true.2 (fun u hu=>mD hc _ _ e8 hone u hu))
  have hrun:(execOp a.eval ⟨none,.store ty' x y,ty,pos,after,g⟩).run P w=.ok .skip w':=tR (X:=Instr.storeAt ty' (a.eval x) (a.eval y)) (by rw [e2,e7];exact r1)
  unfold Oper.wp
  rw [hrun]
  have hpa:ly vs 0 us'=us':=by
   apply List.ext_getElem?
   intro j
   by_cases hj:j<us'.length
   ·have:=lS us' vs 0 j _ (by omega) (List.getElem?_eq_getElem hj)
    rw [Nat.zero_add] at this
    rw [this,List.getElem?_eq_getElem hj]
   ·rw [List.getElem?_eq_none (by rw [nk];omega),List.getElem?_eq_none (by omega)]
  rw [hpa] at r2
  exact ⟨rfl,c,hc.upd hi' (Chg.grown r3 (fun g hg=>by cases hg;exact e4)) r4 (fun hag=>⟨b,us',e1,e4,Sy.keeps (Cx.Le.refl c) hag _ _ e8,r2⟩)⟩) h hg
theorem aX {x:Operand} {i:Nat} {cs:List Sy} (h:Der P ops W0 N Fin os (us++[((d :: (gk++(i :: kx x)))++pk,([d])++fk)]) [] [] ((d,.sy (.ag cs)) :: σ)) (hx:ev σ x=some (.bx i 0):=by rfl) (hi:al σ i=some (.tk (.bx cs)):=by rfl) (hA:isAgg? P ty'=some true:=by rfl) (hz:sizeOf? P ty'=some cs.length:=by rfl) (hg:gst ops σ g=some (true,gk):=by rfl) (hN:Nat.blt d N=true:=by rfl) (hs:aF σ d=true:=by rfl):Der P ops W0 N Fin (⟨some d,.load ty' x,ty,pos,after,g⟩ :: os) us pk fk σ:=
 cr (.ag cs) (i :: kx x) (fun σ' c a w hk hh=>by
  obtain ⟨hAi,b,h1,h2⟩:=ap hh (ah hx (fun κ hκ=>hk κ (by simp [hκ])))
  obtain ⟨_,⟨b',vs,h3,h4,h5,h6⟩,_⟩:=hh.tok i _ ((hk i (by simp)).trans hi)
  rw [h1] at h3;cases h3
  exact ⟨.agg vs.toArray,dl (X:=Instr.loadAt ty' (a.eval x)) (by rw [h2];exact eL hA (by rw [hz,cM _ _ h5]) (fun j u hj=>by rw [Nat.zero_add];exact (h6 j u hj).1)),vs,rfl,h5⟩) h hg hN hs
theorem cb {x:Operand} {k o off:Nat} {cs:List Sy} (h:Der P ops W0 N Fin os (us++[((d :: (gk++kx x))++pk,([d])++fk)]) [] [] ((d,.sy (.atS (off+o) cs)) :: σ)) (hx:ev σ x=some (.atS off cs):=by rfl) (ho:fld P ty' k=some o:=by rfl) (hg:gst ops σ g=some (true,gk):=by rfl) (hN:Nat.blt d N=true:=by rfl) (hs:aF σ d=true:=by rfl):Der P ops W0 N Fin (⟨some d,.fieldAddr ty' x k,ty,pos,after,g⟩ :: os) us pk fk σ:=
 cr (.atS (off+o) cs) (kx x) (fun σ' c a w hk hc=>by
  obtain ⟨b,vs,h1,h2⟩:=ap hc (ah hx hk)
  exact ⟨_,dl (X:=Instr.fieldAt ty' (a.eval x) k) (by rw [h1];exact oO ho),b,vs,rfl,h2⟩) h hg hN hs
theorem bg {x:Operand} {o:Nat} {cs:List Sy} {s:Sy} (h:Der P ops W0 N Fin os (us++[((d :: (gk++kx x))++pk,([d])++fk)]) [] [] ((d,.sy s) :: σ)) (hx:ev σ x=some (.atS o cs):=by rfl) (hc:cs[o]? = some s:=by rfl) (hA:isAgg? P ty'=some false:=by rfl) (hg:gst ops σ g=some (true,gk):=by rfl) (hN:Nat.blt d N=true:=by rfl) (hs:aF σ d=true:=by rfl):Der P ops W0 N Fin (⟨some d,.load ty' x,ty,pos,after,g⟩ :: os) us pk fk σ:=
 cr s (kx x) (fun σ' c a w hk hh=>by
  obtain ⟨b,vs,h1,h2,h3,h4,_⟩:=ap hh (ah hx hk)
  obtain ⟨v,h7,h8⟩:=qB cs vs o s h3 hc
  have:=h4 o v h7
  rw [Nat.zero_add] at this
  exact ⟨v,dl (X:=Instr.loadAt ty' (a.eval x)) (by rw [h1];exact gY hA this),h8⟩) h hg hN hs
theorem az {x:Operand} {cs:List Sy} (h:Der P ops W0 N Fin os (us++[((d :: (gk++kx x))++pk,([d])++fk)]) [] [] ((d,.sy (.ag cs)) :: σ)) (hx:ev σ x=some (.atS 0 cs):=by rfl) (hA:isAgg? P ty'=some true:=by rfl) (hz:sizeOf? P ty'=some cs.length:=by rfl) (hg:gst ops σ g=some (true,gk):=by rfl) (hN:Nat.blt d N=true:=by rfl) (hs:aF σ d=true:=by rfl):Der P ops W0 N Fin (⟨some d,.load ty' x,ty,pos,after,g⟩ :: os) us pk fk σ:=
 cr (.ag cs) (kx x) (fun σ' c a w hk hh=>by
  obtain ⟨b,vs,h1,h2,h3,h4,_⟩:=ap hh (ah hx hk)
  exact ⟨.agg vs.toArray,dl (X:=Instr.loadAt ty' (a.eval x)) (by rw [h1];exact eL hA (by rw [hz,cM _ _ h3]) h4),vs,rfl,h3⟩) h hg hN hs
theorem oY {P:Program} {w:World} {t e:TypeId} {ad:Option Addr} {n k:Nat} (d:Nat) (ht:elem? P t=some e):(Op.equalIn (d+1) t (.slice ad n k) (.slice none 0 0)).run P w=.ok (decide (ad=none)) w:=by
 cases ad <;> simp [Op.equalIn,run_underlying (dE ht)]
theorem CF {P:Program} {ρ:Operand→Value} {w:World} {d:Option Tmp} {x:Operand} {ty ty' ty2 e:Nat} {pos:String} {after:Array Edge} {g:Option (Nat × Bool)} {ad:Option Addr} {n k:Nat} (ht:elem? P ty'=some e) (h1:ρ x=.slice ad n k) (h2:ρ (.const (.slice none 0 0))=.slice none 0 0):(execOp ρ ⟨d,.binOp .eql ty' x (.const (.slice none 0 0)) ty2,ty,pos,after,g⟩).run P w=.ok (.value (.bool (decide (ad=none)))) w:=by
 have h3:(Op.equal ty' (.slice ad n k) (.slice none 0 0)).run P w=.ok (decide (ad=none)) w:=oY 9999 ht
 simp [execOp,h1,h2,eqGuard,binOp,h3,go_sem]
theorem bd {x:Operand} {z:Nat} {xs:List D} {ty2 e:Nat} (h:Der P ops W0 N Fin os (us++[((d :: (gk++kx x))++pk,([d])++fk)]) [] [] ((d,.sy (.q (xs = []))) :: σ)) (hx:ev σ x=some (.d (.l z xs)):=by rfl) (ht:elem? P ty'=some e:=by rfl) (hg:gst ops σ g=some (true,gk):=by rfl) (hN:Nat.blt d N=true:=by rfl) (hs:aF σ d=true:=by rfl):Der P ops W0 N Fin (⟨some d,.binOp .eql ty' x (.const (.slice none 0 0)) ty2,ty,pos,after,g⟩ :: os) us pk fk σ:=
 cr (.q (xs = [])) (kx x) (fun σ' c a w hk hc=>by
  obtain ⟨ad,k,h1,h2,h3,h4,h5⟩:=ap hc (ah hx hk)
  have h1':a.eval x=.slice ad xs.length k:=by simpa using h1
  refine ⟨.bool (decide (ad=none)),CF ht h1' rfl,decide (ad=none),rfl,fun hd=>?_⟩
  have hd':=of_decide_eq_true hd
  have:=h4 hd'
  exact List.eq_nil_of_length_eq_zero (by omega)) h hg hN hs
end
theorem Jb {P:Program} {W0:cz} {N:Nat} {σ:Env} {Q:Exit→Act→World→Prop} {x y:Code} {c:Operand} {p:Prop} (ht:p→ar P W0 N x σ Q) (hf:ar P W0 N y σ Q) (hs:ev σ c=some (.q p):=by rfl):ar P W0 N (.cond c x y) σ Q:=fun a w hh=>by
 obtain ⟨cx,hc⟩:=id hh
 obtain ⟨b,hv,hp⟩:=ap hc hs
 cases b
 ·exact wp_cond_false hv (hf a w hh)
 ·exact wp_cond_true hv (ht (hp rfl) a w hh)
theorem Holds.fzS {W0:cz} {N t i:Nat} {σ:Env} {cs:List Sy} {a:Act} {w:World} (ht:al σ t=some (.sy (.bx i 0))) (hi:al σ i=some (.tk (.bx cs))) (h1:cs.all (pu σ)=true) (hu:Nat.beq i t=false) (hh:Holds W0 N σ a w):Holds W0 N ((t,.sy (.atS 0 cs)) :: (i,.no) :: σ) a w:=by
 obtain ⟨c,hc⟩:=hh
 have hf:=hc.freeze hi
 obtain ⟨v,h3,_,b,h4,h5⟩:=hc.tmp t _ ht
 obtain ⟨_,⟨b',us,e3,e4,e5,e6⟩,_⟩:=hc.tok i _ hi
 rw [h4] at e3;cases e3
 have hle:Cx.Le c { c with F:=fun b=>c.F b∨c.T i b }:=⟨fun _ h=>.inl h,fun _ h=>⟨h,rfl⟩⟩
 have hput:=hf.put (d:=t) (s:=.atS 0 cs) (v:=v) (by rw [← hc.size];exact (Array.getElem?_eq_some_iff.1 h3).1) ⟨b,us,h5,.inr e4,Sy.keeps hle (fun _ _ _=>rfl) _ _ e5,fun j u hj=>by rw [Nat.zero_add];exact (e6 j u hj).1,mD hc _ _ e5 h1⟩ (.inr ⟨.bx i 0,by rw [ab,if_neg (fun e=>by rw [e] at hu;simp at hu)];exact ht⟩)
 have e:a.put (some t) v=a:=qX (iZ _ _ _) (fun j=>by
  simp only [Act.put]
  by_cases hj:t=j
  ·subst hj
   rw [Array.getElem?_setIfInBounds_self_of_lt (Array.getElem?_eq_some_iff.1 h3).1,h3]
  ·rw [Array.getElem?_setIfInBounds_ne hj])
 rw [e] at hput
 exact ⟨_,hput⟩
def C2 (d:Nat):Nat→List Pt→List Sy
 | _,[]=>[]
 | i,.d r :: ps=>.d r :: C2 d (i+1) ps
 | i,.tk _ :: ps=>.k (30000+1000 * i+d) :: C2 d (i+1) ps
def nE (d:Nat):Nat→List Pt→Env
 | _,[]=>[]
 | i,.d _ :: ps=>nE d (i+1) ps
 | i,.tk t :: ps=>(30000+1000 * i+d,.tk t) :: nE d (i+1) ps
theorem Tk.cx {t:Tk} (hb:t.rowB=true) {c c':Cx} {w:World} {v:Value} {S:BS} (hF:∀b,c.F b→c'.F b) (h:t.ok c w v S):t.ok c' w v S:=by
 cases t with
 | bx cs=>cases hb
 | mp m=>cases hb
 | abs p tag=>cases hb
 | bxs cs=>cases hb
 | bxt cs u=>cases hb
 | grw z e ds=>exact h
 | deep z e ds ps=>exact h
 | own d pin tag=>exact h
 | row z e ds=>
  rcases h with h|⟨cells,h1,h2,h3⟩
  ·exact .inl h
  ·refine .inr ⟨cells,h1,h2,fun j hj=>?_⟩
   obtain ⟨cs,q1,q2,q3⟩:=h3 j hj
   exact ⟨cs,q1,Rp.keep hF (fun _ _ _=>rfl) _ _ q2,q3⟩
theorem Bn (d:Nat):∀(ps:List Pt) (i j:Nat) (x:In),al (nE d i ps) j=some x→∃k,i≤k∧j=30000+1000 * k+d:=by
 intro ps
 induction ps with
 | nil=>intro i j x h;cases h
 | cons p ps ih=>
  intro i j x h
  cases p with
  | d r=>obtain ⟨k,h1,h2⟩:=ih (i+1) j x h;exact ⟨k,by omega,h2⟩
  | tk t=>
   unfold nE at h
   rw [ab] at h
   split at h
   ·rename_i e;exact ⟨i,Nat.le_refl _,e.symm⟩
   ·obtain ⟨k,h1,h2⟩:=ih (i+1) j x h;exact ⟨k,by omega,h2⟩
theorem oz {W0:cz} {N:Nat} {σ:Env} {a:Act} {w':World} {c0:Cx} (hc:aE W0 N σ a w' c0) (d m:Nat) (T:Nat→BS) (hm:W0.w.heap.size≤m) (hold:∀j u,al σ j=some (.tk u)→∀b,c0.T j b→b<m) (hT:∀i b,T i b→¬c0.F b∧m≤b∧b<w'.heap.size) (hdis:∀i j,i≠j→∀b,T i b→¬T j b):∀(ps:List Pt) (i:Nat) (vs:List Value),(∀k,al σ (30000+1000 * (i+k)+d)=none∨ps.length≤k)→vs.length=ps.length→(∀(k:Nat) (p:Pt),ps[k]? = some p→∃u,vs[k]? = some u∧p.ok w' c0.F (T (i+k)) u) →
 ∃c',aE W0 N (nE d i ps++σ) a w' c'∧c0.Le c'∧c'.F=c0.F∧(∀j u,al (nE d i ps++σ) j=some (.tk u)→(∀b,c'.T j b→b<m)∨∃k,i≤k∧c'.T j=T k)∧Sy.oks c' w' (C2 d i ps) vs:=by
 intro ps
 induction ps with
 | nil=>
  intro i vs _ hl _
  exact ⟨c0,hc,Cx.Le.refl _,rfl,fun j u h=>.inl (hold j u h),List.eq_nil_of_length_eq_zero hl⟩
 | cons p ps ih=>
  intro i vs hf hl hp
  cases vs with
  | nil=>simp at hl
  | cons u vs=>
   obtain ⟨c1,h1,h2,h3,h4,h5⟩:=ih (i+1) vs (fun k=>by
    have:=hf (k+1)
    rw [show i+(k+1)=i+1+k by omega] at this
    simpa using this) (by simpa using hl) (fun k p' hk=>by
    have:=hp (k+1) p' (by simpa using hk)
    rw [show i+(k+1)=i+1+k by omega] at this
    simpa using this)
   obtain ⟨u',e1,hu⟩:=hp 0 p rfl
   simp at e1
   subst e1
   cases p with
   | d r=>exact ⟨c1,h1,h2,h3,fun j x hj=>(h4 j x hj).imp id (fun ⟨k,a,b⟩=>⟨k,by omega,b⟩),u,vs,rfl,by show DV w' c1.F r u;rw [h3];exact hu.2,h5⟩
   | tk t=>
    have hnone:al (nE d (i+1) ps++σ) (30000+1000 * i+d)=none:=by
     rw [eW]
     cases e:al (nE d (i+1) ps) (30000+1000 * i+d) with
     | some x=>obtain ⟨k,k1,k2⟩:=Bn d ps _ _ _ e;omega
     | none=>
      have:=(hf 0).resolve_right (by simp)
      simpa using this
    have hnew:=h1.new (i:=30000+1000 * i+d) hnone (t:=t) (v:=u) (S:=T i) (Tk.cx hu.1 (fun b hb=>by rw [h3];exact hb) hu.2) (fun b hb=>by rw [h3];exact ⟨(hT i b hb).1,(hT i b hb).2.2,.inr (Nat.le_trans hm (hT i b hb).2.1)⟩) (fun j x hj b hb hb'=>by
     rcases h4 j x hj with h|⟨k,k1,k2⟩
     ·have:=h b hb';have:=(hT i b hb).2.1;omega
     ·rw [k2] at hb';exact hdis i k (by omega) b hb hb')
    have hA:¬c1.A (30000+1000 * i+d):=fun hA=>h1.all _ hA hnone
    have hle:=Cx.add_le (v:=u) (S:=T i) hA
    refine ⟨_,hnew,⟨fun b hb=>hle.F b (h2.F b hb),fun j hj=>⟨(hle.ρ j (h2.ρ j hj).1).1,(hle.ρ j (h2.ρ j hj).1).2.trans (h2.ρ j hj).2⟩⟩,h3,fun j x hj=>?_,u,vs,rfl,⟨.inr rfl,(if_pos rfl).symm⟩,Sy.keeps hle (fun _ _ _=>rfl) _ _ h5⟩
    show (∀b,(if j=30000+1000 * i+d then T i else c1.T j) b→b<m)∨∃k,i≤k∧(if j=30000+1000 * i+d then T i else c1.T j)=T k
    by_cases e:j=30000+1000 * i+d
    ·rw [if_pos e];exact .inr ⟨i,Nat.le_refl _,rfl⟩
    ·rw [if_neg e]
     have hj':al (nE d (i+1) ps++σ) j=some (.tk x):=by
      have:al ((30000+1000 * i+d,In.tk t) :: (nE d (i+1) ps++σ)) j=some (.tk x):=hj
      rw [ab,if_neg (Ne.symm e)] at this;exact this
     exact (h4 j x hj').imp id (fun ⟨k,a,b⟩=>⟨k,by omega,b⟩)
section
variable {P:Program} {ops:Array Oper} {W0:cz} {N:Nat} {Fin:Us→Env→Prop} {os:List Oper} {us:Us} {pk fk:List Nat} {σ:Env} {g:Option (Nat × Bool)} {gk:List Nat} {d ty ty' f:Nat} {pos:String} {after:Array Edge} {at':Array TypeId} {xs:List Operand} {ds:List D}
end
end Go.Proofs.YtnobdioccfeokaaGreatDoor
namespace Go.Proofs.YtnobdioccfeokaaGreatDoor
open Go.RowKit
set_option linter.unusedVariables false
set_option linter.unusedSimpArgs false
theorem JR {w:World} {T:BS} {ls:List Int} {e z:Nat} {v:Value} {cells:List Value} {F:BS} (own:w.ownsRow 0 e 1 v (ls.map D.i).length cells) (hT:∀g,v.ownBlock=some g→T g) (hel:∀j (h:j<(ls.map D.i).length),∃cs,cs.length=1∧Rp w F (ls.map D.i)[j] cs∧∀t u,cs[t]? = some u→cells[j * 1+t]? = some u):Rp w T (DI ls) [v]:=by
 rcases own.2 with ⟨hv,hn⟩|⟨g,cap,cur,hv,_,hg,h5,h6,h7,h8⟩
 ·have:ls = []:=by cases ls with|nil=>rfl|cons=>simp at hn
  subst this
  exact ⟨none,0,by rw [hv];rfl,Nat.le_refl _,by decide,fun _=>rfl,.inl rfl⟩
 ·refine ⟨_,cap,by rw [hv],h5,h6,fun h=>(by cases h),.inr ⟨g,0,rfl,hT g (by rw [hv];rfl),(gB _ _).2 fun j hj=>?_⟩⟩
  obtain ⟨cs,q1,q2,q3⟩:=hel j hj
  rw [List.getElem_map] at q2 ⊢
  refine ⟨cs,q1,q2,fun t u ht=>?_⟩
  have:=q3 t u ht
  rw [hv] at own
  rw [Nat.zero_add,World.ownsRow.cellAt own (j * 1+t)]
  ·exact this
  ·rcases Nat.lt_or_ge (j * 1+t) cells.length with h|h
   ·rw [← own.1];exact h
   ·rw [List.getElem?_eq_none h] at this;cases this
theorem xU {w:World} {e z:Nat} {v:Value} {n:Nat} {cells:List Value} (own:w.ownsRow 0 e z v n cells) {g:Nat} (hg:v.ownBlock=some g):g<w.heap.size∧∀o,w.frozen? ⟨g,o,none⟩=false:=by
 refine ⟨(own.lt g hg).2,fun o=>?_⟩
 rcases own.2 with ⟨hv,_⟩|⟨g',cap,cur,hv,_,hb,_⟩
 ·rw [hv] at hg;cases hg
 ·rw [hv] at hg;cases hg
  exact frozen_of_row w _ o cur e hb
theorem Holds.nilD {W0:cz} {N i o z e id:Nat} {σ:Env} {cs:List Sy} {a:Act} {w:World} (hi:al σ i=some (.tk (.bx cs))) (hc:cs[o]? = some (.d (.n z))) (hf:al σ id=none) (hne:Nat.beq id i=false) (hh:Holds W0 N σ a w):Holds W0 N ((i,.tk (.bx (cs.set o (.k id)))) :: (id,.tk (.deep z e [] [])) :: σ) a w:=by
 obtain ⟨c,h⟩:=hh
 obtain ⟨_,⟨b,us,p1,p2,p3,p4⟩,_⟩:=h.tok i _ hi
 obtain ⟨v0,p5,a0,p6⟩:=qB cs us o _ p3 hc
 have hne':¬id=i:=fun e=>by rw [e] at hne;simp at hne
 have hle:c.Le (c.add id v0 (fun _=>False)):=Cx.add_le (fun hA=>h.all id hA hf)
 have h1:=h.new (i:=id) hf (t:=.deep z e [] []) (v:=v0) (S:=fun _=>False) (.inl ⟨rfl,rfl,a0,by simpa using p6⟩) (fun b hb=>hb.elim) (fun j u _ b hb=>hb.elim)
 have hi':al ((id,.tk (.deep z e [] [])) :: σ) i=some (.tk (.bx cs)):=by rw [ab,if_neg hne'];exact hi
 refine ⟨_,h1.upd hi' ⟨rfl,rfl,rfl,Nat.le_refl _,fun _ _ _=>rfl⟩ rfl (fun _=>⟨b,us,(if_neg (Ne.symm hne')).trans p1,?_,?_,p4⟩)⟩
 ·show (if i=id then _ else c.T i) b
  rw [if_neg (Ne.symm hne')];exact p2
 ·have:=jY cs us o (.k id) v0 (Sy.keeps hle (fun _ _ _=>rfl) _ _ p3) ⟨.inr rfl,(if_pos rfl).symm⟩
  rw [rg p5] at this
  exact this
theorem Ja (i o id e:Nat) {P:Program} {W0:cz} {N:Nat} {σ:Env} {Q:Exit→Act→World→Prop} {x:Code} {z:Nat} {cs:List Sy} (h:ar P W0 N x ((i,.tk (.bx (cs.set o (.k id)))) :: (id,.tk (.deep z e [] [])) :: σ) Q) (hi:al σ i=some (.tk (.bx cs)):=by rfl) (hc:cs[o]? = some (.d (.n z)):=by rfl) (hf:al σ id=none:=by rfl) (hne:Nat.beq id i=false:=by rfl):ar P W0 N x σ Q:=fun a w hh=>h a w (hh.nilD hi hc hf hne)
section
variable {P:Program} {ops:Array Oper} {W0:cz} {N:Nat} {Fin:Us→Env→Prop} {os:List Oper} {us:Us} {pk fk:List Nat} {σ:Env} {g:Option (Nat × Bool)} {gk:List Nat} {d ty ty' f:Nat} {pos:String} {after:Array Edge}
theorem cg {x:Operand} {e j e1:Nat} {n p:Int} {ls:List Int} {v:Value} (h:Der P ops W0 N Fin os (us++[((d :: (gk++((10000+d) :: j :: kx x)))++pk,([d,10000+d,j])++fk)]) [] [] ((d,.sy (.k (10000+d))) :: (10000+d,.tk (.deep 3 e [.t [.i n,.i p,DI ls]] [])) :: (j,.no) :: σ)) (hx:ev σ x=some (.ag [.d (.i n),.d (.i p),.k j]):=by rfl) (hj:al σ j=some (.tk (.row 1 e1 (ls.map .i))):=by rfl) (hf:al σ (10000+d)=none:=by rfl) (he:elem? P ty'=some e:=by rfl) (hz:sizeOf? P e=some 3:=by rfl) (hv:rh P e=some v:=by rfl) (hvs:v.cells.size=3:=by rfl) (hg:gst ops σ g=some (true,gk):=by rfl) (hN:Nat.blt d N=true:=by rfl) (hs:aF ((10000+d,.tk (.deep 3 e [.t [.i n,.i p,DI ls]] [])) :: (j,.no) :: σ) d=true:=by rfl) (hu:(Nat.beq (10000+d) d || Nat.beq j d || Nat.beq j (10000+d))=false:=by rfl):Der P ops W0 N Fin (⟨some d,.buildSlice ty' 1 #[(0,x)],ty,pos,after,g⟩ :: os) us pk fk σ:=by
 simp only [Bool.or_eq_false_iff] at hu
 refine jy (.k (10000+d)) ((10000+d) :: j :: kx x) [(10000+d,.tk (.deep 3 e [.t [.i n,.i p,DI ls]] [])),(j,.no)] (fun σ' c a w hk hc=>?_) h hg hN hs (by simp [hu.1.1,hu.1.2])
 obtain ⟨vs,e1',v1,t1,rfl,o1,v2,t2,rfl,o2,v3,t3,rfl,o3,o4⟩:=ap hc (ah hx (fun κ hκ=>hk κ (by simp [hκ])))
 cases (show t3 = [] from o4)
 have hj':=(hk j (by simp)).trans hj
 obtain ⟨hAj,hT,hlt⟩:=hc.tok j _ hj'
 obtain ⟨_,rfl⟩:=o3
 have hone:(c.ρ j).oneCell'=true:=by
  rcases hT with ⟨_,_,q3⟩|⟨cells,q1,_⟩
  ·rw [q3];rfl
  ·rcases q1.2 with ⟨q3,_⟩|⟨_,_,_,q3,_⟩ <;> rw [q3] <;> rfl
 have hrow:Rp w (fun b=>(∃g,g=b∧(c.ρ j).ownBlock=some g∧c.T j g∧b<w.heap.size∧∀o,w.frozen? ⟨b,o,none⟩=false)) (DI ls) [c.ρ j]:=by
  rcases hT with ⟨hd,a0,q3⟩|⟨cells,q1,q2,q3⟩
  ·have:ls = []:=by cases ls with|nil=>rfl|cons=>simp at hd
   subst this
   exact ⟨a0,0,by rw [q3];rfl,Nat.le_refl _,by decide,fun _=>rfl,.inl rfl⟩
  ·exact JR (z:=1) q1 (fun g hg=>⟨g,rfl,hg,q2 g hg,xU q1 hg⟩) q3
 have hc3:(Value.agg [v1,v2,c.ρ j].toArray).cells = [v1,v2,c.ρ j].toArray:=rfl
 unfold Oper.wp
 rw [rH (zs:=[]) he hz hv hvs ⟨by decide,by decide⟩ (by rw [e1']) rfl]
 have hX:Ext w (w.alloc (.cells [v1,v2,c.ρ j].toArray e)):=(Ext.refl w).alloc _
 have hc1:=hc.grow hX c.F (fun _ h=>h) (fun _ h=>.inl h) (fun b hb=>Nat.lt_of_lt_of_le (hc.lt b hb) (Below.size hX))
 have hc2:=hc1.eff (τ:=[]) hj' ⟨rfl,rfl,rfl,Nat.le_refl _,fun _ _ _=>rfl⟩ c.F (fun _ h=>h) (fun _ h=>.inl h) hc1.lt
 have hne:¬j=10000+d:=fun e=>by rw [e] at hu;simp at hu
 have hf':al ((j,.no) :: σ') (10000+d)=none:=by rw [ab,if_neg hne,hk _ (by simp),hf]
 have hfr:∀b,b<w.heap.size→∀o,(w.alloc (.cells [v1,v2,c.ρ j].toArray e)).frozen? ⟨b,o,none⟩=w.frozen? ⟨b,o,none⟩:=fun b hb o=>World.frozen?_of_block (hX.block b hb)
 refine ⟨_,_,rfl,hc2.new (i:=10000+d) (t:=.deep 3 e [.t [.i n,.i p,DI ls]] []) (v:=.slice (some ⟨w.heap.size,0,none⟩) 1 1) (S:=fun b=>b=w.heap.size∨c.T j b) hf' (.inr ⟨[v1,v2,c.ρ j],fun k b=>k=0∧(∃g,g=b∧(c.ρ j).ownBlock=some g∧c.T j g∧b<w.heap.size∧∀o,w.frozen? ⟨b,o,none⟩=false),?_,fun g hg=>?_,fun k b hb=>?_,fun i k hik b hb hb'=>hik (hb.1.trans hb'.1.symm),fun k hk'=>?_,fun p hp=>(by cases hp)⟩) (fun b hb=>?_) (fun j' u hj'' b hb hb'=>?_),.inr rfl,(if_pos rfl).symm⟩
 ·have:=World.ownsRow_lit (base:=0) (e:=e) (size:=3) w [v1,v2,c.ρ j].toArray 1 (Nat.zero_le _) (by decide) rfl
  exact this
 ·cases hg
  exact ⟨.inl rfl,fun k hk2=>by obtain ⟨_,g,e1,_,_,h3,_⟩:=hk2;exact absurd h3 (Nat.lt_irrefl _)⟩
 ·obtain ⟨_,g,e1,_,h2,h3,h4⟩:=hb
  subst e1
  exact ⟨.inr h2,Nat.lt_of_lt_of_le h3 (Below.size hX),fun o=>(hfr g h3 o).trans (h4 o)⟩
 ·have hk0:k=0:=by simpa using hk'
  subst hk0
  refine ⟨[v1,v2,c.ρ j],rfl,?_,fun t u ht=>by simpa using ht⟩
  refine Rp.keep (w:=w) (S:=fun b=>(∃g,g=b∧(c.ρ j).ownBlock=some g∧c.T j g∧b<w.heap.size∧∀o,w.frozen? ⟨b,o,none⟩=false)) (fun b hb=>⟨rfl,hb⟩) (fun b _ hl=>hX.block b hl) (.t [.i n,.i p,DI ls]) _ ⟨[v1],_,rfl,o1,[v2],_,rfl,o2,[c.ρ j],_,rfl,hrow,rfl⟩
 ·rcases hb with rfl|hb
  ·exact ⟨fun hF=>absurd (hc.lt _ hF) (Nat.lt_irrefl _),by simp,.inr hc.ext.size⟩
  ·exact ⟨(hlt b hb).1,Nat.lt_of_lt_of_le (hlt b hb).2.1 (Below.size hX),(hlt b hb).2.2⟩
 ·rw [ab] at hj''
  split at hj''
  ·cases hj''
  ·rename_i hjj
   rcases hb with rfl|hb
   ·exact absurd ((hc.tok j' u hj'').2.2 _ hb').2.1 (Nat.lt_irrefl _)
   ·exact hc.off j j' _ u hj' hj'' hjj b hb hb'
theorem be {x y:Operand} {i j e n:Nat} {ds:List D} {y0:D} {ti:TypeInfo} {z:Value} (h:Der P ops W0 N Fin os (us++[((d :: (gk++(i :: j :: (10000+d) :: (kx x++kx y))))++pk,([d,10000+d,i,j])++fk)]) [] [] ((d,.sy (.k (10000+d))) :: (10000+d,.tk (.deep n e (ds++[y0]) [])) :: (i,.no) :: (j,.no) :: σ)) (hx:ev σ x=some (.k i):=by rfl) (hi:al σ i=some (.tk (.deep n e ds [])):=by rfl) (hy:ev σ y=some (.k j):=by rfl) (hj:al σ j=some (.tk (.deep n e [y0] [])):=by rfl) (hf:al σ (10000+d)=none:=by rfl) (he:elem? P ty'=some e:=by rfl) (hti:P.info? e=some ti:=by rfl) (htz:ti.zero=some z:=by rfl) (hsz:ti.size=n:=by rfl) (hzs:z.cells.size=n:=by rfl) (hn:(Nat.blt 0 n && Nat.ble ti.bytes 1000)=true:=by rfl) (hb:ds.length≤1000000:=by first|omega|(simp only [List.length_map,List.length_take];omega)) (hg:gst ops σ g=some (true,gk):=by rfl) (hN:Nat.blt d N=true:=by rfl) (hs:aF ((10000+d,.tk (.deep n e (ds++[y0]) [])) :: (i,.no) :: (j,.no) :: σ) d=true:=by rfl) (hu:(Nat.beq (10000+d) d || Nat.beq i d || Nat.beq j d || Nat.beq i (10000+d) || Nat.beq j (10000+d) || Nat.beq i j)=false:=by rfl):Der P ops W0 N Fin (⟨some d,.call { callee:=.builtin .append,args:=#[x,y],argTypes:=#[ty',ty'] },ty,pos,after,g⟩ :: os) us pk fk σ:=by
 simp only [Bool.or_eq_false_iff] at hu
 obtain ⟨⟨⟨⟨⟨hu1,hu2⟩,hu3⟩,hu4⟩,hu5⟩,hu6⟩:=hu
 refine jy (.k (10000+d)) (i :: j :: (10000+d) :: (kx x++kx y)) [(10000+d,.tk (.deep n e (ds++[y0]) [])),(i,.no),(j,.no)] (fun σ' c a w hk hc=>?_) h hg hN hs (by simp [hu1,hu2,hu3])
 rw [Bool.and_eq_true] at hn
 have hn0:0<n:=Nat.blt_eq.mp hn.1
 have hij:¬i=j:=fun e=>by rw [e] at hu6;simp at hu6
 have hi':=(hk i (by simp)).trans hi
 have hj':=(hk j (by simp)).trans hj
 obtain ⟨hAi,hxv⟩:=ap hc (ah hx (fun κ hκ=>hk κ (by simp [hκ])))
 obtain ⟨hAj,hyv⟩:=ap hc (ah hy (fun κ hκ=>hk κ (by simp [hκ])))
 obtain ⟨_,hTi,hlt⟩:=hc.tok i _ hi'
 obtain ⟨_,hTj,hltj⟩:=hc.tok j _ hj'
 rcases hTj with ⟨hd,_⟩|⟨news,Tj,jown,jS,jT,jdis,jel,_⟩
 ·cases hd
 obtain ⟨cs0,q1,q2,q3⟩:=jel 0 (by simp)
 have hnl:news.length=1 * n:=jown.1
 have hncs:news=cs0:=by
  apply List.ext_getElem?
  intro t
  rcases Nat.lt_or_ge t cs0.length with ht|ht
  ·rw [List.getElem?_eq_getElem ht]
   have:=q3 t _ (List.getElem?_eq_getElem ht)
   rw [Nat.zero_mul,Nat.zero_add] at this;exact this
  ·rw [List.getElem?_eq_none ht,List.getElem?_eq_none (by omega)]
 have hnone:∀u∈news,u.oneCell'=true:=by rw [hncs];exact Rp.one _ _ q2
 obtain ⟨g',k',hvj⟩:∃g' k',c.ρ j=.slice (some ⟨g',0,none⟩) 1 k':=by
  rcases jown.2 with ⟨_,hn'⟩|⟨g',k',_,hv,_⟩
  ·simp at hn'
  ·exact ⟨g',k',hv⟩
 have hnc:∀t u,news[t]? = some u→w.cell? ((⟨g',0,none⟩:Addr).add t)=some u:=jown.cells (by rw [hvj];rfl)
 obtain ⟨v',w',cells,T,hrun,own',hcl,hch,hob,hT1,hT2,hT3⟩:∃(v':Value) (w':World) (cells:List Value) (T:Nat→BS),(Builtin.append_ #[ty',ty'] ty #[a.eval x,c.ρ j]).run P w=.ok v' w'∧w'.ownsRow 0 e n v' (ds.length+1) (cells++news)∧cells.length=ds.length * n∧Chg (c.T i) w w'∧(∀b,v'.ownBlock=some b→c.T i b∨b=w.heap.size) ∧
  (∀k b,T k b→c.T i b∧b<w.heap.size∧v'.ownBlock≠some b∧w'.heap[b]? = w.heap[b]?∧∀o,w.frozen? ⟨b,o,none⟩=false)∧(∀k l,k≠l→∀b,T k b→¬T l b)∧(∀k (h:k<ds.length),∃cs,cs.length=n∧Rp w (T k) ds[k] cs∧∀t u,cs[t]? = some u→cells[k * n+t]? = some u):=by
  rcases hTi with ⟨hd,_,a0,hv0⟩|⟨cells,T,own,hS,hT,hdis,hel,_⟩
  ·subst hd
   obtain ⟨v',w',r1,r2,r3,r4⟩:=kc (P:=P) (ty:=ty) he hti htz hsz hzs hn0 a0 ⟨g',0,none⟩ 1 k' news hnl hnc hnone (by decide) (by have:=Nat.le_of_ble_eq_true hn.2;omega) (by decide)
   refine ⟨v',w',[],fun _ _=>False,?_,by simpa using r2,by simp,Chg.grown r3 (fun g hg=>by cases hg),fun b hb=>.inr (r4 b hb),fun k b hb=>hb.elim,fun k l _ b hb=>hb.elim,fun k hk'=>absurd hk' (Nat.not_lt_zero _)⟩
   rw [hxv,hv0,hvj];exact r1
  ·rw [← hxv] at own hS
   have hmb:(ds.length+1) * ti.bytes≤140737488355328:=by
    have:(ds.length+1) * ti.bytes≤1000001 * 1000:=Nat.mul_le_mul (by omega) (Nat.le_of_ble_eq_true hn.2)
    omega
   obtain ⟨v',w',r1,r2,r3,_,r5⟩:=run_append_own_at (P:=P) w 0 ty' ty e ti z n ti.bytes (dE he) hti htz hsz rfl hzs hn0 (a.eval x) ds.length cells own ⟨g',0,none⟩ 1 k' news hnl hnc hnone (by unfold maxLen;omega) hmb (Nat.zero_le _)
   have hne:∀k b,T k b→some b≠(a.eval x).ownBlock:=fun k b hb e=>(hS b e.symm).2 k hb
   refine ⟨v',w',cells,T,by rw [hvj];exact r1,r2,own.1,Chg.grown r3 (fun g hg=>(hS g hg).1),fun b hb=>?_,fun k b hb=>?_,hdis,hel⟩
   ·rcases r5 with r5|r5
    ·exact .inl (hS b (by rw [← r5];exact hb)).1
    ·rw [r5] at hb;cases hb;exact .inr rfl
   ·obtain ⟨t1,t2,t3⟩:=hT k b hb
    refine ⟨t1,t2,fun e=>?_,r3.block b t2 (hne k b hb),t3⟩
    rcases r5 with r5|r5
    ·exact hne k b hb (by rw [← r5,e])
    ·rw [r5] at e;cases e;exact Nat.lt_irrefl _ t2
 have hex:(execOp a.eval ⟨some d,.call { callee:=.builtin .append,args:=#[x,y],argTypes:=#[ty',ty'] },ty,pos,after,g⟩).run P w=.ok (.value v') w':=by
  generalize a.eval=ρ at *
  simp [execOp,resolve,invoke,builtin,hyv,hrun,Result.andThen]
 have hi1:al ((j,.no) :: σ') i=some (.tk (.deep n e ds [])):=by rw [ab,if_neg (Ne.symm hij)];exact hi'
 have hc1:=hc.eff (τ:=[]) hj' ⟨rfl,rfl,rfl,Nat.le_refl _,fun _ _ _=>rfl⟩ c.F (fun _ h=>h) (fun _ h=>.inl h) hc.lt
 have hc2:=hc1.eff (τ:=[]) hi1 hch c.F (fun _ h=>h) (fun _ h=>.inl h) (fun b hb=>Nat.lt_of_lt_of_le (hc.lt b hb) hch.size)
 have hne1:¬i=10000+d:=fun e=>by rw [e] at hu4;simp at hu4
 have hne2:¬j=10000+d:=fun e=>by rw [e] at hu5;simp at hu5
 have hjk:∀b,c.T j b→w'.heap[b]? = w.heap[b]?:=fun b hb=>hch.block b (hltj b hb).2.1 (fun hb'=>hc.off i j _ _ hi' hj' hij b hb' hb)
 unfold Oper.wp
 rw [hex]
 have hnew:=hc2.new (i:=10000+d) (by rw [ab,if_neg hne1,ab,if_neg hne2,hk _ (by simp),hf]) (t:=.deep n e (ds++[y0]) []) (v:=v') (S:=fun b=>v'.ownBlock=some b∨(∃k,T k b)∨∃k,Tj k b) (.inr ⟨cells++news,fun k b=>if k<ds.length then T k b else Tj (k - ds.length) b,by rw [List.length_append];exact own',fun g hg=>⟨.inl hg,fun k hk'=>?_⟩,fun k b hb=>?_,fun k l hkl b hb hb'=>?_,fun k hk'=>?_,fun p hp=>(by cases hp)⟩) (fun b hb=>?_) (fun j'' u hj'' b hb hb'=>?_)
 ·exact ⟨v',_,rfl,hnew,.inr rfl,(if_pos rfl).symm⟩
 ·dsimp only at hk'
  by_cases hkl:k<ds.length
  ·rw [if_pos hkl] at hk'
   exact (hT1 k g hk').2.2.1 hg
  ·rw [if_neg hkl] at hk'
   have h1:=(jT _ g hk').1
   rcases hob g hg with h2|h2
   ·exact hc.off i j _ _ hi' hj' hij g h2 h1
   ·have:=(jT _ g hk').2.1;omega
 ·dsimp only at hb
  by_cases hkl:k<ds.length
  ·rw [if_pos hkl] at hb
   obtain ⟨t1,t2,t3,t4,t5⟩:=hT1 k b hb
   exact ⟨.inr (.inl ⟨k,hb⟩),Nat.lt_of_lt_of_le t2 hch.size,fun o=>(World.frozen?_of_block t4).trans (t5 o)⟩
  ·rw [if_neg hkl] at hb
   obtain ⟨t1,t2,t3⟩:=jT _ b hb
   exact ⟨.inr (.inr ⟨_,hb⟩),Nat.lt_of_lt_of_le t2 hch.size,fun o=>(World.frozen?_of_block (hjk b t1)).trans (t3 o)⟩
 ·dsimp only at hb hb'
  by_cases h1:k<ds.length <;> by_cases h2:l<ds.length
  ·rw [if_pos h1] at hb;rw [if_pos h2] at hb';exact hT2 k l hkl b hb hb'
  ·rw [if_pos h1] at hb;rw [if_neg h2] at hb';exact hc.off i j _ _ hi' hj' hij b (hT1 k b hb).1 (jT _ b hb').1
  ·rw [if_neg h1] at hb;rw [if_pos h2] at hb';exact hc.off i j _ _ hi' hj' hij b (hT1 l b hb').1 (jT _ b hb).1
  ·rw [if_neg h1] at hb;rw [if_neg h2] at hb';exact jdis _ _ (by omega) b hb hb'
 ·by_cases hkl:k<ds.length
  ·obtain ⟨cs,p1,p2,p3⟩:=hT3 k hkl
   refine ⟨cs,p1,?_,fun t u ht=>?_⟩
   ·rw [List.getElem_append_left hkl]
    exact Rp.keep (fun b hb=>by (try dsimp only);rw [if_pos hkl];exact hb) (fun b hb _=>(hT1 k b hb).2.2.2.1) _ _ p2
   ·have:=p3 t u ht
    rw [List.getElem?_append_left]
    ·exact this
    ·rcases Nat.lt_or_ge (k * n+t) cells.length with h|h
     ·exact h
     ·rw [List.getElem?_eq_none h] at this;cases this
  ·have hke:k=ds.length:=by simp at hk';omega
   subst hke
   refine ⟨cs0,q1,?_,fun t u ht=>?_⟩
   ·rw [List.getElem_append_right (Nat.le_refl _)]
    simp only [Nat.sub_self,List.getElem_cons_zero]
    exact Rp.keep (fun b hb=>by (try dsimp only);rw [if_neg hkl];first|exact hb|(rw [Nat.sub_self];exact hb)) (fun b hb _=>hjk b (jT 0 b hb).1) _ _ q2
   ·have:=q3 t u ht
    rw [List.getElem?_append_right (by omega),hcl,show ds.length * n+t - ds.length * n=t by omega]
    rw [Nat.zero_mul,Nat.zero_add] at this;exact this
 ·rcases hb with hb|⟨k,hb⟩|⟨k,hb⟩
  ·rcases hob b hb with h1|h1
   ·exact ⟨(hlt b h1).1,Nat.lt_of_lt_of_le (hlt b h1).2.1 hch.size,(hlt b h1).2.2⟩
   ·subst h1
    exact ⟨fun hF=>absurd (hc.lt _ hF) (Nat.lt_irrefl _),(own'.lt _ hb).2,.inr hc.ext.size⟩
  ·have h1:=(hT1 k b hb).1
   exact ⟨(hlt b h1).1,Nat.lt_of_lt_of_le (hlt b h1).2.1 hch.size,(hlt b h1).2.2⟩
  ·have h1:=(jT k b hb).1
   exact ⟨(hltj b h1).1,Nat.lt_of_lt_of_le (hltj b h1).2.1 hch.size,(hltj b h1).2.2⟩
 ·have hj3:¬i=j''∧¬j=j''∧al σ' j''=some (.tk u):=by
   rw [ab] at hj''
   split at hj''
   ·cases hj''
   ·rename_i e1
    rw [ab] at hj''
    split at hj''
    ·cases hj''
    ·rename_i e2;exact ⟨e1,e2,hj''⟩
  obtain ⟨e2,e1,hj3⟩:=hj3
  rcases hb with hb|⟨k,hb⟩|⟨k,hb⟩
  ·rcases hob b hb with h1|h1
   ·exact hc.off i j'' _ u hi' hj3 e2 b h1 hb'
   ·subst h1;exact absurd ((hc.tok j'' u hj3).2.2 _ hb').2.1 (Nat.lt_irrefl _)
  ·exact hc.off i j'' _ u hi' hj3 e2 b (hT1 k b hb).1 hb'
  ·exact hc.off j j'' _ u hj' hj3 e1 b (jT k b hb).1 hb'
end
theorem xW {w:World} {T:BS} {n:Nd} {cs:List Value} (h:Rp w T n.D cs):∃ad k,cs = [.int .i64 n.control,.int .i64 n.parent,.slice ad n.links.length k]∧n.links.length≤k∧k≤maxLen∧(n.links = []∨∃b o,ad=some ⟨b,o,none⟩∧T b∧RpR w T 1 b o (n.links.map D.i)):=by
 obtain ⟨c,e,rfl,⟨rfl,_⟩,c1,e1,rfl,⟨rfl,_⟩,c2,e2,rfl,⟨ad,k,h1,h2,h3,h4,h5⟩,rfl⟩:=h
 rw [List.length_map] at h1 h2
 refine ⟨ad,k,by rw [h1];rfl,h2,h3,?_⟩
 rcases h5 with h5|⟨b,o,e1,e2,e3⟩
 ·rw [List.map_eq_nil_iff] at h5;exact .inl h5
 ·exact .inr ⟨b,o,e1,e2,e3⟩
theorem JP (i n:Nat) {P:Program} {W0:cz} {N:Nat} {σ:Env} {Q:Exit→Act→World→Prop} {x:Code} {e:Nat} {l:List Nd} (hlt:n<l.length) (h:∀(ad:Option Addr) (k:Nat),l[n].links.length≤maxLen→(l[n].links = []∨∃b o,ad=some ⟨b,o,none⟩)→ar P W0 N x ((i,.tk (.deep 3 e (l.map Nd.D) [(n * 3+2,.slice ad l[n].links.length k)])) :: σ) Q) (hi:al σ i=some (.tk (.deep 3 e (l.map Nd.D) [])):=by rfl):ar P W0 N x σ Q:=fun a w hh=>by
 obtain ⟨c,hc⟩:=hh
 obtain ⟨_,hT,_⟩:=hc.tok i _ hi
 rcases hT with ⟨hd,_⟩|⟨cells,T,h1,h2,h3,h4,h5,h6⟩
 ·rw [List.map_eq_nil_iff] at hd;subst hd;exact absurd hlt (Nat.not_lt_zero _)
 obtain ⟨cs,q1,q2,q3⟩:=h5 n (by rw [List.length_map];exact hlt)
 rw [List.getElem_map] at q2
 obtain ⟨ad,k,e1,e2,e3,e4⟩:=xW q2
 refine h ad k (Nat.le_trans e2 e3) (e4.imp id (fun ⟨b,o,e,_⟩=>⟨b,o,e⟩)) a w ⟨_,hc.upd hi ⟨rfl,rfl,rfl,Nat.le_refl _,fun _ _ _=>rfl⟩ rfl (fun _=>.inr ⟨cells,T,h1,h2,h3,h4,h5,fun p hp=>?_⟩)⟩
 have:p=(n * 3+2,.slice ad l[n].links.length k):=by simpa using hp
 subst this
 exact q3 2 _ (by rw [e1];rfl)
theorem HI (i:Nat) {P:Program} {W0:cz} {N:Nat} {σ:Env} {Q:Exit→Act→World→Prop} {x:Code} {z e:Nat} {ds:List D} {ps:List (Nat × Value)} (h:ar P W0 N x ((i,.tk (.deep z e ds [])) :: σ) Q) (hi:al σ i=some (.tk (.deep z e ds ps)):=by rfl):ar P W0 N x σ Q:=fun a w hh=>by
 obtain ⟨c,hc⟩:=hh
 refine h a w ⟨_,hc.upd hi ⟨rfl,rfl,rfl,Nat.le_refl _,fun _ _ _=>rfl⟩ rfl (fun _=>?_)⟩
 obtain ⟨_,hT,_⟩:=hc.tok i _ hi
 rcases hT with ⟨hd,_,h1⟩|⟨cells,T,h1,h2,h3,h4,h5,h6⟩
 ·exact .inl ⟨hd,rfl,h1⟩
 ·exact .inr ⟨cells,T,h1,h2,h3,h4,h5,fun p hp=>(by cases hp)⟩
theorem Jx (i:Nat) {P:Program} {W0:cz} {N:Nat} {σ:Env} {Q:Exit→Act→World→Prop} {x:Code} {z e:Nat} {ds:List D} {ps:List (Nat × Value)} (h:ar P W0 N x ((i,.tk (.row z e ds)) :: σ) Q) (hi:al σ i=some (.tk (.deep z e ds ps)):=by rfl):ar P W0 N x σ Q:=fun a w hh=>by
 obtain ⟨c,hc⟩:=hh
 obtain ⟨hA,hT,hlt⟩:=hc.tok i _ hi
 have main:∀(S:BS) (hS:∀b,S b→c.T i b) (ht:(Tk.row z e ds).ok { c with F:=fun b=>c.F b∨(c.T i b∧¬S b) } w (c.ρ i) S),Holds W0 N ((i,.tk (.row z e ds)) :: σ) a w:=fun S hS ht=>by
  have hle:Cx.Le c { c with F:=fun b=>c.F b∨(c.T i b∧¬S b) }:=⟨fun _ h=>.inl h,fun _ h=>⟨h,rfl⟩⟩
  have hle2:Cx.Le { c with F:=fun b=>c.F b∨(c.T i b∧¬S b) } ⟨fun b=>c.F b∨(c.T i b∧¬S b),c.ρ,fun j=>if j=i then S else c.T j,c.A⟩:=⟨fun _ h=>h,fun _ h=>⟨h,rfl⟩⟩
  have ag:∀S:BS,fR S w w:=fun S b _ hl=>rfl
  refine ⟨⟨fun b=>c.F b∨(c.T i b∧¬S b),c.ρ,fun j=>if j=i then S else c.T j,c.A⟩,hc.ext,fun b hb=>hb.elim (hc.old b) (fun h'=>.inr (hlt b h'.1).2.2),fun b hb=>hb.elim (hc.lt b) (fun h'=>(hlt b h'.1).2.1),hc.size,hc.defers,fun j hj=>?_,fun j u hj=>?_,fun j k u v hj hk hne b=>?_,fun t s ht'=>?_⟩
  ·rw [ab];split
   ·simp
   ·exact hc.all j hj
  ·rw [ab] at hj
   by_cases e1:i=j
   ·subst e1
    rw [if_pos rfl] at hj;cases hj
    dsimp only
    rw [if_pos rfl]
    exact ⟨hA,Tk.keep hle2 (Nat.le_refl _) (ag _) (ag _) _ _ ht,fun b hb=>⟨fun hF=>hF.elim (hlt b (hS b hb)).1 (fun h=>h.2 hb),(hlt b (hS b hb)).2⟩⟩
   ·rw [if_neg e1] at hj
    obtain ⟨k1,k2,k3⟩:=hc.tok j u hj
    dsimp only
    rw [if_neg (Ne.symm e1)]
    exact ⟨k1,Tk.keep hle2 (Nat.le_refl _) (ag _) (ag _) _ _ (Tk.keep hle (Nat.le_refl _) (ag _) (ag _) u _ k2),fun b hb=>⟨fun hF=>hF.elim (k3 b hb).1 (fun h=>hc.off i j _ u hi hj e1 b h.1 hb),(k3 b hb).2⟩⟩
  ·rw [ab] at hj hk
   dsimp only
   by_cases e1:i=j
   ·subst e1
    rw [if_neg hne] at hk
    rw [if_pos rfl,if_neg (Ne.symm hne)]
    exact fun h1 h2=>hc.off i k _ v hi hk hne b (hS b h1) h2
   ·rw [if_neg e1] at hj
    rw [if_neg (Ne.symm e1)]
    by_cases e2:i=k
    ·subst e2
     rw [if_pos rfl]
     exact fun h1 h2=>hc.off j i u _ hj hi hne b h1 (hS b h2)
    ·rw [if_neg e2] at hk
     rw [if_neg (Ne.symm e2)]
     exact hc.off j k u v hj hk hne b
  ·rw [ab] at ht'
   split at ht'
   ·cases ht'
   ·obtain ⟨v,q1,q2⟩:=hc.tmp t s ht'
    exact ⟨v,q1,Sy.keep hle2 (ag _) _ _ (Sy.keep hle (ag _) s v q2)⟩
 refine h a w ?_
 rcases hT with ⟨hd,_,h1⟩|⟨cells,T,h1,h2,h3,h4,h5,h6⟩
 ·exact main (fun _=>False) (fun _ h=>h.elim) (.inl ⟨hd,h1⟩)
 ·refine main (fun b=>(c.ρ i).ownBlock=some b) (fun b hb=>(h2 b hb).1) (.inr ⟨cells,h1,fun g hg=>hg,fun j hj=>?_⟩)
  obtain ⟨cs,q1,q2,q3⟩:=h5 j hj
  exact ⟨cs,q1,Rp.keep (fun b hb=>.inr ⟨(h3 j b hb).1,fun e=>(h2 b e).2 j hb⟩) (fun _ _ _=>rfl) _ _ q2,q3⟩
section
variable {P:Program} {ops:Array Oper} {W0:cz} {N:Nat} {Fin:Us→Env→Prop} {os:List Oper} {us:Us} {pk fk:List Nat} {σ:Env} {g:Option (Nat × Bool)} {gk:List Nat} {d ty ty' f:Nat} {pos:String} {after:Array Edge}
theorem bJ {x y:Operand} {i z e e':Nat} {ds:List D} {ps:List (Nat × Value)} {s:Sy} {n:Nat} (h:Der P ops W0 N Fin os (us++[((d :: (gk++(i :: (kx x++kx y))))++pk,([d])++fk)]) [] [] ((d,.sy (.el i z n 0)) :: σ)) (hx:ev σ x=some (.k i):=by rfl) (hi:al σ i=some (.tk (.deep z e ds ps)):=by rfl) (hy:ev σ y=some s:=by rfl) (hn:s.int? = some (n:Int):=by rfl) (he:elem? P ty'=some e':=by rfl) (hz:sizeOf? P e'=some z:=by rfl) (hlt:n<ds.length:=by first|assumption|omega|(simp only [List.length_map,List.length_append,List.length_cons,List.length_nil,List.length_replicate,List.length_take];omega)) (hg:gst ops σ g=some (true,gk):=by rfl) (hN:Nat.blt d N=true:=by rfl) (hs:aF σ d=true:=by rfl):Der P ops W0 N Fin (⟨some d,.indexAddr ty' x y,ty,pos,after,g⟩ :: os) us pk fk σ:=
 cr (.el i z n 0) (i :: (kx x++kx y)) (fun σ' c a w hk hc=>by
  obtain ⟨hA,h1⟩:=ap hc (ah hx (fun κ hκ=>hk κ (by simp [hκ])))
  have h2:=df hn (ap hc (ah hy (fun κ hκ=>hk κ (by simp [hκ]))))
  obtain ⟨_,hT,_⟩:=hc.tok i _ ((hk i (by simp)).trans hi)
  rcases hT with ⟨hd,_⟩|⟨cells,T,h3,_⟩
  ·subst hd;exact absurd hlt (Nat.not_lt_zero _)
  rcases h3.2 with ⟨_,hn0⟩|⟨gb,cap,cur,hv,_,_,h5,h6,_⟩
  ·rw [hn0] at hlt;exact absurd hlt (Nat.not_lt_zero _)
  ·exact ⟨_,dl (X:=Instr.indexAt ty' (a.eval x) (a.eval y)) (by rw [h1,hv,h2];exact oM he hz hlt),hA,gb,_,_,hv,by rw [Nat.zero_add];rfl⟩) h hg hN hs
theorem bN {x:Operand} {z i e':Nat} {xs:List D} {ps:List (Nat × Value)} {t e:Nat} (h:Der P ops W0 N Fin os (us++[((d :: (gk++(i :: kx x)))++pk,([d])++fk)]) [] [] ((d,.sy (.d (.i xs.length))) :: σ)) (hx:ev σ x=some (.k i):=by rfl) (hi:al σ i=some (.tk (.deep z e' xs ps)):=by rfl) (ht:elem? P t=some e:=by rfl) (hg:gst ops σ g=some (true,gk):=by rfl) (hN:Nat.blt d N=true:=by rfl) (hs:aF σ d=true:=by rfl):Der P ops W0 N Fin (⟨some d,.call { callee:=.builtin .len,args:=#[x],argTypes:=#[t] },ty,pos,after,g⟩ :: os) us pk fk σ:=
 cr (.d (.i xs.length)) (i :: kx x) (fun σ' c a w hk hc=>by
  obtain ⟨_,h1⟩:=ap hc (ah hx (fun κ hκ=>hk κ (by simp [hκ])))
  obtain ⟨_,hT,_⟩:=hc.tok i _ ((hk i (by simp)).trans hi)
  rcases hT with ⟨hd,_,a',hv⟩|⟨cells,T,h2,_,_⟩
  ·exact ⟨.int .i64 xs.length,by rw [hd];exact gw ht (h1.trans hv),by rw [hd];exact ⟨rfl,by unfold I64;decide⟩⟩
  rw [← h1] at h2
  rcases h2.2 with ⟨hv,hn⟩|⟨g',cap,cur,hv,_,_,h5,h6,_⟩
  ·exact ⟨.int .i64 xs.length,by rw [hn];exact gw ht hv,by simp [Sy.ok,DV,Rp,hn];unfold I64;decide⟩
  ·exact ⟨.int .i64 xs.length,gw ht hv,by simp [Sy.ok,DV,Rp];exact I64.nat (by omega)⟩) h hg hN hs
theorem aV {x:Operand} {i n e:Nat} {l:List Nd} {v:Value} (h:Der P ops W0 N Fin os (us++[((d :: (gk++(i :: kx x)))++pk,([d])++fk)]) [] [] ((d,.sy (.ag [.d (.i (l.getD n ⟨0,0,[]⟩).control),.d (.i (l.getD n ⟨0,0,[]⟩).parent),.v v])) :: σ)) (hx:ev σ x=some (.el i 3 n 0):=by rfl) (hi:al σ i=some (.tk (.deep 3 e (l.map Nd.D) [(n * 3+2,v)])):=by rfl) (hA:isAgg? P ty'=some true:=by rfl) (hz:sizeOf? P ty'=some 3:=by rfl) (hlt:n<l.length:=by first|assumption|omega) (hg:gst ops σ g=some (true,gk):=by rfl) (hN:Nat.blt d N=true:=by rfl) (hs:aF σ d=true:=by rfl):Der P ops W0 N Fin (⟨some d,.load ty' x,ty,pos,after,g⟩ :: os) us pk fk σ:=
 cr (.ag [.d (.i (l.getD n ⟨0,0,[]⟩).control),.d (.i (l.getD n ⟨0,0,[]⟩).parent),.v v]) (i :: kx x) (fun σ' c a w hk hh=>by
  obtain ⟨_,b,m,cp,h1,h2⟩:=ap hh (ah hx (fun κ hκ=>hk κ (by simp [hκ])))
  obtain ⟨_,hT,_⟩:=hh.tok i _ ((hk i (by simp)).trans hi)
  rcases hT with ⟨_,hd,_⟩|⟨cells,T,own,hS,hB,hD,hel,hp⟩
  ·cases hd
  obtain ⟨cs,q1,q2,q3⟩:=hel n (by rw [List.length_map];exact hlt)
  rw [List.getElem_map] at q2
  have hgd:l.getD n ⟨0,0,[]⟩=l[n]:=by simp [hlt]
  have q2':=q2
  obtain ⟨ad,k,e1,e2,e3,e4⟩:=xW q2
  have hpv:=hp (n * 3+2,v) (by simp)
  have hv:v=.slice ad l[n].links.length k:=by
   have:=q3 2 _ (by rw [e1];rfl)
   rw [this] at hpv;cases hpv;rfl
  obtain ⟨c0,t0,f1,⟨f2,f2'⟩,c1,t1,f3,⟨f4,f4'⟩,_⟩:=q2'
  rw [h1] at own
  refine ⟨.agg [.int .i64 l[n].control,.int .i64 l[n].parent,v].toArray,dl (X:=Instr.loadAt ty' (a.eval x)) ?_,_,rfl,_,_,rfl,by rw [hgd];exact ⟨rfl,f2'⟩,_,_,rfl,by rw [hgd];exact ⟨rfl,f4'⟩,_,_,rfl,rfl,rfl⟩
  rw [h2]
  refine eL hA hz (fun j u hj=>?_)
  have hj3:j<3:=by
   rcases Nat.lt_or_ge j 3 with h|h
   ·exact h
   ·rw [List.getElem?_eq_none (by simpa using h)] at hj;cases hj
  have hin:n * 3+j<(l.map Nd.D).length * 3:=by rw [List.length_map];omega
  rcases own.2 with ⟨hv0,_⟩|⟨gb,cap,cur,hv0,rest⟩
  ·cases hv0
  ·cases hv0
   rw [Nat.add_zero,World.ownsRow.cellAt (h:=own) (n * 3+j) hin]
   refine q3 j u ?_
   rw [e1,← hv];exact hj) h hg hN hs
theorem bX {x:Operand} {ad:Option Addr} {n k t e:Nat} (h:Der P ops W0 N Fin os (us++[((d :: (gk++kx x))++pk,([d])++fk)]) [] [] ((d,.sy (.d (.i n))) :: σ)) (hx:ev σ x=some (.v (.slice ad n k)):=by rfl) (ht:elem? P t=some e:=by rfl) (hn:n≤maxLen:=by assumption) (hg:gst ops σ g=some (true,gk):=by rfl) (hN:Nat.blt d N=true:=by rfl) (hs:aF σ d=true:=by rfl):Der P ops W0 N Fin (⟨some d,.call { callee:=.builtin .len,args:=#[x],argTypes:=#[t] },ty,pos,after,g⟩ :: os) us pk fk σ:=
 cr (.d (.i n)) (kx x) (fun σ' c a w hk hc=>by
  have h1:a.eval x=.slice ad n k:=ap hc (ah hx hk)
  exact ⟨.int .i64 n,gw ht h1,rfl,I64.nat hn⟩) h hg hN hs
theorem b8 {x y:Operand} {b o n k m e z:Nat} {s:Sy} (h:Der P ops W0 N Fin os (us++[((d :: (gk++(kx x++kx y)))++pk,([d])++fk)]) [] [] ((d,.sy (.v (.pointer (some ⟨b,o+m * z,none⟩)))) :: σ)) (hx:ev σ x=some (.v (.slice (some ⟨b,o,none⟩) n k)):=by rfl) (hy:ev σ y=some s:=by rfl) (hi:s.int? = some (m:Int):=by rfl) (he:elem? P ty'=some e:=by rfl) (hz:sizeOf? P e=some z:=by rfl) (hm:m<n:=by first|assumption|omega) (hg:gst ops σ g=some (true,gk):=by rfl) (hN:Nat.blt d N=true:=by rfl) (hs:aF σ d=true:=by rfl):Der P ops W0 N Fin (⟨some d,.indexAddr ty' x y,ty,pos,after,g⟩ :: os) us pk fk σ:=
 cr (.v (.pointer (some ⟨b,o+m * z,none⟩))) (kx x++kx y) (fun σ' c a w hk hc=>by
  have h1:a.eval x=.slice (some ⟨b,o,none⟩) n k:=ap hc (ah hx (fun κ hκ=>hk κ (by simp [hκ])))
  have h2:=df hi (ap hc (ah hy (fun κ hκ=>hk κ (by simp [hκ]))))
  exact ⟨_,dl (X:=Instr.indexAt ty' (a.eval x) (a.eval y)) (by rw [h1,h2];exact oM he hz hm),rfl⟩) h hg hN hs
theorem HJ {x:Operand} (i:Nat) {n e b o m len k:Nat} {l:List Nd} (h:Der P ops W0 N Fin os (us++[((d :: (gk++(i :: kx x)))++pk,([d])++fk)]) [] [] ((d,.sy (.d (.i ((l.getD n ⟨0,0,[]⟩).links.getD m 0)))) :: σ)) (hx:ev σ x=some (.v (.pointer (some ⟨b,o+m * 1,none⟩))):=by rfl) (hi:al σ i=some (.tk (.deep 3 e (l.map Nd.D) [(n * 3+2,.slice (some ⟨b,o,none⟩) len k)])):=by rfl) (hA:isAgg? P ty'=some false:=by rfl) (hlt:n<l.length:=by first|assumption|omega) (hm:m<(l.getD n ⟨0,0,[]⟩).links.length:=by assumption) (hg:gst ops σ g=some (true,gk):=by rfl) (hN:Nat.blt d N=true:=by rfl) (hs:aF σ d=true:=by rfl):Der P ops W0 N Fin (⟨some d,.load ty' x,ty,pos,after,g⟩ :: os) us pk fk σ:=
 cr (.d (.i ((l.getD n ⟨0,0,[]⟩).links.getD m 0))) (i :: kx x) (fun σ' c a w hk hh=>by
  have h2:a.eval x=.pointer (some ⟨b,o+m * 1,none⟩):=ap hh (ah hx (fun κ hκ=>hk κ (by simp [hκ])))
  obtain ⟨_,hT,_⟩:=hh.tok i _ ((hk i (by simp)).trans hi)
  rcases hT with ⟨_,hd,_⟩|⟨cells,T,own,hS,hB,hD,hel,hp⟩
  ·cases hd
  obtain ⟨cs,q1,q2,q3⟩:=hel n (by rw [List.length_map];exact hlt)
  rw [List.getElem_map] at q2
  have hgd:l.getD n ⟨0,0,[]⟩=l[n]:=by simp [hlt]
  rw [hgd] at hm ⊢
  obtain ⟨ad,k',e1,e2,e3,e4⟩:=xW q2
  have hpv:=hp (n * 3+2,_) (List.mem_singleton.2 rfl)
  have:=q3 2 _ (by rw [e1];rfl)
  rw [this] at hpv;cases hpv
  rcases e4 with e4|⟨b',o',e5,e6,e7⟩
  ·rw [e4] at hm;exact absurd hm (Nat.not_lt_zero _)
  ·cases e5
   obtain ⟨cs',p1,p2,p3⟩:=(gB _ _).1 e7 m (by rw [List.length_map];exact hm)
   rw [List.getElem_map] at p2
   obtain ⟨rfl,p4⟩:=p2
   have hc0:=p3 0 _ rfl
   rw [Nat.add_zero] at hc0
   have hg2:l[n].links.getD m 0=l[n].links[m]:=by simp [hm]
   exact ⟨.int .i64 l[n].links[m],dl (X:=Instr.loadAt ty' (a.eval x)) (by rw [h2];exact gY hA hc0),by rw [hg2];exact ⟨rfl,p4⟩⟩) h hg hN hs
def uI (l:List Nd) (n m:Nat) (x:Int):List Nd:=l.set n ⟨(l.getD n ⟨0,0,[]⟩).control,(l.getD n ⟨0,0,[]⟩).parent,(l.getD n ⟨0,0,[]⟩).links.set m x⟩
theorem Gp {x y:Operand} (i:Nat) {n e b o m len k:Nat} {l:List Nd} {u:Int} {s:Sy} (h:Der P ops W0 N Fin os (us++[((gk++(i :: (kx x++kx y)))++pk,([i])++fk)]) [] [] ((i,.tk (.deep 3 e ((uI l n m u).map Nd.D) [(n * 3+2,.slice (some ⟨b,o,none⟩) len k)])) :: σ)) (hx:ev σ x=some (.v (.pointer (some ⟨b,o+m * 1,none⟩))):=by rfl) (hi:al σ i=some (.tk (.deep 3 e (l.map Nd.D) [(n * 3+2,.slice (some ⟨b,o,none⟩) len k)])):=by rfl) (hy:ev σ y=some s:=by rfl) (hu:s=.d (.i u):=by rfl) (hz:sizeOf? P ty'=some 1:=by rfl) (hlt:n<l.length:=by first|assumption|omega) (hm:m<(l.getD n ⟨0,0,[]⟩).links.length:=by assumption) (hg:gst ops σ g=some (true,gk):=by rfl):Der P ops W0 N Fin (⟨none,.store ty' x y,ty,pos,after,g⟩ :: os) us pk fk σ:=
 lq (i :: (kx x++kx y)) [(i,.tk (.deep 3 e ((uI l n m u).map Nd.D) [(n * 3+2,.slice (some ⟨b,o,none⟩) len k)]))] (fun σ' c a w hk hc=>by
  subst hu
  have e2:a.eval x=.pointer (some ⟨b,o+m * 1,none⟩):=ap hc (ah hx (fun κ hκ=>hk κ (by simp [hκ])))
  obtain ⟨hyv,hu64⟩ : [a.eval y] = [Value.int .i64 u]∧I64 u:=ap hc (ah hy (fun κ hκ=>hk κ (by simp [hκ])))
  have hyv':a.eval y=.int .i64 u:=by simpa using hyv
  have hi':=(hk i (by simp)).trans hi
  obtain ⟨_,hT,hlt'⟩:=hc.tok i _ hi'
  rcases hT with ⟨_,hd,_⟩|⟨cells,T,own,hS,hB,hD,hel,hp⟩
  ·cases hd
  have hgd:l.getD n ⟨0,0,[]⟩=l[n]:=by simp [hlt]
  rw [hgd] at hm
  obtain ⟨cs,q1,q2,q3⟩:=hel n (by rw [List.length_map];exact hlt)
  rw [List.getElem_map] at q2
  have q2':=q2
  obtain ⟨ad,k',e1,e3,e3',e4⟩:=xW q2
  have hpv:=hp (n * 3+2,_) (List.mem_singleton.2 rfl)
  have:=q3 2 _ (by rw [e1];rfl)
  rw [this] at hpv;cases hpv
  rcases e4 with e4|⟨b',o',e5,e6,e7⟩
  ·rw [e4] at hm;exact absurd hm (Nat.not_lt_zero _)
  cases e5
  obtain ⟨cs',p1,p2,p3⟩:=(gB _ _).1 e7 m (by rw [List.length_map];exact hm)
  rw [List.getElem_map] at p2
  obtain ⟨rfl,_⟩:=p2
  have hc0:=p3 0 _ rfl
  rw [Nat.add_zero] at hc0
  obtain ⟨hb1,hb2,hb3⟩:=hB n b e6
  have hnb:(c.ρ i).ownBlock≠some b:=fun e=>(hS b e).2 n e6
  unfold Oper.wp
  rw [fu hz (by rw [hyv'];rfl) hc0 (hb3 _) e2 rfl,hyv']
  have hch:Chg (c.T i) w (w.setCell ⟨b,o+m * 1,none⟩ (.int .i64 u)):=Chg.grown (co b _ _) (fun g hg=>by cases hg;exact hb1)
  have hst:∀b',b'≠b→(w.setCell ⟨b,o+m * 1,none⟩ (.int .i64 u)).heap[b']? = w.heap[b']?:=fun b' hb'=>heap_setCell_other w ⟨b,o+m * 1,none⟩ b' _ hb'
  refine ⟨rfl,c,hc.upd hi' hch (by simp) (fun _=>.inr ⟨cells,T,?_,hS,fun j b' hb'=>?_,hD,fun j hj=>?_,?_⟩)⟩
  ·rw [List.length_map] at own ⊢
   unfold uI
   rw [List.length_set]
   exact own.kept (co b _ _) (.inr hnb)
  ·obtain ⟨r1,r2,r3⟩:=hB j b' hb'
   refine ⟨r1,by simpa using r2,fun o'=>?_⟩
   by_cases hbb:b'=b
   ·subst hbb
    rw [World.frozen?_setCell];exact r3 o'
   ·exact (World.frozen?_of_block (hst b' hbb)).trans (r3 o')
  ·unfold uI at hj ⊢
   rw [List.length_map,List.length_set] at hj
   by_cases hjn:j=n
   ·subst hjn
    obtain ⟨c0,t0,f1,⟨f2,f2'⟩,c1,t1,f3,⟨f4,f4'⟩,c2,t2,f5,⟨ad2,k2,g1,g2,g3,g4,g5⟩,f6⟩:=q2'
    refine ⟨cs,q1,?_,q3⟩
    rw [List.getElem_map,List.getElem_set_self,hgd]
    refine ⟨c0,t0,f1,⟨f2,f2'⟩,c1,t1,f3,⟨f4,f4'⟩,c2,t2,f5,⟨ad2,k2,by rw [g1];simp,by simpa using g2,g3,g4,.inr ⟨b,o,?_,e6,(gB _ _).2 fun t ht=>?_⟩⟩,f6⟩
    ·rw [f1,f2,f3,f4,f5,g1,f6] at e1
     simp at e1
     exact e1.1
    ·rw [List.length_map,List.length_set] at ht
     obtain ⟨cs2,s1,s2,s3⟩:=(gB _ _).1 e7 t (by rw [List.length_map];exact ht)
     by_cases htm:t=m
     ·subst htm
      refine ⟨[.int .i64 u],rfl,by rw [List.getElem_map,List.getElem_set_self];exact ⟨rfl,hu64⟩,fun j u' hj'=>?_⟩
      cases j with
      | zero=>
       simp at hj';subst hj'
       rw [Nat.add_zero]
       exact World.cell?_setCell_same _ _ _ hc0
      | succ j=>simp at hj'
     ·refine ⟨cs2,s1,by rw [List.getElem_map,List.getElem_set_ne (Ne.symm htm)];rw [List.getElem_map] at s2;exact s2,fun j u' hj'=>?_⟩
      have hj0:j=0:=by
       rcases Nat.lt_or_ge j cs2.length with h|h
       ·omega
       ·rw [List.getElem?_eq_none h] at hj';cases hj'
      subst hj0
      exact mx (s3 0 u' hj') (fun e=>htm (by simp at e <;> omega))
   ·obtain ⟨cs2,s1,s2,s3⟩:=hel j (by rw [List.length_map];exact hj)
    rw [List.getElem_map] at s2
    refine ⟨cs2,s1,?_,s3⟩
    rw [List.getElem_map,List.getElem_set_ne (Ne.symm hjn)]
    exact Rp.keep (fun _ h=>h) (fun b' hb' _=>hst b' (fun e=>by subst e;exact hD j n hjn b' hb' e6)) _ _ s2
  ·intro p hp'
   have:p=(n * 3+2,_):=List.mem_singleton.1 hp'
   subst this
   exact hp _ (List.mem_singleton.2 rfl)) h hg
end
end Go.Proofs.YtnobdioccfeokaaGreatDoor
namespace Go.Proofs.YtnobdioccfeokaaGreatDoor
open Go.RowKit
set_option linter.unusedVariables false
set_option linter.unusedSimpArgs false
section
variable {P:Program} {ops:Array Oper} {W0:cz} {N:Nat} {Fin:Us→Env→Prop} {os:List Oper} {us:Us} {pk fk:List Nat} {σ:Env} {g:Option (Nat × Bool)} {d:Option Nat} {ty:Nat} {pos:String} {after:Array Edge} {op:Op} {x y:Operand} {ty' f:Nat} {a:Array Operand} {at':Array TypeId} {k:Nat}
theorem bV (h:Der P ops W0 N Fin (⟨d,.move x,ty,pos,after,g⟩ :: os) us pk fk σ):Der P ops W0 N Fin (⟨d,.move x,ty,pos,after,g⟩ :: os) us pk fk σ:=h
theorem eV (h:Der P ops W0 N Fin (⟨d,.assign x,ty,pos,after,g⟩ :: os) us pk fk σ):Der P ops W0 N Fin (⟨d,.assign x,ty,pos,after,g⟩ :: os) us pk fk σ:=h
theorem eG (h:Der P ops W0 N Fin (⟨d,.fieldAddr ty' x k,ty,pos,after,g⟩ :: os) us pk fk σ):Der P ops W0 N Fin (⟨d,.fieldAddr ty' x k,ty,pos,after,g⟩ :: os) us pk fk σ:=h
theorem ca (h:Der P ops W0 N Fin (⟨d,.load ty' x,ty,pos,after,g⟩ :: os) us pk fk σ):Der P ops W0 N Fin (⟨d,.load ty' x,ty,pos,after,g⟩ :: os) us pk fk σ:=h
theorem eT (h:Der P ops W0 N Fin (⟨d,.indexAddr ty' x y,ty,pos,after,g⟩ :: os) us pk fk σ):Der P ops W0 N Fin (⟨d,.indexAddr ty' x y,ty,pos,after,g⟩ :: os) us pk fk σ:=h
theorem aK (h:Der P ops W0 N Fin (⟨d,.store ty' x y,ty,pos,after,g⟩ :: os) us pk fk σ):Der P ops W0 N Fin (⟨d,.store ty' x y,ty,pos,after,g⟩ :: os) us pk fk σ:=h
theorem eK {o:BinOp} {ty2:Nat} (h:Der P ops W0 N Fin (⟨d,.binOp o ty' x y ty2,ty,pos,after,g⟩ :: os) us pk fk σ):Der P ops W0 N Fin (⟨d,.binOp o ty' x y ty2,ty,pos,after,g⟩ :: os) us pk fk σ:=h
theorem eR (h:Der P ops W0 N Fin (⟨d,.call { callee:=.builtin .len,args:=a,argTypes:=at' },ty,pos,after,g⟩ :: os) us pk fk σ):Der P ops W0 N Fin (⟨d,.call { callee:=.builtin .len,args:=a,argTypes:=at' },ty,pos,after,g⟩ :: os) us pk fk σ:=h
theorem eE (h:Der P ops W0 N Fin (⟨d,.call { callee:=.builtin .append,args:=a,argTypes:=at' },ty,pos,after,g⟩ :: os) us pk fk σ):Der P ops W0 N Fin (⟨d,.call { callee:=.builtin .append,args:=a,argTypes:=at' },ty,pos,after,g⟩ :: os) us pk fk σ:=h
theorem bL (h:Der P ops W0 N Fin (⟨d,.call { callee:=.value (.func f),args:=a,argTypes:=at' },ty,pos,after,g⟩ :: os) us pk fk σ):Der P ops W0 N Fin (⟨d,.call { callee:=.value (.func f),args:=a,argTypes:=at' },ty,pos,after,g⟩ :: os) us pk fk σ:=h
theorem eP {u v w:Option Operand} (h:Der P ops W0 N Fin (⟨d,.slice ty' x u v w,ty,pos,after,g⟩ :: os) us pk fk σ):Der P ops W0 N Fin (⟨d,.slice ty' x u v w,ty,pos,after,g⟩ :: os) us pk fk σ:=h
theorem gOp {o:Oper} (h:Der P ops W0 N Fin (o :: os) us pk fk σ):Der P ops W0 N Fin (o :: os) us pk fk σ:=h
theorem F1 {P:Program} {ρ:Operand→Value} {w:World} {d:Option Nat} {ty ty':Nat} {pos:String} {after:Array Edge} {g:Option (Nat × Bool)} {x:Operand} {m:Int} (hb:I64 (-m)) (h1:ρ x=.int .i64 m):(execOp ρ ⟨d,.unOp .neg ty' x,ty,pos,after,g⟩).run P w=.ok (.value (.int .i64 (-m))) w:=by
 have hw:IntKind.i64.wrap (0 - m) = -m:=by rw [Int.zero_sub];exact IntWalk.i64_in (-m) hb
 simp only [execOp,h1]
 exact congrArg (fun q=>Result.ok (Next.value (.int .i64 q)) w) hw
theorem eN {P:Program} {ops:Array Oper} {W0:cz} {N:Nat} {Fin:Us→Env→Prop} {os:List Oper} {us:Us} {pk fk:List Nat} {σ:Env} {g:Option (Nat × Bool)} {gk:List Nat} {d ty ty':Nat} {pos:String} {after:Array Edge} {x:Operand} {s:Sy} {m:Int} (h:Der P ops W0 N Fin os (us++[((d :: (gk++kx x))++pk,([d])++fk)]) [] [] ((d,.sy (.d (.i (-m)))) :: σ)) (hx:ev σ x=some s:=by rfl) (hm:s.int? = some m:=by rfl) (hb:I64 (-m):=by first|assumption|(unfold I64;omega)) (hg:gst ops σ g=some (true,gk):=by rfl) (hN:Nat.blt d N=true:=by rfl) (hs:aF σ d=true:=by rfl):Der P ops W0 N Fin (⟨some d,.unOp .neg ty' x,ty,pos,after,g⟩ :: os) us pk fk σ:=
 cr (.d (.i (-m))) (kx x) (fun σ' c a w hk hc=>⟨_,F1 hb (df hm (ap hc (ah hx hk))),by simp only [Sy.ok,DV,Rp];exact ⟨trivial,hb⟩⟩) h hg hN hs
theorem vy {P:Program} {ops:Array Oper} {W0:cz} {N:Nat} {Fin:Us→Env→Prop} {os:List Oper} {us:Us} {pk fk:List Nat} {σ:Env} {g:Option (Nat × Bool)} {gk:List Nat} {d ty ty':Nat} {pos:String} {after:Array Edge} {α:Type} {f:α→D} {l:List α} {x y:Operand} {z e n:Nat} {s:Sy} (hx:ev σ x=some (.d (.l z (l.map f))):=by rfl) (hy:ev σ y=some s:=by rfl) (hi:s.int? = some (n:Int):=by rfl) (hn:n<l.length:=by assumption) (h:Der P ops W0 N Fin os (us++[((d :: (gk++(kx x++kx y)))++pk,([d])++fk)]) [] [] ((d,.sy (.at (f (l[n]'hn)))) :: σ)) (he:elem? P ty'=some e:=by rfl) (hz:sizeOf? P e=some z:=by rfl) (hg:gst ops σ g=some (true,gk):=by rfl) (hN:Nat.blt d N=true:=by rfl) (hs:aF σ d=true:=by rfl):Der P ops W0 N Fin (⟨some d,.indexAddr ty' x y,ty,pos,after,g⟩ :: os) us pk fk σ:=cS (fun _=>h) hx hy hi he hz hn hg hN hs
end
mutual
def jE:D→List D→Option (D × List D)
 | .t ss,ds=>match s5 ss ds with|some (es,r)=>some (.t es,r)|none=>none
 | .i _,d :: ds=>some (d,ds)
 | .s _,d :: ds=>some (d,ds)
 | .b _,d :: ds=>some (d,ds)
 | .n _,d :: ds=>some (d,ds)
 | _,_=>none
def s5:List D→List D→Option (List D × List D)
 | [],ds=>some ([],ds)
 | s :: ss,ds=>match jE s ds with
  | some (d,r)=>match s5 ss r with
   | some (es,r')=>some (d :: es,r')
   | none=>none
  | none=>none
end
mutual
theorem xe {w:World} {S:BS}:∀(s:D) (ds:List D) (d:D) (r:List D) (vs:List Value),jE s ds=some (d,r)→RpL w S ds vs→∃us xs,vs=us++xs∧Rp w S d us∧RpL w S r xs
 | .t ss,ds,d,r,vs,h,hv=>by
  unfold jE at h
  split at h
  ·rename_i es r' he
   cases h
   exact nW ss ds es _ vs he hv
  ·cases h
 | .i _,e :: ds,d,r,vs,h,⟨c,e',h1,h2,h3⟩=>by unfold jE at h;cases h;exact ⟨c,e',h1,h2,h3⟩
 | .s _,e :: ds,d,r,vs,h,⟨c,e',h1,h2,h3⟩=>by unfold jE at h;cases h;exact ⟨c,e',h1,h2,h3⟩
 | .b _,e :: ds,d,r,vs,h,⟨c,e',h1,h2,h3⟩=>by unfold jE at h;cases h;exact ⟨c,e',h1,h2,h3⟩
 | .n _,e :: ds,d,r,vs,h,⟨c,e',h1,h2,h3⟩=>by unfold jE at h;cases h;exact ⟨c,e',h1,h2,h3⟩
 | .i _,[],d,r,vs,h,hv=>by unfold jE at h;cases h
 | .s _,[],d,r,vs,h,hv=>by unfold jE at h;cases h
 | .b _,[],d,r,vs,h,hv=>by unfold jE at h;cases h
 | .n _,[],d,r,vs,h,hv=>by unfold jE at h;cases h
 | .l _ _,ds,d,r,vs,h,hv=>by unfold jE at h;cases h
 | .p _,ds,d,r,vs,h,hv=>by unfold jE at h;cases h
 | .f _ _,ds,d,r,vs,h,hv=>by unfold jE at h;cases h
 | .any,ds,d,r,vs,h,hv=>by unfold jE at h;cases h
 | .c _,ds,d,r,vs,h,hv=>by unfold jE at h;cases h
theorem nW {w:World} {S:BS}:∀(ss ds:List D) (es r:List D) (vs:List Value),s5 ss ds=some (es,r)→RpL w S ds vs→∃us xs,vs=us++xs∧RpL w S es us∧RpL w S r xs
 | [],ds,es,r,vs,h,hv=>by unfold s5 at h;cases h;exact ⟨[],vs,rfl,rfl,hv⟩
 | s :: ss,ds,es,r,vs,h,hv=>by
  unfold s5 at h
  split at h
  ·rename_i d r1 h1
   split at h
   ·rename_i es' r2 h2
    cases h
    obtain ⟨us,xs,e1,e2,e3⟩:=xe s ds d r1 vs h1 hv
    obtain ⟨us',xs',e4,e5,e6⟩:=nW ss r1 es' _ xs h2 e3
    exact ⟨us++us',xs',by rw [e1,e4,List.append_assoc],⟨us,us',rfl,e2,e5⟩,e6⟩
   ·cases h
  ·cases h
end
theorem kC {c:Cx} {w:World}:∀(o:Nat) (ss:List Sy) (vs:List Value),Sy.oks c w ss vs→Sy.oks c w (ss.drop o) (vs.drop o):=by
 intro o
 induction o with
 | zero=>exact fun ss vs h=>h
 | succ o ih=>
  intro ss vs h
  cases ss with
  | nil=>rw [show vs = [] from h];exact rfl
  | cons s ss=>obtain ⟨v,t,rfl,_,h2⟩:=h;exact ih ss t h2
theorem kw {c:Cx} {w:World}:∀(o:Nat) (ss:List Sy) (vs:List Value),Sy.oks c w ss vs→Sy.oks c w (ss.take o) (vs.take o):=by
 intro o
 induction o with
 | zero=>exact fun ss vs h=>rfl
 | succ o ih=>
  intro ss vs h
  cases ss with
  | nil=>rw [show vs = [] from h];exact rfl
  | cons s ss=>obtain ⟨v,t,rfl,h1,h2⟩:=h;exact ⟨v,t.take o,rfl,h1,ih ss t h2⟩
def IC (P:Program) (ty:Nat):Bool:=match zd P 8 ty with|some (.t ss)=>ss.all fun r=>!isT r|_=>false
section
variable {P:Program} {ops:Array Oper} {W0:cz} {N:Nat} {Fin:Us→Env→Prop} {os:List Oper} {us:Us} {pk fk:List Nat} {σ:Env} {g:Option (Nat × Bool)} {gk:List Nat} {d ty ty':Nat} {pos:String} {after:Array Edge}
theorem aR {x:Operand} {i:Nat} {cs:List Sy} {ds:List D} (h:Der P ops W0 N Fin os (us++[((d :: (gk++(i :: kx x)))++pk,([d])++fk)]) [] [] ((d,.sy (.d (.t ds))) :: σ)) (hx:ev σ x=some (.bx i 0):=by rfl) (hi:al σ i=some (.tk (.bx cs)):=by rfl) (hA:isAgg? P ty'=some true:=by rfl) (hfl:IC P ty'=true:=by rfl) (hz:sizeOf? P ty'=some cs.length:=by rfl) (hc:Gj cs=some ds:=by rfl) (ht:(ds.all fun r=>!isT r)=true:=by rfl) (hg:gst ops σ g=some (true,gk):=by rfl) (hN:Nat.blt d N=true:=by rfl) (hs:aF σ d=true:=by rfl):Der P ops W0 N Fin (⟨some d,.load ty' x,ty,pos,after,g⟩ :: os) us pk fk σ:=IG h hx hi hc ht hA hz hg hN hs
theorem bh {x:Operand} {i o z:Nat} {cs:List Sy} {ds es:List D} {sh:D} (h:Der P ops W0 N Fin os (us++[((d :: (gk++(i :: kx x)))++pk,([d])++fk)]) [] [] ((d,.sy (.d (.t es))) :: σ)) (hx:ev σ x=some (.bx i o):=by rfl) (hi:al σ i=some (.tk (.bx cs)):=by rfl) (hA:isAgg? P ty'=some true:=by rfl) (hz:sizeOf? P ty'=some z:=by rfl) (hl:Nat.ble (o+z) cs.length=true:=by rfl) (hc:Gj ((cs.drop o).take z)=some ds:=by rfl) (ht:(ds.all fun r=>!isT r)=true:=by rfl) (hsh:zd P 8 ty'=some sh:=by rfl) (hn:jE sh ds=some (.t es,[]):=by rfl) (hg:gst ops σ g=some (true,gk):=by rfl) (hN:Nat.blt d N=true:=by rfl) (hs:aF σ d=true:=by rfl):Der P ops W0 N Fin (⟨some d,.load ty' x,ty,pos,after,g⟩ :: os) us pk fk σ:=
 cr (.d (.t es)) (i :: kx x) (fun σ' c a w hk hh=>by
  obtain ⟨hAi,b,h1,h2⟩:=ap hh (ah hx (fun κ hκ=>hk κ (by simp [hκ])))
  obtain ⟨_,⟨b',vs,h3,h4,h5,h6⟩,_⟩:=hh.tok i _ ((hk i (by simp)).trans hi)
  rw [h1] at h3;cases h3
  have hlen:=cM _ _ h5
  have hle:=Nat.le_of_ble_eq_true hl
  have h7:=vo _ _ _ hc ht (kw z _ _ (kC o _ _ h5))
  obtain ⟨us',xs,e1,e2,e3⟩:=xe sh ds (.t es) [] _ hn h7
  have e4:xs = []:=e3
  subst e4
  rw [List.append_nil] at e1
  have hzl:((vs.drop o).take z).length=z:=by rw [List.length_take,List.length_drop];omega
  have h8:bA w b o ((vs.drop o).take z):=fun j u hj=>by
   rw [List.getElem?_take] at hj
   split at hj
   ·rw [List.getElem?_drop] at hj;exact (h6 (o+j) u hj).1
   ·cases hj
  exact ⟨.agg ((vs.drop o).take z).toArray,dl (X:=Instr.loadAt ty' (a.eval x)) (by rw [h2];exact eL hA (by rw [hz,hzl]) h8),(vs.drop o).take z,rfl,by rw [e1];exact e2⟩) h hg hN hs
end
structure Beh (q:Prop):Prop where
 out:q
theorem kgo {p q:Prop} (hq:q) (h:Beh q→p:=by intro h0;(repeat (first|(refine ca ?_;first|refine aM ?_|refine b6 ?_|refine aR ?_|refine bh ?_|refine aL ?_|refine bg ?_|refine aX ?_|refine az ?_|refine aV ?_)|(refine eG ?_;first|refine bH ?_|refine eC ?_|refine bP ?_|refine cb ?_)|(refine eT ?_;first|refine vy (h:=?_)|refine cd ?_|refine bR ?_|refine b9 ?_|refine bu ?_|refine bJ ?_|refine b8 ?_)|(refine eR ?_;first|refine ch ?_|refine d7 ?_|refine b7 ?_|refine bD ?_|refine bN ?_|refine bX ?_|refine bS ?_)|(refine eK ?_;first|refine eF ?_|refine eA ?_|refine bU ?_|refine bG ?_|refine eH ?_|refine bd ?_|refine bc ?_)|(refine bV ?_;first|refine ba ?_|refine bT ?_)|(refine eV ?_;first|refine bI ?_|refine bQ ?_|refine eJ ?_)|(refine bL ?_;first|refine bO ?_|refine aS ?_|refine aN ?_|refine aW ?_|refine aQ ?_|refine aY ?_)|(refine eE ?_;first|refine bZ ?_|refine eB ?_|refine be ?_|refine aP ?_|refine aU ?_)|(refine aK ?_;first|refine aq _ ?_|refine bf ?_|refine aw ?_|refine au ?_|refine ax ?_)|(refine eP ?_;first|refine bW ?_|refine bE ?_|refine bM ?_)|(refine gOp ?_;first|refine eD ?_|refine eM ?_|refine aZ ?_|refine eU ?_|refine eN ?_|refine bK ?_|refine aO ?_|refine cf ?_|refine eO ?_|refine bC ?_|refine bY ?_|refine aT ?_|refine ay ?_|refine cg ?_|refine sNo ?_|refine dU ?_|refine av ?_)|refine dY ?_|refine dq ?_|refine fj ?_|refine bj ?_|refine ci ?_|refine br ?_|refine fm ?_|refine fl ?_|refine eX ?_|refine dB ?_|refine ck ?_|refine bo ?_|refine aA ?_|refine bk ?_|refine ct ?_|refine bt ?_|refine aBlkX ?_|refine cm ?_));exact h0.out):p:=h ⟨hq⟩
def yc:List Sy→List Nat
 | []=>[]
 | .k i :: r=>i :: yc r
 | .bx i _ :: r=>i :: yc r
 | .el i _ _ _ :: r=>i :: yc r
 | _ :: r=>yc r
def JK:In→List Nat
 | .sy (.k i)=>[i]
 | .sy (.bx i _)=>[i]
 | .sy (.el i _ _ _)=>[i]
 | .sy (.atS _ cs)=>yc cs
 | .tk (.bx cs)=>yc cs
 | _=>[]
def JH:Nat→List Nat→Bool
 | _,[]=>false
 | n,x :: r=>match Nat.beq x n with|true=>true|false=>JH n r
inductive Dp (σ:Env):List Nat→List Nat→Env→Prop
 | nil {seen}:Dp σ [] seen []
 | skip {k ks seen τ}:JH k seen=true→Dp σ ks seen τ→Dp σ (k :: ks) seen τ
 | cons {k ks seen τ i}:al σ k=some i→Dp σ (JK i++ks) (k :: seen) τ→Dp σ (k :: ks) seen ((k,i) :: τ)
section
variable {P:Program} {W0:cz} {N:Nat} {σ:Env} {Q:Exit→Act→World→Prop} {x y:Code}
theorem ai {X:Type} {I:X→Env} {τ:Env} {r:List (Nat × Nat)} (ks:List Nat) (p:X→Prop) (m:X→Nat) (upd:X→Env) (x0:X) (h0:p x0) (hr:∀z,p z→ar P W0 N x (I z) (Exit.then (Ga W0 N p m I z) Q)) (hτ:Dp σ ks ((upd x0).map Prod.fst) τ:=by repeat (first|exact Dp.nil|(apply Dp.skip;focus rfl)|(apply Dp.cons;focus rfl))) (hI:∀z,upd z++τ=I z:=by intro z;(try simp only [List.cons_append,List.nil_append]);(try rfl))
 (hR:kX σ (I x0) r:=by (repeat (first|exact kX.nil|(apply kX.k;focus rfl)|(apply kX.bx;focus rfl)|(apply kX.box;(focus rfl);focus ((repeat (first|apply kL.k|apply kL.bx|apply kL.skip));exact kL.nil))|(apply kX.ats;(focus rfl);focus ((repeat (first|apply kL.k|apply kL.bx|apply kL.skip));exact kL.nil))|apply kX.skip))) (hs:E2 r σ (I x0) (I x0):=by (repeat' (first|exact trivial|refine ⟨⟨?_,rfl⟩,?_⟩)) <;> first|rfl|exact jz rfl (by assumption)|exact jz rfl (Eq.symm (by assumption))|exact qF rfl (by assumption)|exact qF rfl (Eq.symm (by assumption))) (hn:ny ((tks (I x0)).map (rn r))=true:=by rfl):ar P W0 N (.loop x) σ Q:=eS p m I x0 h0 hr hR hs hn
theorem aJ {c:Operand} {s:Sy} {q:Prop} [Decidable q] (ht:q→ar P W0 N x σ Q) (hf:¬q→ar P W0 N y σ Q) (hs:ev σ c=some s:=by rfl) (hb:s.bool? = some (decide q):=by rfl):ar P W0 N (.cond c x y) σ Q:=cIf (fun h=>ht (of_decide_eq_true h)) (fun h=>hf (of_decide_eq_false h)) hs hb
theorem kp {c:Operand} {s:Sy} {q:Prop} [Decidable q] (ht:¬q→ar P W0 N x σ Q) (hf:q→ar P W0 N y σ Q) (hs:ev σ c=some s:=by rfl) (hb:s.bool? = some (!decide q):=by rfl):ar P W0 N (.cond c x y) σ Q:=cIf (fun h=>ht (by simpa using h)) (fun h=>hf (by simpa using h)) hs hb
end
end Go.Proofs.YtnobdioccfeokaaGreatDoor
namespace Go.Proofs.YtnobdioccfeokaaGreatDoor
open Go.RowKit
set_option linter.unusedVariables false
set_option linter.unusedSimpArgs false
theorem qU (z:Array Value) (n j t:Nat) (u:Value) (hj:j<n) (ht:z.toList[t]? = some u):(madeCells z (n * z.size)).toList[j * z.size+t]? = some u:=by
 obtain ⟨h1,h2⟩:=List.getElem?_eq_some_iff.1 ht
 rw [Array.length_toList] at h1
 have h3:j * z.size+t<n * z.size:=by
  have:(j+1) * z.size≤n * z.size:=Nat.mul_le_mul_right _ hj
  rw [Nat.succ_mul] at this;omega
 unfold madeCells
 rw [Array.getElem?_toList,Array.getElem?_map,Array.getElem?_range,if_pos h3]
 simp only [Option.map_some]
 rw [Nat.mul_comm,Nat.mul_add_mod,Nat.mod_eq_of_lt h1,getElem!_pos z t h1]
 rw [Array.getElem_toList] at h2
 rw [h2]
section
variable {P:Program} {ops:Array Oper} {W0:cz} {N:Nat} {Fin:Us→Env→Prop} {os:List Oper} {us:Us} {pk fk:List Nat} {σ:Env} {g:Option (Nat × Bool)} {gk:List Nat} {d ty ty':Nat} {pos:String} {after:Array Edge}
theorem nu {x y:Operand} {s t:Sy} {e n k:Nat} {ti:TypeInfo} {z:Value} (r:D) (h:Der P ops W0 N Fin os (us++[((d :: (gk++((10000+d) :: (kx x++kx y))))++pk,([d,10000+d])++fk)]) [] [] ((d,.sy (.k (10000+d))) :: (10000+d,.tk (.row k e (List.replicate n r))) :: σ)) (hx:ev σ x=some s:=by rfl) (hy:ev σ y=some t:=by rfl) (hm:s.int? = some (n:Int):=by rfl) (hm':t.int? = some (n:Int):=by rfl) (hf:al σ (10000+d)=none:=by rfl) (he:elem? P ty'=some e:=by rfl) (hti:P.info? e=some ti:=by rfl) (htz:ti.zero=some z:=by rfl) (hsz:ti.size=k:=by rfl) (hzl:z.cells.toList.length=k:=by rfl) (hzr:zok r z.cells.toList=true:=by rfl) (hb:ti.bytes * n≤1000000000) (hn:n≤1000000000:=by omega) (hg:gst ops σ g=some (true,gk):=by rfl) (hN:Nat.blt d N=true:=by rfl) (hs:aF ((10000+d,.tk (.row k e (List.replicate n r))) :: σ) d=true:=by rfl) (hu:Nat.beq (10000+d) d=false:=by rfl):Der P ops W0 N Fin (⟨some d,.makeSlice ty' x y,ty,pos,after,g⟩ :: os) us pk fk σ:=by
 refine jy (.k (10000+d)) ((10000+d) :: (kx x++kx y)) [(10000+d,.tk (.row k e (List.replicate n r)))] (fun σ' c a w hk hc=>?_) h hg hN hs (by simp [hu])
 have h1:=df hm (ap hc (ah hx (fun κ hκ=>hk κ (by simp [hκ]))))
 have h2:=df hm' (ap hc (ah hy (fun κ hκ=>hk κ (by simp [hκ]))))
 have hml:n≤maxLen:=Nat.le_trans hn (Nat.le_of_ble_eq_true rfl)
 obtain ⟨w',h3,h4,h5⟩:=run_make_full (P:=P) w w.heap.size ty' e ti z k (dE he) hti htz hsz .i64 .i64 n (by omega) hml (Nat.le_refl _)
 have hrz:∀S,Rp w' S r z.cells.toList:=fun S=>n7 r _ hzr
 have hX:Ext w w':=⟨h5.os,h5.tape,h5.output,h5.size,fun b hb=>h5.block b hb (by simp)⟩
 have hc1:=hc.grow hX c.F (fun _ h=>h) (fun _ h=>.inl h) (fun b hb=>Nat.lt_of_lt_of_le (hc.lt b hb) (Below.size hX))
 have hrun:(execOp a.eval ⟨some d,.makeSlice ty' x y,ty,pos,after,g⟩).run P w=.ok (.value (.slice (some ⟨w.heap.size,0,none⟩) n n)) w':=dl (X:=Instr.makeSlice ty' (a.eval x) (a.eval y)) (by rw [h1,h2];exact h3)
 unfold Oper.wp
 rw [hrun]
 have hlt:=h4.lt w.heap.size rfl
 rw [Array.length_toList] at hzl
 subst hzl
 refine ⟨_,_,rfl,hc1.new (i:=10000+d) (t:=.row z.cells.size e (List.replicate n r)) (v:=.slice (some ⟨w.heap.size,0,none⟩) n n) (S:=fun b=>b=w.heap.size) ((hk _ (by simp)).trans hf) (.inr ⟨(madeCells z.cells (n * z.cells.size)).toList,?_,fun g hg=>by cases hg;rfl,fun j hj=>?_⟩) (fun b hb=>⟨fun hF=>?_,?_⟩) (fun j u hj b hb hT=>?_),.inr rfl,(if_pos rfl).symm⟩
 ·rw [List.length_replicate]
  exact ⟨h4.1,h4.2.imp id (fun ⟨g,cap,cur,q1,_,q2⟩=>⟨g,cap,cur,q1,Nat.zero_le _,q2⟩)⟩
 ·rw [List.length_replicate] at hj
  exact ⟨z.cells.toList,by rw [Array.length_toList],by rw [List.getElem_replicate];exact hrz _,fun t u ht=>qU z.cells n j t u hj ht⟩
 ·subst hb;exact absurd (hc.lt _ hF) (Nat.lt_irrefl _)
 ·subst hb;exact ⟨hlt.2,.inr hc.ext.size⟩
 ·subst hb;exact absurd ((hc.tok j u hj).2.2 _ hT).2.1 (Nat.lt_irrefl _)
end
end Go.Proofs.YtnobdioccfeokaaGreatDoor
