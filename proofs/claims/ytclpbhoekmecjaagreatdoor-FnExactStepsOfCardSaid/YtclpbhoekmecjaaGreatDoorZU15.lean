/-
  Proved facts that the law leans on.
-/
import Derived.Test.YtclpbhoekmecjaaGreatDoorZU13
import Derived.Test.YtclpbhoekmecjaaGreatDoorZU14
namespace Go.Proofs.YtclpbhoekmecjaaGreatDoor
open Go.RowKit
set_option linter.unusedVariables false
set_option linter.unusedSimpArgs false
theorem au.congr {W0:b7} {N:Nat} {σ σ':Env} {a:Act} {w:World} {c:Cx} (h:au W0 N σ a w c) (e:∀κ,ai σ' κ=ai σ κ):au W0 N σ' a w c:=
 ⟨h.ext,h.old,h.lt,h.size,h.defers,fun i hi=>by rw [e];exact h.all i hi,fun i t hi=>h.tok i t (by rw [← e];exact hi),fun i j t u hi hj=>h.off i j t u (by rw [← e];exact hi) (by rw [← e];exact hj),fun t s ht=>h.tmp t s (by rw [← e];exact ht)⟩
theorem zO {c:Cx} {w:World} {z e:Nat} {v:Value} {S:BS} (h:(Tk.row z e []).ok c w v S):(Tk.grw z e []).ok c w v S:=by
 rcases h with h|⟨cells,h1,h2,_⟩
 ·exact .inl h
 ·exact .inr ⟨cells,fun _ _=>False,h1,fun g hg=>⟨h2 g hg,fun _ h=>h⟩,fun j b h=>h.elim,fun i j _ b h=>h.elim,fun j hj=>absurd hj (Nat.not_lt_zero _)⟩
theorem Em {σ:Env} {κ n e:Nat} {ds ds':List D} (h:ai σ κ=some (.tk (.grw n e ds))) (he:ds=ds'):ai σ κ=some (.tk (.grw n e ds')):=he ▸ h
def vr:Nat→Code→Code
 | 0,c=>c
 | n+1,.seq _ y=>vr n y
 | _,c=>c
theorem AB {c:Cx} {w:World} {z e:Nat} {ds:List D} {v:Value} {S:BS} (h:(Tk.grw z e ds).ok c w v S):Ow w (.l z ds) S [v]:=by
 rcases h with ⟨rfl,a,rfl⟩|⟨cells,T,own,h3,h4,h5,h6⟩
 ·exact ⟨a,0,rfl,Nat.le_refl _,by decide,fun _=>rfl,.inl rfl⟩
 by_cases hd:ds = []
 ·subst hd
  rcases own.2 with ⟨hv,_⟩|⟨g,cap,cur,hv,_,hg,q5,q6,_⟩
  ·exact ⟨none,0,by rw [hv];rfl,Nat.le_refl _,by decide,fun _=>rfl,.inl rfl⟩
  ·exact ⟨some ⟨g,0,none⟩,cap,by rw [hv],q5,q6,fun h=>(by cases h),.inl rfl⟩
 rcases own.2 with ⟨hv,hn0⟩|⟨g,cap,cur,hv,_,hg,q5,q6,_⟩
 ·exact absurd (List.eq_nil_of_length_eq_zero hn0) hd
 have hgo:v.ownBlock=some g:=by rw [hv];rfl
 obtain ⟨l1,l2⟩:=tK own hgo
 obtain ⟨s1,s2⟩:=h3 g hgo
 refine ⟨some ⟨g,0,none⟩,cap,by rw [hv],q5,q6,fun h=>(by cases h),.inr ⟨g,0,fun b=>∃j,T j b,rfl,s1,l1,fun q=>l2 q,fun b ⟨j,hb⟩=>⟨(h4 j b hb).1,fun e=>s2 j (e ▸ hb)⟩,?_⟩⟩
 have:∀(es:List D) (o:Nat) (T:Nat→BS),(∀i j,i≠j→∀b,T i b→¬T j b)→(∀j (hj:j<es.length),∃cs,cs.length=z∧Ow w es[j] (T j) cs∧bD w g (o+j * z) cs)→OwR w es (fun b=>∃j,T j b) z g o:=by
  intro es
  induction es with
  | nil=>intro o T _ _;trivial
  | cons d es ih=>
   intro o T hoff hel
   obtain ⟨cs,p1,p2,p3⟩:=hel 0 (by simp)
   rw [Nat.zero_mul,Nat.add_zero] at p3
   refine ⟨T 0,fun b=>∃j,T (j+1) b,fun b h=>⟨0,h⟩,fun b ⟨j,h⟩=>⟨j+1,h⟩,fun b h ⟨j,h'⟩=>hoff 0 (j+1) (by omega) b h h',⟨cs,p1,p2,p3⟩,ih (o+z) (fun j=>T (j+1)) (fun i j hij=>hoff (i+1) (j+1) (by omega)) (fun j hj=>?_)⟩
   obtain ⟨cs,r1,r2,r3⟩:=hel (j+1) (by simpa using hj)
   refine ⟨cs,r1,by simpa using r2,?_⟩
   rw [show o+z+j * z=o+(j+1) * z by rw [Nat.succ_mul];omega]
   exact r3
 refine this ds 0 T h5 (fun j hj=>?_)
 obtain ⟨cs,p1,p2,p3⟩:=h6 j hj
 refine ⟨cs,p1,p2,fun t u ht=>?_⟩
 have h9:=p3 t u ht
 rw [hv] at own
 rw [Nat.zero_add,World.ownsRow.cellAt own (j * z+t)]
 ·exact h9
 ·rcases Nat.lt_or_ge (j * z+t) cells.length with h|h
  ·rw [← own.1];exact h
  ·rw [List.getElem?_eq_none h] at h9;cases h9
theorem G5 {P:Program} {W0:b7} {N:Nat} {σ:Env} {z e:Nat} {ds:List D} {C:Code} {Q:Exit→Act→World→Prop} (i:Nat) (h:aq P W0 N C ((i,.tk (.own (.l z ds) none none)) :: σ) Q) (hi:ai σ i=some (.tk (.grw z e ds)):=by rfl):aq P W0 N C σ Q:=by
 intro a w ⟨c,hc⟩
 obtain ⟨hA,hT,hlt⟩:=hc.tok i _ hi
 exact h a w ⟨c,hc.upd2 hi Chg.rfl' (fun _=>⟨AB hT,fun p hp=>(by cases hp),fun p hp=>(by cases hp)⟩)⟩
theorem Ii {W0:b7} {N:Nat} {σ:Env} {a:Act} {w:World} {c:Cx} (hc:au W0 N σ a w c) {ss:List Sy} {es:List D} {us':List Value} (r:D) (ho:lp σ ss=some es) (e4:Sy.oks c w ss us') (hr:rP r=es) (hd:AE ss=true) :
 Ow w r (fun b=>∃κ,κ∈dR ss∧c.T κ b) us'∧∀κ∈dR ss,∃t,ai σ κ=some (.tk t):=by
 obtain ⟨p1,p2,p3⟩:=vK hc ss es us' ho e4
 have hkey:∀(m κ:Nat),ss[m]? = some (.k κ)→κ∈dR ss∧∃t,ai σ κ=some (.tk t):=fun m κ hm=>by
  have:∀(ss:List Sy) (es:List D) (m:Nat),lp σ ss=some es→ss[m]? = some (.k κ)→κ∈dR ss∧∃t,ai σ κ=some (.tk t):=by
   intro ss
   induction ss with
   | nil=>intro es m _ hm;simp at hm
   | cons s ss ih=>
    intro es m ho hm
    have tl:∃es',lp σ ss=some es':=by
     cases s with
     | k j=>unfold lp at ho;split at ho;exact ⟨_,by assumption⟩;cases ho
     | d r=>unfold lp at ho;split at ho;exact ⟨_,by assumption⟩;cases ho
     | _=>cases ho
    obtain ⟨es',hes'⟩:=tl
    cases m with
    | zero=>
     simp at hm
     subst hm
     refine ⟨by simp [dR,kSy],?_⟩
     unfold lp at ho
     split at ho
     ·exact ⟨_,by assumption⟩
     ·cases ho
    | succ m=>
     obtain ⟨q1,q2⟩:=ih es' m hes' (by simpa using hm)
     exact ⟨by simp [dR,q1],q2⟩
  exact this ss es m ho hm
 have htk:∀(m b:Nat),tkT c ss[m]? b→∃κ,ss[m]? = some (.k κ)∧c.T κ b:=fun m b hb=>by
  cases hm:ss[m]? with
  | none=>rw [hm] at hb;exact hb.elim
  | some s=>
   rw [hm] at hb
   cases s with
   | k κ=>exact ⟨κ,rfl,hb⟩
   | _=>exact hb.elim
 have hcells:=so es us' (fun m=>tkT c ss[m]?) p1 p3 (fun m m' hmm b hb hb'=>by
  obtain ⟨κ,q1,q2⟩:=htk m b hb
  obtain ⟨κ',q3,q4⟩:=htk m' b hb'
  have hne:κ≠κ':=by
   rcases Nat.lt_or_ge m m' with hlt|hge
   ·exact kC ss m m' κ κ' hd hlt q1 q3
   ·exact fun e=>kC ss m' m κ' κ hd (by omega) q3 q1 e.symm
  obtain ⟨t,ht⟩:=(hkey m κ q1).2
  obtain ⟨t',ht'⟩:=(hkey m' κ' q3).2
  exact hc.off κ κ' t t' ht ht' hne b q2 q4)
 have h1:Ow w r (fun b=>∃m:Nat,tkT c ss[m]? b) us':=BM r _ us' (by rw [hr];exact hcells)
 have hsub:∀b,(∃m:Nat,tkT c ss[m]? b)→∃κ,κ∈dR ss∧c.T κ b:=fun b ⟨m,hb⟩=>by
  obtain ⟨κ,q1,q2⟩:=htk m b hb
  exact ⟨κ,(hkey m κ q1).1,q2⟩
 refine ⟨Ow.keep (Nat.le_refl _) r _ _ us' hsub (fun _ _ _=>rfl) h1,fun κ hκ=>?_⟩
 ·have:∀(ss:List Sy),κ∈dR ss→∃m:Nat,ss[m]? = some (Sy.k κ):=by
   intro ss
   induction ss with
   | nil=>intro h;simp [dR] at h
   | cons s ss ih=>
    intro h
    rw [dR,List.mem_append] at h
    rcases h with h|h
    ·cases s with
     | k j=>simp [kSy] at h;subst h;exact ⟨0,rfl⟩
     | _=>simp [kSy] at h
    ·obtain ⟨m,hm⟩:=ih h;exact ⟨m+1,by simpa using hm⟩
  obtain ⟨m,hm⟩:=this ss hκ
  exact (hkey m κ hm).2
def wV:Sy→List Sy
 | .ag ss=>ss
 | .d (.t ds)=>kW ds
 | s=>[s]
def F3 (σ:Env):Sy→Bool
 | .ag ss=>ss.all (pI σ)
 | .d (.t _)=>true
 | s=>pI σ s
def GR (pls:List (Nat × Nat)):List Sy→List (Nat × Sy)→List Sy
 | cur,[]=>cur
 | cur,(i,s) :: ps=>match pls[i]? with
  | some (off,_)=>GR pls (cur.take off++(wV s++cur.drop (off+(wV s).length))) ps
  | none=>cur
def okG (pls:List (Nat × Nat)):Nat→List (Nat × Sy)→Bool
 | _,[]=>true
 | n,(i,s) :: ps=>match pls[i]? with
  | some (off,k)=>Nat.beq k (wV s).length && (Nat.ble (off+k) n && okG pls n ps)
  | none=>false
theorem AZ (o:Nat):∀(us' old pre post:List Value) (k:Nat),old.length=us'.length→pre.length=o+k→((us'.zipIdx k).foldl (fun (c:Array Value) (p:Value × Nat)=>c.setIfInBounds (o+p.2) p.1) (pre++(old++post)).toArray)=(pre++(us'++post)).toArray:=by
 intro us'
 induction us' with
 | nil=>intro old pre post k h1 _;rw [List.eq_nil_of_length_eq_zero h1];rfl
 | cons u us' ih=>
  intro old pre post k h1 h2
  cases old with
  | nil=>simp at h1
  | cons x old=>
   have h3:=ih old (pre++[u]) post (k+1) (by simpa using h1) (by simp;omega)
   rw [List.zipIdx_cons,List.foldl_cons]
   have h4:(pre++(x :: old++post)).toArray.setIfInBounds (o+k) u=((pre++[u])++(old++post)).toArray:=by
    apply Array.ext'
    simp [List.set_append,h2]
   dsimp only
   rw [h4,h3]
   simp
theorem Aq {W0:b7} {N:Nat} {a:Act} {w:World} {c:Cx} {σ:Env} (h:au W0 N σ a w c) {s:Sy} {v:Value} (hv:s.ok c w v) (hs:F3 σ s=true):∃us':List Value,v.cells=us'.toArray∧Sy.oks c w (wV s) us':=by
 have one:pI σ s=true→wV s = [s]→∃us':List Value,v.cells=us'.toArray∧Sy.oks c w (wV s) us':=fun h1 h2=>⟨[v],o5 (mL h hv h1),by rw [h2];exact ⟨v,[],rfl,hv,rfl⟩⟩
 cases s with
 | ag ss=>obtain ⟨vs,rfl,h2⟩:=hv;exact ⟨vs,rfl,h2⟩
 | d r=>
  cases r with
  | t ds=>obtain ⟨cs,rfl,h2⟩:=hv;exact ⟨cs,rfl,kT ds cs h2⟩
  | _=>exact one hs rfl
 | _=>exact one hs rfl
theorem Is {W0:b7} {N:Nat} {a:Act} {w:World} {c:Cx} {σ:Env} (h:au W0 N σ a w c) {pls:List (Nat × Nat)} {n:Nat}:∀(ps:List (Nat × Sy)) (qs:List (Nat × Value)) (cur:List Sy) (cs:List Value),cur.length=n→okG pls n ps=true→(ps.all fun p=>F3 σ p.2)=true→Sy.oks c w cur cs→ps.length=qs.length→(∀(j i:Nat) (s:Sy),ps[j]? = some (i,s)→∃v,qs[j]? = some (i,v)∧s.ok c w v) →
 ∃cs':List Value,Instr.fill (fun i=>pls[i]?) cs.toArray qs=some cs'.toArray∧Sy.oks c w (GR pls cur ps) cs':=by
 intro ps
 induction ps with
 | nil=>intro qs cur cs _ _ _ ho hl _;rw [List.eq_nil_of_length_eq_zero (by simpa using hl.symm:qs.length=0)];exact ⟨cs,rfl,ho⟩
 | cons p ps ih=>
  obtain ⟨i,s⟩:=p
  intro qs cur cs hn hk hb ho hl hq
  cases qs with
  | nil=>simp at hl
  | cons q qs=>
   obtain ⟨v,e1,hv⟩:=hq 0 i s rfl
   simp at e1
   subst e1
   rw [List.all_cons,Bool.and_eq_true] at hb
   obtain ⟨us',hu1,hu2⟩:=Aq h hv hb.1
   unfold okG at hk
   unfold GR
   cases hp:pls[i]? with
   | none=>rw [hp] at hk;cases hk
   | some ok=>
    obtain ⟨off,k⟩:=ok
    rw [hp] at hk
    dsimp only at hk ⊢
    simp only [Bool.and_eq_true] at hk
    obtain ⟨hk1,hk2,hk3⟩:=hk
    have hk1:=Nat.eq_of_beq_eq_true hk1
    have hk2:=Nat.le_of_ble_eq_true hk2
    have hul:=cW _ _ hu2
    have hcl:=cW _ _ ho
    have hnew:=lJ _ _ _ _ (kP off _ _ ho) (lJ _ _ _ _ hu2 (kH (off+(wV s).length) _ _ ho))
    obtain ⟨cs',r1,r2⟩:=ih qs (cur.take off++(wV s++cur.drop (off+(wV s).length))) _ (by simp [List.length_take];omega) hk3 hb.2 hnew (by simpa using hl) (fun j i' s' hj=>hq (j+1) i' s' (by simpa using hj))
    refine ⟨cs',?_,r2⟩
    unfold Instr.fill
    rw [hp]
    dsimp only
    rw [hu1]
    have a1:¬(us'.toArray.size≠k∨off+us'.toArray.size > cs.toArray.size):=by simp;omega
    rw [if_neg (by simpa using a1)]
    rw [← r1]
    congr 1
    have h5:=AZ off us' ((cs.drop off).take us'.length) (cs.take off) (cs.drop (off+us'.length)) 0 (by simp;omega) (by simp;omega)
    have h6:cs.take off++((cs.drop off).take us'.length++cs.drop (off+us'.length))=cs:=by
     rw [show cs.drop (off+us'.length)=(cs.drop off).drop us'.length by rw [List.drop_drop],List.take_append_drop,List.take_append_drop]
    rw [h6,hul] at h5
    rw [← h5,← Array.foldl_toList,Array.toList_zipIdx]
section
variable {P:Program} {ops:Array Oper} {W0:b7} {N:Nat} {Fin:Us→Env→Prop} {os:List Oper} {us:Us} {pk fk:List Nat} {σ:Env} {g:Option (Nat × Bool)} {gk:List Nat} {d ty ty' f:Nat} {pos:String} {after:Array Edge} {at':Array TypeId}
theorem sGh {o:Oper} (K:List Nat) (up:Env) (hf:∀(σ':Env) (a:Act) (w:World),(∀κ∈K,ai σ' κ=ai σ κ)→Holds W0 N σ' a w→Holds W0 N (up++σ') a w) (h:Der P ops W0 N Fin (o :: os) us (K++pk) (up.map Prod.fst++fk) (up++σ)):Der P ops W0 N Fin (o :: os) us pk fk σ:=by
 obtain ⟨keys,upd,h1,h2⟩:=h
 refine ⟨keys++K,upd++up,fun σ' a w hk hh=>?_,by rw [List.append_assoc,List.append_assoc,List.map_append,List.append_assoc];exact h2⟩
 have h3:=h1 (up++σ') a w (fun κ hκ=>by
  by_cases hm:κ∈up.map Prod.fst
  ·rw [vL hm,vL hm]
  ·rw [jl hm,jl hm];exact hk κ (by simp [hκ])) (hf σ' a w (fun κ hκ=>hk κ (by simp [hκ])) hh)
 rw [List.append_assoc]
 exact h3
theorem En (i:Nat) {z e:Nat} {ds:List D} {o:Oper} (hn:∀d∈ds,wT d=true∧Ek d=true) (h:Der P ops W0 N Fin (o :: os) us ([i]++pk) ([i]++fk) ((i,.tk (.own (.l z ds) none none)) :: σ)) (hi:ai σ i=some (.tk (.row z e ds)):=by rfl):Der P ops W0 N Fin (o :: os) us pk fk σ:=
 sGh [i] [(i,.tk (.own (.l z ds) none none))] (fun σ' a w hk ⟨c,hc⟩=>by
  have hi':=(hk i (by simp)).trans hi
  obtain ⟨hA,hT,hlt⟩:=hc.tok i _ hi'
  exact ⟨c,hc.upd2 hi' Chg.rfl' (fun _=>⟨AJ hn hT,fun p hp=>(by cases hp),fun p hp=>(by cases hp)⟩)⟩) h
theorem GX (i:Nat) {z e:Nat} {C:Code} {Q:Exit→Act→World→Prop} (h:aq P W0 N C ((i,.tk (.grw z e [])) :: σ) Q) (hi:ai σ i=some (.tk (.row z e [])):=by rfl):aq P W0 N C σ Q:=by
 intro a w ⟨c,hc⟩
 obtain ⟨hA,hT,hlt⟩:=hc.tok i _ hi
 exact h a w ⟨c,hc.upd2 hi Chg.rfl' (fun _=>zO hT)⟩
theorem Cr (i:Nat) {z e:Nat} {x:Exit} {Q:Exit→Act→World→Prop} (h:At W0 N ((i,.tk (.grw z e [])) :: σ) x Q) (hi:ai σ i=some (.tk (.row z e [])):=by rfl):At W0 N σ x Q:=by
 intro a w ⟨c,hc⟩
 obtain ⟨hA,hT,hlt⟩:=hc.tok i _ hi
 exact h a w ⟨c,hc.upd2 hi Chg.rfl' (fun _=>zO hT)⟩
theorem ay {xs:List (Nat × Operand)} {ps:List (Nat × Sy)} {ds0:List D} {v0:Value} {pls:List (Nat × Nat)} (h:Der P ops W0 N Fin os (us++[((d :: (gk++(dR (ps.flatMap fun p=>wV p.2)++kxp xs)))++pk,([d])++fk)]) [] [] ((d,.sy (.ag (GR pls (kW ds0) ps))) :: σ)) (hx:evq σ xs=some ps:=by rfl) (hr:zd P 4 ty'=some (.t ds0):=by rfl) (hv:rB P ty'=some v0:=by rfl) (hz:zok (.t ds0) v0.cells.toList=true:=by rfl) (hp:plc P ty'=some pls:=by rfl) (hi:okG pls (kW ds0).length ps=true:=by rfl) (h1:(ps.all fun p=>F3 σ p.2)=true:=by rfl) (hg:gst ops σ g=some (true,gk):=by rfl) (hN:Nat.blt d N=true:=by rfl) (hs:aG σ d=true:=by rfl):Der P ops W0 N Fin (⟨some d,.build ty' xs.toArray,ty,pos,after,g⟩ :: os) us pk fk σ:=
 bT (.ag (GR pls (kW ds0) ps)) (dR (ps.flatMap fun p=>wV p.2)++kxp xs) (fun σ' c a w hk hc=>by
  obtain ⟨h3,h4⟩:=DO hc xs ps hx (fun κ hκ=>hk κ (by simp [hκ]))
  have hz0:Sy.oks c w (kW ds0) v0.cells.toList:=kT ds0 _ (oC (.t ds0) _ hz)
  have hone:(ps.all fun p=>F3 σ' p.2)=true:=by
   rw [List.all_eq_true] at h1 ⊢
   intro p hm
   have:=h1 p hm
   have hks:∀κ∈dR (wV p.2),ai σ' κ=ai σ κ:=fun κ hκ=>hk κ (by
    rw [List.mem_append]
    left
    have:∀(l:List (Nat × Sy)),p∈l→κ∈dR (l.flatMap fun p=>wV p.2):=by
     intro l
     induction l with
     | nil=>intro h;cases h
     | cons x l ih=>
      intro h
      rw [List.flatMap_cons]
      have app:∀(a b:List Sy),dR (a++b)=dR a++dR b:=by
       intro a b
       induction a with
       | nil=>rfl
       | cons s a ih=>rw [List.cons_append,dR,ih,dR,List.append_assoc]
      rw [app,List.mem_append]
      rcases List.mem_cons.1 h with rfl|h
      ·exact .inl hκ
      ·exact .inr (ih h)
    exact this ps hm)
   obtain ⟨i,s⟩:=p
   have key:F3 σ' s=F3 σ s:=by
    cases s with
    | ag ss=>exact gY hks
    | d r=>
     cases r with
     | t ds=>rfl
     | _=>rfl
    | k j=>exact kN (fun κ hκ=>hks κ (by simpa [wV,dR] using hκ))
    | _=>rfl
   rw [key];exact this
  obtain ⟨cs',r1,r2⟩:=Is hc ps _ (kW ds0) v0.cells.toList rfl hi hone hz0 h3 h4
  rw [Array.toArray_toList] at r1
  refine ⟨.agg cs'.toArray,?_,_,rfl,r2⟩
  refine dA (X:=Instr.build ty' (xs.toArray.map fun (i,x)=>(i,a.eval x))) (run_build w ty' _ _ (nX hv hp ?_))
  simpa using r1) h hg hN hs
theorem Gt {x:Operand} {z e:Nat} {ss:List Sy} {es:List D} {v0:Value} (r:D) (h:Der P ops W0 N Fin os (us++[((d :: (gk++((10000+d) :: (dR ss++kx x))))++pk,(d :: (((10000+d,In.tk (.grw z e [r])) :: (dR ss).map fun κ=>(κ,In.no)).map Prod.fst))++fk)]) [] [] ((d,.sy (.k (10000+d))) :: (((10000+d,.tk (.grw z e [r])) :: (dR ss).map fun κ=>(κ,.no))++σ))) (hx:ev σ x=some (.ag ss):=by rfl) (ho:lp σ ss=some es:=by rfl) (hr:rP r=es:=by rfl) (hd:AE ss=true:=by rfl) (hf:ai σ (10000+d)=none:=by rfl) (h1:ss.all (pI σ)=true:=by rfl) (he:elem? P ty'=some e:=by rfl) (hz:sizeOf? P e=some z:=by rfl) (hv:rB P e=some v0:=by rfl) (hvs:v0.cells.size=z:=by rfl) (hzz:(Nat.blt 0 z && Nat.ble z 1000)=true:=by rfl) (hl:ss.length=z:=by rfl) (hg:gst ops σ g=some (true,gk):=by rfl) (hN:Nat.blt d N=true:=by rfl) (hs:aG (((10000+d,In.tk (.grw z e [r])) :: (dR ss).map fun κ=>(κ,In.no))++σ) d=true:=by rfl) (hu:(((10000+d,In.tk (.grw z e [r])) :: (dR ss).map fun κ=>(κ,In.no)).all fun p=>!(Nat.beq p.1 d))=true:=by rfl):Der P ops W0 N Fin (⟨some d,.buildSlice ty' 1 #[(0,x)],ty,pos,after,g⟩ :: os) us pk fk σ:=by
 refine kc (.k (10000+d)) ((10000+d) :: (dR ss++kx x)) ((10000+d,.tk (.grw z e [r])) :: (dR ss).map fun κ=>(κ,.no)) (fun σ' c a w hk hc=>?_) h hg hN hs hu
 have hks:∀κ∈dR ss,ai σ' κ=ai σ κ:=fun κ hκ=>hk κ (by simp [hκ])
 have ho':=(mY ss hks).trans ho
 obtain ⟨us',e3,e4⟩:=am hc (ab hx (fun κ hκ=>hk κ (by simp [hκ])))
 obtain ⟨hO,htk⟩:=Ii hc r ho' e4 hr hd
 have hul:us'.length=z:=(cW _ _ e4).trans hl
 rw [Bool.and_eq_true] at hzz
 have hz0:0<z:=Nat.blt_eq.mp hzz.1
 have hf':ai σ' (10000+d)=none:=(hk _ (by simp)).trans hf
 unfold Oper.wp
 rw [qR (cs:=us') (zs:=[]) he hz hv hvs ⟨hz0,Nat.le_of_ble_eq_true hzz.2⟩ (by rw [e3];rfl) hul]
 have hX:Ext w (w.alloc (.cells us'.toArray e)):=(Ext.refl w).alloc _
 have hc1:=hc.grow hX c.F (fun _ h=>h) (fun _ h=>.inl h) (fun b hb=>Nat.lt_of_lt_of_le (hc.lt b hb) (Below.size hX))
 have hsz:(w.alloc (.cells us'.toArray e)).heap.size=w.heap.size+1:=World.size_alloc ..
 have hc2:=hc1.new (i:=10000+d) (t:=.abs (fun _ _ _ _=>True) none) (v:=.slice (some ⟨w.heap.size,0,none⟩) 1 1) (S:=fun b=>b=w.heap.size) hf' ⟨fun _ _ _ _ _ _=>trivial,fun u hu=>by cases hu⟩ (fun b hb=>⟨fun hF=>by subst hb;exact absurd (hc.lt _ hF) (Nat.lt_irrefl _),by subst hb;omega,.inr (by subst hb;exact hc.ext.size)⟩) (fun j u hj b hb hT=>by subst hb;exact absurd ((hc.tok j u hj).2.2 _ hT).2.1 (Nat.lt_irrefl _))
 have hne:∀κ∈dR ss,κ≠10000+d:=fun κ hκ e=>by
  obtain ⟨t,ht⟩:=htk κ hκ
  rw [e,hf'] at ht;cases ht
 have hT2:∀κ,κ≠10000+d→(c.add (10000+d) (.slice (some ⟨w.heap.size,0,none⟩) 1 1) (fun b=>b=w.heap.size)).T κ=c.T κ:=fun κ hκ=>if_neg hκ
 have hTd:(Cx.add c (10000+d) (.slice (some ⟨w.heap.size,0,none⟩) 1 1) (fun b=>b=w.heap.size)).T (10000+d)=(fun b=>b=w.heap.size):=if_pos rfl
 have hρd:(Cx.add c (10000+d) (.slice (some ⟨w.heap.size,0,none⟩) 1 1) (fun b=>b=w.heap.size)).ρ (10000+d)=.slice (some ⟨w.heap.size,0,none⟩) 1 1:=if_pos rfl
 have hlt:∀κ∈dR ss,∀b,c.T κ b→b<w.heap.size:=fun κ hκ b hb=>by
  obtain ⟨t,ht⟩:=htk κ hκ
  exact ((hc.tok κ t ht).2.2 b hb).2.1
 have hO':Ow (w.alloc (.cells us'.toArray e)) r (fun b=>∃κ,κ∈dR ss∧c.T κ b) us':=Ow.keep (Below.size hX) r _ _ us' (fun _ h=>h) (fun b _ hl=>hX.block b hl) hO
 have hc3:=hc2.eatM (u:=.grw z e [r]) (dR ss) (by rw [aa,if_pos rfl]) (fun κ hκ=>⟨hne κ hκ,by
  obtain ⟨t,ht⟩:=htk κ hκ
  exact ⟨t,by rw [aa,if_neg (Ne.symm (hne κ hκ))];exact ht⟩⟩) Chg.rfl' (fun _=>by
  rw [hρd]
  refine .inr ⟨us',fun j b=>j=0∧∃κ,κ∈dR ss∧c.T κ b,?_,fun g hg=>?_,fun j b hb=>?_,fun i j hij b hb hb'=>hij (hb.1.trans hb'.1.symm),fun j hj=>?_⟩
  ·have:=World.ownsRow_lit (base:=0) (e:=e) (size:=z) w us'.toArray 1 (Nat.zero_le _) (by decide) (by simp [hul])
   exact this
  ·cases hg
   refine ⟨.inl (by rw [hTd]),fun j hj=>?_⟩
   obtain ⟨_,κ,q1,q2⟩:=hj
   exact Nat.lt_irrefl _ (hlt κ q1 _ q2)
  ·obtain ⟨_,κ,q1,q2⟩:=hb
   exact ⟨.inr ⟨κ,q1,by rw [hT2 κ (hne κ q1)];exact q2⟩,by have:=hlt κ q1 b q2;omega⟩
  ·have hj0:j=0:=by simpa using hj
   subst hj0
   exact ⟨us',hul,Ow.keep (Nat.le_refl _) r _ _ us' (fun b hb=>⟨rfl,hb⟩) (fun _ _ _=>rfl) hO',fun t u ht=>by rw [Nat.zero_mul,Nat.zero_add];exact ht⟩)
 refine ⟨_,_,rfl,hc3.congr (fun κ=>?_),.inr rfl,?_⟩
 ·rw [List.cons_append,aa,List.cons_append,aa]
  split
  ·rfl
  ·rename_i hκ
   rw [dO,dO,aa,if_neg hκ]
 ·exact hρd.symm
theorem aT {x y:Operand} {i j e n:Nat} {ds:List D} {y0:D} {ti:TypeInfo} {z:Value} (h:Der P ops W0 N Fin os (us++[((d :: (gk++(i :: j :: (10000+d) :: (kx x++kx y))))++pk,([d,10000+d,i,j])++fk)]) [] [] ((d,.sy (.k (10000+d))) :: (10000+d,.tk (.grw n e (ds++[y0]))) :: (i,.no) :: (j,.no) :: σ)) (hx:ev σ x=some (.k i):=by rfl) (hi:ai σ i=some (.tk (.grw n e ds)):=by rfl) (hy:ev σ y=some (.k j):=by rfl) (hj:ai σ j=some (.tk (.grw n e [y0])):=by rfl) (hf:ai σ (10000+d)=none:=by rfl) (he:elem? P ty'=some e:=by rfl) (hti:P.info? e=some ti:=by rfl) (htz:ti.zero=some z:=by rfl) (hsz:ti.size=n:=by rfl) (hzs:z.cells.size=n:=by rfl) (hn:(Nat.blt 0 n && Nat.ble ti.bytes 1000)=true:=by rfl) (hb:ds.length≤1000000:=by first|omega|(simp only [List.length_map,List.length_take];omega)) (hg:gst ops σ g=some (true,gk):=by rfl) (hN:Nat.blt d N=true:=by rfl) (hs:aG ((10000+d,.tk (.grw n e (ds++[y0]))) :: (i,.no) :: (j,.no) :: σ) d=true:=by rfl) (hu:(Nat.beq (10000+d) d || Nat.beq i d || Nat.beq j d || Nat.beq i (10000+d) || Nat.beq j (10000+d) || Nat.beq i j)=false:=by rfl):Der P ops W0 N Fin (⟨some d,.call { callee:=.builtin .append,args:=#[x,y],argTypes:=#[ty',ty'] },ty,pos,after,g⟩ :: os) us pk fk σ:=by
 simp only [Bool.or_eq_false_iff] at hu
 obtain ⟨⟨⟨⟨⟨hu1,hu2⟩,hu3⟩,hu4⟩,hu5⟩,hu6⟩:=hu
 refine kc (.k (10000+d)) (i :: j :: (10000+d) :: (kx x++kx y)) [(10000+d,.tk (.grw n e (ds++[y0]))),(i,.no),(j,.no)] (fun σ' c a w hk hc=>?_) h hg hN hs (by simp [hu1,hu2,hu3])
 rw [Bool.and_eq_true] at hn
 have hn0:0<n:=Nat.blt_eq.mp hn.1
 have hij:¬i=j:=fun e=>by rw [e] at hu6;simp at hu6
 have hi':=(hk i (by simp)).trans hi
 have hj':=(hk j (by simp)).trans hj
 obtain ⟨hAi,hxv⟩:=am hc (ab hx (fun κ hκ=>hk κ (by simp [hκ])))
 obtain ⟨hAj,hyv⟩:=am hc (ab hy (fun κ hκ=>hk κ (by simp [hκ])))
 obtain ⟨_,hTi,hlt⟩:=hc.tok i _ hi'
 obtain ⟨_,hTj,hltj⟩:=hc.tok j _ hj'
 rcases hTj with ⟨hd,_⟩|⟨news,Tj,jown,jS,jT,jdis,jel⟩
 ·cases hd
 obtain ⟨cs0,q1,q2,q3⟩:=jel 0 (by simp)
 have hnl:news.length=1 * n:=jown.1
 have hncs:news=cs0:=by
  apply List.ext_getElem?
  intro t
  rcases Nat.lt_or_ge t cs0.length with ht|ht
  ·rw [List.getElem?_eq_getElem ht]
   have:=q3 t _ (List.getElem?_eq_getElem ht)
   rw [Nat.zero_mul,Nat.zero_add] at this;exact this
  ·rw [List.getElem?_eq_none ht,List.getElem?_eq_none (by omega)]
 have hnone:∀u∈news,u.oneCell'=true:=by rw [hncs];exact Rp.one _ _ (Ow.rp _ _ _ q2)
 obtain ⟨g',k',hvj⟩:∃g' k',c.ρ j=.slice (some ⟨g',0,none⟩) 1 k':=by
  rcases jown.2 with ⟨_,hn'⟩|⟨g',k',_,hv,_⟩
  ·simp at hn'
  ·exact ⟨g',k',hv⟩
 have hnc:∀t u,news[t]? = some u→w.cell? ((⟨g',0,none⟩:Addr).add t)=some u:=jown.cells (by rw [hvj];rfl)
 obtain ⟨v',w',cells,T,hrun,own',hcl,hch,hob,hT1,hT2,hT3⟩:∃(v':Value) (w':World) (cells:List Value) (T:Nat→BS),(Builtin.append_ #[ty',ty'] ty #[a.eval x,c.ρ j]).run P w=.ok v' w'∧w'.ownsRow 0 e n v' (ds.length+1) (cells++news)∧cells.length=ds.length * n∧Chg (c.T i) w w'∧(∀b,v'.ownBlock=some b→c.T i b∨b=w.heap.size) ∧
  (∀k b,T k b→c.T i b∧b<w.heap.size∧v'.ownBlock≠some b∧w'.heap[b]? = w.heap[b]?)∧(∀k l,k≠l→∀b,T k b→¬T l b)∧(∀k (h:k<ds.length),∃cs,cs.length=n∧Ow w ds[k] (T k) cs∧∀t u,cs[t]? = some u→cells[k * n+t]? = some u):=by
  rcases hTi with ⟨hd,a0,hv0⟩|⟨cells,T,own,hS,hT,hdis,hel⟩
  ·subst hd
   obtain ⟨v',w',r1,r2,r3,r4⟩:=ko (P:=P) (ty:=ty) he hti htz hsz hzs hn0 a0 ⟨g',0,none⟩ 1 k' news hnl hnc hnone (by decide) (by have:=Nat.le_of_ble_eq_true hn.2;omega) (by decide)
   refine ⟨v',w',[],fun _ _=>False,?_,by simpa using r2,by simp,Chg.grown r3 (fun g hg=>by cases hg),fun b hb=>.inr (r4 b hb),fun k b hb=>hb.elim,fun k l _ b hb=>hb.elim,fun k hk'=>absurd hk' (Nat.not_lt_zero _)⟩
   rw [hxv,hv0,hvj];exact r1
  ·rw [← hxv] at own hS
   have hmb:(ds.length+1) * ti.bytes≤140737488355328:=by
    have:(ds.length+1) * ti.bytes≤1000001 * 1000:=Nat.mul_le_mul (by omega) (Nat.le_of_ble_eq_true hn.2)
    omega
   obtain ⟨v',w',r1,r2,r3,_,r5⟩:=run_append_own_at (P:=P) w 0 ty' ty e ti z n ti.bytes (dY he) hti htz hsz rfl hzs hn0 (a.eval x) ds.length cells own ⟨g',0,none⟩ 1 k' news hnl hnc hnone (by unfold maxLen;omega) hmb (Nat.zero_le _)
   have hne:∀k b,T k b→some b≠(a.eval x).ownBlock:=fun k b hb e=>(hS b e.symm).2 k hb
   refine ⟨v',w',cells,T,by rw [hvj];exact r1,r2,own.1,Chg.grown r3 (fun g hg=>(hS g hg).1),fun b hb=>?_,fun k b hb=>?_,hdis,hel⟩
   ·rcases r5 with r5|r5
    ·exact .inl (hS b (by rw [← r5];exact hb)).1
    ·rw [r5] at hb;cases hb;exact .inr rfl
   ·obtain ⟨t1,t2⟩:=hT k b hb
    refine ⟨t1,t2,fun e=>?_,r3.block b t2 (hne k b hb)⟩
    rcases r5 with r5|r5
    ·exact hne k b hb (by rw [← r5,e])
    ·rw [r5] at e;cases e;exact Nat.lt_irrefl _ t2
 have hex:(execOp a.eval ⟨some d,.call { callee:=.builtin .append,args:=#[x,y],argTypes:=#[ty',ty'] },ty,pos,after,g⟩).run P w=.ok (.value v') w':=by
  generalize a.eval=ρ at *
  simp [execOp,resolve,invoke,builtin,hyv,hrun,Result.andThen]
 have hi1:ai ((j,.no) :: σ') i=some (.tk (.grw n e ds)):=by rw [aa,if_neg (Ne.symm hij)];exact hi'
 have hc1:=hc.eff (τ:=[]) hj' ⟨rfl,rfl,rfl,Nat.le_refl _,fun _ _ _=>rfl⟩ c.F (fun _ h=>h) (fun _ h=>.inl h) hc.lt
 have hc2:=hc1.eff (τ:=[]) hi1 hch c.F (fun _ h=>h) (fun _ h=>.inl h) (fun b hb=>Nat.lt_of_lt_of_le (hc.lt b hb) hch.size)
 have hne1:¬i=10000+d:=fun e=>by rw [e] at hu4;simp at hu4
 have hne2:¬j=10000+d:=fun e=>by rw [e] at hu5;simp at hu5
 have hjk:∀b,c.T j b→w'.heap[b]? = w.heap[b]?:=fun b hb=>hch.block b (hltj b hb).2.1 (fun hb'=>hc.off i j _ _ hi' hj' hij b hb' hb)
 unfold Oper.wp
 rw [hex]
 have hnew:=hc2.new (i:=10000+d) (by rw [aa,if_neg hne1,aa,if_neg hne2,hk _ (by simp),hf]) (t:=.grw n e (ds++[y0])) (v:=v') (S:=fun b=>v'.ownBlock=some b∨(∃k,T k b)∨∃k,Tj k b) (.inr ⟨cells++news,fun k b=>if k<ds.length then T k b else Tj (k - ds.length) b,by rw [List.length_append];exact own',fun g hg=>⟨.inl hg,fun k hk'=>?_⟩,fun k b hb=>?_,fun k l hkl b hb hb'=>?_,fun k hk'=>?_⟩) (fun b hb=>?_) (fun j'' u hj'' b hb hb'=>?_)
 ·exact ⟨v',_,rfl,hnew,.inr rfl,(if_pos rfl).symm⟩
 ·dsimp only at hk'
  by_cases hkl:k<ds.length
  ·rw [if_pos hkl] at hk'
   exact (hT1 k g hk').2.2.1 hg
  ·rw [if_neg hkl] at hk'
   have h1:=(jT _ g hk').1
   rcases hob g hg with h2|h2
   ·exact hc.off i j _ _ hi' hj' hij g h2 h1
   ·have:=(jT _ g hk').2;omega
 ·dsimp only at hb
  by_cases hkl:k<ds.length
  ·rw [if_pos hkl] at hb
   obtain ⟨t1,t2,t3,t4⟩:=hT1 k b hb
   exact ⟨.inr (.inl ⟨k,hb⟩),Nat.lt_of_lt_of_le t2 hch.size⟩
  ·rw [if_neg hkl] at hb
   obtain ⟨t1,t2⟩:=jT _ b hb
   exact ⟨.inr (.inr ⟨_,hb⟩),Nat.lt_of_lt_of_le t2 hch.size⟩
 ·dsimp only at hb hb'
  by_cases h1:k<ds.length <;> by_cases h2:l<ds.length
  ·rw [if_pos h1] at hb;rw [if_pos h2] at hb';exact hT2 k l hkl b hb hb'
  ·rw [if_pos h1] at hb;rw [if_neg h2] at hb';exact hc.off i j _ _ hi' hj' hij b (hT1 k b hb).1 (jT _ b hb').1
  ·rw [if_neg h1] at hb;rw [if_pos h2] at hb';exact hc.off i j _ _ hi' hj' hij b (hT1 l b hb').1 (jT _ b hb).1
  ·rw [if_neg h1] at hb;rw [if_neg h2] at hb';exact jdis _ _ (by omega) b hb hb'
 ·by_cases hkl:k<ds.length
  ·obtain ⟨cs,p1,p2,p3⟩:=hT3 k hkl
   refine ⟨cs,p1,?_,fun t u ht=>?_⟩
   ·rw [List.getElem_append_left hkl]
    exact Ow.keep hch.size _ _ _ _ (fun b hb=>by (try dsimp only);rw [if_pos hkl];exact hb) (fun b hb _=>(hT1 k b hb).2.2.2) p2
   ·have:=p3 t u ht
    rw [List.getElem?_append_left]
    ·exact this
    ·rcases Nat.lt_or_ge (k * n+t) cells.length with h|h
     ·exact h
     ·rw [List.getElem?_eq_none h] at this;cases this
  ·have hke:k=ds.length:=by simp at hk';omega
   subst hke
   refine ⟨cs0,q1,?_,fun t u ht=>?_⟩
   ·rw [List.getElem_append_right (Nat.le_refl _)]
    simp only [Nat.sub_self,List.getElem_cons_zero]
    exact Ow.keep hch.size _ _ _ _ (fun b hb=>by (try dsimp only);rw [if_neg hkl];first|exact hb|(rw [Nat.sub_self];exact hb)) (fun b hb _=>hjk b (jT 0 b hb).1) q2
   ·have:=q3 t u ht
    rw [List.getElem?_append_right (by omega),hcl,show ds.length * n+t - ds.length * n=t by omega]
    rw [Nat.zero_mul,Nat.zero_add] at this;exact this
 ·rcases hb with hb|⟨k,hb⟩|⟨k,hb⟩
  ·rcases hob b hb with h1|h1
   ·exact ⟨(hlt b h1).1,Nat.lt_of_lt_of_le (hlt b h1).2.1 hch.size,(hlt b h1).2.2⟩
   ·subst h1
    exact ⟨fun hF=>absurd (hc.lt _ hF) (Nat.lt_irrefl _),(own'.lt _ hb).2,.inr hc.ext.size⟩
  ·have h1:=(hT1 k b hb).1
   exact ⟨(hlt b h1).1,Nat.lt_of_lt_of_le (hlt b h1).2.1 hch.size,(hlt b h1).2.2⟩
  ·have h1:=(jT k b hb).1
   exact ⟨(hltj b h1).1,Nat.lt_of_lt_of_le (hltj b h1).2.1 hch.size,(hltj b h1).2.2⟩
 ·have hj3:¬i=j''∧¬j=j''∧ai σ' j''=some (.tk u):=by
   rw [aa] at hj''
   split at hj''
   ·cases hj''
   ·rename_i e1
    rw [aa] at hj''
    split at hj''
    ·cases hj''
    ·rename_i e2;exact ⟨e1,e2,hj''⟩
  obtain ⟨e2,e1,hj3⟩:=hj3
  rcases hb with hb|⟨k,hb⟩|⟨k,hb⟩
  ·rcases hob b hb with h1|h1
   ·exact hc.off i j'' _ u hi' hj3 e2 b h1 hb'
   ·subst h1;exact absurd ((hc.tok j'' u hj3).2.2 _ hb').2.1 (Nat.lt_irrefl _)
  ·exact hc.off i j'' _ u hi' hj3 e2 b (hT1 k b hb).1 hb'
  ·exact hc.off j j'' _ u hj' hj3 e1 b (jT k b hb).1 hb'
theorem ct {x:Operand} {z i e':Nat} {xs:List D} {t e:Nat} (h:Der P ops W0 N Fin os (us++[((d :: (gk++(i :: kx x)))++pk,([d])++fk)]) [] [] ((d,.sy (.d (.i xs.length))) :: σ)) (hx:ev σ x=some (.k i):=by rfl) (hi:ai σ i=some (.tk (.grw z e' xs)):=by rfl) (ht:elem? P t=some e:=by rfl) (hg:gst ops σ g=some (true,gk):=by rfl) (hN:Nat.blt d N=true:=by rfl) (hs:aG σ d=true:=by rfl):Der P ops W0 N Fin (⟨some d,.call { callee:=.builtin .len,args:=#[x],argTypes:=#[t] },ty,pos,after,g⟩ :: os) us pk fk σ:=
 bT (.d (.i xs.length)) (i :: kx x) (fun σ' c a w hk hc=>by
  obtain ⟨_,h1⟩:=am hc (ab hx (fun κ hκ=>hk κ (by simp [hκ])))
  obtain ⟨_,hT,_⟩:=hc.tok i _ ((hk i (by simp)).trans hi)
  rcases hT with ⟨hd,a',hv⟩|⟨cells,T,h2,_,_⟩
  ·exact ⟨.int .i64 xs.length,by rw [hd];exact gM ht (h1.trans hv),by rw [hd];exact ⟨rfl,by unfold I64;decide⟩⟩
  rw [← h1] at h2
  rcases h2.2 with ⟨hv,hn⟩|⟨g',cap,cur,hv,_,_,h5,h6,_⟩
  ·exact ⟨.int .i64 xs.length,by rw [hn];exact gM ht hv,by simp [Sy.ok,DV,Rp,hn];unfold I64;decide⟩
  ·exact ⟨.int .i64 xs.length,gM ht hv,by simp [Sy.ok,DV,Rp];exact I64.nat (by omega)⟩) h hg hN hs
end
theorem OwL.app {w:World}:∀(xs ys:List D) (V V1 V2:BS) (c e:List Value),(∀x,V1 x→V x)→(∀x,V2 x→V x)→(∀x,V1 x→¬V2 x)→OwL w xs V1 c→OwL w ys V2 e→OwL w (xs++ys) V (c++e):=by
 intro xs
 induction xs with
 | nil=>intro ys V V1 V2 c e _ h2 _ h4 h5;cases (show c = [] from h4);exact OwL.keep (Nat.le_refl _) _ _ _ _ h2 (fun _ _ _=>rfl) h5
 | cons d xs ih=>
  intro ys V V1 V2 c e h1 h2 h3 ⟨T1,T2,c1,e1,k1,k2,k3,k4,k5,k6⟩ h5
  subst k4
  refine ⟨T1,fun x=>T2 x∨V2 x,c1,e1++e,fun x hx=>h1 x (k1 x hx),fun x hx=>hx.elim (fun h=>h1 x (k2 x h)) (h2 x),fun x hx h=>h.elim (k3 x hx) (h3 x (k1 x hx)),by rw [List.append_assoc],k5,ih ys _ T2 V2 e1 e (fun _ h=>.inl h) (fun _ h=>.inr h) (fun x hx=>h3 x (k2 x hx)) k6 h5⟩
theorem nz {w:World} {d:D} {V:BS} {cs:List Value} (h:Ow w d V cs):OwL w [d] V cs:=⟨V,fun _=>False,cs,[],fun _ h=>h,fun _ h=>h.elim,fun _ _ h=>h,by simp,h,rfl⟩
mutual
theorem DZ {w:World}:∀(d:D) (V:BS) (cs:List Value),Ow w d V cs→OwL w (rP d) V cs
 | .t ds,V,cs,h=>Bg ds V cs h
 | .i _,V,cs,h=>nz h
 | .s _,V,cs,h=>nz h
 | .b _,V,cs,h=>nz h
 | .n _,V,cs,h=>nz h
 | .l _ _,V,cs,h=>nz h
 | .p _,V,cs,h=>nz h
 | .f _ _,V,cs,h=>nz h
 | .any,V,cs,h=>nz h
theorem Bg {w:World}:∀(ds:List D) (V:BS) (cs:List Value),OwL w ds V cs→OwL w (FP ds) V cs
 | [],V,cs,h=>h
 | d :: ds,V,cs,⟨T1,T2,c,e,h1,h2,h3,h4,h5,h6⟩=>by
  subst h4
  exact OwL.app (rP d) (FP ds) V T1 T2 c e h1 h2 h3 (DZ d T1 c h5) (Bg ds T2 e h6)
end
def E7:D→Bool
 | .i _=>true
 | .s _=>true
 | .b _=>true
 | .n _=>true
 | .l _ _=>true
 | _=>false
def opS (base:Nat):Nat→List D→List Sy
 | _,[]=>[]
 | j,.l _ _ :: ds=>.k (base+j) :: opS base (j+1) ds
 | j,d :: ds=>.d d :: opS base (j+1) ds
def opT (base:Nat):Nat→List D→Env
 | _,[]=>[]
 | j,.l z xs :: ds=>opT base (j+1) ds++[(base+j,.tk (.own (.l z xs) none none))]
 | j,_ :: ds=>opT base (j+1) ds
theorem xY {W0:b7} {N:Nat} {a:Act} {w:World} (base:Nat):∀(es:List D) (j:Nat) (σ:Env) (c:Cx) (V:BS) (vs:List Value),au W0 N σ a w c→es.all E7=true→OwL w es V vs→(∀b,V b→¬c.F b∧b<w.heap.size∧(W0.M b∨W0.w.heap.size≤b))→(∀k u,ai σ k=some (.tk u)→∀b,V b→¬c.T k b)→(∀k,j≤k→k<j+es.length→ai σ (base+k)=none) →
 ∃c',au W0 N (opT base j es++σ) a w c'∧c.Le c'∧Sy.oks c' w (opS base j es) vs:=by
 intro es
 induction es with
 | nil=>intro j σ c V vs hc _ ho _ _ _;exact ⟨c,hc,Cx.Le.refl c,ho⟩
 | cons d es ih=>
  intro j σ c V vs hc hl ⟨T1,T2,c1,e1,k1,k2,k3,k4,k5,k6⟩ hV hoff hf
  rw [List.all_cons,Bool.and_eq_true] at hl
  subst k4
  have plain:(∀(c':Cx),∃y,c1 = [y]∧(Sy.d d).ok c' w y)→opT base j (d :: es)=opT base (j+1) es→opS base j (d :: es)=.d d :: opS base (j+1) es→∃c',au W0 N (opT base j (d :: es)++σ) a w c'∧c.Le c'∧Sy.oks c' w (opS base j (d :: es)) (c1++e1):=fun hy e1' e2'=>by
   obtain ⟨c',q1,q2,q3⟩:=ih (j+1) σ c T2 e1 hc hl.2 k6 (fun b hb=>hV b (k2 b hb)) (fun k u hk b hb=>hoff k u hk b (k2 b hb)) (fun k h1 h2=>hf k (by omega) (by simp;omega))
   obtain ⟨y,r1,r2⟩:=hy c'
   exact ⟨c',by rw [e1'];exact q1,q2,by rw [e2'];exact ⟨y,e1,by rw [r1];rfl,r2,q3⟩⟩
  cases d with
  | i n=>exact plain (fun c'=>by obtain ⟨rfl,h⟩:=k5;exact ⟨_,rfl,rfl,h⟩) rfl rfl
  | s n=>exact plain (fun c'=>by obtain ⟨rfl,h⟩:=k5;exact ⟨_,rfl,rfl,h⟩) rfl rfl
  | b n=>exact plain (fun c'=>by cases (show c1=_ from k5);exact ⟨_,rfl,rfl⟩) rfl rfl
  | n z=>exact plain (fun c'=>by obtain ⟨a',h⟩:=k5;subst h;exact ⟨_,rfl,a',rfl⟩) rfl rfl
  | l z xs=>
   obtain ⟨ad,kk,hv,hrest⟩:=id k5
   have hv:c1 = [.slice ad xs.length kk]:=hv
   subst hv
   have h1:=hc.new (i:=base+j) (t:=.own (.l z xs) none none) (v:=.slice ad xs.length kk) (S:=T1) (hf j (Nat.le_refl _) (by simp)) ⟨k5,fun p hp=>(by cases hp),fun p hp=>(by cases hp)⟩ (fun b hb=>hV b (k1 b hb)) (fun k u hk b hb=>hoff k u hk b (k1 b hb))
   have hA:¬c.A (base+j):=fun hA=>hc.all _ hA (hf j (Nat.le_refl _) (by simp))
   have hle:=Cx.add_le (v:=.slice ad xs.length kk) (S:=T1) hA
   obtain ⟨c',q1,q2,q3⟩:=ih (j+1) _ _ T2 e1 h1 hl.2 k6 (fun b hb=>hV b (k2 b hb)) (fun k u hk b hb hT=>by
    rw [aa] at hk
    by_cases ek:base+j=k
    ·subst ek
     have hT':(if base+j=base+j then T1 else c.T (base+j)) b:=hT
     rw [if_pos rfl] at hT'
     exact k3 b hT' hb
    ·rw [if_neg ek] at hk
     have hT':(if k=base+j then T1 else c.T k) b:=hT
     rw [if_neg (Ne.symm ek)] at hT'
     exact hoff k u hk b (k2 b hb) hT') (fun k h1 h2=>by rw [aa,if_neg (by omega)];exact hf k (by omega) (by simp;omega))
   have hj:(c.add (base+j) (.slice ad xs.length kk) T1).A (base+j):=.inr rfl
   obtain ⟨p1,p2⟩:=q2.ρ _ hj
   refine ⟨c',?_,⟨fun b hb=>q2.F b (hle.F b hb),fun i hi=>⟨(q2.ρ i (hle.ρ i hi).1).1,(q2.ρ i (hle.ρ i hi).1).2.trans (hle.ρ i hi).2⟩⟩,?_⟩
   ·show au W0 N ((opT base (j+1) es++[(base+j,.tk (.own (.l z xs) none none))])++σ) a w c'
    rw [List.append_assoc];exact q1
   ·exact ⟨_,e1,rfl,⟨p1,by rw [p2];exact (if_pos rfl).symm⟩,q3⟩
  | t ds=>cases hl.1
  | p d=>cases hl.1
  | f g ds=>cases hl.1
  | any=>cases hl.1
section
variable {P:Program} {ops:Array Oper} {W0:b7} {N:Nat} {Fin:Us→Env→Prop} {os:List Oper} {us:Us} {pk fk:List Nat} {σ:Env} {g:Option (Nat × Bool)} {gk:List Nat} {d ty ty' f:Nat} {pos:String} {after:Array Edge}
theorem Holds.openG (i base:Nat) {z e:Nat} {r:D} {ds:List D} {a:Act} {w:World} (hh:Holds W0 N σ a w) (hi:ai σ i=some (.tk (.grw z e (r :: ds)))) (hl:(rP r).all E7=true) (hf:((List.range (rP r).length).all fun k=>(ai σ (base+k)).isNone)=true):Holds W0 N ((i,.tk (.bxs (opS base 0 (rP r)))) :: (opT base 0 (rP r)++σ)) a w:=by
 obtain ⟨c,hc⟩:=hh
 obtain ⟨hA,hT,hti⟩:=hc.tok i _ hi
 rcases hT with ⟨hd,_⟩|⟨cells,T,own,hS,hT,hdis,hel⟩
 ·cases hd
 obtain ⟨us0,q1,q2,q3⟩:=hel 0 (by simp)
 rcases own.2 with ⟨_,hn0⟩|⟨gb,cap,cur,hv,hb0,hg,h5,h6,h7,h8⟩
 ·simp at hn0
 have hgo:(c.ρ i).ownBlock=some gb:=by rw [hv];rfl
 obtain ⟨l1,l2⟩:=tK own hgo
 obtain ⟨s1,s2⟩:=hS gb hgo
 have hbox:dL w gb us0:=fun j u hj=>by
  have h9:=q3 j u hj
  rw [Nat.zero_mul,Nat.zero_add] at h9
  refine ⟨?_,l2 j⟩
  rw [hv] at own
  rw [World.ownsRow.cellAt own j]
  ·exact h9
  ·rcases Nat.lt_or_ge j cells.length with h|h
   ·rw [← own.1];exact h
   ·rw [List.getElem?_eq_none h] at h9;cases h9
 have vok:∀(c:Cx) (l:List Value),Sy.oks c w (l.map Sy.v) l:=fun c l=>by
  induction l with
  | nil=>exact rfl
  | cons v l ih=>exact ⟨v,l,rfl,rfl,ih⟩
 have k1:=hc.upd3 (F':=c.F) (S':=fun b=>b=gb) (u:=.bxs (us0.map .v)) hi Chg.rfl' (fun _ h=>h) (fun b hb=>⟨.inl hb,hc.lt b hb⟩) (fun b hb=>by subst hb;exact ⟨.inl s1,(hti _ s1).2.1,(hti _ s1).1⟩) (fun _=>⟨gb,us0,_,cap,Nat.succ_pos _,hv,rfl,vok _ us0,hbox⟩)
 have hO:=DZ r (T 0) us0 q2
 obtain ⟨c',r1,r2,r3⟩:=xY base (rP r) 0 _ _ (T 0) us0 k1 hl hO (fun b hb=>⟨(hti b (hT 0 b hb).1).1,(hT 0 b hb).2,(hti b (hT 0 b hb).1).2.2⟩) (fun k u hk b hb hTk=>by
  rw [aa] at hk
  by_cases ek:i=k
  ·subst ek
   have hTk':(if i=i then (fun b=>b=gb) else c.T i) b:=hTk
   rw [if_pos rfl] at hTk'
   exact s2 0 (hTk' ▸ hb)
  ·rw [if_neg ek] at hk
   have hTk':(if k=i then (fun b=>b=gb) else c.T k) b:=hTk
   rw [if_neg (Ne.symm ek)] at hTk'
   exact hc.off i k _ _ hi hk ek b (hT 0 b hb).1 hTk') (fun k _ h2=>by
  have h3:=(List.all_eq_true.1 hf) k (by simpa using h2)
  have h4:ai σ (base+k)=none:=by simpa using h3
  rw [aa,if_neg (fun e=>by rw [← e,hi] at h4;cases h4)];exact h4)
 have hni:∀(es:List D) (j:Nat),(∀k,j≤k→k<j+es.length→ai σ (base+k)=none)→ai (opT base j es++(i,.tk (.bxs (us0.map .v))) :: σ) i=some (.tk (.bxs (us0.map .v))):=by
  intro es
  induction es with
  | nil=>intro j _;show ai ((i,_) :: σ) i=_;rw [aa,if_pos rfl]
  | cons d es ih=>
   intro j hfr
   have h1:=ih (j+1) (fun k h1 h2=>hfr k (by omega) (by simp;omega))
   cases d with
   | l z xs=>
    show ai ((opT base (j+1) es++[(base+j,_)])++_) i=_
    rw [List.append_assoc,dO] at *
    cases hx:ai (opT base (j+1) es) i with
    | some x=>rw [hx] at h1;exact h1
    | none=>
     rw [hx] at h1
     show ai ([(base+j,_)]++_) i=_
     rw [List.singleton_append,aa,if_neg (fun e=>by have:=hfr j (Nat.le_refl _) (by simp);rw [e,hi] at this;cases this)]
     exact h1
   | _=>exact h1
 have hi2:=hni (rP r) 0 (fun k _ h2=>by
  have h3:=(List.all_eq_true.1 hf) k (by simpa using h2)
  simpa using h3)
 obtain ⟨_,⟨b2,us2,m2,cap2,p0,p1,p2,p3,p4⟩,_⟩:=r1.tok i _ hi2
 have hρ:=(r2.ρ i hA).2
 have hgb:b2=gb:=by
  rw [hρ] at p1
  have e1:c.ρ i=.slice (some ⟨b2,0,none⟩) m2 cap2:=p1
  rw [hv] at e1
  have e2:=(Value.slice.inj e1).1
  injection e2 with e2
  injection e2 with e2
  exact e2.symm
 subst hgb
 have k3:=r1.upd2 (u:=.bxs (opS base 0 (rP r))) hi2 Chg.rfl' (fun _=>⟨b2,us0,m2,cap2,p0,p1,p2,r3,hbox⟩)
 refine Holds.congr ⟨_,k3⟩ (fun κ=>?_)
 rw [aa,aa]
 split
 ·rfl
 ·rename_i hκ
  rw [dO,dO,aa,if_neg hκ]
theorem Hp (i base:Nat) {z e:Nat} {r:D} {ds:List D} {C:Code} {Q:Exit→Act→World→Prop} (h:aq P W0 N C ((i,.tk (.bxs (opS base 0 (rP r)))) :: (opT base 0 (rP r)++σ)) Q) (hi:ai σ i=some (.tk (.grw z e (r :: ds))):=by rfl) (hl:(rP r).all E7=true:=by rfl) (hf:((List.range (rP r).length).all fun k=>(ai σ (base+k)).isNone)=true:=by rfl):aq P W0 N C σ Q:=fun a w hh=>h a w (hh.openG i base hi hl hf)
theorem ca {x y:Operand} {i z e':Nat} {cs:List Sy} {s:Sy} (h:Der P ops W0 N Fin os (us++[((d :: (gk++(i :: (kx x++kx y))))++pk,([d])++fk)]) [] [] ((d,.sy (.el i z 0 0)) :: σ)) (hx:ev σ x=some (.k i):=by rfl) (hi:ai σ i=some (.tk (.bxs cs)):=by rfl) (hy:ev σ y=some s:=by rfl) (hn:s.int? = some ((0:Nat):Int):=by rfl) (he:elem? P ty'=some e':=by rfl) (hz:sizeOf? P e'=some z:=by rfl) (hg:gst ops σ g=some (true,gk):=by rfl) (hN:Nat.blt d N=true:=by rfl) (hs:aG σ d=true:=by rfl):Der P ops W0 N Fin (⟨some d,.indexAddr ty' x y,ty,pos,after,g⟩ :: os) us pk fk σ:=
 bT (.el i z 0 0) (i :: (kx x++kx y)) (fun σ' c a w hk hc=>by
  obtain ⟨hA,h1⟩:=am hc (ab hx (fun κ hκ=>hk κ (by simp [hκ])))
  have h2:=ey hn (am hc (ab hy (fun κ hκ=>hk κ (by simp [hκ]))))
  obtain ⟨_,⟨b,us',m,k,q0,q1,_⟩,_⟩:=hc.tok i _ ((hk i (by simp)).trans hi)
  exact ⟨_,dA (X:=Instr.indexAt ty' (a.eval x) (a.eval y)) (by rw [h1,q1,h2];exact mV he hz q0),hA,b,_,_,q1,by rw [Nat.zero_add];rfl⟩) h hg hN hs
theorem bo {x:Operand} {i o z:Nat} {cs:List Sy} {s:Sy} (h:Der P ops W0 N Fin os (us++[((d :: (gk++(i :: kx x)))++pk,([d])++fk)]) [] [] ((d,.sy s) :: σ)) (hx:ev σ x=some (.el i z 0 o):=by rfl) (hi:ai σ i=some (.tk (.bxs cs)):=by rfl) (hc:cs[o]? = some s:=by rfl) (hA:isAgg? P ty'=some false:=by rfl) (hg:gst ops σ g=some (true,gk):=by rfl) (hN:Nat.blt d N=true:=by rfl) (hs:aG σ d=true:=by rfl):Der P ops W0 N Fin (⟨some d,.load ty' x,ty,pos,after,g⟩ :: os) us pk fk σ:=
 bT s (i :: kx x) (fun σ' c a w hk hh=>by
  obtain ⟨hAi,b,m,k,h1,h2⟩:=am hh (ab hx (fun κ hκ=>hk κ (by simp [hκ])))
  obtain ⟨_,⟨b',us',m',k',_,q1,_,q2,q3⟩,_⟩:=hh.tok i _ ((hk i (by simp)).trans hi)
  rw [h1] at q1
  have e2:=(Value.slice.inj q1).1
  injection e2 with e2
  injection e2 with e2
  subst e2
  obtain ⟨v,h7,h8⟩:=pa cs us' o s q2 hc
  exact ⟨v,dA (X:=Instr.loadAt ty' (a.eval x)) (by rw [h2,Nat.zero_mul,Nat.zero_add];exact gy hA (q3 o v h7).1),h8⟩) h hg hN hs
theorem AQ {x:Operand} {i o z zz:Nat} {cs:List Sy} (h:Der P ops W0 N Fin os (us++[((d :: (gk++(i :: kx x)))++pk,([d])++fk)]) [] [] ((d,.sy (.ag ((cs.drop o).take zz))) :: σ)) (hx:ev σ x=some (.el i z 0 o):=by rfl) (hi:ai σ i=some (.tk (.bxs cs)):=by rfl) (hA:isAgg? P ty'=some true:=by rfl) (hz:sizeOf? P ty'=some zz:=by rfl) (hl:Nat.ble (o+zz) cs.length=true:=by rfl) (hg:gst ops σ g=some (true,gk):=by rfl) (hN:Nat.blt d N=true:=by rfl) (hs:aG σ d=true:=by rfl):Der P ops W0 N Fin (⟨some d,.load ty' x,ty,pos,after,g⟩ :: os) us pk fk σ:=
 bT (.ag ((cs.drop o).take zz)) (i :: kx x) (fun σ' c a w hk hh=>by
  obtain ⟨hAi,b,m,k,h1,h2⟩:=am hh (ab hx (fun κ hκ=>hk κ (by simp [hκ])))
  obtain ⟨_,⟨b',us',m',k',_,q1,_,q2,q3⟩,_⟩:=hh.tok i _ ((hk i (by simp)).trans hi)
  rw [h1] at q1
  have e2:=(Value.slice.inj q1).1
  injection e2 with e2
  injection e2 with e2
  subst e2
  have hlen:=cW _ _ q2
  have hl':=Nat.le_of_ble_eq_true hl
  have hpart:=kP zz _ _ (kH o _ _ q2)
  have hcell:∀(j:Nat) (u:Value),((us'.drop o).take zz)[j]? = some u→w.cell? ⟨b,o+j,none⟩=some u:=fun j u hj=>by
   rw [List.getElem?_take] at hj
   split at hj
   ·rw [List.getElem?_drop] at hj
    exact (q3 _ u hj).1
   ·cases hj
  refine ⟨.agg ((us'.drop o).take zz).toArray,dA (X:=Instr.loadAt ty' (a.eval x)) (by rw [h2,Nat.zero_mul,Nat.zero_add];exact eW hA (by rw [hz,List.length_take,List.length_drop];congr 1;omega) hcell),_,rfl,hpart⟩) h hg hN hs
end
end Go.Proofs.YtclpbhoekmecjaaGreatDoor
namespace Go.Proofs.YtclpbhoekmecjaaGreatDoor
open Go.RowKit
set_option linter.unusedVariables false
set_option maxRecDepth 100000
set_option maxHeartbeats 4000000
attribute [local irreducible] aq Der At
def iU (r a:Big) (ns:List Int):Mat:=⟨ns,rtL r a ns r.roots.toNat⟩
def lM (r a:Big):Nat→List Int→List Mat
 | 0,ns=>if eh r a (iU r a ns) then [iU r a ns] else []
 | n+1,ns=>(List.range a.nodes.length).flatMap fun i=>if sV r a ns i then lM r a n (ns++[(i:Int)]) else []
def gN (r a:Big) (n:Nat) (ns:List Int) (k:Nat):List Mat:=(List.range k).flatMap fun i=>if sV r a ns i then lM r a n (ns++[(i:Int)]) else []
theorem mJ (r a:Big) (n:Nat) (ns:List Int) (k:Nat):gN r a n ns (k+1)=gN r a n ns k++(if sV r a ns k then lM r a n (ns++[(k:Int)]) else []):=by unfold gN;rw [List.range_succ,List.flatMap_append];simp
theorem s6 (r a:Big) (n:Nat) (ns:List Int) (k:Nat):∀j,∃t,gN r a n ns (k+j)=gN r a n ns k++t:=by
 intro j
 induction j with
 | zero=>exact ⟨[],by simp⟩
 | succ j ih=>
  obtain ⟨t,ht⟩:=ih
  rw [show k+(j+1)=k+j+1 by omega,mJ,ht,List.append_assoc]
  exact ⟨_,rfl⟩
theorem A4 {r a:Big} {n:Nat} {ns:List Int} {k K m:Nat} (hk:k≤K) (h:m<((gN r a n ns k).take (m+1)).length):(gN r a n ns K).take (m+1)=(gN r a n ns k).take (m+1):=by
 obtain ⟨t,ht⟩:=s6 r a n ns k (K - k)
 rw [show k+(K - k)=K by omega] at ht
 rw [List.length_take] at h
 rw [ht,List.take_append_of_le_length (by omega)]
theorem yg {r a:Big} {n:Nat} {ns:List Int} {k m:Nat} {l t:List Mat} (hl:l=(gN r a n ns k).take (m+1)) (h:l.length≤m) (ht:t=(if sV r a ns k then lM r a n (ns++[(k:Int)]) else []).take (m - l.length+1)):l++t=(gN r a n ns (k+1)).take (m+1):=by
 have h1:(gN r a n ns k).length≤m:=by rw [hl,List.length_take] at h;omega
 have h2:l=gN r a n ns k:=by rw [hl,List.take_of_length_le (by omega)]
 rw [mJ,ht,h2,List.take_append,List.take_of_length_le (l:=gN r a n ns k) (by omega),show m+1 - (gN r a n ns k).length=m - (gN r a n ns k).length+1 by omega]
theorem qq {b:Big} (h:bN b=true) (hr:0≤b.roots):∀n:Nat,(n:Int)<b.roots→0<(dc b (-1 - (n:Int))).length:=fun n hn=>by
 unfold bN at h
 simp only [Bool.and_eq_true] at h
 have h2:=(aH _ _).1 h.2.1 n (by omega)
 unfold gE at h2
 simp only [Bool.and_eq_true,Bool.not_eq_true',decide_eq_false_iff_not] at h2
 omega
theorem zy (b:Big) (p:Int):∀x∈dc b p,0≤x∧x<(b.nodes.length:Int):=fun x hx=>by
 obtain ⟨i,hi,_,rfl⟩:=bz.1 hx
 omega
theorem ya {sig:List Ctl} {r a:Big} (hR:aF sig r=true) (hA:aF sig a=true) (hS:bN r=true):∀(n:Nat) (ns:List Int) (most:Nat),ns.length+n=r.nodes.length→(∀x∈ns,0≤x∧x<(a.nodes.length:Int))→most≤400 →
 FnD Tryz.prog 185 [r.D,a.D,DI ns,.i most] (.row 2 62 (((lM r a n ns).take (most+1)).map Mat.D)):=by
 have hd:=bB hR
 have hda:=(bB hA).nodes
 have hrn:=hd.nodes
 have hr0:=aL hR
 intro n
 induction n with
 | zero=>
  intro ns most hl hx hm
  have hnl:ns.length≤1000:=by omega
  have f1:=vH ns (by omega)
  have f2:=zw (a:=a) hR ns (qq hS (by omega)) (fun p x hx=>by have:=zy r p x hx;omega) hx
  have f3:=zl (iU r a ns) hR hA (iA hS)
  have hdef:lM r a 0 ns=if eh r a (iU r a ns) then [iU r a ns] else []:=rfl
  refine ah Tryz.func185 (fun hw W0=>?_)
  refine kgo ?_
  refine aO (fun h=>?_) (fun h=>?_)
  ·repeat (first|(refine cI ?_;first|refine aU ?_|refine cb ?_|refine bp ?_|refine bk ?_|refine aS ?_|refine be ?_|refine bc ?_|refine aB ?_|refine bm ?_|refine bo ?_)|(refine fQ ?_;first|refine b6 ?_|refine fH ?_|refine cm ?_|refine cE ?_)|(refine fB ?_;first|refine ex (fun _=>?_)|refine cr ?_|refine ci ?_|refine bL ?_|refine ch ?_|refine cd ?_|refine ca ?_)|(refine fJ ?_;first|refine cF ?_|refine fb ?_|refine cu ?_|refine bS ?_|refine ck ?_|refine cz ?_|refine ct ?_)|(refine fE ?_;first|refine fM ?_|refine fq ?_|refine cj ?_|refine bY ?_|refine fF ?_|refine bg ?_|refine bf ?_)|(refine co ?_;first|refine br ?_|refine cH ?_)|(refine fK ?_;first|refine cB ?_|refine cy ?_|refine fL ?_)|(refine b9 ?_;first|refine cG ?_|refine aY ?_|refine aR ?_|refine aZ ?_|refine aW ?_|refine bj ?_)|(refine fC ?_;first|refine cf ?_|refine fA ?_|refine bh ?_|refine aT ?_|refine bq ?_)|(refine aN ?_;first|refine aw _ ?_|refine ba ?_|refine aC ?_|refine az ?_|refine aD ?_)|(refine fG ?_;first|refine cC ?_|refine bR ?_|refine cA ?_)|(refine gOp ?_;first|refine fI ?_|refine fP ?_|refine bl ?_|refine fO ?_|refine fN ?_|refine cD ?_|refine aV ?_|refine cw ?_|refine fR ?_|refine bV ?_|refine cq ?_|refine aX ?_|refine sFz 20 ?_|refine sFz 24 ?_|refine aA ?_|refine cg ?_|refine sNo ?_|refine fa ?_|refine ay ?_)|refine e9 ?_|refine dD ?_|refine fU ?_|refine bu ?_|refine bU ?_|refine bE ?_|refine fX ?_|refine fy ?_|refine fp ?_|refine dP ?_|refine cL ?_|refine aM ?_|refine ax ?_|refine bt ?_|refine cK ?_|refine bF ?_|refine cM ?_|refine cN ?_|refine sFz 20 ?_|refine sFz 24 ?_)
   cases h3:eh r a (iU r a ns)
   ·rw [show (lM r a 0 ns).take (most+1) = [] by rw [hdef,h3];simp]
    refine kgo ?_
    exact pE
   ·rw [show (lM r a 0 ns).take (most+1) = [iU r a ns] by rw [hdef,h3];simp]
    refine kgo ?_
    exact pE
  ·omega
 | succ n ih=>
  intro ns most hl hx hm
  have hnl:ns.length≤1000:=by omega
  have f1:=vH ns (by omega)
  refine ah Tryz.func185 (fun hw W0=>?_)
  refine kgo ?_
  refine aO (fun h=>?_) (fun h=>?_)
  ·omega
  refine kgo ?_
  refine aj [2,3,4,5] (fun x:Nat × List Mat=>x.1≤a.nodes.length∧x.2=(gN r a n ns x.1).take (most+1)) (fun x=>a.nodes.length - x.1) (fun x=>[(11,.sy (.d (.i x.1))),(9,.sy (.k 20001)),(20001,.tk (.row 2 62 (x.2.map Mat.D)))]) (0,[]) ⟨Nat.zero_le _,by simp [gN]⟩ (fun x hx'=>?_)
  obtain ⟨i,l⟩:=x
  obtain ⟨hi,hxl⟩:=hx'
  dsimp only at hi hxl ⊢
  have hll:l.length≤most+1:=by rw [hxl,List.length_take];omega
  refine kgo ?_
  cases h1:decide ((i:Int)<a.nodes.length)
  ·have h1:=of_decide_eq_false h1
   obtain rfl:i=a.nodes.length:=by omega
   refine kgo ?_
   rw [show lM r a (n+1) ns=gN r a n ns a.nodes.length from rfl,← hxl]
   exact pE
  have h1:=of_decide_eq_true h1
  have hlt:i<a.nodes.length:=by omega
  refine kgo ?_
  refine aO (fun h2=>?_) (fun h2=>?_)
  ·rw [List.length_map] at h2
   have f2:=Fi (a:=a) hR ns i hlt (by omega)
   have hmore:=fun t=>yg (t:=t) hxl (by omega)
   refine kgo ?_
   cases h3:sV r a ns i
   ·rw [h3] at hmore
    have:=hmore [] (by simp)
    rw [List.append_nil] at this
    refine kgo ?_
    exact af (i+1,l) ⟨hlt,this⟩ (by show _ - (i+1)<_ - i;omega)
   ·rw [h3,if_pos rfl] at hmore
    have f3:=ih (ns++[(i:Int)]) (most - l.length) (by rw [List.length_append,List.length_singleton];omega) (fun x hx'=>by
     rcases List.mem_append.1 hx' with h|h
     ·exact hx x h
     ·rw [List.mem_singleton.1 h];omega) (by omega)
    have hml:(List.map Mat.D l).length=l.length:=List.length_map ..
    rw [show ((most - l.length:Nat):Int)=(most:Int) - (List.map Mat.D l).length by omega] at f3
    rw [show DI (ns++[(i:Int)])=D.l 1 (ns.map D.i++[D.i i]) from congrArg (D.l 1) List.map_append] at f3
    have hm2:=hmore _ rfl
    have hlen:((lM r a n (ns++[(i:Int)])).take (most - l.length+1)).length≤1000:=by rw [List.length_take];omega
    repeat (first|(refine cI ?_;first|refine aU ?_|refine cb ?_|refine bp ?_|refine bk ?_|refine aS ?_|refine be ?_|refine bc ?_|refine aB ?_|refine bm ?_|refine bo ?_)|(refine fQ ?_;first|refine b6 ?_|refine fH ?_|refine cm ?_|refine cE ?_)|(refine fB ?_;first|refine ex (fun _=>?_)|refine cr ?_|refine ci ?_|refine bL ?_|refine ch ?_|refine cd ?_|refine ca ?_)|(refine fJ ?_;first|refine cF ?_|refine fb ?_|refine cu ?_|refine bS ?_|refine ck ?_|refine cz ?_|refine ct ?_)|(refine fE ?_;first|refine fM ?_|refine fq ?_|refine cj ?_|refine bY ?_|refine fF ?_|refine bg ?_|refine bf ?_)|(refine co ?_;first|refine br ?_|refine cH ?_)|(refine fK ?_;first|refine cB ?_|refine cy ?_|refine fL ?_)|(refine b9 ?_;first|refine cG ?_|refine aY ?_|refine aR ?_|refine aZ ?_|refine aW ?_|refine bj ?_)|(refine fC ?_;first|refine cf ?_|refine fA ?_|refine bh ?_|refine aT ?_|refine bq ?_)|(refine aN ?_;first|refine aw _ ?_|refine ba ?_|refine aC ?_|refine az ?_|refine aD ?_)|(refine fG ?_;first|refine cC ?_|refine bR ?_|refine cA ?_)|(refine gOp ?_;first|refine fI ?_|refine fP ?_|refine bl ?_|refine fO ?_|refine fN ?_|refine cD ?_|refine aV ?_|refine cw ?_|refine fR ?_|refine bV ?_|refine cq ?_|refine aX ?_|refine sFz 60 ?_|refine sFz 65 ?_|refine aA ?_|refine cg ?_|refine sNo ?_|refine fa ?_|refine ay ?_)|refine e9 ?_|refine dD ?_|refine fU ?_|refine bu ?_|refine bU ?_|refine bE ?_|refine fX ?_|refine fy ?_|refine fp ?_|refine dP ?_|refine cL ?_|refine aM ?_|refine ax ?_|refine bt ?_|refine cK ?_|refine bF ?_|refine cM ?_|refine cN ?_|refine sFz 60 ?_|refine sFz 65 ?_)
    exact af (i+1,l++(lM r a n (ns++[(i:Int)])).take (most - l.length+1)) ⟨hlt,hm2⟩ (by show _ - (i+1)<_ - i;omega)
  ·rw [List.length_map] at h2
   rw [show lM r a (n+1) ns=gN r a n ns a.nodes.length from rfl,A4 hi (by rw [← hxl];omega),← hxl]
   refine kgo ?_
   exact pE
def pF (r a:Big):List Mat:=(lM r a r.nodes.length []).take 401
theorem wQ (r a:Big):(pF r a).length≤401:=by unfold pF;rw [List.length_take];omega
theorem yx {r a:Big}:∀(n:Nat) (ns:List Int),∀m∈lM r a n ns,eh r a m=true:=by
 intro n
 induction n with
 | zero=>
  intro ns m hm
  unfold lM at hm
  split at hm
  ·rw [List.mem_singleton.1 hm];assumption
  ·cases hm
 | succ n ih=>
  intro ns m hm
  unfold lM at hm
  obtain ⟨i,_,hi⟩:=List.mem_flatMap.1 hm
  split at hi
  ·exact ih _ m hi
  ·cases hi
theorem nk {r a:Big}:∀m∈pF r a,eh r a m=true:=fun m hm=>yx _ _ m (List.mem_of_mem_take hm)
theorem Ew {sig:List Ctl} {r a:Big} (hR:aF sig r=true) (hA:aF sig a=true) (hS:bN r=true):FnD Tryz.prog 124 [r.D,a.D] (.d (.l 2 ((pF r a).map Mat.D))):=by
 have f1:=ya hR hA hS r.nodes.length [] 400 (by simp) (fun x hx=>by cases hx) (Nat.le_refl _)
 rw [show (lM r a r.nodes.length []).take (400+1)=pF r a from rfl] at f1
 have hl:=wQ r a
 have hc:(pF r a).take 401=pF r a:=List.take_of_length_le hl
 refine ah Tryz.func124 (fun hw W0=>?_)
 repeat (first|(refine cI ?_;first|refine aU ?_|refine cb ?_|refine bp ?_|refine bk ?_|refine aS ?_|refine be ?_|refine bc ?_|refine aB ?_|refine bm ?_|refine bo ?_)|(refine fQ ?_;first|refine b6 ?_|refine fH ?_|refine cm ?_|refine cE ?_)|(refine fB ?_;first|refine ex (fun _=>?_)|refine cr ?_|refine ci ?_|refine bL ?_|refine ch ?_|refine cd ?_|refine ca ?_)|(refine fJ ?_;first|refine cF ?_|refine fb ?_|refine cu ?_|refine bS ?_|refine ck ?_|refine cz ?_|refine ct ?_)|(refine fE ?_;first|refine fM ?_|refine fq ?_|refine cj ?_|refine bY ?_|refine fF ?_|refine bg ?_|refine bf ?_)|(refine co ?_;first|refine br ?_|refine cH ?_)|(refine fK ?_;first|refine gq (d:=5) ?_|refine cB ?_|refine cy ?_|refine fL ?_)|(refine b9 ?_;first|refine cG ?_|refine aY ?_|refine aR ?_|refine aZ ?_|refine aW ?_|refine bj ?_)|(refine fC ?_;first|refine cf ?_|refine fA ?_|refine bh ?_|refine aT ?_|refine bq ?_)|(refine aN ?_;first|refine aw _ ?_|refine ba ?_|refine aC ?_|refine az ?_|refine aD ?_)|(refine fG ?_;first|refine cC ?_|refine bR ?_|refine cA ?_)|(refine gOp ?_;first|refine fI ?_|refine fP ?_|refine bl ?_|refine fO ?_|refine fN ?_|refine cD ?_|refine aV ?_|refine cw ?_|refine fR ?_|refine bV ?_|refine cq ?_|refine aX ?_|refine sFz 8 ?_|refine aA ?_|refine cg ?_|refine sNo ?_|refine fa ?_|refine ay ?_)|refine e9 ?_|refine dD ?_|refine fU ?_|refine bu ?_|refine bU ?_|refine bE ?_|refine fX ?_|refine fy ?_|refine fp ?_|refine dP ?_|refine cL ?_|refine aM ?_|refine ax ?_|refine bt ?_|refine cK ?_|refine bF ?_|refine cM ?_|refine cN ?_|refine sFz 8 ?_)
 refine aO (fun h=>?_) (fun h=>?_)
 ·refine kgo ?_
  refine bR (n:=401) ?_ rfl rfl rfl (hn:=by omega)
  rw [hc]
  refine kgo ?_
  exact ar
 ·refine kgo ?_
  exact ar
structure Stp where
 rule:Int
 mat:Mat
 res:Big
abbrev Stp.D (s:Stp):D:=.t [.i s.rule,s.mat.D,s.res.D]
def gG (sig:List Ctl) (r:Rul) (a:Big) (k:Int):List Mat→List Stp→Option (List Stp)
 | [],out=>some out
 | m :: ms,out=>if ku sig a m.roots then (if (fw sig r a m).2 then gG sig r a k ms (out++[⟨k,m,(fw sig r a m).1⟩]) else none) else gG sig r a k ms out
def dt (sig:List Ctl) (a:Big):List Rul→Nat→List Stp→Option (List Stp)
 | [],_,out=>some out
 | r :: rs,k,out=>if 400<(pF r.redex a).length then none else (gG sig r a k (pF r.redex a) out).bind (dt sig a rs (k+1))
theorem sr {sig:List Ctl} {a:Big} {rs:List Rul} (i:Nat) (h:i<rs.length) (out:List Stp):dt sig a (rs.drop i) i out=if 400<(pF (rs[i]).redex a).length then none else (gG sig rs[i] a i (pF (rs[i]).redex a) out).bind (dt sig a (rs.drop (i+1)) (i+1)):=by
 rw [List.drop_eq_getElem_cons h];rfl
theorem sI {sig:List Ctl} {r:Rul} {a:Big} {k:Int} {ms:List Mat} (j:Nat) (h:j<ms.length) (out:List Stp):gG sig r a k (ms.drop j) out=if ku sig a (ms[j]).roots then (if (fw sig r a ms[j]).2 then gG sig r a k (ms.drop (j+1)) (out++[⟨k,ms[j],(fw sig r a ms[j]).1⟩]) else none) else gG sig r a k (ms.drop (j+1)) out:=by
 rw [List.drop_eq_getElem_cons h];rfl
def jA:Option (List Stp)→List Stp × Bool
 | some l=>(l,true)
 | none=>([],false)
theorem ul {sig:List Ctl} {rs:List Rul} {a:Big} (hr:fo sig rs=true) (ha:dp sig a=true):FnD Tryz.prog 84 [.l 3 (sig.map Ctl.D),.l 13 (rs.map Rul.D),a.D] (.tp [.l 9 ((jA (dt sig a rs 0 [])).1.map Stp.D),.b (jA (dt sig a rs 0 [])).2]):=by
 have hrs:=List.all_eq_true.1 (Bool.and_eq_true_iff.1 hr).2
 have hrl:=bO (Bool.and_eq_true_iff.1 hr).1
 have hA:=ij ha
 refine ah Tryz.func84 (fun hw W0=>?_)
 refine kgo ?_
 refine aj [0,1,5] (fun x:Nat × List Stp=>x.1≤rs.length∧x.2.length≤400 * x.1∧dt sig a rs 0 []=dt sig a (rs.drop x.1) x.1 x.2) (fun x=>rs.length - x.1) (fun x=>[(9,.sy (.d (.i x.1))),(8,.sy (.k 20001)),(20001,.tk (.row 9 64 (x.2.map Stp.D)))]) (0,[]) ⟨Nat.zero_le _,Nat.zero_le _,rfl⟩ (fun x hx=>?_)
 obtain ⟨i,out⟩:=x
 obtain ⟨hi,hol,hst⟩:=hx
 dsimp only at hi hol hst ⊢
 rw [hst]
 refine kgo ?_
 refine aO (fun h=>?_) (fun h=>?_)
 rotate_left
 ·obtain rfl:i=rs.length:=by omega
  rw [List.drop_eq_nil_of_le (Nat.le_refl _),show jA (dt sig a [] rs.length out)=(out,true) from rfl]
  repeat (first|(refine cI ?_;first|refine aU ?_|refine cb ?_|refine bp ?_|refine bk ?_|refine aS ?_|refine be ?_|refine bc ?_|refine aB ?_|refine bm ?_|refine bo ?_)|(refine fQ ?_;first|refine b6 ?_|refine fH ?_|refine cm ?_|refine cE ?_)|(refine fB ?_;first|refine ex (fun _=>?_)|refine cr ?_|refine ci ?_|refine bL ?_|refine ch ?_|refine cd ?_|refine ca ?_)|(refine fJ ?_;first|refine cF ?_|refine fb ?_|refine cu ?_|refine bS ?_|refine ck ?_|refine cz ?_|refine ct ?_)|(refine fE ?_;first|refine fM ?_|refine fq ?_|refine cj ?_|refine bY ?_|refine fF ?_|refine bg ?_|refine bf ?_)|(refine co ?_;first|refine br ?_|refine cH ?_)|(refine fK ?_;first|refine gq (d:=6) ?_|refine cB ?_|refine cy ?_|refine fL ?_)|(refine b9 ?_;first|refine cG ?_|refine aY ?_|refine aR ?_|refine aZ ?_|refine aW ?_|refine bj ?_)|(refine fC ?_;first|refine cf ?_|refine fA ?_|refine bh ?_|refine aT ?_|refine bq ?_)|(refine aN ?_;first|refine aw _ ?_|refine ba ?_|refine aC ?_|refine az ?_|refine aD ?_)|(refine fG ?_;first|refine cC ?_|refine bR ?_|refine cA ?_)|(refine gOp ?_;first|refine fI ?_|refine fP ?_|refine bl ?_|refine fO ?_|refine fN ?_|refine cD ?_|refine aV ?_|refine cw ?_|refine fR ?_|refine bV ?_|refine cq ?_|refine aX ?_|refine aA ?_|refine cg ?_|refine sNo ?_|refine fa ?_|refine ay ?_)|refine e9 ?_|refine dD ?_|refine fU ?_|refine bu ?_|refine bU ?_|refine bE ?_|refine fX ?_|refine fy ?_|refine fp ?_|refine dP ?_|refine cL ?_|refine aM ?_|refine ax ?_|refine bt ?_|refine cK ?_|refine bF ?_|refine cM ?_|refine cN ?_)
  exact g8
 have hlt:i<rs.length:=by omega
 rw [sr i hlt]
 obtain ⟨r1,r2,r3,r4,r5,r6,r7,r8⟩:=gd (hrs _ (List.getElem_mem hlt))
 have f1:=Ew r1 hA r3
 have hall:=nk (r:=(rs[i]).redex) (a:=a)
 refine kgo ?_
 refine aO (fun h2=>?_) (fun h2=>?_)
 ·rw [if_pos (by omega)]
  repeat (first|(refine cI ?_;first|refine aU ?_|refine cb ?_|refine bp ?_|refine bk ?_|refine aS ?_|refine be ?_|refine bc ?_|refine aB ?_|refine bm ?_|refine bo ?_)|(refine fQ ?_;first|refine b6 ?_|refine fH ?_|refine cm ?_|refine cE ?_)|(refine fB ?_;first|refine ex (fun _=>?_)|refine cr ?_|refine ci ?_|refine bL ?_|refine ch ?_|refine cd ?_|refine ca ?_)|(refine fJ ?_;first|refine cF ?_|refine fb ?_|refine cu ?_|refine bS ?_|refine ck ?_|refine cz ?_|refine ct ?_)|(refine fE ?_;first|refine fM ?_|refine fq ?_|refine cj ?_|refine bY ?_|refine fF ?_|refine bg ?_|refine bf ?_)|(refine co ?_;first|refine br ?_|refine cH ?_)|(refine fK ?_;first|refine gq (d:=6) ?_|refine cB ?_|refine cy ?_|refine fL ?_)|(refine b9 ?_;first|refine cG ?_|refine aY ?_|refine aR ?_|refine aZ ?_|refine aW ?_|refine bj ?_)|(refine fC ?_;first|refine cf ?_|refine fA ?_|refine bh ?_|refine aT ?_|refine bq ?_)|(refine aN ?_;first|refine aw _ ?_|refine ba ?_|refine aC ?_|refine az ?_|refine aD ?_)|(refine fG ?_;first|refine cC ?_|refine bR ?_|refine cA ?_)|(refine gOp ?_;first|refine fI ?_|refine fP ?_|refine bl ?_|refine fO ?_|refine fN ?_|refine cD ?_|refine aV ?_|refine cw ?_|refine fR ?_|refine bV ?_|refine cq ?_|refine aX ?_|refine aA ?_|refine cg ?_|refine sNo ?_|refine fa ?_|refine ay ?_)|refine e9 ?_|refine dD ?_|refine fU ?_|refine bu ?_|refine bU ?_|refine bE ?_|refine fX ?_|refine fy ?_|refine fp ?_|refine dP ?_|refine cL ?_|refine aM ?_|refine ax ?_|refine bt ?_|refine cK ?_|refine bF ?_|refine cM ?_|refine cN ?_)
  exact g8
 rw [if_neg (by omega)]
 generalize pF (rs[i]).redex a=ms at *
 refine kgo ?_
 refine aj [0,1,5,9,10] (fun x:Nat × List Stp=>x.1≤ms.length∧x.2.length≤400 * i+x.1∧(gG sig rs[i] a i ms out).bind (dt sig a (rs.drop (i+1)) (i+1))=(gG sig rs[i] a i (ms.drop x.1) x.2).bind (dt sig a (rs.drop (i+1)) (i+1))) (fun x=>ms.length - x.1) (fun x=>[(11,.sy (.d (.i x.1))),(8,.sy (.k 20001)),(20001,.tk (.row 9 64 (x.2.map Stp.D)))]) (0,out) ⟨Nat.zero_le _,hol,rfl⟩ (fun x hx=>?_)
 obtain ⟨j,o⟩:=x
 obtain ⟨hj,hoj,hsj⟩:=hx
 dsimp only at hj hoj hsj ⊢
 rw [hsj]
 refine kgo ?_
 refine aO (fun h3=>?_) (fun h3=>?_)
 rotate_left
 ·obtain rfl:j=ms.length:=by omega
  rw [List.drop_eq_nil_of_le (Nat.le_refl _)] at hsj ⊢
  refine kgo ?_
  exact af (i+1,o) ⟨hlt,by show o.length≤400 * (i+1);omega,rfl⟩ (by show _ - (i+1)<_ - i;omega)
 have hjl:j<ms.length:=by omega
 have hm:=hall _ (List.getElem_mem hjl)
 have f2:=yA hA ms[j] (fun p hp=>(lX (cP hm).2.1 p hp).2)
 have f3:=zB (sig:=sig) ms[j] (hrs _ (List.getElem_mem hlt)) hA hm
 have hat:=sI (sig:=sig) (r:=rs[i]) (a:=a) (k:=i) j hjl o
 refine kgo ?_
 refine cIf (fun h4=>?_) (fun h4=>?_)
 ·rw [Bool.not_eq_true'] at h4
  rw [hat,h4]
  refine kgo ?_
  exact af (j+1,o) ⟨hjl,by show o.length≤400 * i+(j+1);omega,rfl⟩ (by show _ - (j+1)<_ - j;omega)
 rw [Bool.not_eq_false'] at h4
 rw [hat,h4,if_pos rfl]
 refine kgo ?_
 refine cIf (fun h5=>?_) (fun h5=>?_)
 ·rw [Bool.not_eq_true'] at h5
  rw [h5]
  repeat (first|(refine cI ?_;first|refine aU ?_|refine cb ?_|refine bp ?_|refine bk ?_|refine aS ?_|refine be ?_|refine bc ?_|refine aB ?_|refine bm ?_|refine bo ?_)|(refine fQ ?_;first|refine b6 ?_|refine fH ?_|refine cm ?_|refine cE ?_)|(refine fB ?_;first|refine ex (fun _=>?_)|refine cr ?_|refine ci ?_|refine bL ?_|refine ch ?_|refine cd ?_|refine ca ?_)|(refine fJ ?_;first|refine cF ?_|refine fb ?_|refine cu ?_|refine bS ?_|refine ck ?_|refine cz ?_|refine ct ?_)|(refine fE ?_;first|refine fM ?_|refine fq ?_|refine cj ?_|refine bY ?_|refine fF ?_|refine bg ?_|refine bf ?_)|(refine co ?_;first|refine br ?_|refine cH ?_)|(refine fK ?_;first|refine gq (d:=6) ?_|refine cB ?_|refine cy ?_|refine fL ?_)|(refine b9 ?_;first|refine cG ?_|refine aY ?_|refine aR ?_|refine aZ ?_|refine aW ?_|refine bj ?_)|(refine fC ?_;first|refine cf ?_|refine fA ?_|refine bh ?_|refine aT ?_|refine bq ?_)|(refine aN ?_;first|refine aw _ ?_|refine ba ?_|refine aC ?_|refine az ?_|refine aD ?_)|(refine fG ?_;first|refine cC ?_|refine bR ?_|refine cA ?_)|(refine gOp ?_;first|refine fI ?_|refine fP ?_|refine bl ?_|refine fO ?_|refine fN ?_|refine cD ?_|refine aV ?_|refine cw ?_|refine fR ?_|refine bV ?_|refine cq ?_|refine aX ?_|refine aA ?_|refine cg ?_|refine sNo ?_|refine fa ?_|refine ay ?_)|refine e9 ?_|refine dD ?_|refine fU ?_|refine bu ?_|refine bU ?_|refine bE ?_|refine fX ?_|refine fy ?_|refine fp ?_|refine dP ?_|refine cL ?_|refine aM ?_|refine ax ?_|refine bt ?_|refine cK ?_|refine bF ?_|refine cM ?_|refine cN ?_)
  exact g8
 rw [Bool.not_eq_false'] at h5
 rw [h5,if_pos rfl]
 have hs:(o++[Stp.mk (i:Int) ms[j] (fw sig rs[i] a ms[j]).1]).map Stp.D=o.map Stp.D++[Stp.D (Stp.mk (i:Int) ms[j] (fw sig rs[i] a ms[j]).1)]:=List.map_append
 refine kgo ?_
 exact af (j+1,o++[⟨i,ms[j],(fw sig rs[i] a ms[j]).1⟩]) ⟨hjl,by show (o++_).length≤400 * i+(j+1);rw [List.length_append,List.length_singleton];omega,rfl⟩ (by show _ - (j+1)<_ - j;omega)
def bH (sig:List Ctl) (rs:List Rul) (a:Big):List Stp × Bool:=if fo sig rs && dp sig a then jA (dt sig a rs 0 []) else ([],false)
theorem rt (sig:List Ctl) (rs:List Rul) (a:Big) (hr:∀r∈rs,r.redex.inner.length≤1048576∧r.reactum.inner.length≤1048576) (ha:a.inner.length≤1048576):FnD Tryz.prog 31 [.l 3 (sig.map Ctl.D),.l 13 (rs.map Rul.D),a.D] (.tp [.l 9 ((bH sig rs a).1.map Stp.D),.b (bH sig rs a).2]):=by
 have f1:=uj sig rs hr
 have f2:=tZ sig a ha
 refine ah Tryz.func31 (fun hw W0=>?_)
 unfold bH
 refine kgo ?_
 cases h1:fo sig rs
 ·repeat (first|(refine cI ?_;first|refine aU ?_|refine cb ?_|refine bp ?_|refine bk ?_|refine aS ?_|refine be ?_|refine bc ?_|refine aB ?_|refine bm ?_|refine bo ?_)|(refine fQ ?_;first|refine b6 ?_|refine fH ?_|refine cm ?_|refine cE ?_)|(refine fB ?_;first|refine ex (fun _=>?_)|refine cr ?_|refine ci ?_|refine bL ?_|refine ch ?_|refine cd ?_|refine ca ?_)|(refine fJ ?_;first|refine cF ?_|refine fb ?_|refine cu ?_|refine bS ?_|refine ck ?_|refine cz ?_|refine ct ?_)|(refine fE ?_;first|refine fM ?_|refine fq ?_|refine cj ?_|refine bY ?_|refine fF ?_|refine bg ?_|refine bf ?_)|(refine co ?_;first|refine br ?_|refine cH ?_)|(refine fK ?_;first|refine gq (d:=6) ?_|refine cB ?_|refine cy ?_|refine fL ?_)|(refine b9 ?_;first|refine cG ?_|refine aY ?_|refine aR ?_|refine aZ ?_|refine aW ?_|refine bj ?_)|(refine fC ?_;first|refine cf ?_|refine fA ?_|refine bh ?_|refine aT ?_|refine bq ?_)|(refine aN ?_;first|refine aw _ ?_|refine ba ?_|refine aC ?_|refine az ?_|refine aD ?_)|(refine fG ?_;first|refine cC ?_|refine bR ?_|refine cA ?_)|(refine gOp ?_;first|refine fI ?_|refine fP ?_|refine bl ?_|refine fO ?_|refine fN ?_|refine cD ?_|refine aV ?_|refine cw ?_|refine fR ?_|refine bV ?_|refine cq ?_|refine aX ?_|refine aA ?_|refine cg ?_|refine sNo ?_|refine fa ?_|refine ay ?_)|refine e9 ?_|refine dD ?_|refine fU ?_|refine bu ?_|refine bU ?_|refine bE ?_|refine fX ?_|refine fy ?_|refine fp ?_|refine dP ?_|refine cL ?_|refine aM ?_|refine ax ?_|refine bt ?_|refine cK ?_|refine bF ?_|refine cM ?_|refine cN ?_)
  exact g8
 refine kgo ?_
 cases h2:dp sig a
 ·repeat (first|(refine cI ?_;first|refine aU ?_|refine cb ?_|refine bp ?_|refine bk ?_|refine aS ?_|refine be ?_|refine bc ?_|refine aB ?_|refine bm ?_|refine bo ?_)|(refine fQ ?_;first|refine b6 ?_|refine fH ?_|refine cm ?_|refine cE ?_)|(refine fB ?_;first|refine ex (fun _=>?_)|refine cr ?_|refine ci ?_|refine bL ?_|refine ch ?_|refine cd ?_|refine ca ?_)|(refine fJ ?_;first|refine cF ?_|refine fb ?_|refine cu ?_|refine bS ?_|refine ck ?_|refine cz ?_|refine ct ?_)|(refine fE ?_;first|refine fM ?_|refine fq ?_|refine cj ?_|refine bY ?_|refine fF ?_|refine bg ?_|refine bf ?_)|(refine co ?_;first|refine br ?_|refine cH ?_)|(refine fK ?_;first|refine gq (d:=6) ?_|refine cB ?_|refine cy ?_|refine fL ?_)|(refine b9 ?_;first|refine cG ?_|refine aY ?_|refine aR ?_|refine aZ ?_|refine aW ?_|refine bj ?_)|(refine fC ?_;first|refine cf ?_|refine fA ?_|refine bh ?_|refine aT ?_|refine bq ?_)|(refine aN ?_;first|refine aw _ ?_|refine ba ?_|refine aC ?_|refine az ?_|refine aD ?_)|(refine fG ?_;first|refine cC ?_|refine bR ?_|refine cA ?_)|(refine gOp ?_;first|refine fI ?_|refine fP ?_|refine bl ?_|refine fO ?_|refine fN ?_|refine cD ?_|refine aV ?_|refine cw ?_|refine fR ?_|refine bV ?_|refine cq ?_|refine aX ?_|refine aA ?_|refine cg ?_|refine sNo ?_|refine fa ?_|refine ay ?_)|refine e9 ?_|refine dD ?_|refine fU ?_|refine bu ?_|refine bU ?_|refine bE ?_|refine fX ?_|refine fy ?_|refine fp ?_|refine dP ?_|refine cL ?_|refine aM ?_|refine ax ?_|refine bt ?_|refine cK ?_|refine bF ?_|refine cM ?_|refine cN ?_)
  exact g8
 have f3:=ul h1 h2
 refine kgo ?_
 exact g8
end Go.Proofs.YtclpbhoekmecjaaGreatDoor
namespace Go.Proofs.YtclpbhoekmecjaaGreatDoor
open Go.RowKit
set_option linter.unusedVariables false
set_option maxRecDepth 100000
set_option maxHeartbeats 4000000
theorem FU (i:Nat) {t t':Tk} {P:Program} {W0:b7} {N:Nat} {σ:Env} {Q:Exit→Act→World→Prop} {x:Code} (he:t=t') (h:aq P W0 N x ((i,.tk t') :: σ) Q) (hi:ai σ i=some (.tk t):=by rfl):aq P W0 N x σ Q:=fun a w hh=>h a w (hh.congr (fun κ=>by
 subst he
 rw [aa]
 split
 ·rename_i e;subst e;exact hi.symm
 ·rfl))
section
variable {P:Program} {ops:Array Oper} {W0:b7} {N:Nat} {Fin:Us→Env→Prop} {os:List Oper} {us:Us} {pk fk:List Nat} {σ:Env} {g:Option (Nat × Bool)} {gk:List Nat} {d ty ty':Nat} {pos:String} {after:Array Edge}
theorem G7 {α:Type} {f:α→D} {l:List α} {x:Operand} {i z n e:Nat} {ds:List D} (h:Der P ops W0 N Fin os (us++[((d :: (gk++(i :: kx x)))++pk,([d])++fk)]) [] [] ((d,.sy (.d (.t ds))) :: σ)) (hx:ev σ x=some (.el i z n 0):=by rfl) (hi:ai σ i=some (.tk (.row z e (l.map f))):=by rfl) (hlt:n<l.length:=by first|assumption|omega) (hq:f l[n]=.t ds:=by rfl) (hA:isAgg? P ty'=some true:=by rfl) (hz:sizeOf? P ty'=some z:=by rfl) (hg:gst ops σ g=some (true,gk):=by rfl) (hN:Nat.blt d N=true:=by rfl) (hs:aG σ d=true:=by rfl):Der P ops W0 N Fin (⟨some d,.load ty' x,ty,pos,after,g⟩ :: os) us pk fk σ:=
 bT (.d (.t ds)) (i :: kx x) (fun σ' c a w hk hc=>by
  obtain ⟨hA',b,m,cp,h1,h2⟩:=am hc (ab hx (fun κ hκ=>hk κ (by simp [hκ])))
  obtain ⟨_,hT,_⟩:=hc.tok i _ ((hk i (by simp)).trans hi)
  rcases hT with ⟨hd,_⟩|⟨cells,own,hS,hel⟩
  ·rw [List.map_eq_nil_iff] at hd;subst hd;exact absurd hlt (Nat.not_lt_zero _)
  obtain ⟨cs,q1,q2,q3⟩:=hel n (by rw [List.length_map];exact hlt)
  rw [List.getElem_map,hq] at q2
  rw [h1] at own
  refine ⟨.agg cs.toArray,dA (X:=Instr.loadAt ty' (a.eval x)) ?_,cs,rfl,q2⟩
  rw [h2]
  refine eW hA (by rw [hz,q1]) (fun j u hj=>?_)
  have hjz:j<z:=by
   rcases Nat.lt_or_ge j z with h|h
   ·exact h
   ·rw [List.getElem?_eq_none (by omega)] at hj;cases hj
  have hin:n * z+j<(l.map f).length * z:=by
   rw [List.length_map]
   have:=Nat.mul_le_mul_right z (show n+1≤l.length from hlt)
   rw [Nat.add_mul] at this;omega
  rcases own.2 with ⟨hv0,_⟩|⟨gb,cap,cur,hv0,rest⟩
  ·cases hv0
  ·cases hv0
   rw [Nat.add_zero,World.ownsRow.cellAt (h:=own) (n * z+j) hin]
   exact q3 j u hj) h hg hN hs
end
attribute [local irreducible] aq Der At
def n5 (E:Int) (ns:List ByteArray) (r:Int × ByteArray):Int:=if r.2=⟨#[]⟩ then r.1 else E+jU ns r.2
theorem vR (b:Big) (E:Int) (ns:List ByteArray) (g:Nat) (cs:List D) (l:Int) (r:Int × ByteArray) (hct:(cs.all fun r=>!isT r)=true) (h0:0≤b.edges∧b.edges≤1000) (h1:b.edges≤l→l - b.edges<b.outer.length) (ho:b.outer.length≤1000) (hE:0≤E∧E≤1000) (hn:ns.length≤1000) (hg:FnD Tryz.prog g ([sJ (iQ b l)]++cs) (.d (sJ r))):FnD Tryz.prog 323 [.i l,.p (.f g cs),.p b.D,.p (.i E),.p (.t [.i b.roots,.any,.any,.i E,DS ns,.any])] (.d (.i (n5 E ns r))):=by
 have f1:=zX b l h0 h1 ho
 have f2:=nZ ns r.2
 have hr:=mK ns r.2
 refine ah Tryz.func323 (fun hw W0=>?_)
 refine kgo ?_
 refine cIf (fun h=>?_) (fun h=>?_)
 ·rw [show n5 E ns r=r.1 from if_pos ((mz _).1 h)]
  refine kgo ?_
  exact ar
 ·have h:¬r.2=⟨#[]⟩:=fun e=>by rw [(mz _).2 e] at h;cases h
  rw [show n5 E ns r=E+jU ns r.2 from if_neg h]
  refine kgo ?_
  exact ar
def yB (b:Big) (E:Int) (ns:List ByteArray) (turn:Int→Int):Big:=⟨b.roots,b.nodes.map fun x=>⟨x.control,x.parent,x.links.map turn⟩,b.sites,E,ns,b.inner.map fun w=>⟨w.name,turn w.link⟩⟩
def lD (turn:Int→Int) (l:List Nd) (i j:Nat):List Nd:=l.mapIdx fun k x=>⟨x.control,x.parent,if k<i then x.links.map turn else if k=i then (x.links.take j).map turn++x.links.drop j else x.links⟩
theorem xm (turn:Int→Int) (l:List Nd) (i j:Nat):(lD turn l i j).length=l.length:=by simp [lD]
theorem zH (turn:Int→Int) (l:List Nd):lD turn l 0 0=l:=by
 refine List.ext_getElem (by simp [lD]) fun k h1 h2=>?_
 simp only [lD,List.getElem_mapIdx,List.take_zero,List.map_nil,List.nil_append,List.drop_zero,Nat.not_lt_zero,if_false,ite_self]
theorem Cm (turn:Int→Int) (l:List Nd) (i:Nat) (h:i<l.length):lD turn l i l[i].links.length=lD turn l (i+1) 0:=by
 refine List.ext_getElem (by simp [lD]) fun k h1 h2=>?_
 simp only [lD,List.getElem_mapIdx]
 rcases Nat.lt_trichotomy k i with hk|rfl|hk
 ·rw [if_pos hk,if_pos (by omega)]
 ·rw [if_neg (by omega),if_pos rfl,if_pos (by omega),List.take_length,List.drop_length,List.append_nil]
 ·rw [if_neg (by omega),if_neg (by omega),if_neg (by omega)]
  split
  ·simp
  ·rfl
theorem Cl (turn:Int→Int) (l:List Nd):lD turn l l.length 0=l.map fun x=>⟨x.control,x.parent,x.links.map turn⟩:=by
 refine List.ext_getElem (by simp [lD]) fun k h1 h2=>?_
 simp only [lD,List.getElem_mapIdx,List.getElem_map]
 rw [if_pos (by simpa using h2)]
theorem rH (turn:Int→Int) (l:List Nd) (i j:Nat) (h:i<l.length):(lD turn l i j).getD i ⟨0,0,[]⟩=⟨l[i].control,l[i].parent,(l[i].links.take j).map turn++l[i].links.drop j⟩:=by
 simp [lD,h]
theorem zr (turn:Int→Int) (l:List Nd) (i j:Nat) (h:i<l.length) (hj:j<l[i].links.length):((lD turn l i j).getD i ⟨0,0,[]⟩).links.getD j 0=l[i].links[j]:=by
 rw [rH turn l i j h]
 show ((l[i].links.take j).map turn++l[i].links.drop j).getD j 0=_
 rw [List.getD_eq_getElem?_getD,List.getElem?_append_right (by simp;omega)]
 simp [Nat.min_eq_left (Nat.le_of_lt hj),hj]
theorem Av (turn:Int→Int) (l:List Nd) (i j:Nat) (h:i<l.length) (hj:j≤l[i].links.length):((lD turn l i j).getD i ⟨0,0,[]⟩).links.length=l[i].links.length:=by
 rw [rH turn l i j h]
 simp
 omega
theorem Ca (turn:Int→Int) (l:List Nd) (i j:Nat) (h:i<l.length) (hj:j<l[i].links.length):vq (lD turn l i j) i j (turn l[i].links[j])=lD turn l i (j+1):=by
 unfold vq
 rw [rH turn l i j h]
 refine List.ext_getElem (by simp [lD]) fun k h1 h2=>?_
 rw [List.getElem_set]
 split
 ·rename_i e
  subst e
  simp only [lD,List.getElem_mapIdx,Nat.lt_irrefl,if_false,if_true]
  congr 1
  rw [List.set_append_right _ _ (by simp;omega)]
  have:j - ((l[i].links.take j).map turn).length=0:=by simp;omega
  rw [this,List.drop_eq_getElem_cons hj,List.set_cons_zero,List.take_succ_eq_append_getElem hj,List.map_append,List.append_assoc]
  rfl
 ·rename_i e
  simp only [lD,List.getElem_mapIdx]
  have hk:¬k=i:=fun e'=>e e'.symm
  simp only [if_neg hk]
def nB (turn:Int→Int) (l:List Wr) (i:Nat):List Wr:=l.mapIdx fun k x=>⟨x.name,if k<i then turn x.link else x.link⟩
abbrev IN (b:Big):List Pt:=[.d (.i b.roots),.tk (.deep 3 131 (b.nodes.map Nd.D) []),.tk (.row 1 3 (b.sites.map .i)),.d (.i b.edges),.d (DS b.outer),.tk (.row 2 133 (b.inner.map Wr.D))]
theorem xi (turn:Int→Int) (l:List Wr) (i:Nat):(nB turn l i).length=l.length:=by simp [nB]
theorem Ap (turn:Int→Int) (l:List Wr):nB turn l 0=l:=by
 refine List.ext_getElem (by simp [nB]) fun k h1 h2=>?_
 simp [nB]
theorem DJ (turn:Int→Int) (l:List Wr):nB turn l l.length=l.map fun w=>⟨w.name,turn w.link⟩:=by
 refine List.ext_getElem (by simp [nB]) fun k h1 h2=>?_
 simp only [nB,List.getElem_mapIdx,List.getElem_map]
 rw [if_pos (by simpa using h2)]
theorem Bu (turn:Int→Int) (l:List Wr) (i:Nat) (h:i<l.length):(nB turn l i)[i]'(by rw [xi];exact h)=l[i]:=by simp [nB]
theorem Dc (turn:Int→Int) (l:List Wr) (i:Nat) (h:i<l.length):(nB turn l i).set i ⟨l[i].name,turn l[i].link⟩=nB turn l (i+1):=by
 refine List.ext_getElem (by simp [nB]) fun k h1 h2=>?_
 rw [List.getElem_set]
 simp only [nB,List.getElem_mapIdx]
 split
 ·rename_i e;subst e;rw [if_pos (by omega)]
 ·rename_i e
  congr 1
  by_cases hk:k<i
  ·rw [if_pos hk,if_pos (by omega)]
  ·rw [if_neg hk,if_neg (by omega)]
theorem mW (b:Big) (E:Int) (names:List ByteArray) (g:Nat) (cs:List D) (F:Int × ByteArray→Int × ByteArray) (hct:(cs.all fun r=>!isT r)=true) (hd:vV b) (hi:b.inner.length≤1000) (h0:0≤b.edges∧b.edges≤1000) (hE:0≤E∧E≤1000) (hn:names.length≤1000) (hnl:∀x∈b.nodes,∀l∈x.links,(0≤l∧l<b.edges+b.outer.length)) (hil:∀x∈b.inner,(0≤x.link∧x.link<b.edges+b.outer.length))
 (hg:∀l,(0≤l∧l<b.edges+b.outer.length)→FnD Tryz.prog g ([sJ (iQ b l)]++cs) (.d (sJ (F (iQ b l))))):FnO Tryz.prog 292 [b.D,.i E,DS names,.f g cs] [6] (IN (yB b E (cR names) fun l=>n5 E (cR names) (F (iQ b l)))):=by
 have f1:=kf b hd hi
 have f2:=lg names hn
 obtain ⟨_,_,hd3,_,hd5,_,hd7⟩:=hd
 have hsn:(cR names).length≤1000:=by have h:=kl names [];unfold cR;simp at h;omega
 generalize hturn:(fun l=>n5 E (cR names) (F (iQ b l)))=turn
 have f3:∀l,(0≤l∧l<b.edges+b.outer.length)→FnD Tryz.prog 323 [.i l,.p (.f g cs),.p b.D,.p (.i E),.p (.t [.i b.roots,.any,.any,.i E,DS (cR names),.any])] (.d (.i (turn l))):=fun l hl=>by
  rw [← hturn]
  exact vR b E (cR names) g cs l _ hct h0 (by omega) hd5 hE hsn (hg l hl)
 refine dH Tryz.func292 (fun hw W0=>?_)
 refine kgo ?_
 refine sf 7 (.f g cs) ?_
 refine sf 4 b.D ?_
 refine sf 5 (.i E) ?_
 refine IU 9 ?_
 refine kgo ?_
 refine FU 31018 (t':=.deep 3 131 ((lD turn b.nodes 0 0).map Nd.D) []) (by rw [zH]) ?_
 refine aj [8,9,10,26,27] (fun i:Nat=>i≤b.nodes.length) (fun i=>b.nodes.length - i) (fun i=>[(28,.sy (.d (.i i))),(31018,.tk (.deep 3 131 ((lD turn b.nodes i 0).map Nd.D) []))]) 0 (Nat.zero_le _) (fun i hi=>?_)
 refine kgo ?_
 refine aO (fun h=>?_) (fun h=>?_)
 ·have hlt:i<b.nodes.length:=by simpa using h
  have hll:=xm turn b.nodes i 0
  have hln:((lD turn b.nodes i 0)[i]'(by omega)).links.length=b.nodes[i].links.length:=by
   have:=Av turn b.nodes i 0 hlt (Nat.zero_le _)
   rwa [List.getD_eq_getElem?_getD,List.getElem?_eq_getElem (by omega),Option.getD_some] at this
  have hl7:=hd7 i hlt
  refine IJ 31018 i (l:=lD turn b.nodes i 0) (by omega) (fun ad k hmx hsl=>?_)
  rw [hln]
  have hm2:b.nodes[i].links.length≤maxLen:=by rwa [hln] at hmx
  refine kgo ?_
  refine aj [8,9,10,12,26,27,28,33,34] (fun j:Nat=>j≤b.nodes[i].links.length) (fun j=>b.nodes[i].links.length - j) (fun j=>[(35,.sy (.d (.i j))),(31018,.tk (.deep 3 131 ((lD turn b.nodes i j).map Nd.D) [(i * 3+2,.slice ad b.nodes[i].links.length k)]))]) 0 (Nat.zero_le _) (fun j hj=>?_)
  refine kgo ?_
  refine aO (fun h2=>?_) (fun h2=>?_)
  ·have hlj:j<b.nodes[i].links.length:=by omega
   have hmj:j<((lD turn b.nodes i j).getD i ⟨0,0,[]⟩).links.length:=by rw [Av turn b.nodes i j hlt (by omega)];exact hlj
   have hli:=xm turn b.nodes i j
   have f4:=f3 (((lD turn b.nodes i j).getD i ⟨0,0,[]⟩).links.getD j 0) (by rw [zr turn b.nodes i j hlt hlj];exact hnl _ (List.getElem_mem hlt) _ (List.getElem_mem hlj))
   have hset:((vq (lD turn b.nodes i j) i j (turn (((lD turn b.nodes i j).getD i ⟨0,0,[]⟩).links.getD j 0))).map Nd.D)=(lD turn b.nodes i (j+1)).map Nd.D:=by rw [zr turn b.nodes i j hlt hlj,Ca turn b.nodes i j hlt hlj]
   rcases hsl with hsl|⟨b0,o0,rfl⟩
   ·rw [hsl] at hln;simp at hln;omega
   refine kgo ?_
   refine Gl 31018 ?_
   refine kgo ?_
   refine E2 31018 ?_
   refine kgo ?_
   exact af (j+1) hlj (by omega) (hs:=⟨⟨rfl,rfl⟩,⟨AX rfl hset,rfl⟩,by repeat (first|exact trivial|refine ⟨⟨rfl,rfl⟩,?_⟩)⟩)
  obtain rfl:j=b.nodes[i].links.length:=by omega
  rw [Cm turn b.nodes i hlt]
  refine GS 31018 ?_
  refine kgo ?_
  exact af (i+1) hlt (by omega) (hs:=⟨⟨rfl,rfl⟩,⟨rfl,rfl⟩,by repeat (first|exact trivial|refine ⟨⟨rfl,rfl⟩,?_⟩)⟩)
 obtain rfl:i=b.nodes.length:=by have:=h;simp at this;omega
 rw [Cl]
 refine kgo ?_
 refine FU 35018 (t':=.row 2 133 ((nB turn b.inner 0).map Wr.D)) (by rw [Ap]) ?_
 refine aj [8,9,10,50,51] (fun i:Nat=>i≤b.inner.length) (fun i=>b.inner.length - i) (fun i=>[(52,.sy (.d (.i i))),(35018,.tk (.row 2 133 ((nB turn b.inner i).map Wr.D)))]) 0 (Nat.zero_le _) (fun i hi=>?_)
 refine kgo ?_
 refine aO (fun h=>?_) (fun h=>?_)
 ·have hlt:i<b.inner.length:=by simpa using h
  have hli:=xi turn b.inner i
  have hlt':i<(nB turn b.inner i).length:=by omega
  have f4:=f3 ((nB turn b.inner i)[i].link) (by rw [Bu turn b.inner i hlt];exact hil _ (List.getElem_mem hlt))
  have hs:((nB turn b.inner i).set i ⟨((nB turn b.inner i)[i]).name,turn ((nB turn b.inner i)[i]).link⟩).map Wr.D=(nB turn b.inner (i+1)).map Wr.D:=by rw [Bu turn b.inner i hlt,Dc turn b.inner i hlt]
  refine kgo ?_
  refine G7 (f:=Wr.D) (l:=nB turn b.inner i) ?_
  refine kgo ?_
  refine aw (f:=Wr.D) (l:=nB turn b.inner i) ⟨((nB turn b.inner i)[i]).name,turn ((nB turn b.inner i)[i]).link⟩ ?_
  refine kgo ?_
  exact af (i+1) hlt (by omega)
 obtain rfl:i=b.inner.length:=by have:=h;simp at this;omega
 rw [DJ]
 refine kgo ?_
 exact g6 (hp:=.cons (.d rfl) (.cons (.k rfl rfl) (.cons (.k rfl rfl) (.cons (.d rfl) (.cons (.d rfl) (.cons (.k rfl rfl) .nil))))))
end Go.Proofs.YtclpbhoekmecjaaGreatDoor
namespace Go.Proofs.YtclpbhoekmecjaaGreatDoor
open Go.RowKit
set_option linter.unusedVariables false
set_option maxRecDepth 100000
set_option maxHeartbeats 4000000
theorem FnD.arg {P:Program} {f:Nat} {ds ds':List D} {r:Ro} (h:FnD P f ds r) (hd:∀w F vs,DVs w F ds' vs→DVs w F ds vs):FnD P f ds' r:=⟨h.enter,fun F w vs hv hF=>h.calls F w vs (hd _ _ _ hv) hF⟩
theorem AL {w:World} {F:BS} {z:Nat} {v:Value} (h:DV w F (.n z) v):DV w F (.l z []) v:=by
 obtain ⟨a,h⟩:=h
 exact ⟨a,0,h,Nat.le_refl _,by decide,fun _=>rfl,.inl rfl⟩
def F1 (σ:Env):List Operand→Option (List D)
 | []=>some []
 | x :: xs=>match (match x with | .const (.slice none 0 0)=>some (.n 1)|x=>(ev σ x).bind Sy.arg),F1 σ xs with
  | some r,some rs=>some (r :: rs)
  | _,_=>none
theorem rj {W0:b7} {N:Nat} {a:Act} {w:World} {c:Cx} {σ σ':Env} (h:au W0 N σ' a w c):∀(xs:List Operand) (ds:List D),F1 σ xs=some ds→(∀κ∈kxs xs,ai σ' κ=ai σ κ)→DVs w c.F ds (xs.map a.eval):=by
 intro xs
 induction xs with
 | nil=>intro ds he _;cases he;exact rfl
 | cons x xs ih=>
  intro ds he hk
  unfold F1 at he
  split at he
  ·rename_i r rs h1 h2
   cases he
   refine ⟨_,_,rfl,?_,ih rs h2 (fun κ hκ=>hk κ (by simp [kxs,hκ]))⟩
   split at h1
   ·cases h1;exact ⟨none,rfl⟩
   ·rw [Option.bind_eq_some_iff] at h1
    obtain ⟨s,h3,h4⟩:=h1
    exact zR h4 (am h (ab h3 (fun κ hκ=>hk κ (by simp [kxs,hκ]))))
  ·cases he
section
variable {P:Program} {ops:Array Oper} {W0:b7} {N:Nat} {Fin:Us→Env→Prop} {os:List Oper} {us:Us} {pk fk:List Nat} {σ:Env} {g:Option (Nat × Bool)} {gk:List Nat} {d ty f:Nat} {pos:String} {after:Array Edge} {at':Array TypeId} {xs:List Operand} {ds:List D}
theorem G1 {r:D} (h:Der P ops W0 N Fin os (us++[((d :: (gk++kxs xs))++pk,([d])++fk)]) [] [] ((d,.sy (.d r)) :: σ)) (hx:F1 σ xs=some ds:=by rfl) (hf:FnD P f ds (.d r):=by assumption) (hg:gst ops σ g=some (true,gk):=by rfl) (hN:Nat.blt d N=true:=by rfl) (hs:aG σ d=true:=by rfl):Der P ops W0 N Fin (⟨some d,.call { callee:=.value (.func f),args:=xs.toArray,argTypes:=at' },ty,pos,after,g⟩ :: os) us pk fk σ:=
 kc (.d r) (kxs xs) [] (fun σ' c a w hk hc=>by
  unfold Oper.wp
  rw [bP hf.enter rfl]
  refine (hf.calls c.F w _ (rj hc xs ds hx hk) hc.lt).mono ?_
  rintro e w' ⟨v,rfl,hX,hv⟩
  exact ⟨v,_,rfl,hc.fresh hX,hv⟩) h hg hN hs rfl
end
attribute [local irreducible] aq Der At
theorem vC (a:Big) (ns:List ByteArray) (s:ByteArray) (q:Nat) (hq:jU ns s=q) (hql:q<a.inner.length) (hi:a.inner.length≤1000) (h0:0≤a.edges∧a.edges≤1000) (h1:a.inner[q].link<a.edges+a.outer.length) (ho:a.outer.length≤1000):FnD Tryz.prog 259 [.s s,.p a.D,.p (DS ns)] (.d (sJ (iQ a a.inner[q].link))):=by
 have f1:=nZ ns s
 rw [hq] at f1
 have f2:=zX a a.inner[q].link h0 (by omega) ho
 refine ah Tryz.func259 (fun hw W0=>?_)
 refine kgo ?_
 exact ar
def yY (a:Big) (L:ByteArray→Int × ByteArray) (e:Int × ByteArray):Int × ByteArray:=if e.2=⟨#[]⟩ then (e.1+a.edges,⟨#[]⟩) else L e.2
def AT (a:Big) (Pl:Int→Int) (p:Int):Int:=if 0≤p then p+a.nodes.length else Pl p
def Ej (a:Big) (Pl:Int→Int) (x:Nd):Nd:=⟨x.control,AT a Pl x.parent,x.links⟩
theorem w7 {α β:Type} (f:α→β) (u:List β) (l:List α) (i:Nat) (h:i<l.length):u++(l.take (i+1)).map f=(u++(l.take i).map f)++[f l[i]]:=by rw [List.take_succ_eq_append_getElem h,List.map_append,List.append_assoc];rfl
def ue (a b:Big) (roots:Int) (sites:List Int) (ns:List ByteArray) (L:ByteArray→Int × ByteArray) (Pl:Int→Int):Big:=
 let A:=yB a (a.edges+b.edges) ns fun l=>n5 (a.edges+b.edges) ns (id (iQ a l))
 let R:=yB b (a.edges+b.edges) ns fun l=>n5 (a.edges+b.edges) ns (yY a L (iQ b l))
 ⟨roots,A.nodes++R.nodes.map (Ej a Pl),sites++b.sites.map (AT a Pl),a.edges+b.edges,ns,R.inner⟩
theorem xd (a b:Big) (roots:Int) (sites:List Int) (names:List ByteArray) (gp gl:Nat) (cp cl:List D) (L:ByteArray→Int × ByteArray) (Pl:Int→Int) (hcp:(cp.all fun r=>!isT r)=true) (hcl:(cl.all fun r=>!isT r)=true) (da:vV a) (db:vV b) (ia:a.inner.length≤1000) (ib:b.inner.length≤1000) (ea:0≤a.edges∧a.edges≤500) (eb:0≤b.edges∧b.edges≤500) (hn:names.length≤1000) (hs:sites.length≤1000)
 (la:∀x∈a.nodes,∀l∈x.links,(0≤l∧l<a.edges+a.outer.length)) (wa:∀x∈a.inner,(0≤x.link∧x.link<a.edges+a.outer.length)) (lb:∀x∈b.nodes,∀l∈x.links,(0≤l∧l<b.edges+b.outer.length)) (wb:∀x∈b.inner,(0≤x.link∧x.link<b.edges+b.outer.length))
 (hpl:∀x∈b.nodes,x.parent≤1000∧(x.parent<0→FnD Tryz.prog gp ([.i x.parent]++cp) (.d (.i (Pl x.parent))))) (hps:∀p∈b.sites,p≤1000∧(p<0→FnD Tryz.prog gp ([.i p]++cp) (.d (.i (Pl p)))))
 (hL:∀l,(0≤l∧l<b.edges+b.outer.length)→FnD Tryz.prog 296 [sJ (iQ b l),.p a.D,.p (.f gl cl)] (.d (sJ (yY a L (iQ b l))))):FnD Tryz.prog 257 [a.D,b.D,.i roots,DI sites,DS names,.f gp cp,.f gl cl] (.d (ue a b roots sites (cR names) L Pl).D):=by
 have f1:=mW a (a.edges+b.edges) names 295 [] id rfl da ia ⟨by omega,by omega⟩ ⟨by omega,by omega⟩ hn la wa (fun l _=>zE _)
 have f2:=(mW b (a.edges+b.edges) names 296 [.p a.D,.p (.f gl cl)] (yY a L) rfl db ib ⟨by omega,by omega⟩ ⟨by omega,by omega⟩ hn lb wb hL).toD
 have f3:=kU sites hs
 obtain ⟨R,hR⟩:∃R,R=yB b (a.edges+b.edges) (cR names) fun l=>n5 (a.edges+b.edges) (cR names) (yY a L (iQ b l)):=⟨_,rfl⟩
 rw [← hR] at f2
 have hRn:∀x∈R.nodes,x.parent≤1000∧(x.parent<0→FnD Tryz.prog gp ([.i x.parent]++cp) (.d (.i (Pl x.parent)))):=fun x hx=>by
  rw [hR] at hx
  obtain ⟨y,hy,rfl⟩:=List.mem_map.1 hx
  exact hpl y hy
 have hRl:R.nodes.length≤1000:=by rw [hR];simp [yB];exact db.nodes
 obtain ⟨A,hA⟩:∃A,A=yB a (a.edges+b.edges) (cR names) fun l=>n5 (a.edges+b.edges) (cR names) (id (iQ a l)):=⟨_,rfl⟩
 rw [← hA] at f1
 have hAl:A.nodes.length≤1000:=by rw [hA];simp [yB];exact da.nodes
 refine ah Tryz.func257 (fun hw W0=>?_)
 refine kgo ?_
 refine sf 7 a.D ?_
 refine sf 13 (.f gl cl) ?_
 refine kgo ?_
 refine Ij 31031 ?_
 refine FU 31031 (t':=.row 3 131 ((A.nodes++(R.nodes.take 0).map (Ej a Pl)).map Nd.D)) (by rw [List.take_zero,List.map_nil,List.append_nil]) ?_
 refine aj [5,7,8,14,18,49,50,10041] (fun i:Nat=>i≤R.nodes.length) (fun i=>R.nodes.length - i) (fun i=>[(51,.sy (.d (.i i))),(10018,.tk (.bx [.d (.i roots),.k 20001,.k 10041,.d (.i (a.edges+b.edges)),.d (DS A.outer),.d (.l 2 (R.inner.map Wr.D))])),(20001,.tk (.row 3 131 ((A.nodes++(R.nodes.take i).map (Ej a Pl)).map Nd.D)))]) 0 (Nat.zero_le _) (fun i hi=>?_)
 refine kgo ?_
 refine aO (fun h=>?_) (fun h=>?_)
 ·have hlt:i<R.nodes.length:=by simpa using h
  have hx:=hRn _ (List.getElem_mem hlt)
  have f4:=BB a R.nodes[i].parent (Pl R.nodes[i].parent) gp cp hcp hx.1 da.nodes hx.2
  have hs2:(A.nodes++(R.nodes.take (i+1)).map (Ej a Pl)).map Nd.D=(A.nodes++(R.nodes.take i).map (Ej a Pl)).map Nd.D++[(Ej a Pl R.nodes[i]).D]:=by rw [w7 _ _ _ _ hlt,List.map_append];rfl
  refine kgo ?_
  exact af (i+1) hlt (by omega) (hs:=⟨⟨rfl,rfl⟩,⟨rfl,rfl⟩,⟨jN rfl hs2.symm,rfl⟩,by repeat (first|exact trivial|refine ⟨⟨rfl,rfl⟩,?_⟩)⟩)
 obtain rfl:i=R.nodes.length:=by have:=h;simp at this;omega
 rw [List.take_length]
 refine kgo ?_
 refine FU 10041 (t':=.row 1 3 ((sites++(b.sites.take 0).map (AT a Pl)).map D.i)) (by rw [List.take_zero,List.map_nil,List.append_nil]) ?_
 refine aj [5,7,14,18,69,70,20001] (fun i:Nat=>i≤b.sites.length) (fun i=>b.sites.length - i) (fun i=>[(71,.sy (.d (.i i))),(10018,.tk (.bx [.d (.i roots),.k 20001,.k 20002,.d (.i (a.edges+b.edges)),.d (DS A.outer),.d (.l 2 (R.inner.map Wr.D))])),(20002,.tk (.row 1 3 ((sites++(b.sites.take i).map (AT a Pl)).map D.i)))]) 0 (Nat.zero_le _) (fun i hi=>?_)
 refine kgo ?_
 refine aO (fun h=>?_) (fun h=>?_)
 ·have hlt:i<b.sites.length:=by simpa using h
  have hx:=hps _ (List.getElem_mem hlt)
  have hbl:=db.sites
  have f4:=BB a b.sites[i] (Pl b.sites[i]) gp cp hcp hx.1 da.nodes hx.2
  have hs2:(sites++(b.sites.take (i+1)).map (AT a Pl)).map D.i=(sites++(b.sites.take i).map (AT a Pl)).map D.i++[.i (AT a Pl b.sites[i])]:=by rw [w7 _ _ _ _ hlt,List.map_append];rfl
  refine kgo ?_
  exact af (i+1) hlt (by omega) (hs:=⟨⟨rfl,rfl⟩,⟨rfl,rfl⟩,⟨jN rfl hs2.symm,rfl⟩,by repeat (first|exact trivial|refine ⟨⟨rfl,rfl⟩,?_⟩)⟩)
 obtain rfl:i=b.sites.length:=by have:=h;simp at this;omega
 rw [List.take_length]
 refine bE (ax (ax (bF (aM ?_))))
 refine mi 10018 1 ?_
 refine mi 10018 2 ?_
 refine kgo ?_
 rw [show ue a b roots sites (cR names) L Pl=⟨roots,A.nodes++R.nodes.map (Ej a Pl),sites++b.sites.map (AT a Pl),a.edges+b.edges,A.outer,R.inner⟩ from by rw [hA,hR];rfl]
 exact ar
theorem yN (a b:Big) (da:vV a) (db:vV b) (ia:a.inner.length≤1000) (ib:b.inner.length≤1000) (ea:0≤a.edges∧a.edges≤500) (eb:0≤b.edges∧b.edges≤500)
 (la:∀x∈a.nodes,∀l∈x.links,(0≤l∧l<a.edges+a.outer.length)) (wa:∀x∈a.inner,(0≤x.link∧x.link<a.edges+a.outer.length)) (lb:∀x∈b.nodes,∀l∈x.links,(0≤l∧l<b.edges+b.outer.length)) (wb:∀x∈b.inner,(0≤x.link∧x.link<b.edges+b.outer.length))
 (hpl:∀x∈b.nodes,x.parent≤1000∧(x.parent<0→0≤-1 - x.parent∧-1 - x.parent<a.sites.length)) (hps:∀p∈b.sites,p≤1000∧(p<0→0≤-1 - p∧-1 - p<a.sites.length))
 (hL:∀s∈b.outer,∃q:Nat,jU (a.inner.map Wr.name) s=q∧q<a.inner.length):FnD Tryz.prog 225 [a.D,b.D] (.d (ue a b a.roots [] (cR a.outer) (fun s=>iQ a (a.inner.getD (jU (a.inner.map Wr.name) s).toNat ⟨⟨#[]⟩,0⟩).link) (fun p=>atI a.sites (-1 - p))).D):=by
 have f1:=(gJ a ia).toL
 have hX:∀l,(0≤l∧l<b.edges+b.outer.length)→¬(iQ b l).2=⟨#[]⟩→FnD Tryz.prog 259 ([.s (iQ b l).2]++[.p a.D,.p (DS (a.inner.map Wr.name))]) (.d (sJ (iQ a (a.inner.getD (jU (a.inner.map Wr.name) (iQ b l).2).toNat ⟨⟨#[]⟩,0⟩).link))):=fun l hl hne=>by
  have hm:(iQ b l).2∈b.outer:=by
   unfold iQ at hne ⊢
   split at hne
   ·exact absurd rfl hne
   ·rename_i hge
    rw [if_neg hge]
    have hlt:(l - b.edges).toNat<b.outer.length:=by omega
    show b.outer.getD (l - b.edges).toNat ⟨#[]⟩∈b.outer
    rw [List.getD_eq_getElem?_getD,List.getElem?_eq_getElem hlt]
    exact List.getElem_mem hlt
  obtain ⟨q,hq,hql⟩:=hL _ hm
  have f:=vC a (a.inner.map Wr.name) (iQ b l).2 q hq hql ia ⟨ea.1,by omega⟩ (wa _ (List.getElem_mem hql)).2 da.outer
  rw [hq,Int.toNat_natCast,List.getD_eq_getElem?_getD,List.getElem?_eq_getElem hql]
  exact f
 have f2:=(xd a b a.roots [] a.outer 258 259 [.p a.D] [.p a.D,.p (DS (a.inner.map Wr.name))] (fun s=>iQ a (a.inner.getD (jU (a.inner.map Wr.name) s).toNat ⟨⟨#[]⟩,0⟩).link) (fun p=>atI a.sites (-1 - p)) rfl rfl da db ia ib ea eb da.outer (Nat.zero_le _) la wa lb wb
  (fun x hx=>⟨(hpl x hx).1,fun h=>oG a x.parent ((hpl x hx).2 h) da.sites⟩) (fun p hp=>⟨(hps p hp).1,fun h=>oG a p ((hps p hp).2 h) da.sites⟩)
  (fun l hl=>sW a _ _ (iQ b l) _ rfl (by have h1:=hl.1;have h2:=eb.2;unfold iQ;split <;> (constructor <;> dsimp only <;> omega)) ⟨ea.1,by omega⟩ (hX l hl))).arg (ds':=[a.D,b.D,.i a.roots,.n 1,DS a.outer,.f 258 [.p a.D],.f 259 [.p a.D,.p (DS (a.inner.map Wr.name))]]) (fun w F vs h=>by
   obtain ⟨v1,t1,rfl,h1,v2,t2,rfl,h2,v3,t3,rfl,h3,v4,t4,rfl,h4,h5⟩:=h
   exact ⟨_,_,rfl,h1,_,_,rfl,h2,_,_,rfl,h3,_,_,rfl,AL h4,h5⟩)
 refine ah Tryz.func225 (fun hw W0=>?_)
 refine kgo ?_
 refine sf 2 a.D ?_
 refine sf 5 (DS (a.inner.map Wr.name)) ?_
 refine kgo ?_
 refine G1 (hf:=f2) ?_
 refine kgo ?_
 exact ar
end Go.Proofs.YtclpbhoekmecjaaGreatDoor
namespace Go.Proofs.YtclpbhoekmecjaaGreatDoor
open Go.RowKit
set_option linter.unusedVariables false
set_option maxRecDepth 100000
set_option maxHeartbeats 4000000
attribute [local irreducible] aq Der At
def BV (a b:Big):Bool:=decide ((a.sites.length:Int)=b.roots) && eqS (a.inner.map Wr.name) b.outer
def A6 (a b:Big):Big:=ue a b a.roots [] (cR a.outer) (fun s=>iQ a (a.inner.getD (jU (a.inner.map Wr.name) s).toNat ⟨⟨#[]⟩,0⟩).link) (fun p=>atI a.sites (-1 - p))
def mI (sig:List Ctl) (a b:Big):Bool:=aF sig a && (aF sig b && (BV a b && aF sig (A6 a b)))
theorem nn (sig:List Ctl) (a b:Big) (ia:a.inner.length≤1000) (ib:b.inner.length≤1000) (hc:aF sig a=true→aF sig b=true→BV a b=true→(A6 a b).inner.length≤1000∧FnD Tryz.prog 225 [a.D,b.D] (.d (A6 a b).D)):FnO Tryz.prog 175 [.l 3 (sig.map Ctl.D),a.D,b.D] [6,0] (BP (y7 (mI sig a b) (A6 a b))++[.d (.b (mI sig a b))]):=by
 have f1:=hZ sig a (by omega)
 have f2:=hZ sig b (by omega)
 have f3:FnD Tryz.prog 224 [a.D,b.D] (.d (.b (BV a b))):=Gv a b ia
 refine dH Tryz.func175 (fun hw W0=>?_)
 refine kgo ?_
 cases ga:aF sig a
 ·rw [show mI sig a b=false from by simp [mI,ga]]
  refine kgo ?_
  exact g6 (hp:=.cons (.d rfl) (.cons .m (.cons .n (.cons (.d rfl) (.cons .n (.cons .n (.cons (.d rfl) .nil)))))))
 refine kgo ?_
 cases gb:aF sig b
 ·rw [show mI sig a b=false from by simp [mI,gb]]
  refine kgo ?_
  exact g6 (hp:=.cons (.d rfl) (.cons .m (.cons .n (.cons (.d rfl) (.cons .n (.cons .n (.cons (.d rfl) .nil)))))))
 refine kgo ?_
 cases gf:BV a b
 ·rw [show mI sig a b=false from by simp [mI,gf]]
  refine kgo ?_
  exact g6 (hp:=.cons (.d rfl) (.cons .m (.cons .n (.cons (.d rfl) (.cons .n (.cons .n (.cons (.d rfl) .nil)))))))
 obtain ⟨h1,f4⟩:=hc ga gb gf
 have f5:=oW sig (A6 a b) h1
 rw [show mI sig a b=aF sig (A6 a b) from by simp [mI,ga,gb,gf]]
 refine kgo ?_
 exact g6 (hp:=.cons (.d rfl) (.cons (.k rfl rfl) (.cons (.k rfl rfl) (.cons (.d rfl) (.cons (.k rfl rfl) (.cons (.k rfl rfl) (.cons (.d rfl) .nil)))))))
end Go.Proofs.YtclpbhoekmecjaaGreatDoor
namespace Go.Proofs.YtclpbhoekmecjaaGreatDoor
open Go.RowKit
set_option linter.unusedVariables false
set_option linter.unusedSimpArgs false
theorem D4 {a c:List ByteArray} (h:eqS a c=true):a=c:=by
 unfold eqS at h
 simp only [Bool.and_eq_true,decide_eq_true_eq] at h
 refine List.ext_getElem h.1 (fun i h1 h2=>?_)
 have:=(aH _ _).1 h.2 i h1
 rw [kB a c i h1 h2,beq_iff_eq] at this
 exact gh this
structure sa (b:Big):Prop where
 dims:vV b
 roots:0≤b.roots∧b.roots≤4
 edges:0≤b.edges∧b.edges≤8
 nodes:b.nodes.length≤8
 sitesN:b.sites.length≤4
 outer:b.outer.length≤16
 inner:b.inner.length≤16
 links:∀x∈b.nodes,∀l∈x.links,0≤l∧l<b.edges+b.outer.length
 wires:∀x∈b.inner,0≤x.link∧x.link<b.edges+b.outer.length
 pars:∀x∈b.nodes,-b.roots≤x.parent∧x.parent≤8
 sites:∀p∈b.sites,-b.roots≤p∧p≤8
 names:b.outer.Pairwise NLt
 inames:(b.inner.map Wr.name).Pairwise NLt
 full:∀s∈b.outer,s≠⟨#[]⟩
theorem xO {l:List ByteArray} (h:dw l=true):∀s∈l,s≠⟨#[]⟩:=fun s hs e=>by
 obtain ⟨i,hi,rfl⟩:=List.mem_iff_getElem.1 hs
 have h2:=(aH _ _).1 (Bool.and_eq_true_iff.1 h).1 i hi
 rw [qV l i hi] at h2
 have h3:=(Bool.and_eq_true_iff.1 h2).1
 unfold dE at h3
 have h4:=bO (Bool.and_eq_true_iff.1 h3).1
 rw [e] at h4
 have:(ByteArray.mk #[]).size=0:=rfl
 omega
theorem dh {sig:List Ctl} {b:Big} (h:aF sig b=true):sa b:=by
 obtain ⟨h1,h2,h3,h4⟩:=dV h
 obtain ⟨_,_,_,_,_,ho,hi⟩:=fd h1
 obtain ⟨r,n,s,e,o,i⟩:=aL h
 refine ⟨bB h,r,e,n,s,o,i,fun x hx l hl=>?_,fun x hx=>?_,fun x hx=>?_,fun p hp=>?_,tN ho,tN hi,xO ho⟩
 ·obtain ⟨k,hk,rfl⟩:=List.mem_iff_getElem.1 hx
  have:=bO ((eS h k hk).2.2.2.2 l hl)
  omega
 ·have:=bO (List.all_eq_true.1 h4 x hx)
  omega
 ·obtain ⟨k,hk,rfl⟩:=List.mem_iff_getElem.1 hx
  have:=iG h k hk
  omega
 ·have:=List.all_eq_true.1 h3 p hp
  unfold fV du at this
  split at this
  ·simp only [decide_eq_true_eq] at this;omega
  ·simp only [Bool.and_eq_true,decide_eq_true_eq] at this;omega
theorem uq (xs ys:List Int) (l:Int) (h0:0≤l):atI (xs++ys) l=if l<(xs.length:Int) then atI xs l else atI ys (l - xs.length):=by
 unfold atI
 rw [List.getD_eq_getElem?_getD,List.getD_eq_getElem?_getD,List.getD_eq_getElem?_getD,List.getElem?_append]
 by_cases h:l<(xs.length:Int)
 ·rw [if_pos h,if_pos (by omega)]
 ·rw [if_neg h,if_neg (by omega),show l.toNat - xs.length=(l - xs.length).toNat by omega]
theorem ni {α:Type} (f:α→Int) (l:List α) (i:Nat) (h:i<l.length):atI (l.map f) (i:Int)=f l[i]:=by
 rw [b8 _ i (by simpa using h),List.getElem_map]
theorem pd (m:Int) (n:Nat) (l:Int) (h0:0≤l) (h1:l<n):atI (fg m n) l=m+l:=by
 obtain ⟨i,rfl⟩:=Int.eq_ofNat_of_zero_le h0
 unfold fg
 rw [ni _ _ i (by simp;omega),List.getElem_range]
theorem tG (m:Int) (n:Nat) (l:Int) (h0:0≤l) (h1:l<n):atI (di m n) l = -1 - m - l:=by
 obtain ⟨i,rfl⟩:=Int.eq_ofNat_of_zero_le h0
 unfold di
 rw [ni _ _ i (by simp;omega),List.getElem_range]
theorem D6 {r p:Int} (h0:0≤r) (h : -r≤p):upF 0 (di 0 r.toNat) p=p:=by
 unfold upF
 split
 ·rw [tG _ _ _ (by omega) (by omega)];omega
 ·omega
theorem xe {r:Int} {l:List Int} (h0:0≤r) (h:∀p∈l,-r≤p):dJ 0 (di 0 r.toNat) l=l:=by
 unfold dJ
 conv=>rhs;rw [← List.map_id l]
 exact List.map_congr_left fun p hp=>D6 h0 (h p hp)
theorem DQ {b:Big} (o:sa b) (m E:Int) (ns:List ByteArray) (l:Int) (h:0≤l∧l<b.edges+b.outer.length) :
 atI (fg m b.edges.toNat++dG b.outer E ns) l=if l<b.edges then m+l else E+jU ns (b.outer.getD (l - b.edges).toNat ⟨#[]⟩):=by
 have he:=o.edges
 rw [uq _ _ _ h.1,eU]
 by_cases hl:l<b.edges
 ·rw [if_pos (by omega),if_pos hl,pd _ _ _ h.1 (by omega)]
 ·rw [if_neg (by omega),if_neg hl]
  have hj:(l - b.edges).toNat<b.outer.length:=by omega
  rw [show l - ((b.edges.toNat:Nat):Int)=((l - b.edges).toNat:Nat) by omega]
  unfold dG
  rw [ni _ _ _ hj,List.getD_eq_getElem?_getD,List.getElem?_eq_getElem hj];rfl
theorem vY {b:Big} (o:sa b) {l:Int} (h:¬l<b.edges) (h1:l<b.edges+b.outer.length):∃hj:(l - b.edges).toNat<b.outer.length,b.outer.getD (l - b.edges).toNat ⟨#[]⟩=b.outer[(l - b.edges).toNat]∧b.outer[(l - b.edges).toNat]≠⟨#[]⟩:=by
 have hj:(l - b.edges).toNat<b.outer.length:=by omega
 exact ⟨hj,by rw [List.getD_eq_getElem?_getD,List.getElem?_eq_getElem hj];rfl,o.full _ (List.getElem_mem hj)⟩
theorem zU {a:Big} (o:sa a) (E:Int) (ns:List ByteArray) (l:Int) (h:0≤l∧l<a.edges+a.outer.length) :
 n5 E ns (id (iQ a l))=atI (fg 0 a.edges.toNat++dG a.outer E ns) l:=by
 rw [DQ o 0 E ns l h]
 unfold iQ
 by_cases hl:l<a.edges
 ·rw [if_pos hl,if_pos hl];simp [n5]
 ·rw [if_neg hl,if_neg hl]
  obtain ⟨hj,e1,e2⟩:=vY o hl h.2
  rw [e1]
  simp [n5,e2]
theorem wE {ps ks:List Int} {by':Int} {l:List Nd} {pf lf:Int→Int} (hp:∀x∈l,pf x.parent=upF by' ps x.parent) (hl:∀x∈l,∀k∈x.links,lf k=atI ks k):(l.map fun x=>(⟨x.control,pf x.parent,x.links.map lf⟩:Nd))=cY by' ps ks l:=by
 unfold cY eP
 refine List.map_congr_left fun x hx=>?_
 rw [hp x hx,List.map_congr_left (hl x hx)]
theorem wH {ks:List Int} {l:List Wr} {lf:Int→Int} (h:∀x∈l,lf x.link=atI ks x.link):(l.map fun w=>(⟨w.name,lf w.link⟩:Wr))=dI ks l:=by
 unfold dI
 exact List.map_congr_left fun x hx=>by rw [h x hx]
theorem rk {l:List ByteArray} (h:l.Pairwise NLt) (j:Nat) (hj:j<l.length):jU l l[j]=j:=by
 refine u9 hj (by simp) (fun k hk=>?_)
 have:=List.pairwise_iff_getElem.1 h k j (by omega) hj hk
 by_cases e:(l[k].toList == l[j].toList)=true
 ·rw [beq_iff_eq] at e
  rw [gh e] at this
  exact absurd this (NLt.irr _)
 ·simpa using e
theorem wM {a b:Big} (oa:sa a) (ob:sa b) (roots:Int) (sites ps ks:List Int) (ns:List ByteArray) (L:ByteArray→Int × ByteArray) (Pl:Int→Int)
 (hp:∀p,-b.roots≤p→p<0→Pl p=atI ps (-1 - p)) (hk:∀l,(0≤l∧l<b.edges+b.outer.length)→n5 (a.edges+b.edges) ns (yY a L (iQ b l))=atI ks l) :
 ue a b roots sites ns L Pl=⟨roots,cY 0 (di 0 a.roots.toNat) (fg 0 a.edges.toNat++dG a.outer (a.edges+b.edges) ns) a.nodes++cY a.nodes.length ps ks b.nodes,sites++dJ a.nodes.length ps b.sites,a.edges+b.edges,ns,dI ks b.inner⟩:=by
 have hm:∀p,-b.roots≤p→AT a Pl p=upF a.nodes.length ps p:=fun p h1=>by
  unfold AT upF
  by_cases h:p<0
  ·rw [if_neg (by omega),if_pos h,hp p h1 h]
  ·rw [if_pos (by omega),if_neg h]
 unfold ue yB
 dsimp only
 rw [wE (by':=0) (ps:=di 0 a.roots.toNat) (ks:=fg 0 a.edges.toNat++dG a.outer (a.edges+b.edges) ns) (pf:=fun p=>p) (lf:=fun l=>n5 (a.edges+b.edges) ns (id (iQ a l))) (fun x hx=>(D6 oa.roots.1 (oa.pars x hx).1).symm) (fun x hx k hk=>zU oa _ _ k (oa.links x hx k hk)),
  wH (ks:=ks) (lf:=fun l=>n5 (a.edges+b.edges) ns (yY a L (iQ b l))) (fun x hx=>hk _ (ob.wires x hx)),
  List.map_map,show b.nodes.map (Ej a Pl ∘ fun x=>(⟨x.control,x.parent,x.links.map fun l=>n5 (a.edges+b.edges) ns (yY a L (iQ b l))⟩:Nd))=b.nodes.map fun x=>(⟨x.control,AT a Pl x.parent,x.links.map fun l=>n5 (a.edges+b.edges) ns (yY a L (iQ b l))⟩:Nd) from rfl,
  wE (by':=(a.nodes.length:Int)) (ps:=ps) (ks:=ks) (fun x hx=>hm _ (ob.pars x hx).1) (fun x hx k hk'=>hk k (ob.links x hx k hk'))]
 congr 1
 exact congrArg (sites ++ ·) (List.map_congr_left fun p hp'=>hm p (ob.sites p hp').1)
theorem qj {a b:Big} (h:BV a b=true):(a.sites.length:Int)=b.roots∧a.inner.map Wr.name=b.outer:=by
 unfold BV at h
 simp only [Bool.and_eq_true,decide_eq_true_eq] at h
 exact ⟨h.1,D4 h.2⟩
theorem AC {a b:Big} (oa:sa a) (ob:sa b) (h:BV a b=true):A6 a b=tU a b:=by
 obtain ⟨hs,hn⟩:=qj h
 unfold A6 tU B1
 rw [lS oa.names,wM oa ob a.roots [] a.sites (fg a.edges b.edges.toNat++a.inner.map fun x=>atI (Bj a b) x.link) a.outer _ _ (fun p _ _=>rfl),xe oa.roots.1 (fun p hp=>(oa.sites p hp).1)]
 ·rfl
 intro l hl
 have he:=ob.edges
 rw [uq _ _ _ hl.1,eU]
 by_cases hlt:l<b.edges
 ·rw [show iQ b l=(l,⟨#[]⟩) from if_pos hlt,if_pos (by omega),pd _ _ _ hl.1 (by omega)]
  simp [yY,n5];omega
 ·rw [show iQ b l=(0,b.outer.getD (l - b.edges).toNat ⟨#[]⟩) from if_neg hlt,if_neg (by omega)]
  obtain ⟨hj,e1,e2⟩:=vY ob hlt hl.2
  have hj':(l - b.edges).toNat<a.inner.length:=by have:=congrArg List.length hn;simp at this;omega
  rw [e1]
  have hi:jU (a.inner.map Wr.name) b.outer[(l - b.edges).toNat]=(l - b.edges).toNat:=by
   rw [show b.outer[(l - b.edges).toNat]=(a.inner.map Wr.name)[(l - b.edges).toNat]'(by simpa using hj') from by simp only [hn]]
   exact rk oa.inames _ _
  rw [show l - ((b.edges.toNat:Nat):Int)=((l - b.edges).toNat:Nat) by omega,ni _ _ _ hj']
  unfold yY
  rw [if_neg e2]
  dsimp only
  rw [hi,Int.toNat_natCast,List.getD_eq_getElem?_getD,List.getElem?_eq_getElem hj',Option.getD_some]
  exact zU oa _ _ _ (oa.wires _ (List.getElem_mem hj'))
theorem Gw {a b:Big} (oa:sa a) (ob:sa b) (h:BV a b=true):(A6 a b).inner.length≤1000∧FnD Tryz.prog 225 [a.D,b.D] (.d (A6 a b).D):=by
 obtain ⟨hs,hn⟩:=qj h
 have ha:=oa.inner
 have hb:=ob.inner
 have ea:=oa.edges
 have eb:=ob.edges
 refine ⟨by rw [AC oa ob h,qQ];omega,yN a b oa.dims ob.dims (by omega) (by omega) ⟨ea.1,by omega⟩ ⟨eb.1,by omega⟩ oa.links oa.wires ob.links ob.wires (fun x hx=>?_) (fun p hp=>?_) (fun s hs=>?_)⟩
 ·have:=ob.pars x hx
  omega
 ·have:=ob.sites p hp
  omega
 ·rw [← hn] at hs
  obtain ⟨j,hj,rfl⟩:=List.mem_iff_getElem.1 hs
  exact ⟨j,rk oa.inames _ _,by simpa using hj⟩
def wY (l:List Wr):List Wr:=l.foldl (gx wLt) []
theorem yj {α:Type} (lt:α→α→Bool) (x:α):∀l:List α,(∀y∈l,lt y x=true)→gx lt l x=l++[x]:=by
 intro l
 induction l with
 | nil=>intro _;rfl
 | cons y l ih=>intro h;unfold gx;rw [if_pos (h y (by simp)),ih (fun z hz=>h z (by simp [hz]))];rfl
theorem Do {α:Type} {lt:α→α→Bool}:∀x a:List α,(a++x).Pairwise (fun u v=>lt u v=true)→x.foldl (gx lt) a=a++x:=by
 intro x
 induction x with
 | nil=>intro a _;simp
 | cons u x ih=>
  intro a h
  rw [List.foldl_cons,yj _ _ _ (fun y hy=>(List.pairwise_append.1 h).2.2 y hy u (by simp)),ih _ (by rw [List.append_assoc];exact h),List.append_assoc];rfl
theorem ws {x y:List Wr} (h:(x.map Wr.name).Pairwise NLt):wY (x++y)=bQ x y:=by
 unfold wY bQ
 rw [List.foldl_append,Do (lt:=wLt) x [] (List.pairwise_map.1 h)];rfl
theorem xn (l:List Wr):(wY l).length=l.length:=by
 have:∀(l a:List Wr),(l.foldl (gx wLt) a).length=a.length+l.length:=by
  intro l
  induction l with
  | nil=>simp
  | cons x l ih=>intro a;rw [List.foldl_cons,ih,n7,List.length_cons];omega
 have h:=this l []
 simpa [wY] using h
theorem zZ (l:List Wr):∀a:List Wr,a.Pairwise (fun u v=>wLt u v=true)→((a++l).map Wr.name).Nodup→(l.foldl (gx wLt) a).Pairwise (fun u v=>wLt u v=true)∧∀z,z∈l.foldl (gx wLt) a↔z∈a++l:=by
 induction l with
 | nil=>intro a h _;exact ⟨h,fun z=>by simp⟩
 | cons x l ih=>
  intro a h hn
  have hx:∀y∈a,wLt y x=true∨wLt x y=true:=fun y hy=>NLt.total fun e=>by
   rw [List.map_append,List.nodup_append] at hn
   exact hn.2.2 _ (List.mem_map_of_mem hy) _ (List.mem_map_of_mem (show x∈x :: l by simp)) e
  have hm:=ph wLt x
  obtain ⟨h1,h2⟩:=ih (gx wLt a x) (td (lt:=wLt) (fun u v w=>NLt.trans u.name v.name w.name) x a h hx) (by
   have hp:(gx wLt a x).Perm (x :: a):=by
    clear hn ih hx h
    induction a with
    | nil=>exact List.Perm.refl _
    | cons y a ih2=>unfold gx;split
                    ·exact (ih2.cons y).trans (List.Perm.swap x y a)
                    ·exact List.Perm.refl _
   have hq:(gx wLt a x++l).Perm (a++x :: l):=(hp.append_right l).trans (List.perm_middle.symm)
   exact (hq.map Wr.name).nodup_iff.2 hn)
  refine ⟨h1,fun z=>?_⟩
  rw [List.foldl_cons,h2,List.mem_append,hm,List.mem_append,List.mem_cons]
  constructor
  ·rintro ((h|h)|h) <;> simp [h]
  ·rintro (h|h|h) <;> simp [h]
theorem z7 {l d:List Wr} (hn:(l.map Wr.name).Nodup) (hp:d.Perm l) (hs:d.Pairwise fun x y=>wLt y x=false):d=wY l:=by
 obtain ⟨h1,h2⟩:=zZ l [] List.Pairwise.nil (by simpa using hn)
 have hd:(d.map Wr.name).Nodup:=(hp.map Wr.name).nodup_iff.2 hn
 have h3:d.Pairwise fun x y=>wLt x y=true:=by
  have h4:d.Pairwise fun x y=>x.name≠y.name:=List.pairwise_map.1 (List.nodup_iff_pairwise_ne.1 hd)
  refine (hs.and h4).imp fun {x y} h=>(NLt.total h.2).resolve_right fun e=>?_
  unfold NLt at e
  have:=h.1
  unfold wLt at this
  rw [e] at this;cases this
 refine Bv (lt:=fun x y=>wLt x y=true) (fun x=>NLt.irr _) (fun x y z=>NLt.trans _ _ _) d (wY l) h3 h1 (fun z=>?_)
 rw [hp.mem_iff]
 have:=h2 z
 simpa [wY] using this.symm
def sc (a b:Big):Big:=ue a b (a.roots+b.roots) a.sites (jQ a b) (fun s=>(0,s)) (fun p=>p - a.roots)
def y9 (a b:Big):List Wr:=(yB a (a.edges+b.edges) (jQ a b) fun l=>n5 (a.edges+b.edges) (jQ a b) (id (iQ a l))).inner++(sc a b).inner
def H6 (a b:Big):Big:=⟨(sc a b).roots,(sc a b).nodes,(sc a b).sites,(sc a b).edges,(sc a b).outer,wY (y9 a b)⟩
theorem qp (a b:Big):(y9 a b).map Wr.name=a.inner.map Wr.name++b.inner.map Wr.name:=by
 unfold y9 sc ue yB
 simp only [List.map_append,List.map_map]
 rfl
theorem zV {a b:Big} (oa:sa a) (ob:sa b):sc a b=⟨a.roots+b.roots,cY 0 (di 0 a.roots.toNat) (ig a b a 0) a.nodes++cY a.nodes.length (di a.roots b.roots.toNat) (ig a b b a.edges) b.nodes,a.sites++dJ a.nodes.length (di a.roots b.roots.toNat) b.sites,a.edges+b.edges,jQ a b,dI (ig a b b a.edges) b.inner⟩:=by
 unfold sc ig
 refine wM oa ob _ _ (di a.roots b.roots.toNat) _ _ _ _ (fun p h1 h2=>?_) (fun l hl=>?_)
 ·rw [tG _ _ _ (by omega) (by have:=ob.roots;omega)];omega
 ·rw [DQ ob _ _ _ l hl]
  unfold iQ
  by_cases h:l<b.edges
  ·rw [if_pos h,if_pos h];simp [yY,n5];omega
  ·rw [if_neg h,if_neg h]
   obtain ⟨hj,e1,e2⟩:=vY ob h hl.2
   rw [e1]
   simp [yY,n5,e2]
theorem Ex {a b:Big} (oa:sa a) (ob:sa b):H6 a b=iE a b:=by
 unfold H6 iE
 rw [xe oa.roots.1 (fun p hp=>(oa.sites p hp).1)]
 have hw:y9 a b=dI (ig a b a 0) a.inner++dI (ig a b b a.edges) b.inner:=by
  unfold y9
  rw [zV oa ob]
  unfold yB
  dsimp only
  rw [wH (ks:=ig a b a 0) (lf:=fun l=>n5 (a.edges+b.edges) (jQ a b) (id (iQ a l))) (fun x hx=>zU oa _ _ _ (oa.wires x hx))]
 rw [hw,zV oa ob,ws (by unfold dI;rw [List.map_map];exact oa.inames)]
theorem qT (l:List ByteArray) (s:ByteArray):rf l s=l.any fun x=>x.toList == s.toList:=rD l s
theorem sG (a c:List ByteArray):a.any (rf c) = !iP a c:=by
 unfold iP
 rw [Bool.eq_iff_iff,Bool.not_eq_true',List.any_eq_true,List.all_eq_false]
 constructor
 ·rintro ⟨s,h1,h2⟩;exact ⟨s,h1,by rw [← qT,h2];simp⟩
 ·rintro ⟨s,h1,h2⟩;exact ⟨s,h1,by rw [qT];simpa using h2⟩
theorem uF {a c:List ByteArray} (h:iP a c=true) (ha:a.Pairwise NLt) (hc:c.Pairwise NLt):(a++c).Nodup:=by
 refine List.nodup_append.2 ⟨jg NLt NLt.irr ha,jg NLt NLt.irr hc,fun x hx y hy e=>?_⟩
 subst e
 have:=List.all_eq_true.1 h x hx
 rw [Bool.not_eq_true',List.any_eq_false] at this
 exact this x hy (by simp)
end Go.Proofs.YtclpbhoekmecjaaGreatDoor
