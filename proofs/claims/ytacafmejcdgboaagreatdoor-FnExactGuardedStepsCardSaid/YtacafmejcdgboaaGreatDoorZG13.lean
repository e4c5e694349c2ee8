/-
  Proved facts that the law leans on.
-/
import Derived.Test.YtacafmejcdgboaaGreatDoorZG11
import Derived.Test.YtacafmejcdgboaaGreatDoorZG12
namespace Go.Proofs.YtacafmejcdgboaaGreatDoor
open Go.RowKit
set_option linter.unusedVariables false
set_option linter.unusedSimpArgs false
theorem aC.congr {W0:bN} {N:Nat} {σ σ':Env} {a:Act} {w:World} {c:Cx} (h:aC W0 N σ a w c) (e:∀κ,aj σ' κ=aj σ κ):aC W0 N σ' a w c:=
 ⟨h.ext,h.old,h.lt,h.size,h.defers,fun i hi=>by rw [e];exact h.all i hi,fun i t hi=>h.tok i t (by rw [← e];exact hi),fun i j t u hi hj=>h.off i j t u (by rw [← e];exact hi) (by rw [← e];exact hj),fun t s ht=>h.tmp t s (by rw [← e];exact ht)⟩
theorem BL {c:Cx} {w:World} {z e:Nat} {v:Value} {S:BS} (h:(Tk.row z e []).ok c w v S):(Tk.grw z e []).ok c w v S:=by
 rcases h with h|⟨cells,h1,h2,_⟩
 ·exact .inl h
 ·exact .inr ⟨cells,fun _ _=>False,h1,fun g hg=>⟨h2 g hg,fun _ h=>h⟩,fun j b h=>h.elim,fun i j _ b h=>h.elim,fun j hj=>absurd hj (Nat.not_lt_zero _)⟩
theorem HO {σ:Env} {κ n e:Nat} {ds ds':List D} (h:aj σ κ=some (.tk (.grw n e ds))) (he:ds=ds'):aj σ κ=some (.tk (.grw n e ds')):=he ▸ h
def DN:Nat→Code→Code
 | 0,c=>c
 | n+1,.seq _ y=>DN n y
 | _,c=>c
theorem Fm {c:Cx} {w:World} {z e:Nat} {ds:List D} {v:Value} {S:BS} (h:(Tk.grw z e ds).ok c w v S):Ow w (.l z ds) S [v]:=by
 rcases h with ⟨rfl,a,rfl⟩|⟨cells,T,own,h3,h4,h5,h6⟩
 ·exact ⟨a,0,rfl,Nat.le_refl _,by decide,fun _=>rfl,.inl rfl⟩
 by_cases hd:ds = []
 ·subst hd
  rcases own.2 with ⟨hv,_⟩|⟨g,cap,cur,hv,_,hg,q5,q6,_⟩
  ·exact ⟨none,0,by rw [hv];rfl,Nat.le_refl _,by decide,fun _=>rfl,.inl rfl⟩
  ·exact ⟨some ⟨g,0,none⟩,cap,by rw [hv],q5,q6,fun h=>(by cases h),.inl rfl⟩
 rcases own.2 with ⟨hv,hn0⟩|⟨g,cap,cur,hv,_,hg,q5,q6,_⟩
 ·exact absurd (List.eq_nil_of_length_eq_zero hn0) hd
 have hgo:v.ownBlock=some g:=by rw [hv];rfl
 obtain ⟨l1,l2⟩:=xh own hgo
 obtain ⟨s1,s2⟩:=h3 g hgo
 refine ⟨some ⟨g,0,none⟩,cap,by rw [hv],q5,q6,fun h=>(by cases h),.inr ⟨g,0,fun b=>∃j,T j b,rfl,s1,l1,fun q=>l2 q,fun b ⟨j,hb⟩=>⟨(h4 j b hb).1,fun e=>s2 j (e ▸ hb)⟩,?_⟩⟩
 have:∀(es:List D) (o:Nat) (T:Nat→BS),(∀i j,i≠j→∀b,T i b→¬T j b)→(∀j (hj:j<es.length),∃cs,cs.length=z∧Ow w es[j] (T j) cs∧bD w g (o+j * z) cs)→OwR w es (fun b=>∃j,T j b) z g o:=by
  intro es
  induction es with
  | nil=>intro o T _ _;trivial
  | cons d es ih=>
   intro o T hoff hel
   obtain ⟨cs,p1,p2,p3⟩:=hel 0 (by simp)
   rw [Nat.zero_mul,Nat.add_zero] at p3
   refine ⟨T 0,fun b=>∃j,T (j+1) b,fun b h=>⟨0,h⟩,fun b ⟨j,h⟩=>⟨j+1,h⟩,fun b h ⟨j,h'⟩=>hoff 0 (j+1) (by omega) b h h',⟨cs,p1,p2,p3⟩,ih (o+z) (fun j=>T (j+1)) (fun i j hij=>hoff (i+1) (j+1) (by omega)) (fun j hj=>?_)⟩
   obtain ⟨cs,r1,r2,r3⟩:=hel (j+1) (by simpa using hj)
   refine ⟨cs,r1,by simpa using r2,?_⟩
   rw [show o+z+j * z=o+(j+1) * z by rw [Nat.succ_mul];omega]
   exact r3
 refine this ds 0 T h5 (fun j hj=>?_)
 obtain ⟨cs,p1,p2,p3⟩:=h6 j hj
 refine ⟨cs,p1,p2,fun t u ht=>?_⟩
 have h9:=p3 t u ht
 rw [hv] at own
 rw [Nat.zero_add,World.ownsRow.cellAt own (j * z+t)]
 ·exact h9
 ·rcases Nat.lt_or_ge (j * z+t) cells.length with h|h
  ·rw [← own.1];exact h
  ·rw [List.getElem?_eq_none h] at h9;cases h9
theorem IM {P:Program} {W0:bN} {N:Nat} {σ:Env} {z e:Nat} {ds:List D} {C:Code} {Q:Exit→Act→World→Prop} (i:Nat) (h:ar P W0 N C ((i,.tk (.own (.l z ds) none none)) :: σ) Q) (hi:aj σ i=some (.tk (.grw z e ds)):=by rfl):ar P W0 N C σ Q:=by
 intro a w ⟨c,hc⟩
 obtain ⟨hA,hT,hlt⟩:=hc.tok i _ hi
 exact h a w ⟨c,hc.upd2 hi Chg.rfl' (fun _=>⟨Fm hT,fun p hp=>(by cases hp),fun p hp=>(by cases hp)⟩)⟩
theorem IS {W0:bN} {N:Nat} {σ:Env} {a:Act} {w:World} {c:Cx} (hc:aC W0 N σ a w c) {ss:List Sy} {es:List D} {us':List Value} (r:D) (ho:k9 σ ss=some es) (e4:Sy.oks c w ss us') (hr:Gu r=es) (hd:Af ss=true) :
 Ow w r (fun b=>∃κ,κ∈dE ss∧c.T κ b) us'∧∀κ∈dE ss,∃t,aj σ κ=some (.tk t):=by
 obtain ⟨p1,p2,p3⟩:=vq hc ss es us' ho e4
 have hkey:∀(m κ:Nat),ss[m]? = some (.k κ)→κ∈dE ss∧∃t,aj σ κ=some (.tk t):=fun m κ hm=>by
  have:∀(ss:List Sy) (es:List D) (m:Nat),k9 σ ss=some es→ss[m]? = some (.k κ)→κ∈dE ss∧∃t,aj σ κ=some (.tk t):=by
   intro ss
   induction ss with
   | nil=>intro es m _ hm;simp at hm
   | cons s ss ih=>
    intro es m ho hm
    have tl:∃es',k9 σ ss=some es':=by
     cases s with
     | k j=>unfold k9 at ho;split at ho;exact ⟨_,by assumption⟩;cases ho
     | d r=>unfold k9 at ho;split at ho;exact ⟨_,by assumption⟩;cases ho
     | _=>cases ho
    obtain ⟨es',hes'⟩:=tl
    cases m with
    | zero=>
     simp at hm
     subst hm
     refine ⟨by simp [dE,kSy],?_⟩
     unfold k9 at ho
     split at ho
     ·exact ⟨_,by assumption⟩
     ·cases ho
    | succ m=>
     obtain ⟨q1,q2⟩:=ih es' m hes' (by simpa using hm)
     exact ⟨by simp [dE,q1],q2⟩
  exact this ss es m ho hm
 have htk:∀(m b:Nat),tkT c ss[m]? b→∃κ,ss[m]? = some (.k κ)∧c.T κ b:=fun m b hb=>by
  cases hm:ss[m]? with
  | none=>rw [hm] at hb;exact hb.elim
  | some s=>
   rw [hm] at hb
   cases s with
   | k κ=>exact ⟨κ,rfl,hb⟩
   | _=>exact hb.elim
 have hcells:=tA es us' (fun m=>tkT c ss[m]?) p1 p3 (fun m m' hmm b hb hb'=>by
  obtain ⟨κ,q1,q2⟩:=htk m b hb
  obtain ⟨κ',q3,q4⟩:=htk m' b hb'
  have hne:κ≠κ':=by
   rcases Nat.lt_or_ge m m' with hlt|hge
   ·exact jX ss m m' κ κ' hd hlt q1 q3
   ·exact fun e=>jX ss m' m κ' κ hd (by omega) q3 q1 e.symm
  obtain ⟨t,ht⟩:=(hkey m κ q1).2
  obtain ⟨t',ht'⟩:=(hkey m' κ' q3).2
  exact hc.off κ κ' t t' ht ht' hne b q2 q4)
 have h1:Ow w r (fun b=>∃m:Nat,tkT c ss[m]? b) us':=AA r _ us' (by rw [hr];exact hcells)
 have hsub:∀b,(∃m:Nat,tkT c ss[m]? b)→∃κ,κ∈dE ss∧c.T κ b:=fun b ⟨m,hb⟩=>by
  obtain ⟨κ,q1,q2⟩:=htk m b hb
  exact ⟨κ,(hkey m κ q1).1,q2⟩
 refine ⟨Ow.keep (Nat.le_refl _) r _ _ us' hsub (fun _ _ _=>rfl) h1,fun κ hκ=>?_⟩
 ·have:∀(ss:List Sy),κ∈dE ss→∃m:Nat,ss[m]? = some (Sy.k κ):=by
   intro ss
   induction ss with
   | nil=>intro h;simp [dE] at h
   | cons s ss ih=>
    intro h
    rw [dE,List.mem_append] at h
    rcases h with h|h
    ·cases s with
     | k j=>simp [kSy] at h;subst h;exact ⟨0,rfl⟩
     | _=>simp [kSy] at h
    ·obtain ⟨m,hm⟩:=ih h;exact ⟨m+1,by simpa using hm⟩
  obtain ⟨m,hm⟩:=this ss hκ
  exact (hkey m κ hm).2
def wx:Sy→List Sy
 | .ag ss=>ss
 | .d (.t ds)=>kM ds
 | s=>[s]
def GD (σ:Env):Sy→Bool
 | .ag ss=>ss.all (pp σ)
 | .d (.t _)=>true
 | s=>pp σ s
def HQ (pls:List (Nat × Nat)):List Sy→List (Nat × Sy)→List Sy
 | cur,[]=>cur
 | cur,(i,s) :: ps=>match pls[i]? with
  | some (off,_)=>HQ pls (cur.take off++(wx s++cur.drop (off+(wx s).length))) ps
  | none=>cur
def okG (pls:List (Nat × Nat)):Nat→List (Nat × Sy)→Bool
 | _,[]=>true
 | n,(i,s) :: ps=>match pls[i]? with
  | some (off,k)=>Nat.beq k (wx s).length && (Nat.ble (off+k) n && okG pls n ps)
  | none=>false
theorem B0 (o:Nat):∀(us' old pre post:List Value) (k:Nat),old.length=us'.length→pre.length=o+k→((us'.zipIdx k).foldl (fun (c:Array Value) (p:Value × Nat)=>c.setIfInBounds (o+p.2) p.1) (pre++(old++post)).toArray)=(pre++(us'++post)).toArray:=by
 intro us'
 induction us' with
 | nil=>intro old pre post k h1 _;rw [List.eq_nil_of_length_eq_zero h1];rfl
 | cons u us' ih=>
  intro old pre post k h1 h2
  cases old with
  | nil=>simp at h1
  | cons x old=>
   have h3:=ih old (pre++[u]) post (k+1) (by simpa using h1) (by simp;omega)
   rw [List.zipIdx_cons,List.foldl_cons]
   have h4:(pre++(x :: old++post)).toArray.setIfInBounds (o+k) u=((pre++[u])++(old++post)).toArray:=by
    apply Array.ext'
    simp [List.set_append,h2]
   dsimp only
   rw [h4,h3]
   simp
theorem Bn {W0:bN} {N:Nat} {a:Act} {w:World} {c:Cx} {σ:Env} (h:aC W0 N σ a w c) {s:Sy} {v:Value} (hv:s.ok c w v) (hs:GD σ s=true):∃us':List Value,v.cells=us'.toArray∧Sy.oks c w (wx s) us':=by
 have one:pp σ s=true→wx s = [s]→∃us':List Value,v.cells=us'.toArray∧Sy.oks c w (wx s) us':=fun h1 h2=>⟨[v],lF (mZ h hv h1),by rw [h2];exact ⟨v,[],rfl,hv,rfl⟩⟩
 cases s with
 | ag ss=>obtain ⟨vs,rfl,h2⟩:=hv;exact ⟨vs,rfl,h2⟩
 | d r=>
  cases r with
  | t ds=>obtain ⟨cs,rfl,h2⟩:=hv;exact ⟨cs,rfl,ky ds cs h2⟩
  | _=>exact one hs rfl
 | _=>exact one hs rfl
theorem I0 {W0:bN} {N:Nat} {a:Act} {w:World} {c:Cx} {σ:Env} (h:aC W0 N σ a w c) {pls:List (Nat × Nat)} {n:Nat}:∀(ps:List (Nat × Sy)) (qs:List (Nat × Value)) (cur:List Sy) (cs:List Value),cur.length=n→okG pls n ps=true→(ps.all fun p=>GD σ p.2)=true→Sy.oks c w cur cs→ps.length=qs.length→(∀(j i:Nat) (s:Sy),ps[j]? = some (i,s)→∃v,qs[j]? = some (i,v)∧s.ok c w v) →
 ∃cs':List Value,Instr.fill (fun i=>pls[i]?) cs.toArray qs=some cs'.toArray∧Sy.oks c w (HQ pls cur ps) cs':=by
 intro ps
 induction ps with
 | nil=>intro qs cur cs _ _ _ ho hl _;rw [List.eq_nil_of_length_eq_zero (by simpa using hl.symm:qs.length=0)];exact ⟨cs,rfl,ho⟩
 | cons p ps ih=>
  obtain ⟨i,s⟩:=p
  intro qs cur cs hn hk hb ho hl hq
  cases qs with
  | nil=>simp at hl
  | cons q qs=>
   obtain ⟨v,e1,hv⟩:=hq 0 i s rfl
   simp at e1
   subst e1
   rw [List.all_cons,Bool.and_eq_true] at hb
   obtain ⟨us',hu1,hu2⟩:=Bn h hv hb.1
   unfold okG at hk
   unfold HQ
   cases hp:pls[i]? with
   | none=>rw [hp] at hk;cases hk
   | some ok=>
    obtain ⟨off,k⟩:=ok
    rw [hp] at hk
    dsimp only at hk ⊢
    simp only [Bool.and_eq_true] at hk
    obtain ⟨hk1,hk2,hk3⟩:=hk
    have hk1:=Nat.eq_of_beq_eq_true hk1
    have hk2:=Nat.le_of_ble_eq_true hk2
    have hul:=cY _ _ hu2
    have hcl:=cY _ _ ho
    have hnew:=lg _ _ _ _ (lC off _ _ ho) (lg _ _ _ _ hu2 (lV (off+(wx s).length) _ _ ho))
    obtain ⟨cs',r1,r2⟩:=ih qs (cur.take off++(wx s++cur.drop (off+(wx s).length))) _ (by simp [List.length_take];omega) hk3 hb.2 hnew (by simpa using hl) (fun j i' s' hj=>hq (j+1) i' s' (by simpa using hj))
    refine ⟨cs',?_,r2⟩
    unfold Instr.fill
    rw [hp]
    dsimp only
    rw [hu1]
    have a1:¬(us'.toArray.size≠k∨off+us'.toArray.size > cs.toArray.size):=by simp;omega
    rw [if_neg (by simpa using a1)]
    rw [← r1]
    congr 1
    have h5:=B0 off us' ((cs.drop off).take us'.length) (cs.take off) (cs.drop (off+us'.length)) 0 (by simp;omega) (by simp;omega)
    have h6:cs.take off++((cs.drop off).take us'.length++cs.drop (off+us'.length))=cs:=by
     rw [show cs.drop (off+us'.length)=(cs.drop off).drop us'.length by rw [List.drop_drop],List.take_append_drop,List.take_append_drop]
    rw [h6,hul] at h5
    rw [← h5,← Array.foldl_toList,Array.toList_zipIdx]
section
variable {P:Program} {ops:Array Oper} {W0:bN} {N:Nat} {Fin:Us→Env→Prop} {os:List Oper} {us:Us} {pk fk:List Nat} {σ:Env} {g:Option (Nat × Bool)} {gk:List Nat} {d ty ty' f:Nat} {pos:String} {after:Array Edge} {at':Array TypeId}
theorem sGh {o:Oper} (K:List Nat) (up:Env) (hf:∀(σ':Env) (a:Act) (w:World),(∀κ∈K,aj σ' κ=aj σ κ)→Holds W0 N σ' a w→Holds W0 N (up++σ') a w) (h:Der P ops W0 N Fin (o :: os) us (K++pk) (up.map Prod.fst++fk) (up++σ)):Der P ops W0 N Fin (o :: os) us pk fk σ:=by
 obtain ⟨keys,upd,h1,h2⟩:=h
 refine ⟨keys++K,upd++up,fun σ' a w hk hh=>?_,by rw [List.append_assoc,List.append_assoc,List.map_append,List.append_assoc];exact h2⟩
 have h3:=h1 (up++σ') a w (fun κ hκ=>by
  by_cases hm:κ∈up.map Prod.fst
  ·rw [vg hm,vg hm]
  ·rw [i4 hm,i4 hm];exact hk κ (by simp [hκ])) (hf σ' a w (fun κ hκ=>hk κ (by simp [hκ])) hh)
 rw [List.append_assoc]
 exact h3
theorem H9 (i:Nat) {z e:Nat} {ds:List D} {o:Oper} (hn:∀d∈ds,wT d=true∧ED d=true) (h:Der P ops W0 N Fin (o :: os) us ([i]++pk) ([i]++fk) ((i,.tk (.own (.l z ds) none none)) :: σ)) (hi:aj σ i=some (.tk (.row z e ds)):=by rfl):Der P ops W0 N Fin (o :: os) us pk fk σ:=
 sGh [i] [(i,.tk (.own (.l z ds) none none))] (fun σ' a w hk ⟨c,hc⟩=>by
  have hi':=(hk i (by simp)).trans hi
  obtain ⟨hA,hT,hlt⟩:=hc.tok i _ hi'
  exact ⟨c,hc.upd2 hi' Chg.rfl' (fun _=>⟨zU hn hT,fun p hp=>(by cases hp),fun p hp=>(by cases hp)⟩)⟩) h
theorem IT (i:Nat) {z e:Nat} {C:Code} {Q:Exit→Act→World→Prop} (h:ar P W0 N C ((i,.tk (.grw z e [])) :: σ) Q) (hi:aj σ i=some (.tk (.row z e [])):=by rfl):ar P W0 N C σ Q:=by
 intro a w ⟨c,hc⟩
 obtain ⟨hA,hT,hlt⟩:=hc.tok i _ hi
 exact h a w ⟨c,hc.upd2 hi Chg.rfl' (fun _=>BL hT)⟩
theorem uE (i:Nat) {z e:Nat} {x:Exit} {Q:Exit→Act→World→Prop} (h:At W0 N ((i,.tk (.grw z e [])) :: σ) x Q) (hi:aj σ i=some (.tk (.row z e [])):=by rfl):At W0 N σ x Q:=by
 intro a w ⟨c,hc⟩
 obtain ⟨hA,hT,hlt⟩:=hc.tok i _ hi
 exact h a w ⟨c,hc.upd2 hi Chg.rfl' (fun _=>BL hT)⟩
theorem aw {xs:List (Nat × Operand)} {ps:List (Nat × Sy)} {ds0:List D} {v0:Value} {pls:List (Nat × Nat)} (h:Der P ops W0 N Fin os (us++[((d :: (gk++(dE (ps.flatMap fun p=>wx p.2)++kxp xs)))++pk,([d])++fk)]) [] [] ((d,.sy (.ag (HQ pls (kM ds0) ps))) :: σ)) (hx:evq σ xs=some ps:=by rfl) (hr:zd P 4 ty'=some (.t ds0):=by rfl) (hv:rt P ty'=some v0:=by rfl) (hz:zok (.t ds0) v0.cells.toList=true:=by rfl) (hp:plc P ty'=some pls:=by rfl) (hi:okG pls (kM ds0).length ps=true:=by rfl) (h1:(ps.all fun p=>GD σ p.2)=true:=by rfl) (hg:gst ops σ g=some (true,gk):=by rfl) (hN:Nat.blt d N=true:=by rfl) (hs:aE σ d=true:=by rfl):Der P ops W0 N Fin (⟨some d,.build ty' xs.toArray,ty,pos,after,g⟩ :: os) us pk fk σ:=
 bO (.ag (HQ pls (kM ds0) ps)) (dE (ps.flatMap fun p=>wx p.2)++kxp xs) (fun σ' c a w hk hc=>by
  obtain ⟨h3,h4⟩:=Er hc xs ps hx (fun κ hκ=>hk κ (by simp [hκ]))
  have hz0:Sy.oks c w (kM ds0) v0.cells.toList:=ky ds0 _ (oA (.t ds0) _ hz)
  have hone:(ps.all fun p=>GD σ' p.2)=true:=by
   rw [List.all_eq_true] at h1 ⊢
   intro p hm
   have:=h1 p hm
   have hks:∀κ∈dE (wx p.2),aj σ' κ=aj σ κ:=fun κ hκ=>hk κ (by
    rw [List.mem_append]
    left
    have:∀(l:List (Nat × Sy)),p∈l→κ∈dE (l.flatMap fun p=>wx p.2):=by
     intro l
     induction l with
     | nil=>intro h;cases h
     | cons x l ih=>
      intro h
      rw [List.flatMap_cons]
      have app:∀(a b:List Sy),dE (a++b)=dE a++dE b:=by
       intro a b
       induction a with
       | nil=>rfl
       | cons s a ih=>rw [List.cons_append,dE,ih,dE,List.append_assoc]
      rw [app,List.mem_append]
      rcases List.mem_cons.1 h with rfl|h
      ·exact .inl hκ
      ·exact .inr (ih h)
    exact this ps hm)
   obtain ⟨i,s⟩:=p
   have key:GD σ' s=GD σ s:=by
    cases s with
    | ag ss=>exact gU hks
    | d r=>
     cases r with
     | t ds=>rfl
     | _=>rfl
    | k j=>exact kF (fun κ hκ=>hks κ (by simpa [wx,dE] using hκ))
    | _=>rfl
   rw [key];exact this
  obtain ⟨cs',r1,r2⟩:=I0 hc ps _ (kM ds0) v0.cells.toList rfl hi hone hz0 h3 h4
  rw [Array.toArray_toList] at r1
  refine ⟨.agg cs'.toArray,?_,_,rfl,r2⟩
  refine dt (X:=Instr.build ty' (xs.toArray.map fun (i,x)=>(i,a.eval x))) (run_build w ty' _ _ (nN hv hp ?_))
  simpa using r1) h hg hN hs
theorem IR {x:Operand} {z e:Nat} {ss:List Sy} {es:List D} {v0:Value} (r:D) (h:Der P ops W0 N Fin os (us++[((d :: (gk++((10000+d) :: (dE ss++kx x))))++pk,(d :: (((10000+d,In.tk (.grw z e [r])) :: (dE ss).map fun κ=>(κ,In.no)).map Prod.fst))++fk)]) [] [] ((d,.sy (.k (10000+d))) :: (((10000+d,.tk (.grw z e [r])) :: (dE ss).map fun κ=>(κ,.no))++σ))) (hx:ev σ x=some (.ag ss):=by rfl) (ho:k9 σ ss=some es:=by rfl) (hr:Gu r=es:=by rfl) (hd:Af ss=true:=by rfl) (hf:aj σ (10000+d)=none:=by rfl) (h1:ss.all (pp σ)=true:=by rfl) (he:elem? P ty'=some e:=by rfl) (hz:sizeOf? P e=some z:=by rfl) (hv:rt P e=some v0:=by rfl) (hvs:v0.cells.size=z:=by rfl) (hzz:(Nat.blt 0 z && Nat.ble z 1000)=true:=by rfl) (hl:ss.length=z:=by rfl) (hg:gst ops σ g=some (true,gk):=by rfl) (hN:Nat.blt d N=true:=by rfl) (hs:aE (((10000+d,In.tk (.grw z e [r])) :: (dE ss).map fun κ=>(κ,In.no))++σ) d=true:=by rfl) (hu:(((10000+d,In.tk (.grw z e [r])) :: (dE ss).map fun κ=>(κ,In.no)).all fun p=>!(Nat.beq p.1 d))=true:=by rfl):Der P ops W0 N Fin (⟨some d,.buildSlice ty' 1 #[(0,x)],ty,pos,after,g⟩ :: os) us pk fk σ:=by
 refine js (.k (10000+d)) ((10000+d) :: (dE ss++kx x)) ((10000+d,.tk (.grw z e [r])) :: (dE ss).map fun κ=>(κ,.no)) (fun σ' c a w hk hc=>?_) h hg hN hs hu
 have hks:∀κ∈dE ss,aj σ' κ=aj σ κ:=fun κ hκ=>hk κ (by simp [hκ])
 have ho':=(mH ss hks).trans ho
 obtain ⟨us',e3,e4⟩:=am hc (ab hx (fun κ hκ=>hk κ (by simp [hκ])))
 obtain ⟨hO,htk⟩:=IS hc r ho' e4 hr hd
 have hul:us'.length=z:=(cY _ _ e4).trans hl
 rw [Bool.and_eq_true] at hzz
 have hz0:0<z:=Nat.blt_eq.mp hzz.1
 have hf':aj σ' (10000+d)=none:=(hk _ (by simp)).trans hf
 unfold Oper.wp
 rw [qX (cs:=us') (zs:=[]) he hz hv hvs ⟨hz0,Nat.le_of_ble_eq_true hzz.2⟩ (by rw [e3];rfl) hul]
 have hX:Ext w (w.alloc (.cells us'.toArray e)):=(Ext.refl w).alloc _
 have hc1:=hc.grow hX c.F (fun _ h=>h) (fun _ h=>.inl h) (fun b hb=>Nat.lt_of_lt_of_le (hc.lt b hb) (Below.size hX))
 have hsz:(w.alloc (.cells us'.toArray e)).heap.size=w.heap.size+1:=World.size_alloc ..
 have hc2:=hc1.new (i:=10000+d) (t:=.abs (fun _ _ _ _=>True) none) (v:=.slice (some ⟨w.heap.size,0,none⟩) 1 1) (S:=fun b=>b=w.heap.size) hf' ⟨fun _ _ _ _ _ _=>trivial,fun u hu=>by cases hu⟩ (fun b hb=>⟨fun hF=>by subst hb;exact absurd (hc.lt _ hF) (Nat.lt_irrefl _),by subst hb;omega,.inr (by subst hb;exact hc.ext.size)⟩) (fun j u hj b hb hT=>by subst hb;exact absurd ((hc.tok j u hj).2.2 _ hT).2.1 (Nat.lt_irrefl _))
 have hne:∀κ∈dE ss,κ≠10000+d:=fun κ hκ e=>by
  obtain ⟨t,ht⟩:=htk κ hκ
  rw [e,hf'] at ht;cases ht
 have hT2:∀κ,κ≠10000+d→(c.add (10000+d) (.slice (some ⟨w.heap.size,0,none⟩) 1 1) (fun b=>b=w.heap.size)).T κ=c.T κ:=fun κ hκ=>if_neg hκ
 have hTd:(Cx.add c (10000+d) (.slice (some ⟨w.heap.size,0,none⟩) 1 1) (fun b=>b=w.heap.size)).T (10000+d)=(fun b=>b=w.heap.size):=if_pos rfl
 have hρd:(Cx.add c (10000+d) (.slice (some ⟨w.heap.size,0,none⟩) 1 1) (fun b=>b=w.heap.size)).ρ (10000+d)=.slice (some ⟨w.heap.size,0,none⟩) 1 1:=if_pos rfl
 have hlt:∀κ∈dE ss,∀b,c.T κ b→b<w.heap.size:=fun κ hκ b hb=>by
  obtain ⟨t,ht⟩:=htk κ hκ
  exact ((hc.tok κ t ht).2.2 b hb).2.1
 have hO':Ow (w.alloc (.cells us'.toArray e)) r (fun b=>∃κ,κ∈dE ss∧c.T κ b) us':=Ow.keep (Below.size hX) r _ _ us' (fun _ h=>h) (fun b _ hl=>hX.block b hl) hO
 have hc3:=hc2.eatM (u:=.grw z e [r]) (dE ss) (by rw [aa,if_pos rfl]) (fun κ hκ=>⟨hne κ hκ,by
  obtain ⟨t,ht⟩:=htk κ hκ
  exact ⟨t,by rw [aa,if_neg (Ne.symm (hne κ hκ))];exact ht⟩⟩) Chg.rfl' (fun _=>by
  rw [hρd]
  refine .inr ⟨us',fun j b=>j=0∧∃κ,κ∈dE ss∧c.T κ b,?_,fun g hg=>?_,fun j b hb=>?_,fun i j hij b hb hb'=>hij (hb.1.trans hb'.1.symm),fun j hj=>?_⟩
  ·have:=World.ownsRow_lit (base:=0) (e:=e) (size:=z) w us'.toArray 1 (Nat.zero_le _) (by decide) (by simp [hul])
   exact this
  ·cases hg
   refine ⟨.inl (by rw [hTd]),fun j hj=>?_⟩
   obtain ⟨_,κ,q1,q2⟩:=hj
   exact Nat.lt_irrefl _ (hlt κ q1 _ q2)
  ·obtain ⟨_,κ,q1,q2⟩:=hb
   exact ⟨.inr ⟨κ,q1,by rw [hT2 κ (hne κ q1)];exact q2⟩,by have:=hlt κ q1 b q2;omega⟩
  ·have hj0:j=0:=by simpa using hj
   subst hj0
   exact ⟨us',hul,Ow.keep (Nat.le_refl _) r _ _ us' (fun b hb=>⟨rfl,hb⟩) (fun _ _ _=>rfl) hO',fun t u ht=>by rw [Nat.zero_mul,Nat.zero_add];exact ht⟩)
 refine ⟨_,_,rfl,hc3.congr (fun κ=>?_),.inr rfl,?_⟩
 ·rw [List.cons_append,aa,List.cons_append,aa]
  split
  ·rfl
  ·rename_i hκ
   rw [eK,eK,aa,if_neg hκ]
 ·exact hρd.symm
theorem aR {x y:Operand} {i j e n:Nat} {ds:List D} {y0:D} {ti:TypeInfo} {z:Value} (h:Der P ops W0 N Fin os (us++[((d :: (gk++(i :: j :: (10000+d) :: (kx x++kx y))))++pk,([d,10000+d,i,j])++fk)]) [] [] ((d,.sy (.k (10000+d))) :: (10000+d,.tk (.grw n e (ds++[y0]))) :: (i,.no) :: (j,.no) :: σ)) (hx:ev σ x=some (.k i):=by rfl) (hi:aj σ i=some (.tk (.grw n e ds)):=by rfl) (hy:ev σ y=some (.k j):=by rfl) (hj:aj σ j=some (.tk (.grw n e [y0])):=by rfl) (hf:aj σ (10000+d)=none:=by rfl) (he:elem? P ty'=some e:=by rfl) (hti:P.info? e=some ti:=by rfl) (htz:ti.zero=some z:=by rfl) (hsz:ti.size=n:=by rfl) (hzs:z.cells.size=n:=by rfl) (hn:(Nat.blt 0 n && Nat.ble ti.bytes 1000)=true:=by rfl) (hb:ds.length≤1000000:=by first|omega|(simp only [List.length_map,List.length_take];omega)) (hg:gst ops σ g=some (true,gk):=by rfl) (hN:Nat.blt d N=true:=by rfl) (hs:aE ((10000+d,.tk (.grw n e (ds++[y0]))) :: (i,.no) :: (j,.no) :: σ) d=true:=by rfl) (hu:(Nat.beq (10000+d) d || Nat.beq i d || Nat.beq j d || Nat.beq i (10000+d) || Nat.beq j (10000+d) || Nat.beq i j)=false:=by rfl):Der P ops W0 N Fin (⟨some d,.call { callee:=.builtin .append,args:=#[x,y],argTypes:=#[ty',ty'] },ty,pos,after,g⟩ :: os) us pk fk σ:=by
 simp only [Bool.or_eq_false_iff] at hu
 obtain ⟨⟨⟨⟨⟨hu1,hu2⟩,hu3⟩,hu4⟩,hu5⟩,hu6⟩:=hu
 refine js (.k (10000+d)) (i :: j :: (10000+d) :: (kx x++kx y)) [(10000+d,.tk (.grw n e (ds++[y0]))),(i,.no),(j,.no)] (fun σ' c a w hk hc=>?_) h hg hN hs (by simp [hu1,hu2,hu3])
 rw [Bool.and_eq_true] at hn
 have hn0:0<n:=Nat.blt_eq.mp hn.1
 have hij:¬i=j:=fun e=>by rw [e] at hu6;simp at hu6
 have hi':=(hk i (by simp)).trans hi
 have hj':=(hk j (by simp)).trans hj
 obtain ⟨hAi,hxv⟩:=am hc (ab hx (fun κ hκ=>hk κ (by simp [hκ])))
 obtain ⟨hAj,hyv⟩:=am hc (ab hy (fun κ hκ=>hk κ (by simp [hκ])))
 obtain ⟨_,hTi,hlt⟩:=hc.tok i _ hi'
 obtain ⟨_,hTj,hltj⟩:=hc.tok j _ hj'
 rcases hTj with ⟨hd,_⟩|⟨news,Tj,jown,jS,jT,jdis,jel⟩
 ·cases hd
 obtain ⟨cs0,q1,q2,q3⟩:=jel 0 (by simp)
 have hnl:news.length=1 * n:=jown.1
 have hncs:news=cs0:=by
  apply List.ext_getElem?
  intro t
  rcases Nat.lt_or_ge t cs0.length with ht|ht
  ·rw [List.getElem?_eq_getElem ht]
   have:=q3 t _ (List.getElem?_eq_getElem ht)
   rw [Nat.zero_mul,Nat.zero_add] at this;exact this
  ·rw [List.getElem?_eq_none ht,List.getElem?_eq_none (by omega)]
 have hnone:∀u∈news,u.oneCell'=true:=by rw [hncs];exact Rp.one _ _ (Ow.rp _ _ _ q2)
 obtain ⟨g',k',hvj⟩:∃g' k',c.ρ j=.slice (some ⟨g',0,none⟩) 1 k':=by
  rcases jown.2 with ⟨_,hn'⟩|⟨g',k',_,hv,_⟩
  ·simp at hn'
  ·exact ⟨g',k',hv⟩
 have hnc:∀t u,news[t]? = some u→w.cell? ((⟨g',0,none⟩:Addr).add t)=some u:=jown.cells (by rw [hvj];rfl)
 obtain ⟨v',w',cells,T,hrun,own',hcl,hch,hob,hT1,hT2,hT3⟩:∃(v':Value) (w':World) (cells:List Value) (T:Nat→BS),(Builtin.append_ #[ty',ty'] ty #[a.eval x,c.ρ j]).run P w=.ok v' w'∧w'.ownsRow 0 e n v' (ds.length+1) (cells++news)∧cells.length=ds.length * n∧Chg (c.T i) w w'∧(∀b,v'.ownBlock=some b→c.T i b∨b=w.heap.size) ∧
  (∀k b,T k b→c.T i b∧b<w.heap.size∧v'.ownBlock≠some b∧w'.heap[b]? = w.heap[b]?)∧(∀k l,k≠l→∀b,T k b→¬T l b)∧(∀k (h:k<ds.length),∃cs,cs.length=n∧Ow w ds[k] (T k) cs∧∀t u,cs[t]? = some u→cells[k * n+t]? = some u):=by
  rcases hTi with ⟨hd,a0,hv0⟩|⟨cells,T,own,hS,hT,hdis,hel⟩
  ·subst hd
   obtain ⟨v',w',r1,r2,r3,r4⟩:=kf (P:=P) (ty:=ty) he hti htz hsz hzs hn0 a0 ⟨g',0,none⟩ 1 k' news hnl hnc hnone (by decide) (by have:=Nat.le_of_ble_eq_true hn.2;omega) (by decide)
   refine ⟨v',w',[],fun _ _=>False,?_,by simpa using r2,by simp,Chg.grown r3 (fun g hg=>by cases hg),fun b hb=>.inr (r4 b hb),fun k b hb=>hb.elim,fun k l _ b hb=>hb.elim,fun k hk'=>absurd hk' (Nat.not_lt_zero _)⟩
   rw [hxv,hv0,hvj];exact r1
  ·rw [← hxv] at own hS
   have hmb:(ds.length+1) * ti.bytes≤140737488355328:=by
    have:(ds.length+1) * ti.bytes≤1000001 * 1000:=Nat.mul_le_mul (by omega) (Nat.le_of_ble_eq_true hn.2)
    omega
   obtain ⟨v',w',r1,r2,r3,_,r5⟩:=run_append_own_at (P:=P) w 0 ty' ty e ti z n ti.bytes (dz he) hti htz hsz rfl hzs hn0 (a.eval x) ds.length cells own ⟨g',0,none⟩ 1 k' news hnl hnc hnone (by unfold maxLen;omega) hmb (Nat.zero_le _)
   have hne:∀k b,T k b→some b≠(a.eval x).ownBlock:=fun k b hb e=>(hS b e.symm).2 k hb
   refine ⟨v',w',cells,T,by rw [hvj];exact r1,r2,own.1,Chg.grown r3 (fun g hg=>(hS g hg).1),fun b hb=>?_,fun k b hb=>?_,hdis,hel⟩
   ·rcases r5 with r5|r5
    ·exact .inl (hS b (by rw [← r5];exact hb)).1
    ·rw [r5] at hb;cases hb;exact .inr rfl
   ·obtain ⟨t1,t2⟩:=hT k b hb
    refine ⟨t1,t2,fun e=>?_,r3.block b t2 (hne k b hb)⟩
    rcases r5 with r5|r5
    ·exact hne k b hb (by rw [← r5,e])
    ·rw [r5] at e;cases e;exact Nat.lt_irrefl _ t2
 have hex:(execOp a.eval ⟨some d,.call { callee:=.builtin .append,args:=#[x,y],argTypes:=#[ty',ty'] },ty,pos,after,g⟩).run P w=.ok (.value v') w':=by
  generalize a.eval=ρ at *
  simp [execOp,resolve,invoke,builtin,hyv,hrun,Result.andThen]
 have hi1:aj ((j,.no) :: σ') i=some (.tk (.grw n e ds)):=by rw [aa,if_neg (Ne.symm hij)];exact hi'
 have hc1:=hc.eff (τ:=[]) hj' ⟨rfl,rfl,rfl,Nat.le_refl _,fun _ _ _=>rfl⟩ c.F (fun _ h=>h) (fun _ h=>.inl h) hc.lt
 have hc2:=hc1.eff (τ:=[]) hi1 hch c.F (fun _ h=>h) (fun _ h=>.inl h) (fun b hb=>Nat.lt_of_lt_of_le (hc.lt b hb) hch.size)
 have hne1:¬i=10000+d:=fun e=>by rw [e] at hu4;simp at hu4
 have hne2:¬j=10000+d:=fun e=>by rw [e] at hu5;simp at hu5
 have hjk:∀b,c.T j b→w'.heap[b]? = w.heap[b]?:=fun b hb=>hch.block b (hltj b hb).2.1 (fun hb'=>hc.off i j _ _ hi' hj' hij b hb' hb)
 unfold Oper.wp
 rw [hex]
 have hnew:=hc2.new (i:=10000+d) (by rw [aa,if_neg hne1,aa,if_neg hne2,hk _ (by simp),hf]) (t:=.grw n e (ds++[y0])) (v:=v') (S:=fun b=>v'.ownBlock=some b∨(∃k,T k b)∨∃k,Tj k b) (.inr ⟨cells++news,fun k b=>if k<ds.length then T k b else Tj (k - ds.length) b,by rw [List.length_append];exact own',fun g hg=>⟨.inl hg,fun k hk'=>?_⟩,fun k b hb=>?_,fun k l hkl b hb hb'=>?_,fun k hk'=>?_⟩) (fun b hb=>?_) (fun j'' u hj'' b hb hb'=>?_)
 ·exact ⟨v',_,rfl,hnew,.inr rfl,(if_pos rfl).symm⟩
 ·dsimp only at hk'
  by_cases hkl:k<ds.length
  ·rw [if_pos hkl] at hk'
   exact (hT1 k g hk').2.2.1 hg
  ·rw [if_neg hkl] at hk'
   have h1:=(jT _ g hk').1
   rcases hob g hg with h2|h2
   ·exact hc.off i j _ _ hi' hj' hij g h2 h1
   ·have:=(jT _ g hk').2;omega
 ·dsimp only at hb
  by_cases hkl:k<ds.length
  ·rw [if_pos hkl] at hb
   obtain ⟨t1,t2,t3,t4⟩:=hT1 k b hb
   exact ⟨.inr (.inl ⟨k,hb⟩),Nat.lt_of_lt_of_le t2 hch.size⟩
  ·rw [if_neg hkl] at hb
   obtain ⟨t1,t2⟩:=jT _ b hb
   exact ⟨.inr (.inr ⟨_,hb⟩),Nat.lt_of_lt_of_le t2 hch.size⟩
 ·dsimp only at hb hb'
  by_cases h1:k<ds.length <;> by_cases h2:l<ds.length
  ·rw [if_pos h1] at hb;rw [if_pos h2] at hb';exact hT2 k l hkl b hb hb'
  ·rw [if_pos h1] at hb;rw [if_neg h2] at hb';exact hc.off i j _ _ hi' hj' hij b (hT1 k b hb).1 (jT _ b hb').1
  ·rw [if_neg h1] at hb;rw [if_pos h2] at hb';exact hc.off i j _ _ hi' hj' hij b (hT1 l b hb').1 (jT _ b hb).1
  ·rw [if_neg h1] at hb;rw [if_neg h2] at hb';exact jdis _ _ (by omega) b hb hb'
 ·by_cases hkl:k<ds.length
  ·obtain ⟨cs,p1,p2,p3⟩:=hT3 k hkl
   refine ⟨cs,p1,?_,fun t u ht=>?_⟩
   ·rw [List.getElem_append_left hkl]
    exact Ow.keep hch.size _ _ _ _ (fun b hb=>by (try dsimp only);rw [if_pos hkl];exact hb) (fun b hb _=>(hT1 k b hb).2.2.2) p2
   ·have:=p3 t u ht
    rw [List.getElem?_append_left]
    ·exact this
    ·rcases Nat.lt_or_ge (k * n+t) cells.length with h|h
     ·exact h
     ·rw [List.getElem?_eq_none h] at this;cases this
  ·have hke:k=ds.length:=by simp at hk';omega
   subst hke
   refine ⟨cs0,q1,?_,fun t u ht=>?_⟩
   ·rw [List.getElem_append_right (Nat.le_refl _)]
    simp only [Nat.sub_self,List.getElem_cons_zero]
    exact Ow.keep hch.size _ _ _ _ (fun b hb=>by (try dsimp only);rw [if_neg hkl];first|exact hb|(rw [Nat.sub_self];exact hb)) (fun b hb _=>hjk b (jT 0 b hb).1) q2
   ·have:=q3 t u ht
    rw [List.getElem?_append_right (by omega),hcl,show ds.length * n+t - ds.length * n=t by omega]
    rw [Nat.zero_mul,Nat.zero_add] at this;exact this
 ·rcases hb with hb|⟨k,hb⟩|⟨k,hb⟩
  ·rcases hob b hb with h1|h1
   ·exact ⟨(hlt b h1).1,Nat.lt_of_lt_of_le (hlt b h1).2.1 hch.size,(hlt b h1).2.2⟩
   ·subst h1
    exact ⟨fun hF=>absurd (hc.lt _ hF) (Nat.lt_irrefl _),(own'.lt _ hb).2,.inr hc.ext.size⟩
  ·have h1:=(hT1 k b hb).1
   exact ⟨(hlt b h1).1,Nat.lt_of_lt_of_le (hlt b h1).2.1 hch.size,(hlt b h1).2.2⟩
  ·have h1:=(jT k b hb).1
   exact ⟨(hltj b h1).1,Nat.lt_of_lt_of_le (hltj b h1).2.1 hch.size,(hltj b h1).2.2⟩
 ·have hj3:¬i=j''∧¬j=j''∧aj σ' j''=some (.tk u):=by
   rw [aa] at hj''
   split at hj''
   ·cases hj''
   ·rename_i e1
    rw [aa] at hj''
    split at hj''
    ·cases hj''
    ·rename_i e2;exact ⟨e1,e2,hj''⟩
  obtain ⟨e2,e1,hj3⟩:=hj3
  rcases hb with hb|⟨k,hb⟩|⟨k,hb⟩
  ·rcases hob b hb with h1|h1
   ·exact hc.off i j'' _ u hi' hj3 e2 b h1 hb'
   ·subst h1;exact absurd ((hc.tok j'' u hj3).2.2 _ hb').2.1 (Nat.lt_irrefl _)
  ·exact hc.off i j'' _ u hi' hj3 e2 b (hT1 k b hb).1 hb'
  ·exact hc.off j j'' _ u hj' hj3 e1 b (jT k b hb).1 hb'
theorem bZ {x:Operand} {z i e':Nat} {xs:List D} {t e:Nat} (h:Der P ops W0 N Fin os (us++[((d :: (gk++(i :: kx x)))++pk,([d])++fk)]) [] [] ((d,.sy (.d (.i xs.length))) :: σ)) (hx:ev σ x=some (.k i):=by rfl) (hi:aj σ i=some (.tk (.grw z e' xs)):=by rfl) (ht:elem? P t=some e:=by rfl) (hg:gst ops σ g=some (true,gk):=by rfl) (hN:Nat.blt d N=true:=by rfl) (hs:aE σ d=true:=by rfl):Der P ops W0 N Fin (⟨some d,.call { callee:=.builtin .len,args:=#[x],argTypes:=#[t] },ty,pos,after,g⟩ :: os) us pk fk σ:=
 bO (.d (.i xs.length)) (i :: kx x) (fun σ' c a w hk hc=>by
  obtain ⟨_,h1⟩:=am hc (ab hx (fun κ hκ=>hk κ (by simp [hκ])))
  obtain ⟨_,hT,_⟩:=hc.tok i _ ((hk i (by simp)).trans hi)
  rcases hT with ⟨hd,a',hv⟩|⟨cells,T,h2,_,_⟩
  ·exact ⟨.int .i64 xs.length,by rw [hd];exact gF ht (h1.trans hv),by rw [hd];exact ⟨rfl,by unfold I64;decide⟩⟩
  rw [← h1] at h2
  rcases h2.2 with ⟨hv,hn⟩|⟨g',cap,cur,hv,_,_,h5,h6,_⟩
  ·exact ⟨.int .i64 xs.length,by rw [hn];exact gF ht hv,by simp [Sy.ok,DV,Rp,hn];unfold I64;decide⟩
  ·exact ⟨.int .i64 xs.length,gF ht hv,by simp [Sy.ok,DV,Rp];exact I64.nat (by omega)⟩) h hg hN hs
end
section
variable {P:Program} {ops:Array Oper} {W0:bN} {N:Nat} {Fin:Us→Env→Prop} {os:List Oper} {us:Us} {pk fk:List Nat} {σ:Env} {g:Option (Nat × Bool)} {gk:List Nat} {d ty ty' f:Nat} {pos:String} {after:Array Edge}
end
end Go.Proofs.YtacafmejcdgboaaGreatDoor
namespace Go.Proofs.YtacafmejcdgboaaGreatDoor
open Go.RowKit
set_option linter.unusedVariables false
set_option maxRecDepth 100000
set_option maxHeartbeats 4000000
attribute [local irreducible] ar Der At
def gJ (r a:Big) (ns:List Int):Mat:=⟨ns,rtL r a ns r.roots.toNat⟩
def jt (r a:Big):Nat→List Int→List Mat
 | 0,ns=>if dD r a (gJ r a ns) then [gJ r a ns] else []
 | n+1,ns=>(List.range a.nodes.length).flatMap fun i=>if nR r a ns i then jt r a n (ns++[(i:Int)]) else []
def gE (r a:Big) (n:Nat) (ns:List Int) (k:Nat):List Mat:=(List.range k).flatMap fun i=>if nR r a ns i then jt r a n (ns++[(i:Int)]) else []
theorem mI (r a:Big) (n:Nat) (ns:List Int) (k:Nat):gE r a n ns (k+1)=gE r a n ns k++(if nR r a ns k then jt r a n (ns++[(k:Int)]) else []):=by unfold gE;rw [List.range_succ,List.flatMap_append];simp
theorem th (r a:Big) (n:Nat) (ns:List Int) (k:Nat):∀j,∃t,gE r a n ns (k+j)=gE r a n ns k++t:=by
 intro j
 induction j with
 | zero=>exact ⟨[],by simp⟩
 | succ j ih=>
  obtain ⟨t,ht⟩:=ih
  rw [show k+(j+1)=k+j+1 by omega,mI,ht,List.append_assoc]
  exact ⟨_,rfl⟩
theorem A2 {r a:Big} {n:Nat} {ns:List Int} {k K m:Nat} (hk:k≤K) (h:m<((gE r a n ns k).take (m+1)).length):(gE r a n ns K).take (m+1)=(gE r a n ns k).take (m+1):=by
 obtain ⟨t,ht⟩:=th r a n ns k (K - k)
 rw [show k+(K - k)=K by omega] at ht
 rw [List.length_take] at h
 rw [ht,List.take_append_of_le_length (by omega)]
theorem yk {r a:Big} {n:Nat} {ns:List Int} {k m:Nat} {l t:List Mat} (hl:l=(gE r a n ns k).take (m+1)) (h:l.length≤m) (ht:t=(if nR r a ns k then jt r a n (ns++[(k:Int)]) else []).take (m - l.length+1)):l++t=(gE r a n ns (k+1)).take (m+1):=by
 have h1:(gE r a n ns k).length≤m:=by rw [hl,List.length_take] at h;omega
 have h2:l=gE r a n ns k:=by rw [hl,List.take_of_length_le (by omega)]
 rw [mI,ht,h2,List.take_append,List.take_of_length_le (l:=gE r a n ns k) (by omega),show m+1 - (gE r a n ns k).length=m - (gE r a n ns k).length+1 by omega]
theorem ku {b:Big} (h:bF b=true) (hr:0≤b.roots):∀n:Nat,(n:Int)<b.roots→0<(dC b (-1 - (n:Int))).length:=fun n hn=>by
 unfold bF at h
 simp only [Bool.and_eq_true] at h
 have h2:=(aG _ _).1 h.2.1 n (by omega)
 unfold i2 at h2
 simp only [Bool.and_eq_true,Bool.not_eq_true',decide_eq_false_iff_not] at h2
 omega
theorem tO (b:Big) (p:Int):∀x∈dC b p,0≤x∧x<(b.nodes.length:Int):=fun x hx=>by
 obtain ⟨i,hi,_,rfl⟩:=bw.1 hx
 omega
theorem xK {sig:List Ctl} {r a:Big} (hR:aF sig r=true) (hA:aF sig a=true) (hS:bF r=true):∀(n:Nat) (ns:List Int) (most:Nat),ns.length+n=r.nodes.length→(∀x∈ns,0≤x∧x<(a.nodes.length:Int))→most≤400 →
 FnD Tryz.prog 247 [r.D,a.D,DI ns,.i most] (.row 2 116 (((jt r a n ns).take (most+1)).map Mat.D)):=by
 have hd:=bu hR
 have hda:=(bu hA).nodes
 have hrn:=hd.nodes
 have hr0:=aJ hR
 intro n
 induction n with
 | zero=>
  intro ns most hl hx hm
  have hnl:ns.length≤1000:=by omega
  have f1:=qU ns (by omega)
  have f2:=tq (a:=a) hR ns (ku hS (by omega)) (fun p x hx=>by have:=tO r p x hx;omega) hx
  have f3:=sS (gJ r a ns) hR hA (fW hS)
  have hdef:jt r a 0 ns=if dD r a (gJ r a ns) then [gJ r a ns] else []:=rfl
  refine ah Tryz.func247 (fun hw W0=>?_)
  refine kgo ?_
  refine aL (fun h=>?_) (fun h=>?_)
  ·repeat (first|(refine cy ?_;first|refine aV ?_|refine bY ?_|refine aY ?_|refine aZ ?_|refine aS ?_|refine bg ?_|refine bi ?_|refine ay ?_|refine be ?_)|(refine fo ?_;first|refine bQ ?_|refine eZ ?_|refine cr ?_|refine b8 ?_)|(refine fa ?_;first|refine dm (fun _=>?_)|refine b9 ?_|refine cm ?_|refine bG ?_|refine cw ?_|refine ck ?_)|(refine fh ?_;first|refine cg ?_|refine eB ?_|refine bT ?_|refine bI ?_|refine cq ?_|refine bV ?_|refine bZ ?_)|(refine fe ?_;first|refine fl ?_|refine eS ?_|refine cd ?_|refine bP ?_|refine fq ?_|refine bl ?_|refine bo ?_)|(refine cu ?_;first|refine aX ?_|refine ch ?_)|(refine ff ?_;first|refine cj ?_|refine ct ?_|refine ft ?_)|(refine cf ?_;first|refine ca ?_|refine bd ?_|refine aQ ?_|refine ba ?_|refine aU ?_|refine bh ?_)|(refine fc ?_;first|refine b7 ?_|refine eY ?_|refine bj ?_|refine aR ?_|refine bm ?_)|(refine aI ?_;first|refine au _ ?_|refine bf ?_|refine aA ?_|refine av ?_|refine ax ?_)|(refine fu ?_;first|refine cb ?_|refine bH ?_|refine bX ?_)|(refine gOp ?_;first|refine fd ?_|refine fm ?_|refine bc ?_|refine fp ?_|refine fj ?_|refine bU ?_|refine aT ?_|refine co ?_|refine fw ?_|refine bM ?_|refine b6 ?_|refine bk ?_|refine sFz 20 ?_|refine sFz 24 ?_|refine az ?_|refine bW ?_|refine sNo ?_|refine dO ?_|refine aw ?_)|refine dZ ?_|refine cN ?_|refine fB ?_|refine bp ?_|refine cz ?_|refine bB ?_|refine fC ?_|refine fI ?_|refine fx ?_|refine df ?_|refine cC ?_|refine aN ?_|refine aB ?_|refine bq ?_|refine ci ?_|refine bC ?_|refine aBlkX ?_|refine cA ?_|refine sFz 20 ?_|refine sFz 24 ?_)
   cases h3:dD r a (gJ r a ns)
   ·rw [show (jt r a 0 ns).take (most+1) = [] by rw [hdef,h3];simp]
    refine kgo ?_
    exact pt
   ·rw [show (jt r a 0 ns).take (most+1) = [gJ r a ns] by rw [hdef,h3];simp]
    refine kgo ?_
    exact pt
  ·omega
 | succ n ih=>
  intro ns most hl hx hm
  have hnl:ns.length≤1000:=by omega
  have f1:=qU ns (by omega)
  refine ah Tryz.func247 (fun hw W0=>?_)
  refine kgo ?_
  refine aL (fun h=>?_) (fun h=>?_)
  ·omega
  refine kgo ?_
  refine ai [2,3,4,5] (fun x:Nat × List Mat=>x.1≤a.nodes.length∧x.2=(gE r a n ns x.1).take (most+1)) (fun x=>a.nodes.length - x.1) (fun x=>[(11,.sy (.d (.i x.1))),(9,.sy (.k 20001)),(20001,.tk (.row 2 116 (x.2.map Mat.D)))]) (0,[]) ⟨Nat.zero_le _,by simp [gE]⟩ (fun x hx'=>?_)
  obtain ⟨i,l⟩:=x
  obtain ⟨hi,hxl⟩:=hx'
  dsimp only at hi hxl ⊢
  have hll:l.length≤most+1:=by rw [hxl,List.length_take];omega
  refine kgo ?_
  cases h1:decide ((i:Int)<a.nodes.length)
  ·have h1:=of_decide_eq_false h1
   obtain rfl:i=a.nodes.length:=by omega
   refine kgo ?_
   rw [show jt r a (n+1) ns=gE r a n ns a.nodes.length from rfl,← hxl]
   exact pt
  have h1:=of_decide_eq_true h1
  have hlt:i<a.nodes.length:=by omega
  refine kgo ?_
  refine aL (fun h2=>?_) (fun h2=>?_)
  ·rw [List.length_map] at h2
   have f2:=Ab (a:=a) hR ns i hlt (by omega)
   have hmore:=fun t=>yk (t:=t) hxl (by omega)
   refine kgo ?_
   cases h3:nR r a ns i
   ·rw [h3] at hmore
    have:=hmore [] (by simp)
    rw [List.append_nil] at this
    refine kgo ?_
    exact af (i+1,l) ⟨hlt,this⟩ (by show _ - (i+1)<_ - i;omega)
   ·rw [h3,if_pos rfl] at hmore
    have f3:=ih (ns++[(i:Int)]) (most - l.length) (by rw [List.length_append,List.length_singleton];omega) (fun x hx'=>by
     rcases List.mem_append.1 hx' with h|h
     ·exact hx x h
     ·rw [List.mem_singleton.1 h];omega) (by omega)
    have hml:(List.map Mat.D l).length=l.length:=List.length_map ..
    rw [show ((most - l.length:Nat):Int)=(most:Int) - (List.map Mat.D l).length by omega] at f3
    rw [show DI (ns++[(i:Int)])=D.l 1 (ns.map D.i++[D.i i]) from congrArg (D.l 1) List.map_append] at f3
    have hm2:=hmore _ rfl
    have hlen:((jt r a n (ns++[(i:Int)])).take (most - l.length+1)).length≤1000:=by rw [List.length_take];omega
    repeat (first|(refine cy ?_;first|refine aV ?_|refine bY ?_|refine aY ?_|refine aZ ?_|refine aS ?_|refine bg ?_|refine bi ?_|refine ay ?_|refine be ?_)|(refine fo ?_;first|refine bQ ?_|refine eZ ?_|refine cr ?_|refine b8 ?_)|(refine fa ?_;first|refine dm (fun _=>?_)|refine b9 ?_|refine cm ?_|refine bG ?_|refine cw ?_|refine ck ?_)|(refine fh ?_;first|refine cg ?_|refine eB ?_|refine bT ?_|refine bI ?_|refine cq ?_|refine bV ?_|refine bZ ?_)|(refine fe ?_;first|refine fl ?_|refine eS ?_|refine cd ?_|refine bP ?_|refine fq ?_|refine bl ?_|refine bo ?_)|(refine cu ?_;first|refine aX ?_|refine ch ?_)|(refine ff ?_;first|refine cj ?_|refine ct ?_|refine ft ?_)|(refine cf ?_;first|refine ca ?_|refine bd ?_|refine aQ ?_|refine ba ?_|refine aU ?_|refine bh ?_)|(refine fc ?_;first|refine b7 ?_|refine eY ?_|refine bj ?_|refine aR ?_|refine bm ?_)|(refine aI ?_;first|refine au _ ?_|refine bf ?_|refine aA ?_|refine av ?_|refine ax ?_)|(refine fu ?_;first|refine cb ?_|refine bH ?_|refine bX ?_)|(refine gOp ?_;first|refine fd ?_|refine fm ?_|refine bc ?_|refine fp ?_|refine fj ?_|refine bU ?_|refine aT ?_|refine co ?_|refine fw ?_|refine bM ?_|refine b6 ?_|refine bk ?_|refine sFz 60 ?_|refine sFz 65 ?_|refine az ?_|refine bW ?_|refine sNo ?_|refine dO ?_|refine aw ?_)|refine dZ ?_|refine cN ?_|refine fB ?_|refine bp ?_|refine cz ?_|refine bB ?_|refine fC ?_|refine fI ?_|refine fx ?_|refine df ?_|refine cC ?_|refine aN ?_|refine aB ?_|refine bq ?_|refine ci ?_|refine bC ?_|refine aBlkX ?_|refine cA ?_|refine sFz 60 ?_|refine sFz 65 ?_)
    exact af (i+1,l++(jt r a n (ns++[(i:Int)])).take (most - l.length+1)) ⟨hlt,hm2⟩ (by show _ - (i+1)<_ - i;omega)
  ·rw [List.length_map] at h2
   rw [show jt r a (n+1) ns=gE r a n ns a.nodes.length from rfl,A2 hi (by rw [← hxl];omega),← hxl]
   refine kgo ?_
   exact pt
def pC (r a:Big):List Mat:=(jt r a r.nodes.length []).take 401
theorem vP (r a:Big):(pC r a).length≤401:=by unfold pC;rw [List.length_take];omega
theorem xu {r a:Big}:∀(n:Nat) (ns:List Int),∀m∈jt r a n ns,dD r a m=true:=by
 intro n
 induction n with
 | zero=>
  intro ns m hm
  unfold jt at hm
  split at hm
  ·rw [List.mem_singleton.1 hm];assumption
  ·cases hm
 | succ n ih=>
  intro ns m hm
  unfold jt at hm
  obtain ⟨i,_,hi⟩:=List.mem_flatMap.1 hm
  split at hi
  ·exact ih _ m hi
  ·cases hi
theorem mR {r a:Big}:∀m∈pC r a,dD r a m=true:=fun m hm=>xu _ _ m (List.mem_of_mem_take hm)
theorem E1 {sig:List Ctl} {r a:Big} (hR:aF sig r=true) (hA:aF sig a=true) (hS:bF r=true):FnD Tryz.prog 182 [r.D,a.D] (.d (.l 2 ((pC r a).map Mat.D))):=by
 have f1:=xK hR hA hS r.nodes.length [] 400 (by simp) (fun x hx=>by cases hx) (Nat.le_refl _)
 rw [show (jt r a r.nodes.length []).take (400+1)=pC r a from rfl] at f1
 have hl:=vP r a
 have hc:(pC r a).take 401=pC r a:=List.take_of_length_le hl
 refine ah Tryz.func182 (fun hw W0=>?_)
 repeat (first|(refine cy ?_;first|refine aV ?_|refine bY ?_|refine aY ?_|refine aZ ?_|refine aS ?_|refine bg ?_|refine bi ?_|refine ay ?_|refine be ?_)|(refine fo ?_;first|refine bQ ?_|refine eZ ?_|refine cr ?_|refine b8 ?_)|(refine fa ?_;first|refine dm (fun _=>?_)|refine b9 ?_|refine cm ?_|refine bG ?_|refine cw ?_|refine ck ?_)|(refine fh ?_;first|refine cg ?_|refine eB ?_|refine bT ?_|refine bI ?_|refine cq ?_|refine bV ?_|refine bZ ?_)|(refine fe ?_;first|refine fl ?_|refine eS ?_|refine cd ?_|refine bP ?_|refine fq ?_|refine bl ?_|refine bo ?_)|(refine cu ?_;first|refine aX ?_|refine ch ?_)|(refine ff ?_;first|refine fF (d:=5) ?_|refine cj ?_|refine ct ?_|refine ft ?_)|(refine cf ?_;first|refine ca ?_|refine bd ?_|refine aQ ?_|refine ba ?_|refine aU ?_|refine bh ?_)|(refine fc ?_;first|refine b7 ?_|refine eY ?_|refine bj ?_|refine aR ?_|refine bm ?_)|(refine aI ?_;first|refine au _ ?_|refine bf ?_|refine aA ?_|refine av ?_|refine ax ?_)|(refine fu ?_;first|refine cb ?_|refine bH ?_|refine bX ?_)|(refine gOp ?_;first|refine fd ?_|refine fm ?_|refine bc ?_|refine fp ?_|refine fj ?_|refine bU ?_|refine aT ?_|refine co ?_|refine fw ?_|refine bM ?_|refine b6 ?_|refine bk ?_|refine sFz 8 ?_|refine az ?_|refine bW ?_|refine sNo ?_|refine dO ?_|refine aw ?_)|refine dZ ?_|refine cN ?_|refine fB ?_|refine bp ?_|refine cz ?_|refine bB ?_|refine fC ?_|refine fI ?_|refine fx ?_|refine df ?_|refine cC ?_|refine aN ?_|refine aB ?_|refine bq ?_|refine ci ?_|refine bC ?_|refine aBlkX ?_|refine cA ?_|refine sFz 8 ?_)
 refine aL (fun h=>?_) (fun h=>?_)
 ·refine kgo ?_
  refine bH (n:=401) ?_ rfl rfl rfl (hn:=by omega)
  rw [hc]
  refine kgo ?_
  exact aq
 ·refine kgo ?_
  exact aq
structure Stp where
 rule:Int
 mat:Mat
 res:Big
abbrev Stp.D (s:Stp):D:=.t [.i s.rule,s.mat.D,s.res.D]
def gA (sig:List Ctl) (r:Rul) (a:Big) (k:Int):List Mat→List Stp→Option (List Stp)
 | [],out=>some out
 | m :: ms,out=>if kj sig a m.roots then (if (fM sig r a m).2 then gA sig r a k ms (out++[⟨k,m,(fM sig r a m).1⟩]) else none) else gA sig r a k ms out
def du (sig:List Ctl) (a:Big):List Rul→Nat→List Stp→Option (List Stp)
 | [],_,out=>some out
 | r :: rs,k,out=>if 400<(pC r.redex a).length then none else (gA sig r a k (pC r.redex a) out).bind (du sig a rs (k+1))
theorem sD {sig:List Ctl} {a:Big} {rs:List Rul} (i:Nat) (h:i<rs.length) (out:List Stp):du sig a (rs.drop i) i out=if 400<(pC (rs[i]).redex a).length then none else (gA sig rs[i] a i (pC (rs[i]).redex a) out).bind (du sig a (rs.drop (i+1)) (i+1)):=by
 rw [List.drop_eq_getElem_cons h];rfl
theorem sc {sig:List Ctl} {r:Rul} {a:Big} {k:Int} {ms:List Mat} (j:Nat) (h:j<ms.length) (out:List Stp):gA sig r a k (ms.drop j) out=if kj sig a (ms[j]).roots then (if (fM sig r a ms[j]).2 then gA sig r a k (ms.drop (j+1)) (out++[⟨k,ms[j],(fM sig r a ms[j]).1⟩]) else none) else gA sig r a k (ms.drop (j+1)) out:=by
 rw [List.drop_eq_getElem_cons h];rfl
def jh:Option (List Stp)→List Stp × Bool
 | some l=>(l,true)
 | none=>([],false)
theorem A5 {sig:List Ctl} {rs:List Rul} {a:Big} (hr:fQ sig rs=true) (ha:fS sig a=true):FnD Tryz.prog 113 [.l 3 (sig.map Ctl.D),.l 13 (rs.map Rul.D),a.D] (.tp [.l 9 ((jh (du sig a rs 0 [])).1.map Stp.D),.b (jh (du sig a rs 0 [])).2]):=by
 have hrs:=List.all_eq_true.1 (Bool.and_eq_true_iff.1 hr).2
 have hrl:=bK (Bool.and_eq_true_iff.1 hr).1
 have hA:=kg ha
 refine ah Tryz.func113 (fun hw W0=>?_)
 refine kgo ?_
 refine ai [0,1,5] (fun x:Nat × List Stp=>x.1≤rs.length∧x.2.length≤400 * x.1∧du sig a rs 0 []=du sig a (rs.drop x.1) x.1 x.2) (fun x=>rs.length - x.1) (fun x=>[(9,.sy (.d (.i x.1))),(8,.sy (.k 20001)),(20001,.tk (.row 9 118 (x.2.map Stp.D)))]) (0,[]) ⟨Nat.zero_le _,Nat.zero_le _,rfl⟩ (fun x hx=>?_)
 obtain ⟨i,out⟩:=x
 obtain ⟨hi,hol,hst⟩:=hx
 dsimp only at hi hol hst ⊢
 rw [hst]
 refine kgo ?_
 refine aL (fun h=>?_) (fun h=>?_)
 rotate_left
 ·obtain rfl:i=rs.length:=by omega
  rw [List.drop_eq_nil_of_le (Nat.le_refl _),show jh (du sig a [] rs.length out)=(out,true) from rfl]
  repeat (first|(refine cy ?_;first|refine aV ?_|refine bY ?_|refine aY ?_|refine aZ ?_|refine aS ?_|refine bg ?_|refine bi ?_|refine ay ?_|refine be ?_)|(refine fo ?_;first|refine bQ ?_|refine eZ ?_|refine cr ?_|refine b8 ?_)|(refine fa ?_;first|refine dm (fun _=>?_)|refine b9 ?_|refine cm ?_|refine bG ?_|refine cw ?_|refine ck ?_)|(refine fh ?_;first|refine cg ?_|refine eB ?_|refine bT ?_|refine bI ?_|refine cq ?_|refine bV ?_|refine bZ ?_)|(refine fe ?_;first|refine fl ?_|refine eS ?_|refine cd ?_|refine bP ?_|refine fq ?_|refine bl ?_|refine bo ?_)|(refine cu ?_;first|refine aX ?_|refine ch ?_)|(refine ff ?_;first|refine fF (d:=6) ?_|refine cj ?_|refine ct ?_|refine ft ?_)|(refine cf ?_;first|refine ca ?_|refine bd ?_|refine aQ ?_|refine ba ?_|refine aU ?_|refine bh ?_)|(refine fc ?_;first|refine b7 ?_|refine eY ?_|refine bj ?_|refine aR ?_|refine bm ?_)|(refine aI ?_;first|refine au _ ?_|refine bf ?_|refine aA ?_|refine av ?_|refine ax ?_)|(refine fu ?_;first|refine cb ?_|refine bH ?_|refine bX ?_)|(refine gOp ?_;first|refine fd ?_|refine fm ?_|refine bc ?_|refine fp ?_|refine fj ?_|refine bU ?_|refine aT ?_|refine co ?_|refine fw ?_|refine bM ?_|refine b6 ?_|refine bk ?_|refine az ?_|refine bW ?_|refine sNo ?_|refine dO ?_|refine aw ?_)|refine dZ ?_|refine cN ?_|refine fB ?_|refine bp ?_|refine cz ?_|refine bB ?_|refine fC ?_|refine fI ?_|refine fx ?_|refine df ?_|refine cC ?_|refine aN ?_|refine aB ?_|refine bq ?_|refine ci ?_|refine bC ?_|refine aBlkX ?_|refine cA ?_)
  exact iA
 have hlt:i<rs.length:=by omega
 rw [sD i hlt]
 obtain ⟨r1,r2,r3,r4,r5,r6,r7,r8⟩:=ii (hrs _ (List.getElem_mem hlt))
 have f1:=E1 r1 hA r3
 have hall:=mR (r:=(rs[i]).redex) (a:=a)
 refine kgo ?_
 refine aL (fun h2=>?_) (fun h2=>?_)
 ·rw [if_pos (by omega)]
  repeat (first|(refine cy ?_;first|refine aV ?_|refine bY ?_|refine aY ?_|refine aZ ?_|refine aS ?_|refine bg ?_|refine bi ?_|refine ay ?_|refine be ?_)|(refine fo ?_;first|refine bQ ?_|refine eZ ?_|refine cr ?_|refine b8 ?_)|(refine fa ?_;first|refine dm (fun _=>?_)|refine b9 ?_|refine cm ?_|refine bG ?_|refine cw ?_|refine ck ?_)|(refine fh ?_;first|refine cg ?_|refine eB ?_|refine bT ?_|refine bI ?_|refine cq ?_|refine bV ?_|refine bZ ?_)|(refine fe ?_;first|refine fl ?_|refine eS ?_|refine cd ?_|refine bP ?_|refine fq ?_|refine bl ?_|refine bo ?_)|(refine cu ?_;first|refine aX ?_|refine ch ?_)|(refine ff ?_;first|refine fF (d:=6) ?_|refine cj ?_|refine ct ?_|refine ft ?_)|(refine cf ?_;first|refine ca ?_|refine bd ?_|refine aQ ?_|refine ba ?_|refine aU ?_|refine bh ?_)|(refine fc ?_;first|refine b7 ?_|refine eY ?_|refine bj ?_|refine aR ?_|refine bm ?_)|(refine aI ?_;first|refine au _ ?_|refine bf ?_|refine aA ?_|refine av ?_|refine ax ?_)|(refine fu ?_;first|refine cb ?_|refine bH ?_|refine bX ?_)|(refine gOp ?_;first|refine fd ?_|refine fm ?_|refine bc ?_|refine fp ?_|refine fj ?_|refine bU ?_|refine aT ?_|refine co ?_|refine fw ?_|refine bM ?_|refine b6 ?_|refine bk ?_|refine az ?_|refine bW ?_|refine sNo ?_|refine dO ?_|refine aw ?_)|refine dZ ?_|refine cN ?_|refine fB ?_|refine bp ?_|refine cz ?_|refine bB ?_|refine fC ?_|refine fI ?_|refine fx ?_|refine df ?_|refine cC ?_|refine aN ?_|refine aB ?_|refine bq ?_|refine ci ?_|refine bC ?_|refine aBlkX ?_|refine cA ?_)
  exact iA
 rw [if_neg (by omega)]
 generalize pC (rs[i]).redex a=ms at *
 refine kgo ?_
 refine ai [0,1,5,9,10] (fun x:Nat × List Stp=>x.1≤ms.length∧x.2.length≤400 * i+x.1∧(gA sig rs[i] a i ms out).bind (du sig a (rs.drop (i+1)) (i+1))=(gA sig rs[i] a i (ms.drop x.1) x.2).bind (du sig a (rs.drop (i+1)) (i+1))) (fun x=>ms.length - x.1) (fun x=>[(11,.sy (.d (.i x.1))),(8,.sy (.k 20001)),(20001,.tk (.row 9 118 (x.2.map Stp.D)))]) (0,out) ⟨Nat.zero_le _,hol,rfl⟩ (fun x hx=>?_)
 obtain ⟨j,o⟩:=x
 obtain ⟨hj,hoj,hsj⟩:=hx
 dsimp only at hj hoj hsj ⊢
 rw [hsj]
 refine kgo ?_
 refine aL (fun h3=>?_) (fun h3=>?_)
 rotate_left
 ·obtain rfl:j=ms.length:=by omega
  rw [List.drop_eq_nil_of_le (Nat.le_refl _)] at hsj ⊢
  refine kgo ?_
  exact af (i+1,o) ⟨hlt,by show o.length≤400 * (i+1);omega,rfl⟩ (by show _ - (i+1)<_ - i;omega)
 have hjl:j<ms.length:=by omega
 have hm:=hall _ (List.getElem_mem hjl)
 have f2:=xL hA ms[j] (fun p hp=>(lD (cF hm).2.1 p hp).2)
 have f3:=A7 (sig:=sig) ms[j] (hrs _ (List.getElem_mem hlt)) hA hm
 have hat:=sc (sig:=sig) (r:=rs[i]) (a:=a) (k:=i) j hjl o
 refine kgo ?_
 refine cIf (fun h4=>?_) (fun h4=>?_)
 ·rw [Bool.not_eq_true'] at h4
  rw [hat,h4]
  refine kgo ?_
  exact af (j+1,o) ⟨hjl,by show o.length≤400 * i+(j+1);omega,rfl⟩ (by show _ - (j+1)<_ - j;omega)
 rw [Bool.not_eq_false'] at h4
 rw [hat,h4,if_pos rfl]
 refine kgo ?_
 refine cIf (fun h5=>?_) (fun h5=>?_)
 ·rw [Bool.not_eq_true'] at h5
  rw [h5]
  repeat (first|(refine cy ?_;first|refine aV ?_|refine bY ?_|refine aY ?_|refine aZ ?_|refine aS ?_|refine bg ?_|refine bi ?_|refine ay ?_|refine be ?_)|(refine fo ?_;first|refine bQ ?_|refine eZ ?_|refine cr ?_|refine b8 ?_)|(refine fa ?_;first|refine dm (fun _=>?_)|refine b9 ?_|refine cm ?_|refine bG ?_|refine cw ?_|refine ck ?_)|(refine fh ?_;first|refine cg ?_|refine eB ?_|refine bT ?_|refine bI ?_|refine cq ?_|refine bV ?_|refine bZ ?_)|(refine fe ?_;first|refine fl ?_|refine eS ?_|refine cd ?_|refine bP ?_|refine fq ?_|refine bl ?_|refine bo ?_)|(refine cu ?_;first|refine aX ?_|refine ch ?_)|(refine ff ?_;first|refine fF (d:=6) ?_|refine cj ?_|refine ct ?_|refine ft ?_)|(refine cf ?_;first|refine ca ?_|refine bd ?_|refine aQ ?_|refine ba ?_|refine aU ?_|refine bh ?_)|(refine fc ?_;first|refine b7 ?_|refine eY ?_|refine bj ?_|refine aR ?_|refine bm ?_)|(refine aI ?_;first|refine au _ ?_|refine bf ?_|refine aA ?_|refine av ?_|refine ax ?_)|(refine fu ?_;first|refine cb ?_|refine bH ?_|refine bX ?_)|(refine gOp ?_;first|refine fd ?_|refine fm ?_|refine bc ?_|refine fp ?_|refine fj ?_|refine bU ?_|refine aT ?_|refine co ?_|refine fw ?_|refine bM ?_|refine b6 ?_|refine bk ?_|refine az ?_|refine bW ?_|refine sNo ?_|refine dO ?_|refine aw ?_)|refine dZ ?_|refine cN ?_|refine fB ?_|refine bp ?_|refine cz ?_|refine bB ?_|refine fC ?_|refine fI ?_|refine fx ?_|refine df ?_|refine cC ?_|refine aN ?_|refine aB ?_|refine bq ?_|refine ci ?_|refine bC ?_|refine aBlkX ?_|refine cA ?_)
  exact iA
 rw [Bool.not_eq_false'] at h5
 rw [h5,if_pos rfl]
 have hs:(o++[Stp.mk (i:Int) ms[j] (fM sig rs[i] a ms[j]).1]).map Stp.D=o.map Stp.D++[Stp.D (Stp.mk (i:Int) ms[j] (fM sig rs[i] a ms[j]).1)]:=List.map_append
 refine kgo ?_
 exact af (j+1,o++[⟨i,ms[j],(fM sig rs[i] a ms[j]).1⟩]) ⟨hjl,by show (o++_).length≤400 * i+(j+1);rw [List.length_append,List.length_singleton];omega,rfl⟩ (by show _ - (j+1)<_ - j;omega)
def cJ (sig:List Ctl) (rs:List Rul) (a:Big):List Stp × Bool:=if fQ sig rs && fS sig a then jh (du sig a rs 0 []) else ([],false)
theorem qP (sig:List Ctl) (rs:List Rul) (a:Big) (hr:∀r∈rs,r.redex.inner.length≤1048576∧r.reactum.inner.length≤1048576) (ha:a.inner.length≤1048576):FnD Tryz.prog 60 [.l 3 (sig.map Ctl.D),.l 13 (rs.map Rul.D),a.D] (.tp [.l 9 ((cJ sig rs a).1.map Stp.D),.b (cJ sig rs a).2]):=by
 have f1:=zI sig rs hr
 have f2:=AX sig a ha
 refine ah Tryz.func60 (fun hw W0=>?_)
 unfold cJ
 refine kgo ?_
 cases h1:fQ sig rs
 ·repeat (first|(refine cy ?_;first|refine aV ?_|refine bY ?_|refine aY ?_|refine aZ ?_|refine aS ?_|refine bg ?_|refine bi ?_|refine ay ?_|refine be ?_)|(refine fo ?_;first|refine bQ ?_|refine eZ ?_|refine cr ?_|refine b8 ?_)|(refine fa ?_;first|refine dm (fun _=>?_)|refine b9 ?_|refine cm ?_|refine bG ?_|refine cw ?_|refine ck ?_)|(refine fh ?_;first|refine cg ?_|refine eB ?_|refine bT ?_|refine bI ?_|refine cq ?_|refine bV ?_|refine bZ ?_)|(refine fe ?_;first|refine fl ?_|refine eS ?_|refine cd ?_|refine bP ?_|refine fq ?_|refine bl ?_|refine bo ?_)|(refine cu ?_;first|refine aX ?_|refine ch ?_)|(refine ff ?_;first|refine fF (d:=6) ?_|refine cj ?_|refine ct ?_|refine ft ?_)|(refine cf ?_;first|refine ca ?_|refine bd ?_|refine aQ ?_|refine ba ?_|refine aU ?_|refine bh ?_)|(refine fc ?_;first|refine b7 ?_|refine eY ?_|refine bj ?_|refine aR ?_|refine bm ?_)|(refine aI ?_;first|refine au _ ?_|refine bf ?_|refine aA ?_|refine av ?_|refine ax ?_)|(refine fu ?_;first|refine cb ?_|refine bH ?_|refine bX ?_)|(refine gOp ?_;first|refine fd ?_|refine fm ?_|refine bc ?_|refine fp ?_|refine fj ?_|refine bU ?_|refine aT ?_|refine co ?_|refine fw ?_|refine bM ?_|refine b6 ?_|refine bk ?_|refine az ?_|refine bW ?_|refine sNo ?_|refine dO ?_|refine aw ?_)|refine dZ ?_|refine cN ?_|refine fB ?_|refine bp ?_|refine cz ?_|refine bB ?_|refine fC ?_|refine fI ?_|refine fx ?_|refine df ?_|refine cC ?_|refine aN ?_|refine aB ?_|refine bq ?_|refine ci ?_|refine bC ?_|refine aBlkX ?_|refine cA ?_)
  exact iA
 refine kgo ?_
 cases h2:fS sig a
 ·repeat (first|(refine cy ?_;first|refine aV ?_|refine bY ?_|refine aY ?_|refine aZ ?_|refine aS ?_|refine bg ?_|refine bi ?_|refine ay ?_|refine be ?_)|(refine fo ?_;first|refine bQ ?_|refine eZ ?_|refine cr ?_|refine b8 ?_)|(refine fa ?_;first|refine dm (fun _=>?_)|refine b9 ?_|refine cm ?_|refine bG ?_|refine cw ?_|refine ck ?_)|(refine fh ?_;first|refine cg ?_|refine eB ?_|refine bT ?_|refine bI ?_|refine cq ?_|refine bV ?_|refine bZ ?_)|(refine fe ?_;first|refine fl ?_|refine eS ?_|refine cd ?_|refine bP ?_|refine fq ?_|refine bl ?_|refine bo ?_)|(refine cu ?_;first|refine aX ?_|refine ch ?_)|(refine ff ?_;first|refine fF (d:=6) ?_|refine cj ?_|refine ct ?_|refine ft ?_)|(refine cf ?_;first|refine ca ?_|refine bd ?_|refine aQ ?_|refine ba ?_|refine aU ?_|refine bh ?_)|(refine fc ?_;first|refine b7 ?_|refine eY ?_|refine bj ?_|refine aR ?_|refine bm ?_)|(refine aI ?_;first|refine au _ ?_|refine bf ?_|refine aA ?_|refine av ?_|refine ax ?_)|(refine fu ?_;first|refine cb ?_|refine bH ?_|refine bX ?_)|(refine gOp ?_;first|refine fd ?_|refine fm ?_|refine bc ?_|refine fp ?_|refine fj ?_|refine bU ?_|refine aT ?_|refine co ?_|refine fw ?_|refine bM ?_|refine b6 ?_|refine bk ?_|refine az ?_|refine bW ?_|refine sNo ?_|refine dO ?_|refine aw ?_)|refine dZ ?_|refine cN ?_|refine fB ?_|refine bp ?_|refine cz ?_|refine bB ?_|refine fC ?_|refine fI ?_|refine fx ?_|refine df ?_|refine cC ?_|refine aN ?_|refine aB ?_|refine bq ?_|refine ci ?_|refine bC ?_|refine aBlkX ?_|refine cA ?_)
  exact iA
 have f3:=A5 h1 h2
 refine kgo ?_
 exact iA
end Go.Proofs.YtacafmejcdgboaaGreatDoor
namespace Go.Proofs.YtacafmejcdgboaaGreatDoor
open Go.RowKit
set_option linter.unusedVariables false
set_option maxRecDepth 100000
set_option maxHeartbeats 4000000
theorem GA (i:Nat) {t t':Tk} {P:Program} {W0:bN} {N:Nat} {σ:Env} {Q:Exit→Act→World→Prop} {x:Code} (he:t=t') (h:ar P W0 N x ((i,.tk t') :: σ) Q) (hi:aj σ i=some (.tk t):=by rfl):ar P W0 N x σ Q:=fun a w hh=>h a w (hh.congr (fun κ=>by
 subst he
 rw [aa]
 split
 ·rename_i e;subst e;exact hi.symm
 ·rfl))
section
variable {P:Program} {ops:Array Oper} {W0:bN} {N:Nat} {Fin:Us→Env→Prop} {os:List Oper} {us:Us} {pk fk:List Nat} {σ:Env} {g:Option (Nat × Bool)} {gk:List Nat} {d ty ty':Nat} {pos:String} {after:Array Edge}
theorem Ex {α:Type} {f:α→D} {l:List α} {x:Operand} {i z n e:Nat} {ds:List D} (h:Der P ops W0 N Fin os (us++[((d :: (gk++(i :: kx x)))++pk,([d])++fk)]) [] [] ((d,.sy (.d (.t ds))) :: σ)) (hx:ev σ x=some (.el i z n 0):=by rfl) (hi:aj σ i=some (.tk (.row z e (l.map f))):=by rfl) (hlt:n<l.length:=by first|assumption|omega) (hq:f l[n]=.t ds:=by rfl) (hA:isAgg? P ty'=some true:=by rfl) (hz:sizeOf? P ty'=some z:=by rfl) (hg:gst ops σ g=some (true,gk):=by rfl) (hN:Nat.blt d N=true:=by rfl) (hs:aE σ d=true:=by rfl):Der P ops W0 N Fin (⟨some d,.load ty' x,ty,pos,after,g⟩ :: os) us pk fk σ:=
 bO (.d (.t ds)) (i :: kx x) (fun σ' c a w hk hc=>by
  obtain ⟨hA',b,m,cp,h1,h2⟩:=am hc (ab hx (fun κ hκ=>hk κ (by simp [hκ])))
  obtain ⟨_,hT,_⟩:=hc.tok i _ ((hk i (by simp)).trans hi)
  rcases hT with ⟨hd,_⟩|⟨cells,own,hS,hel⟩
  ·rw [List.map_eq_nil_iff] at hd;subst hd;exact absurd hlt (Nat.not_lt_zero _)
  obtain ⟨cs,q1,q2,q3⟩:=hel n (by rw [List.length_map];exact hlt)
  rw [List.getElem_map,hq] at q2
  rw [h1] at own
  refine ⟨.agg cs.toArray,dt (X:=Instr.loadAt ty' (a.eval x)) ?_,cs,rfl,q2⟩
  rw [h2]
  refine eD hA (by rw [hz,q1]) (fun j u hj=>?_)
  have hjz:j<z:=by
   rcases Nat.lt_or_ge j z with h|h
   ·exact h
   ·rw [List.getElem?_eq_none (by omega)] at hj;cases hj
  have hin:n * z+j<(l.map f).length * z:=by
   rw [List.length_map]
   have:=Nat.mul_le_mul_right z (show n+1≤l.length from hlt)
   rw [Nat.add_mul] at this;omega
  rcases own.2 with ⟨hv0,_⟩|⟨gb,cap,cur,hv0,rest⟩
  ·cases hv0
  ·cases hv0
   rw [Nat.add_zero,World.ownsRow.cellAt (h:=own) (n * z+j) hin]
   exact q3 j u hj) h hg hN hs
end
attribute [local irreducible] ar Der At
def nL (E:Int) (ns:List ByteArray) (r:Int × ByteArray):Int:=if r.2=⟨#[]⟩ then r.1 else E+jx ns r.2
theorem tV (b:Big) (E:Int) (ns:List ByteArray) (g:Nat) (cs:List D) (l:Int) (r:Int × ByteArray) (hct:(cs.all fun r=>!isT r)=true) (h0:0≤b.edges∧b.edges≤1000) (h1:b.edges≤l→l - b.edges<b.outer.length) (ho:b.outer.length≤1000) (hE:0≤E∧E≤1000) (hn:ns.length≤1000) (hg:FnD Tryz.prog g ([sK (iC b l)]++cs) (.d (sK r))):FnD Tryz.prog 364 [.i l,.p (.f g cs),.p b.D,.p (.i E),.p (.t [.i b.roots,.any,.any,.i E,DS ns,.any])] (.d (.i (nL E ns r))):=by
 have f1:=AC b l h0 h1 ho
 have f2:=nI ns r.2
 have hr:=na ns r.2
 refine ah Tryz.func364 (fun hw W0=>?_)
 refine kgo ?_
 refine cIf (fun h=>?_) (fun h=>?_)
 ·rw [show nL E ns r=r.1 from if_pos ((me _).1 h)]
  refine kgo ?_
  exact aq
 ·have h:¬r.2=⟨#[]⟩:=fun e=>by rw [(me _).2 e] at h;cases h
  rw [show nL E ns r=E+jx ns r.2 from if_neg h]
  refine kgo ?_
  exact aq
def xC (b:Big) (E:Int) (ns:List ByteArray) (turn:Int→Int):Big:=⟨b.roots,b.nodes.map fun x=>⟨x.control,x.parent,x.links.map turn⟩,b.sites,E,ns,b.inner.map fun w=>⟨w.name,turn w.link⟩⟩
def lw (turn:Int→Int) (l:List Nd) (i j:Nat):List Nd:=l.mapIdx fun k x=>⟨x.control,x.parent,if k<i then x.links.map turn else if k=i then (x.links.take j).map turn++x.links.drop j else x.links⟩
theorem wh (turn:Int→Int) (l:List Nd) (i j:Nat):(lw turn l i j).length=l.length:=by simp [lw]
theorem zE (turn:Int→Int) (l:List Nd):lw turn l 0 0=l:=by
 refine List.ext_getElem (by simp [lw]) fun k h1 h2=>?_
 simp only [lw,List.getElem_mapIdx,List.take_zero,List.map_nil,List.nil_append,List.drop_zero,Nat.not_lt_zero,if_false,ite_self]
theorem Cy (turn:Int→Int) (l:List Nd) (i:Nat) (h:i<l.length):lw turn l i l[i].links.length=lw turn l (i+1) 0:=by
 refine List.ext_getElem (by simp [lw]) fun k h1 h2=>?_
 simp only [lw,List.getElem_mapIdx]
 rcases Nat.lt_trichotomy k i with hk|rfl|hk
 ·rw [if_pos hk,if_pos (by omega)]
 ·rw [if_neg (by omega),if_pos rfl,if_pos (by omega),List.take_length,List.drop_length,List.append_nil]
 ·rw [if_neg (by omega),if_neg (by omega),if_neg (by omega)]
  split
  ·simp
  ·rfl
theorem Dc (turn:Int→Int) (l:List Nd):lw turn l l.length 0=l.map fun x=>⟨x.control,x.parent,x.links.map turn⟩:=by
 refine List.ext_getElem (by simp [lw]) fun k h1 h2=>?_
 simp only [lw,List.getElem_mapIdx,List.getElem_map]
 rw [if_pos (by simpa using h2)]
theorem qV (turn:Int→Int) (l:List Nd) (i j:Nat) (h:i<l.length):(lw turn l i j).getD i ⟨0,0,[]⟩=⟨l[i].control,l[i].parent,(l[i].links.take j).map turn++l[i].links.drop j⟩:=by
 simp [lw,h]
theorem BJ (turn:Int→Int) (l:List Nd) (i j:Nat) (h:i<l.length) (hj:j<l[i].links.length):((lw turn l i j).getD i ⟨0,0,[]⟩).links.getD j 0=l[i].links[j]:=by
 rw [qV turn l i j h]
 show ((l[i].links.take j).map turn++l[i].links.drop j).getD j 0=_
 rw [List.getD_eq_getElem?_getD,List.getElem?_append_right (by simp;omega)]
 simp [Nat.min_eq_left (Nat.le_of_lt hj),hj]
theorem zB (turn:Int→Int) (l:List Nd) (i j:Nat) (h:i<l.length) (hj:j≤l[i].links.length):((lw turn l i j).getD i ⟨0,0,[]⟩).links.length=l[i].links.length:=by
 rw [qV turn l i j h]
 simp
 omega
theorem C9 (turn:Int→Int) (l:List Nd) (i j:Nat) (h:i<l.length) (hj:j<l[i].links.length):uJ (lw turn l i j) i j (turn l[i].links[j])=lw turn l i (j+1):=by
 unfold uJ
 rw [qV turn l i j h]
 refine List.ext_getElem (by simp [lw]) fun k h1 h2=>?_
 rw [List.getElem_set]
 split
 ·rename_i e
  subst e
  simp only [lw,List.getElem_mapIdx,Nat.lt_irrefl,if_false,if_true]
  congr 1
  rw [List.set_append_right _ _ (by simp;omega)]
  have:j - ((l[i].links.take j).map turn).length=0:=by simp;omega
  rw [this,List.drop_eq_getElem_cons hj,List.set_cons_zero,List.take_succ_eq_append_getElem hj,List.map_append,List.append_assoc]
  rfl
 ·rename_i e
  simp only [lw,List.getElem_mapIdx]
  have hk:¬k=i:=fun e'=>e e'.symm
  simp only [if_neg hk]
def nq (turn:Int→Int) (l:List Wr) (i:Nat):List Wr:=l.mapIdx fun k x=>⟨x.name,if k<i then turn x.link else x.link⟩
abbrev JJ (b:Big):List Pt:=[.d (.i b.roots),.tk (.deep 3 151 (b.nodes.map Nd.D) []),.tk (.row 1 3 (b.sites.map .i)),.d (.i b.edges),.d (DS b.outer),.tk (.row 2 153 (b.inner.map Wr.D))]
theorem wN (turn:Int→Int) (l:List Wr) (i:Nat):(nq turn l i).length=l.length:=by simp [nq]
theorem BU (turn:Int→Int) (l:List Wr):nq turn l 0=l:=by
 refine List.ext_getElem (by simp [nq]) fun k h1 h2=>?_
 simp [nq]
theorem D6 (turn:Int→Int) (l:List Wr):nq turn l l.length=l.map fun w=>⟨w.name,turn w.link⟩:=by
 refine List.ext_getElem (by simp [nq]) fun k h1 h2=>?_
 simp only [nq,List.getElem_mapIdx,List.getElem_map]
 rw [if_pos (by simpa using h2)]
theorem zP (turn:Int→Int) (l:List Wr) (i:Nat) (h:i<l.length):(nq turn l i)[i]'(by rw [wN];exact h)=l[i]:=by simp [nq]
theorem CD (turn:Int→Int) (l:List Wr) (i:Nat) (h:i<l.length):(nq turn l i).set i ⟨l[i].name,turn l[i].link⟩=nq turn l (i+1):=by
 refine List.ext_getElem (by simp [nq]) fun k h1 h2=>?_
 rw [List.getElem_set]
 simp only [nq,List.getElem_mapIdx]
 split
 ·rename_i e;subst e;rw [if_pos (by omega)]
 ·rename_i e
  congr 1
  by_cases hk:k<i
  ·rw [if_pos hk,if_pos (by omega)]
  ·rw [if_neg hk,if_neg (by omega)]
theorem mM (b:Big) (E:Int) (names:List ByteArray) (g:Nat) (cs:List D) (F:Int × ByteArray→Int × ByteArray) (hct:(cs.all fun r=>!isT r)=true) (hd:vz b) (hi:b.inner.length≤1000) (h0:0≤b.edges∧b.edges≤1000) (hE:0≤E∧E≤1000) (hn:names.length≤1000) (hnl:∀x∈b.nodes,∀l∈x.links,(0≤l∧l<b.edges+b.outer.length)) (hil:∀x∈b.inner,(0≤x.link∧x.link<b.edges+b.outer.length))
 (hg:∀l,(0≤l∧l<b.edges+b.outer.length)→FnD Tryz.prog g ([sK (iC b l)]++cs) (.d (sK (F (iC b l))))):FnO Tryz.prog 338 [b.D,.i E,DS names,.f g cs] [6] (JJ (xC b E (cH names) fun l=>nL E (cH names) (F (iC b l)))):=by
 have f1:=nr b hd hi
 have f2:=ld names hn
 obtain ⟨_,_,hd3,_,hd5,_,hd7⟩:=hd
 have hsn:(cH names).length≤1000:=by have h:=kk names [];unfold cH;simp at h;omega
 generalize hturn:(fun l=>nL E (cH names) (F (iC b l)))=turn
 have f3:∀l,(0≤l∧l<b.edges+b.outer.length)→FnD Tryz.prog 364 [.i l,.p (.f g cs),.p b.D,.p (.i E),.p (.t [.i b.roots,.any,.any,.i E,DS (cH names),.any])] (.d (.i (turn l))):=fun l hl=>by
  rw [← hturn]
  exact tV b E (cH names) g cs l _ hct h0 (by omega) hd5 hE hsn (hg l hl)
 refine cR Tryz.func338 (fun hw W0=>?_)
 refine kgo ?_
 refine rL 7 (.f g cs) ?_
 refine rL 4 b.D ?_
 refine rL 5 (.i E) ?_
 refine Jy 9 ?_
 refine kgo ?_
 refine GA 31018 (t':=.deep 3 151 ((lw turn b.nodes 0 0).map Nd.D) []) (by rw [zE]) ?_
 refine ai [8,9,10,26,27] (fun i:Nat=>i≤b.nodes.length) (fun i=>b.nodes.length - i) (fun i=>[(28,.sy (.d (.i i))),(31018,.tk (.deep 3 151 ((lw turn b.nodes i 0).map Nd.D) []))]) 0 (Nat.zero_le _) (fun i hi=>?_)
 refine kgo ?_
 refine aL (fun h=>?_) (fun h=>?_)
 ·have hlt:i<b.nodes.length:=by simpa using h
  have hll:=wh turn b.nodes i 0
  have hln:((lw turn b.nodes i 0)[i]'(by omega)).links.length=b.nodes[i].links.length:=by
   have:=zB turn b.nodes i 0 hlt (Nat.zero_le _)
   rwa [List.getD_eq_getElem?_getD,List.getElem?_eq_getElem (by omega),Option.getD_some] at this
  have hl7:=hd7 i hlt
  refine JF 31018 i (l:=lw turn b.nodes i 0) (by omega) (fun ad k hmx hsl=>?_)
  rw [hln]
  have hm2:b.nodes[i].links.length≤maxLen:=by rwa [hln] at hmx
  refine kgo ?_
  refine ai [8,9,10,12,26,27,28,33,34] (fun j:Nat=>j≤b.nodes[i].links.length) (fun j=>b.nodes[i].links.length - j) (fun j=>[(35,.sy (.d (.i j))),(31018,.tk (.deep 3 151 ((lw turn b.nodes i j).map Nd.D) [(i * 3+2,.slice ad b.nodes[i].links.length k)]))]) 0 (Nat.zero_le _) (fun j hj=>?_)
  refine kgo ?_
  refine aL (fun h2=>?_) (fun h2=>?_)
  ·have hlj:j<b.nodes[i].links.length:=by omega
   have hmj:j<((lw turn b.nodes i j).getD i ⟨0,0,[]⟩).links.length:=by rw [zB turn b.nodes i j hlt (by omega)];exact hlj
   have hli:=wh turn b.nodes i j
   have f4:=f3 (((lw turn b.nodes i j).getD i ⟨0,0,[]⟩).links.getD j 0) (by rw [BJ turn b.nodes i j hlt hlj];exact hnl _ (List.getElem_mem hlt) _ (List.getElem_mem hlj))
   have hset:((uJ (lw turn b.nodes i j) i j (turn (((lw turn b.nodes i j).getD i ⟨0,0,[]⟩).links.getD j 0))).map Nd.D)=(lw turn b.nodes i (j+1)).map Nd.D:=by rw [BJ turn b.nodes i j hlt hlj,C9 turn b.nodes i j hlt hlj]
   rcases hsl with hsl|⟨b0,o0,rfl⟩
   ·rw [hsl] at hln;simp at hln;omega
   refine kgo ?_
   refine G6 31018 ?_
   refine kgo ?_
   refine Fe 31018 ?_
   refine kgo ?_
   exact af (j+1) hlj (by omega) (hs:=⟨⟨rfl,rfl⟩,⟨z7 rfl hset,rfl⟩,by repeat (first|exact trivial|refine ⟨⟨rfl,rfl⟩,?_⟩)⟩)
  obtain rfl:j=b.nodes[i].links.length:=by omega
  rw [Cy turn b.nodes i hlt]
  refine H6 31018 ?_
  refine kgo ?_
  exact af (i+1) hlt (by omega) (hs:=⟨⟨rfl,rfl⟩,⟨rfl,rfl⟩,by repeat (first|exact trivial|refine ⟨⟨rfl,rfl⟩,?_⟩)⟩)
 obtain rfl:i=b.nodes.length:=by have:=h;simp at this;omega
 rw [Dc]
 refine kgo ?_
 refine GA 35018 (t':=.row 2 153 ((nq turn b.inner 0).map Wr.D)) (by rw [BU]) ?_
 refine ai [8,9,10,50,51] (fun i:Nat=>i≤b.inner.length) (fun i=>b.inner.length - i) (fun i=>[(52,.sy (.d (.i i))),(35018,.tk (.row 2 153 ((nq turn b.inner i).map Wr.D)))]) 0 (Nat.zero_le _) (fun i hi=>?_)
 refine kgo ?_
 refine aL (fun h=>?_) (fun h=>?_)
 ·have hlt:i<b.inner.length:=by simpa using h
  have hli:=wN turn b.inner i
  have hlt':i<(nq turn b.inner i).length:=by omega
  have f4:=f3 ((nq turn b.inner i)[i].link) (by rw [zP turn b.inner i hlt];exact hil _ (List.getElem_mem hlt))
  have hs:((nq turn b.inner i).set i ⟨((nq turn b.inner i)[i]).name,turn ((nq turn b.inner i)[i]).link⟩).map Wr.D=(nq turn b.inner (i+1)).map Wr.D:=by rw [zP turn b.inner i hlt,CD turn b.inner i hlt]
  refine kgo ?_
  refine Ex (f:=Wr.D) (l:=nq turn b.inner i) ?_
  refine kgo ?_
  refine au (f:=Wr.D) (l:=nq turn b.inner i) ⟨((nq turn b.inner i)[i]).name,turn ((nq turn b.inner i)[i]).link⟩ ?_
  refine kgo ?_
  exact af (i+1) hlt (by omega)
 obtain rfl:i=b.inner.length:=by have:=h;simp at this;omega
 rw [D6]
 refine kgo ?_
 exact gK (hp:=.cons (.d rfl) (.cons (.k rfl rfl) (.cons (.k rfl rfl) (.cons (.d rfl) (.cons (.d rfl) (.cons (.k rfl rfl) .nil))))))
end Go.Proofs.YtacafmejcdgboaaGreatDoor
namespace Go.Proofs.YtacafmejcdgboaaGreatDoor
open Go.RowKit
set_option linter.unusedVariables false
set_option maxRecDepth 100000
set_option maxHeartbeats 4000000
theorem FnD.arg {P:Program} {f:Nat} {ds ds':List D} {r:Ro} (h:FnD P f ds r) (hd:∀w F vs,DVs w F ds' vs→DVs w F ds vs):FnD P f ds' r:=⟨h.enter,fun F w vs hv hF=>h.calls F w vs (hd _ _ _ hv) hF⟩
theorem wS {w:World} {F:BS} {z:Nat} {v:Value} (h:DV w F (.n z) v):DV w F (.l z []) v:=by
 obtain ⟨a,h⟩:=h
 exact ⟨a,0,h,Nat.le_refl _,by decide,fun _=>rfl,.inl rfl⟩
def Gr (σ:Env):List Operand→Option (List D)
 | []=>some []
 | x :: xs=>match (match x with | .const (.slice none 0 0)=>some (.n 1)|x=>(ev σ x).bind Sy.arg),Gr σ xs with
  | some r,some rs=>some (r :: rs)
  | _,_=>none
theorem qO {W0:bN} {N:Nat} {a:Act} {w:World} {c:Cx} {σ σ':Env} (h:aC W0 N σ' a w c):∀(xs:List Operand) (ds:List D),Gr σ xs=some ds→(∀κ∈kxs xs,aj σ' κ=aj σ κ)→DVs w c.F ds (xs.map a.eval):=by
 intro xs
 induction xs with
 | nil=>intro ds he _;cases he;exact rfl
 | cons x xs ih=>
  intro ds he hk
  unfold Gr at he
  split at he
  ·rename_i r rs h1 h2
   cases he
   refine ⟨_,_,rfl,?_,ih rs h2 (fun κ hκ=>hk κ (by simp [kxs,hκ]))⟩
   split at h1
   ·cases h1;exact ⟨none,rfl⟩
   ·rw [Option.bind_eq_some_iff] at h1
    obtain ⟨s,h3,h4⟩:=h1
    exact BK h4 (am h (ab h3 (fun κ hκ=>hk κ (by simp [kxs,hκ]))))
  ·cases he
section
variable {P:Program} {ops:Array Oper} {W0:bN} {N:Nat} {Fin:Us→Env→Prop} {os:List Oper} {us:Us} {pk fk:List Nat} {σ:Env} {g:Option (Nat × Bool)} {gk:List Nat} {d ty f:Nat} {pos:String} {after:Array Edge} {at':Array TypeId} {xs:List Operand} {ds:List D}
theorem wA {r:D} (h:Der P ops W0 N Fin os (us++[((d :: (gk++kxs xs))++pk,([d])++fk)]) [] [] ((d,.sy (.d r)) :: σ)) (hx:Gr σ xs=some ds:=by rfl) (hf:FnD P f ds (.d r):=by assumption) (hg:gst ops σ g=some (true,gk):=by rfl) (hN:Nat.blt d N=true:=by rfl) (hs:aE σ d=true:=by rfl):Der P ops W0 N Fin (⟨some d,.call { callee:=.value (.func f),args:=xs.toArray,argTypes:=at' },ty,pos,after,g⟩ :: os) us pk fk σ:=
 js (.d r) (kxs xs) [] (fun σ' c a w hk hc=>by
  unfold Oper.wp
  rw [bE hf.enter rfl]
  refine (hf.calls c.F w _ (qO hc xs ds hx hk) hc.lt).mono ?_
  rintro e w' ⟨v,rfl,hX,hv⟩
  exact ⟨v,_,rfl,hc.fresh hX,hv⟩) h hg hN hs rfl
end
attribute [local irreducible] ar Der At
theorem uN (a:Big) (ns:List ByteArray) (s:ByteArray) (q:Nat) (hq:jx ns s=q) (hql:q<a.inner.length) (hi:a.inner.length≤1000) (h0:0≤a.edges∧a.edges≤1000) (h1:a.inner[q].link<a.edges+a.outer.length) (ho:a.outer.length≤1000):FnD Tryz.prog 305 [.s s,.p a.D,.p (DS ns)] (.d (sK (iC a a.inner[q].link))):=by
 have f1:=nI ns s
 rw [hq] at f1
 have f2:=AC a a.inner[q].link h0 (by omega) ho
 refine ah Tryz.func305 (fun hw W0=>?_)
 refine kgo ?_
 exact aq
def yW (a:Big) (L:ByteArray→Int × ByteArray) (e:Int × ByteArray):Int × ByteArray:=if e.2=⟨#[]⟩ then (e.1+a.edges,⟨#[]⟩) else L e.2
def AN (a:Big) (Pl:Int→Int) (p:Int):Int:=if 0≤p then p+a.nodes.length else Pl p
def Ef (a:Big) (Pl:Int→Int) (x:Nd):Nd:=⟨x.control,AN a Pl x.parent,x.links⟩
theorem wF {α β:Type} (f:α→β) (u:List β) (l:List α) (i:Nat) (h:i<l.length):u++(l.take (i+1)).map f=(u++(l.take i).map f)++[f l[i]]:=by rw [List.take_succ_eq_append_getElem h,List.map_append,List.append_assoc];rfl
def rR (a b:Big) (roots:Int) (sites:List Int) (ns:List ByteArray) (L:ByteArray→Int × ByteArray) (Pl:Int→Int):Big:=
 let A:=xC a (a.edges+b.edges) ns fun l=>nL (a.edges+b.edges) ns (id (iC a l))
 let R:=xC b (a.edges+b.edges) ns fun l=>nL (a.edges+b.edges) ns (yW a L (iC b l))
 ⟨roots,A.nodes++R.nodes.map (Ef a Pl),sites++b.sites.map (AN a Pl),a.edges+b.edges,ns,R.inner⟩
theorem wC (a b:Big) (roots:Int) (sites:List Int) (names:List ByteArray) (gp gl:Nat) (cp cl:List D) (L:ByteArray→Int × ByteArray) (Pl:Int→Int) (hcp:(cp.all fun r=>!isT r)=true) (hcl:(cl.all fun r=>!isT r)=true) (da:vz a) (db:vz b) (ia:a.inner.length≤1000) (ib:b.inner.length≤1000) (ea:0≤a.edges∧a.edges≤500) (eb:0≤b.edges∧b.edges≤500) (hn:names.length≤1000) (hs:sites.length≤1000)
 (la:∀x∈a.nodes,∀l∈x.links,(0≤l∧l<a.edges+a.outer.length)) (wa:∀x∈a.inner,(0≤x.link∧x.link<a.edges+a.outer.length)) (lb:∀x∈b.nodes,∀l∈x.links,(0≤l∧l<b.edges+b.outer.length)) (wb:∀x∈b.inner,(0≤x.link∧x.link<b.edges+b.outer.length))
 (hpl:∀x∈b.nodes,x.parent≤1000∧(x.parent<0→FnD Tryz.prog gp ([.i x.parent]++cp) (.d (.i (Pl x.parent))))) (hps:∀p∈b.sites,p≤1000∧(p<0→FnD Tryz.prog gp ([.i p]++cp) (.d (.i (Pl p)))))
 (hL:∀l,(0≤l∧l<b.edges+b.outer.length)→FnD Tryz.prog 342 [sK (iC b l),.p a.D,.p (.f gl cl)] (.d (sK (yW a L (iC b l))))):FnD Tryz.prog 303 [a.D,b.D,.i roots,DI sites,DS names,.f gp cp,.f gl cl] (.d (rR a b roots sites (cH names) L Pl).D):=by
 have f1:=mM a (a.edges+b.edges) names 341 [] id rfl da ia ⟨by omega,by omega⟩ ⟨by omega,by omega⟩ hn la wa (fun l _=>BN _)
 have f2:=(mM b (a.edges+b.edges) names 342 [.p a.D,.p (.f gl cl)] (yW a L) rfl db ib ⟨by omega,by omega⟩ ⟨by omega,by omega⟩ hn lb wb hL).toD
 have f3:=kl sites hs
 obtain ⟨R,hR⟩:∃R,R=xC b (a.edges+b.edges) (cH names) fun l=>nL (a.edges+b.edges) (cH names) (yW a L (iC b l)):=⟨_,rfl⟩
 rw [← hR] at f2
 have hRn:∀x∈R.nodes,x.parent≤1000∧(x.parent<0→FnD Tryz.prog gp ([.i x.parent]++cp) (.d (.i (Pl x.parent)))):=fun x hx=>by
  rw [hR] at hx
  obtain ⟨y,hy,rfl⟩:=List.mem_map.1 hx
  exact hpl y hy
 have hRl:R.nodes.length≤1000:=by rw [hR];simp [xC];exact db.nodes
 obtain ⟨A,hA⟩:∃A,A=xC a (a.edges+b.edges) (cH names) fun l=>nL (a.edges+b.edges) (cH names) (id (iC a l)):=⟨_,rfl⟩
 rw [← hA] at f1
 have hAl:A.nodes.length≤1000:=by rw [hA];simp [xC];exact da.nodes
 refine ah Tryz.func303 (fun hw W0=>?_)
 refine kgo ?_
 refine rL 7 a.D ?_
 refine rL 13 (.f gl cl) ?_
 refine kgo ?_
 refine I3 31031 ?_
 refine GA 31031 (t':=.row 3 151 ((A.nodes++(R.nodes.take 0).map (Ef a Pl)).map Nd.D)) (by rw [List.take_zero,List.map_nil,List.append_nil]) ?_
 refine ai [5,7,8,14,18,49,50,10041] (fun i:Nat=>i≤R.nodes.length) (fun i=>R.nodes.length - i) (fun i=>[(51,.sy (.d (.i i))),(10018,.tk (.bx [.d (.i roots),.k 20001,.k 10041,.d (.i (a.edges+b.edges)),.d (DS A.outer),.d (.l 2 (R.inner.map Wr.D))])),(20001,.tk (.row 3 151 ((A.nodes++(R.nodes.take i).map (Ef a Pl)).map Nd.D)))]) 0 (Nat.zero_le _) (fun i hi=>?_)
 refine kgo ?_
 refine aL (fun h=>?_) (fun h=>?_)
 ·have hlt:i<R.nodes.length:=by simpa using h
  have hx:=hRn _ (List.getElem_mem hlt)
  have f4:=zN a R.nodes[i].parent (Pl R.nodes[i].parent) gp cp hcp hx.1 da.nodes hx.2
  have hs2:(A.nodes++(R.nodes.take (i+1)).map (Ef a Pl)).map Nd.D=(A.nodes++(R.nodes.take i).map (Ef a Pl)).map Nd.D++[(Ef a Pl R.nodes[i]).D]:=by rw [wF _ _ _ _ hlt,List.map_append];rfl
  refine kgo ?_
  exact af (i+1) hlt (by omega) (hs:=⟨⟨rfl,rfl⟩,⟨rfl,rfl⟩,⟨jY rfl hs2.symm,rfl⟩,by repeat (first|exact trivial|refine ⟨⟨rfl,rfl⟩,?_⟩)⟩)
 obtain rfl:i=R.nodes.length:=by have:=h;simp at this;omega
 rw [List.take_length]
 refine kgo ?_
 refine GA 10041 (t':=.row 1 3 ((sites++(b.sites.take 0).map (AN a Pl)).map D.i)) (by rw [List.take_zero,List.map_nil,List.append_nil]) ?_
 refine ai [5,7,14,18,69,70,20001] (fun i:Nat=>i≤b.sites.length) (fun i=>b.sites.length - i) (fun i=>[(71,.sy (.d (.i i))),(10018,.tk (.bx [.d (.i roots),.k 20001,.k 20002,.d (.i (a.edges+b.edges)),.d (DS A.outer),.d (.l 2 (R.inner.map Wr.D))])),(20002,.tk (.row 1 3 ((sites++(b.sites.take i).map (AN a Pl)).map D.i)))]) 0 (Nat.zero_le _) (fun i hi=>?_)
 refine kgo ?_
 refine aL (fun h=>?_) (fun h=>?_)
 ·have hlt:i<b.sites.length:=by simpa using h
  have hx:=hps _ (List.getElem_mem hlt)
  have hbl:=db.sites
  have f4:=zN a b.sites[i] (Pl b.sites[i]) gp cp hcp hx.1 da.nodes hx.2
  have hs2:(sites++(b.sites.take (i+1)).map (AN a Pl)).map D.i=(sites++(b.sites.take i).map (AN a Pl)).map D.i++[.i (AN a Pl b.sites[i])]:=by rw [wF _ _ _ _ hlt,List.map_append];rfl
  refine kgo ?_
  exact af (i+1) hlt (by omega) (hs:=⟨⟨rfl,rfl⟩,⟨rfl,rfl⟩,⟨jY rfl hs2.symm,rfl⟩,by repeat (first|exact trivial|refine ⟨⟨rfl,rfl⟩,?_⟩)⟩)
 obtain rfl:i=b.sites.length:=by have:=h;simp at this;omega
 rw [List.take_length]
 refine bB (aB (aB (bC (aN ?_))))
 refine ou 10018 1 ?_
 refine ou 10018 2 ?_
 refine kgo ?_
 rw [show rR a b roots sites (cH names) L Pl=⟨roots,A.nodes++R.nodes.map (Ef a Pl),sites++b.sites.map (AN a Pl),a.edges+b.edges,A.outer,R.inner⟩ from by rw [hA,hR];rfl]
 exact aq
theorem xv (a b:Big) (da:vz a) (db:vz b) (ia:a.inner.length≤1000) (ib:b.inner.length≤1000) (ea:0≤a.edges∧a.edges≤500) (eb:0≤b.edges∧b.edges≤500)
 (la:∀x∈a.nodes,∀l∈x.links,(0≤l∧l<a.edges+a.outer.length)) (wa:∀x∈a.inner,(0≤x.link∧x.link<a.edges+a.outer.length)) (lb:∀x∈b.nodes,∀l∈x.links,(0≤l∧l<b.edges+b.outer.length)) (wb:∀x∈b.inner,(0≤x.link∧x.link<b.edges+b.outer.length))
 (hpl:∀x∈b.nodes,x.parent≤1000∧(x.parent<0→0≤-1 - x.parent∧-1 - x.parent<a.sites.length)) (hps:∀p∈b.sites,p≤1000∧(p<0→0≤-1 - p∧-1 - p<a.sites.length))
 (hL:∀s∈b.outer,∃q:Nat,jx (a.inner.map Wr.name) s=q∧q<a.inner.length):FnD Tryz.prog 272 [a.D,b.D] (.d (rR a b a.roots [] (cH a.outer) (fun s=>iC a (a.inner.getD (jx (a.inner.map Wr.name) s).toNat ⟨⟨#[]⟩,0⟩).link) (fun p=>atI a.sites (-1 - p))).D):=by
 have f1:=(gy a ia).toL
 have hX:∀l,(0≤l∧l<b.edges+b.outer.length)→¬(iC b l).2=⟨#[]⟩→FnD Tryz.prog 305 ([.s (iC b l).2]++[.p a.D,.p (DS (a.inner.map Wr.name))]) (.d (sK (iC a (a.inner.getD (jx (a.inner.map Wr.name) (iC b l).2).toNat ⟨⟨#[]⟩,0⟩).link))):=fun l hl hne=>by
  have hm:(iC b l).2∈b.outer:=by
   unfold iC at hne ⊢
   split at hne
   ·exact absurd rfl hne
   ·rename_i hge
    rw [if_neg hge]
    have hlt:(l - b.edges).toNat<b.outer.length:=by omega
    show b.outer.getD (l - b.edges).toNat ⟨#[]⟩∈b.outer
    rw [List.getD_eq_getElem?_getD,List.getElem?_eq_getElem hlt]
    exact List.getElem_mem hlt
  obtain ⟨q,hq,hql⟩:=hL _ hm
  have f:=uN a (a.inner.map Wr.name) (iC b l).2 q hq hql ia ⟨ea.1,by omega⟩ (wa _ (List.getElem_mem hql)).2 da.outer
  rw [hq,Int.toNat_natCast,List.getD_eq_getElem?_getD,List.getElem?_eq_getElem hql]
  exact f
 have f2:=(wC a b a.roots [] a.outer 304 305 [.p a.D] [.p a.D,.p (DS (a.inner.map Wr.name))] (fun s=>iC a (a.inner.getD (jx (a.inner.map Wr.name) s).toNat ⟨⟨#[]⟩,0⟩).link) (fun p=>atI a.sites (-1 - p)) rfl rfl da db ia ib ea eb da.outer (Nat.zero_le _) la wa lb wb
  (fun x hx=>⟨(hpl x hx).1,fun h=>oL a x.parent ((hpl x hx).2 h) da.sites⟩) (fun p hp=>⟨(hps p hp).1,fun h=>oL a p ((hps p hp).2 h) da.sites⟩)
  (fun l hl=>sd a _ _ (iC b l) _ rfl (by have h1:=hl.1;have h2:=eb.2;unfold iC;split <;> (constructor <;> dsimp only <;> omega)) ⟨ea.1,by omega⟩ (hX l hl))).arg (ds':=[a.D,b.D,.i a.roots,.n 1,DS a.outer,.f 304 [.p a.D],.f 305 [.p a.D,.p (DS (a.inner.map Wr.name))]]) (fun w F vs h=>by
   obtain ⟨v1,t1,rfl,h1,v2,t2,rfl,h2,v3,t3,rfl,h3,v4,t4,rfl,h4,h5⟩:=h
   exact ⟨_,_,rfl,h1,_,_,rfl,h2,_,_,rfl,h3,_,_,rfl,wS h4,h5⟩)
 refine ah Tryz.func272 (fun hw W0=>?_)
 refine kgo ?_
 refine rL 2 a.D ?_
 refine rL 5 (DS (a.inner.map Wr.name)) ?_
 refine kgo ?_
 refine wA (hf:=f2) ?_
 refine kgo ?_
 exact aq
end Go.Proofs.YtacafmejcdgboaaGreatDoor
namespace Go.Proofs.YtacafmejcdgboaaGreatDoor
open Go.RowKit
set_option linter.unusedVariables false
set_option maxRecDepth 100000
set_option maxHeartbeats 4000000
attribute [local irreducible] ar Der At
def B3 (a b:Big):Bool:=decide ((a.sites.length:Int)=b.roots) && eqS (a.inner.map Wr.name) b.outer
def zt (a b:Big):Big:=rR a b a.roots [] (cH a.outer) (fun s=>iC a (a.inner.getD (jx (a.inner.map Wr.name) s).toNat ⟨⟨#[]⟩,0⟩).link) (fun p=>atI a.sites (-1 - p))
def mz (sig:List Ctl) (a b:Big):Bool:=aF sig a && (aF sig b && (B3 a b && aF sig (zt a b)))
theorem mL (sig:List Ctl) (a b:Big) (ia:a.inner.length≤1000) (ib:b.inner.length≤1000) (hc:aF sig a=true→aF sig b=true→B3 a b=true→(zt a b).inner.length≤1000∧FnD Tryz.prog 272 [a.D,b.D] (.d (zt a b).D)):FnO Tryz.prog 240 [.l 3 (sig.map Ctl.D),a.D,b.D] [6,0] (B8 (yZ (mz sig a b) (zt a b))++[.d (.b (mz sig a b))]):=by
 have f1:=dU sig a (by omega)
 have f2:=dU sig b (by omega)
 have f3:FnD Tryz.prog 271 [a.D,b.D] (.d (.b (B3 a b))):=Ip a b ia
 refine cR Tryz.func240 (fun hw W0=>?_)
 refine kgo ?_
 cases ga:aF sig a
 ·rw [show mz sig a b=false from by simp [mz,ga]]
  refine kgo ?_
  exact gK (hp:=.cons (.d rfl) (.cons .m (.cons .n (.cons (.d rfl) (.cons .n (.cons .n (.cons (.d rfl) .nil)))))))
 refine kgo ?_
 cases gb:aF sig b
 ·rw [show mz sig a b=false from by simp [mz,gb]]
  refine kgo ?_
  exact gK (hp:=.cons (.d rfl) (.cons .m (.cons .n (.cons (.d rfl) (.cons .n (.cons .n (.cons (.d rfl) .nil)))))))
 refine kgo ?_
 cases gf:B3 a b
 ·rw [show mz sig a b=false from by simp [mz,gf]]
  refine kgo ?_
  exact gK (hp:=.cons (.d rfl) (.cons .m (.cons .n (.cons (.d rfl) (.cons .n (.cons .n (.cons (.d rfl) .nil)))))))
 obtain ⟨h1,f4⟩:=hc ga gb gf
 have f5:=oc sig (zt a b) h1
 rw [show mz sig a b=aF sig (zt a b) from by simp [mz,ga,gb,gf]]
 refine kgo ?_
 exact gK (hp:=.cons (.d rfl) (.cons (.k rfl rfl) (.cons (.k rfl rfl) (.cons (.d rfl) (.cons (.k rfl rfl) (.cons (.k rfl rfl) (.cons (.d rfl) .nil)))))))
end Go.Proofs.YtacafmejcdgboaaGreatDoor
namespace Go.Proofs.YtacafmejcdgboaaGreatDoor
open Go.RowKit
set_option linter.unusedVariables false
set_option linter.unusedSimpArgs false
theorem Et {a c:List ByteArray} (h:eqS a c=true):a=c:=by
 unfold eqS at h
 simp only [Bool.and_eq_true,decide_eq_true_eq] at h
 refine List.ext_getElem h.1 (fun i h1 h2=>?_)
 have:=(aG _ _).1 h.2 i h1
 rw [mt a c i h1 h2,beq_iff_eq] at this
 exact fU this
structure rE (b:Big):Prop where
 dims:vz b
 roots:0≤b.roots∧b.roots≤4
 edges:0≤b.edges∧b.edges≤8
 nodes:b.nodes.length≤8
 sitesN:b.sites.length≤4
 outer:b.outer.length≤16
 inner:b.inner.length≤16
 links:∀x∈b.nodes,∀l∈x.links,0≤l∧l<b.edges+b.outer.length
 wires:∀x∈b.inner,0≤x.link∧x.link<b.edges+b.outer.length
 pars:∀x∈b.nodes,-b.roots≤x.parent∧x.parent≤8
 sites:∀p∈b.sites,-b.roots≤p∧p≤8
 names:b.outer.Pairwise NLt
 inames:(b.inner.map Wr.name).Pairwise NLt
 full:∀s∈b.outer,s≠⟨#[]⟩
theorem xS {l:List ByteArray} (h:dj l=true):∀s∈l,s≠⟨#[]⟩:=fun s hs e=>by
 obtain ⟨i,hi,rfl⟩:=List.mem_iff_getElem.1 hs
 have h2:=(aG _ _).1 (Bool.and_eq_true_iff.1 h).1 i hi
 rw [rx l i hi] at h2
 have h3:=(Bool.and_eq_true_iff.1 h2).1
 unfold dp at h3
 have h4:=bK (Bool.and_eq_true_iff.1 h3).1
 rw [e] at h4
 have:(ByteArray.mk #[]).size=0:=rfl
 omega
theorem dB {sig:List Ctl} {b:Big} (h:aF sig b=true):rE b:=by
 obtain ⟨h1,h2,h3,h4⟩:=ee h
 obtain ⟨_,_,_,_,_,ho,hi⟩:=eU h1
 obtain ⟨r,n,s,e,o,i⟩:=aJ h
 refine ⟨bu h,r,e,n,s,o,i,fun x hx l hl=>?_,fun x hx=>?_,fun x hx=>?_,fun p hp=>?_,tb ho,tb hi,xS ho⟩
 ·obtain ⟨k,hk,rfl⟩:=List.mem_iff_getElem.1 hx
  have:=bK ((eW h k hk).2.2.2.2 l hl)
  omega
 ·have:=bK (List.all_eq_true.1 h4 x hx)
  omega
 ·obtain ⟨k,hk,rfl⟩:=List.mem_iff_getElem.1 hx
  have:=iI h k hk
  omega
 ·have:=List.all_eq_true.1 h3 p hp
  unfold gx di at this
  split at this
  ·simp only [decide_eq_true_eq] at this;omega
  ·simp only [Bool.and_eq_true,decide_eq_true_eq] at this;omega
theorem ve (xs ys:List Int) (l:Int) (h0:0≤l):atI (xs++ys) l=if l<(xs.length:Int) then atI xs l else atI ys (l - xs.length):=by
 unfold atI
 rw [List.getD_eq_getElem?_getD,List.getD_eq_getElem?_getD,List.getD_eq_getElem?_getD,List.getElem?_append]
 by_cases h:l<(xs.length:Int)
 ·rw [if_pos h,if_pos (by omega)]
 ·rw [if_neg h,if_neg (by omega),show l.toNat - xs.length=(l - xs.length).toNat by omega]
theorem mS {α:Type} (f:α→Int) (l:List α) (i:Nat) (h:i<l.length):atI (l.map f) (i:Int)=f l[i]:=by
 rw [cE _ i (by simpa using h),List.getElem_map]
theorem nY (m:Int) (n:Nat) (l:Int) (h0:0≤l) (h1:l<n):atI (eN m n) l=m+l:=by
 obtain ⟨i,rfl⟩:=Int.eq_ofNat_of_zero_le h0
 unfold eN
 rw [mS _ _ i (by simp;omega),List.getElem_range]
theorem sp (m:Int) (n:Nat) (l:Int) (h0:0≤l) (h1:l<n):atI (cV m n) l = -1 - m - l:=by
 obtain ⟨i,rfl⟩:=Int.eq_ofNat_of_zero_le h0
 unfold cV
 rw [mS _ _ i (by simp;omega),List.getElem_range]
theorem El {r p:Int} (h0:0≤r) (h : -r≤p):upF 0 (cV 0 r.toNat) p=p:=by
 unfold upF
 split
 ·rw [sp _ _ _ (by omega) (by omega)];omega
 ·omega
theorem wo {r:Int} {l:List Int} (h0:0≤r) (h:∀p∈l,-r≤p):dv 0 (cV 0 r.toNat) l=l:=by
 unfold dv
 conv=>rhs;rw [← List.map_id l]
 exact List.map_congr_left fun p hp=>El h0 (h p hp)
theorem Ey {b:Big} (o:rE b) (m E:Int) (ns:List ByteArray) (l:Int) (h:0≤l∧l<b.edges+b.outer.length) :
 atI (eN m b.edges.toNat++dx b.outer E ns) l=if l<b.edges then m+l else E+jx ns (b.outer.getD (l - b.edges).toNat ⟨#[]⟩):=by
 have he:=o.edges
 rw [ve _ _ _ h.1,eF]
 by_cases hl:l<b.edges
 ·rw [if_pos (by omega),if_pos hl,nY _ _ _ h.1 (by omega)]
 ·rw [if_neg (by omega),if_neg hl]
  have hj:(l - b.edges).toNat<b.outer.length:=by omega
  rw [show l - ((b.edges.toNat:Nat):Int)=((l - b.edges).toNat:Nat) by omega]
  unfold dx
  rw [mS _ _ _ hj,List.getD_eq_getElem?_getD,List.getElem?_eq_getElem hj];rfl
theorem ul {b:Big} (o:rE b) {l:Int} (h:¬l<b.edges) (h1:l<b.edges+b.outer.length):∃hj:(l - b.edges).toNat<b.outer.length,b.outer.getD (l - b.edges).toNat ⟨#[]⟩=b.outer[(l - b.edges).toNat]∧b.outer[(l - b.edges).toNat]≠⟨#[]⟩:=by
 have hj:(l - b.edges).toNat<b.outer.length:=by omega
 exact ⟨hj,by rw [List.getD_eq_getElem?_getD,List.getElem?_eq_getElem hj];rfl,o.full _ (List.getElem_mem hj)⟩
theorem Ah {a:Big} (o:rE a) (E:Int) (ns:List ByteArray) (l:Int) (h:0≤l∧l<a.edges+a.outer.length) :
 nL E ns (id (iC a l))=atI (eN 0 a.edges.toNat++dx a.outer E ns) l:=by
 rw [Ey o 0 E ns l h]
 unfold iC
 by_cases hl:l<a.edges
 ·rw [if_pos hl,if_pos hl];simp [nL]
 ·rw [if_neg hl,if_neg hl]
  obtain ⟨hj,e1,e2⟩:=ul o hl h.2
  rw [e1]
  simp [nL,e2]
theorem wH {ps ks:List Int} {by':Int} {l:List Nd} {pf lf:Int→Int} (hp:∀x∈l,pf x.parent=upF by' ps x.parent) (hl:∀x∈l,∀k∈x.links,lf k=atI ks k):(l.map fun x=>(⟨x.control,pf x.parent,x.links.map lf⟩:Nd))=cS by' ps ks l:=by
 unfold cS ez
 refine List.map_congr_left fun x hx=>?_
 rw [hp x hx,List.map_congr_left (hl x hx)]
theorem ww {ks:List Int} {l:List Wr} {lf:Int→Int} (h:∀x∈l,lf x.link=atI ks x.link):(l.map fun w=>(⟨w.name,lf w.link⟩:Wr))=dw ks l:=by
 unfold dw
 exact List.map_congr_left fun x hx=>by rw [h x hx]
theorem qB {l:List ByteArray} (h:l.Pairwise NLt) (j:Nat) (hj:j<l.length):jx l l[j]=j:=by
 refine vj hj (by simp) (fun k hk=>?_)
 have:=List.pairwise_iff_getElem.1 h k j (by omega) hj hk
 by_cases e:(l[k].toList == l[j].toList)=true
 ·rw [beq_iff_eq] at e
  rw [fU e] at this
  exact absurd this (NLt.irr _)
 ·simpa using e
theorem vV {a b:Big} (oa:rE a) (ob:rE b) (roots:Int) (sites ps ks:List Int) (ns:List ByteArray) (L:ByteArray→Int × ByteArray) (Pl:Int→Int)
 (hp:∀p,-b.roots≤p→p<0→Pl p=atI ps (-1 - p)) (hk:∀l,(0≤l∧l<b.edges+b.outer.length)→nL (a.edges+b.edges) ns (yW a L (iC b l))=atI ks l) :
 rR a b roots sites ns L Pl=⟨roots,cS 0 (cV 0 a.roots.toNat) (eN 0 a.edges.toNat++dx a.outer (a.edges+b.edges) ns) a.nodes++cS a.nodes.length ps ks b.nodes,sites++dv a.nodes.length ps b.sites,a.edges+b.edges,ns,dw ks b.inner⟩:=by
 have hm:∀p,-b.roots≤p→AN a Pl p=upF a.nodes.length ps p:=fun p h1=>by
  unfold AN upF
  by_cases h:p<0
  ·rw [if_neg (by omega),if_pos h,hp p h1 h]
  ·rw [if_pos (by omega),if_neg h]
 unfold rR xC
 dsimp only
 rw [wH (by':=0) (ps:=cV 0 a.roots.toNat) (ks:=eN 0 a.edges.toNat++dx a.outer (a.edges+b.edges) ns) (pf:=fun p=>p) (lf:=fun l=>nL (a.edges+b.edges) ns (id (iC a l))) (fun x hx=>(El oa.roots.1 (oa.pars x hx).1).symm) (fun x hx k hk=>Ah oa _ _ k (oa.links x hx k hk)),
  ww (ks:=ks) (lf:=fun l=>nL (a.edges+b.edges) ns (yW a L (iC b l))) (fun x hx=>hk _ (ob.wires x hx)),
  List.map_map,show b.nodes.map (Ef a Pl ∘ fun x=>(⟨x.control,x.parent,x.links.map fun l=>nL (a.edges+b.edges) ns (yW a L (iC b l))⟩:Nd))=b.nodes.map fun x=>(⟨x.control,AN a Pl x.parent,x.links.map fun l=>nL (a.edges+b.edges) ns (yW a L (iC b l))⟩:Nd) from rfl,
  wH (by':=(a.nodes.length:Int)) (ps:=ps) (ks:=ks) (fun x hx=>hm _ (ob.pars x hx).1) (fun x hx k hk'=>hk k (ob.links x hx k hk'))]
 congr 1
 exact congrArg (sites ++ ·) (List.map_congr_left fun p hp'=>hm p (ob.sites p hp').1)
theorem pN {a b:Big} (h:B3 a b=true):(a.sites.length:Int)=b.roots∧a.inner.map Wr.name=b.outer:=by
 unfold B3 at h
 simp only [Bool.and_eq_true,decide_eq_true_eq] at h
 exact ⟨h.1,Et h.2⟩
theorem A0 {a b:Big} (oa:rE a) (ob:rE b) (h:B3 a b=true):zt a b=s6 a b:=by
 obtain ⟨hs,hn⟩:=pN h
 unfold zt s6 D0
 rw [lU oa.names,vV oa ob a.roots [] a.sites (eN a.edges b.edges.toNat++a.inner.map fun x=>atI (BR a b) x.link) a.outer _ _ (fun p _ _=>rfl),wo oa.roots.1 (fun p hp=>(oa.sites p hp).1)]
 ·rfl
 intro l hl
 have he:=ob.edges
 rw [ve _ _ _ hl.1,eF]
 by_cases hlt:l<b.edges
 ·rw [show iC b l=(l,⟨#[]⟩) from if_pos hlt,if_pos (by omega),nY _ _ _ hl.1 (by omega)]
  simp [yW,nL];omega
 ·rw [show iC b l=(0,b.outer.getD (l - b.edges).toNat ⟨#[]⟩) from if_neg hlt,if_neg (by omega)]
  obtain ⟨hj,e1,e2⟩:=ul ob hlt hl.2
  have hj':(l - b.edges).toNat<a.inner.length:=by have:=congrArg List.length hn;simp at this;omega
  rw [e1]
  have hi:jx (a.inner.map Wr.name) b.outer[(l - b.edges).toNat]=(l - b.edges).toNat:=by
   rw [show b.outer[(l - b.edges).toNat]=(a.inner.map Wr.name)[(l - b.edges).toNat]'(by simpa using hj') from by simp only [hn]]
   exact qB oa.inames _ _
  rw [show l - ((b.edges.toNat:Nat):Int)=((l - b.edges).toNat:Nat) by omega,mS _ _ _ hj']
  unfold yW
  rw [if_neg e2]
  dsimp only
  rw [hi,Int.toNat_natCast,List.getD_eq_getElem?_getD,List.getElem?_eq_getElem hj',Option.getD_some]
  exact Ah oa _ _ _ (oa.wires _ (List.getElem_mem hj'))
theorem HM {a b:Big} (oa:rE a) (ob:rE b) (h:B3 a b=true):(zt a b).inner.length≤1000∧FnD Tryz.prog 272 [a.D,b.D] (.d (zt a b).D):=by
 obtain ⟨hs,hn⟩:=pN h
 have ha:=oa.inner
 have hb:=ob.inner
 have ea:=oa.edges
 have eb:=ob.edges
 refine ⟨by rw [A0 oa ob h,qz];omega,xv a b oa.dims ob.dims (by omega) (by omega) ⟨ea.1,by omega⟩ ⟨eb.1,by omega⟩ oa.links oa.wires ob.links ob.wires (fun x hx=>?_) (fun p hp=>?_) (fun s hs=>?_)⟩
 ·have:=ob.pars x hx
  omega
 ·have:=ob.sites p hp
  omega
 ·rw [← hn] at hs
  obtain ⟨j,hj,rfl⟩:=List.mem_iff_getElem.1 hs
  exact ⟨j,qB oa.inames _ _,by simpa using hj⟩
def wK (l:List Wr):List Wr:=l.foldl (gv wLt) []
theorem xp {α:Type} (lt:α→α→Bool) (x:α):∀l:List α,(∀y∈l,lt y x=true)→gv lt l x=l++[x]:=by
 intro l
 induction l with
 | nil=>intro _;rfl
 | cons y l ih=>intro h;unfold gv;rw [if_pos (h y (by simp)),ih (fun z hz=>h z (by simp [hz]))];rfl
theorem Dg {α:Type} {lt:α→α→Bool}:∀x a:List α,(a++x).Pairwise (fun u v=>lt u v=true)→x.foldl (gv lt) a=a++x:=by
 intro x
 induction x with
 | nil=>intro a _;simp
 | cons u x ih=>
  intro a h
  rw [List.foldl_cons,xp _ _ _ (fun y hy=>(List.pairwise_append.1 h).2.2 y hy u (by simp)),ih _ (by rw [List.append_assoc];exact h),List.append_assoc];rfl
theorem wV {x y:List Wr} (h:(x.map Wr.name).Pairwise NLt):wK (x++y)=bR x y:=by
 unfold wK bR
 rw [List.foldl_append,Dg (lt:=wLt) x [] (List.pairwise_map.1 h)];rfl
theorem wE (l:List Wr):(wK l).length=l.length:=by
 have:∀(l a:List Wr),(l.foldl (gv wLt) a).length=a.length+l.length:=by
  intro l
  induction l with
  | nil=>simp
  | cons x l ih=>intro a;rw [List.foldl_cons,ih,pg,List.length_cons];omega
 have h:=this l []
 simpa [wK] using h
theorem Bz (l:List Wr):∀a:List Wr,a.Pairwise (fun u v=>wLt u v=true)→((a++l).map Wr.name).Nodup→(l.foldl (gv wLt) a).Pairwise (fun u v=>wLt u v=true)∧∀z,z∈l.foldl (gv wLt) a↔z∈a++l:=by
 induction l with
 | nil=>intro a h _;exact ⟨h,fun z=>by simp⟩
 | cons x l ih=>
  intro a h hn
  have hx:∀y∈a,wLt y x=true∨wLt x y=true:=fun y hy=>NLt.total fun e=>by
   rw [List.map_append,List.nodup_append] at hn
   exact hn.2.2 _ (List.mem_map_of_mem hy) _ (List.mem_map_of_mem (show x∈x :: l by simp)) e
  have hm:=oE wLt x
  obtain ⟨h1,h2⟩:=ih (gv wLt a x) (tJ (lt:=wLt) (fun u v w=>NLt.trans u.name v.name w.name) x a h hx) (by
   have hp:(gv wLt a x).Perm (x :: a):=by
    clear hn ih hx h
    induction a with
    | nil=>exact List.Perm.refl _
    | cons y a ih2=>unfold gv;split
                    ·exact (ih2.cons y).trans (List.Perm.swap x y a)
                    ·exact List.Perm.refl _
   have hq:(gv wLt a x++l).Perm (a++x :: l):=(hp.append_right l).trans (List.perm_middle.symm)
   exact (hq.map Wr.name).nodup_iff.2 hn)
  refine ⟨h1,fun z=>?_⟩
  rw [List.foldl_cons,h2,List.mem_append,hm,List.mem_append,List.mem_cons]
  constructor
  ·rintro ((h|h)|h) <;> simp [h]
  ·rintro (h|h|h) <;> simp [h]
theorem AJ {l d:List Wr} (hn:(l.map Wr.name).Nodup) (hp:d.Perm l) (hs:d.Pairwise fun x y=>wLt y x=false):d=wK l:=by
 obtain ⟨h1,h2⟩:=Bz l [] List.Pairwise.nil (by simpa using hn)
 have hd:(d.map Wr.name).Nodup:=(hp.map Wr.name).nodup_iff.2 hn
 have h3:d.Pairwise fun x y=>wLt x y=true:=by
  have h4:d.Pairwise fun x y=>x.name≠y.name:=List.pairwise_map.1 (List.nodup_iff_pairwise_ne.1 hd)
  refine (hs.and h4).imp fun {x y} h=>(NLt.total h.2).resolve_right fun e=>?_
  unfold NLt at e
  have:=h.1
  unfold wLt at this
  rw [e] at this;cases this
 refine Ao (lt:=fun x y=>wLt x y=true) (fun x=>NLt.irr _) (fun x y z=>NLt.trans _ _ _) d (wK l) h3 h1 (fun z=>?_)
 rw [hp.mem_iff]
 have:=h2 z
 simpa [wK] using this.symm
def rG (a b:Big):Big:=rR a b (a.roots+b.roots) a.sites (jC a b) (fun s=>(0,s)) (fun p=>p - a.roots)
def y8 (a b:Big):List Wr:=(xC a (a.edges+b.edges) (jC a b) fun l=>nL (a.edges+b.edges) (jC a b) (id (iC a l))).inner++(rG a b).inner
def II (a b:Big):Big:=⟨(rG a b).roots,(rG a b).nodes,(rG a b).sites,(rG a b).edges,(rG a b).outer,wK (y8 a b)⟩
theorem pV (a b:Big):(y8 a b).map Wr.name=a.inner.map Wr.name++b.inner.map Wr.name:=by
 unfold y8 rG rR xC
 simp only [List.map_append,List.map_map]
 rfl
theorem A8 {a b:Big} (oa:rE a) (ob:rE b):rG a b=⟨a.roots+b.roots,cS 0 (cV 0 a.roots.toNat) (ic a b a 0) a.nodes++cS a.nodes.length (cV a.roots b.roots.toNat) (ic a b b a.edges) b.nodes,a.sites++dv a.nodes.length (cV a.roots b.roots.toNat) b.sites,a.edges+b.edges,jC a b,dw (ic a b b a.edges) b.inner⟩:=by
 unfold rG ic
 refine vV oa ob _ _ (cV a.roots b.roots.toNat) _ _ _ _ (fun p h1 h2=>?_) (fun l hl=>?_)
 ·rw [sp _ _ _ (by omega) (by have:=ob.roots;omega)];omega
 ·rw [Ey ob _ _ _ l hl]
  unfold iC
  by_cases h:l<b.edges
  ·rw [if_pos h,if_pos h];simp [yW,nL];omega
  ·rw [if_neg h,if_neg h]
   obtain ⟨hj,e1,e2⟩:=ul ob h hl.2
   rw [e1]
   simp [yW,nL,e2]
theorem Fa {a b:Big} (oa:rE a) (ob:rE b):II a b=iv a b:=by
 unfold II iv
 rw [wo oa.roots.1 (fun p hp=>(oa.sites p hp).1)]
 have hw:y8 a b=dw (ic a b a 0) a.inner++dw (ic a b b a.edges) b.inner:=by
  unfold y8
  rw [A8 oa ob]
  unfold xC
  dsimp only
  rw [ww (ks:=ic a b a 0) (lf:=fun l=>nL (a.edges+b.edges) (jC a b) (id (iC a l))) (fun x hx=>Ah oa _ _ _ (oa.wires x hx))]
 rw [hw,A8 oa ob,wV (by unfold dw;rw [List.map_map];exact oa.inames)]
theorem qS (l:List ByteArray) (s:ByteArray):rv l s=l.any fun x=>x.toList == s.toList:=qR l s
theorem sV (a c:List ByteArray):a.any (rv c) = !iy a c:=by
 unfold iy
 rw [Bool.eq_iff_iff,Bool.not_eq_true',List.any_eq_true,List.all_eq_false]
 constructor
 ·rintro ⟨s,h1,h2⟩;exact ⟨s,h1,by rw [← qS,h2];simp⟩
 ·rintro ⟨s,h1,h2⟩;exact ⟨s,h1,by rw [qS];simpa using h2⟩
theorem ua {a c:List ByteArray} (h:iy a c=true) (ha:a.Pairwise NLt) (hc:c.Pairwise NLt):(a++c).Nodup:=by
 refine List.nodup_append.2 ⟨iU NLt NLt.irr ha,iU NLt NLt.irr hc,fun x hx y hy e=>?_⟩
 subst e
 have:=List.all_eq_true.1 h x hx
 rw [Bool.not_eq_true',List.any_eq_false] at this
 exact this x hy (by simp)
end Go.Proofs.YtacafmejcdgboaaGreatDoor
