/-
  Plain facts and facts on memory that the walks lean on.
-/
import Derived.Test.YtccjepndhlobpaaGreatDoorC9
import Derived.Test.YtccjepndhlobpaaGreatDoorC7
/-
  Plain: runtimes; the root above a parent.
-/
namespace Go.Proofs.YtccjepndhlobpaaGreatDoor
open Go.RowKit
set_option linter.unusedVariables false
set_option linter.unusedSimpArgs false

/-- A runtime is valid. -/
def rntB (r:Rnt):Bool:=(sortB r.sig r.sort && (rulesB r.sig r.rules && (hostsB r.hosts && inR r.count 0 1000))) && (agentB r.sig r.agent && (decide (r.agent.roots=(r.hosts.length:Int)) && (faultsL r.sort r.agent).isEmpty))
/-- The root above a parent. -/
def topL (b:Big):Nat→Int→Int
 | 0,p=>p
 | f+1,p=>if p<0 then p else topL b f (ndAt b p).parent
def topB (b:Big) (p:Int):Int:=topL b (p.toNat+1) p
theorem par_lt {sig:List Ctl} {b:Big} (h:bigB sig b=true) (i:Nat) (hi:i<b.nodes.length) : -b.roots≤(b.nodes[i]).parent∧(b.nodes[i]).parent<i:=by
 obtain ⟨_,_,hu,_⟩:=node_parts h i hi
 have hr:inR b.roots 0 4=true:=(headB_parts (bigB_parts h).1).2.1
 have:=inR_le hr
 by_cases hp:(b.nodes[i]).parent<0
 ·rw [underB_neg hp] at hu
  simp only [decide_eq_true_eq] at hu
  omega
 ·rw [underB_pos hp] at hu
  simp only [Bool.and_eq_true,decide_eq_true_eq] at hu
  omega
theorem topL_any {sig:List Ctl} {b:Big} (h:bigB sig b=true):∀(f g:Nat) (p:Int),p<b.nodes.length→p.toNat<f→p.toNat<g→topL b f p=topL b g p:=by
 intro f
 induction f with
 | zero=>intro g p _ hf;omega
 | succ f ih=>
  intro g p hp hf hg
  cases g with
  | zero=>omega
  | succ g=>
   unfold topL
   by_cases hn:p<0
   ·rw [if_pos hn,if_pos hn]
   ·rw [if_neg hn,if_neg hn]
    obtain ⟨n,rfl⟩:=Int.eq_ofNat_of_zero_le (show 0≤p by omega)
    have hl:n<b.nodes.length:=by omega
    have:=par_lt h n hl
    rw [ndAt_nat b n hl]
    by_cases hq:(b.nodes[n]).parent<0
    ·cases f with
     | zero=>
      cases g with
      | zero=>rfl
      | succ g=>simp only [topL];rw [if_pos hq]
     | succ f=>
      cases g with
      | zero=>simp only [topL];rw [if_pos hq]
      | succ g=>simp only [topL];rw [if_pos hq,if_pos hq]
    ·exact ih g _ (by omega) (by omega) (by omega)
theorem topB_neg (b:Big) {p:Int} (h:p<0):topB b p=p:=by
 unfold topB topL;rw [if_pos h]
theorem topB_step {sig:List Ctl} {b:Big} (h:bigB sig b=true) (n:Nat) (hn:n<b.nodes.length):topB b (n:Int)=topB b (b.nodes[n]).parent:=by
 have hp:=par_lt h n hn
 have e:topB b (n:Int)=topL b n (b.nodes[n]).parent:=by
  unfold topB
  rw [show ((n:Int).toNat+1)=n+1 by omega,topL,if_neg (by omega),ndAt_nat b n hn]
 rw [e]
 by_cases hq:(b.nodes[n]).parent<0
 ·rw [topB_neg b hq]
  cases n with
  | zero=>rfl
  | succ n=>rw [topL,if_pos hq]
 ·exact topL_any h _ _ _ (by omega) (by omega) (by omega)
theorem topB_le {sig:List Ctl} {b:Big} (h:bigB sig b=true):∀(n:Nat) (p:Int),p<n→-b.roots≤p→p<b.nodes.length→-b.roots≤topB b p∧topB b p<0:=by
 intro n
 induction n with
 | zero=>intro p hp h1 _;rw [topB_neg b (by omega)];omega
 | succ n ih=>
  intro p hp h1 h2
  by_cases hq:p<0
  ·rw [topB_neg b hq];omega
  ·obtain ⟨m,rfl⟩:=Int.eq_ofNat_of_zero_le (show 0≤p by omega)
   have:=par_lt h m (by omega)
   rw [topB_step h m (by omega)]
   exact ih _ (by omega) (by omega) (by omega)
/-- The parents above a node, up to a root. -/
def ancF (b:Big):Nat→Int→List Int
 | 0,_=>[]
 | f+1,p=>if p<0 then [] else (ndAt b p).parent :: ancF b f (ndAt b p).parent
def ancL (b:Big) (p:Int):List Int:=ancF b (p.toNat+1) p
theorem ancF_any {sig:List Ctl} {b:Big} (h:bigB sig b=true):∀(f g:Nat) (p:Int),p<b.nodes.length→p.toNat<f→p.toNat<g→ancF b f p=ancF b g p:=by
 intro f
 induction f with
 | zero=>intro g p _ hf;omega
 | succ f ih=>
  intro g p hp hf hg
  cases g with
  | zero=>omega
  | succ g=>
   unfold ancF
   by_cases hn:p<0
   ·rw [if_pos hn,if_pos hn]
   ·rw [if_neg hn,if_neg hn]
    obtain ⟨n,rfl⟩:=Int.eq_ofNat_of_zero_le (show 0≤p by omega)
    have hl:n<b.nodes.length:=by omega
    have:=par_lt h n hl
    rw [ndAt_nat b n hl]
    by_cases hq:(b.nodes[n]).parent<0
    ·congr 1
     cases f with
     | zero=>
      cases g with
      | zero=>rfl
      | succ g=>simp only [ancF];rw [if_pos hq]
     | succ f=>
      cases g with
      | zero=>simp only [ancF];rw [if_pos hq]
      | succ g=>simp only [ancF];rw [if_pos hq,if_pos hq]
    ·rw [ih g _ (by omega) (by omega) (by omega)]
theorem ancL_neg (b:Big) {p:Int} (h:p<0):ancL b p = []:=by
 unfold ancL ancF;rw [if_pos h]
theorem ancL_step {sig:List Ctl} {b:Big} (h:bigB sig b=true) (n:Nat) (hn:n<b.nodes.length):ancL b (n:Int)=(b.nodes[n]).parent :: ancL b (b.nodes[n]).parent:=by
 have hp:=par_lt h n hn
 have e:ancL b (n:Int)=(b.nodes[n]).parent :: ancF b n (b.nodes[n]).parent:=by
  unfold ancL
  rw [show ((n:Int).toNat+1)=n+1 by omega,ancF,if_neg (by omega),ndAt_nat b n hn]
 rw [e]
 congr 1
 by_cases hq:(b.nodes[n]).parent<0
 ·rw [ancL_neg b hq]
  cases n with
  | zero=>rfl
  | succ n=>rw [ancF,if_pos hq]
 ·exact ancF_any h _ _ _ (by omega) (by omega) (by omega)
theorem ancL_last {sig:List Ctl} {b:Big} (h:bigB sig b=true):∀(n m:Nat),m<n→m<b.nodes.length→ancL b (m:Int)≠[]∧(ancL b (m:Int)).getLast? = some (topB b (m:Int)):=by
 intro n
 induction n with
 | zero=>intro m hm;omega
 | succ n ih=>
  intro m hm hl
  have hp:=par_lt h m hl
  rw [ancL_step h m hl,topB_step h m hl]
  refine ⟨by simp,?_⟩
  by_cases hq:(b.nodes[m]).parent<0
  ·rw [ancL_neg b hq,topB_neg b hq];rfl
  ·obtain ⟨q,hq'⟩:=Int.eq_ofNat_of_zero_le (show 0≤(b.nodes[m]).parent by omega)
   rw [hq'] at hp ⊢
   obtain ⟨h1,h2⟩:=ih q (by omega) (by omega)
   rw [List.getLast?_cons,h2];rfl
theorem ancL_len {sig:List Ctl} {b:Big} (h:bigB sig b=true):∀(n m:Nat),m<n→m<b.nodes.length→(ancL b (m:Int)).length≤m+1:=by
 intro n
 induction n with
 | zero=>intro m hm;omega
 | succ n ih=>
  intro m hm hl
  have hp:=par_lt h m hl
  rw [ancL_step h m hl]
  by_cases hq:(b.nodes[m]).parent<0
  ·rw [ancL_neg b hq];simp
  ·obtain ⟨q,hq'⟩:=Int.eq_ofNat_of_zero_le (show 0≤(b.nodes[m]).parent by omega)
   rw [hq'] at hp ⊢
   have:=ih q (by omega) (by omega)
   simp only [List.length_cons];omega
/-- The nodes under a root. -/
def undF (b:Big) (r:Int) (i:Nat):Bool:=match b.nodes[i]? with|none=>false|some n=>decide (topB b n.parent=r)
theorem undF_at (b:Big) (r:Int) (i:Nat) (h:i<b.nodes.length):undF b r i=decide (topB b (b.nodes[i]).parent=r):=by unfold undF;rw [List.getElem?_eq_getElem h]
def undL (b:Big) (r:Int):List Int:=idxOf (undF b r) b.nodes.length
/-- How many nodes the hosts have, of the first n. -/
def loadTo (b:Big) (h n:Nat):List Int:=(List.range h).map (fun (k:Nat)=>((idxOf (undF b (-1 - (k:Int))) n).length:Int))
def loadL (b:Big) (h:Nat):List Int:=loadTo b h b.nodes.length
theorem loadTo_len (b:Big) (h n:Nat):(loadTo b h n).length=h:=by unfold loadTo;simp
theorem loadTo_at (b:Big) (h n k:Nat) (hk:k<(loadTo b h n).length):(loadTo b h n)[k]=((idxOf (undF b (-1 - (k:Int))) n).length:Int):=by
 simp [loadTo]
theorem loadTo_zero (b:Big) (h:Nat):loadTo b h 0=List.replicate h 0:=by
 apply List.ext_getElem
 ·simp [loadTo]
 ·intro i h1 h2
  rw [loadTo_at,List.getElem_replicate];rfl
theorem loadTo_succ (b:Big) (h n j:Nat) (hj:j<(loadTo b h n).length) (hn:n<b.nodes.length) (ht:topB b (b.nodes[n]).parent = -1 - (j:Int)):loadTo b h (n+1)=(loadTo b h n).set j ((loadTo b h n)[j]+1):=by
 apply List.ext_getElem
 ·simp [loadTo]
 ·intro i h1 h2
  rw [loadTo_at,List.getElem_set]
  have hi:i<(loadTo b h n).length:=by rw [loadTo_len] at h1 ⊢;exact h1
  by_cases e:j=i
  ·subst e
   rw [if_pos rfl,loadTo_at,idxOf_yes (by rw [undF_at b _ n hn,ht];simp)]
   simp
  ·rw [if_neg e,loadTo_at,idxOf_no (by rw [undF_at b _ n hn,ht];simp;omega)]
end Go.Proofs.YtccjepndhlobpaaGreatDoor

/-
  Walks: runtimes are valid.
-/
namespace Go.Proofs.YtccjepndhlobpaaGreatDoor
open Go.RowKit
set_option linter.unusedVariables false
set_option linter.unusedSimpArgs false

theorem rnt_dims {r:Rnt} (h:wtRnt r≤1048576):(∀i (h:i<r.rules.length),(r.rules[i]).redex.inner.length≤1048576∧(r.rules[i]).reactum.inner.length≤1048576)∧r.agent.inner.length≤1048576∧r.sort.apart.length≤1048576∧r.hosts.length≤1048576:=by
 have hw:wtRnt r=wtL wtCtl r.sig+wtSrt r.sort+wtL wtRul r.rules+wtL wtStr r.hosts+wtBig r.agent:=rfl
 have hb:∀b:Big,b.inner.length≤wtBig b:=fun b=>by
  have e:wtBig b=wtL wtNd b.nodes+b.sites.length+wtL wtStr b.outer+wtL wtWr b.inner:=rfl
  have e2:wtL wtWr b.inner=b.inner.length+(b.inner.map wtWr).sum:=rfl
  omega
 refine ⟨fun i hi=>?_,?_,?_,?_⟩
 ·have h1:=wtL_mem wtRul r.rules r.rules[i] (List.getElem_mem hi)
  have e:wtRul r.rules[i]=wtBig (r.rules[i]).redex+wtBig (r.rules[i]).reactum+(r.rules[i]).copies.length:=rfl
  have h2:=hb (r.rules[i]).redex
  have h3:=hb (r.rules[i]).reactum
  omega
 ·have:=hb r.agent;omega
 ·have e:wtSrt r.sort=r.sort.tops.length+wtL wtRow r.sort.nest+wtL wtRow r.sort.sorts+r.sort.most.length+r.sort.apart.length:=rfl
  omega
 ·have e:wtL wtStr r.hosts=r.hosts.length+(r.hosts.map wtStr).sum:=rfl
  omega
theorem agentB_big {sig:List Ctl} {b:Big} (h:agentB sig b=true):bigB sig b=true:=by
 unfold agentB at h;exact (Bool.and_eq_true_iff.1 h).1
theorem hostsB_long {l:List ByteArray} (h:4<l.length):hostsB l=false:=by
 unfold hostsB
 rw [show decide (l.length≤4)=false from decide_eq_false (by omega),Bool.and_false]
theorem fl_empty {l:List Flt} (h:(l.length:Int)=0):l.isEmpty=true:=by
 cases l with
 | nil=>rfl
 | cons _ _=>simp at h;omega
theorem fl_full {l:List Flt} (h:¬(l.length:Int)=0):l.isEmpty=false:=by
 cases l with
 | nil=>simp at h
 | cons _ _=>rfl
attribute [local irreducible] inR nameB sortB rulesB hostsB agentB faultsL bigB hostOk
set_option maxRecDepth 100000 in
set_option maxHeartbeats 6400000 in
theorem c_spec_l13Good (lo hi:Nat) (cs:List Value) (r:Rnt) (w:World) (h:RntP lo hi w cs r) (hwt:wtRnt r≤1048576) :
 Calls Tryz.prog 51 #[.agg cs.toArray] w fun e w'=>e=.returned (.bool (rntB r))∧Ext w w':=by
 obtain ⟨hd1,hd2,hd3,hd4⟩:=rnt_dims hwt
 clear hwt
 obtain ⟨v0,c1,v6,v7,c8,rfl,e0,E1,e6,e7,E8,ec⟩:=h
 obtain ⟨s0,s1,s2,s3,s4,rfl,_⟩:=id E1
 obtain ⟨y1,y2,y4,y5,rfl,_⟩:=id E8
 obtain ⟨ha,hk,rfl,g1,g2,_⟩:=id e7
 unfold maxLen at g2
 change Calls Tryz.prog 51 #[.agg #[v0,s0,s1,s2,s3,s4,v6,.slice ha r.hosts.length hk,.int .i64 r.agent.roots,y1,y2,.int .i64 r.agent.edges,y4,y5,.int .i64 r.count]] w _
 obtain ⟨W0,hW0,hbx,hx0,hz⟩:=box_facts w [v0,s0,s1,s2,s3,s4,v6,.slice ha r.hosts.length hk,.int .i64 r.agent.roots,y1,y2,.int .i64 r.agent.edges,y4,y5,.int .i64 r.count] 46
 have p0:=(hbx 0 _ rfl).1
 have p1:=(hbx 1 _ rfl).1
 have p2:=(hbx 2 _ rfl).1
 have p3:=(hbx 3 _ rfl).1
 have p4:=(hbx 4 _ rfl).1
 have p5:=(hbx 5 _ rfl).1
 have p6:=(hbx 6 _ rfl).1
 have p7:=(hbx 7 _ rfl).1
 have p8:=(hbx 8 _ rfl).1
 have p9:=(hbx 9 _ rfl).1
 have p10:=(hbx 10 _ rfl).1
 have p11:=(hbx 11 _ rfl).1
 have p12:=(hbx 12 _ rfl).1
 have p13:=(hbx 13 _ rfl).1
 have p14:=(hbx 14 _ rfl).1
 have hzz:w.heap.size<W0.heap.size:=by omega
 clear hz hbx
 replace e0:=e0.ext CtlP.keeps hx0
 replace E1:=SrtP.keeps _ _ _ _ _ _ (Same.ext hx0) E1
 replace e6:=e6.ext RulP.keeps hx0
 replace e7:=e7.ext StrP.keeps hx0
 replace E8:=BigP.keeps _ _ _ _ _ _ (Same.ext hx0) E8
 go_enter Tryz.func51,Tryz.ntmps51
 have Hb:=Lib.hid trivial
 have Hc:=Lib.hid trivial
 have Hd:=Lib.hid trivial
 cases ha:sortB r.sig r.sort
 have Ha:=Lib.hid ha;clear ha
 have isF:=trivial
 rotate_left
 have Ha:=Lib.hid ha;clear ha
 cases hb:rulesB r.sig r.rules
 have Hb:=Lib.hid hb;clear hb
 have isF:=trivial
 rotate_left
 have Hb:=Lib.hid hb;clear hb
 cases hc:hostsB r.hosts
 have Hc:=Lib.hid hc;clear hc
 have isF:=trivial
 rotate_left
 have Hc:=Lib.hid hc;clear hc
 cases hd:agentB r.sig r.agent
 have Hd:=Lib.hid hd;clear hd
 have isF:=trivial
 rotate_left
 have Hd:=Lib.hid hd;clear hd
 all_goals go_wp2_with (first|(go_at_call 104;(refine (c_spec_l2Agent lo hi lo hi _ _ _ _ _ e0 E8 hd2).mono ?_);rintro e y ⟨rfl,hb⟩;rw [Hd.out];replace p0:=Ext.keep hb p0;replace p1:=Ext.keep hb p1;replace p2:=Ext.keep hb p2;replace p3:=Ext.keep hb p3;replace p4:=Ext.keep hb p4;replace p5:=Ext.keep hb p5;replace p6:=Ext.keep hb p6;replace p7:=Ext.keep hb p7;replace p8:=Ext.keep hb p8;replace p9:=Ext.keep hb p9;replace p10:=Ext.keep hb p10;replace p11:=Ext.keep hb p11;replace p12:=Ext.keep hb p12;replace p13:=Ext.keep hb p13;replace p14:=Ext.keep hb p14;replace e0:=e0.ext CtlP.keeps hb;replace E1:=SrtP.keeps _ _ _ _ _ _ (Same.ext hb) E1;replace e6:=e6.ext RulP.keeps hb;replace e7:=e7.ext StrP.keeps hb;replace E8:=BigP.keeps _ _ _ _ _ _ (Same.ext hb) E8)|(go_at_call 103;(refine (c_spec_l13Hosts lo hi _ _ _ e7).mono ?_);rintro e y ⟨rfl,hb⟩;rw [Hc.out];replace p0:=Ext.keep hb p0;replace p1:=Ext.keep hb p1;replace p2:=Ext.keep hb p2;replace p3:=Ext.keep hb p3;replace p4:=Ext.keep hb p4;replace p5:=Ext.keep hb p5;replace p6:=Ext.keep hb p6;replace p7:=Ext.keep hb p7;replace p8:=Ext.keep hb p8;replace p9:=Ext.keep hb p9;replace p10:=Ext.keep hb p10;replace p11:=Ext.keep hb p11;replace p12:=Ext.keep hb p12;replace p13:=Ext.keep hb p13;replace p14:=Ext.keep hb p14;replace e0:=e0.ext CtlP.keeps hb;replace E1:=SrtP.keeps _ _ _ _ _ _ (Same.ext hb) E1;replace e6:=e6.ext RulP.keeps hb;replace e7:=e7.ext StrP.keeps hb;replace E8:=BigP.keeps _ _ _ _ _ _ (Same.ext hb) E8)|(go_at_call 102;(refine (c_spec_l9Rules lo hi lo hi _ _ _ _ _ e0 e6 hd1).mono ?_);rintro e y ⟨rfl,hb⟩;rw [Hb.out];replace p0:=Ext.keep hb p0;replace p1:=Ext.keep hb p1;replace p2:=Ext.keep hb p2;replace p3:=Ext.keep hb p3;replace p4:=Ext.keep hb p4;replace p5:=Ext.keep hb p5;replace p6:=Ext.keep hb p6;replace p7:=Ext.keep hb p7;replace p8:=Ext.keep hb p8;replace p9:=Ext.keep hb p9;replace p10:=Ext.keep hb p10;replace p11:=Ext.keep hb p11;replace p12:=Ext.keep hb p12;replace p13:=Ext.keep hb p13;replace p14:=Ext.keep hb p14;replace e0:=e0.ext CtlP.keeps hb;replace E1:=SrtP.keeps _ _ _ _ _ _ (Same.ext hb) E1;replace e6:=e6.ext RulP.keeps hb;replace e7:=e7.ext StrP.keeps hb;replace E8:=BigP.keeps _ _ _ _ _ _ (Same.ext hb) E8)|(go_at_call 101;(refine (c_spec_l7Good lo hi lo hi _ _ _ _ _ e0 E1).mono ?_);rintro e y ⟨rfl,hb⟩;rw [Ha.out];replace p0:=Ext.keep hb p0;replace p1:=Ext.keep hb p1;replace p2:=Ext.keep hb p2;replace p3:=Ext.keep hb p3;replace p4:=Ext.keep hb p4;replace p5:=Ext.keep hb p5;replace p6:=Ext.keep hb p6;replace p7:=Ext.keep hb p7;replace p8:=Ext.keep hb p8;replace p9:=Ext.keep hb p9;replace p10:=Ext.keep hb p10;replace p11:=Ext.keep hb p11;replace p12:=Ext.keep hb p12;replace p13:=Ext.keep hb p13;replace p14:=Ext.keep hb p14;replace e0:=e0.ext CtlP.keeps hb;replace E1:=SrtP.keeps _ _ _ _ _ _ (Same.ext hb) E1;replace e6:=e6.ext RulP.keeps hb;replace e7:=e7.ext StrP.keeps hb;replace E8:=BigP.keeps _ _ _ _ _ _ (Same.ext hb) E8))
 all_goals first|(have:=isF;go_ret;exact ⟨ret_bool (by unfold rntB;simp [Ha.out,Hb.out,Hc.out,Hd.out]),xw⟩)|skip
 have hbB:=agentB_big Hd.out
 have HBB:=Lib.hid hbB
 clear hbB
 have Hf:=Lib.hid trivial
 have Hn:=Lib.hid trivial
 by_cases hz:(r.agent.roots)=((r.hosts.length:Int))
 have ez:((r.agent.roots) == ((r.hosts.length:Int)))=true:=beq_iff_eq.2 hz
 have Hz:=Lib.hid hz;clear hz
 have E9:=E8;rw [Hz.out] at E9
 by_cases hf:(((faultsL r.sort r.agent).length:Int))=(0)
 have ef:((((faultsL r.sort r.agent).length:Int)) == (0))=true:=beq_iff_eq.2 hf
 have Hf:=Lib.hid hf;clear hf
 have HF:=Lib.hid (fl_empty Hf.out)
 cases hn:inR r.count 0 1000
 have Hn:=Lib.hid hn;clear hn
 have isP:=trivial
 rotate_left
 have Hn:=Lib.hid hn;clear hn
 have isF:=trivial
 rotate_left
 have ef:((((faultsL r.sort r.agent).length:Int)) == (0))=false:=beq_eq_false_iff_ne.2 hf
 have Hf:=Lib.hid hf;clear hf
 have HF:=Lib.hid (fl_full Hf.out)
 have isP:=trivial
 rotate_left
 have ez:((r.agent.roots) == ((r.hosts.length:Int)))=false:=beq_eq_false_iff_ne.2 hz
 have Hz:=Lib.hid hz;clear hz
 have isP:=trivial
 all_goals go_wp2_with (first|(go_at_call 106;(refine (c_spec_l1In _ _ _ _).mono ?_);rintro e y ⟨rfl,rfl⟩;rw [Hn.out])|(exact absurd (by assumption) Hz.out)|(go_at_call 105;refine (c_spec_l7Faults lo hi lo hi _ _ r.sig r.sort r.agent _ E1 E9 Ha.out HBB.out hd3).mono ?_;rintro e y ⟨vf,rfl,⟨fa,fk,rfl,_⟩,hb⟩;replace p0:=Ext.keep hb p0;replace p1:=Ext.keep hb p1;replace p2:=Ext.keep hb p2;replace p3:=Ext.keep hb p3;replace p4:=Ext.keep hb p4;replace p5:=Ext.keep hb p5;replace p6:=Ext.keep hb p6;replace p7:=Ext.keep hb p7;replace p8:=Ext.keep hb p8;replace p9:=Ext.keep hb p9;replace p10:=Ext.keep hb p10;replace p11:=Ext.keep hb p11;replace p12:=Ext.keep hb p12;replace p13:=Ext.keep hb p13;replace p14:=Ext.keep hb p14;replace e0:=e0.ext CtlP.keeps hb;replace E1:=SrtP.keeps _ _ _ _ _ _ (Same.ext hb) E1;replace e6:=e6.ext RulP.keeps hb;replace e7:=e7.ext StrP.keeps hb;replace E8:=BigP.keeps _ _ _ _ _ _ (Same.ext hb) E8))
 all_goals (go_ret;exact ⟨ret_bool (by unfold rntB;first|(simp [Ha.out,Hb.out,Hc.out,Hd.out,Hz.out,Hf.out,Hn.out,HF.out];done)|(simp [Ha.out,Hb.out,Hc.out,Hd.out,Hz.out,Hf.out,Hn.out];done)|(simp [Ha.out,Hb.out,Hc.out,Hd.out];intros;contradiction)),xw⟩)
set_option maxRecDepth 100000 in
set_option maxHeartbeats 6400000 in
theorem c_impl_IsRuntime (lo hi:Nat) (cs:List Value) (r:Rnt) (w:World) (h:RntP lo hi w cs r) (hwt:wtRnt r≤1048576) :
 Calls Tryz.prog 12 #[.agg cs.toArray] w fun e w'=>e=.returned (.bool (rntB r))∧Ext w w':=by
 obtain ⟨hd1,hd2,hd3,hd4⟩:=rnt_dims hwt
 clear hwt
 obtain ⟨v0,c1,v6,v7,c8,rfl,e0,E1,e6,e7,E8,ec⟩:=h
 obtain ⟨s0,s1,s2,s3,s4,rfl,_⟩:=id E1
 obtain ⟨y1,y2,y4,y5,rfl,_⟩:=id E8
 obtain ⟨ha,hk,rfl,g1,g2,g3,g4⟩:=id e7
 unfold maxLen at g2
 change Calls Tryz.prog 12 #[.agg #[v0,s0,s1,s2,s3,s4,v6,.slice ha r.hosts.length hk,.int .i64 r.agent.roots,y1,y2,.int .i64 r.agent.edges,y4,y5,.int .i64 r.count]] w _
 obtain ⟨W0,hW0,hbx,hx0,hz⟩:=box_facts w [v0,s0,s1,s2,s3,s4,v6,.slice ha r.hosts.length hk,.int .i64 r.agent.roots,y1,y2,.int .i64 r.agent.edges,y4,y5,.int .i64 r.count] 46
 have p0:=(hbx 0 _ rfl).1
 have p1:=(hbx 1 _ rfl).1
 have p2:=(hbx 2 _ rfl).1
 have p3:=(hbx 3 _ rfl).1
 have p4:=(hbx 4 _ rfl).1
 have p5:=(hbx 5 _ rfl).1
 have p6:=(hbx 6 _ rfl).1
 have p7:=(hbx 7 _ rfl).1
 have p8:=(hbx 8 _ rfl).1
 have p9:=(hbx 9 _ rfl).1
 have p10:=(hbx 10 _ rfl).1
 have p11:=(hbx 11 _ rfl).1
 have p12:=(hbx 12 _ rfl).1
 have p13:=(hbx 13 _ rfl).1
 have p14:=(hbx 14 _ rfl).1
 have hzz:w.heap.size<W0.heap.size:=by omega
 clear hz hbx
 replace e0:=e0.ext CtlP.keeps hx0
 replace E1:=SrtP.keeps _ _ _ _ _ _ (Same.ext hx0) E1
 replace e6:=e6.ext RulP.keeps hx0
 replace e7:=e7.ext StrP.keeps hx0
 replace E8:=BigP.keeps _ _ _ _ _ _ (Same.ext hx0) E8
 go_enter Tryz.func12,Tryz.ntmps12
 have Hb:=Lib.hid trivial
 have hm:True:=trivial
 have Hn:=Lib.hid trivial
 cases ha:sortB r.sig r.sort
 have Ha:=Lib.hid ha;clear ha
 have isF:=trivial
 rotate_left
 have Ha:=Lib.hid ha;clear ha
 cases hb:rulesB r.sig r.rules
 have Hb:=Lib.hid hb;clear hb
 have isF:=trivial
 rotate_left
 have Hb:=Lib.hid hb;clear hb
 by_cases hm:4<r.hosts.length
 have em:decide (4<r.hosts.length)=true:=decide_eq_true hm
 have isF:=trivial
 rotate_left
 have em:decide (4<r.hosts.length)=false:=decide_eq_false hm
 cases hn:inR r.count 0 1000
 have Hn:=Lib.hid hn;clear hn
 have isF:=trivial
 rotate_left
 have Hn:=Lib.hid hn;clear hn
 all_goals go_wp2_with (first|(go_at_call 55;(refine (c_impl_within _ _ _ _).mono ?_);rintro e y ⟨rfl,rfl⟩;rw [Hn.out])|(go_at_call 54;(refine (c_impl_areRules lo hi lo hi _ _ _ _ _ e0 e6 hd1).mono ?_);rintro e y ⟨rfl,hb⟩;rw [Hb.out];replace p0:=Ext.keep hb p0;replace p1:=Ext.keep hb p1;replace p2:=Ext.keep hb p2;replace p3:=Ext.keep hb p3;replace p4:=Ext.keep hb p4;replace p5:=Ext.keep hb p5;replace p6:=Ext.keep hb p6;replace p7:=Ext.keep hb p7;replace p8:=Ext.keep hb p8;replace p9:=Ext.keep hb p9;replace p10:=Ext.keep hb p10;replace p11:=Ext.keep hb p11;replace p12:=Ext.keep hb p12;replace p13:=Ext.keep hb p13;replace p14:=Ext.keep hb p14;replace e0:=e0.ext CtlP.keeps hb;replace E1:=SrtP.keeps _ _ _ _ _ _ (Same.ext hb) E1;replace e6:=e6.ext RulP.keeps hb;replace e7:=e7.ext StrP.keeps hb;replace E8:=BigP.keeps _ _ _ _ _ _ (Same.ext hb) E8)|(go_at_call 53;(refine (c_impl_IsSorting lo hi lo hi _ _ _ _ _ e0 E1).mono ?_);rintro e y ⟨rfl,hb⟩;rw [Ha.out];replace p0:=Ext.keep hb p0;replace p1:=Ext.keep hb p1;replace p2:=Ext.keep hb p2;replace p3:=Ext.keep hb p3;replace p4:=Ext.keep hb p4;replace p5:=Ext.keep hb p5;replace p6:=Ext.keep hb p6;replace p7:=Ext.keep hb p7;replace p8:=Ext.keep hb p8;replace p9:=Ext.keep hb p9;replace p10:=Ext.keep hb p10;replace p11:=Ext.keep hb p11;replace p12:=Ext.keep hb p12;replace p13:=Ext.keep hb p13;replace p14:=Ext.keep hb p14;replace e0:=e0.ext CtlP.keeps hb;replace E1:=SrtP.keeps _ _ _ _ _ _ (Same.ext hb) E1;replace e6:=e6.ext RulP.keeps hb;replace e7:=e7.ext StrP.keeps hb;replace E8:=BigP.keeps _ _ _ _ _ _ (Same.ext hb) E8))
 all_goals first|(have:=isF;go_ret;exact ⟨ret_bool (by unfold rntB;first|(simp [Ha.out,Hb.out,hm,Hn.out];done)|(simp [Ha.out,Hb.out,hm,Hn.out,hostsB_long hm];done)),xw⟩)|skip
 have hX1:Ext w y:=xw
 have hok0:(List.range 0).all (hostOk r.hosts)=true:=rfl
 go_loopw [34] (fun c wr=>∃i:Nat,c=.int .i64 i∧i≤r.hosts.length∧(List.range i).all (hostOk r.hosts)=true∧Ext y wr) (fun c _=>r.hosts.length - (intOf c).toNat)
 case atStart=>exact ⟨0,rfl,Nat.zero_le _,rfl,Ext.refl _⟩
 case round=>
  obtain ⟨i,rfl,hi',hok,hx⟩:=hrel
  have HOK:=Lib.hid hok
  clear hok
  have hX:Ext w wr:=hX1.trans hx
  replace p0:=hx.keep p0
  replace p1:=hx.keep p1
  replace p2:=hx.keep p2
  replace p3:=hx.keep p3
  replace p4:=hx.keep p4
  replace p5:=hx.keep p5
  replace p6:=hx.keep p6
  replace p7:=hx.keep p7
  replace p8:=hx.keep p8
  replace p9:=hx.keep p9
  replace p10:=hx.keep p10
  replace p11:=hx.keep p11
  replace p12:=hx.keep p12
  replace p13:=hx.keep p13
  replace p14:=hx.keep p14
  replace e0:=e0.ext CtlP.keeps hx
  replace E1:=SrtP.keeps _ _ _ _ _ _ (Same.ext hx) E1
  replace e7:=e7.ext StrP.keeps hx
  replace E8:=BigP.keeps _ _ _ _ _ _ (Same.ext hx) E8
  have hT:=e7.take i hi'
  by_cases hlt:i<r.hosts.length
  ·rcases g4 with g4|⟨b,o,rfl,gb1,gb2,g4⟩
   ·rw [g4] at hlt;simp at hlt
   obtain ⟨cs,hl,⟨rfl,e1⟩,hc⟩:=g4 i hlt
   have q0:=hX.keep (hc 0 _ rfl)
   rw [Nat.mul_one,Nat.add_zero] at q0
   clear hc g4
   have hbad:=hostsB_bad r.hosts i hlt
   have HA:=Lib.hid (hostOk_at r.hosts i hlt)
   have HS:=Lib.hid (range_all_succ (hostOk r.hosts) i)
   have HC:=Lib.hid (show (r.hosts.take i).any (fun x=>strEq (r.hosts[i]) x)=(r.hosts.take i).any (fun x=>strEq x r.hosts[i]) by congr 1;funext x;exact strEq_comm _ _)
   have j0:(0:Int)≤(i:Int):=by omega
   have j1:(i:Int)<(r.hosts.length:Int):=by omega
   have j2:(i:Int)≤(hk:Int):=by omega
   have Hc:=Lib.hid trivial
   cases hs:nameB r.hosts[i]
   have Hs:=Lib.hid hs;clear hs
   have HB:=Lib.hid (hbad (by rw [HA.out];first|(simp only [← HC.out,Hs.out];rfl)|(simp only [Hs.out];rfl)))
   clear hbad
   have isF:=trivial
   rotate_left
   have Hs:=Lib.hid hs;clear hs
   cases hc:(r.hosts.take i).any (fun x=>strEq (r.hosts[i]) x)
   have Hc:=Lib.hid hc;clear hc
   have HG:=Lib.hid (show hostOk r.hosts i=true by rw [HA.out];simp only [← HC.out,Hs.out,Hc.out];rfl)
   clear hbad
   have isP:=trivial
   rotate_left
   have Hc:=Lib.hid hc;clear hc
   have HB:=Lib.hid (hbad (by rw [HA.out];first|(simp only [← HC.out,Hs.out,Hc.out];rfl)|(simp only [Hs.out,Hc.out];rfl)))
   clear hbad
   have isF:=trivial
   all_goals go_wp2_with (first|(go_at_call 57;(refine (c_slices_Contains_string_string lo hi _ _ _ _ hT).mono ?_);rintro e y ⟨rfl,hb⟩;rw [Hc.out];replace q0:=Ext.keep hb q0;replace p3:=Ext.keep hb p3;replace p7:=Ext.keep hb p7;replace hT:=hT.ext StrP.keeps hb)|(go_at_call 56;(refine (c_impl_isName _ _ e1).mono ?_);rintro e y ⟨rfl,hb⟩;rw [Hs.out];replace q0:=Ext.keep hb q0;replace p3:=Ext.keep hb p3;replace p7:=Ext.keep hb p7;replace hT:=hT.ext StrP.keeps hb))
   all_goals first|(have:=isF;go_ret;exact ⟨ret_bool (by unfold rntB;simp [HB.out]),xw⟩)|(have:=isP;go_roundw;(case rel=>exact ⟨i+1,rfl,by omega,by rw [HS.out,HOK.out,HG.out];rfl,xw⟩);all_goals (simp only [intOf];omega))
  ·have e:i=r.hosts.length:=by omega
   subst e
   have HH:=Lib.hid (show hostsB r.hosts=true by unfold hostsB;rw [HOK.out];simp;omega)
   clear g4
   have Hz:=Lib.hid trivial
   have Hf:=Lib.hid trivial
   cases hd:agentB r.sig r.agent
   have Hd:=Lib.hid hd;clear hd
   have isP:=trivial
   rotate_left
   have Hd:=Lib.hid hd;clear hd
   have HBB:=Lib.hid (agentB_big Hd.out)
   by_cases hz:(r.agent.roots)=((r.hosts.length:Int))
   have ez:((r.agent.roots) == ((r.hosts.length:Int)))=true:=beq_iff_eq.2 hz
   have Hz:=Lib.hid hz;clear hz
   cases hf:(faultsL r.sort r.agent).isEmpty
   have Hf:=Lib.hid hf;clear hf
   have isP:=trivial
   rotate_left
   have Hf:=Lib.hid hf;clear hf
   have isF:=trivial
   rotate_left
   have ez:((r.agent.roots) == ((r.hosts.length:Int)))=false:=beq_eq_false_iff_ne.2 hz
   have Hz:=Lib.hid hz;clear hz
   have isP:=trivial
   all_goals go_wp2_with (first|(go_at_call 59;(refine (c_impl_Sorting_isSorted lo hi lo hi _ _ r.sig _ _ _ E1 (by first|exact E8|(have h:=E8;rw [Hz.out] at h;exact h)) Ha.out HBB.out hd3).mono ?_);rintro e y ⟨rfl,hb⟩;rw [Hf.out];replace p0:=Ext.keep hb p0;replace p1:=Ext.keep hb p1;replace p2:=Ext.keep hb p2;replace p3:=Ext.keep hb p3;replace p4:=Ext.keep hb p4;replace p5:=Ext.keep hb p5;replace p6:=Ext.keep hb p6;replace p7:=Ext.keep hb p7;replace p8:=Ext.keep hb p8;replace p9:=Ext.keep hb p9;replace p10:=Ext.keep hb p10;replace p11:=Ext.keep hb p11;replace p12:=Ext.keep hb p12;replace p13:=Ext.keep hb p13;replace p14:=Ext.keep hb p14;replace e0:=e0.ext CtlP.keeps hb;replace E1:=SrtP.keeps _ _ _ _ _ _ (Same.ext hb) E1;replace e7:=e7.ext StrP.keeps hb;replace E8:=BigP.keeps _ _ _ _ _ _ (Same.ext hb) E8)|(go_at_call 58;(refine (c_impl_IsAgent lo hi lo hi _ _ _ _ _ e0 E8 hd2).mono ?_);rintro e y ⟨rfl,hb⟩;rw [Hd.out];replace p0:=Ext.keep hb p0;replace p1:=Ext.keep hb p1;replace p2:=Ext.keep hb p2;replace p3:=Ext.keep hb p3;replace p4:=Ext.keep hb p4;replace p5:=Ext.keep hb p5;replace p6:=Ext.keep hb p6;replace p7:=Ext.keep hb p7;replace p8:=Ext.keep hb p8;replace p9:=Ext.keep hb p9;replace p10:=Ext.keep hb p10;replace p11:=Ext.keep hb p11;replace p12:=Ext.keep hb p12;replace p13:=Ext.keep hb p13;replace p14:=Ext.keep hb p14;replace e0:=e0.ext CtlP.keeps hb;replace E1:=SrtP.keeps _ _ _ _ _ _ (Same.ext hb) E1;replace e7:=e7.ext StrP.keeps hb;replace E8:=BigP.keeps _ _ _ _ _ _ (Same.ext hb) E8)|(exact absurd (by assumption) Hz.out))
   all_goals (go_ret;exact ⟨ret_bool (by unfold rntB;first|(simp [Ha.out,Hb.out,Hn.out,HH.out,Hd.out,Hz.out,Hf.out];done)|(simp [Ha.out,Hb.out,Hn.out,HH.out];intros;contradiction)),xw⟩)
end Go.Proofs.YtccjepndhlobpaaGreatDoor

/-
  Walks: the reference's IsRuntime.
-/
namespace Go.Proofs.YtccjepndhlobpaaGreatDoor
open Go.RowKit
set_option linter.unusedVariables false
set_option linter.unusedSimpArgs false
attribute [local irreducible] rntB
set_option maxRecDepth 100000 in
set_option maxHeartbeats 1600000 in
theorem c_spec_IsRuntime (lo hi:Nat) (cs:List Value) (r:Rnt) (w:World) (h:RntP lo hi w cs r) (hwt:wtRnt r≤1048576) :
 Calls Tryz.prog 10 #[.agg cs.toArray] w fun e w'=>e=.returned (.bool (rntB r))∧Ext w w':=by
 have HH:=h
 obtain ⟨v0,c1,v6,v7,c8,rfl,e0,E1,e6,e7,E8,ec⟩:=h
 obtain ⟨s0,s1,s2,s3,s4,rfl,_⟩:=id E1
 obtain ⟨y1,y2,y4,y5,rfl,_⟩:=id E8
 change Calls Tryz.prog 10 #[.agg #[v0,s0,s1,s2,s3,s4,v6,v7,.int .i64 r.agent.roots,y1,y2,.int .i64 r.agent.edges,y4,y5,.int .i64 r.count]] w _
 obtain ⟨W0,hW0,hbx,hx0,hz⟩:=box_facts w [v0,s0,s1,s2,s3,s4,v6,v7,.int .i64 r.agent.roots,y1,y2,.int .i64 r.agent.edges,y4,y5,.int .i64 r.count] 46
 have p0:=(hbx 0 _ rfl).1
 have p1:=(hbx 1 _ rfl).1
 have p2:=(hbx 2 _ rfl).1
 have p3:=(hbx 3 _ rfl).1
 have p4:=(hbx 4 _ rfl).1
 have p5:=(hbx 5 _ rfl).1
 have p6:=(hbx 6 _ rfl).1
 have p7:=(hbx 7 _ rfl).1
 have p8:=(hbx 8 _ rfl).1
 have p9:=(hbx 9 _ rfl).1
 have p10:=(hbx 10 _ rfl).1
 have p11:=(hbx 11 _ rfl).1
 have p12:=(hbx 12 _ rfl).1
 have p13:=(hbx 13 _ rfl).1
 have p14:=(hbx 14 _ rfl).1
 clear hz hbx
 replace HH:=RntP.keeps _ _ _ _ _ _ (Same.ext hx0) HH
 go_enter Tryz.func10,Tryz.ntmps10
 go_wp2_with fail
 refine (c_spec_l13Good lo hi _ r _ HH hwt).mono ?_
 rintro e y ⟨rfl,hb⟩
 go_wp2
 go_ret
 exact ⟨rfl,xw⟩
end Go.Proofs.YtccjepndhlobpaaGreatDoor

/-
  Walks: nodes, roots above, ancestors, hosts.
-/
namespace Go.Proofs.YtccjepndhlobpaaGreatDoor
open Go.RowKit
set_option linter.unusedVariables false
set_option linter.unusedSimpArgs false
attribute [local irreducible] inR topB ancL bigB
/-- A number is a node. -/
def isNd (b:Big) (n:Int):Bool:=inR n 0 ((b.nodes.length:Int) - 1)
theorem isNd_nat {b:Big} {n:Int} (h:isNd b n=true):∃m:Nat,n=(m:Int)∧m<b.nodes.length:=by
 unfold isNd at h
 have:=inR_le h
 exact ⟨n.toNat,by omega,by omega⟩
set_option maxRecDepth 100000 in
set_option maxHeartbeats 1600000 in
theorem c_spec_l2Is (lo hi:Nat) (cs:List Value) (b:Big) (n:Int) (w:World) (h:BigP lo hi w cs b) :
 Calls Tryz.prog 61 #[.agg cs.toArray,.int .i64 n] w fun e w'=>e=.returned (.bool (isNd b n))∧Ext w w':=by
 obtain ⟨v1,v2,v4,v5,rfl,r1,r2,⟨a1,k1,rfl,g1,g2,_⟩,hS,hO,hI⟩:=h
 unfold maxLen at g2
 obtain ⟨W0,hW0,hbx,hx0,hz⟩:=box_facts w [.int .i64 b.roots,.slice a1 b.nodes.length k1,v2,.int .i64 b.edges,v4,v5] 44
 have p1:=(hbx 1 _ rfl).1
 clear hz hbx
 go_enter Tryz.func61,Tryz.ntmps61
 go_wp2_with (go_at_call 106;refine (c_spec_l1In _ _ _ _).mono ?_;rintro e y ⟨rfl,rfl⟩)
 go_ret
 exact ⟨rfl,hx0⟩
set_option maxRecDepth 100000 in
set_option maxHeartbeats 1600000 in
theorem c_impl_Bigraph_isNode (lo hi:Nat) (cs:List Value) (b:Big) (n:Int) (w:World) (h:BigP lo hi w cs b) :
 Calls Tryz.prog 63 #[.agg cs.toArray,.int .i64 n] w fun e w'=>e=.returned (.bool (isNd b n))∧Ext w w':=by
 obtain ⟨v1,v2,v4,v5,rfl,r1,r2,⟨a1,k1,rfl,g1,g2,_⟩,hS,hO,hI⟩:=h
 unfold maxLen at g2
 obtain ⟨W0,hW0,hbx,hx0,hz⟩:=box_facts w [.int .i64 b.roots,.slice a1 b.nodes.length k1,v2,.int .i64 b.edges,v4,v5] 44
 have p1:=(hbx 1 _ rfl).1
 clear hz hbx
 go_enter Tryz.func63,Tryz.ntmps63
 go_wp2_with (go_at_call 55;refine (c_impl_within _ _ _ _).mono ?_;rintro e y ⟨rfl,rfl⟩)
 go_ret
 exact ⟨rfl,hx0⟩
set_option maxRecDepth 100000 in
set_option maxHeartbeats 1600000 in
theorem c_spec_l3Top (lo hi:Nat) (cs:List Value) (b:Big) (sig:List Ctl) (p:Int) (w:World) (h:BigP lo hi w cs b) (hs:bigB sig b=true) (hp:p<b.nodes.length) :
 Calls Tryz.prog 62 #[.agg cs.toArray,.int .i64 p] w fun e w'=>e=.returned (.int .i64 (topB b p))∧Ext w w':=by
 have HS:=Lib.hid hs
 clear hs
 obtain ⟨v1,v2,v4,v5,rfl,r1,r2,⟨a1,k1,rfl,g1,g2,g3,g4⟩,hS,hO,hI⟩:=h
 unfold maxLen at g2
 obtain ⟨W0,hW0,hbx,hx0,hz⟩:=box_facts w [.int .i64 b.roots,.slice a1 b.nodes.length k1,v2,.int .i64 b.edges,v4,v5] 44
 have p1:=(hbx 1 _ rfl).1
 have hzz:w.heap.size<W0.heap.size:=by omega
 clear hz hbx
 go_enter Tryz.func62,Tryz.ntmps62
 go_wp2
 go_loopw [1] (fun c wr=>∃q:Int,c=.int .i64 q∧q<b.nodes.length∧Hid (topB b q=topB b p)∧Ext W0 wr) (fun c _=>(intOf c+1).toNat)
 case atStart=>exact ⟨p,rfl,hp,Lib.hid rfl,Ext.refl _⟩
 case round=>
  obtain ⟨q,rfl,hql,HT,hx⟩:=hrel
  replace p1:=hx.keep p1
  have hX:Ext w wr:=xw
  by_cases hq:0≤q
  ·obtain ⟨m,rfl⟩:=Int.eq_ofNat_of_zero_le hq
   have hlt:m<b.nodes.length:=by omega
   have hpl:=par_lt HS.out m hlt
   have hst:=topB_step HS.out m hlt
   rcases g4 with g4|⟨bn,on,rfl,nb1,nb2,g4⟩
   ·rw [g4] at hlt;simp at hlt
   obtain ⟨cs,hl,⟨nv,rfl,e1,e2,e3⟩,hc⟩:=g4 m hlt
   have q0:=hX.keep (hc 0 _ rfl)
   have q1:=hX.keep (hc 1 _ rfl)
   have q2:=hX.keep (hc 2 _ rfl)
   rw [Nat.add_zero] at q0
   clear hc g4 hl
   have HST:=Lib.hid hst
   clear hst
   have j0:(0:Int)≤(m:Int):=by omega
   have j1:(m:Int)<(b.nodes.length:Int):=by omega
   go_wp2
   go_roundw
   case rel=>exact ⟨_,rfl,by omega,Lib.hid (by rw [← HST.out];exact HT.out),xw⟩
   all_goals (simp only [intOf];omega)
  ·have hn:=topB_neg b (show q<0 by omega)
   have HN:=Lib.hid (show q=topB b p by rw [← HT.out,hn])
   clear hn
   go_wp2
   go_ret
   exact ⟨ret_int HN.out,hX⟩
set_option maxRecDepth 100000 in
set_option maxHeartbeats 1600000 in
theorem c_impl_Bigraph_ancestorsOf (lo hi:Nat) (cs:List Value) (b:Big) (sig:List Ctl) (p:Int) (w:World) (h:BigP lo hi w cs b) (hs:bigB sig b=true) (hp:p<b.nodes.length) :
 Calls Tryz.prog 127 #[.agg cs.toArray,.int .i64 p] w fun e w'=>∃v,e=.returned v∧SlV 1 IntP w.heap.size w'.heap.size w' v (ancL b p)∧Ext w w':=by
 have hnl:b.nodes.length≤8:=(headB_parts (bigB_parts hs).1).2.2.1
 have HS:=Lib.hid hs
 clear hs
 obtain ⟨v1,v2,v4,v5,rfl,r1,r2,⟨a1,k1,rfl,g1,g2,g3,g4⟩,hS,hO,hI⟩:=h
 unfold maxLen at g2
 obtain ⟨W0,hW0,hbx,hx0,hz⟩:=box_facts w [.int .i64 b.roots,.slice a1 b.nodes.length k1,v2,.int .i64 b.edges,v4,v5] 44
 have p1:=(hbx 1 _ rfl).1
 have hzz:w.heap.size<W0.heap.size:=by omega
 clear hz hbx
 obtain ⟨i0,hi0,hz0,hz1,hz2⟩:=info_parts infoInt
 have hrow0:RowL 1 IntP 3 W0.heap.size (W0.alloc (.cells #[] 3)) (.slice (some ⟨W0.heap.size,0,none⟩) 0 0) []:=RowL.made (Nat.le_refl _)
 go_enter Tryz.func127,Tryz.ntmps127
 go_wp2
 go_loopw [1,5] (fun c v wr=>∃(q:Int) (xs:List Int),c=.int .i64 q∧q<b.nodes.length∧Hid (xs++ancL b q=ancL b p)∧(xs.length:Int)+q≤8∧RowL 1 IntP 3 W0.heap.size wr v xs∧Ext W0 wr) (fun c _ _=>(intOf c+1).toNat)
 case atStart=>exact ⟨p,[],rfl,hp,Lib.hid rfl,by simp;omega,hrow0,xw⟩
 case round=>
  obtain ⟨q,xs,rfl,hql,HT,hxl,hrow,hx⟩:=hrel
  replace p1:=hx.keep p1
  have hX:Ext w wr:=xw
  by_cases hq:0≤q
  ·obtain ⟨m,rfl⟩:=Int.eq_ofNat_of_zero_le hq
   have hlt:m<b.nodes.length:=by omega
   have hpl:=par_lt HS.out m hlt
   have hst:=ancL_step HS.out m hlt
   rcases g4 with g4|⟨bn,on,rfl,nb1,nb2,g4⟩
   ·rw [g4] at hlt;simp at hlt
   obtain ⟨cs,hl,⟨nv,rfl,e1,e2,e3⟩,hc⟩:=g4 m hlt
   have q0:=hX.keep (hc 0 _ rfl)
   have q1:=hX.keep (hc 1 _ rfl)
   have q2:=hX.keep (hc 2 _ rfl)
   rw [Nat.add_zero] at q0
   clear hc g4 hl
   have HST:=Lib.hid hst
   clear hst
   have j0:(0:Int)≤(m:Int):=by omega
   have j1:(m:Int)<(b.nodes.length:Int):=by omega
   have hsz:=Below.size hx
   have hbx:xs.length<1000:=by omega
   go_wp2_with (at_builtin;refine wpList_append_row2 IntP.keeps rfl (.tmp 15) (.tmp 17) 23 rfl (W0.heap.size) 3 i0 _ 8 Tryz.underlying23 hi0 hz0 hz1 hz2 rfl (by decide) _ _ (by rfl) (hrow.ext IntP.keeps xw) ⟨wr.heap.size,0,none⟩ 1 [.int .i64 (b.nodes[m]).parent] rfl rfl (one_cell (by simp)) (by simp [Value.oneCell']) (W0.heap.size) (W0.heap.size) (Nat.le_refl _) (by first|omega|(simp;omega)) (fun g hg=>.inr (hrow.block g hg).1) (((b.nodes[m]).parent:Int)) ⟨rfl,e2⟩ (by first|omega|(simp;omega)) (by decide) (by first|omega|(simp;omega)) ?_;intro v3 w3 row3 ext3 gro3 own3)
   have hx3:=ext3 W0 xw (Nat.le_refl _)
   go_roundw
   case rel=>exact ⟨_,_,rfl,by omega,Lib.hid (by rw [← HT.out,HST.out,List.append_assoc];rfl),by simp;omega,row3,xw⟩
   all_goals (simp only [intOf];omega)
  ·have HN:=Lib.hid (show xs=ancL b p by rw [← HT.out,ancL_neg b (show q<0 by omega),List.append_nil])
   go_wp2
   go_ret
   exact ⟨_,rfl,by rw [← HN.out];exact hrow.toSlV IntP.widens (by omega),hX⟩
set_option maxRecDepth 100000 in
set_option maxHeartbeats 1600000 in
theorem c_impl_Runtime_hostOf (lo hi:Nat) (cs:List Value) (r:Rnt) (sig:List Ctl) (m:Nat) (w:World) (h:RntP lo hi w cs r) (hs:bigB sig r.agent=true) (hm:m<r.agent.nodes.length) :
 Calls Tryz.prog 64 #[.agg cs.toArray,.int .i64 m] w fun e w'=>e=.returned (.int .i64 (-1 - topB r.agent m))∧Ext w w':=by
 have hla:=ancL_last hs (m+1) m (by omega) hm
 have hln:=ancL_len hs (m+1) m (by omega) hm
 have hnl:r.agent.nodes.length≤8:=(headB_parts (bigB_parts hs).1).2.2.1
 have htb:=topB_le hs (m+1) m (by omega) (by have:=inR_le (headB_parts (bigB_parts hs).1).2.1;omega) (by omega)
 have hrb:=inR_le (headB_parts (bigB_parts hs).1).2.1
 have HS:=Lib.hid hs
 clear hs
 obtain ⟨v0,cc1,v6,v7,cc8,rfl,e0,E1,e6,e7,E8,ec⟩:=h
 obtain ⟨s0,s1,s2,s3,s4,rfl,_⟩:=id E1
 obtain ⟨y1,y2,y4,y5,rfl,_⟩:=id E8
 clear e0 E1 e6 e7 ec
 change Calls Tryz.prog 64 #[.agg #[v0,s0,s1,s2,s3,s4,v6,v7,.int .i64 r.agent.roots,y1,y2,.int .i64 r.agent.edges,y4,y5,.int .i64 r.count],.int .i64 m] w _
 obtain ⟨W0,hW0,hbx,hx0,hz⟩:=box_facts w [v0,s0,s1,s2,s3,s4,v6,v7,.int .i64 r.agent.roots,y1,y2,.int .i64 r.agent.edges,y4,y5,.int .i64 r.count] 46
 have p0:=(hbx 0 _ rfl).1
 have p1:=(hbx 1 _ rfl).1
 have p2:=(hbx 2 _ rfl).1
 have p3:=(hbx 3 _ rfl).1
 have p4:=(hbx 4 _ rfl).1
 have p5:=(hbx 5 _ rfl).1
 have p6:=(hbx 6 _ rfl).1
 have p7:=(hbx 7 _ rfl).1
 have p8:=(hbx 8 _ rfl).1
 have p9:=(hbx 9 _ rfl).1
 have p10:=(hbx 10 _ rfl).1
 have p11:=(hbx 11 _ rfl).1
 have p12:=(hbx 12 _ rfl).1
 have p13:=(hbx 13 _ rfl).1
 have p14:=(hbx 14 _ rfl).1
 have hzz:w.heap.size<W0.heap.size:=by omega
 clear hz hbx
 replace E8:=BigP.keeps _ _ _ _ _ _ (Same.ext hx0) E8
 go_enter Tryz.func64,Tryz.ntmps64
 go_wp2_with fail
 refine (c_impl_Bigraph_ancestorsOf lo hi _ r.agent sig m _ E8 HS.out (by omega)).mono ?_
 rintro e y ⟨v,rfl,⟨a,k,rfl,g1,g2,g3,g4⟩,hb⟩
 obtain ⟨hne,hlast⟩:=hla
 generalize ancL r.agent (m:Int)=L at hne hlast hln g1 g4
 unfold maxLen at g2
 rcases g4 with g4|⟨bn,on,rfl,nb1,nb2,g4⟩
 ·exact absurd g4 hne
 have hpos:0<L.length:=List.length_pos_iff.2 hne
 obtain ⟨cs,hl,⟨rfl,e1⟩,hc⟩:=g4 (L.length - 1) (by omega)
 have q0:=hc 0 _ rfl
 rw [Nat.mul_one,Nat.add_zero] at q0
 have hlv:L[L.length - 1]'(by omega)=topB r.agent m:=by
  rw [List.getLast?_eq_getElem?,List.getElem?_eq_getElem (by omega)] at hlast
  exact Option.some.inj hlast
 rw [hlv] at q0
 clear hc g4 hlast hlv e1 hl
 obtain ⟨T0,hT⟩:∃T0,T0=topB r.agent (m:Int):=⟨_,rfl⟩
 rw [← hT] at q0 htb
 have HT:=Lib.hid hT
 clear hT
 obtain ⟨K,hK⟩:∃K,L.length=K+1:=⟨L.length - 1,by omega⟩
 rw [hK] at q0 g1 hln ⊢
 have j1:((K+1:Nat):Int) - 1=(K:Int):=by omega
 simp only [Nat.add_sub_cancel] at q0
 go_wp2
 go_ret
 exact ⟨ret_int (by rw [HT.out]),hx0.trans hb⟩
end Go.Proofs.YtccjepndhlobpaaGreatDoor
