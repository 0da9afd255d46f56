/- YtpgilgnkiceggaaGreatDoorWe: part of the proof that laws hold, for every input that the row speaks of (no condition of ours). -/
import Derived.Test.YtpgilgnkiceggaaGreatDoorWd
import Derived.Test.YtpgilgnkiceggaaGreatDoorWa
import Derived.Test.YtpgilgnkiceggaaGreatDoorWb
import Derived.Test.YtpgilgnkiceggaaGreatDoorEc
import Derived.Outline
import Derived.Test.YtpgilgnkiceggaaGreatDoorChecked
import Derived.WalkKit
import Derived.LaidEql
import Derived.Stop.Asserts
import Derived.RowKitTokens
import Derived.LaidHandle
set_option linter.unusedVariables false
set_option linter.unusedSimpArgs false
section
namespace Go.Proofs.W
open Go Go.Eng Go.RowKit
set_option linter.unusedSimpArgs false
set_option maxRecDepth 100000
/-! memory of a session,as it stands -/
def nmB:List Gt→Nat→List Nat
 | [],_=>[]
 | _::l,k=>k::nmB l (k + 1)
theorem lkm_nd (k:Nat):∀ (l:List Gt) (a:Nat),lkm k (ndB l a)=if a≤k then (l[k - a]?).map (fun g=>gcs g++[hdB (l.drop (k - a + 1)) (k + 1)]) else none
 | [],a=>by simp [ndB,lkm]
 | g::l,a=>by
  simp only [ndB,lkm]
  by_cases e:k=a
  ·subst e;simp
  ·rw [if_neg e,lkm_nd k l (a + 1)]
   by_cases h:a≤k
   ·rw [if_pos h,if_pos (by omega)]
    obtain ⟨d,rfl⟩:∃ d,k=a + 1 + d:=⟨k - (a + 1),by omega⟩
    rw [show a + 1 + d - a=d + 1 by omega,show a + 1 + d - (a + 1)=d by omega]
    simp
   ·rw [if_neg h,if_neg (by omega)]
theorem hdB_eq (l:List Gt) (k:Nat):hdB l k=if l.length=0 then .v (.pointer none) else .loc k 0:=by
 cases l<;>simp [hdB]
theorem hdB_str {d k:Nat} (h:d < k) (l:List Gt):AV.stripL d (hdB l k)=hdB l k:=by
 cases l with
 | nil=>rfl
 | cons g l=>simp only [hdB,AV.stripL];rw [if_neg (by omega)]
theorem gcs_str (d:Nat) (g:Gt) (y:AV):AV.stripLAll d (gcs g++[y])=gcs g++[y.stripL d]:=rfl
theorem strip_nd {d:Nat}:∀ (l:List Gt) (a:Nat),d < a→stripLm d (ndB l a)=ndB l a
 | [],_,_=>rfl
 | g::l,a,h=>by
  simp only [ndB,stripLm]
  rw [if_neg (by omega),gcs_str,hdB_str (by omega),strip_nd l (a + 1) (by omega)]
theorem frz_nd {d:Nat} {ys:List DV}:∀ (l:List Gt) (a:Nat),d < a→frzm d ys (ndB l a)=ndB l a
 | [],_,_=>rfl
 | g::l,a,h=>by
  simp only [ndB,frzm]
  rw [if_neg (by omega),frz_nd l (a + 1) (by omega)]
  congr 2
  simp only [gcs,List.cons_append,List.nil_append,AV.frzAll,AV.frz]
  cases l with
  | nil=>rfl
  | cons g' l=>simp only [hdB,AV.frz];rw [if_neg (by omega)]
theorem nt_nd:∀ (l:List Gt) (a:Nat),ntm (ndB l a)=ndB l a
 | [],_=>rfl
 | g::l,a=>by
  simp only [ndB,ntm]
  rw [nt_nd l (a + 1)]
  congr 2
  simp only [gcs,List.cons_append,List.nil_append,AV.ntAll,AV.nt]
  cases l<;>rfl
theorem nm_ge {l:List Gt}:∀ {a k:Nat},k ∈ nmB l a→a≤k:=by
 induction l with
 | nil=>intro a k h;cases h
 | cons g l ih =>
  intro a k h
  rcases List.mem_cons.1 h with rfl | h
  ·exact Nat.le_refl _
  ·exact Nat.le_of_succ_le (ih h)
theorem kpm_congr:∀ {L:List Nat} {m m':List (Nat × List AV)},(∀ k ∈ L,lkm k m=lkm k m')→kpm L m=kpm L m'
 | [],_,_,_=>rfl
 | d::L,m,m',h=>by
  simp only [kpm]
  rw [h d (by simp),kpm_congr (L:=L) fun k hk=>h k (by simp [hk])]
theorem kpm_skip {l:List Gt} {a k:Nat} {v:List AV} {m:List (Nat × List AV)} (h:k < a):kpm (nmB l a) ((k,v)::m)=kpm (nmB l a) m :=
 kpm_congr fun d hd=>by
  have:=nm_ge hd
  simp only [lkm];rw [if_neg (by omega)]
theorem kpm_nd:∀ (l:List Gt) (a:Nat),kpm (nmB l a) (ndB l a)=ndB l a
 | [],_=>rfl
 | g::l,a=>by
  simp only [nmB,ndB,kpm,lkm,if_true]
  rw [kpm_skip (by omega),kpm_nd l (a + 1)]
theorem kpm_rp {D:Nat} {X:List AV}:∀ (l:List Gt) (a:Nat),kpm (nmB l a) (repm D X (ndB l a))=repm D X (ndB l a)
 | [],_=>rfl
 | g::l,a=>by
  simp only [nmB,ndB,repm]
  split
  ·simp only [kpm,lkm,if_true]
   rw [kpm_skip (by omega),kpm_nd l (a + 1)]
  ·simp only [kpm,lkm,if_true]
   rw [kpm_skip (by omega),kpm_rp l (a + 1)]
theorem fst_nd:∀ (l:List Gt) (a:Nat),(ndB l a).map (·.1)=nmB l a
 | [],_=>rfl
 | g::l,a=>by simp only [ndB,nmB,List.map_cons,fst_nd l (a + 1)]
theorem nm_lt {l:List Gt}:∀ {a k:Nat},k ∈ nmB l a→k < a + l.length:=by
 induction l with
 | nil=>intro a k h;cases h
 | cons g l ih =>
  intro a k h
  rcases List.mem_cons.1 h with rfl | h
  ·simp
  ·have:=ih h;simp;omega
theorem frzA {d:Nat} (hd:d < 1000) {h:Int} {up:Bool} {l:List Gt} {n:Int} {m:List (Nat × List AV)} (hm:∀ k,1000≤k→lkm k m=lkm k (sesL h up l n)):(((sesL h up l n).map fun x=>x.1).all fun k=>decide (k≠d) && (lkm k m).isSome)=true:=by
 rw [List.all_eq_true]
 intro k hk
 have e:(sesL h up l n).map (fun x=>x.1)=1000::nmB l 1001:=by simp only [sesL,List.map_cons,fst_nd]
 rw [e] at hk
 simp only [Bool.and_eq_true,decide_eq_true_eq]
 rcases List.mem_cons.1 hk with rfl | hk
 ·exact ⟨by omega,by rw [hm _ (by omega)];simp [sesL,lkm]⟩
 ·have h1:=nm_ge hk
  have h2:=nm_lt hk
  refine ⟨by omega,?_⟩
  rw [hm _ (by omega)]
  simp only [sesL,lkm]
  rw [if_neg (by omega),lkm_nd,if_pos h1,List.getElem?_eq_getElem (by omega)]
  rfl
/-! what is told is stored,over lent boxes;600 is the new node -/
def tErr (r:AV):Prop:=∃ u,r = .dv (.ifc 89 (.ptr [.v (.string u)]))
def ndI:Nat→List Gt→Nat→List (Nat × List AV)
 | _,[],_=>[]
 | j,g::l,k=>(k,gcs g++[if j=1 then .loc 600 0 else hdB l (k + 1)])::ndI (j - 1) l (k + 1)
def insM (h:Int) (up:Bool) (l:List Gt) (x:Rt) (j:Nat):List (Nat × List AV):=(600,gcs ⟨x,false⟩++[hdB (l.drop j) (1001 + j)])::(1000,[iv h,bv up,if j=0 then .loc 600 0 else hdB l 1001,iv (l.length + 1)])::ndI j l 1001
def tlK (h:Int) (up:Bool) (l:List Gt) (x:Rt) (K:AV→List (Nat × List AV)→Prop):Prop :=
 if up=true then
  if (l[skN x.f x.b l]?.any fun g=>g.r.f == x.f && g.r.b == x.b)=true then K (.v .nilIface) (sesL h up (l.set (skN x.f x.b l) ⟨x,false⟩) l.length)
  else if l.length=6 then ∀ r,tErr r→K r (sesL h up l l.length) else K (.v .nilIface) (insM h up l x (skN x.f x.b l))
 else ∀ r,tErr r→K r (sesL h up l l.length)
theorem skN_le (f b:Int):∀ l:List Gt,skN f b l≤l.length
 | []=>Nat.le_refl _
 | g::l=>by
  rw [skN];split
  ·exact Nat.succ_le_succ (skN_le f b l)
  ·exact Nat.zero_le _
theorem rows_inj {a b:List Int} (e:rows a=rows b):a=b:=by
 have:=congrArg intsL e
 rw [intsL_rows,intsL_rows] at this
 exact Option.some.inj this
theorem islE {a b:List Int} (e:isl a=isl b):a=b:=by
 simp only [AV.sl.injEq,true_and] at e
 exact rows_inj e
theorem gcs_inj {g g':Gt} {y y':AV} (e:gcs g++[y]=gcs g'++[y']):g=g':=by
 obtain ⟨⟨f,b,p,k,m⟩,o⟩:=g
 obtain ⟨⟨f',b',p',k',m'⟩,o'⟩:=g'
 simp only [gcs,List.cons_append,List.nil_append,List.cons.injEq,AV.v.injEq,Value.int.injEq,Value.bool.injEq,true_and,and_true] at e
 obtain ⟨h1,h2,h3,h4,h5,h6,_⟩:=e
 rw [h1,h2,islE h3,h4,islE h5,h6]
theorem ndB_inj:∀ {l l':List Gt} {k:Nat},ndB l k=ndB l' k→l=l'
 | [],[],_,_=>rfl
 | [],_::_,_,h=>by cases h
 | _::_,[],_,h=>by cases h
 | g::l,g'::l',k,h=>by
  rw [ndB,ndB] at h
  have h1:=(List.cons.inj h).1
  have h2:=(List.cons.inj h).2
  rw [gcs_inj (Prod.mk.inj h1).2,ndB_inj h2]
theorem sesL_inj {h h' n n':Int} {up up':Bool} {l l':List Gt} (e:sesL h up l n=sesL h' up' l' n'):h=h'∧up=up'∧l=l':=by
 have h1:=(List.cons.inj e).1
 have h2:=ndB_inj (List.cons.inj e).2
 have h3:=(Prod.mk.inj h1).2
 simp only [List.cons.injEq,AV.v.injEq,Value.int.injEq,Value.bool.injEq,true_and] at h3
 exact ⟨h3.1,h3.2.1,h2⟩
theorem rtav_inj {x x':Rt} (e:x.av=x'.av):x=x':=by
 obtain ⟨f,b,p,k,m⟩:=x
 obtain ⟨f',b',p',k',m'⟩:=x'
 simp only [Rt.av,AV.agg.injEq,List.cons.injEq,AV.v.injEq,Value.int.injEq,true_and,and_true] at e
 obtain ⟨h1,h2,h3,h4,h5⟩:=e
 rw [h1,h2,islE h3,h4,islE h5]
def cTellS:ConM:={
 pre:=fun args m1=>∃ (h:Int) (up:Bool) (l:List Gt) (x:Rt),args=[.loc 1000 0,x.av]∧m1=sesL h up l l.length∧l.length≤6∧(∀ g ∈ l,rngOk g.r.f g.r.b=true)∧rngOk x.f x.b=true∧x.path.length≤1000∧x.marks.length≤1000
 post:=fun args m1 r m2=>∀ (h:Int) (up:Bool) (l:List Gt) (x:Rt),args=[.loc 1000 0,x.av]→m1=sesL h up l l.length→∀ K:AV→List (Nat × List AV)→Prop,tlK h up l x K→K r m2 }
theorem tell_post {h:Int} {up:Bool} {l:List Gt} {x:Rt} {r:AV} {m2:List (Nat × List AV)} (hh:∀ K:AV→List (Nat × List AV)→Prop,tlK h up l x K→K r m2):cTellS.post [.loc 1000 0,x.av] (sesL h up l l.length) r m2:=by
 intro h' up' l' x' e1 e2
 obtain ⟨rfl,rfl,rfl⟩:=sesL_inj e2
 obtain rfl:=rtav_inj (List.cons.inj (List.cons.inj e1).2).1
 exact hh
theorem lkm_rp {D k:Nat} {X l0:List AV} {m:List (Nat × List AV)} (h:lkm D m=some l0):lkm k (repm D X m)=if k=D then some X else lkm k m:=by
 rw [lkm_repm D k X l0 m h];simp only [lkm]
theorem node_at {l:List Gt} {i:Nat} (hi:i < l.length):lkm (1001 + i) (ndB l 1001)=some (gcs l[i]++[hdB (l.drop (i + 1)) (1002 + i)]):=by
 rw [lkm_nd,if_pos (by omega),show 1001 + i - 1001=i by omega,List.getElem?_eq_getElem hi]
 simp only [Option.map_some,show 1001 + i + 1=1002 + i by omega]
theorem lkm_ndI (k:Nat):∀ (l:List Gt) (j a:Nat),lkm k (ndI j l a)=if a≤k then (l[k - a]?).map (fun g=>gcs g++[if k - a + 1=j then .loc 600 0 else hdB (l.drop (k - a + 1)) (k + 1)]) else none
 | [],j,a=>by simp [ndI,lkm]
 | g::l,j,a=>by
  simp only [ndI,lkm]
  by_cases e:k=a
  ·subst e
   simp only [if_true,Nat.le_refl,Nat.sub_self,List.getElem?_cons_zero,Option.map_some,Nat.zero_add,List.drop_succ_cons,List.drop_zero,eq_comm (a:=j)]
  ·rw [if_neg e,lkm_ndI k l (j - 1) (a + 1)]
   by_cases h:a≤k
   ·rw [if_pos h,if_pos (by omega)]
    obtain ⟨d,rfl⟩:∃ d,k=a + 1 + d:=⟨k - (a + 1),by omega⟩
    rw [show a + 1 + d - a=d + 1 by omega,show a + 1 + d - (a + 1)=d by omega]
    have e2:(d + 1=j - 1)=(d + 1 + 1=j):=propext ⟨by omega,by omega⟩
    simp only [List.getElem?_cons_succ,List.drop_succ_cons,e2]
   ·rw [if_neg h,if_neg (by omega)]
theorem swb_gcs {d d':Nat} (g:Gt) (y:AV):AV.swbAll d d' (gcs g++[y])=gcs g++[y.swb d d']:=rfl
theorem swb_hd {d d' a:Nat} (h:d < a) (h':d' < a) (l:List Gt):AV.swb d d' (hdB l a)=hdB l a:=by
 cases l with
 | nil=>rfl
 | cons g l=>simp only [hdB,AV.swb,swp];rw [if_neg (by omega),if_neg (by omega)]
theorem swb_nd {d d':Nat}:∀ (l:List Gt) (a:Nat),d < a→d' < a→swbm d d' (ndB l a)=ndB l a
 | [],_,_,_=>rfl
 | g::l,a,h,h'=>by
  simp only [ndB,swbm,swp]
  rw [if_neg (by omega),if_neg (by omega),swb_gcs,swb_hd (by omega) (by omega),swb_nd l (a + 1) (by omega) (by omega)]
theorem swb_rp {d d' D:Nat} {X:List AV}:∀ (l:List Gt) (a:Nat),d < a→d' < a→swbm d d' (repm D X (ndB l a))=repm D (AV.swbAll d d' X) (ndB l a)
 | [],_,_,_=>rfl
 | g::l,a,h,h'=>by
  simp only [ndB,repm]
  split
  ·simp only [swbm,swp]
   rw [if_neg (by omega),if_neg (by omega),swb_nd l (a + 1) (by omega) (by omega)]
  ·simp only [swbm,swp]
   rw [if_neg (by omega),if_neg (by omega),swb_gcs,swb_hd (by omega) (by omega),swb_rp l (a + 1) (by omega) (by omega)]
theorem nt_ndI:∀ (l:List Gt) (j a:Nat),ntm (ndI j l a)=ndI j l a
 | [],_,_=>rfl
 | g::l,j,a=>by
  simp only [ndI,ntm]
  rw [nt_ndI l (j - 1) (a + 1)]
  congr 2
  simp only [gcs,List.cons_append,List.nil_append,AV.ntAll,AV.nt]
  split
  ·rfl
  ·cases l<;>rfl
theorem nt_ins (h:Int) (up:Bool) (l:List Gt) (x:Rt) (j:Nat):ntm (insM h up l x j)=insM h up l x j:=by
 simp only [insM,ntm,nt_ndI]
 congr 1
 ·congr 1
  simp only [gcs,List.cons_append,List.nil_append,AV.ntAll,AV.nt]
  rw [hdB_eq];split<;>rfl
 ·congr 2
  simp only [AV.ntAll,AV.nt]
  split
  ·rfl
  ·rw [hdB_eq];split<;>rfl
theorem nt_ses (h:Int) (up:Bool) (l:List Gt) (n:Int):ntm (sesL h up l n)=sesL h up l n:=by
 simp only [sesL,ntm,nt_nd,AV.ntAll,AV.nt]
 rw [hdB_eq];split<;>rfl
/-- the same,kept shut -/
def sesZ (h:Int) (up:Bool) (l:List Gt) (n:Int):List (Nat × List AV):=sesL h up l n
theorem nt_sesZ (h:Int) (up:Bool) (l:List Gt) (n:Int):ntm (sesZ h up l n)=sesZ h up l n:=nt_ses h up l n
theorem insm_ok {h:Int} {up:Bool} {l:List Gt} {x:Rt} {i:Nat} (hi:i < l.length) {m:List (Nat × List AV)} (h6:lkm 600 m=some (gcs ⟨x,false⟩++[hdB (l.drop (i + 1)) (1002 + i)])) (h0:lkm 1000 m=some [iv h,bv up,hdB l 1001,iv (l.length + 1)])
  (hm:∀ k,1001≤k→lkm k m=lkm k (repm (1001 + i) (gcs l[i]++[.loc 600 0]) (ndB l 1001))):∀ k ls,lkm k (insM h up l x (i + 1))=some ls→lkm k m=some ls:=by
 intro k ls hk
 simp only [insM,lkm] at hk
 split at hk
 ·rename_i e;subst e;rw [h6,show 1002 + i=1001 + (i + 1) by omega];exact hk
 ·split at hk
  ·rename_i e;subst e;rw [h0];simpa using hk
  ·rw [lkm_ndI] at hk
   split at hk
   ·rename_i hle
    rw [hm k hle,lkm_rp (node_at hi)]
    split
    ·rename_i e
     subst e
     rw [show 1001 + i - 1001=i by omega,List.getElem?_eq_getElem hi] at hk
     simpa using hk
    ·rename_i e
     rw [lkm_nd,if_pos hle]
     rw [if_neg (show ¬ k - 1001 + 1=i + 1 by omega)] at hk
     exact hk
   ·cases hk
theorem setm_ok {h:Int} {up:Bool} {l:List Gt} {x:Rt} {j:Nat} (hj:j < l.length) {n:Int} {m:List (Nat × List AV)} (h0:lkm 1000 m=some [iv h,bv up,hdB l 1001,iv n])
  (hm:∀ k,1001≤k→lkm k m=lkm k (repm (1001 + j) (gcs ⟨x,false⟩++[hdB (l.drop (j + 1)) (1002 + j)]) (ndB l 1001))):∀ k ls,lkm k (sesL h up (l.set j ⟨x,false⟩) n)=some ls→lkm k m=some ls:=by
 intro k ls hk
 simp only [sesL,lkm] at hk
 split at hk
 ·rename_i e;subst e;rw [h0,hdB_eq];rw [hdB_eq,List.length_set] at hk;exact hk
 ·rw [lkm_nd] at hk
  split at hk
  ·rename_i hle
   rw [hm k hle,lkm_rp (node_at hj)]
   split
   ·rename_i e
    subst e
    rw [show 1001 + j - 1001=j by omega,List.getElem?_set_self (by omega)] at hk
    simp only [Option.map_some] at hk
    rw [← hk,hdB_eq,hdB_eq,show 1001 + j + 1=1002 + j by omega]
    simp only [List.length_drop,List.length_set]
   ·rename_i e
    rw [lkm_nd,if_pos hle]
    rw [List.getElem?_set_ne (by omega)] at hk
    have e2:hdB ((l.set j ⟨x,false⟩).drop (k - 1001 + 1)) (k + 1)=hdB (l.drop (k - 1001 + 1)) (k + 1):=by
     rw [hdB_eq,hdB_eq];simp only [List.length_drop,List.length_set]
    rw [e2] at hk
    exact hk
  ·cases hk
theorem eqm_skip {k:Nat} {v:List AV} {m:List (Nat × List AV)}:∀ (l:List Gt) (a:Nat),k < a→eqm ((k,v)::m) (ndB l a)=eqm m (ndB l a)
 | [],_,_=>rfl
 | g::l,a,h=>by
  simp only [ndB,eqm,lkm]
  rw [if_neg (by omega),eqm_skip l (a + 1) (by omega)]
theorem eqm_nd:∀ (l:List Gt) (a:Nat),eqm (ndB l a) (ndB l a)=True
 | [],_=>rfl
 | g::l,a=>by
  simp only [ndB,eqm,lkm,if_true,true_and]
  rw [eqm_skip l (a + 1) (by omega),eqm_nd l (a + 1)]
theorem lkm_no {k a:Nat} (h:k < a) (l:List Gt):lkm k (ndB l a)=none:=by rw [lkm_nd,if_neg (by omega)]
theorem one_lt {i k:Nat} (h:k < 1001):(1001 + i=k)=False:=eq_false (by omega)
def tbTS (M:List Nat):Tb:={ T:=TT,G:=[],D:=[(48,dCopyD)],draws:=false,lent:=true,MM:=[(67,(cSeek,[(1000,1000)],[]))],ln:=some M }
attribute [go_sem] tbTS
theorem mvn_lnk {f:Nat→Option Nat}:∀ {j:Nat},f (1000 + j)=some (1000 + j)→AV.mvn f (lnkN j)=lnkN j
 | 0,h=>by simp only [lnkN,AV.mvn,Nat.add_zero] at h ⊢;rw [h]
 | j + 1,h=>by simp only [lnkN,AV.mvn];rw [show 1001 + j=1000 + (j + 1) by omega,h]
theorem tlK_ins {h:Int} {l:List Gt} {x:Rt} {K:AV→List (Nat × List AV)→Prop} {j:Nat} (hj:skN x.f x.b l=j) (hs:(l[j]?.any fun g=>g.r.f == x.f && g.r.b == x.b)=false) (h6:¬ l.length=6) (hK:tlK h true l x K):K (.v .nilIface) (insM h true l x j):=by
 subst hj
 rw [tlK,if_pos rfl,hs,if_neg (by simp),if_neg h6] at hK;exact hK
theorem tlK_full {h:Int} {l:List Gt} {x:Rt} {K:AV→List (Nat × List AV)→Prop} {j:Nat} (hj:skN x.f x.b l=j) (hs:(l[j]?.any fun g=>g.r.f == x.f && g.r.b == x.b)=false) (h6:l.length=6) (hK:tlK h true l x K) {r:AV} (hr:tErr r):K r (sesL h true l l.length):=by
 subst hj
 rw [tlK,if_pos rfl,hs,if_neg (by simp),if_pos h6] at hK;exact hK r hr
theorem tlK_set {h:Int} {l:List Gt} {x:Rt} {K:AV→List (Nat × List AV)→Prop} {j:Nat} (hj:skN x.f x.b l=j) (hs:(l[j]?.any fun g=>g.r.f == x.f && g.r.b == x.b)=true) (hK:tlK h true l x K):K (.v .nilIface) (sesL h true (l.set j ⟨x,false⟩) l.length):=by
 subst hj
 rw [tlK,if_pos rfl,hs,if_pos rfl] at hK;exact hK
theorem kp4 {x:Nat} {y:AV} {σ:List (Nat × AV)} (h:lk 4 σ=y):lk x [(4,y)]=lk x σ∨lk x [(4,y)] = .junk:=by
 simp only [lk];split
 ·rename_i e;subst e;exact .inl h.symm
 ·exact .inr rfl
theorem ins0_ok {h:Int} {up:Bool} {l:List Gt} {x:Rt} {m:List (Nat × List AV)} (h6:lkm 600 m=some (gcs ⟨x,false⟩++[hdB l 1001])) (h0:lkm 1000 m=some [iv h,bv up,.loc 600 0,iv (l.length + 1)])
  (hm:∀ k,1001≤k→lkm k m=lkm k (ndB l 1001)):∀ k ls,lkm k (insM h up l x 0)=some ls→lkm k m=some ls:=by
 intro k ls hk
 simp only [insM,lkm] at hk
 split at hk
 ·rename_i e;subst e;rw [h6];exact hk
 ·split at hk
  ·rename_i e;subst e;rw [h0];simpa using hk
  ·rw [lkm_ndI] at hk
   split at hk
   ·rename_i hle
    rw [hm k hle,lkm_nd,if_pos hle]
    simpa using hk
   ·cases hk
theorem same_le {h:Int} {up:Bool} {l:List Gt} {n:Int} {m:List (Nat × List AV)} (hm:∀ k,1000≤k→lkm k m=lkm k (sesL h up l n)):∀ k ls,lkm k (sesL h up l n)=some ls→lkm k m=some ls:=fun k ls hk=>by
 rw [hm k]
 ·exact hk
 ·simp only [sesL,lkm] at hk
  split at hk
  ·omega
  ·rw [lkm_nd] at hk
   split at hk
   ·omega
   ·cases hk
theorem lkm_rpno {k a D:Nat} {X:List AV} (h:k < a):∀ l:List Gt,lkm k (repm D X (ndB l a))=none
 | []=>rfl
 | g::l=>by
  simp only [ndB,repm]
  split
  ·simp only [lkm];rw [if_neg (by omega),lkm_no (by omega)]
  ·simp only [lkm];rw [if_neg (by omega)]
   have:∀ (l:List Gt) (b:Nat),k < b→lkm k (repm D X (ndB l b))=none:=fun l=>by
    induction l with
    | nil=>intro b _;rfl
    | cons g l ih =>
     intro b hb
     simp only [ndB,repm]
     split
     ·simp only [lkm];rw [if_neg (by omega),lkm_no (by omega)]
     ·simp only [lkm];rw [if_neg (by omega),ih _ (by omega)]
   exact this l _ (by omega)
theorem hdB_frz {d a:Nat} {ys:List DV} (h:d < a) (l:List Gt):AV.frz d ys (hdB l a)=hdB l a:=by
 cases l with
 | nil=>rfl
 | cons g l=>simp only [hdB,AV.frz];rw [if_neg (by omega)]
/-- what the evaluator asks of the symbolic boxes -/
theorem ndF (l:List Gt):(∀ k v m,k < 1001→kpm (nmB l 1001) ((k,v)::m)=kpm (nmB l 1001) m)∧kpm (nmB l 1001) (ndB l 1001)=ndB l 1001∧(∀ D X,kpm (nmB l 1001) (repm D X (ndB l 1001))=repm D X (ndB l 1001))∧
  (∀ k v m,k < 1001→eqm ((k,v)::m) (ndB l 1001)=eqm m (ndB l 1001))∧eqm (ndB l 1001) (ndB l 1001)=True∧(∀ k,k < 1001→lkm k (ndB l 1001)=none)∧(∀ k D X,k < 1001→lkm k (repm D X (ndB l 1001))=none)∧
  (∀ d,d < 1001→stripLm d (ndB l 1001)=ndB l 1001)∧(∀ d ys,d < 1001→frzm d ys (ndB l 1001)=ndB l 1001)∧(∀ d,d < 1001→AV.stripL d (hdB l 1001)=hdB l 1001)∧(∀ d ys,d < 1001→AV.frz d ys (hdB l 1001)=hdB l 1001)∧AV.swb 59 600 (hdB l 1001)=hdB l 1001 :=
 ⟨fun k v m h=>kpm_skip h,kpm_nd l 1001,fun D X=>kpm_rp l 1001,fun k v m h=>eqm_skip l 1001 h,eqm_nd l 1001,fun k h=>lkm_no h l,fun k D X h=>lkm_rpno h l,
  fun d h=>strip_nd l 1001 h,fun d ys h=>frz_nd l 1001 h,fun d h=>hdB_str h l,fun d ys h=>hdB_frz h l,swb_hd (by omega) (by omega) l⟩
theorem ltF (i:Nat):((1001 + i=3)=False)∧((1001 + i=59)=False)∧((1001 + i=600)=False)∧((1001 + i=1000)=False):=⟨one_lt (by omega),one_lt (by omega),one_lt (by omega),one_lt (by omega)⟩
set_option maxHeartbeats 8000000 in
theorem tell_rest {E:En} {h0 rf rb rk:Int} {l:List Gt} {p m:List Int} (hE:TbOk E (tbTS ((sesL h0 true l l.length).map (·.1)))) {k:Nat} {Q:Exit→St→Prop} (hl6:l.length≤6) (hp:p.length≤1000) (hm:m.length≤1000)
  (hQ:∀ st,retM TT #[Go.ResultVar.tmp 4].toList cTellS [.loc 1000 0,(⟨rf,rb,p,rk,m⟩:Rt).av] (sesL h0 true l l.length) .ret st→Q .ret st) :
  Aw E (sndC (sndC (sndC (Tryz.f43.body.getD .skip)))) ⟨68,[(0,.loc 1000 0),(3,.loc 3 0),(5,lnkN (skN rf rb l))],(3,[iv rf,iv rb,isl p,iv rk,isl m])::sesL h0 true l l.length,k⟩ Q:=by
 have hjl:=skN_le rf rb l
 generalize hj:skN rf rb l=j at hjl ⊢
 have fa:=ndF l
 have hfz:∀ m,(∀ k,1000≤k→lkm k m=lkm k (sesL h0 true l l.length))→_:=fun m h=>frzA (d:=49) (by omega) h
 simp only [sesL] at hfz
 rcases j with _ | i
 ·simp only [lnkN,sesL]
  obtain hd | ⟨g,r,hd⟩:l=[]∨∃ g r,l=g::r:=by cases l<;>simp
  ·have hH:hdB l 1001 = .v (.pointer none):=by rw [hd];rfl
   have hno:(l[0]?.any fun g=>g.r.f == rf && g.r.b == rb)=false:=by rw [hd];rfl
   simp only [hH] at fa ⊢
   refine Aw_sq fun B4 hB4 hR4 hX4=>?_
   refine Aw_sd hE [0,3,5,34] (3::59::1000::nmB l 1001) 6 (by kernel_rfl) fun K hK=>?_
   simp only [go_sem,seval,fa,if_false,Nat.reduceLT]
   refine hK _ (Aw_no rfl (Aw_skip (hB4 _ ?_)))
   refine Aw_sq fun B7 hB7 hR7 hX7=>?_
   refine Aw_st hE [0,3,5,47] (3::59::1000::nmB l 1001) fun K hK=>?_
   simp only [go_sem,seval,fa,if_false,Nat.reduceLT]
   have h6:¬ l.length=6:=by rw [hd];decide
   have h6':((l.length:Int)=6)=False:=eq_false (by omega)
   simp only [h6',decide_false]
   refine hK _ (Aw_no rfl (Aw_skip (hB7 _ ?_)))
   apply (fun F0 F1 F2 F3 F4 F5=>Aw_sD hE [([0,1,4,5],(.alt 2 (.ref 1) (.alt 6 (.ref 2) .non))),([0,1,2,4,5],(.alt 3 (.ref 3) (.alt 6 (.ref 4) .non))),([0,1,4,5,6],(.alt 2 (.ref 4) .non)),([0,1,2,3,4,5],(.alt 6 (.ref 5) .non)),([0,1,2,4,5,6],(.alt 3 (.ref 5) .non)),([0,1,2,3,4,5,6],(.alt 7 (.alt 8 (.alt 9 (.alt 10 .done .non) .non) .non) .non))] (.fst 0 (.fst 4 (.alt 1 (.alt 2 (.alt 3 (.alt 5 (.ref 3) .non) (.alt 5 (.ref 1) .non)) (.alt 5 (.ref 0) .non)) (.alt 5 (.alt 1 (.ref 0) (.alt 6 (.alt 1 (.ref 2) .non) .non)) .non)))) [F0,F1,F2,F3,F4,F5] [0] (3::59::1000::nmB l 1001))
   ·kernel_rfl
   intro K hK
   refine And.intro ?_ (And.intro ?_ (And.intro ?_ (And.intro ?_ (And.intro ?_ (And.intro ?_ (And.intro ?_ trivial))))))
   iterate 6 (focus (simp only [go_sem,seval,↓avLe_self,↓avLeL_self,fa,if_false,Nat.reduceLT];repeat' (first | exact (fun _ _ r=>r) | exact LeE_eq (by simp only [go_sem,seval,↓avLe_self,↓avLeL_self,fa,if_false,Nat.reduceLT]) (by simp only [go_sem,seval,↓avLe_self,↓avLeL_self,fa,if_false,Nat.reduceLT]) | exact LeE_wk (by simp only [go_sem,seval,↓avLe_self,↓avLeL_self,fa,if_false,Nat.reduceLT]) (by simp only [go_sem,seval,↓avLe_self,↓avLeL_self,fa,if_false,Nat.reduceLT]) | refine And.intro (by first|omega|(and_intros<;>first|omega|exact crows_row _|exact rrows_row _|exact rows_row _|decide|(simp<;>omega))|fail) ?_ | refine And.intro ?_ ?_)))
   simp only [go_sem,seval,↓avLe_self,↓avLeL_self,fa,if_false,Nat.reduceLT]
   refine hK _ ?_;clear hK K
   refine Aw_st hE [] (3::59::1000::nmB l 1001) fun K hK=>?_
   simp only [go_sem,seval,fa,if_false,Nat.reduceLT]
   repeat refine ⟨by first|omega|(and_intros<;>first|omega|exact rows_row _|decide|(simp<;>omega))|fail,?_⟩
   refine hK _ ?_;clear hK K
   refine Aw_st hE [4] (3::59::1000::nmB l 1001) fun K hK=>?_
   simp only [go_sem,seval,fa,if_false,Nat.reduceLT]
   refine hK _ ?_
   refine Aw.leE (Le_E (Le_swb _ 59 600 (by decide) (by decide))) ?_
   simp only [St.swb,swbσ,swbm,AV.swb,AV.swbAll,swp,Nat.reduceEqDiff,reduceIte,if_true,if_false,fa,swb_nd l 1001 (show 59 < 1001 by omega) (show 600 < 1001 by omega)]
   refine Aw.leE (Le_E (Le_of (σ':=[(4,.v .nilIface)]) (m':=insM h0 true l ⟨rf,rb,p,rk,m⟩ 0) (fun x=>kp4 rfl) (ins0_ok ?_ ?_ ?_))) ?_
   ·rw [hH];rfl
   ·rfl
   ·intro k hk1
    simp only [lkm]
    rw [if_neg (by omega),if_neg (by omega),if_neg (by omega)]
   refine Aw_ret (hQ _ ?_)
   simp only [go_sem,seval,nt_ins]
   exact tell_post fun K hK=>tlK_ins (x:=⟨rf,rb,p,rk,m⟩) hj hno h6 hK
  ·have hH:hdB l 1001 = .loc 1001 0:=by rw [hd];rfl
   have h0l:0 < l.length:=by rw [hd];simp
   have hg:l[0]=g:=by simp [hd]
   have hk:=node_at h0l
   rw [hg] at hk
   have hsn:(l[0]?.any fun g=>g.r.f == rf && g.r.b == rb)=(g.r.f == rf && g.r.b == rb):=by
    rw [hd];rfl
   generalize hZ:hdB (l.drop (0 + 1)) (1002 + 0)=Z at hk
   simp only [hH] at fa hfz ⊢
   simp only [Nat.add_zero] at hk
   have fc:=hk
   refine Aw_sq fun B4 hB4 hR4 hX4=>?_
   cases he:(g.r.f == rf && g.r.b == rb) with
   | true =>
    have hsm:=hsn.trans he
    refine Aw_sd hE [0,3,5,34] (3::59::1000::nmB l 1001) 6 (by kernel_rfl) fun K hK=>?_
    simp only [go_sem,seval,fa,fc,he,if_false,Nat.reduceLT]
    refine hK _ (Aw_yes rfl ?_)
    refine Aw_sd hE [] (3::59::1000::nmB l 1001) 6 (by kernel_rfl) fun K hK=>?_
    simp only [go_sem,seval,fa,fc,if_false,Nat.reduceLT]
    refine ⟨⟨by omega,by omega⟩,?_⟩
    refine hK _ ?_;clear hK K
    refine Aw_st hE [4] (3::59::1000::nmB l 1001) fun K hK=>?_
    simp only [go_sem,seval,fa,fc,if_false,Nat.reduceLT]
    refine hK _ ?_
    refine Aw.leE (Le_E (Le_of (σ':=[(4,.v .nilIface)]) (m':=sesZ h0 true (l.set 0 ⟨⟨rf,rb,p,rk,m⟩,false⟩) l.length) (fun x=>kp4 rfl) (setm_ok (j:=0) h0l ?_ ?_))) ?_
    ·rw [hH];rfl
    ·intro k hk1
     subst hZ
     simp only [lkm]
     rw [if_neg (by omega),if_neg (by omega)]
     rfl
    refine Aw_ret (hR4 _ (hQ _ ?_))
    simp only [go_sem,seval,nt_sesZ]
    exact tell_post fun K hK=>tlK_set (x:=⟨rf,rb,p,rk,m⟩) hj hsm hK
   | false =>
    have hno:=hsn.trans he
    refine Aw_sd hE [0,3,5,34] (3::59::1000::nmB l 1001) 6 (by kernel_rfl) fun K hK=>?_
    simp only [go_sem,seval,fa,fc,he,if_false,Nat.reduceLT]
    refine hK _ (Aw_no rfl (Aw_skip (hB4 _ ?_)))
    refine Aw_sq fun B7 hB7 hR7 hX7=>?_
    refine Aw_st hE [0,3,5,47] (3::59::1000::nmB l 1001) fun K hK=>?_
    simp only [go_sem,seval,fa,fc,if_false,Nat.reduceLT]
    by_cases h6:l.length=6
    ·have h6':((l.length:Int)=6)=True:=eq_true (by omega)
     simp only [h6',decide_true]
     refine hK _ (Aw_yes rfl ?_)
     refine Aw_st hE [4] (3::59::1000::nmB l 1001) fun K hK=>?_
     simp only [go_sem,seval,fa,fc,if_false,Nat.reduceLT]
     refine And.intro (hfz ((49,_)::(3,_)::(1000,[iv h0,bv true,.loc 1001 0,iv l.length])::ndB l 1001) fun k hk1=>?_) ?_
     ·simp only [lkm]
      rw [if_neg (by omega),if_neg (by omega)]
     refine hK _ ?_
     refine Aw.leE (Le_E (Le_of (σ':=[(4,_)]) (m':=sesZ h0 true l l.length) (fun x=>kp4 rfl) (same_le fun k hk1=>?_))) ?_
     ·rw [sesL,hH];simp only [lkm];rw [if_neg (by omega)]
     refine Aw_ret (hR7 _ (hQ _ ?_))
     simp only [go_sem,seval,nt_sesZ]
     exact tell_post fun K hK=>tlK_full (x:=⟨rf,rb,p,rk,m⟩) hj hno h6 hK ⟨_,rfl⟩
    ·have h6':((l.length:Int)=6)=False:=eq_false (by omega)
     simp only [h6',decide_false]
     refine hK _ (Aw_no rfl (Aw_skip (hB7 _ ?_)))
     apply (fun F0 F1 F2 F3 F4 F5=>Aw_sD hE [([0,1,4,5],(.alt 2 (.ref 1) (.alt 6 (.ref 2) .non))),([0,1,2,4,5],(.alt 3 (.ref 3) (.alt 6 (.ref 4) .non))),([0,1,4,5,6],(.alt 2 (.ref 4) .non)),([0,1,2,3,4,5],(.alt 6 (.ref 5) .non)),([0,1,2,4,5,6],(.alt 3 (.ref 5) .non)),([0,1,2,3,4,5,6],(.alt 7 (.alt 8 (.alt 9 (.alt 10 .done .non) .non) .non) .non))] (.fst 0 (.fst 4 (.alt 1 (.alt 2 (.alt 3 (.alt 5 (.ref 3) .non) (.alt 5 (.ref 1) .non)) (.alt 5 (.ref 0) .non)) (.alt 5 (.alt 1 (.ref 0) (.alt 6 (.alt 1 (.ref 2) .non) .non)) .non)))) [F0,F1,F2,F3,F4,F5] [0] (3::59::1000::nmB l 1001))
     ·kernel_rfl
     intro K hK
     refine And.intro ?_ (And.intro ?_ (And.intro ?_ (And.intro ?_ (And.intro ?_ (And.intro ?_ (And.intro ?_ trivial))))))
     iterate 6 (focus (simp only [go_sem,seval,↓avLe_self,↓avLeL_self,fa,fc,if_false,Nat.reduceLT];repeat' (first | exact (fun _ _ r=>r) | exact LeE_eq (by simp only [go_sem,seval,↓avLe_self,↓avLeL_self,fa,fc,if_false,Nat.reduceLT]) (by simp only [go_sem,seval,↓avLe_self,↓avLeL_self,fa,fc,if_false,Nat.reduceLT]) | exact LeE_wk (by simp only [go_sem,seval,↓avLe_self,↓avLeL_self,fa,fc,if_false,Nat.reduceLT]) (by simp only [go_sem,seval,↓avLe_self,↓avLeL_self,fa,fc,if_false,Nat.reduceLT]) | refine And.intro (by first|omega|(and_intros<;>first|omega|exact crows_row _|exact rrows_row _|exact rows_row _|decide|(simp<;>omega))|fail) ?_ | refine And.intro ?_ ?_)))
     simp only [go_sem,seval,↓avLe_self,↓avLeL_self,fa,fc,if_false,Nat.reduceLT]
     refine hK _ ?_;clear hK K
     refine Aw_st hE [] (3::59::1000::nmB l 1001) fun K hK=>?_
     simp only [go_sem,seval,fa,fc,if_false,Nat.reduceLT]
     repeat refine ⟨by first|omega|(and_intros<;>first|omega|exact rows_row _|decide|(simp<;>omega))|fail,?_⟩
     refine hK _ ?_;clear hK K
     refine Aw_st hE [4] (3::59::1000::nmB l 1001) fun K hK=>?_
     simp only [go_sem,seval,fa,fc,if_false,Nat.reduceLT]
     refine hK _ ?_
     refine Aw.leE (Le_E (Le_swb _ 59 600 (by decide) (by decide))) ?_
     simp only [St.swb,swbσ,swbm,AV.swb,AV.swbAll,swp,Nat.reduceEqDiff,reduceIte,if_true,if_false,fa,fc,swb_nd l 1001 (show 59 < 1001 by omega) (show 600 < 1001 by omega)]
     refine Aw.leE (Le_E (Le_of (σ':=[(4,.v .nilIface)]) (m':=insM h0 true l ⟨rf,rb,p,rk,m⟩ 0) (fun x=>kp4 rfl) (ins0_ok ?_ ?_ ?_))) ?_
     ·rw [hH];rfl
     ·rfl
     ·intro k hk1
      simp only [lkm]
      rw [if_neg (by omega),if_neg (by omega),if_neg (by omega)]
     refine Aw_ret (hQ _ ?_)
     simp only [go_sem,seval,nt_ins]
     exact tell_post fun K hK=>tlK_ins (x:=⟨rf,rb,p,rk,m⟩) hj hno h6 hK
 ·have hi:i < l.length:=by omega
  have hk:=node_at hi
  have f3:=ltF i
  simp only [lnkN,sesL]
  generalize hH:hdB l 1001=H at fa hfz ⊢
  cases hd:l.drop (i + 1) with
  | nil =>
   rw [hd] at hk
   have hk:lkm (1001 + i) (ndB l 1001)=some (gcs l[i]++[.v (.pointer none)]):=hk
   have hno:(l[i + 1]?.any fun g=>g.r.f == rf && g.r.b == rb)=false:=by
    have:l.length≤i + 1:=List.drop_eq_nil_iff.1 hd
    rw [List.getElem?_eq_none this];rfl
   generalize hD:1001 + i=D at f3 hk ⊢
   have fc:=And.intro hk f3
   refine Aw_sq fun B4 hB4 hR4 hX4=>?_
   refine Aw_sd hE [0,3,5,34] (3::59::1000::nmB l 1001) 6 (by kernel_rfl) fun K hK=>?_
   simp only [go_sem,seval,fa,fc,if_false,Nat.reduceLT]
   refine hK _ (Aw_no rfl (Aw_skip (hB4 _ ?_)))
   refine Aw_sq fun B7 hB7 hR7 hX7=>?_
   refine Aw_st hE [0,3,5,47] (3::59::1000::nmB l 1001) fun K hK=>?_
   simp only [go_sem,seval,fa,fc,if_false,Nat.reduceLT]
   by_cases h6:l.length=6
   ·have h6':((l.length:Int)=6)=True:=eq_true (by omega)
    simp only [h6',decide_true]
    refine hK _ (Aw_yes rfl ?_)
    refine Aw_st hE [4] (3::59::1000::nmB l 1001) fun K hK=>?_
    simp only [go_sem,seval,fa,fc,if_false,Nat.reduceLT]
    refine And.intro (hfz ((49,_)::(3,_)::(1000,[iv h0,bv true,H,iv l.length])::ndB l 1001) fun k hk1=>?_) ?_
    ·simp only [lkm]
     rw [if_neg (by omega),if_neg (by omega)]
    refine hK _ ?_
    refine Aw.leE (Le_E (Le_of (σ':=[(4,_)]) (m':=sesZ h0 true l l.length) (fun x=>kp4 rfl) (same_le fun k hk1=>?_))) ?_
    ·subst hH;simp only [lkm];rw [if_neg (by omega)];rfl
    refine Aw_ret (hR7 _ (hQ _ ?_))
    simp only [go_sem,seval,nt_sesZ]
    exact tell_post fun K hK=>tlK_full (x:=⟨rf,rb,p,rk,m⟩) hj hno h6 hK ⟨_,rfl⟩
   ·have h6':((l.length:Int)=6)=False:=eq_false (by omega)
    simp only [h6',decide_false]
    refine hK _ (Aw_no rfl (Aw_skip (hB7 _ ?_)))
    apply (fun F0 F1 F2 F3 F4 F5=>Aw_sD hE [([0,1,4,5],(.alt 2 (.ref 1) (.alt 6 (.ref 2) .non))),([0,1,2,4,5],(.alt 3 (.ref 3) (.alt 6 (.ref 4) .non))),([0,1,4,5,6],(.alt 2 (.ref 4) .non)),([0,1,2,3,4,5],(.alt 6 (.ref 5) .non)),([0,1,2,4,5,6],(.alt 3 (.ref 5) .non)),([0,1,2,3,4,5,6],(.alt 7 (.alt 8 (.alt 9 (.alt 10 .done .non) .non) .non) .non))] (.fst 0 (.fst 4 (.alt 1 (.alt 2 (.alt 3 (.alt 5 (.ref 3) .non) (.alt 5 (.ref 1) .non)) (.alt 5 (.ref 0) .non)) (.alt 5 (.alt 1 (.ref 0) (.alt 6 (.alt 1 (.ref 2) .non) .non)) .non)))) [F0,F1,F2,F3,F4,F5] [0] (3::59::1000::nmB l 1001))
    ·kernel_rfl
    intro K hK
    refine And.intro ?_ (And.intro ?_ (And.intro ?_ (And.intro ?_ (And.intro ?_ (And.intro ?_ (And.intro ?_ trivial))))))
    iterate 6 (focus (simp only [go_sem,seval,↓avLe_self,↓avLeL_self,fa,fc,if_false,Nat.reduceLT];repeat' (first | exact (fun _ _ r=>r) | exact LeE_eq (by simp only [go_sem,seval,↓avLe_self,↓avLeL_self,fa,fc,if_false,Nat.reduceLT]) (by simp only [go_sem,seval,↓avLe_self,↓avLeL_self,fa,fc,if_false,Nat.reduceLT]) | exact LeE_wk (by simp only [go_sem,seval,↓avLe_self,↓avLeL_self,fa,fc,if_false,Nat.reduceLT]) (by simp only [go_sem,seval,↓avLe_self,↓avLeL_self,fa,fc,if_false,Nat.reduceLT]) | refine And.intro (by first|omega|(and_intros<;>first|omega|exact crows_row _|exact rrows_row _|exact rows_row _|decide|(simp<;>omega))|fail) ?_ | refine And.intro ?_ ?_)))
    simp only [go_sem,seval,↓avLe_self,↓avLeL_self,fa,fc,if_false,Nat.reduceLT]
    refine hK _ ?_;clear hK K
    refine Aw_st hE [] (3::59::1000::nmB l 1001) fun K hK=>?_
    simp only [go_sem,seval,fa,fc,if_false,Nat.reduceLT]
    repeat refine ⟨by first|omega|(and_intros<;>first|omega|exact rows_row _|decide|(simp<;>omega))|fail,?_⟩
    refine hK _ ?_;clear hK K
    refine Aw_st hE [4] (3::59::1000::nmB l 1001) fun K hK=>?_
    simp only [go_sem,seval,fa,fc,if_false,Nat.reduceLT]
    refine hK _ ?_
    refine Aw.leE (Le_E (Le_swb _ 59 600 (by decide) (by decide))) ?_
    simp only [St.swb,swbσ,swbm,AV.swb,AV.swbAll,swp,Nat.reduceEqDiff,reduceIte,if_true,if_false,fa,fc,swb_rp l 1001 (show 59 < 1001 by omega) (show 600 < 1001 by omega)]
    refine Aw.leE (Le_E (Le_of (σ':=[(4,.v .nilIface)]) (m':=insM h0 true l ⟨rf,rb,p,rk,m⟩ (i + 1)) (fun x=>kp4 rfl) (insm_ok hi ?_ ?_ ?_))) ?_
    ·rw [hd];rfl
    ·subst hH;rfl
    ·intro k hk1
     subst hD
     simp only [lkm]
     rw [if_neg (by omega),if_neg (by omega),if_neg (by omega)]
     rfl
    refine Aw_ret (hQ _ ?_)
    simp only [go_sem,seval,nt_ins]
    exact tell_post fun K hK=>tlK_ins (x:=⟨rf,rb,p,rk,m⟩) hj hno h6 hK
  | cons g r =>
   have hjl':i + 1 < l.length:=by
    rcases Nat.lt_or_ge (i + 1) l.length with h | h
    ·exact h
    ·rw [List.drop_eq_nil_of_le h] at hd;cases hd
   have hg:l[i + 1]=g:=by
    rw [List.drop_eq_getElem_cons hjl'] at hd;exact (List.cons.inj hd).1
   have hkY:=node_at hjl'
   rw [hg] at hkY
   have g3:=ltF (i + 1)
   have hZ':hdB (l.drop (i + 1)) (1002 + i) = .loc (1001 + (i + 1)) 0:=by
    rw [hd,show 1001 + (i + 1)=1002 + i by omega];rfl
   rw [hZ'] at hk
   have hsn:(l[i + 1]?.any fun g=>g.r.f == rf && g.r.b == rb)=(g.r.f == rf && g.r.b == rb):=by
    rw [List.getElem?_eq_getElem hjl',hg];rfl
   generalize hZ:hdB (l.drop (i + 1 + 1)) (1002 + (i + 1))=Z at hkY
   generalize hD:1001 + i=D at f3 hk ⊢
   generalize hY':1001 + (i + 1)=Y at g3 hk hkY hZ' ⊢
   have fc:=And.intro (And.intro hk f3) (And.intro hkY g3)
   refine Aw_sq fun B4 hB4 hR4 hX4=>?_
   cases he:(g.r.f == rf && g.r.b == rb) with
   | true =>
    have hsm:=hsn.trans he
    refine Aw_sd hE [0,3,5,34] (3::59::1000::nmB l 1001) 6 (by kernel_rfl) fun K hK=>?_
    simp only [go_sem,seval,fa,fc,he,if_false,Nat.reduceLT]
    refine hK _ (Aw_yes rfl ?_)
    refine Aw_sd hE [] (3::59::1000::nmB l 1001) 6 (by kernel_rfl) fun K hK=>?_
    simp only [go_sem,seval,fa,fc,if_false,Nat.reduceLT]
    refine ⟨⟨by omega,by omega⟩,?_⟩
    refine hK _ ?_;clear hK K
    refine Aw_st hE [4] (3::59::1000::nmB l 1001) fun K hK=>?_
    simp only [go_sem,seval,fa,fc,if_false,Nat.reduceLT]
    refine hK _ ?_
    refine Aw.leE (Le_E (Le_of (σ':=[(4,.v .nilIface)]) (m':=sesZ h0 true (l.set (i + 1) ⟨⟨rf,rb,p,rk,m⟩,false⟩) l.length) (fun x=>kp4 rfl) (setm_ok (j:=(i + 1)) hjl' ?_ ?_))) ?_
    ·subst hH;rfl
    ·intro k hk1
     subst hY' hZ
     simp only [lkm]
     rw [if_neg (by omega),if_neg (by omega)]
     rfl
    refine Aw_ret (hR4 _ (hQ _ ?_))
    simp only [go_sem,seval,nt_sesZ]
    exact tell_post fun K hK=>tlK_set (x:=⟨rf,rb,p,rk,m⟩) hj hsm hK
   | false =>
    have hno:=hsn.trans he
    refine Aw_sd hE [0,3,5,34] (3::59::1000::nmB l 1001) 6 (by kernel_rfl) fun K hK=>?_
    simp only [go_sem,seval,fa,fc,he,if_false,Nat.reduceLT]
    refine hK _ (Aw_no rfl (Aw_skip (hB4 _ ?_)))
    refine Aw_sq fun B7 hB7 hR7 hX7=>?_
    refine Aw_st hE [0,3,5,47] (3::59::1000::nmB l 1001) fun K hK=>?_
    simp only [go_sem,seval,fa,fc,if_false,Nat.reduceLT]
    by_cases h6:l.length=6
    ·have h6':((l.length:Int)=6)=True:=eq_true (by omega)
     simp only [h6',decide_true]
     refine hK _ (Aw_yes rfl ?_)
     refine Aw_st hE [4] (3::59::1000::nmB l 1001) fun K hK=>?_
     simp only [go_sem,seval,fa,fc,if_false,Nat.reduceLT]
     refine And.intro (hfz ((49,_)::(3,_)::(1000,[iv h0,bv true,H,iv l.length])::ndB l 1001) fun k hk1=>?_) ?_
     ·simp only [lkm]
      rw [if_neg (by omega),if_neg (by omega)]
     refine hK _ ?_
     refine Aw.leE (Le_E (Le_of (σ':=[(4,_)]) (m':=sesZ h0 true l l.length) (fun x=>kp4 rfl) (same_le fun k hk1=>?_))) ?_
     ·subst hH;simp only [lkm];rw [if_neg (by omega)];rfl
     refine Aw_ret (hR7 _ (hQ _ ?_))
     simp only [go_sem,seval,nt_sesZ]
     exact tell_post fun K hK=>tlK_full (x:=⟨rf,rb,p,rk,m⟩) hj hno h6 hK ⟨_,rfl⟩
    ·have h6':((l.length:Int)=6)=False:=eq_false (by omega)
     simp only [h6',decide_false]
     refine hK _ (Aw_no rfl (Aw_skip (hB7 _ ?_)))
     apply (fun F0 F1 F2 F3 F4 F5=>Aw_sD hE [([0,1,4,5],(.alt 2 (.ref 1) (.alt 6 (.ref 2) .non))),([0,1,2,4,5],(.alt 3 (.ref 3) (.alt 6 (.ref 4) .non))),([0,1,4,5,6],(.alt 2 (.ref 4) .non)),([0,1,2,3,4,5],(.alt 6 (.ref 5) .non)),([0,1,2,4,5,6],(.alt 3 (.ref 5) .non)),([0,1,2,3,4,5,6],(.alt 7 (.alt 8 (.alt 9 (.alt 10 .done .non) .non) .non) .non))] (.fst 0 (.fst 4 (.alt 1 (.alt 2 (.alt 3 (.alt 5 (.ref 3) .non) (.alt 5 (.ref 1) .non)) (.alt 5 (.ref 0) .non)) (.alt 5 (.alt 1 (.ref 0) (.alt 6 (.alt 1 (.ref 2) .non) .non)) .non)))) [F0,F1,F2,F3,F4,F5] [0] (3::59::1000::nmB l 1001))
     ·kernel_rfl
     intro K hK
     refine And.intro ?_ (And.intro ?_ (And.intro ?_ (And.intro ?_ (And.intro ?_ (And.intro ?_ (And.intro ?_ trivial))))))
     iterate 6 (focus (simp only [go_sem,seval,↓avLe_self,↓avLeL_self,fa,fc,if_false,Nat.reduceLT];repeat' (first | exact (fun _ _ r=>r) | exact LeE_eq (by simp only [go_sem,seval,↓avLe_self,↓avLeL_self,fa,fc,if_false,Nat.reduceLT]) (by simp only [go_sem,seval,↓avLe_self,↓avLeL_self,fa,fc,if_false,Nat.reduceLT]) | exact LeE_wk (by simp only [go_sem,seval,↓avLe_self,↓avLeL_self,fa,fc,if_false,Nat.reduceLT]) (by simp only [go_sem,seval,↓avLe_self,↓avLeL_self,fa,fc,if_false,Nat.reduceLT]) | refine And.intro (by first|omega|(and_intros<;>first|omega|exact crows_row _|exact rrows_row _|exact rows_row _|decide|(simp<;>omega))|fail) ?_ | refine And.intro ?_ ?_)))
     simp only [go_sem,seval,↓avLe_self,↓avLeL_self,fa,fc,if_false,Nat.reduceLT]
     refine hK _ ?_;clear hK K
     refine Aw_st hE [] (3::59::1000::nmB l 1001) fun K hK=>?_
     simp only [go_sem,seval,fa,fc,if_false,Nat.reduceLT]
     repeat refine ⟨by first|omega|(and_intros<;>first|omega|exact rows_row _|decide|(simp<;>omega))|fail,?_⟩
     refine hK _ ?_;clear hK K
     refine Aw_st hE [4] (3::59::1000::nmB l 1001) fun K hK=>?_
     simp only [go_sem,seval,fa,fc,if_false,Nat.reduceLT]
     refine hK _ ?_
     refine Aw.leE (Le_E (Le_swb _ 59 600 (by decide) (by decide))) ?_
     simp only [St.swb,swbσ,swbm,AV.swb,AV.swbAll,swp,Nat.reduceEqDiff,reduceIte,if_true,if_false,fa,fc,swb_rp l 1001 (show 59 < 1001 by omega) (show 600 < 1001 by omega)]
     refine Aw.leE (Le_E (Le_of (σ':=[(4,.v .nilIface)]) (m':=insM h0 true l ⟨rf,rb,p,rk,m⟩ (i + 1)) (fun x=>kp4 rfl) (insm_ok hi ?_ ?_ ?_))) ?_
     ·rw [hZ'];rfl
     ·subst hH;rfl
     ·intro k hk1
      subst hD
      simp only [lkm]
      rw [if_neg (by omega),if_neg (by omega),if_neg (by omega)]
      rfl
     refine Aw_ret (hQ _ ?_)
     simp only [go_sem,seval,nt_ins]
     exact tell_post fun K hK=>tlK_ins (x:=⟨rf,rb,p,rk,m⟩) hj hno h6 hK
set_option maxHeartbeats 8000000 in
theorem tell_ok:FineM Tryz.prog 43 cTellS:=by
 refine fineM_ofL [] ms_nil [(67,(cSeek,[(1000,1000)],[]))] (mm_cons seek_ok (by decide) mm_nil) [] [] ex_nil (T:=TT) Tryz.func43 rfl Tryz.ntmps43 (by rw [Tryz.results43]) rfl rfl tt gs_nil (ds_cons copyD_ok ds_nil) ?_
 rintro args m1 ⟨h0,up,l,x,rfl,rfl,hl6,hlg,hr,hp,hm⟩
 obtain ⟨rf,rb,p,rk,m⟩:=x
 simp only at hr hp hm
 refine ⟨by simp,fun E hE Q hQ=>?_⟩
 have fa:=ndF l
 have hfz:∀ m,(∀ k,1000≤k→lkm k m=lkm k (sesL h0 up l l.length))→_:=fun m h=>frzA (d:=12) (by omega) h
 change Aw E _ ⟨_,_,sesL h0 up l l.length,_⟩ Q
 simp only [sesL] at hfz ⊢
 generalize hH:hdB l 1001=H at fa hfz ⊢
 refine Aw_st hE [0,3] (3::1000::nmB l 1001) fun K hK=>?_
 simp only [go_sem,seval,fa,if_false,Nat.reduceLT]
 refine hK _ ?_;clear hK K
 refine Aw_sq fun B1 hB1 hR1 hX1=>?_
 cases up with
 | false =>
  refine Aw_st hE [0,3,10] (3::1000::nmB l 1001) fun K hK=>?_
  simp only [go_sem,seval,fa,Bool.not_false,Nat.reduceLT]
  refine hK _ (Aw_yes rfl ?_)
  refine Aw_st hE [4] (3::1000::nmB l 1001) fun K hK=>?_
  simp only [go_sem,seval,fa,if_false,Nat.reduceLT]
  refine And.intro (hfz ((12,_)::(3,_)::(1000,[iv h0,bv false,H,iv l.length])::ndB l 1001) fun k hk1=>?_) ?_
  ·simp only [lkm]
   rw [if_neg (by omega),if_neg (by omega)]
  refine hK _ ?_
  refine Aw.leE (Le_E (Le_of (σ':=[(4,_)]) (m':=sesZ h0 false l l.length) (fun x=>kp4 rfl) (same_le fun k hk1=>?_))) ?_
  ·subst hH;simp only [lkm];rw [if_neg (by omega)];rfl
  refine Aw_ret (hR1 _ (hQ _ ?_))
  simp only [go_sem,seval,nt_sesZ]
  exact tell_post (x:=⟨rf,rb,p,rk,m⟩) fun K hK=>hK _ ⟨_,rfl⟩
 | true =>
  refine Aw_st hE [0,3,10] (3::1000::nmB l 1001) fun K hK=>?_
  simp only [go_sem,seval,fa,Bool.not_true,Nat.reduceLT]
  refine hK _ (Aw_no rfl (Aw_skip (hB1 _ ?_)))
  clear fa hfz hK
  subst hH
  have hjl:=skN_le rf rb l
  generalize hj:skN rf rb l=j at hjl
  rcases six hl6 with rfl | ⟨g1,rfl⟩ | ⟨g1,g2,rfl⟩ | ⟨g1,g2,g3,rfl⟩ | ⟨g1,g2,g3,g4,rfl⟩ | ⟨g1,g2,g3,g4,g5,rfl⟩ | ⟨g1,g2,g3,g4,g5,g6,rfl⟩
  all_goals
   refine Aw_st hE [0,3,5] [3,1000,1001,1002,1003,1004,1005,1006] fun K hK=>?_
   simp only [go_sem,seval]
   refine ⟨by decide,⟨h0,true,_,_,rf,rb,rfl,rfl,hl6,hlg,hr⟩,fun r m2 hp2=>?_⟩
   obtain ⟨rfl,hq⟩:=hp2
   have hq:r=lnkN j:=(hq rf rb rfl).trans (congrArg lnkN hj)
   subst hq
   rw [mvn_lnk]
   ·refine hK _ ?_
    have ht:=tell_rest (k:=0) (rk:=rk) hE hl6 hp hm hQ
    rw [hj] at ht
    exact ht
   ·simp only [List.length_cons,List.length_nil] at hjl
    repeat' split
    all_goals first | omega | (congr 1;omega)
end Go.Proofs.W
end
section
namespace Go.Proofs.W
open Go Go.Eng Go.RowKit
set_option linter.unusedSimpArgs false
set_option maxRecDepth 100000
/-! what is taken back goes out of the list,over lent boxes -/
def ndR:Nat→List Gt→Nat→List (Nat × List AV)
 | _,[],_=>[]
 | j,g::l,k=>(k,gcs g++[if j=1 then hdB (l.drop 1) (k + 2) else hdB l (k + 1)])::ndR (j - 1) l (k + 1)
def remM (h:Int) (up:Bool) (l:List Gt) (j:Nat):List (Nat × List AV):=(1000,[iv h,bv up,if j=0 then hdB (l.drop 1) 1002 else hdB l 1001,iv ((l.length:Int) - 1)])::ndR j l 1001
def drK (h:Int) (up:Bool) (l:List Gt) (f b:Int) (K:AV→List (Nat × List AV)→Prop):Prop :=
 if up=true then
  if (l[skN f b l]?.any fun g=>g.r.f == f && g.r.b == b)=true then K (.v .nilIface) (remM h up l (skN f b l))
  else ∀ r,tErr r→K r (sesL h up l l.length)
 else ∀ r,tErr r→K r (sesL h up l l.length)
def cDropS:ConM:={
 pre:=fun args m1=>∃ (h:Int) (up:Bool) (l:List Gt) (f b:Int),args=[.loc 1000 0,.agg [iv f,iv b]]∧m1=sesL h up l l.length∧l.length≤6∧(∀ g ∈ l,rngOk g.r.f g.r.b=true)∧rngOk f b=true
 post:=fun args m1 r m2=>∀ (h:Int) (up:Bool) (l:List Gt) (f b:Int),args=[.loc 1000 0,.agg [iv f,iv b]]→m1=sesL h up l l.length→∀ K:AV→List (Nat × List AV)→Prop,drK h up l f b K→K r m2 }
def tbDS (M:List Nat):Tb:={ T:=TT,G:=[],D:=[],draws:=false,lent:=true,MM:=[(67,(cSeek,[(1000,1000)],[]))],ln:=some M }
attribute [go_sem] tbDS
end Go.Proofs.W
end
section
namespace Go.Proofs.W
open Go Go.Eng Go.RowKit
set_option linter.unusedSimpArgs false
set_option maxRecDepth 100000
/-! where a range stands,and would stand -/
theorem rCmp_gt {f b f' b':Int} (h1:¬ rCmp f b f' b' < 0) (h2:(f == f' && b == b')=false):0 < rCmp f b f' b':=by
 rw [rCmp_neg] at h1
 rw [rCmp_pos]
 simp only [Bool.and_eq_false_iff,beq_eq_false_iff_ne,ne_eq] at h2
 omega
theorem skN_ins (x:Rt):∀ (l:List Gt),(l[skN x.f x.b l]?.any fun g=>g.r.f == x.f && g.r.b == x.b)=false→insG x l=l.take (skN x.f x.b l)++⟨x,false⟩::l.drop (skN x.f x.b l)
 | [],_=>rfl
 | g::l,h=>by
  simp only [skN,insG] at h ⊢
  by_cases hlt:rCmp g.r.f g.r.b x.f x.b < 0
  ·rw [if_pos hlt] at h ⊢
   rw [if_neg (by omega)]
   simp only [List.getElem?_cons_succ] at h
   rw [skN_ins x l h]
   simp only [List.take_succ_cons,List.drop_succ_cons,List.cons_append]
  ·rw [if_neg hlt] at h ⊢
   simp only [List.getElem?_cons_zero,Option.any_some] at h
   rw [if_pos (rCmp_gt hlt h)]
   rfl
theorem skN_lt {f b:Int}:∀ {l:List Gt} {i:Nat} (hi:i < l.length),i < skN f b l→rCmp l[i].r.f l[i].r.b f b < 0
 | [],i,hi,_=>by simp at hi
 | g::l,i,hi,h=>by
  simp only [skN] at h
  split at h
  ·rename_i hlt
   cases i with
   | zero=>exact hlt
   | succ i=>exact skN_lt (l:=l) (by simpa using hi) (by omega)
  ·omega
theorem skN_stop {f b:Int}:∀ {l:List Gt} (hj:skN f b l < l.length),¬ rCmp l[skN f b l].r.f l[skN f b l].r.b f b < 0
 | [],hj=>by simp at hj
 | g::l,hj=>by
  by_cases hlt:rCmp g.r.f g.r.b f b < 0
  ·have e:skN f b (g::l)=skN f b l + 1:=by simp only [skN,if_pos hlt]
   have hj':skN f b l < l.length:=by rw [e] at hj;simpa using hj
   have e2:(g::l)[skN f b (g::l)]=l[skN f b l]:=by simp only [e,List.getElem_cons_succ]
   rw [e2]
   exact skN_stop hj'
  ·have e:skN f b (g::l)=0:=by simp only [skN,if_neg hlt]
   have e2:(g::l)[skN f b (g::l)]=g:=by simp only [e,List.getElem_cons_zero]
   rw [e2];exact hlt
theorem any_at {l:List Gt} {j:Nat} {p:Gt→Bool} (h:(l[j]?.any p)=true):∃ hj:j < l.length,p l[j]=true:=by
 cases e:l[j]? with
 | none=>rw [e] at h;cases h
 | some g =>
  obtain ⟨hj,hg⟩:=List.getElem?_eq_some_iff.1 e
  rw [e] at h
  exact ⟨hj,by rw [hg];exact h⟩
theorem skN_at {f b:Int} {l:List Gt} (hp:l.Pairwise ltG) (h:(l[skN f b l]?.any fun g=>g.r.f == f && g.r.b == b)=true):atG l f b=(skN f b l:Nat):=by
 obtain ⟨hj,hs⟩:=any_at h
 simp only [Bool.and_eq_true,beq_iff_eq] at hs
 have hge:0≤atG l f b:=by
  rcases Int.lt_or_le (atG l f b) 0 with hn | hn
  ·have:=atG_neg hn _ (List.getElem_mem hj)
   simp [sameRg,hs.1,hs.2] at this
  ·exact hn
 obtain ⟨i,hi,e,h1,h2⟩:=atG_at hge
 rw [e]
 rcases Nat.lt_trichotomy i (skN f b l) with hlt | rfl | hlt
 ·have:=List.pairwise_iff_getElem.1 hp i _ hi hj hlt
  unfold ltG at this
  omega
 ·rfl
 ·have:=List.pairwise_iff_getElem.1 hp _ i hj hi hlt
  unfold ltG at this
  omega
theorem skN_no {f b:Int} {l:List Gt} (hp:l.Pairwise ltG) (h:(l[skN f b l]?.any fun g=>g.r.f == f && g.r.b == b)=false):atG l f b < 0:=by
 rcases Int.lt_or_le (atG l f b) 0 with hn | hge
 ·exact hn
 exfalso
 obtain ⟨i,hi,e,h1,h2⟩:=atG_at hge
 rcases Nat.lt_trichotomy i (skN f b l) with hlt | heq | hlt
 ·have:=skN_lt hi hlt
  rw [rCmp_neg] at this
  omega
 ·subst heq
  rw [List.getElem?_eq_getElem hi] at h
  simp [h1,h2] at h
 ·have hj:skN f b l < l.length:=by omega
  have h3:=List.pairwise_iff_getElem.1 hp _ i hj hi hlt
  have h4:=skN_stop hj
  rw [rCmp_neg] at h4
  unfold ltG at h3
  omega
def tellD (h:Int) (up:Bool) (l:List Gt) (x:Rt) (r:AV) (m2:List (Nat × List AV)):Prop :=
  (up=false∧tErr r∧m2=sesL h up l l.length)∨
  (up=true∧(l[skN x.f x.b l]?.any fun g=>g.r.f == x.f && g.r.b == x.b)=true∧r = .v .nilIface∧m2=sesL h up (l.set (skN x.f x.b l) ⟨x,false⟩) l.length)∨
  (up=true∧(l[skN x.f x.b l]?.any fun g=>g.r.f == x.f && g.r.b == x.b)=false∧l.length=6∧tErr r∧m2=sesL h up l l.length)∨
  (up=true∧(l[skN x.f x.b l]?.any fun g=>g.r.f == x.f && g.r.b == x.b)=false∧l.length≠6∧r = .v .nilIface∧m2=insM h up l x (skN x.f x.b l))
theorem tell_cases {h:Int} {up:Bool} {l:List Gt} {x:Rt} {r:AV} {m2:List (Nat × List AV)} (hp:cTellS.post [.loc 1000 0,x.av] (sesL h up l l.length) r m2):tellD h up l x r m2:=by
 refine hp h up l x rfl rfl (fun r m2=>tellD h up l x r m2) ?_
 unfold tlK
 split
 ·rename_i hu
  subst hu
  split
  ·rename_i hs;exact .inr (.inl ⟨rfl,hs,rfl,rfl⟩)
  ·rename_i hs
   have hs:=Bool.eq_false_iff.2 hs
   split
   ·rename_i h6;exact fun r hr=>.inr (.inr (.inl ⟨rfl,hs,h6,hr,rfl⟩))
   ·rename_i h6;exact .inr (.inr (.inr ⟨rfl,hs,h6,rfl,rfl⟩))
 ·rename_i hu
  exact fun r hr=>.inl ⟨by simpa using hu,hr,rfl⟩
/-- what is taken back -/
def drR (b:Rb) (f c:Int):AV :=
 if ribOk b && rngOk f c then
  (if !b.up || decide (atG b.all f c < 0) then .tup [b.av,bv false] else .tup [(⟨b.h,b.up,b.all.eraseIdx (atG b.all f c).toNat⟩:Rb).av,bv true])
 else .tup [.agg [iv 0,bv false,.sl none (grows [])],bv false]
def gRibDrop:List AV→Option (Prop × AV)
 | [.agg [.v (.int .i64 h),.v (.bool up),.sl _ els],.agg [.v (.int .i64 f),.v (.int .i64 c)]]=>(match gotsL els with
  | some l=>some (l.length≤1000∧lensG l,drR ⟨h,up,l⟩ f c)
  | none=>none)
 | _=>none
def dRibDrop:DFn:={ g:=gRibDrop }
attribute [go_sem] gRibDrop dRibDrop
section
variable {h:Int} {up:Bool} {l:List Gt} {x:Rt}
theorem telR_err (hok:ribOk ⟨h,up,l⟩=true) (hx:okR x=true) (hh:x.path.head? = some h) (he:up=false∨((l[skN x.f x.b l]?.any fun g=>g.r.f == x.f && g.r.b == x.b)=false∧l.length=6)) :
  telR ⟨h,up,l⟩ x = .tup [.agg [iv h,bv up,.sl none (grows l)],bv false]:=by
 have hp:=(ribOk_iff.1 hok).2.2.2
 unfold telR
 rw [if_pos (by simp [hok,hx,hh])]
 rw [if_pos]
 rcases he with rfl | ⟨h1,h2⟩
 ·rfl
 ·have:=skN_no hp h1
  simp [this,h2]
theorem telR_set (hok:ribOk ⟨h,up,l⟩=true) (hx:okR x=true) (hh:x.path.head? = some h) (hu:up=true) (hs:(l[skN x.f x.b l]?.any fun g=>g.r.f == x.f && g.r.b == x.b)=true) :
  telR ⟨h,up,l⟩ x = .tup [.agg [iv h,bv up,.sl none (grows (l.set (skN x.f x.b l) ⟨x,false⟩))],bv true]:=by
 have hp:=(ribOk_iff.1 hok).2.2.2
 have ha:=skN_at hp hs
 unfold telR
 rw [if_pos (by simp [hok,hx,hh])]
 simp only [ha]
 rw [if_neg (by simp [hu];omega),if_pos (by simp)]
 rfl
theorem telR_ins (hok:ribOk ⟨h,up,l⟩=true) (hx:okR x=true) (hh:x.path.head? = some h) (hu:up=true) (hs:(l[skN x.f x.b l]?.any fun g=>g.r.f == x.f && g.r.b == x.b)=false) (h6:l.length≠6) :
  telR ⟨h,up,l⟩ x = .tup [.agg [iv h,bv up,.sl none (grows (l.take (skN x.f x.b l)++⟨x,false⟩::l.drop (skN x.f x.b l)))],bv true]:=by
 have hp:=(ribOk_iff.1 hok).2.2.2
 have hl:=(ribOk_iff.1 hok).2.1
 have ha:=skN_no hp hs
 unfold telR
 rw [if_pos (by simp [hok,hx,hh])]
 rw [if_neg (by simp [hu];omega),if_neg (by simp;omega)]
 rw [telL_ins,skN_ins x l hs]
end
end Go.Proofs.W
end
section
namespace Go.Proofs.W
open Go Go.Eng Go.RowKit Go.Extern.Stop Go.Stop Go.Extern
set_option linter.unusedSimpArgs false
theorem as_nil (t:Value) (w:World) :
  Calls Tryz.prog 68 #[.nilIface,t] w fun e w'=>e = .returned (.bool false)∧w'=w:=by
 go_enter Tryz.func68,Tryz.ntmps68
 go_wp2
 go_ret
 exact ⟨rfl,rfl⟩
theorem AsvalueOf27 (t:Addr) (w:World):(ReflectliteValue.unpack (.iface 94 (.pointer (some t)))).run Tryz.prog w
  = .ok (.agg #[.pointer (some ⟨5,94,none⟩),.pointer (some ⟨w.heap.size,0,none⟩),.int .u64 150]) (w.alloc (.cells #[.pointer (some t)] 94)):=by kernel_rfl
theorem Astype27 (a:Addr) (w:World):(ReflectliteValue.methodAny (ReflectliteValue.valueError "reflectlite.Value.Type" 0) (fun t _ _ _=>ReflectliteType.toType t) #[.agg #[.pointer (some ⟨5,94,none⟩),.pointer (some a),.int .u64 150]]).run Tryz.prog w
  = .ok (.iface 124 (.agg #[.pointer (some ⟨5,94,none⟩)])) w:=by kernel_rfl
theorem AsmethodKind (h:Value) (w:World):(Go.method 287 124 (.agg #[h]) "Kind").run Tryz.prog w = .ok (117,h) w:=by kernel_rfl
theorem Askind27 (w:World):((ReflectliteType.abiMethod fun t=>(fun a:Nat=>Value.int IntKind.u8 (a:Int)) <$> Rtype.kind t) #[.pointer (some ⟨5,94,none⟩)]).run Tryz.prog w = .ok (.int .u8 22) w:=by kernel_rfl
theorem Askind25 (w:World):((ReflectliteType.abiMethod fun t=>(fun a:Nat=>Value.int IntKind.u8 (a:Int)) <$> Rtype.kind t) #[.pointer (some ⟨5,89,none⟩)]).run Tryz.prog w = .ok (.int .u8 22) w:=by kernel_rfl
theorem rlm (z:Sem Value) (f:TypeId→Addr→Nat→Nat→Sem Value) (v:Value) :
  ReflectliteValue.method z f #[v]=(do match ← ReflectliteValue.parts v with | none=>z | some (t,a,fl)=>f t a fl (fl % 32)):=rfl
theorem Asparts27 (a:Addr) (w:World):(ReflectliteValue.parts (.agg #[.pointer (some ⟨5,94,none⟩),.pointer (some a),.int .u64 150])).run Tryz.prog w = .ok (some (94,a,150)) w:=by kernel_rfl
theorem AsisNil27 (a p:Addr) (W:World) (ha:W.cell? a=some (.pointer (some p))) :
  (ReflectliteValue.method (ReflectliteValue.valueError "reflectlite.Value.IsNil" 0) ReflectliteValue.isNil #[.agg #[.pointer (some ⟨5,94,none⟩),.pointer (some a),.int .u64 150]]).run Tryz.prog W = .ok (.bool false) W:=by
 rw [rlm]
 simp only [Sem.run_bind,Asparts27,Result.andThen]
 simp [ReflectliteValue.isNil,loadVar,isAgg,underlying,Tryz.underlying94,ha,Result.andThen]
theorem AsmethodElem (h:Value) (w:World):(Go.method 287 124 (.agg #[h]) "Elem").run Tryz.prog w = .ok (127,.agg #[h]) w:=by kernel_rfl
theorem AsmethodImplements (h:Value) (w:World):(Go.method 287 124 (.agg #[h]) "Implements").run Tryz.prog w = .ok (128,.agg #[h]) w:=by kernel_rfl
theorem AsmethodAssignableTo (h:Value) (w:World):(Go.method 287 124 (.agg #[h]) "AssignableTo").run Tryz.prog w = .ok (125,.agg #[h]) w:=by kernel_rfl
theorem Aselem27 (w:World):(ReflectliteType.method ReflectliteType.elem #[.agg #[.pointer (some ⟨5,94,none⟩)]]).run Tryz.prog w = .ok (.iface 124 (.agg #[.pointer (some ⟨5,89,none⟩)])) w:=by kernel_rfl
theorem Asimplements25 (w:World):(ReflectliteType.relation "Implements" ReflectliteType.implements_ #[.agg #[.pointer (some ⟨5,89,none⟩)],.iface 124 (.agg #[.pointer (some ⟨5,66,none⟩)])]).run Tryz.prog w = .ok (.bool true) w:=by kernel_rfl
theorem AstypeOf25 (v:Value) (w:World):(ReflectliteType.typeOf #[.iface 89 v]).run Tryz.prog w = .ok (.iface 124 (.agg #[.pointer (some ⟨5,89,none⟩)])) w:=by kernel_rfl
theorem Asassignable25 (w:World):(ReflectliteType.relation "AssignableTo" ReflectliteType.assignableTo #[.agg #[.pointer (some ⟨5,89,none⟩)],.iface 124 (.agg #[.pointer (some ⟨5,89,none⟩)])]).run Tryz.prog w = .ok (.bool true) w:=by kernel_rfl
theorem AsvalueOf25 (e:Addr) (w:World):(ReflectliteValue.unpack (.iface 89 (.pointer (some e)))).run Tryz.prog w
  = .ok (.agg #[.pointer (some ⟨5,89,none⟩),.pointer (some ⟨w.heap.size,0,none⟩),.int .u64 150]) (w.alloc (.cells #[.pointer (some e)] 89)):=by kernel_rfl
theorem AselemOf27 (w:World):(Rtype.elem? 94).run Tryz.prog w = .ok (some 89) w:=by kernel_rfl
theorem Asmk25 (p:Addr) (w:World):(ReflectliteValue.mk 89 p ReflectliteValue.flagAddr).run Tryz.prog w = .ok (.agg #[.pointer (some ⟨5,89,none⟩),.pointer (some p),.int .u64 406]) w:=by kernel_rfl
theorem AselemV27 (a p:Addr) (W:World) (ha:W.cell? a=some (.pointer (some p))) :
  (ReflectliteValue.method (ReflectliteValue.valueError "reflectlite.Value.Elem" 0) ReflectliteValue.elem #[.agg #[.pointer (some ⟨5,94,none⟩),.pointer (some a),.int .u64 150]]).run Tryz.prog W
   = .ok (.agg #[.pointer (some ⟨5,89,none⟩),.pointer (some p),.int .u64 406]) W:=by
 rw [rlm]
 simp only [Sem.run_bind,Asparts27,Result.andThen]
 simp [ReflectliteValue.elem,loadVar,isAgg,underlying,Tryz.underlying94,ha,Result.andThen,AselemOf27,Asmk25]
theorem rls (v x:Value):ReflectliteValue.set #[v,x]=(do
  let (some (dst,a,fl),some (src,b,_)):=(← ReflectliteValue.parts v,← ReflectliteValue.parts x)
   | unsupported (.noEntry "extern/(internal/reflectlite.Value).Set.zeroValue")
  if fl / ReflectliteValue.flagAddr % 2 == 0 then unsupported (.noEntry "extern/(internal/reflectlite.Value).Set.unaddressable")
  let val ← loadVar src b
  if ← Rtype.directlyAssignable dst src then storeVar dst a val
  else if ← Rtype.implements dst src then
   if (← Rtype.kind src) == 20 then
    match val with
    | .nilIface=>unsupported (.noEntry "extern/reflectlite: a nil value of one interface type handed on as a value of another")
    | _=>storeVar dst a val
   else storeVar dst a (.iface src val)
  else panicString ("reflectlite.Set: value of type "++(← Rtype.spelt src)++ " is not assignable to type "++(← Rtype.spelt dst))
  pure (.tuple #[])):=rfl
theorem Asparts25a (a:Addr) (w:World):(ReflectliteValue.parts (.agg #[.pointer (some ⟨5,89,none⟩),.pointer (some a),.int .u64 406])).run Tryz.prog w = .ok (some (89,a,406)) w:=by kernel_rfl
theorem Asparts25 (a:Addr) (w:World):(ReflectliteValue.parts (.agg #[.pointer (some ⟨5,89,none⟩),.pointer (some a),.int .u64 150])).run Tryz.prog w = .ok (some (89,a,150)) w:=by kernel_rfl
theorem Asdirect25 (w:World):(Rtype.directlyAssignable 89 89).run Tryz.prog w = .ok true w:=by kernel_rfl
theorem Asset25 (ta b e:Addr) (old:Value) (W:World) (hb:W.cell? b=some (.pointer (some e))) (ht:W.cell? ta=some old) (hf:W.frozen? ta=false) :
  (ReflectliteValue.set #[.agg #[.pointer (some ⟨5,89,none⟩),.pointer (some ta),.int .u64 406],.agg #[.pointer (some ⟨5,89,none⟩),.pointer (some b),.int .u64 150]]).run Tryz.prog W
   = .ok (.tuple #[]) (W.setCell ta (.pointer (some e))):=by
 rw [rls]
 simp only [Sem.run_bind,Asparts25a,Asparts25,Result.andThen]
 simp [ReflectliteValue.flagAddr,loadVar,isAgg,underlying,Tryz.underlying89,hb,Result.andThen,Asdirect25,storeVar,Value.cells,storeCells,Addr.add]
 rw [run_store Tryz.prog W ta _ _ (by rfl)]
 simp [ht,hf]
set_option maxRecDepth 100000 in
set_option maxHeartbeats 4000000 in
theorem as_hit (e t:Addr) (old:Value) (w:World) (hg:w.cell? ⟨1,0,none⟩=some (.iface 124 (.agg #[.pointer (some ⟨5,66,none⟩)]))) (ht0:w.cell? t=some old) (hf0:w.frozen? t=false) :
  Calls Tryz.prog 68 #[.iface 89 (.pointer (some e)),.iface 94 (.pointer (some t))] w fun ev w'=>ev = .returned (.bool true)∧w'=((((w.alloc (.cells #[.pointer (some t)] 94)).alloc (.cells #[.pointer (some ⟨5,94,none⟩),.pointer (some ⟨w.heap.size,0,none⟩),.int .u64 150] 108)).alloc (.cells #[.pointer (some ⟨5,94,none⟩),.pointer (some ⟨w.heap.size,0,none⟩),.int .u64 150] 108)).alloc (.cells #[.pointer (some e)] 89)).setCell t (.pointer (some e)):=by
 have h6:=@run_callFunc_extern Tryz.prog 77 _ (fun args=>ReflectliteValue.unpack (args.getD 0 (.tuple #[]))) Tryz.func77 (by kernel_rfl) (by kernel_rfl) (by kernel_rfl) (by kernel_rfl)
 have h7:=@run_callFunc_extern Tryz.prog 78 _ (ReflectliteValue.methodAny (ReflectliteValue.valueError "reflectlite.Value.Type" 0) (fun t _ _ _=>ReflectliteType.toType t)) Tryz.func78 (by kernel_rfl) (by kernel_rfl) (by kernel_rfl) (by kernel_rfl)
 have h8:=@run_callFunc_extern Tryz.prog 79 _ (ReflectliteValue.method (ReflectliteValue.valueError "reflectlite.Value.IsNil" 0) ReflectliteValue.isNil) Tryz.func79 (by kernel_rfl) (by kernel_rfl) (by kernel_rfl) (by kernel_rfl)
 have h27:=@run_callFunc_extern Tryz.prog 117 _ (ReflectliteType.abiMethod fun t=>do pure (.int .u8 (← Rtype.kind t))) Tryz.func117 (by kernel_rfl) (by kernel_rfl) (by kernel_rfl) (by kernel_rfl)
 have h37:=@run_callFunc_extern Tryz.prog 127 _ (ReflectliteType.method ReflectliteType.elem) Tryz.func127 (by kernel_rfl) (by kernel_rfl) (by kernel_rfl) (by kernel_rfl)
 have h38:=@run_callFunc_extern Tryz.prog 128 _ (ReflectliteType.relation "Implements" ReflectliteType.implements_) Tryz.func128 (by kernel_rfl) (by kernel_rfl) (by kernel_rfl) (by kernel_rfl)
 have h10:=@run_callFunc_extern Tryz.prog 86 _ ReflectliteType.typeOf Tryz.func86 (by kernel_rfl) (by kernel_rfl) (by kernel_rfl) (by kernel_rfl)
 have h35:=@run_callFunc_extern Tryz.prog 125 _ (ReflectliteType.relation "AssignableTo" ReflectliteType.assignableTo) Tryz.func125 (by kernel_rfl) (by kernel_rfl) (by kernel_rfl) (by kernel_rfl)
 have h11:=@run_callFunc_extern Tryz.prog 88 _ (ReflectliteValue.method (ReflectliteValue.valueError "reflectlite.Value.Elem" 0) ReflectliteValue.elem) Tryz.func88 (by kernel_rfl) (by kernel_rfl) (by kernel_rfl) (by kernel_rfl)
 have h12:=@run_callFunc_extern Tryz.prog 89 _ ReflectliteValue.set Tryz.func89 (by kernel_rfl) (by kernel_rfl) (by kernel_rfl) (by kernel_rfl)
 have tO:=AstypeOf25
 have mA:=AsmethodAssignableTo
 have a25:=Asassignable25
 have v25:=AsvalueOf25
 have f6:=AsvalueOf27
 have f7:=Astype27
 have mK:=AsmethodKind
 have mE:=AsmethodElem
 have mI:=AsmethodImplements
 have k27:=Askind27
 have k25:=Askind25
 have e27:=Aselem27
 have i25:=Asimplements25
 have n8:=AsisNil27 ⟨w.heap.size,0,none⟩ t ((w.alloc (.cells #[.pointer (some t)] 94)).alloc (.cells #[.pointer (some ⟨5,94,none⟩),.pointer (some ⟨w.heap.size,0,none⟩),.int .u64 150] 108)) (by simp)
 have hlt:1 < w.heap.size:=by
  rcases Nat.lt_or_ge 1 w.heap.size with h | h
  ·exact h
  ·simp [World.cell?,Array.getElem?_eq_none h] at hg
 have hg2:((w.alloc (.cells #[.pointer (some t)] 94)).alloc (.cells #[.pointer (some ⟨5,94,none⟩),.pointer (some ⟨w.heap.size,0,none⟩),.int .u64 150] 108)).cell? ⟨1,0,none⟩=some (.iface 124 (.agg #[.pointer (some ⟨5,66,none⟩)])):=by
  rw [World.cell?_alloc_lt _ _ ⟨1,0,none⟩ (by simp;omega),World.cell?_alloc_lt _ _ ⟨1,0,none⟩ hlt];exact hg
 have htl:t.block < w.heap.size:=by
  rcases Nat.lt_or_ge t.block w.heap.size with h | h
  ·exact h
  ·simp [World.cell?,Array.getElem?_eq_none h] at ht0
 have el:=AselemV27 ⟨w.heap.size,0,none⟩ t (((w.alloc (.cells #[.pointer (some t)] 94)).alloc (.cells #[.pointer (some ⟨5,94,none⟩),.pointer (some ⟨w.heap.size,0,none⟩),.int .u64 150] 108)).alloc (.cells #[.pointer (some ⟨5,94,none⟩),.pointer (some ⟨w.heap.size,0,none⟩),.int .u64 150] 108)) (by rw [World.cell?_alloc_lt _ _ ⟨w.heap.size,0,none⟩ (by simp;omega)];simp)
 have st:=Asset25 t ⟨w.heap.size + 1 + 1 + 1,0,none⟩ e old ((((w.alloc (.cells #[.pointer (some t)] 94)).alloc (.cells #[.pointer (some ⟨5,94,none⟩),.pointer (some ⟨w.heap.size,0,none⟩),.int .u64 150] 108)).alloc (.cells #[.pointer (some ⟨5,94,none⟩),.pointer (some ⟨w.heap.size,0,none⟩),.int .u64 150] 108)).alloc (.cells #[.pointer (some e)] 89))
  (by rw [World.cell?_alloc_at _ _ _ _ (by simp)];rfl)
  (by rw [World.cell?_alloc_lt _ _ t (by simp;omega),World.cell?_alloc_lt _ _ t (by simp;omega),World.cell?_alloc_lt _ _ t (by simp;omega),World.cell?_alloc_lt _ _ t htl];exact ht0)
  (by rw [World.frozen?_alloc_old _ _ t (by simp;omega),World.frozen?_alloc_old _ _ t (by simp;omega),World.frozen?_alloc_old _ _ t (by simp;omega),World.frozen?_alloc_old _ _ t (Nat.ne_of_lt htl)];exact hf0)
 go_enter Tryz.func68,Tryz.ntmps68
 go_wp2
 refine wp_loop_rounds 1 ?_
 rw [rounds_succ]
 go_wp2
 go_ret
 exact ⟨rfl,rfl⟩
def hdl (w:World):Prop:=w.cell? ⟨1,0,none⟩=some (.iface 124 (.agg #[.pointer (some ⟨5,66,none⟩)]))
theorem forb_nil (w:World):Calls Tryz.prog 45 #[.nilIface] w fun ev w'=>ev = .returned (.bool false)∧w'=w.alloc (.cells #[.pointer none] 89):=by
 go_enter Tryz.func45,Tryz.ntmps45
 go_wp2_with (go_at_call 68;refine (as_nil _ _).mono ?_;rintro e w' ⟨rfl,rfl⟩)
 go_ret
 exact ⟨rfl,rfl⟩
end Go.Proofs.W
end
section
namespace Go.Proofs.W
open Go Go.Eng Go.RowKit Go.Extern.Stop Go.Stop Go.Extern
set_option linter.unusedSimpArgs false
set_option maxRecDepth 100000
set_option maxHeartbeats 4000000 in
theorem forb_err (e:Addr) (w:World) (hg:hdl w):Calls Tryz.prog 45 #[.iface 89 (.pointer (some e))] w fun ev w'=>ev = .returned (.bool true)∧w.grownBy w' none:=by
 have hlt:1 < w.heap.size:=by
  rcases Nat.lt_or_ge 1 w.heap.size with h | h
  ·exact h
  ·simp [hdl,World.cell?,Array.getElem?_eq_none h] at hg
 have q1:(w.alloc (.cells #[.pointer none] 89)).cell? ⟨1,0,none⟩=_:=(World.cell?_alloc_lt _ _ ⟨1,0,none⟩ hlt).trans hg
 have q2:(w.alloc (.cells #[.pointer none] 89)).cell? ⟨w.heap.size,0,none⟩=some (.pointer none):=by
  rw [World.cell?_alloc_at _ _ _ _ (by simp)];rfl
 have q3:(w.alloc (.cells #[.pointer none] 89)).frozen? ⟨w.heap.size,0,none⟩=false:=by
  exact World.frozen?_alloc_at _ _ _ _ rfl
 have hA:=as_hit e ⟨w.heap.size,0,none⟩ (.pointer none) _ q1 q2 q3
 clear q1 q2 q3 hg
 go_enter Tryz.func45,Tryz.ntmps45
 go_wp2_with (go_at_call 68;refine hA.mono ?_;rintro e w' ⟨rfl,rfl⟩)
 go_ret
 refine ⟨rfl,?_⟩
 refine ⟨rfl,rfl,rfl,?_,fun i hi _=>?_⟩
 ·simp only [World.setCell,Array.size_modify,World.alloc,Array.size_push];omega
 ·simp only [World.alloc,Array.getElem?_push,Array.size_push]
  repeat rw [if_neg (by omega)]
theorem grownBy_al (w:World) (o:Obj):w.grownBy (w.alloc o) none:=by
 refine ⟨rfl,rfl,rfl,?_,fun i hi _=>?_⟩
 ·simp only [World.alloc,Array.size_push];omega
 ·simp only [World.alloc,Array.getElem?_push]
  rw [if_neg (by omega)]
def gForb:List AV→Option (Prop × AV)
 | [.v .nilIface]=>some (True,bv false)
 | [.dv (.ifc t (.ptr _))]=>some (t=89,bv true)
 | _=>none
def dForb:DFn:={ g:=gForb,inv:=hdl }
attribute [go_sem] gForb dForb
theorem forbidden_ok:Fine Tryz.prog 45 dForb.con:=by
 refine raw_fine ⟨_,Tryz.func45,rfl,rfl⟩ rfl ?_
 intro c args vs hsz hrd hsx hpre hinv
 obtain ⟨cc,r,hg,hc⟩:=hpre
 simp only [dForb,gForb] at hg
 split at hg
 ·obtain ⟨rfl,rfl⟩:=Prod.mk.inj (Option.some.inj hg)
  have h0:=hrd 0 _ rfl
  have e0:vs = #[.nilIface]:=by
   obtain ⟨l⟩:=vs
   match l,hsz with
   | [x],_=>cases h0;rfl
  subst e0
  refine (forb_nil c.w).mono ?_
  rintro e w' ⟨rfl,rfl⟩
  exact ⟨_,_,fun _ _=>False,rfl,⟨_,rfl⟩,grownBy_al _ _,fun _ _ h=>h.elim,.v _ rfl⟩
 ·rename_i t ys
  obtain ⟨rfl,rfl⟩:=Prod.mk.inj (Option.some.inj hg)
  subst hc
  have h0:=hrd 0 _ rfl
  obtain ⟨a,e0⟩:∃ a,vs = #[.iface 89 (.pointer (some a))]:=by
   obtain ⟨l⟩:=vs
   match l,hsz with
   | [x],_ =>
    cases h0 with
    | dv _ _ h=>cases h with
     | ifc _ _ v h=>cases h with
      | ptr=>exact ⟨_,rfl⟩
  subst e0
  refine (forb_err a c.w hinv).mono ?_
  rintro e w' ⟨rfl,hgr⟩
  exact ⟨_,_,fun _ _=>False,rfl,⟨_,rfl⟩,hgr,fun _ _ h=>h.elim,.v _ rfl⟩
 ·cases hg
end Go.Proofs.W
end
section
namespace Go.Proofs.W
open Go Go.Eng Go.RowKit
set_option linter.unusedSimpArgs false
set_option maxRecDepth 100000
structure WH (pb:Addr) (w:World):Prop where
 p:WP pb w
 h:hdl w
theorem whp_inh (pb:Addr):Inh (WH pb) (WP pb) false:=fun w w' g h hg=>wp_inh pb w w' g h.p hg
theorem whh_inh (pb:Addr):Inh (WH pb) hdl false:=fun w w' g h hg=>cell_grown hg h.h
theorem wh_inh (pb:Addr):Inh (WH pb) (WH pb) false:=fun w w' g h hg=>⟨wp_inh pb w w' g h.p hg,cell_grown hg h.h⟩
theorem wh_mm (pb:Addr):Inh (WH pb) (fun _=>True) false:=fun _ _ _ _ _=>trivial
theorem okR_rng {x:Rt} (h:okR x=true):rngOk x.f x.b=true:=by
 simp only [okR,rtOk,Bool.and_eq_true] at h;exact h.1
theorem bG_rng {h:Int} {up:Bool} {g:Gt} (hg:bG h up g=true):rngOk g.r.f g.r.b=true:=by
 simp only [bG,Bool.and_eq_true] at hg;exact okR_rng hg.1
theorem len1 {l:List Gt} (h:l.length=1):∃ g1,l=[g1]:=by
 match l,h with
 | [g1],_=>exact ⟨g1,rfl⟩
theorem len2 {l:List Gt} (h:l.length=2):∃ g1 g2,l=[g1,g2]:=by
 match l,h with
 | [g1,g2],_=>exact ⟨g1,g2,rfl⟩
theorem len3 {l:List Gt} (h:l.length=3):∃ g1 g2 g3,l=[g1,g2,g3]:=by
 match l,h with
 | [g1,g2,g3],_=>exact ⟨g1,g2,g3,rfl⟩
theorem len4 {l:List Gt} (h:l.length=4):∃ g1 g2 g3 g4,l=[g1,g2,g3,g4]:=by
 match l,h with
 | [g1,g2,g3,g4],_=>exact ⟨g1,g2,g3,g4,rfl⟩
theorem len5 {l:List Gt} (h:l.length=5):∃ g1 g2 g3 g4 g5,l=[g1,g2,g3,g4,g5]:=by
 match l,h with
 | [g1,g2,g3,g4,g5],_=>exact ⟨g1,g2,g3,g4,g5,rfl⟩
theorem len6 {l:List Gt} (h:l.length=6):∃ g1 g2 g3 g4 g5 g6,l=[g1,g2,g3,g4,g5,g6]:=by
 match l,h with
 | [g1,g2,g3,g4,g5,g6],_=>exact ⟨g1,g2,g3,g4,g5,g6,rfl⟩
def dRibTellI (pb:Addr):DFn:={ g:=gRibTell,inv:=WH pb }
attribute [go_sem] dRibTellI
def tbRibTell (pb:Addr):Tb:={ T:=TT,G:=[(44,cRibL)],D:=[(18,dRibOkI pb),(45,dForb),(41,dRtOkI pb)],draws:=false,gl:=[],M:=[],MM:=[(42,(cOpen,[],[(600,400),(601,401),(602,402),(603,403),(604,404),(605,405),(606,406)])),(43,(cTellS,[(1000,1000)],[(600,500)]))],X:=[],EX:=[] }
attribute [go_sem] tbRibTell
theorem outRibTell0 {h0:Int} {up:Bool} {l:List Gt} {xf xb:Int} {p:List Int} {xk:Int} {m:List Int} {r:AV} {m2:List (Nat × List AV)} (hl:l=[]) (hok:ribOk ⟨h0,up,l⟩=true) (hok2:okR ⟨xf,xb,p,xk,m⟩=true) (hq:p.head? = some h0) (hxr:rngOk xf xb=true) (hD:tellD h0 up l ⟨xf,xb,p,xk,m⟩ r m2) :
  (∃ u,r = .dv (.ifc 89 (.ptr [.v (.string u)]))∧m2=sesL h0 up [] ((0:Nat):Int)∧telR ⟨h0,up,l⟩ ⟨xf,xb,p,xk,m⟩ = .tup [.agg [iv h0,bv up,.sl none (grows [])],bv false])∨
  (r = .v .nilIface∧m2=insM h0 up [] ⟨xf,xb,p,xk,m⟩ 0∧telR ⟨h0,up,l⟩ ⟨xf,xb,p,xk,m⟩ = .tup [.agg [iv h0,bv up,.sl none (grows [⟨⟨xf,xb,p,xk,m⟩,false⟩])],bv true]):=by
 rcases hD with ⟨hu,⟨u,rfl⟩,rfl⟩ | ⟨hu,hs,rfl,rfl⟩ | ⟨hu,hs,h6,⟨u,rfl⟩,rfl⟩ | ⟨hu,hs,h6,rfl,rfl⟩
 ·have e:=telR_err hok hok2 hq (.inl hu)
  subst hl
  exact (.inl (⟨u,rfl,rfl,e⟩))
 ·rw [hl] at hs;simp at hs
 ·rw [hl] at h6;simp at h6
 ·have e:=telR_ins hok hok2 hq hu hs h6
  have hjl:=skN_le (⟨xf,xb,p,xk,m⟩:Rt).f (⟨xf,xb,p,xk,m⟩:Rt).b l
  generalize skN (⟨xf,xb,p,xk,m⟩:Rt).f (⟨xf,xb,p,xk,m⟩:Rt).b l=j at hjl e ⊢
  have hjn:j≤0:=by rw [hl] at hjl;simpa using hjl
  subst hl
  rcases (show j=0 by omega) with rfl
  ·exact (.inr ((⟨rfl,rfl,e⟩)))
set_option maxHeartbeats 16000000 in
theorem iRibTell_n0 (pb:Addr) {E:En} (hE:TbOk E (tbRibTell pb)) {h0:Int} {up:Bool} {l:List Gt} {xf xb:Int} {p:List Int} {xk:Int} {m:List Int} {t t1 t2:Option (Nat × Nat × TypeId)} {z:AV} {k:Nat} {Q:Exit→St→Prop} (hl:l=[]) (hok:ribOk ⟨h0,up,l⟩=true) (hok2:okR ⟨xf,xb,p,xk,m⟩=true) (hq:p.head? = some h0) (hxr:rngOk xf xb=true) (hlen:lensG l) (hpl:p.length≤1000) (hml:m.length≤900) (hQ:∀ st,retD TT #[Go.ResultVar.cell 4 25,Go.ResultVar.tmp 5].toList false (telR ⟨h0,up,l⟩ ⟨xf,xb,p,xk,m⟩) st→Q .ret st):Aw E (sndC (sndC (Tryz.f13.body.getD .skip))) ⟨36,[(2,.loc 2 0),(3,.loc 3 0),(4,.loc 4 0),(24,z)],[(2,[iv h0,bv up,.sl t (grows l)]),(3,[iv xf,iv xb,.sl t1 (rows p),iv xk,.sl t2 (rows m)]),(4,[iv 0,bv false,.nl])],k⟩ Q:=by
 have hl6:=(ribOk_iff.1 hok).2.1
 have hlg:∀ g ∈ l,rngOk g.r.f g.r.b=true:=fun g hg=>bG_rng ((ribOk_iff.1 hok).2.2.1 g hg)
 have hses:sesB h0 up l=[(600,[iv h0,bv up,.v (.pointer none),iv ((0:Nat):Int)])]:=by rw [hl];rfl
 have hop:=fun (m1:List (Nat × List AV)) (K:AV→List (Nat × List AV)→Prop)=>open_postL hses m1 K
 refine Aw_st hE [3,4,6] [2,3,4,427,428,429,430,431,432,433,530] fun K hK=>?_
 simp only [go_sem,seval,↓hop]
 refine ⟨by decide,⟨hl6,hlen⟩,?_⟩
 refine hK _ ?_;clear hK K
 refine Aw_st hE [4,6,7] [2,3,4,427,428,429,430,431,432,433,530] fun K hK=>?_
 simp only [go_sem,seval]
 refine ⟨by decide,⟨h0,up,l,⟨xf,xb,p,xk,m⟩,rfl,by rw [hl];rfl,hl6,hlg,hxr,hpl,by simp;omega⟩,fun r m2 hp=>?_⟩
 have hp':tellD h0 up l ⟨xf,xb,p,xk,m⟩ r m2:=tell_cases (by rw [hl];exact hp)
 have ho:=outRibTell0 hl hok hok2 hq hxr hp'
 clear hp hp' hop hses hlg hlen
 rcases ho with ⟨u,rfl,rfl,e⟩ | ⟨rfl,rfl,e⟩
 ·rw [e] at hQ;clear e
  simp only [go_sem,seval]
  refine hK _ ?_;clear hK K
  refine Aw_frz hE rfl 427 4 rfl rfl ?_
  simp only [go_sem,seval]
  refine Aw_st hE [4,5] [2,3,4,427,428,429,430,431,432,433,530] fun K hK=>?_
  simp only [go_sem,seval]
  refine ⟨ribL_p [] (by simp),ribL_q [] ?_⟩
  simp only [go_sem,seval]
  refine hK _ (Aw_ret (hQ _ ?_))
  simp only [go_sem,seval]
  all_goals rfl
 ·rw [e] at hQ;clear e
  simp only [insM,ndI,hdB,List.drop_zero,List.drop_succ_cons,List.drop_nil,Nat.reduceAdd,Nat.reduceSub,Nat.reduceEqDiff,reduceIte,if_true,if_false,Nat.add_zero]
  simp only [go_sem,seval]
  refine hK _ ?_;clear hK K
  refine Aw_frz hE rfl 530 7 rfl rfl ?_
  simp only [go_sem,seval]
  refine Aw_frz hE rfl 427 4 rfl rfl ?_
  simp only [go_sem,seval]
  refine Aw_st hE [4,5] [2,3,4,427,428,429,430,431,432,433,530] fun K hK=>?_
  simp only [go_sem,seval]
  refine ⟨ribL_p [⟨⟨xf,xb,p,xk,m⟩,false⟩] (by simp),ribL_q [⟨⟨xf,xb,p,xk,m⟩,false⟩] ?_⟩
  simp only [go_sem,seval]
  refine hK _ (Aw_ret (hQ _ ?_))
  simp only [go_sem,seval]
  all_goals rfl
theorem outRibTell1 {h0:Int} {up:Bool} {l:List Gt} {xf xb:Int} {p:List Int} {xk:Int} {m:List Int} {g1:Gt} {r:AV} {m2:List (Nat × List AV)} (hl:l=[g1]) (hok:ribOk ⟨h0,up,l⟩=true) (hok2:okR ⟨xf,xb,p,xk,m⟩=true) (hq:p.head? = some h0) (hxr:rngOk xf xb=true) (hD:tellD h0 up l ⟨xf,xb,p,xk,m⟩ r m2) :
  (∃ u,r = .dv (.ifc 89 (.ptr [.v (.string u)]))∧m2=sesL h0 up [g1] ((1:Nat):Int)∧telR ⟨h0,up,l⟩ ⟨xf,xb,p,xk,m⟩ = .tup [.agg [iv h0,bv up,.sl none (grows [g1])],bv false])∨
  (∃ y1:Gt,r = .v .nilIface∧m2=sesL h0 up [y1] ((1:Nat):Int)∧telR ⟨h0,up,l⟩ ⟨xf,xb,p,xk,m⟩ = .tup [.agg [iv h0,bv up,.sl none (grows [y1])],bv true])∨
  (r = .v .nilIface∧m2=insM h0 up [g1] ⟨xf,xb,p,xk,m⟩ 0∧telR ⟨h0,up,l⟩ ⟨xf,xb,p,xk,m⟩ = .tup [.agg [iv h0,bv up,.sl none (grows [⟨⟨xf,xb,p,xk,m⟩,false⟩,g1])],bv true])∨
  (r = .v .nilIface∧m2=insM h0 up [g1] ⟨xf,xb,p,xk,m⟩ 1∧telR ⟨h0,up,l⟩ ⟨xf,xb,p,xk,m⟩ = .tup [.agg [iv h0,bv up,.sl none (grows [g1,⟨⟨xf,xb,p,xk,m⟩,false⟩])],bv true]):=by
 rcases hD with ⟨hu,⟨u,rfl⟩,rfl⟩ | ⟨hu,hs,rfl,rfl⟩ | ⟨hu,hs,h6,⟨u,rfl⟩,rfl⟩ | ⟨hu,hs,h6,rfl,rfl⟩
 ·have e:=telR_err hok hok2 hq (.inl hu)
  subst hl
  exact (.inl (⟨u,rfl,rfl,e⟩))
 ·have e:=telR_set hok hok2 hq hu hs
  have hsl:(l.set (skN (⟨xf,xb,p,xk,m⟩:Rt).f (⟨xf,xb,p,xk,m⟩:Rt).b l) ⟨⟨xf,xb,p,xk,m⟩,false⟩).length=1:=by rw [List.length_set,hl];rfl
  generalize l.set (skN (⟨xf,xb,p,xk,m⟩:Rt).f (⟨xf,xb,p,xk,m⟩:Rt).b l) ⟨⟨xf,xb,p,xk,m⟩,false⟩=l' at hsl e ⊢
  obtain ⟨y1,rfl⟩:=len1 hsl
  subst hl
  exact (.inr (.inl (⟨y1,rfl,rfl,e⟩)))
 ·rw [hl] at h6;simp at h6
 ·have e:=telR_ins hok hok2 hq hu hs h6
  have hjl:=skN_le (⟨xf,xb,p,xk,m⟩:Rt).f (⟨xf,xb,p,xk,m⟩:Rt).b l
  generalize skN (⟨xf,xb,p,xk,m⟩:Rt).f (⟨xf,xb,p,xk,m⟩:Rt).b l=j at hjl e ⊢
  have hjn:j≤1:=by rw [hl] at hjl;simpa using hjl
  subst hl
  rcases (show j=0∨j=1 by omega) with rfl | rfl
  ·exact (.inr (.inr (.inl (⟨rfl,rfl,e⟩))))
  ·exact (.inr (.inr (.inr ((⟨rfl,rfl,e⟩)))))
set_option maxHeartbeats 16000000 in
theorem iRibTell_n1 (pb:Addr) {E:En} (hE:TbOk E (tbRibTell pb)) {h0:Int} {up:Bool} {l:List Gt} {xf xb:Int} {p:List Int} {xk:Int} {m:List Int} {g1:Gt} {t t1 t2:Option (Nat × Nat × TypeId)} {z:AV} {k:Nat} {Q:Exit→St→Prop} (hl:l=[g1]) (hok:ribOk ⟨h0,up,l⟩=true) (hok2:okR ⟨xf,xb,p,xk,m⟩=true) (hq:p.head? = some h0) (hxr:rngOk xf xb=true) (hlen:lensG l) (hpl:p.length≤1000) (hml:m.length≤900) (hQ:∀ st,retD TT #[Go.ResultVar.cell 4 25,Go.ResultVar.tmp 5].toList false (telR ⟨h0,up,l⟩ ⟨xf,xb,p,xk,m⟩) st→Q .ret st):Aw E (sndC (sndC (Tryz.f13.body.getD .skip))) ⟨36,[(2,.loc 2 0),(3,.loc 3 0),(4,.loc 4 0),(24,z)],[(2,[iv h0,bv up,.sl t (grows l)]),(3,[iv xf,iv xb,.sl t1 (rows p),iv xk,.sl t2 (rows m)]),(4,[iv 0,bv false,.nl])],k⟩ Q:=by
 have hl6:=(ribOk_iff.1 hok).2.1
 have hlg:∀ g ∈ l,rngOk g.r.f g.r.b=true:=fun g hg=>bG_rng ((ribOk_iff.1 hok).2.2.1 g hg)
 have hses:sesB h0 up l=[(600,[iv h0,bv up,.loc 601 0,iv ((1:Nat):Int)]),(601,gcs g1++[.v (.pointer none)])]:=by rw [hl];rfl
 have hop:=fun (m1:List (Nat × List AV)) (K:AV→List (Nat × List AV)→Prop)=>open_postL hses m1 K
 refine Aw_st hE [3,4,6] [2,3,4,427,428,429,430,431,432,433,530] fun K hK=>?_
 simp only [go_sem,seval,↓hop]
 refine ⟨by decide,⟨hl6,hlen⟩,?_⟩
 refine hK _ ?_;clear hK K
 refine Aw_st hE [4,6,7] [2,3,4,427,428,429,430,431,432,433,530] fun K hK=>?_
 simp only [go_sem,seval]
 refine ⟨by decide,⟨h0,up,l,⟨xf,xb,p,xk,m⟩,rfl,by rw [hl];rfl,hl6,hlg,hxr,hpl,by simp;omega⟩,fun r m2 hp=>?_⟩
 have hp':tellD h0 up l ⟨xf,xb,p,xk,m⟩ r m2:=tell_cases (by rw [hl];exact hp)
 have ho:=outRibTell1 hl hok hok2 hq hxr hp'
 clear hp hp' hop hses hlg hlen
 rcases ho with ⟨u,rfl,rfl,e⟩ | ⟨y1,rfl,rfl,e⟩ | ⟨rfl,rfl,e⟩ | ⟨rfl,rfl,e⟩
 ·rw [e] at hQ;clear e
  simp only [go_sem,seval]
  refine hK _ ?_;clear hK K
  refine Aw_frz hE rfl 428 7 rfl rfl ?_
  simp only [go_sem,seval]
  refine Aw_frz hE rfl 427 4 rfl rfl ?_
  simp only [go_sem,seval]
  refine Aw_st hE [4,5] [2,3,4,427,428,429,430,431,432,433,530] fun K hK=>?_
  simp only [go_sem,seval]
  refine ⟨ribL_p [g1] (by simp),ribL_q [g1] ?_⟩
  simp only [go_sem,seval]
  refine hK _ (Aw_ret (hQ _ ?_))
  simp only [go_sem,seval]
  all_goals rfl
 ·rw [e] at hQ;clear e
  simp only [go_sem,seval]
  refine hK _ ?_;clear hK K
  refine Aw_frz hE rfl 428 7 rfl rfl ?_
  simp only [go_sem,seval]
  refine Aw_frz hE rfl 427 4 rfl rfl ?_
  simp only [go_sem,seval]
  refine Aw_st hE [4,5] [2,3,4,427,428,429,430,431,432,433,530] fun K hK=>?_
  simp only [go_sem,seval]
  refine ⟨ribL_p [y1] (by simp),ribL_q [y1] ?_⟩
  simp only [go_sem,seval]
  refine hK _ (Aw_ret (hQ _ ?_))
  simp only [go_sem,seval]
  all_goals rfl
 ·rw [e] at hQ;clear e
  simp only [insM,ndI,hdB,List.drop_zero,List.drop_succ_cons,List.drop_nil,Nat.reduceAdd,Nat.reduceSub,Nat.reduceEqDiff,reduceIte,if_true,if_false,Nat.add_zero]
  simp only [go_sem,seval]
  refine hK _ ?_;clear hK K
  refine Aw_frz hE rfl 428 7 rfl rfl ?_
  simp only [go_sem,seval]
  refine Aw_frz hE rfl 530 7 rfl rfl ?_
  simp only [go_sem,seval]
  refine Aw_frz hE rfl 427 4 rfl rfl ?_
  simp only [go_sem,seval]
  refine Aw_st hE [4,5] [2,3,4,427,428,429,430,431,432,433,530] fun K hK=>?_
  simp only [go_sem,seval]
  refine ⟨ribL_p [⟨⟨xf,xb,p,xk,m⟩,false⟩,g1] (by simp),ribL_q [⟨⟨xf,xb,p,xk,m⟩,false⟩,g1] ?_⟩
  simp only [go_sem,seval]
  refine hK _ (Aw_ret (hQ _ ?_))
  simp only [go_sem,seval]
  all_goals rfl
 ·rw [e] at hQ;clear e
  simp only [insM,ndI,hdB,List.drop_zero,List.drop_succ_cons,List.drop_nil,Nat.reduceAdd,Nat.reduceSub,Nat.reduceEqDiff,reduceIte,if_true,if_false,Nat.add_zero]
  simp only [go_sem,seval]
  refine hK _ ?_;clear hK K
  refine Aw_frz hE rfl 530 7 rfl rfl ?_
  simp only [go_sem,seval]
  refine Aw_frz hE rfl 428 7 rfl rfl ?_
  simp only [go_sem,seval]
  refine Aw_frz hE rfl 427 4 rfl rfl ?_
  simp only [go_sem,seval]
  refine Aw_st hE [4,5] [2,3,4,427,428,429,430,431,432,433,530] fun K hK=>?_
  simp only [go_sem,seval]
  refine ⟨ribL_p [g1,⟨⟨xf,xb,p,xk,m⟩,false⟩] (by simp),ribL_q [g1,⟨⟨xf,xb,p,xk,m⟩,false⟩] ?_⟩
  simp only [go_sem,seval]
  refine hK _ (Aw_ret (hQ _ ?_))
  simp only [go_sem,seval]
  all_goals rfl
theorem outRibTell2 {h0:Int} {up:Bool} {l:List Gt} {xf xb:Int} {p:List Int} {xk:Int} {m:List Int} {g1 g2:Gt} {r:AV} {m2:List (Nat × List AV)} (hl:l=[g1,g2]) (hok:ribOk ⟨h0,up,l⟩=true) (hok2:okR ⟨xf,xb,p,xk,m⟩=true) (hq:p.head? = some h0) (hxr:rngOk xf xb=true) (hD:tellD h0 up l ⟨xf,xb,p,xk,m⟩ r m2) :
  (∃ u,r = .dv (.ifc 89 (.ptr [.v (.string u)]))∧m2=sesL h0 up [g1,g2] ((2:Nat):Int)∧telR ⟨h0,up,l⟩ ⟨xf,xb,p,xk,m⟩ = .tup [.agg [iv h0,bv up,.sl none (grows [g1,g2])],bv false])∨
  (∃ y1 y2:Gt,r = .v .nilIface∧m2=sesL h0 up [y1,y2] ((2:Nat):Int)∧telR ⟨h0,up,l⟩ ⟨xf,xb,p,xk,m⟩ = .tup [.agg [iv h0,bv up,.sl none (grows [y1,y2])],bv true])∨
  (r = .v .nilIface∧m2=insM h0 up [g1,g2] ⟨xf,xb,p,xk,m⟩ 0∧telR ⟨h0,up,l⟩ ⟨xf,xb,p,xk,m⟩ = .tup [.agg [iv h0,bv up,.sl none (grows [⟨⟨xf,xb,p,xk,m⟩,false⟩,g1,g2])],bv true])∨
  (r = .v .nilIface∧m2=insM h0 up [g1,g2] ⟨xf,xb,p,xk,m⟩ 1∧telR ⟨h0,up,l⟩ ⟨xf,xb,p,xk,m⟩ = .tup [.agg [iv h0,bv up,.sl none (grows [g1,⟨⟨xf,xb,p,xk,m⟩,false⟩,g2])],bv true])∨
  (r = .v .nilIface∧m2=insM h0 up [g1,g2] ⟨xf,xb,p,xk,m⟩ 2∧telR ⟨h0,up,l⟩ ⟨xf,xb,p,xk,m⟩ = .tup [.agg [iv h0,bv up,.sl none (grows [g1,g2,⟨⟨xf,xb,p,xk,m⟩,false⟩])],bv true]):=by
 rcases hD with ⟨hu,⟨u,rfl⟩,rfl⟩ | ⟨hu,hs,rfl,rfl⟩ | ⟨hu,hs,h6,⟨u,rfl⟩,rfl⟩ | ⟨hu,hs,h6,rfl,rfl⟩
 ·have e:=telR_err hok hok2 hq (.inl hu)
  subst hl
  exact (.inl (⟨u,rfl,rfl,e⟩))
 ·have e:=telR_set hok hok2 hq hu hs
  have hsl:(l.set (skN (⟨xf,xb,p,xk,m⟩:Rt).f (⟨xf,xb,p,xk,m⟩:Rt).b l) ⟨⟨xf,xb,p,xk,m⟩,false⟩).length=2:=by rw [List.length_set,hl];rfl
  generalize l.set (skN (⟨xf,xb,p,xk,m⟩:Rt).f (⟨xf,xb,p,xk,m⟩:Rt).b l) ⟨⟨xf,xb,p,xk,m⟩,false⟩=l' at hsl e ⊢
  obtain ⟨y1,y2,rfl⟩:=len2 hsl
  subst hl
  exact (.inr (.inl (⟨y1,y2,rfl,rfl,e⟩)))
 ·rw [hl] at h6;simp at h6
 ·have e:=telR_ins hok hok2 hq hu hs h6
  have hjl:=skN_le (⟨xf,xb,p,xk,m⟩:Rt).f (⟨xf,xb,p,xk,m⟩:Rt).b l
  generalize skN (⟨xf,xb,p,xk,m⟩:Rt).f (⟨xf,xb,p,xk,m⟩:Rt).b l=j at hjl e ⊢
  have hjn:j≤2:=by rw [hl] at hjl;simpa using hjl
  subst hl
  rcases (show j=0∨j=1∨j=2 by omega) with rfl | rfl | rfl
  ·exact (.inr (.inr (.inl (⟨rfl,rfl,e⟩))))
  ·exact (.inr (.inr (.inr (.inl (⟨rfl,rfl,e⟩)))))
  ·exact (.inr (.inr (.inr (.inr ((⟨rfl,rfl,e⟩))))))
set_option maxHeartbeats 16000000 in
theorem iRibTell_n2 (pb:Addr) {E:En} (hE:TbOk E (tbRibTell pb)) {h0:Int} {up:Bool} {l:List Gt} {xf xb:Int} {p:List Int} {xk:Int} {m:List Int} {g1 g2:Gt} {t t1 t2:Option (Nat × Nat × TypeId)} {z:AV} {k:Nat} {Q:Exit→St→Prop} (hl:l=[g1,g2]) (hok:ribOk ⟨h0,up,l⟩=true) (hok2:okR ⟨xf,xb,p,xk,m⟩=true) (hq:p.head? = some h0) (hxr:rngOk xf xb=true) (hlen:lensG l) (hpl:p.length≤1000) (hml:m.length≤900) (hQ:∀ st,retD TT #[Go.ResultVar.cell 4 25,Go.ResultVar.tmp 5].toList false (telR ⟨h0,up,l⟩ ⟨xf,xb,p,xk,m⟩) st→Q .ret st):Aw E (sndC (sndC (Tryz.f13.body.getD .skip))) ⟨36,[(2,.loc 2 0),(3,.loc 3 0),(4,.loc 4 0),(24,z)],[(2,[iv h0,bv up,.sl t (grows l)]),(3,[iv xf,iv xb,.sl t1 (rows p),iv xk,.sl t2 (rows m)]),(4,[iv 0,bv false,.nl])],k⟩ Q:=by
 have hl6:=(ribOk_iff.1 hok).2.1
 have hlg:∀ g ∈ l,rngOk g.r.f g.r.b=true:=fun g hg=>bG_rng ((ribOk_iff.1 hok).2.2.1 g hg)
 have hses:sesB h0 up l=[(600,[iv h0,bv up,.loc 601 0,iv ((2:Nat):Int)]),(601,gcs g1++[.loc 602 0]),(602,gcs g2++[.v (.pointer none)])]:=by rw [hl];rfl
 have hop:=fun (m1:List (Nat × List AV)) (K:AV→List (Nat × List AV)→Prop)=>open_postL hses m1 K
 refine Aw_st hE [3,4,6] [2,3,4,427,428,429,430,431,432,433,530] fun K hK=>?_
 simp only [go_sem,seval,↓hop]
 refine ⟨by decide,⟨hl6,hlen⟩,?_⟩
 refine hK _ ?_;clear hK K
 refine Aw_st hE [4,6,7] [2,3,4,427,428,429,430,431,432,433,530] fun K hK=>?_
 simp only [go_sem,seval]
 refine ⟨by decide,⟨h0,up,l,⟨xf,xb,p,xk,m⟩,rfl,by rw [hl];rfl,hl6,hlg,hxr,hpl,by simp;omega⟩,fun r m2 hp=>?_⟩
 have hp':tellD h0 up l ⟨xf,xb,p,xk,m⟩ r m2:=tell_cases (by rw [hl];exact hp)
 have ho:=outRibTell2 hl hok hok2 hq hxr hp'
 clear hp hp' hop hses hlg hlen
 rcases ho with ⟨u,rfl,rfl,e⟩ | ⟨y1,y2,rfl,rfl,e⟩ | ⟨rfl,rfl,e⟩ | ⟨rfl,rfl,e⟩ | ⟨rfl,rfl,e⟩
 ·rw [e] at hQ;clear e
  simp only [go_sem,seval]
  refine hK _ ?_;clear hK K
  refine Aw_frz hE rfl 429 7 rfl rfl ?_
  simp only [go_sem,seval]
  refine Aw_frz hE rfl 428 7 rfl rfl ?_
  simp only [go_sem,seval]
  refine Aw_frz hE rfl 427 4 rfl rfl ?_
  simp only [go_sem,seval]
  refine Aw_st hE [4,5] [2,3,4,427,428,429,430,431,432,433,530] fun K hK=>?_
  simp only [go_sem,seval]
  refine ⟨ribL_p [g1,g2] (by simp),ribL_q [g1,g2] ?_⟩
  simp only [go_sem,seval]
  refine hK _ (Aw_ret (hQ _ ?_))
  simp only [go_sem,seval]
  all_goals rfl
 ·rw [e] at hQ;clear e
  simp only [go_sem,seval]
  refine hK _ ?_;clear hK K
  refine Aw_frz hE rfl 429 7 rfl rfl ?_
  simp only [go_sem,seval]
  refine Aw_frz hE rfl 428 7 rfl rfl ?_
  simp only [go_sem,seval]
  refine Aw_frz hE rfl 427 4 rfl rfl ?_
  simp only [go_sem,seval]
  refine Aw_st hE [4,5] [2,3,4,427,428,429,430,431,432,433,530] fun K hK=>?_
  simp only [go_sem,seval]
  refine ⟨ribL_p [y1,y2] (by simp),ribL_q [y1,y2] ?_⟩
  simp only [go_sem,seval]
  refine hK _ (Aw_ret (hQ _ ?_))
  simp only [go_sem,seval]
  all_goals rfl
 ·rw [e] at hQ;clear e
  simp only [insM,ndI,hdB,List.drop_zero,List.drop_succ_cons,List.drop_nil,Nat.reduceAdd,Nat.reduceSub,Nat.reduceEqDiff,reduceIte,if_true,if_false,Nat.add_zero]
  simp only [go_sem,seval]
  refine hK _ ?_;clear hK K
  refine Aw_frz hE rfl 429 7 rfl rfl ?_
  simp only [go_sem,seval]
  refine Aw_frz hE rfl 428 7 rfl rfl ?_
  simp only [go_sem,seval]
  refine Aw_frz hE rfl 530 7 rfl rfl ?_
  simp only [go_sem,seval]
  refine Aw_frz hE rfl 427 4 rfl rfl ?_
  simp only [go_sem,seval]
  refine Aw_st hE [4,5] [2,3,4,427,428,429,430,431,432,433,530] fun K hK=>?_
  simp only [go_sem,seval]
  refine ⟨ribL_p [⟨⟨xf,xb,p,xk,m⟩,false⟩,g1,g2] (by simp),ribL_q [⟨⟨xf,xb,p,xk,m⟩,false⟩,g1,g2] ?_⟩
  simp only [go_sem,seval]
  refine hK _ (Aw_ret (hQ _ ?_))
  simp only [go_sem,seval]
  all_goals rfl
 ·rw [e] at hQ;clear e
  simp only [insM,ndI,hdB,List.drop_zero,List.drop_succ_cons,List.drop_nil,Nat.reduceAdd,Nat.reduceSub,Nat.reduceEqDiff,reduceIte,if_true,if_false,Nat.add_zero]
  simp only [go_sem,seval]
  refine hK _ ?_;clear hK K
  refine Aw_frz hE rfl 429 7 rfl rfl ?_
  simp only [go_sem,seval]
  refine Aw_frz hE rfl 530 7 rfl rfl ?_
  simp only [go_sem,seval]
  refine Aw_frz hE rfl 428 7 rfl rfl ?_
  simp only [go_sem,seval]
  refine Aw_frz hE rfl 427 4 rfl rfl ?_
  simp only [go_sem,seval]
  refine Aw_st hE [4,5] [2,3,4,427,428,429,430,431,432,433,530] fun K hK=>?_
  simp only [go_sem,seval]
  refine ⟨ribL_p [g1,⟨⟨xf,xb,p,xk,m⟩,false⟩,g2] (by simp),ribL_q [g1,⟨⟨xf,xb,p,xk,m⟩,false⟩,g2] ?_⟩
  simp only [go_sem,seval]
  refine hK _ (Aw_ret (hQ _ ?_))
  simp only [go_sem,seval]
  all_goals rfl
 ·rw [e] at hQ;clear e
  simp only [insM,ndI,hdB,List.drop_zero,List.drop_succ_cons,List.drop_nil,Nat.reduceAdd,Nat.reduceSub,Nat.reduceEqDiff,reduceIte,if_true,if_false,Nat.add_zero]
  simp only [go_sem,seval]
  refine hK _ ?_;clear hK K
  refine Aw_frz hE rfl 530 7 rfl rfl ?_
  simp only [go_sem,seval]
  refine Aw_frz hE rfl 429 7 rfl rfl ?_
  simp only [go_sem,seval]
  refine Aw_frz hE rfl 428 7 rfl rfl ?_
  simp only [go_sem,seval]
  refine Aw_frz hE rfl 427 4 rfl rfl ?_
  simp only [go_sem,seval]
  refine Aw_st hE [4,5] [2,3,4,427,428,429,430,431,432,433,530] fun K hK=>?_
  simp only [go_sem,seval]
  refine ⟨ribL_p [g1,g2,⟨⟨xf,xb,p,xk,m⟩,false⟩] (by simp),ribL_q [g1,g2,⟨⟨xf,xb,p,xk,m⟩,false⟩] ?_⟩
  simp only [go_sem,seval]
  refine hK _ (Aw_ret (hQ _ ?_))
  simp only [go_sem,seval]
  all_goals rfl
theorem outRibTell3 {h0:Int} {up:Bool} {l:List Gt} {xf xb:Int} {p:List Int} {xk:Int} {m:List Int} {g1 g2 g3:Gt} {r:AV} {m2:List (Nat × List AV)} (hl:l=[g1,g2,g3]) (hok:ribOk ⟨h0,up,l⟩=true) (hok2:okR ⟨xf,xb,p,xk,m⟩=true) (hq:p.head? = some h0) (hxr:rngOk xf xb=true) (hD:tellD h0 up l ⟨xf,xb,p,xk,m⟩ r m2) :
  (∃ u,r = .dv (.ifc 89 (.ptr [.v (.string u)]))∧m2=sesL h0 up [g1,g2,g3] ((3:Nat):Int)∧telR ⟨h0,up,l⟩ ⟨xf,xb,p,xk,m⟩ = .tup [.agg [iv h0,bv up,.sl none (grows [g1,g2,g3])],bv false])∨
  (∃ y1 y2 y3:Gt,r = .v .nilIface∧m2=sesL h0 up [y1,y2,y3] ((3:Nat):Int)∧telR ⟨h0,up,l⟩ ⟨xf,xb,p,xk,m⟩ = .tup [.agg [iv h0,bv up,.sl none (grows [y1,y2,y3])],bv true])∨
  (r = .v .nilIface∧m2=insM h0 up [g1,g2,g3] ⟨xf,xb,p,xk,m⟩ 0∧telR ⟨h0,up,l⟩ ⟨xf,xb,p,xk,m⟩ = .tup [.agg [iv h0,bv up,.sl none (grows [⟨⟨xf,xb,p,xk,m⟩,false⟩,g1,g2,g3])],bv true])∨
  (r = .v .nilIface∧m2=insM h0 up [g1,g2,g3] ⟨xf,xb,p,xk,m⟩ 1∧telR ⟨h0,up,l⟩ ⟨xf,xb,p,xk,m⟩ = .tup [.agg [iv h0,bv up,.sl none (grows [g1,⟨⟨xf,xb,p,xk,m⟩,false⟩,g2,g3])],bv true])∨
  (r = .v .nilIface∧m2=insM h0 up [g1,g2,g3] ⟨xf,xb,p,xk,m⟩ 2∧telR ⟨h0,up,l⟩ ⟨xf,xb,p,xk,m⟩ = .tup [.agg [iv h0,bv up,.sl none (grows [g1,g2,⟨⟨xf,xb,p,xk,m⟩,false⟩,g3])],bv true])∨
  (r = .v .nilIface∧m2=insM h0 up [g1,g2,g3] ⟨xf,xb,p,xk,m⟩ 3∧telR ⟨h0,up,l⟩ ⟨xf,xb,p,xk,m⟩ = .tup [.agg [iv h0,bv up,.sl none (grows [g1,g2,g3,⟨⟨xf,xb,p,xk,m⟩,false⟩])],bv true]):=by
 rcases hD with ⟨hu,⟨u,rfl⟩,rfl⟩ | ⟨hu,hs,rfl,rfl⟩ | ⟨hu,hs,h6,⟨u,rfl⟩,rfl⟩ | ⟨hu,hs,h6,rfl,rfl⟩
 ·have e:=telR_err hok hok2 hq (.inl hu)
  subst hl
  exact (.inl (⟨u,rfl,rfl,e⟩))
 ·have e:=telR_set hok hok2 hq hu hs
  have hsl:(l.set (skN (⟨xf,xb,p,xk,m⟩:Rt).f (⟨xf,xb,p,xk,m⟩:Rt).b l) ⟨⟨xf,xb,p,xk,m⟩,false⟩).length=3:=by rw [List.length_set,hl];rfl
  generalize l.set (skN (⟨xf,xb,p,xk,m⟩:Rt).f (⟨xf,xb,p,xk,m⟩:Rt).b l) ⟨⟨xf,xb,p,xk,m⟩,false⟩=l' at hsl e ⊢
  obtain ⟨y1,y2,y3,rfl⟩:=len3 hsl
  subst hl
  exact (.inr (.inl (⟨y1,y2,y3,rfl,rfl,e⟩)))
 ·rw [hl] at h6;simp at h6
 ·have e:=telR_ins hok hok2 hq hu hs h6
  have hjl:=skN_le (⟨xf,xb,p,xk,m⟩:Rt).f (⟨xf,xb,p,xk,m⟩:Rt).b l
  generalize skN (⟨xf,xb,p,xk,m⟩:Rt).f (⟨xf,xb,p,xk,m⟩:Rt).b l=j at hjl e ⊢
  have hjn:j≤3:=by rw [hl] at hjl;simpa using hjl
  subst hl
  rcases (show j=0∨j=1∨j=2∨j=3 by omega) with rfl | rfl | rfl | rfl
  ·exact (.inr (.inr (.inl (⟨rfl,rfl,e⟩))))
  ·exact (.inr (.inr (.inr (.inl (⟨rfl,rfl,e⟩)))))
  ·exact (.inr (.inr (.inr (.inr (.inl (⟨rfl,rfl,e⟩))))))
  ·exact (.inr (.inr (.inr (.inr (.inr ((⟨rfl,rfl,e⟩)))))))
set_option maxHeartbeats 16000000 in
theorem iRibTell_n3 (pb:Addr) {E:En} (hE:TbOk E (tbRibTell pb)) {h0:Int} {up:Bool} {l:List Gt} {xf xb:Int} {p:List Int} {xk:Int} {m:List Int} {g1 g2 g3:Gt} {t t1 t2:Option (Nat × Nat × TypeId)} {z:AV} {k:Nat} {Q:Exit→St→Prop} (hl:l=[g1,g2,g3]) (hok:ribOk ⟨h0,up,l⟩=true) (hok2:okR ⟨xf,xb,p,xk,m⟩=true) (hq:p.head? = some h0) (hxr:rngOk xf xb=true) (hlen:lensG l) (hpl:p.length≤1000) (hml:m.length≤900) (hQ:∀ st,retD TT #[Go.ResultVar.cell 4 25,Go.ResultVar.tmp 5].toList false (telR ⟨h0,up,l⟩ ⟨xf,xb,p,xk,m⟩) st→Q .ret st):Aw E (sndC (sndC (Tryz.f13.body.getD .skip))) ⟨36,[(2,.loc 2 0),(3,.loc 3 0),(4,.loc 4 0),(24,z)],[(2,[iv h0,bv up,.sl t (grows l)]),(3,[iv xf,iv xb,.sl t1 (rows p),iv xk,.sl t2 (rows m)]),(4,[iv 0,bv false,.nl])],k⟩ Q:=by
 have hl6:=(ribOk_iff.1 hok).2.1
 have hlg:∀ g ∈ l,rngOk g.r.f g.r.b=true:=fun g hg=>bG_rng ((ribOk_iff.1 hok).2.2.1 g hg)
 have hses:sesB h0 up l=[(600,[iv h0,bv up,.loc 601 0,iv ((3:Nat):Int)]),(601,gcs g1++[.loc 602 0]),(602,gcs g2++[.loc 603 0]),(603,gcs g3++[.v (.pointer none)])]:=by rw [hl];rfl
 have hop:=fun (m1:List (Nat × List AV)) (K:AV→List (Nat × List AV)→Prop)=>open_postL hses m1 K
 refine Aw_st hE [3,4,6] [2,3,4,427,428,429,430,431,432,433,530] fun K hK=>?_
 simp only [go_sem,seval,↓hop]
 refine ⟨by decide,⟨hl6,hlen⟩,?_⟩
 refine hK _ ?_;clear hK K
 refine Aw_st hE [4,6,7] [2,3,4,427,428,429,430,431,432,433,530] fun K hK=>?_
 simp only [go_sem,seval]
 refine ⟨by decide,⟨h0,up,l,⟨xf,xb,p,xk,m⟩,rfl,by rw [hl];rfl,hl6,hlg,hxr,hpl,by simp;omega⟩,fun r m2 hp=>?_⟩
 have hp':tellD h0 up l ⟨xf,xb,p,xk,m⟩ r m2:=tell_cases (by rw [hl];exact hp)
 have ho:=outRibTell3 hl hok hok2 hq hxr hp'
 clear hp hp' hop hses hlg hlen
 rcases ho with ⟨u,rfl,rfl,e⟩ | ⟨y1,y2,y3,rfl,rfl,e⟩ | ⟨rfl,rfl,e⟩ | ⟨rfl,rfl,e⟩ | ⟨rfl,rfl,e⟩ | ⟨rfl,rfl,e⟩
 ·rw [e] at hQ;clear e
  simp only [go_sem,seval]
  refine hK _ ?_;clear hK K
  refine Aw_frz hE rfl 430 7 rfl rfl ?_
  simp only [go_sem,seval]
  refine Aw_frz hE rfl 429 7 rfl rfl ?_
  simp only [go_sem,seval]
  refine Aw_frz hE rfl 428 7 rfl rfl ?_
  simp only [go_sem,seval]
  refine Aw_frz hE rfl 427 4 rfl rfl ?_
  simp only [go_sem,seval]
  refine Aw_st hE [4,5] [2,3,4,427,428,429,430,431,432,433,530] fun K hK=>?_
  simp only [go_sem,seval]
  refine ⟨ribL_p [g1,g2,g3] (by simp),ribL_q [g1,g2,g3] ?_⟩
  simp only [go_sem,seval]
  refine hK _ (Aw_ret (hQ _ ?_))
  simp only [go_sem,seval]
  all_goals rfl
 ·rw [e] at hQ;clear e
  simp only [go_sem,seval]
  refine hK _ ?_;clear hK K
  refine Aw_frz hE rfl 430 7 rfl rfl ?_
  simp only [go_sem,seval]
  refine Aw_frz hE rfl 429 7 rfl rfl ?_
  simp only [go_sem,seval]
  refine Aw_frz hE rfl 428 7 rfl rfl ?_
  simp only [go_sem,seval]
  refine Aw_frz hE rfl 427 4 rfl rfl ?_
  simp only [go_sem,seval]
  refine Aw_st hE [4,5] [2,3,4,427,428,429,430,431,432,433,530] fun K hK=>?_
  simp only [go_sem,seval]
  refine ⟨ribL_p [y1,y2,y3] (by simp),ribL_q [y1,y2,y3] ?_⟩
  simp only [go_sem,seval]
  refine hK _ (Aw_ret (hQ _ ?_))
  simp only [go_sem,seval]
  all_goals rfl
 ·rw [e] at hQ;clear e
  simp only [insM,ndI,hdB,List.drop_zero,List.drop_succ_cons,List.drop_nil,Nat.reduceAdd,Nat.reduceSub,Nat.reduceEqDiff,reduceIte,if_true,if_false,Nat.add_zero]
  simp only [go_sem,seval]
  refine hK _ ?_;clear hK K
  refine Aw_frz hE rfl 430 7 rfl rfl ?_
  simp only [go_sem,seval]
  refine Aw_frz hE rfl 429 7 rfl rfl ?_
  simp only [go_sem,seval]
  refine Aw_frz hE rfl 428 7 rfl rfl ?_
  simp only [go_sem,seval]
  refine Aw_frz hE rfl 530 7 rfl rfl ?_
  simp only [go_sem,seval]
  refine Aw_frz hE rfl 427 4 rfl rfl ?_
  simp only [go_sem,seval]
  refine Aw_st hE [4,5] [2,3,4,427,428,429,430,431,432,433,530] fun K hK=>?_
  simp only [go_sem,seval]
  refine ⟨ribL_p [⟨⟨xf,xb,p,xk,m⟩,false⟩,g1,g2,g3] (by simp),ribL_q [⟨⟨xf,xb,p,xk,m⟩,false⟩,g1,g2,g3] ?_⟩
  simp only [go_sem,seval]
  refine hK _ (Aw_ret (hQ _ ?_))
  simp only [go_sem,seval]
  all_goals rfl
 ·rw [e] at hQ;clear e
  simp only [insM,ndI,hdB,List.drop_zero,List.drop_succ_cons,List.drop_nil,Nat.reduceAdd,Nat.reduceSub,Nat.reduceEqDiff,reduceIte,if_true,if_false,Nat.add_zero]
  simp only [go_sem,seval]
  refine hK _ ?_;clear hK K
  refine Aw_frz hE rfl 430 7 rfl rfl ?_
  simp only [go_sem,seval]
  refine Aw_frz hE rfl 429 7 rfl rfl ?_
  simp only [go_sem,seval]
  refine Aw_frz hE rfl 530 7 rfl rfl ?_
  simp only [go_sem,seval]
  refine Aw_frz hE rfl 428 7 rfl rfl ?_
  simp only [go_sem,seval]
  refine Aw_frz hE rfl 427 4 rfl rfl ?_
  simp only [go_sem,seval]
  refine Aw_st hE [4,5] [2,3,4,427,428,429,430,431,432,433,530] fun K hK=>?_
  simp only [go_sem,seval]
  refine ⟨ribL_p [g1,⟨⟨xf,xb,p,xk,m⟩,false⟩,g2,g3] (by simp),ribL_q [g1,⟨⟨xf,xb,p,xk,m⟩,false⟩,g2,g3] ?_⟩
  simp only [go_sem,seval]
  refine hK _ (Aw_ret (hQ _ ?_))
  simp only [go_sem,seval]
  all_goals rfl
 ·rw [e] at hQ;clear e
  simp only [insM,ndI,hdB,List.drop_zero,List.drop_succ_cons,List.drop_nil,Nat.reduceAdd,Nat.reduceSub,Nat.reduceEqDiff,reduceIte,if_true,if_false,Nat.add_zero]
  simp only [go_sem,seval]
  refine hK _ ?_;clear hK K
  refine Aw_frz hE rfl 430 7 rfl rfl ?_
  simp only [go_sem,seval]
  refine Aw_frz hE rfl 530 7 rfl rfl ?_
  simp only [go_sem,seval]
  refine Aw_frz hE rfl 429 7 rfl rfl ?_
  simp only [go_sem,seval]
  refine Aw_frz hE rfl 428 7 rfl rfl ?_
  simp only [go_sem,seval]
  refine Aw_frz hE rfl 427 4 rfl rfl ?_
  simp only [go_sem,seval]
  refine Aw_st hE [4,5] [2,3,4,427,428,429,430,431,432,433,530] fun K hK=>?_
  simp only [go_sem,seval]
  refine ⟨ribL_p [g1,g2,⟨⟨xf,xb,p,xk,m⟩,false⟩,g3] (by simp),ribL_q [g1,g2,⟨⟨xf,xb,p,xk,m⟩,false⟩,g3] ?_⟩
  simp only [go_sem,seval]
  refine hK _ (Aw_ret (hQ _ ?_))
  simp only [go_sem,seval]
  all_goals rfl
 ·rw [e] at hQ;clear e
  simp only [insM,ndI,hdB,List.drop_zero,List.drop_succ_cons,List.drop_nil,Nat.reduceAdd,Nat.reduceSub,Nat.reduceEqDiff,reduceIte,if_true,if_false,Nat.add_zero]
  simp only [go_sem,seval]
  refine hK _ ?_;clear hK K
  refine Aw_frz hE rfl 530 7 rfl rfl ?_
  simp only [go_sem,seval]
  refine Aw_frz hE rfl 430 7 rfl rfl ?_
  simp only [go_sem,seval]
  refine Aw_frz hE rfl 429 7 rfl rfl ?_
  simp only [go_sem,seval]
  refine Aw_frz hE rfl 428 7 rfl rfl ?_
  simp only [go_sem,seval]
  refine Aw_frz hE rfl 427 4 rfl rfl ?_
  simp only [go_sem,seval]
  refine Aw_st hE [4,5] [2,3,4,427,428,429,430,431,432,433,530] fun K hK=>?_
  simp only [go_sem,seval]
  refine ⟨ribL_p [g1,g2,g3,⟨⟨xf,xb,p,xk,m⟩,false⟩] (by simp),ribL_q [g1,g2,g3,⟨⟨xf,xb,p,xk,m⟩,false⟩] ?_⟩
  simp only [go_sem,seval]
  refine hK _ (Aw_ret (hQ _ ?_))
  simp only [go_sem,seval]
  all_goals rfl
theorem outRibTell4 {h0:Int} {up:Bool} {l:List Gt} {xf xb:Int} {p:List Int} {xk:Int} {m:List Int} {g1 g2 g3 g4:Gt} {r:AV} {m2:List (Nat × List AV)} (hl:l=[g1,g2,g3,g4]) (hok:ribOk ⟨h0,up,l⟩=true) (hok2:okR ⟨xf,xb,p,xk,m⟩=true) (hq:p.head? = some h0) (hxr:rngOk xf xb=true) (hD:tellD h0 up l ⟨xf,xb,p,xk,m⟩ r m2) :
  (∃ u,r = .dv (.ifc 89 (.ptr [.v (.string u)]))∧m2=sesL h0 up [g1,g2,g3,g4] ((4:Nat):Int)∧telR ⟨h0,up,l⟩ ⟨xf,xb,p,xk,m⟩ = .tup [.agg [iv h0,bv up,.sl none (grows [g1,g2,g3,g4])],bv false])∨
  (∃ y1 y2 y3 y4:Gt,r = .v .nilIface∧m2=sesL h0 up [y1,y2,y3,y4] ((4:Nat):Int)∧telR ⟨h0,up,l⟩ ⟨xf,xb,p,xk,m⟩ = .tup [.agg [iv h0,bv up,.sl none (grows [y1,y2,y3,y4])],bv true])∨
  (r = .v .nilIface∧m2=insM h0 up [g1,g2,g3,g4] ⟨xf,xb,p,xk,m⟩ 0∧telR ⟨h0,up,l⟩ ⟨xf,xb,p,xk,m⟩ = .tup [.agg [iv h0,bv up,.sl none (grows [⟨⟨xf,xb,p,xk,m⟩,false⟩,g1,g2,g3,g4])],bv true])∨
  (r = .v .nilIface∧m2=insM h0 up [g1,g2,g3,g4] ⟨xf,xb,p,xk,m⟩ 1∧telR ⟨h0,up,l⟩ ⟨xf,xb,p,xk,m⟩ = .tup [.agg [iv h0,bv up,.sl none (grows [g1,⟨⟨xf,xb,p,xk,m⟩,false⟩,g2,g3,g4])],bv true])∨
  (r = .v .nilIface∧m2=insM h0 up [g1,g2,g3,g4] ⟨xf,xb,p,xk,m⟩ 2∧telR ⟨h0,up,l⟩ ⟨xf,xb,p,xk,m⟩ = .tup [.agg [iv h0,bv up,.sl none (grows [g1,g2,⟨⟨xf,xb,p,xk,m⟩,false⟩,g3,g4])],bv true])∨
  (r = .v .nilIface∧m2=insM h0 up [g1,g2,g3,g4] ⟨xf,xb,p,xk,m⟩ 3∧telR ⟨h0,up,l⟩ ⟨xf,xb,p,xk,m⟩ = .tup [.agg [iv h0,bv up,.sl none (grows [g1,g2,g3,⟨⟨xf,xb,p,xk,m⟩,false⟩,g4])],bv true])∨
  (r = .v .nilIface∧m2=insM h0 up [g1,g2,g3,g4] ⟨xf,xb,p,xk,m⟩ 4∧telR ⟨h0,up,l⟩ ⟨xf,xb,p,xk,m⟩ = .tup [.agg [iv h0,bv up,.sl none (grows [g1,g2,g3,g4,⟨⟨xf,xb,p,xk,m⟩,false⟩])],bv true]):=by
 rcases hD with ⟨hu,⟨u,rfl⟩,rfl⟩ | ⟨hu,hs,rfl,rfl⟩ | ⟨hu,hs,h6,⟨u,rfl⟩,rfl⟩ | ⟨hu,hs,h6,rfl,rfl⟩
 ·have e:=telR_err hok hok2 hq (.inl hu)
  subst hl
  exact (.inl (⟨u,rfl,rfl,e⟩))
 ·have e:=telR_set hok hok2 hq hu hs
  have hsl:(l.set (skN (⟨xf,xb,p,xk,m⟩:Rt).f (⟨xf,xb,p,xk,m⟩:Rt).b l) ⟨⟨xf,xb,p,xk,m⟩,false⟩).length=4:=by rw [List.length_set,hl];rfl
  generalize l.set (skN (⟨xf,xb,p,xk,m⟩:Rt).f (⟨xf,xb,p,xk,m⟩:Rt).b l) ⟨⟨xf,xb,p,xk,m⟩,false⟩=l' at hsl e ⊢
  obtain ⟨y1,y2,y3,y4,rfl⟩:=len4 hsl
  subst hl
  exact (.inr (.inl (⟨y1,y2,y3,y4,rfl,rfl,e⟩)))
 ·rw [hl] at h6;simp at h6
 ·have e:=telR_ins hok hok2 hq hu hs h6
  have hjl:=skN_le (⟨xf,xb,p,xk,m⟩:Rt).f (⟨xf,xb,p,xk,m⟩:Rt).b l
  generalize skN (⟨xf,xb,p,xk,m⟩:Rt).f (⟨xf,xb,p,xk,m⟩:Rt).b l=j at hjl e ⊢
  have hjn:j≤4:=by rw [hl] at hjl;simpa using hjl
  subst hl
  rcases (show j=0∨j=1∨j=2∨j=3∨j=4 by omega) with rfl | rfl | rfl | rfl | rfl
  ·exact (.inr (.inr (.inl (⟨rfl,rfl,e⟩))))
  ·exact (.inr (.inr (.inr (.inl (⟨rfl,rfl,e⟩)))))
  ·exact (.inr (.inr (.inr (.inr (.inl (⟨rfl,rfl,e⟩))))))
  ·exact (.inr (.inr (.inr (.inr (.inr (.inl (⟨rfl,rfl,e⟩)))))))
  ·exact (.inr (.inr (.inr (.inr (.inr (.inr ((⟨rfl,rfl,e⟩))))))))
set_option maxHeartbeats 16000000 in
theorem iRibTell_n4 (pb:Addr) {E:En} (hE:TbOk E (tbRibTell pb)) {h0:Int} {up:Bool} {l:List Gt} {xf xb:Int} {p:List Int} {xk:Int} {m:List Int} {g1 g2 g3 g4:Gt} {t t1 t2:Option (Nat × Nat × TypeId)} {z:AV} {k:Nat} {Q:Exit→St→Prop} (hl:l=[g1,g2,g3,g4]) (hok:ribOk ⟨h0,up,l⟩=true) (hok2:okR ⟨xf,xb,p,xk,m⟩=true) (hq:p.head? = some h0) (hxr:rngOk xf xb=true) (hlen:lensG l) (hpl:p.length≤1000) (hml:m.length≤900) (hQ:∀ st,retD TT #[Go.ResultVar.cell 4 25,Go.ResultVar.tmp 5].toList false (telR ⟨h0,up,l⟩ ⟨xf,xb,p,xk,m⟩) st→Q .ret st):Aw E (sndC (sndC (Tryz.f13.body.getD .skip))) ⟨36,[(2,.loc 2 0),(3,.loc 3 0),(4,.loc 4 0),(24,z)],[(2,[iv h0,bv up,.sl t (grows l)]),(3,[iv xf,iv xb,.sl t1 (rows p),iv xk,.sl t2 (rows m)]),(4,[iv 0,bv false,.nl])],k⟩ Q:=by
 have hl6:=(ribOk_iff.1 hok).2.1
 have hlg:∀ g ∈ l,rngOk g.r.f g.r.b=true:=fun g hg=>bG_rng ((ribOk_iff.1 hok).2.2.1 g hg)
 have hses:sesB h0 up l=[(600,[iv h0,bv up,.loc 601 0,iv ((4:Nat):Int)]),(601,gcs g1++[.loc 602 0]),(602,gcs g2++[.loc 603 0]),(603,gcs g3++[.loc 604 0]),(604,gcs g4++[.v (.pointer none)])]:=by rw [hl];rfl
 have hop:=fun (m1:List (Nat × List AV)) (K:AV→List (Nat × List AV)→Prop)=>open_postL hses m1 K
 refine Aw_st hE [3,4,6] [2,3,4,427,428,429,430,431,432,433,530] fun K hK=>?_
 simp only [go_sem,seval,↓hop]
 refine ⟨by decide,⟨hl6,hlen⟩,?_⟩
 refine hK _ ?_;clear hK K
 refine Aw_st hE [4,6,7] [2,3,4,427,428,429,430,431,432,433,530] fun K hK=>?_
 simp only [go_sem,seval]
 refine ⟨by decide,⟨h0,up,l,⟨xf,xb,p,xk,m⟩,rfl,by rw [hl];rfl,hl6,hlg,hxr,hpl,by simp;omega⟩,fun r m2 hp=>?_⟩
 have hp':tellD h0 up l ⟨xf,xb,p,xk,m⟩ r m2:=tell_cases (by rw [hl];exact hp)
 have ho:=outRibTell4 hl hok hok2 hq hxr hp'
 clear hp hp' hop hses hlg hlen
 rcases ho with ⟨u,rfl,rfl,e⟩ | ⟨y1,y2,y3,y4,rfl,rfl,e⟩ | ⟨rfl,rfl,e⟩ | ⟨rfl,rfl,e⟩ | ⟨rfl,rfl,e⟩ | ⟨rfl,rfl,e⟩ | ⟨rfl,rfl,e⟩
 ·rw [e] at hQ;clear e
  simp only [go_sem,seval]
  refine hK _ ?_;clear hK K
  refine Aw_frz hE rfl 431 7 rfl rfl ?_
  simp only [go_sem,seval]
  refine Aw_frz hE rfl 430 7 rfl rfl ?_
  simp only [go_sem,seval]
  refine Aw_frz hE rfl 429 7 rfl rfl ?_
  simp only [go_sem,seval]
  refine Aw_frz hE rfl 428 7 rfl rfl ?_
  simp only [go_sem,seval]
  refine Aw_frz hE rfl 427 4 rfl rfl ?_
  simp only [go_sem,seval]
  refine Aw_st hE [4,5] [2,3,4,427,428,429,430,431,432,433,530] fun K hK=>?_
  simp only [go_sem,seval]
  refine ⟨ribL_p [g1,g2,g3,g4] (by simp),ribL_q [g1,g2,g3,g4] ?_⟩
  simp only [go_sem,seval]
  refine hK _ (Aw_ret (hQ _ ?_))
  simp only [go_sem,seval]
  all_goals rfl
 ·rw [e] at hQ;clear e
  simp only [go_sem,seval]
  refine hK _ ?_;clear hK K
  refine Aw_frz hE rfl 431 7 rfl rfl ?_
  simp only [go_sem,seval]
  refine Aw_frz hE rfl 430 7 rfl rfl ?_
  simp only [go_sem,seval]
  refine Aw_frz hE rfl 429 7 rfl rfl ?_
  simp only [go_sem,seval]
  refine Aw_frz hE rfl 428 7 rfl rfl ?_
  simp only [go_sem,seval]
  refine Aw_frz hE rfl 427 4 rfl rfl ?_
  simp only [go_sem,seval]
  refine Aw_st hE [4,5] [2,3,4,427,428,429,430,431,432,433,530] fun K hK=>?_
  simp only [go_sem,seval]
  refine ⟨ribL_p [y1,y2,y3,y4] (by simp),ribL_q [y1,y2,y3,y4] ?_⟩
  simp only [go_sem,seval]
  refine hK _ (Aw_ret (hQ _ ?_))
  simp only [go_sem,seval]
  all_goals rfl
 ·rw [e] at hQ;clear e
  simp only [insM,ndI,hdB,List.drop_zero,List.drop_succ_cons,List.drop_nil,Nat.reduceAdd,Nat.reduceSub,Nat.reduceEqDiff,reduceIte,if_true,if_false,Nat.add_zero]
  simp only [go_sem,seval]
  refine hK _ ?_;clear hK K
  refine Aw_frz hE rfl 431 7 rfl rfl ?_
  simp only [go_sem,seval]
  refine Aw_frz hE rfl 430 7 rfl rfl ?_
  simp only [go_sem,seval]
  refine Aw_frz hE rfl 429 7 rfl rfl ?_
  simp only [go_sem,seval]
  refine Aw_frz hE rfl 428 7 rfl rfl ?_
  simp only [go_sem,seval]
  refine Aw_frz hE rfl 530 7 rfl rfl ?_
  simp only [go_sem,seval]
  refine Aw_frz hE rfl 427 4 rfl rfl ?_
  simp only [go_sem,seval]
  refine Aw_st hE [4,5] [2,3,4,427,428,429,430,431,432,433,530] fun K hK=>?_
  simp only [go_sem,seval]
  refine ⟨ribL_p [⟨⟨xf,xb,p,xk,m⟩,false⟩,g1,g2,g3,g4] (by simp),ribL_q [⟨⟨xf,xb,p,xk,m⟩,false⟩,g1,g2,g3,g4] ?_⟩
  simp only [go_sem,seval]
  refine hK _ (Aw_ret (hQ _ ?_))
  simp only [go_sem,seval]
  all_goals rfl
 ·rw [e] at hQ;clear e
  simp only [insM,ndI,hdB,List.drop_zero,List.drop_succ_cons,List.drop_nil,Nat.reduceAdd,Nat.reduceSub,Nat.reduceEqDiff,reduceIte,if_true,if_false,Nat.add_zero]
  simp only [go_sem,seval]
  refine hK _ ?_;clear hK K
  refine Aw_frz hE rfl 431 7 rfl rfl ?_
  simp only [go_sem,seval]
  refine Aw_frz hE rfl 430 7 rfl rfl ?_
  simp only [go_sem,seval]
  refine Aw_frz hE rfl 429 7 rfl rfl ?_
  simp only [go_sem,seval]
  refine Aw_frz hE rfl 530 7 rfl rfl ?_
  simp only [go_sem,seval]
  refine Aw_frz hE rfl 428 7 rfl rfl ?_
  simp only [go_sem,seval]
  refine Aw_frz hE rfl 427 4 rfl rfl ?_
  simp only [go_sem,seval]
  refine Aw_st hE [4,5] [2,3,4,427,428,429,430,431,432,433,530] fun K hK=>?_
  simp only [go_sem,seval]
  refine ⟨ribL_p [g1,⟨⟨xf,xb,p,xk,m⟩,false⟩,g2,g3,g4] (by simp),ribL_q [g1,⟨⟨xf,xb,p,xk,m⟩,false⟩,g2,g3,g4] ?_⟩
  simp only [go_sem,seval]
  refine hK _ (Aw_ret (hQ _ ?_))
  simp only [go_sem,seval]
  all_goals rfl
 ·rw [e] at hQ;clear e
  simp only [insM,ndI,hdB,List.drop_zero,List.drop_succ_cons,List.drop_nil,Nat.reduceAdd,Nat.reduceSub,Nat.reduceEqDiff,reduceIte,if_true,if_false,Nat.add_zero]
  simp only [go_sem,seval]
  refine hK _ ?_;clear hK K
  refine Aw_frz hE rfl 431 7 rfl rfl ?_
  simp only [go_sem,seval]
  refine Aw_frz hE rfl 430 7 rfl rfl ?_
  simp only [go_sem,seval]
  refine Aw_frz hE rfl 530 7 rfl rfl ?_
  simp only [go_sem,seval]
  refine Aw_frz hE rfl 429 7 rfl rfl ?_
  simp only [go_sem,seval]
  refine Aw_frz hE rfl 428 7 rfl rfl ?_
  simp only [go_sem,seval]
  refine Aw_frz hE rfl 427 4 rfl rfl ?_
  simp only [go_sem,seval]
  refine Aw_st hE [4,5] [2,3,4,427,428,429,430,431,432,433,530] fun K hK=>?_
  simp only [go_sem,seval]
  refine ⟨ribL_p [g1,g2,⟨⟨xf,xb,p,xk,m⟩,false⟩,g3,g4] (by simp),ribL_q [g1,g2,⟨⟨xf,xb,p,xk,m⟩,false⟩,g3,g4] ?_⟩
  simp only [go_sem,seval]
  refine hK _ (Aw_ret (hQ _ ?_))
  simp only [go_sem,seval]
  all_goals rfl
 ·rw [e] at hQ;clear e
  simp only [insM,ndI,hdB,List.drop_zero,List.drop_succ_cons,List.drop_nil,Nat.reduceAdd,Nat.reduceSub,Nat.reduceEqDiff,reduceIte,if_true,if_false,Nat.add_zero]
  simp only [go_sem,seval]
  refine hK _ ?_;clear hK K
  refine Aw_frz hE rfl 431 7 rfl rfl ?_
  simp only [go_sem,seval]
  refine Aw_frz hE rfl 530 7 rfl rfl ?_
  simp only [go_sem,seval]
  refine Aw_frz hE rfl 430 7 rfl rfl ?_
  simp only [go_sem,seval]
  refine Aw_frz hE rfl 429 7 rfl rfl ?_
  simp only [go_sem,seval]
  refine Aw_frz hE rfl 428 7 rfl rfl ?_
  simp only [go_sem,seval]
  refine Aw_frz hE rfl 427 4 rfl rfl ?_
  simp only [go_sem,seval]
  refine Aw_st hE [4,5] [2,3,4,427,428,429,430,431,432,433,530] fun K hK=>?_
  simp only [go_sem,seval]
  refine ⟨ribL_p [g1,g2,g3,⟨⟨xf,xb,p,xk,m⟩,false⟩,g4] (by simp),ribL_q [g1,g2,g3,⟨⟨xf,xb,p,xk,m⟩,false⟩,g4] ?_⟩
  simp only [go_sem,seval]
  refine hK _ (Aw_ret (hQ _ ?_))
  simp only [go_sem,seval]
  all_goals rfl
 ·rw [e] at hQ;clear e
  simp only [insM,ndI,hdB,List.drop_zero,List.drop_succ_cons,List.drop_nil,Nat.reduceAdd,Nat.reduceSub,Nat.reduceEqDiff,reduceIte,if_true,if_false,Nat.add_zero]
  simp only [go_sem,seval]
  refine hK _ ?_;clear hK K
  refine Aw_frz hE rfl 530 7 rfl rfl ?_
  simp only [go_sem,seval]
  refine Aw_frz hE rfl 431 7 rfl rfl ?_
  simp only [go_sem,seval]
  refine Aw_frz hE rfl 430 7 rfl rfl ?_
  simp only [go_sem,seval]
  refine Aw_frz hE rfl 429 7 rfl rfl ?_
  simp only [go_sem,seval]
  refine Aw_frz hE rfl 428 7 rfl rfl ?_
  simp only [go_sem,seval]
  refine Aw_frz hE rfl 427 4 rfl rfl ?_
  simp only [go_sem,seval]
  refine Aw_st hE [4,5] [2,3,4,427,428,429,430,431,432,433,530] fun K hK=>?_
  simp only [go_sem,seval]
  refine ⟨ribL_p [g1,g2,g3,g4,⟨⟨xf,xb,p,xk,m⟩,false⟩] (by simp),ribL_q [g1,g2,g3,g4,⟨⟨xf,xb,p,xk,m⟩,false⟩] ?_⟩
  simp only [go_sem,seval]
  refine hK _ (Aw_ret (hQ _ ?_))
  simp only [go_sem,seval]
  all_goals rfl
theorem outRibTell5 {h0:Int} {up:Bool} {l:List Gt} {xf xb:Int} {p:List Int} {xk:Int} {m:List Int} {g1 g2 g3 g4 g5:Gt} {r:AV} {m2:List (Nat × List AV)} (hl:l=[g1,g2,g3,g4,g5]) (hok:ribOk ⟨h0,up,l⟩=true) (hok2:okR ⟨xf,xb,p,xk,m⟩=true) (hq:p.head? = some h0) (hxr:rngOk xf xb=true) (hD:tellD h0 up l ⟨xf,xb,p,xk,m⟩ r m2) :
  (∃ u,r = .dv (.ifc 89 (.ptr [.v (.string u)]))∧m2=sesL h0 up [g1,g2,g3,g4,g5] ((5:Nat):Int)∧telR ⟨h0,up,l⟩ ⟨xf,xb,p,xk,m⟩ = .tup [.agg [iv h0,bv up,.sl none (grows [g1,g2,g3,g4,g5])],bv false])∨
  (∃ y1 y2 y3 y4 y5:Gt,r = .v .nilIface∧m2=sesL h0 up [y1,y2,y3,y4,y5] ((5:Nat):Int)∧telR ⟨h0,up,l⟩ ⟨xf,xb,p,xk,m⟩ = .tup [.agg [iv h0,bv up,.sl none (grows [y1,y2,y3,y4,y5])],bv true])∨
  (r = .v .nilIface∧m2=insM h0 up [g1,g2,g3,g4,g5] ⟨xf,xb,p,xk,m⟩ 0∧telR ⟨h0,up,l⟩ ⟨xf,xb,p,xk,m⟩ = .tup [.agg [iv h0,bv up,.sl none (grows [⟨⟨xf,xb,p,xk,m⟩,false⟩,g1,g2,g3,g4,g5])],bv true])∨
  (r = .v .nilIface∧m2=insM h0 up [g1,g2,g3,g4,g5] ⟨xf,xb,p,xk,m⟩ 1∧telR ⟨h0,up,l⟩ ⟨xf,xb,p,xk,m⟩ = .tup [.agg [iv h0,bv up,.sl none (grows [g1,⟨⟨xf,xb,p,xk,m⟩,false⟩,g2,g3,g4,g5])],bv true])∨
  (r = .v .nilIface∧m2=insM h0 up [g1,g2,g3,g4,g5] ⟨xf,xb,p,xk,m⟩ 2∧telR ⟨h0,up,l⟩ ⟨xf,xb,p,xk,m⟩ = .tup [.agg [iv h0,bv up,.sl none (grows [g1,g2,⟨⟨xf,xb,p,xk,m⟩,false⟩,g3,g4,g5])],bv true])∨
  (r = .v .nilIface∧m2=insM h0 up [g1,g2,g3,g4,g5] ⟨xf,xb,p,xk,m⟩ 3∧telR ⟨h0,up,l⟩ ⟨xf,xb,p,xk,m⟩ = .tup [.agg [iv h0,bv up,.sl none (grows [g1,g2,g3,⟨⟨xf,xb,p,xk,m⟩,false⟩,g4,g5])],bv true])∨
  (r = .v .nilIface∧m2=insM h0 up [g1,g2,g3,g4,g5] ⟨xf,xb,p,xk,m⟩ 4∧telR ⟨h0,up,l⟩ ⟨xf,xb,p,xk,m⟩ = .tup [.agg [iv h0,bv up,.sl none (grows [g1,g2,g3,g4,⟨⟨xf,xb,p,xk,m⟩,false⟩,g5])],bv true])∨
  (r = .v .nilIface∧m2=insM h0 up [g1,g2,g3,g4,g5] ⟨xf,xb,p,xk,m⟩ 5∧telR ⟨h0,up,l⟩ ⟨xf,xb,p,xk,m⟩ = .tup [.agg [iv h0,bv up,.sl none (grows [g1,g2,g3,g4,g5,⟨⟨xf,xb,p,xk,m⟩,false⟩])],bv true]):=by
 rcases hD with ⟨hu,⟨u,rfl⟩,rfl⟩ | ⟨hu,hs,rfl,rfl⟩ | ⟨hu,hs,h6,⟨u,rfl⟩,rfl⟩ | ⟨hu,hs,h6,rfl,rfl⟩
 ·have e:=telR_err hok hok2 hq (.inl hu)
  subst hl
  exact (.inl (⟨u,rfl,rfl,e⟩))
 ·have e:=telR_set hok hok2 hq hu hs
  have hsl:(l.set (skN (⟨xf,xb,p,xk,m⟩:Rt).f (⟨xf,xb,p,xk,m⟩:Rt).b l) ⟨⟨xf,xb,p,xk,m⟩,false⟩).length=5:=by rw [List.length_set,hl];rfl
  generalize l.set (skN (⟨xf,xb,p,xk,m⟩:Rt).f (⟨xf,xb,p,xk,m⟩:Rt).b l) ⟨⟨xf,xb,p,xk,m⟩,false⟩=l' at hsl e ⊢
  obtain ⟨y1,y2,y3,y4,y5,rfl⟩:=len5 hsl
  subst hl
  exact (.inr (.inl (⟨y1,y2,y3,y4,y5,rfl,rfl,e⟩)))
 ·rw [hl] at h6;simp at h6
 ·have e:=telR_ins hok hok2 hq hu hs h6
  have hjl:=skN_le (⟨xf,xb,p,xk,m⟩:Rt).f (⟨xf,xb,p,xk,m⟩:Rt).b l
  generalize skN (⟨xf,xb,p,xk,m⟩:Rt).f (⟨xf,xb,p,xk,m⟩:Rt).b l=j at hjl e ⊢
  have hjn:j≤5:=by rw [hl] at hjl;simpa using hjl
  subst hl
  rcases (show j=0∨j=1∨j=2∨j=3∨j=4∨j=5 by omega) with rfl | rfl | rfl | rfl | rfl | rfl
  ·exact (.inr (.inr (.inl (⟨rfl,rfl,e⟩))))
  ·exact (.inr (.inr (.inr (.inl (⟨rfl,rfl,e⟩)))))
  ·exact (.inr (.inr (.inr (.inr (.inl (⟨rfl,rfl,e⟩))))))
  ·exact (.inr (.inr (.inr (.inr (.inr (.inl (⟨rfl,rfl,e⟩)))))))
  ·exact (.inr (.inr (.inr (.inr (.inr (.inr (.inl (⟨rfl,rfl,e⟩))))))))
  ·exact (.inr (.inr (.inr (.inr (.inr (.inr (.inr ((⟨rfl,rfl,e⟩)))))))))
set_option maxHeartbeats 16000000 in
theorem iRibTell_n5 (pb:Addr) {E:En} (hE:TbOk E (tbRibTell pb)) {h0:Int} {up:Bool} {l:List Gt} {xf xb:Int} {p:List Int} {xk:Int} {m:List Int} {g1 g2 g3 g4 g5:Gt} {t t1 t2:Option (Nat × Nat × TypeId)} {z:AV} {k:Nat} {Q:Exit→St→Prop} (hl:l=[g1,g2,g3,g4,g5]) (hok:ribOk ⟨h0,up,l⟩=true) (hok2:okR ⟨xf,xb,p,xk,m⟩=true) (hq:p.head? = some h0) (hxr:rngOk xf xb=true) (hlen:lensG l) (hpl:p.length≤1000) (hml:m.length≤900) (hQ:∀ st,retD TT #[Go.ResultVar.cell 4 25,Go.ResultVar.tmp 5].toList false (telR ⟨h0,up,l⟩ ⟨xf,xb,p,xk,m⟩) st→Q .ret st):Aw E (sndC (sndC (Tryz.f13.body.getD .skip))) ⟨36,[(2,.loc 2 0),(3,.loc 3 0),(4,.loc 4 0),(24,z)],[(2,[iv h0,bv up,.sl t (grows l)]),(3,[iv xf,iv xb,.sl t1 (rows p),iv xk,.sl t2 (rows m)]),(4,[iv 0,bv false,.nl])],k⟩ Q:=by
 have hl6:=(ribOk_iff.1 hok).2.1
 have hlg:∀ g ∈ l,rngOk g.r.f g.r.b=true:=fun g hg=>bG_rng ((ribOk_iff.1 hok).2.2.1 g hg)
 have hses:sesB h0 up l=[(600,[iv h0,bv up,.loc 601 0,iv ((5:Nat):Int)]),(601,gcs g1++[.loc 602 0]),(602,gcs g2++[.loc 603 0]),(603,gcs g3++[.loc 604 0]),(604,gcs g4++[.loc 605 0]),(605,gcs g5++[.v (.pointer none)])]:=by rw [hl];rfl
 have hop:=fun (m1:List (Nat × List AV)) (K:AV→List (Nat × List AV)→Prop)=>open_postL hses m1 K
 refine Aw_st hE [3,4,6] [2,3,4,427,428,429,430,431,432,433,530] fun K hK=>?_
 simp only [go_sem,seval,↓hop]
 refine ⟨by decide,⟨hl6,hlen⟩,?_⟩
 refine hK _ ?_;clear hK K
 refine Aw_st hE [4,6,7] [2,3,4,427,428,429,430,431,432,433,530] fun K hK=>?_
 simp only [go_sem,seval]
 refine ⟨by decide,⟨h0,up,l,⟨xf,xb,p,xk,m⟩,rfl,by rw [hl];rfl,hl6,hlg,hxr,hpl,by simp;omega⟩,fun r m2 hp=>?_⟩
 have hp':tellD h0 up l ⟨xf,xb,p,xk,m⟩ r m2:=tell_cases (by rw [hl];exact hp)
 have ho:=outRibTell5 hl hok hok2 hq hxr hp'
 clear hp hp' hop hses hlg hlen
 rcases ho with ⟨u,rfl,rfl,e⟩ | ⟨y1,y2,y3,y4,y5,rfl,rfl,e⟩ | ⟨rfl,rfl,e⟩ | ⟨rfl,rfl,e⟩ | ⟨rfl,rfl,e⟩ | ⟨rfl,rfl,e⟩ | ⟨rfl,rfl,e⟩ | ⟨rfl,rfl,e⟩
 ·rw [e] at hQ;clear e
  simp only [go_sem,seval]
  refine hK _ ?_;clear hK K
  refine Aw_frz hE rfl 432 7 rfl rfl ?_
  simp only [go_sem,seval]
  refine Aw_frz hE rfl 431 7 rfl rfl ?_
  simp only [go_sem,seval]
  refine Aw_frz hE rfl 430 7 rfl rfl ?_
  simp only [go_sem,seval]
  refine Aw_frz hE rfl 429 7 rfl rfl ?_
  simp only [go_sem,seval]
  refine Aw_frz hE rfl 428 7 rfl rfl ?_
  simp only [go_sem,seval]
  refine Aw_frz hE rfl 427 4 rfl rfl ?_
  simp only [go_sem,seval]
  refine Aw_st hE [4,5] [2,3,4,427,428,429,430,431,432,433,530] fun K hK=>?_
  simp only [go_sem,seval]
  refine ⟨ribL_p [g1,g2,g3,g4,g5] (by simp),ribL_q [g1,g2,g3,g4,g5] ?_⟩
  simp only [go_sem,seval]
  refine hK _ (Aw_ret (hQ _ ?_))
  simp only [go_sem,seval]
  all_goals rfl
 ·rw [e] at hQ;clear e
  simp only [go_sem,seval]
  refine hK _ ?_;clear hK K
  refine Aw_frz hE rfl 432 7 rfl rfl ?_
  simp only [go_sem,seval]
  refine Aw_frz hE rfl 431 7 rfl rfl ?_
  simp only [go_sem,seval]
  refine Aw_frz hE rfl 430 7 rfl rfl ?_
  simp only [go_sem,seval]
  refine Aw_frz hE rfl 429 7 rfl rfl ?_
  simp only [go_sem,seval]
  refine Aw_frz hE rfl 428 7 rfl rfl ?_
  simp only [go_sem,seval]
  refine Aw_frz hE rfl 427 4 rfl rfl ?_
  simp only [go_sem,seval]
  refine Aw_st hE [4,5] [2,3,4,427,428,429,430,431,432,433,530] fun K hK=>?_
  simp only [go_sem,seval]
  refine ⟨ribL_p [y1,y2,y3,y4,y5] (by simp),ribL_q [y1,y2,y3,y4,y5] ?_⟩
  simp only [go_sem,seval]
  refine hK _ (Aw_ret (hQ _ ?_))
  simp only [go_sem,seval]
  all_goals rfl
 ·rw [e] at hQ;clear e
  simp only [insM,ndI,hdB,List.drop_zero,List.drop_succ_cons,List.drop_nil,Nat.reduceAdd,Nat.reduceSub,Nat.reduceEqDiff,reduceIte,if_true,if_false,Nat.add_zero]
  simp only [go_sem,seval]
  refine hK _ ?_;clear hK K
  refine Aw_frz hE rfl 432 7 rfl rfl ?_
  simp only [go_sem,seval]
  refine Aw_frz hE rfl 431 7 rfl rfl ?_
  simp only [go_sem,seval]
  refine Aw_frz hE rfl 430 7 rfl rfl ?_
  simp only [go_sem,seval]
  refine Aw_frz hE rfl 429 7 rfl rfl ?_
  simp only [go_sem,seval]
  refine Aw_frz hE rfl 428 7 rfl rfl ?_
  simp only [go_sem,seval]
  refine Aw_frz hE rfl 530 7 rfl rfl ?_
  simp only [go_sem,seval]
  refine Aw_frz hE rfl 427 4 rfl rfl ?_
  simp only [go_sem,seval]
  refine Aw_st hE [4,5] [2,3,4,427,428,429,430,431,432,433,530] fun K hK=>?_
  simp only [go_sem,seval]
  refine ⟨ribL_p [⟨⟨xf,xb,p,xk,m⟩,false⟩,g1,g2,g3,g4,g5] (by simp),ribL_q [⟨⟨xf,xb,p,xk,m⟩,false⟩,g1,g2,g3,g4,g5] ?_⟩
  simp only [go_sem,seval]
  refine hK _ (Aw_ret (hQ _ ?_))
  simp only [go_sem,seval]
  all_goals rfl
 ·rw [e] at hQ;clear e
  simp only [insM,ndI,hdB,List.drop_zero,List.drop_succ_cons,List.drop_nil,Nat.reduceAdd,Nat.reduceSub,Nat.reduceEqDiff,reduceIte,if_true,if_false,Nat.add_zero]
  simp only [go_sem,seval]
  refine hK _ ?_;clear hK K
  refine Aw_frz hE rfl 432 7 rfl rfl ?_
  simp only [go_sem,seval]
  refine Aw_frz hE rfl 431 7 rfl rfl ?_
  simp only [go_sem,seval]
  refine Aw_frz hE rfl 430 7 rfl rfl ?_
  simp only [go_sem,seval]
  refine Aw_frz hE rfl 429 7 rfl rfl ?_
  simp only [go_sem,seval]
  refine Aw_frz hE rfl 530 7 rfl rfl ?_
  simp only [go_sem,seval]
  refine Aw_frz hE rfl 428 7 rfl rfl ?_
  simp only [go_sem,seval]
  refine Aw_frz hE rfl 427 4 rfl rfl ?_
  simp only [go_sem,seval]
  refine Aw_st hE [4,5] [2,3,4,427,428,429,430,431,432,433,530] fun K hK=>?_
  simp only [go_sem,seval]
  refine ⟨ribL_p [g1,⟨⟨xf,xb,p,xk,m⟩,false⟩,g2,g3,g4,g5] (by simp),ribL_q [g1,⟨⟨xf,xb,p,xk,m⟩,false⟩,g2,g3,g4,g5] ?_⟩
  simp only [go_sem,seval]
  refine hK _ (Aw_ret (hQ _ ?_))
  simp only [go_sem,seval]
  all_goals rfl
 ·rw [e] at hQ;clear e
  simp only [insM,ndI,hdB,List.drop_zero,List.drop_succ_cons,List.drop_nil,Nat.reduceAdd,Nat.reduceSub,Nat.reduceEqDiff,reduceIte,if_true,if_false,Nat.add_zero]
  simp only [go_sem,seval]
  refine hK _ ?_;clear hK K
  refine Aw_frz hE rfl 432 7 rfl rfl ?_
  simp only [go_sem,seval]
  refine Aw_frz hE rfl 431 7 rfl rfl ?_
  simp only [go_sem,seval]
  refine Aw_frz hE rfl 430 7 rfl rfl ?_
  simp only [go_sem,seval]
  refine Aw_frz hE rfl 530 7 rfl rfl ?_
  simp only [go_sem,seval]
  refine Aw_frz hE rfl 429 7 rfl rfl ?_
  simp only [go_sem,seval]
  refine Aw_frz hE rfl 428 7 rfl rfl ?_
  simp only [go_sem,seval]
  refine Aw_frz hE rfl 427 4 rfl rfl ?_
  simp only [go_sem,seval]
  refine Aw_st hE [4,5] [2,3,4,427,428,429,430,431,432,433,530] fun K hK=>?_
  simp only [go_sem,seval]
  refine ⟨ribL_p [g1,g2,⟨⟨xf,xb,p,xk,m⟩,false⟩,g3,g4,g5] (by simp),ribL_q [g1,g2,⟨⟨xf,xb,p,xk,m⟩,false⟩,g3,g4,g5] ?_⟩
  simp only [go_sem,seval]
  refine hK _ (Aw_ret (hQ _ ?_))
  simp only [go_sem,seval]
  all_goals rfl
 ·rw [e] at hQ;clear e
  simp only [insM,ndI,hdB,List.drop_zero,List.drop_succ_cons,List.drop_nil,Nat.reduceAdd,Nat.reduceSub,Nat.reduceEqDiff,reduceIte,if_true,if_false,Nat.add_zero]
  simp only [go_sem,seval]
  refine hK _ ?_;clear hK K
  refine Aw_frz hE rfl 432 7 rfl rfl ?_
  simp only [go_sem,seval]
  refine Aw_frz hE rfl 431 7 rfl rfl ?_
  simp only [go_sem,seval]
  refine Aw_frz hE rfl 530 7 rfl rfl ?_
  simp only [go_sem,seval]
  refine Aw_frz hE rfl 430 7 rfl rfl ?_
  simp only [go_sem,seval]
  refine Aw_frz hE rfl 429 7 rfl rfl ?_
  simp only [go_sem,seval]
  refine Aw_frz hE rfl 428 7 rfl rfl ?_
  simp only [go_sem,seval]
  refine Aw_frz hE rfl 427 4 rfl rfl ?_
  simp only [go_sem,seval]
  refine Aw_st hE [4,5] [2,3,4,427,428,429,430,431,432,433,530] fun K hK=>?_
  simp only [go_sem,seval]
  refine ⟨ribL_p [g1,g2,g3,⟨⟨xf,xb,p,xk,m⟩,false⟩,g4,g5] (by simp),ribL_q [g1,g2,g3,⟨⟨xf,xb,p,xk,m⟩,false⟩,g4,g5] ?_⟩
  simp only [go_sem,seval]
  refine hK _ (Aw_ret (hQ _ ?_))
  simp only [go_sem,seval]
  all_goals rfl
 ·rw [e] at hQ;clear e
  simp only [insM,ndI,hdB,List.drop_zero,List.drop_succ_cons,List.drop_nil,Nat.reduceAdd,Nat.reduceSub,Nat.reduceEqDiff,reduceIte,if_true,if_false,Nat.add_zero]
  simp only [go_sem,seval]
  refine hK _ ?_;clear hK K
  refine Aw_frz hE rfl 432 7 rfl rfl ?_
  simp only [go_sem,seval]
  refine Aw_frz hE rfl 530 7 rfl rfl ?_
  simp only [go_sem,seval]
  refine Aw_frz hE rfl 431 7 rfl rfl ?_
  simp only [go_sem,seval]
  refine Aw_frz hE rfl 430 7 rfl rfl ?_
  simp only [go_sem,seval]
  refine Aw_frz hE rfl 429 7 rfl rfl ?_
  simp only [go_sem,seval]
  refine Aw_frz hE rfl 428 7 rfl rfl ?_
  simp only [go_sem,seval]
  refine Aw_frz hE rfl 427 4 rfl rfl ?_
  simp only [go_sem,seval]
  refine Aw_st hE [4,5] [2,3,4,427,428,429,430,431,432,433,530] fun K hK=>?_
  simp only [go_sem,seval]
  refine ⟨ribL_p [g1,g2,g3,g4,⟨⟨xf,xb,p,xk,m⟩,false⟩,g5] (by simp),ribL_q [g1,g2,g3,g4,⟨⟨xf,xb,p,xk,m⟩,false⟩,g5] ?_⟩
  simp only [go_sem,seval]
  refine hK _ (Aw_ret (hQ _ ?_))
  simp only [go_sem,seval]
  all_goals rfl
 ·rw [e] at hQ;clear e
  simp only [insM,ndI,hdB,List.drop_zero,List.drop_succ_cons,List.drop_nil,Nat.reduceAdd,Nat.reduceSub,Nat.reduceEqDiff,reduceIte,if_true,if_false,Nat.add_zero]
  simp only [go_sem,seval]
  refine hK _ ?_;clear hK K
  refine Aw_frz hE rfl 530 7 rfl rfl ?_
  simp only [go_sem,seval]
  refine Aw_frz hE rfl 432 7 rfl rfl ?_
  simp only [go_sem,seval]
  refine Aw_frz hE rfl 431 7 rfl rfl ?_
  simp only [go_sem,seval]
  refine Aw_frz hE rfl 430 7 rfl rfl ?_
  simp only [go_sem,seval]
  refine Aw_frz hE rfl 429 7 rfl rfl ?_
  simp only [go_sem,seval]
  refine Aw_frz hE rfl 428 7 rfl rfl ?_
  simp only [go_sem,seval]
  refine Aw_frz hE rfl 427 4 rfl rfl ?_
  simp only [go_sem,seval]
  refine Aw_st hE [4,5] [2,3,4,427,428,429,430,431,432,433,530] fun K hK=>?_
  simp only [go_sem,seval]
  refine ⟨ribL_p [g1,g2,g3,g4,g5,⟨⟨xf,xb,p,xk,m⟩,false⟩] (by simp),ribL_q [g1,g2,g3,g4,g5,⟨⟨xf,xb,p,xk,m⟩,false⟩] ?_⟩
  simp only [go_sem,seval]
  refine hK _ (Aw_ret (hQ _ ?_))
  simp only [go_sem,seval]
  all_goals rfl
theorem outRibTell6 {h0:Int} {up:Bool} {l:List Gt} {xf xb:Int} {p:List Int} {xk:Int} {m:List Int} {g1 g2 g3 g4 g5 g6:Gt} {r:AV} {m2:List (Nat × List AV)} (hl:l=[g1,g2,g3,g4,g5,g6]) (hok:ribOk ⟨h0,up,l⟩=true) (hok2:okR ⟨xf,xb,p,xk,m⟩=true) (hq:p.head? = some h0) (hxr:rngOk xf xb=true) (hD:tellD h0 up l ⟨xf,xb,p,xk,m⟩ r m2) :
  (∃ u,r = .dv (.ifc 89 (.ptr [.v (.string u)]))∧m2=sesL h0 up [g1,g2,g3,g4,g5,g6] ((6:Nat):Int)∧telR ⟨h0,up,l⟩ ⟨xf,xb,p,xk,m⟩ = .tup [.agg [iv h0,bv up,.sl none (grows [g1,g2,g3,g4,g5,g6])],bv false])∨
  (∃ y1 y2 y3 y4 y5 y6:Gt,r = .v .nilIface∧m2=sesL h0 up [y1,y2,y3,y4,y5,y6] ((6:Nat):Int)∧telR ⟨h0,up,l⟩ ⟨xf,xb,p,xk,m⟩ = .tup [.agg [iv h0,bv up,.sl none (grows [y1,y2,y3,y4,y5,y6])],bv true]):=by
 rcases hD with ⟨hu,⟨u,rfl⟩,rfl⟩ | ⟨hu,hs,rfl,rfl⟩ | ⟨hu,hs,h6,⟨u,rfl⟩,rfl⟩ | ⟨hu,hs,h6,rfl,rfl⟩
 ·have e:=telR_err hok hok2 hq (.inl hu)
  subst hl
  exact (.inl (⟨u,rfl,rfl,e⟩))
 ·have e:=telR_set hok hok2 hq hu hs
  have hsl:(l.set (skN (⟨xf,xb,p,xk,m⟩:Rt).f (⟨xf,xb,p,xk,m⟩:Rt).b l) ⟨⟨xf,xb,p,xk,m⟩,false⟩).length=6:=by rw [List.length_set,hl];rfl
  generalize l.set (skN (⟨xf,xb,p,xk,m⟩:Rt).f (⟨xf,xb,p,xk,m⟩:Rt).b l) ⟨⟨xf,xb,p,xk,m⟩,false⟩=l' at hsl e ⊢
  obtain ⟨y1,y2,y3,y4,y5,y6,rfl⟩:=len6 hsl
  subst hl
  exact (.inr ((⟨y1,y2,y3,y4,y5,y6,rfl,rfl,e⟩)))
 ·have e:=telR_err hok hok2 hq (.inr ⟨hs,h6⟩)
  subst hl
  exact (.inl (⟨u,rfl,rfl,e⟩))
 ·rw [hl] at h6;simp at h6
set_option maxHeartbeats 16000000 in
theorem iRibTell_n6 (pb:Addr) {E:En} (hE:TbOk E (tbRibTell pb)) {h0:Int} {up:Bool} {l:List Gt} {xf xb:Int} {p:List Int} {xk:Int} {m:List Int} {g1 g2 g3 g4 g5 g6:Gt} {t t1 t2:Option (Nat × Nat × TypeId)} {z:AV} {k:Nat} {Q:Exit→St→Prop} (hl:l=[g1,g2,g3,g4,g5,g6]) (hok:ribOk ⟨h0,up,l⟩=true) (hok2:okR ⟨xf,xb,p,xk,m⟩=true) (hq:p.head? = some h0) (hxr:rngOk xf xb=true) (hlen:lensG l) (hpl:p.length≤1000) (hml:m.length≤900) (hQ:∀ st,retD TT #[Go.ResultVar.cell 4 25,Go.ResultVar.tmp 5].toList false (telR ⟨h0,up,l⟩ ⟨xf,xb,p,xk,m⟩) st→Q .ret st):Aw E (sndC (sndC (Tryz.f13.body.getD .skip))) ⟨36,[(2,.loc 2 0),(3,.loc 3 0),(4,.loc 4 0),(24,z)],[(2,[iv h0,bv up,.sl t (grows l)]),(3,[iv xf,iv xb,.sl t1 (rows p),iv xk,.sl t2 (rows m)]),(4,[iv 0,bv false,.nl])],k⟩ Q:=by
 have hl6:=(ribOk_iff.1 hok).2.1
 have hlg:∀ g ∈ l,rngOk g.r.f g.r.b=true:=fun g hg=>bG_rng ((ribOk_iff.1 hok).2.2.1 g hg)
 have hses:sesB h0 up l=[(600,[iv h0,bv up,.loc 601 0,iv ((6:Nat):Int)]),(601,gcs g1++[.loc 602 0]),(602,gcs g2++[.loc 603 0]),(603,gcs g3++[.loc 604 0]),(604,gcs g4++[.loc 605 0]),(605,gcs g5++[.loc 606 0]),(606,gcs g6++[.v (.pointer none)])]:=by rw [hl];rfl
 have hop:=fun (m1:List (Nat × List AV)) (K:AV→List (Nat × List AV)→Prop)=>open_postL hses m1 K
 refine Aw_st hE [3,4,6] [2,3,4,427,428,429,430,431,432,433,530] fun K hK=>?_
 simp only [go_sem,seval,↓hop]
 refine ⟨by decide,⟨hl6,hlen⟩,?_⟩
 refine hK _ ?_;clear hK K
 refine Aw_st hE [4,6,7] [2,3,4,427,428,429,430,431,432,433,530] fun K hK=>?_
 simp only [go_sem,seval]
 refine ⟨by decide,⟨h0,up,l,⟨xf,xb,p,xk,m⟩,rfl,by rw [hl];rfl,hl6,hlg,hxr,hpl,by simp;omega⟩,fun r m2 hp=>?_⟩
 have hp':tellD h0 up l ⟨xf,xb,p,xk,m⟩ r m2:=tell_cases (by rw [hl];exact hp)
 have ho:=outRibTell6 hl hok hok2 hq hxr hp'
 clear hp hp' hop hses hlg hlen
 rcases ho with ⟨u,rfl,rfl,e⟩ | ⟨y1,y2,y3,y4,y5,y6,rfl,rfl,e⟩
 ·rw [e] at hQ;clear e
  simp only [go_sem,seval]
  refine hK _ ?_;clear hK K
  refine Aw_frz hE rfl 433 7 rfl rfl ?_
  simp only [go_sem,seval]
  refine Aw_frz hE rfl 432 7 rfl rfl ?_
  simp only [go_sem,seval]
  refine Aw_frz hE rfl 431 7 rfl rfl ?_
  simp only [go_sem,seval]
  refine Aw_frz hE rfl 430 7 rfl rfl ?_
  simp only [go_sem,seval]
  refine Aw_frz hE rfl 429 7 rfl rfl ?_
  simp only [go_sem,seval]
  refine Aw_frz hE rfl 428 7 rfl rfl ?_
  simp only [go_sem,seval]
  refine Aw_frz hE rfl 427 4 rfl rfl ?_
  simp only [go_sem,seval]
  refine Aw_st hE [4,5] [2,3,4,427,428,429,430,431,432,433,530] fun K hK=>?_
  simp only [go_sem,seval]
  refine ⟨ribL_p [g1,g2,g3,g4,g5,g6] (by simp),ribL_q [g1,g2,g3,g4,g5,g6] ?_⟩
  simp only [go_sem,seval]
  refine hK _ (Aw_ret (hQ _ ?_))
  simp only [go_sem,seval]
  all_goals rfl
 ·rw [e] at hQ;clear e
  simp only [go_sem,seval]
  refine hK _ ?_;clear hK K
  refine Aw_frz hE rfl 433 7 rfl rfl ?_
  simp only [go_sem,seval]
  refine Aw_frz hE rfl 432 7 rfl rfl ?_
  simp only [go_sem,seval]
  refine Aw_frz hE rfl 431 7 rfl rfl ?_
  simp only [go_sem,seval]
  refine Aw_frz hE rfl 430 7 rfl rfl ?_
  simp only [go_sem,seval]
  refine Aw_frz hE rfl 429 7 rfl rfl ?_
  simp only [go_sem,seval]
  refine Aw_frz hE rfl 428 7 rfl rfl ?_
  simp only [go_sem,seval]
  refine Aw_frz hE rfl 427 4 rfl rfl ?_
  simp only [go_sem,seval]
  refine Aw_st hE [4,5] [2,3,4,427,428,429,430,431,432,433,530] fun K hK=>?_
  simp only [go_sem,seval]
  refine ⟨ribL_p [y1,y2,y3,y4,y5,y6] (by simp),ribL_q [y1,y2,y3,y4,y5,y6] ?_⟩
  simp only [go_sem,seval]
  refine hK _ (Aw_ret (hQ _ ?_))
  simp only [go_sem,seval]
  all_goals rfl
set_option maxHeartbeats 16000000 in
theorem iRibTell_ok (pb:Addr):Fine Tryz.prog 13 (dRibTellI pb).con:=by
 refine fine_detX [] gl_nil [] ms_nil [(42,(cOpen,[],[(600,400),(601,401),(602,402),(603,403),(604,404),(605,405),(606,406)])),(43,(cTellS,[(1000,1000)],[(600,500)]))] (mm_cons open_ok (by decide) (mm_cons tell_ok (by decide) mm_nil (wh_mm pb)) (wh_mm pb)) [] [] ex_nil (T:=TT) Tryz.func13 rfl Tryz.ntmps13 (by rw [Tryz.results13]) rfl rfl tt (gs_cons ribL_ok gs_nil) (ds_cons (iRibOk_ok pb) (ds_cons forbidden_ok (ds_cons (iRtOk_ok pb) ds_nil (whp_inh pb)) (whh_inh pb)) (whp_inh pb)) ?_
 intro args c r h hc
 simp only [dRibTellI,gRibTell] at h
 split at h
 rotate_left
 ·cases h
 split at h
 rotate_left
 ·cases h
 rename_i h0 up t els xf xb t1 e1 xk t2 e2 _ _ _ l p m hl1 hl2 hl3
 obtain rfl:=gotsL_eq hl1
 obtain rfl:=intsL_eq hl2
 obtain rfl:=intsL_eq hl3
 obtain ⟨rfl,rfl⟩:=Prod.mk.inj (Option.some.inj h)
 obtain ⟨⟨hll,hlen⟩,hpl,hml⟩:=hc
 refine ⟨by simp,fun k E hE Q hQ=>?_⟩
 refine Aw_st hE [2,3,4] [2,3,4] fun K hK=>?_
 simp only [go_sem,seval]
 refine hK _ ?_;clear hK K
 refine Aw_sq fun B1 hB1 hR1 hX1=>?_
 refine Aw_sd hE [2,3,4,24] [2,3,4] 6 (by kernel_rfl) fun K hK=>?_
 simp only [go_sem,seval]
 have hfal:(ribOk ⟨h0,up,l⟩ && (okR ⟨xf,xb,p,xk,m⟩ && decide (p.head? = some h0)))=false→telR ⟨h0,up,l⟩ ⟨xf,xb,p,xk,m⟩ = .tup [.agg [iv 0,bv false,.sl none (grows [])],bv false]:=fun e=>by
  simp only [telR,e,Bool.false_eq_true,if_false]
 refine ⟨⟨by omega,hlen⟩,fun hg3=>?_,fun hg3=>⟨⟨by omega,by omega⟩,fun hg4=>?_,fun hg4=>?_⟩⟩
 ·have hok:ribOk ⟨h0,up,l⟩=false:=by simpa using hg3
  rw [hfal (by rw [hok];rfl)] at hQ
  refine hK _ (Aw_yes rfl ?_)
  refine Aw_st hE [4,5] [2,3,4] fun K hK=>?_
  simp only [go_sem,seval]
  refine hK _ (Aw_ret (hR1 _ (hQ _ ?_)))
  simp only [go_sem,seval]
  all_goals rfl
 ·have hok:okR ⟨xf,xb,p,xk,m⟩=false:=by simpa [okR] using hg4
  rw [hfal (by rw [hok];simp)] at hQ
  refine hK _ (Aw_yes rfl ?_)
  refine Aw_st hE [4,5] [2,3,4] fun K hK=>?_
  simp only [go_sem,seval]
  refine hK _ (Aw_ret (hR1 _ (hQ _ ?_)))
  simp only [go_sem,seval]
  all_goals rfl
 have hok:ribOk ⟨h0,up,l⟩=true:=by simpa using hg3
 have hok2:okR ⟨xf,xb,p,xk,m⟩=true:=by simpa [okR] using hg4
 have hpp:∃ q p',p=q::p':=by
  cases p with
  | nil=>simp [rtOk] at hg4
  | cons q p'=>exact ⟨q,p',rfl⟩
 obtain ⟨q,p',hpq⟩:=hpp
 have hp0:(rows p)[0]? = some [.v (.int .i64 q)]:=by rw [hpq];rfl
 simp only [go_sem,seval,hp0]
 refine hK _ (Aw_cond rfl (fun hc5=>?_) (fun hc5=>?_))
 ·have hq:¬ q=h0:=by simpa using hc5
  rw [hfal (by rw [hpq];simp [hq])] at hQ
  refine Aw_st hE [4,5] [2,3,4] fun K hK=>?_
  simp only [go_sem,seval]
  refine hK _ (Aw_ret (hR1 _ (hQ _ ?_)))
  simp only [go_sem,seval]
  all_goals rfl
 have hq:p.head? = some h0:=by rw [hpq];simpa using hc5
 refine Aw_skip (hB1 _ ?_)
 have hxr:rngOk xf xb=true:=okR_rng hok2
 have hl6:=(ribOk_iff.1 hok).2.1
 rcases six hl6 with hl | ⟨g1,hl⟩ | ⟨g1,g2,hl⟩ | ⟨g1,g2,g3,hl⟩ | ⟨g1,g2,g3,g4,hl⟩ | ⟨g1,g2,g3,g4,g5,hl⟩ | ⟨g1,g2,g3,g4,g5,g6,hl⟩
 ·exact iRibTell_n0 pb hE hl hok hok2 hq hxr hlen hpl hml hQ
 ·exact iRibTell_n1 pb hE hl hok hok2 hq hxr hlen hpl hml hQ
 ·exact iRibTell_n2 pb hE hl hok hok2 hq hxr hlen hpl hml hQ
 ·exact iRibTell_n3 pb hE hl hok hok2 hq hxr hlen hpl hml hQ
 ·exact iRibTell_n4 pb hE hl hok hok2 hq hxr hlen hpl hml hQ
 ·exact iRibTell_n5 pb hE hl hok hok2 hq hxr hlen hpl hml hQ
 ·exact iRibTell_n6 pb hE hl hok hok2 hq hxr hlen hpl hml hQ
end Go.Proofs.W
end
section
namespace Go.Proofs.W
open Go Go.Eng Go.RowKit
set_option linter.unusedSimpArgs false
set_option maxRecDepth 100000
/-! what is found -/
theorem find_at {f:Gt→Bool}:∀ {l:List Gt} {i:Nat} (hi:i < l.length),f l[i]=true→(∀ x ∈ l.take i,f x=false)→l.find? f=some l[i]
 | [],i,hi,_,_=>by simp at hi
 | x::l,0,_,h,_=>by
  rw [List.find?_cons,show f x=true from h]
  rfl
 | x::l,i + 1,hi,h,hn=>by
  have hx:f x=false:=hn x (by simp)
  rw [List.find?_cons,hx]
  exact find_at (l:=l) (i:=i) (by simpa using hi) (by simpa using h) fun y hy=>hn y (by simp [hy])
theorem ribFind_cases {h:Int} {up:Bool} {l:List Gt} (f c:Int) (hok:ribOk ⟨h,up,l⟩=true) :
  (atG l f c = -1∧ribFind ⟨h,up,l⟩ f c=none)∨∃ i,∃ hi:i < l.length,atG l f c=(i:Nat)∧ribFind ⟨h,up,l⟩ f c=some l[i].r:=by
 unfold ribFind
 rw [hok,if_pos rfl]
 rcases idxB_some (f:=sameRg f c) (l:=l) (k:=0) with ⟨h1,h2⟩ | ⟨i,hi,h1,h2,h3⟩
 ·left
  refine ⟨h1,?_⟩
  have:l.find? (sameRg f c)=none:=List.find?_eq_none.2 fun x hx=>by rw [h2 x hx];simp
  simp only [this,Option.map_none]
 ·right
  refine ⟨i,hi,by unfold atG;rw [h1];simp,?_⟩
  simp only [find_at hi h2 h3,Option.map_some]
def gRibFind:List AV→Option (Prop × AV)
 | [.agg [.v (.int .i64 h),.v (.bool up),.sl _ els],.agg [.v (.int .i64 f),.v (.int .i64 c)]]=>(match gotsL els with
  | some l=>some (l.length≤1000000∧lensG l,resR (ribFind ⟨h,up,l⟩ f c))
  | none=>none)
 | _=>none
def dRibFind:DFn:={ g:=gRibFind }
def dRibFindI (pb:Addr):DFn:={ g:=gRibFind,inv:=WP pb }
attribute [go_sem] gRibFind dRibFind dRibFindI
def gRfC:List AV→Option (Prop × AV)
 | [.agg [.v (.int .i64 rf),.v (.int .i64 rb),.sl _ _,.v (.int .i64 _),.sl _ _,.v (.bool _)],.el [.v (.int .i64 f),.v (.int .i64 c)]]=>some (True,bv (decide (rf=f) && decide (rb=c)))
 | _=>none
def dRfC:DFn:={ g:=gRfC }
attribute [go_sem] gRfC dRfC
theorem ribFindC_ok:Fine Tryz.prog 47 dRfC.con:=by
 refine fine_det (T:=TT) Tryz.func47 rfl Tryz.ntmps47 (by rw [Tryz.results47]) rfl rfl tt (gs_nil) (ds_nil) ?_
 intro args c r h hc
 simp only [dRfC,gRfC] at h
 split at h
 rotate_left
 ·cases h
 obtain ⟨rfl,rfl⟩:=Prod.mk.inj (Option.some.inj h)
 refine ⟨by simp,fun k E hE Q hQ=>?_⟩
 refine Aw_st hE [1,2] [2] fun K hK=>?_
 simp only [go_sem,seval]
 repeat refine ⟨by first|omega|(and_intros<;>first|omega|exact rows_row _|decide|(simp<;>omega))|fail,?_⟩
 refine hK _ ?_;clear hK K
 refine Aw_st hE [3] [] fun K hK=>?_
 simp only [go_sem,seval]
 repeat refine ⟨by first|omega|(and_intros<;>first|omega|exact rows_row _|decide|(simp<;>omega))|fail,?_⟩
 refine hK _ (Aw_ret (hQ _ ?_))
 simp only [go_sem,seval]
 rfl
abbrev cloF (f c:Int):AV:=.dv (.fn 47 [.ptr [.v (.int .i64 f),.v (.int .i64 c)]])
def gIdG:List AV→Option (Prop × AV)
 | [.sl _ els,.dv (.fn 47 [.ptr [.v (.int .i64 f),.v (.int .i64 c)]])]=>(match gotsL els with
  | some l=>some (l.length≤1000000,iv (atG l f c))
  | none=>none)
 | _=>none
def dIdG:DFn:={ g:=gIdG }
attribute [go_sem] gIdG dIdG
theorem idG_ok:Fine Tryz.prog 46 dIdG.con:=by
 refine fine_det (T:=TT) Tryz.func46 rfl Tryz.ntmps46 (by rw [Tryz.results46]) rfl rfl tt (gs_nil) (ds_cons ribFindC_ok ds_nil) ?_
 intro args c r h hc
 simp only [dIdG,gIdG] at h
 split at h
 rotate_left
 ·cases h
 split at h
 rotate_left
 ·cases h
 rename_i t els f c _ l hgo
 obtain rfl:=gotsL_eq hgo
 obtain ⟨rfl,rfl⟩:=Prod.mk.inj (Option.some.inj h)
 refine ⟨by simp,fun k E hE Q hQ=>?_⟩
 refine Aw_st hE [0,1] [] fun K hK=>?_
 simp only [go_sem,seval]
 repeat refine ⟨by first|omega|(and_intros<;>first|omega|exact rows_row _|decide|(simp<;>omega))|fail,?_⟩
 refine hK _ ?_;clear hK K
 refine Aw_sq fun B1 hB1 hR1 hX1=>?_
 refine Aw_st hE [0,1,7,8] [] fun K hK=>?_
 simp only [go_sem,seval]
 repeat refine ⟨by first|omega|(and_intros<;>first|omega|exact rows_row _|decide|(simp<;>omega))|fail,?_⟩
 refine hK _ ?_;clear hK K
 refine Aw_bk fun B2 hN2 hE2 hR2 hX2=>?_
 refine Aw_lp (fun i:Nat=>⟨19,[(0,.sl t (grows l)),(1,cloF f c),(7,iv l.length),(8,iv i)],[],k⟩) (fun i:Nat=>i≤l.length∧atG l f c=idxB (sameRg f c) (l.drop i) i) (fun i:Nat=>l.length - i) (0) (Le.refl _) (⟨by omega,rfl⟩) fun i hi B3 hN3 hR3 hX3=>?_
 refine Aw_st hE [0,1,7,8,9] [] fun K hK=>?_
 simp only [go_sem,seval]
 repeat refine ⟨by first|omega|(and_intros<;>first|omega|exact rows_row _|decide|(simp<;>omega))|fail,?_⟩
 refine hK _ ?_;clear hK K
 refine Aw_sq fun B4 hB4 hR4 hX4=>?_
 refine Aw_cond rfl (fun hc5=>?_) (fun hc5=>?_)
 ·simp only [decide_eq_true_eq] at hc5
  have hil:i < l.length:=by omega
  have hs:=hi.2.trans (idxB_drop hil)
  have hget:=grows_get l i hil
  generalize l[i]=x at hget hs
  obtain ⟨⟨rf,rb,p,rk,m⟩,old⟩:=x
  refine Aw_skip (hB4 _ ?_)
  refine Aw_sq fun B6 hB6 hR6 hX6=>?_
  refine Aw_bk fun B7 hN7 hE7 hR7 hX7=>?_
  refine Aw_st hE [0,1,5,7,8] [] fun K hK=>?_
  simp only [go_sem,seval]
  repeat refine ⟨by first|omega|(and_intros<;>first|omega|exact rows_row _|decide|(simp<;>omega))|fail,?_⟩
  refine hK _ ?_;clear hK K
  refine Aw_st hE [0,1,5,7,8,16] [] fun K hK=>?_
  simp only [go_sem,seval,hget]
  repeat refine ⟨by first|omega|(and_intros<;>first|omega|exact rows_row _|decide|(simp<;>omega))|fail,?_⟩
  refine hK _ (Aw_cond rfl (fun hc8=>?_) (fun hc8=>?_))
  ·have hsr:sameRg f c ⟨⟨rf,rb,p,rk,m⟩,old⟩=true:=hc8
   rw [hsr] at hs
   refine Aw_st hE [4] [] fun K hK=>?_
   simp only [go_sem,seval]
   repeat refine ⟨by first|omega|(and_intros<;>first|omega|exact rows_row _|decide|(simp<;>omega))|fail,?_⟩
   refine hK _ (Aw_ret (hR7 _ (hR6 _ (hR3 _ (hR2 _ (hR1 _ (hQ _ ?_)))))))
   simp only [go_sem,seval,hs]
  ·have hsr:sameRg f c ⟨⟨rf,rb,p,rk,m⟩,old⟩=false:=hc8
   rw [hsr] at hs
   refine Aw_skip (hN7 _ (hB6 _ ?_))
   refine Aw_tx hE [0,1,7,8] [] fun K hK=>?_
   simp only [go_sem,seval]
   repeat refine ⟨by first|omega|(and_intros<;>first|omega|exact rows_row _|decide|(simp<;>omega))|fail,?_⟩
   refine hK _ (hN3 (i + 1) _ (⟨by omega,hs⟩) (by omega) (Le.refl _))
 ·simp only [decide_eq_false_iff_not] at hc5
  refine Aw_exit (hX4 _ _ (hX3 _ _ (hE2 _ (hB1 _ ?_))))
  refine Aw_st hE [4] [] fun K hK=>?_
  simp only [go_sem,seval]
  repeat refine ⟨by first|omega|(and_intros<;>first|omega|exact rows_row _|decide|(simp<;>omega))|fail,?_⟩
  refine hK _ (Aw_ret (hQ _ ?_))
  simp only [go_sem,seval]
  rw [hi.2,List.drop_eq_nil_of_le (by omega)]
  rfl
theorem iRibFind_ok (pb:Addr):Fine Tryz.prog 16 (dRibFindI pb).con:=by
 refine fine_det (T:=TT) Tryz.func16 rfl Tryz.ntmps16 (by rw [Tryz.results16]) rfl rfl tt (gs_nil) (ds_cons (iRibOk_ok pb) (ds_cons idG_ok (ds_cons copyD_ok ds_nil)) (wp_inh pb)) ?_
 intro args c r h hc
 simp only [dRibFindI,gRibFind] at h
 split at h
 rotate_left
 ·cases h
 split at h
 rotate_left
 ·cases h
 rename_i h0 up t els f c _ l hgo
 obtain rfl:=gotsL_eq hgo
 obtain ⟨rfl,rfl⟩:=Prod.mk.inj (Option.some.inj h)
 refine ⟨by simp,fun k E hE Q hQ=>?_⟩
 obtain ⟨hll,hlen⟩:=hc
 refine Aw_st hE [2,3,4] [2,3,4] fun K hK=>?_
 simp only [go_sem,seval]
 refine hK _ ?_;clear hK K
 refine Aw_sq fun B1 hB1 hR1 hX1=>?_
 refine Aw_st hE [2,3,4,9] [2,3,4] fun K hK=>?_
 simp only [go_sem,seval]
 refine ⟨⟨hll,hlen⟩,?_⟩
 refine hK _ (Aw_cond rfl (fun hc2=>?_) (fun hc2=>?_))
 ·have hok:ribOk ⟨h0,up,l⟩=false:=by simpa using hc2
  have hz:resR (ribFind ⟨h0,up,l⟩ f c) = .tup [.agg [iv 0,iv 0,isl [],iv 0,isl []],bv false]:=by simp [ribFind,hok,resR,rt0]
  refine Aw_st hE [4,5] [4] fun K hK=>?_
  simp only [go_sem,seval]
  refine hK _ (Aw_ret (hR1 _ (hQ _ ?_)))
  simp only [go_sem,seval,hz]
  rfl
 have hok:ribOk ⟨h0,up,l⟩=true:=by simpa using hc2
 refine Aw_skip (hB1 _ ?_)
 rcases ribFind_cases f c hok with ⟨h1,h2⟩ | ⟨i,hi,h1,h2⟩
 ·have hz:resR (ribFind ⟨h0,up,l⟩ f c) = .tup [.agg [iv 0,iv 0,isl [],iv 0,isl []],bv false]:=by rw [h2];rfl
  refine Aw_st hE [2,4,6] [2,4] fun K hK=>?_
  simp only [go_sem,seval,h1]
  refine ⟨hll,?_⟩
  refine hK _ ?_;clear hK K
  refine Aw_sq fun B3 hB3 hR3 hX3=>?_
  refine Aw_st hE [2,4,6,16] [2,4] fun K hK=>?_
  simp only [go_sem,seval]
  refine hK _ (Aw_yes rfl ?_)
  refine Aw_st hE [4,5] [4] fun K hK=>?_
  simp only [go_sem,seval]
  refine hK _ (Aw_ret (hR3 _ (hQ _ ?_)))
  simp only [go_sem,seval,hz]
  rfl
 ·have hget:=grows_get l i hi
  have hln:=hlen _ (List.getElem_mem hi)
  generalize l[i]=x at hget hln h2
  obtain ⟨⟨rf,rb,p,rk,m⟩,old⟩:=x
  simp only at hln
  have hz:resR (ribFind ⟨h0,up,l⟩ f c) = .tup [.agg [iv rf,iv rb,isl p,iv rk,isl m],bv true]:=by rw [h2];rfl
  have hlt:decide ((i:Int) < 0)=false:=decide_eq_false (by omega)
  refine Aw_st hE [2,4,6] [2,4] fun K hK=>?_
  simp only [go_sem,seval,h1]
  refine ⟨hll,?_⟩
  refine hK _ ?_;clear hK K
  refine Aw_sq fun B3 hB3 hR3 hX3=>?_
  refine Aw_st hE [2,4,6,16] [2,4] fun K hK=>?_
  simp only [go_sem,seval,hlt]
  refine hK _ (Aw_no rfl (Aw_skip (hB3 _ ?_)))
  refine Aw_st hE [4,5] [4] fun K hK=>?_
  simp only [go_sem,seval,hget,Int.toNat_natCast]
  refine ⟨by omega,⟨by omega,by omega⟩,?_⟩
  refine hK _ (Aw_ret (hQ _ ?_))
  simp only [go_sem,seval,hz]
end Go.Proofs.W
end
section
namespace Go.Proofs.W
open Go Go.Eng Go.RowKit
set_option linter.unusedSimpArgs false
set_option maxRecDepth 100000
/-! what is told and taken back,plainly -/
theorem gotsL_nil2:gotsL []=some []:=rfl
theorem lensG_nil2:lensG []:=by intro g hg;cases hg
def resT:Option (Rb × Bool)→AV
 | some z=>.tup [.agg [iv z.1.h,bv z.1.up,.sl none (grows z.1.all)],bv z.2]
 | none=>.tup [.agg [iv 0,bv false,.sl none (grows [])],bv false]
theorem telR_res (b:Rb) (x:Rt):telR b x=resT (telO b x):=by
 unfold telR telO
 split
 ·simp only [resT]
  split
  ·rfl
  ·split<;>rfl
 ·rfl
theorem resT_ex (t:Option (Rb × Bool)):∃ h u l o,resT t = .tup [.agg [iv h,bv u,.sl none (grows l)],bv o]∧(∀ z,t=some z→z=(⟨h,u,l⟩,o))∧(t=none→h=0∧u=false∧l=[]∧o=false):=by
 cases t with
 | none=>exact ⟨0,false,[],false,rfl,(fun z hz=>by cases hz),fun _=>⟨rfl,rfl,rfl,rfl⟩⟩
 | some z=>obtain ⟨⟨h,u,l⟩,o⟩:=z;exact ⟨h,u,l,o,rfl,(fun z hz=>(Option.some.inj hz).symm),(fun h=>by cases h)⟩
def put (x:Rt) (l:List Gt):List Gt:=if 0≤atG l x.f x.b then l.set (atG l x.f x.b).toNat ⟨x,false⟩ else insG x l
theorem had_iff {l:List Gt} {f b:Int}:0≤atG l f b↔∃ g ∈ l,sameRg f b g=true:=by
 constructor
 ·intro h
  obtain ⟨i,hi,_,h1,h2⟩:=atG_at h
  exact ⟨_,List.getElem_mem hi,by simp [sameRg,h1,h2]⟩
 ·rintro ⟨g,hg,hs⟩
  rcases Int.lt_or_le (atG l f b) 0 with hn | hn
  ·rw [atG_neg hn g hg] at hs;cases hs
  ·exact hn
theorem same_iff {f b:Int} {g:Gt}:sameRg f b g=true↔g.r.f=f∧g.r.b=b:=by simp [sameRg]
theorem same_not {f b:Int} {g:Gt}:sameRg f b g=false↔¬ (g.r.f=f∧g.r.b=b):=by
 rw [← same_iff];simp
theorem pw_uniq {l:List Gt} (hp:l.Pairwise ltG) {a b:Gt} (ha:a ∈ l) (hb:b ∈ l) (h:a.r.f=b.r.f∧a.r.b=b.r.b):a=b:=by
 induction l with
 | nil=>cases ha
 | cons x l ih =>
  obtain ⟨h1,h2⟩:=List.pairwise_cons.1 hp
  rcases List.mem_cons.1 ha with e1 | ha'
  ·rcases List.mem_cons.1 hb with e2 | hb'
   ·rw [e1,e2]
   ·have:=h1 b hb';rw [← e1] at this;unfold ltG at this;omega
  ·rcases List.mem_cons.1 hb with e2 | hb'
   ·have:=h1 a ha';rw [← e2] at this;unfold ltG at this;omega
   ·exact ih h2 ha' hb'
theorem mem_put {x:Rt} {l:List Gt} (hp:l.Pairwise ltG) {g:Gt}:g ∈ put x l↔g=⟨x,false⟩∨(g ∈ l∧sameRg x.f x.b g=false):=by
 unfold put
 split
 ·rename_i h
  obtain ⟨i,hi,e,h1,h2⟩:=atG_at h
  rw [e,Int.toNat_natCast]
  constructor
  ·intro hg
   obtain ⟨j,hj,ej⟩:=List.getElem_of_mem hg
   rw [List.length_set] at hj
   rw [List.getElem_set] at ej
   split at ej
   ·exact .inl ej.symm
   ·rename_i hne
    right
    subst ej
    refine ⟨List.getElem_mem hj,same_not.2 fun hs=>?_⟩
    have:=pw_uniq hp (List.getElem_mem hj) (List.getElem_mem hi) ⟨hs.1.trans h1.symm,hs.2.trans h2.symm⟩
    rcases Nat.lt_trichotomy i j with h' | h' | h'
    ·have:=List.pairwise_iff_getElem.1 hp i j hi hj h';unfold ltG at this;omega
    ·exact hne h'
    ·have:=List.pairwise_iff_getElem.1 hp j i hj hi h';unfold ltG at this;omega
  ·rintro (rfl | ⟨hg,hs⟩)
   ·exact List.mem_iff_getElem.2 ⟨i,by simpa using hi,by simp⟩
   ·obtain ⟨j,hj,ej⟩:=List.getElem_of_mem hg
    refine List.mem_iff_getElem.2 ⟨j,by simpa using hj,?_⟩
    rw [List.getElem_set,if_neg]
    ·exact ej
    ·rintro rfl
     subst ej
     exact (same_not.1 hs) ⟨h1,h2⟩
 ·rename_i h
  rw [insG_mem]
  constructor
  ·rintro (h' | h')
   ·exact .inl h'
   ·exact .inr ⟨h',atG_neg (by omega) g h'⟩
  ·rintro (h' | ⟨h',_⟩)
   ·exact .inl h'
   ·exact .inr h'
theorem put_len {x:Rt} {l:List Gt}:(put x l).length=if 0≤atG l x.f x.b then l.length else l.length + 1:=by
 unfold put
 split
 ·rw [List.length_set]
 ·exact insG_len x l
/-- what is told -/
theorem tel_some {h:Int} {up:Bool} {l:List Gt} {x:Rt} (hok:ribOk ⟨h,up,l⟩=true) (hx:okR x=true) (hh:x.path.head? = some h) :
  telO ⟨h,up,l⟩ x=some (if up=true∧(0≤atG l x.f x.b∨l.length < 6) then (⟨h,up,put x l⟩,true) else (⟨h,up,l⟩,false)):=by
 unfold telO
 rw [if_pos (by simp [hok,hx,hh])]
 congr 1
 cases up with
 | false=>simp
 | true =>
  simp only [Bool.not_true,Bool.false_or,Bool.and_eq_true,decide_eq_true_eq,true_and]
  by_cases h1:0≤atG l x.f x.b
  ·rw [if_neg (by omega),if_pos h1,if_pos (.inl h1)]
   unfold put;rw [if_pos h1]
  ·by_cases h2:l.length < 6
   ·rw [if_neg (by omega),if_neg h1,if_pos (.inr h2)]
    unfold put;rw [if_neg h1,telL_ins]
   ·rw [if_pos (by omega),if_neg (by omega)]
theorem tel_none {b:Rb} {x:Rt} (h:telO b x≠none):ribOk b=true∧okR x=true∧x.path.head? = some b.h:=by
 unfold telO at h
 split at h
 ·rename_i hc
  simp only [Bool.and_eq_true,decide_eq_true_eq] at hc
  exact ⟨hc.1,hc.2.1,hc.2.2⟩
 ·exact absurd rfl h
theorem put_ok {h:Int} {l:List Gt} {x:Rt} (hok:ribOk ⟨h,true,l⟩=true) (hx:okR x=true) (hh:x.path.head? = some h) (hr:0≤atG l x.f x.b∨l.length < 6):ribOk ⟨h,true,put x l⟩=true:=by
 have:=tel_some hok hx hh
 rw [if_pos ⟨rfl,hr⟩] at this
 exact (telO_ok this).1
/-- what is found -/
theorem find_mem {h:Int} {up:Bool} {l:List Gt} {f c:Int} (hok:ribOk ⟨h,up,l⟩=true) {g:Gt} (hg:g ∈ l) (hs:sameRg f c g=true):ribFind ⟨h,up,l⟩ f c=some g.r:=by
 have hp:=(ribOk_iff.1 hok).2.2.2
 rcases ribFind_cases f c hok with ⟨h1,_⟩ | ⟨i,hi,_,h2⟩
 ·have:=had_iff.2 ⟨g,hg,hs⟩;omega
 ·rw [h2]
  have h3:sameRg f c l[i]=true:=by
   unfold ribFind at h2
   rw [hok,if_pos rfl] at h2
   obtain ⟨y,hy,e⟩:=Option.map_eq_some_iff.1 h2
   have:=List.find?_some hy
   have e2:y=l[i]:=by
    have hy2:=List.mem_of_find?_eq_some hy
    exact pw_uniq hp hy2 (List.getElem_mem hi) (by rw [show y.r=l[i].r from e];exact ⟨rfl,rfl⟩)
   rw [← e2];exact this
  obtain ⟨a1,a2⟩:=same_iff.1 h3
  obtain ⟨b1,b2⟩:=same_iff.1 hs
  rw [pw_uniq hp (List.getElem_mem hi) hg ⟨a1.trans b1.symm,a2.trans b2.symm⟩]
theorem find_no {h:Int} {up:Bool} {l:List Gt} {f c:Int} (hok:ribOk ⟨h,up,l⟩=true) (hn:¬ 0≤atG l f c):ribFind ⟨h,up,l⟩ f c=none:=by
 rcases ribFind_cases f c hok with ⟨_,h2⟩ | ⟨i,hi,h1,_⟩
 ·exact h2
 ·omega
theorem find_is {h:Int} {up:Bool} {l:List Gt} {f c:Int} (hok:ribOk ⟨h,up,l⟩=true):(ribFind ⟨h,up,l⟩ f c).isSome=decide (0≤atG l f c):=by
 by_cases hn:0≤atG l f c
 ·obtain ⟨g,hg,hs⟩:=had_iff.1 hn
  rw [find_mem hok hg hs];simp [hn]
 ·rw [find_no hok hn];simp [hn]
theorem put_lens {x:Rt} {l:List Gt} (hp:l.Pairwise ltG) (hl:lensG l) (hx:x.path.length≤1000∧x.marks.length≤900):lensG (put x l):=fun g hg=>by
 rcases (mem_put hp).1 hg with rfl | h
 ·exact hx
 ·exact hl g h.1
def cLawH (pb:Addr):Con:={ pre:=codeArg,post:=fun _ r=>r=bv true,inv:=WH pb }
theorem cLawH_own (pb:Addr):(cLawH pb).own=false:=rfl
theorem cLawH_draws (pb:Addr):(cLawH pb).draws=false:=rfl
theorem cLawH_cost (pb:Addr):(cLawH pb).cost=0:=rfl
theorem cLawH_post (pb:Addr) (args:List AV) (r:AV):(cLawH pb).post args r=(r=bv true):=rfl
attribute [go_sem] cLawH_own cLawH_draws cLawH_cost cLawH_post
def cLawH2 (pb:Addr):Con:={ pre:=codeArg2,post:=fun _ r=>r=bv true,inv:=WH pb }
theorem cLawH2_own (pb:Addr):(cLawH2 pb).own=false:=rfl
theorem cLawH2_draws (pb:Addr):(cLawH2 pb).draws=false:=rfl
theorem cLawH2_cost (pb:Addr):(cLawH2 pb).cost=0:=rfl
theorem cLawH2_post (pb:Addr) (args:List AV) (r:AV):(cLawH2 pb).post args r=(r=bv true):=rfl
attribute [go_sem] cLawH2_own cLawH2_draws cLawH2_cost cLawH2_post
end Go.Proofs.W
end
section
namespace Go.Proofs.W
open Go Go.Eng Go.RowKit Go.WideShapes Go.ChangeShapes
set_option linter.unusedSimpArgs false
set_option maxRecDepth 100000
theorem law_callsH {f:FuncId} {pb:Addr} (h:Fine Tryz.prog f (cLawH pb)) (W:World) (hI:WH pb W) (v:Value) (hv:InBytes W v):Calls Tryz.prog f #[v] W fun e w'=>e = .returned (.bool true)∧Below W.heap.size W w':=by
 let S:Nat→Nat→Prop:=fun b o=>∃ x,W.cell? ⟨b,o,none⟩=some x∧x.oneCell'=true
 obtain ⟨bs,hbs,hr⟩:=inBytes_rdd hv S (fun _ _ h=>h)
 let c:Gh:={ w:=W,S:=S,β:=fun _=>0,tv:=fun _ _=>.slice none 0 0,te:=fun _ _=>0,g:=0 }
 have hrd:∀ (j:Nat) (x:AV),[AV.sl none (byteRows bs)][j]? = some x→Rd c x ((#[v]:Array Value).getD j undef):=fun j x hx=>by
  match j,hx with
  | 0,hx=>obtain rfl:=Option.some.inj hx;exact .sl none _ v hr trivial
 refine (h.2 c [.sl none (byteRows bs)] #[v] .nilIface 0 0 rfl hrd (fun x hx=>by obtain rfl:=List.mem_singleton.1 hx;rfl) ⟨bs,hbs,rfl⟩ hI (fun b o ⟨x,hx,_⟩=>.inl ⟨x,hx⟩) (fun b o x ⟨y,hy,h1⟩ hx=>?_) (fun e=>by cases e)).mono ?_
 ·have hx':W.cell? ⟨b,o,none⟩=some x:=hx
  rw [hy] at hx';obtain rfl:=Option.some.inj hx';exact h1
 ·rintro e w' ⟨u,r,c',rfl,hp,O⟩
  obtain rfl:r=bv true:=hp
  have h1:=O.rd
  have e1:u = .bool true:=by generalize u=z at h1;cases h1;rfl
  have hg:=O.fr
  exact ⟨by rw [e1],hg.os,hg.tape,hg.output,hg.size,fun i hi=>hg.block i hi (by simp [cLawH])⟩
end Go.Proofs.W
end
section
namespace Go.Proofs.W
open Go Go.Eng Go.RowKit
set_option linter.unusedSimpArgs false
set_option maxRecDepth 100000
def dRibDropI (pb:Addr):DFn:={ g:=gRibDrop,inv:=WH pb }
attribute [go_sem] dRibDropI
def tbRibDrop (pb:Addr):Tb:={ T:=TT,G:=[(44,cRibL)],D:=[(18,dRibOkI pb),(45,dForb),(57,dRangeOk)],draws:=false,gl:=[],M:=[],MM:=[(42,(cOpen,[],[(600,400),(601,401),(602,402),(603,403),(604,404),(605,405),(606,406)])),(58,(cDropS,[(1000,1000)],[]))],X:=[],EX:=[] }
attribute [go_sem] tbRibDrop
end Go.Proofs.W
end
section
namespace Go.Proofs.W
open Go Go.Eng Go.RowKit
set_option linter.unusedSimpArgs false
set_option maxRecDepth 100000
end Go.Proofs.W
end
section
namespace Go.Proofs.W
open Go Go.Eng Go.RowKit
set_option linter.unusedSimpArgs false
set_option maxRecDepth 100000
/-! what a house told,and a route,are drawn -/
def cDRT:Con:={ pre:=codeArg,post:=fun _ r=>∃ (b:Rb) (x:Rt),(b.all.length≤7∧lensG b.all)∧(x.path.length≤8∧x.marks.length≤16)∧r = .tup [b.av,x.av] }
theorem cDRT_own:cDRT.own=false:=rfl
theorem cDRT_draws:cDRT.draws=false:=rfl
theorem cDRT_cost:cDRT.cost=0:=rfl
attribute [go_sem] cDRT_own cDRT_draws cDRT_cost
theorem drt_post (args:List AV) (K:AV→Prop):(∀ r,cDRT.post args r→K r)=(∀ (b:Rb) (x:Rt),(b.all.length≤7∧lensG b.all)→(x.path.length≤8∧x.marks.length≤16)→K (.tup [b.av,x.av])):=by
 apply propext
 exact ⟨fun h b x h1 h2=>h _ ⟨b,x,h1,h2,rfl⟩,fun h r ⟨b,x,h1,h2,e⟩=>e ▸ h b x h1 h2⟩
attribute [go_sem] drt_post
def cDRU:Con:={ pre:=codeArg,post:=fun _ r=>∃ (b:Rb),(b.all.length≤7∧lensG b.all)∧r=b.av }
theorem cDRU_own:cDRU.own=false:=rfl
theorem cDRU_draws:cDRU.draws=false:=rfl
theorem cDRU_cost:cDRU.cost=0:=rfl
attribute [go_sem] cDRU_own cDRU_draws cDRU_cost
theorem dru_pre (bs:List Nat) (h:∀ b ∈ bs,b < 256):cDRU.pre [.sl none (byteRows bs)]:=⟨bs,h,rfl⟩
theorem dru_post (args:List AV) (K:AV→Prop):(∀ r,cDRU.post args r→K r)=(∀ (b:Rb),(b.all.length≤7∧lensG b.all)→K b.av):=by
 apply propext
 exact ⟨fun h b h1=>h _ ⟨b,h1,rfl⟩,fun h r ⟨b,h1,e⟩=>e ▸ h b h1⟩
attribute [go_sem] dru_post
theorem drawRibUp_ok:Fine Tryz.prog 21 cDRU:=by
 refine fine_draw (T:=TT) (C:=cDRU) Tryz.func21 rfl Tryz.ntmps21 (by rw [Tryz.results21]) rfl rfl tt rfl rfl (G:=[(33,cRibD),(34,cPick)]) (D:=[]) (gs_cons l92Rib_ok (gs_cons pick_ok gs_nil)) ds_nil (l1:=[_]) (l2:=[_]) rfl rfl rfl rfl (by decide) open_calls ⟨_,Tryz.func32,rfl,rfl⟩ ?_ ?_
 ·rintro args r ⟨b,_,rfl⟩;rfl
 rintro args ⟨bs,hbs,rfl⟩
 refine ⟨by simp,bs,hbs,fun n E hE J hJ=>?_⟩
 refine Aw_tx hE [0,2] [2] fun K hK=>?_
 simp only [go_sem,seval]
 refine hK _ ?_
 simp only [thenA]
 simp only [go_sem,seval]
 refine hJ _ rfl rfl fun E hE Q hQ=>?_
 simp only [go_sem,seval]
 refine Aw_st hE [2] [2] fun K hK=>?_
 simp only [go_sem,seval]
 intro x hx1 hx2
 refine ⟨⟨by omega,by omega⟩,isH_pick hx1 hx2,fun b hb=>?_⟩
 refine hK _ (Aw_ret (hQ _ ?_))
 simp only [go_sem,seval]
 exact ⟨b,hb,rfl⟩
end Go.Proofs.W
end
section
namespace Go.Proofs.W
open Go Go.Eng Go.RowKit
set_option linter.unusedSimpArgs false
set_option maxRecDepth 100000
end Go.Proofs.W
end
section
namespace Go.Proofs.W
open Go Go.Eng Go.RowKit
set_option linter.unusedSimpArgs false
set_option maxRecDepth 100000
/-- what a tell,a drop leave,as a result -/
theorem resT_tel {h0:Int} {up:Bool} {l:List Gt} {x:Rt} (hl:lensG l) (hx:x.path.length≤1000∧x.marks.length≤900) :
  ∃ h1 u1 l1 o1,telR ⟨h0,up,l⟩ x = .tup [.agg [iv h1,bv u1,.sl none (grows l1)],bv o1]∧(lensG l1∧l1.length≤l.length + 1)∧
   (telO ⟨h0,up,l⟩ x=some (⟨h1,u1,l1⟩,o1)∨(telO ⟨h0,up,l⟩ x=none∧h1=0∧u1=false∧l1=[]∧o1=false)):=by
 obtain ⟨h1,u1,l1,o1,e1,e2,e3⟩:=resT_ex (telO ⟨h0,up,l⟩ x)
 refine ⟨h1,u1,l1,o1,(telR_res _ _).trans e1,?_,?_⟩
 ·cases ht:telO ⟨h0,up,l⟩ x with
  | none =>
   obtain ⟨_,_,rfl,_⟩:=e3 ht
   exact ⟨lensG_nil2,by simp⟩
  | some z =>
   have hz:=e2 z ht
   obtain ⟨a1,a2,a3⟩:=tel_none (b:=⟨h0,up,l⟩) (x:=x) (by rw [ht];simp)
   have hp:=(ribOk_iff.1 a1).2.2.2
   rw [tel_some a1 a2 a3] at ht
   have:=Option.some.inj ht
   rw [hz] at this
   split at this
   ·obtain ⟨h,_⟩:=Prod.mk.inj this
    obtain ⟨_,_,rfl⟩:=Rb.mk.inj h
    exact ⟨put_lens hp hl hx,by rw [put_len];split<;>omega⟩
   ·obtain ⟨h,_⟩:=Prod.mk.inj this
    obtain ⟨_,_,rfl⟩:=Rb.mk.inj h
    exact ⟨hl,by omega⟩
 ·cases ht:telO ⟨h0,up,l⟩ x with
  | none=>exact .inr ⟨rfl,e3 ht⟩
  | some z=>exact .inl (by rw [e2 z ht])
theorem some_inj {h1 h2:Int} {u1 u2:Bool} {l1 l2:List Gt} {o1 o2:Bool} (e:some ((⟨h1,u1,l1⟩:Rb),o1)=some ((⟨h2,u2,l2⟩:Rb),o2)):h1=h2∧u1=u2∧l1=l2∧o1=o2:=by
 have:=Prod.mk.inj (Option.some.inj e)
 obtain ⟨a,b,c⟩:=Rb.mk.inj this.1
 exact ⟨a,b,c,this.2⟩
theorem zFind {h:Int} {up:Bool} {l:List Gt} {f c:Int} (hok:ribOk ⟨h,up,l⟩=true) {z:Bool} {yf yb yk:Int} {yp ym:List Int} (h1:z=true→ribFind ⟨h,up,l⟩ f c=some ⟨yf,yb,yp,yk,ym⟩)
  (h0:z=false→ribFind ⟨h,up,l⟩ f c=none∧yf=0∧yb=0∧yp=[]∧yk=0∧ym=[]):z=decide (0≤atG l f c):=by
 rw [← find_is hok]
 cases z with
 | true=>rw [h1 rfl];rfl
 | false=>rw [(h0 rfl).1];rfl
end Go.Proofs.W
end
section
namespace Go.Proofs.W
open Go Go.Eng Go.RowKit
set_option linter.unusedSimpArgs false
set_option maxRecDepth 100000
def dRibUpI (pb:Addr):DFn:={ g:=gRibUp,inv:=WP pb }
attribute [go_sem] dRibUpI
set_option maxHeartbeats 16000000 in
theorem iRibUp_ok (pb:Addr):Fine Tryz.prog 22 (dRibUpI pb).con:=by
 refine fine_detX [] gl_nil [] ms_nil [(42,(cOpen,[],[(600,400),(601,401),(602,402),(603,403),(604,404),(605,405),(606,406)]))] (mm_cons open_ok (by decide) mm_nil (wp_mm pb)) [] [] ex_nil (T:=TT) Tryz.func22 rfl Tryz.ntmps22 (by rw [Tryz.results22]) rfl rfl tt (gs_cons ribL_ok gs_nil) (ds_cons (iRibOk_ok pb) ds_nil (wp_inh pb)) ?_
 intro args c r h hc
 simp only [dRibUpI,gRibUp] at h
 split at h
 rotate_left
 ·cases h
 split at h
 rotate_left
 ·cases h
 rename_i h0 up t els _ l hgo
 obtain rfl:=gotsL_eq hgo
 obtain ⟨rfl,rfl⟩:=Prod.mk.inj (Option.some.inj h)
 refine ⟨by simp,fun k E hE Q hQ=>?_⟩
 refine Aw_st hE [1,2] [1,2,409,410,411,412,413,414,415] fun K hK=>?_
 simp only [go_sem,seval]
 refine hK _ ?_;clear hK K
 refine Aw_sq fun B1 hB1 hR1 hX1=>?_
 refine Aw_st hE [1,2,6] [1,2,409,410,411,412,413,414,415] fun K hK=>?_
 simp only [go_sem,seval]
 refine ⟨⟨by omega,hc.2⟩,?_⟩
 refine hK _ (Aw_cond rfl (fun hc2=>?_) (fun hc2=>?_))
 ·have hok:ribOk ⟨h0,up,l⟩=false:=by simpa using hc2
  refine Aw_st hE [2] [1,2,409,410,411,412,413,414,415] fun K hK=>?_
  simp only [go_sem,seval]
  refine hK _ (Aw_ret (hR1 _ (hQ _ ?_)))
  simp only [go_sem,seval]
  rw [hok];rfl
 have hok:ribOk ⟨h0,up,l⟩=true:=by simpa using hc2
 rw [hok] at hQ
 simp only [if_true] at hQ
 have hl6:=(ribOk_iff.1 hok).2.1
 refine Aw_skip (hB1 _ ?_)
 rcases six hl6 with hl | ⟨g1,hl⟩ | ⟨g1,g2,hl⟩ | ⟨g1,g2,g3,hl⟩ | ⟨g1,g2,g3,g4,hl⟩ | ⟨g1,g2,g3,g4,g5,hl⟩ | ⟨g1,g2,g3,g4,g5,g6,hl⟩
 ·have hses:sesB h0 up l=[(600,[iv h0,bv up,.v (.pointer none),iv ((0:Nat):Int)])]:=by rw [hl];rfl
  have hop:=fun (m1:List (Nat × List AV)) (K:AV→List (Nat × List AV)→Prop)=>open_postL hses m1 K
  refine Aw_st hE [2,3] [1,2,409,410,411,412,413,414,415] fun K hK=>?_
  simp only [go_sem,seval,↓hop]
  refine ⟨by decide,⟨hl6,hc.2⟩,?_⟩
  subst hl
  refine hK _ ?_;clear hK K
  refine Aw_st hE [2,3] [1,2,409,410,411,412,413,414,415] fun K hK=>?_
  simp only [go_sem,seval]
  refine hK _ ?_;clear hK K
  refine Aw_frz hE rfl 409 4 rfl rfl ?_
  simp only [go_sem,seval]
  refine Aw_st hE [2] [1,2,409,410,411,412,413,414,415] fun K hK=>?_
  simp only [go_sem,seval]
  refine ⟨ribL_p [] (by simp),ribL_q [] ?_⟩
  simp only [go_sem,seval]
  refine hK _ (Aw_ret (hQ _ ?_))
  simp only [go_sem,seval]
  all_goals rfl
 ·have hses:sesB h0 up l=[(600,[iv h0,bv up,.loc 601 0,iv ((1:Nat):Int)]),(601,gcs g1++[.v (.pointer none)])]:=by rw [hl];rfl
  have hop:=fun (m1:List (Nat × List AV)) (K:AV→List (Nat × List AV)→Prop)=>open_postL hses m1 K
  refine Aw_st hE [2,3] [1,2,409,410,411,412,413,414,415] fun K hK=>?_
  simp only [go_sem,seval,↓hop]
  refine ⟨by decide,⟨hl6,hc.2⟩,?_⟩
  subst hl
  refine hK _ ?_;clear hK K
  refine Aw_st hE [2,3] [1,2,409,410,411,412,413,414,415] fun K hK=>?_
  simp only [go_sem,seval]
  refine hK _ ?_;clear hK K
  refine Aw_frz hE rfl 410 7 rfl rfl ?_
  simp only [go_sem,seval]
  refine Aw_frz hE rfl 409 4 rfl rfl ?_
  simp only [go_sem,seval]
  refine Aw_st hE [2] [1,2,409,410,411,412,413,414,415] fun K hK=>?_
  simp only [go_sem,seval]
  refine ⟨ribL_p [g1] (by simp),ribL_q [g1] ?_⟩
  simp only [go_sem,seval]
  refine hK _ (Aw_ret (hQ _ ?_))
  simp only [go_sem,seval]
  all_goals rfl
 ·have hses:sesB h0 up l=[(600,[iv h0,bv up,.loc 601 0,iv ((2:Nat):Int)]),(601,gcs g1++[.loc 602 0]),(602,gcs g2++[.v (.pointer none)])]:=by rw [hl];rfl
  have hop:=fun (m1:List (Nat × List AV)) (K:AV→List (Nat × List AV)→Prop)=>open_postL hses m1 K
  refine Aw_st hE [2,3] [1,2,409,410,411,412,413,414,415] fun K hK=>?_
  simp only [go_sem,seval,↓hop]
  refine ⟨by decide,⟨hl6,hc.2⟩,?_⟩
  subst hl
  refine hK _ ?_;clear hK K
  refine Aw_st hE [2,3] [1,2,409,410,411,412,413,414,415] fun K hK=>?_
  simp only [go_sem,seval]
  refine hK _ ?_;clear hK K
  refine Aw_frz hE rfl 411 7 rfl rfl ?_
  simp only [go_sem,seval]
  refine Aw_frz hE rfl 410 7 rfl rfl ?_
  simp only [go_sem,seval]
  refine Aw_frz hE rfl 409 4 rfl rfl ?_
  simp only [go_sem,seval]
  refine Aw_st hE [2] [1,2,409,410,411,412,413,414,415] fun K hK=>?_
  simp only [go_sem,seval]
  refine ⟨ribL_p [g1,g2] (by simp),ribL_q [g1,g2] ?_⟩
  simp only [go_sem,seval]
  refine hK _ (Aw_ret (hQ _ ?_))
  simp only [go_sem,seval]
  all_goals rfl
 ·have hses:sesB h0 up l=[(600,[iv h0,bv up,.loc 601 0,iv ((3:Nat):Int)]),(601,gcs g1++[.loc 602 0]),(602,gcs g2++[.loc 603 0]),(603,gcs g3++[.v (.pointer none)])]:=by rw [hl];rfl
  have hop:=fun (m1:List (Nat × List AV)) (K:AV→List (Nat × List AV)→Prop)=>open_postL hses m1 K
  refine Aw_st hE [2,3] [1,2,409,410,411,412,413,414,415] fun K hK=>?_
  simp only [go_sem,seval,↓hop]
  refine ⟨by decide,⟨hl6,hc.2⟩,?_⟩
  subst hl
  refine hK _ ?_;clear hK K
  refine Aw_st hE [2,3] [1,2,409,410,411,412,413,414,415] fun K hK=>?_
  simp only [go_sem,seval]
  refine hK _ ?_;clear hK K
  refine Aw_frz hE rfl 412 7 rfl rfl ?_
  simp only [go_sem,seval]
  refine Aw_frz hE rfl 411 7 rfl rfl ?_
  simp only [go_sem,seval]
  refine Aw_frz hE rfl 410 7 rfl rfl ?_
  simp only [go_sem,seval]
  refine Aw_frz hE rfl 409 4 rfl rfl ?_
  simp only [go_sem,seval]
  refine Aw_st hE [2] [1,2,409,410,411,412,413,414,415] fun K hK=>?_
  simp only [go_sem,seval]
  refine ⟨ribL_p [g1,g2,g3] (by simp),ribL_q [g1,g2,g3] ?_⟩
  simp only [go_sem,seval]
  refine hK _ (Aw_ret (hQ _ ?_))
  simp only [go_sem,seval]
  all_goals rfl
 ·have hses:sesB h0 up l=[(600,[iv h0,bv up,.loc 601 0,iv ((4:Nat):Int)]),(601,gcs g1++[.loc 602 0]),(602,gcs g2++[.loc 603 0]),(603,gcs g3++[.loc 604 0]),(604,gcs g4++[.v (.pointer none)])]:=by rw [hl];rfl
  have hop:=fun (m1:List (Nat × List AV)) (K:AV→List (Nat × List AV)→Prop)=>open_postL hses m1 K
  refine Aw_st hE [2,3] [1,2,409,410,411,412,413,414,415] fun K hK=>?_
  simp only [go_sem,seval,↓hop]
  refine ⟨by decide,⟨hl6,hc.2⟩,?_⟩
  subst hl
  refine hK _ ?_;clear hK K
  refine Aw_st hE [2,3] [1,2,409,410,411,412,413,414,415] fun K hK=>?_
  simp only [go_sem,seval]
  refine hK _ ?_;clear hK K
  refine Aw_frz hE rfl 413 7 rfl rfl ?_
  simp only [go_sem,seval]
  refine Aw_frz hE rfl 412 7 rfl rfl ?_
  simp only [go_sem,seval]
  refine Aw_frz hE rfl 411 7 rfl rfl ?_
  simp only [go_sem,seval]
  refine Aw_frz hE rfl 410 7 rfl rfl ?_
  simp only [go_sem,seval]
  refine Aw_frz hE rfl 409 4 rfl rfl ?_
  simp only [go_sem,seval]
  refine Aw_st hE [2] [1,2,409,410,411,412,413,414,415] fun K hK=>?_
  simp only [go_sem,seval]
  refine ⟨ribL_p [g1,g2,g3,g4] (by simp),ribL_q [g1,g2,g3,g4] ?_⟩
  simp only [go_sem,seval]
  refine hK _ (Aw_ret (hQ _ ?_))
  simp only [go_sem,seval]
  all_goals rfl
 ·have hses:sesB h0 up l=[(600,[iv h0,bv up,.loc 601 0,iv ((5:Nat):Int)]),(601,gcs g1++[.loc 602 0]),(602,gcs g2++[.loc 603 0]),(603,gcs g3++[.loc 604 0]),(604,gcs g4++[.loc 605 0]),(605,gcs g5++[.v (.pointer none)])]:=by rw [hl];rfl
  have hop:=fun (m1:List (Nat × List AV)) (K:AV→List (Nat × List AV)→Prop)=>open_postL hses m1 K
  refine Aw_st hE [2,3] [1,2,409,410,411,412,413,414,415] fun K hK=>?_
  simp only [go_sem,seval,↓hop]
  refine ⟨by decide,⟨hl6,hc.2⟩,?_⟩
  subst hl
  refine hK _ ?_;clear hK K
  refine Aw_st hE [2,3] [1,2,409,410,411,412,413,414,415] fun K hK=>?_
  simp only [go_sem,seval]
  refine hK _ ?_;clear hK K
  refine Aw_frz hE rfl 414 7 rfl rfl ?_
  simp only [go_sem,seval]
  refine Aw_frz hE rfl 413 7 rfl rfl ?_
  simp only [go_sem,seval]
  refine Aw_frz hE rfl 412 7 rfl rfl ?_
  simp only [go_sem,seval]
  refine Aw_frz hE rfl 411 7 rfl rfl ?_
  simp only [go_sem,seval]
  refine Aw_frz hE rfl 410 7 rfl rfl ?_
  simp only [go_sem,seval]
  refine Aw_frz hE rfl 409 4 rfl rfl ?_
  simp only [go_sem,seval]
  refine Aw_st hE [2] [1,2,409,410,411,412,413,414,415] fun K hK=>?_
  simp only [go_sem,seval]
  refine ⟨ribL_p [g1,g2,g3,g4,g5] (by simp),ribL_q [g1,g2,g3,g4,g5] ?_⟩
  simp only [go_sem,seval]
  refine hK _ (Aw_ret (hQ _ ?_))
  simp only [go_sem,seval]
  all_goals rfl
 ·have hses:sesB h0 up l=[(600,[iv h0,bv up,.loc 601 0,iv ((6:Nat):Int)]),(601,gcs g1++[.loc 602 0]),(602,gcs g2++[.loc 603 0]),(603,gcs g3++[.loc 604 0]),(604,gcs g4++[.loc 605 0]),(605,gcs g5++[.loc 606 0]),(606,gcs g6++[.v (.pointer none)])]:=by rw [hl];rfl
  have hop:=fun (m1:List (Nat × List AV)) (K:AV→List (Nat × List AV)→Prop)=>open_postL hses m1 K
  refine Aw_st hE [2,3] [1,2,409,410,411,412,413,414,415] fun K hK=>?_
  simp only [go_sem,seval,↓hop]
  refine ⟨by decide,⟨hl6,hc.2⟩,?_⟩
  subst hl
  refine hK _ ?_;clear hK K
  refine Aw_st hE [2,3] [1,2,409,410,411,412,413,414,415] fun K hK=>?_
  simp only [go_sem,seval]
  refine hK _ ?_;clear hK K
  refine Aw_frz hE rfl 415 7 rfl rfl ?_
  simp only [go_sem,seval]
  refine Aw_frz hE rfl 414 7 rfl rfl ?_
  simp only [go_sem,seval]
  refine Aw_frz hE rfl 413 7 rfl rfl ?_
  simp only [go_sem,seval]
  refine Aw_frz hE rfl 412 7 rfl rfl ?_
  simp only [go_sem,seval]
  refine Aw_frz hE rfl 411 7 rfl rfl ?_
  simp only [go_sem,seval]
  refine Aw_frz hE rfl 410 7 rfl rfl ?_
  simp only [go_sem,seval]
  refine Aw_frz hE rfl 409 4 rfl rfl ?_
  simp only [go_sem,seval]
  refine Aw_st hE [2] [1,2,409,410,411,412,413,414,415] fun K hK=>?_
  simp only [go_sem,seval]
  refine ⟨ribL_p [g1,g2,g3,g4,g5,g6] (by simp),ribL_q [g1,g2,g3,g4,g5,g6] ?_⟩
  simp only [go_sem,seval]
  refine hK _ (Aw_ret (hQ _ ?_))
  simp only [go_sem,seval]
  all_goals rfl
end Go.Proofs.W
end
