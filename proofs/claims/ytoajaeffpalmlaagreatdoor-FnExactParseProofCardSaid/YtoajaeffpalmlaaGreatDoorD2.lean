/-
  PROVED: definitions that say what functions of the program compute. No condition.
-/
import Derived.Test.YtoajaeffpalmlaaGreatDoorD1
namespace Go.Px.YtoajaeffpalmlaaGreatDoor
set_option linter.unusedSimpArgs false
set_option linter.unusedVariables false
open Go.Px
theorem swapG (s:ByteArray)(hs:s.size≤1000000000)(c d:UInt8)(hcd:c≠d):∃ r,s_l21Swap s (c.toNat:Int) (d.toNat:Int)=some r∧strings_ReplaceAll s ⟨#[c]⟩ ⟨#[d]⟩=some r∧sl r=(sl s).map fun x=>if x=c then d else x:=by
 have hl:=bytesL_len s
 have h1:=swap_L1g (c.toNat:Int) (d.toNat:Int) (bytesL s) (by omega) F0 0 (bytesL s) (by have:=F0_gt;omega) (by omega) rfl
 rw [List.take_zero,List.drop_zero,List.nil_append] at h1
 have hr:strB ((bytesL s).map fun x=>if x=(c.toNat:Int) then (d.toNat:Int) else x)=replB s ⟨#[c]⟩ ⟨#[d]⟩:=by
  apply ba_ext
  rw [strB_list]
  unfold replB
  show _=Lib.replaceAll s.data.toList [c] [d]
  rw [replAll c d _ hcd]
  unfold bytesL
  rw [List.map_map,List.map_map]
  apply List.map_congr_left
  intro b _
  simp only [Function.comp]
  by_cases hc:b=c
  ·subst hc
   rw [if_pos rfl,if_pos rfl]
   simp
  rw [if_neg (fun e=>hc (byte_inj e)),if_neg hc]
  simp
 refine ⟨replB s ⟨#[c]⟩ ⟨#[d]⟩,?_,?_,?_⟩
 ·unfold s_l21Swap bytesO
  rw [if_pos (by omega),Option.bind_some]
  show Option.bind (s_l21Swap_L1 _ _ (bytesL s) F0 ((0:Nat):Int) (bytesL s)) _=_
  rw [h1,Option.bind_some,hr]
 ·unfold strings_ReplaceAll replL
  have hc:Lib.countB s ⟨#[c]⟩≤s.size:=Lib.countB_le ⟨#[c]⟩ (by show 1≤1;omega) s.size s (Nat.le_refl _)
  have h1s:(⟨#[d]⟩:ByteArray).size=1:=rfl
  rw [if_pos ⟨by omega,by show 1≤1;omega,by rw [h1s];omega⟩]
 show Lib.replaceAll s.data.toList [c] [d]=_
 rw [replAll c d _ hcd]
theorem ix_free (c:List UInt8):∀ r:List UInt8,32∉r→Lib.index (r ++ (32::124::32::c)) [32,124,32]=(r.length:Int)
 | [],_=>by
  rw [List.nil_append,Lib.index]
  simp [List.isPrefixOf]
 | b::r,h=>by
  have hb:b≠32:=fun e=>h (by rw [e];exact List.mem_cons_self ..)
  have ih:=ix_free c r (fun hm=>h (List.mem_cons_of_mem _ hm))
  rw [List.cons_append,Lib.index,ih]
  have hp:([32,124,32]:List UInt8).isPrefixOf (b::(r ++ 32::124::32::c))=false:=by simp [List.isPrefixOf,Ne.symm hb]
  rw [hp]
  have:((r.length:Int) == -1)=false:=by simp
  simp only [Bool.false_eq_true,if_false,this,List.length_cons]
  omega
theorem ix_step (b:UInt8)(l:List UInt8)(k:Nat)(hp:([32,124,32]:List UInt8).isPrefixOf (b::l)=false)(h:Lib.index l [32,124,32]=(k:Int)):Lib.index (b::l) [32,124,32]=((k+1:Nat):Int):=by
 rw [Lib.index,hp,h]
 have:((k:Int) == -1)=false:=by simp
 simp only [Bool.false_eq_true,if_false,this]
 omega
theorem cut_at (s:ByteArray)(hs:s.size≤3000000)(h c:List UInt8)(hsl:sl s=h ++ (32::124::32::c))(hix:Lib.index (sl s) [32,124,32]=(h.length:Int)):∃ a b,cutL s ⟨#[32,124,32]⟩=some (a,b,true)∧sl a=h∧sl b=c:=by
 have e:Lib.cut s.data.toList (⟨#[32,124,32]⟩:ByteArray).data.toList=(h,c,true):=by
  show Lib.cut (sl s) [32,124,32]=_
  unfold Lib.cut
  rw [if_pos (by rw [hix];omega),hix,hsl]
  have e1:((h.length:Int)).toNat=h.length:=by omega
  have e2:(h ++ (32::124::32::c)).drop (h.length+([32,124,32]:List UInt8).length)=c:=by
   rw [← List.drop_drop,List.drop_left];rfl
  rw [e1,List.take_left,e2]
 refine ⟨⟨h.toArray⟩,⟨c.toArray⟩,?_,by simp [sl],by simp [sl]⟩
 unfold cutL
 rw [if_pos (by omega),e]
theorem name_first (s:ByteArray)(hs:s.size≤3000000)(h:s_IsName s=some true):∃ c r,sl s=c::r∧97≤c.toNat∧c.toNat≤122:=by
 have hsl:(sl s).length=s.size:=(ba_size s).symm
 have hF:=F0_gt
 simp only [s_IsName,s_l01In_eq] at h
 cases hL:s_IsName_L1 s F0 0 with
 | none=>rw [hL] at h;simp [sumBind] at h
 | some r=>
  cases r with
  | inr b=>
   rw [hL] at h
   simp only [sumBind,Option.bind_some,Sum.elim_inr] at h
   have hb:b=true:=Option.some.inj h
   subst hb
   exfalso
   have hf:∀(fuel:Nat)(z:Int) b,s_IsName_L1 s fuel z=some (.inr b)→b=false:=by
    intro fuel
    induction fuel with
    | zero=>intro z b h;cases h
    | succ n ih=>
     intro z b h
     rw [s_IsName_L1] at h
     cases h1:decide (z<(s.size:Int)) with
     | false=>rw [h1] at h;cases h
     | true=>
      rw [h1,cond_true] at h
      cases h2:idxS s z with
      | none=>rw [h2] at h;cases h
      | some v=>
       rw [h2,Option.bind_some] at h
       obtain ⟨e12,he12⟩:∃ e,(bif decide (97≤v) then some (decide (v≤122)) else some false)=some e:=by cases decide (97≤v) <;> exact ⟨_,rfl⟩
       rw [he12,Option.bind_some] at h
       obtain ⟨e14,he14⟩:∃ e,(bif (!e12) then (bif (z == 0) then some true else (bif (decide (v<48)) then some true else some (decide (57<v)))) else some false)=some e:=by
        cases e12 <;> cases (z == 0) <;> cases decide (v<48) <;> exact ⟨_,rfl⟩
       rw [he14,Option.bind_some] at h
       cases e14 with
       | true=>cases h;rfl
       | false=>exact ih _ _ h
   have:=hf _ _ _ hL
   cases this
  | inl u=>
   rw [hL] at h
   simp only [sumBind,Option.bind_some,Sum.elim_inl] at h
   have hsz:=inR_iff.1 (Option.some.inj h)
   have hlt:0<(sl s).length:=by omega
   obtain ⟨k,hk⟩:∃ k,F0=k+1:=⟨F0 - 1,by omega⟩
   rw [hk,s_IsName_L1,decide_eq_true (by omega:(0:Int)<(s.size:Int)),cond_true] at hL
   have h0:idxS s 0=some ((sl s)[0].toNat:Int):=by
    show idxS s ((0:Nat):Int)=_
    rw [idxS_list,List.getElem?_eq_getElem hlt];rfl
   rw [h0,Option.bind_some] at hL
   refine ⟨(sl s)[0],(sl s).drop 1,?_,?_⟩
   ·have:=List.getElem_cons_drop hlt
    rw [List.drop_zero] at this
    exact this.symm
   by_cases h1:97≤(sl s)[0].toNat
   ·by_cases h2:(sl s)[0].toNat≤122
    ·exact ⟨h1,h2⟩
    rw [decide_eq_true (by omega:(97:Int)≤((sl s)[0].toNat:Int)),decide_eq_false (by omega:¬ ((sl s)[0].toNat:Int)≤122)] at hL
    simp at hL
   rw [decide_eq_false (by omega:¬ (97:Int)≤((sl s)[0].toNat:Int))] at hL
   simp at hL
theorem itoa_chars (n:Int):∀ c∈Lib.itoa n,c=45∨(48≤c.toNat∧c.toNat≤57):=by
 intro c hc
 unfold Lib.itoa at hc
 split at hc
 ·rcases List.mem_cons.1 hc with e | e
  ·exact .inl e
  exact .inr (digits_ok _ c e)
 exact .inr (digits_ok _ c hc)
theorem rword_num (p:TProject)(n:Int)(h0:-100000≤n)(h1:n≤100000):RWord p ⟨(Lib.itoa n).toArray⟩ true n:=by
 obtain ⟨s,s1,s2,s3⟩:=fmt_eq n h0 h1
 rw [(fmt_str n h0 h1).1] at s1
 have hs:=Option.some.inj s1
 refine ⟨by rw [hs];omega,fun c hc=>?_,fun _=>⟨h0,h1,by simp [sl]⟩,fun h=>by cases h⟩
 have hc':c∈Lib.itoa n:=by simpa [sl] using hc
 rcases itoa_chars n c hc' with rfl | h
 ·decide
 constructor
 ·rintro rfl;exact absurd h.1 (by decide)
 rintro rfl;exact absurd h.1 (by decide)
theorem rword_name (p:TProject)(hp:bTProject 1048576 p)(hpo:s_ProjectOk p=some true)(z:Int){x:TActivity}(hx:idxL p.Activities z=some x):RWord p x.Name false z:=by
 obtain ⟨h0,h1⟩:=idxL_spec hx
 obtain ⟨n1,n2⟩:=proj_names p hpo _ x h1
 have hsz:=names1 hp x (List.mem_of_getElem? h1)
 obtain ⟨c,r,hc,hc1⟩:=name_first x.Name (by omega) n1
 refine ⟨hsz,fun b hb=>?_,(fun h=>by cases h),fun _=>⟨fun n hn=>?_,by rw [n2];congr 1;omega⟩⟩
 ·have:=name_al x.Name (by omega) n1 b hb
  constructor
  ·rintro rfl;exact absurd this (by decide)
  rintro rfl;exact absurd this (by decide)
 have h3:=hn.2.2
 rw [hc] at h3
 have:=itoa_chars n c (by rw [← h3];exact List.mem_cons_self ..)
 rcases this with rfl | h
 ·exact absurd hc1.1 (by decide)
 omega
theorem rule_zero (p:TProject)(r:TRule)(h:s_RuleOk p r=some true):(r.Kind=1∨r.Kind=2∨r.Kind=6→r.B=0∧r.C=0)∧(r.Kind=3→r.C=0∧0≤r.B∧r.B≤60):=by
 simp only [s_RuleOk,s_l01In_eq,Option.bind_some] at h
 cases hp:s_ProjectOk p with
 | none=>rw [hp] at h;cases h
 | some v=>
  rw [hp,Option.bind_some] at h
  cases v with
  | false=>cases h
  | true=>
   simp only [Bool.not_true,cond_false,int_beq] at h
   have fin:∀(e b c:Bool),Option.bind (bif e then (bif b then some c else some false) else some false) (fun e5=>some e5)=some true→b=true∧c=true:=by
    intro e b c;cases e <;> cases b <;> cases c <;> simp
   constructor
   ·rintro (k | k | k)
    ·simp only [k,decide_true,cond_true] at h
     have:=fin _ _ _ h
     exact ⟨of_decide_eq_true this.1,of_decide_eq_true this.2⟩
    ·simp only [k,decide_true,cond_true,cond_false,show decide ((2:Int)=1)=false from rfl] at h
     have:=fin _ _ _ h
     exact ⟨of_decide_eq_true this.1,of_decide_eq_true this.2⟩
    simp only [k,decide_true,cond_true,cond_false,show decide ((6:Int)=1)=false from rfl,show decide ((6:Int)=2)=false from rfl,show decide ((6:Int)=3)=false from rfl,show decide ((6:Int)=4)=false from rfl,show decide ((6:Int)=5)=false from rfl] at h
    have:=fin _ _ _ h
    exact ⟨of_decide_eq_true this.1,of_decide_eq_true this.2⟩
   intro k
   simp only [k,decide_true,cond_true,cond_false,show decide ((3:Int)=1)=false from rfl,show decide ((3:Int)=2)=false from rfl] at h
   have:=fin _ _ _ h
   have hb:=inR_iff.1 this.1
   exact ⟨of_decide_eq_true this.2,hb.1,hb.2⟩
theorem rule_shape (p:TProject)(r:TRule)(hp:bTProject 1048576 p)(h:s_RuleOk p r=some true):∃ n0 ws,s_RuleName r.Kind=some n0∧(1≤r.Kind∧r.Kind≤6)∧s_FormatRule p r=some (joinB (n0::ws) ⟨#[32]⟩)∧i_FormatRule p r=some (joinB (n0::ws) ⟨#[32]⟩)∧RShape p r ws:=by
 obtain ⟨v,hv,hf⟩:=s_RuleOk_ok p (names_of hp (by omega)) r
 rw [h] at hv;cases hv
 obtain ⟨hpo,F⟩:=hf rfl
 obtain ⟨u,hu,hP⟩:=s_ProjectOk_ok p (names_of hp (by omega))
 rw [hpo] at hu;cases hu
 have P:=hP rfl
 have hk:=kindRule p r h
 have hz:=rule_zero p r h
 obtain ⟨n0,e0,z0⟩:=RuleName_ok r.Kind
 have rng:∀{n:Nat}{z:Int},n≤1000→inR z 0 (W ((n:Int) - 1))=true→0≤z∧z<n:=fun {n z} hn hz=>by
  have hz:=inR_iff.1 hz
  have hw:W ((n:Int) - 1)≤(n:Int) - 1:=W_le (by omega)
  omega
 have name:∀ z,inR z 0 (W ((p.Activities.length:Int) - 1))=true→∃ x,idxL p.Activities z=some x∧RWord p x.Name false z:=fun z hz=>by
  have hz:=rng (by have:=P.nact;omega) hz
  obtain ⟨x,hx,hm⟩:=idxL_some (l:=p.Activities) hz.1 (by omega)
  exact ⟨x,hx,rword_name p hp hpo z hx⟩
 have app2:∀ x y:List ByteArray,x.length≤4→y.length≤4→appL x y=some (x ++ y):=fun x y hx hy=>appL_ok' (by omega)
 have jn:∀ ws:List ByteArray,ws.length≤3→(∀ x∈ws,x.size≤1048576)→s_Join (n0::ws) ⟨#[32]⟩=some (joinB (n0::ws) ⟨#[32]⟩)∧strings_Join (n0::ws) ⟨#[32]⟩=some (joinB (n0::ws) ⟨#[32]⟩):=fun ws hl hw=>
  join_s (n0::ws) ⟨#[32]⟩ (fun x hx=>by
   rcases List.mem_cons.1 hx with e | e
   ·rw [e];omega
   have:=hw x e;omega) (by decide) (by simp;omega)
 have hA:0≤r.A∧r.A≤1000:=by
  rcases hk with k | k | k | k | k | k
  ·have:=rng (by have:=P.nlnk;omega) (F.k1 k);have:=P.nlnk;omega
  ·have:=rng (by have:=P.nact;omega) (F.k2 k);have:=P.nact;omega
  ·have:=rng (by have:=P.nres;omega) (F.k3 k);have:=P.nres;omega
  ·have:=rng (by have:=P.nres;omega) (F.k4 k).1;have:=P.nres;omega
  ·obtain ⟨m,hm,hm2⟩:=s_IsMachine_ok p r.A
   rw [(F.k5 k).1] at hm;cases hm
   obtain ⟨rs,hm3,_⟩:=hm2 rfl
   obtain ⟨g0,g1⟩:=idxL_spec hm3
   obtain ⟨g2,_⟩:=List.getElem?_eq_some_iff.1 g1
   have:=P.nres
   omega
  have:=rng (by have:=P.nstk;omega) (F.k6 (by omega) (by omega) (by omega) (by omega) (by omega));have:=P.nstk;omega
 have ra:=rword_num p r.A (by omega) (by omega)
 have fa:=fmt_str r.A (by omega) (by omega)
 have one:∀{x},RWord p x true r.A→∀ y∈[x],y.size≤1048576:=fun {x} hx y hy=>by
  rw [List.mem_singleton.1 hy];exact hx.size
 by_cases k2:r.Kind=2
 ·have t2:(r.Kind == 2)=true:=by simp [k2]
  obtain ⟨x,hx,hxs⟩:=name r.A (F.k2 k2)
  obtain ⟨j1,j2⟩:=jn [x.Name] (by simp) (by simpa using hxs.size)
  refine ⟨n0,[x.Name],e0,by omega,?_,?_,.inr (.inl ⟨k2,(hz.1 (.inr (.inl k2))).1,(hz.1 (.inr (.inl k2))).2,_,rfl,hxs⟩)⟩
  ·simp only [s_FormatRule,h,e0,fa.1,Option.bind_some,Bool.not_true,cond_false,t2,cond_true,hx]
   simp [idxL,setL,j1]
  simp only [i_FormatRule,RuleOk_eq,RuleName_eq,h,e0,fa.2,Option.bind_some,Bool.not_true,cond_false,t2,cond_true,hx]
  simp [idxL,setL,j2]
 have q2:(r.Kind == 2)=false:=by rw [int_beq];exact decide_eq_false k2
 by_cases k3:r.Kind=3
 ·have t3:(r.Kind == 3)=true:=by simp [k3]
  have hB:=hz.2 k3
  have rb:=rword_num p r.B (by omega) (by omega)
  have fb:=fmt_str r.B (by omega) (by omega)
  obtain ⟨j1,j2⟩:=jn [_,_] (by simp) (by simpa using ⟨ra.size,rb.size⟩)
  refine ⟨n0,[_,_],e0,by omega,?_,?_,.inr (.inr (.inl ⟨k3,hB.1,_,_,rfl,ra,rb⟩))⟩
  ·simp only [s_FormatRule,h,e0,fa.1,fb.1,q2,t3,Option.bind_some,Bool.not_true,cond_false,cond_true]
   rw [app2 _ _ (by simp) (by simp)];simp [j1]
  simp only [i_FormatRule,RuleOk_eq,RuleName_eq,h,e0,fa.2,fb.2,q2,t3,Option.bind_some,Bool.not_true,cond_false,cond_true]
  rw [app2 _ _ (by simp) (by simp)];simp [j2]
 have q3:(r.Kind == 3)=false:=by rw [int_beq];exact decide_eq_false k3
 by_cases k4:r.Kind=4
 ·have t4:(r.Kind == 4)=true:=by simp [k4]
  have hB:=inR_iff.1 (F.k4 k4).2.1
  have hC:=inR_iff.1 (F.k4 k4).2.2.1
  have rb:=rword_num p r.B (by omega) (by omega)
  have fb:=fmt_str r.B (by omega) (by omega)
  have rc:=rword_num p r.C (by omega) (by omega)
  have fc:=fmt_str r.C (by omega) (by omega)
  obtain ⟨j1,j2⟩:=jn [_,_,_] (by simp) (by simpa using ⟨ra.size,rb.size,rc.size⟩)
  refine ⟨n0,[_,_,_],e0,by omega,?_,?_,.inr (.inr (.inr (.inl ⟨k4,_,_,_,rfl,ra,rb,rc⟩)))⟩
  ·simp only [s_FormatRule,h,e0,fa.1,fb.1,fc.1,q2,q3,t4,Option.bind_some,Bool.not_true,cond_false,cond_true]
   rw [app2 _ _ (by simp) (by simp)];simp [j1]
  simp only [i_FormatRule,RuleOk_eq,RuleName_eq,h,e0,fa.2,fb.2,fc.2,q2,q3,t4,Option.bind_some,Bool.not_true,cond_false,cond_true]
  rw [app2 _ _ (by simp) (by simp)];simp [j2]
 have q4:(r.Kind == 4)=false:=by rw [int_beq];exact decide_eq_false k4
 by_cases k5:r.Kind=5
 ·have t5:(r.Kind == 5)=true:=by simp [k5]
  obtain ⟨_,hB,hC,_⟩:=F.k5 k5
  obtain ⟨x,hx,hxs⟩:=name r.B hB
  obtain ⟨y,hy,hys⟩:=name r.C hC
  obtain ⟨j1,j2⟩:=jn [_,x.Name,y.Name] (by simp) (by simpa using ⟨ra.size,hxs.size,hys.size⟩)
  refine ⟨n0,[_,x.Name,y.Name],e0,by omega,?_,?_,.inr (.inr (.inr (.inr ⟨k5,_,_,_,rfl,ra,hxs,hys⟩)))⟩
  ·simp only [s_FormatRule,h,e0,fa.1,hx,hy,q2,q3,q4,t5,Option.bind_some,Bool.not_true,cond_false,cond_true]
   rw [app2 _ _ (by simp) (by simp)];simp [j1]
  simp only [i_FormatRule,RuleOk_eq,RuleName_eq,h,e0,fa.2,hx,hy,q2,q3,q4,t5,Option.bind_some,Bool.not_true,cond_false,cond_true]
  rw [app2 _ _ (by simp) (by simp)];simp [j2]
 have q5:(r.Kind == 5)=false:=by rw [int_beq];exact decide_eq_false k5
 have k16:r.Kind=1∨r.Kind=6:=by omega
 have hz1:=hz.1 (by omega)
 obtain ⟨j1,j2⟩:=jn [_] (by simp) (by simpa using ra.size)
 refine ⟨n0,[_],e0,by omega,?_,?_,.inl ⟨k16,hz1.1,hz1.2,_,rfl,ra⟩⟩
 ·simp only [s_FormatRule,h,e0,fa.1,q2,q3,q4,q5,Option.bind_some,Bool.not_true,cond_false]
  simp [j1]
 simp only [i_FormatRule,RuleOk_eq,RuleName_eq,h,e0,fa.2,q2,q3,q4,q5,Option.bind_some,Bool.not_true,cond_false]
 simp [j2]
theorem six {k:Int}(h:1≤k∧k≤6):k=1∨k=2∨k=3∨k=4∨k=5∨k=6:=by omega
theorem rnm_eq {k:Int}(h:1≤k∧k≤6):s_RuleName k=some (rnm k)∧i_RuleName k=some (rnm k):=by
 rw [RuleName_eq]
 simp only [s_RuleName,s_l01In_eq,Option.bind_some]
 rw [show inR k 0 6=true from inR_iff.2 (by omega)]
 simp only [Bool.not_true,cond_false]
 rcases six h with rfl | rfl | rfl | rfl | rfl | rfl <;> exact ⟨rfl,rfl⟩
theorem rnm_hd {k:Int}(h:1≤k∧k≤6):∃ r,sl (rnm k)=(if k=1 then 108 else if k=2 then 101 else if k=3 then 116 else if k=4 then 119 else if k=5 then 112 else 115)::r:=by
 rcases six h with rfl | rfl | rfl | rfl | rfl | rfl
 ·exact ⟨[105,110,107],rfl⟩
 ·exact ⟨[110,100],rfl⟩
 ·exact ⟨[105,109,101],rfl⟩
 ·exact ⟨[111,114,107],rfl⟩
 ·exact ⟨[97,105,114],rfl⟩
 exact ⟨[116,111,99,107],rfl⟩
theorem rnm_inj {k j:Int}(h:1≤k∧k≤6)(h':1≤j∧j≤6)(e:rnm k=rnm j):k=j:=by
 obtain ⟨r,hr⟩:=rnm_hd h
 obtain ⟨r',hr'⟩:=rnm_hd h'
 rw [e,hr'] at hr
 have:=(List.cons.inj hr).1
 clear hr hr' e
 rcases six h with rfl | rfl | rfl | rfl | rfl | rfl <;> rcases six h' with rfl | rfl | rfl | rfl | rfl | rfl <;> first | rfl | exact absurd this (by decide)
theorem rnm_chars {k:Int}(h:1≤k∧k≤6):(rnm k).size≤5∧∀ c∈sl (rnm k),c≠32∧c≠44:=by
 rcases six h with rfl | rfl | rfl | rfl | rfl | rfl <;> exact ⟨by decide,by decide⟩
theorem rule_text2 (p:TProject)(r:TRule)(hp:bTProject 1048576 p)(h:s_RuleOk p r=some true):∃ ws,(1≤r.Kind∧r.Kind≤6)∧s_FormatRule p r=some (joinB (rnm r.Kind::ws) ⟨#[32]⟩)∧i_FormatRule p r=some (joinB (rnm r.Kind::ws) ⟨#[32]⟩)∧RShape p r ws∧(∀ x∈rnm r.Kind::ws,x.size≤1048576∧∀ c∈sl x,c≠32∧c≠44)∧ws.length≤3:=by
 obtain ⟨n0,ws,e0,hk,h1,h2,hs⟩:=rule_shape p r hp h
 rw [(rnm_eq hk).1] at e0
 cases e0
 have hc:=rnm_chars hk
 have hw:(∀ x∈ws,x.size≤1048576∧∀ c∈sl x,c≠32∧c≠44)∧ws.length≤3:=by
  rcases hs with ⟨_,_,_,x,rfl,a⟩ | ⟨_,_,_,x,rfl,a⟩ | ⟨_,_,x,y,rfl,a,b⟩ | ⟨_,x,y,z,rfl,a,b,c⟩ | ⟨_,x,y,z,rfl,a,b,c⟩
  ·exact ⟨fun q hq=>by
    have e:=List.mem_singleton.1 hq
    rw [e];exact ⟨a.size,a.chars⟩,by simp⟩
  ·exact ⟨fun q hq=>by
    have e:=List.mem_singleton.1 hq
    rw [e];exact ⟨a.size,a.chars⟩,by simp⟩
  ·exact ⟨fun q hq=>by
    rcases List.mem_cons.1 hq with e | hq
    ·rw [e];exact ⟨a.size,a.chars⟩
    rw [List.mem_singleton.1 hq];exact ⟨b.size,b.chars⟩,by simp⟩
  ·exact ⟨fun q hq=>by
    rcases List.mem_cons.1 hq with e | hq
    ·rw [e];exact ⟨a.size,a.chars⟩
    rcases List.mem_cons.1 hq with e | hq
    ·rw [e];exact ⟨b.size,b.chars⟩
    rw [List.mem_singleton.1 hq];exact ⟨c.size,c.chars⟩,by simp⟩
  ·exact ⟨fun q hq=>by
    rcases List.mem_cons.1 hq with e | hq
    ·rw [e];exact ⟨a.size,a.chars⟩
    rcases List.mem_cons.1 hq with e | hq
    ·rw [e];exact ⟨b.size,b.chars⟩
    rw [List.mem_singleton.1 hq];exact ⟨c.size,c.chars⟩,by simp⟩
 refine ⟨ws,hk,h1,h2,hs,fun x hx=>?_,hw.2⟩
 rcases List.mem_cons.1 hx with e | e
 ·rw [e];exact ⟨by omega,hc.2⟩
 exact hw.1 x e
theorem join_chars (c d:UInt8):∀(ys:List ByteArray),(∀ y∈ys,d∉sl y)→d≠c→d∉Lib.joinTail [c] (ys.map sl)
 | [],_,_=>by simp [Lib.joinTail]
 | y::ys,h,hd=>by
  have ih:=join_chars c d ys (fun z hz=>h z (List.mem_cons_of_mem _ hz)) hd
  have hy:=h y (List.mem_cons_self ..)
  have e:Lib.joinTail [c] ((y::ys).map sl)=c::(sl y ++ Lib.joinTail [c] (ys.map sl)):=by simp [Lib.joinTail]
  rw [e]
  intro hm
  rcases List.mem_cons.1 hm with e | hm
  ·exact hd e
  rcases List.mem_append.1 hm with hm | hm
  ·exact hy hm
  exact ih hm
theorem line_shape (p:TProject)(l:TLine)(hp:bTProject 1048576 p){s:ByteArray}(h:s_FormatLine p l=some s)(hs:s≠ByteArray.empty) :
  s_ClauseOk p l.Clause=some true∧s_ProjectOk p=some true∧∃ ct,s_FormatClause p l.Clause=some ct ∧
   ((l.Kind=2∧l.Rule=⟨0,0,0,0⟩∧sl s=[117,110,105,116,32,124,32] ++ sl ct) ∨
   (l.Kind=1∧s_RuleOk p l.Rule=some false∧sl s=[114,117,108,101,32] ++ ([110,111,110,101] ++ ([32,124,32] ++ sl ct))) ∨
   (l.Kind=1∧s_RuleOk p l.Rule=some true∧∃ rt u,s_FormatRule p l.Rule=some rt∧sl u=(sl rt).map (fun x=>if x=32 then 44 else x)∧sl s=[114,117,108,101,32] ++ (sl u ++ ([32,124,32] ++ sl ct)))):=by
 obtain ⟨v,hv,hv2⟩:=LineOk_ok p l hp
 obtain ⟨u,hu,_⟩:=s_ProjectOk_ok p (names_of hp (by omega))
 simp only [s_FormatLine,hv,hu,Option.bind_some] at h
 cases v with
 | false=>cases u <;> exact absurd (Option.some.inj h).symm hs
 | true=>
  cases u with
  | false=>exact absurd (Option.some.inj h).symm hs
  | true=>
   have hk:=hv2 rfl
   obtain ⟨q,hq,_⟩:=s_ClauseOk_ok p (names_of hp (by omega)) l.Clause
   have hq1:q=true∧(l.Kind=2→l.Rule=⟨0,0,0,0⟩):=by
    simp only [s_LineOk,hq,Option.bind_some] at hv
    cases q with
    | false=>cases hv
    | true=>
     refine ⟨rfl,fun k2=>?_⟩
     simp only [k2,cond_true,show ((2:Int) == 1)=false from rfl,cond_false,beq_self_eq_true,Option.bind_some] at hv
     have:=Option.some.inj hv
     simp at this
     cases hr:l.Rule
     rw [hr] at this
     simp only at this
     rw [this.1,this.2.1,this.2.2.1,this.2.2.2]
   obtain ⟨hqt,hz⟩:=hq1
   subst hqt
   obtain ⟨c,c1,c2,c3⟩:=clause_sz p l.Clause hp
   refine ⟨hq,hu,c,c1,?_⟩
   simp only [Bool.not_true,cond_false,Option.bind_some,c1] at h
   by_cases k2:l.Kind=2
   ·have hs7:(⟨#[117,110,105,116,32,124,32]⟩:ByteArray).size=7:=rfl
    rw [k2,beq_self_eq_true,cond_true,catS_ok (by omega),Option.bind_some] at h
    exact .inl ⟨k2,hz k2,by rw [← Option.some.inj h];show (_ ++ _:ByteArray).data.toList=_;rw [ba_list]⟩
   have q2:(l.Kind == 2)=false:=by rw [int_beq];exact decide_eq_false k2
   have k1:l.Kind=1:=by omega
   rw [q2,cond_false] at h
   obtain ⟨w,hw,_⟩:=s_RuleOk_ok p (names_of hp (by omega)) l.Rule
   have s1:(⟨#[114,117,108,101,32]⟩:ByteArray).size=5:=rfl
   have s2:(⟨#[32,124,32]⟩:ByteArray).size=3:=rfl
   have fin:∀ t:ByteArray,t.size≤620000000→((catS (⟨#[114,117,108,101,32]⟩:ByteArray) t).bind fun v19=>(catS v19 (⟨#[32,124,32]⟩:ByteArray)).bind fun v20=>(catS v20 c).bind fun v21=>some v21)=some s→sl s=[114,117,108,101,32] ++ (sl t ++ ([32,124,32] ++ sl c)):=fun t ht e=>by
    have z1:=cat_sz (⟨#[114,117,108,101,32]⟩:ByteArray) t
    have z2:=cat_sz ((⟨#[114,117,108,101,32]⟩:ByteArray) ++ t) (⟨#[32,124,32]⟩:ByteArray)
    have z3:=cat_sz ((⟨#[114,117,108,101,32]⟩:ByteArray) ++ t ++ (⟨#[32,124,32]⟩:ByteArray)) c
    rw [catS_ok (by omega),Option.bind_some,catS_ok (by omega),Option.bind_some,catS_ok (by omega),Option.bind_some] at e
    rw [← Option.some.inj e]
    show (_:ByteArray).data.toList=_
    rw [ba_list,ba_list,ba_list]
    simp
   cases w with
   | true=>
    obtain ⟨t,t1,t2,t3,t4⟩:=rule_text p l.Rule hp hw
    obtain ⟨x,x1,x2,x3⟩:=swapG t (by omega) 32 44 (by decide)
    have qe:(t == ByteArray.empty)=false:=ba_beq_ne t3
    obtain ⟨x',x1',x2',x3'⟩:=swap_eq t (by omega)
    have hxe:x'=x:=by
     rw [show s_l21Swap t ((32:UInt8).toNat:Int) ((44:UInt8).toNat:Int)=s_l21Swap t 32 44 from rfl,x1'] at x1
     exact Option.some.inj x1
    rw [t1,Option.bind_some,qe,cond_false,Option.bind_some,x1',Option.bind_some] at h
    have:=fin x' (by omega) h
    exact .inr (.inr ⟨k1,hw,t,x',t1,by rw [hxe];exact x3,this⟩)
   | false=>
    have e1:s_FormatRule p l.Rule=some ByteArray.empty:=by simp only [s_FormatRule,hw,Option.bind_some,Bool.not_false,cond_true]
    have e2:s_RuleName 0=some ⟨#[110,111,110,101]⟩:=rfl
    obtain ⟨x,x1,x2,x3⟩:=swapG ⟨#[110,111,110,101]⟩ (by decide) 32 44 (by decide)
    rw [e1,Option.bind_some,show (ByteArray.empty == ByteArray.empty)=true by rw [ba_beq];rfl,cond_true,e2,Option.bind_some,Option.bind_some] at h
    rw [show s_l21Swap ⟨#[110,111,110,101]⟩ ((32:UInt8).toNat:Int) ((44:UInt8).toNat:Int)=s_l21Swap ⟨#[110,111,110,101]⟩ 32 44 from rfl] at x1
    rw [x1,Option.bind_some] at h
    have x4:sl x=[110,111,110,101]:=by rw [x3];rfl
    have hxz:x.size≤620000000:=by
     rw [ba_size,show x.data.toList=sl x from rfl,x4];decide
    have:=fin x hxz h
    rw [x4] at this
    exact .inr (.inl ⟨k1,hw,this⟩)
theorem cut_unit (s ct:ByteArray)(hs:s.size≤1048576)(h:sl s=[117,110,105,116,32,124,32] ++ sl ct):∃ a,cutL s ⟨#[32,124,32]⟩=some (a,ct,true)∧sl a=[117,110,105,116]:=by
 have e:sl s=[117,110,105,116] ++ (32::124::32::sl ct):=h
 obtain ⟨a,b,h1,h2,h3⟩:=cut_at s (by omega) _ _ e (by rw [e];exact ix_free (sl ct) [117,110,105,116] (by decide))
 exact ⟨a,by rw [h1,show b=ct from ba_ext h3],h2⟩
theorem cut_rule (s ct u:ByteArray)(hs:s.size≤1048576)(h:sl s=[114,117,108,101,32] ++ (sl u ++ ([32,124,32] ++ sl ct)))(hu:32∉sl u){c:UInt8}{r:List UInt8}(hc:sl u=c::r)(h124:c≠124):∃ a,cutL s ⟨#[32,124,32]⟩=some (a,ct,true)∧sl a=[114,117,108,101,32] ++ sl u:=by
 have e:sl s=([114,117,108,101,32] ++ sl u) ++ (32::124::32::sl ct):=by rw [h,List.append_assoc];rfl
 have hx:Lib.index (sl s) [32,124,32]=(([114,117,108,101,32] ++ sl u).length:Int):=by
  rw [e,List.append_assoc]
  have h0:=ix_free (sl ct) (sl u) hu
  have hl:([114,117,108,101,32] ++ sl u).length=(sl u).length+1+1+1+1+1:=by simp
  rw [hl]
  refine ix_step _ _ _ (by simp [List.isPrefixOf]) (ix_step _ _ _ (by simp [List.isPrefixOf]) (ix_step _ _ _ (by simp [List.isPrefixOf]) (ix_step _ _ _ (by simp [List.isPrefixOf]) (ix_step _ _ _ ?_ h0))))
  rw [hc]
  simp [List.isPrefixOf,Ne.symm h124]
 obtain ⟨a,b,h1,h2,h3⟩:=cut_at s (by omega) _ _ e hx
 exact ⟨a,by rw [h1,show b=ct from ba_ext h3],h2⟩
theorem split_unit (s c0:ByteArray)(cs:List ByteArray)(hs:s.size≤1048576)(h:sl s=[117,110,105,116,32,124,32] ++ sl (joinB (c0::cs) ⟨#[32]⟩))(hf:∀ x∈c0::cs,32∉sl x):s_SplitAny s ⟨#[32]⟩=some (⟨#[117,110,105,116]⟩::⟨#[124]⟩::c0::cs):=by
 have e:s=joinB (⟨#[117,110,105,116]⟩::⟨#[124]⟩::c0::cs) ⟨#[32]⟩:=by
  apply ba_ext
  show sl s=sl _
  rw [h,joinB_list,joinB_list,List.map_cons,Lib.join_cons,List.map_cons,Lib.join_cons,List.map_cons,List.map_cons]
  simp [Lib.joinTail,sl]
 have hsz:(joinB (⟨#[117,110,105,116]⟩::⟨#[124]⟩::c0::cs) ⟨#[32]⟩).size≤3000000:=by rw [← e];omega
 rw [e]
 refine (split_join 32 _ _ (fun x hx=>?_) hsz).1
 rcases List.mem_cons.1 hx with rfl | hx
 ·decide
 rcases List.mem_cons.1 hx with rfl | hx
 ·decide
 exact hf x hx
theorem split_rule (s u c0:ByteArray)(cs:List ByteArray)(hs:s.size≤1048576)(h:sl s=[114,117,108,101,32] ++ (sl u ++ ([32,124,32] ++ sl (joinB (c0::cs) ⟨#[32]⟩))))(hu:32∉sl u)(hf:∀ x∈c0::cs,32∉sl x):s_SplitAny s ⟨#[32]⟩=some (⟨#[114,117,108,101]⟩::u::⟨#[124]⟩::c0::cs):=by
 have e:s=joinB (⟨#[114,117,108,101]⟩::u::⟨#[124]⟩::c0::cs) ⟨#[32]⟩:=by
  apply ba_ext
  show sl s=sl _
  rw [h,joinB_list,joinB_list,List.map_cons,Lib.join_cons,List.map_cons,Lib.join_cons,List.map_cons,List.map_cons,List.map_cons]
  simp [Lib.joinTail,sl]
 have hsz:(joinB (⟨#[114,117,108,101]⟩::u::⟨#[124]⟩::c0::cs) ⟨#[32]⟩).size≤3000000:=by rw [← e];omega
 rw [e]
 refine (split_join 32 _ _ (fun x hx=>?_) hsz).1
 rcases List.mem_cons.1 hx with rfl | hx
 ·decide
 rcases List.mem_cons.1 hx with rfl | hx
 ·exact hu
 rcases List.mem_cons.1 hx with rfl | hx
 ·decide
 exact hf x hx
theorem swap_mem {l:List UInt8}:32∉l.map (fun x=>if x=32 then (44:UInt8) else x):=by
 intro h
 obtain ⟨x,_,hx⟩:=List.mem_map.1 h
 by_cases e:x=32
 ·rw [if_pos e] at hx;exact absurd hx (by decide)
 rw [if_neg e] at hx;exact e hx
theorem swap_back {l:List UInt8}(h:44∉l):(l.map (fun x=>if x=32 then (44:UInt8) else x)).map (fun x=>if x=44 then (32:UInt8) else x)=l:=by
 rw [List.map_map]
 have:∀ x∈l,((fun x=>if x=44 then (32:UInt8) else x) ∘ (fun x=>if x=32 then (44:UInt8) else x)) x=id x:=fun x hx=>by
  simp only [Function.comp,id]
  by_cases e:x=32
  ·rw [if_pos e,if_pos rfl,e]
  rw [if_neg e,if_neg (fun e2=>h (by rw [← e2];exact hx))]
 rw [List.map_congr_left this,List.map_id]
theorem joined_free (w:ByteArray)(ws:List ByteArray)(h:∀ x∈w::ws,44∉sl x):44∉sl (joinB (w::ws) ⟨#[32]⟩):=by
 rw [joinB_list,List.map_cons,Lib.join_cons]
 intro hm
 rcases List.mem_append.1 hm with hm | hm
 ·exact h w (List.mem_cons_self ..) hm
 exact join_chars 32 44 ws (fun y hy=>h y (List.mem_cons_of_mem _ hy)) (by decide) hm
theorem rule_swapped (p:TProject)(r:TRule)(hp:bTProject 1048576 p)(h:s_RuleOk p r=some true){rt u:ByteArray}(h1:s_FormatRule p r=some rt)(hu:sl u=(sl rt).map (fun x=>if x=32 then 44 else x))(hsz:u.size≤1048576) :
  32∉sl u∧(∃ c t,sl u=c::t∧c≠124∧c≠110)∧s_l21Swap u 44 32=some rt∧strings_ReplaceAll u ⟨#[44]⟩ ⟨#[32]⟩=some rt∧rt.size=u.size:=by
 obtain ⟨ws,hk,h2,h3,_,hc,_⟩:=rule_text2 p r hp h
 rw [h1] at h2
 have hrt:=Option.some.inj h2
 have h44:44∉sl rt:=by
  rw [hrt]
  exact joined_free _ _ (fun x hx hm=>((hc x hx).2 44 hm).2 rfl)
 have hsize:rt.size=u.size:=by
  rw [ba_size,ba_size u,show u.data.toList=sl u from rfl,hu];simp
 obtain ⟨x,x1,x2,x3⟩:=swapG u (by omega) 44 32 (by decide)
 have hx:x=rt:=by
  apply ba_ext
  show sl x=sl rt
  rw [x3,hu,swap_back h44]
 rw [hx] at x1 x2
 refine ⟨by rw [hu];exact swap_mem,?_,x1,x2,hsize⟩
 obtain ⟨t,ht⟩:=rnm_hd hk
 have e:sl rt=sl (rnm r.Kind) ++ Lib.joinTail [32] (ws.map sl):=by rw [hrt,joinB_list,List.map_cons,Lib.join_cons]
 rw [hu,e,ht]
 rcases six hk with k | k | k | k | k | k <;> rw [k] <;> exact ⟨_,_,rfl,by decide,by decide⟩
theorem fr_any (p:TProject)(r:TRule)(hp:bTProject 1048576 p):∃ t,s_FormatRule p r=some t∧i_FormatRule p r=some t∧(t≠ByteArray.empty→s_RuleOk p r=some true):=by
 obtain ⟨w,hw,_⟩:=s_RuleOk_ok p (names_of hp (by omega)) r
 cases w with
 | true=>
  obtain ⟨t,t1,t2,_⟩:=rule_text p r hp hw
  exact ⟨t,t1,t2,fun _=>hw⟩
 | false=>
  refine ⟨ByteArray.empty,?_,?_,fun h=>absurd rfl h⟩
  ·simp only [s_FormatRule,hw,Option.bind_some,Bool.not_false,cond_true]
  simp only [i_FormatRule,RuleOk_eq,hw,Option.bind_some,Bool.not_false,cond_true]
theorem pk_s (V:List ByteArray)(w:ByteArray)(hV:idxL V 0=some w):∀(fuel:Nat)(k a:Int),1≤k→k≤7→(7 - k).toNat<fuel→∃ r,s_ParseRule_L1 V fuel k a=some r∧(∀ j,1≤j∧j≤6→w=rnm j→r=if k≤j then j else a)
 | 0,k,a,_,_,h=>absurd h (Nat.not_lt_zero _)
 | fuel+1,k,a,h1,h7,hf=>by
  rw [s_ParseRule_L1]
  by_cases h:k≤6
  ·have hk:=rnm_eq ⟨h1,h⟩
   rw [decide_eq_true h,cond_true,hk.1,Option.bind_some,hV,Option.bind_some,W_of ⟨by omega,by omega⟩]
   by_cases e:rnm k=w
   ·have hb:(rnm k == w)=true:=by rw [ba_beq];exact decide_eq_true e
    rw [hb,cond_true]
    obtain ⟨r,r1,r2⟩:=pk_s V w hV fuel (k+1) k (by omega) (by omega) (by omega)
    refine ⟨r,r1,fun j hj hw=>?_⟩
    have hjk:=rnm_inj ⟨h1,h⟩ hj (e.trans hw)
    rw [r2 j hj hw,if_neg (by omega),if_pos (by omega),hjk]
   rw [ba_beq_ne e,cond_false]
   obtain ⟨r,r1,r2⟩:=pk_s V w hV fuel (k+1) a (by omega) (by omega) (by omega)
   refine ⟨r,r1,fun j hj hw=>?_⟩
   have hjk:k≠j:=fun q=>e (by rw [q,hw])
   rw [r2 j hj hw]
   by_cases hle:k≤j
   ·rw [if_pos hle,if_pos (by omega)]
   rw [if_neg hle,if_neg (by omega)]
  rw [decide_eq_false h,cond_false]
  exact ⟨a,rfl,fun j hj _=>by rw [if_neg (by omega)]⟩
theorem pk_i (V:List ByteArray)(w:ByteArray)(hV:idxL V 0=some w):∀(fuel:Nat)(k a:Int),1≤k→k≤7→(7 - k).toNat<fuel→∃ r,i_ParseRule_L1 V fuel k a=some r∧(∀ j,1≤j∧j≤6→w=rnm j→r=if k≤j then j else a)
 | 0,k,a,_,_,h=>absurd h (Nat.not_lt_zero _)
 | fuel+1,k,a,h1,h7,hf=>by
  rw [i_ParseRule_L1]
  by_cases h:k≤6
  ·have hk:=rnm_eq ⟨h1,h⟩
   rw [decide_eq_true h,cond_true,hk.2,Option.bind_some,hV,Option.bind_some,W_of ⟨by omega,by omega⟩]
   by_cases e:rnm k=w
   ·have hb:(rnm k == w)=true:=by rw [ba_beq];exact decide_eq_true e
    rw [hb,cond_true]
    obtain ⟨r,r1,r2⟩:=pk_i V w hV fuel (k+1) k (by omega) (by omega) (by omega)
    refine ⟨r,r1,fun j hj hw=>?_⟩
    have hjk:=rnm_inj ⟨h1,h⟩ hj (e.trans hw)
    rw [r2 j hj hw,if_neg (by omega),if_pos (by omega),hjk]
   rw [ba_beq_ne e,cond_false]
   obtain ⟨r,r1,r2⟩:=pk_i V w hV fuel (k+1) a (by omega) (by omega) (by omega)
   refine ⟨r,r1,fun j hj hw=>?_⟩
   have hjk:k≠j:=fun q=>e (by rw [q,hw])
   rw [r2 j hj hw]
   by_cases hle:k≤j
   ·rw [if_pos hle,if_pos (by omega)]
   rw [if_neg hle,if_neg (by omega)]
  rw [decide_eq_false h,cond_false]
  exact ⟨a,rfl,fun j hj _=>by rw [if_neg (by omega)]⟩
theorem pint_any (s:ByteArray)(hs:s.size≤3000000):∃ r,s_ParseInt s=some r∧i_ParseInt s=some r:=by
 obtain ⟨r,r1,r2,_⟩:=pint_eq s hs
 exact ⟨r,r1,r2⟩
theorem rw_num {p:TProject}{w:ByteArray}{v:Int}(h:RWord p w true v):s_ParseInt w=some (v,true)∧i_ParseInt w=some (v,true):=by
 obtain ⟨r,r1,r2,r3,_⟩:=pint_eq w (by have:=h.size;omega)
 rw [r3 v (h.isnum rfl)] at r1 r2
 exact ⟨r1,r2⟩
theorem rw_name {p:TProject}{w:ByteArray}{v:Int}(h:RWord p w false v):s_ParseInt w=some (0,false)∧i_ParseInt w=some (0,false)∧s_ActivityIndex p w=some v:=by
 obtain ⟨r,r1,r2,_,r4⟩:=pint_eq w (by have:=h.size;omega)
 rw [r4 (h.isname rfl).1] at r1 r2
 exact ⟨r1,r2,(h.isname rfl).2⟩
theorem mid_s (p:TProject)(V:List ByteArray)(k:Int){x1 x2 x3:ByteArray}{a1:Int×Bool}(h2:idxL V 2=some x2)(h3:idxL V 3=some x3)(ha:s_ParseInt x1=some a1)(z2:x2.size≤3000000)(z3:x3.size≤3000000) :
  ∃ q:Int×Int×Int,(bif (k == 2) then
   (s_ActivityIndex p x1).bind fun v24=>
   some (v24,0,0)
   else
   Option.bind
   ((bif (k == 3) then
   some (k == 3)
   else
   some (k == 4))) fun p30=>
   (bif p30 then
   (idxL V 2).bind fun v32=>
   (s_ParseInt v32).bind fun v33=>
   (bif (k == 4) then
   (idxL V 3).bind fun v35=>
   (s_ParseInt v35).bind fun v36=>
   some (a1.1,v33.1,v36.1)
   else
   some (a1.1,v33.1,0))
   else
   (bif (k == 5) then
   (idxL V 2).bind fun v38=>
   (s_ActivityIndex p v38).bind fun v39=>
   (idxL V 3).bind fun v40=>
   (s_ActivityIndex p v40).bind fun v41=>
   some (a1.1,v39,v41)
   else
   some (a1.1,0,0))))=some q∧∀ r ws tl,RShape p r ws→k=r.Kind→[x1,x2,x3]=ws ++ tl→q=(r.A,r.B,r.C):=by
 obtain ⟨a2,ha2,_⟩:=pint_any x2 z2
 obtain ⟨a3,ha3,_⟩:=pint_any x3 z3
 obtain ⟨n1,hn1⟩:=s_ActivityIndex_ok p x1
 obtain ⟨n2,hn2⟩:=s_ActivityIndex_ok p x2
 obtain ⟨n3,hn3⟩:=s_ActivityIndex_ok p x3
 have num:∀{x:ByteArray}{a:Int×Bool}{v:Int},s_ParseInt x=some a→RWord p x true v→a.1=v:=fun {x a v} e h=>by
  rw [(rw_num h).1] at e;cases e;rfl
 have nam:∀{x:ByteArray}{a v:Int},s_ActivityIndex p x=some a→RWord p x false v→a=v:=fun {x a v} e h=>by
  rw [(rw_name h).2.2] at e;cases e;rfl
 simp only [h2,h3,ha2,ha3,hn1,hn2,hn3,Option.bind_some,int_beq]
 by_cases k2:k=2
 ·refine ⟨(n1,0,0),by rw [decide_eq_true k2,cond_true],fun r ws tl hr hk ht=>?_⟩
  rcases hr with ⟨h,_⟩ | ⟨_,hb,hc,x,rfl,a⟩ | ⟨h,_⟩ | ⟨h,_⟩ | ⟨h,_⟩
  ·omega
  ·have e:x1=x:=(List.cons.inj ht).1
   subst e
   rw [nam hn1 a,hb,hc]
  ·omega
  ·omega
  omega
 rw [decide_eq_false k2,cond_false]
 by_cases k3:k=3
 ·refine ⟨(a1.1,a2.1,0),by simp [k3],fun r ws tl hr hk ht=>?_⟩
  rcases hr with ⟨h,_⟩ | ⟨h,_⟩ | ⟨_,hc,x,y,rfl,a,b⟩ | ⟨h,_⟩ | ⟨h,_⟩
  ·omega
  ·omega
  ·have e:=List.cons.inj ht
   have e2:=List.cons.inj e.2
   rw [num ha (e.1 ▸ a),num ha2 (e2.1 ▸ b),hc]
  ·omega
  omega
 by_cases k4:k=4
 ·refine ⟨(a1.1,a2.1,a3.1),by simp [k4],fun r ws tl hr hk ht=>?_⟩
  rcases hr with ⟨h,_⟩ | ⟨h,_⟩ | ⟨h,_⟩ | ⟨_,x,y,z,rfl,a,b,c⟩ | ⟨h,_⟩
  ·omega
  ·omega
  ·omega
  ·have e:=List.cons.inj ht
   have e2:=List.cons.inj e.2
   have e3:=List.cons.inj e2.2
   rw [num ha (e.1 ▸ a),num ha2 (e2.1 ▸ b),num ha3 (e3.1 ▸ c)]
  omega
 by_cases k5:k=5
 ·refine ⟨(a1.1,n2,n3),by simp [k5],fun r ws tl hr hk ht=>?_⟩
  rcases hr with ⟨h,_⟩ | ⟨h,_⟩ | ⟨h,_⟩ | ⟨h,_⟩ | ⟨_,x,y,z,rfl,a,b,c⟩
  ·omega
  ·omega
  ·omega
  ·omega
  have e:=List.cons.inj ht
  have e2:=List.cons.inj e.2
  have e3:=List.cons.inj e2.2
  rw [num ha (e.1 ▸ a),nam hn2 (e2.1 ▸ b),nam hn3 (e3.1 ▸ c)]
 refine ⟨(a1.1,0,0),by simp [k3,k4,k5],fun r ws tl hr hk ht=>?_⟩
 rcases hr with ⟨_,hb,hc,x,rfl,a⟩ | ⟨h,_⟩ | ⟨h,_⟩ | ⟨h,_⟩ | ⟨h,_⟩
 ·have e:=List.cons.inj ht
  rw [num ha (e.1 ▸ a),hb,hc]
 ·omega
 ·omega
 ·omega
 omega
theorem l2_tot (p:TProject):∀(xs:List ByteArray)(z a b c:Int),0≤z→(∀ x∈xs,x.size≤3000000)→∃ r,i_ParseRule_L2 p xs z a b c=some r∧(∀ q,r=.inr q→q=(⟨0,0,0,0⟩,false))
 | [],z,a,b,c,_,_=>⟨_,rfl,fun q h=>by cases h⟩
 | x::xs,z,a,b,c,hz,hx=>by
  rw [i_ParseRule_L2]
  by_cases h:2<z
  ·rw [decide_eq_true h,cond_true]
   exact ⟨_,rfl,fun q h=>by cases h;rfl⟩
  rw [decide_eq_false h,cond_false]
  obtain ⟨v,_,hv⟩:=pint_any x (hx x (List.mem_cons_self ..))
  obtain ⟨n,hn⟩:=s_ActivityIndex_ok p x
  obtain ⟨y,hy,_⟩:=idxL_some (l:=[a,b,c]) hz (by simp;omega)
  rw [hv,Option.bind_some,ActivityIndex_eq,hn]
  simp only [Option.bind_some,hy]
  cases v.2 with
  | false=>exact l2_tot p xs _ _ _ _ (by omega) (fun w hw=>hx w (List.mem_cons_of_mem _ hw))
  | true=>exact l2_tot p xs _ _ _ _ (by omega) (fun w hw=>hx w (List.mem_cons_of_mem _ hw))
theorem l2_num {p:TProject}{x:ByteArray}{v:Int}(h:RWord p x true v)(xs:List ByteArray)(z a b c:Int)(hz:0≤z∧z≤2):i_ParseRule_L2 p (x::xs) z a b c=i_ParseRule_L2 p xs (z+1) (bif (z == 0) then v else a) (bif (z == 1) then v else b) (bif (z == 2) then v else c):=by
 obtain ⟨y,hy,_⟩:=idxL_some (l:=[a,b,c]) hz.1 (by simp;omega)
 rw [i_ParseRule_L2,decide_eq_false (by omega),cond_false,(rw_num h).2,Option.bind_some]
 simp only [Bool.not_true,cond_false,hy,Option.bind_some]
theorem l2_nam {p:TProject}{x:ByteArray}{v:Int}(h:RWord p x false v)(xs:List ByteArray)(z a b c:Int)(hz:0≤z∧z≤2):i_ParseRule_L2 p (x::xs) z a b c=i_ParseRule_L2 p xs (z+1) (bif (z == 0) then v else a) (bif (z == 1) then v else b) (bif (z == 2) then v else c):=by
 obtain ⟨y,hy,_⟩:=idxL_some (l:=[a,b,c]) hz.1 (by simp;omega)
 rw [i_ParseRule_L2,decide_eq_false (by omega),cond_false,(rw_name h).2.1,Option.bind_some]
 simp only [Bool.not_false,cond_true,ActivityIndex_eq,(rw_name h).2.2,hy,Option.bind_some]
theorem l2_shape {p:TProject}{r:TRule}{ws:List ByteArray}(h:RShape p r ws):i_ParseRule_L2 p ws 0 0 0 0=some (.inl (r.A,r.B,r.C)):=by
 rcases h with ⟨_,hb,hc,x,rfl,a⟩ | ⟨_,hb,hc,x,rfl,a⟩ | ⟨_,hc,x,y,rfl,a,b⟩ | ⟨_,x,y,z,rfl,a,b,c⟩ | ⟨_,x,y,z,rfl,a,b,c⟩
 ·rw [l2_num a _ _ _ _ _ (by omega),i_ParseRule_L2,hb,hc];rfl
 ·rw [l2_nam a _ _ _ _ _ (by omega),i_ParseRule_L2,hb,hc];rfl
 ·rw [l2_num a _ _ _ _ _ (by omega),l2_num b _ _ _ _ _ (by omega),i_ParseRule_L2,hc];rfl
 ·rw [l2_num a _ _ _ _ _ (by omega),l2_num b _ _ _ _ _ (by omega),l2_num c _ _ _ _ _ (by omega),i_ParseRule_L2];rfl
 rw [l2_num a _ _ _ _ _ (by omega),l2_nam b _ _ _ _ _ (by omega),l2_nam c _ _ _ _ _ (by omega),i_ParseRule_L2];rfl
theorem prule_uniq {p:TProject}{s:ByteArray}{v w:TRule×Bool}(h:PRule p s v)(h':PRule p s w):v=w:=by
 rcases h.one with ⟨r,rfl,h1,h2⟩ | hv
 ·exact (h'.all r h1 h2).symm
 rcases h'.one with ⟨r,rfl,h1,h2⟩ | hw
 ·exact h.all r h1 h2
 rw [hv,hw]
theorem rule_split (p:TProject)(r:TRule)(hp:bTProject 1048576 p)(h:s_RuleOk p r=some true){s:ByteArray}(hs:s.size≤3000000)(h1:s_FormatRule p r=some s):∃ ws,(1≤r.Kind∧r.Kind≤6)∧s_SplitAny s ⟨#[32]⟩=some (rnm r.Kind::ws)∧i_SplitAny s ⟨#[32]⟩=some (rnm r.Kind::ws)∧RShape p r ws∧s≠ByteArray.empty:=by
 obtain ⟨ws,hk,h2,h3,hsh,hc,_⟩:=rule_text2 p r hp h
 obtain ⟨t,t1,_,t3,_⟩:=rule_text p r hp h
 rw [h1] at t1 h2
 have e:=Option.some.inj h2
 have e2:=Option.some.inj t1
 rw [← e2] at t3
 have:=split_join 32 (rnm r.Kind) ws (fun x hx hm=>((hc x hx).2 32 hm).1 rfl) (by rw [← e];exact hs)
 rw [← e] at this
 exact ⟨ws,hk,this.1,this.2,hsh,t3⟩
theorem prule_s (p:TProject)(s:ByteArray)(hp:bTProject 1048576 p)(hs:s.size≤3000000):∃ v,s_ParseRule p s=some v∧PRule p s v:=by
 obtain ⟨V,_,v2,v3,v4,v5⟩:=split_eq s ⟨#[32]⟩ hs (by decide)
 cases V with
 | nil=>simp at v5
 | cons w ws=>
  have hap:appL (w::ws) ([ByteArray.empty,ByteArray.empty,ByteArray.empty]:List ByteArray)=some ((w::ws) ++ [ByteArray.empty,ByteArray.empty,ByteArray.empty]):=appL_ok' (by simp at v3 ⊢;omega)
  have hsz:∀ x∈(w::ws) ++ [ByteArray.empty,ByteArray.empty,ByteArray.empty],x.size≤3000000:=fun x hx=>by
   rcases List.mem_append.1 hx with hx | hx
   ·have:=v4 x hx;omega
   have:x=ByteArray.empty:=by simpa using hx
   rw [this];decide
  obtain ⟨x1,i1,m1⟩:=idxL_some (l:=(w::ws) ++ [ByteArray.empty,ByteArray.empty,ByteArray.empty]) (z:=1) (by omega) (by simp;omega)
  obtain ⟨x2,i2,m2⟩:=idxL_some (l:=(w::ws) ++ [ByteArray.empty,ByteArray.empty,ByteArray.empty]) (z:=2) (by omega) (by simp;omega)
  obtain ⟨x3,i3,m3⟩:=idxL_some (l:=(w::ws) ++ [ByteArray.empty,ByteArray.empty,ByteArray.empty]) (z:=3) (by omega) (by simp;omega)
  obtain ⟨k,k1,k2⟩:=pk_s ((w::ws) ++ [ByteArray.empty,ByteArray.empty,ByteArray.empty]) w rfl F0 1 0 (by omega) (by omega) (by have:=F0_gt;omega)
  obtain ⟨a1,ha1,_⟩:=pint_any x1 (hsz x1 m1)
  obtain ⟨q,hq,hq2⟩:=mid_s p ((w::ws) ++ [ByteArray.empty,ByteArray.empty,ByteArray.empty]) k i2 i3 ha1 (hsz x2 m2) (hsz x3 m3)
  obtain ⟨t,t1,_,t3⟩:=fr_any p ⟨k,q.1,q.2.1,q.2.2⟩ hp
  have run:s_ParseRule p s=some (if t≠ByteArray.empty∧t=s then (⟨k,q.1,q.2.1,q.2.2⟩,true) else (⟨0,0,0,0⟩,false)):=by
   unfold s_ParseRule
   rw [v2,Option.bind_some,hap,Option.bind_some,k1,Option.bind_some,i1,Option.bind_some,ha1,Option.bind_some,hq,Option.bind_some,t1,Option.bind_some]
   by_cases he:t=ByteArray.empty
   ·rw [show (t == ByteArray.empty)=true by rw [ba_beq];exact decide_eq_true he,cond_true,Option.bind_some,cond_true,if_neg (by simp [he])]
   rw [ba_beq_ne he,cond_false,Option.bind_some,Option.bind_some,ba_bne]
   by_cases hts:t=s
   ·rw [if_pos ⟨he,hts⟩];simp [hts]
   rw [if_neg (fun h=>hts h.2)];simp [hts]
  refine ⟨_,run,?_,fun r hr hf=>?_⟩
  ·by_cases h:t≠ByteArray.empty∧t=s
   ·rw [if_pos h]
    exact .inl ⟨_,rfl,t3 h.1,by rw [t1,h.2]⟩
   rw [if_neg h]
   exact .inr rfl
  obtain ⟨ws',hk,hsp,_,hsh,hne⟩:=rule_split p r hp hr hs hf
  rw [v2] at hsp
  obtain ⟨hw,hws⟩:=List.cons.inj (Option.some.inj hsp)
  have hkk:k=r.Kind:=by rw [k2 r.Kind hk hw,if_pos hk.1]
  have hle:∃ tl,[x1,x2,x3]=ws' ++ tl:=by
   rw [← hws]
   have j1:idxL (ws ++ [ByteArray.empty,ByteArray.empty,ByteArray.empty]) 0=some x1:=i1
   have j2:idxL (ws ++ [ByteArray.empty,ByteArray.empty,ByteArray.empty]) 1=some x2:=i2
   have j3:idxL (ws ++ [ByteArray.empty,ByteArray.empty,ByteArray.empty]) 2=some x3:=i3
   rw [hws] at j1 j2 j3 ⊢
   rcases hsh with ⟨_,_,_,x,rfl,_⟩ | ⟨_,_,_,x,rfl,_⟩ | ⟨_,_,x,y,rfl,_⟩ | ⟨_,x,y,z,rfl,_⟩ | ⟨_,x,y,z,rfl,_⟩
   ·cases j1;exact ⟨[x2,x3],rfl⟩
   ·cases j1;exact ⟨[x2,x3],rfl⟩
   ·cases j1;cases j2;exact ⟨[x3],rfl⟩
   ·cases j1;cases j2;cases j3;exact ⟨[],rfl⟩
   cases j1;cases j2;cases j3;exact ⟨[],rfl⟩
  obtain ⟨tl,htl⟩:=hle
  have hqr:=hq2 r ws' tl hsh hkk htl
  have hrule:(⟨k,q.1,q.2.1,q.2.2⟩:TRule)=r:=by rw [hqr,hkk]
  rw [hrule] at t1 ⊢
  rw [hf] at t1
  have:=Option.some.inj t1
  rw [if_pos ⟨by rw [← this];exact hne,this.symm⟩]
theorem prule_i (p:TProject)(s:ByteArray)(hp:bTProject 1048576 p)(hs:s.size≤3000000):∃ v,i_ParseRule p s=some v∧PRule p s v:=by
 obtain ⟨V,v1,_,v3,v4,v5⟩:=split_eq s ⟨#[32]⟩ hs (by decide)
 cases V with
 | nil=>simp at v5
 | cons w ws=>
  obtain ⟨k,k1,k2⟩:=pk_i (w::ws) w rfl F0 1 0 (by omega) (by omega) (by have:=F0_gt;omega)
  have hsub:subL (w::ws) 1 ((w::ws).length:Int)=some ws:=by
   rw [show (1:Int)=((1:Nat):Int) from rfl,subL_ok _ 1 _ (by simp) (Nat.le_refl _),List.take_length]
   rfl
  obtain ⟨r2,r21,r22⟩:=l2_tot p ws 0 0 0 0 (by omega) (fun x hx=>by have:=v4 x (List.mem_cons_of_mem _ hx);omega)
  have exact_:∀ r,s_RuleOk p r=some true→s_FormatRule p r=some s→k=r.Kind∧r2=.inl (r.A,r.B,r.C)∧s≠ByteArray.empty:=fun r hr hf=>by
   obtain ⟨ws',hk,_,hsp,hsh,hne⟩:=rule_split p r hp hr hs hf
   rw [v1] at hsp
   obtain ⟨hw,hws⟩:=List.cons.inj (Option.some.inj hsp)
   have:=l2_shape hsh
   rw [← hws,r21] at this
   exact ⟨by rw [k2 r.Kind hk hw,if_pos hk.1],Option.some.inj this,hne⟩
  cases r2 with
  | inr q=>
   have hq:=r22 q rfl
   subst hq
   refine ⟨(⟨0,0,0,0⟩,false),?_,.inr rfl,fun r hr hf=>by have:=(exact_ r hr hf).2.1;cases this⟩
   unfold i_ParseRule
   rw [v1,Option.bind_some,k1,Option.bind_some,hsub,Option.bind_some,r21]
   rfl
  | inl q=>
   obtain ⟨t,_,t2,t3⟩:=fr_any p ⟨k,q.1,q.2.1,q.2.2⟩ hp
   obtain ⟨t',t1',t2',_⟩:=fr_any p ⟨k,q.1,q.2.1,q.2.2⟩ hp
   rw [t2] at t2'
   cases t2'
   have run:i_ParseRule p s=some (if s≠ByteArray.empty∧t=s then (⟨k,q.1,q.2.1,q.2.2⟩,true) else (⟨0,0,0,0⟩,false)):=by
    unfold i_ParseRule
    rw [v1,Option.bind_some,k1,Option.bind_some,hsub,Option.bind_some,r21]
    simp only [sumBind,Option.bind_some,Sum.elim_inl,t2]
    by_cases he:s=ByteArray.empty
    ·rw [show (s == ByteArray.empty)=true by rw [ba_beq];exact decide_eq_true he,cond_true,Option.bind_some,cond_true,if_neg (fun h=>h.1 he)]
    rw [ba_beq_ne he,cond_false,Option.bind_some,ba_bne]
    by_cases hts:t=s
    ·rw [if_pos ⟨he,hts⟩];simp [hts]
    rw [if_neg (fun h=>hts h.2)];simp [hts]
   refine ⟨_,run,?_,fun r hr hf=>?_⟩
   ·by_cases h:s≠ByteArray.empty∧t=s
    ·rw [if_pos h]
     exact .inl ⟨_,rfl,t3 (by rw [h.2];exact h.1),by rw [t1',h.2]⟩
    rw [if_neg h]
    exact .inr rfl
   obtain ⟨hk,hq,hne⟩:=exact_ r hr hf
   cases hq
   have hrule:(⟨k,r.A,r.B,r.C⟩:TRule)=r:=by rw [hk]
   simp only [hrule] at t1' ⊢
   rw [hf] at t1'
   rw [if_pos ⟨hne,(Option.some.inj t1').symm⟩]
theorem prule_eq (p:TProject)(s:ByteArray)(hp:bTProject 1048576 p)(hs:s.size≤3000000):∃ v,s_ParseRule p s=some v∧i_ParseRule p s=some v∧PRule p s v:=by
 obtain ⟨v,h1,h2⟩:=prule_s p s hp hs
 obtain ⟨w,h3,h4⟩:=prule_i p s hp hs
 rw [prule_uniq h4 h2] at h3
 exact ⟨v,h1,h3,h2⟩
theorem tlen_cons (y:ByteArray)(ys:List ByteArray):tlen (y::ys)=1+y.size+tlen ys:=by
 have e:Lib.joinTail [32] ((y::ys).map sl)=32::(sl y ++ Lib.joinTail [32] (ys.map sl)):=by simp [Lib.joinTail]
 have h:y.size=(sl y).length:=ba_size y
 unfold tlen
 rw [e,List.length_cons,List.length_append]
 omega
theorem join_run:∀(ys:List ByteArray)(z:Int)(s:ByteArray),0<z→s.size+tlen ys≤10000000→∃ t,s_Join_L1 ⟨#[32]⟩ ys z s=some t∧t.size=s.size+tlen ys
 | [],z,s,_,_=>⟨s,rfl,rfl⟩
 | y::ys,z,s,hz,h=>by
  rw [tlen_cons] at h ⊢
  have h1:(⟨#[32]⟩:ByteArray).size=1:=rfl
  have z1:=cat_sz s ⟨#[32]⟩
  have z2:=cat_sz (s ++ ⟨#[32]⟩) y
  obtain ⟨t,t1,t2⟩:=join_run ys (z+1) (s ++ ⟨#[32]⟩ ++ y) (by omega) (by omega)
  refine ⟨t,?_,by omega⟩
  rw [s_Join_L1,decide_eq_true hz,cond_true,catS_ok (by omega),Option.bind_some,catS_ok (by omega),Option.bind_some,t1]
theorem join_one (y:ByteArray)(ys:List ByteArray)(h:y.size+tlen ys≤10000000):∃ t,s_Join (y::ys) ⟨#[32]⟩=some t∧t.size=y.size+tlen ys:=by
 have h0:ByteArray.empty.size=0:=rfl
 have z1:=cat_sz ByteArray.empty y
 obtain ⟨t,t1,t2⟩:=join_run ys (0+1) (ByteArray.empty ++ y) (by omega) (by omega)
 refine ⟨t,?_,by omega⟩
 unfold s_Join
 rw [s_Join_L1,show decide ((0:Int)<0)=false from rfl,cond_false,catS_ok (by omega),Option.bind_some,t1,Option.bind_some]
theorem splitP_len (p:UInt8→Bool):∀ l:List UInt8,(splitP p l).1.length+(Lib.joinTail [32] (splitP p l).2).length=l.length
 | []=>rfl
 | c::r=>by
  have ih:=splitP_len p r
  rw [splitP]
  cases p c with
  | true=>
   have e:Lib.joinTail [32] ((splitP p r).1::(splitP p r).2)=32::((splitP p r).1 ++ Lib.joinTail [32] (splitP p r).2):=by simp [Lib.joinTail]
   simp only [if_true,e,List.length_cons,List.length_append,List.length_nil]
   omega
  | false=>
   simp only [Bool.false_eq_true,if_false,List.length_cons]
   omega
theorem tlen_drop:∀(ws:List ByteArray)(k:Nat)(y:ByteArray)(ys:List ByteArray),ws.drop k=y::ys→y.size+tlen ys≤tlen ws
 | [],k,y,ys,h=>by simp at h
 | w::ws,0,y,ys,h=>by
  rw [List.drop_zero] at h
  rw [h,tlen_cons];omega
 | w::ws,k+1,y,ys,h=>by
  rw [List.drop_succ_cons] at h
  have:=tlen_drop ws k y ys h
  rw [tlen_cons];omega
theorem pline_uniq {p:TProject}{s:ByteArray}{v w:TLine×Bool}(h:PLine p s v)(h':PLine p s w):v=w:=by
 rcases h.one with ⟨r,rfl,h1,h2,h3⟩ | hv
 ·exact (h'.all r h1 h2 h3).symm
 rcases h'.one with ⟨r,rfl,h1,h2,h3⟩ | hw
 ·exact h.all r h1 h2 h3
 rw [hv,hw]
theorem none_rule (p:TProject)(hp:bTProject 1048576 p):∃ b,s_ParseRule p ⟨#[110,111,110,101]⟩=some (⟨0,0,0,0⟩,b):=by
 obtain ⟨v,v1,_,h⟩:=prule_eq p ⟨#[110,111,110,101]⟩ hp (by decide)
 rcases h.one with ⟨r,hv,h1,h2⟩ | hv
 ·exfalso
  obtain ⟨ws,hk,h3,_⟩:=rule_text2 p r hp h1
  rw [h2] at h3
  have e:=congrArg sl (Option.some.inj h3)
  rw [joinB_list,List.map_cons,Lib.join_cons] at e
  obtain ⟨t,ht⟩:=rnm_hd hk
  rw [ht,List.cons_append] at e
  have e1:(110:UInt8)=_:=(List.cons.inj e).1
  rcases six hk with k | k | k | k | k | k <;> rw [k] at e1 <;> exact absurd e1 (by decide)
 exact ⟨false,by rw [v1,hv]⟩
theorem line_words (p:TProject)(l:TLine)(hp:bTProject 1048576 p){s:ByteArray}(hs:s.size≤1048576)(h:s_FormatLine p l=some s)(hne:s≠ByteArray.empty)(hc:canon p l) :
  s_ClauseOk p l.Clause=some true∧∃ c0 cs,s_ParseClause p (joinB (c0::cs) ⟨#[32]⟩)=some (l.Clause,true)∧s_Join (c0::cs) ⟨#[32]⟩=some (joinB (c0::cs) ⟨#[32]⟩) ∧
   ((l.Kind=2∧l.Rule=⟨0,0,0,0⟩∧s_SplitAny s ⟨#[32]⟩=some (⟨#[117,110,105,116]⟩::⟨#[124]⟩::c0::cs)∧∃ a,cutL s ⟨#[32,124,32]⟩=some (a,joinB (c0::cs) ⟨#[32]⟩,true)∧sl a=[117,110,105,116]) ∨
   (l.Kind=1∧∃ u,s_SplitAny s ⟨#[32]⟩=some (⟨#[114,117,108,101]⟩::u::⟨#[124]⟩::c0::cs)∧(∃ x b,s_l21Swap u 44 32=some x∧s_ParseRule p x=some (l.Rule,b)) ∧
    ∃ a,cutL s ⟨#[32,124,32]⟩=some (a,joinB (c0::cs) ⟨#[32]⟩,true)∧sl a=[114,117,108,101,32] ++ sl u ∧
     ((u=⟨#[110,111,110,101]⟩∧l.Rule=⟨0,0,0,0⟩)∨(u≠⟨#[110,111,110,101]⟩∧∃ x b,strings_ReplaceAll u ⟨#[44]⟩ ⟨#[32]⟩=some x∧i_ParseRule p x=some (l.Rule,b))))):=by
 obtain ⟨hcl,hpo,ct,hct,hcase⟩:=line_shape p l hp h hne
 obtain ⟨c0,cs,k1,k2,k3,k4,k5⟩:=clause_text p l.Clause hp hcl
 rw [hct] at k1
 have ect:=Option.some.inj k1
 subst ect
 have hf:∀ x∈c0::cs,(32:UInt8)∉sl x:=fun x hx=>(k4 x hx).2
 have hj:=(join_s (c0::cs) ⟨#[32]⟩ (fun x hx=>(k4 x hx).1) (by decide) (by simp;omega)).1
 have hsl:s.size=(sl s).length:=ba_size s
 have hctz:(joinB (c0::cs) ⟨#[32]⟩).size=(sl (joinB (c0::cs) ⟨#[32]⟩)).length:=ba_size _
 rcases hcase with ⟨g1,g2,g3⟩ | ⟨g1,g2,g3⟩ | ⟨g1,g2,rt,u,g3,g4,g5⟩
 ·have hz:(joinB (c0::cs) ⟨#[32]⟩).size≤3000000:=by
   rw [g3] at hsl;simp only [List.length_append] at hsl;omega
  exact ⟨hcl,c0,cs,k5 hz,hj,.inl ⟨g1,g2,split_unit s c0 cs hs g3 hf,cut_unit s _ hs g3⟩⟩
 ·have hz:(joinB (c0::cs) ⟨#[32]⟩).size≤3000000:=by
   rw [g3] at hsl;simp only [List.length_append] at hsl;omega
  have hr:=hc g1 g2
  obtain ⟨b,hb⟩:=none_rule p hp
  obtain ⟨x,x1,x2,x3⟩:=swapG ⟨#[110,111,110,101]⟩ (by decide) 44 32 (by decide)
  have hx:x=⟨#[110,111,110,101]⟩:=ba_ext (by rw [show x.data.toList=sl x from rfl,x3];rfl)
  refine ⟨hcl,c0,cs,k5 hz,hj,.inr ⟨g1,⟨#[110,111,110,101]⟩,split_rule s ⟨#[110,111,110,101]⟩ c0 cs hs g3 (by decide) hf,⟨x,b,x1,by rw [hx,hr];exact hb⟩,?_⟩⟩
  obtain ⟨a,a1,a2⟩:=cut_rule s _ ⟨#[110,111,110,101]⟩ hs g3 (by decide) (c:=110) (r:=[111,110,101]) rfl (by decide)
  exact ⟨a,a1,a2,.inl ⟨rfl,hr⟩⟩
 ·have hz:(joinB (c0::cs) ⟨#[32]⟩).size≤3000000:=by
   rw [g5] at hsl;simp only [List.length_append] at hsl;omega
  have hu:u.size≤1048576:=by
   rw [g5] at hsl;simp only [List.length_append] at hsl
   rw [ba_size u,show u.data.toList=sl u from rfl];omega
  obtain ⟨r1,⟨c,t,r2,r3,r4⟩,r5,r6,r7⟩:=rule_swapped p l.Rule hp g2 g3 g4 hu
  obtain ⟨v,v1,v2,v3⟩:=prule_eq p rt hp (by omega)
  have hv:=v3.all l.Rule g2 g3
  refine ⟨hcl,c0,cs,k5 hz,hj,.inr ⟨g1,u,split_rule s u c0 cs hs g5 r1 hf,⟨rt,true,r5,by rw [v1,hv]⟩,?_⟩⟩
  obtain ⟨a,a1,a2⟩:=cut_rule s _ u hs g5 r1 r2 r3
  refine ⟨a,a1,a2,.inr ⟨?_,rt,true,r6,by rw [v2,hv]⟩⟩
  rintro rfl
  have e1:(110:UInt8)=c:=(List.cons.inj (show [110,111,110,101]=c::t from r2)).1
  exact r4 e1.symm
theorem fl_any (p:TProject)(l:TLine)(hp:bTProject 1048576 p):∃ t,s_FormatLine p l=some t∧i_FormatLine p l=some t:=by
 obtain ⟨t,t1,t2,_⟩:=line_text p l hp
 exact ⟨t,t1,t2⟩
theorem tail_s (p:TProject)(s:ByteArray)(hp:bTProject 1048576 p)(V:List ByteArray)(n:Nat)(hl:∀ y ys,V.drop n=y::ys→y.size+tlen ys≤1048576)(hne:n<V.length→s≠ByteArray.empty)(k a b c d:Int)(hr:canon p ⟨k,⟨a,b,c,d⟩,[]⟩) :
  ∃ v:TLine×Bool,(bif (decide ((V.length:Int)≤(n:Int))) then
   some ((TLine.mk 0 (TRule.mk 0 0 0 0) ([]:List TLiteral)),false)
   else
   (subL V (n:Int) (V.length:Int)).bind fun v15=>
   (s_Join v15 (⟨#[32]⟩:ByteArray)).bind fun v16=>
   (s_ParseClause p v16).bind fun v17=>
   Option.bind
   ((bif (!v17.2) then
   some true
   else
   (s_FormatLine p (TLine.mk k (TRule.mk a b c d) v17.1)).bind fun v20=>
   some (v20 != s))) fun e18=>
   (bif e18 then
   some ((TLine.mk 0 (TRule.mk 0 0 0 0) ([]:List TLiteral)),false)
   else
   some ((TLine.mk k (TRule.mk a b c d) v17.1),true)))=some v ∧
   ((∃ l,v=(l,true)∧s_FormatLine p l=some s∧s≠ByteArray.empty∧canon p l)∨v=(⟨0,⟨0,0,0,0⟩,[]⟩,false)) ∧
   ∀ cl y ys t,V.drop n=y::ys→s_Join (y::ys) ⟨#[32]⟩=some t→s_ParseClause p t=some (cl,true)→s_FormatLine p ⟨k,⟨a,b,c,d⟩,cl⟩=some s→v=(⟨k,⟨a,b,c,d⟩,cl⟩,true):=by
 by_cases hn:V.length≤n
 ·rw [decide_eq_true (by omega:(V.length:Int)≤(n:Int)),cond_true]
  refine ⟨_,rfl,.inr rfl,fun cl y ys t hd _ _ _=>?_⟩
  rw [List.drop_eq_nil_of_le hn] at hd
  cases hd
 rw [decide_eq_false (by omega:¬ (V.length:Int)≤(n:Int)),cond_false,subL_ok V n V.length (by omega) (Nat.le_refl _),List.take_length,Option.bind_some]
 cases hd:V.drop n with
 | nil=>have:=congrArg List.length hd;simp at this;omega
 | cons y ys=>
  have hsz:=hl y ys hd
  obtain ⟨t,t1,t2⟩:=join_one y ys (by omega)
  obtain ⟨v,w1,w2,w3⟩:=core_ParseClause p t hp (by omega)
  obtain ⟨f,f1,_⟩:=fl_any p ⟨k,⟨a,b,c,d⟩,v.1⟩ hp
  rw [t1,Option.bind_some,w1,Option.bind_some]
  cases hv:v.2 with
  | false=>
   refine ⟨_,rfl,.inr rfl,fun cl y' ys' t' hd' ht' hpc hf=>?_⟩
   cases hd'
   rw [t1] at ht';cases ht'
   rw [w1] at hpc
   have:=Option.some.inj hpc
   rw [this] at hv;cases hv
  | true=>
   simp only [Bool.not_true,cond_false,f1,Option.bind_some,ba_bne]
   by_cases hfs:f=s
   ·refine ⟨(⟨k,⟨a,b,c,d⟩,v.1⟩,true),by simp [hfs],.inl ⟨⟨k,⟨a,b,c,d⟩,v.1⟩,rfl,by rw [f1,hfs],hne (by omega),hr⟩,fun cl y' ys' t' hd' ht' hpc hf=>?_⟩
    cases hd'
    rw [t1] at ht';cases ht'
    rw [w1] at hpc
    have:=Option.some.inj hpc
    rw [this]
   refine ⟨(⟨0,⟨0,0,0,0⟩,[]⟩,false),by simp [hfs],.inr rfl,fun cl y' ys' t' hd' ht' hpc hf=>?_⟩
   cases hd'
   rw [t1] at ht';cases ht'
   rw [w1] at hpc
   have:=Option.some.inj hpc
   rw [this] at f1
   rw [hf] at f1
   exact absurd (Option.some.inj f1).symm hfs
theorem pline_s (p:TProject)(s:ByteArray)(hp:bTProject 1048576 p)(hs:s.size≤1048576):∃ v,s_ParseLine p s=some v∧PLine p s v:=by
 obtain ⟨V,_,v2,v3,v4,v5⟩:=split_eq s ⟨#[32]⟩ (by omega) (by decide)
 cases V with
 | nil=>simp at v5
 | cons w ws=>
  have hlen:=splitP_len (fun c=>decide (c∈sl (⟨#[32]⟩:ByteArray))) (sl s)
  rw [List.map_cons] at v5
  obtain ⟨e1,e2⟩:=List.cons.inj v5
  have htl:tlen ws≤1048576:=by
   unfold tlen
   rw [e2]
   have:s.size=(sl s).length:=ba_size s
   omega
  have hdr:∀ m y ys,(w::ws).drop (m+1)=y::ys→y.size+tlen ys≤1048576:=fun m y ys h=>by
   rw [List.drop_succ_cons] at h
   have:=tlen_drop ws m y ys h
   omega
  have hse:∀ m,1≤m→m<(w::ws).length→s≠ByteArray.empty:=fun m hm h e=>by
   rw [e] at v3
   have:ByteArray.empty.size=0:=rfl
   simp only [List.length_cons] at v3 h
   omega
  have i0:idxL (w::ws) 0=some w:=rfl
  have words:∀ l,s_FormatLine p l=some s→s≠ByteArray.empty→canon p l→_:=fun l h1 h2 h3=>(line_words p l hp hs h1 h2 h3).2
  by_cases hw:w=⟨#[114,117,108,101]⟩∧1<(w::ws).length
  ·obtain ⟨hw,hl1⟩:=hw
   cases ws with
   | nil=>simp at hl1
   | cons u ws=>
    have hu:u.size≤1048576:=by
     have:=v4 u (by simp)
     omega
    obtain ⟨x,x1,_,x3⟩:=swapG u (by omega) 44 32 (by decide)
    have hxz:x.size≤1048576:=by
     have h1:x.size=(sl x).length:=ba_size x
     have h2:u.size=(sl u).length:=ba_size u
     rw [x3,List.length_map] at h1
     omega
    obtain ⟨r,r1,_,r3⟩:=prule_eq p x hp (by omega)
    have hcan:canon p ⟨1,⟨r.1.Kind,r.1.A,r.1.B,r.1.C⟩,[]⟩:=fun _ hno=>by
     rcases r3.one with ⟨r0,hr0,hok,_⟩ | hr0
     ·rw [hr0] at hno
      have:s_RuleOk p r0=some false:=hno
      rw [hok] at this;cases this
     rw [hr0]
    obtain ⟨v,t1,t2,t3⟩:=tail_s p s hp (w::u::ws) 3 (hdr 2) (hse 3 (by omega)) 1 r.1.Kind r.1.A r.1.B r.1.C hcan
    refine ⟨v,?_,t2,fun l h1 h2 h3=>?_⟩
    ·unfold s_ParseLine
     have hwb:(w == (⟨#[114,117,108,101]⟩:ByteArray))=true:=by rw [ba_beq];exact decide_eq_true hw
     have i1:idxL (w::u::ws) 1=some u:=rfl
     have hd1:decide (1<((w::u::ws).length:Int))=true:=decide_eq_true (by simp;omega)
     rw [show s_l21Swap u ((44:UInt8).toNat:Int) ((32:UInt8).toNat:Int)=s_l21Swap u 44 32 from rfl] at x1
     rw [v2,Option.bind_some,i0,Option.bind_some,hwb,cond_true,hd1,Option.bind_some,cond_true,i1,Option.bind_some,x1,Option.bind_some,r1,Option.bind_some,Option.bind_some]
     exact t1
    obtain ⟨c0,cs,q1,q2,⟨g1,g2,g3,_⟩ | ⟨g1,u',g3,⟨x',b,g4,g5⟩,_⟩⟩:=words l h1 h2 h3
    ·rw [v2] at g3
     have:=(List.cons.inj (Option.some.inj g3)).1
     rw [hw] at this
     exact absurd this (by decide)
    rw [v2] at g3
    obtain ⟨_,g6⟩:=List.cons.inj (Option.some.inj g3)
    obtain ⟨g7,g8⟩:=List.cons.inj g6
    rw [show s_l21Swap u ((44:UInt8).toNat:Int) ((32:UInt8).toNat:Int)=s_l21Swap u 44 32 from rfl] at x1
    rw [← g7,x1] at g4
    rw [← Option.some.inj g4,r1] at g5
    have hr:r.1=l.Rule:=by rw [Option.some.inj g5]
    have hL:(⟨1,⟨r.1.Kind,r.1.A,r.1.B,r.1.C⟩,l.Clause⟩:TLine)=l:=by
     rw [hr,← g1]
    have:=t3 l.Clause c0 cs _ (by show (w::u::ws).drop 3=_;rw [g8];rfl) q2 q1 (by rw [hL];exact h1)
    rw [this,hL]
  obtain ⟨v,t1,t2,t3⟩:=tail_s p s hp (w::ws) 2 (hdr 1) (hse 2 (by omega)) 2 0 0 0 0 (fun h=>by cases h)
  refine ⟨v,?_,t2,fun l h1 h2 h3=>?_⟩
  ·unfold s_ParseLine
   rw [v2,Option.bind_some,i0,Option.bind_some]
   by_cases hw1:w=⟨#[114,117,108,101]⟩
   ·have hwb:(w == (⟨#[114,117,108,101]⟩:ByteArray))=true:=by rw [ba_beq];exact decide_eq_true hw1
    have hd1:decide (1<((w::ws).length:Int))=false:=decide_eq_false (fun h=>hw ⟨hw1,by omega⟩)
    rw [hwb,cond_true,hd1,Option.bind_some,cond_false,Option.bind_some]
    exact t1
   rw [ba_beq_ne hw1,cond_false,Option.bind_some,cond_false,Option.bind_some]
   exact t1
  obtain ⟨c0,cs,q1,q2,⟨g1,g2,g3,_⟩ | ⟨g1,u',g3,_⟩⟩:=words l h1 h2 h3
  ·rw [v2] at g3
   obtain ⟨_,g6⟩:=List.cons.inj (Option.some.inj g3)
   have hL:(⟨2,⟨0,0,0,0⟩,l.Clause⟩:TLine)=l:=by
    rw [← g1,← g2]
   have:=t3 l.Clause c0 cs _ (by show (w::ws).drop 2=_;rw [g6];rfl) q2 q1 (by rw [hL];exact h1)
   rw [this,hL]
  rw [v2] at g3
  have g9:=Option.some.inj g3
  exact absurd ⟨(List.cons.inj g9).1,by rw [g9];simp⟩ hw
theorem pline_i (p:TProject)(s:ByteArray)(hp:bTProject 1048576 p)(hs:s.size≤1048576):∃ v,i_ParseLine p s=some v∧PLine p s v:=by
 have hcut:∃ a b f,cutL s ⟨#[32,124,32]⟩=some (a,b,f)∧a.size≤1048576∧b.size≤1048576∧(f=true→s≠ByteArray.empty):=by
  unfold cutL
  rw [if_pos (by omega)]
  have hsz:s.size=s.data.toList.length:=ba_size s
  refine ⟨_,_,_,rfl,?_,?_,fun hf he=>?_⟩
  ·rw [ba_size]
   unfold Lib.cut
   split
   ·simp;omega
   simp;omega
  ·rw [ba_size]
   unfold Lib.cut
   split
   ·simp;omega
   simp
  rw [he] at hf
  exact absurd hf (by decide)
 obtain ⟨a,b,f,c1,ca,cb,cf⟩:=hcut
 obtain ⟨cl,_,k2,_⟩:=core_ParseClause p b hp cb
 obtain ⟨cl',k1',k2',_⟩:=core_ParseClause p b hp cb
 rw [k2] at k2';cases k2'
 have words:=fun l h1 h2 h3=>(line_words p l hp hs h1 h2 h3).2
 have pre:strings_Cut s (⟨#[32,124,32]⟩:ByteArray)=some (a,b,f):=c1
 unfold i_ParseLine
 rw [pre,Option.bind_some]
 simp only [k2,Option.bind_some]
 by_cases hfg:f=true∧cl.2=true
 ·obtain ⟨rfl,hg⟩:=hfg
  simp only [hg,Bool.not_true,cond_false,Option.bind_some]
  -- what the head gives
  have tailI:∀(k x y z w:Int),canon p ⟨k,⟨x,y,z,w⟩,[]⟩→(∀ l,s_FormatLine p l=some s→s≠ByteArray.empty→canon p l→(⟨k,⟨x,y,z,w⟩,cl.1⟩:TLine)=l) →
    ∃ v:TLine×Bool,((i_FormatLine p (TLine.mk k (TRule.mk x y z w) cl.1)).bind fun v16=>(bif (v16 != s) then some ((TLine.mk 0 (TRule.mk 0 0 0 0) ([]:List TLiteral)),false) else some ((TLine.mk k (TRule.mk x y z w) cl.1),true)))=some v∧PLine p s v:=fun k x y z w hc hall=>by
   obtain ⟨t,t1,t2⟩:=fl_any p ⟨k,⟨x,y,z,w⟩,cl.1⟩ hp
   rw [t2,Option.bind_some,ba_bne]
   by_cases hts:t=s
   ·refine ⟨(⟨k,⟨x,y,z,w⟩,cl.1⟩,true),by simp [hts],.inl ⟨⟨k,⟨x,y,z,w⟩,cl.1⟩,rfl,by rw [t1,hts],cf rfl,hc⟩,fun l h1 h2 h3=>?_⟩
    rw [hall l h1 h2 h3]
   refine ⟨(⟨0,⟨0,0,0,0⟩,[]⟩,false),by simp [hts],.inr rfl,fun l h1 h2 h3=>?_⟩
   have:=hall l h1 h2 h3
   rw [this,h1] at t1
   exact absurd (Option.some.inj t1).symm hts
  have hclause:∀ l c0 cs a',s_ParseClause p (joinB (c0::cs) ⟨#[32]⟩)=some (l,true)→cutL s ⟨#[32,124,32]⟩=some (a',joinB (c0::cs) ⟨#[32]⟩,true)→cl.1=l∧a'=a:=fun l c0 cs a' h1 h2=>by
   rw [c1] at h2
   cases h2
   rw [k1'] at h1
   cases h1
   exact ⟨rfl,rfl⟩
  have hpre:strings_CutPrefix a (⟨#[114,117,108,101,32]⟩:ByteArray)=some (⟨(Lib.trimPrefix (sl a) [114,117,108,101,32]).toArray⟩,Lib.hasPrefix (sl a) [114,117,108,101,32]):=rfl
  rw [hpre,Option.bind_some]
  cases hh:Lib.hasPrefix (sl a) [114,117,108,101,32] with
  | false=>
   simp only [cond_false,Option.bind_some]
   refine tailI 2 0 0 0 0 (fun h=>by cases h) (fun l h1 h2 h3=>?_)
   obtain ⟨c0,cs,q1,q2,⟨g1,g2,g3,a',g4,g5⟩ | ⟨g1,u',g3,_,a',g4,g5,_⟩⟩:=words l h1 h2 h3
   ·obtain ⟨e1,e2⟩:=hclause _ _ _ _ q1 g4
    rw [e1,← g1,← g2]
   obtain ⟨e1,e2⟩:=hclause _ _ _ _ q1 g4
   rw [← e2,g5] at hh
   simp [Lib.hasPrefix,List.isPrefixOf] at hh
  | true=>
   have hu:∃ u:ByteArray,(⟨(Lib.trimPrefix (sl a) [114,117,108,101,32]).toArray⟩:ByteArray)=u∧u.size≤1048576∧∀ l,sl a=[114,117,108,101,32] ++ sl l→u=l:=by
    refine ⟨_,rfl,?_,fun l h=>?_⟩
    ·rw [ba_size]
     have:a.size=(sl a).length:=ba_size a
     unfold Lib.trimPrefix
     split
     ·simp;omega
     simp;omega
    apply ba_ext
    show Lib.trimPrefix (sl a) [114,117,108,101,32]=sl l
    unfold Lib.trimPrefix
    rw [hh,if_pos rfl,h]
    rfl
   obtain ⟨u,hu1,hu2,hu3⟩:=hu
   rw [hu1]
   simp only [cond_true]
   have nounit:∀ a':ByteArray,sl a'=[117,110,105,116]→a'=a→False:=fun a' h1 h2=>by
    rw [← h2,h1] at hh
    exact absurd hh (by decide)
   by_cases hun:u=⟨#[110,111,110,101]⟩
   ·rw [show (u != (⟨#[110,111,110,101]⟩:ByteArray))=false by rw [ba_bne];simp [hun],cond_false,Option.bind_some]
    refine tailI 1 0 0 0 0 (fun _ _=>rfl) (fun l h1 h2 h3=>?_)
    obtain ⟨c0,cs,q1,q2,⟨g1,g2,g3,a',g4,g5⟩ | ⟨g1,u',g3,_,a',g4,g5,⟨g6,g7⟩ | ⟨g6,_⟩⟩⟩:=words l h1 h2 h3
    ·exact (nounit a' g5 (hclause _ _ _ _ q1 g4).2).elim
    ·obtain ⟨e1,e2⟩:=hclause _ _ _ _ q1 g4
     rw [e1,← g1,← g7]
    obtain ⟨e1,e2⟩:=hclause _ _ _ _ q1 g4
    exact absurd ((hu3 u' (by rw [← e2,g5])).symm.trans hun) g6
   rw [show (u != (⟨#[110,111,110,101]⟩:ByteArray))=true by rw [ba_bne];simp [hun],cond_true]
   obtain ⟨x,_,x2,x3⟩:=swapG u (by omega) 44 32 (by decide)
   have hxz:x.size≤1048576:=by
    have h1:x.size=(sl x).length:=ba_size x
    have h2:u.size=(sl u).length:=ba_size u
    rw [x3,List.length_map] at h1
    omega
   obtain ⟨r,_,r2,r3⟩:=prule_eq p x hp (by omega)
   have hcan:canon p ⟨1,⟨r.1.Kind,r.1.A,r.1.B,r.1.C⟩,[]⟩:=fun _ hno=>by
    rcases r3.one with ⟨r0,hr0,hok,_⟩ | hr0
    ·rw [hr0] at hno
     have:s_RuleOk p r0=some false:=hno
     rw [hok] at this;cases this
    rw [hr0]
   simp only [x2,r2,Option.bind_some]
   refine tailI 1 r.1.Kind r.1.A r.1.B r.1.C hcan (fun l h1 h2 h3=>?_)
   obtain ⟨c0,cs,q1,q2,⟨g1,g2,g3,a',g4,g5⟩ | ⟨g1,u',g3,_,a',g4,g5,⟨g6,g7⟩ | ⟨g6,x',b',g8,g9⟩⟩⟩:=words l h1 h2 h3
   ·exact (nounit a' g5 (hclause _ _ _ _ q1 g4).2).elim
   ·obtain ⟨e1,e2⟩:=hclause _ _ _ _ q1 g4
    exact absurd ((hu3 u' (by rw [← e2,g5])).trans g6) hun
   obtain ⟨e1,e2⟩:=hclause _ _ _ _ q1 g4
   rw [← hu3 u' (by rw [← e2,g5]),x2] at g8
   rw [← Option.some.inj g8,r2] at g9
   have hr:r.1=l.Rule:=by rw [Option.some.inj g9]
   rw [e1,hr,← g1]
 ·have:(Option.bind (bif (!f) then some true else some (!cl.2)) fun e3=>(bif e3 then some ((TLine.mk 0 (TRule.mk 0 0 0 0) ([]:List TLiteral)),false) else none))=some ((TLine.mk 0 (TRule.mk 0 0 0 0) ([]:List TLiteral)),false):=by
   cases f with
   | false=>rfl
   | true=>
    cases hg:cl.2 with
    | false=>rfl
    | true=>exact absurd ⟨rfl,hg⟩ hfg
  refine ⟨(⟨0,⟨0,0,0,0⟩,[]⟩,false),?_,.inr rfl,fun l h1 h2 h3=>?_⟩
  ·cases f with
   | false=>rfl
   | true=>
    cases hg:cl.2 with
    | false=>rfl
    | true=>exact absurd ⟨rfl,hg⟩ hfg
  exfalso
  have key:∀ c0 cs a',s_ParseClause p (joinB (c0::cs) ⟨#[32]⟩)=some (l.Clause,true)→cutL s ⟨#[32,124,32]⟩=some (a',joinB (c0::cs) ⟨#[32]⟩,true)→False:=fun c0 cs a' h4 h5=>by
   rw [c1] at h5
   cases h5
   rw [k1'] at h4
   cases h4
   exact hfg ⟨rfl,rfl⟩
  obtain ⟨c0,cs,q1,q2,⟨g1,g2,g3,a',g4,g5⟩ | ⟨g1,u',g3,_,a',g4,g5,_⟩⟩:=words l h1 h2 h3
  ·exact key _ _ _ q1 g4
  exact key _ _ _ q1 g4
theorem core_ParseLine (p:TProject)(s:ByteArray)(hp:bTProject 1048576 p)(hs:s.size≤1048576):∃ v,s_ParseLine p s=some v∧i_ParseLine p s=some v∧bTLine 1048576 v.1:=by
 obtain ⟨v,h1,h2⟩:=pline_s p s hp hs
 obtain ⟨w,h3,h4⟩:=pline_i p s hp hs
 rw [pline_uniq h4 h2] at h3
 refine ⟨v,h1,h3,?_⟩
 rcases h2.one with ⟨l,hv,g1,g2,g3⟩ | hv
 ·rw [hv]
  have hcl:=(line_words p l hp hs g1 g2 g3).1
  obtain ⟨q,hq,hf⟩:=s_ClauseOk_ok p (names_of hp (by omega)) l.Clause
  rw [hcl] at hq;cases hq
  exact ⟨by have:=(hf rfl).1;show l.Clause.length≤1048576;omega,trivial⟩
 rw [hv]
 exact ⟨by show ([]:List TLiteral).length≤1048576;simp,trivial⟩
theorem ba_assoc (a b c:ByteArray):a ++ b ++ c=a ++ (b ++ c):=by
 apply ba_ext
 simp
theorem proof_L1 (p:TProject)(hp:bTProject 1048576 p):∀(xs:List TLine)(z z':Int)(a:ByteArray),a.size+2000000001*xs.length≤9000000000000000000→∃ r,s_FormatProof_L1 p xs z a=some r∧i_FormatProof_L1 p xs z' a=some r
 | [],z,z',a,_=>⟨.inl a,rfl,rfl⟩
 | x::xs,z,z',a,hs=>by
  simp only [List.length_cons] at hs
  obtain ⟨t,t1,t2,t3⟩:=line_text p x hp
  simp only [s_FormatProof_L1,i_FormatProof_L1,t1,t2,Option.bind_some]
  cases he:(t == ByteArray.empty) with
  | true=>exact ⟨_,rfl,rfl⟩
  | false=>
   have h1:(⟨#[10]⟩:ByteArray).size=1:=rfl
   have z1:=cat_sz a t
   have z2:=cat_sz (a ++ t) ⟨#[10]⟩
   have z3:=cat_sz t ⟨#[10]⟩
   obtain ⟨r,r1,r2⟩:=proof_L1 p hp xs (z+1) (z'+1) (a ++ t ++ ⟨#[10]⟩) (by omega)
   refine ⟨r,?_,?_⟩
   ·rw [cond_false,catS_ok (by omega),Option.bind_some,catS_ok (by omega),Option.bind_some,r1]
   rw [cond_false,catS_ok (by omega),Option.bind_some,catS_ok (by omega),Option.bind_some,← ba_assoc,r2]
theorem core_FormatProof (p:TProject)(l:List TLine)(hp:bTProject 1048576 p)(hl:b_l_eTLine 1048576 l):∃ v,s_FormatProof p l=some v∧i_FormatProof p l=some v:=by
 have hn:l.length≤1048576:=by
  unfold b_l_eTLine at hl
  omega
 obtain ⟨r,r1,r2⟩:=proof_L1 p hp l 0 0 ByteArray.empty (by simp;omega)
 simp only [s_FormatProof,i_FormatProof,r1,r2]
 cases r with
 | inl r=>exact ⟨r,rfl,rfl⟩
 | inr r=>exact ⟨r,rfl,rfl⟩
theorem w_markLineS_res (x:List TLine)(h:b_l_eTLine 1048576 x)(k0:Int)(hk0:0≤k0)(hk1:k0+3298540126208≤1125899906842624):∃ k ys,w_markLineS x k0=some (k,ys)∧w_heldLineS ys k0=some k∧k0≤k∧k≤k0+3298540126208:=by
 obtain ⟨k,ys,e1,e2,e3,e4⟩:=markNest (G:=w_markLineS_L1) (H:=w_heldLineS_L1) (B:=3145733) (Q:=bTLine 1048576) (fun fuel k i l x hi hil hl h0 hb hx hq=>by
  have hd:decide (i<(l.length:Int))=true:=decide_eq_true hil
  have hlt:i.toNat<l.length:=by omega
  have hx2:∀ y,idxL (l.set i.toNat y) i=some y:=fun y=>by simp [idxL,hi,hlt]
  replace hx:idxL l i=some x:=by simp [idxL,hi,hx]
  unfold bTLine at hq
  obtain ⟨k1,y1,m1,l1,g1,n1⟩:=w_markLiteralS_res x.Clause (hq.1) (((((k+1)+1)+1)+1)+1) (by omega) (by omega)
  refine ⟨k1,(TLine.mk k (TRule.mk (k+1) ((k+1)+1) (((k+1)+1)+1) ((((k+1)+1)+1)+1)) y1),by omega,by omega,?_,?_⟩
  ·simp only [w_markLineS_L1,hd,cond_true,setL,hx,hx2,Option.bind_some,List.set_set,W_of (n:=k+1) ⟨by omega,by omega⟩,W_of (n:=(k+1)+1) ⟨by omega,by omega⟩,W_of (n:=((k+1)+1)+1) ⟨by omega,by omega⟩,W_of (n:=(((k+1)+1)+1)+1) ⟨by omega,by omega⟩,W_of (n:=((((k+1)+1)+1)+1)+1) ⟨by omega,by omega⟩,m1,W_of (n:=i+1) ⟨by omega,by omega⟩]
  ·intro ys z;simp only [w_heldLineS_L1,Option.bind_some,int_bne,decide_true,Bool.not_true,cond_false,W_of (n:=k+1) ⟨by omega,by omega⟩,W_of (n:=(k+1)+1) ⟨by omega,by omega⟩,W_of (n:=((k+1)+1)+1) ⟨by omega,by omega⟩,W_of (n:=(((k+1)+1)+1)+1) ⟨by omega,by omega⟩,W_of (n:=((((k+1)+1)+1)+1)+1) ⟨by omega,by omega⟩,l1,decide_eq_false (show ¬ k1<0 by omega)])
  (fun fuel k i l hi=>by
  have hd:decide (i<(l.length:Int))=false:=decide_eq_false (by omega)
  simp only [w_markLineS_L1,hd,cond_false]) (fun _ _=>rfl) (l:=x) h.1 h.2 hk0 (B2:=3298540126208) (by decide) hk1
 exact ⟨k,ys,by unfold w_markLineS;rw [e1];rfl,by unfold w_heldLineS;rw [e2];rfl,e3,e4⟩
theorem pp_app {α:Type}(a b:List α)(h:a.length+b.length≤1099511627776):appL a b=some (a ++ b):=by unfold appL;rw [if_pos h]
theorem i_pp_total (p:TProject)(hp:bTProject 1048576 p):∀(l:List ByteArray)(z:Int)(a:List TLine),(∀ x∈l,x.size≤1048576)→a.length+l.length≤3000000 →
  ∃ r,i_ParseProof_L1 p l z a=some r∧(r=.inr ([],false)∨∃ L,r=.inl L∧a.length≤L.length)
 | [],z,a,_,_=>⟨_,rfl,.inr ⟨a,rfl,Nat.le_refl _⟩⟩
 | x::xs,z,a,h,hb=>by
  simp only [List.length_cons] at hb
  obtain ⟨v,_,h2,_⟩:=core_ParseLine p x hp (h x (List.mem_cons_self ..))
  simp only [i_ParseProof_L1,h2,Option.bind_some]
  cases v.2 with
  | false=>exact ⟨_,rfl,.inl rfl⟩
  | true=>
   simp only [Bool.not_true,cond_false]
   rw [pp_app _ _ (by simp;omega),Option.bind_some]
   obtain ⟨r,h3,h4⟩:=i_pp_total p hp xs (z+1) (a ++ [v.1]) (fun y hy=>h y (List.mem_cons_of_mem _ hy)) (by simp;omega)
   refine ⟨r,h3,h4.imp id fun ⟨L,e,hl⟩=>⟨L,e,?_⟩⟩
   simp at hl;omega
theorem pp_L1 (p:TProject)(hp:bTProject 1048576 p):∀(l:List ByteArray)(z z':Int)(a:List TLine),(∀ x∈l,x.size≤1048576)→l.length≤2000000→a.length≤300→(∀ x∈a,bTLine 1048576 x) →
  (∃ L,s_ParseProof_L1 p l z a=some (.inl L)∧i_ParseProof_L1 p l z' a=some (.inl L)∧L.length≤300∧∀ x∈L,bTLine 1048576 x) ∨
  (s_ParseProof_L1 p l z a=some (.inr ([],false))∧∃ r,i_ParseProof_L1 p l z' a=some r∧(r=.inr ([],false)∨∃ L,r=.inl L∧300<L.length))
 | [],z,z',a,_,_,ha,hq=>.inl ⟨a,rfl,rfl,ha,hq⟩
 | x::xs,z,z',a,h,hb,ha,hq=>by
  simp only [List.length_cons] at hb
  obtain ⟨v,h1,h2,h3⟩:=core_ParseLine p x hp (h x (List.mem_cons_self ..))
  cases hv:v.2 with
  | false=>
   right
   refine ⟨?_,.inr ([],false),?_,.inl rfl⟩
   ·simp only [s_ParseProof_L1,h1,Option.bind_some,hv,Bool.not_false,cond_true]
   simp only [i_ParseProof_L1,h2,Option.bind_some,hv,Bool.not_false,cond_true]
  | true=>
   by_cases h300:a.length=300
   ·right
    refine ⟨?_,?_⟩
    ·simp only [s_ParseProof_L1,h1,Option.bind_some,hv,Bool.not_true,cond_false,h300];rfl
    simp only [i_ParseProof_L1,h2,Option.bind_some,hv,Bool.not_true,cond_false]
    rw [pp_app _ _ (by simp;omega),Option.bind_some]
    obtain ⟨r,h4,h5⟩:=i_pp_total p hp xs (z'+1) (a ++ [v.1]) (fun y hy=>h y (List.mem_cons_of_mem _ hy)) (by simp;omega)
    refine ⟨r,h4,h5.imp id fun ⟨L,e,hl⟩=>⟨L,e,?_⟩⟩
    simp at hl;omega
   ·have hne:((a.length:Int) == 300)=false:=by
     rw [beq_eq_false_iff_ne];omega
    have:=pp_L1 p hp xs (z+1) (z'+1) (a ++ [v.1]) (fun y hy=>h y (List.mem_cons_of_mem _ hy)) (by omega) (by simp;omega) (fun y hy=>by
     rcases List.mem_append.1 hy with h | h
     ·exact hq y h
     simp at h;rw [h];exact h3)
    simp only [s_ParseProof_L1,i_ParseProof_L1,h1,h2,Option.bind_some,hv,Bool.not_true,cond_false,hne]
    rw [pp_app _ _ (by simp;omega),Option.bind_some]
    exact this
theorem lines_eq (s:ByteArray)(hs:s.size≤1048576):∃ l,s_SplitLines s=some l∧i_SplitLines s=some l∧l.length≤2000000∧∀ x∈l,x.size≤1048576:=by
 obtain ⟨V,h1,h2,h3,h4,h5⟩:=split_eq s ⟨#[10]⟩ (by omega) (by decide)
 have hne:0<V.length:=by
  have:=congrArg List.length h5
  simp only [List.length_map,List.length_cons] at this;omega
 have hw:W ((V.length:Int) - 1)=((V.length - 1:Nat):Int):=by rw [W_of ⟨by omega,by omega⟩];omega
 have hi:idxL V ((V.length - 1:Nat):Int)=some (V[V.length - 1]'(by omega)):=by
  unfold idxL
  rw [if_pos (by omega),Int.toNat_natCast,List.getElem?_eq_getElem (by omega)]
 have hsub:subL V 0 ((V.length - 1:Nat):Int)=some (V.take (V.length - 1)):=by
  have:=subL_ok V 0 (V.length - 1) (Nat.zero_le _) (by omega)
  simpa using this
 refine ⟨(bif (V[V.length - 1]'(by omega) == ByteArray.empty) then V.take (V.length - 1) else V),?_,?_,?_,?_⟩
 ·simp only [s_SplitLines,h2,Option.bind_some,hw,hi,hsub]
  cases (V[V.length - 1]'(by omega) == ByteArray.empty) <;> rfl
 ·simp only [i_SplitLines,h1,Option.bind_some,hw,hi,hsub]
  cases (V[V.length - 1]'(by omega) == ByteArray.empty) <;> rfl
 ·cases (V[V.length - 1]'(by omega) == ByteArray.empty) with
  | true=>simp only [cond_true,List.length_take];omega
  | false=>simp only [cond_false];omega
 intro x hx
 have:x∈V:=by
  cases hb:(V[V.length - 1]'(by omega) == ByteArray.empty) with
  | true=>rw [hb] at hx;exact List.mem_of_mem_take hx
  | false=>rw [hb] at hx;exact hx
 have:=h4 x this;omega
theorem core_ParseProof (p:TProject)(s:ByteArray)(hp:bTProject 1048576 p)(hs:s.size≤1048576):∃ v,s_ParseProof p s=some v∧i_ParseProof p s=some v∧b_l_eTLine 1048576 v.1:=by
 obtain ⟨l,e1,e2,e3,e4⟩:=lines_eq s hs
 rcases pp_L1 p hp l 0 0 [] e4 e3 (by simp) (fun x hx=>by cases hx) with ⟨L,h1,h2,h3,h4⟩ | ⟨h1,r,h2,h3⟩
 ·have hb:b_l_eTLine 1048576 L:=⟨by omega,h4⟩
  obtain ⟨v,f1,f2⟩:=core_FormatProof p L hp hb
  have hd:decide (300<(L.length:Int))=false:=decide_eq_false (by omega)
  refine ⟨(bif (v != s) then ([],false) else (L,true)),?_,?_,?_⟩
  ·simp only [s_ParseProof,e1,Option.bind_some,h1,sumBind,Sum.elim_inl,f1]
   cases (v != s) <;> rfl
  ·simp only [i_ParseProof,e2,Option.bind_some,h2,sumBind,Sum.elim_inl,f2,hd,cond_false]
   cases (v != s) <;> rfl
  cases (v != s) with
  | true=>exact ⟨by simp,fun x hx=>by cases hx⟩
  | false=>exact hb
 refine ⟨([],false),?_,?_,⟨by simp,fun x hx=>by cases hx⟩⟩
 ·simp only [s_ParseProof,e1,Option.bind_some,h1,sumBind,Sum.elim_inr]
 rcases h3 with rfl | ⟨L,rfl,hL⟩
 ·simp only [i_ParseProof,e2,Option.bind_some,h2,sumBind,Sum.elim_inr]
 have hd:decide (300<(L.length:Int))=true:=decide_eq_true (by omega)
 simp only [i_ParseProof,e2,Option.bind_some,h2,sumBind,Sum.elim_inl,hd,cond_true]
end Go.Px.YtoajaeffpalmlaaGreatDoor
