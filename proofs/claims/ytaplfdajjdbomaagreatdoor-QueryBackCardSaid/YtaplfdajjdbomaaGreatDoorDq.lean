import Derived.Test.YtaplfdajjdbomaaGreatDoorDg
import Derived.Test.YtaplfdajjdbomaaGreatDoorDp
import Derived.Test.YtaplfdajjdbomaaGreatDoorDd
open Int renaming ofNat→qaa,negSucc→qak,ofNat_eq_natCast→qan
open Nat renaming eq_of_beq_eq_true→qab,succ→qac,le_of_ble_eq_true→qad,beq→qaf,add→qag,zero_le→qar,add_sub_cancel→qas,ble→qat,le_refl→qaw,mul→qax,pos_of_ne_zero→qay,mul_one→qaz,le_trans→qaA,mod_eq_of_lt→qaB
open Bool renaming and_eq_true→qae
open List renaming mem_cons_self→qah,getElem?_eq_getElem→qai,length_append→qaj,getD_eq_getElem?_getD→qal,mem_cons_of_mem→qam,append_nil→qao,take_of_length_le→qap,length_cons→qaq,append_assoc→qau,take_add_one→qav,length_take→qaC
set_option maxRecDepth 1000000
set_option maxHeartbeats 0
set_option linter.unusedSectionVars false
set_option linter.unusedSimpArgs false
set_option linter.unusedVariables false
namespace Go.Ax
open Go Go.Proofs
noncomputable section
variable [Lo]
def RG (X:List Value)(n:Nat)(e0:Int)(c:Nat)(P:List Nat→Nat→Nat→Prop)(k:Nat)(sp:bM)(y:bg):Prop:=
 ∃ to,to≤n∧((sp=sG0∧y=hG0 X n to e0 c 0∧0<c∧k=c+1∧P [] 0 to)∨(∃ ns,ns.length≤c∧sp=sG1∧y=hG1 X n to e0 (wL ns) ns.length c ns.length∧k=c-ns.length+1∧P ns ns.length to))
theorem anZ {X:List Value}{n to:Nat}{e0:Int}{c:Nat}(hX:allB X=true)(hn:n=X.length)(hb:X.length≤4096)(hto:to≤n)(hc:c≤100000)(he:Fn.gEr X c to≠0) :
  ∃ R k,R k sG0 (hG0 X n to e0 c 0)∧qW Tryz.prog C7 KM 20 16 (fH C7 16 5) 70 R (.exit 0) eGF (oGF X n (Fn.gPl X c to) (fE2 (Fn.gEg X c to))):=by
 have hc0:0<c:=by
  cases c with
  |zero=>exact absurd rfl he
  |succ c=>omega
 refine ⟨RG X n e0 c fun ns i t=>(Fn.gS X (c-i) t).2=(Fn.gS X c to).2,c+1,⟨to,hto,.inl ⟨rfl,rfl,hc0,rfl,rfl⟩⟩,⟨?_⟩⟩
 have hEE:qaa (Fn.gEr X c to)=fE2 (Fn.gEg X c to):=by
  unfold fE2 Fn.gEg
  rw [show qac (Fn.gEr X c to-1)=Fn.gEr X c to by omega]
 rintro k sp y ⟨t,ht,h⟩
 rcases h with ⟨rfl,rfl,hc0,rfl,hP⟩|⟨ns,hl,rfl,rfl,rfl,hP⟩
 ·obtain ⟨c',rfl⟩:∃ c',c=c'+1:=⟨c-1,by omega⟩
  refine ⟨c'+1,rfl,sG1,?_⟩
  have hP:(Fn.gS X (c'+1) t).2=(Fn.gS X (c'+1) to).2:=hP
  by_cases hf:Fn.rF X 0 18446744073709551615 t=0
  ·refine ⟨_,rfl,asl hX hn hb ht (by omega) (.inl rfl) hf,.inl ⟨rfl,_,by rw [hn];exact lT hX hf,.inr ⟨[Fn.rN X 0 18446744073709551615 t],by simp,rfl,rfl,by simp,?_⟩⟩⟩
   rw [XD hf] at hP
   show (Fn.gS X (c'+1-1) _).2=_
   rw [qas]
   exact hP
  ·have:=Vb (r:=c') hf
   rw [this] at hP
   refine ⟨_,rfl,asI hX hn hb ht (by omega) hf,.inr ⟨fun h=>(by cases h),?_⟩⟩
   have e1:Fn.gPl X (c'+1) to=t:=by unfold Fn.gPl;rw [←hP]
   have e2:Fn.gEr X (c'+1) to=Fn.rF X 0 18446744073709551615 t:=by unfold Fn.gEr;rw [←hP]
   rw [e1,←hEE,e2]
 ·refine ⟨c-ns.length,rfl,sG1,?_⟩
  by_cases hi:ns.length<c
  ·obtain ⟨r,hr⟩:∃ r,c-ns.length=r+1:=⟨c-ns.length-1,by omega⟩
   rw [hr] at hP
   by_cases hf:Fn.rF X 0 18446744073709551615 t=0
   ·refine ⟨_,rfl,aua hX hn hb ht hc (.inl rfl) hf hi,.inl ⟨rfl,_,by rw [hn];exact lT hX hf,.inr ⟨ns++[Fn.rN X 0 18446744073709551615 t],by simp;omega,rfl,by simp,by simp;omega,?_⟩⟩⟩
    rw [XD hf] at hP
    show (Fn.gS X (c-(ns++[_]).length) _).2=_
    rw [show c-(ns++[Fn.rN X 0 18446744073709551615 t]).length=r by simp;omega]
    exact hP
   ·have:=Vb (r:=r) hf
    rw [this] at hP
    refine ⟨_,rfl,ar2 hX hn hb ht hc hf hi,.inr ⟨fun h=>(by cases h),?_⟩⟩
    have e1:Fn.gPl X c to=t:=by unfold Fn.gPl;rw [←hP]
    have e2:Fn.gEr X c to=Fn.rF X 0 18446744073709551615 t:=by unfold Fn.gEr;rw [←hP]
    rw [e1,←hEE,e2]
  ·exfalso
   rw [show c-ns.length=0 by omega] at hP
   exact he (show (Fn.gS X c to).2.2=0 by rw [←hP];rfl)
theorem aoX {X:List Value}{n to:Nat}{e0:Int}{c:Nat}(hX:allB X=true)(hn:n=X.length)(hb:X.length≤4096)(hto:to≤n)(hc:c≤100000)(hc0:0<c)(he:Fn.gEr X c to=0) :
  ∃ R k,R k sG0 (hG0 X n to e0 c 0)∧qW Tryz.prog C7 KM 20 16 (fH C7 16 5) 70 R (.exit 0) eG1 (oGK X n (Fn.gPl X c to) e0 (Fn.gWs X c to) c):=by
 refine ⟨RG X n e0 c fun ns i t=>(Fn.gS X (c-i) t).2=(Fn.gS X c to).2∧ns++(Fn.gS X (c-i) t).1=(Fn.gS X c to).1,c+1,⟨to,hto,.inl ⟨rfl,rfl,hc0,rfl,⟨rfl,rfl⟩⟩⟩,⟨?_⟩⟩
 rintro k sp y ⟨t,ht,h⟩
 rcases h with ⟨rfl,rfl,hc0,rfl,hP,hQ⟩|⟨ns,hl,rfl,rfl,rfl,hP,hQ⟩
 ·obtain ⟨c',rfl⟩:∃ c',c=c'+1:=⟨c-1,by omega⟩
  refine ⟨c'+1,rfl,sG1,?_⟩
  have hP:(Fn.gS X (c'+1) t).2=(Fn.gS X (c'+1) to).2:=hP
  have hQ:(Fn.gS X (c'+1) t).1=(Fn.gS X (c'+1) to).1:=hQ
  by_cases hf:Fn.rF X 0 18446744073709551615 t=0
  ·refine ⟨_,rfl,asl hX hn hb ht (by omega) (.inr rfl) hf,.inl ⟨rfl,_,by rw [hn];exact lT hX hf,.inr ⟨[Fn.rN X 0 18446744073709551615 t],by simp,rfl,rfl,by simp,?_⟩⟩⟩
   rw [XD hf] at hP hQ
   show (Fn.gS X (c'+1-1) _).2=_∧_++(Fn.gS X (c'+1-1) _).1=_
   rw [qas]
   exact ⟨hP,hQ⟩
  ·have:=Vb (r:=c') hf
   rw [this] at hP
   exact absurd (show Fn.rF X 0 18446744073709551615 t=0 from (congrArg (fun q=>q.2) hP).trans he) hf
 ·refine ⟨c-ns.length,rfl,sG1,?_⟩
  by_cases hi:ns.length<c
  ·obtain ⟨r,hr⟩:∃ r,c-ns.length=r+1:=⟨c-ns.length-1,by omega⟩
   rw [hr] at hP hQ
   by_cases hf:Fn.rF X 0 18446744073709551615 t=0
   ·refine ⟨_,rfl,aua hX hn hb ht hc (.inr rfl) hf hi,.inl ⟨rfl,_,by rw [hn];exact lT hX hf,.inr ⟨ns++[Fn.rN X 0 18446744073709551615 t],by simp;omega,rfl,by simp,by simp;omega,?_⟩⟩⟩
    rw [XD hf] at hP hQ
    show (Fn.gS X (c-(ns++[_]).length) _).2=_∧(ns++[_])++(Fn.gS X (c-(ns++[_]).length) _).1=_
    rw [show c-(ns++[Fn.rN X 0 18446744073709551615 t]).length=r by simp;omega]
    exact ⟨hP,by rw [qau];exact hQ⟩
   ·have:=Vb (r:=r) hf
    rw [this] at hP
    exact absurd (show Fn.rF X 0 18446744073709551615 t=0 from (congrArg (fun q=>q.2) hP).trans he) hf
  ·have hi:ns.length=c:=by omega
   rw [show c-ns.length=0 by omega] at hP hQ
   refine ⟨_,rfl,ard hX hn hb ht hc hi,.inr ⟨fun h=>(by cases h),?_⟩⟩
   have e1:Fn.gPl X c to=t:=by unfold Fn.gPl;rw [←hP];rfl
   have e2:Fn.gWs X c to=wL ns:=by
    unfold Fn.gWs
    rw [←hQ]
    show wL (ns++[])=_
    rw [qao]
   rw [e1,e2]
def RJ (X:List Value)(n:Nat)(e0 a:Int)(c:Nat)(P:List Nat→Nat→Nat→Prop)(F:Nat→Nat→Int→Prop)(k:Nat)(sp:bM)(y:bg):Prop:=
 (∃ to,to≤n∧((sp=tG0∧y=jG0 X n to 0 a e0 c 0∧0<c∧k=c+2∧P [] 0 to)∨(∃ ns,ns.length≤c∧sp=tG1∧y=jG1 X n to 0 a e0 (wL ns) ns.length c ns.length∧k=c-ns.length+2∧P ns ns.length to)))∨
 (∃ to e a' L l i,sp=tG1∧y=jG1 X n to (qac e) a' e0 L l c i∧0<k∧F to e a')
theorem aoG {X:List Value}{n to:Nat}{e0 a:Int}{c:Nat}(hX:allB X=true)(hn:n=X.length)(hb:X.length≤4096)(hto:to≤n)(hc:c≤100000)(he:Fn.gEr X c to≠0) :
  ∃ R k,R k tG0 (jG0 X n to 0 a e0 c 0)∧qW Tryz.prog C7 KM 20 17 (fH C7 17 6) 70 R (.exit 0) eRF (oJF X n (Fn.rT X 0 18446744073709551615 (Fn.gPl X c to)) (qac (Fn.gEg X c to)) (qaa (Fn.gPl X c to))):=by
 have hc0:0<c:=by
  cases c with
  |zero=>exact absurd rfl he
  |succ c=>omega
 refine ⟨RJ X n e0 a c (fun ns i t=>(Fn.gS X (c-i) t).2=(Fn.gS X c to).2) (fun t e b=>t=Fn.rT X 0 18446744073709551615 (Fn.gPl X c to)∧e=Fn.gEg X c to∧b=qaa (Fn.gPl X c to)),c+2,.inl ⟨to,hto,.inl ⟨rfl,rfl,hc0,rfl,rfl⟩⟩,⟨?_⟩⟩
 rintro k sp y (⟨t,ht,h⟩|⟨t,e,b,L,l,i,rfl,rfl,hk,rfl,rfl,rfl⟩)
 ·rcases h with ⟨rfl,rfl,hc0,rfl,hP⟩|⟨ns,hl,rfl,rfl,rfl,hP⟩
  ·obtain ⟨c',rfl⟩:∃ c',c=c'+1:=⟨c-1,by omega⟩
   refine ⟨c'+2,rfl,tG1,?_⟩
   have hP:(Fn.gS X (c'+1) t).2=(Fn.gS X (c'+1) to).2:=hP
   by_cases hf:Fn.rF X 0 18446744073709551615 t=0
   ·refine ⟨_,rfl,ati hX hn hb ht (by omega) (.inl rfl) hf,.inl ⟨rfl,.inl ⟨_,by rw [hn];exact lT hX hf,.inr ⟨[Fn.rN X 0 18446744073709551615 t],by simp,rfl,rfl,by simp,?_⟩⟩⟩⟩
    rw [XD hf] at hP
    show (Fn.gS X (c'+1-1) _).2=_
    rw [qas]
    exact hP
   ·have:=Vb (r:=c') hf
    rw [this] at hP
    have e1:Fn.gPl X (c'+1) to=t:=by unfold Fn.gPl;rw [←hP]
    have e2:Fn.gEg X (c'+1) to=Fn.rG X 0 18446744073709551615 t:=by unfold Fn.gEg Fn.gEr Fn.rG;rw [←hP]
    refine ⟨_,rfl,arL hX hn hb ht (by omega) hf,.inl ⟨rfl,.inr ⟨_,_,_,_,_,_,rfl,rfl,by omega,by rw [e1],by rw [e2],by rw [e1]⟩⟩⟩
  ·refine ⟨c-ns.length+1,rfl,tG1,?_⟩
   by_cases hi:ns.length<c
   ·obtain ⟨r,hr⟩:∃ r,c-ns.length=r+1:=⟨c-ns.length-1,by omega⟩
    rw [hr] at hP
    by_cases hf:Fn.rF X 0 18446744073709551615 t=0
    ·refine ⟨_,rfl,aug hX hn hb ht hc (.inl rfl) hf hi,.inl ⟨rfl,.inl ⟨_,by rw [hn];exact lT hX hf,.inr ⟨ns++[Fn.rN X 0 18446744073709551615 t],by simp;omega,rfl,by simp,by simp;omega,?_⟩⟩⟩⟩
     rw [XD hf] at hP
     show (Fn.gS X (c-(ns++[_]).length) _).2=_
     rw [show c-(ns++[Fn.rN X 0 18446744073709551615 t]).length=r by simp;omega]
     exact hP
    ·have:=Vb (r:=r) hf
     rw [this] at hP
     have e1:Fn.gPl X c to=t:=by unfold Fn.gPl;rw [←hP]
     have e2:Fn.gEg X c to=Fn.rG X 0 18446744073709551615 t:=by unfold Fn.gEg Fn.gEr Fn.rG;rw [←hP]
     refine ⟨_,rfl,atM hX hn hb ht hc hf hi,.inl ⟨rfl,.inr ⟨_,_,_,_,_,_,rfl,rfl,by omega,by rw [e1],by rw [e2],by rw [e1]⟩⟩⟩
   ·exfalso
    rw [show c-ns.length=0 by omega] at hP
    exact he (show (Fn.gS X c to).2.2=0 by rw [←hP];rfl)
 ·exact ⟨k-1,by omega,tG1,_,rfl,ayp hX,.inr ⟨fun h=>(by cases h),rfl⟩⟩
theorem ao4 {X:List Value}{n to:Nat}{e0 a:Int}{c:Nat}(hX:allB X=true)(hn:n=X.length)(hb:X.length≤4096)(hto:to≤n)(hc:c≤100000)(hc0:0<c)(he:Fn.gEr X c to=0) :
  ∃ R k,R k tG0 (jG0 X n to 0 a e0 c 0)∧qW Tryz.prog C7 KM 20 17 (fH C7 17 6) 70 R (.exit 0) eG1 (oJK X n (Fn.gPl X c to) a e0 (Fn.gWs X c to) c):=by
 refine ⟨RJ X n e0 a c (fun ns i t=>(Fn.gS X (c-i) t).2=(Fn.gS X c to).2∧ns++(Fn.gS X (c-i) t).1=(Fn.gS X c to).1) (fun _ _ _=>False),c+2,.inl ⟨to,hto,.inl ⟨rfl,rfl,hc0,rfl,⟨rfl,rfl⟩⟩⟩,⟨?_⟩⟩
 rintro k sp y (⟨t,ht,h⟩|⟨t,e,b,L,l,i,rfl,rfl,hk,hF⟩)
 ·rcases h with ⟨rfl,rfl,hc0,rfl,hP,hQ⟩|⟨ns,hl,rfl,rfl,rfl,hP,hQ⟩
  ·obtain ⟨c',rfl⟩:∃ c',c=c'+1:=⟨c-1,by omega⟩
   refine ⟨c'+2,rfl,tG1,?_⟩
   have hP:(Fn.gS X (c'+1) t).2=(Fn.gS X (c'+1) to).2:=hP
   have hQ:(Fn.gS X (c'+1) t).1=(Fn.gS X (c'+1) to).1:=hQ
   by_cases hf:Fn.rF X 0 18446744073709551615 t=0
   ·refine ⟨_,rfl,ati hX hn hb ht (by omega) (.inr rfl) hf,.inl ⟨rfl,.inl ⟨_,by rw [hn];exact lT hX hf,.inr ⟨[Fn.rN X 0 18446744073709551615 t],by simp,rfl,rfl,by simp,?_⟩⟩⟩⟩
    rw [XD hf] at hP hQ
    show (Fn.gS X (c'+1-1) _).2=_∧_++(Fn.gS X (c'+1-1) _).1=_
    rw [qas]
    exact ⟨hP,hQ⟩
   ·have:=Vb (r:=c') hf
    rw [this] at hP
    exact absurd (show Fn.rF X 0 18446744073709551615 t=0 from (congrArg (fun q=>q.2) hP).trans he) hf
  ·refine ⟨c-ns.length+1,rfl,tG1,?_⟩
   by_cases hi:ns.length<c
   ·obtain ⟨r,hr⟩:∃ r,c-ns.length=r+1:=⟨c-ns.length-1,by omega⟩
    rw [hr] at hP hQ
    by_cases hf:Fn.rF X 0 18446744073709551615 t=0
    ·refine ⟨_,rfl,aug hX hn hb ht hc (.inr rfl) hf hi,.inl ⟨rfl,.inl ⟨_,by rw [hn];exact lT hX hf,.inr ⟨ns++[Fn.rN X 0 18446744073709551615 t],by simp;omega,rfl,by simp,by simp;omega,?_⟩⟩⟩⟩
     rw [XD hf] at hP hQ
     show (Fn.gS X (c-(ns++[_]).length) _).2=_∧(ns++[_])++(Fn.gS X (c-(ns++[_]).length) _).1=_
     rw [show c-(ns++[Fn.rN X 0 18446744073709551615 t]).length=r by simp;omega]
     exact ⟨hP,by rw [qau];exact hQ⟩
    ·have:=Vb (r:=r) hf
     rw [this] at hP
     exact absurd (show Fn.rF X 0 18446744073709551615 t=0 from (congrArg (fun q=>q.2) hP).trans he) hf
   ·have hi:ns.length=c:=by omega
    rw [show c-ns.length=0 by omega] at hP hQ
    refine ⟨_,rfl,atg hX hn hb ht hc hi,.inr ⟨fun h=>(by cases h),?_⟩⟩
    have e1:Fn.gPl X c to=t:=by unfold Fn.gPl;rw [←hP];rfl
    have e2:Fn.gWs X c to=wL ns:=by
     unfold Fn.gWs
     rw [←hQ]
     show wL (ns++[])=_
     rw [qao]
    rw [e1,e2]
 ·exact hF.elim
abbrev LT:=Tree (Ex × bM × bg)
def awL {R:Type}(l m:List Value)(k:Tree R):Tree R:=JM (zl (Ad 4) l m) k
theorem Vq {R:Type}{l m:List Value}{k:Tree R}{r:R}(h:(awL l m k).run=some r):l=m∧k.run=some r:=by
 obtain ⟨h1,h2⟩:=fP h
 exact ⟨qh (fun a b=>oJ 4) h1,h2⟩
def aoT (l:List Value)(k:Nat→LT):LT:=
 bZ l fun a l=>ad2 64 a (bZ l fun b l=>ad2 65 b (bZ l fun c l=>ad2 68 c (bZ l fun d l=>ad2 69 d (bZ l fun x l=>DJ .i64 x fun c=>bZ l fun y l=>DJ .i64 y fun i=>zn l (JM (qaf i 0) (k c))))))
theorem Qw {l:List Value}{k:Nat→LT}{r:Ex × bM × bg}(h:(aoT l k).run=some r):∃ c,l=[pt 64,pt 65,pt 68,pt 69,iN c,iN 0]∧(k c).run=some r:=by
 obtain ⟨v1,l1,hl,z0⟩:=aB h
 obtain ⟨rfl,z1⟩:=kP z0
 obtain ⟨v2,l2,rfl,z2⟩:=aB (l:=l1) z1
 obtain ⟨rfl,z3⟩:=kP z2
 obtain ⟨v3,l3,rfl,z4⟩:=aB (l:=l2) z3
 obtain ⟨rfl,z5⟩:=kP z4
 obtain ⟨v4,l4,rfl,z6⟩:=aB (l:=l3) z5
 obtain ⟨rfl,z7⟩:=kP z6
 obtain ⟨v5,l5,rfl,z8⟩:=aB (l:=l4) z7
 obtain ⟨c,rfl,z9⟩:=dG z8
 obtain ⟨v6,l6,rfl,z10⟩:=aB (l:=l5) z9
 obtain ⟨i,rfl,z11⟩:=dG z10
 obtain ⟨rfl,z12⟩:=bV z11
 obtain ⟨hi,z13⟩:=fP z12
 have hi:i=0:=qab hi
 subst hi
 exact ⟨c,hl,z13⟩
def ajE (tR:TypeId)(l:List (Nat × Row))(k:List Value→List Value→Int→LT):LT:=
 bZ l fun q1 l=>Cm 64 tAn 0 q1 fun z1=>awL z1 [.int .i64 0,.slice none 0 0] (bZ l fun q2 l=>Cm 65 tFa 0 q2 fun z2=>awL z2 [.int .i64 0,.int .i64 0] (bZ l fun q3 l=>Cm 67 tB 67 q3 fun X=>
  bZ l fun q4 l=>Cm 68 tR 0 q4 fun rd=>bZ l fun q5 l=>Cm 69 tAn 0 q5 fun z5=>zn l (bZ z5 fun a l=>aoq .i64 a fun e0=>bZ l fun b l=>asP b (zn l (k X rd e0)))))
theorem LY {tR:TypeId}{l:List (Nat × Row)}{k:List Value→List Value→Int→LT}{r:Ex × bM × bg}(w0:(ajE tR l k).run=some r) :
  ∃ X rd e0,l=[(64,.row [.int .i64 0,.slice none 0 0] tAn 0),(65,.row [.int .i64 0,.int .i64 0] tFa 0),(67,.row X tB 67),(68,.row rd tR 0),(69,.row [.int .i64 e0,.slice none 0 0] tAn 0)]∧(k X rd e0).run=some r:=by
 obtain ⟨q1,l1,hl,w1⟩:=aB w0
 obtain ⟨z1,rfl,w2⟩:=dA (p:=q1) w1
 obtain ⟨rfl,w3⟩:=Vq w2
 obtain ⟨q2,l2,rfl,w4⟩:=aB (l:=l1) w3
 obtain ⟨z2,rfl,w5⟩:=dA (p:=q2) w4
 obtain ⟨rfl,w6⟩:=Vq w5
 obtain ⟨q3,l3,rfl,w7⟩:=aB (l:=l2) w6
 obtain ⟨X,rfl,w8⟩:=dA (p:=q3) w7
 obtain ⟨q4,l4,rfl,w9⟩:=aB (l:=l3) w8
 obtain ⟨rd,rfl,w10⟩:=dA (p:=q4) w9
 obtain ⟨q5,l5,rfl,w11⟩:=aB (l:=l4) w10
 obtain ⟨z5,rfl,w12⟩:=dA (p:=q5) w11
 obtain ⟨rfl,w13⟩:=bV w12
 obtain ⟨a,m1,rfl,w14⟩:=aB (l:=z5) w13
 obtain ⟨e0,rfl,w15⟩:=AQ w14
 obtain ⟨b,m2,rfl,w16⟩:=aB (l:=m1) w15
 obtain ⟨rfl,w17⟩:=Nk w16
 obtain ⟨rfl,w18⟩:=bV w17
 exact ⟨X,rd,e0,hl,w18⟩
def auL (X:List Value)(n to c:Nat):Bool:=Fn.okR X n to&&(qat n 4096&&qat c 100000)
theorem WL {X:List Value}{n to c:Nat}(h:auL X n to c=true):allB X=true∧n=X.length∧X.length≤4096∧to≤n∧c≤100000:=by
 unfold auL at h
 simp only [qae] at h
 obtain ⟨h1,h2,h3⟩:=h
 obtain ⟨g1,g2,g3,g4⟩:=qC h1
 have h2:=qad h2
 exact ⟨g1,g2,by omega,g4,qad h3⟩
namespace Fn
def okG (X:List Value)(n to c:Nat):Bool:=Ax.auL X n to c
end Fn
def axB (o:bg):LT:=aoT o.vals fun c=>ajE tRd o.rows fun X rd e0=>bZ rd fun a1 l=>pSl 67 aF a1 fun n=>bZ l fun a2 l=>DJ .i64 a2 fun to=>bZ l fun a3 l=>pTrue a3 (bZ l fun a4 l=>akk a4 (zn l (
 bY (Fn.okG X n to c) (.test (qaf c 0) (.leaf (.exit 0,eG0,oG0 X n to e0)) (.test (qaf (Fn.gEr X c to) 0) (.leaf (.exit 0,eG1,oGK X n (Fn.gPl X c to) e0 (Fn.gWs X c to) c)) (.leaf (.exit 0,eGF,oGF X n (Fn.gPl X c to) (fE2 (Fn.gEg X c to)))))))))
def ayc (o:bg):LT:=aoT o.vals fun c=>ajE tRr o.rows fun X rd e0=>bZ rd fun a1 l=>pSl 67 aF a1 fun n=>bZ l fun a2 l=>DJ .i64 a2 fun to=>bZ l fun a3 l=>DJ .i64 a3 fun e=>bZ l fun a4 l=>aoq .i64 a4 fun a=>zn l (
 Nat.casesOn (motive:=fun _=>LT) e (bY (Fn.okG X n to c) (.test (qaf c 0) (.leaf (.exit 0,eG0,oJ0 X n to a e0)) (.test (qaf (Fn.gEr X c to) 0) (.leaf (.exit 0,eG1,oJK X n (Fn.gPl X c to) a e0 (Fn.gWs X c to) c)) (.leaf (.exit 0,eRF,oJF X n (Fn.rT X 0 18446744073709551615 (Fn.gPl X c to)) (qac (Fn.gEg X c to)) (qaa (Fn.gPl X c to)))))))
  fun e=>bY (Fn.okX X) (.leaf (.exit 0,eRF,oJF X n to (qac e) a)))
theorem Il {f:FuncId}{body:Code}{sp spe:bM}{y O:bg}{N:Nat}{sn:bM}(hN:sn.N=N)(h:jC KM.plain C7 (runK KM C7 20).1 (runK KM C7 20).2 (C7.vars f) f false body (fV Tryz.prog (C7.vars f) sn spe) (Cc sp.need y) (lF sp.next y)=some (.exit 0,O)) :
  ∃ R k,R k sp y∧qW Tryz.prog C7 KM 20 f body N R (.exit 0) spe O:=
 ⟨fun k sp' y'=>k=1∧sp'=sp∧y'=y,1,⟨rfl,rfl,rfl⟩,⟨by rintro k sp' y' ⟨rfl,rfl,rfl⟩;exact ⟨0,rfl,sn,_,hN,h,.inr ⟨fun h=>(by cases h),rfl⟩⟩⟩⟩
theorem akH:∀ o e spe O,(axB o).run=some (e,spe,O)→spe.N=sG0.N∧∃ R k,R k sG0 o∧qW Tryz.prog C7 KM 20 16 (fH C7 16 5) sG0.N R e spe O:=by
 rintro ⟨vals,rows⟩ e spe O w0
 obtain ⟨c,hv,w1⟩:=Qw w0
 obtain ⟨X,rd,e0,hr,w2⟩:=LY w1
 obtain ⟨a1,l1,rfl,w3⟩:=aB (l:=rd) w2
 obtain ⟨n,rfl,w4⟩:=jQ w3
 obtain ⟨a2,l2,rfl,w5⟩:=aB (l:=l1) w4
 obtain ⟨to,rfl,w6⟩:=dG w5
 obtain ⟨a3,l3,rfl,w7⟩:=aB (l:=l2) w6
 obtain ⟨rfl,w8⟩:=sW w7
 obtain ⟨a4,l4,rfl,w9⟩:=aB (l:=l3) w8
 obtain ⟨rfl,w10⟩:=QI w9
 obtain ⟨rfl,w11⟩:=bV w10
 obtain ⟨hk,w12⟩:=aJ w11
 obtain ⟨hX,hn,hb,hto,hc⟩:=WL hk
 have hv:vals=_:=hv
 have hr:rows=_:=hr
 subst hv hr
 have w13:sel (qaf c 0) (some (.exit 0,eG0,oG0 X n to e0)) (sel (qaf (Fn.gEr X c to) 0) (some (.exit 0,eG1,oGK X n (Fn.gPl X c to) e0 (Fn.gWs X c to) c)) (some (.exit 0,eGF,oGF X n (Fn.gPl X c to) (fE2 (Fn.gEg X c to)))))=some (e,spe,O):=w12
 rw [aG,aG] at w13
 split at w13
 ·rename_i h0
  have h0:c=0:=qab h0
  subst h0
  cases w13
  exact ⟨rfl,Il (sn:=sG1) rfl (atq hX hn hb hto hc)⟩
 ·rename_i h0
  have h0:0<c:=qay fun h=>h0 (jG h)
  split at w13
  ·rename_i h1
   cases w13
   exact ⟨rfl,aoX hX hn hb hto hc h0 (qab h1)⟩
  ·rename_i h1
   cases w13
   exact ⟨rfl,anZ hX hn hb hto hc fun h=>h1 (jG h)⟩
theorem aj8:∀ o e spe O,(ayc o).run=some (e,spe,O)→spe.N=tG0.N∧∃ R k,R k tG0 o∧qW Tryz.prog C7 KM 20 17 (fH C7 17 6) tG0.N R e spe O:=by
 rintro ⟨vals,rows⟩ ex spe O w0
 obtain ⟨c,hv,w1⟩:=Qw w0
 obtain ⟨X,rd,e0,hr,w2⟩:=LY w1
 obtain ⟨a1,l1,rfl,w3⟩:=aB (l:=rd) w2
 obtain ⟨n,rfl,w4⟩:=jQ w3
 obtain ⟨a2,l2,rfl,w5⟩:=aB (l:=l1) w4
 obtain ⟨to,rfl,w6⟩:=dG w5
 obtain ⟨a3,l3,rfl,w7⟩:=aB (l:=l2) w6
 obtain ⟨e,rfl,w8⟩:=dG w7
 obtain ⟨a4,l4,rfl,w9⟩:=aB (l:=l3) w8
 obtain ⟨a,rfl,w10⟩:=AQ w9
 obtain ⟨rfl,w11⟩:=bV w10
 have hv:vals=_:=hv
 have hr:rows=_:=hr
 subst hv hr
 cases e with
 |succ e=>
  obtain ⟨hX,w12⟩:=aJ w11
  cases w12
  exact ⟨rfl,Il (sn:=tG1) rfl (ayz hX)⟩
 |zero=>
  obtain ⟨hk,w12⟩:=aJ w11
  obtain ⟨hX,hn,hb,hto,hc⟩:=WL hk
  have w13:sel (qaf c 0) (some (.exit 0,eG0,oJ0 X n to a e0)) (sel (qaf (Fn.gEr X c to) 0) (some (.exit 0,eG1,oJK X n (Fn.gPl X c to) a e0 (Fn.gWs X c to) c)) (some (.exit 0,eRF,oJF X n (Fn.rT X 0 18446744073709551615 (Fn.gPl X c to)) (qac (Fn.gEg X c to)) (qaa (Fn.gPl X c to)))))=some (ex,spe,O):=w12
  rw [aG,aG] at w13
  split at w13
  ·rename_i h0
   have h0:c=0:=qab h0
   subst h0
   cases w13
   exact ⟨rfl,Il (sn:=tG1) rfl (aq8 hX hn hb hto hc)⟩
  ·rename_i h0
   have h0:0<c:=qay fun h=>h0 (jG h)
   split at w13
   ·rename_i h1
    cases w13
    exact ⟨rfl,ao4 hX hn hb hto hc h0 (qab h1)⟩
   ·rename_i h1
    cases w13
    exact ⟨rfl,aoG hX hn hb hto hc fun h=>h1 (jG h)⟩
def ahe:List (Nat × Nat × L8):=[(16,5,wG Tryz.prog (CB.vars 16) sG0 axB),(17,6,wG Tryz.prog (CB.vars 17) tG0 ayc)]
def C8:Cfg:={ CB with ext:=eH [],insert:=eH aqJ,Le:=Ru ahe }
theorem oneG:qaf (aQ (tN C7 16 5)) 1=true:=by kernel_rfl
theorem ayd:qaf (aQ (tN C7 17 6)) 1=true:=by kernel_rfl
theorem alP:∀ fn c body,C8.body fn=some c→PartOf c (.loop body)→uJ Tryz.prog C8 fn body:=by
 refine TF (L:=ahe) rfl fun q hq=>?_
 rcases List.mem_cons.1 hq with rfl|hq
 ·exact mX (K:=KM) (C0:=C7) (m:=20) (by decide) bI aY Rw rfl rfl oneG rfl akH
 ·rcases List.mem_cons.1 hq with rfl|hq
  ·exact mX (K:=KM) (C0:=C7) (m:=20) (by decide) bI aY Rw rfl rfl ayd rfl aj8
  ·cases hq
theorem avf:dS C8 Tryz.prog:=aao (ext:=eH []) (ins:=eH aqJ) (lf:=Ru ahe) rfl (fun f t h=>dI.to ahT rfl f t h) (fun f e h=>by cases h) alP
end
end Go.Ax
namespace Go.Ax
open Go Go.Proofs
noncomputable section
def acA (m:Nat):=(qag 0 m.succ).ble 281474976710656&&(((qax 2 (qag 0 m.succ)).add 768).mul 1).ble 281474976710656&&true&&true
def Yx:Value:=.int .i64 (qaa 4)
def abv (X:List Value)(m:Nat):Value:=.int .i64 (qaa (Fn.rN (aI [] (aA (m.succ.mul 1) X)) 0 99 0))
def acf (X:List Value)(m:Nat):Option cO:=some { val:=[.agg [.flat (abv X m),.flat (.slice none 0 0)],.agg [.flat (.int .i64 0),.flat (.int .i64 0)]],rows:=[] }
def ach (X:List Value)(m:Nat):Value:=.int .i64 (qaa (Fn.gPl (aI [] (aA (m.succ.mul 1) X)) (Fn.rN (aI [] (aA (m.succ.mul 1) X)) 0 100000 (Fn.rP (aI [] (aA (m.succ.mul 1) X)) 0 99 0)) (Fn.rP (aI [] (aA (m.succ.mul 1) X)) 0 100000 (Fn.rP (aI [] (aA (m.succ.mul 1) X)) 0 99 0))))
def abo (X:List Value)(m:Nat):Option cO:=sel (Fn.okG (aI [] (aA (m.succ.mul 1) X)) (qag 0 m.succ) (Fn.rP (aI [] (aA (m.succ.mul 1) X)) 0 100000 (Fn.rP (aI [] (aA (m.succ.mul 1) X)) 0 99 0)) (Fn.rN (aI [] (aA (m.succ.mul 1) X)) 0 100000 (Fn.rP (aI [] (aA (m.succ.mul 1) X)) 0 99 0))) (sel ((Fn.rN (aI [] (aA (m.succ.mul 1) X)) 0 100000 (Fn.rP (aI [] (aA (m.succ.mul 1) X)) 0 99 0)).beq 0) (sel (Fn.okX (aI [] (aA (m.succ.mul 1) X))) (sel (ltN (Fn.rP (aI [] (aA (m.succ.mul 1) X)) 0 100000 (Fn.rP (aI [] (aA (m.succ.mul 1) X)) 0 99 0)) (qag 0 m.succ)) (sel (sel (false||true&&sel (true&&eqI (qaa (Fn.rP (aI [] (aA (m.succ.mul 1) X)) 0 100000 (Fn.rP (aI [] (aA (m.succ.mul 1) X)) 0 99 0))) (qaa (Fn.rP (aI [] (aA (m.succ.mul 1) X)) 0 100000 (Fn.rP (aI [] (aA (m.succ.mul 1) X)) 0 99 0)))) true false) true false&&true) (some { val:=[.agg [.flat (.int .i64 0),.flat (.slice none 0 0)],.agg [.flat Yx,.flat (.int .i64 (qaa (Fn.rP (aI [] (aA (m.succ.mul 1) X)) 0 100000 (Fn.rP (aI [] (aA (m.succ.mul 1) X)) 0 99 0))))]],rows:=[] }) none) (acf X m)) none) (sel ((Fn.gEr (aI [] (aA (m.succ.mul 1) X)) (Fn.rN (aI [] (aA (m.succ.mul 1) X)) 0 100000 (Fn.rP (aI [] (aA (m.succ.mul 1) X)) 0 99 0)) (Fn.rP (aI [] (aA (m.succ.mul 1) X)) 0 100000 (Fn.rP (aI [] (aA (m.succ.mul 1) X)) 0 99 0))).beq 0) (sel (Fn.okX (aI [] (aA (m.succ.mul 1) X))) (sel (ltN (Fn.gPl (aI [] (aA (m.succ.mul 1) X)) (Fn.rN (aI [] (aA (m.succ.mul 1) X)) 0 100000 (Fn.rP (aI [] (aA (m.succ.mul 1) X)) 0 99 0)) (Fn.rP (aI [] (aA (m.succ.mul 1) X)) 0 100000 (Fn.rP (aI [] (aA (m.succ.mul 1) X)) 0 99 0))) (qag 0 m.succ)) (sel (sel (false||true&&sel (true&&eqI (qaa (Fn.gPl (aI [] (aA (m.succ.mul 1) X)) (Fn.rN (aI [] (aA (m.succ.mul 1) X)) 0 100000 (Fn.rP (aI [] (aA (m.succ.mul 1) X)) 0 99 0)) (Fn.rP (aI [] (aA (m.succ.mul 1) X)) 0 100000 (Fn.rP (aI [] (aA (m.succ.mul 1) X)) 0 99 0)))) (qaa (Fn.gPl (aI [] (aA (m.succ.mul 1) X)) (Fn.rN (aI [] (aA (m.succ.mul 1) X)) 0 100000 (Fn.rP (aI [] (aA (m.succ.mul 1) X)) 0 99 0)) (Fn.rP (aI [] (aA (m.succ.mul 1) X)) 0 100000 (Fn.rP (aI [] (aA (m.succ.mul 1) X)) 0 99 0))))) true false) true false&&true) (some { val:=[.agg [.flat (.int .i64 0),.flat (.slice none 0 0)],.agg [.flat Yx,.flat (ach X m)]],rows:=[] }) none) (some { val:=[.agg [.flat (abv X m),.sl 0 (Fn.rN (aI [] (aA (m.succ.mul 1) X)) 0 100000 (Fn.rP (aI [] (aA (m.succ.mul 1) X)) 0 99 0))],.agg [.flat (.int .i64 0),.flat (.int .i64 0)]],rows:=[(Fn.gWs (aI [] (aA (m.succ.mul 1) X)) (Fn.rN (aI [] (aA (m.succ.mul 1) X)) 0 100000 (Fn.rP (aI [] (aA (m.succ.mul 1) X)) 0 99 0)) (Fn.rP (aI [] (aA (m.succ.mul 1) X)) 0 100000 (Fn.rP (aI [] (aA (m.succ.mul 1) X)) 0 99 0)),45)] })) none) (sel (Fn.okX (aI [] (aA (m.succ.mul 1) X))) (sel (sel (false||true&&sel (true&&eqI (qaa (Fn.gEg (aI [] (aA (m.succ.mul 1) X)) (Fn.rN (aI [] (aA (m.succ.mul 1) X)) 0 100000 (Fn.rP (aI [] (aA (m.succ.mul 1) X)) 0 99 0)) (Fn.rP (aI [] (aA (m.succ.mul 1) X)) 0 100000 (Fn.rP (aI [] (aA (m.succ.mul 1) X)) 0 99 0))).succ) (qaa (Fn.gEg (aI [] (aA (m.succ.mul 1) X)) (Fn.rN (aI [] (aA (m.succ.mul 1) X)) 0 100000 (Fn.rP (aI [] (aA (m.succ.mul 1) X)) 0 99 0)) (Fn.rP (aI [] (aA (m.succ.mul 1) X)) 0 100000 (Fn.rP (aI [] (aA (m.succ.mul 1) X)) 0 99 0))).succ)) (sel (true&&eqI (qaa (Fn.gPl (aI [] (aA (m.succ.mul 1) X)) (Fn.rN (aI [] (aA (m.succ.mul 1) X)) 0 100000 (Fn.rP (aI [] (aA (m.succ.mul 1) X)) 0 99 0)) (Fn.rP (aI [] (aA (m.succ.mul 1) X)) 0 100000 (Fn.rP (aI [] (aA (m.succ.mul 1) X)) 0 99 0)))) (qaa (Fn.gPl (aI [] (aA (m.succ.mul 1) X)) (Fn.rN (aI [] (aA (m.succ.mul 1) X)) 0 100000 (Fn.rP (aI [] (aA (m.succ.mul 1) X)) 0 99 0)) (Fn.rP (aI [] (aA (m.succ.mul 1) X)) 0 100000 (Fn.rP (aI [] (aA (m.succ.mul 1) X)) 0 99 0))))) true false) false) true false&&true) (some { val:=[.agg [.flat (.int .i64 0),.flat (.slice none 0 0)],.agg [.flat (.int .i64 (qaa (Fn.gEg (aI [] (aA (m.succ.mul 1) X)) (Fn.rN (aI [] (aA (m.succ.mul 1) X)) 0 100000 (Fn.rP (aI [] (aA (m.succ.mul 1) X)) 0 99 0)) (Fn.rP (aI [] (aA (m.succ.mul 1) X)) 0 100000 (Fn.rP (aI [] (aA (m.succ.mul 1) X)) 0 99 0))).succ)),.flat (ach X m)]],rows:=[] }) none) none))) none
def aa4 (X:List Value)(m:Nat):Value:=.int .i64 (qaa (Fn.rP (aI [] (aA (m.succ.mul 1) X)) 0 99 0))
def abJ (X:List Value)(m:Nat):Option cO:=sel (Fn.okX (aI [] (aA (m.succ.mul 1) X))) (sel (sel (false||true&&sel (true&&eqI (qaa (Fn.rG (aI [] (aA (m.succ.mul 1) X)) 0 100000 (Fn.rP (aI [] (aA (m.succ.mul 1) X)) 0 99 0)).succ) (qaa (Fn.rG (aI [] (aA (m.succ.mul 1) X)) 0 100000 (Fn.rP (aI [] (aA (m.succ.mul 1) X)) 0 99 0)).succ)) (sel (true&&eqI (qaa (Fn.rP (aI [] (aA (m.succ.mul 1) X)) 0 99 0)) (qaa (Fn.rP (aI [] (aA (m.succ.mul 1) X)) 0 99 0))) true false) false) true false&&true) (some { val:=[.agg [.flat (.int .i64 0),.flat (.slice none 0 0)],.agg [.flat (.int .i64 (qaa (Fn.rG (aI [] (aA (m.succ.mul 1) X)) 0 100000 (Fn.rP (aI [] (aA (m.succ.mul 1) X)) 0 99 0)).succ)),.flat (aa4 X m)]],rows:=[] }) none) none
def acw (X:List Value)(m:Nat):Option cO:=sel (Fn.okX (aI [] (aA (m.succ.mul 1) X))) (sel (ltN (Fn.rP (aI [] (aA (m.succ.mul 1) X)) 0 99 0) (qag 0 m.succ)) (sel (sel (false||true&&sel (true&&eqI (qaa (Fn.rP (aI [] (aA (m.succ.mul 1) X)) 0 99 0)) (qaa (Fn.rP (aI [] (aA (m.succ.mul 1) X)) 0 99 0))) true false) true false&&true) (some { val:=[.agg [.flat (.int .i64 0),.flat (.slice none 0 0)],.agg [.flat Yx,.flat (aa4 X m)]],rows:=[] }) none) (acf X m)) none
def acr (X:List Value)(m:Nat):Option cO:=sel (Fn.okX (aI [] (aA (m.succ.mul 1) X))) (sel (sel (false||true&&sel (true&&eqI (qaa (Fn.rG (aI [] (aA (m.succ.mul 1) X)) 0 99 0).succ) (qaa (Fn.rG (aI [] (aA (m.succ.mul 1) X)) 0 99 0).succ)) true false) true false&&true) (some { val:=[.agg [.flat (.int .i64 0),.flat (.slice none 0 0)],.agg [.flat (.int .i64 (qaa (Fn.rG (aI [] (aA (m.succ.mul 1) X)) 0 99 0).succ)),.flat (.int .i64 (qaa 0))]],rows:=[] }) none) none
theorem ayi (X:List Value)(m:Nat):(runK KM C8 40).1 16 [.slice (some ⟨32,0,none⟩) (qac m) aF] (aP [.one (.sl X 5 (qac m))]) (dJ Tryz.prog)=sel ((m.succ.mul 1).ble (aQ X)) (sel (acA m) (sel (Fn.okR (aI [] (aA (m.succ.mul 1) X)) (qag 0 m.succ) 0) (sel ((Fn.rF (aI [] (aA (m.succ.mul 1) X)) 0 99 0).beq 0) (sel (eqI (qaa (Fn.rN (aI [] (aA (m.succ.mul 1) X)) 0 99 0)) 0) (sel (Fn.okR (aI [] (aA (m.succ.mul 1) X)) (qag 0 m.succ) (Fn.rP (aI [] (aA (m.succ.mul 1) X)) 0 99 0)) (sel ((Fn.rF (aI [] (aA (m.succ.mul 1) X)) 0 100000 (Fn.rP (aI [] (aA (m.succ.mul 1) X)) 0 99 0)).beq 0) (sel (List.rec true (fun v x ih=>sel (aX sG0.N v) ih false) (aI [] (aA (m.succ.mul 1) X))) (abo X m) none) (abJ X m)) none) (acw X m)) (sel (Fn.okX (aI [] (aA (m.succ.mul 1) X))) (acr X m) none)) none) none) none:=by kernel_rfl
theorem axQ (X:List Value)(m:Nat):(runK KM C8 40).1 17 [.slice (some ⟨32,0,none⟩) (qac m) aF] (aP [.one (.sl X 5 (qac m))]) (dJ Tryz.prog)=sel ((m.succ.mul 1).ble (aQ X)) (sel (acA m) (sel (Fn.okR (aI [] (aA (m.succ.mul 1) X)) (qag 0 m.succ) 0) (sel ((Fn.rF (aI [] (aA (m.succ.mul 1) X)) 0 99 0).beq 0) (sel (eqI (qaa (Fn.rN (aI [] (aA (m.succ.mul 1) X)) 0 99 0)) 0) (sel (Fn.okR (aI [] (aA (m.succ.mul 1) X)) (qag 0 m.succ) (Fn.rP (aI [] (aA (m.succ.mul 1) X)) 0 99 0)) (sel ((Fn.rF (aI [] (aA (m.succ.mul 1) X)) 0 100000 (Fn.rP (aI [] (aA (m.succ.mul 1) X)) 0 99 0)).beq 0) (sel (List.rec true (fun v x ih=>sel (aX tG0.N v) ih false) (aI [] (aA (m.succ.mul 1) X))) (abo X m) none) (sel (List.rec true (fun v x ih=>sel (aX tG0.N v) ih false) (aI [] (aA (m.succ.mul 1) X))) (sel (Fn.okX (aI [] (aA (m.succ.mul 1) X))) (abJ X m) none) none)) none) (acw X m)) (acr X m)) none) none) none:=by kernel_rfl
theorem apx (X:List Value)(m:Nat):type_of% (by have h_:=axQ X m;unfold acr acw abJ aa4 abo ach acf abv Yx acA at h_;exact h_):=axQ X m
namespace Fn
def gZ (X:List Value):Bool:=qaf (gNs X).length 0
def gLn (X:List Value):Nat:=(gNs X).length
def gWw (X:List Value):List Value:=wL (gNs X)
def gTe (X:List Value):Nat:=(gT X).1-1
def gTa (X:List Value):Nat:=(gT X).2
def gTo (X:List Value):Bool:=qaf (gT X).1 0
def qTe (X:List Value):Nat:=(qT X).1-1
def qTa (X:List Value):Nat:=(qT X).2
def qTo (X:List Value):Bool:=qaf (qT X).1 0
def q0 (X:List Value):Nat:=(qQ X).1
def q1 (X:List Value):Nat:=(qQ X).2.1
def q2 (X:List Value):Nat:=(qQ X).2.2.1
def q3 (X:List Value):Nat:=(qQ X).2.2.2.1
def q4 (X:List Value):Nat:=(qQ X).2.2.2.2
end Fn
def atb (e:Nat):cO:=⟨[.agg [.flat (iN e),.flat (.slice none 0 0)],.agg [.flat (iN 0),.flat (iN 0)]],[]⟩
def ap4 (e k:Nat)(L:List Value):cO:=⟨[.agg [.flat (iN e),.sl 0 k],.agg [.flat (iN 0),.flat (iN 0)]],[(L,tW)]⟩
def auz (e a:Nat):cO:=⟨[.agg [.flat (iN 0),.flat (.slice none 0 0)],.agg [.flat (iN e),.flat (iN a)]],[]⟩
def Tn (X:List Value):Tree cO:=.test (Fn.gTo X) (.test (Fn.gZ X) (.leaf (atb (Fn.vY X))) (.leaf (ap4 (Fn.vY X) (Fn.gLn X) (Fn.gWw X)))) (.leaf (auz (qac (Fn.gTe X)) (Fn.gTa X)))
def qMk (k a v c h:Nat):cO:=⟨[.agg [.flat (iN k),.flat (iN a),.flat (iN v),.flat (iN c),.flat (iN h)],.agg [.flat (iN 0),.flat (iN 0)]],[]⟩
def axH (e a:Nat):cO:=⟨[.agg [.flat (iN 0),.flat (iN 0),.flat (iN 0),.flat (iN 0),.flat (iN 0)],.agg [.flat (iN e),.flat (iN a)]],[]⟩
def X3 (X:List Value):Tree cO:=.test (Fn.qTo X) (.leaf (qMk (Fn.q0 X) (Fn.q1 X) (Fn.q2 X) (Fn.q3 X) (Fn.q4 X))) (.leaf (axH (qac (Fn.qTe X)) (Fn.qTa X)))
theorem xE {X:List Value}{e p:Nat}(h:Fn.gT X=(e,p))(he:e≠0):(Tn X).run=some (auz e p):=by
 show sel (Fn.gTo X) _ (some (auz (qac (Fn.gTe X)) (Fn.gTa X)))=_
 unfold Fn.gTo Fn.gTe Fn.gTa
 rw [h,show qaf (e,p).1 0=false from sQ he,show qac ((e,p).1-1)=e by show e-1+1=e;omega]
 rfl
theorem Yz {X:List Value}{e:Nat}(h:Fn.gT X=(0,0))(h1:Fn.vY X=e)(h2:Fn.gNs X=[]):(Tn X).run=some (atb e):=by
 show sel (Fn.gTo X) (sel (Fn.gZ X) (some (atb (Fn.vY X))) _) _=_
 unfold Fn.gTo Fn.gZ
 rw [h,h1,h2]
 rfl
theorem alZ {X:List Value}{e k:Nat}{ns:List Nat}(h:Fn.gT X=(0,0))(h1:Fn.vY X=e)(h2:Fn.gNs X=ns)(h3:ns.length=k)(h4:k≠0):(Tn X).run=some (ap4 e k (wL ns)):=by
 show sel (Fn.gTo X) (sel (Fn.gZ X) (some (atb (Fn.vY X))) (some (ap4 (Fn.vY X) (Fn.gLn X) (Fn.gWw X)))) _=_
 unfold Fn.gTo Fn.gZ Fn.gLn Fn.gWw
 rw [h,h1,h2,h3,show qaf k 0=false from sQ h4]
 rfl
theorem PL {X:List Value}:(X3 X).run=some (Fn.ru X):=by
 show sel (Fn.qTo X) (some (qMk (Fn.q0 X) (Fn.q1 X) (Fn.q2 X) (Fn.q3 X) (Fn.q4 X))) (some (axH (qac (Fn.qTe X)) (Fn.qTa X)))=_
 unfold Fn.qTo Fn.qTe Fn.qTa Fn.q0 Fn.q1 Fn.q2 Fn.q3 Fn.q4
 by_cases h:(Fn.qT X).1=0
 ·have h2:Fn.qT X=(0,0):=by
   have e:Fn.qT X=ND X (Fn.qF X).2:=rfl
   unfold ND at e
   split at e
   ·rename_i h1;rw [e] at h;exact absurd h h1
   ·split at e
    ·rw [e] at h;cases h
    ·exact e
  rw [jG h]
  unfold Fn.ru
  rw [h2]
  rfl
 ·rw [sQ h,show qac ((Fn.qT X).1-1)=(Fn.qT X).1 by omega]
  unfold Fn.ru
  rw [amJ h]
  rfl
theorem aeQ {X:List Value}{p e:Nat}(h:(Fn.gF X).2=(p,e)):Fn.gT X=if e≠0 then (e,p) else if p<X.length then (4,p) else (0,0):=by
 unfold Fn.gT ND
 rw [h]
theorem Zv {X:List Value}(h:Fn.gT X=(0,0)):Fn.vY X=(Fn.gK X).1∧Fn.gNs X=(Fn.gF X).1:=by
 unfold Fn.vY Fn.gNs
 rw [h]
 exact ⟨rfl,rfl⟩
theorem ata {X:List Value}{m:Nat}(hX:allB X=true)(hn:m+1=X.length)(hb:X.length≤4096) :
  (runK KM C8 40).1 16 [.slice (some ⟨32,0,none⟩) (qac m) aF] (aP [.one (.sl X tB (qac m))]) (dJ Tryz.prog)=(Tn X).run∧
  (runK KM C8 40).1 17 [.slice (some ⟨32,0,none⟩) (qac m) aF] (aP [.one (.sl X tB (qac m))]) (dJ Tryz.prog)=(Tn X).run:=by
 have e1:qag 0 m.succ=X.length:=by show 0+(m+1)=_;omega
 have e2:(m.succ.mul 1).ble (aQ X)=true:=gU (by rw [aU];show (m+1)*1≤_;omega)
 have e3:X.length.ble 281474976710656=true:=gU (by omega)
 have e4:(((qax 2 X.length).add 768).mul 1).ble 281474976710656=true:=gU (by show (2*X.length+768)*1≤_;omega)
 have ex:Fn.okX X=true:=hX
 have o0:=iO hX hb (qar _)
 have hK0:Fn.gK X=rdN X 0 99 (0,0):=rfl
 rw [ayi];unfold acr acw abJ aa4 abo ach acf abv Yx acA;rw [apx,Og hn,e1,e2,e3,e4,o0,ex,oN (N:=sG0.N) hX,oN (N:=tG0.N) hX]
 by_cases h0:Fn.rF X 0 99 0=0
 ·have hp0:=lT hX h0
  have hK:Fn.gK X=(Fn.rN X 0 99 0,(Fn.rP X 0 99 0,0)):=by rw [hK0,CG h0]
  rw [jG h0,iO hX hb hp0]
  by_cases hv:Fn.rN X 0 99 0=0
  ·have hN0:Fn.gN X=rdN X 0 100000 (Fn.rP X 0 99 0,0):=by
    unfold Fn.gN
    rw [hK,if_neg (by show ¬((0:Nat)≠0∨Fn.rN X 0 99 0≠0);omega)]
   rw [hv,show eqI (qaa 0) 0=true from rfl]
   by_cases h1:Fn.rF X 0 100000 (Fn.rP X 0 99 0)=0
   ·have hp1:=lT hX h1
    have hc:Fn.rN X 0 100000 (Fn.rP X 0 99 0)≤100000:=(xX hX (CG h1)).2.1
    have hN:Fn.gN X=(Fn.rN X 0 100000 (Fn.rP X 0 99 0),(Fn.rP X 0 100000 (Fn.rP X 0 99 0),0)):=by rw [hN0,CG h1]
    have hF:Fn.gF X=Fn.gS X (Fn.rN X 0 100000 (Fn.rP X 0 99 0)) (Fn.rP X 0 100000 (Fn.rP X 0 99 0)):=by unfold Fn.gF;rw [hN];rfl
    rw [jG h1]
    generalize Fn.rN X 0 100000 (Fn.rP X 0 99 0)=c at hc hF
    generalize Fn.rP X 0 100000 (Fn.rP X 0 99 0)=p2 at hp1 hF
    have ok:Fn.okG X X.length p2 c=true:=by
     show (Fn.okR X X.length p2&&(qat X.length 4096&&qat c 100000))=true
     rw [iO hX hb hp1,gU hb,gU hc]
     rfl
    rw [ok]
    have hlen:(Fn.gF X).1.length=c:=by rw [hF];exact asT X c p2
    by_cases hc0:c=0
    ·subst hc0
     have hF2:(Fn.gF X).2=(p2,0):=by rw [hF];rfl
     have hT:=aeQ hF2
     rw [if_neg (by omega)] at hT
     by_cases ht:p2<X.length
     ·rw [if_pos ht] at hT
      rw [show ltN p2 X.length=true from gU ht,dV p2,xE hT (by omega)]
      exact ⟨rfl,rfl⟩
     ·rw [if_neg ht] at hT
      obtain ⟨g1,g2⟩:=Zv hT
      rw [show ltN p2 X.length=false from FW (by omega),Yz (e:=0) hT (by rw [g1,hK];exact hv) (by rw [g2];exact List.length_eq_zero_iff.1 hlen)]
      exact ⟨rfl,rfl⟩
    ·rw [sQ hc0]
     have hF2:(Fn.gF X).2=(Fn.gPl X c p2,Fn.gEr X c p2):=by rw [hF];rfl
     have hT:=aeQ hF2
     by_cases he:Fn.gEr X c p2=0
     ·rw [jG he]
      rw [if_neg (by omega)] at hT
      by_cases ht:Fn.gPl X c p2<X.length
      ·rw [if_pos ht] at hT
       rw [show ltN (Fn.gPl X c p2) X.length=true from gU ht,dV (Fn.gPl X c p2),xE hT (by omega)]
       exact ⟨rfl,rfl⟩
      ·rw [if_neg ht] at hT
       obtain ⟨g1,g2⟩:=Zv hT
       rw [show ltN (Fn.gPl X c p2) X.length=false from FW (by omega),alZ (e:=0) (k:=c) hT (by rw [g1,hK];exact hv) g2 hlen hc0,hF]
       exact ⟨rfl,rfl⟩
     ·rw [sQ he]
      rw [if_pos he] at hT
      rw [show (Fn.gEg X c p2).succ=Fn.gEr X c p2 by unfold Fn.gEg;omega,dV (Fn.gEr X c p2),dV (Fn.gPl X c p2),xE hT he]
      exact ⟨rfl,rfl⟩
   ·have hN:Fn.gN X=(0,(Fn.rP X 0 99 0,Fn.rF X 0 100000 (Fn.rP X 0 99 0))):=by rw [hN0,wZ h1]
    have hF2:(Fn.gF X).2=(Fn.rP X 0 99 0,Fn.rF X 0 100000 (Fn.rP X 0 99 0)):=by unfold Fn.gF;rw [hN];rfl
    have hT:=aeQ hF2
    rw [if_pos h1] at hT
    rw [sQ h1,iP h1,dV (Fn.rF X 0 100000 (Fn.rP X 0 99 0)),dV (Fn.rP X 0 99 0),xE hT h1]
    exact ⟨rfl,rfl⟩
  ·have hN:Fn.gN X=(0,(Fn.rP X 0 99 0,0)):=by
    unfold Fn.gN
    rw [hK,if_pos (.inr hv)]
   have hF:Fn.gF X=([],(Fn.rP X 0 99 0,0)):=by unfold Fn.gF;rw [hN];rfl
   have hT:=aeQ (show (Fn.gF X).2=_ by rw [hF])
   rw [if_neg (by omega)] at hT
   rw [show eqI (qaa (Fn.rN X 0 99 0)) 0=false from sQ hv]
   by_cases ht:Fn.rP X 0 99 0<X.length
   ·rw [if_pos ht] at hT
    rw [show ltN (Fn.rP X 0 99 0) X.length=true from gU ht,dV (Fn.rP X 0 99 0),xE hT (by omega)]
    exact ⟨rfl,rfl⟩
   ·rw [if_neg ht] at hT
    obtain ⟨g1,g2⟩:=Zv hT
    rw [show ltN (Fn.rP X 0 99 0) X.length=false from FW (by omega),Yz (e:=Fn.rN X 0 99 0) hT (by rw [g1,hK]) (by rw [g2,hF])]
    exact ⟨rfl,rfl⟩
 ·have hK:Fn.gK X=(0,(0,Fn.rF X 0 99 0)):=by rw [hK0,wZ h0]
  have hN:Fn.gN X=(0,(0,Fn.rF X 0 99 0)):=by
   unfold Fn.gN
   rw [hK,if_pos (.inl h0)]
  have hF2:(Fn.gF X).2=(0,Fn.rF X 0 99 0):=by unfold Fn.gF;rw [hN];rfl
  have hT:=aeQ hF2
  rw [if_pos h0] at hT
  rw [sQ h0,iP h0,dV (Fn.rF X 0 99 0),xE hT h0]
  exact ⟨rfl,rfl⟩
abbrev tWp:TypeId:=144
abbrev tWr:TypeId:=149
def pW0:bM:={ N:=64,need:=[],low:=[],keep:=[],new:=[⟨.var 0 0,false,true⟩,⟨.var 1 0,true,false⟩] }
def pW1 (c:Nat):bM:={ N:=64,need:=[],low:=[],keep:=[],new:=[⟨.var 0 0,false,true⟩,⟨.row 0 c,true,false⟩,⟨.var 1 0,true,false⟩] }
def pD1 (c:Nat):bM:={ N:=64,need:=[],low:=[],keep:=[],new:=[⟨.var 0 0,false,true⟩,⟨.row 0 c,true,false⟩] }
def eW0 (c:Nat):bM:={ N:=66,need:=[],low:=[],keep:=[(64,false,true),(65,true,false)],new:=[⟨.old 64 c,true,false⟩] }
def eW1 (c:Nat):bM:={ N:=67,need:=[],low:=[],keep:=[(64,false,true),(66,true,false)],new:=[⟨.old 64 c,true,false⟩] }
def eD1:bM:={ N:=66,need:=[],low:=[],keep:=[(64,false,true),(65,true,false)],new:=[⟨.var 0 0,true,false⟩] }
def mW0:wS:={ pre:=pW0,ends:=[eW0 0] }
def mW1:wS:={ pre:=pW1 0,ends:=[eW1 0] }
def mD1:wS:={ pre:=pD1 0,ends:=[eD1] }
def mV0:wS:={ pre:=pW0,ends:=[eW0 1] }
def mV1:wS:={ pre:=pW1 1,ends:=[eW1 1] }
def mX1:wS:={ pre:=pD1 1,ends:=[eD1] }
def slW (i k:Nat):Value:=.slice (some ⟨i,0,none⟩) k aF
def asF (lim:Nat):List (Nat × Row):=[(64,.row [.slice none 0 0,iN lim,.bool true,.int .i64 0] tWp 0)]
def amj (i:Nat)(L:List Value)(k lim:Nat):List (Nat × Row):=[(64,.row [slW i k,iN lim,.bool true,.int .i64 0] tWp 0),(i,.row L tB i)]
def aty (lim:Nat):List (Nat × Row):=[(64,.row [iN lim,.slice none 0 0,.int .i64 0] tWr 0)]
def alM (i:Nat)(L:List Value)(k lim:Nat):List (Nat × Row):=[(64,.row [iN lim,slW i k,.int .i64 0] tWr 0),(i,.row L tB i)]
def abV (j:Nat):=true&&(j.succ.ble 281474976710656&&(((qax 2 j.succ).add 768).mul 1).ble 281474976710656&&true&&true)
def abt (B:List Value)(j:Nat):Nat × Row:=(66,.row (aA (j.succ.mul 1) B) 5 66)
theorem au5 (B:List Value)(j lim:Nat):(runK KM C7 30).1 70 [gY,slW 65 (qac j)] (lF mW0.pre.next ⟨[gY,slW 65 (qac j)],aI (asF lim) [(65,.row B tB 65)]⟩) (fun r=>(dY Tryz.prog mW0.ends 0 r).uV some)=sel ((lim.sub 0).ble 9223372036854775807) (sel (ltI (qaa (lim.sub 0)) (qaa j.succ)) none (sel ((j.succ.mul 1).ble (aQ B)) (sel (abV j) (some (0,{ vals:=[.int .i64 0],rows:=[(64,.row [.slice (some ⟨66,0,none⟩) j.succ 18446744073709551616,.int .i64 (qaa lim),.bool true,.int .i64 0] 144 0),(65,.row B 5 65),(abt B j)] })) none) none)) none:=by kernel_rfl
def aaS (L:List Value)(j k:Nat):=(k.add j.succ).ble 18446744073709551616&&((qag 0 (k.mul 1)).add (j.succ.mul 1)).ble (aQ L)
def acJ (B L:List Value)(j k:Nat):Option (Nat × bg):=sel (true&&qO (aA (j.succ.mul 1) B)) (sel (((qag 0 (k.mul 1)).add (aQ (aA (j.succ.mul 1) B))).ble (aQ L)) none none) none
def acs (j k:Nat):=(k.add j.succ).ble 281474976710656&&(((qax 2 (k.add j.succ)).add 768).mul 1).ble 281474976710656&&true&&true
def ac0 (B L:List Value)(j k:Nat):=(qag 0 (k.mul 1)).beq (aQ L)&&true&&qO (aA (j.succ.mul 1) B)
def abp (B L:List Value)(j k:Nat):Nat × Row:=(67,.row (aI (aA (k.mul 1) L) (aA (j.succ.mul 1) B)) 5 67)
theorem ava (L B:List Value)(k j lim:Nat):(runK KM C7 30).1 70 [gY,slW 66 (qac j)] (lF mW1.pre.next ⟨[gY,slW 66 (qac j)],aI (amj 65 L k lim) [(66,.row B tB 66)]⟩) (fun r=>(dY Tryz.prog mW1.ends 0 r).uV some)=sel (k.ble lim) (sel ((lim.sub k).ble 9223372036854775807) (sel (ltI (qaa (lim.sub k)) (qaa j.succ)) none (sel ((j.succ.mul 1).ble (aQ B)) (sel (aaS L j k) (acJ B L j k) (sel (acs j k) (sel ((k.mul 1).ble (aQ L)) (sel (ac0 B L j k) (some (0,{ vals:=[.int .i64 0],rows:=[(64,.row [.slice (some ⟨67,0,none⟩) (k.add j.succ) 18446744073709551616,.int .i64 (qaa lim),.bool true,.int .i64 0] 144 0),(66,.row B 5 66),(abp B L j k)] })) none) none) none)) none)) none) (sel ((k.sub lim).ble 9223372036854775808) none none):=by kernel_rfl
def acN (k:Nat):=(qag 0 k.succ).ble 281474976710656&&(((qax 2 (qag 0 k.succ)).add 768).mul 1).ble 281474976710656&&true&&true
def abk (L:List Value)(k:Nat):Nat × Row:=(66,.row (aI [] (aA (k.succ.mul 1) L)) 5 66)
theorem auH (L:List Value)(k lim:Nat):(runK KM C7 30).1 28 [gY] (lF mD1.pre.next ⟨[gY],amj 65 L (qac k) lim⟩) (fun r=>(dY Tryz.prog mD1.ends 0 r).uV some)=sel ((k.succ.mul 1).ble (aQ L)) (sel (acN k) (some (0,{ vals:=[.slice (some ⟨66,0,none⟩) (qag 0 k.succ) 18446744073709551616,.int .i64 0],rows:=[(64,.row [.slice (some ⟨65,0,none⟩) k.succ 18446744073709551616,.int .i64 (qaa lim),.bool true,.int .i64 0] 144 0),(65,.row L 5 65),(abk L k)] })) none) none:=by kernel_rfl
theorem avV (B:List Value)(j lim:Nat):(runK KM C7 30).1 71 [gY,slW 65 (qac j)] (lF mV0.pre.next ⟨[gY,slW 65 (qac j)],aI (aty lim) [(65,.row B tB 65)]⟩) (fun r=>(dY Tryz.prog mV0.ends 0 r).uV some)=sel ((qag 0 j.succ).ble 9223372036854775807) (sel (ltI (qaa lim) (qaa (qag 0 j.succ))) none (sel ((j.succ.mul 1).ble (aQ B)) (sel (abV j) (some (0,{ vals:=[.int .i64 (qaa 0)],rows:=[(64,.row [.int .i64 (qaa lim),.slice (some ⟨66,0,none⟩) j.succ 18446744073709551616,.int .i64 0] 149 0),(65,.row B 5 65),(abt B j)] })) none) none)) none:=by kernel_rfl
theorem avw (L B:List Value)(k j lim:Nat):(runK KM C7 30).1 71 [gY,slW 66 (qac j)] (lF mV1.pre.next ⟨[gY,slW 66 (qac j)],aI (alM 65 L k lim) [(66,.row B tB 66)]⟩) (fun r=>(dY Tryz.prog mV1.ends 0 r).uV some)=sel ((k.add j.succ).ble 9223372036854775807) (sel (ltI (qaa lim) (qaa (k.add j.succ))) none (sel ((j.succ.mul 1).ble (aQ B)) (sel (aaS L j k) (acJ B L j k) (sel (acs j k) (sel ((k.mul 1).ble (aQ L)) (sel (ac0 B L j k) (some (0,{ vals:=[.int .i64 (qaa 0)],rows:=[(64,.row [.int .i64 (qaa lim),.slice (some ⟨67,0,none⟩) (k.add j.succ) 18446744073709551616,.int .i64 0] 149 0),(66,.row B 5 66),(abp B L j k)] })) none) none) none)) none)) none:=by kernel_rfl
theorem axd (L:List Value)(k lim:Nat):(runK KM C7 30).1 36 [gY] (lF mX1.pre.next ⟨[gY],alM 65 L (qac k) lim⟩) (fun r=>(dY Tryz.prog mX1.ends 0 r).uV some)=sel ((k.succ.mul 1).ble (aQ L)) (sel (acN k) (some (0,{ vals:=[.slice (some ⟨66,0,none⟩) (qag 0 k.succ) 18446744073709551616,.int .i64 0],rows:=[(64,.row [.int .i64 (qaa lim),.slice (some ⟨65,0,none⟩) k.succ 18446744073709551616,.int .i64 0] 149 0),(65,.row L 5 65),(abk L k)] })) none) none:=by kernel_rfl
namespace Fn
def abM (L B:List Value):List Value:=L++B
def okA (L:List Value)(k:Nat)(B:List Value)(j lim:Nat):Bool:=allB L&&(qaf k (aQ L)&&(allB B&&(qaf j (aQ B)&&(qat (k+j) 4096&&(qat (k+j) lim&&qat lim 1099511627776)))))
def okD (L:List Value)(k:Nat):Bool:=allB L&&(qaf k (aQ L)&&qat k 4096)
end Fn
theorem J6 {L B:List Value}{k j lim:Nat}(h:Fn.okA L k B j lim=true):allB L=true∧k=aQ L∧allB B=true∧j=aQ B∧k+j≤4096∧k+j≤lim∧lim≤1099511627776:=by
 unfold Fn.okA at h
 simp only [qae] at h
 obtain ⟨h1,h2,h3,h4,h5,h6,h7⟩:=h
 exact ⟨h1,qab h2,h3,qab h4,qad h5,qad h6,qad h7⟩
theorem aa0 {L:List Value}{k:Nat}(h:Fn.okD L k=true):allB L=true∧k=aQ L∧k≤4096:=by
 unfold Fn.okD at h
 simp only [qae] at h
 obtain ⟨h1,h2,h3⟩:=h
 exact ⟨h1,qab h2,qad h3⟩
theorem x9 {L:List Value}{k:Nat}(h:k=aQ L):aA (k.mul 1) L=L:=by
 rw [show k.mul 1=aQ L by rw [←h];exact qaz k]
 exact KL L
def alV (n:Nat)(k:Nat→MT):MT:=Nat.casesOn (motive:=fun _=>MT) n .fail k
theorem GN {n:Nat}{k:Nat→MT}{r:Nat × bg}(h:(alV n k).run=some r):∃ m,n=qac m∧(k m).run=some r:=by
 cases n with
 |zero=>cases h
 |succ m=>exact ⟨m,rfl,h⟩
def atQ (b:Nat)(o:bg)(k:Nat→MT):MT:=bZ o.vals fun u l=>ad2 64 u (bZ l fun a l=>pSl b aF a fun n=>zn l (alV n k))
theorem ED {b:Nat}{o:bg}{k:Nat→MT}{r:Nat × bg}(w0:(atQ b o k).run=some r):∃ j,o.vals=[gY,slW b (qac j)]∧(k j).run=some r:=by
 obtain ⟨u,l1,hv,w1⟩:=aB w0
 obtain ⟨rfl,w2⟩:=kP w1
 obtain ⟨a,l2,rfl,w3⟩:=aB (l:=l1) w2
 obtain ⟨n,rfl,w4⟩:=jQ w3
 obtain ⟨rfl,w5⟩:=bV w4
 obtain ⟨j,rfl,w6⟩:=GN w5
 exact ⟨j,hv,w6⟩
def axI (l:List (Nat × Row))(k:Nat→List Value→MT):MT:=bZ l fun q1 l=>Cm 64 tWp 0 q1 fun w=>bZ l fun q2 l=>Cm 65 tB 65 q2 fun B=>zn l (bZ w fun a1 m=>asP a1 (bZ m fun a2 m=>DJ .i64 a2 fun lim=>bZ m fun a3 m=>pTrue a3 (bZ m fun a4 m=>DJ .i64 a4 fun e=>zn m (JM (qaf e 0) (k lim B)))))
theorem ahO {l:List (Nat × Row)}{k:Nat→List Value→MT}{r:Nat × bg}(w0:(axI l k).run=some r):∃ lim B,l=aI (asF lim) [(65,.row B tB 65)]∧(k lim B).run=some r:=by
 obtain ⟨q1,l1,hl,w1⟩:=aB w0
 obtain ⟨w,rfl,w2⟩:=dA (p:=q1) w1
 obtain ⟨q2,l2,rfl,w3⟩:=aB (l:=l1) w2
 obtain ⟨B,rfl,w4⟩:=dA (p:=q2) w3
 obtain ⟨rfl,w5⟩:=bV w4
 obtain ⟨a1,m1,rfl,w6⟩:=aB (l:=w) w5
 obtain ⟨rfl,w7⟩:=Nk w6
 obtain ⟨a2,m2,rfl,w8⟩:=aB (l:=m1) w7
 obtain ⟨lim,rfl,w9⟩:=dG w8
 obtain ⟨a3,m3,rfl,w10⟩:=aB (l:=m2) w9
 obtain ⟨rfl,w11⟩:=sW w10
 obtain ⟨a4,m4,rfl,w12⟩:=aB (l:=m3) w11
 obtain ⟨e,rfl,w13⟩:=dG w12
 obtain ⟨rfl,w14⟩:=bV w13
 obtain ⟨he,w15⟩:=fP w14
 have he:e=0:=qab he
 subst he
 exact ⟨lim,B,hl,w15⟩
def ax5 (l:List (Nat × Row))(k:Nat→List Value→MT):MT:=bZ l fun q1 l=>Cm 64 tWr 0 q1 fun w=>bZ l fun q2 l=>Cm 65 tB 65 q2 fun B=>zn l (bZ w fun a2 m=>DJ .i64 a2 fun lim=>bZ m fun a1 m=>asP a1 (bZ m fun a4 m=>DJ .i64 a4 fun e=>zn m (JM (qaf e 0) (k lim B))))
theorem ahI {l:List (Nat × Row)}{k:Nat→List Value→MT}{r:Nat × bg}(w0:(ax5 l k).run=some r):∃ lim B,l=aI (aty lim) [(65,.row B tB 65)]∧(k lim B).run=some r:=by
 obtain ⟨q1,l1,hl,w1⟩:=aB w0
 obtain ⟨w,rfl,w2⟩:=dA (p:=q1) w1
 obtain ⟨q2,l2,rfl,w3⟩:=aB (l:=l1) w2
 obtain ⟨B,rfl,w4⟩:=dA (p:=q2) w3
 obtain ⟨rfl,w5⟩:=bV w4
 obtain ⟨a2,m2,rfl,w8⟩:=aB (l:=w) w5
 obtain ⟨lim,rfl,w9⟩:=dG w8
 obtain ⟨a1,m1,rfl,w6⟩:=aB (l:=m2) w9
 obtain ⟨rfl,w7⟩:=Nk w6
 obtain ⟨a4,m4,rfl,w12⟩:=aB (l:=m1) w7
 obtain ⟨e,rfl,w13⟩:=dG w12
 obtain ⟨rfl,w14⟩:=bV w13
 obtain ⟨he,w15⟩:=fP w14
 have he:e=0:=qab he
 subst he
 exact ⟨lim,B,hl,w15⟩
def awu (l:List (Nat × Row))(k:List Value→Nat→Nat→List (Nat × Row)→MT):MT:=bZ l fun q1 l=>Cm 64 tWp 0 q1 fun w=>bZ l fun q2 l=>Cm 65 tB 65 q2 fun L=>bZ w fun a1 m=>pSl 65 aF a1 fun n=>bZ m fun a2 m=>DJ .i64 a2 fun lim=>bZ m fun a3 m=>pTrue a3 (bZ m fun a4 m=>DJ .i64 a4 fun e=>zn m (JM (qaf e 0) (k L n lim l)))
theorem Yf {l:List (Nat × Row)}{k:List Value→Nat→Nat→List (Nat × Row)→MT}{r:Nat × bg}(w0:(awu l k).run=some r):∃ L n lim t,l=aI (amj 65 L n lim) t∧(k L n lim t).run=some r:=by
 obtain ⟨q1,l1,hl,w1⟩:=aB w0
 obtain ⟨w,rfl,w2⟩:=dA (p:=q1) w1
 obtain ⟨q2,l2,rfl,w3⟩:=aB (l:=l1) w2
 obtain ⟨L,rfl,w4⟩:=dA (p:=q2) w3
 obtain ⟨a1,m1,rfl,w6⟩:=aB (l:=w) w4
 obtain ⟨n,rfl,w7⟩:=jQ w6
 obtain ⟨a2,m2,rfl,w8⟩:=aB (l:=m1) w7
 obtain ⟨lim,rfl,w9⟩:=dG w8
 obtain ⟨a3,m3,rfl,w10⟩:=aB (l:=m2) w9
 obtain ⟨rfl,w11⟩:=sW w10
 obtain ⟨a4,m4,rfl,w12⟩:=aB (l:=m3) w11
 obtain ⟨e,rfl,w13⟩:=dG w12
 obtain ⟨rfl,w14⟩:=bV w13
 obtain ⟨he,w15⟩:=fP w14
 have he:e=0:=qab he
 subst he
 exact ⟨L,n,lim,l2,hl,w15⟩
def avX (l:List (Nat × Row))(k:List Value→Nat→Nat→List (Nat × Row)→MT):MT:=bZ l fun q1 l=>Cm 64 tWr 0 q1 fun w=>bZ l fun q2 l=>Cm 65 tB 65 q2 fun L=>bZ w fun a2 m=>DJ .i64 a2 fun lim=>bZ m fun a1 m=>pSl 65 aF a1 fun n=>bZ m fun a4 m=>DJ .i64 a4 fun e=>zn m (JM (qaf e 0) (k L n lim l))
theorem Xn {l:List (Nat × Row)}{k:List Value→Nat→Nat→List (Nat × Row)→MT}{r:Nat × bg}(w0:(avX l k).run=some r):∃ L n lim t,l=aI (alM 65 L n lim) t∧(k L n lim t).run=some r:=by
 obtain ⟨q1,l1,hl,w1⟩:=aB w0
 obtain ⟨w,rfl,w2⟩:=dA (p:=q1) w1
 obtain ⟨q2,l2,rfl,w3⟩:=aB (l:=l1) w2
 obtain ⟨L,rfl,w4⟩:=dA (p:=q2) w3
 obtain ⟨a2,m2,rfl,w8⟩:=aB (l:=w) w4
 obtain ⟨lim,rfl,w9⟩:=dG w8
 obtain ⟨a1,m1,rfl,w6⟩:=aB (l:=m2) w9
 obtain ⟨n,rfl,w7⟩:=jQ w6
 obtain ⟨a4,m4,rfl,w12⟩:=aB (l:=m1) w7
 obtain ⟨e,rfl,w13⟩:=dG w12
 obtain ⟨rfl,w14⟩:=bV w13
 obtain ⟨he,w15⟩:=fP w14
 have he:e=0:=qab he
 subst he
 exact ⟨L,n,lim,l2,hl,w15⟩
def ap3 (i:Nat)(l:List (Nat × Row))(k:List Value→MT):MT:=bZ l fun q l=>Cm i tB i q fun B=>zn l (k B)
theorem P7 {i:Nat}{l:List (Nat × Row)}{k:List Value→MT}{r:Nat × bg}(w0:(ap3 i l k).run=some r):∃ B,l=[(i,.row B tB i)]∧(k B).run=some r:=by
 obtain ⟨q,l1,hl,w1⟩:=aB w0
 obtain ⟨B,rfl,w2⟩:=dA (p:=q) w1
 obtain ⟨rfl,w3⟩:=bV w2
 exact ⟨B,hl,w3⟩
def i0:Value:=.int .i64 0
def gA0 (o:bg):MT:=atQ 65 o fun j=>axI o.rows fun lim B=>bY (Fn.okA [] 0 B (qac j) lim) (.leaf (0,⟨[i0],[(64,.row [slW 66 (qac j),iN lim,.bool true,i0] tWp 0),(65,.row B tB 65),(66,.row B tB 66)]⟩))
def gA1 (o:bg):MT:=atQ 66 o fun j=>awu o.rows fun L k lim t=>ap3 66 t fun B=>bY (Fn.okA L k B (qac j) lim) (.leaf (0,⟨[i0],[(64,.row [slW 67 (qag k (qac j)),iN lim,.bool true,i0] tWp 0),(66,.row B tB 66),(67,.row (Fn.abM L B) tB 67)]⟩))
def gD1 (o:bg):MT:=p1 o (awu o.rows fun L k lim t=>zn t (alV k fun k=>bY (Fn.okD L (qac k)) (.leaf (0,⟨[slW 66 (qac k),i0],aI (amj 65 L (qac k) lim) [(66,.row L tB 66)]⟩))))
def gV0 (o:bg):MT:=atQ 65 o fun j=>ax5 o.rows fun lim B=>bY (Fn.okA [] 0 B (qac j) lim) (.leaf (0,⟨[i0],[(64,.row [iN lim,slW 66 (qac j),i0] tWr 0),(65,.row B tB 65),(66,.row B tB 66)]⟩))
def gV1 (o:bg):MT:=atQ 66 o fun j=>avX o.rows fun L k lim t=>ap3 66 t fun B=>bY (Fn.okA L k B (qac j) lim) (.leaf (0,⟨[i0],[(64,.row [iN lim,slW 67 (qag k (qac j)),i0] tWr 0),(66,.row B tB 66),(67,.row (Fn.abM L B) tB 67)]⟩))
def gX1 (o:bg):MT:=p1 o (avX o.rows fun L k lim t=>zn t (alV k fun k=>bY (Fn.okD L (qac k)) (.leaf (0,⟨[slW 66 (qac k),i0],aI (alM 65 L (qac k) lim) [(66,.row L tB 66)]⟩))))
theorem aqI {f:FuncId}{args:List Value}{s:St}{l:List bM}{q:Nat × bg}(h:(runK KM C7 30).1 f args s (fun r=>(dY Tryz.prog l 0 r).uV some)=some q) :
  aj ((runN C7 30).1 f args s) (fun r=>(dY Tryz.prog l 0 r).run)=some q:=LC (K:=KM) (by decide) bI aY h
theorem aut {p1:Row}{i j:Nat}{B:List Value}{e f:Nat}(hB:allB B=true):uS [(i,p1),(j,.row B e f)] [true,false]:=⟨fun e=>(by cases e),fun _ cs e f h=>(by cases h;exact qV hB),trivial⟩
theorem amC {p1:Row}{i j l:Nat}{A B:List Value}{e f e' f':Nat}(hA:allB A=true)(hB:allB B=true):uS [(i,p1),(j,.row A e f),(l,.row B e' f')] [true,false,false]:=
 ⟨fun e=>(by cases e),fun _ cs e f h=>(by cases h;exact qV hA),fun _ cs e f h=>(by cases h;exact qV hB),trivial⟩
theorem atN:jh Tryz.prog C7 30 70 mW0 gA0:=by
 rintro ⟨vals,rows⟩ q w0
 obtain ⟨j,hv,w1⟩:=ED w0
 obtain ⟨lim,B,hr,w2⟩:=ahO w1
 obtain ⟨hk,w3⟩:=aJ w2
 obtain ⟨hL,hkL,hB,hj,h1,h2,h3⟩:=J6 hk
 have hv:vals=_:=hv
 have hr:rows=_:=hr
 subst hv hr
 cases w3
 refine ⟨aut hB,fun spe h=>?_,aqI ?_⟩
 ·have h:some (eW0 0)=some spe:=h
  cases h
  exact amC hB hB
 ·have e1:(lim.sub 0).ble 9223372036854775807=true:=gU (by show lim-0≤_;omega)
  have e2:ltI (qaa (lim.sub 0)) (qaa j.succ)=false:=Sz (by show j+1≤lim-0;omega)
  have e3:(j.succ.mul 1).ble (aQ B)=true:=gU (by rw [←hj];show (j+1)*1≤j+1;omega)
  have e4:j.succ.ble 281474976710656=true:=gU (by omega)
  have e5:(((qax 2 j.succ).add 768).mul 1).ble 281474976710656=true:=gU (by show (2*(j+1)+768)*1≤_;omega)
  refine (au5 B j lim).trans ?_;unfold abt abV
  rw [e1,e2,e3,e4,e5,x9 hj]
  rfl
theorem arh:jh Tryz.prog C7 30 70 mW1 gA1:=by
 rintro ⟨vals,rows⟩ q w0
 obtain ⟨j,hv,w1⟩:=ED w0
 obtain ⟨L,k,lim,t,hr,w2⟩:=Yf w1
 obtain ⟨B,rfl,w3⟩:=P7 w2
 obtain ⟨hk,w4⟩:=aJ w3
 obtain ⟨hL,hkL,hB,hj,h1,h2,h3⟩:=J6 hk
 have hv:vals=_:=hv
 have hr:rows=_:=hr
 subst hv hr
 cases w4
 refine ⟨amC hL hB,fun spe h=>?_,aqI ?_⟩
 ·have h:some (eW1 0)=some spe:=h
  cases h
  exact amC hB (qp hL hB)
 ·have e0:k.ble lim=true:=gU (by omega)
  have e1:(lim.sub k).ble 9223372036854775807=true:=gU (by show lim-k≤_;omega)
  have e2:ltI (qaa (lim.sub k)) (qaa j.succ)=false:=Sz (by show j+1≤lim-k;omega)
  have e3:(j.succ.mul 1).ble (aQ B)=true:=gU (by rw [←hj];show (j+1)*1≤j+1;omega)
  have e4:(k.add j.succ).ble 281474976710656=true:=gU (by show k+(j+1)≤_;omega)
  have e5:(((qax 2 (k.add j.succ)).add 768).mul 1).ble 281474976710656=true:=gU (by show (2*(k+(j+1))+768)*1≤_;omega)
  have e6:(k.add j.succ).ble 18446744073709551616=true:=gU (by show k+(j+1)≤_;omega)
  have e7:((qag 0 (k.mul 1)).add (j.succ.mul 1)).ble (aQ L)=false:=FW (by rw [←hkL];show k<0+k*1+(j+1)*1;omega)
  have e8:(k.mul 1).ble (aQ L)=true:=gU (by rw [←hkL];show k*1≤k;omega)
  have e9:(qag 0 (k.mul 1)).beq (aQ L)=true:=jG (by rw [←hkL];show 0+k*1=k;omega)
  refine (ava L B k j lim).trans ?_;unfold abp ac0 acs acJ aaS
  rw [e0,e1,e2,e3,e6,e7,e4,e5,e8,e9,x9 hj,x9 hkL,DW B (jJ hB),gW]
  rfl
theorem asU:jh Tryz.prog C7 30 28 mD1 gD1:=by
 rintro ⟨vals,rows⟩ q w0
 obtain ⟨hv,w1⟩:=vP w0
 obtain ⟨L,k,lim,t,hr,w2⟩:=Yf w1
 obtain ⟨rfl,w3⟩:=bV w2
 obtain ⟨k,rfl,w4⟩:=GN w3
 obtain ⟨hk,w5⟩:=aJ w4
 obtain ⟨hL,hkL,h1⟩:=aa0 hk
 have hv:vals=_:=hv
 have hr:rows=_:=hr
 subst hv hr
 cases w5
 refine ⟨aut hL,fun spe h=>?_,aqI ?_⟩
 ·have h:some eD1=some spe:=h
  cases h
  exact amC hL hL
 ·have e3:(k.succ.mul 1).ble (aQ L)=true:=gU (by rw [←hkL];show (k+1)*1≤k+1;omega)
  have e4:(qag 0 k.succ).ble 281474976710656=true:=gU (by show 0+(k+1)≤_;omega)
  have e5:(((qax 2 (qag 0 k.succ)).add 768).mul 1).ble 281474976710656=true:=gU (by show (2*(0+(k+1))+768)*1≤_;omega)
  refine (auH L k lim).trans ?_;unfold abk acN
  rw [e3,e4,e5,x9 hkL,show qag 0 k.succ=k.succ from Nat.zero_add _]
  rfl
theorem asJ:jh Tryz.prog C7 30 71 mV0 gV0:=by
 rintro ⟨vals,rows⟩ q w0
 obtain ⟨j,hv,w1⟩:=ED w0
 obtain ⟨lim,B,hr,w2⟩:=ahI w1
 obtain ⟨hk,w3⟩:=aJ w2
 obtain ⟨hL,hkL,hB,hj,h1,h2,h3⟩:=J6 hk
 have hv:vals=_:=hv
 have hr:rows=_:=hr
 subst hv hr
 cases w3
 refine ⟨aut hB,fun spe h=>?_,aqI ?_⟩
 ·have h:some (eW0 1)=some spe:=h
  cases h
  exact amC hB hB
 ·have e1:(qag 0 j.succ).ble 9223372036854775807=true:=gU (by show 0+(j+1)≤_;omega)
  have e2:ltI (qaa lim) (qaa (qag 0 j.succ))=false:=Sz (by show 0+(j+1)≤lim;omega)
  have e3:(j.succ.mul 1).ble (aQ B)=true:=gU (by rw [←hj];show (j+1)*1≤j+1;omega)
  have e4:j.succ.ble 281474976710656=true:=gU (by omega)
  have e5:(((qax 2 j.succ).add 768).mul 1).ble 281474976710656=true:=gU (by show (2*(j+1)+768)*1≤_;omega)
  refine (avV B j lim).trans ?_;unfold abt abV
  rw [e1,e2,e3,e4,e5,x9 hj]
  rfl
theorem arX:jh Tryz.prog C7 30 71 mV1 gV1:=by
 rintro ⟨vals,rows⟩ q w0
 obtain ⟨j,hv,w1⟩:=ED w0
 obtain ⟨L,k,lim,t,hr,w2⟩:=Xn w1
 obtain ⟨B,rfl,w3⟩:=P7 w2
 obtain ⟨hk,w4⟩:=aJ w3
 obtain ⟨hL,hkL,hB,hj,h1,h2,h3⟩:=J6 hk
 have hv:vals=_:=hv
 have hr:rows=_:=hr
 subst hv hr
 cases w4
 refine ⟨amC hL hB,fun spe h=>?_,aqI ?_⟩
 ·have h:some (eW1 1)=some spe:=h
  cases h
  exact amC hB (qp hL hB)
 ·have e1:(k.add j.succ).ble 9223372036854775807=true:=gU (by show k+(j+1)≤_;omega)
  have e2:ltI (qaa lim) (qaa (k.add j.succ))=false:=Sz (by show k+(j+1)≤lim;omega)
  have e3:(j.succ.mul 1).ble (aQ B)=true:=gU (by rw [←hj];show (j+1)*1≤j+1;omega)
  have e4:(k.add j.succ).ble 281474976710656=true:=gU (by show k+(j+1)≤_;omega)
  have e5:(((qax 2 (k.add j.succ)).add 768).mul 1).ble 281474976710656=true:=gU (by show (2*(k+(j+1))+768)*1≤_;omega)
  have e6:(k.add j.succ).ble 18446744073709551616=true:=gU (by show k+(j+1)≤_;omega)
  have e7:((qag 0 (k.mul 1)).add (j.succ.mul 1)).ble (aQ L)=false:=FW (by rw [←hkL];show k<0+k*1+(j+1)*1;omega)
  have e8:(k.mul 1).ble (aQ L)=true:=gU (by rw [←hkL];show k*1≤k;omega)
  have e9:(qag 0 (k.mul 1)).beq (aQ L)=true:=jG (by rw [←hkL];show 0+k*1=k;omega)
  refine (avw L B k j lim).trans ?_;unfold abp ac0 acs acJ aaS
  rw [e1,e2,e3,e6,e7,e4,e5,e8,e9,x9 hj,x9 hkL,DW B (jJ hB),gW]
  rfl
theorem auh:jh Tryz.prog C7 30 36 mX1 gX1:=by
 rintro ⟨vals,rows⟩ q w0
 obtain ⟨hv,w1⟩:=vP w0
 obtain ⟨L,k,lim,t,hr,w2⟩:=Xn w1
 obtain ⟨rfl,w3⟩:=bV w2
 obtain ⟨k,rfl,w4⟩:=GN w3
 obtain ⟨hk,w5⟩:=aJ w4
 obtain ⟨hL,hkL,h1⟩:=aa0 hk
 have hv:vals=_:=hv
 have hr:rows=_:=hr
 subst hv hr
 cases w5
 refine ⟨aut hL,fun spe h=>?_,aqI ?_⟩
 ·have h:some eD1=some spe:=h
  cases h
  exact amC hL hL
 ·have e3:(k.succ.mul 1).ble (aQ L)=true:=gU (by rw [←hkL];show (k+1)*1≤k+1;omega)
  have e4:(qag 0 k.succ).ble 281474976710656=true:=gU (by show 0+(k+1)≤_;omega)
  have e5:(((qax 2 (qag 0 k.succ)).add 768).mul 1).ble 281474976710656=true:=gU (by show (2*(0+(k+1))+768)*1≤_;omega)
  refine (axd L k lim).trans ?_;unfold abk acN
  rw [e3,e4,e5,x9 hkL,show qag 0 k.succ=k.succ from Nat.zero_add _]
  rfl
variable [Lo]
theorem axA {f:FuncId}{m1 m2:wS}{g1 g2:bg→MT}(h1:jh Tryz.prog C7 30 f m1 g1)(h2:jh Tryz.prog C7 30 f m2 g2):∀ p∈[(m1,g1),(m2,g2)],∃ C n,dS C Tryz.prog∧jh Tryz.prog C n f p.1 p.2:=by
 intro p hp
 rcases List.mem_cons.1 hp with rfl|hp
 ·exact ⟨C7,30,Rw,h1⟩
 ·rcases List.mem_cons.1 hp with rfl|hp
  ·exact ⟨C7,30,Rw,h2⟩
  ·cases hp
theorem axF {f:FuncId}{m1:wS}{g1:bg→MT}(h1:jh Tryz.prog C7 30 f m1 g1):∀ p∈[(m1,g1)],∃ C n,dS C Tryz.prog∧jh Tryz.prog C n f p.1 p.2:=by
 intro p hp
 rcases List.mem_cons.1 hp with rfl|hp
 ·exact ⟨C7,30,Rw,h1⟩
 ·cases hp
def asr:List (Nat × Con):=
 (70,.tree (pG Tryz.prog [(mW0,gA0),(mW1,gA1)]))::(28,.tree (pG Tryz.prog [(mD1,gD1)])) ::
 (71,.tree (pG Tryz.prog [(mV0,gV0),(mV1,gV1)]))::(36,.tree (pG Tryz.prog [(mX1,gX1)]))::aqJ
def C9:Cfg:={ CB with ext:=eH [],insert:=eH asr }
theorem anc:dI Tryz.prog C9 asr:=dI.pG (axA atN arh) (dI.pG (axF asU) (dI.pG (axA asJ arX) (dI.pG (axF auh) (dI.to ahT rfl))))
theorem aqu:dS C9 Tryz.prog:=xq (ext:=eH []) (ins:=eH asr) rfl (fun f t h=>anc f t h) (fun f e h=>by cases h)
end
end Go.Ax
namespace Go.Ax
open Go Go.Proofs
noncomputable section
def sP0:bM:={ N:=70,need:=[4,49,50,51],low:=[32],keep:=[(65,false,true),(69,true,false)],new:=[] }
def sP1:bM:={ N:=70,need:=[4,49,50,51],low:=[32],keep:=[(65,false,true)],new:=[⟨.old 65 0,true,false⟩] }
def sR0:bM:={ N:=70,need:=[1,4,6],low:=[32],keep:=[(64,false,true),(65,false,true),(69,true,false)],new:=[] }
def sR1:bM:={ N:=70,need:=[1,4,6],low:=[32],keep:=[(64,false,true),(65,false,true)],new:=[⟨.old 65 1,true,false⟩] }
def eP1:bM:={ N:=70,need:=[4],low:=[],keep:=[(65,false,true)],new:=[⟨.old 65 0,true,false⟩] }
def eR1:bM:={ N:=70,need:=[4],low:=[],keep:=[(65,false,true)],new:=[⟨.old 65 1,true,false⟩] }
def slL (n:Nat):Value:=.slice (some ⟨32,0,none⟩) n aF
def aq7 (b k lim:Nat):Nat × Row:=(65,.row [slW b k,iN lim,.bool true,i0] tWp 0)
def aqS (b k lim:Nat):Nat × Row:=(65,.row [iN lim,slW b k,i0] tWr 0)
def hP (b:Nat)(W:List Value)(n i:Nat)(L:List Value)(k lim:Nat):bg:=⟨[pt 65,slL n,iN n,iN i],[(32,.row W tW 32),aq7 b k lim,(b,.row L tB b)]⟩
def hR (b:Nat)(W:List Value)(n i:Nat)(L:List Value)(k lim:Nat):bg:=⟨[pt 64,pt 65,iN i],[(32,.row W tW 32),(64,.row [i0,slL n] tAn 0),aqS b k lim,(b,.row L tB b)]⟩
def Dx (W:List Value)(i:Nat):=gI (Value.int IntKind.u64 0) (nth W (qag 0 (i.mul 1)))
def Dk (W:List Value)(i:Nat):=ltN (ay W (qag 0 (i.mul 1))) 18446744073709551616
def Jd (W:List Value)(i:Nat):List Value:=.int .u8 (qaa (Fn.lU (ay W (qag 0 (i.mul 1)))))::Fn.nJ (ay W (qag 0 (i.mul 1)))
def IE (W:List Value)(i:Nat):=aQ (Fn.nJ (ay W (qag 0 (i.mul 1))))
def Di (L W:List Value)(i k lim:Nat):=Fn.okA L k (Jd W i) (IE W i).succ lim
def Dn (i:Nat):=(i.add 1).ble 9223372036854775807
def zG (L W:List Value)(i:Nat):=Fn.abM L (Jd W i)
def I9 (W:List Value)(i k:Nat):=k.add (IE W i).succ
def JD (L W:List Value)(i:Nat):Nat × Row:=(70,.row (zG L W i) 5 70)
def Wi (L W:List Value)(i k lim n:Nat):Option (Ex × bg):=some (.normal,{ vals:=[.pointer (some ⟨65,0,none⟩),.slice (some ⟨32,0,none⟩) n 18446744073709551616,.int .i64 (qaa n),.int .i64 (qaa (i.add 1))],rows:=[(32,.row W 45 32),(65,.row [.slice (some ⟨70,0,none⟩) (I9 W i k) 18446744073709551616,.int .i64 (qaa lim),.bool true,.int .i64 0] 144 0),(JD L W i)] })
theorem ayN (W L:List Value)(n i k lim:Nat):jC KM.plain C9 (runK KM C9 20).1 (runK KM C9 20).2 (C9.vars 9) 9 false (fH C9 9 12) (fV Tryz.prog (C9.vars 9) sP1 eP1) (Cc sP0.need (hP 69 W n i L k lim)) (lF sP0.next (hP 69 W n i L k lim))=sel (ltI (qaa i) (qaa n)) (sel (ltN i n) (sel (Dx W i) (sel (Dk W i) (sel (Di L W i k lim) (sel (Dn i) (sel (List.rec true (fun v x ih=>sel (tC v) ih false) W) (sel (List.rec true (fun v x ih=>sel (aX sP1.N v) ih false) (zG L W i)) (Wi L W i k lim n) none) none) none) none) none) none) none) none:=by kernel_rfl
theorem ax8 (W L:List Value)(n i k lim:Nat):jC KM.plain C9 (runK KM C9 20).1 (runK KM C9 20).2 (C9.vars 9) 9 false (fH C9 9 12) (fV Tryz.prog (C9.vars 9) sP1 eP1) (Cc sP1.need (hP 70 W n i L k lim)) (lF sP1.next (hP 70 W n i L k lim))=sel (ltI (qaa i) (qaa n)) (sel (ltN i n) (sel (Dx W i) (sel (Dk W i) (sel (Di L W i k lim) (sel (Dn i) (sel (List.rec true (fun v x ih=>sel (tC v) ih false) W) (sel (List.rec true (fun v x ih=>sel (aX sP1.N v) ih false) (zG L W i)) (Wi L W i k lim n) none) none) none) none) none) none) none) (sel (List.rec true (fun v x ih=>sel (aX eP1.N v) ih false) L) (some (.exit 1,{ vals:=[.pointer (some ⟨65,0,none⟩)],rows:=[(65,.row [.slice (some ⟨70,0,none⟩) k 18446744073709551616,.int .i64 (qaa lim),.bool true,.int .i64 0] 144 0),(70,.row L 5 70)] })) none):=by kernel_rfl
def LU (L W:List Value)(i k lim n:Nat):Option (Ex × bg):=some (.normal,{ vals:=[.pointer (some ⟨64,0,none⟩),.pointer (some ⟨65,0,none⟩),.int .i64 (qaa (i.add 1))],rows:=[(32,.row W 45 32),(64,.row [.int .i64 0,.slice (some ⟨32,0,none⟩) n 18446744073709551616] 27 0),(65,.row [.int .i64 (qaa lim),.slice (some ⟨70,0,none⟩) (I9 W i k) 18446744073709551616,.int .i64 0] 149 0),(JD L W i)] })
theorem ayU (W L:List Value)(n i k lim:Nat):jC KM.plain C9 (runK KM C9 20).1 (runK KM C9 20).2 (C9.vars 10) 10 false (fH C9 10 12) (fV Tryz.prog (C9.vars 10) sR1 eR1) (Cc sR0.need (hR 69 W n i L k lim)) (lF sR0.next (hR 69 W n i L k lim))=sel (ltI (qaa i) (qaa n)) (sel (ltN i n) (sel (Dx W i) (sel (Dk W i) (sel (Di L W i k lim) (sel (Dn i) (sel (List.rec true (fun v x ih=>sel (tC v) ih false) W) (sel (List.rec true (fun v x ih=>sel (aX sR1.N v) ih false) (zG L W i)) (LU L W i k lim n) none) none) none) none) none) none) none) none:=by kernel_rfl
theorem axK (W L:List Value)(n i k lim:Nat):jC KM.plain C9 (runK KM C9 20).1 (runK KM C9 20).2 (C9.vars 10) 10 false (fH C9 10 12) (fV Tryz.prog (C9.vars 10) sR1 eR1) (Cc sR1.need (hR 70 W n i L k lim)) (lF sR1.next (hR 70 W n i L k lim))=sel (ltI (qaa i) (qaa n)) (sel (ltN i n) (sel (Dx W i) (sel (Dk W i) (sel (Di L W i k lim) (sel (Dn i) (sel (List.rec true (fun v x ih=>sel (tC v) ih false) W) (sel (List.rec true (fun v x ih=>sel (aX sR1.N v) ih false) (zG L W i)) (LU L W i k lim n) none) none) none) none) none) none) none) (sel (List.rec true (fun v x ih=>sel (aX eR1.N v) ih false) L) (some (.exit 1,{ vals:=[.pointer (some ⟨65,0,none⟩)],rows:=[(65,.row [.int .i64 (qaa lim),.slice (some ⟨70,0,none⟩) k 18446744073709551616,.int .i64 0] 149 0),(70,.row L 5 70)] })) none):=by kernel_rfl
def isW (v:Value):Bool:=
 match v with
 |.int .u64 (.ofNat n)=>qat n 18446744073709551615
 |_=>false
def CS:List Value→Bool:=fun l=>List.rec true (fun v _ ih=>sel (isW v) ih false) l
def nv (v:Value):Nat:=ay [v] 0
def bC (W:List Value):List Nat:=W.map nv
theorem agM {v:Value}(h:isW v=true):v=uN (nv v)∧nv v<18446744073709551616:=by
 unfold isW at h
 split at h
 ·rename_i n
  have:=qad h
  exact ⟨rfl,by show n<_;omega⟩
 ·cases h
theorem ZT:∀ {W:List Value},CS W=true→W=wL (bC W)∧∀ v∈bC W,v<18446744073709551616
 |[],_=>⟨rfl,fun v h=>by cases h⟩
 |a::W,h=>by
  obtain ⟨h1,h2⟩:=dn (show sel (isW a) (CS W) false=true from h)
  obtain ⟨g1,g2⟩:=agM h1
  obtain ⟨g3,g4⟩:=ZT h2
  refine ⟨?_,fun v hv=>?_⟩
  ·show a::W=uN (nv a)::wL (bC W)
   rw [←g1,←g3]
  ·rcases List.mem_cons.1 (show v∈nv a::bC W from hv) with rfl|hv
   ·exact g2
   ·exact g4 v hv
theorem ajM:∀ {W:List Value},CS W=true→(List.rec true (fun v x ih=>sel (tC v) ih false) W:Bool)=true
 |[],_=>rfl
 |a::W,h=>by
  obtain ⟨h1,h2⟩:=dn (show sel (isW a) (CS W) false=true from h)
  obtain ⟨g1,_⟩:=agM h1
  show sel (tC a) _ false=true
  rw [g1]
  exact ajM h2
theorem Zn {W:List Value}{i:Nat}(h:CS W=true)(hi:i<W.length):nth W i=some (uN ((bC W).getD i 0))∧ay W i=(bC W).getD i 0∧(bC W).getD i 0<18446744073709551616:=by
 obtain ⟨h1,h2⟩:=ZT h
 have hl:(bC W).length=W.length:=by unfold bC;simp
 have e:nth W i=some (uN ((bC W).getD i 0)):=by
  have h3:(wL (bC W))[i]? = some (uN ((bC W).getD i 0)):=by
   unfold wL
   rw [List.getElem?_map,qai (by rw [hl];exact hi),qal,qai (by rw [hl];exact hi)]
   rfl
  rw [jc]
  rw [←h1] at h3
  exact h3
 refine ⟨e,?_,?_⟩
 ·unfold ay
  rw [e]
  rfl
 ·rw [qal,qai (by rw [hl];exact hi)]
  exact h2 _ (List.getElem_mem _)
namespace Fn
def pF (W L:List Value):List Value:=List.casesOn (motive:=fun _=>List Value) W L fun w t=>L++iD (bC (w::t))
def pKk (W L:List Value):Nat:=aQ (pF W L)-1
def okW (W:List Value)(n:Nat):Bool:=CS W&&(qaf n (aQ W)&&qat n 400)
def okP (W:List Value)(n:Nat)(L:List Value)(k lim:Nat):Bool:=okW W n&&(allB L&&(qaf k (aQ L)&&(qat 1 k&&(qat k 60&&(qat 4096 lim&&qat lim 1099511627776)))))
end Fn
theorem adb (W L:List Value):Fn.pF W L=L++iD (bC W):=by
 cases W with
 |nil=>show L=L++[];rw [qao]
 |cons w t=>rfl
theorem lV {W:List Value}{n:Nat}(h:Fn.okW W n=true):CS W=true∧n=W.length∧n≤400:=by
 unfold Fn.okW at h
 simp only [qae] at h
 obtain ⟨h1,h2,h3⟩:=h
 exact ⟨h1,by rw [←aU];exact qab h2,qad h3⟩
theorem acM {W L:List Value}{n k lim:Nat}(h:Fn.okP W n L k lim=true):(CS W=true∧n=W.length∧n≤400)∧allB L=true∧k=aQ L∧1≤k∧k≤60∧4096≤lim∧lim≤1099511627776:=by
 unfold Fn.okP at h
 simp only [qae] at h
 obtain ⟨h1,h2,h3,h4,h5,h6,h7⟩:=h
 exact ⟨lV h1,h2,qab h3,qad h4,qad h5,qad h6,qad h7⟩
theorem ac5 (ns:List Nat){i:Nat}(h:i<ns.length):iD (ns.take (i+1))=iD (ns.take i)++Fn.eu (ns.getD i 0):=by
 rw [qav,qal,qai h,Vl]
 congr 1
 show Fn.eu _++[]=_
 rw [qao]
 rfl
theorem Aa:∀ (ns:List Nat),(iD ns).length≤10*ns.length
 |[]=>qar _
 |v::ns=>by
  have h1:=(vC v).2
  have h2:=Aa ns
  show (Fn.eu v++iD ns).length≤_
  rw [qaj,qaq]
  rw [aU] at h1
  omega
def exP (sp:bM)(y:bg):Option (Ex × bg):=
 jC KM.plain C9 (runK KM C9 20).1 (runK KM C9 20).2 (C9.vars 9) 9 false (fH C9 9 12) (fV Tryz.prog (C9.vars 9) sP1 eP1) (Cc sp.need y) (lF sp.next y)
def exR (sp:bM)(y:bg):Option (Ex × bg):=
 jC KM.plain C9 (runK KM C9 20).1 (runK KM C9 20).2 (C9.vars 10) 10 false (fH C9 10 12) (fV Tryz.prog (C9.vars 10) sR1 eR1) (Cc sp.need y) (lF sp.next y)
def oP (L:List Value)(k lim:Nat):bg:=⟨[pt 65],[aq7 70 k lim,(70,.row L tB 70)]⟩
def oR (L:List Value)(k lim:Nat):bg:=⟨[pt 65],[aqS 70 k lim,(70,.row L tB 70)]⟩
section
variable {W L:List Value} {i lim:Nat} (hW:CS W=true) (hi:i<W.length) (hb:W.length≤400) (hL:allB L=true) (hl:aQ L≤4080) (hm:4096≤lim) (hm2:lim≤1099511627776)
include hW hi hb hL hl hm hm2
theorem Un:ltI (qaa i) (qaa W.length)=true∧ltN i W.length=true∧qag 0 (i.mul 1)=i∧gI (.int .u64 0) (nth W i)=true∧ay W i=(bC W).getD i 0∧ltN ((bC W).getD i 0) 18446744073709551616=true∧
  Fn.okA L (aQ L) (.int .u8 (qaa (Fn.lU ((bC W).getD i 0)))::Fn.nJ ((bC W).getD i 0)) (aQ (Fn.nJ ((bC W).getD i 0))).succ lim=true∧(i.add 1).ble 9223372036854775807=true∧
  allB (Fn.abM L (Fn.eu ((bC W).getD i 0)))=true:=by
 obtain ⟨h1,h2,h3⟩:=Zn hW hi
 have e:Fn.eu ((bC W).getD i 0) = .int .u8 (qaa (Fn.lU ((bC W).getD i 0)))::Fn.nJ ((bC W).getD i 0):=lS _
 have h10:=vC ((bC W).getD i 0)
 refine ⟨YD hi,gU hi,by show 0+i*1=i;omega,by rw [h1];rfl,h2,gU h3,?_,gU (by show i+1≤_;omega),qp hL (nY _)⟩
 unfold Fn.okA
 rw [←e,hL,nY,jG rfl,show (aQ (Fn.nJ ((bC W).getD i 0))).succ=aQ (Fn.eu ((bC W).getD i 0)) by rw [e];rfl,jG rfl,gU (by omega),gU (by omega),gU hm2]
 rfl
theorem an1:exP sP0 (hP 69 W W.length i L (aQ L) lim)=some (.normal,hP 70 W W.length (i+1) (Fn.abM L (Fn.eu ((bC W).getD i 0))) (aQ L+aQ (Fn.eu ((bC W).getD i 0))) lim):=by
 obtain ⟨f1,f2,f3,f4,f5,f6,f7,f8,f9⟩:=Un hW hi hb hL hl hm hm2
 have e:Fn.eu ((bC W).getD i 0) = .int .u8 (qaa (Fn.lU ((bC W).getD i 0)))::Fn.nJ ((bC W).getD i 0):=lS _
 rw [e] at f9 ⊢
 unfold exP
 rw [ayN];unfold Wi JD I9 zG Dn Di IE Jd Dk Dx;rw [f1,f2,f3,f4,f5,f6,f7,f8,ajM hW,oN (N:=sP1.N) f9]
 rfl
theorem ap1:exP sP1 (hP 70 W W.length i L (aQ L) lim)=some (.normal,hP 70 W W.length (i+1) (Fn.abM L (Fn.eu ((bC W).getD i 0))) (aQ L+aQ (Fn.eu ((bC W).getD i 0))) lim):=by
 obtain ⟨f1,f2,f3,f4,f5,f6,f7,f8,f9⟩:=Un hW hi hb hL hl hm hm2
 have e:Fn.eu ((bC W).getD i 0) = .int .u8 (qaa (Fn.lU ((bC W).getD i 0)))::Fn.nJ ((bC W).getD i 0):=lS _
 rw [e] at f9 ⊢
 unfold exP
 rw [ax8];unfold Wi JD I9 zG Dn Di IE Jd Dk Dx;rw [f1,f2,f3,f4,f5,f6,f7,f8,ajM hW,oN (N:=sP1.N) f9]
 rfl
theorem anP:exR sR0 (hR 69 W W.length i L (aQ L) lim)=some (.normal,hR 70 W W.length (i+1) (Fn.abM L (Fn.eu ((bC W).getD i 0))) (aQ L+aQ (Fn.eu ((bC W).getD i 0))) lim):=by
 obtain ⟨f1,f2,f3,f4,f5,f6,f7,f8,f9⟩:=Un hW hi hb hL hl hm hm2
 have e:Fn.eu ((bC W).getD i 0) = .int .u8 (qaa (Fn.lU ((bC W).getD i 0)))::Fn.nJ ((bC W).getD i 0):=lS _
 rw [e] at f9 ⊢
 unfold exR
 rw [ayU];unfold LU JD I9 zG Dn Di IE Jd Dk Dx;rw [f1,f2,f3,f4,f5,f6,f7,f8,ajM hW,oN (N:=sR1.N) f9]
 rfl
theorem aoA:exR sR1 (hR 70 W W.length i L (aQ L) lim)=some (.normal,hR 70 W W.length (i+1) (Fn.abM L (Fn.eu ((bC W).getD i 0))) (aQ L+aQ (Fn.eu ((bC W).getD i 0))) lim):=by
 obtain ⟨f1,f2,f3,f4,f5,f6,f7,f8,f9⟩:=Un hW hi hb hL hl hm hm2
 have e:Fn.eu ((bC W).getD i 0) = .int .u8 (qaa (Fn.lU ((bC W).getD i 0)))::Fn.nJ ((bC W).getD i 0):=lS _
 rw [e] at f9 ⊢
 unfold exR
 rw [axK];unfold LU JD I9 zG Dn Di IE Jd Dk Dx;rw [f1,f2,f3,f4,f5,f6,f7,f8,ajM hW,oN (N:=sR1.N) f9]
 rfl
end
theorem atv {W L:List Value}{k lim:Nat}(hL:allB L=true):exP sP1 (hP 70 W W.length W.length L k lim)=some (.exit 1,oP L k lim):=by
 unfold exP
 rw [ax8];unfold Wi JD I9 zG Dn Di IE Jd Dk Dx;rw [Sz (qaw _),oN (N:=eP1.N) hL]
 rfl
theorem arF {W L:List Value}{k lim:Nat}(hL:allB L=true):exR sR1 (hR 70 W W.length W.length L k lim)=some (.exit 1,oR L k lim):=by
 unfold exR
 rw [axK];unfold LU JD I9 zG Dn Di IE Jd Dk Dx;rw [Sz (qaw _),oN (N:=eR1.N) hL]
 rfl
variable [Lo]
def soFar (W L:List Value)(i:Nat):List Value:=L++iD ((bC W).take i)
theorem BK {W L:List Value}{i:Nat}(h:i<W.length):soFar W L (i+1)=Fn.abM (soFar W L i) (Fn.eu ((bC W).getD i 0)):=by
 unfold soFar Fn.abM
 rw [ac5 _ (by unfold bC;simpa using h),qau]
theorem Xm {W L:List Value}{i:Nat}(hb:W.length≤400):aQ (soFar W L i)≤aQ L+4000:=by
 rw [aU,aU]
 unfold soFar
 have h1:=Aa ((bC W).take i)
 have h2:((bC W).take i).length≤400:=by
  rw [qaC]
  unfold bC
  simp
  omega
 rw [qaj]
 omega
theorem asq {W L:List Value}{n k lim:Nat}(h:Fn.okP W n L k lim=true)(hn0:0<n) :
  ∃ R f,R f sP0 (hP 69 W n 0 L k lim)∧qW Tryz.prog C9 KM 20 9 (fH C9 9 12) 70 R (.exit 1) eP1 (oP (Fn.pF W L) (qac (Fn.pKk W L)) lim):=by
 obtain ⟨⟨hW,hn,hb⟩,hL,hk,h1,h2,h3,h4⟩:=acM h
 subst hn hk
 refine ⟨fun f sp y=>∃ i b,i≤W.length∧f=W.length-i+1∧y=hP b W W.length i (soFar W L i) (aQ (soFar W L i)) lim∧((sp=sP0∧b=69∧i<W.length)∨(sp=sP1∧b=70)),W.length+1,⟨0,69,qar _,rfl,?_,.inl ⟨rfl,rfl,hn0⟩⟩,⟨?_⟩⟩
 ·show _=hP 69 W W.length 0 (L++[]) (aQ (L++[])) lim
  rw [qao]
 ·rintro f sp y ⟨i,b,hi,rfl,rfl,hs⟩
  refine ⟨W.length-i,rfl,sP1,?_⟩
  have hX:allB (soFar W L i)=true:=qp hL (mV _)
  have hl:aQ (soFar W L i)≤4080:=qaA (Xm hb) (by omega)
  have hsum:∀ A B:List Value,aQ A+aQ B=aQ (Fn.abM A B):=fun A B=>by rw [aU,aU,aU];unfold Fn.abM;rw [qaj]
  rcases hs with ⟨rfl,rfl,hlt⟩|⟨rfl,rfl⟩
  ·exact ⟨_,rfl,an1 hW hlt hb hX hl h3 h4,.inl ⟨rfl,i+1,70,hlt,by omega,by rw [hsum,←BK hlt],.inr ⟨rfl,rfl⟩⟩⟩
  ·by_cases hlt:i<W.length
   ·exact ⟨_,rfl,ap1 hW hlt hb hX hl h3 h4,.inl ⟨rfl,i+1,70,hlt,by omega,by rw [hsum,←BK hlt],.inr ⟨rfl,rfl⟩⟩⟩
   ·have hi:i=W.length:=by omega
    subst hi
    have e:soFar W L W.length=Fn.pF W L:=by
     rw [adb]
     unfold soFar
     rw [qap (by unfold bC;simp)]
    rw [e] at hX ⊢
    refine ⟨_,rfl,atv hX,.inr ⟨fun h=>(by cases h),?_⟩⟩
    rw [show qac (Fn.pKk W L)=aQ (Fn.pF W L) by
     unfold Fn.pKk
     have:1≤aQ (Fn.pF W L):=by
      rw [aU,adb,qaj];rw [aU] at h1;omega
     omega]
theorem atz {W L:List Value}{n k lim:Nat}(h:Fn.okP W n L k lim=true)(hn0:0<n) :
  ∃ R f,R f sR0 (hR 69 W n 0 L k lim)∧qW Tryz.prog C9 KM 20 10 (fH C9 10 12) 70 R (.exit 1) eR1 (oR (Fn.pF W L) (qac (Fn.pKk W L)) lim):=by
 obtain ⟨⟨hW,hn,hb⟩,hL,hk,h1,h2,h3,h4⟩:=acM h
 subst hn hk
 refine ⟨fun f sp y=>∃ i b,i≤W.length∧f=W.length-i+1∧y=hR b W W.length i (soFar W L i) (aQ (soFar W L i)) lim∧((sp=sR0∧b=69∧i<W.length)∨(sp=sR1∧b=70)),W.length+1,⟨0,69,qar _,rfl,?_,.inl ⟨rfl,rfl,hn0⟩⟩,⟨?_⟩⟩
 ·show _=hR 69 W W.length 0 (L++[]) (aQ (L++[])) lim
  rw [qao]
 ·rintro f sp y ⟨i,b,hi,rfl,rfl,hs⟩
  refine ⟨W.length-i,rfl,sR1,?_⟩
  have hX:allB (soFar W L i)=true:=qp hL (mV _)
  have hl:aQ (soFar W L i)≤4080:=qaA (Xm hb) (by omega)
  have hsum:∀ A B:List Value,aQ A+aQ B=aQ (Fn.abM A B):=fun A B=>by rw [aU,aU,aU];unfold Fn.abM;rw [qaj]
  rcases hs with ⟨rfl,rfl,hlt⟩|⟨rfl,rfl⟩
  ·exact ⟨_,rfl,anP hW hlt hb hX hl h3 h4,.inl ⟨rfl,i+1,70,hlt,by omega,by rw [hsum,←BK hlt],.inr ⟨rfl,rfl⟩⟩⟩
  ·by_cases hlt:i<W.length
   ·exact ⟨_,rfl,aoA hW hlt hb hX hl h3 h4,.inl ⟨rfl,i+1,70,hlt,by omega,by rw [hsum,←BK hlt],.inr ⟨rfl,rfl⟩⟩⟩
   ·have hi:i=W.length:=by omega
    subst hi
    have e:soFar W L W.length=Fn.pF W L:=by
     rw [adb]
     unfold soFar
     rw [qap (by unfold bC;simp)]
    rw [e] at hX ⊢
    refine ⟨_,rfl,arF hX,.inr ⟨fun h=>(by cases h),?_⟩⟩
    rw [show qac (Fn.pKk W L)=aQ (Fn.pF W L) by
     unfold Fn.pKk
     have:1≤aQ (Fn.pF W L):=by
      rw [aU,adb,qaj];rw [aU] at h1;omega
     omega]
def pWr (l:List Value)(k:Nat→Nat→LT):LT:=bZ l fun a1 m=>pSl 69 aF a1 fun n=>bZ m fun a2 m=>DJ .i64 a2 fun lim=>bZ m fun a3 m=>pTrue a3 (bZ m fun a4 m=>DJ .i64 a4 fun e=>zn m (JM (qaf e 0) (k n lim)))
theorem akR {l:List Value}{k:Nat→Nat→LT}{r:Ex × bM × bg}(w0:(pWr l k).run=some r):∃ n lim,l=[slW 69 n,iN lim,.bool true,i0]∧(k n lim).run=some r:=by
 obtain ⟨a1,m1,hl,w6⟩:=aB w0
 obtain ⟨n,rfl,w7⟩:=jQ w6
 obtain ⟨a2,m2,rfl,w8⟩:=aB (l:=m1) w7
 obtain ⟨lim,rfl,w9⟩:=dG w8
 obtain ⟨a3,m3,rfl,w10⟩:=aB (l:=m2) w9
 obtain ⟨rfl,w11⟩:=sW w10
 obtain ⟨a4,m4,rfl,w12⟩:=aB (l:=m3) w11
 obtain ⟨e,rfl,w13⟩:=dG w12
 obtain ⟨rfl,w14⟩:=bV w13
 obtain ⟨he,w15⟩:=fP w14
 have he:e=0:=qab he
 subst he
 exact ⟨n,lim,hl,w15⟩
def pVr (l:List Value)(k:Nat→Nat→LT):LT:=bZ l fun a2 m=>DJ .i64 a2 fun lim=>bZ m fun a1 m=>pSl 69 aF a1 fun n=>bZ m fun a4 m=>DJ .i64 a4 fun e=>zn m (JM (qaf e 0) (k n lim))
theorem akw {l:List Value}{k:Nat→Nat→LT}{r:Ex × bM × bg}(w0:(pVr l k).run=some r):∃ n lim,l=[iN lim,slW 69 n,i0]∧(k n lim).run=some r:=by
 obtain ⟨a2,m2,hl,w8⟩:=aB w0
 obtain ⟨lim,rfl,w9⟩:=dG w8
 obtain ⟨a1,m1,rfl,w6⟩:=aB (l:=m2) w9
 obtain ⟨n,rfl,w7⟩:=jQ w6
 obtain ⟨a4,m4,rfl,w12⟩:=aB (l:=m1) w7
 obtain ⟨e,rfl,w13⟩:=dG w12
 obtain ⟨rfl,w14⟩:=bV w13
 obtain ⟨he,w15⟩:=fP w14
 have he:e=0:=qab he
 subst he
 exact ⟨n,lim,hl,w15⟩
def aqs (n:Nat)(k:LT):LT:=Nat.casesOn (motive:=fun _=>LT) n .fail fun _=>k
theorem PZ {n:Nat}{k:LT}{r:Ex × bM × bg}(h:(aqs n k).run=some r):0<n∧k.run=some r:=by
 cases n with
 |zero=>cases h
 |succ n=>exact ⟨by omega,h⟩
def axW (o:bg):LT:=bZ o.vals fun u l=>ad2 65 u (bZ l fun a l=>pSl 32 aF a fun n=>bZ l fun b l=>DJ .i64 b fun n2=>bZ l fun c l=>DJ .i64 c fun i=>zn l (JM (qaf i 0) (aqs n (bY (qaf n2 n)
 (bZ o.rows fun q1 l=>Cm 32 tW 32 q1 fun W=>bZ l fun q2 l=>Cm 65 tWp 0 q2 fun w=>bZ l fun q3 l=>Cm 69 tB 69 q3 fun L=>zn l (pWr w fun k lim=>bY (Fn.okP W n L k lim) (.leaf (.exit 1,eP1,oP (Fn.pF W L) (qac (Fn.pKk W L)) lim)))))))
)
def axS (o:bg):LT:=bZ o.vals fun u l=>ad2 64 u (bZ l fun u2 l=>ad2 65 u2 (bZ l fun c l=>DJ .i64 c fun i=>zn l (JM (qaf i 0)
 (bZ o.rows fun q1 l=>Cm 32 tW 32 q1 fun W=>bZ l fun q0 l=>Cm 64 tAn 0 q0 fun z=>bZ l fun q2 l=>Cm 65 tWr 0 q2 fun w=>bZ l fun q3 l=>Cm 69 tB 69 q3 fun L=>zn l (bZ z fun z1 m=>DJ .i64 z1 fun e=>bZ m fun z2 m=>pSl 32 aF z2 fun n=>zn m (JM (qaf e 0) (aqs n (pVr w fun k lim=>bY (Fn.okP W n L k lim) (.leaf (.exit 1,eR1,oR (Fn.pF W L) (qac (Fn.pKk W L)) lim))))))))))
theorem akL:∀ o e spe O,(axW o).run=some (e,spe,O)→spe.N=sP0.N∧∃ R k,R k sP0 o∧qW Tryz.prog C9 KM 20 9 (fH C9 9 12) sP0.N R e spe O:=by
 rintro ⟨vals,rows⟩ e spe O w0
 obtain ⟨u,l1,hv,w1⟩:=aB w0
 obtain ⟨rfl,w2⟩:=kP w1
 obtain ⟨a,l2,rfl,w3⟩:=aB (l:=l1) w2
 obtain ⟨n,rfl,w4⟩:=jQ w3
 obtain ⟨b,l3,rfl,w5⟩:=aB (l:=l2) w4
 obtain ⟨n2,rfl,w6⟩:=dG w5
 obtain ⟨c,l4,rfl,w7⟩:=aB (l:=l3) w6
 obtain ⟨i,rfl,w8⟩:=dG w7
 obtain ⟨rfl,w9⟩:=bV w8
 obtain ⟨hi,w10⟩:=fP w9
 have hi:i=0:=qab hi
 subst hi
 obtain ⟨hn0,w11⟩:=PZ w10
 obtain ⟨h2,w12⟩:=aJ w11
 have h2:n2=n:=qab h2
 subst h2
 obtain ⟨q1,m1,hr,w13⟩:=aB w12
 obtain ⟨W,rfl,w14⟩:=dA (p:=q1) w13
 obtain ⟨q2,m2,rfl,w15⟩:=aB (l:=m1) w14
 obtain ⟨w,rfl,w16⟩:=dA (p:=q2) w15
 obtain ⟨q3,m3,rfl,w17⟩:=aB (l:=m2) w16
 obtain ⟨L,rfl,w18⟩:=dA (p:=q3) w17
 obtain ⟨rfl,w19⟩:=bV w18
 obtain ⟨k,lim,rfl,w20⟩:=akR w19
 obtain ⟨hk,w21⟩:=aJ w20
 have hv:vals=_:=hv
 have hr:rows=_:=hr
 subst hv hr
 cases w21
 exact ⟨rfl,asq hk hn0⟩
theorem aml:∀ o e spe O,(axS o).run=some (e,spe,O)→spe.N=sR0.N∧∃ R k,R k sR0 o∧qW Tryz.prog C9 KM 20 10 (fH C9 10 12) sR0.N R e spe O:=by
 rintro ⟨vals,rows⟩ ex spe O w0
 obtain ⟨u,l1,hv,w1⟩:=aB w0
 obtain ⟨rfl,w2⟩:=kP w1
 obtain ⟨u2,l2,rfl,w3⟩:=aB (l:=l1) w2
 obtain ⟨rfl,w4⟩:=kP w3
 obtain ⟨c,l4,rfl,w7⟩:=aB (l:=l2) w4
 obtain ⟨i,rfl,w8⟩:=dG w7
 obtain ⟨rfl,w9⟩:=bV w8
 obtain ⟨hi,w10⟩:=fP w9
 have hi:i=0:=qab hi
 subst hi
 obtain ⟨q1,m1,hr,w13⟩:=aB w10
 obtain ⟨W,rfl,w14⟩:=dA (p:=q1) w13
 obtain ⟨q0,m0,rfl,w15⟩:=aB (l:=m1) w14
 obtain ⟨z,rfl,w16⟩:=dA (p:=q0) w15
 obtain ⟨q2,m2,rfl,w17⟩:=aB (l:=m0) w16
 obtain ⟨w,rfl,w18⟩:=dA (p:=q2) w17
 obtain ⟨q3,m3,rfl,w19⟩:=aB (l:=m2) w18
 obtain ⟨L,rfl,w20⟩:=dA (p:=q3) w19
 obtain ⟨rfl,w21⟩:=bV w20
 obtain ⟨z1,n1,rfl,w22⟩:=aB (l:=z) w21
 obtain ⟨e,rfl,w23⟩:=dG w22
 obtain ⟨z2,n2,rfl,w24⟩:=aB (l:=n1) w23
 obtain ⟨n,rfl,w25⟩:=jQ w24
 obtain ⟨rfl,w26⟩:=bV w25
 obtain ⟨he,w27⟩:=fP w26
 have he:e=0:=qab he
 subst he
 obtain ⟨hn0,w28⟩:=PZ w27
 obtain ⟨k,lim,rfl,w29⟩:=akw w28
 obtain ⟨hk,w30⟩:=aJ w29
 have hv:vals=_:=hv
 have hr:rows=_:=hr
 subst hv hr
 cases w30
 exact ⟨rfl,atz hk hn0⟩
def aaA:List (Nat × Nat × L8):=[(9,12,wG Tryz.prog (CB.vars 9) sP0 axW),(10,12,wG Tryz.prog (CB.vars 10) sR0 axS)]
def C10:Cfg:={ CB with ext:=eH [],insert:=eH asr,Le:=Ru aaA }
theorem ayf:qaf (aQ (tN C9 9 12)) 1=true:=by kernel_rfl
theorem auZ:qaf (aQ (tN C9 10 12)) 1=true:=by kernel_rfl
theorem ah6:∀ fn c body,C10.body fn=some c→PartOf c (.loop body)→uJ Tryz.prog C10 fn body:=by
 refine TF (L:=aaA) rfl fun q hq=>?_
 rcases List.mem_cons.1 hq with rfl|hq
 ·exact mX (K:=KM) (C0:=C9) (m:=20) (by decide) bI aY aqu rfl rfl ayf rfl akL
 ·rcases List.mem_cons.1 hq with rfl|hq
  ·exact mX (K:=KM) (C0:=C9) (m:=20) (by decide) bI aY aqu rfl rfl auZ rfl aml
  ·cases hq
theorem QS:dS C10 Tryz.prog:=aao (ext:=eH []) (ins:=eH asr) (lf:=Ru aaA) rfl (fun f t h=>dI.to anc rfl f t h) (fun f e h=>by cases h) ah6
end
end Go.Ax
namespace Go.Ax
open Go Go.Proofs
noncomputable section
def anS (e:Int)(W:List Value)(n:Nat):List fM:=[.agg [.raw (.int .i64 e),.sl W tW n]]
def anV (e:Int)(v:Value):List fM:=[.agg [.raw (.int .i64 e),.raw v]]
theorem ad7 (W:List Value)(z n:Nat):(runK KM C10 40).1 9 (bH (anS (qak z) W n)) (aP (anS (qak z) W n)) (dJ Tryz.prog)=some { val:=[jk.one (gX.flat (Value.slice none 0 0)),jk.one (gX.flat (Value.int IntKind.i64 3))],rows:=[] }:=by kernel_rfl
theorem ad8 (z c:Nat):(runK KM C10 40).1 9 (bH (anV (qak z) (.slice none 0 c))) (aP (anV (qak z) (.slice none 0 c))) (dJ Tryz.prog)=some { val:=[jk.one (gX.flat (Value.slice none 0 0)),jk.one (gX.flat (Value.int IntKind.i64 3))],rows:=[] }:=by kernel_rfl
theorem adp (z:Nat):(runK KM C10 40).1 9 (bH (anV (qak z) dB)) (aP (anV (qak z) dB)) (dJ Tryz.prog)=some { val:=[jk.one (gX.flat (Value.slice none 0 0)),jk.one (gX.flat (Value.int IntKind.i64 3))],rows:=[] }:=by kernel_rfl
def IB:gX:=.flat (.slice none 0 0)
def MJ:Option cO:=some { val:=[.one IB,.one (.flat (.int .i64 3))],rows:=[] }
def ano:Option cO:=some { val:=[.one IB,.one (.flat (.int .i64 2))],rows:=[] }
def aiz (W:List Value)(z m:Nat):Option cO:=sel (ltI 99 (qaa z.succ)) MJ ano
theorem afd (W:List Value)(z m:Nat):(runK KM C10 40).1 9 (bH (anS (qaa (qac z)) W (qac m))) (aP (anS (qaa (qac z)) W (qac m))) (dJ Tryz.prog)=aiz W z m:=by kernel_rfl
theorem adu (W:List Value)(z m:Nat):type_of% (by have h_:=afd W z m;unfold aiz ano MJ IB at h_;exact h_):=afd W z m
def VL (z:Nat):=qaa (Fn.lU (z.succ.mod 18446744073709551616))
def Yj (z:Nat):List Value:=.int .u8 (VL z)::Fn.nJ (z.succ.mod 18446744073709551616)
def QB (z:Nat):=aQ (Fn.nJ (z.succ.mod 18446744073709551616))
def Bg:gX:=.flat (.int .i64 0)
def Xj (z:Nat):Option cO:=sel (ltN (z.succ.mod 18446744073709551616) 18446744073709551616) (sel (Fn.okA [] 0 (Yj z) (QB z).succ 1048576) (sel (Fn.okD (Yj z) (QB z).succ) (some { val:=[.one (.sl 0 (QB z).succ),.one Bg],rows:=[(.int .u8 (VL z)::Fn.nJ (z.succ.mod 18446744073709551616),5)] }) none) none) none
def TR (z:Nat):Option cO:=sel (ltI 99 (qaa z.succ)) MJ (Xj z)
theorem air (z:Nat):(runK KM C9 40).1 9 (bH (anS (qaa (qac z)) [] 0)) (aP (anS (qaa (qac z)) [] 0)) (dJ Tryz.prog)=TR z:=by kernel_rfl
theorem adn (z:Nat):type_of% (by have h_:=air z;unfold TR Xj Bg QB Yj VL MJ IB at h_;exact h_):=air z
def ae4 (z c:Nat):Option cO:=sel (ltI 99 (qaa z.succ)) MJ (Xj z)
theorem agD (z c:Nat):(runK KM C10 40).1 9 (bH (anV (qaa (qac z)) (.slice none 0 c))) (aP (anV (qaa (qac z)) (.slice none 0 c))) (dJ Tryz.prog)=ae4 z c:=by kernel_rfl
theorem aeA (z c:Nat):type_of% (by have h_:=agD z c;unfold ae4 Xj Bg QB Yj VL MJ IB at h_;exact h_):=agD z c
theorem ajc (z:Nat):(runK KM C10 40).1 9 (bH (anV (qaa (qac z)) dB)) (aP (anV (qaa (qac z)) dB)) (dJ Tryz.prog)=TR z:=by kernel_rfl
theorem adz (z:Nat):type_of% (by have h_:=ajc z;unfold TR Xj Bg QB Yj VL MJ IB at h_;exact h_):=ajc z
def ams:Option cO:=some { val:=[.one IB,.one (.flat (.int .i64 4))],rows:=[] }
def anb (m:Nat):=ltN (m.succ.mod 18446744073709551616) 18446744073709551616
def aad (m:Nat):=qaa (Fn.lU (m.succ.mod 18446744073709551616))
def ahz (m:Nat):List Value:=.int .u8 (aad m)::Fn.nJ (m.succ.mod 18446744073709551616)
def YQ (m:Nat):=Fn.nJ (m.succ.mod 18446744073709551616)
def aat (m:Nat):=aQ (YQ m)
def Ny (m:Nat):List Value:=.int .u8 (qaa (Fn.lU 0)) :: .int .u8 (aad m)::Fn.nJ (m.succ.mod 18446744073709551616)
def aah (W:List Value)(m:Nat):=Fn.pKk W (Ny m)
def agU (W:List Value)(m:Nat):Option cO:=sel (Fn.okP W m.succ (Ny m) (qag 1 (aat m).succ) 1048576) (sel (Fn.okD (Fn.pF W (Ny m)) (aah W m).succ) (some { val:=[.one (.sl 0 (aah W m).succ),.one Bg],rows:=[(Fn.pF W (Ny m),5)] }) none) none
theorem an8 (W:List Value)(m:Nat):(runK KM C10 40).1 9 (bH (anS (qaa 0) W (qac m))) (aP (anS (qaa 0) W (qac m))) (dJ Tryz.prog)=sel (ltI 100000 (qaa m.succ)) ams (sel (anb m) (sel (Fn.okA [.int .u8 (qaa (Fn.lU 0))] 1 (ahz m) (aat m).succ 1048576) (sel (List.rec true (fun v x ih=>sel (tC v) ih false) W) (sel (List.rec true (fun v x ih=>sel (aX sP0.N v) ih false) (YQ m)) (sel (m.succ.beq m.succ) (agU W m) none) none) none) none) none):=by kernel_rfl
def Sr (z:Nat):Option cO:=some { val:=[.one (.sl 0 2),.one Bg],rows:=[([.int .u8 (qaa (Fn.lU 0)),.int .u8 (qaa (Fn.lU 0))],5)] }
theorem af6 (z:Nat):(runK KM C9 40).1 9 (bH (anS (qaa 0) [] 0)) (aP (anS (qaa 0) [] 0)) (dJ Tryz.prog)=Sr z:=by kernel_rfl
theorem adJ (z:Nat):type_of% (by have h_:=af6 z;unfold Sr Bg at h_;exact h_):=af6 z
def afi (z c:Nat):Option cO:=some { val:=[.one (.sl 0 2),.one Bg],rows:=[([.int .u8 (qaa (Fn.lU 0)),.int .u8 (qaa (Fn.lU 0))],5)] }
theorem aeP (z c:Nat):(runK KM C10 40).1 9 (bH (anV (qaa 0) (.slice none 0 c))) (aP (anV (qaa 0) (.slice none 0 c))) (dJ Tryz.prog)=afi z c:=by kernel_rfl
theorem adg (z c:Nat):type_of% (by have h_:=aeP z c;unfold afi Bg at h_;exact h_):=aeP z c
theorem agX (z:Nat):(runK KM C10 40).1 9 (bH (anV (qaa 0) dB)) (aP (anV (qaa 0) dB)) (dJ Tryz.prog)=Sr z:=by kernel_rfl
theorem aek (z:Nat):type_of% (by have h_:=agX z;unfold Sr Bg at h_;exact h_):=agX z
namespace Fn
def aOk (e:Int)(W:List Value):Bool:=qaf (aE e (bC W)) 0
def aEr (e:Int)(W:List Value):Nat:=aE e (bC W)-1
def aBy (e:Int)(W:List Value):List Value:=List.casesOn (motive:=fun _=>List Value) W (aL e.toNat []) fun w t=>aL e.toNat (bC (w::t))
def aLn (e:Int)(W:List Value):Nat:=aQ (aBy e W)-1
end Fn
theorem Xf (e:Int)(W:List Value):Fn.aBy e W=Fn.aL e.toNat (bC W):=by
 cases W <;> rfl
theorem agt (e:Nat)(ns:List Nat):1≤aQ (Fn.aL e ns):=by
 have:=(vC e).1
 rw [aU] at this ⊢
 show 1≤(Fn.eu e++iD _).length
 rw [qaj]
 omega
def Aj (e:Int)(W:List Value):Tree cO:=.test (Fn.aOk e W) (.leaf ⟨[.one (.sl 0 (qac (Fn.aLn e W))),.one (.flat (.int .i64 0))],[(Fn.aBy e W,tB)]⟩) (.leaf ⟨[.one (.flat (.slice none 0 0)),.one (.flat (iN (qac (Fn.aEr e W))))],[]⟩)
theorem FB {e:Int}{W:List Value}{x:Nat}(h:Fn.aE e (bC W)=x)(hx:x≠0):(Aj e W).run=some ⟨[.one (.flat (.slice none 0 0)),.one (.flat (iN x))],[]⟩:=by
 show sel (Fn.aOk e W) _ (some (cO.mk [.one (.flat (.slice none 0 0)),.one (.flat (iN (qac (Fn.aEr e W))))] []))=_
 unfold Fn.aOk Fn.aEr
 rw [h,sQ hx,show qac (x-1)=x by omega]
 rfl
theorem Ue {e:Int}{W:List Value}{L:List Value}{k:Nat}(h:Fn.aE e (bC W)=0)(hL:Fn.aL e.toNat (bC W)=L)(hk:k=aQ L):(Aj e W).run=some ⟨[.one (.sl 0 k),.one (.flat (.int .i64 0))],[(L,tB)]⟩:=by
 show sel (Fn.aOk e W) (some (cO.mk [.one (.sl 0 (qac (Fn.aLn e W))),.one (.flat (.int .i64 0))] [(Fn.aBy e W,tB)])) _=_
 unfold Fn.aOk Fn.aLn
 have h1:=agt e.toNat (bC W)
 rw [h,jG rfl,Xf,hL]
 rw [hL] at h1
 rw [show qac (aQ L-1)=k by omega]
 rfl
theorem awt (v:Nat):iD [v]=Fn.eu v:=by show Fn.eu v++[]=_;rw [qao]
theorem axD {v:Nat}{L:List Value}{k:Nat}(hL:allB L=true)(hk:k=aQ L)(hb:k≤1000):Fn.okA L k (.int .u8 (qaa (Fn.lU v))::Fn.nJ v) (aQ (Fn.nJ v)).succ 1048576=true:=by
 have e:Fn.eu v = .int .u8 (qaa (Fn.lU v))::Fn.nJ v:=lS _
 have h10:=vC v
 unfold Fn.okA
 rw [←e,hL,nY,jG hk,show (aQ (Fn.nJ v)).succ=aQ (Fn.eu v) by rw [e];rfl,jG rfl,gU (show k+aQ (Fn.eu v)≤4096 by omega),gU (show k+aQ (Fn.eu v)≤1048576 by omega)]
 rfl
theorem axv {L:List Value}{k:Nat}(hL:allB L=true)(hk:k=aQ L)(hb:k≤4096):Fn.okD L k=true:=by
 unfold Fn.okD
 rw [hL,jG hk,gU hb]
 rfl
theorem aav (z:Nat):sel (ltI 99 (qaa z.succ)) (some (cO.mk [.one (.flat (.slice none 0 0)),.one (.flat (iN 3))] [])) (sel (ltN (z.succ.mod 18446744073709551616) 18446744073709551616) (sel (Fn.okA [] 0 (.int .u8 (qaa (Fn.lU (z.succ.mod 18446744073709551616)))::Fn.nJ (z.succ.mod 18446744073709551616)) (aQ (Fn.nJ (z.succ.mod 18446744073709551616))).succ 1048576)
  (sel (Fn.okD (.int .u8 (qaa (Fn.lU (z.succ.mod 18446744073709551616)))::Fn.nJ (z.succ.mod 18446744073709551616)) (aQ (Fn.nJ (z.succ.mod 18446744073709551616))).succ) (some (cO.mk [.one (.sl 0 (aQ (Fn.nJ (z.succ.mod 18446744073709551616))).succ),.one (.flat (.int .i64 0))] [(.int .u8 (qaa (Fn.lU (z.succ.mod 18446744073709551616)))::Fn.nJ (z.succ.mod 18446744073709551616),tB)])) none) none) none)=(Aj (qaa z.succ) []).run:=by
 by_cases h:99<z+1
 ·rw [show ltI 99 (qaa z.succ)=true from YD (a:=99) h,FB (x:=3) (by unfold Fn.aE;rw [if_pos (.inr (by simp only [qan];omega))]) (by omega)]
  rfl
 ·have hm:z.succ.mod 18446744073709551616=z+1:=qaB (by omega)
  have e:Fn.eu (z+1) = .int .u8 (qaa (Fn.lU (z+1)))::Fn.nJ (z+1):=lS _
  have e2:(aQ (Fn.nJ (z+1))).succ=aQ (Fn.eu (z+1)):=by rw [e];rfl
  have h10:=vC (z+1)
  have hok:Fn.aE (qaa z.succ) (bC [])=0:=by
   unfold Fn.aE
   rw [if_neg (by simp only [qan];omega),if_neg (fun h=>h.2 rfl),if_neg (by show ¬100000<0;omega)]
  have hL:Fn.aL (qaa z.succ).toNat (bC [])=Fn.eu (z+1):=by
   show iD ((z+1)::(if z+1=0 then _ else []))=_
   rw [if_neg (by omega)]
   exact awt _
  rw [show ltI 99 (qaa z.succ)=false from Sz (b:=z+1) (a:=99) (by omega),hm,show ltN (z+1) 18446744073709551616=true from gU (by omega),axD (L:=[]) (k:=0) rfl rfl (qar _),←e,e2,axv (nY _) rfl (by omega),Ue (k:=aQ (Fn.eu (z+1))) hok hL rfl]
  rfl
theorem atu:Fn.aL 0 []=[.int .u8 (qaa (Fn.lU 0)),.int .u8 (qaa (Fn.lU 0))]:=by kernel_rfl
theorem aaH:some (cO.mk [.one (.sl 0 2),.one (.flat (.int .i64 0))] [([.int .u8 (qaa (Fn.lU 0)),.int .u8 (qaa (Fn.lU 0))],tB)])=(Aj (qaa 0) []).run:=by
 exact (Ue (e:=qaa 0) (W:=[]) (L:=[.int .u8 (qaa (Fn.lU 0)),.int .u8 (qaa (Fn.lU 0))]) (k:=2) rfl atu rfl).symm
theorem aaO (z:Nat)(W:List Value):some (cO.mk [.one (.flat (.slice none 0 0)),.one (.flat (.int .i64 3))] [])=(Aj (qak z) W).run:=by
 rw [FB (x:=3) (by unfold Fn.aE;rw [if_pos (.inl (Int.negSucc_lt_zero z))]) (by omega)]
 rfl
theorem akY {z m:Nat}{W:List Value}(hn:m+1=W.length):sel (ltI 99 (qaa z.succ)) (some (cO.mk [.one (.flat (.slice none 0 0)),.one (.flat (.int .i64 3))] [])) (some (cO.mk [.one (.flat (.slice none 0 0)),.one (.flat (.int .i64 2))] []))=(Aj (qaa z.succ) W).run:=by
 by_cases h:99<z+1
 ·rw [show ltI 99 (qaa z.succ)=true from YD (a:=99) h,FB (x:=3) (by unfold Fn.aE;rw [if_pos (.inr (by simp only [qan];omega))]) (by omega)]
  rfl
 ·have hne:bC W≠[]:=by
   cases W with
   |nil=>simp at hn
   |cons w t=>simp [bC]
  rw [show ltI 99 (qaa z.succ)=false from Sz (b:=z+1) (a:=99) (by omega),FB (x:=2) (by unfold Fn.aE;rw [if_neg (by simp only [qan];omega),if_pos ⟨by simp only [qan];omega,hne⟩]) (by omega)]
  rfl
theorem ac7 {m:Nat}{W:List Value}(hW:CS W=true)(hn:m+1=W.length)(hb:W.length≤400) :
  ltI 100000 (qaa m.succ)=false∧m.succ.mod 18446744073709551616=m+1∧ltN (m+1) 18446744073709551616=true∧
  Fn.okA [.int .u8 (qaa (Fn.lU 0))] 1 (.int .u8 (qaa (Fn.lU (m+1)))::Fn.nJ (m+1)) (aQ (Fn.nJ (m+1))).succ 1048576=true∧allB (Fn.nJ (m+1))=true∧m.succ.beq m.succ=true∧
  Fn.okP W m.succ (.int .u8 (qaa (Fn.lU 0)) :: .int .u8 (qaa (Fn.lU (m+1)))::Fn.nJ (m+1)) (qag 1 (aQ (Fn.nJ (m+1))).succ) 1048576=true∧
  Fn.okD (Fn.pF W (.int .u8 (qaa (Fn.lU 0)) :: .int .u8 (qaa (Fn.lU (m+1)))::Fn.nJ (m+1))) (Fn.pKk W (.int .u8 (qaa (Fn.lU 0)) :: .int .u8 (qaa (Fn.lU (m+1)))::Fn.nJ (m+1))).succ=true∧
  (Aj (qaa 0) W).run=some (cO.mk [.one (.sl 0 (Fn.pKk W (.int .u8 (qaa (Fn.lU 0)) :: .int .u8 (qaa (Fn.lU (m+1)))::Fn.nJ (m+1))).succ),.one (.flat (.int .i64 0))] [(Fn.pF W (.int .u8 (qaa (Fn.lU 0)) :: .int .u8 (qaa (Fn.lU (m+1)))::Fn.nJ (m+1)),tB)]):=by
 have e:Fn.eu (m+1) = .int .u8 (qaa (Fn.lU (m+1)))::Fn.nJ (m+1):=lS _
 have e0:Fn.eu 0=[.int .u8 (qaa (Fn.lU 0))]:=by kernel_rfl
 have h10:=vC (m+1)
 have hB:allB (.int .u8 (qaa (Fn.lU 0)) :: .int .u8 (qaa (Fn.lU (m+1)))::Fn.nJ (m+1))=true:=by
  have:=qp (nY 0) (nY (m+1))
  rw [e0,e] at this
  exact this
 have hT:allB (Fn.nJ (m+1))=true:=by
  have:=nY (m+1)
  rw [e] at this
  exact (dn (show sel (isB _) (allB (Fn.nJ (m+1))) false=true from this)).2
 have e2:(aQ (Fn.nJ (m+1))).succ=aQ (Fn.eu (m+1)):=by rw [e];rfl
 have hl:qag 1 (aQ (Fn.nJ (m+1))).succ=aQ (.int .u8 (qaa (Fn.lU 0)) :: .int .u8 (qaa (Fn.lU (m+1)))::Fn.nJ (m+1)):=by
  show 1+(aQ (Fn.nJ (m+1))).succ=(aQ (Fn.nJ (m+1))).succ.succ;omega
 have hlen:(bC W).length=m+1:=by unfold bC;simp [hn]
 have hF:Fn.aL 0 (bC W)=Fn.pF W (.int .u8 (qaa (Fn.lU 0)) :: .int .u8 (qaa (Fn.lU (m+1)))::Fn.nJ (m+1)):=by
  rw [adb]
  show iD (0::(bC W).length::bC W)=_
  rw [hlen]
  show Fn.eu 0++(Fn.eu (m+1)++iD (bC W))=_
  rw [e0,e]
  rfl
 have hFB:allB (Fn.pF W (.int .u8 (qaa (Fn.lU 0)) :: .int .u8 (qaa (Fn.lU (m+1)))::Fn.nJ (m+1)))=true:=by rw [adb];exact qp hB (mV _)
 have hFl:aQ (Fn.pF W (.int .u8 (qaa (Fn.lU 0)) :: .int .u8 (qaa (Fn.lU (m+1)))::Fn.nJ (m+1)))≤4096∧1≤aQ (Fn.pF W (.int .u8 (qaa (Fn.lU 0)) :: .int .u8 (qaa (Fn.lU (m+1)))::Fn.nJ (m+1))):=by
  rw [←hF]
  refine ⟨?_,agt _ _⟩
  show aQ (iD (0::(bC W).length::bC W))≤_
  rw [aU]
  have:=Aa (0::(bC W).length::bC W)
  simp only [qaq] at this
  omega
 have hk:(Fn.pKk W (.int .u8 (qaa (Fn.lU 0)) :: .int .u8 (qaa (Fn.lU (m+1)))::Fn.nJ (m+1))).succ=aQ (Fn.pF W (.int .u8 (qaa (Fn.lU 0)) :: .int .u8 (qaa (Fn.lU (m+1)))::Fn.nJ (m+1))):=by
  unfold Fn.pKk
  omega
 refine ⟨Sz (a:=100000) (by show m+1≤_;omega),qaB (by omega),gU (by omega),axD (by rw [←e0];exact nY 0) rfl (by omega),hT,jG rfl,?_,axv hFB hk (by omega),?_⟩
 ·unfold Fn.okP Fn.okW
  rw [hW,show m.succ.beq (aQ W)=true from jG (by rw [aU];exact hn),gU (show m.succ≤400 by omega),hB,jG hl,hl]
  have h1:1≤aQ (Value.int .u8 (qaa (Fn.lU 0)) :: .int .u8 (qaa (Fn.lU (m+1)))::Fn.nJ (m+1)):=by rw [←hl];show 1≤1+(aQ (Fn.nJ (m+1))).succ;omega
  have h2:aQ (Value.int .u8 (qaa (Fn.lU 0)) :: .int .u8 (qaa (Fn.lU (m+1)))::Fn.nJ (m+1))≤60:=by rw [←hl];show 1+(aQ (Fn.nJ (m+1))).succ≤60;omega
  rw [gU h1,gU h2]
  rfl
 ·exact Ue (by unfold Fn.aE;rw [if_neg (by show ¬((0:Int)<0∨(99:Int)<0);omega),if_neg (fun h=>h.1 rfl),if_neg (by rw [hlen];omega)]) hF hk
def aul (l:List fM):Tree cO:=
 match l with
 |[.agg [.raw (.int k e),.sl W t n]]=>bY (iy k .i64&&(qaf t tW&&Fn.okW W n)) (Aj e W)
 |[.agg [.raw (.int k e),.raw (.slice _ n _)]]=>bY (iy k .i64&&qaf n 0) (Aj e [])
 |_=>.fail
theorem qg {e:Int}{W:List Value}{r:cO}(h:(Aj e W).run=some r):∀ p∈r.rows,flatAll p.1=true:=by
 have h:sel (Fn.aOk e W) _ _=some r:=h
 rw [aG] at h
 split at h
 ·cases h
  intro p hp
  rcases List.mem_cons.1 hp with rfl|hp
  ·show flatAll (Fn.aBy e W)=true
   rw [Xf]
   exact jJ (mV _)
  ·cases hp
 ·cases h
  intro p hp
  cases hp
theorem ahE {f:FuncId}
  (hnS:∀ W z n,(runK KM C10 40).1 f (bH (anS (qak z) W n)) (aP (anS (qak z) W n)) (dJ Tryz.prog)=(Aj (qak z) W).run)
  (hnN:∀ z c,(runK KM C10 40).1 f (bH (anV (qak z) (.slice none 0 c))) (aP (anV (qak z) (.slice none 0 c))) (dJ Tryz.prog)=(Aj (qak z) []).run)
  (hnD:∀ z,(runK KM C10 40).1 f (bH (anV (qak z) dB)) (aP (anV (qak z) dB)) (dJ Tryz.prog)=(Aj (qak z) []).run)
  (hpS:∀ W e m,Fn.okW W (qac m)=true→(runK KM C10 40).1 f (bH (anS (qaa e) W (qac m))) (aP (anS (qaa e) W (qac m))) (dJ Tryz.prog)=(Aj (qaa e) W).run)
  (hpE:∀ e,(runK KM C9 40).1 f (bH (anS (qaa e) [] 0)) (aP (anS (qaa e) [] 0)) (dJ Tryz.prog)=(Aj (qaa e) []).run)
  (hpN:∀ e c,(runK KM C10 40).1 f (bH (anV (qaa e) (.slice none 0 c))) (aP (anV (qaa e) (.slice none 0 c))) (dJ Tryz.prog)=(Aj (qaa e) []).run)
  (hpD:∀ e,(runK KM C10 40).1 f (bH (anV (qaa e) dB)) (aP (anV (qaa e) dB)) (dJ Tryz.prog)=(Aj (qaa e) []).run):aag Tryz.prog f aul:=by
 intro comps r kE hr
 unfold aul at hr
 split at hr
 ·rename_i k e W t n
  obtain ⟨hg,h2⟩:=aJ hr
  simp only [qae] at hg
  obtain ⟨g1,g2,g3⟩:=hg
  have g1:=lQ g1
  have g2:t=tW:=qab g2
  subst g1 g2
  cases e with
  |negSucc z=>exact ⟨C10,40,fun lo=>@QS lo,qg h2,bT (K:=KM) (by decide) bI aY ((hnS W z n).trans h2)⟩
  |ofNat e=>
   cases n with
   |succ m=>exact ⟨C10,40,fun lo=>@QS lo,qg h2,bT (K:=KM) (by decide) bI aY ((hpS W e m g3).trans h2)⟩
   |zero=>
    have:W=[]:=by
     obtain ⟨_,h,_⟩:=lV g3
     exact List.length_eq_zero_iff.1 h.symm
    subst this
    exact ⟨C9,40,fun lo=>@aqu lo,qg h2,bT (K:=KM) (by decide) bI aY ((hpE e).trans h2)⟩
 ·rename_i k e a n c
  obtain ⟨hg,h2⟩:=aJ hr
  simp only [qae] at hg
  obtain ⟨g1,g2⟩:=hg
  have g1:=lQ g1
  have g2:n=0:=qab g2
  subst g1 g2
  have hf:=kE (.agg [.raw (.int .i64 e),.raw (.slice a 0 c)]) qah
  have hf:oU (.slice a 0 c)=true:=hf (.raw (.slice a 0 c)) (qam _ qah)
  cases a with
  |none=>
   cases e with
   |negSucc z=>exact ⟨C10,40,fun lo=>@QS lo,qg h2,bT (K:=KM) (by decide) bI aY ((hnN z c).trans h2)⟩
   |ofNat e=>exact ⟨C10,40,fun lo=>@QS lo,qg h2,bT (K:=KM) (by decide) bI aY ((hpN e c).trans h2)⟩
  |some a=>
   obtain ⟨b,o,sp⟩:=a
   have hf:(sp.isNone&&(qaf b fF&&(qaf o 0&&(qaf 0 0&&qaf c aF))))=true:=hf
   simp only [qae] at hf
   obtain ⟨f1,f2,f3,_,f5⟩:=hf
   have f2:=qab f2
   have f3:=qab f3
   have f5:=qab f5
   subst f2 f3 f5
   cases sp with
   |some x=>cases f1
   |none=>
    cases e with
    |negSucc z=>exact ⟨C10,40,fun lo=>@QS lo,qg h2,bT (K:=KM) (by decide) bI aY ((hnD z).trans h2)⟩
    |ofNat e=>exact ⟨C10,40,fun lo=>@QS lo,qg h2,bT (K:=KM) (by decide) bI aY ((hpD e).trans h2)⟩
 ·cases hr
theorem akn:aag Tryz.prog 9 aul:=by
 refine ahE (fun W z n=>(ad7 W z n).trans (aaO z W)) (fun z c=>(ad8 z c).trans (aaO z [])) (fun z=>(adp z).trans (aaO z [])) ?_ ?_ ?_ ?_
 ·intro W e m hW
  obtain ⟨h1,h2,h3⟩:=lV hW
  cases e with
  |succ z=>exact (adu W z m).trans (akY h2)
  |zero=>
   obtain ⟨f1,f2,f3,f4,f5,f6,f7,f8,f9⟩:=ac7 (m:=m) h1 h2 (by omega)
   refine (an8 W m).trans ?_;unfold agU Bg aah Ny aat YQ ahz aad anb ams IB
   rw [f1,f2,f3,f4,ajM h1,oN (N:=sP0.N) f5,f6,f7,f8,f9]
   rfl
 ·intro e
  cases e with
  |succ z=>exact (adn z).trans (aav z)
  |zero=>exact (adJ 0).trans aaH
 ·intro e c
  cases e with
  |succ z=>exact (aeA z c).trans (aav z)
  |zero=>exact (adg 0 c).trans aaH
 ·intro e
  cases e with
  |succ z=>exact (adz z).trans (aav z)
  |zero=>exact (aek 0).trans aaH
def aS (W:List Value)(t:TypeId)(n:Nat):fM:=.one (.sl W t n)
def aV (v:Value):fM:=.one (.raw v)
def sSW:bM:={ N:=64,need:=[0,1,5,6],low:=[32,33],keep:=[],new:=[] }
def eSW:bM:={ N:=64,need:=[5],low:=[],keep:=[],new:=[] }
def slM (n:Nat):Value:=.slice (some ⟨33,0,none⟩) n aF
def sOB:bM:={ N:=65,need:=[0,2],low:=[],keep:=[(64,true,false)],new:=[] }
def eOB:bM:={ N:=65,need:=[],low:=[],keep:=[],new:=[] }
def hOB (L:List Value)(n i:Nat):bg:=⟨[slW 64 n,iN i],[(64,.row L tB 64)]⟩
theorem ai2 (A:List Value)(n:Nat)(B:List Value)(k:Nat):(runK KM CB 12).1 11 (bH ([aS A tB n,aS B tB k])) (aP ([aS A tB n,aS B tB k])) (dJ Tryz.prog)=sel ((n.mul 1).ble (aQ A)) (sel (fZ (aA (n.mul 1) A)) (sel ((k.mul 1).ble (aQ B)) (sel (fZ (aA (k.mul 1) B)) (some { val:=[.one (.flat (.bool (mJ (vk (aA (n.mul 1) A)) (vk (aA (k.mul 1) B)))))],rows:=[] }) none) none) none) none:=by kernel_rfl
theorem ajx (A:List Value)(n:Nat)(d:Nat):(runK KM CB 12).1 11 (bH ([aS A tB n,aV (.slice none 0 d)])) (aP ([aS A tB n,aV (.slice none 0 d)])) (dJ Tryz.prog)=sel ((n.mul 1).ble (aQ A)) (sel (fZ (aA (n.mul 1) A)) (some { val:=[jk.one (gX.flat (Value.bool (mJ (vk (aA (n.mul 1) A)) [])))],rows:=[] }) none) none:=by kernel_rfl
def WZ (n:Nat):Option cO:=some { val:=[.one (.flat (.bool (eqI (qaa n) (qaa 0))))],rows:=[] }
def aa6 (A:List Value)(n:Nat):Option cO:=sel (ltI 0 (qaa n)) (sel (ltN 0 n) (sel (gI (.int .u64 0) (nth A 0)) none none) none) (WZ n)
theorem atA (A:List Value)(n:Nat)(d:Nat):(runK KM CB 12).1 37 (bH ([aS A tW n,aV (.slice none 0 d)])) (aP ([aS A tW n,aV (.slice none 0 d)])) (dJ Tryz.prog)=sel (eqI (qaa n) (qaa 0)) (aa6 A n) (WZ n):=by kernel_rfl
theorem ae8 (A:List Value)(n:Nat):(runK KM CB 12).1 11 (bH ([aS A tB n,aV dB])) (aP ([aS A tB n,aV dB])) (dJ Tryz.prog)=sel ((n.mul 1).ble (aQ A)) (sel (fZ (aA (n.mul 1) A)) (some { val:=[jk.one (gX.flat (Value.bool (mJ (vk (aA (n.mul 1) A)) [])))],rows:=[] }) none) none:=by kernel_rfl
theorem arH (A:List Value)(n:Nat):(runK KM CB 12).1 37 (bH ([aS A tW n,aV dB])) (aP ([aS A tW n,aV dB])) (dJ Tryz.prog)=sel (eqI (qaa n) (qaa 0)) (aa6 A n) (WZ n):=by kernel_rfl
theorem afU (c:Nat)(B:List Value)(k:Nat):(runK KM CB 12).1 11 (bH ([aV (.slice none 0 c),aS B tB k])) (aP ([aV (.slice none 0 c),aS B tB k])) (dJ Tryz.prog)=sel ((k.mul 1).ble (aQ B)) (sel (fZ (aA (k.mul 1) B)) (some { val:=[jk.one (gX.flat (Value.bool (mJ [] (vk (aA (k.mul 1) B)))))],rows:=[] }) none) none:=by kernel_rfl
def Qm (k:Nat):Option cO:=some { val:=[.one (.flat (.bool (eqI (qaa 0) (qaa k))))],rows:=[] }
theorem asb (c:Nat)(B:List Value)(k:Nat):(runK KM CB 12).1 37 (bH ([aV (.slice none 0 c),aS B tW k])) (aP ([aV (.slice none 0 c),aS B tW k])) (dJ Tryz.prog)=sel (eqI (qaa 0) (qaa k)) (Qm k) (Qm k):=by kernel_rfl
theorem aic (c:Nat)(d:Nat):(runK KM CB 12).1 11 (bH ([aV (.slice none 0 c),aV (.slice none 0 d)])) (aP ([aV (.slice none 0 c),aV (.slice none 0 d)])) (dJ Tryz.prog)=some { val:=[jk.one (gX.flat (Value.bool true))],rows:=[] }:=by kernel_rfl
theorem ahM (c:Nat)(d:Nat):(runK KM CB 12).1 37 (bH ([aV (.slice none 0 c),aV (.slice none 0 d)])) (aP ([aV (.slice none 0 c),aV (.slice none 0 d)])) (dJ Tryz.prog)=some { val:=[jk.one (gX.flat (Value.bool true))],rows:=[] }:=by kernel_rfl
theorem agG (c:Nat):(runK KM CB 12).1 11 (bH ([aV (.slice none 0 c),aV dB])) (aP ([aV (.slice none 0 c),aV dB])) (dJ Tryz.prog)=some { val:=[jk.one (gX.flat (Value.bool true))],rows:=[] }:=by kernel_rfl
theorem ahF (c:Nat):(runK KM CB 12).1 37 (bH ([aV (.slice none 0 c),aV dB])) (aP ([aV (.slice none 0 c),aV dB])) (dJ Tryz.prog)=some { val:=[jk.one (gX.flat (Value.bool true))],rows:=[] }:=by kernel_rfl
theorem afL (B:List Value)(k:Nat):(runK KM CB 12).1 11 (bH ([aV dB,aS B tB k])) (aP ([aV dB,aS B tB k])) (dJ Tryz.prog)=sel ((k.mul 1).ble (aQ B)) (sel (fZ (aA (k.mul 1) B)) (some { val:=[jk.one (gX.flat (Value.bool (mJ [] (vk (aA (k.mul 1) B)))))],rows:=[] }) none) none:=by kernel_rfl
theorem asQ (B:List Value)(k:Nat):(runK KM CB 12).1 37 (bH ([aV dB,aS B tW k])) (aP ([aV dB,aS B tW k])) (dJ Tryz.prog)=sel (eqI (qaa 0) (qaa k)) (Qm k) (Qm k):=by kernel_rfl
theorem ag8 (d:Nat):(runK KM CB 12).1 11 (bH ([aV dB,aV (.slice none 0 d)])) (aP ([aV dB,aV (.slice none 0 d)])) (dJ Tryz.prog)=some { val:=[jk.one (gX.flat (Value.bool true))],rows:=[] }:=by kernel_rfl
theorem afC (d:Nat):(runK KM CB 12).1 37 (bH ([aV dB,aV (.slice none 0 d)])) (aP ([aV dB,aV (.slice none 0 d)])) (dJ Tryz.prog)=some { val:=[jk.one (gX.flat (Value.bool true))],rows:=[] }:=by kernel_rfl
theorem afQ (z:Nat):(runK KM CB 12).1 11 (bH ([aV dB,aV dB])) (aP ([aV dB,aV dB])) (dJ Tryz.prog)=some { val:=[jk.one (gX.flat (Value.bool true))],rows:=[] }:=by kernel_rfl
theorem afj (z:Nat):(runK KM CB 12).1 37 (bH ([aV dB,aV dB])) (aP ([aV dB,aV dB])) (dJ Tryz.prog)=some { val:=[jk.one (gX.flat (Value.bool true))],rows:=[] }:=by kernel_rfl
def aij (i:Nat):=(i.add 1).ble 9223372036854775807
def ace (L:List Value)(i:Nat):=qaa (((ay L (qag 0 (i.mul 1))).mod 256).xor 165)
theorem ax0 (L:List Value)(n i:Nat):jC KM.plain CB (runK KM CB 8).1 (runK KM CB 8).2 (CB.vars 18) 18 false (fH CB 18 1) (fV Tryz.prog (CB.vars 18) sOB eOB) (Cc sOB.need (hOB L n i)) (lF sOB.next (hOB L n i))=sel (ltI (qaa i) (qaa n)) (sel (ltN i n) (sel (gI (.int .u8 0) (nth L (qag 0 (i.mul 1)))) (sel (ltN i n) (sel (((qag 0 (i.mul 1)).add 1).ble (aQ L)) (sel (aij i) (sel (List.rec true (fun v x ih=>sel (aX sOB.N v) ih false) (xU [.int .u8 (ace L i)] (qag 0 (i.mul 1)) L)) (some (.normal,{ vals:=[.slice (some ⟨64,0,none⟩) n 18446744073709551616,.int .i64 (qaa (i.add 1))],rows:=[(64,.row (xU [.int .u8 (ace L i)] (qag 0 (i.mul 1)) L) 5 64)] })) none) none) none) none) none) none) (some (.exit 0,{ vals:=[],rows:=[] })):=by kernel_rfl
namespace Fn
def Fg (A B:List Value):Bool:=mJ (vk A) (vk B)
def yG (A B:List Value):Bool:=decide (bC A=bC B)
def okL (A:List Value)(n:Nat):Bool:=allB A&&(qaf n (aQ A)&&qat n 4096)
end Fn
theorem SQ {A:List Value}{n:Nat}(h:Fn.okL A n=true):allB A=true∧n=aQ A∧n≤4096:=by
 unfold Fn.okL at h
 simp only [qae] at h
 exact ⟨h.1,qab h.2.1,qad h.2.2⟩
theorem I8:∀ l:List UInt8,mJ l l=true
 |[]=>rfl
 |a::l=>by
  show sel (qaf a.toNat a.toNat) (mJ l l) false=true
  rw [jG rfl,aN]
  exact I8 l
theorem adR (A:List Value):Fn.Fg A A=true:=I8 _
theorem QT (A:List Value):Fn.yG A A=true:=by unfold Fn.yG;simp
def bRs (b:Bool):cO:=⟨[.one (.flat (.bool b))],[]⟩
def am4 (t:TypeId)(ok:List Value→Nat→Bool)(same:List Value→List Value→Bool)(l:List fM):Tree cO:=
 match l with
 |[.one (.sl A e n),.one (.sl B e' k)]=>bY (qaf e t&&(qaf e' t&&(ok A n&&ok B k))) (.leaf (bRs (same A B)))
 |[.one (.sl A e n),.one (.raw (.slice _ k _))]=>bY (qaf e t&&(ok A n&&qaf k 0)) (.leaf (bRs (same A [])))
 |[.one (.raw (.slice _ k _)),.one (.sl A e n)]=>bY (qaf e t&&(ok A n&&qaf k 0)) (.leaf (bRs (same [] A)))
 |[.one (.raw (.slice _ n _)),.one (.raw (.slice _ k _))]=>bY (qaf n 0&&qaf k 0) (.leaf (bRs true))
 |_=>.fail
theorem nT {a:Option Addr}{c:Nat}(h:oU (.slice a 0 c)=true):a=none∨(Value.slice a 0 c=dB):=by
 cases a with
 |none=>exact .inl rfl
 |some a=>
  right
  obtain ⟨b,o,sp⟩:=a
  have hf:(sp.isNone&&(qaf b fF&&(qaf o 0&&(qaf 0 0&&qaf c aF))))=true:=h
  simp only [qae] at hf
  obtain ⟨f1,f2,f3,_,f5⟩:=hf
  have f2:=qab f2
  have f3:=qab f3
  have f5:=qab f5
  subst f2 f3 f5
  cases sp with
  |some x=>cases f1
  |none=>rfl
abbrev QW (C:Cfg)(f:FuncId)(l:List fM):Option cO:=(runK KM C 12).1 f (bH l) (aP l) (dJ Tryz.prog)
theorem anu {C:Cfg}{f:FuncId}{t:TypeId}{ok:List Value→Nat→Bool}{same:List Value→List Value→Bool}
  (hSS:∀ A n B k,ok A n=true→ok B k=true→QW C f [aS A t n,aS B t k]=some (bRs (same A B)))
  (hSN:∀ A n c,ok A n=true→QW C f [aS A t n,aV (.slice none 0 c)]=some (bRs (same A [])))
  (hSD:∀ A n,ok A n=true→QW C f [aS A t n,aV dB]=some (bRs (same A [])))
  (hNS:∀ A n c,ok A n=true→QW C f [aV (.slice none 0 c),aS A t n]=some (bRs (same [] A)))
  (hDS:∀ A n,ok A n=true→QW C f [aV dB,aS A t n]=some (bRs (same [] A)))
  (hNN:∀ c d,QW C f [aV (.slice none 0 c),aV (.slice none 0 d)]=some (bRs true))
  (hND:∀ c,QW C f [aV (.slice none 0 c),aV dB]=some (bRs true))
  (hDN:∀ c,QW C f [aV dB,aV (.slice none 0 c)]=some (bRs true))
  (hDD:QW C f [aV dB,aV dB]=some (bRs true)):y8 Tryz.prog C 12 f (am4 t ok same):=by
 intro comps r kE hr
 have JL:∀ b,r=bRs b→∀ p∈r.rows,flatAll p.1=true:=fun b h p hp=>by rw [h] at hp;cases hp
 have key:∀ b,r=bRs b→QW C f comps=some (bRs b)→(∀ p∈r.rows,flatAll p.1=true)∧aj ((runN C 12).1 f (bH comps) (aP comps)) (dJ Tryz.prog)=some r:=
  fun b h g=>⟨JL b h,by rw [h];exact bT (K:=KM) (by decide) bI aY g⟩
 unfold am4 at hr
 split at hr
 ·rename_i A e n B e' k
  obtain ⟨hg,h2⟩:=aJ hr
  simp only [qae] at hg
  obtain ⟨g1,g2,g3,g4⟩:=hg
  have g1:e=t:=qab g1
  have g2:e'=t:=qab g2
  subst g1 g2
  cases h2
  exact key _ rfl (hSS A n B k g3 g4)
 ·rename_i A e n a k c
  obtain ⟨hg,h2⟩:=aJ hr
  simp only [qae] at hg
  obtain ⟨g1,g2,g3⟩:=hg
  have g1:e=t:=qab g1
  have g3:k=0:=qab g3
  subst g1 g3
  cases h2
  have hf:oU (.slice a 0 c)=true:=kE (.one (.raw (.slice a 0 c))) (qam _ qah)
  rcases nT hf with rfl|e
  ·exact key _ rfl (hSN A n c g2)
  ·refine key _ rfl ?_
   rw [e]
   exact hSD A n g2
 ·rename_i a k c A e n
  obtain ⟨hg,h2⟩:=aJ hr
  simp only [qae] at hg
  obtain ⟨g1,g2,g3⟩:=hg
  have g1:e=t:=qab g1
  have g3:k=0:=qab g3
  subst g1 g3
  cases h2
  have hf:oU (.slice a 0 c)=true:=kE (.one (.raw (.slice a 0 c))) qah
  rcases nT hf with rfl|e
  ·exact key _ rfl (hNS A n c g2)
  ·refine key _ rfl ?_
   rw [e]
   exact hDS A n g2
 ·rename_i a n c b k d
  obtain ⟨hg,h2⟩:=aJ hr
  simp only [qae] at hg
  obtain ⟨g1,g2⟩:=hg
  have g1:n=0:=qab g1
  have g2:k=0:=qab g2
  subst g1 g2
  cases h2
  have hf:oU (.slice a 0 c)=true:=kE (.one (.raw (.slice a 0 c))) qah
  have hf':oU (.slice b 0 d)=true:=kE (.one (.raw (.slice b 0 d))) (qam _ qah)
  rcases nT hf with rfl|e <;> rcases nT hf' with rfl|e'
  ·exact key _ rfl (hNN c d)
  ·refine key _ rfl ?_
   rw [e']
   exact hND c
  ·refine key _ rfl ?_
   rw [e]
   exact hDN d
  ·refine key _ rfl ?_
   rw [e,e']
   exact hDD
 ·cases hr
theorem aq2:y8 Tryz.prog CB 12 11 (am4 tB Fn.okL Fn.Fg):=by
 have t1:∀ {A:List Value} {n:Nat},Fn.okL A n=true→(n.mul 1).ble (aQ A)=true∧aA (n.mul 1) A=A∧fZ A=true:=fun h=>by
  obtain ⟨h1,h2,h3⟩:=SQ h
  exact ⟨gU (by rw [←h2];show _*1≤_;omega),x9 h2,Ia h1⟩
 refine anu ?_ ?_ ?_ ?_ ?_ (fun c d=>aic c d) (fun c=>agG c) (fun c=>ag8 c) (afQ 0)
 ·intro A n B k hA hB
  obtain ⟨a1,a2,a3⟩:=t1 hA
  obtain ⟨b1,b2,b3⟩:=t1 hB
  refine (ai2 A n B k).trans ?_
  rw [a1,a2,a3,b1,b2,b3];rfl
 ·intro A n c hA
  obtain ⟨a1,a2,a3⟩:=t1 hA
  refine (ajx A n c).trans ?_
  rw [a1,a2,a3];rfl
 ·intro A n hA
  obtain ⟨a1,a2,a3⟩:=t1 hA
  refine (ae8 A n).trans ?_
  rw [a1,a2,a3];rfl
 ·intro A n c hA
  obtain ⟨a1,a2,a3⟩:=t1 hA
  refine (afU c A n).trans ?_
  rw [a1,a2,a3];rfl
 ·intro A n hA
  obtain ⟨a1,a2,a3⟩:=t1 hA
  refine (afL A n).trans ?_
  rw [a1,a2,a3];rfl
theorem EX:∀ {W:List Value},CS W=true→flatAll W=true
 |[],_=>rfl
 |a::W,h=>by
  obtain ⟨h1,h2⟩:=dn (show sel (isW a) (CS W) false=true from h)
  obtain ⟨g1,_⟩:=agM h1
  show sel (kV a) (flatAll W) false=true
  rw [g1]
  exact EX h2
def hSX (A B:List Value)(n k i:Nat)(b:Bool):bg:=⟨[slL n,slM k,.bool b,iN i],[(32,.row A tW 32),(33,.row B tW 33)]⟩
theorem ab7 (A B:List Value)(n k i:Nat):jC KM.plain CB (runK KM CB 8).1 (runK KM CB 8).2 (CB.vars 37) 37 false (fH CB 37 3) (fV Tryz.prog (CB.vars 37) sSW eSW) (Cc sSW.need (hSX A B n k i true)) (lF sSW.next (hSX A B n k i true))=sel (ltI (qaa i) (qaa n)) (sel (ltN i n) (sel (gI (.int .u64 0) (nth A (qag 0 (i.mul 1)))) (sel (ltN i k) (sel (gI (.int .u64 0) (nth B (qag 0 (i.mul 1)))) (sel ((i.add 1).ble 9223372036854775807) (sel (List.rec true (fun v x ih=>sel (tC v) ih false) A) (sel (List.rec true (fun v x ih=>sel (tC v) ih false) B) (some (.normal,{ vals:=[.slice (some ⟨32,0,none⟩) n 18446744073709551616,.slice (some ⟨33,0,none⟩) k 18446744073709551616,.bool (eqI (qaa (ay A (qag 0 (i.mul 1)))) (qaa (ay B (qag 0 (i.mul 1))))),.int .i64 (qaa (i.add 1))],rows:=[(32,.row A 45 32),(33,.row B 45 33)] })) none) none) none) none) none) none) none) (some (.exit 0,{ vals:=[.bool true],rows:=[] })):=by kernel_rfl
theorem ajY (A B:List Value)(n k i:Nat):jC KM.plain CB (runK KM CB 8).1 (runK KM CB 8).2 (CB.vars 37) 37 false (fH CB 37 3) (fV Tryz.prog (CB.vars 37) sSW eSW) (Cc sSW.need (hSX A B n k i false)) (lF sSW.next (hSX A B n k i false))=some (Ex.exit 0,{ vals:=[Value.bool false],rows:=[] }):=by kernel_rfl
def exS (y:bg):Option (Ex × bg):=
 jC KM.plain CB (runK KM CB 8).1 (runK KM CB 8).2 (CB.vars 37) 37 false (fH CB 37 3) (fV Tryz.prog (CB.vars 37) sSW eSW) (Cc sSW.need y) (lF sSW.next y)
def exO (y:bg):Option (Ex × bg):=
 jC KM.plain CB (runK KM CB 8).1 (runK KM CB 8).2 (CB.vars 18) 18 false (fH CB 18 1) (fV Tryz.prog (CB.vars 18) sOB eOB) (Cc sOB.need y) (lF sOB.next y)
theorem anT {A B:List Value}{i:Nat}(hA:CS A=true)(hB:CS B=true)(hi:i<A.length)(hl:A.length=B.length)(hb:A.length≤400) :
  exS (hSX A B A.length B.length i true)=some (.normal,hSX A B A.length B.length (i+1) (eqI (qaa ((bC A).getD i 0)) (qaa ((bC B).getD i 0)))):=by
 obtain ⟨a1,a2,a3⟩:=Zn hA hi
 obtain ⟨b1,b2,b3⟩:=Zn (i:=i) hB (by omega)
 have e:qag 0 (i.mul 1)=i:=by show 0+i*1=i;omega
 unfold exS
 rw [ab7,YD hi,show ltN i A.length=true from gU hi,show ltN i B.length=true from gU (by omega),e,a2,b2,show gI (.int .u64 0) (nth A i)=true by rw [a1];rfl,show gI (.int .u64 0) (nth B i)=true by rw [b1];rfl,
  show (i.add 1).ble 9223372036854775807=true from gU (by show i+1≤_;omega),ajM hA,ajM hB]
 rfl
theorem arI {A B:List Value}{k:Nat}:exS (hSX A B A.length k A.length true)=some (.exit 0,⟨[.bool true],[]⟩):=by
 unfold exS
 rw [ab7,Sz (qaw _)]
 rfl
theorem aw8 {A B:List Value}{n k i:Nat}:exS (hSX A B n k i false)=some (.exit 0,⟨[.bool false],[]⟩):=ajY A B n k i
theorem apV {L:List Value}{i:Nat}(hL:allB L=true)(hi:i<L.length)(hb:L.length≤4096):∃ L',allB L'=true∧L'.length=L.length∧exO (hOB L L.length i)=some (.normal,hOB L' L.length (i+1)):=by
 obtain ⟨x,hx,hlt⟩:=UJ hL hi
 have e:qag 0 (i.mul 1)=i:=by show 0+i*1=i;omega
 have hn:nth L i=some (qb8 x):=by rw [jc];exact hx
 have e2:xU [.int .u8 (qaa (((ay L i).mod 256).xor 165))] i L=L.take i++(qb8 (((ay L i)%256) ^^^ 165)::L.drop (i+1)):=by
  unfold xU
  rw [gW,gW,qj,gu]
  rfl
 have hX:allB (L.take i++(qb8 (((ay L i)%256) ^^^ 165)::L.drop (i+1)))=true:=by
  refine qp ?_ ?_
  ·have:∀ (n:Nat) (l:List Value),allB l=true→allB (l.take n)=true:=by
    intro n
    induction n with
    |zero=>intro l _;rfl
    |succ n ih=>
     intro l h
     cases l with
     |nil=>rfl
     |cons a l=>
      obtain ⟨h1,h2⟩:=dn (show sel (isB a) (allB l) false=true from h)
      show sel (isB a) (allB (l.take n)) false=true
      rw [h1,aN]
      exact ih l h2
   exact this i L hL
  ·show sel (isB (qb8 _)) (allB (L.drop (i+1))) false=true
   rw [ab6 (Nat.xor_lt_two_pow (n:=8) (by omega) (by omega)),aN]
   exact xG _ hL
 refine ⟨_,hX,?_,?_⟩
 ·rw [qaj,qaC,qaq,List.length_drop];omega
 ·unfold exO
  rw [ax0];unfold ace aij;rw [YD hi,show ltN i L.length=true from gU hi,e,show gI (.int .u8 0) (nth L i)=true by rw [hn];rfl,gU (show i.add 1≤aQ L by rw [aU];show i+1≤_;omega),gU (show i.add 1≤9223372036854775807 by show i+1≤_;omega),e2,oN (N:=sOB.N) hX]
  rfl
theorem atY {L:List Value}:exO (hOB L L.length L.length)=some (.exit 0,⟨[],[]⟩):=by
 unfold exO
 rw [ax0];unfold ace aij;rw [Sz (qaw _)]
 rfl
variable [Lo]
theorem Yg {a b:List Nat}{i:Nat}(h:a.take i=b.take i)(ha:i<a.length)(hb:i<b.length):a.take (i+1)=b.take (i+1)↔a.getD i 0=b.getD i 0:=by
 have e1:a.take (i+1)=a.take i++[a[i]]:=by rw [qav,qai ha];rfl
 have e2:b.take (i+1)=b.take i++[b[i]]:=by rw [qav,qai hb];rfl
 have e3:a.getD i 0=a[i]:=by rw [qal,qai ha];rfl
 have e4:b.getD i 0=b[i]:=by rw [qal,qai hb];rfl
 rw [e1,e2,h,e3,e4]
 constructor
 ·intro g
  exact List.cons.inj (List.append_cancel_left g) |>.1
 ·intro g
  rw [g]
theorem aoi {A B:List Value}{n k:Nat}{b:Bool}(hA:CS A=true)(hn:n=A.length)(hb:A.length≤400)(hB:CS B=true)(hk:k=B.length)(hnk:b=true→n=k) :
  ∃ R f,R f sSW (hSX A B n k 0 b)∧qW Tryz.prog CB KM 8 37 (fH CB 37 3) 64 R (.exit 0) eSW ⟨[.bool (b&&Fn.yG A B)],[]⟩:=by
 subst hn hk
 have hla:(bC A).length=A.length:=by unfold bC;simp
 have hlb:(bC B).length=B.length:=by unfold bC;simp
 refine ⟨fun f sp y=>sp=sSW∧∃ i c,i≤A.length∧f=A.length-i+1∧y=hSX A B A.length B.length i c∧((c=true∧b=true∧A.length=B.length∧(bC A).take i=(bC B).take i)∨(c=false∧(b&&Fn.yG A B)=false)),A.length+1,⟨rfl,0,b,qar _,rfl,rfl,?_⟩,⟨?_⟩⟩
 ·cases b with
  |true=>exact .inl ⟨rfl,rfl,hnk rfl,rfl⟩
  |false=>exact .inr ⟨rfl,rfl⟩
 ·rintro f sp y ⟨rfl,i,c,hi,rfl,rfl,h⟩
  refine ⟨A.length-i,rfl,sSW,?_⟩
  rcases h with ⟨rfl,rfl,hl,ht⟩|⟨rfl,hf⟩
  ·by_cases hlt:i<A.length
   ·refine ⟨_,rfl,anT hA hB hlt hl hb,.inl ⟨rfl,rfl,i+1,_,hlt,by omega,rfl,?_⟩⟩
    have key:=Yg ht (by omega) (by omega)
    by_cases he:(bC A).getD i 0=(bC B).getD i 0
    ·exact .inl ⟨by rw [he];exact dV _,rfl,hl,key.2 he⟩
    ·refine .inr ⟨sQ he,?_⟩
     show Fn.yG A B=false
     unfold Fn.yG
     rw [decide_eq_false_iff_not]
     intro e
     exact he (key.1 (by rw [e]))
   ·have hi:i=A.length:=by omega
    subst hi
    refine ⟨_,rfl,arI,.inr ⟨fun h=>(by cases h),?_⟩⟩
    have:Fn.yG A B=true:=by
     unfold Fn.yG
     rw [decide_eq_true_iff]
     rw [qap (by omega),qap (by omega)] at ht
     exact ht
    rw [this]
    rfl
  ·refine ⟨_,rfl,aw8,.inr ⟨fun h=>(by cases h),?_⟩⟩
   rw [hf]
theorem ap2 {L:List Value}{n:Nat}(hL:allB L=true)(hn:n=L.length)(hb:L.length≤4096) :
  ∃ R f,R f sOB (hOB L n 0)∧qW Tryz.prog CB KM 8 18 (fH CB 18 1) 65 R (.exit 0) eOB ⟨[],[]⟩:=by
 subst hn
 refine ⟨fun f sp y=>sp=sOB∧∃ i L',i≤L.length∧f=L.length-i+1∧y=hOB L' L.length i∧allB L'=true∧L'.length=L.length,L.length+1,⟨rfl,0,L,qar _,rfl,rfl,hL,rfl⟩,⟨?_⟩⟩
 rintro f sp y ⟨rfl,i,L',hi,rfl,rfl,hL',hl⟩
 refine ⟨L.length-i,rfl,sOB,?_⟩
 by_cases hlt:i<L.length
 ·obtain ⟨L2,h1,h2,h3⟩:=apV (i:=i) hL' (by omega) (by omega)
  rw [hl] at h3
  exact ⟨_,rfl,h3,.inl ⟨rfl,rfl,i+1,L2,hlt,by omega,rfl,h1,by omega⟩⟩
 ·have hi:i=L.length:=by omega
  subst hi
  have:=atY (L:=L')
  rw [hl] at this
  exact ⟨_,rfl,this,.inr ⟨fun h=>(by cases h),rfl⟩⟩
def aow (v:Value)(k:Bool→LT):LT:=
 match v with
 |.bool b=>k b
 |_=>.fail
theorem aeG {v:Value}{k:Bool→LT}{r:Ex × bM × bg}(h:(aow v k).run=some r):∃ b,v = .bool b∧(k b).run=some r:=by
 unfold aow at h
 split at h
 ·exact ⟨_,rfl,h⟩
 ·cases h
namespace Fn
def arx (A:List Value)(n:Nat)(B:List Value)(k:Nat)(b:Bool):Bool:=okW A n&&(okW B k&&sel b (qaf n k) true)
def auj (b:Bool)(A B:List Value):Bool:=b&&yG A B
end Fn
def gSW (o:bg):LT:=bZ o.vals fun u l=>pSl 32 aF u fun n=>bZ l fun v l=>pSl 33 aF v fun k=>bZ l fun w l=>aow w fun b=>bZ l fun c l=>DJ .i64 c fun i=>zn l (JM (qaf i 0)
 (bZ o.rows fun q1 l=>Cm 32 tW 32 q1 fun A=>bZ l fun q2 l=>Cm 33 tW 33 q2 fun B=>zn l (bY (Fn.arx A n B k b) (.leaf (.exit 0,eSW,⟨[.bool (Fn.auj b A B)],[]⟩)))))
def gOB (o:bg):LT:=bZ o.vals fun u l=>pSl 64 aF u fun n=>bZ l fun c l=>DJ .i64 c fun i=>zn l (JM (qaf i 0)
 (bZ o.rows fun q1 l=>Cm 64 tB 64 q1 fun L=>zn l (bY (Fn.okL L n) (.leaf (.exit 0,eOB,⟨[],[]⟩)))))
theorem apc:∀ o e spe O,(gSW o).run=some (e,spe,O)→spe.N=sSW.N∧∃ R k,R k sSW o∧qW Tryz.prog CB KM 8 37 (fH CB 37 3) sSW.N R e spe O:=by
 rintro ⟨vals,rows⟩ e spe O w0
 obtain ⟨u,l1,hv,w1⟩:=aB w0
 obtain ⟨n,rfl,w2⟩:=jQ w1
 obtain ⟨v,l2,rfl,w3⟩:=aB (l:=l1) w2
 obtain ⟨k,rfl,w4⟩:=jQ w3
 obtain ⟨w,l3,rfl,w5⟩:=aB (l:=l2) w4
 obtain ⟨b,rfl,w6⟩:=aeG w5
 obtain ⟨c,l4,rfl,w7⟩:=aB (l:=l3) w6
 obtain ⟨i,rfl,w8⟩:=dG w7
 obtain ⟨rfl,w9⟩:=bV w8
 obtain ⟨hi,w10⟩:=fP w9
 have hi:i=0:=qab hi
 subst hi
 obtain ⟨q1,m1,hr,w13⟩:=aB w10
 obtain ⟨A,rfl,w14⟩:=dA (p:=q1) w13
 obtain ⟨q2,m2,rfl,w15⟩:=aB (l:=m1) w14
 obtain ⟨B,rfl,w16⟩:=dA (p:=q2) w15
 obtain ⟨rfl,w17⟩:=bV w16
 obtain ⟨hk,w18⟩:=aJ w17
 have hv:vals=_:=hv
 have hr:rows=_:=hr
 subst hv hr
 unfold Fn.arx at hk
 simp only [qae] at hk
 obtain ⟨k1,k2,k3⟩:=hk
 obtain ⟨a1,a2,a3⟩:=lV k1
 obtain ⟨b1,b2,b3⟩:=lV k2
 cases w18
 exact ⟨rfl,aoi a1 a2 (by omega) b1 b2 (fun hb=>by rw [hb,aN] at k3;exact qab k3)⟩
theorem anR:∀ o e spe O,(gOB o).run=some (e,spe,O)→spe.N=sOB.N∧∃ R k,R k sOB o∧qW Tryz.prog CB KM 8 18 (fH CB 18 1) sOB.N R e spe O:=by
 rintro ⟨vals,rows⟩ e spe O w0
 obtain ⟨u,l1,hv,w1⟩:=aB w0
 obtain ⟨n,rfl,w2⟩:=jQ w1
 obtain ⟨c,l4,rfl,w7⟩:=aB (l:=l1) w2
 obtain ⟨i,rfl,w8⟩:=dG w7
 obtain ⟨rfl,w9⟩:=bV w8
 obtain ⟨hi,w10⟩:=fP w9
 have hi:i=0:=qab hi
 subst hi
 obtain ⟨q1,m1,hr,w13⟩:=aB w10
 obtain ⟨L,rfl,w14⟩:=dA (p:=q1) w13
 obtain ⟨rfl,w17⟩:=bV w14
 obtain ⟨hk,w18⟩:=aJ w17
 have hv:vals=_:=hv
 have hr:rows=_:=hr
 subst hv hr
 obtain ⟨a1,a2,a3⟩:=SQ hk
 rw [aU] at a2
 cases w18
 exact ⟨rfl,ap2 a1 a2 (by omega)⟩
def Zi:List (Nat × Nat × L8):=[(37,3,wG Tryz.prog (CB.vars 37) sSW gSW),(18,1,wG Tryz.prog (CB.vars 18) sOB gOB)]
def C11:Cfg:={ CB with ext:=eH [],insert:=eH [],Le:=Ru Zi }
theorem ayv:qaf (aQ (tN CB 37 3)) 1=true:=by kernel_rfl
theorem ayr:qaf (aQ (tN CB 18 1)) 1=true:=by kernel_rfl
theorem ah2:∀ fn c body,C11.body fn=some c→PartOf c (.loop body)→uJ Tryz.prog C11 fn body:=by
 refine TF (L:=Zi) rfl fun q hq=>?_
 rcases List.mem_cons.1 hq with rfl|hq
 ·exact mX (K:=KM) (C0:=CB) (m:=8) (by decide) bI aY qJ rfl rfl ayv rfl apc
 ·rcases List.mem_cons.1 hq with rfl|hq
  ·exact mX (K:=KM) (C0:=CB) (m:=8) (by decide) bI aY qJ rfl rfl ayr rfl anR
  ·cases hq
theorem aqZ:dS C11 Tryz.prog:=aao (ext:=eH []) (ins:=eH []) (lf:=Ru Zi) rfl (fun f t h=>by cases h) (fun f e h=>by cases h) ah2
end
end Go.Ax
namespace Go.Ax
open Go Go.Proofs
noncomputable section
theorem afM (A B:List Value)(n k:Nat):(runK KM C11 12).1 37 (bH ([aS A tW n,aS B tW k])) (aP ([aS A tW n,aS B tW k])) (dJ Tryz.prog)=sel (List.rec true (fun v x ih=>sel (tC v) ih false) A) (sel (List.rec true (fun v x ih=>sel (tC v) ih false) B) (sel (Fn.arx A n B k (eqI (qaa n) (qaa k))) (some { val:=[.one (.flat (.bool (Fn.auj (eqI (qaa n) (qaa k)) A B)))],rows:=[] }) none) none) none:=by kernel_rfl
theorem ajX {C:Cfg}(hC:∀ lo:Lo,@dS lo C Tryz.prog){f:FuncId}{t:TypeId}{ok:List Value→Nat→Bool}{same:List Value→List Value→Bool}
  (hSS:∀ A n B k,ok A n=true→ok B k=true→QW C f [aS A t n,aS B t k]=some (bRs (same A B)))
  (hSN:∀ A n c,ok A n=true→QW CB f [aS A t n,aV (.slice none 0 c)]=some (bRs (same A [])))
  (hSD:∀ A n,ok A n=true→QW CB f [aS A t n,aV dB]=some (bRs (same A [])))
  (hNS:∀ A n c,ok A n=true→QW CB f [aV (.slice none 0 c),aS A t n]=some (bRs (same [] A)))
  (hDS:∀ A n,ok A n=true→QW CB f [aV dB,aS A t n]=some (bRs (same [] A)))
  (hNN:∀ c d,QW CB f [aV (.slice none 0 c),aV (.slice none 0 d)]=some (bRs true))
  (hND:∀ c,QW CB f [aV (.slice none 0 c),aV dB]=some (bRs true))
  (hDN:∀ c,QW CB f [aV dB,aV (.slice none 0 c)]=some (bRs true))
  (hDD:QW CB f [aV dB,aV dB]=some (bRs true)):aag Tryz.prog f (am4 t ok same):=by
 intro comps r kE hr
 have JL:∀ b,r=bRs b→∀ p∈r.rows,flatAll p.1=true:=fun b h p hp=>by rw [h] at hp;cases hp
 have axx:∀ (D:Cfg),(∀ lo:Lo,@dS lo D Tryz.prog)→∀ b,r=bRs b→QW D f comps=some (bRs b)→∃ (C:Cfg) (n:Nat),(∀ lo:Lo,@dS lo C Tryz.prog)∧(∀ p∈r.rows,flatAll p.1=true)∧aj ((runN C n).1 f (bH comps) (aP comps)) (dJ Tryz.prog)=some r:=
  fun D hD b h g=>⟨D,12,hD,JL b h,by rw [h];exact bT (K:=KM) (by decide) bI aY g⟩
 have key:=axx CB (fun lo=>@qJ lo)
 unfold am4 at hr
 split at hr
 ·rename_i A e n B e' k
  obtain ⟨hg,h2⟩:=aJ hr
  simp only [qae] at hg
  obtain ⟨g1,g2,g3,g4⟩:=hg
  have g1:e=t:=qab g1
  have g2:e'=t:=qab g2
  subst g1 g2
  cases h2
  exact axx C hC _ rfl (hSS A n B k g3 g4)
 ·rename_i A e n a k c
  obtain ⟨hg,h2⟩:=aJ hr
  simp only [qae] at hg
  obtain ⟨g1,g2,g3⟩:=hg
  have g1:e=t:=qab g1
  have g3:k=0:=qab g3
  subst g1 g3
  cases h2
  have hf:oU (.slice a 0 c)=true:=kE (.one (.raw (.slice a 0 c))) (qam _ qah)
  rcases nT hf with rfl|e
  ·exact key _ rfl (hSN A n c g2)
  ·refine key _ rfl ?_
   rw [e]
   exact hSD A n g2
 ·rename_i a k c A e n
  obtain ⟨hg,h2⟩:=aJ hr
  simp only [qae] at hg
  obtain ⟨g1,g2,g3⟩:=hg
  have g1:e=t:=qab g1
  have g3:k=0:=qab g3
  subst g1 g3
  cases h2
  have hf:oU (.slice a 0 c)=true:=kE (.one (.raw (.slice a 0 c))) qah
  rcases nT hf with rfl|e
  ·exact key _ rfl (hNS A n c g2)
  ·refine key _ rfl ?_
   rw [e]
   exact hDS A n g2
 ·rename_i a n c b k d
  obtain ⟨hg,h2⟩:=aJ hr
  simp only [qae] at hg
  obtain ⟨g1,g2⟩:=hg
  have g1:n=0:=qab g1
  have g2:k=0:=qab g2
  subst g1 g2
  cases h2
  have hf:oU (.slice a 0 c)=true:=kE (.one (.raw (.slice a 0 c))) qah
  have hf':oU (.slice b 0 d)=true:=kE (.one (.raw (.slice b 0 d))) (qam _ qah)
  rcases nT hf with rfl|e <;> rcases nT hf' with rfl|e'
  ·exact key _ rfl (hNN c d)
  ·refine key _ rfl ?_
   rw [e']
   exact hND c
  ·refine key _ rfl ?_
   rw [e]
   exact hDN d
  ·refine key _ rfl ?_
   rw [e,e']
   exact hDD
 ·cases hr
theorem zK {A B:List Value}(h:A.length≠B.length):Fn.yG A B=false:=by
 unfold Fn.yG
 rw [decide_eq_false_iff_not]
 intro e
 have:=congrArg List.length e
 unfold bC at this
 simp at this
 exact h this
theorem aui:aag Tryz.prog 37 (am4 tW Fn.okW Fn.yG):=by
 have hz:∀ A:List Value,Fn.okW A 0=true→A=[]:=fun A h=>List.length_eq_zero_iff.1 (lV h).2.1.symm
 refine ajX (fun lo=>@aqZ lo) ?_ ?_ ?_ ?_ ?_ (fun c d=>ahM c d) (fun c=>ahF c) (fun c=>afC c) (afj 0)
 ·intro A n B k hA hB
  obtain ⟨a1,a2,a3⟩:=lV hA
  obtain ⟨b1,b2,b3⟩:=lV hB
  have h:Fn.arx A n B k (eqI (qaa n) (qaa k))=true:=by
   unfold Fn.arx
   rw [hA,hB]
   show sel (qaf n k) (qaf n k) true=true
   cases qaf n k <;> rfl
  refine (afM A B n k).trans ?_
  rw [ajM a1,ajM b1,h]
  have:Fn.auj (eqI (qaa n) (qaa k)) A B=Fn.yG A B:=by
   unfold Fn.auj
   by_cases e:n=k
   ·rw [e,dV];rfl
   ·rw [show eqI (qaa n) (qaa k)=false from sQ e,zK (by omega)]
    rfl
  rw [this]
  rfl
 ·intro A n c hA
  refine (atA A n c).trans ?_;unfold aa6 WZ
  obtain ⟨_,h2,_⟩:=lV hA
  by_cases e:n=0
  ·subst e
   have:=hz A hA
   subst this
   rfl
  ·rw [show eqI (qaa n) (qaa 0)=false from sQ e,zK (B:=[]) (by show _≠0;omega)]
   rfl
 ·intro A n hA
  refine (arH A n).trans ?_;unfold aa6 WZ
  obtain ⟨_,h2,_⟩:=lV hA
  by_cases e:n=0
  ·subst e
   have:=hz A hA
   subst this
   rfl
  ·rw [show eqI (qaa n) (qaa 0)=false from sQ e,zK (B:=[]) (by show _≠0;omega)]
   rfl
 ·intro A n c hA
  refine (asb c A n).trans ?_;unfold Qm
  obtain ⟨_,h2,_⟩:=lV hA
  by_cases e:n=0
  ·subst e
   have:=hz A hA
   subst this
   rfl
  ·rw [show eqI (qaa 0) (qaa n)=false from sQ (fun h=>e h.symm),zK (A:=[]) (by show 0≠_;omega)]
   rfl
 ·intro A n hA
  refine (asQ A n).trans ?_;unfold Qm
  obtain ⟨_,h2,_⟩:=lV hA
  by_cases e:n=0
  ·subst e
   have:=hz A hA
   subst this
   rfl
  ·rw [show eqI (qaa 0) (qaa n)=false from sQ (fun h=>e h.symm),zK (A:=[]) (by show 0≠_;omega)]
   rfl
namespace Fn
def qOk (k a v c h:Int):Bool:=qaf (qE k a v c h) 0
def qEr (k a v c h:Int):Nat:=qE k a v c h-1
def qLn (k a v c h:Int):Nat:=aQ (qL k a v c h)-1
end Fn
def ap6 (k a v c h:Int):Tree cO:=.test (Fn.qOk k a v c h) (.leaf ⟨[.one (.sl 0 (qac (Fn.qLn k a v c h))),.one (.flat (.int .i64 0))],[(Fn.qL k a v c h,tB)]⟩) (.leaf ⟨[.one (.flat (.slice none 0 0)),.one (.flat (iN (qac (Fn.qEr k a v c h))))],[]⟩)
def Rz (l:List fM):Tree cO:=
 match l with
 |[.agg [.raw (.int .i64 k),.raw (.int .i64 a),.raw (.int .i64 v),.raw (.int .i64 c),.raw (.int .i64 h)]]=>ap6 k a v c h
 |_=>.fail
theorem ae5 (k a v c h:Int):1≤aQ (Fn.qL k a v c h):=by
 have:=(vC k.toNat).1
 rw [aU] at this ⊢
 show 1≤(Fn.eu k.toNat++iD _).length
 rw [qaj]
 omega
theorem Zk {f:FuncId}(hf:∀ k a v c h:Int,Fn.qE k a v c h=0→∃ w,(runK (iL true) (C4 w) 40).1 f [qv k a v c h] (aP []) (dJ Tryz.prog)=some (zZ k a v c h))
  (hg:∀ k a v c h:Int,Fn.qE k a v c h≠0→(runK (iL true) (C3 false) 40).1 f [qv k a v c h] (aP []) (dJ Tryz.prog)=some (adP (Fn.qE k a v c h))):aag Tryz.prog f Rz:=by
 have h1:=aaw hf
 have h2:=YH hg
 intro comps r kE hr
 unfold Rz at hr
 split at hr
 ·rename_i k a v c h
  have hr:sel (Fn.qOk k a v c h) _ _=some r:=hr
  unfold Fn.qOk at hr
  by_cases he:Fn.qE k a v c h=0
  ·rw [jG he] at hr
   cases hr
   refine h1 _ _ kE ?_
   show (bY (qaf (Fn.qE k a v c h) 0) (.leaf (zZ k a v c h))).run=_
   rw [jG he]
   unfold zZ Fn.qLn
   have:=ae5 k a v c h
   rw [show qac (aQ (Fn.qL k a v c h)-1)=aQ (Fn.qL k a v c h) by omega]
   rfl
  ·rw [sQ he] at hr
   cases hr
   refine h2 _ _ kE ?_
   show sel (qaf (Fn.qE k a v c h) 2) (some (adP 2)) (sel (qaf (Fn.qE k a v c h) 3) (some (adP 3)) (sel (qaf (Fn.qE k a v c h) 5) (some (adP 5)) none))=_
   unfold Fn.qEr
   rcases RH k a v c h with e|e|e|e
   ·exact absurd e he
   all_goals (rw [e];rfl)
 ·cases hr
theorem asX:aag Tryz.prog 6 Rz:=Zk avK avO
def rdG (T:List Value→Tree cO)(l:List fM):Tree cO:=
 match l with
 |[.one (.sl A e n)]=>bY (qaf e tB&&Fn.okL A n) (T A)
 |[.one (.raw (.slice _ n _))]=>bY (qaf n 0) (T [])
 |_=>.fail
theorem aiA {f:FuncId}{T:List Value→Tree cO}(JL:∀ A r,allB A=true→(T A).run=some r→∀ p∈r.rows,flatAll p.1=true)
  (hS:∀ A m,allB A=true→m+1=A.length→A.length≤4096→∃ (K:KP) (C:Cfg),K.L≤100000∧O9 K C∧uG K C∧(∀ lo:Lo,@dS lo C Tryz.prog)∧(runK K C 40).1 f (bH [aS A tB (qac m)]) (aP [aS A tB (qac m)]) (dJ Tryz.prog)=(T A).run)
  (hE:(runK KM C7 40).1 f (bH [aS [] tB 0]) (aP [aS [] tB 0]) (dJ Tryz.prog)=(T []).run) (hN:∀ c,(runK KM C7 40).1 f (bH [aV (.slice none 0 c)]) (aP [aV (.slice none 0 c)]) (dJ Tryz.prog)=(T []).run)
  (hD:(runK KM C7 40).1 f (bH [aV dB]) (aP [aV dB]) (dJ Tryz.prog)=(T []).run):aag Tryz.prog f (rdG T):=by
 intro comps r kE hr
 unfold rdG at hr
 split at hr
 ·rename_i A e n
  obtain ⟨hg,h2⟩:=aJ hr
  simp only [qae] at hg
  obtain ⟨g1,g2⟩:=hg
  have g1:e=tB:=qab g1
  subst g1
  obtain ⟨k1,k2,k3⟩:=SQ g2
  rw [aU] at k2
  cases n with
  |succ m=>
   obtain ⟨K,C,q1,q2,q3,q4,q5⟩:=hS A m k1 k2 (by omega)
   exact ⟨C,40,q4,JL A r k1 h2,bT q1 q2 q3 (q5.trans h2)⟩
  |zero=>
   have:A=[]:=List.length_eq_zero_iff.1 k2.symm
   subst this
   exact ⟨C7,40,fun lo=>@Rw lo,JL [] r rfl h2,bT (K:=KM) (by decide) bI aY (hE.trans h2)⟩
 ·rename_i a n c
  obtain ⟨hg,h2⟩:=aJ hr
  have hg:n=0:=qab hg
  subst hg
  have hf:oU (.slice a 0 c)=true:=kE (.one (.raw (.slice a 0 c))) qah
  rcases nT hf with rfl|e
  ·exact ⟨C7,40,fun lo=>@Rw lo,JL [] r rfl h2,bT (K:=KM) (by decide) bI aY ((hN c).trans h2)⟩
  ·refine ⟨C7,40,fun lo=>@Rw lo,JL [] r rfl h2,bT (K:=KM) (by decide) bI aY ?_⟩
   rw [e]
   exact hD.trans h2
 ·cases hr
theorem aaB (A:List Value)(r:cO)(_:allB A=true)(h:(X3 A).run=some r):∀ p∈r.rows,flatAll p.1=true:=by
 rw [PL] at h
 cases h
 intro p hp
 cases hp
theorem Z7:∀ ns:List Nat,flatAll (wL ns)=true
 |[]=>rfl
 |n::ns=>Z7 ns
theorem adD (A:List Value)(r:cO)(_:allB A=true)(h:(Tn A).run=some r):∀ p∈r.rows,flatAll p.1=true:=by
 have h:sel (Fn.gTo A) (sel (Fn.gZ A) (some (atb (Fn.vY A))) (some (ap4 (Fn.vY A) (Fn.gLn A) (Fn.gWw A)))) (some (auz (qac (Fn.gTe A)) (Fn.gTa A)))=some r:=h
 rw [aG,aG] at h
 split at h
 ·split at h
  ·cases h;intro p hp;cases hp
  ·cases h
   intro p hp
   obtain rfl:p=(Fn.gWw A,tW):=by simpa [ap4] using hp
   exact Z7 _
 ·cases h;intro p hp;cases hp
theorem akq {A:List Value}(hX:allB A=true):∃ k:Nat,(k=1∨k=2∨k=3∨k=4∨k=5∨k=6∨k=7∨k=8∨k=9∨k=10)∧(Fn.rF A 1 10 0=0→Fn.rN A 1 10 0=k):=by
 by_cases h:Fn.rF A 1 10 0=0
 ·obtain ⟨h1,h2,_⟩:=xX hX (CG h)
  exact ⟨Fn.rN A 1 10 0,by omega,fun _=>rfl⟩
 ·exact ⟨8,by omega,fun e=>absurd e h⟩
theorem arW:aag Tryz.prog 14 (rdG X3):=by
 refine aiA aaB (fun A m hX hn hb=>?_) (by kernel_rfl) (fun c=>by kernel_rfl) (by kernel_rfl)
 obtain ⟨k,hk,hv⟩:=akq hX
 refine ⟨KPk k,C7,(show (12:Nat)≤100000 by decide),bI,aY,fun lo=>@Rw lo,?_⟩
 rw [PL]
 rcases hk with rfl|rfl|rfl|rfl|rfl|rfl|rfl|rfl|rfl|rfl
 ·exact apU hX hn hb hv
 ·exact aqf hX hn hb hv
 ·exact apt hX hn hb hv
 ·exact aof hX hn hb hv
 ·exact apT hX hn hb hv
 ·exact anQ hX hn hb hv
 ·exact aoo hX hn hb hv
 ·exact ao3 hX hn hb hv
 ·exact aoJ hX hn hb hv
 ·exact akU hX hn hb hv
theorem aq6:aag Tryz.prog 16 (rdG Tn):=by
 refine aiA adD (fun A m hX hn hb=>?_) (by kernel_rfl) (fun c=>by kernel_rfl) (by kernel_rfl)
 exact ⟨KM,C8,by decide,bI,aY,fun lo=>@avf lo,(ata hX hn hb).1⟩
variable [Lo]
end
end Go.Ax
namespace Go.Ax
open Go Go.Proofs
noncomputable section
theorem told {f:FuncId}{G G':List fM→Tree cO}(h:aag Tryz.prog f G)(ht:∀ l r,(G' l).run=some r→(G l).run=some r):aag Tryz.prog f G':=fun comps r hf hr=>h comps r hf (ht comps r hr)
theorem U9 {R:Type}{b:Bool}{t t':Tree R}{r:R}(ht:t.run=some r→t'.run=some r)(h:(bY b t).run=some r):(bY b t').run=some r:=by
 obtain ⟨rfl,h2⟩:=aJ h
 exact ht h2
namespace Fn
def r0 (X:List Value):Nat:=sel (qTo X) (q0 X) 0
def r1 (X:List Value):Nat:=sel (qTo X) (q1 X) 0
def r2 (X:List Value):Nat:=sel (qTo X) (q2 X) 0
def r3 (X:List Value):Nat:=sel (qTo X) (q3 X) 0
def r4 (X:List Value):Nat:=sel (qTo X) (q4 X) 0
def rE (X:List Value):Nat:=sel (qTo X) 0 (qac (qTe X))
def rA (X:List Value):Nat:=sel (qTo X) 0 (qTa X)
def acU (X:List Value):Bool:=sel (gTo X) (sel (gZ X) false true) false
def gE (X:List Value):Nat:=sel (gTo X) (vY X) 0
def gFe (X:List Value):Nat:=sel (gTo X) 0 (qac (gTe X))
def gFa (X:List Value):Nat:=sel (gTo X) 0 (gTa X)
end Fn
def aqc (X:List Value):Tree cO:=.leaf ⟨[.agg [.flat (iN (Fn.r0 X)),.flat (iN (Fn.r1 X)),.flat (iN (Fn.r2 X)),.flat (iN (Fn.r3 X)),.flat (iN (Fn.r4 X))],.agg [.flat (iN (Fn.rE X)),.flat (iN (Fn.rA X))]],[]⟩
theorem ak2 (A:List Value)(r:cO)(h:(aqc A).run=some r):(X3 A).run=some r:=by
 rw [←h]
 unfold X3 aqc Fn.r0 Fn.r1 Fn.r2 Fn.r3 Fn.r4 Fn.rE Fn.rA
 show sel (Fn.qTo A) _ _=_
 cases Fn.qTo A <;> rfl
def av4 (X:List Value):cO:=⟨[.agg [.flat (iN (Fn.gE X)),.flat (.slice none 0 0)],.agg [.flat (iN (Fn.gFe X)),.flat (iN (Fn.gFa X))]],[]⟩
theorem aoB (A:List Value)(r:cO)(h:(Tree.test (Fn.acU A) (.leaf (ap4 (Fn.vY A) (Fn.gLn A) (Fn.gWw A))) (.leaf (av4 A))).run=some r):(Tn A).run=some r:=by
 rw [←h]
 unfold Tn av4 Fn.acU Fn.gE Fn.gFe Fn.gFa
 show sel (Fn.gTo A) (sel (Fn.gZ A) _ _) _=sel (sel (Fn.gTo A) (sel (Fn.gZ A) false true) false) _ _
 cases Fn.gTo A <;> cases Fn.gZ A <;> rfl
def ayB (X:List Value):Tree cO:=.test (Fn.acU X) (.leaf (ap4 (Fn.vY X) (Fn.gLn X) (Fn.gWw X))) (.leaf (av4 X))
theorem amx {T T':List Value→Tree cO}(hT:∀ A r,(T' A).run=some r→(T A).run=some r)(l:List fM)(r:cO)(h:(rdG T' l).run=some r):(rdG T l).run=some r:=by
 unfold rdG at h
 split at h
 ·exact U9 (fun h=>hT _ _ h) h
 ·exact U9 (fun h=>hT _ _ h) h
 ·cases h
variable [Lo]
def qA (k a v c h:Int):fM:=.agg [.raw (.int .i64 k),.raw (.int .i64 a),.raw (.int .i64 v),.raw (.int .i64 c),.raw (.int .i64 h)]
def nA (e:Int)(c:je):fM:=.agg [.raw (.int .i64 e),c]
end
end Go.Ax
namespace Go.Ax
open Go Go.Proofs
noncomputable section
theorem iK {α:Type}{c:Bool}{x y r:α}(h:c=true)(hx:x=r):sel c x y=r:=by rw [h];exact hx
theorem Y1 {α:Type}{c:Bool}{x y r:α}(h:c=false)(hy:y=r):sel c x y=r:=by rw [h];exact hy
theorem ajO {a b:Bool}(ha:a=true)(hb:b=true):(true&&(true&&(a&&b)))=true:=by rw [ha,hb];rfl
theorem and1 {a:Bool}(ha:a=true):(true&&a)=true:=by rw [ha];rfl
theorem avT {a:Bool}(ha:a=true):(!a)=false:=by rw [ha];rfl
theorem aa7 {α:Type}(l:List α):bJ 0 l=l:=rfl
theorem aeR:∀ ns:List Nat,ns.length≤(iD ns).length
 |[]=>qaw _
 |v::ns=>by
  have h1:=(vC v).1
  have h2:=aeR ns
  show ns.length+1≤(Fn.eu v++iD ns).length
  rw [aU] at h1
  rw [qaj]
  omega
theorem aeX:∀ {ns:List Nat},(∀ v∈ns,v<18446744073709551616)→CS (wL ns)=true
 |[],_=>rfl
 |v::ns,h=>by
  show sel (isW (uN v)) (CS (wL ns)) false=true
  rw [aeX fun x hx=>h x (qam _ hx)]
  have:isW (uN v)=true:=by
   show qat _ _=true
   have:=h v qah
   exact Nat.ble_eq_true_of_le (by omega)
  rw [this]
  rfl
theorem Va:∀ ns:List Nat,bC (wL ns)=ns
 |[]=>rfl
 |v::ns=>by
  show nv (uN v)::bC (wL ns)=_
  rw [Va ns]
  rfl
theorem aec {n:Nat}{W:List Value}(hn:n=W.length)(hW:flatAll W=true):(true&&(true&&((n.mul 1).beq (aQ W)&&flatAll W)))=true:=ajO (jG (by rw [aU,hn];exact qaz _)) hW
theorem Pv {a b:Nat}(h:ltI (qaa a) (qaa b)=false):b≤a:=by
 by_cases e:b≤a
 ·exact e
 ·rw [YD (by omega)] at h
  cases h
theorem abx {W:List Value}{n:Nat}(hW:CS W=true)(hn:n=W.length)(h:n≤400):Fn.okW W n=true:=by
 unfold Fn.okW
 rw [hW,jG (by rw [aU];exact hn),gU h]
 rfl
theorem ahg {B:List Value}{n:Nat}(hB:allB B=true)(hn:n=B.length)(h:n≤4096):Fn.okL B n=true:=by
 unfold Fn.okL
 rw [hB,jG (by rw [aU];exact hn),gU h]
 rfl
theorem f_q {k a v c h:Int}:(true&&(true&&(((Fn.qLn k a v c h).succ.mul 1).beq (aQ (Fn.qL k a v c h))&&flatAll (Fn.qL k a v c h))))=true:=by
 refine ajO (jG ?_) (afR k a v c h)
 have:=ae5 k a v c h
 show (aQ (Fn.qL k a v c h)-1+1)*1=_
 omega
theorem axT {k a v c h:Int}:Fn.okL (Fn.qL k a v c h) (Fn.qLn k a v c h).succ=true:=by
 have h1:=ae5 k a v c h
 have h2:aQ (Fn.qL k a v c h)≤4096:=by
  rw [aU]
  have:=Aa (k.toNat::qVs k a v c h)
  have h3:(qVs k a v c h).length≤3:=by
   unfold qVs
   repeat' split
   all_goals simp
  simp only [qaq] at this
  show (iD _).length≤_
  omega
 unfold Fn.okL
 rw [show allB (Fn.qL k a v c h)=true from mV _,jG (show (Fn.qLn k a v c h).succ=aQ (Fn.qL k a v c h) by unfold Fn.qLn;omega),gU (show (Fn.qLn k a v c h).succ≤4096 by unfold Fn.qLn;omega)]
 rfl
theorem WA {e:Int}{W:List Value}(hW:W.length≤400):allB (Fn.aBy e W)=true∧(Fn.aLn e W).succ=aQ (Fn.aBy e W)∧aQ (Fn.aBy e W)≤4096:=by
 unfold Fn.aLn
 rw [Xf]
 have h1:=agt e.toNat (bC W)
 refine ⟨mV _,by omega,?_⟩
 have h2:=Aa (e.toNat::(if e.toNat=0 then (bC W).length::bC W else []))
 have h3:(bC W).length=W.length:=by unfold bC;simp
 rw [aU]
 show (iD _).length≤_
 refine qaA h2 ?_
 split <;> simp only [qaq,List.length_nil] <;> omega
theorem f_a {e:Int}{W:List Value}(hW:W.length≤400):(true&&(true&&(((Fn.aLn e W).succ.mul 1).beq (aQ (Fn.aBy e W))&&flatAll (Fn.aBy e W))))=true:=by
 obtain ⟨h1,h2,h3⟩:=WA (e:=e) hW
 exact ajO (jG (by rw [h2];exact qaz _)) (jJ h1)
theorem aqz {e:Int}{W:List Value}(hW:W.length≤400):Fn.okL (Fn.aBy e W) (Fn.aLn e W).succ=true:=by
 obtain ⟨h1,h2,h3⟩:=WA (e:=e) hW
 unfold Fn.okL
 rw [h1,jG h2,gU (by omega)]
 rfl
theorem V7 {B:List Value}(hB:allB B=true)(hb:B.length≤400):(Fn.gNs B).length≤400∧∀ v∈Fn.gNs B,v<18446744073709551616:=by
 by_cases h:(Fn.gT B).1=0
 ·obtain ⟨h1,h2,h3⟩:=Wn hB h
  refine ⟨?_,h3⟩
  rw [←h2] at hb
  by_cases hz:Fn.vY B=0
  ·have e:Fn.aL (Fn.vY B) (Fn.gNs B)=iD (0::(Fn.gNs B).length::Fn.gNs B):=by unfold Fn.aL;rw [hz];rfl
   rw [e] at hb
   have:=aeR (0::(Fn.gNs B).length::Fn.gNs B)
   simp only [qaq] at this
   omega
  ·have:Fn.gNs B=[]:=by
    by_cases hn:Fn.gNs B=[]
    ·exact hn
    ·exfalso
     unfold Fn.aE at h1
     split at h1
     ·cases h1
     ·rw [if_pos ⟨by simpa using hz,hn⟩] at h1
      cases h1
   rw [this]
   exact qar _
 ·unfold Fn.gNs
  rw [if_neg h]
  exact ⟨qar _,fun v hv=>by cases hv⟩
theorem f_g {B:List Value}:(true&&(true&&(((Fn.gLn B).mul 1).beq (aQ (Fn.gWw B))&&flatAll (Fn.gWw B))))=true:=by
 refine ajO (jG ?_) (Z7 _)
 unfold Fn.gWw
 rw [rU]
 exact qaz _
theorem awU {B:List Value}(hB:allB B=true)(hb:B.length≤400):Fn.okW (Fn.gWw B) (Fn.gLn B)=true:=by
 obtain ⟨h1,h2⟩:=V7 hB hb
 unfold Fn.okW Fn.gWw
 rw [aeX h2,rU,jG (show Fn.gLn B=(Fn.gNs B).length from rfl),gU (show Fn.gLn B≤400 from h1)]
 rfl
end
end Go.Ax
